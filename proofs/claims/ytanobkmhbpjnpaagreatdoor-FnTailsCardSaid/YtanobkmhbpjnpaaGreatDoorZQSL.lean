/- Steps. No condition. -/
import Derived.Test.YtanobkmhbpjnpaaGreatDoorZQRC4
set_option linter.all false
set_option maxRecDepth 8000
set_option maxHeartbeats 8000000
namespace Go.Proofs.YtanobkmhbpjnpaaGreatDoor
open Go.Aw Proofs.Tryz List IntKind
def KY[aG prog](p:aF)(s:bE)(hs:p.log.length<=1099511627776):Ob prog 74 [.rF (.agg (aH .own p)),.view (.str s)] (.agg (aH .own {p with log:=mO p.log s})):=by
 by_cases h:p.log.length<40
 .have hi:(p.log.length:Int)<40:=by omega
  obtain⟨l1,hl1⟩:∃l,l=p.log++[s]:=⟨_,rfl⟩;have hap:p.log.map eD++[[.str s]]=l1.map eD:=by rw[hl1];simp
  have e:mO p.log s=l1:=by unfold mO;rw[eM h,hl1]
  rw[e];clear e hl1;refine uQ aK func74 ntmps74 ?_;have W:=aA hi (aA hap hs);refine we ?_;all_goals (try exact nL (by simp[jF,fK,fH,rowOf,results74];done))
 .have hi:¬(p.log.length:Int)<40:=by omega
  have e:mO p.log s=p.log:=by unfold mO;rw[eC h]
  rw[e];clear e;refine uQ aK func74 ntmps74 ?_;have W:=hi;refine we ?_;all_goals (try exact nL (by simp[jF,fK,fH,rowOf,results74];done))
def aO2(v:Int):(0<=v/\v.tmod 2147483647=v%2147483647)\/(v<0/\∃r,v.tmod 2147483647= -r/\0<=r/\r<2147483647/\(r=0->v%2147483647=0)/\(r≠0->v%2147483647=2147483647-r)):=by
 by_cases h:0<=v
 .exact .inl ⟨h,sY h⟩
 .right;obtain⟨u,hu⟩:∃u:Nat,v= -(u:Int):=⟨v.natAbs,by omega⟩;subst hu;refine⟨by omega,((u%2147483647:Nat):Int),by rw[Int.neg_tmod];rfl,by omega,by omega,by omega,by omega⟩
def V3[aG prog](v:Int)(h:K6 v):Ok prog 271 [.int .i64 v,.int .i64 2147483647] (.int .i64 (v%2147483647)):=by
 have c1:=jG 2147483647 1 1000000000000;rw[show(decide ((1:Int)<=2147483647)&&decide ((2147483647:Int)<=1000000000000))=true by decide]at c1;obtain⟨h1,h2⟩:=h;rcases aO2 v with⟨h0,hm⟩|⟨h0,r,hm,hr0,hr1,hz,hnz⟩
 .have Qm:(v%2147483647+2147483647).tmod 2147483647=v%2147483647:=by rw[sY (by omega)];omega
  have hb1:0<=v%2147483647:=by omega
  have hb2:v%2147483647<2147483647:=by omega
  generalize v%2147483647=m at*;refine dN aK func271 ntmps271 ?_;have W:=aA hm Qm;refine wl ?_;exact aO results271
 .have Qm:(-r+2147483647).tmod 2147483647=v%2147483647:=by
   rw[sY (by omega)];by_cases e:r=0
   .rw [hz e,e];rfl
   .rw [hnz e];omega
  generalize v%2147483647=m at*;refine dN aK func271 ntmps271 ?_;have W:=aA hm Qm;refine wl ?_;exact aO results271
def V4[aG prog](v:Int)(h:K6 v):Ok prog 268 [.int .i64 v,.int .i64 2147483647] (.int .i64 (v%2147483647)):=by
 have c1:=mM 2147483647 1 1000000000000;rw[show(decide ((1:Int)<=2147483647)&&decide ((2147483647:Int)<=1000000000000))=true by decide]at c1;obtain⟨h1,h2⟩:=h;rcases aO2 v with⟨h0,hm⟩|⟨h0,r,hm,hr0,hr1,hz,hnz⟩
 .have hb1:0<=v%2147483647:=by omega
  have hb2:v%2147483647<2147483647:=by omega
  generalize v%2147483647=m at*;refine dN aK func268 ntmps268 ?_;have W:=hm;refine wl ?_;exact aO results268
 .by_cases e:r=0
  .have hz:=hz e;subst e;rw[hz];refine dN aK func268 ntmps268 ?_;have W:=hm;refine wl ?_;all_goals try(refine bA ?_;simp[bB,results268])
   all_goals rfl
  .have hnz:=hnz e;rw[hnz];have bCu: -r<0:=by omega
   refine dN aK func268 ntmps268 ?_;have W:=hm;refine wl ?_;all_goals try(refine bA ?_;simp[bB,results268])
   all_goals omega
def BC(acc v:Int):Int:=(acc*1000003+v%2147483647+13)%2147483647
def xE(l:List Int):Int:=l.foldl BC 11
def Qn:∀(l:List Int),0<=xE l/\xE l<2147483647:=by
 have:∀(l:List Int) (a:Int),0<=a/\a<2147483647->0<=l.foldl BC a/\l.foldl BC a<2147483647:=by
  intro l;induction l with
  |nil=>intro a h;exact h
  |cons x l ih=>intro a h;exact ih _ (by unfold BC;omega)
 intro l;exact this l 11 (by omega)
def UA(l:List Int)(k:Nat)(h:k<l.length):xE (l.take (k+1))=BC (xE (l.take k)) l[k]:=by unfold xE;rw[fN h,DQ];rfl
def rf[aG prog](l:List Int)(hl:l.length<=1099511627776)(hr:∀y∈l,K6 y):Ok prog 252 [.sl .view 1 (l.map nM)] (.int .i64 (xE l)):=by
 refine dN aK func252 ntmps252 ?_;refine bZ ?_;refine aT (ι:={k:Nat // k<=l.length}) (λt o i=>⟨bP t [(4,.int .i64 i.1),(3,.int .i64 (xE (l.take i.1)))],o⟩)
  (λi=>l.length-i.1) ⟨0,by simp⟩ (aP (by simp) (by simp[xE])) ?_
 rintro⟨k,hk⟩ K1 hK1;simp only[bP,cH,cQ]at hK1⊢;have hk1:=tQ (k:=k);by_cases hlt:k<l.length
 .have hg:=aE hlt;have hs:=UA l k hlt;have hb:=Qn (l.take k);have c1:=V3 l[k] (hr _ (gR hlt));have hm:(xE (l.take k)*1000003+l[k]%2147483647+13).tmod 2147483647=xE (l.take (k+1)):=by rw[hs,sY (by omega)];rfl
  have hb1:0<=l[k]%2147483647:=by omega
  have hb2:l[k]%2147483647<2147483647:=by omega
  clear hs;generalize yM:xE (l.take (k+1))=a' at*;generalize xE (l.take k)=a at*;generalize l[k]%2147483647=m at*;have W:=aA hk1 (aA hg (aA hlt hm));refine wl ?_;all_goals exact hK1 _ ⟨k+1,by omega⟩ (aP (by simp) (by simp[yM])) (by simp only;omega)
 .have htk:l.take k=l:=eN (by omega);rw[htk];have W:=hk1;refine wl ?_;exact aO results252
def ry[aG prog](l:List Int)(hl:l.length<=1099511627776)(hr:∀y∈l,K6 y):Ok prog 247 [.sl .view 1 (l.map nM)] (.int .i64 (xE l)):=by
 refine dN aK func247 ntmps247 ?_;refine bZ ?_;refine aT (ι:={k:Nat // k<=l.length}) (λt o i=>⟨bP t [(8,.int .i64 i.1),(3,.int .i64 (xE (l.take i.1))),(5,.aB)],o⟩)
  (λi=>l.length-i.1) ⟨0,by simp⟩ (aP (by simp) (by simp[xE])) ?_
 rintro⟨k,hk⟩ K1 hK1;simp only[bP,cH,cQ]at hK1⊢;have hk1:=tQ (k:=k);by_cases hlt:k<l.length
 .have hg:=aE hlt;have hs:=UA l k hlt;have hb:=Qn (l.take k);have c1:=V4 l[k] (hr _ (gR hlt));have hm:(xE (l.take k)*1000003+l[k]%2147483647+13).tmod 2147483647=xE (l.take (k+1)):=by rw[hs,sY (by omega)];rfl
  have hb1:0<=l[k]%2147483647:=by omega
  have hb2:l[k]%2147483647<2147483647:=by omega
  clear hs;generalize yM:xE (l.take (k+1))=a' at*;generalize xE (l.take k)=a at*;generalize l[k]%2147483647=m at*;have W:=aA hk1 (aA hg (aA hlt hm));refine wl ?_;all_goals exact hK1 _ ⟨k+1,by omega⟩ (aP (by simp) (by simp[yM])) (by simp only;omega)
 .have htk:l.take k=l:=eN (by omega);rw[htk];have W:=hk1;refine wl ?_;exact aO results247
def toInts(s:bE):List Int:=zU (λc:UInt8=>(c.toNat:Int)) s
def oN(s:bE):List Int:=(s.length:Int)::toInts s
def Ka(s:bE)(k:Nat)(h:k<s.length):(bL s)[k]? =some [.int .u8 s[k].toNat]:=by simp[bL,h]
def Li[aG prog](s:bE)(hl:s.length<=1099511627776):Ok prog 253 [.sl .view 1 (bL s)] (.sl .own 1 ((oN s).map nM)):=by
 have hbl:=pJ s;refine dN aK func253 ntmps253 ?_;have W:=hbl;refine wl ?_;refine aT (ι:={q:Nat×Nat // q.1<=s.length/\1<=q.2}) (λt o i=>⟨bP t [(3,.obj 0 i.1.2),(4,.int .i64 i.1.1)],o.take 0++[⟨true,false,1,i.1.2,((s.length:Int)::toInts (s.take i.1.1)).map nM⟩]⟩)
  (λi=>s.length-i.1.1) ⟨(0,1),by simp,by first|(simp;done)|(simp only;omega)⟩ (aP (by simp[toInts]) (by simp)) ?_
 rintro⟨⟨k,v⟩,hk,hv⟩ K1 hK1;simp only at hk hv;simp only[bP,cH,cQ,eV,gS,cW,eA]at hK1⊢;have hk1:=tQ (k:=k);by_cases hlt:k<s.length
 .have hg:=Ka s k hlt;have hps:=AJ (λc:UInt8=>(c.toNat:Int)) s k hlt;have hpl:=sW (λc:UInt8=>(c.toNat:Int)) (s.take k);have htl:(s.take k).length=k:=by simp;omega
  have hu:s[k].toNat<256:=DG s[k];have hlb:k<(bL s).length:=by omega
  simp only[toInts]at hK1⊢;generalize zU (λc:UInt8=>(c.toNat:Int)) (s.take k)=g at*;have W:=aA hk1 (aA hg hbl);have V:=aA hk1 (aA hlt hbl);refine wl ?_;all_goals refine hK1 _ ⟨(k+1,v+1),by simp only;omega,by simp only;omega⟩ (aQ 1 (by simp[hps])) (by simp only;omega)
 .have htk:s.take k=s:=eN (by omega);rw[htk];have W:=aA hk1 hbl;refine wl ?_;all_goals try(refine bA ?_;simp[bB,results253,oN])
def Lj[aG prog](s:bE)(hl:s.length<=1099511627776):Ok prog 248 [.sl .view 1 (bL s)] (.sl .own 1 ((oN s).map nM)):=by
 have hbl:=pJ s;refine dN aK func248 ntmps248 ?_;have W:=hbl;refine wl ?_;refine aT (ι:={q:Nat×Nat // q.1<=s.length/\1<=q.2}) (λt o i=>⟨bP t [(3,.obj 0 i.1.2),(11,.int .i64 i.1.1),(5,.aB)],o.take 0++[⟨true,false,1,i.1.2,((s.length:Int)::toInts (s.take i.1.1)).map nM⟩]⟩)
  (λi=>s.length-i.1.1) ⟨(0,1),by simp,by first|(simp;done)|(simp only;omega)⟩ (aP (by simp[toInts]) (by simp)) ?_
 rintro⟨⟨k,v⟩,hk,hv⟩ K1 hK1;simp only at hk hv;simp only[bP,cH,cQ,eV,gS,cW,eA]at hK1⊢;have hk1:=tQ (k:=k);by_cases hlt:k<s.length
 .have hg:=Ka s k hlt;have hps:=AJ (λc:UInt8=>(c.toNat:Int)) s k hlt;have hpl:=sW (λc:UInt8=>(c.toNat:Int)) (s.take k);have htl:(s.take k).length=k:=by simp;omega
  have hu:s[k].toNat<256:=DG s[k];have hlb:k<(bL s).length:=by omega
  simp only[toInts]at hK1⊢;generalize zU (λc:UInt8=>(c.toNat:Int)) (s.take k)=g at*;have W:=aA hk1 (aA hg hbl);have V:=aA hk1 (aA hlt hbl);refine wl ?_;all_goals refine hK1 _ ⟨(k+1,v+1),by simp only;omega,by simp only;omega⟩ (aQ 1 (by simp[hps])) (by simp only;omega)
 .have htk:s.take k=s:=eN (by omega);rw[htk];have W:=aA hk1 hbl;refine wl ?_;all_goals try(refine bA ?_;simp[bB,results248,oN])
def zK:List (Nat×Nat):=[(3,24),(4,25),(5,26),(6,27),(7,28),(8,29),(9,30),(10,31),(11,32),(12,33),(13,34)]
def aDl{t t':List AV}{o o':List aI}{l1 l2 l3 l4 l5 l6 l7 l8 l9 l10 l11:Bool}{u n1 v1 n2 v2 n3 v3 n4 v4 n5 v5 n6 v6 n7 v7 n8 v8 n9 v9 n10 v10 n11 v11:Nat}{e1 e2 e3 e4 e5 e6 e7 e8 e9 e10 e11:List (List AV)}{o0 o1 o2 m0 m1 m2 m3 m4 m5 m6 m7 m8:aI}{q:aF}(ho:o=[o0,o1,o2,⟨l1,false,n1,v1,e1⟩,⟨l2,false,n2,v2,e2⟩,⟨l3,false,n3,v3,e3⟩,⟨l4,false,n4,v4,e4⟩,⟨l5,false,n5,v5,e5⟩,⟨l6,false,n6,v6,e6⟩,⟨l7,false,n7,v7,e7⟩,⟨l8,false,n8,v8,e8⟩,⟨l9,false,n9,v9,e9⟩,⟨l10,false,n10,v10,e10⟩,⟨l11,false,n11,v11,e11⟩,⟨true,true,22,u,[Fj 24 q]⟩,m0,m1,m2,m3,m4,m5,m6,m7,m8]++Fh q)
  (ho':o'=[o0,o1,o2]++Fh q++[⟨true,true,22,u,[Fj 3 q]⟩,m0,m1,m2,m3,m4,m5,m6,m7,m8]) (ht:∀z∈zK,wk (uG z.1 z.2 t') t') (hf:∀z∈zK,o0.oM z.1 z.2=o0/\o1.oM z.1 z.2=o1/\o2.oM z.1 z.2=o2/\m0.oM z.1 z.2=m0/\m1.oM z.1 z.2=m1/\m2.oM z.1 z.2=m2/\m3.oM z.1 z.2=m3/\m4.oM z.1 z.2=m4/\m5.oM z.1 z.2=m5/\m6.oM z.1 z.2=m6/\m7.oM z.1 z.2=m7/\m8.oM z.1 z.2=m8) (hw:wk t t') (hc:iK 24 t'=true) (hc0:eU 24 [o0,o1,o2,m0,m1,m2,m3,m4,m5,m6,m7,m8]=true):mZ ⟨t,o⟩ ⟨t',o'⟩:=by
 subst ho;subst ho';have e:=λi j (h:(i,j)∈zK)=>hf (i,j) h
 have h:=λi j (h:(i,j)∈zK)=>ht (i,j) h
 simp only[Fh,Fj,cW,eA];refine(zS hw).trans ?_;refine(bI 3 24 rfl rfl ⟨rfl,rfl⟩ (by simp[(e 3 24 (by decide))];rfl) (h 3 24 (by decide))).trans ?_;refine(bI 4 25 rfl rfl ⟨rfl,rfl⟩ (by simp[(e 4 25 (by decide))];rfl) (h 4 25 (by decide))).trans ?_;refine(bI 5 26 rfl rfl ⟨rfl,rfl⟩ (by simp[(e 5 26 (by decide))];rfl) (h 5 26 (by decide))).trans ?_;refine(bI 6 27 rfl rfl ⟨rfl,rfl⟩ (by simp[(e 6 27 (by decide))];rfl) (h 6 27 (by decide))).trans ?_;refine(bI 7 28 rfl rfl ⟨rfl,rfl⟩ (by simp[(e 7 28 (by decide))];rfl) (h 7 28 (by decide))).trans ?_;refine(bI 8 29 rfl rfl ⟨rfl,rfl⟩ (by simp[(e 8 29 (by decide))];rfl) (h 8 29 (by decide))).trans ?_;refine(bI 9 30 rfl rfl ⟨rfl,rfl⟩ (by simp[(e 9 30 (by decide))];rfl) (h 9 30 (by decide))).trans ?_;refine(bI 10 31 rfl rfl ⟨rfl,rfl⟩ (by simp[(e 10 31 (by decide))];rfl) (h 10 31 (by decide))).trans ?_;refine(bI 11 32 rfl rfl ⟨rfl,rfl⟩ (by simp[(e 11 32 (by decide))];rfl) (h 11 32 (by decide))).trans ?_;refine(bI 12 33 rfl rfl ⟨rfl,rfl⟩ (by simp[(e 12 33 (by decide))];rfl) (h 12 33 (by decide))).trans ?_;refine(bI 13 34 rfl rfl ⟨rfl,rfl⟩ (by simp[(e 13 34 (by decide))];rfl) (h 13 34 (by decide))).trans ?_;refine aQ 24 (by simp) (oH _) hc ?_;simpa [eU,iK,closed,GP]using hc0
def aIx{t t':List AV}{o o' o1 o2:List aI}{a b c d e:aI}(i1 j1 i2 j2 x:Nat)(h5:o[i1]? =some a)(h14:o[j1]? =some b)(hb:a.box=false/\b.box=false)(e1:((o.set i1 b).set j1 a).map (aI.oM i1 j1)=o1)(h6:o1[i2]? =some c)(h15:o1[j2]? =some d)(hd:c.box=false/\d.box=false)(e2:((o1.set i2 d).set j2 c).map (aI.oM i2 j2)=o2)(h12:o2[x]? =some e)(e3:o2.set x ⟨false,false,0,e.bY,[]⟩=o')(w1:wk (uG i1 j1 t) t')(w2:wk (uG i2 j2 t') t'):mZ ⟨t,o⟩ ⟨t',o'⟩:=
 (bI i1 j1 h5 h14 hb e1 w1).trans ((bI i2 j2 h6 h15 hd e2 w2).trans (XD x h12 e3 (oH _)))
def Y8[aG prog](l:List gP)(hs:dS eF l<=274877906944):Ok prog 193 [.sl .view 2 (l.map (dP .view))] (.sl .own 2 (l.map (dP .own))):=by
 simp only[dS]at hs;refine dN aK func193 ntmps193 ?_;refine bK ?_;refine aT (ι:={q:Nat×Nat // q.1<=l.length/\1<=q.2}) (λt o i=>⟨bP t [(3,.obj 0 i.1.2),(4,.int .i64 i.1.1)],o.take 0++[⟨true,false,2,i.1.2,(l.take i.1.1).map (dP .own)⟩]⟩)
  (λi=>l.length-i.1.1) ⟨(0,1),by simp,by first|(simp;done)|(simp only;omega)⟩ aP ?_
 rintro⟨⟨k,v⟩,hk,hv⟩ K1 hK1;simp only at hk hv;simp only[bP,cH,cQ,eV,gS,cW,eA]at hK1⊢;have hk1:=tQ (k:=k);by_cases hlt:k<l.length
 .have hg:=aE hlt;have hps:=HY (dP .own) l k hlt;have hz:=iU eF l k hlt;simp only[eF,dS]at hz;have hgl:((l.take k).map (dP .own)).length=k:=by simp;omega
  generalize (l.take k).map (dP .own)=g at*;have W:=aA hk1 (aA hg (aA hlt hgl));refine we ?_;all_goals refine hK1 _ ⟨(k+1,v+1),by simp only;omega,by simp only;omega⟩ (aQ 1 (by simp[hps])) (by simp only;omega)
 .have htk:l.take k=l:=eN (by omega);rw[htk];have W:=hk1;refine we ?_;exact aO results193
end Go.Proofs.YtanobkmhbpjnpaaGreatDoor
namespace Go.Aw
open List
def Env.noL(E:Env)(i:Nat):Env:={E with L:=λj bY idx off v=>j≠i/\E.L j bY idx off v}
mutual
def nop(i:Nat):AV->Bool
 | .ptr j _ _ _=>decide (j≠i)
 | .agg c=>LA i c
 | .iL c=>LA i c
 | .fn _ c=>LA i c
 |_=>true
def LA(i:Nat):List AV->Bool
 |[]=>true
 |x::xs=>nop i x&&LA i xs
end
attribute [simp] nop LA
mutual
theorem aO4{w:World}{E:Env}{i:Nat}:∀(x:AV) (v:Value) (fp:List Nat),nop i x=true->R w E x v fp->R w (E.noL i) x v fp
 | .int _ _,_,_,_,h=>by simpa [R]using h
 | .bool _,_,_,_,h=>by simpa [R]using h
 | .str _,_,_,_,h=>by simpa [R]using h
 | .sl g _ _,_,_,_,h=>by simp only[R]at h⊢;cases g<;>exact h
 | .iW g _ _,_,_,_,h=>by simp only[R]at h⊢;cases g<;>exact h
 | .obj _ _,_,_,_,h=>by simp only[R]at h⊢;exact h
 | .ptr j _ _ _,_,_,hc,h=>by simp only[R]at h⊢;exact⟨h.1,by simpa using hc,h.2⟩
 | .agg c,v,fp,hc,h=>by simp only[R]at h⊢;obtain⟨cs,h1,h2,h3⟩:=h;exact⟨cs,h1,h2,Ve c cs fp (by simpa using hc) h3⟩
 | .iL c,v,fp,hc,h=>by simp only[R]at h⊢;obtain⟨cs,h1,h3⟩:=h;exact⟨cs,h1,Ve c cs fp (by simpa using hc) h3⟩
 | .fn f c,v,fp,hc,h=>by simp only[R]at h⊢;obtain⟨h0,cs,h1,h3⟩:=h;exact⟨h0,cs,h1,Ve c cs [] (by simpa using hc) h3⟩
 | .aB,_,_,_,h=>by simpa [R]using h
theorem Ve{w:World}{E:Env}{i:Nat}:∀(c:List AV) (cs:List Value) (fp:List Nat),LA i c=true->Rc w E c cs fp->Rc w (E.noL i) c cs fp
 |[],[],_,_,h=>by simpa [Rc]using h
 |[],_::_,_,_,h=>by simp[Rc]at h
 |_::_,[],_,_,h=>by simp[Rc]at h
 |x::xs,c::cs,fp,hc,h=>by simp only[Rc]at h⊢;simp only[LA,eK]at hc;obtain⟨f1,f2,h1,h2,h3⟩:=h;exact⟨f1,f2,aO4 x c f1 hc.1 h1,Ve xs cs f2 hc.2 h2,h3⟩
end
def aJf{w:World}{E:Env}{i:Nat}:∀(l:List (List AV)) (b off n:Nat) (fp:List Nat),(l.all λc=>LA i c)=true->Rr w E l b off n fp->Rr w (E.noL i) l b off n fp
 |[],_,_,_,_,_,h=>by simpa [Rr]using h
 |e::es,b,off,n,fp,hc,h=>by simp only[Rr]at h⊢;simp only[Cl,eK]at hc;obtain⟨cs,f1,f2,h1,h2,h3,h4,h5,h6⟩:=h;exact⟨cs,f1,f2,h1,h2,h3,Ve e cs f1 hc.1 h4,aJf es b _ n f2 hc.2 h5,h6⟩
def bmp(i v:Nat):List AV->List AV
 |[]=>[]
 | .obj j u::xs=>(if j=i/\u=v then .obj i (v+3)else .obj j u)::bmp i v xs
 |x::xs=>x::bmp i v xs
attribute [simp] bmp
def aJg{w:World}{E E':Env}{i v:Nat}(k:fG w (E.noL i) w E')(hv:∀x,E.H i v x->E'.H i (v+3) x):∀(t:List AV) (vs:List Value),LA i t=true->Rc w E t vs []->Rc w E' (bmp i v t) vs []
 |[],[],_,h=>by simpa [Rc]using h
 |[],_::_,_,h=>by simp[Rc]at h
 |_::_,[],_,h=>by simp[Rc]at h
 |x::xs,c::cs,hc,h=>by
  simp only[Rc]at h;simp only[LA,eK]at hc;obtain⟨f1,f2,h1,h2,h3⟩:=h;obtain⟨rfl,rfl⟩:=GF.1 h3.symm;have ih:=aJg k hv xs cs hc.2 h2;have h4:=oV k x c [] (by simp) (aO4 x c [] hc.1 h1);have key:∀y,R w E' y c []->Rc w E' (y::bmp i v xs) (c::cs) []:=λy hy=>by simp only[Rc];exact⟨[],[],hy,ih,rfl⟩
  cases x with
  |obj j u=>
   simp only[bmp];split
   .rename_i e;obtain⟨rfl,rfl⟩:=e;refine key _ ?_;simp only[R]at h1⊢;exact⟨trivial,hv _ h1.2⟩
   .exact key _ h4
  |_=>exact key _ h4
def aJh{t:List AV}{o o':List aI}(i:Nat){ob:aI}(ho:o[i]? =some ob)(hl:ob.fT=true)(hb:ob.box=false)(ho':o.set i {ob with box:=true,bY:=ob.bY+3}=o')(ht:LA i t=true)(hall:(o.all λx=> !x.box || x.fM.all λc=>LA i c)=true):mZ ⟨t,o⟩ ⟨bmp i ob.bY t,o'⟩:=by
 subst ho';rintro P _ B a w ⟨G,r⟩;obtain⟨g,hlk⟩:=r.look ho;have hG:G.set i g=G:=by
  apply CA;intro j;rw[GB];split
  .rename_i e;subst e;rw[hlk.2];simp[(cU.1 hlk.2).1]
  .rfl
 generalize uF:({ob with box:=true,bY:=ob.bY+3}:aI)=ob';have e1:ob'.fT=ob.fT:=by rw[<-uF]
 have e2:ob'.n=ob.n:=by rw[<-uF]
 have e3:ob'.bY=ob.bY+3:=by rw[<-uF]
 have e4:ob'.fM=ob.fM:=by rw[<-uF]
 have e5:ob'.box=true:=by rw[<-uF]
 have back:∀{j x y},look (o.set i ob') G j x y->(j=i/\x=ob'/\y=g)\/(j≠i/\look o G j x y):=λh=>by rw[<-hG]at h;exact Bo h
 have fi:look (o.set i ob') G i ob' g:=by
  have:=tK (ob':=ob') (g':=g) hlk
  rwa[hG]at this
 have fo:∀{j x y},j≠i->look o G j x y->look (o.set i ob') G j x y:=λhj h=>by
  have:=Dx (ob':=ob') (g':=g) h hj
  rwa[hG]at this
 have k:fG w ((env B o G w).noL i) w (env B (o.set i ob') G w):=by
  refine⟨λx hx=>⟨⟨hx.1,λj y z hlj hjl hf=> ?_⟩,rfl⟩,λj h x hx=> ?_,λj x hV h=>⟨?_,rfl⟩,λj bY x h=> ?_,λj bY p q x h=> ?_⟩
  .rcases back hlj with⟨rfl,rfl,rfl⟩|⟨_,h⟩
   .exact hx.2 _ _ _ hlk (e1▸hjl) hf
   .exact hx.2 _ _ _ h hjl hf
  .obtain ⟨y,hy⟩:=r.look hx;by_cases hj:j=i
   .subst hj;obtain⟨rfl,rfl⟩:=lT hlk hy;have:=h ob' fi.1
    rwa[e1]at this
   .exact h x (fo hj hy).1
  .obtain ⟨x',y,hlj,hjl,hf,jE⟩:=h;by_cases hj:j=i
   .subst hj;obtain⟨rfl,rfl⟩:=lT hlk hlj;exact⟨ob',g,fi,by rw[e1];exact hjl,hf,jE⟩
   .exact ⟨x',y,fo hj hlj,hjl,hf,jE⟩
  .obtain ⟨x',y,hlj,Ap,hh,hz⟩:=h;by_cases hj:j=i
   .subst hj;obtain⟨rfl,rfl⟩:=lT hlk hlj;exact⟨ob',g,fi,by omega,λ_ e=>by omega,hz⟩
   .exact ⟨x',y,fo hj hlj,Ap,hh,hz⟩
  .obtain ⟨hj,x',y,hlj,Ap,hh,hz⟩:=h;exact⟨x',y,fo hj hlj,Ap,hh,hz⟩
 have hbv:∀x,(env B o G w).H i ob.bY x->(env B (o.set i ob') G w).H i (ob.bY+3) x:=by rintro x ⟨x',y,hlj,Ap,hh,hz⟩;obtain⟨rfl,rfl⟩:=lT hlk hlj;exact⟨ob',g,fi,by omega,λ_ _=>by rw[e4];exact hh hl rfl,λh=>by omega⟩
 refine⟨G,{len:=by simp[r.len],defs:=r.defs,ok:= ?_,fV:= ?_,eB:= ?_,tmps:=aJg k hbv _ _ ht r.tmps,size:=r.size,frame:=r.frame,base:=r.base,same:=r.same}⟩
 .intro j x y hlj hjl;rcases back hlj with⟨rfl,rfl,rfl⟩|⟨hj,h⟩
  .obtain ⟨fp,q1,q2,q3⟩:=r.ok _ _ _ hlk (e1▸hjl);refine⟨fp,?_,q2,q3⟩;simp only[hb,Env.of,cY,eW]at q1;simp only[e5,Env.of,eS,e2,e4];exact q1.keeps (k.plain.trans (Pq w _)) (λ_ _=>rfl)
  .obtain ⟨fp,q1,q2,q3⟩:=r.ok j x y h hjl;refine⟨fp,?_,q2,q3⟩;cases hx:x.box with
   |false=>simp only[hx,Env.of,cY,eW]at q1⊢;exact q1.keeps k.plain (λ_ _=>rfl)
   |true=>
    simp only[hx,Env.of,eS]at q1⊢;have hn:=fW.1 hall _ (nB h.1);simp only[hx,DB,GW]at hn;obtain⟨hl,q1|⟨b,off,C,e,fz,sH,k1,k2,k3,k4,k5,k6,k7,k8⟩⟩:=q1
    .exact ⟨hl,.inl q1⟩
    .exact uH.keeps (E:=(env B o G w).noL i) ⟨hl,.inr ⟨b,off,C,e,fz,sH,k1,k2,k3,k4,k5,k6,k7,aJf _ _ _ _ _ hn k8⟩⟩ k (λ_ _=>rfl)
 .intro j1 j2 x1 x2 y1 y2 z hl1 hl2 v1 v2 hf1 hf2;rcases back hl1 with⟨rfl,rfl,rfl⟩|⟨hj1,h1⟩<;>rcases back hl2 with⟨rfl,rfl,rfl⟩|⟨hj2,h2⟩
  .rfl
  .exact r.fV _ _ _ _ _ _ z hlk h2 (e1▸v1) v2 hf1 hf2
  .exact r.fV _ _ _ _ _ _ z h1 hlk v1 (e1▸v2) hf1 hf2
  .exact r.fV _ _ _ _ _ _ z h1 h2 v1 v2 hf1 hf2
 .intro j x y z hlj hjl hf;rcases back hlj with⟨rfl,rfl,rfl⟩|⟨_,h⟩
  .exact r.eB _ _ _ z hlk (e1▸hjl) hf
  .exact r.eB _ _ _ z h hjl hf
def Ya(i:Nat):List AV->List AV
 |[]=>[]
 |x::xs=>(if nop i x then x else .aB)::Ya i xs
attribute [simp] Ya
def uq(i:Nat):∀t:List AV,wk t (Ya i t)
 |[]=>trivial
 |x::xs=>⟨by split;exact .inl rfl;exact .inr rfl,uq i xs⟩
def Yb(i:Nat):∀t:List AV,LA i (Ya i t)=true
 |[]=>rfl
 |x::xs=>by
  simp only[Ya,LA,Yb i xs,Bool.and_true];split
  .assumption
  .rfl
def go_boxB{P:Program}[aG P](i k c:Nat){id:Nat}{L:List Oper}{Q:Exit->AS->Prop}{t t':List AV}{o o':List aI}{ob:aI}{e:List AV}{m:Nat}{rows:List (List AV)}(ho:o[i]? =some ob)(he:ob.fM[k]? =some e)(hc:e[c]? =some (.sl .own m rows))
  (h:qA P (.region id L.toArray false) ⟨t',o'⟩ Q) (hl:ob.fT=true:=by rfl) (hb:ob.box=false:=by rfl) (hall:(o.all λx=> !x.box || x.fM.all λc=>LA i c&&tV i c)=true:=by simp)
  (hrow:(ob.fM.all λc=>tV i c)=true:=by simp) (ho':o.set i {ob with box:=true,bY:=ob.bY+3,fM:=ob.fM.set k (e.set c (.obj o.length 1))}++[⟨true,false,m,1,rows⟩]=o':=by simp;rfl) (hw:tJ (lV [i]) true (bmp i ob.bY (Ya i t))=t':=by simp;rfl):
  qA P (TT (.region id L.toArray false)) ⟨t,o⟩ Q:=by
 have hlt:=(cU.1 ho).1;refine go_weak (mZ.trans (zS (uq i t)) (mZ.trans (aJh i ho hl hb rfl (Yb i t) ?_) (vM i k c (ob:={ob with box:=true,bY:=ob.bY+3}) (by simp[hlt]) hl rfl ?_ he hc (by simpa using ho') (hw▸oH _)))) h
 .rw [fW]at hall⊢;intro x hx;have:=hall x hx;simp only[sA,AW,fW,eK]at this⊢;exact this.imp (λh=>h) λh r hr=>(h r hr).1
 .rw [fW]at hall⊢;intro x hx;rcases rN hx with hx|rfl
  .have:=hall x hx;simp only[sA,AW,fW,eK]at this⊢;exact this.imp (λh=>h) λh r hr=>(h r hr).2
  .simp only[DB,GW];exact hrow
def go_close{P:Program}[aG P](i J k c:Nat)(R:List (List AV)){id:Nat}{L:List Oper}{Q:Exit->AS->Prop}{t:List AV}{o o':List aI}{ob oj:aI}{e:List AV}{bY:Nat}(ho:o[i]? =some ob)(hj:o[J]? =some oj)
  (he:ob.fM[k]? =some e) (hc:e[c]? =some (.obj J bY)) (hR:ob.fM.set k (e.set c (.sl .own oj.n oj.fM))=R) (hp:((ob.fM.set k (e.set c (.int .i64 0))).all λr=>r.all AV.Av)=true)
  (h:qA P (.region id L.toArray false) ⟨t,o'⟩ Q) (hij:i≠J:=by decide) (hl:ob.fT=true:=by rfl) (hlj:oj.fT=true:=by rfl) (hbj:oj.box=false:=by rfl) (Ap:oj.bY=bY:=by rfl) (hbx:ob.box=true:=by rfl)
  (ho':(o.set J oj.kill).set i {ob with box:=false,fM:=R}=o':=by simp[aI.kill];rfl):qA P (TT (.region id L.toArray false)) ⟨t,o⟩ Q:=
 go_weak (K5 i J k c ho hj hij hl hlj hbj he hc Ap hp hbx (by rw[hR];exact ho') (oH _)) h
end Go.Aw
set_option maxRecDepth 4000
set_option maxHeartbeats 4000000
namespace Go.Proofs.YtanobkmhbpjnpaaGreatDoor
open Go.Aw Proofs.Tryz List IntKind
def Ao(p:aF):aF:=if p.uM=true then p else {p with bT:=p.bT++lD p.tok,tok:=⟨[]⟩,uM:=true}
def ve(t:nN):(lD t).length<=1:=by unfold lD;split<;>simp
def Vk[aG prog](a:aF)(hs:aM a<=274877906):Ok prog 141 [.agg (aH .view a)] (.agg (aH .own (Ao a))):=by
 have c1:=jH a (by omega);simp only[aM,dS,sV]at hs;have c2:=Ic a.tok (by omega);simp only[fU]at c2;have hE:=ve a.tok;simp only[aH]at c1;unfold Ao;generalize lD a.tok=g at*;by_cases he:a.uM=true
 .rw [eM he];simp only[he]at c1;refine dN aK func141 ntmps141 ?_;have W:=he;refine we ?_;all_goals try(refine bA ?_;simp[bB,results141])
  all_goals exact he
 .rw [eC he];replace he:a.uM=false:=by simpa using he
  simp only[he]at c1;refine dN aK func141 ntmps141 ?_;have W:=he;refine we ?_;all_goals try(refine bA ?_;simp[bB,results141])
  all_goals (rw[<-pP];exact sU _)
end Go.Proofs.YtanobkmhbpjnpaaGreatDoor
