/- Proved here: steps towards the statement of this claim. No condition. -/
import Derived.Test.YtfbefblglejcaaaGreatDoorZQRC7
set_option linter.all false
set_option maxRecDepth 8000
set_option maxHeartbeats 8000000
namespace Go.Proofs.YtfbefblglejcaaaGreatDoor
open Go.Aw Proofs.Tryz List IntKind
theorem Sn[aC prog](l:List fU)(hs:bQ eY l<=274877906944):Ok prog 131 [.sl .view 2 (l.map (bY .view))] (.sl .own 2 (l.map (bY .own))):=by
 simp only[bQ]at hs;refine bM aF func131 ntmps131 ?_;refine aY ?_;refine aO (ι:={q:Nat×Nat // q.1<=l.length/\1<=q.2}) (λt o i=>⟨bC t [(3,.obj 0 i.1.2),(9,.int .i64 i.1.1),(5,.undef)],o.take 0++[⟨true,false,2,i.1.2,(l.take i.1.1).map (bY .own)⟩]⟩)
  (λi=>l.length-i.1.1) ⟨(0,1),by simp,by first|(simp;done)|(simp only;omega)⟩ aJ ?_
 rintro⟨⟨k,v⟩,hk,hv⟩ K1 hK1;simp only at hk hv;simp only[bC,cW,cU,eL,fX,eA,eM]at hK1⊢;have hk1:=oQ (k:=k);by_cases hlt:k<l.length
 .have hg:=aE hlt;have hps:=DV (bY .own) l k hlt;have hz:=dK eY l k hlt;simp only[eY,bQ]at hz;have KF:((l.take k).map (bY .own)).length=k:=by simp;omega
  generalize (l.take k).map (bY .own)=g at*;have W:=aA hk1 (aA hg (aA hlt KF));refine we ?_;all_goals refine hK1 _ ⟨(k+1,v+1),by simp only;omega,by simp only;omega⟩ (aV 1 (by simp[hps])) (by simp only;omega)
 .have htk:l.take k=l:=cY (by omega);rw[htk];have W:=hk1;refine we ?_;exact aD results131
theorem xu[aC prog](l:List fU)(hs:bQ eY l<=274877906944):Ok prog 99 [.sl .view 2 (l.map (bY .view))] (.sl .own 2 (l.map (bY .own))):=by
 simp only[bQ]at hs;refine bM aF func99 ntmps99 ?_;refine aY ?_;refine aO (ι:={q:Nat×Nat // q.1<=l.length/\1<=q.2}) (λt o i=>⟨bC t [(3,.obj 0 i.1.2),(4,.int .i64 i.1.1)],o.take 0++[⟨true,false,2,i.1.2,(l.take i.1.1).map (bY .own)⟩]⟩)
  (λi=>l.length-i.1.1) ⟨(0,1),by simp,by first|(simp;done)|(simp only;omega)⟩ aJ ?_
 rintro⟨⟨k,v⟩,hk,hv⟩ K1 hK1;simp only at hk hv;simp only[bC,cW,cU,eL,fX,eA,eM]at hK1⊢;have hk1:=oQ (k:=k);by_cases hlt:k<l.length
 .have hg:=aE hlt;have hps:=DV (bY .own) l k hlt;have hz:=dK eY l k hlt;simp only[eY,bQ]at hz;have KF:((l.take k).map (bY .own)).length=k:=by simp;omega
  generalize (l.take k).map (bY .own)=g at*;have W:=aA hk1 (aA hg (aA hlt KF));refine we ?_;all_goals refine hK1 _ ⟨(k+1,v+1),by simp only;omega,by simp only;omega⟩ (aV 1 (by simp[hps])) (by simp only;omega)
 .have htk:l.take k=l:=cY (by omega);rw[htk];have W:=hk1;refine we ?_;exact aD results99
theorem Lj[aC prog](c:oV)(hs:nP c<=274877906944):Ok prog 132 [.agg (gU .view c)] (.agg (gU .own c)):=by simp only[nP,bQ]at hs;refine bM aF func132 ntmps132 ?_;refine aY ?_;exact aD results132
theorem Sq[aC prog](c:oV)(hs:nP c<=274877906944):Ok prog 100 [.agg (gU .view c)] (.agg (gU .own c)):=by simp only[nP,bQ]at hs;refine bM aF func100 ntmps100 ?_;refine aY ?_;exact aD results100
theorem Sr[aC prog](n:lW)(hs:lX n<=274877906944):Ok prog 78 [.agg (mY .view n)] (.agg (mY .own n)):=by simp only[lX]at hs;have c1:=Sn n.gD (by omega);have c2:=Lj n.cache (by omega);simp only[gU]at c2;simp only[bQ]at hs;refine bM aF func78 ntmps78 ?_;refine aY ?_;exact aD results78
theorem Su[aC prog](n:lW)(hs:lX n<=274877906944):Ok prog 56 [.agg (mY .view n)] (.agg (mY .own n)):=by simp only[lX]at hs;have c1:=xu n.gD (by omega);have c2:=Sq n.cache (by omega);simp only[gU]at c2;simp only[bQ]at hs;refine bM aF func56 ntmps56 ?_;refine aY ?_;exact aD results56
def zD(q:aG):List aM:=[⟨true,false,1,1,q.bD.fC.map bW⟩,⟨true,false,1,1,q.bD.gX.map bW⟩,⟨true,false,1,1,q.bD.gY.map bW⟩,⟨true,false,4,1,q.queue.map (cZ .own)⟩,⟨true,false,4,1,q.builder.nodes.map (fA .own)⟩,⟨true,false,1,1,q.builder.opens.map mG⟩,⟨true,false,8,1,q.aB.map vC⟩,⟨true,false,5,1,q.aN.map eX⟩,⟨true,false,2,1,q.entries.map aL⟩,⟨true,false,2,1,q.tX.map aL⟩,⟨true,false,1,1,q.log.map bW⟩]
def zF(b:Nat)(q:aG):List AV:=[.str q.addr.host,.str q.addr.path,.bool q.bD.isSet,.obj b 1,.obj (b+1) 1,.obj (b+2) 1,.str q.bD.tK,.str q.tok.rest,.obj (b+3) 1,.bool q.ended,.obj (b+4) 1,.obj (b+5) 1,.obj (b+6) 1,.obj (b+7) 1,.obj (b+8) 1,.int .i64 q.block,.int .i64 q.inline,.int .i64 q.deferred,.int .i64 q.iA,.obj (b+9) 1,.obj (b+10) 1,.bool q.oW]
def NQ:List (Nat×Nat):=[(1,17),(2,18),(3,19),(4,20),(5,21),(6,22),(7,23),(8,24),(9,25),(10,26),(11,27)]
theorem aGc{t t':List AV}{o o':List aM}{n1 v1 n2 v2 n3 v3 n4 v4 n5 v5 n6 v6 n7 v7 n8 v8 n9 v9 n10 v10 n11 v11:Nat}{e1 e2 e3 e4 e5 e6 e7 e8 e9 qg e11:List (List AV)}{o12 o13 o14 o15 o16:aM}{q:aG}(ho:o=[⟨true,true,22,2,[zF 17 q]⟩,⟨false,false,n1,v1,e1⟩,⟨false,false,n2,v2,e2⟩,⟨false,false,n3,v3,e3⟩,⟨false,false,n4,v4,e4⟩,⟨false,false,n5,v5,e5⟩,⟨false,false,n6,v6,e6⟩,⟨false,false,n7,v7,e7⟩,⟨false,false,n8,v8,e8⟩,⟨false,false,n9,v9,e9⟩,⟨false,false,n10,v10,qg⟩,⟨false,false,n11,v11,e11⟩,o12,o13,o14,o15,o16]++zD q)
  (ho':o'=[⟨true,true,22,2,[zF 1 q]⟩]++zD q++[o12,o13,o14,o15,o16]) (ht:∀z∈NQ,wk (rD z.1 z.2 t') t') (hf:∀z∈NQ,o12.lL z.1 z.2=o12/\o13.lL z.1 z.2=o13/\o14.lL z.1 z.2=o14/\o15.lL z.1 z.2=o15/\o16.lL z.1 z.2=o16) (hw:wk t t') (hc:eT 17 t'=true) (hc0:dC 17 [o12,o13,o14,o15,o16]=true):lY ⟨t,o⟩ ⟨t',o'⟩:=by
 subst ho;subst ho';have e:=λi j (h:(i,j)∈NQ)=>hf (i,j) h
 have h:=λi j (h:(i,j)∈NQ)=>ht (i,j) h
 simp only[zD,zF,eA,eM];refine(wF hw).trans ?_;refine(aS 1 17 rfl rfl ⟨rfl,rfl⟩ (by simp[(e 1 17 (by decide))];rfl) (h 1 17 (by decide))).trans ?_;refine(aS 2 18 rfl rfl ⟨rfl,rfl⟩ (by simp[(e 2 18 (by decide))];rfl) (h 2 18 (by decide))).trans ?_;refine(aS 3 19 rfl rfl ⟨rfl,rfl⟩ (by simp[(e 3 19 (by decide))];rfl) (h 3 19 (by decide))).trans ?_;refine(aS 4 20 rfl rfl ⟨rfl,rfl⟩ (by simp[(e 4 20 (by decide))];rfl) (h 4 20 (by decide))).trans ?_;refine(aS 5 21 rfl rfl ⟨rfl,rfl⟩ (by simp[(e 5 21 (by decide))];rfl) (h 5 21 (by decide))).trans ?_;refine(aS 6 22 rfl rfl ⟨rfl,rfl⟩ (by simp[(e 6 22 (by decide))];rfl) (h 6 22 (by decide))).trans ?_;refine(aS 7 23 rfl rfl ⟨rfl,rfl⟩ (by simp[(e 7 23 (by decide))];rfl) (h 7 23 (by decide))).trans ?_;refine(aS 8 24 rfl rfl ⟨rfl,rfl⟩ (by simp[(e 8 24 (by decide))];rfl) (h 8 24 (by decide))).trans ?_;refine(aS 9 25 rfl rfl ⟨rfl,rfl⟩ (by simp[(e 9 25 (by decide))];rfl) (h 9 25 (by decide))).trans ?_;refine(aS 10 26 rfl rfl ⟨rfl,rfl⟩ (by simp[(e 10 26 (by decide))];rfl) (h 10 26 (by decide))).trans ?_;refine(aS 11 27 rfl rfl ⟨rfl,rfl⟩ (by simp[(e 11 27 (by decide))];rfl) (h 11 27 (by decide))).trans ?_;refine aV 17 (by simp) (lC _) hc ?_;simpa [dC,eT,closed]using hc0
theorem aJ3{t t':List AV}{o o' o1 o2:List aM}{a b c d e:aM}(h5:o[5]? =some a)(h14:o[14]? =some b)(hb:a.box=false/\b.box=false)(e1:((o.set 5 b).set 14 a).map (aM.lL 5 14)=o1)(h6:o1[6]? =some c)(h15:o1[15]? =some d)(hd:c.box=false/\d.box=false)(e2:((o1.set 6 d).set 15 c).map (aM.lL 6 15)=o2)(h12:o2[12]? =some e)(e3:o2.set 12 ⟨false,false,0,e.bV,[]⟩=o')(w1:wk (rD 5 14 t) t')(w2:wk (rD 6 15 t') t'):lY ⟨t,o⟩ ⟨t',o'⟩:=
 (aS 5 14 h5 h14 hb e1 w1).trans ((aS 6 15 h6 h15 hd e2 w2).trans (WM 12 h12 e3 (lC _)))
def oG(s:pJ):Bool:= !(decide (s.mode=2)&& !s.done)
theorem Ce[aC prog](p:aG)(hl:p.aB.length<=1099511627776):Ok prog 111 [.agg (aH .view p)] (.bool (p.aB.all oG)):=by
 refine bM aF func111 ntmps111 ?_;refine iF ?_;refine aO (ι:={k:Nat // k<=p.aB.length/\∀x∈p.aB.take k,oG x=true}) (λt o i=>⟨bC t [(3,.int .i64 i.1)],o⟩)
  (λi=>p.aB.length-i.1) ⟨0,by simp⟩ aJ ?_
 rintro⟨k,hk,hpre⟩ K1 hK1;simp only[bC,cW,cU]at hK1⊢;have hk1:=oQ (k:=k);by_cases hlt:k<p.aB.length
 .have hg:=aE hlt;have W:=aA hk1 (aA hg hlt);repeat' first|refine wg ?_|(refine sq ?_ ?_<;>intro hc<;>try exact hc.elim)|fail
  all_goals first
   |(refine hK1 _ ⟨k+1,by omega,cB hlt hpre (by simp_all[oG])⟩ aJ (by simp only;omega);done)
   |skip
  all_goals try(refine aQ ?_;simp[aP,results111])
  exact⟨_,fS hlt,by simp_all[oG]⟩
 .have W:=hk1;refine wl ?_;all_goals try(refine aQ ?_;simp[aP,results111])
  exact iR (by omega) hpre
theorem Cf[aC prog](p:aG)(hl:p.aB.length<=1099511627776):Ok prog 146 [.agg (aH .view p)] (.bool (p.aB.all oG)):=by
 refine bM aF func146 ntmps146 ?_;refine iF ?_;refine aO (ι:={k:Nat // k<=p.aB.length/\∀x∈p.aB.take k,oG x=true}) (λt o i=>⟨bC t [(8,.int .i64 i.1)],o⟩)
  (λi=>p.aB.length-i.1) ⟨0,by simp⟩ aJ ?_
 rintro⟨k,hk,hpre⟩ K1 hK1;simp only[bC,cW,cU]at hK1⊢;have hk1:=oQ (k:=k);by_cases hlt:k<p.aB.length
 .have hg:=aE hlt;have W:=aA hk1 (aA hg hlt);repeat' first|refine wg ?_|(refine sq ?_ ?_<;>intro hc<;>try exact hc.elim)|fail
  all_goals first
   |(refine hK1 _ ⟨k+1,by omega,cB hlt hpre (by simp_all[oG])⟩ (aV 1 rfl (by simp) (by simp) (by simp)) (by simp only;omega);done)
   |skip
  all_goals try(refine aQ ?_;simp[aP,results146])
  exact⟨_,fS hlt,by simp_all[oG]⟩
 .have W:=hk1;refine wl ?_;all_goals try(refine aQ ?_;simp[aP,results146])
  exact iR (by omega) hpre
def Fb(n:Int)(s:bB)(x:jK):bB:=if x.parent=n/\x.name=[]then s++x.text else s
def Cg(b:bE)(n:Int):bB:=b.nodes.foldl (Fb n) []
def Mc(b:bE)(n:Int)(k:Nat):bB:=(b.nodes.take k).foldl (Fb n) []
theorem WS(b:bE)(n:Int)(k:Nat)(h:k<b.nodes.length):Mc b n (k+1)=Fb n (Mc b n k) b.nodes[k]:=by unfold Mc;rw[eI h,Fk];rfl
theorem zz(n:Int)(s:bB)(x:jK):(Fb n s x).length<=s.length+sM x:=by
 unfold Fb sM;split
 .simp only[eR];omega
 .omega
theorem aGk(n:Int):∀(l:List jK) (s:bB),(l.foldl (Fb n) s).length<=s.length+bA sM l
 |[],s=>by simp[bA]
 |x::l,s=>by have h1:=aGk n l (Fb n s x);have h2:=zz n s x;simp only[foldl_cons,bA];omega
theorem zO{α:Type}(f:α->Nat):∀(l:List α) (k:Nat),bA f (l.take k)<=bA f l
 |[],k=>by simp[bA]
 |x::l,0=>by simp[bA]
 |x::l,k+1=>by have:=zO f l k;simp only[eL,bA];omega
theorem TB(b:bE)(n:Int)(k:Nat):(Mc b n k).length<=aT b:=by have h1:=aGk n (b.nodes.take k) [];have h2:=zO sM b.nodes k;unfold Mc;simp only[aT,bQ,eV]at*;omega
theorem TC(b:bE)(n:Int):(Cg b n).length<=aT b:=by
 have:=TB b n b.nodes.length;unfold Mc at this
 rwa[At]at this
theorem Vi[aC prog](b:bE)(n:Int)(hs:aT b<=1099511627776):Ok prog 148 [.agg (aU .view b),.int .i64 n] (.str (Cg b n)):=by
 have hN:b.nodes.length<=1099511627776:=by simp only[aT,bQ]at hs;omega
 have hend:Mc b n b.nodes.length=Cg b n:=by unfold Mc Cg;rw[At]
 rw[<-hend];have hz:Mc b n 0=[]:=rfl;have zw:=λk=>TB b n k
 have hsu:=WS b n;generalize Mc b n=T at*;clear hend;refine bM aF func148 ntmps148 ?_;refine iF ?_;refine aO (ι:={k:Nat // k<=b.nodes.length}) (λt o i=>⟨bC t [(11,.int .i64 i.1),(5,.str (T i.1))],o⟩)
  (λi=>b.nodes.length-i.1) ⟨0,by simp⟩ (aJ (by simp) (by simp[hz])) ?_
 rintro⟨k,hk⟩ K1 hK1;simp only[bC,cW,cU]at hK1⊢;have hk1:=oQ (k:=k);by_cases hlt:k<b.nodes.length
 .have hg:=aE hlt;have hnext:=hsu k hlt;have hl1:=zw (k+1);have hl0:=zw k;rw[hnext]at hl1;unfold Fb at hnext hl1;clear hsu zw hz;generalize hT:T k=s at*;by_cases hp:b.nodes[k].parent=n
  .by_cases hn:b.nodes[k].name=[]
   .rw [eK ⟨hp,hn⟩]at hnext hl1;rw[eR]at hl1;have aNy:s.length+b.nodes[k].text.length<=1099511627776:=by omega
    have W:=aA hk1 (aA hg (aA hlt (aA hp (aA hn aNy))));refine wl ?_;all_goals refine hK1 _ ⟨k+1,by omega⟩ (aV 1 rfl (by simp[hnext]) (by simp) (by simp)) (by simp only;omega)
   .rw [cX (by simp[hn])]at hnext hl1;have hne:b.nodes[k].name.isEmpty=false:=by cases hc:b.nodes[k].name with|nil=>exact absurd hc hn|cons _ _=>rfl
    have W:=aA hk1 (aA hg (aA hlt (aA hp (aA hn hne))));refine wl ?_;all_goals refine hK1 _ ⟨k+1,by omega⟩ (aV 1 rfl (by simp[hnext]) (by simp) (by simp)) (by simp only;omega)
  .rw [cX (by simp[hp])]at hnext hl1;have W:=aA hk1 (aA hg (aA hlt hp));refine wl ?_;all_goals refine hK1 _ ⟨k+1,by omega⟩ (aV 1 rfl (by simp[hnext]) (by simp) (by simp)) (by simp only;omega)
 .have hkl:k=b.nodes.length:=by omega
  subst hkl;have W:=hk1;refine wl ?_;exact aD results148
theorem Vj[aC prog](b:bE)(n:Int)(hs:aT b<=1099511627776):Ok prog 113 [.agg (aU .view b),.int .i64 n] (.str (Cg b n)):=by
 have hN:b.nodes.length<=1099511627776:=by simp only[aT,bQ]at hs;omega
 have hend:Mc b n b.nodes.length=Cg b n:=by unfold Mc Cg;rw[At]
 rw[<-hend];have hz:Mc b n 0=[]:=rfl;have zw:=λk=>TB b n k
 have hsu:=WS b n;generalize Mc b n=T at*;clear hend;refine bM aF func113 ntmps113 ?_;refine iF ?_;refine aO (ι:={k:Nat // k<=b.nodes.length}) (λt o i=>⟨bC t [(6,.int .i64 i.1),(5,.str (T i.1))],o⟩)
  (λi=>b.nodes.length-i.1) ⟨0,by simp⟩ (aJ (by simp) (by simp[hz])) ?_
 rintro⟨k,hk⟩ K1 hK1;simp only[bC,cW,cU]at hK1⊢;have hk1:=oQ (k:=k);by_cases hlt:k<b.nodes.length
 .have hg:=aE hlt;have hnext:=hsu k hlt;have hl1:=zw (k+1);have hl0:=zw k;rw[hnext]at hl1;unfold Fb at hnext hl1;clear hsu zw hz;generalize hT:T k=s at*;by_cases hp:b.nodes[k].parent=n
  .by_cases hn:b.nodes[k].name=[]
   .rw [eK ⟨hp,hn⟩]at hnext hl1;rw[eR]at hl1;have aNy:s.length+b.nodes[k].text.length<=1099511627776:=by omega
    have W:=aA hk1 (aA hg (aA hlt (aA hp (aA hn aNy))));refine wl ?_;all_goals refine hK1 _ ⟨k+1,by omega⟩ (aJ (by simp) (by simp[hnext])) (by simp only;omega)
   .rw [cX (by simp[hn])]at hnext hl1;have hne:b.nodes[k].name.isEmpty=false:=by cases hc:b.nodes[k].name with|nil=>exact absurd hc hn|cons _ _=>rfl
    have W:=aA hk1 (aA hg (aA hlt (aA hp (aA hn hne))));refine wl ?_;all_goals refine hK1 _ ⟨k+1,by omega⟩ (aJ (by simp) (by simp[hnext])) (by simp only;omega)
  .rw [cX (by simp[hp])]at hnext hl1;have W:=aA hk1 (aA hg (aA hlt hp));refine wl ?_;all_goals refine hK1 _ ⟨k+1,by omega⟩ (aJ (by simp) (by simp[hnext])) (by simp only;omega)
 .have hkl:k=b.nodes.length:=by omega
  subst hkl;have W:=hk1;refine wl ?_;exact aD results113
theorem Md[aC prog](a:aK)(hl:aR a<=1099511627776):Ok prog 179 [.agg (aL a)] (.str (mK a)):=by
 have c1:=rP a (by omega);simp only[aR]at hl;have f1:a.host.length<=9223372036854775806:=by omega
 have f2:a.host.length+1<=9223372036854775807:=by omega
 have f3:a.host.length+1+a.path.length<=9223372036854775807:=by omega
 have f4:a.host.length+(a.path.length+1)<=9223372036854775807:=by omega
 refine bM aF func179 ntmps179 ?_;have W:=aA f1 (aA f2 (aA f3 f4));repeat' first|refine wg ?_|(refine sq ?_ ?_<;>intro hc<;>try exact hc.elim)|fail
 all_goals try(refine aQ ?_;simp[aP,results179,mK])
 all_goals simp_all[mK]
theorem Ch(a:aK):(mK a).length<=17:=by
 unfold mK;split
 .rename_i h;simp[oZ,dA]at h;simp;omega
 .simp
theorem Me[aC prog](a:aK)(hl:aR a<=1099511627776):Ok prog 207 [.agg (aL a)] (.str (mK a)):=by
 have c1:=rQ a (by omega);simp only[aR]at hl;have f1:a.host.length<=9223372036854775806:=by omega
 have f2:a.host.length+1<=9223372036854775807:=by omega
 have f3:a.host.length+1+a.path.length<=9223372036854775807:=by omega
 have f4:a.host.length+(a.path.length+1)<=9223372036854775807:=by omega
 refine bM aF func207 ntmps207 ?_;have W:=aA f1 (aA f2 (aA f3 f4));repeat' first|refine wg ?_|(refine sq ?_ ?_<;>intro hc<;>try exact hc.elim)|fail
 all_goals try(refine aQ ?_;simp[aP,results207,mK])
 all_goals simp_all[mK]
def tN:List (Nat×Nat):=[(2,14),(3,15),(4,16),(5,17),(6,18),(7,19),(8,20),(9,21),(10,22),(11,23),(12,24)]
theorem Xb{t t':List AV}{o o':List aM}{l1 l2 l3 l4 l5 l6 l7 l8 l9 l10 l11:Bool}{u n1 v1 n2 v2 n3 v3 n4 v4 n5 v5 n6 v6 n7 v7 n8 v8 n9 v9 n10 v10 n11 v11:Nat}{e1 e2 e3 e4 e5 e6 e7 e8 e9 qg e11:List (List AV)}{o0 o1 z0:aM}{q:aG}(ho:o=[o0,o1,⟨l1,false,n1,v1,e1⟩,⟨l2,false,n2,v2,e2⟩,⟨l3,false,n3,v3,e3⟩,⟨l4,false,n4,v4,e4⟩,⟨l5,false,n5,v5,e5⟩,⟨l6,false,n6,v6,e6⟩,⟨l7,false,n7,v7,e7⟩,⟨l8,false,n8,v8,e8⟩,⟨l9,false,n9,v9,e9⟩,⟨l10,false,n10,v10,qg⟩,⟨l11,false,n11,v11,e11⟩,⟨true,true,22,u,[zF 14 q]⟩]++zD q++[z0])
  (ho':o'=[o0,o1]++zD q++[⟨true,true,22,u,[zF 2 q]⟩]) (ht:∀z∈tN,wk (rD z.1 z.2 t') t') (hf:∀z∈tN,o0.lL z.1 z.2=o0/\o1.lL z.1 z.2=o1) (hw:wk t t') (hc:eT 14 t'=true) (hc0:dC 14 [o0,o1]=true):lY ⟨t,o⟩ ⟨t',o'⟩:=by
 subst ho;subst ho';have e:=λi j (h:(i,j)∈tN)=>hf (i,j) h
 have h:=λi j (h:(i,j)∈tN)=>ht (i,j) h
 simp only[zD,zF,eA,eM,fW];refine(wF hw).trans ?_;refine(aS 2 14 rfl rfl ⟨rfl,rfl⟩ (by simp[(e 2 14 (by decide))];rfl) (h 2 14 (by decide))).trans ?_;refine(aS 3 15 rfl rfl ⟨rfl,rfl⟩ (by simp[(e 3 15 (by decide))];rfl) (h 3 15 (by decide))).trans ?_;refine(aS 4 16 rfl rfl ⟨rfl,rfl⟩ (by simp[(e 4 16 (by decide))];rfl) (h 4 16 (by decide))).trans ?_;refine(aS 5 17 rfl rfl ⟨rfl,rfl⟩ (by simp[(e 5 17 (by decide))];rfl) (h 5 17 (by decide))).trans ?_;refine(aS 6 18 rfl rfl ⟨rfl,rfl⟩ (by simp[(e 6 18 (by decide))];rfl) (h 6 18 (by decide))).trans ?_;refine(aS 7 19 rfl rfl ⟨rfl,rfl⟩ (by simp[(e 7 19 (by decide))];rfl) (h 7 19 (by decide))).trans ?_;refine(aS 8 20 rfl rfl ⟨rfl,rfl⟩ (by simp[(e 8 20 (by decide))];rfl) (h 8 20 (by decide))).trans ?_;refine(aS 9 21 rfl rfl ⟨rfl,rfl⟩ (by simp[(e 9 21 (by decide))];rfl) (h 9 21 (by decide))).trans ?_;refine(aS 10 22 rfl rfl ⟨rfl,rfl⟩ (by simp[(e 10 22 (by decide))];rfl) (h 10 22 (by decide))).trans ?_;refine(aS 11 23 rfl rfl ⟨rfl,rfl⟩ (by simp[(e 11 23 (by decide))];rfl) (h 11 23 (by decide))).trans ?_;refine(aS 12 24 rfl rfl ⟨rfl,rfl⟩ (by simp[(e 12 24 (by decide))];rfl) (h 12 24 (by decide))).trans ?_;refine aV 14 (by simp) (lC _) hc ?_;simpa [dC,eT,closed,Fm]using hc0
def tO:List (Nat×Nat):=[(2,26),(3,27),(4,28),(5,29),(6,30),(7,31),(8,32),(9,33),(10,34),(11,35),(12,36)]
theorem Xc{t t':List AV}{o o':List aM}{l1 l2 l3 l4 l5 l6 l7 l8 l9 l10 l11:Bool}{u n1 v1 n2 v2 n3 v3 n4 v4 n5 v5 n6 v6 n7 v7 n8 v8 n9 v9 n10 v10 n11 v11:Nat}{e1 e2 e3 e4 e5 e6 e7 e8 e9 qg e11:List (List AV)}{o0 o1 m0 m1 m2 m3 m4 m5 m6 m7 m8 m9 m10 m11:aM}{q:aG}(ho:o=[o0,o1,⟨l1,false,n1,v1,e1⟩,⟨l2,false,n2,v2,e2⟩,⟨l3,false,n3,v3,e3⟩,⟨l4,false,n4,v4,e4⟩,⟨l5,false,n5,v5,e5⟩,⟨l6,false,n6,v6,e6⟩,⟨l7,false,n7,v7,e7⟩,⟨l8,false,n8,v8,e8⟩,⟨l9,false,n9,v9,e9⟩,⟨l10,false,n10,v10,qg⟩,⟨l11,false,n11,v11,e11⟩,⟨true,true,22,u,[zF 26 q]⟩,m0,m1,m2,m3,m4,m5,m6,m7,m8,m9,m10,m11]++zD q++[])
  (ho':o'=[o0,o1]++zD q++[⟨true,true,22,u,[zF 2 q]⟩]) (ht:∀z∈tO,wk (rD z.1 z.2 t') t') (hf:∀z∈tO,o0.lL z.1 z.2=o0/\o1.lL z.1 z.2=o1) (hw:wk t t') (hc:eT 14 t'=true) (hc0:dC 14 [o0,o1]=true):lY ⟨t,o⟩ ⟨t',o'⟩:=by
 subst ho;subst ho';have e:=λi j (h:(i,j)∈tO)=>hf (i,j) h
 have h:=λi j (h:(i,j)∈tO)=>ht (i,j) h
 simp only[zD,zF,eA,eM,fW];refine(wF hw).trans ?_;refine(aS 2 26 rfl rfl ⟨rfl,rfl⟩ (by simp[(e 2 26 (by decide))];rfl) (h 2 26 (by decide))).trans ?_;refine(aS 3 27 rfl rfl ⟨rfl,rfl⟩ (by simp[(e 3 27 (by decide))];rfl) (h 3 27 (by decide))).trans ?_;refine(aS 4 28 rfl rfl ⟨rfl,rfl⟩ (by simp[(e 4 28 (by decide))];rfl) (h 4 28 (by decide))).trans ?_;refine(aS 5 29 rfl rfl ⟨rfl,rfl⟩ (by simp[(e 5 29 (by decide))];rfl) (h 5 29 (by decide))).trans ?_;refine(aS 6 30 rfl rfl ⟨rfl,rfl⟩ (by simp[(e 6 30 (by decide))];rfl) (h 6 30 (by decide))).trans ?_;refine(aS 7 31 rfl rfl ⟨rfl,rfl⟩ (by simp[(e 7 31 (by decide))];rfl) (h 7 31 (by decide))).trans ?_;refine(aS 8 32 rfl rfl ⟨rfl,rfl⟩ (by simp[(e 8 32 (by decide))];rfl) (h 8 32 (by decide))).trans ?_;refine(aS 9 33 rfl rfl ⟨rfl,rfl⟩ (by simp[(e 9 33 (by decide))];rfl) (h 9 33 (by decide))).trans ?_;refine(aS 10 34 rfl rfl ⟨rfl,rfl⟩ (by simp[(e 10 34 (by decide))];rfl) (h 10 34 (by decide))).trans ?_;refine(aS 11 35 rfl rfl ⟨rfl,rfl⟩ (by simp[(e 11 35 (by decide))];rfl) (h 11 35 (by decide))).trans ?_;refine(aS 12 36 rfl rfl ⟨rfl,rfl⟩ (by simp[(e 12 36 (by decide))];rfl) (h 12 36 (by decide))).trans ?_;refine aV 14 (by simp) (lC _) hc ?_;simpa [dC,eT,closed,Fm]using hc0
@[simp] theorem aOh(i j:Nat)(l:List xM):qK i j (l.map mI)=l.map mI:=qO (λ_=>rfl) l
@[simp] theorem aH0(i j:Nat)(l:List fU):qK i j (l.map (bY .view))=l.map (bY .view):=qO (λ_=>by simp) l
@[simp] theorem aLq(i j:Nat)(l:List fH):qK i j (l.map fP)=l.map fP:=qO (λ_=>rfl) l
@[simp] theorem aOi(i j:Nat)(l:List yD):qK i j (l.map mJ)=l.map mJ:=qO (λ_=>rfl) l
def qh(m:lW):List aM:=[⟨true,false,2,1,m.gD.map (bY .own)⟩,⟨true,false,10,1,m.cache.entries.map fP⟩,⟨true,false,4,1,m.log.map mJ⟩]
def qi(b:Nat)(m:lW):List AV:=[.obj b 1,.obj (b+1) 1,.obj (b+2) 1,.int .i64 m.now]
def zS:List (Nat×Nat):=[(4,23),(5,24),(6,25),(10,26),(11,27),(12,28),(13,29),(14,30),(15,31),(16,32),(17,33),(18,34),(19,35),(20,36)]
theorem aG3{t t':List AV}{o o':List aM}{l1 l2 l3 l4 l5 l6 l7 l8 l9 l10 l11 l12 l13 l14:Bool}{u1 u2 n1 v1 n2 v2 n3 v3 n4 v4 n5 v5 n6 v6 n7 v7 n8 v8 n9 v9 n10 v10 n11 v11 n12 v12 n13 v13 n14 v14:Nat}{e1 e2 e3 e4 e5 e6 e7 e8 e9 qg e11 e12 e13 e14:List (List AV)}{g0 g1 g2 g3 g4 z0 z1:aM}{m:lW}{q:aG}(ho:o=[g0,g1,g2,g3,⟨l1,false,n1,v1,e1⟩,⟨l2,false,n2,v2,e2⟩,⟨l3,false,n3,v3,e3⟩,⟨true,true,4,u1,[qi 23 m]⟩,g4,⟨true,true,22,u2,[zF 26 q]⟩,⟨l4,false,n4,v4,e4⟩,⟨l5,false,n5,v5,e5⟩,⟨l6,false,n6,v6,e6⟩,⟨l7,false,n7,v7,e7⟩,⟨l8,false,n8,v8,e8⟩,⟨l9,false,n9,v9,e9⟩,⟨l10,false,n10,v10,qg⟩,⟨l11,false,n11,v11,e11⟩,⟨l12,false,n12,v12,e12⟩,⟨l13,false,n13,v13,e13⟩,⟨l14,false,n14,v14,e14⟩,z0,z1]++qh m++zD q)
  (ho':o'=[g0,g1,g2,g3]++qh m++[⟨true,true,4,u1,[qi 4 m]⟩,g4,⟨true,true,22,u2,[zF 10 q]⟩]++zD q) (ht:∀z∈zS,wk (rD z.1 z.2 t') t') (hf:∀z∈zS,g0.lL z.1 z.2=g0/\g1.lL z.1 z.2=g1/\g2.lL z.1 z.2=g2/\g3.lL z.1 z.2=g3/\g4.lL z.1 z.2=g4) (hw:wk t t') (hc:eT 21 t'=true) (hc0:dC 21 [g0,g1,g2,g3,g4]=true):lY ⟨t,o⟩ ⟨t',o'⟩:=by
 subst ho;subst ho';have e:=λi j (h:(i,j)∈zS)=>hf (i,j) h
 have h:=λi j (h:(i,j)∈zS)=>ht (i,j) h
 simp only[qh,qi,zD,zF,eA,eM,fW];refine(wF hw).trans ?_;refine(aS 4 23 rfl rfl ⟨rfl,rfl⟩ (by simp[(e 4 23 (by decide))];rfl) (h 4 23 (by decide))).trans ?_;refine(aS 5 24 rfl rfl ⟨rfl,rfl⟩ (by simp[(e 5 24 (by decide))];rfl) (h 5 24 (by decide))).trans ?_;refine(aS 6 25 rfl rfl ⟨rfl,rfl⟩ (by simp[(e 6 25 (by decide))];rfl) (h 6 25 (by decide))).trans ?_;refine(aS 10 26 rfl rfl ⟨rfl,rfl⟩ (by simp[(e 10 26 (by decide))];rfl) (h 10 26 (by decide))).trans ?_;refine(aS 11 27 rfl rfl ⟨rfl,rfl⟩ (by simp[(e 11 27 (by decide))];rfl) (h 11 27 (by decide))).trans ?_;refine(aS 12 28 rfl rfl ⟨rfl,rfl⟩ (by simp[(e 12 28 (by decide))];rfl) (h 12 28 (by decide))).trans ?_;refine(aS 13 29 rfl rfl ⟨rfl,rfl⟩ (by simp[(e 13 29 (by decide))];rfl) (h 13 29 (by decide))).trans ?_;refine(aS 14 30 rfl rfl ⟨rfl,rfl⟩ (by simp[(e 14 30 (by decide))];rfl) (h 14 30 (by decide))).trans ?_;refine(aS 15 31 rfl rfl ⟨rfl,rfl⟩ (by simp[(e 15 31 (by decide))];rfl) (h 15 31 (by decide))).trans ?_;refine(aS 16 32 rfl rfl ⟨rfl,rfl⟩ (by simp[(e 16 32 (by decide))];rfl) (h 16 32 (by decide))).trans ?_;refine(aS 17 33 rfl rfl ⟨rfl,rfl⟩ (by simp[(e 17 33 (by decide))];rfl) (h 17 33 (by decide))).trans ?_;refine(aS 18 34 rfl rfl ⟨rfl,rfl⟩ (by simp[(e 18 34 (by decide))];rfl) (h 18 34 (by decide))).trans ?_;refine(aS 19 35 rfl rfl ⟨rfl,rfl⟩ (by simp[(e 19 35 (by decide))];rfl) (h 19 35 (by decide))).trans ?_
 refine(aS 20 36 rfl rfl ⟨rfl,rfl⟩ (by simp[(e 20 36 (by decide))];rfl) (h 20 36 (by decide))).trans ?_;refine aV 21 (by simp) (lC _) hc ?_;simpa [dC,eT,closed,Fm]using hc0
def zT:List (Nat×Nat):=[(0,20),(1,21),(2,22),(3,23),(4,24),(5,25),(6,26),(7,27),(8,28),(9,29),(10,30),(11,31),(12,32),(13,33)]
theorem aG4{t t':List AV}{o o':List aM}{l1 l2 l3 l4 l5 l6 l7 l8 l9 l10 l11 l12 l13 l14:Bool}{u1 u2 n1 v1 n2 v2 n3 v3 n4 v4 n5 v5 n6 v6 n7 v7 n8 v8 n9 v9 n10 v10 n11 v11 n12 v12 n13 v13 n14 v14:Nat}{e1 e2 e3 e4 e5 e6 e7 e8 e9 qg e11 e12 e13 e14:List (List AV)}{g0 g1 z0 z1:aM}{m:lW}{q:aG}(ho:o=[⟨l1,false,n1,v1,e1⟩,⟨l2,false,n2,v2,e2⟩,⟨l3,false,n3,v3,e3⟩,⟨l4,false,n4,v4,e4⟩,⟨l5,false,n5,v5,e5⟩,⟨l6,false,n6,v6,e6⟩,⟨l7,false,n7,v7,e7⟩,⟨l8,false,n8,v8,e8⟩,⟨l9,false,n9,v9,e9⟩,⟨l10,false,n10,v10,qg⟩,⟨l11,false,n11,v11,e11⟩,⟨l12,false,n12,v12,e12⟩,⟨l13,false,n13,v13,e13⟩,⟨l14,false,n14,v14,e14⟩,⟨true,true,4,u1,[qi 20 m]⟩,⟨true,true,22,u2,[zF 23 q]⟩,g0,g1,z0,z1]++qh m++zD q)
  (ho':o'=qh m++zD q++[⟨true,true,4,u1,[qi 0 m]⟩,⟨true,true,22,u2,[zF 3 q]⟩,g0,g1]) (ht:∀z∈zT,wk (rD z.1 z.2 t') t') (hf:∀z∈zT,g0.lL z.1 z.2=g0/\g1.lL z.1 z.2=g1) (hw:wk t t') (hc:eT 18 t'=true) (hc0:dC 18 [g0,g1]=true):lY ⟨t,o⟩ ⟨t',o'⟩:=by
 subst ho;subst ho';have e:=λi j (h:(i,j)∈zT)=>hf (i,j) h
 have h:=λi j (h:(i,j)∈zT)=>ht (i,j) h
 simp only[qh,qi,zD,zF,eA,eM,fW];refine(wF hw).trans ?_;refine(aS 0 20 rfl rfl ⟨rfl,rfl⟩ (by simp[(e 0 20 (by decide))];rfl) (h 0 20 (by decide))).trans ?_;refine(aS 1 21 rfl rfl ⟨rfl,rfl⟩ (by simp[(e 1 21 (by decide))];rfl) (h 1 21 (by decide))).trans ?_;refine(aS 2 22 rfl rfl ⟨rfl,rfl⟩ (by simp[(e 2 22 (by decide))];rfl) (h 2 22 (by decide))).trans ?_;refine(aS 3 23 rfl rfl ⟨rfl,rfl⟩ (by simp[(e 3 23 (by decide))];rfl) (h 3 23 (by decide))).trans ?_;refine(aS 4 24 rfl rfl ⟨rfl,rfl⟩ (by simp[(e 4 24 (by decide))];rfl) (h 4 24 (by decide))).trans ?_;refine(aS 5 25 rfl rfl ⟨rfl,rfl⟩ (by simp[(e 5 25 (by decide))];rfl) (h 5 25 (by decide))).trans ?_;refine(aS 6 26 rfl rfl ⟨rfl,rfl⟩ (by simp[(e 6 26 (by decide))];rfl) (h 6 26 (by decide))).trans ?_;refine(aS 7 27 rfl rfl ⟨rfl,rfl⟩ (by simp[(e 7 27 (by decide))];rfl) (h 7 27 (by decide))).trans ?_;refine(aS 8 28 rfl rfl ⟨rfl,rfl⟩ (by simp[(e 8 28 (by decide))];rfl) (h 8 28 (by decide))).trans ?_;refine(aS 9 29 rfl rfl ⟨rfl,rfl⟩ (by simp[(e 9 29 (by decide))];rfl) (h 9 29 (by decide))).trans ?_;refine(aS 10 30 rfl rfl ⟨rfl,rfl⟩ (by simp[(e 10 30 (by decide))];rfl) (h 10 30 (by decide))).trans ?_;refine(aS 11 31 rfl rfl ⟨rfl,rfl⟩ (by simp[(e 11 31 (by decide))];rfl) (h 11 31 (by decide))).trans ?_;refine(aS 12 32 rfl rfl ⟨rfl,rfl⟩ (by simp[(e 12 32 (by decide))];rfl) (h 12 32 (by decide))).trans ?_;refine(aS 13 33 rfl rfl ⟨rfl,rfl⟩ (by simp[(e 13 33 (by decide))];rfl) (h 13 33 (by decide))).trans ?_
 refine aV 18 (by simp) (lC _) hc ?_;simpa [dC,eT,closed,Fm]using hc0
end Go.Proofs.YtfbefblglejcaaaGreatDoor
