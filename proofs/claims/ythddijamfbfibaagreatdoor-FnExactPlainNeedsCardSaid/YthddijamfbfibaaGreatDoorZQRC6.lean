/- Proved here: steps towards the statement of this claim. No condition. -/
import Derived.Test.YthddijamfbfibaaGreatDoorZQSV1
import Derived.Test.YthddijamfbfibaaGreatDoorZQP3
import Derived.Test.YthddijamfbfibaaGreatDoorZTK2
import Derived.Test.YthddijamfbfibaaGreatDoorZQI4
set_option linter.all false
set_option maxRecDepth 8000
set_option maxHeartbeats 8000000
namespace Go.Proofs.YthddijamfbfibaaGreatDoor
open Go.Aw Proofs.Tryz List IntKind
theorem Oj[aB prog][dM prog](b:bE)(ss:List gT)(l:List jW)(hb:aU b<=68719476736)(h6:l.length<=6)(hx:∀x∈l,x.text.length<=268435456)(hl:ss.length<=1099511627776)(hr:∀x∈ss,x.rules.length<=1099511627776)(wZ:∀n,0<=bJ ss n/\bJ ss n<=999):
  Ok prog 267 [.agg (aV .view b),.sl .view 1 (ss.map (dZ .view)),.sl .view 2 (l.map lS)] (.gM [.agg (aV .own (eH b ss l).1),.str (eH b ss l).2.1,.sl .own 1 ((eH b ss l).2.2.map dC)]):=by
 have c0:=kX b (by omega);have hsz:=Cg 268435456 b ss l (by omega) h6 hx wZ hb;have Ol:=Kz b ss l;have hend:tH b ss l l.length=eH b ss l:=by simp[tH]
 have hz0:tH b ss l 0=(b,[],[]):=rfl;rw[<-hend];clear hend;have cR:=λ(b:bE) (x:jW) (h1:aU b<=274877906944) (h2:x.text.length<=268435456)=>TY b ss x h1 h2 hl hr wZ
 clear hr wZ;generalize tH b ss l=G at*;simp only[aV]at c0;refine bM aG func267 ntmps267 ?_;refine gV ?_;refine aM (ι:={q:Nat×Nat // q.1<=l.length/\1<=q.2}) (λt o i=>⟨bC t [(22,.int .i64 i.1.1),(10,.str (G i.1.1).2.1),(11,.obj 5 i.1.2),(13,.undef),(14,.undef),(15,.undef),(16,.undef),(18,.undef)],o.take 2++[⟨true,false,4,1,(G i.1.1).1.nodes.map (fA .own)⟩,⟨true,false,1,1,(G i.1.1).1.opens.map mM⟩,⟨true,true,2,0,[[.obj 2 1,.obj 3 1]]⟩,⟨true,false,1,i.1.2,(G i.1.1).2.2.map dC⟩]⟩)
  (λi=>l.length-i.1.1) ⟨(0,1),by simp,by simp⟩ (aK (by simp[hz0]) (by simp[hz0])) ?_
 rintro⟨⟨k,v⟩,hk,hv⟩ K1 hK1;simp only at hk hv;simp only[bC,cW,cU,eL,fW,eA,eM]at hK1⊢;have hk1:=oQ (k:=k);by_cases hlt:k<l.length
 .have hg:=aE hlt;have hxk:=hx _ (fS hlt);obtain⟨s1,s2,s3,_⟩:=hsz k hk;have hk6:k*(268435456+1)<=6*(268435456+1):=lE _ (by omega);have hk7:k*268435456<=6*268435456:=lE _ (by omega);have hnext:=Ol k hlt;have cL:=cR (G k).1 l[k] (by omega) hxk;have ht1:=(hsz (k+1) (by omega)).2.1;obtain⟨n1,p1,mw,ms,hR⟩:∃n1 p1 mw ms,bV (G k).1 ss l[k]=(⟨n1,p1⟩,mw,ms):=⟨_,_,_,_,rfl⟩;rw[hR]at cL;simp only[uC,hR]at hnext;rw[hnext]at ht1;clear hR cR hsz Ol hx;generalize hGk:G k=g at*;obtain⟨⟨n0,p0⟩,w0,lg0⟩:=g;simp only at s1 s2 s3 ht1 hnext cL;have hwl:w0.length+mw.length<=1610612736:=by rw[eR]at ht1;have:(k+1)*268435456<=6*268435456:=lE _ (by omega);omega
  have xg:lg0.length<=6:=by omega
  clear s1 s2 s3 ht1;simp only[aV,lS]at cL;by_cases GV:ms=[]
  .rw [eK GV]at hnext;subst GV;have W:=aA hk1 (aA hg hwl);have V:=hlt;refine wl ?_;all_goals refine hK1 _ ⟨(k+1,v),by simp only;omega,by simp only;omega⟩ ?_ (by simp only;omega)
   all_goals exact ow rfl (by simp[hnext]) (by simp) (by simp[hnext]) (by simp) (by simp) (by simp) (by simp) (by simp[dB]) (by simp[dB])
  .rw [cY GV]at hnext;have hmb:ms.isEmpty=false:=by cases ms with|nil=>exact absurd rfl GV|cons _ _=>rfl
   have W:=aA hk1 (aA hg (aA hwl (aA GV (aA hmb xg))));have V:=hlt;refine wl ?_;all_goals refine hK1 _ ⟨(k+1,v+1),by simp only;omega,by simp only;omega⟩ ?_ (by simp only;omega)
   all_goals exact ow rfl (by simp[hnext]) (by simp) (by simp[hnext]) (by simp) (by simp) (by simp) (by simp) (by simp[dB]) (by simp[dB])
 .have hkl:k=l.length:=by omega
  subst hkl;have W:=hk1;refine wl ?_;exact aF results267
theorem En[aB prog][dM prog](b:bE)(ss:List gT)(l:List jW)(hb:aU b<=68719476736)(h6:l.length<=6)(hx:∀x∈l,x.text.length<=268435456)(hl:ss.length<=1099511627776)(hr:∀x∈ss,x.rules.length<=1099511627776)(wZ:∀n,0<=bJ ss n/\bJ ss n<=999):
  Ok prog 184 [.agg (aV .view b),.sl .view 1 (ss.map (dZ .view)),.sl .view 2 (l.map lS)] (.gM [.agg (aV .own (eH b ss l).1),.str (eH b ss l).2.1,.sl .own 1 ((eH b ss l).2.2.map dC)]):=by
 have c0:=kY b (by omega);have hsz:=Cg 268435456 b ss l (by omega) h6 hx wZ hb;have Ol:=Kz b ss l;have hend:tH b ss l l.length=eH b ss l:=by simp[tH]
 have hz0:tH b ss l 0=(b,[],[]):=rfl;rw[<-hend];clear hend;have cR:=λ(b:bE) (x:jW) (h1:aU b<=274877906944) (h2:x.text.length<=268435456)=>TZ b ss x h1 h2 hl hr wZ
 clear hr wZ;generalize tH b ss l=G at*;simp only[aV]at c0;refine bM aG func184 ntmps184 ?_;refine gV ?_;refine aM (ι:={q:Nat×Nat // q.1<=l.length/\1<=q.2}) (λt o i=>⟨bC t [(12,.int .i64 i.1.1),(10,.str (G i.1.1).2.1),(11,.obj 5 i.1.2),(13,.undef),(13,.undef),(14,.undef),(15,.undef),(17,.undef)],o.take 2++[⟨true,false,4,1,(G i.1.1).1.nodes.map (fA .own)⟩,⟨true,false,1,1,(G i.1.1).1.opens.map mM⟩,⟨true,true,2,0,[[.obj 2 1,.obj 3 1]]⟩,⟨true,false,1,i.1.2,(G i.1.1).2.2.map dC⟩]⟩)
  (λi=>l.length-i.1.1) ⟨(0,1),by simp,by simp⟩ (aK (by simp[hz0]) (by simp[hz0])) ?_
 rintro⟨⟨k,v⟩,hk,hv⟩ K1 hK1;simp only at hk hv;simp only[bC,cW,cU,eL,fW,eA,eM]at hK1⊢;have hk1:=oQ (k:=k);by_cases hlt:k<l.length
 .have hg:=aE hlt;have hxk:=hx _ (fS hlt);obtain⟨s1,s2,s3,_⟩:=hsz k hk;have hk6:k*(268435456+1)<=6*(268435456+1):=lE _ (by omega);have hk7:k*268435456<=6*268435456:=lE _ (by omega);have hnext:=Ol k hlt;have cL:=cR (G k).1 l[k] (by omega) hxk;have ht1:=(hsz (k+1) (by omega)).2.1;obtain⟨n1,p1,mw,ms,hR⟩:∃n1 p1 mw ms,bV (G k).1 ss l[k]=(⟨n1,p1⟩,mw,ms):=⟨_,_,_,_,rfl⟩;rw[hR]at cL;simp only[uC,hR]at hnext;rw[hnext]at ht1;clear hR cR hsz Ol hx;generalize hGk:G k=g at*;obtain⟨⟨n0,p0⟩,w0,lg0⟩:=g;simp only at s1 s2 s3 ht1 hnext cL;have hwl:w0.length+mw.length<=1610612736:=by rw[eR]at ht1;have:(k+1)*268435456<=6*268435456:=lE _ (by omega);omega
  have xg:lg0.length<=6:=by omega
  clear s1 s2 s3 ht1;simp only[aV,lS]at cL;by_cases GV:ms=[]
  .rw [eK GV]at hnext;subst GV;have W:=aA hk1 (aA hg hwl);have V:=hlt;refine wl ?_;all_goals refine hK1 _ ⟨(k+1,v),by simp only;omega,by simp only;omega⟩ ?_ (by simp only;omega)
   all_goals exact XV rfl (by simp[hnext]) (by simp) (by simp[hnext]) (by simp) (by simp) (by simp) (by simp) (by simp[dB]) (by simp[dB])
  .rw [cY GV]at hnext;have hmb:ms.isEmpty=false:=by cases ms with|nil=>exact absurd rfl GV|cons _ _=>rfl
   have W:=aA hk1 (aA hg (aA hwl (aA GV (aA hmb xg))));have V:=hlt;refine wl ?_;all_goals refine hK1 _ ⟨(k+1,v+1),by simp only;omega,by simp only;omega⟩ ?_ (by simp only;omega)
   all_goals exact XV rfl (by simp[hnext]) (by simp) (by simp[hnext]) (by simp) (by simp) (by simp) (by simp) (by simp[dB]) (by simp[dB])
 .have hkl:k=l.length:=by omega
  subst hkl;have W:=hk1;refine wl ?_;exact aF results184
def kC(l:List bB)(s:bB):List bB:=if l.length<40 then l++[s]else l
theorem Fu[aB prog][dM prog](p:aI)(s:bB)(hs:p.log.length<=1099511627776):Lf prog 166 [.uN (aJ .own p) (aJ .own {p with log:=kC p.log s}),.view (.str s)] (.gM []):=by
 by_cases h:p.log.length<40
 .have hi:(p.log.length:Int)<40:=by omega
  obtain⟨l1,hl1⟩:∃l,l=p.log++[s]:=⟨_,rfl⟩;have hap:p.log.map dC++[[.str s]]=l1.map dC:=by rw[hl1];simp
  have e:kC p.log s=l1:=by unfold kC;rw[eK h,hl1]
  rw[e];clear e hl1;refine sN aG func166 ntmps166 ?_;have W:=aA hi (aA hap hs);refine wl ?_;all_goals (try exact kP (by simp[gF,dJ,dH,rowOf,results166];done))
 .have hi:¬(p.log.length:Int)<40:=by omega
  have e:kC p.log s=p.log:=by unfold kC;rw[cY h]
  rw[e];clear e;refine sN aG func166 ntmps166 ?_;have W:=hi;refine wl ?_;all_goals (try exact kP (by simp[gF,dJ,dH,rowOf,results166];done))
def zJ(q:aI):List aN:=[⟨true,false,1,1,q.bD.fC.map dC⟩,⟨true,false,1,1,q.bD.gY.map dC⟩,⟨true,false,1,1,q.bD.gZ.map dC⟩,⟨true,false,4,1,q.queue.map (cB .own)⟩,⟨true,false,4,1,q.builder.nodes.map (fA .own)⟩,⟨true,false,1,1,q.builder.opens.map mM⟩,⟨true,false,8,1,q.aC.map vH⟩,⟨true,false,5,1,q.aO.map eY⟩,⟨true,false,2,1,q.entries.map aH⟩,⟨true,false,2,1,q.uA.map aH⟩,⟨true,false,1,1,q.log.map dC⟩]
def zK(b:Nat)(q:aI):List AV:=[.str q.addr.host,.str q.addr.path,.bool q.bD.isSet,.obj b 1,.obj (b+1) 1,.obj (b+2) 1,.str q.bD.tQ,.str q.tok.rest,.obj (b+3) 1,.bool q.ended,.obj (b+4) 1,.obj (b+5) 1,.obj (b+6) 1,.obj (b+7) 1,.obj (b+8) 1,.int .i64 q.block,.int .i64 q.inline,.int .i64 q.deferred,.int .i64 q.iC,.obj (b+9) 1,.obj (b+10) 1,.bool q.pF]
def Oq:List (Nat×Nat):=[(1,17),(2,18),(3,19),(4,20),(5,21),(6,22),(7,23),(8,24),(9,25),(10,26),(11,27)]
theorem aHx{t t':List AV}{o o':List aN}{n1 v1 n2 v2 n3 v3 n4 v4 n5 v5 n6 v6 n7 v7 n8 v8 n9 v9 n10 v10 n11 v11:Nat}{e1 e2 e3 e4 e5 e6 e7 e8 e9 xh e11:List (List AV)}{o12 o13 o14 o15 o16:aN}{q:aI}(ho:o=[⟨true,true,22,2,[zK 17 q]⟩,⟨false,false,n1,v1,e1⟩,⟨false,false,n2,v2,e2⟩,⟨false,false,n3,v3,e3⟩,⟨false,false,n4,v4,e4⟩,⟨false,false,n5,v5,e5⟩,⟨false,false,n6,v6,e6⟩,⟨false,false,n7,v7,e7⟩,⟨false,false,n8,v8,e8⟩,⟨false,false,n9,v9,e9⟩,⟨false,false,n10,v10,xh⟩,⟨false,false,n11,v11,e11⟩,o12,o13,o14,o15,o16]++zJ q)
  (ho':o'=[⟨true,true,22,2,[zK 1 q]⟩]++zJ q++[o12,o13,o14,o15,o16]) (ht:∀z∈Oq,wk (rP z.1 z.2 t') t') (hf:∀z∈Oq,o12.lV z.1 z.2=o12/\o13.lV z.1 z.2=o13/\o14.lV z.1 z.2=o14/\o15.lV z.1 z.2=o15/\o16.lV z.1 z.2=o16) (hw:wk t t') (hc:eP 17 t'=true) (hc0:dB 17 [o12,o13,o14,o15,o16]=true):lC ⟨t,o⟩ ⟨t',o'⟩:=by
 subst ho;subst ho';have e:=λi j (h:(i,j)∈Oq)=>hf (i,j) h
 have h:=λi j (h:(i,j)∈Oq)=>ht (i,j) h
 simp only[zJ,zK,eA,eM];refine(wN hw).trans ?_;refine(aS 1 17 rfl rfl ⟨rfl,rfl⟩ (by simp[(e 1 17 (by decide))];rfl) (h 1 17 (by decide))).trans ?_;refine(aS 2 18 rfl rfl ⟨rfl,rfl⟩ (by simp[(e 2 18 (by decide))];rfl) (h 2 18 (by decide))).trans ?_;refine(aS 3 19 rfl rfl ⟨rfl,rfl⟩ (by simp[(e 3 19 (by decide))];rfl) (h 3 19 (by decide))).trans ?_;refine(aS 4 20 rfl rfl ⟨rfl,rfl⟩ (by simp[(e 4 20 (by decide))];rfl) (h 4 20 (by decide))).trans ?_;refine(aS 5 21 rfl rfl ⟨rfl,rfl⟩ (by simp[(e 5 21 (by decide))];rfl) (h 5 21 (by decide))).trans ?_;refine(aS 6 22 rfl rfl ⟨rfl,rfl⟩ (by simp[(e 6 22 (by decide))];rfl) (h 6 22 (by decide))).trans ?_;refine(aS 7 23 rfl rfl ⟨rfl,rfl⟩ (by simp[(e 7 23 (by decide))];rfl) (h 7 23 (by decide))).trans ?_;refine(aS 8 24 rfl rfl ⟨rfl,rfl⟩ (by simp[(e 8 24 (by decide))];rfl) (h 8 24 (by decide))).trans ?_;refine(aS 9 25 rfl rfl ⟨rfl,rfl⟩ (by simp[(e 9 25 (by decide))];rfl) (h 9 25 (by decide))).trans ?_;refine(aS 10 26 rfl rfl ⟨rfl,rfl⟩ (by simp[(e 10 26 (by decide))];rfl) (h 10 26 (by decide))).trans ?_;refine(aS 11 27 rfl rfl ⟨rfl,rfl⟩ (by simp[(e 11 27 (by decide))];rfl) (h 11 27 (by decide))).trans ?_;refine aT 17 (by simp) (lK _) hc ?_;simpa [dB,eP,closed]using hc0
theorem aL2{t t':List AV}{o o' o1 o2:List aN}{a b c d e:aN}(h5:o[5]? =some a)(h14:o[14]? =some b)(hb:a.box=false/\b.box=false)(e1:((o.set 5 b).set 14 a).map (aN.lV 5 14)=o1)(h6:o1[6]? =some c)(h15:o1[15]? =some d)(hd:c.box=false/\d.box=false)(e2:((o1.set 6 d).set 15 c).map (aN.lV 6 15)=o2)(h12:o2[12]? =some e)(e3:o2.set 12 ⟨false,false,0,e.bU,[]⟩=o')(w1:wk (rP 5 14 t) t')(w2:wk (rP 6 15 t') t'):lC ⟨t,o⟩ ⟨t',o'⟩:=
 (aS 5 14 h5 h14 hb e1 w1).trans ((aS 6 15 h6 h15 hd e2 w2).trans (XY 12 h12 e3 (lK _)))
def nP(l ss:List bB):List bB:=ss.foldl kC l
theorem Hf(l ss:List bB)(k:Nat)(h:k<ss.length):nP l (ss.take (k+1))=kC (nP l (ss.take k)) ss[k]:=by unfold nP;rw[eJ h,GB];rfl
theorem KA(l:List bB):∀ss:List bB,(nP l ss).length<=l.length+ss.length:=by
 intro ss;induction ss generalizing l with
 |nil=>simp[nP]
 |cons s ss ih=>
  have h1:(kC l s).length<=l.length+1:=by unfold kC;split<;>simp
  have h2:=ih (kC l s);have e:nP l (s::ss)=nP (kC l s) ss:=rfl;rw[e];simp only[eN];omega
def lX(p:aI)(l:List jW)(w:Bool):aI:=
 {p with builder:=(eH p.builder (dG p) l).1,log:=nP p.log (eH p.builder (dG p) l).2.2,queue:=if w=true then vS (eH p.builder (dG p) l).2.1++p.queue else p.queue}
theorem XZ{α:Type}{f:α->Option Int}{l:List α}{k:Nat}{v:Int}(h:look f l k=some v):∃x∈l,f x=some v:=by unfold look at h;obtain⟨x,hx,hv⟩:=exists_of_findSome?_eq_some h;exact⟨x,sE (mem_reverse.1 hx),hv⟩
theorem M6{q:bB}{r:FM}(h:vQ q=some r):1<=r.color/\r.color<=999:=by
 unfold vQ at h;split at h
 .split at h
  .rename_i hc;obtain rfl:=cQ h;exact hc.2
  .cases h
 .cases h
theorem xU(p:aI)(n:bB):0<=bJ (dG p) n/\bJ (dG p) n<=999:=by
 unfold bJ;cases h:look (zR n) (dG p) (dG p).length with
 |none=>simp
 |some v=>
  obtain⟨s,hs,hv⟩:=XZ h;unfold zR at hv;obtain⟨r,hr,OX⟩:=XZ hv;unfold Jt at OX;split at OX
  .obtain rfl:=cQ OX;unfold dG nY at hs;obtain⟨y,_,rfl⟩:=AG.1 hs;have h1:=sE hr;obtain⟨q,_,hq⟩:=mem_filterMap.1 h1;have:=M6 hq;simp only[sL];omega
  .cases OX
theorem DJ(p:aI):(dG p).length<=p.aC.length/\∀x∈dG p,x.rules.length<=8:=by refine⟨Fp _,?_⟩;intro x hx;unfold dG nY at hx;obtain⟨y,_,rfl⟩:=AG.1 hx;exact oo (dE 59 y.body)
theorem aH0{s:bB}(h:cZ s=true):s.length<=8:=by simp only[cZ,eI,fN]at h;omega
theorem Cj{s:bB}{op:Nat}{v:jW×Bool}(h:lW s op=some v)(hb:v.2=true):v.1.text.length<=60:=by
 unfold lW at h;split at h
 .obtain rfl:=cQ h;simp only at hb⊢;unfold iG at hb;split at hb
  .simpa using hb
  .have:=aH0 hb;omega
 .cases h
theorem Zw{α:Type}{a b:Option α}{v:α}(h:a.or b=some v):a=some v\/b=some v:=by
 cases a with
 |none=>exact .inr (by simpa using h)
 |some x=>exact .inl (by simpa using h)
theorem Wm(p:bB)(h:(dA p).2=true):(dA p).1.text.length<=60:=by
 unfold dA at h⊢;cases hv:((((lW p 1).or (lW p 2)).or (lW p 3)).or (lW p 4)).or (lW p 5)with
 |none=>simp
 |some v=>
  rw[hv]at h;simp only[sL]at h⊢;rcases Zw hv with hv|hv
  .rcases Zw hv with hv|hv
   .rcases Zw hv with hv|hv
    .rcases Zw hv with hv|hv
     .exact Cj hv h
     .exact Cj hv h
    .exact Cj hv h
   .exact Cj hv h
  .exact Cj hv h
theorem Ad(s:bB):(fZ s).1.length<=6/\∀x∈(fZ s).1,x.text.length<=60:=by
 unfold fZ;split
 .simp
 .split
  .rename_i h;refine⟨by simpa using h.2,?_⟩;intro x hx;obtain⟨p,hp,rfl⟩:=AG.1 hx;exact Wm p (fR.1 h.1 p hp)
  .simp
theorem Zx[aB prog](b:bE)(m:bB)(hs:aU b<=274877906944):Lf prog 246 [.oN (.agg (aV .own b)),.view (.str m)] (.agg (aV .own {b with opens:=qM b m (b.opens.length-1)})):=by
 have hn:b.nodes.length<=274877906944/\b.opens.length<=274877906944:=by simp only[aU,bP]at hs;omega
 have Ta:i64.wrap ((b.opens.length:Int)-1)=(b.opens.length:Int)-1:=by rw[wrap64]<;>omega
 have hw1:i64.wrap ((b.nodes.length:Int)-1)=(b.nodes.length:Int)-1:=by rw[wrap64]<;>omega
 have cI:=λn lo hi=>gH n lo hi
 refine sN aG func246 ntmps246 ?_;have W:=Ta;refine we ?_;refine aM (ι:={q:Int // -1<=q/\q<(b.opens.length:Int)/\qM b m q.toNat=qM b m (b.opens.length-1)}) (λt o i=>⟨bC t [(5,.int .i64 i.1),(6,.undef)],o⟩) (λi=>i.1.toNat) ⟨(b.opens.length:Int)-1,by omega,by omega,by congr 1;omega⟩ aK ?_;rintro⟨q,hq1,hq2,TI⟩ K1 hK1;simp only[bC,cW,cU]at hK1⊢;by_cases h1:(0:Int)<q
 .obtain ⟨k,rfl⟩:∃k:Nat,q=((k+1:Nat):Int):=⟨(q-1).toNat,by omega⟩;have hlt:k+1<b.opens.length:=by omega
  have hg:=aE hlt;have V3:i64.wrap (((k+1:Nat):Int)-1)=((k:Nat):Int):=by rw[wrap64]<;>omega
  rw[show(((k+1:Nat):Int)).toNat=k+1 from by omega]at TI;generalize RO:b.opens[k+1]=n at*;cases hh:yU b m n
  .rw [Mm hg hh]at TI;by_cases h01:0<=n/\n<(b.nodes.length:Int)
   .obtain ⟨z,rfl⟩:=mS h01.1;have hm:z<b.nodes.length:=by omega
    rw[Rm hm]at hh;have hgm:=aE hm;have hne:(b.nodes[z].name == m)=false:=by simpa using hh
    have c1:=cI ((z:Nat):Int) 0 ((b.nodes.length:Int)-1);rw[show(decide ((0:Int)<=((z:Nat):Int))&&decide (((z:Nat):Int)<=(b.nodes.length:Int)-1))=true from by simp;omega]at c1;have W:=aA hg (aA V3 (aA hw1 (aA hgm (aA hm (aA hne (aA h1 hn))))));have V:=hlt;refine we ?_;all_goals exact hK1 _ ⟨((k:Nat):Int),by omega,by omega,by simpa using TI⟩ aK (by first|omega|(simp only;omega)|(simp;omega))
   .have c1:=cI n 0 ((b.nodes.length:Int)-1);rw[show(decide ((0:Int)<=n)&&decide (n<=(b.nodes.length:Int)-1))=false from by simp;omega]at c1;have W:=aA hg (aA V3 (aA hw1 (aA h1 hn)));have V:=hlt;refine we ?_;all_goals exact hK1 _ ⟨((k:Nat):Int),by omega,by omega,by simpa using TI⟩ aK (by first|omega|(simp only;omega)|(simp;omega))
  .rw [PO hg hh]at TI;have h01:0<=n/\n<(b.nodes.length:Int):=sX λh=>by rw[qd h]at hh;cases hh
   obtain⟨z,rfl⟩:=mS h01.1;have hm:z<b.nodes.length:=by omega
   rw[Rm hm]at hh;have hgm:=aE hm;have hne:(b.nodes[z].name == m)=true:=by simpa using hh
   have c1:=cI ((z:Nat):Int) 0 ((b.nodes.length:Int)-1);rw[show(decide ((0:Int)<=((z:Nat):Int))&&decide (((z:Nat):Int)<=(b.nodes.length:Int)-1))=true from by simp;omega]at c1;rw[<-TI];have W:=aA hg (aA V3 (aA hw1 (aA hgm (aA hm (aA hne (aA h1 hn))))));have V:=hlt;refine we ?_;all_goals try(refine⟨by first|exact .inr rfl|exact .inl rfl,?_⟩;simp[gF,dJ,dH,rowOf,results246,map_take])
   all_goals (rw[<-map_take];exact Sz _)
 .have hq4:qM b m (b.opens.length-1)=b.opens:=by rw[<-TI,show q.toNat=0 by omega];rfl
  rw[hq4];have W:=h1;refine we ?_;all_goals (try exact kP (by simp[gF,dJ,dH,rowOf,results246];done))
theorem qi(s b:bB):aQ (bY s b).1<=s.length+b.length:=by have h:=vI 47 s;unfold bY addrOf;split<;>split<;>simp[aQ,xD]<;>omega
def addEntry(p:aI)(tx:bB):aI:=
 if (bY tx p.addr.host).2=false\/20<=p.entries.length then p else {eT p (bY tx p.addr.host).1 with entries:=p.entries++[(bY tx p.addr.host).1]}
theorem qj(p:aI)(a:aD)(e:List aD):eT {p with entries:=e} a={eT p a with entries:=e}:=by
 unfold eT;simp only;split
 .split<;>rfl
 .rfl
theorem aC1(p:aI)(a:aD):(eT p a).entries=p.entries:=by
 unfold eT;split
 .split<;>rfl
 .rfl
theorem Qx[aB prog](p:aI)(tx:bB)(hs:aL p<=536870914)(hto:tx.length<=536870914):Ok prog 273 [.agg (aJ .view p),.str tx] (.agg (aJ .own (addEntry p tx))):=by
 have hsl:p.addr.host.length<=536870914:=by simp only[aL,aQ]at hs;omega
 have Ov:p.entries.length<=536870914:=by simp only[aL,bP]at hs;omega
 have c1:=iI p (by omega);have c3:=zP tx p.addr.host (by omega);have hsz:=qi tx p.addr.host;unfold addEntry;generalize bY tx p.addr.host=pa at*;obtain⟨a,ok⟩:=pa;simp only at c3 hsz⊢;have c4:=Ex {p with entries:=p.entries++[a]} a (by simp only[aL,bP,eR,jE,aY,eN,eV]at hs⊢;omega) (by omega);rw[qj]at c4;obtain⟨l1,hl1⟩:∃l,l=p.entries++[a]:=⟨_,rfl⟩;have hap:p.entries.map aH++[[.str a.host,.str a.path]]=l1.map aH:=by rw[hl1];simp
 rw[<-hl1]at c4⊢;clear hl1;generalize eT p a=g at*;simp only[aJ,aH]at c1 c3 c4;cases ok
 .simp only[true_or,gE];refine bM aG func273 ntmps273 ?_;refine aZ ?_;exact aF results273
 .by_cases IY:20<=p.entries.length
  .have M9:(20:Int)<=(p.entries.length:Int):=by omega
   simp only[IY,or_true,gE];refine bM aG func273 ntmps273 ?_;have W:=M9;refine we ?_;exact aF results273
  .have M9:¬(20:Int)<=(p.entries.length:Int):=by omega
   rw[cY (by rintro(h|h);cases h;exact IY h)];refine bM aG func273 ntmps273 ?_;have W:=aA M9 hap;refine we ?_;exact aF results273
theorem Qy[aB prog](p:aI)(tx:bB)(hs:aL p<=536870914)(hto:tx.length<=536870914):Ok prog 250 [.agg (aJ .view p),.str tx] (.agg (aJ .own (addEntry p tx))):=by
 have hsl:p.addr.host.length<=536870914:=by simp only[aL,aQ]at hs;omega
 have Ov:p.entries.length<=536870914:=by simp only[aL,bP]at hs;omega
 have c1:=gK p (by omega);have c3:=zO tx p.addr.host (by omega);have hsz:=qi tx p.addr.host;unfold addEntry;generalize bY tx p.addr.host=pa at*;obtain⟨a,ok⟩:=pa;simp only at c3 hsz⊢;have c4:=Ey p a (by omega) (by omega);have hke:=aC1 p a;obtain⟨l1,hl1⟩:∃l,l=p.entries++[a]:=⟨_,rfl⟩;have hap:p.entries.map aH++[[.str a.host,.str a.path]]=l1.map aH:=by rw[hl1];simp
 rw[<-hl1];clear hl1;generalize eT p a=g at*;simp only[aJ,aH]at c1 c3 c4;rw[hke]at c4;cases ok
 .simp only[true_or,gE];refine bM aG func250 ntmps250 ?_;refine aZ ?_;exact aF results250
 .by_cases IY:20<=p.entries.length
  .have M9:(20:Int)<=(p.entries.length:Int):=by omega
   simp only[IY,or_true,gE];refine bM aG func250 ntmps250 ?_;have W:=M9;refine we ?_;exact aF results250
  .have M9:¬(20:Int)<=(p.entries.length:Int):=by omega
   rw[cY (by rintro(h|h);cases h;exact IY h)];refine bM aG func250 ntmps250 ?_;have W:=aA M9 hap;refine we ?_;exact aF results250
theorem KE[aB prog](p:aI)(s:bB)(hs:p.log.length<=1099511627776):Lf prog 129 [.oN (.agg (aJ .own p)),.view (.str s)] (.agg (aJ .own {p with log:=kC p.log s})):=by
 by_cases h:p.log.length<40
 .have hi:(p.log.length:Int)<40:=by omega
  obtain⟨l1,hl1⟩:∃l,l=p.log++[s]:=⟨_,rfl⟩;have hap:p.log.map dC++[[.str s]]=l1.map dC:=by rw[hl1];simp
  have e:kC p.log s=l1:=by unfold kC;rw[eK h,hl1]
  rw[e];clear e hl1;refine sN aG func129 ntmps129 ?_;have W:=aA hi (aA hap hs);refine we ?_;all_goals (try exact kP (by simp[gF,dJ,dH,rowOf,results129];done))
 .have hi:¬(p.log.length:Int)<40:=by omega
  have e:kC p.log s=p.log:=by unfold kC;rw[cY h]
  rw[e];clear e;refine sN aG func129 ntmps129 ?_;have W:=hi;refine we ?_;all_goals (try exact kP (by simp[gF,dJ,dH,rowOf,results129];done))
theorem Ms[aB prog](a:aD)(hl:aQ a<=1099511627776):Ok prog 192 [.agg (aH a)] (.str (mQ a)):=by
 have c1:=rW a (by omega);simp only[aQ]at hl;have f1:a.host.length<=9223372036854775806:=by omega
 have f2:a.host.length+1<=9223372036854775807:=by omega
 have f3:a.host.length+1+a.path.length<=9223372036854775807:=by omega
 have f4:a.host.length+(a.path.length+1)<=9223372036854775807:=by omega
 refine bM aG func192 ntmps192 ?_;have W:=aA f1 (aA f2 (aA f3 f4));repeat' first|refine wg ?_|(refine sq ?_ ?_<;>intro hc<;>try exact hc.elim)|fail
 all_goals try(refine aR ?_;simp[aP,results192,mQ])
 all_goals simp_all[mQ]
theorem Cw(a:aD):(mQ a).length<=17:=by
 unfold mQ;split
 .rename_i h;simp[pG,cZ]at h;simp;omega
 .simp
theorem Mt[aB prog](a:aD)(hl:aQ a<=1099511627776):Ok prog 218 [.agg (aH a)] (.str (mQ a)):=by
 have c1:=rX a (by omega);simp only[aQ]at hl;have f1:a.host.length<=9223372036854775806:=by omega
 have f2:a.host.length+1<=9223372036854775807:=by omega
 have f3:a.host.length+1+a.path.length<=9223372036854775807:=by omega
 have f4:a.host.length+(a.path.length+1)<=9223372036854775807:=by omega
 refine bM aG func218 ntmps218 ?_;have W:=aA f1 (aA f2 (aA f3 f4));repeat' first|refine wg ?_|(refine sq ?_ ?_<;>intro hc<;>try exact hc.elim)|fail
 all_goals try(refine aR ?_;simp[aP,results218,mQ])
 all_goals simp_all[mQ]
@[simp] theorem aQk(i j:Nat)(l:List xS):qV i j (l.map mP)=l.map mP:=qZ (λ_=>rfl) l
@[simp] theorem aJy(i j:Nat)(l:List fU):qV i j (l.map (bX .view))=l.map (bX .view):=qZ (λ_=>by simp) l
@[simp] theorem aNs(i j:Nat)(l:List fH):qV i j (l.map fP)=l.map fP:=qZ (λ_=>rfl) l
@[simp] theorem aQl(i j:Nat)(l:List tT):qV i j (l.map jL)=l.map jL:=qZ (λ_=>rfl) l
def xk(m:kU):List aN:=[⟨true,false,2,1,m.gD.map (bX .own)⟩,⟨true,false,10,1,m.cache.entries.map fP⟩,⟨true,false,4,1,m.log.map jL⟩]
def xm(b:Nat)(m:kU):List AV:=[.obj b 1,.obj (b+1) 1,.obj (b+2) 1,.int .i64 m.now]
def zX:List (Nat×Nat):=[(4,23),(5,24),(6,25),(10,26),(11,27),(12,28),(13,29),(14,30),(15,31),(16,32),(17,33),(18,34),(19,35),(20,36)]
theorem aI1{t t':List AV}{o o':List aN}{l1 l2 l3 l4 l5 l6 l7 l8 l9 l10 l11 l12 l13 l14:Bool}{u1 u2 n1 v1 n2 v2 n3 v3 n4 v4 n5 v5 n6 v6 n7 v7 n8 v8 n9 v9 n10 v10 n11 v11 n12 v12 n13 v13 n14 v14:Nat}{e1 e2 e3 e4 e5 e6 e7 e8 e9 xh e11 e12 e13 e14:List (List AV)}{g0 g1 g2 g3 g4 z0 z1:aN}{m:kU}{q:aI}(ho:o=[g0,g1,g2,g3,⟨l1,false,n1,v1,e1⟩,⟨l2,false,n2,v2,e2⟩,⟨l3,false,n3,v3,e3⟩,⟨true,true,4,u1,[xm 23 m]⟩,g4,⟨true,true,22,u2,[zK 26 q]⟩,⟨l4,false,n4,v4,e4⟩,⟨l5,false,n5,v5,e5⟩,⟨l6,false,n6,v6,e6⟩,⟨l7,false,n7,v7,e7⟩,⟨l8,false,n8,v8,e8⟩,⟨l9,false,n9,v9,e9⟩,⟨l10,false,n10,v10,xh⟩,⟨l11,false,n11,v11,e11⟩,⟨l12,false,n12,v12,e12⟩,⟨l13,false,n13,v13,e13⟩,⟨l14,false,n14,v14,e14⟩,z0,z1]++xk m++zJ q)
  (ho':o'=[g0,g1,g2,g3]++xk m++[⟨true,true,4,u1,[xm 4 m]⟩,g4,⟨true,true,22,u2,[zK 10 q]⟩]++zJ q) (ht:∀z∈zX,wk (rP z.1 z.2 t') t') (hf:∀z∈zX,g0.lV z.1 z.2=g0/\g1.lV z.1 z.2=g1/\g2.lV z.1 z.2=g2/\g3.lV z.1 z.2=g3/\g4.lV z.1 z.2=g4) (hw:wk t t') (hc:eP 21 t'=true) (hc0:dB 21 [g0,g1,g2,g3,g4]=true):lC ⟨t,o⟩ ⟨t',o'⟩:=by
 subst ho;subst ho';have e:=λi j (h:(i,j)∈zX)=>hf (i,j) h
 have h:=λi j (h:(i,j)∈zX)=>ht (i,j) h
 simp only[xk,xm,zJ,zK,eA,eM,fX];refine(wN hw).trans ?_;refine(aS 4 23 rfl rfl ⟨rfl,rfl⟩ (by simp[(e 4 23 (by decide))];rfl) (h 4 23 (by decide))).trans ?_;refine(aS 5 24 rfl rfl ⟨rfl,rfl⟩ (by simp[(e 5 24 (by decide))];rfl) (h 5 24 (by decide))).trans ?_;refine(aS 6 25 rfl rfl ⟨rfl,rfl⟩ (by simp[(e 6 25 (by decide))];rfl) (h 6 25 (by decide))).trans ?_;refine(aS 10 26 rfl rfl ⟨rfl,rfl⟩ (by simp[(e 10 26 (by decide))];rfl) (h 10 26 (by decide))).trans ?_;refine(aS 11 27 rfl rfl ⟨rfl,rfl⟩ (by simp[(e 11 27 (by decide))];rfl) (h 11 27 (by decide))).trans ?_;refine(aS 12 28 rfl rfl ⟨rfl,rfl⟩ (by simp[(e 12 28 (by decide))];rfl) (h 12 28 (by decide))).trans ?_;refine(aS 13 29 rfl rfl ⟨rfl,rfl⟩ (by simp[(e 13 29 (by decide))];rfl) (h 13 29 (by decide))).trans ?_;refine(aS 14 30 rfl rfl ⟨rfl,rfl⟩ (by simp[(e 14 30 (by decide))];rfl) (h 14 30 (by decide))).trans ?_;refine(aS 15 31 rfl rfl ⟨rfl,rfl⟩ (by simp[(e 15 31 (by decide))];rfl) (h 15 31 (by decide))).trans ?_;refine(aS 16 32 rfl rfl ⟨rfl,rfl⟩ (by simp[(e 16 32 (by decide))];rfl) (h 16 32 (by decide))).trans ?_;refine(aS 17 33 rfl rfl ⟨rfl,rfl⟩ (by simp[(e 17 33 (by decide))];rfl) (h 17 33 (by decide))).trans ?_;refine(aS 18 34 rfl rfl ⟨rfl,rfl⟩ (by simp[(e 18 34 (by decide))];rfl) (h 18 34 (by decide))).trans ?_;refine(aS 19 35 rfl rfl ⟨rfl,rfl⟩ (by simp[(e 19 35 (by decide))];rfl) (h 19 35 (by decide))).trans ?_
 refine(aS 20 36 rfl rfl ⟨rfl,rfl⟩ (by simp[(e 20 36 (by decide))];rfl) (h 20 36 (by decide))).trans ?_;refine aT 21 (by simp) (lK _) hc ?_;simpa [dB,eP,closed,GF]using hc0
def zY:List (Nat×Nat):=[(0,20),(1,21),(2,22),(3,23),(4,24),(5,25),(6,26),(7,27),(8,28),(9,29),(10,30),(11,31),(12,32),(13,33)]
theorem aI2{t t':List AV}{o o':List aN}{l1 l2 l3 l4 l5 l6 l7 l8 l9 l10 l11 l12 l13 l14:Bool}{u1 u2 n1 v1 n2 v2 n3 v3 n4 v4 n5 v5 n6 v6 n7 v7 n8 v8 n9 v9 n10 v10 n11 v11 n12 v12 n13 v13 n14 v14:Nat}{e1 e2 e3 e4 e5 e6 e7 e8 e9 xh e11 e12 e13 e14:List (List AV)}{g0 g1 z0 z1:aN}{m:kU}{q:aI}(ho:o=[⟨l1,false,n1,v1,e1⟩,⟨l2,false,n2,v2,e2⟩,⟨l3,false,n3,v3,e3⟩,⟨l4,false,n4,v4,e4⟩,⟨l5,false,n5,v5,e5⟩,⟨l6,false,n6,v6,e6⟩,⟨l7,false,n7,v7,e7⟩,⟨l8,false,n8,v8,e8⟩,⟨l9,false,n9,v9,e9⟩,⟨l10,false,n10,v10,xh⟩,⟨l11,false,n11,v11,e11⟩,⟨l12,false,n12,v12,e12⟩,⟨l13,false,n13,v13,e13⟩,⟨l14,false,n14,v14,e14⟩,⟨true,true,4,u1,[xm 20 m]⟩,⟨true,true,22,u2,[zK 23 q]⟩,g0,g1,z0,z1]++xk m++zJ q)
  (ho':o'=xk m++zJ q++[⟨true,true,4,u1,[xm 0 m]⟩,⟨true,true,22,u2,[zK 3 q]⟩,g0,g1]) (ht:∀z∈zY,wk (rP z.1 z.2 t') t') (hf:∀z∈zY,g0.lV z.1 z.2=g0/\g1.lV z.1 z.2=g1) (hw:wk t t') (hc:eP 18 t'=true) (hc0:dB 18 [g0,g1]=true):lC ⟨t,o⟩ ⟨t',o'⟩:=by
 subst ho;subst ho';have e:=λi j (h:(i,j)∈zY)=>hf (i,j) h
 have h:=λi j (h:(i,j)∈zY)=>ht (i,j) h
 simp only[xk,xm,zJ,zK,eA,eM,fX];refine(wN hw).trans ?_;refine(aS 0 20 rfl rfl ⟨rfl,rfl⟩ (by simp[(e 0 20 (by decide))];rfl) (h 0 20 (by decide))).trans ?_;refine(aS 1 21 rfl rfl ⟨rfl,rfl⟩ (by simp[(e 1 21 (by decide))];rfl) (h 1 21 (by decide))).trans ?_;refine(aS 2 22 rfl rfl ⟨rfl,rfl⟩ (by simp[(e 2 22 (by decide))];rfl) (h 2 22 (by decide))).trans ?_;refine(aS 3 23 rfl rfl ⟨rfl,rfl⟩ (by simp[(e 3 23 (by decide))];rfl) (h 3 23 (by decide))).trans ?_;refine(aS 4 24 rfl rfl ⟨rfl,rfl⟩ (by simp[(e 4 24 (by decide))];rfl) (h 4 24 (by decide))).trans ?_;refine(aS 5 25 rfl rfl ⟨rfl,rfl⟩ (by simp[(e 5 25 (by decide))];rfl) (h 5 25 (by decide))).trans ?_;refine(aS 6 26 rfl rfl ⟨rfl,rfl⟩ (by simp[(e 6 26 (by decide))];rfl) (h 6 26 (by decide))).trans ?_;refine(aS 7 27 rfl rfl ⟨rfl,rfl⟩ (by simp[(e 7 27 (by decide))];rfl) (h 7 27 (by decide))).trans ?_;refine(aS 8 28 rfl rfl ⟨rfl,rfl⟩ (by simp[(e 8 28 (by decide))];rfl) (h 8 28 (by decide))).trans ?_;refine(aS 9 29 rfl rfl ⟨rfl,rfl⟩ (by simp[(e 9 29 (by decide))];rfl) (h 9 29 (by decide))).trans ?_;refine(aS 10 30 rfl rfl ⟨rfl,rfl⟩ (by simp[(e 10 30 (by decide))];rfl) (h 10 30 (by decide))).trans ?_;refine(aS 11 31 rfl rfl ⟨rfl,rfl⟩ (by simp[(e 11 31 (by decide))];rfl) (h 11 31 (by decide))).trans ?_;refine(aS 12 32 rfl rfl ⟨rfl,rfl⟩ (by simp[(e 12 32 (by decide))];rfl) (h 12 32 (by decide))).trans ?_;refine(aS 13 33 rfl rfl ⟨rfl,rfl⟩ (by simp[(e 13 33 (by decide))];rfl) (h 13 33 (by decide))).trans ?_
 refine aT 18 (by simp) (lK _) hc ?_;simpa [dB,eP,closed,GF]using hc0
end Go.Proofs.YthddijamfbfibaaGreatDoor
