/- Proved here: steps towards the statement of this claim. No condition. -/
import Derived.Test.YtfbefblglejcaaaGreatDoorZQCTK
import Derived.Test.YtfbefblglejcaaaGreatDoorZTKA
set_option linter.all false
set_option maxRecDepth 8000
set_option maxHeartbeats 8000000
namespace Go.Proofs.YtfbefblglejcaaaGreatDoor
open Go.Aw Proofs.Tryz List IntKind
structure Qm(n e s:Nat)(q:aG): Prop where
  at_:kW q
  ga:nY q <= n
  en:Cn q <= e
  sl:q.aB.length <= s
theorem Qm.up{n e s n2 e2:Nat}{q:aG}(h:Qm n e s q)(h1:n<=n2)(h2:e<=e2):Qm n2 e2 s q:=⟨h.at_,kO h.ga h1,kO h.en h2,h.sl⟩
theorem Qm.sz{n e s:Nat}{q:aG}(h:Qm n e s q):aI q<=n/\bQ bK q.aN+bQ aR q.entries<=e:=by have h1:=h.ga;have h2:=h.en;have h3:=(Cm q).1;simp only[nY,Cn]at h1 h2;omega
theorem Yq{n e s:Nat}{q:aG}(h:Qm n e s q)(hn:n<=500000000)(he:e<=16777216)(Iy:20<=s):Qm (n+721) e s (wV q).1:=by
 obtain⟨h1,h2⟩:=h.sz;have h3:Dj q (wV q).1:=by
  unfold wV;split
  .exact Oa q (by omega) h.at_
  .exact TS q (by omega) (by omega) h.at_
 obtain⟨g1,g2,g3,g4⟩:=h3;have h4:=h.ga;have h5:=h.en;have h6:=h.sl;exact⟨g1,by omega,by omega,by omega⟩
theorem U9{e s:Nat}(he:e<=16777216)(Iy:20<=s):∀(m n:Nat) (q:aG),Qm n e s q->n+721*m<=500000000->Qm (n+721*m) e s (qA m q)
 |0,n,q,h,_=>h.up (by omega) (eE _)
 |m+1,n,q,h,hk=>by
  unfold qA;split
  .exact (U9 he Iy m (n+721) _ (Yq h (by omega) he Iy) (by omega)).up (by omega) (eE _)
  .exact h.up (by omega) (eE _)
theorem Ua{n e s:Nat}{q:aG}(h:Qm n e s q)(hn:n+1442000<=500000000)(he:e<=16777216)(Iy:20<=s):Qm (n+1442000) e s (advance q):=by have:=U9 he Iy 2000 n q h (by omega);exact this
theorem Vn(p:aG)(k:Int)(x:aZ):(iL p k x).builder=p.builder/\(iL p k x).queue=p.queue/\(iL p k x).log=p.log/\(iL p k x).aN=p.aN/\(iL p k x).tX=p.tX/\(iL p k x).entries=p.entries:=by
 unfold iL;split
 .split
  .split<;>exact⟨rfl,rfl,rfl,rfl,rfl,rfl⟩
  .exact ⟨rfl,rfl,rfl,rfl,rfl,rfl⟩
 .exact ⟨rfl,rfl,rfl,rfl,rfl,rfl⟩
theorem Px(p:aG)(a:aK)(x:aZ):∀k,(gZ p a x k).builder=p.builder/\(gZ p a x k).queue=p.queue/\(gZ p a x k).log=p.log/\(gZ p a x k).aN=p.aN/\(gZ p a x k).tX=p.tX/\(gZ p a x k).entries=p.entries
 |0=>⟨rfl,rfl,rfl,rfl,rfl,rfl⟩
 |k+1=>by
  obtain⟨i1,i2,i3,i4,i5,i6⟩:=Px p a x k;simp only[gZ];split
  .split
   .obtain ⟨r1,r2,r3,r4,r5,r6⟩:=Vn (gZ p a x k) k x;exact⟨r1.trans i1,r2.trans i2,r3.trans i3,r4.trans i4,r5.trans i5,r6.trans i6⟩
   .exact ⟨i1,i2,i3,i4,i5,i6⟩
  .exact ⟨i1,i2,i3,i4,i5,i6⟩
theorem Kw{n e s:Nat}{p:aG}(a:aK)(x:aZ)(h:Qm n e s p):Qm (n+400*s) e s (lU p a x):=by
 obtain⟨r1,r2,r3,r4,r5,r6⟩:=Px p a x p.aB.length;have h1:=E8 p a x;have h2:=mi p a x;have h3:=h.sl;have h4:p.aB.length*400<=400*s:=by omega
 change (lU p a x).builder=p.builder at r1;change (lU p a x).queue=p.queue at r2;change (lU p a x).log=p.log at r3;change (lU p a x).aN=p.aN at r4;change (lU p a x).tX=p.tX at r5;change (lU p a x).entries=p.entries at r6;refine⟨zR h.at_ r1 r2,?_,?_,by omega⟩
 .have:=h.ga;simp only[nY,Km,uF,r1,r3,r4,r5,r6,h2]at this⊢;omega
 .have:=h.en;simp only[Cn,r4,r6]at this⊢;exact this
theorem Xa{f:dX->Nat}:∀(l:List dX) (k:Nat) (hk:k<l.length) (m:dX),f m=f l[k]->bA f (l.set k m)=bA f l
 |x::l,0,hk,m,h=>by simp only[cU,bA];simp only[getElem_cons_zero]at h;omega
 |x::l,k+1,hk,m,h=>by simp only[cW,bA];rw[Xa l k (by simpa using hk) m (by simpa using h)]
theorem Py:∀(l:List aK) (p:aG),(∀b∈l,aR b<=16)->∃X,kR p l={p with aN:=X}/\bQ bK X<=bQ bK p.aN+l.length*17/\bA (tC p.tX) X<=bA (tC p.tX) p.aN+l.length*17
 |[],p,_=>⟨p.aN,rfl,by simp,by simp⟩
 |b::l,p,h=>by
  obtain⟨X,e1,h1,h2⟩:=ko p b;have hb:=h b (by simp);obtain⟨Y,e2,h3,h4⟩:=Py l (eP p b) (λc hc=>h c (by simp[hc]));refine⟨Y,?_,?_,?_⟩
  .show kR (eP p b) l=_;rw[e2,e1]
  .rw [e1]at h3;simp only[eN]at h3⊢;omega
  .rw [e1]at h4;simp only[eN]at h4⊢;omega
theorem Ub{n e s:Nat}{p:aG}(a:aK)(x:aZ)(h:Qm n e s p):Qm (n+2800) (e+1400) s (jS p a x):=by
 rcases lJ (kM a) p.aN with⟨hi,hf⟩|⟨k,hk,hi,hf⟩
 .rw [Fg hi];exact h.up (by omega) (by omega)
 .have hg:=aE hk;cases hd:p.aN[k].done
  .rw [Il hi hg hd];have Fp:=Ha (x:=x) hi hk hf;have hqs:=Yp p k hk x;have hub:=En p.bD (eG p p.aN[k]) x;have b1:(iK {p with aN:=p.aN.set k (iU p p.aN[k] x)} a).length<=57:=by
    rw[Kv Fp];split
    .obtain ⟨h1,_,h3⟩:=yU (iU p p.aN[k] x).body a.host;have h4:(iU p p.aN[k] x).body.length<=400:=hub;omega
    .simp
   obtain⟨X,e1,h1,h2⟩:=Py (iK {p with aN:=p.aN.set k (iU p p.aN[k] x)} a) {p with aN:=p.aN.set k (iU p p.aN[k] x)} (aGu _ _);have hu:bA (tC p.tX) (p.aN.set k (iU p p.aN[k] x))=bA (tC p.tX) p.aN:=Xa _ _ hk _ rfl;unfold Mw;generalize (iK {p with aN:=p.aN.set k (iU p p.aN[k] x)} a).length=c at*;rw[e1];simp only at h1 h2;rw[hu]at h2;have hc:c*17<=969:=by have:=lA 17 b1;omega
   have hm:bQ bK (p.aN.set k (iU p p.aN[k] x))<=bQ bK p.aN+400:=by simp only[aI]at hqs;omega
   have h3:=h.ga;have h4:=h.en;refine⟨h.at_,?_,?_,h.sl⟩
   .simp only[nY,Km,uF,aI]at h3⊢;omega
   .simp only[Cn]at h4⊢;omega
  .rw [Fh hi hg hd];exact h.up (by omega) (by omega)
def nM(p:aG)(a:aK)(x:aZ):aG:=advance (jS (lU p a x) a x)
theorem aBr{n e s:Nat}{p:aG}(a:aK)(x:aZ)(h:Qm n e s p)(hn:n+400*s+1445000<=500000000)(he:e+1400<=16777216)(Iy:20<=s):Qm (n+400*s+1445000) (e+1400) s (nM p a x):=by have h1:=Kw a x h;have h2:=Ub a x h1;have h3:=Ua h2 (by omega) he Iy;unfold nM;exact h3.up (by omega) (by omega)
theorem Bq(p:aG)(m:Int)(a b:bB)(n:Int):(gP p m a b n).1.addr=p.addr:=by
 unfold gP;split
 .rfl
 .split<;>rfl
theorem Vo(p:aG)(tx:bB):(addEntry p tx).addr=p.addr:=by
 unfold addEntry;split
 .rfl
 .exact (U6 p _).2.1
theorem mr(p:aG)(t:bT)(n:Int):(AQ p t n).addr=p.addr:=by
 unfold AQ;split
 .exact Bq ..
 .split
  .exact Bq ..
  .rfl
theorem Uc(p:aG)(k:Nat)(l:List oN):(sV p k l).addr=p.addr:=by
 unfold sV;split
 .split<;>rfl
 .split
  .exact Bq ..
  .split
   .exact Vo ..
   .exact Bq ..
theorem Ud(p:aG):(iJ p).1.addr=p.addr:=by
 unfold iJ;split
 .rfl
 .split
  .simp only[jP];split
   .exact Uc ..
   .split
    .exact mr ..
    .rfl
  .rfl
theorem Fj(p:aG)(c:bB)(w:Bool):(lT p c w).addr=p.addr:=by unfold lT;split<;>rfl
theorem ng(p:aG)(b:aK):(rV p b).addr=p.addr:=by unfold rV;split<;>rfl
theorem MB:∀(L:List aK) (p:aG),(L.foldl rV p).addr=p.addr
 |[],_=>rfl
 |b::L,p=>(MB L (rV p b)).trans (ng p b)
theorem Ue(p:aG)(a:aK):(oH p a).addr=p.addr:=by
 unfold oH;split
 .rfl
 .exact MB _ p
theorem Qn(p:aG):(jE p).1.addr=p.addr:=by
 unfold jE;split
 .split
  .exact Fj p _ true
  .rfl
 .split
  .unfold BB;split
   .split
    .split
     .simp only;split
      .exact Fj ..
      .rfl
     .rfl
    .rfl
   .rfl
  .exact Ud p
theorem Vp(p:aG):(nX p).1.addr=p.addr:=by
 unfold nX;split
 .split
  .split
   .unfold Mr;split
    .simp only;split
     .exact Fj ..
     .rfl
    .rfl
   .rfl
  .split
   .unfold Ms;split
    .exact Ue ..
    .rfl
   .unfold Mt;split<;>rfl
 .rfl
theorem Yr(p:aG):(wV p).1.addr=p.addr:=by
 unfold wV;split
 .exact Qn p
 .exact Vp p
theorem Dw:∀(n:Nat) (p:aG),(qA n p).addr=p.addr
 |0,_=>rfl
 |n+1,p=>by
  unfold qA;split
  .exact (Dw n _).trans (Yr p)
  .rfl
theorem Pz(p:aG)(a:aK)(x:aZ):∀k,(gZ p a x k).addr=p.addr
 |0=>rfl
 |k+1=>by
  have ih:=Pz p a x k;simp only[gZ];split
  .split
   .exact (WZ _ _ _).2.2.trans ih
   .exact ih
  .exact ih
theorem PD:∀(l:List aK) (p:aG),(kR p l).addr=p.addr
 |[],_=>rfl
 |b::l,p=>(PD l (eP p b)).trans (U6 p b).2.1
theorem F3(p:aG)(a:aK)(x:aZ):(jS p a x).addr=p.addr:=by
 rcases lJ (kM a) p.aN with⟨hi,hf⟩|⟨k,hk,hi,hf⟩
 .rw [Fg hi]
 .have hg:=aE hk;cases hd:p.aN[k].done
  .rw [Il hi hg hd];exact PD _ _
  .rw [Fh hi hg hd]
theorem Qo(p:aG)(a:aK)(x:aZ):(nM p a x).addr=p.addr:=
 (Dw 2000 _).trans ((F3 _ a x).trans (Pz p a x _))
theorem MJ[aC prog][dL prog][bP prog][oK prog](p:aG)(hs:aI p<=536870912):Ok prog 66 [.agg (aH .view p)] (.gT [.agg (aH .own (jE p).1),.bool (jE p).2]):=by
 have c1:=gK p (by omega);have hsb:aT p.builder<=536870912:=by simp only[aI]at hs;omega
 have hsl:p.aB.length<=536870912:=by simp only[aI,bQ]at hs;omega
 have c2:=Ce p (by omega);have hbd:∀s∈p.aB,s.body.length<=536870912:=λs hm=>by have:=TD kZ hm;simp only[aI,bQ,kZ]at hs this;omega
 unfold jE;by_cases hin:p.inline=0
 .rw [cX (by simp[hin])];by_cases hbk:p.block=0
  .rw [cX (by simp[hbk])];have c3:=Oh p hs;generalize iJ p=r at*;obtain⟨q,b⟩:=r;simp only[aH,hin,hbk]at c1 c2 c3⊢;clear hbd;refine bM aF func66 ntmps66 ?_;have W:=aA hin hbk;refine we ?_;exact aD results66
  .rw [eK hbk];generalize hk:i64.wrap (p.block-1)=k;unfold BB;by_cases h0:0<=k
   .rw [eK h0];obtain⟨kn,rfl⟩:=mN h0;rw[mA];have hk0:¬(kn:Int)<0:=by omega
    by_cases hlt:kn<p.aB.length
    .have hg:=aE hlt;have hlen:¬(p.aB.length:Int)<=(kn:Int):=by omega
     rw[hg];simp only;have aGx:=hbd _ (fS hlt);have hw1:i64.wrap ((p.aB.length:Int)-1)=(p.aB.length:Int)-1:=by rw[wrap64]<;>omega
     have c5:=gI (kn:Int) 0 ((p.aB.length:Int)-1);rw[show(decide ((0:Int)<=(kn:Int))&&decide ((kn:Int)<=(p.aB.length:Int)-1))=true from by simp;omega]at c5;cases hd:p.aB[kn].done
     .rw [cX (by simp)];simp only[aH,hin]at c1 c2⊢;clear hbd;refine bM aF func66 ntmps66 ?_;have W:=aA hin (aA hbk (aA hk (aA hk0 (aA hlen (aA hg (aA hlt (aA hd hw1)))))));refine we ?_;exact aD results66
     .generalize p.aB.all oG=F5 at*;cases F5
      .rw [cX (by simp)];simp only[aH,hin]at c1 c2⊢;clear hbd;refine bM aF func66 ntmps66 ?_;have W:=aA hin (aA hbk (aA hk (aA hk0 (aA hlen (aA hg (aA hlt (aA hd hw1)))))));refine we ?_;exact aD results66
      .rw [eK ⟨rfl,rfl⟩];by_cases Yt:p.aB[kn].code=1
       .rw [eK Yt];have c4:=BX p p.aB[kn].body true hs (by omega);generalize lT p p.aB[kn].body true=q at*;simp only[aH,hin]at c1 c2 c4⊢;clear hbd;refine bM aF func66 ntmps66 ?_;have W:=aA hin (aA hbk (aA hk (aA hk0 (aA hlen (aA hg (aA hlt (aA hd (aA Yt hw1))))))));refine we ?_;exact aD results66
       .rw [cX Yt];simp only[aH,hin]at c1 c2⊢;clear hbd;refine bM aF func66 ntmps66 ?_;have W:=aA hin (aA hbk (aA hk (aA hk0 (aA hlen (aA hg (aA hlt (aA hd (aA Yt hw1))))))));refine we ?_;exact aD results66
    .have hg:p.aB[kn]? =none:=pB (by omega);have hlen:(p.aB.length:Int)<=(kn:Int):=by omega
     rw[hg];simp only;have hw1:i64.wrap ((p.aB.length:Int)-1)=(p.aB.length:Int)-1:=by rw[wrap64]<;>omega
     have c5:=gI (kn:Int) 0 ((p.aB.length:Int)-1);rw[show(decide ((0:Int)<=(kn:Int))&&decide ((kn:Int)<=(p.aB.length:Int)-1))=false from by simp;omega]at c5;simp only[aH,hin]at c1 c2⊢;clear hbd;refine bM aF func66 ntmps66 ?_;have W:=aA hin (aA hbk (aA hk (aA hk0 (aA hlen hw1))));refine we ?_;exact aD results66
   .rw [cX h0];have hk0:k<0:=by omega
    have hw1:i64.wrap ((p.aB.length:Int)-1)=(p.aB.length:Int)-1:=by rw[wrap64]<;>omega
    have c5:=gI k 0 ((p.aB.length:Int)-1);rw[show(decide ((0:Int)<=k)&&decide (k<=(p.aB.length:Int)-1))=false from by simp;omega]at c5;simp only[aH,hin]at c1 c2⊢;clear hbd;refine bM aF func66 ntmps66 ?_;have W:=aA hin (aA hbk (aA hk (aA hk0 hw1)));refine we ?_;exact aD results66
 .rw [eK hin];generalize p.aB.all oG=F5 at*;cases F5
  .rw [cX (by simp)];simp only[aH]at c1 c2⊢;clear hbd;refine bM aF func66 ntmps66 ?_;have W:=hin;refine we ?_;exact aD results66
  .rw [eK rfl];have c3:=Vj p.builder p.inline (by omega);have htl:=TC p.builder p.inline;generalize Cg p.builder p.inline=tx at*;have c4:=BX p tx true hs (by omega);generalize lT p tx true=q at*;simp only[aH,aU]at c1 c2 c3 c4⊢;clear hbd;refine bM aF func66 ntmps66 ?_;have W:=hin;refine we ?_;exact aD results66
theorem FM[aC prog][dL prog][bP prog][oK prog]{n e s:Nat}(p:aG)(h0:Qm n e s p)(hn:n+1442000<=500000000)(he:e<=16777216)(Iy:20<=s)(aG2:s<=16777216):Ok prog 35 [.agg (aH .view p)] (.agg (aH .own (advance p))):=by
 have hs:=h0.sz.1;have c1:=gK p (by omega);unfold advance;generalize hr:qA 2000 p=r at*;simp only[aH]at c1;refine bM aF func35 ntmps35 ?_;refine iF ?_;refine aO (ι:={x:Nat×aG // x.1<=2000/\Qm (n+721*x.1) e s x.2/\qA (2000-x.1) x.2=r}) (λt o i=>⟨bC t [(4,.int .i64 i.1.1),(5,.undef),(6,.undef),(8,.undef)],o.take 2++zD i.1.2++[⟨true,true,22,0,[zF 2 i.1.2]⟩]⟩)
  (λi=>2000-i.1.1) ⟨(0,p),by simp,h0.up (by omega) (eE _),hr⟩ (aJ (by simp[zD,zF]) (by simp)) ?_
 rintro⟨⟨k,q⟩,hk,nR,Uo⟩ K1 hK1;simp only at hk nR Uo;clear h0 hr hs c1;have hk1:=oQ (k:=k);by_cases hlt:k<2000
 .have hki:(k:Int)<2000:=by omega
  obtain⟨hz,hme⟩:=nR.sz;have c2:=MJ q (by omega);have c3:=Qq q (by omega) (by have:=nR.sl;omega) (by omega);obtain⟨g1,g2⟩:=aGp hlt Uo;have hnx:=(Yq nR (by omega) he Iy).up (n2:=n+721*(k+1)) (by omega) (eE _);unfold wV at g1 g2 hnx;have hK2:=hK1;simp only[bC,cW,cU,eL,fX,eA,eM,zD,zF]at hK1⊢;cases hb:(jE q).2
  .rw [hb]at c2;rw[cX (by rw[hb];simp)]at g1 g2 hnx;generalize (jE q).1=q1 at*;cases hb2:(nX q).2
   .rw [hb2]at c3;have hq:=g2 hb2;clear g1 g2 hnx hK2 hK1 nR Uo hz hme;generalize (nX q).1=q2 at*;subst hq;simp only[aH]at c2 c3⊢;have W:=hki;refine wl ?_;exact aD results35
   .rw [hb2]at c3;have hq:=g1 hb2;clear g1 g2 hz hme;generalize (nX q).1=q2 at*;simp only[aH]at c2 c3;have W:=aA hki hk1;refine wl ?_;refine hK2 _ ⟨(k+1,q2),by simp only;omega,hnx,hq⟩ ?_ (by simp only;omega);exact Xc (q:=q2) rfl (by simp[zD,zF]) (by simp[tO]) (by simp[tO]) (by simp) (by simp) (by simp[dC])
  .rw [hb]at c2;rw[eK hb]at g1 g2 hnx;have hq:=g1 hb;clear g1 g2 hz hme c3;generalize (jE q).1=q1 at*;simp only[aH]at c2;have W:=aA hki hk1;refine wl ?_;refine hK2 _ ⟨(k+1,q1),by simp only;omega,hnx,hq⟩ ?_ (by simp only;omega);exact Xb (q:=q1) rfl (by simp[zD,zF]) (by simp[tN]) (by simp[tN]) (by simp) (by simp) (by simp[dC])
 .have hki:¬(k:Int)<2000:=by omega
  obtain rfl:k=2000:=by omega
  have hq:q=r:=by simpa [qA]using Uo
  simp only[bC,cW,cU,eL,fX,eA,eM,zD,zF]at hK1⊢;clear hK1 nR Uo;subst hq;simp only[aH];refine iF ?_;exact aD results35
end Go.Proofs.YtfbefblglejcaaaGreatDoor
