/- Proved here: steps towards the statement of this claim. No condition. -/
import Derived.Test.YtjmpjmilndkgfaaGreatDoorZQAD0
import Derived.Test.YtjmpjmilndkgfaaGreatDoorZQST2
import Derived.Test.YtjmpjmilndkgfaaGreatDoorZSP1
set_option linter.all false
set_option maxRecDepth 8000
set_option maxHeartbeats 8000000
namespace Go.Proofs.YtjmpjmilndkgfaaGreatDoor
open Go.Aw Proofs.Tryz List IntKind
theorem Oo [aC prog] [eH prog] [dD prog] [qQ prog] {n e s:Nat} (p:aI) (h0:Pd n e s p) (hn:n+1442000<=500000000) (he:e<=16777216) (Fg:20<=s) (aEv:s<=16777216):Ok prog 23 [.agg (aJ .view p)] (.agg (aJ .own (advance p))):=by
 have hs:=h0.sz.1;have c1:=iI p (by omega);unfold advance;generalize hr:rD 2000 p=r at *;simp only [aJ] at c1;refine bR aD func23 ntmps23 ?_;refine gJ ?_;refine aL (ι:={x:Nat×aI // x.1<=2000/\Pd (n+721 * x.1) e s x.2/\rD (2000 - x.1) x.2=r}) (λt o i=>⟨bD t [(4,.int .i64 i.1.1),(5,.undef),(6,.undef),(8,.undef)],o.take 2++Du i.1.2++[⟨true,true,22,0,[Dv 2 i.1.2]⟩]⟩)
  (λi=>2000 - i.1.1) ⟨(0,p),by simp,h0.up (by omega) (eE _),hr⟩ (aH (by simp [Du,Dv]) (by simp)) ?_
 rintro ⟨⟨k,q⟩,hk,wC,Si⟩ K1 hK1;simp only at hk wC Si;clear h0 hr hs c1;have hk1:=oW (k:=k);by_cases hlt:k < 2000
 .have hki:(k:Int) < 2000:=by omega
  obtain ⟨hz,hme⟩:=wC.sz;have c2:=KJ q (by omega);have c3:=Om q (by omega) (by have:=wC.sl;omega) (by omega);obtain ⟨g1,g2⟩:=aEd hlt Si;have hnx:=(Xt wC (by omega) he Fg).up (n2:=n+721 * (k+1)) (by omega) (eE _);unfold yX at g1 g2 hnx;have hK2:=hK1;simp only [bD,cW,cU,eM,gR,eI,eN,Du,Dv] at hK1⊢;cases hb:(kC q).2
  .rw [hb] at c2;rw [cY (by rw [hb];simp)] at g1 g2 hnx;generalize (kC q).1=q1 at *;cases hb2:(oM q).2
   .rw [hb2] at c3;have hq:=g2 hb2;clear g1 g2 hnx hK2 hK1 wC Si hz hme;generalize (oM q).1=q2 at *;subst hq;simp only [aJ] at c2 c3⊢;have W:=hki;refine wl ?_;exact aK results23
   .rw [hb2] at c3;have hq:=g1 hb2;clear g1 g2 hz hme;generalize (oM q).1=q2 at *;simp only [aJ] at c2 c3;have W:=aA hki hk1;refine wl ?_;refine hK2 _ ⟨(k+1,q2),by simp only;omega,hnx,hq⟩ ?_ (by simp only;omega);exact VS (q:=q2) rfl (by simp [Du,Dv]) (by simp [rR]) (by simp [rR]) (by simp) (by simp) (by simp [dJ])
  .rw [hb] at c2;rw [eK hb] at g1 g2 hnx;have hq:=g1 hb;clear g1 g2 hz hme c3;generalize (kC q).1=q1 at *;simp only [aJ] at c2;have W:=aA hki hk1;refine wl ?_;refine hK2 _ ⟨(k+1,q1),by simp only;omega,hnx,hq⟩ ?_ (by simp only;omega);exact VR (q:=q1) rfl (by simp [Du,Dv]) (by simp [rQ]) (by simp [rQ]) (by simp) (by simp) (by simp [dJ])
 .have hki:¬(k:Int) < 2000:=by omega
  obtain rfl:k=2000:=by omega
  have hq:q=r:=by simpa [rD] using Si
  simp only [bD,cW,cU,eM,gR,eI,eN,Du,Dv] at hK1⊢;clear hK1 wC Si;subst hq;simp only [aJ];refine gJ ?_;exact aK results23
theorem KM [aC prog] [eH prog] [dD prog] [qQ prog] {n e s:Nat} (p:aI) (a:aT) (x:bL) (h:Pd n e s p) (hn:n+400 * s+1445000<=500000000) (he:e+1400<=16777216) (Fg:20<=s) (aEv:s<=16777216) (ha:aU a<=1048576) (hx:fK x<=1048576):Ok prog 7 [.agg (aJ .view p),.agg (aO a),.agg (dQ x)] (.agg (aJ .own (vZ p a x))):=by have h1:=Je a x h;have h2:=RY a x h1;have c1:=RV p a x (by have h5:=h.sz.1;have h6:=h.sl;omega) hx;have c2:=KL (lQ p a x) a x (by have:=h1.sz.1;omega) hx;have c3:=Oo (kG (lQ p a x) a x) h2 (by omega) he Fg aEv;unfold vZ;generalize advance (kG (lQ p a x) a x)=r at *;clear h1 h2 h;generalize kG (lQ p a x) a x=q2 at *;generalize lQ p a x=q1 at *;simp only [aJ,aO,dQ] at c1 c2 c3⊢;refine bR aD func7 ntmps7 ?_;refine gJ ?_;exact aK results7
theorem Ov [aC prog] [eH prog] [dD prog] [qQ prog] {n e s:Nat} (p:aI) (h0:Pd n e s p) (hn:n+1442000<=500000000) (he:e<=16777216) (Fg:20<=s) (aEv:s<=16777216):Ok prog 34 [.agg (aJ .view p)] (.agg (aJ .own (advance p))):=by
 have hs:=h0.sz.1;have c1:=jC p (by omega);unfold advance;generalize hr:rD 2000 p=r at *;simp only [aJ] at c1;refine bR aD func34 ntmps34 ?_;refine gJ ?_;refine aL (ι:={x:Nat×aI // x.1<=2000/\Pd (n+721 * x.1) e s x.2/\rD (2000 - x.1) x.2=r}) (λt o i=>⟨bD t [(4,.int .i64 i.1.1),(5,.undef),(6,.undef),(8,.undef)],o.take 2++Du i.1.2++[⟨true,true,22,0,[Dv 2 i.1.2]⟩]⟩)
  (λi=>2000 - i.1.1) ⟨(0,p),by simp,h0.up (by omega) (eE _),hr⟩ (aH (by simp [Du,Dv]) (by simp)) ?_
 rintro ⟨⟨k,q⟩,hk,wC,Si⟩ K1 hK1;simp only at hk wC Si;clear h0 hr hs c1;have hk1:=oW (k:=k);by_cases hlt:k < 2000
 .have hki:(k:Int) < 2000:=by omega
  obtain ⟨hz,hme⟩:=wC.sz;have c2:=KN q (by omega);have c3:=Ou q (by omega) (by have:=wC.sl;omega) (by omega);obtain ⟨g1,g2⟩:=aEd hlt Si;have hnx:=(Xt wC (by omega) he Fg).up (n2:=n+721 * (k+1)) (by omega) (eE _);unfold yX at g1 g2 hnx;have hK2:=hK1;simp only [bD,cW,cU,eM,gR,eI,eN,Du,Dv] at hK1⊢;cases hb:(kC q).2
  .rw [hb] at c2;rw [cY (by rw [hb];simp)] at g1 g2 hnx;generalize (kC q).1=q1 at *;cases hb2:(oM q).2
   .rw [hb2] at c3;have hq:=g2 hb2;clear g1 g2 hnx hK2 hK1 wC Si hz hme;generalize (oM q).1=q2 at *;subst hq;simp only [aJ] at c2 c3⊢;have W:=hki;refine wl ?_;exact aK results34
   .rw [hb2] at c3;have hq:=g1 hb2;clear g1 g2 hz hme;generalize (oM q).1=q2 at *;simp only [aJ] at c2 c3;have W:=aA hki hk1;refine wl ?_;refine hK2 _ ⟨(k+1,q2),by simp only;omega,hnx,hq⟩ ?_ (by simp only;omega);exact VS (q:=q2) rfl (by simp [Du,Dv]) (by simp [rR]) (by simp [rR]) (by simp) (by simp) (by simp [dJ])
  .rw [hb] at c2;rw [eK hb] at g1 g2 hnx;have hq:=g1 hb;clear g1 g2 hz hme c3;generalize (kC q).1=q1 at *;simp only [aJ] at c2;have W:=aA hki hk1;refine wl ?_;refine hK2 _ ⟨(k+1,q1),by simp only;omega,hnx,hq⟩ ?_ (by simp only;omega);exact VR (q:=q1) rfl (by simp [Du,Dv]) (by simp [rQ]) (by simp [rQ]) (by simp) (by simp) (by simp [dJ])
 .have hki:¬(k:Int) < 2000:=by omega
  obtain rfl:k=2000:=by omega
  have hq:q=r:=by simpa [rD] using Si
  simp only [bD,cW,cU,eM,gR,eI,eN,Du,Dv] at hK1⊢;clear hK1 wC Si;subst hq;simp only [aJ];refine gJ ?_;exact aK results34
theorem KO [aC prog] [eH prog] [dD prog] [qQ prog] {n e s:Nat} (p:aI) (a:aT) (x:bL) (h:Pd n e s p) (hn:n+400 * s+1445000<=500000000) (he:e+1400<=16777216) (Fg:20<=s) (aEv:s<=16777216) (ha:aU a<=1048576) (hx:fK x<=1048576):Ok prog 11 [.agg (aJ .view p),.agg (aO a),.agg (dQ x)] (.agg (aJ .own (vZ p a x))):=by have h1:=Je a x h;have h2:=RY a x h1;have c1:=RU p a x (by have h5:=h.sz.1;have h6:=h.sl;omega) hx;have c2:=KI (lQ p a x) a x (by have:=h1.sz.1;omega) hx;have c3:=Ov (kG (lQ p a x) a x) h2 (by omega) he Fg aEv;unfold vZ;generalize advance (kG (lQ p a x) a x)=r at *;clear h1 h2 h;generalize kG (lQ p a x) a x=q2 at *;generalize lQ p a x=q1 at *;simp only [aJ,aO,dQ] at c1 c2 c3⊢;refine bR aD func11 ntmps11 ?_;refine gJ ?_;exact aK results11
end Go.Proofs.YtjmpjmilndkgfaaGreatDoor
