/- Steps. No condition. -/
import Derived.Test.YtanobkmhbpjnpaaGreatDoorZQTK9
import Derived.Test.YtanobkmhbpjnpaaGreatDoorZQST1
import Derived.Test.YtanobkmhbpjnpaaGreatDoorZQADSB
set_option linter.all false
set_option maxRecDepth 8000
set_option maxHeartbeats 8000000
namespace Go.Proofs.YtanobkmhbpjnpaaGreatDoor
open Go.Aw Proofs.Tryz List IntKind
def BO[aG prog][fI prog][dG prog][qR prog]{n e s:Nat}(p:aF)(h0:Rh n e s p)(hn:n+1442000<=500000000)(he:e<=16777216)(Ju:20<=s)(aI1:s<=16777216):Ok prog 6 [.agg (aH .view p)] (.agg (aH .own (fD p))):=by
 have hs:=h0.sz.1;have c1:=lM p (by omega);unfold fD;generalize hr:kX 2000 p=r at*;simp only[aH]at c1;refine dN aK func6 ntmps6 ?_;refine bZ ?_;refine aT (ι:={x:Nat×aF // x.1<=2000/\Rh (n+721*x.1) e s x.2/\kX (2000-x.1) x.2=r}) (λt o i=>⟨bP t [(4,.int .i64 i.1.1),(5,.aB),(6,.aB),(8,.aB)],o.take 2++Fh i.1.2++[⟨true,true,22,0,[Fj 2 i.1.2]⟩]⟩)
  (λi=>2000-i.1.1) ⟨(0,p),by simp,h0.up (by omega) (eJ _),hr⟩ (aP (by simp[Fh,Fj]) (by simp)) ?_
 rintro⟨⟨k,q⟩,hk,rP,UO⟩ K1 hK1;simp only at hk rP UO;clear h0 hr hs c1;have hk1:=tQ (k:=k);by_cases hlt:k<2000
 .have hki:(k:Int)<2000:=by omega
  obtain⟨hz,hme⟩:=rP.sz;have c2:=NH q (by omega);have c3:=GN q (by omega) (by have:=rP.sl;omega) (by omega);obtain⟨g1,g2⟩:=aIj hlt UO;have hnx:=(Zj rP (by omega) he Ju).up (n2:=n+721*(k+1)) (by omega) (eJ _);unfold mD at g1 g2 hnx;have hK2:=hK1;simp only[bP,cH,cQ,eV,gS,cW,eA,Fh,Fj]at hK1⊢;cases hb:(iC q).2
  .rw [hb]at c2;rw[eC (by rw[hb];simp)]at g1 g2 hnx;generalize (iC q).1=q1 at*;cases hb2:(iJ q).2
   .rw [hb2]at c3;have hq:=g2 hb2;clear g1 g2 hnx hK2 hK1 rP UO hz hme;generalize (iJ q).1=q2 at*;subst hq;simp only[aH]at c2 c3⊢;have W:=hki;refine wl ?_;exact aO results6
   .rw [hb2]at c3;have hq:=g1 hb2;clear g1 g2 hz hme;generalize (iJ q).1=q2 at*;simp only[aH]at c2 c3;have W:=aA hki hk1;refine wl ?_;refine hK2 _ ⟨(k+1,q2),by simp only;omega,hnx,hq⟩ ?_ (by simp only;omega);exact XW (q:=q2) rfl (by simp[Fh,Fj]) (by simp[vD]) (by simp[vD]) (by simp) (by simp) (by simp[eU])
  .rw [hb]at c2;rw[eM hb]at g1 g2 hnx;have hq:=g1 hb;clear g1 g2 hz hme c3;generalize (iC q).1=q1 at*;simp only[aH]at c2;have W:=aA hki hk1;refine wl ?_;refine hK2 _ ⟨(k+1,q1),by simp only;omega,hnx,hq⟩ ?_ (by simp only;omega);exact XV (q:=q1) rfl (by simp[Fh,Fj]) (by simp[vC]) (by simp[vC]) (by simp) (by simp) (by simp[eU])
 .have hki:¬(k:Int)<2000:=by omega
  obtain rfl:k=2000:=by omega
  have hq:q=r:=by simpa [kX]using UO
  simp only[bP,cH,cQ,eV,gS,cW,eA,Fh,Fj]at hK1⊢;clear hK1 rP UO;subst hq;simp only[aH];refine bZ ?_;exact aO results6
def NI[aG prog][fI prog][dG prog][qR prog]{n e s:Nat}(p:aF)(a:aR)(x:bG)(h:Rh n e s p)(hn:n+400*s+1445000<=500000000)(he:e+1400<=16777216)(Ju:20<=s)(aI1:s<=16777216)(ha:aW a<=500000000)(hx:dC x<=1048576):Ok prog 15 [.agg (aH .view p),.agg (aS a),.agg (bR x)] (.agg (aH .own (lS p a x))):=by have h1:=Ls a x h;have h2:=UH a x h1;have c1:=UD p a x (by have h5:=h.sz.1;have h6:=h.sl;omega) hx;have c2:=Np (nK p a x) a x (by have:=h1.sz.1;omega) hx;have c3:=BO (kM (nK p a x) a x) h2 (by omega) he Ju aI1;unfold lS;generalize fD (kM (nK p a x) a x)=r at*;clear h1 h2 h;generalize kM (nK p a x) a x=q2 at*;generalize nK p a x=q1 at*;simp only[aH,aS,bR]at c1 c2 c3⊢;refine dN aK func15 ntmps15 ?_;refine bZ ?_;exact aO results15
end Go.Proofs.YtanobkmhbpjnpaaGreatDoor
