/-
  Proved here: steps towards the statement of this claim, text LTakeAnswer.
  No condition beyond what each statement spells out.
-/
import Derived.Test.YtjmpjmilndkgfaaGreatDoorZQADSB
set_option linter.all false
set_option maxRecDepth 8000
set_option maxHeartbeats 8000000
namespace Go.Proofs.YtjmpjmilndkgfaaGreatDoor
open Go.Aw Proofs.Tryz List IntKind
theorem EH [aC prog] [dD prog] [eH prog] [qQ prog] (p:aI) (hwp:Wx p) (hrp:aDb p) (a:aT) (hwa:Cz a) (hra:aC5 a) (x:bL) (hwx:DN x) (hrx:QH x):Ok prog 3 [.agg (aJ .view p),.agg (aO a),.agg (dQ x)] (.bool true):=by
 have hz0:=V7 p 1048576 (by omega) (by omega) hwp;by_cases qz0:(aF p)<=1048576
 .rw [sub_pos (by omega)] at hz0;have dm:=Db a (1048576 - (((aF p):Nat):Int)) (by omega) (by omega) hwa;by_cases qz1:(aF p)+(aU a)<=1048576
  .rw [sub_pos (by omega)] at dm;rw [show (1048576 - (((aF p):Nat):Int)) - ((aU a:Nat):Int)=1048576 - (((aF p)+(aU a):Nat):Int) by omega] at dm;have hz2:=TJ x (1048576 - (((aF p)+(aU a):Nat):Int)) (by omega) (by omega) hwx;by_cases qz2:(aF p)+(aU a)+(fK x)<=1048576
   .rw [sub_pos (by omega)] at hz2;rw [show (1048576 - (((aF p)+(aU a):Nat):Int)) - ((fK x:Nat):Int)=1048576 - (((aF p)+(aU a)+(fK x):Nat):Int) by omega] at hz2;have hs:aF p<=1048576:=by omega
    have hs2:fK x<=1048576:=by omega
    obtain ⟨⟨hc,hq⟩,hqa,hb,hba⟩:=Rf p (by omega);have t1:=toPage_ok p hs;have t2:=toResponse_ok x hs2;have t5:=toAddr_ok a (by omega);have h0:=aL0 p hs;have t3:=KM p a x h0 (by omega) (by omega) (by decide) (by decide) (by omega) (by omega);have t4:=KO p a x h0 (by omega) (by omega) (by decide) (by decide) (by omega) (by omega);have hgs:=(V4 a x h0 (by omega) (by omega) (by decide)).sz.1;generalize vZ p a x=g at *;have hgz:aF g<=500000000:=by omega
    obtain ⟨⟨gc,gq⟩,gqa,gb,gba⟩:=Rf g (by omega);have e1:=VT g g (by omega);have e2:=VT p p (by omega);have m1:=NB p 1 (by omega) (by omega) hq hqa hb hba;have m2:=NB g 1 (by omega) (by omega) gq gqa gb gba;have m3:=bn g 1 (by omega) (by omega) gq gqa gb gba;refine bR aD func3 ntmps3 ?_;have W:=trivial;have c0:=hz0;have c1:=dm;have c2:=hz2;repeat' first|refine wg ?_|(refine nx ?_;first|refine sm (hc:=m1) (h:=?_)|refine sm (hc:=m2) (h:=?_))|(refine sq ?_ ?_<;>intro hc<;>try exact hc.elim)|fail
    all_goals try(refine aR ?_;simp [aG,results3])
    all_goals (try simp only [fN] at *);all_goals (first|omega|simp_all)
   .rw [sub_neg (by omega)] at hz2;refine bR aD func3 ntmps3 ?_;have c0:=hz0;have c1:=dm;have c2:=hz2;refine gJ ?_;exact aK results3
  .rw [sub_neg (by omega)] at dm;refine bR aD func3 ntmps3 ?_;have c0:=hz0;have c1:=dm;refine gJ ?_;exact aK results3
 .rw [sub_neg (by omega)] at hz0;refine bR aD func3 ntmps3 ?_;have c0:=hz0;refine gJ ?_;exact aK results3
end Go.Proofs.YtjmpjmilndkgfaaGreatDoor
