/-
  Proved here: steps towards the statement of this claim, text LPlainNeeds.
  No condition beyond what each statement spells out.
-/
import Derived.Test.YthddijamfbfibaaGreatDoorZQPN2
set_option linter.all false
set_option maxRecDepth 8000
set_option maxHeartbeats 8000000
namespace Go.Proofs.YthddijamfbfibaaGreatDoor
open Go.Aw Proofs.Tryz List IntKind
theorem Gg[aB prog][bQ prog][dM prog][oO prog](n:kU)(hwn:Y7 n)(hrn:aNj n)(a:aD)(hwa:NI a)(hra:aGo a):Ok prog 3 [.agg (nA .view n),.agg (aH a)] (.bool true):=by
 have hz0:=aGh n 1048576 (by omega) (by omega) hwn;by_cases qz0:(kV n)<=1048576
 .rw [sub_pos (by omega)]at hz0;have V4:=NS a (1048576-(((kV n):Nat):Int)) (by omega) (by omega) hwa;by_cases qz1:(kV n)+(aQ a)<=1048576
  .rw [sub_pos (by omega)]at V4;rw[show(1048576-(((kV n):Nat):Int))-((aQ a:Nat):Int)=1048576-(((kV n)+(aQ a):Nat):Int)by omega]at V4;have hs:kV n+aQ a<=1048576:=by omega
   have t1:=toNet_ok n (by omega);have t2:=toAddr_ok a (by omega);have t3:=Nj n a hs;have t4:=Nk n a hs;have IQ:=aIo n a hs;have hgc:=Cn 2 (uJ n a);generalize uJ n a=g at*;obtain⟨f1,f2,f3⟩:=aDe n (by omega);have e1:=zy g g (by omega);have e2:=aGj n n (by omega);have m1:=U6 n 1 (by omega) (by omega) f2 f3;have m2:=ZW g 1 (by omega) (by omega) (by omega);have m3:=ZV g 1 (by omega) (by omega) (by omega);refine bM aG func3 ntmps3 ?_;have W:=trivial;have c0:=hz0;have c1:=V4;repeat' first|refine wg ?_|(refine nx ?_;first|refine sm (hc:=m1) (h:=?_)|refine sm (hc:=m2) (h:=?_))|(refine sq ?_ ?_<;>intro hc<;>try exact hc.elim)|fail
   all_goals try(refine aR ?_;simp[aP,results3])
   all_goals (try simp only[fN]at*);all_goals (first|omega|simp_all)
  .rw [sub_neg (by omega)]at V4;refine bM aG func3 ntmps3 ?_;have c0:=hz0;have c1:=V4;refine gV ?_;exact aF results3
 .rw [sub_neg (by omega)]at hz0;refine bM aG func3 ntmps3 ?_;have c0:=hz0;refine gV ?_;exact aF results3
end Go.Proofs.YthddijamfbfibaaGreatDoor
