/-
  Proved here: steps towards the statement of this claim, text LPlainLog.
  No condition beyond what each statement spells out.
-/
import Derived.Test.YtfbefblglejcaaaGreatDoorZQSZD
set_option linter.all false
set_option maxRecDepth 8000
set_option maxHeartbeats 8000000
namespace Go.Proofs.YtfbefblglejcaaaGreatDoor
open Go.Aw Proofs.Tryz List IntKind
theorem IG[aC prog][bP prog][dL prog][oK prog](n:lW)(hwn:K9 n)(hrn:aLf n)(a:aK)(hwa:Nj a)(hra:aE6 a):Ok prog 3 [.agg (mY .view n),.agg (aL a)] (.bool true):=by
 have hz0:=aEz n 1048576 (by omega) (by omega) hwn;by_cases qz0:(lX n)<=1048576
 .rw [sub_pos (by omega)]at hz0;have G7:=Nu a (1048576-(((lX n):Nat):Int)) (by omega) (by omega) hwa;by_cases qz1:(lX n)+(aR a)<=1048576
  .rw [sub_pos (by omega)]at G7;rw[show(1048576-(((lX n):Nat):Int))-((aR a:Nat):Int)=1048576-(((lX n)+(aR a):Nat):Int)by omega]at G7;have hs:lX n+aR a<=1048576:=by omega
   have t1:=toNet_ok n (by omega);have t2:=toAddr_ok a (by omega);have t3:=Qu n a hs;have t4:=Qv n a hs;have KF:=nz n a hs;generalize (jN n a).1.2.log=g at*;simp only[bQ]at KF;have hgc:=BZ 1 g;obtain⟨f1,f2,f3⟩:=aBw n (by omega);have e1:=XG g g (by simp only[bQ];omega);have e2:=aE1 n n (by omega);have m1:=F8 n 1 (by omega) (by omega) f2 f3;have m2:=Uu g 1 (by omega) (by omega) (by omega);have m3:=Ut g 1 (by omega) (by omega) (by omega);refine bM aF func3 ntmps3 ?_;have W:=trivial;have c0:=hz0;have c1:=G7;repeat' first|refine wg ?_|(refine nx ?_;first|refine sm (hc:=m1) (h:=?_)|refine sm (hc:=m2) (h:=?_))|(refine sq ?_ ?_<;>intro hc<;>try exact hc.elim)|fail
   all_goals try(refine aQ ?_;simp[aP,results3])
   all_goals (try simp only[fR]at*);all_goals (first|omega|simp_all)
  .rw [sub_neg (by omega)]at G7;refine bM aF func3 ntmps3 ?_;have c0:=hz0;have c1:=G7;refine iF ?_;exact aD results3
 .rw [sub_neg (by omega)]at hz0;refine bM aF func3 ntmps3 ?_;have c0:=hz0;refine iF ?_;exact aD results3
end Go.Proofs.YtfbefblglejcaaaGreatDoor
