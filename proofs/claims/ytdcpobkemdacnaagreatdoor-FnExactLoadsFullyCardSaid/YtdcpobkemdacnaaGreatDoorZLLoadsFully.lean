/-
  Proved here: steps towards the statement of this claim, text LLoadsFully.
  No condition beyond what each statement spells out.
-/
import Derived.Test.YtdcpobkemdacnaaGreatDoorZLF
set_option linter.all false
set_option maxRecDepth 8000
set_option maxHeartbeats 8000000
namespace Go.Proofs.YtdcpobkemdacnaaGreatDoor
open Go.Aw Proofs.Tryz List IntKind
theorem Fj [aC prog] [bR prog] [dK prog] [mZ prog] (n:nN) (hwn:yg n) (hrn:aI8 n) (a:aK) (hwa:Mt a) (hra:aC7 a):Ok prog 3 [.agg (mP .view n),.agg (aL a)] (.bool true):=by
 have hz0:=aC0 n 1048576 (by omega) (by omega) hwn;by_cases qz0:(nO n)<=1048576
 .rw [sub_pos (by omega)] at hz0;have xe:=MG a (1048576 - (((nO n):Nat):Int)) (by omega) (by omega) hwa;by_cases qz1:(nO n)+(aQ a)<=1048576
  .rw [sub_pos (by omega)] at xe;rw [show (1048576 - (((nO n):Nat):Int)) - ((aQ a:Nat):Int)=1048576 - (((nO n)+(aQ a):Nat):Int) by omega] at xe;have hs:nO n+aQ a<=1048576:=by omega
   have t1:=toNet_ok n (by omega);have t2:=toAddr_ok a (by omega);have t3:=LX n a hs;have t4:=LY n a hs;generalize ((iZ n a).2&&(iZ n a).1.2.lY)=g at *;have e2:=aC2 n n (by omega);refine bO aD func3 ntmps3 ?_;have c0:=hz0;have c1:=xe;refine gY ?_;all_goals try(refine aV ?_;simp [aH,results3])
   all_goals (try simp only [fR] at *);all_goals (first|omega|simp_all)
  .rw [sub_neg (by omega)] at xe;refine bO aD func3 ntmps3 ?_;have c0:=hz0;have c1:=xe;refine gY ?_;exact aF results3
 .rw [sub_neg (by omega)] at hz0;refine bO aD func3 ntmps3 ?_;have c0:=hz0;refine gY ?_;exact aF results3
end Go.Proofs.YtdcpobkemdacnaaGreatDoor
