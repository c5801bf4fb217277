/- Proved here: steps towards the statement of this claim. No condition. -/
import Derived.Test.YtdcpobkemdacnaaGreatDoorZYFacts
import Derived.Test.YtdcpobkemdacnaaGreatDoorZF6
set_option linter.all false
set_option maxRecDepth 4000
set_option maxHeartbeats 4000000
namespace Go.Proofs.YtdcpobkemdacnaaGreatDoor
open Go.Aw Proofs.Tryz List IntKind
theorem aD:Tryz.prog.follows .mixedOrders=true:=by kernel_rfl
theorem toAddr_ok [aC prog] (a:aK) (hs:aQ a<=1048576):Ok prog 8 [.agg (aL a)] (.agg (aL a)):=by simp only [aQ] at hs;refine bO aD func8 ntmps8 ?_;refine gY ?_;exact aF results8
theorem MG [aC prog] (a:aK) (n:Int) (h0:0<=n) (h1:n<=1048576) (hw:Mt a):Ok prog 5 [.agg (aL a),.int .i64 n] (.int .i64 (sub n (aQ a))):=by
 simp only [Mt] at hw;obtain ⟨aOl,aOm⟩:=hw;refine bO aD func5 ntmps5 ?_;have W:=trivial;repeat' first|refine wg ?_|(refine sq ?_ ?_<;>intro hc<;>try exact hc.elim)|fail
 all_goals try(refine aV ?_;simp [aH,results5,aQ])
 all_goals (
  repeat (simp (disch:=omega) only [wrap64] at *)
  (try simp only [sub]);(try split);all_goals omega)
theorem VH [aC prog] (a b:aK) (hs:aQ a<=1099511627776):Ok prog 88 [.agg (aL a),.agg (aL b)] (.bool (decide (a=b))):=by
 simp only [aQ] at hs;refine bO aD func88 ntmps88 ?_;have W:=trivial;repeat' first|refine wg ?_|(refine sq ?_ ?_<;>intro hc<;>try exact hc.elim)|fail
 all_goals try(refine aV ?_;simp [aH,results88])
 all_goals ((repeat clear hK K);cases a;cases b;simp_all)
theorem toResponse_ok [aC prog] (a:bA) (hs:bI a<=1048576):Ok prog 122 [.agg (bG a)] (.agg (bG a)):=by simp only [bI] at hs;refine bO aD func122 ntmps122 ?_;refine gY ?_;exact aF results122
theorem Ij [aC prog] (a:bA) (n:Int) (h0:0<=n) (h1:n<=1048576) (hw:Ej a):Ok prog 90 [.agg (bG a),.int .i64 n] (.int .i64 (sub n (bI a))):=by
 simp only [Ej] at hw;obtain ⟨aTp,aP2⟩:=hw;refine bO aD func90 ntmps90 ?_;have W:=trivial;repeat' first|refine wg ?_|(refine sq ?_ ?_<;>intro hc<;>try exact hc.elim)|fail
 all_goals try(refine aV ?_;simp [aH,results90,bI])
 all_goals (
  repeat (simp (disch:=omega) only [wrap64] at *)
  (try simp only [sub]);(try split);all_goals omega)
theorem Ik [aC prog] (a b:bA) (hs:bI a<=1099511627776):Ok prog 156 [.agg (bG a),.agg (bG b)] (.bool (decide (a=b))):=by
 simp only [bI] at hs;refine bO aD func156 ntmps156 ?_;have W:=trivial;repeat' first|refine st ?_|(refine nx ?_;refine so ?_)|(refine cx ?_;refine sc (λhc=>?_) (λhc=>?_)<;>try exact hc.elim)|(refine lx ?_;refine sp (λhc=>?_) (λhc=>?_)<;>try exact hc.elim)|refine sx ?_ ?_|refine sy ?_ ?_|fail
 all_goals try(refine aV ?_;simp [aH,results156])
 all_goals ((repeat clear hK K);cases a;cases b;simp_all)
end Go.Proofs.YtdcpobkemdacnaaGreatDoor
