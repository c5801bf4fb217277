/-
  Proved here: contracts of the marks of policies and builders.
  No condition beyond what each statement spells out.
-/
import Derived.Test.YtphofanfadgalaaGreatM6
import Derived.Test.YtphofanfadgalaaGreatF4
set_option linter.all false
set_option linter.unusedSimpArgs false
set_option linter.unusedVariables false
set_option maxRecDepth 4000
set_option maxHeartbeats 4000000
namespace Go.Proofs.YtphofanfadgalaaGreat
open Go.Aw

theorem markPolicy_ok [Tabs Tryz.prog] (a : DPolicy) (k : Int) (h0 : 0 ≤ k) (hl : k + (cPolicy a : Nat) ≤ 4611686018427387000) : OkM Tryz.prog 49 (.agg (ePolicy .own a)) (.agg (ePolicy .own (mkPolicy k a))) [.int .i64 k] (.int .i64 (k + (cPolicy a : Nat))) := by
  simp only [cPolicy] at hl
  have l1 := sumN_const 1 a.scripts
  have l2 := sumN_const 1 a.styles
  have l3 := sumN_const 1 a.images
  refine entM Tryz.mix Tryz.func49 Tryz.ntmps49 ?_
  have W := trivial
  repeat' first|refine st ?_|(refine nx ?_;first|refine so ?_|refine sm (hc:=markStringS_ok a.scripts _ (by omega) (by omega) (by omega)) (h:=?_)|refine sm (hc:=markStringS_ok a.styles _ (by omega) (by omega) (by omega)) (h:=?_)|refine sm (hc:=markStringS_ok a.images _ (by omega) (by omega) (by omega)) (h:=?_))|(refine cx ?_;refine sc (fun hc=>?_) (fun hc=>?_)<;>try exact hc.elim)|(refine lx ?_;refine sp (fun hc=>?_) (fun hc=>?_)<;>try exact hc.elim)|refine sx ?_ ?_|refine sy ?_ ?_|fail
  all_goals (try (refine ⟨.inr rfl, ?_⟩; simp [HandsM, Tryz.results49, mkPolicy, cPolicy]))
  all_goals (try omega)

theorem markBuilder_ok [Tabs Tryz.prog] (a : DBuilder) (k : Int) (h0 : 0 ≤ k) (hl : k + (cBuilder a : Nat) ≤ 4611686018427387000) (hll : a.nodes.length ≤ 4611686018427387904) (hla : ∀ x ∈ a.nodes, x.attrs.length ≤ 4611686018427387904) : OkM Tryz.prog 51 (.agg (eBuilder .own a)) (.agg (eBuilder .own (mkBuilder k a))) [.int .i64 k] (.int .i64 (k + (cBuilder a : Nat))) := by
  simp only [cBuilder] at hl
  have l2 := sumN_const 1 a.opens
  refine entM Tryz.mix Tryz.func51 Tryz.ntmps51 ?_
  have W := trivial
  repeat' first|refine st ?_|(refine nx ?_;first|refine so ?_|refine sm (hc:=markNodeS_ok a.nodes _ (by omega) (by omega) hll hla) (h:=?_)|refine sm (hc:=markIntS_ok a.opens _ (by omega) (by omega) (by omega)) (h:=?_))|(refine cx ?_;refine sc (fun hc=>?_) (fun hc=>?_)<;>try exact hc.elim)|(refine lx ?_;refine sp (fun hc=>?_) (fun hc=>?_)<;>try exact hc.elim)|refine sx ?_ ?_|refine sy ?_ ?_|fail
  all_goals (try (refine ⟨.inr rfl, ?_⟩; simp [HandsM, Tryz.results51, mkBuilder, cBuilder]))
  all_goals (try omega)
end Go.Proofs.YtphofanfadgalaaGreat
