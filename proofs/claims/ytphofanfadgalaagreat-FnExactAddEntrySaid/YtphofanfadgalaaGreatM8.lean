/-
  Proved here: the contract of the marks of a page.
  No condition beyond what each statement spells out.
-/
import Derived.Test.YtphofanfadgalaaGreatM7
import Derived.Test.YtphofanfadgalaaGreatW2
import Derived.Test.YtphofanfadgalaaGreatW3
set_option linter.all false
set_option linter.unusedSimpArgs false
set_option linter.unusedVariables false
set_option maxRecDepth 8000
set_option maxHeartbeats 8000000
namespace Go.Proofs.YtphofanfadgalaaGreat
open Go.Aw

theorem markPage_ok [Tabs Tryz.prog] (a : DPage) (k : Int) (h0 : 0 ≤ k) (hl : k + (cPage a : Nat) ≤ 4611686018427387000) (hq : a.queue.length ≤ 4611686018427387904) (hqa : ∀ x ∈ a.queue, x.attrs.length ≤ 4611686018427387904)
    (hb : a.builder.nodes.length ≤ 4611686018427387904) (hba : ∀ x ∈ a.builder.nodes, x.attrs.length ≤ 4611686018427387904) :
    OkM Tryz.prog 12 (.agg (ePage .own a)) (.agg (ePage .own (mkPage k a))) [.int .i64 k] (.int .i64 (k + (cPage a : Nat))) := by
  simp only [cPage] at hl
  have l1 := sumN_const 8 a.slots
  have l2 := sumN_const 5 a.mods
  have l3 := sumN_const 2 a.entries
  have l4 := sumN_const 2 a.ran
  have l5 := sumN_const 1 a.log
  refine entM Tryz.mix Tryz.func12 Tryz.ntmps12 ?_
  have W := trivial
  repeat' first|refine st ?_|(refine nx ?_;first|refine so ?_|refine sm (hc:=markPolicy_ok a.policy _ (by omega) (by omega)) (h:=?_)|refine sm (hc:=markTokenS_ok a.queue _ (by omega) (by omega) hq hqa) (h:=?_)|refine sm (hc:=markBuilder_ok a.builder _ (by omega) (by omega) hb hba) (h:=?_)|refine sm (hc:=markSlotS_ok a.slots _ (by omega) (by omega) (by omega)) (h:=?_)|refine sm (hc:=markModuleS_ok a.mods _ (by omega) (by omega) (by omega)) (h:=?_)|refine sm (hc:=markAddrS_ok a.entries _ (by omega) (by omega) (by omega)) (h:=?_)|refine sm (hc:=markAddrS_ok a.ran _ (by omega) (by omega) (by omega)) (h:=?_)|refine sm (hc:=markStringS_ok a.log _ (by omega) (by omega) (by omega)) (h:=?_))|(refine cx ?_;refine sc (fun hc=>?_) (fun hc=>?_)<;>try exact hc.elim)|(refine lx ?_;refine sp (fun hc=>?_) (fun hc=>?_)<;>try exact hc.elim)|refine sx ?_ ?_|refine sy ?_ ?_|fail
  all_goals (try (refine ⟨.inr rfl, ?_⟩; simp [HandsM, Tryz.results12, mkPage, cPage, mkPolicy, mkBuilder]))
  all_goals (try omega)
end Go.Proofs.YtphofanfadgalaaGreat
