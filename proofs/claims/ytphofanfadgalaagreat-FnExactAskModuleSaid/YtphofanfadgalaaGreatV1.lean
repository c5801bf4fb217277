/-
  Proved here: steps towards the statement of this claim, text V1.
  No condition beyond what each statement spells out.
-/
import Derived.Test.YtphofanfadgalaaGreatU5
set_option linter.all false
set_option linter.unusedSimpArgs false
set_option linter.unusedVariables false
set_option maxRecDepth 4000
set_option maxHeartbeats 4000000
namespace Go.Proofs.YtphofanfadgalaaGreat
open Go.Aw
theorem toPage_ok [Tabs Tryz.prog] (a : DPage) (hs : szPage a ≤ 1048576) : Ok Tryz.prog 8 [.agg (ePage .view a)] (.agg (ePage .own a)) := by
  simp only [szPage] at hs
  refine ent Tryz.mix Tryz.func8 Tryz.ntmps8 ?_
  have W := trivial
  repeat' first|refine st ?_|(refine nx ?_;first|refine so ?_|refine sk (hc:=toAddr_ok a.addr (by omega)) (h:=?_)|refine sk (hc:=toPolicy_ok a.policy (by omega)) (h:=?_)|refine sk (hc:=toTokenizer_ok a.tok (by omega)) (h:=?_)|refine sk (hc:=toTokenS_ok a.queue (by omega)) (h:=?_)|refine sk (hc:=toBuilder_ok a.builder (by omega)) (h:=?_)|refine sk (hc:=toSlotS_ok a.slots (by omega)) (h:=?_)|refine sk (hc:=toModuleS_ok a.mods (by omega)) (h:=?_)|refine sk (hc:=toAddrS_ok a.entries (by omega)) (h:=?_)|refine sk (hc:=toAddrS_ok a.ran (by omega)) (h:=?_)|refine sk (hc:=toStringS_ok a.log (by omega)) (h:=?_))|(refine cx ?_;refine sc (fun hc=>?_) (fun hc=>?_)<;>try exact hc.elim)|(refine lx ?_;refine sp (fun hc=>?_) (fun hc=>?_)<;>try exact hc.elim)|refine sx ?_ ?_|refine sy ?_ ?_|fail
  all_goals (try (refine ⟨.inr rfl, ?_⟩; simp [Hands, Tryz.results8]))

end Go.Proofs.YtphofanfadgalaaGreat
