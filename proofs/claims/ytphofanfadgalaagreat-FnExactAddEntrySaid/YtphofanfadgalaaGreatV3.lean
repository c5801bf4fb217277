/-
  Proved here: steps towards the statement of this claim, text V3.
  No condition beyond what each statement spells out.
-/
import Derived.Test.YtphofanfadgalaaGreatU5
set_option linter.all false
set_option linter.unusedSimpArgs false
set_option linter.unusedVariables false
set_option maxRecDepth 4000
set_option maxHeartbeats 4000000
namespace Go.Proofs.YtphofanfadgalaaGreat
open Go.Aw
theorem eqPage_ok [Tabs Tryz.prog] (a b : DPage) (hs : szPage a ≤ 1099511627776) : Ok Tryz.prog 11 [.agg (ePage .view a), .agg (ePage .view b)] (.bool (decide (a = b))) := by
  simp only [szPage] at hs
  refine ent Tryz.mix Tryz.func11 Tryz.ntmps11 ?_
  have W := trivial
  repeat' first|refine st ?_|(refine nx ?_;first|refine so ?_|refine sk (hc:=eqAddr_ok a.addr b.addr (by omega)) (h:=?_)|refine sk (hc:=eqPolicy_ok a.policy b.policy (by omega)) (h:=?_)|refine sk (hc:=eqTokenizer_ok a.tok b.tok (by omega)) (h:=?_)|refine sk (hc:=eqTokenS_ok a.queue b.queue (by omega)) (h:=?_)|refine sk (hc:=eqBuilder_ok a.builder b.builder (by omega)) (h:=?_)|refine sk (hc:=eqSlotS_ok a.slots b.slots (by omega)) (h:=?_)|refine sk (hc:=eqModuleS_ok a.mods b.mods (by omega)) (h:=?_)|refine sk (hc:=eqAddrS_ok a.entries b.entries (by omega)) (h:=?_)|refine sk (hc:=eqAddrS_ok a.ran b.ran (by omega)) (h:=?_)|refine sk (hc:=eqStringS_ok a.log b.log (by omega)) (h:=?_))|(refine cx ?_;refine sc (fun hc=>?_) (fun hc=>?_)<;>try exact hc.elim)|(refine lx ?_;refine sp (fun hc=>?_) (fun hc=>?_)<;>try exact hc.elim)|refine sx ?_ ?_|refine sy ?_ ?_|fail
  all_goals (try (refine ⟨.inr rfl, ?_⟩; simp [Hands, Tryz.results11]))
  all_goals ((repeat clear hK K); cases a; cases b; simp_all)

end Go.Proofs.YtphofanfadgalaaGreat
