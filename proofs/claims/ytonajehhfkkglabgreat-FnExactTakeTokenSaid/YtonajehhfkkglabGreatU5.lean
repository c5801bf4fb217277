/-
  Proved here: steps towards the statement of this claim, text U5.
  No condition beyond what each statement spells out.
-/
import Derived.Test.YtonajehhfkkglabGreatU4
set_option linter.all false
set_option maxRecDepth 4000
set_option maxHeartbeats 4000000
namespace Go.Proofs.YtonajehhfkkglabGreat
open Go.Aw
theorem toBuilder_ok [Tabs Tryz.prog] (a : DBuilder) (hs : szBuilder a ≤ 1048576) : Ok Tryz.prog 29 [.agg (eBuilder .view a)] (.agg (eBuilder .own a)) := by
  simp only [szBuilder] at hs
  refine ent Tryz.mix Tryz.func29 Tryz.ntmps29 ?_
  have W := trivial
  repeat' first|refine st ?_|(refine nx ?_;first|refine so ?_|refine sk (hc:=toNodeS_ok a.nodes (by omega)) (h:=?_)|refine sk (hc:=toIntS_ok a.opens (by omega)) (h:=?_))|(refine cx ?_;refine sc (fun hc=>?_) (fun hc=>?_)<;>try exact hc.elim)|(refine lx ?_;refine sp (fun hc=>?_) (fun hc=>?_)<;>try exact hc.elim)|refine sx ?_ ?_|refine sy ?_ ?_|fail
  all_goals (try (refine ⟨.inr rfl, ?_⟩; simp [Hands, Tryz.results29]))
theorem szBuilder_ok [Tabs Tryz.prog] (a : DBuilder) (n : Int) (h0 : 0 ≤ n) (h1 : n ≤ 1048576) (hw : wfBuilder a) : Ok Tryz.prog 15 [.agg (eBuilder .view a), .int .i64 n] (.int .i64 (sub n (szBuilder a))) := by
  simp only [wfBuilder] at hw
  obtain ⟨wnodes, wopens⟩ := hw
  refine ent Tryz.mix Tryz.func15 Tryz.ntmps15 ?_
  have W := trivial
  repeat' first|refine st ?_|(refine nx ?_;first|refine so ?_|refine sk (hc:=szNodeS_ok a.nodes _ (by omega) (by repeat' (first | omega | apply purse_le | apply purse_len)) wnodes) (h:=?_)|refine sk (hc:=szIntS_ok a.opens _ (by omega) (by repeat' (first | omega | apply purse_le | apply purse_len)) wopens) (h:=?_))|(refine cx ?_;refine sc (fun hc=>?_) (fun hc=>?_)<;>try exact hc.elim)|(refine lx ?_;refine sp (fun hc=>?_) (fun hc=>?_)<;>try exact hc.elim)|refine sx ?_ ?_|refine sy ?_ ?_|fail
  all_goals (try (refine ⟨.inr rfl, ?_⟩; simp [Hands, Tryz.results15, szBuilder]))
  all_goals (
    (try generalize e0 : sub n (szL szNode a.nodes) = m0 at *)
    (try (first | have f0 := purse_ok e0 (by omega) | have f0 := purse_bad e0 (by omega) (by omega)))
    (try generalize e1 : sub m0 (a.opens.length) = m1 at *)
    (try (first | have f1 := purse_ok e1 (by omega) | have f1 := purse_bad e1 (by omega) (by omega)))
    repeat (simp (disch := omega) only [wrap64] at *)
    (try simp only [sub]); (try split); all_goals omega)
theorem eqBuilder_ok [Tabs Tryz.prog] (a b : DBuilder) (hs : szBuilder a ≤ 1099511627776) : Ok Tryz.prog 42 [.agg (eBuilder .view a), .agg (eBuilder .view b)] (.bool (decide (a = b))) := by
  simp only [szBuilder] at hs
  refine ent Tryz.mix Tryz.func42 Tryz.ntmps42 ?_
  have W := trivial
  repeat' first|refine st ?_|(refine nx ?_;first|refine so ?_|refine sk (hc:=eqNodeS_ok a.nodes b.nodes (by omega)) (h:=?_)|refine sk (hc:=eqIntS_ok a.opens b.opens (by omega)) (h:=?_))|(refine cx ?_;refine sc (fun hc=>?_) (fun hc=>?_)<;>try exact hc.elim)|(refine lx ?_;refine sp (fun hc=>?_) (fun hc=>?_)<;>try exact hc.elim)|refine sx ?_ ?_|refine sy ?_ ?_|fail
  all_goals (try (refine ⟨.inr rfl, ?_⟩; simp [Hands, Tryz.results42]))
  all_goals ((repeat clear hK K); cases a; cases b; simp_all)
end Go.Proofs.YtonajehhfkkglabGreat
