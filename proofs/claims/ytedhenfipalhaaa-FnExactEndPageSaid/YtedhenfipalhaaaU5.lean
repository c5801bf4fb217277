/-
  Proved here: steps towards the statement of this claim, text U5.
  No condition beyond what each statement spells out.
-/
import Derived.Test.YtedhenfipalhaaaU4
set_option linter.all false
set_option linter.unusedSimpArgs false
set_option linter.unusedVariables false
set_option maxRecDepth 4000
set_option maxHeartbeats 4000000
namespace Go.Proofs.Ytedhenfipalhaaa
open Go.Aw
theorem toBuilder_ok [Tabs Try.prog] (a : DBuilder) (hs : szBuilder a ≤ 1048576) : Ok Try.prog 35 [.agg (eBuilder .view a)] (.agg (eBuilder .own a)) := by
  simp only [szBuilder] at hs
  refine ent Try.mix Try.func35 Try.ntmps35 ?_
  have W := trivial
  repeat' first|refine st ?_|(refine nx ?_;first|refine so ?_|refine sk (hc:=toNodeS_ok a.nodes (by omega)) (h:=?_)|refine sk (hc:=toIntS_ok a.opens (by omega)) (h:=?_))|(refine cx ?_;refine sc (fun hc=>?_) (fun hc=>?_)<;>try exact hc.elim)|(refine lx ?_;refine sp (fun hc=>?_) (fun hc=>?_)<;>try exact hc.elim)|refine sx ?_ ?_|refine sy ?_ ?_|fail
  all_goals (try (refine ⟨.inr rfl, ?_⟩; simp [Hands, Try.results35]))

theorem szBuilder_ok [Tabs Try.prog] (a : DBuilder) (n : Int) (h0 : 0 ≤ n) (h1 : n ≤ 1048576) (hw : wfBuilder a) : Ok Try.prog 29 [.agg (eBuilder .view a), .int .i64 n] (.int .i64 (sub n (szBuilder a))) := by
  simp only [wfBuilder] at hw
  obtain ⟨wnodes, wopens⟩ := hw
  refine ent Try.mix Try.func29 Try.ntmps29 ?_
  have W := trivial
  repeat' first|refine st ?_|(refine nx ?_;first|refine so ?_|refine sk (hc:=szNodeS_ok a.nodes _ (by omega) (by repeat' (first | omega | apply purse_le | apply purse_len)) wnodes) (h:=?_)|refine sk (hc:=szIntS_ok a.opens _ (by omega) (by repeat' (first | omega | apply purse_le | apply purse_len)) wopens) (h:=?_))|(refine cx ?_;refine sc (fun hc=>?_) (fun hc=>?_)<;>try exact hc.elim)|(refine lx ?_;refine sp (fun hc=>?_) (fun hc=>?_)<;>try exact hc.elim)|refine sx ?_ ?_|refine sy ?_ ?_|fail
  all_goals (try (refine ⟨.inr rfl, ?_⟩; simp [Hands, Try.results29, szBuilder]))
  all_goals (
    (try generalize e0 : sub n (szL szNode a.nodes) = m0 at *)
    (try (first | have f0 := purse_ok e0 (by omega) | have f0 := purse_bad e0 (by omega) (by omega)))
    (try generalize e1 : sub m0 (a.opens.length) = m1 at *)
    (try (first | have f1 := purse_ok e1 (by omega) | have f1 := purse_bad e1 (by omega) (by omega)))
    repeat (simp (disch := omega) only [wrap64] at *)
    (try simp only [sub]); (try split); all_goals omega)

theorem eqBuilder_ok [Tabs Try.prog] (a b : DBuilder) (hs : szBuilder a ≤ 1099511627776) : Ok Try.prog 41 [.agg (eBuilder .view a), .agg (eBuilder .view b)] (.bool (decide (a = b))) := by
  simp only [szBuilder] at hs
  refine ent Try.mix Try.func41 Try.ntmps41 ?_
  have W := trivial
  repeat' first|refine st ?_|(refine nx ?_;first|refine so ?_|refine sk (hc:=eqNodeS_ok a.nodes b.nodes (by omega)) (h:=?_)|refine sk (hc:=eqIntS_ok a.opens b.opens (by omega)) (h:=?_))|(refine cx ?_;refine sc (fun hc=>?_) (fun hc=>?_)<;>try exact hc.elim)|(refine lx ?_;refine sp (fun hc=>?_) (fun hc=>?_)<;>try exact hc.elim)|refine sx ?_ ?_|refine sy ?_ ?_|fail
  all_goals (try (refine ⟨.inr rfl, ?_⟩; simp [Hands, Try.results41]))
  all_goals ((repeat clear hK K); cases a; cases b; simp_all)

theorem toResult_ok [Tabs Try.prog] (a : DResult) (hs : szResult a ≤ 1048576) : Ok Try.prog 9 [.agg (eResult .view a)] (.agg (eResult .own a)) := by
  simp only [szResult] at hs
  refine ent Try.mix Try.func9 Try.ntmps9 ?_
  have W := trivial
  repeat' first|refine st ?_|(refine nx ?_;first|refine so ?_|refine sk (hc:=toBuilder_ok a.builder (by omega)) (h:=?_)|refine sk (hc:=toStringS_ok a.log (by omega)) (h:=?_)|refine sk (hc:=toStringS_ok a.verdicts (by omega)) (h:=?_)|refine sk (hc:=toSheet_ok a.sheet (by omega)) (h:=?_))|(refine cx ?_;refine sc (fun hc=>?_) (fun hc=>?_)<;>try exact hc.elim)|(refine lx ?_;refine sp (fun hc=>?_) (fun hc=>?_)<;>try exact hc.elim)|refine sx ?_ ?_|refine sy ?_ ?_|fail
  all_goals (try (refine ⟨.inr rfl, ?_⟩; simp [Hands, Try.results9]))

theorem szResult_ok [Tabs Try.prog] (a : DResult) (n : Int) (h0 : 0 ≤ n) (h1 : n ≤ 1048576) (hw : wfResult a) : Ok Try.prog 7 [.agg (eResult .view a), .int .i64 n] (.int .i64 (sub n (szResult a))) := by
  simp only [wfResult] at hw
  obtain ⟨wbuilder, wlog, wverdicts, wsheet⟩ := hw
  refine ent Try.mix Try.func7 Try.ntmps7 ?_
  have W := trivial
  repeat' first|refine st ?_|(refine nx ?_;first|refine so ?_|refine sk (hc:=szBuilder_ok a.builder _ (by omega) (by repeat' (first | omega | apply purse_le | apply purse_len)) wbuilder) (h:=?_)|refine sk (hc:=szStringS_ok a.log _ (by omega) (by repeat' (first | omega | apply purse_le | apply purse_len)) wlog) (h:=?_)|refine sk (hc:=szStringS_ok a.verdicts _ (by omega) (by repeat' (first | omega | apply purse_le | apply purse_len)) wverdicts) (h:=?_)|refine sk (hc:=szSheet_ok a.sheet _ (by omega) (by repeat' (first | omega | apply purse_le | apply purse_len)) wsheet) (h:=?_))|(refine cx ?_;refine sc (fun hc=>?_) (fun hc=>?_)<;>try exact hc.elim)|(refine lx ?_;refine sp (fun hc=>?_) (fun hc=>?_)<;>try exact hc.elim)|refine sx ?_ ?_|refine sy ?_ ?_|fail
  all_goals (try (refine ⟨.inr rfl, ?_⟩; simp [Hands, Try.results7, szResult]))
  all_goals (
    (try generalize e0 : sub n (szBuilder a.builder) = m0 at *)
    (try (first | have f0 := purse_ok e0 (by omega) | have f0 := purse_bad e0 (by omega) (by omega)))
    (try generalize e1 : sub m0 (szL szStr a.log) = m1 at *)
    (try (first | have f1 := purse_ok e1 (by omega) | have f1 := purse_bad e1 (by omega) (by omega)))
    (try generalize e2 : sub m1 (szL szStr a.verdicts) = m2 at *)
    (try (first | have f2 := purse_ok e2 (by omega) | have f2 := purse_bad e2 (by omega) (by omega)))
    (try generalize e3 : sub m2 (szSheet a.sheet) = m3 at *)
    (try (first | have f3 := purse_ok e3 (by omega) | have f3 := purse_bad e3 (by omega) (by omega)))
    repeat (simp (disch := omega) only [wrap64] at *)
    (try simp only [sub]); (try split); all_goals omega)

theorem eqResult_ok [Tabs Try.prog] (a b : DResult) (hs : szResult a ≤ 1099511627776) : Ok Try.prog 11 [.agg (eResult .view a), .agg (eResult .view b)] (.bool (decide (a = b))) := by
  simp only [szResult] at hs
  refine ent Try.mix Try.func11 Try.ntmps11 ?_
  have W := trivial
  repeat' first|refine st ?_|(refine nx ?_;first|refine so ?_|refine sk (hc:=eqBuilder_ok a.builder b.builder (by omega)) (h:=?_)|refine sk (hc:=eqStringS_ok a.log b.log (by omega)) (h:=?_)|refine sk (hc:=eqStringS_ok a.verdicts b.verdicts (by omega)) (h:=?_)|refine sk (hc:=eqSheet_ok a.sheet b.sheet (by omega)) (h:=?_))|(refine cx ?_;refine sc (fun hc=>?_) (fun hc=>?_)<;>try exact hc.elim)|(refine lx ?_;refine sp (fun hc=>?_) (fun hc=>?_)<;>try exact hc.elim)|refine sx ?_ ?_|refine sy ?_ ?_|fail
  all_goals (try (refine ⟨.inr rfl, ?_⟩; simp [Hands, Try.results11]))
  all_goals ((repeat clear hK K); cases a; cases b; simp_all)

end Go.Proofs.Ytedhenfipalhaaa
