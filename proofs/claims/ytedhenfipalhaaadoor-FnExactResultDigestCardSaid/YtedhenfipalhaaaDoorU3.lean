/-
  Proved here: steps towards the statement of this claim, text U3.
  No condition beyond what each statement spells out.
-/
import Derived.Test.YtedhenfipalhaaaDoorU2
set_option linter.all false
set_option linter.unusedSimpArgs false
set_option linter.unusedVariables false
set_option maxRecDepth 4000
set_option maxHeartbeats 4000000
namespace Go.Proofs.YtedhenfipalhaaaDoor
open Go.Aw
theorem toNode_ok [Tabs Tryd.prog] (a : DNode) (hs : szNode a ≤ 1048576) : Ok Tryd.prog 68 [.agg (eNode .view a)] (.agg (eNode .own a)) := by
  simp only [szNode] at hs
  refine ent Tryd.mix Tryd.func68 Tryd.ntmps68 ?_
  have W := trivial
  repeat' first|refine st ?_|(refine nx ?_;first|refine so ?_|refine sk (hc:=toAttrS_ok a.attrs (by omega)) (h:=?_))|(refine cx ?_;refine sc (fun hc=>?_) (fun hc=>?_)<;>try exact hc.elim)|(refine lx ?_;refine sp (fun hc=>?_) (fun hc=>?_)<;>try exact hc.elim)|refine sx ?_ ?_|refine sy ?_ ?_|fail
  all_goals (try (refine ⟨.inr rfl, ?_⟩; simp [Hands, Tryd.results68]))

theorem szNode_ok [Tabs Tryd.prog] (a : DNode) (n : Int) (h0 : 0 ≤ n) (h1 : n ≤ 1048576) (hw : wfNode a) : Ok Tryd.prog 67 [.agg (eNode .view a), .int .i64 n] (.int .i64 (sub n (szNode a))) := by
  simp only [wfNode] at hw
  obtain ⟨wname, wtext, wattrs⟩ := hw
  refine ent Tryd.mix Tryd.func67 Tryd.ntmps67 ?_
  have W := trivial
  repeat' first|refine st ?_|(refine nx ?_;first|refine so ?_|refine sk (hc:=szAttrS_ok a.attrs _ (by omega) (by repeat' (first | omega | apply purse_le | apply purse_len)) wattrs) (h:=?_))|(refine cx ?_;refine sc (fun hc=>?_) (fun hc=>?_)<;>try exact hc.elim)|(refine lx ?_;refine sp (fun hc=>?_) (fun hc=>?_)<;>try exact hc.elim)|refine sx ?_ ?_|refine sy ?_ ?_|fail
  all_goals (try (refine ⟨.inr rfl, ?_⟩; simp [Hands, Tryd.results67, szNode]))
  all_goals (
    (try generalize e0 : sub (n - (a.name.length : Int) - (a.text.length : Int)) (szL szAttr a.attrs) = m0 at *)
    (try (first | have f0 := purse_ok e0 (by omega) | have f0 := purse_bad e0 (by omega) (by omega)))
    repeat (simp (disch := omega) only [wrap64] at *)
    (try simp only [sub]); (try split); all_goals omega)

theorem eqNode_ok [Tabs Tryd.prog] (a b : DNode) (hs : szNode a ≤ 1099511627776) : Ok Tryd.prog 73 [.agg (eNode .view a), .agg (eNode .view b)] (.bool (decide (a = b))) := by
  simp only [szNode] at hs
  refine ent Tryd.mix Tryd.func73 Tryd.ntmps73 ?_
  have W := trivial
  repeat' first|refine st ?_|(refine nx ?_;first|refine so ?_|refine sk (hc:=eqAttrS_ok a.attrs b.attrs (by omega)) (h:=?_))|(refine cx ?_;refine sc (fun hc=>?_) (fun hc=>?_)<;>try exact hc.elim)|(refine lx ?_;refine sp (fun hc=>?_) (fun hc=>?_)<;>try exact hc.elim)|refine sx ?_ ?_|refine sy ?_ ?_|fail
  all_goals (try (refine ⟨.inr rfl, ?_⟩; simp [Hands, Tryd.results73]))
  all_goals ((repeat clear hK K); cases a; cases b; simp_all)

theorem toSheet_ok [Tabs Tryd.prog] (a : DSheet) (hs : szSheet a ≤ 1048576) : Ok Tryd.prog 61 [.agg (eSheet .view a)] (.agg (eSheet .own a)) := by
  simp only [szSheet] at hs
  refine ent Tryd.mix Tryd.func61 Tryd.ntmps61 ?_
  have W := trivial
  repeat' first|refine st ?_|(refine nx ?_;first|refine so ?_|refine sk (hc:=toRuleS_ok a.rules (by omega)) (h:=?_))|(refine cx ?_;refine sc (fun hc=>?_) (fun hc=>?_)<;>try exact hc.elim)|(refine lx ?_;refine sp (fun hc=>?_) (fun hc=>?_)<;>try exact hc.elim)|refine sx ?_ ?_|refine sy ?_ ?_|fail
  all_goals (try (refine ⟨.inr rfl, ?_⟩; simp [Hands, Tryd.results61]))

theorem szSheet_ok [Tabs Tryd.prog] (a : DSheet) (n : Int) (h0 : 0 ≤ n) (h1 : n ≤ 1048576) (hw : wfSheet a) : Ok Tryd.prog 56 [.agg (eSheet .view a), .int .i64 n] (.int .i64 (sub n (szSheet a))) := by
  simp only [wfSheet] at hw
  have wrules := hw
  refine ent Tryd.mix Tryd.func56 Tryd.ntmps56 ?_
  have W := trivial
  repeat' first|refine st ?_|(refine nx ?_;first|refine so ?_|refine sk (hc:=szRuleS_ok a.rules _ (by omega) (by repeat' (first | omega | apply purse_le | apply purse_len)) wrules) (h:=?_))|(refine cx ?_;refine sc (fun hc=>?_) (fun hc=>?_)<;>try exact hc.elim)|(refine lx ?_;refine sp (fun hc=>?_) (fun hc=>?_)<;>try exact hc.elim)|refine sx ?_ ?_|refine sy ?_ ?_|fail
  all_goals (try (refine ⟨.inr rfl, ?_⟩; simp [Hands, Tryd.results56, szSheet]))
  all_goals (
    (try generalize e0 : sub n (szL szRule a.rules) = m0 at *)
    (try (first | have f0 := purse_ok e0 (by omega) | have f0 := purse_bad e0 (by omega) (by omega)))
    repeat (simp (disch := omega) only [wrap64] at *)
    (try simp only [sub]); (try split); all_goals omega)

theorem eqSheet_ok [Tabs Tryd.prog] (a b : DSheet) (hs : szSheet a ≤ 1099511627776) : Ok Tryd.prog 66 [.agg (eSheet .view a), .agg (eSheet .view b)] (.bool (decide (a = b))) := by
  simp only [szSheet] at hs
  refine ent Tryd.mix Tryd.func66 Tryd.ntmps66 ?_
  have W := trivial
  repeat' first|refine st ?_|(refine nx ?_;first|refine so ?_|refine sk (hc:=eqRuleS_ok a.rules b.rules (by omega)) (h:=?_))|(refine cx ?_;refine sc (fun hc=>?_) (fun hc=>?_)<;>try exact hc.elim)|(refine lx ?_;refine sp (fun hc=>?_) (fun hc=>?_)<;>try exact hc.elim)|refine sx ?_ ?_|refine sy ?_ ?_|fail
  all_goals (try (refine ⟨.inr rfl, ?_⟩; simp [Hands, Tryd.results66]))
  all_goals ((repeat clear hK K); cases a; cases b; simp_all)

theorem eqRequestS_ok [Tabs Tryd.prog] (a b : List DRequest) (hs : szL szRequest a ≤ 1099511627776) : Ok Tryd.prog 22 [.sl .view 5 (a.map eRequest), .sl .view 5 (b.map eRequest)] (.bool (decide (a = b))) := by
  have hl : a.length ≤ 1099511627776 := by (try simp only [szL] at hs); omega
  refine ent Tryd.mix Tryd.func22 Tryd.ntmps22 ?_
  have W := trivial
  repeat' first|refine st ?_|(refine nx ?_;refine so ?_)|(refine cx ?_;refine sc (fun hc=>?_) (fun hc=>?_)<;>try exact hc.elim)|(refine lx ?_;refine sp (fun hc=>?_) (fun hc=>?_)<;>try exact hc.elim)|refine sx ?_ ?_|refine sy ?_ ?_|fail
  · all_goals (try (refine ⟨.inr rfl, ?_⟩; simp [Hands, Tryd.results22]))
    intro h; subst h; exact absurd rfl hc
  · have hlen : a.length = b.length := by omega
    refine awp_loop' (ι := { k : Nat // k ≤ a.length ∧ a.take k = b.take k }) (fun t o i => ⟨upds t [(5, .int .i64 i.1)], []⟩)
      (fun i => a.length - i.1) ⟨0, by simp⟩ (weak_o (by simp) (by simp)) ?_
    rintro ⟨k, hk, hpre⟩ K1 hK1
    simp only [upds, List.set_cons_succ, List.set_cons_zero] at hK1 ⊢
    have hk1 : IntKind.i64.wrap ((k : Int) + 1) = ((k + 1 : Nat) : Int) := by rw [wrap64] <;> omega
    by_cases hlt : k < a.length
    · have hg := List.getElem?_eq_getElem hlt
      have hltb : k < b.length := by omega
      have hgb := List.getElem?_eq_getElem hltb
      have W := And.intro hk1 (And.intro hg (And.intro hlt (And.intro hgb hltb)))
      repeat' first|refine st ?_|(refine nx ?_;first|refine so ?_|refine sk (hc:=eqRequest_ok a[k] b[k] (by have := sumN_get_le szRequest a k hlt; (try simp only [szL] at hs); omega)) (h:=?_))|(refine cx ?_;refine sc (fun hc=>?_) (fun hc=>?_)<;>try exact hc.elim)|(refine lx ?_;refine sp (fun hc=>?_) (fun hc=>?_)<;>try exact hc.elim)|refine sx ?_ ?_|refine sy ?_ ?_|fail
      · all_goals (try (refine ⟨.inr rfl, ?_⟩; simp [Hands, Tryd.results22]))
        intro h; subst h; exact hc rfl
      · have hts : a.take (k + 1) = b.take (k + 1) := by
          rw [List.take_succ_eq_append_getElem hlt, List.take_succ_eq_append_getElem hltb, hpre, hc]
        refine hK1 _ ⟨k + 1, by omega, hts⟩ (weak_o (by simp) (by simp)) (by simp only; omega)
    · have hka : a.length ≤ k := by omega
      rw [List.take_of_length_le hka, List.take_of_length_le (by omega)] at hpre
      subst hpre
      have W := hk1
      repeat' first|refine st ?_|(refine nx ?_;refine so ?_)|(refine cx ?_;refine sc (fun hc=>?_) (fun hc=>?_)<;>try exact hc.elim)|(refine lx ?_;refine sp (fun hc=>?_) (fun hc=>?_)<;>try exact hc.elim)|refine sx ?_ ?_|refine sy ?_ ?_|fail
      all_goals (try (refine ⟨.inr rfl, ?_⟩; simp [Hands, Tryd.results22]))

end Go.Proofs.YtedhenfipalhaaaDoor
