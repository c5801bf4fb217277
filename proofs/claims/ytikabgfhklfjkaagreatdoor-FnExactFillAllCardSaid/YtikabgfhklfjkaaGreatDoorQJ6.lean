/-
  Proved here: steps towards the statement of this claim, text J6.
  No condition beyond what each statement spells out.
-/
import Derived.Test.YtikabgfhklfjkaaGreatDoorQJ5
import Derived.Test.YtikabgfhklfjkaaGreatDoorQF6
set_option linter.all false
set_option linter.unusedSimpArgs false
set_option linter.unusedVariables false
set_option maxRecDepth 4000
set_option maxHeartbeats 4000000
namespace Go.Proofs.YtikabgfhklfjkaaGreatDoor
open Go.Aw

def isResponse (x : DResponse) : Bool :=
  (decide (100 ≤ x.status) && decide (x.status ≤ 599)) && (decide (1 ≤ x.kind) && decide (x.kind ≤ 5)) && decide (x.body.length ≤ 400) && (decide (0 ≤ x.age) && decide (x.age ≤ 1000)) && (parsePolicy x.policy).2
theorem implParsePolicy_ok [Tabs Tryz.prog] [HasMax Tryz.prog] (s : Str) (hl : s.length ≤ 1073741824) : Ok Tryz.prog 101 [.str s] (.tup [.agg (ePolicy .own (parsePolicy s).1), .bool (parsePolicy s).2]) := by
  have h := implParsePolicy0_ok s hl
  rw [parse_same s] at h
  exact h
theorem specIsResponse_ok [Tabs Tryz.prog] [HasMax Tryz.prog] (x : DResponse) (hl : szResponse x ≤ 1073741824) : Ok Tryz.prog 97 [.agg (eResponse x)] (.bool (isResponse x)) := by
  simp only [szResponse] at hl
  have c0 : Ok Tryz.prog 95 [.str x.policy] (.tup [.agg (ePolicy .view (parsePolicy x.policy).1), .bool (parsePolicy x.policy).2]) := specParsePolicy_ok x.policy (by omega)
  have c1 := specIn_ok x.status 100 599
  have c2 := specIn_ok x.kind 1 5
  have c3 := specIn_ok x.age 0 1000
  have e : decide (x.body.length ≤ 400) = decide ((x.body.length : Int) ≤ 400) := by simp only [decide_eq_decide]; omega
  unfold isResponse
  rw [e]
  generalize (decide (100 ≤ x.status) && decide (x.status ≤ 599)) = b1 at *
  generalize (decide (1 ≤ x.kind) && decide (x.kind ≤ 5)) = b2 at *
  generalize (decide (0 ≤ x.age) && decide (x.age ≤ 1000)) = b3 at *
  generalize (parsePolicy x.policy).1 = q at *
  generalize (parsePolicy x.policy).2 = b4 at *
  simp only [ePolicy] at c0
  refine ent Tryz.mix Tryz.func97 Tryz.ntmps97 ?_
  have W := trivial
  repeat' first|refine st ?_|(refine nx ?_;first|refine se ?_|refine so ?_)|(refine cx ?_;refine sc (fun hc=>?_) (fun hc=>?_)<;>try exact hc.elim)|(refine lx ?_;refine sp (fun hc=>?_) (fun hc=>?_)<;>try exact hc.elim)|refine sx ?_ ?_|refine sy ?_ ?_|fail
  all_goals (try (refine ⟨.inr rfl, ?_⟩; simp [Hands, Tryz.results97]))
  all_goals first | (simp_all; done) | (simp_all; omega) | (simp_all; intros; omega)
theorem implIsResponse_ok [Tabs Tryz.prog] [HasMax Tryz.prog] (x : DResponse) (hl : szResponse x ≤ 1073741824) : Ok Tryz.prog 100 [.agg (eResponse x)] (.bool (isResponse x)) := by
  simp only [szResponse] at hl
  have c0 := implParsePolicy_ok x.policy (by omega)
  have c1 := implIn_ok x.status 100 599
  have c2 := implIn_ok x.kind 1 5
  have c3 := implIn_ok x.age 0 1000
  have e : decide (x.body.length ≤ 400) = decide ((x.body.length : Int) ≤ 400) := by simp only [decide_eq_decide]; omega
  unfold isResponse
  rw [e]
  generalize (decide (100 ≤ x.status) && decide (x.status ≤ 599)) = b1 at *
  generalize (decide (1 ≤ x.kind) && decide (x.kind ≤ 5)) = b2 at *
  generalize (decide (0 ≤ x.age) && decide (x.age ≤ 1000)) = b3 at *
  generalize (parsePolicy x.policy).1 = q at *
  generalize (parsePolicy x.policy).2 = b4 at *
  simp only [ePolicy] at c0
  refine ent Tryz.mix Tryz.func100 Tryz.ntmps100 ?_
  have W := trivial
  repeat' first|refine st ?_|(refine nx ?_;first|refine se ?_|refine so ?_)|(refine cx ?_;refine sc (fun hc=>?_) (fun hc=>?_)<;>try exact hc.elim)|(refine lx ?_;refine sp (fun hc=>?_) (fun hc=>?_)<;>try exact hc.elim)|refine sx ?_ ?_|refine sy ?_ ?_|fail
  all_goals (try (refine ⟨.inr rfl, ?_⟩; simp [Hands, Tryz.results100]))
  all_goals first | (simp_all; done) | (simp_all; omega) | (simp_all; intros; omega)
def newBuilder : DBuilder := ⟨[⟨[112, 97, 103, 101], [], -1, []⟩], [0]⟩
theorem implNewBuilder_ok [Tabs Tryz.prog] [HasMax Tryz.prog] : Ok Tryz.prog 102 [] (.agg (eBuilder .own newBuilder)) := by
  refine ent Tryz.mix Tryz.func102 Tryz.ntmps102 ?_
  have W := trivial
  repeat' first|refine st ?_|(refine nx ?_;first|refine se ?_|refine so ?_)|(refine cx ?_;refine sc (fun hc=>?_) (fun hc=>?_)<;>try exact hc.elim)|(refine lx ?_;refine sp (fun hc=>?_) (fun hc=>?_)<;>try exact hc.elim)|refine sx ?_ ?_|refine sy ?_ ?_|fail
  all_goals (try (refine ⟨.inr rfl, ?_⟩; simp [Hands, Tryz.results102, newBuilder]))
theorem specNewBuilder_ok [Tabs Tryz.prog] [HasMax Tryz.prog] : Ok Tryz.prog 98 [] (.agg (eBuilder .own newBuilder)) := by
  refine ent Tryz.mix Tryz.func98 Tryz.ntmps98 ?_
  have W := trivial
  repeat' first|refine st ?_|(refine nx ?_;first|refine se ?_|refine so ?_)|(refine cx ?_;refine sc (fun hc=>?_) (fun hc=>?_)<;>try exact hc.elim)|(refine lx ?_;refine sp (fun hc=>?_) (fun hc=>?_)<;>try exact hc.elim)|refine sx ?_ ?_|refine sy ?_ ?_|fail
  all_goals (try (refine ⟨.inr rfl, ?_⟩; simp [Hands, Tryz.results98, newBuilder]))
def noPage : DPage := ⟨⟨[], []⟩, noPol, ⟨[]⟩, [], false, ⟨[], []⟩, [], [], [], 0, 0, 0, 0, [], [], false⟩
def pageOf (a : DAddr) (p : DPolicy) : DPage := ⟨a, p, ⟨[]⟩, [], false, newBuilder, [], [], [], 0, 0, 0, 0, [], [], false⟩
def newPage (a : DAddr) (x : DResponse) : DPage × Bool :=
  if isAddr a = true ∧ isResponse x = true ∧ x.status = 200 ∧ x.kind = 1 then (pageOf a (parsePolicy x.policy).1, true) else (noPage, false)
theorem newPage_if (a : DAddr) (x : DResponse) : newPage a x = if (!isAddr a || !isResponse x || !decide (x.status = 200) || !decide (x.kind = 1)) = true then (noPage, false) else (pageOf a (parsePolicy x.policy).1, true) := by
  unfold newPage
  cases isAddr a <;> cases isResponse x <;> by_cases h1 : x.status = 200 <;> by_cases h2 : x.kind = 1 <;> simp [h1, h2]
theorem implNewPage_ok [Tabs Tryz.prog] [HasMax Tryz.prog] (a : DAddr) (x : DResponse) (ha : szAddr a ≤ 1073741824) (hl : szResponse x ≤ 1073741824) : Ok Tryz.prog 27 [.agg (eAddr a), .agg (eResponse x)] (.tup [.agg (ePage .own (newPage a x).1), .bool (newPage a x).2]) := by
  have c1 := implIsAddr_ok a (by omega)
  simp only [szAddr] at ha
  have c2 := implIsResponse_ok x hl
  have c4 := implNewBuilder_ok
  simp only [szResponse] at hl
  have c3 := implParsePolicy_ok x.policy (by omega)
  simp only [eAddr] at c1
  simp only [eResponse] at c2
  simp only [ePolicy] at c3
  simp only [eBuilder, newBuilder, List.map_cons, List.map_nil, eNode, eInt] at c4
  rw [newPage_if]
  generalize isAddr a = b1 at *
  generalize isResponse x = b2 at *
  generalize (parsePolicy x.policy).1 = q at *
  generalize (parsePolicy x.policy).2 = b4 at *
  by_cases h1 : x.status = 200 <;> by_cases h2 : x.kind = 1 <;> cases b1 <;> cases b2
  all_goals simp only [h1, h2, decide_true, decide_false, Bool.not_true, Bool.not_false, Bool.or_true, Bool.or_false, Bool.true_or, Bool.false_or, Bool.false_eq_true, if_true, if_false]
  all_goals (
    (try rw [h1] at c2)
    (try rw [h2] at c2)
    refine entB Tryz.mix Tryz.func27 Tryz.ntmps27 ?_
    have W := And.intro h1 h2
    repeat' first|refine st ?_|(refine nx ?_;first|refine se ?_|refine so ?_)|(refine cx ?_;refine sc (fun hc=>?_) (fun hc=>?_)<;>try exact hc.elim)|(refine lx ?_;refine sp (fun hc=>?_) (fun hc=>?_)<;>try exact hc.elim)|refine sx ?_ ?_|refine sy ?_ ?_|fail
    all_goals (try (first | (refine ⟨.inr rfl, .inl ?_⟩; simp [Hands, Tryz.results27, noPage, noPol, pageOf, newBuilder, h1, h2]; done) | (refine ⟨.inr rfl, .inr (handsB_of ?_)⟩; simp [AS.rvB, AS.rvs, AS.rv, Tryz.results27, noPage, noPol, pageOf, newBuilder, h1, h2]; done) | (refine ⟨.inr rfl, .inl ?_⟩; simp [Hands, Tryz.results27, noPage, noPol, pageOf, newBuilder, h1, h2])))
    skip)
theorem specNewPage_ok [Tabs Tryz.prog] [HasMax Tryz.prog] (a : DAddr) (x : DResponse) (ha : szAddr a ≤ 1073741824) (hl : szResponse x ≤ 1073741824) : Ok Tryz.prog 24 [.agg (eAddr a), .agg (eResponse x)] (.tup [.agg (ePage .view (newPage a x).1), .bool (newPage a x).2]) := by
  have c1 := specIsAddr_ok a (by omega)
  simp only [szAddr] at ha
  have c2 := specIsResponse_ok x hl
  have c4 := specNewBuilder_ok
  have hb : isResponse x = true → (parsePolicy x.policy).2 = true := by
    intro h
    simp only [isResponse, Bool.and_eq_true] at h
    exact h.2
  simp only [szResponse] at hl
  have c3 : Ok Tryz.prog 95 [.str x.policy] (.tup [.agg (ePolicy .view (parsePolicy x.policy).1), .bool (parsePolicy x.policy).2]) := specParsePolicy_ok x.policy (by omega)
  simp only [eAddr] at c1
  simp only [eResponse] at c2
  simp only [ePolicy] at c3
  simp only [eBuilder, newBuilder, List.map_cons, List.map_nil, eNode, eInt] at c4
  rw [newPage_if]
  generalize isAddr a = b1 at *
  generalize isResponse x = b2 at *
  generalize (parsePolicy x.policy).1 = q at *
  generalize (parsePolicy x.policy).2 = b4 at *
  have bad : (b1 = false ∨ b2 = false ∨ x.status ≠ 200 ∨ x.kind ≠ 1) → Ok Tryz.prog 24 [.agg (eAddr a), .agg (eResponse x)] (.tup [.agg (ePage .own noPage), .bool false]) := by
    intro h
    by_cases h1 : x.status = 200 <;> by_cases h2 : x.kind = 1 <;> cases b1 <;> cases b2 <;> cases b4
    all_goals first
      | exact (Bool.false_ne_true (hb rfl)).elim
      | (exfalso; simp_all; done)
      | ((try rw [h1] at c2)
         (try rw [h2] at c2)
         refine entN Tryz.mix Tryz.func24 Tryz.ntmps24 ?_
         have W := And.intro h1 h2
         repeat' first|refine st ?_|(refine nx ?_;first|refine se ?_|refine so ?_)|(refine cx ?_;refine sc (fun hc=>?_) (fun hc=>?_)<;>try exact hc.elim)|(refine lx ?_;refine sp (fun hc=>?_) (fun hc=>?_)<;>try exact hc.elim)|refine sx ?_ ?_|refine sy ?_ ?_|fail
         all_goals (try (first | (refine ⟨.inr rfl, .inl ?_⟩; simp [HandsV, Tryz.results24, noPage, noPol, h1, h2]; done) | (refine ⟨.inr rfl, .inr (handsVB_of ?_)⟩; simp [AS.rvB, AS.rvs, AS.rv, Tryz.results24, noPage, noPol, h1, h2]; done) | (refine ⟨.inr rfl, .inl ?_⟩; simp [HandsV, Tryz.results24, noPage, noPol, h1, h2])))
         done)
  have good : b1 = true → b2 = true → x.status = 200 → x.kind = 1 → Ok Tryz.prog 24 [.agg (eAddr a), .agg (eResponse x)] (.tup [.agg [.str a.host, .str a.path, .bool q.isSet, .sl .view 1 (q.scripts.map eStr), .sl .view 1 (q.styles.map eStr), .sl .view 1 (q.images.map eStr), .str q.nonce, .str [], .sl .own 4 [], .bool false, .sl .own 4 [[.str [112, 97, 103, 101], .str [], .int .i64 (-1), .sl .own 2 []]], .sl .own 1 [[.int .i64 0]], .sl .own 8 [], .sl .own 5 [], .sl .own 2 [], .int .i64 0, .int .i64 0, .int .i64 0, .int .i64 0, .sl .own 2 [], .sl .own 1 [], .bool false], .bool true]) := by
    intro h1 h2 h3 h4
    have hb' := hb h2
    subst h1; subst h2; subst hb'
    rw [h3, h4] at c2
    refine entN Tryz.mix Tryz.func24 Tryz.ntmps24 ?_
    have W := And.intro h3 h4
    repeat' first|refine st ?_|(refine nx ?_;first|refine se ?_|refine so ?_)|(refine cx ?_;refine sc (fun hc=>?_) (fun hc=>?_)<;>try exact hc.elim)|(refine lx ?_;refine sp (fun hc=>?_) (fun hc=>?_)<;>try exact hc.elim)|refine sx ?_ ?_|refine sy ?_ ?_|fail
    all_goals (try (first | (refine ⟨.inr rfl, .inl ?_⟩; simp [HandsV, Tryz.results24, h3, h4]; done) | (refine ⟨.inr rfl, .inr (handsVB_of ?_)⟩; simp [AS.rvB, AS.rvs, AS.rv, Tryz.results24, h3, h4]; done) | (refine ⟨.inr rfl, .inl ?_⟩; simp [HandsV, Tryz.results24, h3, h4])))
  by_cases hc : (!b1 || !b2 || !decide (x.status = 200) || !decide (x.kind = 1)) = true
  · rw [if_pos hc]
    refine (bad ?_).vwas (by simp [rt, rtc, rtr, noPage, noPol])
    simp only [Bool.or_eq_true, Bool.not_eq_true', decide_eq_false_iff_not] at hc
    rcases hc with ((h | h) | h) | h
    · exact .inl h
    · exact .inr (.inl h)
    · exact .inr (.inr (.inl h))
    · exact .inr (.inr (.inr h))
  · rw [if_neg hc]
    simp only [Bool.or_eq_true, Bool.not_eq_true', decide_eq_false_iff_not, not_or, Bool.not_eq_false, Decidable.not_not] at hc
    exact (good hc.1.1.1 hc.1.1.2 hc.1.2 hc.2).vwas (by simp [rt, rtc, rtr, pageOf, newBuilder])
end Go.Proofs.YtikabgfhklfjkaaGreatDoor
