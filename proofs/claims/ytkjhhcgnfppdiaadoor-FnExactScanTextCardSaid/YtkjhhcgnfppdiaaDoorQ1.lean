/-
  Proved here: steps towards the statement of this claim, text Q1.
  No condition beyond what each statement spells out.
-/
import Derived.Test.YtkjhhcgnfppdiaaDoorR3
set_option linter.all false
set_option linter.unusedSimpArgs false
set_option linter.unusedVariables false
set_option maxRecDepth 4000
set_option maxHeartbeats 4000000
namespace Go.Proofs.YtkjhhcgnfppdiaaDoor
open Go.Aw
def valueB (c : UInt8) : Bool := (decide (97 ≤ c.toNat) && decide (c.toNat ≤ 122)) || (decide (48 ≤ c.toNat) && decide (c.toNat ≤ 57)) || decide (c.toNat = 47)
def isValue (s : Str) : Bool := s.all valueB && (decide (1 ≤ s.length) && decide (s.length ≤ 20))
theorem value_no {s : Str} {k : Nat} (h : k < s.length) (hc : valueB s[k] = false) : isValue s = false := by
  have : s.all valueB = false := by
    rw [List.all_eq_false]
    exact ⟨s[k], List.getElem_mem h, by simp [hc]⟩
  simp [isValue, this]
theorem value_end {s : Str} (h : ∀ x ∈ s, valueB x = true) : isValue s = (decide ((1 : Int) ≤ s.length) && decide ((s.length : Int) ≤ 20)) := by
  have : s.all valueB = true := List.all_eq_true.2 h
  have h1 : decide ((1 : Int) ≤ s.length) = decide (1 ≤ s.length) := by simp only [decide_eq_decide]; omega
  have h2 : decide ((s.length : Int) ≤ 20) = decide (s.length ≤ 20) := by simp only [decide_eq_decide]; omega
  rw [isValue, this, h1, h2, Bool.true_and]
theorem specIsValue_ok [Tabs Tryd.prog] (s : Str) (hl : s.length ≤ 1099511627776) : Ok Tryd.prog 76 [.str s] (.bool (isValue s)) := by
  have h1 := specIn_ok s.length 1 20
  refine ent Tryd.mix Tryd.func76 Tryd.ntmps76 ?_
  have W := trivial
  repeat' first|refine st ?_|(refine nx ?_;first|refine se ?_|refine so ?_)|(refine cx ?_;refine sc (fun hc=>?_) (fun hc=>?_)<;>try exact hc.elim)|(refine lx ?_;refine sp (fun hc=>?_) (fun hc=>?_)<;>try exact hc.elim)|refine sx ?_ ?_|refine sy ?_ ?_|fail
  refine awp_loop' (ι := { k : Nat // k ≤ s.length ∧ ∀ x ∈ s.take k, valueB x = true }) (fun t o i => ⟨upds t [(3, .int .i64 i.1)], o⟩)
    (fun i => s.length - i.1) ⟨0, by simp, by simp⟩ (weak_o (by simp) (by simp)) ?_
  rintro ⟨k, hk, hi⟩ K1 hK1
  simp only [upds, List.set_cons_succ, List.set_cons_zero] at hK1 ⊢
  have hk1 : IntKind.i64.wrap ((k : Int) + 1) = ((k + 1 : Nat) : Int) := by rw [wrap64] <;> omega
  by_cases hlt : k < s.length
  · have hg := List.getElem?_eq_getElem hlt
    have W := And.intro hk1 (And.intro hg hlt)
    repeat' first|refine st ?_|(refine nx ?_;first|refine se ?_|refine so ?_)|(refine cx ?_;refine sc (fun hc=>?_) (fun hc=>?_)<;>try exact hc.elim)|(refine lx ?_;refine sp (fun hc=>?_) (fun hc=>?_)<;>try exact hc.elim)|refine sx ?_ ?_|refine sy ?_ ?_|fail
    all_goals first
      | exact hK1 _ ⟨k + 1, by omega, take_succ_all hlt hi (by simp [valueB]; omega)⟩ (weak_o (by simp) (by simp)) (by simp only; omega)
      | (rw [value_no hlt (by simp [valueB]; omega)]
         all_goals (try (refine ⟨.inr rfl, ?_⟩; simp [Hands, Tryd.results76]))
         done)
  · have W := hk1
    repeat' first|refine st ?_|(refine nx ?_;first|refine se ?_|refine so ?_)|(refine cx ?_;refine sc (fun hc=>?_) (fun hc=>?_)<;>try exact hc.elim)|(refine lx ?_;refine sp (fun hc=>?_) (fun hc=>?_)<;>try exact hc.elim)|refine sx ?_ ?_|refine sy ?_ ?_|fail
    all_goals (try (refine ⟨.inr rfl, ?_⟩; simp [Hands, Tryd.results76]))
    rw [value_end (take_all (by omega) hi)]
theorem implIsValue_ok [Tabs Tryd.prog] (s : Str) (hl : s.length ≤ 1099511627776) : Ok Tryd.prog 80 [.str s] (.bool (isValue s)) := by
  have h1 := implIn_ok s.length 1 20
  refine ent Tryd.mix Tryd.func80 Tryd.ntmps80 ?_
  have W := trivial
  repeat' first|refine st ?_|(refine nx ?_;first|refine se ?_|refine so ?_)|(refine cx ?_;refine sc (fun hc=>?_) (fun hc=>?_)<;>try exact hc.elim)|(refine lx ?_;refine sp (fun hc=>?_) (fun hc=>?_)<;>try exact hc.elim)|refine sx ?_ ?_|refine sy ?_ ?_|fail
  refine awp_loop' (ι := { k : Nat // k ≤ s.length ∧ ∀ x ∈ s.take k, valueB x = true }) (fun t o i => ⟨upds t [(3, .int .i64 i.1)], o⟩)
    (fun i => s.length - i.1) ⟨0, by simp, by simp⟩ (weak_o (by simp) (by simp)) ?_
  rintro ⟨k, hk, hi⟩ K1 hK1
  simp only [upds, List.set_cons_succ, List.set_cons_zero] at hK1 ⊢
  have hk1 : IntKind.i64.wrap ((k : Int) + 1) = ((k + 1 : Nat) : Int) := by rw [wrap64] <;> omega
  by_cases hlt : k < s.length
  · have hg := List.getElem?_eq_getElem hlt
    have W := And.intro hk1 (And.intro hg hlt)
    repeat' first|refine st ?_|(refine nx ?_;first|refine se ?_|refine so ?_)|(refine cx ?_;refine sc (fun hc=>?_) (fun hc=>?_)<;>try exact hc.elim)|(refine lx ?_;refine sp (fun hc=>?_) (fun hc=>?_)<;>try exact hc.elim)|refine sx ?_ ?_|refine sy ?_ ?_|fail
    all_goals first
      | exact hK1 _ ⟨k + 1, by omega, take_succ_all hlt hi (by simp [valueB]; omega)⟩ (weak_o (by simp) (by simp)) (by simp only; omega)
      | (rw [value_no hlt (by simp [valueB]; omega)]
         all_goals (try (refine ⟨.inr rfl, ?_⟩; simp [Hands, Tryd.results80]))
         done)
  · have W := hk1
    repeat' first|refine st ?_|(refine nx ?_;first|refine se ?_|refine so ?_)|(refine cx ?_;refine sc (fun hc=>?_) (fun hc=>?_)<;>try exact hc.elim)|(refine lx ?_;refine sp (fun hc=>?_) (fun hc=>?_)<;>try exact hc.elim)|refine sx ?_ ?_|refine sy ?_ ?_|fail
    all_goals (try (refine ⟨.inr rfl, ?_⟩; simp [Hands, Tryd.results80]))
    rw [value_end (take_all (by omega) hi)]
def isRequest (r : DRequest) : Bool := (decide (1 ≤ r.kind) && decide (r.kind ≤ 5)) && isAddr r.to && isName r.frm && (r.digest == [] || isValue r.digest)
def canGuess (r : DRequest) : Bool := isRequest r && decide (r.kind ≠ 1) && (r.to.host == r.frm)
def allows (p : DPolicy) (kind : Int) (host : Str) : Bool :=
  if p.isSet = false then true else if kind = 2 ∨ kind = 5 then p.scripts.any (fun x => x == host) else if kind = 3 then p.styles.any (fun x => x == host) else if kind = 4 then p.images.any (fun x => x == host) else false
theorem any_at {l : List Str} {k : Nat} (h : k < l.length) {n : Str} (hc : l[k] = n) : l.any (fun x => x == n) = true :=
  List.any_eq_true.2 ⟨_, List.getElem_mem h, by simp [hc]⟩
theorem any_none {l : List Str} {n : Str} (h : ∀ x ∈ l, (x == n) = false) : l.any (fun x => x == n) = false := by
  rw [List.any_eq_false]; intro x hx; simp [h x hx]
def checkRequest (p : DPolicy) (r : DRequest) : Int := if isRequest r = false ∨ (r.kind ≠ 1 ∧ allows p r.kind r.to.host = false) then 2 else 1
end Go.Proofs.YtkjhhcgnfppdiaaDoor
