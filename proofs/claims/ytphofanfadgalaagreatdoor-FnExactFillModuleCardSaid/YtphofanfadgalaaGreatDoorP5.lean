/-
  Proved here: steps towards the statement of this claim, text P5.
  No condition beyond what each statement spells out.
-/
import Derived.Test.YtphofanfadgalaaGreatDoorSD1
import Derived.Test.YtphofanfadgalaaGreatDoorF5
set_option linter.all false
set_option maxRecDepth 4000
set_option maxHeartbeats 4000000
namespace Go.Proofs.YtphofanfadgalaaGreatDoor
open Go.Aw
theorem min_ok [Tabs Tryz.prog] (a b : Int) : Ok Tryz.prog 137 [.int .i64 a, .int .i64 b] (.int .i64 (min a b)) := by
  by_cases h : b < a
  · have hr : min a b = b := by omega
    rw [hr]
    refine ent Tryz.mix Tryz.func137 Tryz.ntmps137 ?_
    have W := h
    repeat' first|refine st ?_|(refine nx ?_;first|refine se ?_|refine so ?_)|(refine cx ?_;refine sc (fun hc=>?_) (fun hc=>?_)<;>try exact hc.elim)|(refine lx ?_;refine sp (fun hc=>?_) (fun hc=>?_)<;>try exact hc.elim)|refine sx ?_ ?_|refine sy ?_ ?_|fail
    all_goals (try (refine ⟨.inr rfl, ?_⟩; simp [Hands, Tryz.results137]))
  · have hr : min a b = a := by omega
    rw [hr]
    refine ent Tryz.mix Tryz.func137 Tryz.ntmps137 ?_
    have W := h
    repeat' first|refine st ?_|(refine nx ?_;first|refine se ?_|refine so ?_)|(refine cx ?_;refine sc (fun hc=>?_) (fun hc=>?_)<;>try exact hc.elim)|(refine lx ?_;refine sp (fun hc=>?_) (fun hc=>?_)<;>try exact hc.elim)|refine sx ?_ ?_|refine sy ?_ ?_|fail
    all_goals (try (refine ⟨.inr rfl, ?_⟩; simp [Hands, Tryz.results137]))
theorem l5Index_ok [Tabs Tryz.prog] (s : Str) (c : UInt8) (hl : s.length ≤ 1099511627776) : Ok Tryz.prog 135 [.str s, .int .u8 c.toNat] (.int .i64 (ixB c s : Nat)) := by
  refine ent Tryz.mix Tryz.func135 Tryz.ntmps135 ?_
  have W := trivial
  repeat' first|refine st ?_|(refine nx ?_;first|refine se ?_|refine so ?_)|(refine cx ?_;refine sc (fun hc=>?_) (fun hc=>?_)<;>try exact hc.elim)|(refine lx ?_;refine sp (fun hc=>?_) (fun hc=>?_)<;>try exact hc.elim)|refine sx ?_ ?_|refine sy ?_ ?_|fail
  refine awp_loop' (ι := { k : Nat // k ≤ s.length ∧ ∀ x ∈ s.take k, x ≠ c }) (fun t o i => ⟨upds t [(5, .int .i64 i.1)], o⟩)
    (fun i => s.length - i.1) ⟨0, by simp, by simp⟩ (weak_o (by simp) (by simp)) ?_
  rintro ⟨k, hk, hi⟩ K1 hK1
  simp only [upds, List.set_cons_succ, List.set_cons_zero] at hK1 ⊢
  have hk1 : IntKind.i64.wrap ((k : Int) + 1) = ((k + 1 : Nat) : Int) := by rw [wrap64] <;> omega
  by_cases hlt : k < s.length
  · have hg := List.getElem?_eq_getElem hlt
    have W := And.intro hk1 (And.intro hg hlt)
    repeat' first|refine st ?_|(refine nx ?_;first|refine se ?_|refine so ?_)|(refine cx ?_;refine sc (fun hc=>?_) (fun hc=>?_)<;>try exact hc.elim)|(refine lx ?_;refine sp (fun hc=>?_) (fun hc=>?_)<;>try exact hc.elim)|refine sx ?_ ?_|refine sy ?_ ?_|fail
    · have e := ixB_at hlt (UInt8.toNat_inj.1 (by omega)) hi
      rw [e]
      all_goals (try (refine ⟨.inr rfl, ?_⟩; simp [Hands, Tryz.results135]))
    · exact hK1 _ ⟨k + 1, by omega, take_succ_all hlt hi (fun h => hc (by rw [h]))⟩ (weak_o (by simp) (by simp)) (by simp only; omega)
  · have e := ixB_none (take_all (by omega) hi)
    rw [e]
    have W := hk1
    repeat' first|refine st ?_|(refine nx ?_;first|refine se ?_|refine so ?_)|(refine cx ?_;refine sc (fun hc=>?_) (fun hc=>?_)<;>try exact hc.elim)|(refine lx ?_;refine sp (fun hc=>?_) (fun hc=>?_)<;>try exact hc.elim)|refine sx ?_ ?_|refine sy ?_ ?_|fail
    all_goals (try (refine ⟨.inr rfl, ?_⟩; simp [Hands, Tryz.results135]))
def pfx (p s : Str) : Bool := decide (p.length ≤ s.length) && (s.take p.length == p)
theorem hasPrefix_ok [Tabs Tryz.prog] (s p : Str) (hl : s.length ≤ 1099511627776) (hp : p.length ≤ 1099511627776) : Ok Tryz.prog 173 [.str s, .str p] (.bool (pfx p s)) := by
  by_cases h : p.length ≤ s.length
  · have hi : (p.length : Int) ≤ (s.length : Int) := by omega
    have hr : pfx p s = (s.take p.length == p) := by simp [pfx, h]
    rw [hr]
    refine ent Tryz.mix Tryz.func173 Tryz.ntmps173 ?_
    have W := And.intro h hi
    repeat' first|refine st ?_|(refine nx ?_;first|refine se ?_|refine so ?_)|(refine cx ?_;refine sc (fun hc=>?_) (fun hc=>?_)<;>try exact hc.elim)|(refine lx ?_;refine sp (fun hc=>?_) (fun hc=>?_)<;>try exact hc.elim)|refine sx ?_ ?_|refine sy ?_ ?_|fail
    all_goals (try (refine ⟨.inr rfl, ?_⟩; simp [Hands, Tryz.results173]))
  · have hi : ¬ (p.length : Int) ≤ (s.length : Int) := by omega
    have hr : pfx p s = false := by simp [pfx, h]
    rw [hr]
    refine ent Tryz.mix Tryz.func173 Tryz.ntmps173 ?_
    have W := And.intro h hi
    repeat' first|refine st ?_|(refine nx ?_;first|refine se ?_|refine so ?_)|(refine cx ?_;refine sc (fun hc=>?_) (fun hc=>?_)<;>try exact hc.elim)|(refine lx ?_;refine sp (fun hc=>?_) (fun hc=>?_)<;>try exact hc.elim)|refine sx ?_ ?_|refine sy ?_ ?_|fail
    all_goals (try (refine ⟨.inr rfl, ?_⟩; simp [Hands, Tryz.results173]))
theorem pfx_le {p s : Str} (h : pfx p s = true) : p.length ≤ s.length := by
  simp only [pfx, Bool.and_eq_true, decide_eq_true_eq] at h
  exact h.1
theorem cutPrefixL_ok [Tabs Tryz.prog] (s p : Str) (hl : s.length ≤ 1099511627776) (hp : p.length ≤ 1099511627776) : Ok Tryz.prog 140 [.str s, .str p] (.tup [.str (if pfx p s = true then s.drop p.length else s), .bool (pfx p s)]) := by
  have c1 := hasPrefix_ok s p hl hp
  have h1 := @pfx_le p s
  generalize pfx p s = b at *
  cases b
  · refine ent Tryz.mix Tryz.func140 Tryz.ntmps140 ?_
    have W := trivial
    repeat' first|refine st ?_|(refine nx ?_;first|refine se ?_|refine so ?_)|(refine cx ?_;refine sc (fun hc=>?_) (fun hc=>?_)<;>try exact hc.elim)|(refine lx ?_;refine sp (fun hc=>?_) (fun hc=>?_)<;>try exact hc.elim)|refine sx ?_ ?_|refine sy ?_ ?_|fail
    all_goals (try (refine ⟨.inr rfl, ?_⟩; simp [Hands, Tryz.results140]))
  · have h2 := h1 rfl
    refine ent Tryz.mix Tryz.func140 Tryz.ntmps140 ?_
    have W := h2
    repeat' first|refine st ?_|(refine nx ?_;first|refine se ?_|refine so ?_)|(refine cx ?_;refine sc (fun hc=>?_) (fun hc=>?_)<;>try exact hc.elim)|(refine lx ?_;refine sp (fun hc=>?_) (fun hc=>?_)<;>try exact hc.elim)|refine sx ?_ ?_|refine sy ?_ ?_|fail
    all_goals (try (refine ⟨.inr rfl, ?_⟩; simp [Hands, Tryz.results140]))
theorem cutPrefix_ok [Tabs Tryz.prog] (s p : Str) (hl : s.length ≤ 1099511627776) (hp : p.length ≤ 1099511627776) : Ok Tryz.prog 99 [.str s, .str p] (.tup [.str (if pfx p s = true then s.drop p.length else s), .bool (pfx p s)]) := by
  have c1 := cutPrefixL_ok s p hl hp
  generalize (if pfx p s = true then s.drop p.length else s) = q at *
  generalize pfx p s = b at *
  refine ent Tryz.mix Tryz.func99 Tryz.ntmps99 ?_
  have W := trivial
  repeat' first|refine st ?_|(refine nx ?_;first|refine se ?_|refine so ?_)|(refine cx ?_;refine sc (fun hc=>?_) (fun hc=>?_)<;>try exact hc.elim)|(refine lx ?_;refine sp (fun hc=>?_) (fun hc=>?_)<;>try exact hc.elim)|refine sx ?_ ?_|refine sy ?_ ?_|fail
  all_goals (try (refine ⟨.inr rfl, ?_⟩; simp [Hands, Tryz.results99]))
end Go.Proofs.YtphofanfadgalaaGreatDoor
