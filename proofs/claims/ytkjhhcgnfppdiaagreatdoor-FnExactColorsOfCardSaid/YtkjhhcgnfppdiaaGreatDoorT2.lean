/-
  Proved here: steps towards the statement of this claim, text T2.
  No condition beyond what each statement spells out.
-/
import Derived.Test.YtkjhhcgnfppdiaaGreatDoorT1
import Derived.WalkKit
import Derived.BigCall
set_option linter.all false
set_option linter.unusedSimpArgs false
set_option linter.unusedVariables false
set_option maxRecDepth 100000
set_option maxHeartbeats 4000000
namespace Go.Proofs.YtkjhhcgnfppdiaaGreatDoor
open Go.Aw Go.Shelf Go.RowKit

theorem arg_str1 {w : World} {E : Env} {a : Str} {vs : List Value} {fp : List Nat} (h : Rc w E [.str a] vs fp) : vs = [.string ⟨a.toArray⟩] := by
  match vs, h with
  | [], h => simp [Rc] at h
  | [x], h =>
    simp only [Rc, R] at h
    obtain ⟨_, _, h1, _, _⟩ := h
    rw [h1.1]
  | _ :: _ :: _, h => simp [Rc] at h
theorem itoa_call [Tabs Tryz.prog] [HasPow Tryz.prog] (v : Int) (h1 : -9223372036854775808 ≤ v ∧ v ≤ 9223372036854775807) (w : World) (hg : Tabs.holds Tryz.prog w) :
    Calls Tryz.prog 175 #[.int .i64 v] w fun e w' => e = .returned (.string ⟨(Lib.itoa v).toArray⟩) ∧ Below w.heap.size w w' := by
  refine (implFormatInt_ok v h1 w [.int .i64 v] hg (by simp [Rc, R])).mono fun e w' h => ?_
  obtain ⟨x, fp, he, hr, _, _, h3, h4, h5⟩ := h
  simp only [R] at hr
  rw [hr.1] at he
  exact ⟨he, ⟨h5.os, h5.tape, h5.output, h3, h4⟩⟩
theorem implParseInt_ok [Tabs Tryz.prog] [HasPow Tryz.prog] [HasErr Tryz.prog] (s : Str) (hl : s.length ≤ 1099511627776) : Ok Tryz.prog 140 [.str s] (pIntR s) := by
  intro w vs hg h
  obtain rfl := arg_str1 h
  have fin : ∀ {e : Ending} {w' : World} {n : Int} {b : Bool}, pIntR s = .tup [.int .i64 n, .bool b] → e = .returned (.tuple #[.int .i64 n, .bool b]) → Below w.heap.size w w' → ∃ v fp, e = .returned v ∧ R w' envNone (pIntR s) v fp ∧ fp.Nodup ∧
      (∀ b ∈ fp, w.heap.size ≤ b ∧ b < w'.heap.size) ∧ w.heap.size ≤ w'.heap.size ∧ (∀ b, b < w.heap.size → w'.heap[b]? = w.heap[b]?) ∧ Same w w' :=
    fun hp he hb => ⟨_, [], he, by rw [hp]; simp [R, Rc], List.nodup_nil, by simp, hb.size, hb.block, below_same hb⟩
  have A := atoi_calls Tryz.LaysCx172 s (by omega) w hg
  go_enter Tryz.func140, Tryz.ntmps140
  go_wp2_with (go_at_call 174; refine A.mono ?_)
  rintro e w1 ⟨hA, hb⟩
  clear A
  have hg1 := Tabs.stable w w1 hg fun b h => hb.block b (Nat.lt_of_lt_of_le h (Tabs.low_le w hg))
  rcases hA with ⟨v, hv, rfl⟩ | ⟨hn, v, t, p, rfl⟩
  · rcases pInt_atoi s with ⟨v', hv', h0, h1, hi, hp⟩ | ⟨hp, hall⟩
    · obtain rfl : v = v' := by rw [hv] at hv'; exact Lib.NumEnd.ok.inj hv'
      have d0 : decide (v < 0) = false := by simpa using h0
      have d1 : decide (1000000000000 < v) = false := by simpa using h1
      have C := itoa_call v (by omega) w1 hg1
      rw [hi] at C
      have F := @fin
      clear hv hv' h0 h1 hi fin
      go_wp2_with (go_at_call 175; refine C.mono ?_)
      rintro e w2 ⟨rfl, hb2⟩
      clear C
      go_wp2
      go_ret2
      exact F (pIntR_some hp) rfl (hb.trans (hb2.mono hb.size))
    · have hr := pIntR_none hp
      have bd := Lib.atoiAll_bounds hv
      by_cases h0 : v < 0
      · have d0 : decide (v < 0) = true := by simpa using h0
        clear hv h0 hall bd
        go_wp2
        go_ret2
        exact fin hr rfl hb
      by_cases h1 : 1000000000000 < v
      · have d0 : decide (v < 0) = false := by simpa using h0
        have d1 : decide (1000000000000 < v) = true := by simpa using h1
        clear hv h0 h1 hall bd
        go_wp2
        go_ret2
        exact fin hr rfl hb
      · have hi : Lib.itoa v ≠ s := by
          rcases hall v hv with h | h | h
          · exact absurd h h0
          · exact absurd h h1
          · exact h
        have d0 : decide (v < 0) = false := by simpa using h0
        have d1 : decide (1000000000000 < v) = false := by simpa using h1
        have C := itoa_call v (by omega) w1 hg1
        generalize Lib.itoa v = x at C hi
        have d2 : (x == s) = false := by simpa using hi
        have d3 : (x != s) = true := by simpa using hi
        clear hv h0 h1 hall bd
        go_wp2_with (go_at_call 175; refine C.mono ?_)
        rintro e w2 ⟨rfl, hb2⟩
        clear C
        go_wp2
        go_ret2
        exact fin hr rfl (hb.trans (hb2.mono hb.size))
  · have hp : pInt s = none := by
      rcases pInt_atoi s with ⟨v', hv', _⟩ | ⟨hp, _⟩
      · exact absurd hv' (hn _)
      · exact hp
    have hr := pIntR_none hp
    clear hn
    go_wp2
    go_ret2
    exact fin hr rfl hb
end Go.Proofs.YtkjhhcgnfppdiaaGreatDoor
