/-
  Proved here: bridges to the shelf's contracts; numerals; the wrap of a row that lists variables.
  No condition beyond what each statement spells out.
-/
import Derived.Test.YtonajehhfkkglabGreatF3
import Derived.Test.YtonajehhfkkglabGreatF4
import Derived.Shelf.LaysM
import Derived.Shelf.Strconv.Itoa3
import Derived.Shelf.Strings.OnBuilder
import Derived.Shelf.Strings.SplitShaped
import Derived.Lib.AppendIntMem
set_option linter.all false
namespace Go.Aw
open Go.Proofs Go.Shelf Go.RowKit
class HasPow (P : Program) [Tabs P] : Prop where
  tab : ∀ w, Tabs.holds P w → Lib.TabIs P w "internal/strconv.uint64pow10" .u64 Lib.pow10Tab
class HasMax (P : Program) [Tabs P] : Prop where
  cell : ∀ w, Tabs.holds P w → ∀ g, P.globalNamed "internal/bytealg.MaxLen" = some g → ∃ m, w.cell? ⟨g, 0, none⟩ = some (.int .i64 m)
theorem ba_toList (s : Str) : (⟨s.toArray⟩ : ByteArray).data.toList = s := by simp
theorem ba_size (s : Str) : (⟨s.toArray⟩ : ByteArray).size = s.length := by simp [ByteArray.size]
theorem below_same {n : Nat} {w w' : World} (h : Below n w w') : Same w w' := ⟨h.os, h.tape, h.output⟩
theorem arg_int {w : World} {E : Env} {k : IntKind} {n : Int} {vs : List Value} {fp : List Nat} (h : Rc w E [.int k n] vs fp) : vs = [.int k n] := by
  match vs, h with
  | [], h => simp [Rc] at h
  | [a], h =>
    simp only [Rc, R] at h
    obtain ⟨_, _, h1, _, _⟩ := h
    rw [h1.1]
  | _ :: _ :: _, h => simp [Rc] at h
theorem arg_str2 {w : World} {E : Env} {a b : Str} {vs : List Value} {fp : List Nat} (h : Rc w E [.str a, .str b] vs fp) : vs = [.string ⟨a.toArray⟩, .string ⟨b.toArray⟩] := by
  match vs, h with
  | [], h => simp [Rc] at h
  | [_], h => simp [Rc] at h
  | [x, y], h =>
    simp only [Rc, R] at h
    obtain ⟨_, _, h1, ⟨_, _, h2, _⟩, _⟩ := h
    rw [h1.1, h2.1]
  | _ :: _ :: _ :: _, h => simp [Rc] at h
section
variable {P : Program} [Tabs P] {ρ : Ren}
theorem ok_itoa [HasPow P] (L : LaysM.n171 P ρ) (n : Int) (h0 : -9223372036854775808 ≤ n) (h1 : n ≤ 9223372036854775807) : Ok P (ρ.f 171) [.int .i64 n] (.str (Lib.itoa n)) := by
  intro w vs hg h
  obtain rfl := arg_int h
  refine (Any.strconv_Itoa L n h0 h1 w (HasPow.tab w hg)).mono fun e w' ⟨he, k, os, hw⟩ => ?_
  subst hw
  have hb := Lib.below_grow w.heap.size w (Nat.le_refl _) k os
  exact ⟨_, [], he, by simp [R], List.nodup_nil, by simp, hb.size, hb.block, below_same hb⟩
theorem Rr_strs {w : World} {E : Env} {b off : Nat} {l : List Str} {fp : List Nat} (h : Rr w E (l.map fun s => [.str s]) b off 1 fp) (j : Nat) (x : ByteArray)
    (hx : (l.map fun s : Str => (⟨s.toArray⟩ : ByteArray))[j]? = some x) : w.cell? ⟨b, off + j, none⟩ = some (.string x) := by
  rw [List.getElem?_map] at hx
  cases hl : l[j]? with
  | none => simp [hl] at hx
  | some s =>
    simp only [hl, Option.map_some, Option.some.injEq] at hx
    subst hx
    obtain ⟨f1, f2, f3, cs, _, hn, hc, _, hr, _, _⟩ := Rr_get (i := j) (e := [.str s]) h (by simp [hl])
    match cs, hn, hc, hr with
    | [v], _, hc, hr =>
      simp only [Rc, R] at hr
      obtain ⟨_, _, h1, _, _⟩ := hr
      have := hc 0 v rfl
      rw [h1.1] at this
      simpa using this
theorem ok_join (L : Lays.n156 P ρ) (X : Builder.Extra P ρ) (l : List Str) (sep : Str) (hl : l.length ≤ 140737488355328) (hs : (Lib.join l sep).length ≤ 140737488355328) :
    Ok P (ρ.f 156) [.sl .view 1 (l.map fun s => [.str s]), .str sep] (.str (Lib.join l sep)) := by
  intro w vs hg h
  have hmap : (l.map fun s : Str => (⟨s.toArray⟩ : ByteArray)).map (·.data.toList) = l := by
    rw [List.map_map]
    conv => rhs; rw [← List.map_id l]
    exact List.map_congr_left fun s _ => ba_toList s
  match vs, h with
  | [], h => simp [Rc] at h
  | [_], h => simp [Rc] at h
  | _ :: _ :: _ :: _, h => simp [Rc] at h
  | [x, y], h =>
    simp only [Rc] at h
    obtain ⟨f1, _, hx, ⟨f2, _, hy, _, _⟩, e⟩ := h
    simp only [R] at hy
    obtain ⟨rfl, _⟩ := hy
    simp only [R, List.length_map] at hx
    rcases hx with hx | ⟨a, cap, rfl, ⟨hlen, hcap⟩, hx⟩
    · exact hx.1.elim
    have fin : ∀ {e : Ending} {w' : World}, e = .returned (.string ⟨(Lib.join l sep).toArray⟩) → Below w.heap.size w w' → ∃ v fp, e = .returned v ∧ R w' envNone (.str (Lib.join l sep)) v fp ∧ fp.Nodup ∧
      (∀ b ∈ fp, w.heap.size ≤ b ∧ b < w'.heap.size) ∧ w.heap.size ≤ w'.heap.size ∧ (∀ b, b < w.heap.size → w'.heap[b]? = w.heap[b]?) ∧ Same w w' :=
      fun he hb => ⟨_, [], he, by simp [R], List.nodup_nil, by simp, hb.size, hb.block, below_same hb⟩
    by_cases h0 : l = []
    · subst h0
      refine (Any.strings_Join_none L X a cap ⟨sep.toArray⟩ w).mono fun e w' ⟨he, hw⟩ => fin ?_ (hw ▸ Below.refl _ _)
      rw [he]; rfl
    · rcases hx with hx | hx | ⟨_, _, hx | ⟨b, off, rfl, ht, hr⟩⟩
      · exact absurd hx.1 (by simp)
      · exact absurd hx.1 (by simp)
      · exact absurd (List.map_eq_nil_iff.1 hx) h0
      · have := Any.strings_Join L X b off cap (l.map fun s : Str => (⟨s.toArray⟩ : ByteArray)) ⟨sep.toArray⟩ w (Rr_strs hr) ht (by simpa using hl) (by simpa using hcap) (by rw [hmap]; exact hs)
        rw [hmap, List.length_map] at this
        exact this.mono fun e w' ⟨he, hb⟩ => fin he hb
theorem splitK_segs (c : UInt8) : ∀ (n : Nat) (s : Str), s.length ≤ n → Lib.splitK [c] 0 (Lib.count s [c]) s = segs c s := by
  intro n
  induction n with
  | zero =>
    intro s hs
    obtain rfl : s = [] := List.length_eq_zero_iff.1 (by omega)
    rfl
  | succ n ih =>
    intro s hs
    rw [segs_step]
    by_cases h : ixB c s < s.length
    · have hi : Lib.index s [c] = (ixB c s : Nat) := by rw [Lib.index_one, indexByte_ix, ixI, if_pos h]
      rw [Lib.count_hit (by simp) hi, Nat.add_comm, Lib.splitK, if_neg (by rw [hi, beq_iff_eq]; omega), hi, if_pos h]
      simp only [Int.toNat_natCast, Nat.add_zero, List.length_singleton]
      rw [ih _ (by rw [List.length_drop]; omega)]
    · have hi : Lib.index s [c] = -1 := by rw [Lib.index_one, indexByte_ix, ixI, if_neg h]
      rw [Lib.count_miss hi, if_neg h]
      rfl
theorem splitB_segs (c : UInt8) (k : Nat) (s : Str) (h : Lib.countB ⟨s.toArray⟩ ⟨#[c]⟩ = k) : (Lib.splitB ⟨#[c]⟩ 0 k ⟨s.toArray⟩).map (·.data.toList) = segs c s := by
  subst h
  rw [Lib.splitB_data]
  have := splitK_segs c _ s (Nat.le_refl _)
  simpa [Lib.countB] using this
theorem Rr_of_strs {w : World} {E : Env} {b : Nat} : ∀ (l : List ByteArray) (off : Nat), (∀ j x, l[j]? = some x → w.cell? ⟨b, off + j, none⟩ = some (.string x)) → Rr w E (l.map fun s => [.str s.data.toList]) b off 1 []
  | [], _, _ => by simp [Rr]
  | x :: l, off, h => by
    simp only [List.map_cons, Rr]
    refine ⟨[.string x], [], [], rfl, fun j v hv => ?_, by simp [Value.oneCell'], ?_, Rr_of_strs l (off + 1) (fun j y hy => ?_), rfl⟩
    · cases j with
      | zero => simp only [List.getElem?_cons_zero, Option.some.injEq] at hv; subst hv; exact h 0 x rfl
      | succ j => simp at hv
    · simp [Rc, R]
    · have := h (j + 1) y (by simpa using hy)
      rwa [show off + 1 + j = off + (j + 1) by omega]
theorem ok_split [HasMax P] (L : LaysM.n146 P ρ) (hmx : P.globalNamed "internal/bytealg.MaxLen" = some (ρ.g 1)) (s : Str) (c : UInt8) (hs : s.length < 4294967281) : Ok P (ρ.f 146) [.str s, .str [c]] (.sl .own 1 ((segs c s).map fun p => [.str p])) := by
  intro w vs hg h
  obtain rfl := arg_str2 h
  obtain ⟨m, hm⟩ := HasMax.cell w hg _ hmx
  refine (Any.strings_Split { L with } L.i9 ⟨s.toArray⟩ ⟨#[c]⟩ m w (by rw [ba_size]; exact hs) hm (by simp [ByteArray.size])).mono fun e w' ⟨he, hw⟩ => ?_
  have hlen := Lib.splitB_all ⟨#[c]⟩ (by simp [ByteArray.size]) 0 _ ⟨s.toArray⟩ rfl
  have hseg := splitB_segs c _ s rfl
  generalize hk : Lib.countB ⟨s.toArray⟩ ⟨#[c]⟩ = k at *
  generalize hl : Lib.splitB ⟨#[c]⟩ 0 k ⟨s.toArray⟩ = l at *
  have hrows : (segs c s).map (fun p => [AV.str p]) = l.map fun x => [AV.str x.data.toList] := by rw [← hseg, List.map_map]; rfl
  have hb : Below w.heap.size w w' := by rw [hw]; exact (Below.refl _ w).alloc (Nat.le_refl _) _
  have hh : w'.heap[w.heap.size]? = some (.cells (l.map Value.string).toArray (ρ.t 9)) := by rw [hw]; exact heap_alloc_self w _
  have hsz : w'.heap.size = w.heap.size + 1 := by rw [hw]; simp
  have hc : Lib.countB ⟨s.toArray⟩ ⟨#[c]⟩ ≤ s.length := by
    have := Lib.countB_le ⟨#[c]⟩ (by simp [ByteArray.size]) _ ⟨s.toArray⟩ (Nat.le_refl _)
    rwa [ba_size] at this
  rw [hk] at hc
  refine ⟨_, [w.heap.size], he, ?_, by simp, by simp [hsz], hb.size, hb.block, below_same hb⟩
  rw [hrows]
  refine R_own.2 ⟨some ⟨w.heap.size, 0, none⟩, k + 1, by simp [hlen], by simp [hlen, maxLen]; omega, .inr ⟨w.heap.size, 0, (l.map Value.string).toArray, ρ.t 9, (0, 0), [], rfl, ?_, by simp, by simp [hlen], by simp [hlen], by simp [maxLen]; omega, rfl, ?_⟩⟩
  · exact hh
  · refine Rr_of_strs l 0 fun j x hx => ?_
    simp [World.cell?, hh, hx]
end
end Go.Aw
