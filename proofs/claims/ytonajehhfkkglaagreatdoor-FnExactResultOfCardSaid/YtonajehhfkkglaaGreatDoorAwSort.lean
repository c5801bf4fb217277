/-
  Proved here: steps towards the statement of this claim, text AwSort.
  No condition beyond what each statement spells out.
-/
import Derived.Test.YtonajehhfkkglaaGreatDoorAwIns
import Derived.Test.YtonajehhfkkglaaGreatDoorF2
import Derived.Test.YtonajehhfkkglaaGreatDoorF3
import Derived.Lib.SlicesCompact
import Derived.Sort.Grow
import Derived.Sort.EncStr
set_option linter.all false
namespace Go.Aw
open Go.Sort Go.Proofs
theorem heap_row {w : World} {b off n : Nat} {C : Array Value} {e : TypeId} {fz : Nat × Nat} {d : Array (List UInt8)} {os : Array Obj} (hb : w.heap[b]? = some (.cells C e fz)) :
    (grow (putRow encStr (Sort.ahead w n) b off d) os).heap[b]? = some (.cells (putCells encStr off d C) e fz) ∧ (∀ x, x < w.heap.size → x ≠ b → (grow (putRow encStr (Sort.ahead w n) b off d) os).heap[x]? = w.heap[x]?) ∧
    w.heap.size ≤ (grow (putRow encStr (Sort.ahead w n) b off d) os).heap.size ∧ Same w (grow (putRow encStr (Sort.ahead w n) b off d) os) := by
  have hlt : b < w.heap.size := (Array.getElem?_eq_some_iff.1 hb).1
  have hsz : (putRow encStr (Sort.ahead w n) b off d).heap.size = w.heap.size := by simp
  refine ⟨?_, fun x hx hne => ?_, ?_, ⟨rfl, rfl, rfl⟩⟩
  · show ((putRow encStr (Sort.ahead w n) b off d).heap ++ os)[b]? = _
    rw [Array.getElem?_append_left (by omega)]
    simp [putRow, mapBlock, Array.getElem?_modify, hb, onCells]
  · show ((putRow encStr (Sort.ahead w n) b off d).heap ++ os)[x]? = _
    rw [Array.getElem?_append_left (by omega)]
    simp [putRow, mapBlock, Array.getElem?_modify, Ne.symm hne]
  · show _ ≤ ((putRow encStr (Sort.ahead w n) b off d).heap ++ os).size
    rw [Array.size_append, hsz]; omega
theorem cells_row {w : World} {b off : Nat} {C : Array Value} {e : TypeId} {fz : Nat × Nat} {d : List (List UInt8)} (hb : w.heap[b]? = some (.cells (putCells encStr off d.toArray C) e fz)) (hfit : off + d.length ≤ C.size) : CellsAt w b off (d.map encStr) := by
  refine cellsAt_block hb ?_
  intro j v hv
  have hj : j < d.length := by simpa using (List.getElem?_eq_some_iff.1 hv).1
  rw [List.getElem?_map, List.getElem?_eq_getElem hj] at hv
  simp only [Option.map_some, Option.some.injEq] at hv
  subst hv
  simp only [putCells, Array.getElem?_mapIdx]
  have : off + j < C.size := by omega
  simp [this, hj]
theorem Rv_strS {w : World} {E : Env} : ∀ {l : List Str} {vs : List Value} {fp : List Nat}, Rv w E (l.map eStr) vs 1 fp → vs = l.map encStr ∧ fp = []
  | [], vs, fp, h => by simp only [List.map_nil, Rv] at h; exact ⟨by simp [h.1], h.2⟩
  | s :: l, vs, fp, h => by
    simp only [List.map_cons, Rv] at h
    obtain ⟨cs, rest, f1, f2, rfl, hn, _, h1, h2, rfl⟩ := h
    obtain ⟨rfl, rfl⟩ := Rv_strS h2
    match cs, hn, h1 with
    | [c], _, h1 =>
      simp only [eStr, Rc, R] at h1
      obtain ⟨g1, g2, ⟨rfl, rfl⟩, rfl, rfl⟩ := h1
      exact ⟨rfl, rfl⟩
theorem Rv_ofstr {w : World} {E : Env} : ∀ (l : List Str), Rv w E (l.map eStr) (l.map encStr) 1 []
  | [] => by simp [Rv]
  | s :: l => by
    simp only [List.map_cons, Rv]
    exact ⟨[encStr s], l.map encStr, [], [], rfl, rfl, by simp [encStr, Value.oneCell'], by simp [eStr, Rc, R, encStr], Rv_ofstr l, rfl⟩
theorem holds_str {w : World} {b off cap : Nat} {C : Array Value} {e : TypeId} {fz : Nat × Nat} {l : List Str} {q : Prop} (hb : w.heap[b]? = some (.cells C e fz)) (hz : (C.size ≤ fz.1 ∧ q) ∨ fz.2 = 0) (hc : CellsAt w b off (l.map encStr)) (hfit : off + cap ≤ C.size) (hl : l.length ≤ cap) : Holds encStr w b off l.toArray := by
  intro j hj
  have hj' : j < l.length := by simpa using hj
  refine ⟨?_, ?_⟩
  · rw [hc j (encStr l[j]) (by rw [List.getElem?_map, List.getElem?_eq_getElem hj']; rfl)]
    simp [hj']
  · simp only [World.frozen?, hb]
    rcases hz with ⟨hz, _⟩ | hz
    · have : ¬ fz.1 ≤ off + j := by omega
      simp [this]
    · simp [hz]
theorem okM_sort {P : Program} [Tabs P] {f : FuncId}
    (hc : ∀ (b off cap : Nat) (zs : List (List UInt8)) (w : World), Holds encStr w b off zs.toArray → b < w.heap.size → zs.length < 4611686018427387904 →
      Calls P f #[.slice (some ⟨b, off, none⟩) zs.length cap] w fun e w' => e = .returned (.tuple #[]) ∧ ∃ n os, w' = grow (putRow encStr (Sort.ahead w n) b off (zs.mergeSort fun x y => decide (x ≤ y)).toArray) os)
    (hn : ∀ (p : Option Addr) (cap : Nat) (w : World), Calls P f #[.slice p 0 cap] w fun e w' => e = .returned (.tuple #[]) ∧ w' = w)
    (l : List Str) (hl : l.length < 4611686018427387904) : OkM P f (.sl .own 1 (l.map eStr)) (.sl .own 1 ((l.mergeSort fun x y => decide (x ≤ y)).map eStr)) [] (.tup []) := by
  intro w v vs fp hh hlow hr hnd hlt hrest
  have hvs : vs = [] := by
    cases vs with
    | nil => rfl
    | cons a b => simp [Rc] at hrest
  subst hvs
  obtain ⟨a, cap, rfl, hlm, ho⟩ := R_own.1 hr
  have hln : (l.mergeSort fun x y => decide (x ≤ y)).length = l.length := List.length_mergeSort _
  rcases ho with ⟨h0, h4, rfl⟩ | ⟨b, off, C, e, fz, fps, rfl, hb, hz, hfit, hlc, hmax, rfl, hrr⟩
  · have hl0 : l = [] := by simpa using h0
    subst hl0
    refine (hn a cap w).mono fun ed w' h => ?_
    obtain ⟨rfl, rfl⟩ := h
    exact ⟨_, [], rfl, by simp [R, Rc], R_own.2 ⟨a, cap, by simp, by simp [maxLen], .inl ⟨by simp, h4, rfl⟩⟩, by simp, by simp, Nat.le_refl _, fun _ _ _ => rfl, Same.rfl⟩
  · obtain ⟨olds, hv, hcl⟩ := Rr_iff.1 hrr
    obtain ⟨rfl, rfl⟩ := Rv_strS hv
    simp only [List.length_map] at hlm hlc
    have hblt : b < w.heap.size := (Array.getElem?_eq_some_iff.1 hb).1
    have hH := holds_str (cap := cap) hb hz hcl (by omega) hlc
    simp only [List.length_map]
    refine (hc b off cap l w hH hblt hl).mono fun ed w' h => ?_
    obtain ⟨rfl, n, os, rfl⟩ := h
    obtain ⟨k1, k2, k3, k4⟩ := heap_row (n := n) (os := os) (d := (l.mergeSort fun x y => decide (x ≤ y)).toArray) (off := off) hb
    have hsz : (putCells encStr off (l.mergeSort fun x y => decide (x ≤ y)).toArray C).size = C.size := by simp [putCells]
    refine ⟨_, [b], rfl, by simp [R, Rc], R_own.2 ⟨some ⟨b, off, none⟩, cap, by simp [hln], by simpa [hln] using hlm, .inr ⟨b, off, _, e, fz, [], rfl, k1, by rw [hsz]; exact hz, by rw [hsz]; exact hfit, by simpa [hln] using hlc, hmax, rfl, Rr_iff.2 ⟨_, Rv_ofstr _, cells_row k1 (by rw [hln]; omega)⟩⟩⟩, by simp, ?_, k3, ?_, k4⟩
    · intro x hx
      obtain rfl : x = b := by simpa using hx
      exact ⟨.inl (by simp), Nat.lt_of_lt_of_le hblt k3⟩
    · intro x hx hne
      exact k2 x hx fun h => hne (by simp [h])
theorem okG_compact {P : Program} [Tabs P] {f : FuncId}
    (hc : ∀ (b off cap : Nat) (zs : List (List UInt8)) (w : World), Holds encStr w b off zs.toArray → zs.length ≤ 9223372036854775807 → zs.length ≤ cap →
      Calls P f #[.slice (some ⟨b, off, none⟩) zs.length cap] w fun e w' => e = .returned (.slice (some ⟨b, off, none⟩) (Lib.compact zs).length cap) ∧ ∃ q, w' = putRow encStr (Sort.ahead w q) b off (Lib.compact zs ++ List.replicate (zs.length - (Lib.compact zs).length) []).toArray)
    (hn : ∀ (p : Option Addr) (cap : Nat) (w : World), Calls P f #[.slice p 0 cap] w fun e w' => e = .returned (.slice p 0 cap) ∧ w' = w)
    (l : List Str) (hl : l.length ≤ 9223372036854775807) (hcl : (Lib.compact l).length ≤ l.length) : OkG P f [.give (.sl .own 1 (l.map eStr))] (.sl .own 1 ((Lib.compact l).map eStr)) := by
  intro w vs fss caps hh hlow hnd hr
  obtain ⟨v1, vs, f1, fss, k1, caps, rfl, rfl, rfl, h1, hr⟩ := RGs_cons hr
  obtain ⟨rfl, rfl, rfl⟩ := RGs_nil hr
  simp only [RG] at h1
  obtain ⟨a, cap, rfl, hlm, ho⟩ := R_own.1 h1
  rcases ho with ⟨h0, h4, rfl⟩ | ⟨b, off, C, e, fz, fps, rfl, hb, hz, hfit, hlc, hmax, rfl, hrr⟩
  · have hl0 : l = [] := by simpa using h0
    subst hl0
    refine (hn a cap w).mono fun ed w' h => ?_
    obtain ⟨rfl, rfl⟩ := h
    have hce : (Lib.compact ([] : List Str)) = [] := List.eq_nil_of_length_eq_zero (by simpa using hcl)
    exact ⟨_, [], [[]], rfl, R_own.2 ⟨a, cap, by simp [hce], by simp [hce, maxLen], .inl ⟨by simp [hce], h4, rfl⟩⟩, by simp [RPs, RP], by simp, by simp, Nat.le_refl _, fun _ _ _ => rfl, Same.rfl⟩
  · obtain ⟨olds, hv, hcs⟩ := Rr_iff.1 hrr
    obtain ⟨rfl, rfl⟩ := Rv_strS hv
    simp only [List.length_map] at hlm hlc
    have hblt : b < w.heap.size := (Array.getElem?_eq_some_iff.1 hb).1
    have hH := holds_str (cap := cap) hb hz hcs (by omega) hlc
    simp only [List.length_map]
    refine (hc b off cap l w hH hl hlc).mono fun ed w' h => ?_
    obtain ⟨rfl, q, hw'⟩ := h
    rw [← grow_empty (putRow encStr _ b off _)] at hw'
    subst hw'
    obtain ⟨m1, m2, m3, m4⟩ := heap_row (n := q) (os := #[]) (d := (Lib.compact l ++ List.replicate (l.length - (Lib.compact l).length) []).toArray) (off := off) hb
    have hsz : (putCells encStr off (Lib.compact l ++ List.replicate (l.length - (Lib.compact l).length) []).toArray C).size = C.size := by simp [putCells]
    have hcells := cells_row m1 (by simp; omega)
    rw [List.map_append, CellsAt.append] at hcells
    refine ⟨_, [b], [[]], rfl, R_own.2 ⟨some ⟨b, off, none⟩, cap, by simp, by simp; omega, .inr ⟨b, off, _, e, fz, [], rfl, m1, by rw [hsz]; exact hz, by rw [hsz]; exact hfit, by simp; omega, hmax, rfl, Rr_iff.2 ⟨_, Rv_ofstr _, hcells.1⟩⟩⟩, by simp [RPs, RP], by simp, ?_, m3, ?_, m4⟩
    · intro x hx
      obtain rfl : x = b := by simpa using hx
      exact ⟨.inl (by simp), Nat.lt_of_lt_of_le hblt m3⟩
    · intro x hx hne
      exact m2 x hx fun h => hne (by simp [h])
end Go.Aw
