/-
  Proved here: steps towards the statement of this claim, text J9.
  No condition beyond what each statement spells out.
-/
import Derived.Test.YtphofanfadgalaaGreatDoorSY2
import Derived.Test.YtphofanfadgalaaGreatDoorQ2
import Derived.Test.YtphofanfadgalaaGreatDoorF8
set_option linter.all false
set_option maxRecDepth 4000
set_option maxHeartbeats 4000000
namespace Go.Proofs.YtphofanfadgalaaGreatDoor
open Go.Aw
def fillTo (p : DPage) (a : DAddr) (x : DResponse) : Nat → DPage
  | 0 => p
  | k + 1 => match p.slots[k]? with
    | some s => if s.to = a then fillSlot (fillTo p a x k) k x else fillTo p a x k
    | none => fillTo p a x k
def fillAll (p : DPage) (a : DAddr) (x : DResponse) : DPage := fillTo p a x p.slots.length
theorem fill_same (p : DPage) (k : Int) (x : DResponse) : (fillSlot p k x).slots.length = p.slots.length ∧ (fillSlot p k x).policy = p.policy ∧ (fillSlot p k x).addr = p.addr := by
  unfold fillSlot
  split
  · split
    · split
      · exact ⟨rfl, rfl, rfl⟩
      · simp
    · exact ⟨rfl, rfl, rfl⟩
  · exact ⟨rfl, rfl, rfl⟩
theorem fill_ne (p : DPage) (k : Int) (x : DResponse) (j : Nat) (h : (j : Int) ≠ k) : (fillSlot p k x).slots[j]? = p.slots[j]? := by
  unfold fillSlot
  split
  · split
    · split
      · rfl
      · simp only
        rw [List.getElem?_set_ne (by omega)]
    · rfl
  · rfl
theorem usable_le (p : DPolicy) (r : DRequest) (x : DResponse) : (usableBody p r x).length ≤ 400 := by
  unfold usableBody
  split
  · rename_i h
    unfold checkResponse at h
    split at h
    · omega
    · split at h
      · omega
      · rename_i h2
        have h3 : isResponse x = true := by
          cases h4 : isResponse x with
          | true => rfl
          | false => exact absurd (.inl h4) h2
        simp only [isResponse, Bool.and_eq_true, decide_eq_true_eq] at h3
        exact h3.1.1.2
  · simp
theorem fill_szJ (p : DPage) (k : Int) (x : DResponse) : szPage (fillSlot p k x) ≤ szPage p + 400 := by
  unfold fillSlot
  split
  · split
    · rename_i s hg
      split
      · omega
      · have hb := usable_le p.policy (slotReqOf p s) x
        have h1 : sumN szSlot (p.slots.set k.toNat (filled p s x)) ≤ sumN szSlot p.slots + 400 := by
          have : ∀ (l : List DSlot) (i : Nat) (s s' : DSlot), l[i]? = some s → szSlot s' ≤ szSlot s + 400 → sumN szSlot (l.set i s') ≤ sumN szSlot l + 400 := by
            intro l
            induction l with
            | nil => intro i s s' h; simp at h
            | cons y l ih =>
              intro i s s' h hs
              cases i with
              | zero => simp at h; subst h; simp only [List.set_cons_zero, sumN]; omega
              | succ i => have := ih i s s' (by simpa using h) hs; simp only [List.set_cons_succ, sumN]; omega
          refine this _ _ s _ hg ?_
          simp only [szSlot, filled]; omega
        simp only [szPage, szL, List.length_set] at *
        omega
    · omega
  · omega
theorem fillTo_facts (p : DPage) (a : DAddr) (x : DResponse) : ∀ k, (fillTo p a x k).slots.length = p.slots.length ∧ (∀ j, k ≤ j → (fillTo p a x k).slots[j]? = p.slots[j]?) ∧ szPage (fillTo p a x k) ≤ szPage p + k * 400
  | 0 => ⟨rfl, fun _ _ => rfl, by simp [fillTo]⟩
  | k + 1 => by
    obtain ⟨h1, h2, h3⟩ := fillTo_facts p a x k
    simp only [fillTo]
    split
    · split
      · refine ⟨by rw [(fill_same _ _ _).1]; exact h1, fun j hj => by rw [fill_ne _ _ _ _ (by omega)]; exact h2 j (by omega), ?_⟩
        have := fill_szJ (fillTo p a x k) k x
        omega
      · exact ⟨h1, fun j hj => h2 j (by omega), by omega⟩
    · exact ⟨h1, fun j hj => h2 j (by omega), by omega⟩
theorem fillTo_next {p : DPage} {a : DAddr} {x : DResponse} {k : Nat} (h : k < p.slots.length) : fillTo p a x (k + 1) = if p.slots[k].to = a then fillSlot (fillTo p a x k) k x else fillTo p a x k := by
  simp only [fillTo]
  rw [List.getElem?_eq_getElem h]
def pObjs (q : DPage) : List AObj := [⟨true, false, 1, 1, q.policy.scripts.map eStr⟩, ⟨true, false, 1, 1, q.policy.styles.map eStr⟩, ⟨true, false, 1, 1, q.policy.images.map eStr⟩, ⟨true, false, 4, 1, q.queue.map (eToken .own)⟩, ⟨true, false, 4, 1, q.builder.nodes.map (eNode .own)⟩, ⟨true, false, 1, 1, q.builder.opens.map eInt⟩, ⟨true, false, 8, 1, q.slots.map eSlot⟩, ⟨true, false, 5, 1, q.mods.map eModule⟩, ⟨true, false, 2, 1, q.entries.map eAddr⟩, ⟨true, false, 2, 1, q.ran.map eAddr⟩, ⟨true, false, 1, 1, q.log.map eStr⟩]
def pCells (b : Nat) (q : DPage) : List AV := [.str q.addr.host, .str q.addr.path, .bool q.policy.isSet, .obj b 1, .obj (b + 1) 1, .obj (b + 2) 1, .str q.policy.nonce, .str q.tok.rest, .obj (b + 3) 1, .bool q.ended, .obj (b + 4) 1, .obj (b + 5) 1, .obj (b + 6) 1, .obj (b + 7) 1, .obj (b + 8) 1, .int .i64 q.block, .int .i64 q.inline, .int .i64 q.deferred, .int .i64 q.entered, .obj (b + 9) 1, .obj (b + 10) 1, .bool q.loaded]
def pSwaps : List (Nat × Nat) := [(4, 16), (5, 17), (6, 18), (7, 19), (8, 20), (9, 21), (10, 22), (11, 23), (12, 24), (13, 25), (14, 26)]
theorem weak_page4 {t t' : List AV} {o0 o1 o2 o3 : AObj} (q0 q : DPage) (ht : ∀ z ∈ pSwaps, wk (rswc z.1 z.2 t') t') (hf : ∀ z ∈ pSwaps, o0.rsw z.1 z.2 = o0 ∧ o1.rsw z.1 z.2 = o1 ∧ o2.rsw z.1 z.2 = o2 ∧ o3.rsw z.1 z.2 = o3) (hw : wk t t') (hc : closedc 16 t' = true) (hc0 : closedo 16 [o0, o1, o2, o3] = true) :
    Weak ⟨t, [o0, o1, o2, o3] ++ pObjs q0 ++ [⟨true, true, 22, 0, [pCells 16 q]⟩] ++ pObjs q⟩ ⟨t', [o0, o1, o2, o3] ++ pObjs q ++ [⟨true, true, 22, 0, [pCells 4 q]⟩]⟩ := by
  have e := fun i j (h : (i, j) ∈ pSwaps) => hf (i, j) h
  have h := fun i j (h : (i, j) ∈ pSwaps) => ht (i, j) h
  simp only [pObjs, pCells, List.cons_append, List.nil_append]
  refine (weak_t hw).trans ?_
  refine (weak_swp 4 16 rfl rfl ⟨rfl, rfl⟩ (by simp [(e 4 16 (by decide))]; rfl) (h 4 16 (by decide))).trans ?_
  refine (weak_swp 5 17 rfl rfl ⟨rfl, rfl⟩ (by simp [(e 5 17 (by decide))]; rfl) (h 5 17 (by decide))).trans ?_
  refine (weak_swp 6 18 rfl rfl ⟨rfl, rfl⟩ (by simp [(e 6 18 (by decide))]; rfl) (h 6 18 (by decide))).trans ?_
  refine (weak_swp 7 19 rfl rfl ⟨rfl, rfl⟩ (by simp [(e 7 19 (by decide))]; rfl) (h 7 19 (by decide))).trans ?_
  refine (weak_swp 8 20 rfl rfl ⟨rfl, rfl⟩ (by simp [(e 8 20 (by decide))]; rfl) (h 8 20 (by decide))).trans ?_
  refine (weak_swp 9 21 rfl rfl ⟨rfl, rfl⟩ (by simp [(e 9 21 (by decide))]; rfl) (h 9 21 (by decide))).trans ?_
  refine (weak_swp 10 22 rfl rfl ⟨rfl, rfl⟩ (by simp [(e 10 22 (by decide))]; rfl) (h 10 22 (by decide))).trans ?_
  refine (weak_swp 11 23 rfl rfl ⟨rfl, rfl⟩ (by simp [(e 11 23 (by decide))]; rfl) (h 11 23 (by decide))).trans ?_
  refine (weak_swp 12 24 rfl rfl ⟨rfl, rfl⟩ (by simp [(e 12 24 (by decide))]; rfl) (h 12 24 (by decide))).trans ?_
  refine (weak_swp 13 25 rfl rfl ⟨rfl, rfl⟩ (by simp [(e 13 25 (by decide))]; rfl) (h 13 25 (by decide))).trans ?_
  refine (weak_swp 14 26 rfl rfl ⟨rfl, rfl⟩ (by simp [(e 14 26 (by decide))]; rfl) (h 14 26 (by decide))).trans ?_
  refine weak_take 16 (by simp) (wk_rfl _) hc ?_
  simpa [closedo, closedc, closed] using hc0
theorem rswr_map {α : Type} {f : α → List AV} {i j : Nat} (h : ∀ x, rswc i j (f x) = f x) : ∀ l : List α, rswr i j (l.map f) = l.map f
  | [] => rfl
  | x :: l => by simp only [List.map_cons, rswr, h, rswr_map h l]
@[simp] theorem rswr_eStr (i j : Nat) (l : List Str) : rswr i j (l.map eStr) = l.map eStr := rswr_map (fun _ => rfl) l
@[simp] theorem rswr_eInt (i j : Nat) (l : List Int) : rswr i j (l.map eInt) = l.map eInt := rswr_map (fun _ => rfl) l
@[simp] theorem rswr_eAddr (i j : Nat) (l : List DAddr) : rswr i j (l.map eAddr) = l.map eAddr := rswr_map (fun _ => rfl) l
@[simp] theorem rswr_eAttr (i j : Nat) (l : List DAttr) : rswr i j (l.map eAttr) = l.map eAttr := rswr_map (fun _ => rfl) l
@[simp] theorem rswr_eSlot (i j : Nat) (l : List DSlot) : rswr i j (l.map eSlot) = l.map eSlot := rswr_map (fun _ => rfl) l
@[simp] theorem rswr_eModule (i j : Nat) (l : List DModule) : rswr i j (l.map eModule) = l.map eModule := rswr_map (fun _ => rfl) l
@[simp] theorem rswr_eTokenV (i j : Nat) (l : List DToken) : rswr i j (l.map (eToken .view)) = l.map (eToken .view) := rswr_map (fun _ => by simp) l
@[simp] theorem rswr_eNodeV (i j : Nat) (l : List DNode) : rswr i j (l.map (eNode .view)) = l.map (eNode .view) := rswr_map (fun _ => by simp) l
theorem weak_pageF {t t' : List AV} {o o' : List AObj} {o0 o1 o2 o3 : AObj} {q0 q : DPage} (ho : o = [o0, o1, o2, o3] ++ pObjs q0 ++ [⟨true, true, 22, 0, [pCells 16 q]⟩] ++ pObjs q) (ho' : o' = [o0, o1, o2, o3] ++ pObjs q ++ [⟨true, true, 22, 0, [pCells 4 q]⟩])
    (ht : ∀ z ∈ pSwaps, wk (rswc z.1 z.2 t') t') (hf : ∀ z ∈ pSwaps, o0.rsw z.1 z.2 = o0 ∧ o1.rsw z.1 z.2 = o1 ∧ o2.rsw z.1 z.2 = o2 ∧ o3.rsw z.1 z.2 = o3) (hw : wk t t') (hc : closedc 16 t' = true) (hc0 : closedo 16 [o0, o1, o2, o3] = true) : Weak ⟨t, o⟩ ⟨t', o'⟩ := by
  subst ho; subst ho'; exact weak_page4 q0 q ht hf hw hc hc0
end Go.Proofs.YtphofanfadgalaaGreatDoor
