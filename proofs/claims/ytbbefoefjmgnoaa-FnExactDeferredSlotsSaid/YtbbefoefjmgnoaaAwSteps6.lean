/-
  Proved here: steps of single operations, sixth part.
  No condition beyond what each statement spells out.
-/
import Derived.Test.YtbbefoefjmgnoaaAwSteps5
set_option linter.all false
namespace Go.Aw

def kill1 (j : Nat) (o : List AObj) : List AObj := match o[j]? with
  | some ob => o.set j ob.kill
  | none => o

def kills : List Nat → List AObj → List AObj
  | [], o => o
  | j :: u, o => kills u (kill1 j o)

theorem kill1_get (j i : Nat) (o : List AObj) (h : i ≠ j) : (kill1 j o)[i]? = o[i]? := by
  unfold kill1
  split
  · rw [List.getElem?_set_ne (Ne.symm h)]
  · rfl

theorem kills_get (i : Nat) : ∀ (u : List Nat) (o : List AObj), i ∉ u → (kills u o)[i]? = o[i]?
  | [], _, _ => rfl
  | j :: u, o, h => by
    simp only [List.mem_cons, not_or] at h
    rw [kills, kills_get i u _ h.2, kill1_get j i o h.1]

section
variable {P : Program} {B : Base} {s : AS} {dst : Option Tmp} {ty : TypeId} {pos : String} {after : Array Edge} {gd : Option (Nat × Bool)}

/-- Several objects die; what they owned is now k's. -/
theorem Rel'.transfers {a : Act} {w : World} {k : Nat} {ok : AObj} (hlive : ok.live = true) : ∀ (u : List Nat) {s : AS} {G : List CO} {g : CO}, Rel' B s G a w → Aw.look s.o G k ok g → u.Nodup → k ∉ u → (∀ j ∈ u, ∃ ob, s.o[j]? = some ob ∧ ob.live = true) →
    ∃ G' g', Rel' B ⟨s.t, kills u s.o⟩ G' a w ∧ Keeps w (env B s.o G w) w (env B (kills u s.o) G' w) ∧ Aw.look (kills u s.o) G' k ok g' ∧ g'.a = g.a ∧ g'.cap = g.cap ∧ (∀ b, g'.F b ↔ g.F b ∨ Of s.o G u b)
  | [], s, G, g, r, hl, _, _, _ => ⟨G, g, r, Keeps.refl _ _, hl, rfl, rfl, fun b => ⟨.inl, fun h => h.elim id (fun ⟨i, _, _, hi, _⟩ => by simp at hi)⟩⟩
  | j :: u, s, G, g, r, hl, hn, hk, hu => by
    simp only [List.mem_cons, not_or] at hk
    obtain ⟨oj, hoj, hjl⟩ := hu j (by simp)
    obtain ⟨gj, hlj⟩ := r.look hoj
    have htr := r.transfer hk.1 hl hlj hlive hjl
    have hk1 : kill1 j s.o = s.o.set j oj.kill := by simp [kill1, hoj]
    have hlk : Aw.look (s.o.set j oj.kill) (G.set k { g with F := fun b => g.F b ∨ gj.F b }) k ok { g with F := fun b => g.F b ∨ gj.F b } := by
      refine ⟨by rw [List.getElem?_set_ne (Ne.symm hk.1)]; exact hl.1, ?_⟩
      have := (List.getElem?_eq_some_iff.1 hl.2).1
      simp [this]
    have hnu := List.nodup_cons.1 hn
    obtain ⟨G', g', r', k', hl', ha, hc, hF⟩ := Rel'.transfers hlive u htr.1 hlk hnu.2 hk.2 (fun i hi => by
      obtain ⟨ob, h1, h2⟩ := hu i (by simp [hi])
      have hne : i ≠ j := fun e => hnu.1 (e ▸ hi)
      exact ⟨ob, by simp only; rw [List.getElem?_set_ne (Ne.symm hne)]; exact h1, h2⟩)
    refine ⟨G', g', by rw [kills, hk1]; exact r', by rw [kills, hk1]; exact htr.2.trans k', by rw [kills, hk1]; exact hl', ha, hc, fun b => ?_⟩
    rw [hF b]
    have hOf : Of (s.o.set j oj.kill) (G.set k { g with F := fun b => g.F b ∨ gj.F b }) u b ↔ Of s.o G u b := by
      constructor
      · rintro ⟨i, ob, gi, hi, hli, hil, hf⟩
        have hne : i ≠ j := fun e => hnu.1 (e ▸ hi)
        have hnk : i ≠ k := fun e => hk.2 (e ▸ hi)
        exact ⟨i, ob, gi, hi, ⟨by have := hli.1; rwa [List.getElem?_set_ne (Ne.symm hne)] at this, by have := hli.2; rwa [List.getElem?_set_ne (Ne.symm hnk)] at this⟩, hil, hf⟩
      · rintro ⟨i, ob, gi, hi, hli, hil, hf⟩
        have hne : i ≠ j := fun e => hnu.1 (e ▸ hi)
        have hnk : i ≠ k := fun e => hk.2 (e ▸ hi)
        exact ⟨i, ob, gi, hi, ⟨by rw [List.getElem?_set_ne (Ne.symm hne)]; exact hli.1, by rw [List.getElem?_set_ne (Ne.symm hnk)]; exact hli.2⟩, hil, hf⟩
    rw [hOf]
    constructor
    · rintro ((h | h) | ⟨i, ob, gi, hi, h⟩)
      · exact .inl h
      · exact .inr ⟨j, oj, gj, by simp, hlj, hjl, h⟩
      · exact .inr ⟨i, ob, gi, by simp [hi], h⟩
    · rintro (h | ⟨i, ob, gi, hi, hli, h⟩)
      · exact .inl (.inl h)
      · rcases List.mem_cons.1 hi with rfl | hi
        · obtain ⟨rfl, rfl⟩ := look_inj hlj hli
          exact .inl (.inr h.2)
        · exact .inr ⟨i, ob, gi, hi, hli, h⟩

mutual
/-- The objects that a handed out value uses are there. -/
theorem resOk_live {o : List AObj} : ∀ {av : AV}, resOk o av = true → ∀ j ∈ uses av, ∃ ob, o[j]? = some ob ∧ ob.live = true
  | .obj i ver, h, j, hj => by
    simp only [uses, List.mem_singleton] at hj
    subst hj
    simp only [resOk] at h
    cases ho : AV.isObj o j ver with
    | none => simp [ho] at h
    | some ob => have := isObj_some ho; exact ⟨ob, this.1, this.2.1⟩
  | .agg c, h, j, hj => resOkc_live (by simpa [resOk] using h) j (by simpa [uses] using hj)
  | .tup c, h, j, hj => resOkc_live (by simpa [resOk] using h) j (by simpa [uses] using hj)
  | .int _ _, _, j, hj => by simp [uses] at hj
  | .bool _, _, j, hj => by simp [uses] at hj
  | .str _, _, j, hj => by simp [uses] at hj
  | .sl _ _ _, _, j, hj => by simp [uses] at hj
  | .vptr _ _ _, _, j, hj => by simp [uses] at hj
  | .ptr _ _ _ _, _, j, hj => by simp [uses] at hj
  | .fn _ _, _, j, hj => by simp [uses] at hj
  | .undef, _, j, hj => by simp [uses] at hj
theorem resOkc_live {o : List AObj} : ∀ {c : List AV}, resOkc o c = true → ∀ j ∈ usesc c, ∃ ob, o[j]? = some ob ∧ ob.live = true
  | [], _, j, hj => by simp [usesc] at hj
  | x :: xs, h, j, hj => by
    simp only [resOkc, Bool.and_eq_true] at h
    simp only [usesc, List.mem_append] at hj
    rcases hj with hj | hj
    · exact resOk_live h.1 j hj
    · exact resOkc_live h.2 j hj
end

/-- A value whose cells are known, in any environment. -/
def AV.good : AV → Bool
  | .agg _ => true
  | x => x.solid

theorem R_good {w : World} {E : Env} {x : AV} {v : Value} {fp : List Nat} (hg : x.good = true) (h : R w E x v fp) : Rc w E x.cells v.cells.toList fp ∧ (∀ c ∈ v.cells.toList, c.oneCell' = true) := by
  have one : ∀ {x : AV} {v : Value} {fp : List Nat}, R w E x v fp → x.cells = [x] → v.cells = #[v] → v.oneCell' = true → Rc w E x.cells v.cells.toList fp ∧ (∀ c ∈ v.cells.toList, c.oneCell' = true) := by
    intro x v fp h h1 h2 h3
    rw [h1, h2]
    exact ⟨by simp only [Rc]; exact ⟨fp, [], h, rfl, by simp⟩, by simpa using h3⟩
  cases x with
  | int k n => have h' := h; simp only [R] at h'; obtain ⟨rfl, _⟩ := h'; exact one h rfl rfl rfl
  | bool b => have h' := h; simp only [R] at h'; obtain ⟨rfl, _⟩ := h'; exact one h rfl rfl rfl
  | str b => have h' := h; simp only [R] at h'; obtain ⟨rfl, _⟩ := h'; exact one h rfl rfl rfl
  | sl g n l =>
    have h' := h
    simp only [R] at h'
    rcases h' with ⟨hd, _⟩ | ⟨a, cap, rfl, _⟩
    · cases g with
      | own => exact hd.elim
      | view => exact hd.elim
      | dep i => cases hg
    · exact one h rfl rfl rfl
  | vptr g c off =>
    have h' := h
    simp only [R] at h'
    rcases h' with ⟨hd, _⟩ | ⟨_, b, o, cs, rfl, _⟩
    · cases g with
      | own => exact hd.elim
      | view => exact hd.elim
      | dep i => cases hg
    · exact one h rfl rfl rfl
  | agg c =>
    simp only [R] at h
    obtain ⟨cs, rfl, ho, hr⟩ := h
    exact ⟨by simpa [AV.cells, Value.cells] using hr, by simpa [Value.cells] using ho⟩
  | fn f c => have h' := h; simp only [R] at h'; obtain ⟨_, cs, rfl, _⟩ := h'; exact one h rfl rfl rfl
  | obj _ _ => cases hg
  | ptr _ _ _ _ => cases hg
  | tup c => cases hg
  | undef => cases hg

theorem Rc_rows {w : World} {E : Env} {n : Nat} : ∀ {xs : List AV} {vs : List Value} {fp : List Nat}, Rc w E xs vs fp → (∀ x ∈ xs, x.good = true ∧ x.cells.length = n) →
    Rv w E (xs.map AV.cells) (vs.flatMap fun v => v.cells.toList) n fp ∧ (∀ v ∈ vs, v.cells.size = n)
  | [], [], fp, h, _ => by simp only [Rc] at h; simp [Rv, h]
  | [], _ :: _, _, h, _ => by simp [Rc] at h
  | _ :: _, [], _, h, _ => by simp [Rc] at h
  | x :: xs, v :: vs, fp, h, hg => by
    simp only [Rc] at h
    obtain ⟨f1, f2, h1, h2, rfl⟩ := h
    have hx := hg x (by simp)
    have hc := R_good hx.1 h1
    have hlen := Rc_length hc.1
    have ih := Rc_rows h2 (fun y hy => hg y (by simp [hy]))
    constructor
    · simp only [List.map_cons, List.flatMap_cons, Rv]
      exact ⟨v.cells.toList, _, f1, f2, rfl, by rw [hlen, hx.2], hc.2, hc.1, ih.1, rfl⟩
    · intro u hu
      rcases List.mem_cons.1 hu with rfl | hu
      · simpa [hx.2] using hlen
      · exact ih.2 u hu

theorem foldl_set (off : Nat) : ∀ (l : List Value) (k : Nat) (pre : List Value) (rest : List Value), pre.length = off + k → l.length ≤ rest.length →
    ((l.zipIdx k).foldl (fun (cs : Array Value) (p : Value × Nat) => cs.setIfInBounds (off + p.2) p.1) (pre ++ rest).toArray) = (pre ++ l ++ rest.drop l.length).toArray
  | [], k, pre, rest, _, _ => by simp
  | x :: xs, k, pre, rest, hp, hl => by
    cases rest with
    | nil => simp at hl
    | cons y ys =>
      simp only [List.zipIdx_cons, List.foldl_cons]
      have : (pre ++ y :: ys).toArray.setIfInBounds (off + k) x = ((pre ++ [x]) ++ ys).toArray := by
        rw [← hp]
        simp
      rw [this, foldl_set off xs (k + 1) (pre ++ [x]) ys (by simp [hp, Nat.add_assoc]) (by simpa using hl)]
      simp

/-- fill, at parts in their order. -/
theorem fill_rows (size : Nat) : ∀ (vs : List Value) (k : Nat) (pre rest : List Value), (∀ v ∈ vs, v.cells.size = size) → pre.length = k * size → rest.length = vs.length * size →
    Instr.fill (fun i => some (i * size, size)) (pre ++ rest).toArray ((vs.zipIdx k).map fun p => (p.2, p.1)) = some (pre ++ vs.flatMap fun v => v.cells.toList).toArray
  | [], k, pre, rest, _, _, hr => by
    have : rest = [] := List.eq_nil_of_length_eq_zero (by simpa using hr)
    subst this
    simp [Instr.fill]
  | v :: vs, k, pre, rest, hv, hp, hr => by
    have h1 := hv v (by simp)
    have hr' : rest.length = vs.length * size + size := by rw [hr]; simp [Nat.add_mul]
    simp only [List.zipIdx_cons, List.map_cons, Instr.fill]
    have hc : ¬ ((v.cells.size ≠ size) || decide (k * size + v.cells.size > (pre ++ rest).toArray.size)) = true := by
      simp [h1]; omega
    rw [if_neg (by simpa using hc)]
    have hz : v.cells.zipIdx.foldl (fun (cs : Array Value) (p : Value × Nat) => cs.setIfInBounds (k * size + p.2) p.1) (pre ++ rest).toArray = (pre ++ v.cells.toList ++ rest.drop v.cells.toList.length).toArray := by
      have := foldl_set (k * size) v.cells.toList 0 pre rest (by simpa using hp) (by simp [h1]; omega)
      rw [← this, ← Array.foldl_toList, Array.toList_zipIdx]
    rw [hz, fill_rows size vs (k + 1) (pre ++ v.cells.toList) _ (fun u hu => hv u (by simp [hu])) (by simp [hp, h1, Nat.add_mul]) (by simp [h1]; omega)]
    simp
end
end Go.Aw
