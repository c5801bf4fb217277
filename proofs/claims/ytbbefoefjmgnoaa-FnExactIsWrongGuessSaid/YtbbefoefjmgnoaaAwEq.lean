/-
  Proved here: what the language's equality says of two structs of plain parts.
  No condition beyond what each statement spells out.
-/
import Derived.Test.YtbbefoefjmgnoaaAwRow
import Derived.Laws.StructEq
import Derived.DeepKeys
set_option linter.all false
set_option linter.unusedVariables false
set_option linter.unusedSimpArgs false
namespace Go.Aw

/-- Values of a shape, whatever their size. -/
def Like : Sh → AV → Prop
  | .int k, .int k' _ => k' = k
  | .bool, .bool _ => True
  | .str, .str _ => True
  | _, _ => False
def LikeC : List Sh → List AV → Prop
  | [], [] => True
  | s :: ss, x :: xs => Like s x ∧ LikeC ss xs
  | _, _ => False

theorem LikeC_length : ∀ {ss : List Sh} {xs : List AV}, LikeC ss xs → xs.length = ss.length
  | [], [], _ => rfl
  | s :: ss, x :: xs, h => by simp only [LikeC] at h; simp [LikeC_length h.2]
  | [], _ :: _, h => h.elim
  | _ :: _, [], h => h.elim
theorem LikeC_split : ∀ {ss tt : List Sh} {xs : List AV}, LikeC (ss ++ tt) xs → LikeC ss (xs.take ss.length) ∧ LikeC tt (xs.drop ss.length)
  | [], _, xs, h => by simpa [LikeC] using h
  | s :: ss, tt, x :: xs, h => by
    simp only [List.cons_append, LikeC] at h
    simp only [List.length_cons, List.take_succ_cons, List.drop_succ_cons, LikeC]
    have := LikeC_split h.2
    exact ⟨⟨h.1, this.1⟩, this.2⟩
  | _ :: _, _, [], h => h.elim

def structT (P : Program) (t : TypeId) : Bool := match P.underlying t with | some (.struct _) => true | _ => false
def valOf (P : Program) (t : TypeId) (cs : List Value) : Value := if structT P t then .agg cs.toArray else cs.headD (.tuple #[])

/-- No part of the type is blank or stands for another package's. -/
def eqT (P : Program) : Nat → TypeId → Bool
  | 0, _ => false
  | f + 1, t => match P.underlying t with
    | some .bool | some (.int _) | some .string => P.cellsOf t == 1
    | some (.struct fs) => !P.stoodInHeld t && fs.toList.all fun x => x.name != "_" && eqT P f x.type
    | _ => false

theorem run_part_av {P : Program} {w : World} {f : Nat} {t : TypeId} (he : eqT P f t = true) (xs : List Value) (o : Nat) (h : P.cellsOf t = 0 ∨ o + P.cellsOf t ≤ xs.length) :
    (part t xs.toArray o).run P w = .ok (valOf P t ((xs.drop o).take (P.cellsOf t))) w := by
  cases f with
  | zero => simp [eqT] at he
  | succ f =>
    unfold eqT at he
    have one : ∀ d, P.underlying t = some d → (d = .bool ∨ (∃ k, d = .int k) ∨ d = .string) → P.cellsOf t = 1 → (part t xs.toArray o).run P w = .ok (valOf P t ((xs.drop o).take (P.cellsOf t))) w := by
      intro d hu hd h1
      have hlt : o < xs.length := by omega
      have e : (xs.drop o).take 1 = [xs[o]] := by rw [List.drop_eq_getElem_cons hlt, List.take_succ_cons, List.take_zero]
      rw [h1, e]
      rcases hd with rfl | ⟨k, rfl⟩ | rfl <;> simp [part, isAgg, run_underlying hu, valOf, structT, hu, hlt]
    split at he
    · rename_i hu; exact one _ hu (.inl rfl) (by simpa using he)
    · rename_i hu; exact one _ hu (.inr (.inl ⟨_, rfl⟩)) (by simpa using he)
    · rename_i hu; exact one _ hu (.inr (.inr rfl)) (by simpa using he)
    · rename_i fs hu
      obtain ⟨i, hi⟩ := info_of_underlying hu
      have hl : xs.toArray.extract o (o + P.cellsOf t) = ((xs.drop o).take (P.cellsOf t)).toArray := by
        apply Array.toList_inj.1
        rw [Array.toList_extract]
        simp [List.extract]
      simp [part, isAgg, run_underlying hu, run_sizeOf w hi, valOf, structT, hu, hl]
    · cases he

section
variable {P : Program}

theorem run_eqFields_av {f : Nat} (ih : ∀ t ss, shC P f t = some ss → eqT P f t = true → ∀ c1 c2 : List AV, LikeC ss c1 → LikeC ss c2 → ∀ d w, f ≤ d → ∃ b, (Op.equalIn d t (valOf P t (c1.map toV)) (valOf P t (c2.map toV))).run P w = .ok b w ∧ (b = true ↔ c1 = c2)) (c1 c2 : List AV) (d : Nat) (w : World) (hd : f ≤ d) :
    ∀ (fs : List Field) (o : Nat) (rs : List Sh), shF (shC P f) P fs o = some rs → (fs.all fun x => x.name != "_" && eqT P f x.type) = true → LikeC rs (c1.drop o) → LikeC rs (c2.drop o) →
      ∃ b, (Op.eqFields d (c1.map toV).toArray (c2.map toV).toArray fs).run P w = .ok b w ∧ (b = true ↔ c1.drop o = c2.drop o)
  | [], o, rs, h, _, h1, h2 => by
    simp only [shF, Option.some.injEq] at h
    subst h
    refine ⟨true, by simp [Op.eqFields], ?_⟩
    have e1 := LikeC_length h1
    have e2 := LikeC_length h2
    simp only [List.length_nil, List.length_eq_zero_iff] at e1 e2
    simp [e1, e2]
  | x :: fs, o, rs, h, ha, h1, h2 => by
    simp only [shF] at h
    simp only [List.all_cons, Bool.and_eq_true] at ha
    split at h
    · rename_i ho
      split at h
      · rename_i a hsa
        split at h
        · rename_i hl
          split at h
          · rename_i b hb
            obtain rfl := Option.some.inj h
            have s1 := LikeC_split h1
            have s2 := LikeC_split h2
            rw [List.drop_drop] at s1 s2
            have n1 := LikeC_length h1
            have n2 := LikeC_length h2
            simp only [List.length_drop, List.length_append] at n1 n2
            obtain ⟨b1, hr1, hi1⟩ := ih _ _ hsa ha.1.2 _ _ s1.1 s2.1 d w hd
            obtain ⟨b2, hr2, hi2⟩ := run_eqFields_av ih c1 c2 d w hd fs (o + a.length) b hb ha.2 s1.2 s2.2
            have p1 := run_part_av (w := w) ha.1.2 (c1.map toV) o (by rw [List.length_map]; omega)
            have p2 := run_part_av (w := w) ha.1.2 (c2.map toV) o (by rw [List.length_map]; omega)
            rw [← hl, ← List.map_drop, ← List.map_take] at p1 p2
            have hname : x.name ≠ "_" := by simpa using ha.1.1
            simp only [Op.eqFields, hname, ne_eq, not_false_eq_true, if_true, ho, Sem.run_bind, p1, p2, Result.andThen_ok, hr1]
            have split1 : c1.drop o = (c1.drop o).take a.length ++ c1.drop (o + a.length) := by rw [← List.drop_drop, List.take_append_drop]
            have split2 : c2.drop o = (c2.drop o).take a.length ++ c2.drop (o + a.length) := by rw [← List.drop_drop, List.take_append_drop]
            have key : c1.drop o = c2.drop o ↔ ((c1.drop o).take a.length = (c2.drop o).take a.length ∧ c1.drop (o + a.length) = c2.drop (o + a.length)) := by
              constructor
              · intro e
                rw [e]
                refine ⟨rfl, ?_⟩
                rw [← List.drop_drop, ← List.drop_drop, e]
              · intro e
                rw [split1, split2, e.1, e.2]
            cases b1 with
            | false => exact ⟨false, by simp, by simp only [Bool.false_eq_true, false_iff]; intro e; exact absurd (hi1.2 (key.1 e).1) (by simp)⟩
            | true => exact ⟨b2, by simpa using hr2, by rw [hi2, key]; exact ⟨fun e => ⟨hi1.1 rfl, e⟩, fun e => e.2⟩⟩
          · cases h
        · cases h
      · cases h
    · cases h

theorem run_eqC : ∀ (f : Nat) (t : TypeId) (ss : List Sh), shC P f t = some ss → eqT P f t = true → ∀ c1 c2 : List AV, LikeC ss c1 → LikeC ss c2 → ∀ d w, f ≤ d →
    ∃ b, (Op.equalIn d t (valOf P t (c1.map toV)) (valOf P t (c2.map toV))).run P w = .ok b w ∧ (b = true ↔ c1 = c2)
  | 0, _, _, h, _, _, _, _, _, _, _, _ => by simp [shC] at h
  | f + 1, t, ss, h, he, c1, c2, h1, h2, d, w, hd => by
    obtain ⟨d, rfl⟩ : ∃ d', d = d' + 1 := ⟨d - 1, by omega⟩
    unfold shC at h
    unfold eqT at he
    have one : ∀ s : Sh, ss = [s] → ∃ x y, c1 = [x] ∧ c2 = [y] ∧ Like s x ∧ Like s y := by
      rintro s rfl
      match c1, c2, h1, h2 with
      | [x], [y], h1, h2 => exact ⟨x, y, rfl, rfl, h1.1, h2.1⟩
      | [], _, h1, _ => exact h1.elim
      | _ :: _ :: _, _, h1, _ => exact h1.2.elim
      | [_], [], _, h2 => exact h2.elim
      | [_], _ :: _ :: _, _, h2 => exact h2.2.elim
    split at h
    · rename_i hu
      obtain ⟨x, y, rfl, rfl, l1, l2⟩ := one _ (Option.some.inj h).symm
      cases x <;> simp only [Like] at l1
      cases y <;> simp only [Like] at l2
      rename_i p q
      exact ⟨p == q, by simp [valOf, structT, hu, toV, Go.run_equalIn_bool w d t p q hu], by simp⟩
    · rename_i k hu
      obtain ⟨x, y, rfl, rfl, l1, l2⟩ := one _ (Option.some.inj h).symm
      cases x <;> simp only [Like] at l1
      cases y <;> simp only [Like] at l2
      rename_i k1 p k2 q
      have e1 : k1 = k := l1
      have e2 : k2 = k := l2
      subst e1; subst e2
      exact ⟨p == q, by simp [valOf, structT, hu, toV, run_equalIn_int w d t _ _ p q hu], by simp⟩
    · rename_i hu
      obtain ⟨x, y, rfl, rfl, l1, l2⟩ := one _ (Option.some.inj h).symm
      cases x <;> simp only [Like] at l1
      cases y <;> simp only [Like] at l2
      rename_i p q
      refine ⟨p == q, ?_, by simp⟩
      have := run_equalIn_string w d t ⟨p.toArray⟩ ⟨q.toArray⟩ hu
      rw [ByteArray.toList_eq, ByteArray.toList_eq] at this
      simpa [valOf, structT, hu, toV] using this
    · rename_i e hu
      rw [hu] at he
      cases he
    · rename_i fs hu
      rw [hu] at he
      simp only [Bool.and_eq_true, Bool.not_eq_true'] at he
      split at h
      · rename_i r hr
        split at h
        · obtain rfl := Option.some.inj h
          have hf : P.fieldsOf t = fs := by simp [Program.fieldsOf, hu]
          obtain ⟨b, hb, hi⟩ := run_eqFields_av (fun t ss a b c1 c2 e1 e2 d w hd => run_eqC f t ss a b c1 c2 e1 e2 d w hd) c1 c2 d w (by omega) fs.toList 0 _ hr he.2 (by simpa using h1) (by simpa using h2)
          refine ⟨b, ?_, by simpa using hi⟩
          have := run_equalIn_struct w d t (c1.map toV).toArray (c2.map toV).toArray (by rw [hf]; exact hu) he.1
          rw [hf] at this
          simpa [valOf, structT, hu] using this.trans hb
        · cases h
      · cases h
    · cases h

theorem eqA_of {t : TypeId} {f : Nat} {ss : List Sh} (hf : f ≤ 10000) (hs : shC P f t = some ss) (he : eqT P f t = true) (hst : structT P t = true) (hg : P.eqGuardType P.depth t = false) {c1 c2 : List AV} (h1 : LikeC ss c1) (h2 : LikeC ss c2) {b : Bool} (hb : b = true ↔ c1 = c2) :
    EqA P t c1 c2 b := by
  intro op x y w hop
  obtain ⟨b', hb', hi⟩ := run_eqC f t ss hs he c1 c2 h1 h2 10000 w hf
  have e : b' = b := by
    rw [← hb] at hi
    cases b <;> cases b' <;> simp_all
  subst e
  simp only [valOf, hst, if_true] at hb'
  rcases hop with rfl | rfl
  · simp only [Sem.run_bind, run_eqGuard_agg w _ t x y _ _ hg, Result.andThen_ok, run_eql_struct, hb', if_true]
  · simp only [Sem.run_bind, run_eqGuard_agg w _ t x y _ _ hg, Result.andThen_ok, run_neq_struct, hb']
    rfl
end
end Go.Aw
