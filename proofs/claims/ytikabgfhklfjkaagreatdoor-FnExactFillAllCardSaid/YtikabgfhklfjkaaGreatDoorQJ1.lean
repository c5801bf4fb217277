/-
  Proved here: steps towards the statement of this claim, text J1.
  No condition beyond what each statement spells out.
-/
import Derived.Test.YtikabgfhklfjkaaGreatDoorQQ1
import Derived.Test.YtikabgfhklfjkaaGreatDoorQF5
set_option linter.all false
set_option linter.unusedSimpArgs false
set_option linter.unusedVariables false
set_option maxRecDepth 4000
set_option maxHeartbeats 4000000
namespace Go.Proofs.YtikabgfhklfjkaaGreatDoor
open Go.Aw
def areNames (l : List Str) : Bool := l.all isName && decide (l.length ≤ 4)
def isPolicy (p : DPolicy) : Bool :=
  if p.isSet = true then areNames p.scripts && areNames p.styles && areNames p.images && (p.nonce == [] || isValue p.nonce)
  else p.scripts == [] && p.styles == [] && p.images == [] && p.nonce == []
def wScript : Str := [115, 99, 114, 105, 112, 116]
def wStyle : Str := [115, 116, 121, 108, 101]
def wImg : Str := [105, 109, 103]
def wNonce : Str := [110, 111, 110, 99, 101, 32]
def words (w : Str) (l : List Str) : Str := Lib.join (w :: l) [32]
def nonceT (n : Str) : Str := if n = [] then [] else 59 :: (wNonce ++ n)
def fmtPolicy (p : DPolicy) : Str :=
  if isPolicy p = true ∧ p.isSet = true then words wScript p.scripts ++ 59 :: (words wStyle p.styles ++ 59 :: (words wImg p.images ++ nonceT p.nonce)) else []
def noPol : DPolicy := ⟨false, [], [], [], []⟩
/-- The policy that a text's parts spell, with a reading of the last. -/
def polAt (f : Str → Str) (s : Str) : DPolicy :=
  ⟨true, (segs 32 ((segs 59 s).getD 0 [])).tail, (segs 32 ((segs 59 s).getD 1 [])).tail, (segs 32 ((segs 59 s).getD 2 [])).tail, match (segs 59 s)[3]? with | some x => f x | none => []⟩
def parsePol (f : Str → Str) (s : Str) : DPolicy × Bool :=
  if s = [] then (noPol, true) else if (segs 59 s).length < 3 then (noPol, false) else if fmtPolicy (polAt f s) = s then (polAt f s, true) else (noPol, false)
def nonceI (x : Str) : Str := if wNonce.isPrefixOf x then x.drop 6 else x
def nonceS (x : Str) : Str := if 6 < x.length then x.drop 6 else []

theorem name_without (c : UInt8) (hc : c.toNat < 97) : ∀ (s : Str), isName s = true → ∀ x ∈ s, x ≠ c := by
  intro s h x hx e
  subst e
  simp only [isName, Bool.and_eq_true, List.all_eq_true] at h
  have := h.1 x hx
  simp [lowerB] at this
  omega
theorem value_no59 : ∀ (s : Str), isValue s = true → ∀ x ∈ s, x ≠ 59 := by
  intro s h x hx e
  subst e
  simp only [isValue, Bool.and_eq_true, List.all_eq_true] at h
  have := h.1 _ hx
  simp [valueB] at this
theorem words_no (w : Str) (hw : ∀ x ∈ w, x ≠ 59) : ∀ (l : List Str), l.all isName = true → ∀ x ∈ words w l, x ≠ 59 := by
  intro l hl x hx
  have key : ∀ (l : List Str), (∀ s ∈ l, ∀ x ∈ s, x ≠ (59 : UInt8)) → ∀ x ∈ Lib.join l [32], x ≠ (59 : UInt8) := by
    intro l
    unfold Lib.join
    induction l with
    | nil => intro _ x hx; simp at hx
    | cons a l ih =>
      intro h x hx
      cases l with
      | nil => simp at hx; exact h a (by simp) x hx
      | cons b l =>
        rw [List.intercalate_cons_cons] at hx
        simp only [List.mem_append] at hx
        rcases hx with (hx | hx) | hx
        · exact h a (by simp) x hx
        · simp at hx; subst hx; decide
        · exact ih (fun s hs => h s (by simp [hs])) x hx
  refine key (w :: l) (fun s hs => ?_) x hx
  rcases List.mem_cons.1 hs with rfl | hs
  · exact hw
  · exact name_without 59 (by decide) s (List.all_eq_true.1 hl s hs)

theorem segs_fmt (p : DPolicy) (h : isPolicy p = true) (hs : p.isSet = true) :
    segs 59 (fmtPolicy p) = words wScript p.scripts :: words wStyle p.styles :: words wImg p.images :: (if p.nonce = [] then [] else [wNonce ++ p.nonce]) := by
  simp only [isPolicy, hs, if_true, areNames, Bool.and_eq_true] at h
  obtain ⟨⟨⟨h1, h2⟩, h3⟩, h4⟩ := h
  have hp : isPolicy p = true := by simp only [isPolicy, hs, if_true, areNames, Bool.and_eq_true]; exact ⟨⟨⟨h1, h2⟩, h3⟩, h4⟩
  unfold fmtPolicy
  rw [if_pos ⟨hp, hs⟩, segs_cut _ _ _ (words_no wScript (by decide) _ h1.1), segs_cut _ _ _ (words_no wStyle (by decide) _ h2.1)]
  unfold nonceT
  by_cases hn : p.nonce = []
  · rw [if_pos hn, if_pos hn, List.append_nil, segs_one _ _ (words_no wImg (by decide) _ h3.1)]
  · rw [if_neg hn, if_neg hn, segs_cut _ _ _ (words_no wImg (by decide) _ h3.1), segs_one]
    intro x hx
    rcases List.mem_append.1 hx with hx | hx
    · exact (by decide : ∀ x ∈ wNonce, x ≠ 59) x hx
    · have hv : isValue p.nonce = true := by
        simp only [Bool.or_eq_true, beq_iff_eq] at h4
        exact h4.resolve_left hn
      exact value_no59 _ hv x hx

/-- A policy whose text is not empty is one that is set. -/
theorem fmt_ne {p : DPolicy} {s : Str} (hs : s ≠ []) (h : fmtPolicy p = s) : isPolicy p = true ∧ p.isSet = true := by
  unfold fmtPolicy at h
  by_cases hc : isPolicy p = true ∧ p.isSet = true
  · exact hc
  · rw [if_neg hc] at h; exact absurd h.symm hs

/-- The last part, read either way. -/
theorem nonce_read {f g : Str → Str} (hf : ∀ n, n ≠ [] → f (wNonce ++ n) = n) (hg : ∀ n, n ≠ [] → g (wNonce ++ n) = n) {s : Str} (hs : s ≠ []) (h : fmtPolicy (polAt f s) = s) : polAt f s = polAt g s := by
  obtain ⟨h1, h2⟩ := fmt_ne hs h
  have h3 := segs_fmt _ h1 h2
  rw [h] at h3
  unfold polAt
  congr 1
  cases hx : (segs 59 s)[3]? with
  | none => rfl
  | some x =>
    dsimp only
    rw [h3] at hx
    by_cases hn : (polAt f s).nonce = []
    · rw [if_pos hn] at hx; simp at hx
    · rw [if_neg hn] at hx
      simp only [List.getElem?_cons_succ, List.getElem?_cons_zero, Option.some.injEq] at hx
      rw [← hx, hf _ hn, hg _ hn]
theorem nonceI_ok (n : Str) (h : n ≠ []) : nonceI (wNonce ++ n) = n := by
  unfold nonceI
  rw [if_pos (by simp [List.isPrefixOf_iff_prefix])]
  simp [wNonce]
theorem nonceS_ok (n : Str) (h : n ≠ []) : nonceS (wNonce ++ n) = n := by
  unfold nonceS
  have : 0 < n.length := List.length_pos_iff.2 h
  rw [if_pos (by simp [wNonce]; omega)]
  simp [wNonce]
theorem parse_same (s : Str) : parsePol nonceI s = parsePol nonceS s := by
  unfold parsePol
  by_cases hs : s = []
  · rw [if_pos hs, if_pos hs]
  rw [if_neg hs, if_neg hs]
  by_cases hl : (segs 59 s).length < 3
  · rw [if_pos hl, if_pos hl]
  rw [if_neg hl, if_neg hl]
  by_cases h1 : fmtPolicy (polAt nonceI s) = s
  · have e := nonce_read nonceI_ok nonceS_ok hs h1
    rw [if_pos h1, if_pos (by rw [← e]; exact h1), e]
  · by_cases h2 : fmtPolicy (polAt nonceS s) = s
    · have e := nonce_read nonceS_ok nonceI_ok hs h2
      exact absurd (by rw [← e]; exact h2) h1
    · rw [if_neg h1, if_neg h2]
/-- What a text spells. -/
def parsePolicy (s : Str) : DPolicy × Bool := parsePol nonceS s
end Go.Proofs.YtikabgfhklfjkaaGreatDoor
