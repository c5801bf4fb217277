/-
  Proved here: steps towards the statement of this claim, text J2.
  No condition beyond what each statement spells out.
-/
import Derived.Test.YtphofanfadgalaaGreatDoorSJ1
import Derived.Test.YtphofanfadgalaaGreatDoorSD1
import Derived.Test.YtphofanfadgalaaGreatDoorF8
set_option linter.all false
set_option maxRecDepth 4000
set_option maxHeartbeats 4000000
namespace Go.Proofs.YtphofanfadgalaaGreatDoor
open Go.Aw
theorem names_no {l : List Str} {k : Nat} (h : k < l.length) (hc : isName l[k] = false) : areNames l = false := by
  have : l.all isName = false := by
    rw [List.all_eq_false]
    exact ⟨l[k], List.getElem_mem h, by simp [hc]⟩
  simp [areNames, this]
theorem names_end {l : List Str} (h : ∀ x ∈ l, isName x = true) : areNames l = decide ((l.length : Int) ≤ 4) := by
  have : l.all isName = true := List.all_eq_true.2 h
  have h1 : decide ((l.length : Int) ≤ 4) = decide (l.length ≤ 4) := by simp only [decide_eq_decide]; omega
  rw [areNames, this, h1, Bool.true_and]
theorem specNames_ok [Tabs Tryz.prog] (l : List Str) (hs : szL szStr l ≤ 1099511627776) : Ok Tryz.prog 216 [.sl .view 1 (l.map eStr)] (.bool (areNames l)) := by
  simp only [szL] at hs
  refine ent Tryz.mix Tryz.func216 Tryz.ntmps216 ?_
  have W := trivial
  repeat' first|refine st ?_|(refine nx ?_;first|refine se ?_|refine so ?_)|(refine cx ?_;refine sc (fun hc=>?_) (fun hc=>?_)<;>try exact hc.elim)|(refine lx ?_;refine sp (fun hc=>?_) (fun hc=>?_)<;>try exact hc.elim)|refine sx ?_ ?_|refine sy ?_ ?_|fail
  refine awp_loop' (ι := { k : Nat // k ≤ l.length ∧ ∀ x ∈ l.take k, isName x = true }) (fun t o i => ⟨upds t [(3, .int .i64 i.1)], o⟩)
    (fun i => l.length - i.1) ⟨0, by simp, by simp⟩ (weak_o (by simp) (by simp)) ?_
  rintro ⟨k, hk, hi⟩ K1 hK1
  simp only [upds, List.set_cons_succ, List.set_cons_zero] at hK1 ⊢
  have hk1 : IntKind.i64.wrap ((k : Int) + 1) = ((k + 1 : Nat) : Int) := by rw [wrap64] <;> omega
  by_cases hlt : k < l.length
  · have hg := List.getElem?_eq_getElem hlt
    have hel := sumN_get_le szStr l k hlt
    simp only [szStr] at hel
    have c1 := specIsName_ok l[k] (by omega)
    generalize hb : isName l[k] = b at *
    cases b
    · have W := And.intro hk1 (And.intro hg hlt)
      repeat' first|refine st ?_|(refine nx ?_;first|refine se ?_|refine so ?_)|(refine cx ?_;refine sc (fun hc=>?_) (fun hc=>?_)<;>try exact hc.elim)|(refine lx ?_;refine sp (fun hc=>?_) (fun hc=>?_)<;>try exact hc.elim)|refine sx ?_ ?_|refine sy ?_ ?_|fail
      rw [names_no hlt hb]
      all_goals (try (refine ⟨.inr rfl, ?_⟩; simp [Hands, Tryz.results216]))
    · have W := And.intro hk1 (And.intro hg hlt)
      repeat' first|refine st ?_|(refine nx ?_;first|refine se ?_|refine so ?_)|(refine cx ?_;refine sc (fun hc=>?_) (fun hc=>?_)<;>try exact hc.elim)|(refine lx ?_;refine sp (fun hc=>?_) (fun hc=>?_)<;>try exact hc.elim)|refine sx ?_ ?_|refine sy ?_ ?_|fail
      exact hK1 _ ⟨k + 1, by omega, take_succ_all hlt hi hb⟩ (weak_o (by simp) (by simp)) (by simp only; omega)
  · have W := hk1
    repeat' first|refine st ?_|(refine nx ?_;first|refine se ?_|refine so ?_)|(refine cx ?_;refine sc (fun hc=>?_) (fun hc=>?_)<;>try exact hc.elim)|(refine lx ?_;refine sp (fun hc=>?_) (fun hc=>?_)<;>try exact hc.elim)|refine sx ?_ ?_|refine sy ?_ ?_|fail
    rw [names_end (take_all (by omega) hi)]
    all_goals (try (refine ⟨.inr rfl, ?_⟩; simp [Hands, Tryz.results216]))
theorem specIsPolicy_ok [Tabs Tryz.prog] (p : DPolicy) (hs : szPolicy p ≤ 1099511627776) : Ok Tryz.prog 201 [.agg (ePolicy .view p)] (.bool (isPolicy p)) := by
  simp only [szPolicy] at hs
  have c1 := specNames_ok p.scripts (by omega)
  have c2 := specNames_ok p.styles (by omega)
  have c3 := specNames_ok p.images (by omega)
  have c4 := specIsValue_ok p.nonce (by omega)
  have l1 : (p.scripts == []) = decide ((p.scripts.length : Int) = 0) := by cases p.scripts <;> simp <;> omega
  have l2 : (p.styles == []) = decide ((p.styles.length : Int) = 0) := by cases p.styles <;> simp <;> omega
  have l3 : (p.images == []) = decide ((p.images.length : Int) = 0) := by cases p.images <;> simp <;> omega
  unfold isPolicy
  rw [l1, l2, l3]
  generalize areNames p.scripts = b1 at *
  generalize areNames p.styles = b2 at *
  generalize areNames p.images = b3 at *
  generalize isValue p.nonce = b4 at *
  generalize hb : p.isSet = b at *
  cases b
  · refine ent Tryz.mix Tryz.func201 Tryz.ntmps201 ?_
    have W := hb
    repeat' first|refine st ?_|(refine nx ?_;first|refine se ?_|refine so ?_)|(refine cx ?_;refine sc (fun hc=>?_) (fun hc=>?_)<;>try exact hc.elim)|(refine lx ?_;refine sp (fun hc=>?_) (fun hc=>?_)<;>try exact hc.elim)|refine sx ?_ ?_|refine sy ?_ ?_|fail
    all_goals (try (refine ⟨.inr rfl, ?_⟩; simp [Hands, Tryz.results201, hb]))
    all_goals simp_all
  · refine ent Tryz.mix Tryz.func201 Tryz.ntmps201 ?_
    have W := hb
    repeat' first|refine st ?_|(refine nx ?_;first|refine se ?_|refine so ?_)|(refine cx ?_;refine sc (fun hc=>?_) (fun hc=>?_)<;>try exact hc.elim)|(refine lx ?_;refine sp (fun hc=>?_) (fun hc=>?_)<;>try exact hc.elim)|refine sx ?_ ?_|refine sy ?_ ?_|fail
    all_goals (try (refine ⟨.inr rfl, ?_⟩; simp [Hands, Tryz.results201, hb]))
    all_goals simp_all
theorem words_snoc (w : Str) (l : List Str) (x : Str) : words w (l ++ [x]) = words w l ++ 32 :: x := by
  unfold words
  rw [Lib.join_cons, Lib.join_cons]
  simp [Lib.joinTail]
theorem words_nil (w : Str) : words w [] = w := by simp [words, Lib.join_one]
theorem words_len (w : Str) (l : List Str) : (words w l).length = w.length + l.length + sumN szStr l := by
  unfold words
  rw [Lib.join_cons]
  unfold Lib.joinTail
  have : ∀ l : List Str, ((l.map (([32] : Str) ++ ·)).flatten).length = l.length + sumN szStr l := by
    intro l
    induction l with
    | nil => simp [sumN]
    | cons x l ih => simp only [List.map_cons, List.flatten_cons, List.length_append, ih, sumN, szStr, List.length_cons, List.length_nil]; omega
  rw [List.length_append, this]; omega
theorem l9Words_ok [Tabs Tryz.prog] (w : Str) (l : List Str) (hs : w.length + szL szStr l ≤ 1099511627776) : Ok Tryz.prog 202 [.str w, .sl .view 1 (l.map eStr)] (.str (words w l)) := by
  simp only [szL] at hs
  refine ent Tryz.mix Tryz.func202 Tryz.ntmps202 ?_
  have W := trivial
  repeat' first|refine st ?_|(refine nx ?_;first|refine se ?_|refine so ?_)|(refine cx ?_;refine sc (fun hc=>?_) (fun hc=>?_)<;>try exact hc.elim)|(refine lx ?_;refine sp (fun hc=>?_) (fun hc=>?_)<;>try exact hc.elim)|refine sx ?_ ?_|refine sy ?_ ?_|fail
  refine awp_loop' (ι := { k : Nat // k ≤ l.length }) (fun t o i => ⟨upds t [(5, .int .i64 i.1), (0, .str (words w (l.take i.1)))], o⟩)
    (fun i => l.length - i.1) ⟨0, by simp⟩ (weak_o (by simp) (by simp [words_nil])) ?_
  rintro ⟨k, hk⟩ K1 hK1
  simp only [upds, List.set_cons_succ, List.set_cons_zero] at hK1 ⊢
  have hk1 : IntKind.i64.wrap ((k : Int) + 1) = ((k + 1 : Nat) : Int) := by rw [wrap64] <;> omega
  by_cases hlt : k < l.length
  · have hg := List.getElem?_eq_getElem hlt
    have hel := sumN_get_le szStr l k hlt
    simp only [szStr] at hel
    have hw := words_len w (l.take k)
    have hts := sumN_take_le szStr l k
    have htl : (l.take k).length ≤ l.length := by simp; omega
    have e : l.take (k + 1) = l.take k ++ [l[k]] := by rw [List.take_add_one, hg]; rfl
    have e2 := words_snoc w (l.take k) l[k]
    rw [← e] at e2
    generalize words w (l.take k) = q at *
    have W := And.intro hk1 (And.intro hg hlt)
    repeat' first|refine st ?_|(refine nx ?_;first|refine se ?_|refine so ?_)|(refine cx ?_;refine sc (fun hc=>?_) (fun hc=>?_)<;>try exact hc.elim)|(refine lx ?_;refine sp (fun hc=>?_) (fun hc=>?_)<;>try exact hc.elim)|refine sx ?_ ?_|refine sy ?_ ?_|fail
    exact hK1 _ ⟨k + 1, by omega⟩ (weak_o (by simp) (by simp [e2])) (by simp only; omega)
  · have htk : l.take k = l := List.take_of_length_le (by omega)
    rw [htk]
    have W := hk1
    repeat' first|refine st ?_|(refine nx ?_;first|refine se ?_|refine so ?_)|(refine cx ?_;refine sc (fun hc=>?_) (fun hc=>?_)<;>try exact hc.elim)|(refine lx ?_;refine sp (fun hc=>?_) (fun hc=>?_)<;>try exact hc.elim)|refine sx ?_ ?_|refine sy ?_ ?_|fail
    all_goals (try (refine ⟨.inr rfl, ?_⟩; simp [Hands, Tryz.results202]))
theorem names_len {l : List Str} (h : areNames l = true) : l.length ≤ 4 ∧ sumN szStr l ≤ 32 := by
  simp only [areNames, Bool.and_eq_true, decide_eq_true_eq, List.all_eq_true] at h
  have key : ∀ l : List Str, (∀ x ∈ l, isName x = true) → sumN szStr l ≤ 8 * l.length := by
    intro l
    induction l with
    | nil => intro _; simp [sumN]
    | cons x l ih =>
      intro hl
      have h1 := hl x (by simp)
      simp only [isName, Bool.and_eq_true, decide_eq_true_eq] at h1
      have := ih fun y hy => hl y (by simp [hy])
      simp only [sumN, szStr, List.length_cons]
      omega
  have := key l h.1
  exact ⟨h.2, by omega⟩
theorem value_len {s : Str} (h : (s == []) = true ∨ isValue s = true) : s.length ≤ 20 := by
  rcases h with h | h
  · simp only [beq_iff_eq] at h; simp [h]
  · simp only [isValue, Bool.and_eq_true, decide_eq_true_eq] at h; exact h.2.2
theorem policy_len {p : DPolicy} (h : isPolicy p = true) (hs : p.isSet = true) : (words wScript p.scripts).length ≤ 42 ∧ (words wStyle p.styles).length ≤ 41 ∧ (words wImg p.images).length ≤ 39 ∧ p.nonce.length ≤ 20 := by
  simp only [isPolicy, hs, if_true, Bool.and_eq_true, Bool.or_eq_true] at h
  obtain ⟨⟨⟨h1, h2⟩, h3⟩, h4⟩ := h
  have k1 := names_len h1
  have k2 := names_len h2
  have k3 := names_len h3
  refine ⟨by rw [words_len]; simp [wScript]; omega, by rw [words_len]; simp [wStyle]; omega, by rw [words_len]; simp [wImg]; omega, value_len h4⟩
theorem specFormatPolicy_ok [Tabs Tryz.prog] (p : DPolicy) (hs : szPolicy p ≤ 274877906944) : Ok Tryz.prog 182 [.agg (ePolicy .view p)] (.str (fmtPolicy p)) := by
  have c0 := specIsPolicy_ok p (by omega)
  simp only [ePolicy] at c0
  have hq := @policy_len p
  simp only [szPolicy] at hs
  have c1 : Ok Tryz.prog 202 [.str [115, 99, 114, 105, 112, 116], .sl .view 1 (p.scripts.map eStr)] (.str (words wScript p.scripts)) := l9Words_ok wScript p.scripts (by simp [wScript]; omega)
  have c2 : Ok Tryz.prog 202 [.str [115, 116, 121, 108, 101], .sl .view 1 (p.styles.map eStr)] (.str (words wStyle p.styles)) := l9Words_ok wStyle p.styles (by simp [wStyle]; omega)
  have c3 : Ok Tryz.prog 202 [.str [105, 109, 103], .sl .view 1 (p.images.map eStr)] (.str (words wImg p.images)) := l9Words_ok wImg p.images (by simp [wImg]; omega)
  unfold fmtPolicy
  by_cases h1 : isPolicy p = true
  · by_cases h2 : p.isSet = true
    · obtain ⟨k1, k2, k3, k4⟩ := hq h1 h2
      rw [if_pos ⟨h1, h2⟩]
      unfold nonceT
      rw [h1, h2] at c0
      generalize words wScript p.scripts = q1 at *
      generalize words wStyle p.styles = q2 at *
      generalize words wImg p.images = q3 at *
      by_cases hn : p.nonce = []
      · rw [if_pos hn]
        rw [hn] at c0
        refine ent Tryz.mix Tryz.func182 Tryz.ntmps182 ?_
        have W := And.intro h2 hn
        have V := And.intro h2 hn
        repeat' first|refine st ?_|(refine nx ?_;first|refine se ?_|refine so ?_)|(refine cx ?_;refine sc (fun hc=>?_) (fun hc=>?_)<;>try exact hc.elim)|(refine lx ?_;refine sp (fun hc=>?_) (fun hc=>?_)<;>try exact hc.elim)|refine sx ?_ ?_|refine sy ?_ ?_|fail
        all_goals (try (refine ⟨.inr rfl, ?_⟩; simp [Hands, Tryz.results182, h2, hn]))
      · rw [if_neg hn]
        refine ent Tryz.mix Tryz.func182 Tryz.ntmps182 ?_
        have W := And.intro h2 hn
        have V := And.intro h2 hn
        repeat' first|refine st ?_|(refine nx ?_;first|refine se ?_|refine so ?_)|(refine cx ?_;refine sc (fun hc=>?_) (fun hc=>?_)<;>try exact hc.elim)|(refine lx ?_;refine sp (fun hc=>?_) (fun hc=>?_)<;>try exact hc.elim)|refine sx ?_ ?_|refine sy ?_ ?_|fail
        all_goals (try (refine ⟨.inr rfl, ?_⟩; simp [Hands, Tryz.results182, h2, hn, wNonce]))
        all_goals (exact absurd (by assumption) hn)
    · rw [if_neg (fun h => h2 h.2)]
      simp only [Bool.not_eq_true] at h2
      rw [h1, h2] at c0
      refine ent Tryz.mix Tryz.func182 Tryz.ntmps182 ?_
      have W := h2
      have V := h2
      repeat' first|refine st ?_|(refine nx ?_;first|refine se ?_|refine so ?_)|(refine cx ?_;refine sc (fun hc=>?_) (fun hc=>?_)<;>try exact hc.elim)|(refine lx ?_;refine sp (fun hc=>?_) (fun hc=>?_)<;>try exact hc.elim)|refine sx ?_ ?_|refine sy ?_ ?_|fail
      all_goals (try (refine ⟨.inr rfl, ?_⟩; simp [Hands, Tryz.results182]))
  · rw [if_neg (fun h => h1 h.1)]
    simp only [Bool.not_eq_true] at h1
    rw [h1] at c0
    refine ent Tryz.mix Tryz.func182 Tryz.ntmps182 ?_
    have W := trivial
    repeat' first|refine st ?_|(refine nx ?_;first|refine se ?_|refine so ?_)|(refine cx ?_;refine sc (fun hc=>?_) (fun hc=>?_)<;>try exact hc.elim)|(refine lx ?_;refine sp (fun hc=>?_) (fun hc=>?_)<;>try exact hc.elim)|refine sx ?_ ?_|refine sy ?_ ?_|fail
    all_goals (try (refine ⟨.inr rfl, ?_⟩; simp [Hands, Tryz.results182]))
end Go.Proofs.YtphofanfadgalaaGreatDoor
