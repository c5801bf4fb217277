/-
  Proved here: steps towards the statement of this claim, text TK5.
  No condition beyond what each statement spells out.
-/
import Derived.Test.YtonajehhfkkglabGreatQ4
import Derived.Test.YtonajehhfkkglabGreatSR7
import Derived.Test.YtonajehhfkkglabGreatTK3
import Derived.Test.YtonajehhfkkglabGreatTKB
import Derived.Test.YtonajehhfkkglabGreatF8
set_option linter.all false
set_option maxRecDepth 4000
set_option maxHeartbeats 4000000
namespace Go.Proofs.YtonajehhfkkglabGreat
open Go.Aw
def allowsInline (p : DPolicy) (n : Str) : Bool := !p.isSet || ((p.nonce != []) && (p.nonce == n))
theorem implAllowsInline_ok [Tabs Tryz.prog] (p : DPolicy) (n : Str) : Ok Tryz.prog 87 [.agg (ePolicy .view p), .str n] (.bool (allowsInline p n)) := by
  obtain ⟨pis, psc, pst, pim, nc⟩ := p
  unfold allowsInline
  cases pis
  · refine ent Tryz.mix Tryz.func87 Tryz.ntmps87 ?_
    have W := trivial
    repeat' first|refine st ?_|(refine nx ?_;first|refine se ?_|refine so ?_)|(refine cx ?_;refine sc (fun hc=>?_) (fun hc=>?_)<;>try exact hc.elim)|(refine lx ?_;refine sp (fun hc=>?_) (fun hc=>?_)<;>try exact hc.elim)|refine sx ?_ ?_|refine sy ?_ ?_|fail
    all_goals (try (refine ⟨.inr rfl, ?_⟩; simp [Hands, Tryz.results87]))
  · by_cases h : nc = []
    · subst h
      refine ent Tryz.mix Tryz.func87 Tryz.ntmps87 ?_
      have W := trivial
      repeat' first|refine st ?_|(refine nx ?_;first|refine se ?_|refine so ?_)|(refine cx ?_;refine sc (fun hc=>?_) (fun hc=>?_)<;>try exact hc.elim)|(refine lx ?_;refine sp (fun hc=>?_) (fun hc=>?_)<;>try exact hc.elim)|refine sx ?_ ?_|refine sy ?_ ?_|fail
      all_goals (try (refine ⟨.inr rfl, ?_⟩; simp [Hands, Tryz.results87]))
    · have h2 : (nc != []) = true := by simpa using h
      refine ent Tryz.mix Tryz.func87 Tryz.ntmps87 ?_
      have W := And.intro h h2
      repeat' first|refine st ?_|(refine nx ?_;first|refine se ?_|refine so ?_)|(refine cx ?_;refine sc (fun hc=>?_) (fun hc=>?_)<;>try exact hc.elim)|(refine lx ?_;refine sp (fun hc=>?_) (fun hc=>?_)<;>try exact hc.elim)|refine sx ?_ ?_|refine sy ?_ ?_|fail
      all_goals (try (refine ⟨.inr rfl, ?_⟩; simp [Hands, Tryz.results87, h, h2]))
theorem specAllowsInline_ok [Tabs Tryz.prog] (p : DPolicy) (n : Str) : Ok Tryz.prog 74 [.agg (ePolicy .view p), .str n] (.bool (allowsInline p n)) := by
  obtain ⟨pis, psc, pst, pim, nc⟩ := p
  unfold allowsInline
  cases pis
  · refine ent Tryz.mix Tryz.func74 Tryz.ntmps74 ?_
    have W := trivial
    repeat' first|refine st ?_|(refine nx ?_;first|refine se ?_|refine so ?_)|(refine cx ?_;refine sc (fun hc=>?_) (fun hc=>?_)<;>try exact hc.elim)|(refine lx ?_;refine sp (fun hc=>?_) (fun hc=>?_)<;>try exact hc.elim)|refine sx ?_ ?_|refine sy ?_ ?_|fail
    all_goals (try (refine ⟨.inr rfl, ?_⟩; simp [Hands, Tryz.results74]))
  · by_cases h : nc = []
    · subst h
      refine ent Tryz.mix Tryz.func74 Tryz.ntmps74 ?_
      have W := trivial
      repeat' first|refine st ?_|(refine nx ?_;first|refine se ?_|refine so ?_)|(refine cx ?_;refine sc (fun hc=>?_) (fun hc=>?_)<;>try exact hc.elim)|(refine lx ?_;refine sp (fun hc=>?_) (fun hc=>?_)<;>try exact hc.elim)|refine sx ?_ ?_|refine sy ?_ ?_|fail
      all_goals (try (refine ⟨.inr rfl, ?_⟩; simp [Hands, Tryz.results74]))
    · have h2 : (nc != []) = true := by simpa using h
      refine ent Tryz.mix Tryz.func74 Tryz.ntmps74 ?_
      have W := And.intro h h2
      repeat' first|refine st ?_|(refine nx ?_;first|refine se ?_|refine so ?_)|(refine cx ?_;refine sc (fun hc=>?_) (fun hc=>?_)<;>try exact hc.elim)|(refine lx ?_;refine sp (fun hc=>?_) (fun hc=>?_)<;>try exact hc.elim)|refine sx ?_ ?_|refine sy ?_ ?_|fail
      all_goals (try (refine ⟨.inr rfl, ?_⟩; simp [Hands, Tryz.results74, h, h2]))
def askTok (p : DPage) (t : DToken) (n : Int) : DPage :=
  if t.name = sLink ∧ (findAttr t.attrs sHref).2 = true then (addSlot p 2 (findAttr t.attrs sHref).1 (findAttr t.attrs sDigest).1 n).1
  else if t.name = sImg ∧ (findAttr t.attrs sSrc).2 = true then (addSlot p 1 (findAttr t.attrs sSrc).1 (findAttr t.attrs sDigest).1 n).1 else p
theorem implAskFor_ok [Tabs Tryz.prog] (p : DPage) (t : DToken) (n : Int) (hs : szPage p ≤ 274877906944) (ht : szToken t ≤ 274877906944) : OkG Tryz.prog 36 [.give (.agg (ePage .own p)), .view (.agg (eToken .view t)), .view (.int .i64 n)] (.agg (ePage .own (askTok p t n))) := by
  obtain ⟨tk, tn, ta, tx⟩ := t
  have hta : ta.length + sumN szAttr ta ≤ 274877906944 := by simp only [szToken, szL] at ht; omega
  have z1 := findAttr_sz ta sDigest
  have z2 := findAttr_sz ta sHref
  have z3 := findAttr_sz ta sSrc
  have c1 := implFindAttr_ok ta sDigest (by omega)
  have c2 := implFindAttr_ok ta sHref (by omega)
  have c3 := implFindAttr_ok ta sSrc (by omega)
  have a2 := implAddSlot_ok p 2 (findAttr ta sHref).1 (findAttr ta sDigest).1 n hs (by omega) (by omega)
  have a1 := implAddSlot_ok p 1 (findAttr ta sSrc).1 (findAttr ta sDigest).1 n hs (by omega) (by omega)
  simp only [askTok]
  generalize addSlot p 2 (findAttr ta sHref).1 (findAttr ta sDigest).1 n = g2 at *
  generalize addSlot p 1 (findAttr ta sSrc).1 (findAttr ta sDigest).1 n = g1 at *
  simp only [ePage] at a1 a2
  clear z1 z2 z3
  generalize findAttr ta sDigest = fd at *
  generalize findAttr ta sHref = fh at *
  generalize findAttr ta sSrc = fs at *
  obtain ⟨dv, db⟩ := fd
  obtain ⟨hv, hb⟩ := fh
  obtain ⟨sv, sb⟩ := fs
  simp only [sDigest] at c1
  simp only [sHref] at c2
  simp only [sSrc] at c3
  by_cases h1 : tn = sLink
  · have h2 : ¬ tn = sImg := by rw [h1]; decide
    subst h1
    cases hb
    · rw [if_neg (by rintro ⟨_, h⟩; cases h), if_neg (by rintro ⟨h, _⟩; exact h2 h)]
      simp only [sLink]
      refine entG Tryz.mix Tryz.func36 Tryz.ntmps36 ?_
      have W := trivial
      repeat' first|refine st ?_|(refine nx ?_;first|refine se ?_|refine so ?_)|(refine cx ?_;refine sc (fun hc=>?_) (fun hc=>?_)<;>try exact hc.elim)|(refine lx ?_;refine sp (fun hc=>?_) (fun hc=>?_)<;>try exact hc.elim)|refine sx ?_ ?_|refine sy ?_ ?_|fail
      all_goals (try (refine ⟨by first | exact .inr rfl | exact .inl rfl, ?_⟩; simp [HandsG, lendOut, lendUse, rowOf, Tryz.results36]))
    · rw [if_pos ⟨rfl, rfl⟩]
      simp only [sLink]
      refine entG Tryz.mix Tryz.func36 Tryz.ntmps36 ?_
      have W := trivial
      repeat' first|refine st ?_|(refine nx ?_;first|refine se ?_|refine so ?_)|(refine cx ?_;refine sc (fun hc=>?_) (fun hc=>?_)<;>try exact hc.elim)|(refine lx ?_;refine sp (fun hc=>?_) (fun hc=>?_)<;>try exact hc.elim)|refine sx ?_ ?_|refine sy ?_ ?_|fail
      all_goals (try (refine ⟨by first | exact .inr rfl | exact .inl rfl, ?_⟩; simp [HandsG, lendOut, lendUse, rowOf, Tryz.results36]))
  · rw [if_neg (by rintro ⟨h, _⟩; exact h1 h)]
    have h1b : (tn == [108, 105, 110, 107]) = false := by simpa [sLink] using h1
    by_cases h2 : tn = sImg
    · subst h2
      cases sb
      · rw [if_neg (by rintro ⟨_, h⟩; cases h)]
        simp only [sImg]
        refine entG Tryz.mix Tryz.func36 Tryz.ntmps36 ?_
        have W := trivial
        repeat' first|refine st ?_|(refine nx ?_;first|refine se ?_|refine so ?_)|(refine cx ?_;refine sc (fun hc=>?_) (fun hc=>?_)<;>try exact hc.elim)|(refine lx ?_;refine sp (fun hc=>?_) (fun hc=>?_)<;>try exact hc.elim)|refine sx ?_ ?_|refine sy ?_ ?_|fail
        all_goals (try (refine ⟨by first | exact .inr rfl | exact .inl rfl, ?_⟩; simp [HandsG, lendOut, lendUse, rowOf, Tryz.results36]))
      · rw [if_pos ⟨rfl, rfl⟩]
        simp only [sImg]
        refine entG Tryz.mix Tryz.func36 Tryz.ntmps36 ?_
        have W := trivial
        repeat' first|refine st ?_|(refine nx ?_;first|refine se ?_|refine so ?_)|(refine cx ?_;refine sc (fun hc=>?_) (fun hc=>?_)<;>try exact hc.elim)|(refine lx ?_;refine sp (fun hc=>?_) (fun hc=>?_)<;>try exact hc.elim)|refine sx ?_ ?_|refine sy ?_ ?_|fail
        all_goals (try (refine ⟨by first | exact .inr rfl | exact .inl rfl, ?_⟩; simp [HandsG, lendOut, lendUse, rowOf, Tryz.results36]))
    · have h2b : (tn == [105, 109, 103]) = false := by simpa [sImg] using h2
      rw [if_neg (by rintro ⟨h, _⟩; exact h2 h)]
      refine entG Tryz.mix Tryz.func36 Tryz.ntmps36 ?_
      have W := And.intro h1b h2b
      repeat' first|refine st ?_|(refine nx ?_;first|refine se ?_|refine so ?_)|(refine cx ?_;refine sc (fun hc=>?_) (fun hc=>?_)<;>try exact hc.elim)|(refine lx ?_;refine sp (fun hc=>?_) (fun hc=>?_)<;>try exact hc.elim)|refine sx ?_ ?_|refine sy ?_ ?_|fail
      all_goals (try (refine ⟨by first | exact .inr rfl | exact .inl rfl, ?_⟩; simp [HandsG, lendOut, lendUse, rowOf, Tryz.results36]))
theorem specElement_ok [Tabs Tryz.prog] (p : DPage) (t : DToken) (n : Int) (hs : szPage p ≤ 274877906944) (ht : szToken t ≤ 274877906944) : OkG Tryz.prog 22 [.give (.agg (ePage .own p)), .view (.agg (eToken .view t)), .view (.int .i64 n)] (.agg (ePage .own (askTok p t n))) := by
  obtain ⟨tk, tn, ta, tx⟩ := t
  have hta : ta.length + sumN szAttr ta ≤ 274877906944 := by simp only [szToken, szL] at ht; omega
  have z1 := findAttr_sz ta sDigest
  have z2 := findAttr_sz ta sHref
  have z3 := findAttr_sz ta sSrc
  have c1 := specFindAttr_ok ta sDigest (by omega)
  have c2 := specFindAttr_ok ta sHref (by omega)
  have c3 := specFindAttr_ok ta sSrc (by omega)
  have a2 := specAddSlot_ok p 2 (findAttr ta sHref).1 (findAttr ta sDigest).1 n hs (by omega) (by omega)
  have a1 := specAddSlot_ok p 1 (findAttr ta sSrc).1 (findAttr ta sDigest).1 n hs (by omega) (by omega)
  simp only [askTok]
  generalize addSlot p 2 (findAttr ta sHref).1 (findAttr ta sDigest).1 n = g2 at *
  generalize addSlot p 1 (findAttr ta sSrc).1 (findAttr ta sDigest).1 n = g1 at *
  simp only [ePage] at a1 a2
  clear z1 z2 z3
  generalize findAttr ta sDigest = fd at *
  generalize findAttr ta sHref = fh at *
  generalize findAttr ta sSrc = fs at *
  obtain ⟨dv, db⟩ := fd
  obtain ⟨hv, hb⟩ := fh
  obtain ⟨sv, sb⟩ := fs
  simp only [sDigest] at c1
  simp only [sHref] at c2
  simp only [sSrc] at c3
  by_cases h1 : tn = sLink
  · have h2 : ¬ tn = sImg := by rw [h1]; decide
    subst h1
    cases hb
    · rw [if_neg (by rintro ⟨_, h⟩; cases h), if_neg (by rintro ⟨h, _⟩; exact h2 h)]
      simp only [sLink]
      cases sb
      · refine entG Tryz.mix Tryz.func22 Tryz.ntmps22 ?_
        have W := trivial
        repeat' first|refine st ?_|(refine nx ?_;first|refine se ?_|refine so ?_)|(refine cx ?_;refine sc (fun hc=>?_) (fun hc=>?_)<;>try exact hc.elim)|(refine lx ?_;refine sp (fun hc=>?_) (fun hc=>?_)<;>try exact hc.elim)|refine sx ?_ ?_|refine sy ?_ ?_|fail
        all_goals (try (refine ⟨by first | exact .inr rfl | exact .inl rfl, ?_⟩; simp [HandsG, lendOut, lendUse, rowOf, Tryz.results22]))
      · refine entG Tryz.mix Tryz.func22 Tryz.ntmps22 ?_
        have W := trivial
        repeat' first|refine st ?_|(refine nx ?_;first|refine se ?_|refine so ?_)|(refine cx ?_;refine sc (fun hc=>?_) (fun hc=>?_)<;>try exact hc.elim)|(refine lx ?_;refine sp (fun hc=>?_) (fun hc=>?_)<;>try exact hc.elim)|refine sx ?_ ?_|refine sy ?_ ?_|fail
        all_goals (try (refine ⟨by first | exact .inr rfl | exact .inl rfl, ?_⟩; simp [HandsG, lendOut, lendUse, rowOf, Tryz.results22]))
    · rw [if_pos ⟨rfl, rfl⟩]
      simp only [sLink]
      cases sb
      · refine entG Tryz.mix Tryz.func22 Tryz.ntmps22 ?_
        have W := trivial
        repeat' first|refine st ?_|(refine nx ?_;first|refine se ?_|refine so ?_)|(refine cx ?_;refine sc (fun hc=>?_) (fun hc=>?_)<;>try exact hc.elim)|(refine lx ?_;refine sp (fun hc=>?_) (fun hc=>?_)<;>try exact hc.elim)|refine sx ?_ ?_|refine sy ?_ ?_|fail
        all_goals (try (refine ⟨by first | exact .inr rfl | exact .inl rfl, ?_⟩; simp [HandsG, lendOut, lendUse, rowOf, Tryz.results22]))
      · refine entG Tryz.mix Tryz.func22 Tryz.ntmps22 ?_
        have W := trivial
        repeat' first|refine st ?_|(refine nx ?_;first|refine se ?_|refine so ?_)|(refine cx ?_;refine sc (fun hc=>?_) (fun hc=>?_)<;>try exact hc.elim)|(refine lx ?_;refine sp (fun hc=>?_) (fun hc=>?_)<;>try exact hc.elim)|refine sx ?_ ?_|refine sy ?_ ?_|fail
        all_goals (try (refine ⟨by first | exact .inr rfl | exact .inl rfl, ?_⟩; simp [HandsG, lendOut, lendUse, rowOf, Tryz.results22]))
  · rw [if_neg (by rintro ⟨h, _⟩; exact h1 h)]
    have h1b : (tn == [108, 105, 110, 107]) = false := by simpa [sLink] using h1
    by_cases h2 : tn = sImg
    · subst h2
      simp only [sImg] at h1b
      cases sb
      · rw [if_neg (by rintro ⟨_, h⟩; cases h)]
        simp only [sImg]
        cases hb
        · refine entG Tryz.mix Tryz.func22 Tryz.ntmps22 ?_
          have W := trivial
          repeat' first|refine st ?_|(refine nx ?_;first|refine se ?_|refine so ?_)|(refine cx ?_;refine sc (fun hc=>?_) (fun hc=>?_)<;>try exact hc.elim)|(refine lx ?_;refine sp (fun hc=>?_) (fun hc=>?_)<;>try exact hc.elim)|refine sx ?_ ?_|refine sy ?_ ?_|fail
          all_goals (try (refine ⟨by first | exact .inr rfl | exact .inl rfl, ?_⟩; simp [HandsG, lendOut, lendUse, rowOf, Tryz.results22]))
        · refine entG Tryz.mix Tryz.func22 Tryz.ntmps22 ?_
          have W := trivial
          repeat' first|refine st ?_|(refine nx ?_;first|refine se ?_|refine so ?_)|(refine cx ?_;refine sc (fun hc=>?_) (fun hc=>?_)<;>try exact hc.elim)|(refine lx ?_;refine sp (fun hc=>?_) (fun hc=>?_)<;>try exact hc.elim)|refine sx ?_ ?_|refine sy ?_ ?_|fail
          all_goals (try (refine ⟨by first | exact .inr rfl | exact .inl rfl, ?_⟩; simp [HandsG, lendOut, lendUse, rowOf, Tryz.results22]))
      · rw [if_pos ⟨rfl, rfl⟩]
        simp only [sImg]
        cases hb
        · refine entG Tryz.mix Tryz.func22 Tryz.ntmps22 ?_
          have W := trivial
          repeat' first|refine st ?_|(refine nx ?_;first|refine se ?_|refine so ?_)|(refine cx ?_;refine sc (fun hc=>?_) (fun hc=>?_)<;>try exact hc.elim)|(refine lx ?_;refine sp (fun hc=>?_) (fun hc=>?_)<;>try exact hc.elim)|refine sx ?_ ?_|refine sy ?_ ?_|fail
          all_goals (try (refine ⟨by first | exact .inr rfl | exact .inl rfl, ?_⟩; simp [HandsG, lendOut, lendUse, rowOf, Tryz.results22]))
        · refine entG Tryz.mix Tryz.func22 Tryz.ntmps22 ?_
          have W := trivial
          repeat' first|refine st ?_|(refine nx ?_;first|refine se ?_|refine so ?_)|(refine cx ?_;refine sc (fun hc=>?_) (fun hc=>?_)<;>try exact hc.elim)|(refine lx ?_;refine sp (fun hc=>?_) (fun hc=>?_)<;>try exact hc.elim)|refine sx ?_ ?_|refine sy ?_ ?_|fail
          all_goals (try (refine ⟨by first | exact .inr rfl | exact .inl rfl, ?_⟩; simp [HandsG, lendOut, lendUse, rowOf, Tryz.results22]))
    · have h2b : (tn == [105, 109, 103]) = false := by simpa [sImg] using h2
      rw [if_neg (by rintro ⟨h, _⟩; exact h2 h)]
      cases hb <;> cases sb
      · refine entG Tryz.mix Tryz.func22 Tryz.ntmps22 ?_
        have W := And.intro h1b h2b
        repeat' first|refine st ?_|(refine nx ?_;first|refine se ?_|refine so ?_)|(refine cx ?_;refine sc (fun hc=>?_) (fun hc=>?_)<;>try exact hc.elim)|(refine lx ?_;refine sp (fun hc=>?_) (fun hc=>?_)<;>try exact hc.elim)|refine sx ?_ ?_|refine sy ?_ ?_|fail
        all_goals (try (refine ⟨by first | exact .inr rfl | exact .inl rfl, ?_⟩; simp [HandsG, lendOut, lendUse, rowOf, Tryz.results22]))
      · refine entG Tryz.mix Tryz.func22 Tryz.ntmps22 ?_
        have W := And.intro h1b h2b
        repeat' first|refine st ?_|(refine nx ?_;first|refine se ?_|refine so ?_)|(refine cx ?_;refine sc (fun hc=>?_) (fun hc=>?_)<;>try exact hc.elim)|(refine lx ?_;refine sp (fun hc=>?_) (fun hc=>?_)<;>try exact hc.elim)|refine sx ?_ ?_|refine sy ?_ ?_|fail
        all_goals (try (refine ⟨by first | exact .inr rfl | exact .inl rfl, ?_⟩; simp [HandsG, lendOut, lendUse, rowOf, Tryz.results22]))
      · refine entG Tryz.mix Tryz.func22 Tryz.ntmps22 ?_
        have W := And.intro h1b h2b
        repeat' first|refine st ?_|(refine nx ?_;first|refine se ?_|refine so ?_)|(refine cx ?_;refine sc (fun hc=>?_) (fun hc=>?_)<;>try exact hc.elim)|(refine lx ?_;refine sp (fun hc=>?_) (fun hc=>?_)<;>try exact hc.elim)|refine sx ?_ ?_|refine sy ?_ ?_|fail
        all_goals (try (refine ⟨by first | exact .inr rfl | exact .inl rfl, ?_⟩; simp [HandsG, lendOut, lendUse, rowOf, Tryz.results22]))
      · refine entG Tryz.mix Tryz.func22 Tryz.ntmps22 ?_
        have W := And.intro h1b h2b
        repeat' first|refine st ?_|(refine nx ?_;first|refine se ?_|refine so ?_)|(refine cx ?_;refine sc (fun hc=>?_) (fun hc=>?_)<;>try exact hc.elim)|(refine lx ?_;refine sp (fun hc=>?_) (fun hc=>?_)<;>try exact hc.elim)|refine sx ?_ ?_|refine sy ?_ ?_|fail
        all_goals (try (refine ⟨by first | exact .inr rfl | exact .inl rfl, ?_⟩; simp [HandsG, lendOut, lendUse, rowOf, Tryz.results22]))
end Go.Proofs.YtonajehhfkkglabGreat
