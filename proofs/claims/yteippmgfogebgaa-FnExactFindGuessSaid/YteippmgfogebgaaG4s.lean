/-
  Proved here: what an argument of this claim's law reads as.
  No condition beyond what each statement spells out.
-/
import Derived.Test.YteippmgfogebgaaG3
import Derived.Test.YteippmgfogebgaaAwRow
import Derived.Test.YteippmgfogebgaaRows
set_option linter.unusedSimpArgs false
set_option linter.unusedVariables false
namespace Go.Proofs.Yteippmgfogebgaa
open Go.Aw

@[simp] def shA : List Sh := [.str, .str]
@[simp] def shR : List Sh := [.int .i64, .int .i64, .str, .int .i64, .bool, .str]
@[simp] def shG : List Sh := [.str, .str, .int .i64, .int .i64, .str, .int .i64, .bool, .str, .bool]
theorem fits_guess (r : List AV) (h : FitsC shG r) : ∃ g, r = eGuess g ∧ wfG g := by
  obtain ⟨a, r, rfl, ha, h⟩ := fits_str h
  obtain ⟨b, r, rfl, hb, h⟩ := fits_str h
  obtain ⟨c, r, rfl, hc, h⟩ := fits_int h
  obtain ⟨d, r, rfl, hd, h⟩ := fits_int h
  obtain ⟨e, r, rfl, he, h⟩ := fits_str h
  obtain ⟨f, r, rfl, hf, h⟩ := fits_int h
  obtain ⟨g, r, rfl, h1⟩ := fits_bool h
  obtain ⟨i, r, rfl, hi, h2⟩ := fits_str h1
  obtain ⟨j, r, rfl, h3⟩ := fits_bool h2
  obtain rfl := fits_nil h3
  exact ⟨⟨⟨a, b⟩, ⟨c, d, e, f, g, i⟩, j⟩, rfl, ⟨ha, hb⟩, ⟨he, hi⟩⟩
theorem fits_guesses {x : AV} (h : FitsC [.sl 9 shG] [x]) : ∃ l : List DGuess, x = .sl .view 9 (l.map eGuess) ∧ l.length ≤ 9223372036854775807 ∧ ∀ g ∈ l, wfG g := by
  obtain ⟨rows, r, e, hl, hr, _⟩ := fits_sl h
  obtain ⟨rfl, rfl⟩ := List.cons.inj e
  obtain ⟨l, rfl, hp⟩ := fits_map fits_guess rows hr
  exact ⟨l, rfl, by simpa using hl, hp⟩

end Go.Proofs.Yteippmgfogebgaa
