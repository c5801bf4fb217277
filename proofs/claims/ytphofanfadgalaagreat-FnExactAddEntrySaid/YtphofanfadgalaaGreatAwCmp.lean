/-
  Proved here: steps towards the statement of this claim, text AwCmp.
  No condition beyond what each statement spells out.
-/
import Derived.Test.YtphofanfadgalaaGreatF4
set_option linter.all false
set_option linter.unusedVariables false
set_option linter.unusedSimpArgs false
namespace Go.Aw
theorem cmp_val : ∀ a b : List UInt8, Lib.compareBytes a b = if a = b then 0 else if Op.bytesLess a b = true then -1 else 1
  | [], [] => rfl
  | [], _ :: _ => by simp [Lib.compareBytes, Op.bytesLess]
  | _ :: _, [] => by simp [Lib.compareBytes, Op.bytesLess]
  | x :: xs, y :: ys => by
    have ih := cmp_val xs ys
    simp only [Lib.compareBytes, Op.bytesLess]
    by_cases h : x < y
    · have hne : x ≠ y := UInt8.ne_of_lt h
      simp [h, hne]
    · by_cases h2 : y < x
      · have hne : x ≠ y := (UInt8.ne_of_lt h2).symm
        simp [h, h2, hne]
      · have he : x = y := UInt8.le_antisymm (UInt8.not_lt.1 h2) (UInt8.not_lt.1 h)
        subst he
        simp [h, ih]
theorem cmp_zero (a b : List UInt8) : Lib.compareBytes a b = 0 ↔ a = b := by
  rw [cmp_val]
  split
  · simp_all
  · split <;> simp_all
theorem okN_compare {P : Program} [Tabs P] {f : FuncId} {fn : Func} (hf : P.funcs[f]? = some fn) (hname : (fn.name == "runtime.NumGoroutine") = false)
    (hb : fn.body.isNone = true) (hn : Extern.findNext fn = none) (he : Extern.find fn = some Extern.BytealgCompare.compare) (s t : Str) :
    OkN P f [.str s, .str t] (.int .i64 (Lib.compareBytes s t)) := by
  intro w vs h
  obtain ⟨v1, h⟩ : ∃ v : Value, vs = [.string ⟨s.toArray⟩, .string ⟨t.toArray⟩] := by
    cases vs with
    | nil => simp [Rc] at h
    | cons a vs => cases vs with
      | nil => simp [Rc] at h
      | cons b vs => cases vs with
        | nil =>
          simp only [Rc, R] at h
          obtain ⟨f1, f2, h1, h2, h3⟩ := h
          obtain ⟨f3, f4, h4, h5, h6⟩ := h2
          exact ⟨a, by rw [h1.1, h4.1]⟩
        | cons d vs =>
          simp only [Rc, R] at h
          obtain ⟨f1, f2, h1, h2, h3⟩ := h
          obtain ⟨f3, f4, h4, h5, h6⟩ := h2
          simp [Rc] at h5
  subst h
  refine ⟨.int .i64 (Lib.compareBytes s t), w, ?_, rfl, Same.rfl, fun _ _ => by simp [R]⟩
  rw [run_callFunc_extern hf hname hb hn he, show [Value.string ⟨s.toArray⟩, Value.string ⟨t.toArray⟩].toArray = #[Value.string ⟨s.toArray⟩, Value.string ⟨t.toArray⟩] from rfl, Go.Lib.run_compareString]
  rfl
end Go.Aw
