/-
  Proved here: steps towards the statement of this claim, text B6.
  No condition beyond what each statement spells out.
-/
import Derived.Test.YtikabgfhklfjkaaGreatDoorB4
import Derived.Test.YtikabgfhklfjkaaGreatDoorB5
set_option linter.all false
set_option linter.unusedSimpArgs false
set_option linter.unusedVariables false
set_option maxRecDepth 4000
set_option maxHeartbeats 4000000
namespace Go.Proofs.YtikabgfhklfjkaaGreatDoor
open Go.Aw
theorem specLookUp_ok [Tabs Tryz.prog] (c : DCache) (top : Str) (a : DAddr) (now : Int) (hl : c.entries.length ≤ 1099511627776) : Ok Tryz.prog 202 [.agg (eCache .view c), .str top, .agg (eAddr a), .int .i64 now] (.tup [.agg (eResponse (lookUp c top a now).1), .bool (lookUp c top a now).2]) := by
  have c2 := specNotFound_ok
  simp only [eResponse] at c2
  unfold lookUp
  refine ent Tryz.mix Tryz.func202 Tryz.ntmps202 ?_
  have W := trivial
  repeat' first|refine st ?_|(refine nx ?_;first|refine se ?_|refine so ?_)|(refine cx ?_;refine sc (fun hc=>?_) (fun hc=>?_)<;>try exact hc.elim)|(refine lx ?_;refine sp (fun hc=>?_) (fun hc=>?_)<;>try exact hc.elim)|refine sx ?_ ?_|refine sy ?_ ?_|fail
  refine awp_loop' (ι := { k : Nat // k ≤ c.entries.length ∧ ∀ x ∈ c.entries.take k, entIs top a now x = false }) (fun t o i => ⟨upds t [(10, .int .i64 i.1)], o⟩)
    (fun i => c.entries.length - i.1) ⟨0, by simp, by simp⟩ (weak_o (by simp) (by simp)) ?_
  rintro ⟨k, hk, hi⟩ K1 hK1
  simp only [upds, List.set_cons_succ, List.set_cons_zero] at hK1 ⊢
  have hk1 : IntKind.i64.wrap ((k : Int) + 1) = ((k + 1 : Nat) : Int) := by rw [wrap64] <;> omega
  by_cases hlt : k < c.entries.length
  · have hg := List.getElem?_eq_getElem hlt
    have hnx : entIs top a now c.entries[k] = false → ∀ x ∈ c.entries.take (k + 1), entIs top a now x = false := fun h => take_succ_all hlt hi h
    have hfd : entIs top a now c.entries[k] = true → c.entries.find? (entIs top a now) = some c.entries[k] := fun h => find_at hlt h hi
    by_cases h1 : c.entries[k].top = top
    · have h1b : (c.entries[k].top == top) = true := by simp [h1]
      by_cases h2 : c.entries[k].to = a
      · by_cases h3 : now ≤ c.entries[k].til
        · rw [hfd (by simp [entIs, h1, h2, h3])]
          have W := And.intro hk1 (And.intro hg (And.intro hlt (And.intro h1b (And.intro h2 h3))))
          have c0 := eqAddrA a a
          repeat' first|refine st ?_|(refine nx ?_;first|refine se ?_|refine so ?_)|(refine cx ?_;refine sc (fun hc=>?_) (fun hc=>?_)<;>try exact hc.elim)|(refine lx ?_;refine sp (fun hc=>?_) (fun hc=>?_)<;>try exact hc.elim)|refine sx ?_ ?_|refine sy ?_ ?_|fail
          all_goals (try (refine ⟨.inr rfl, ?_⟩; simp [Hands, Tryz.results202]))
        · have hnx := hnx (by simp [entIs, h3])
          have W := And.intro hk1 (And.intro hg (And.intro hlt (And.intro h1b (And.intro h2 h3))))
          have c0 := eqAddrA a a
          repeat' first|refine st ?_|(refine nx ?_;first|refine se ?_|refine so ?_)|(refine cx ?_;refine sc (fun hc=>?_) (fun hc=>?_)<;>try exact hc.elim)|(refine lx ?_;refine sp (fun hc=>?_) (fun hc=>?_)<;>try exact hc.elim)|refine sx ?_ ?_|refine sy ?_ ?_|fail
          exact hK1 _ ⟨k + 1, by omega, hnx⟩ (weak_o (by simp) (by simp)) (by simp only; omega)
      · have hnx := hnx (by simp [entIs, h2])
        have W := And.intro hk1 (And.intro hg (And.intro hlt (And.intro h1b h2)))
        have c0 := eqAddrA c.entries[k].to a
        repeat' first|refine st ?_|(refine nx ?_;first|refine se ?_|refine so ?_)|(refine cx ?_;refine sc (fun hc=>?_) (fun hc=>?_)<;>try exact hc.elim)|(refine lx ?_;refine sp (fun hc=>?_) (fun hc=>?_)<;>try exact hc.elim)|refine sx ?_ ?_|refine sy ?_ ?_|fail
        exact hK1 _ ⟨k + 1, by omega, hnx⟩ (weak_o (by simp) (by simp)) (by simp only; omega)
    · have h1b : (c.entries[k].top == top) = false := by simp [h1]
      have hnx := hnx (by simp [entIs, h1b])
      have W := And.intro hk1 (And.intro hg (And.intro hlt h1b))
      repeat' first|refine st ?_|(refine nx ?_;first|refine se ?_|refine so ?_)|(refine cx ?_;refine sc (fun hc=>?_) (fun hc=>?_)<;>try exact hc.elim)|(refine lx ?_;refine sp (fun hc=>?_) (fun hc=>?_)<;>try exact hc.elim)|refine sx ?_ ?_|refine sy ?_ ?_|fail
      exact hK1 _ ⟨k + 1, by omega, hnx⟩ (weak_o (by simp) (by simp)) (by simp only; omega)
  · rw [find_no (take_all (by omega) hi)]
    have W := hk1
    repeat' first|refine st ?_|(refine nx ?_;first|refine se ?_|refine so ?_)|(refine cx ?_;refine sc (fun hc=>?_) (fun hc=>?_)<;>try exact hc.elim)|(refine lx ?_;refine sp (fun hc=>?_) (fun hc=>?_)<;>try exact hc.elim)|refine sx ?_ ?_|refine sy ?_ ?_|fail
    all_goals (try (refine ⟨.inr rfl, ?_⟩; simp [Hands, Tryz.results202]))
theorem l12Server_ok [Tabs Tryz.prog] (l : List DServer) (h : Str) (hl : l.length ≤ 1099511627776) : Ok Tryz.prog 270 [.sl .view 2 (l.map (eServer .view)), .str h] (.int .i64 (idxI (srvIs h) l)) := by
  refine ent Tryz.mix Tryz.func270 Tryz.ntmps270 ?_
  have W := trivial
  repeat' first|refine st ?_|(refine nx ?_;first|refine se ?_|refine so ?_)|(refine cx ?_;refine sc (fun hc=>?_) (fun hc=>?_)<;>try exact hc.elim)|(refine lx ?_;refine sp (fun hc=>?_) (fun hc=>?_)<;>try exact hc.elim)|refine sx ?_ ?_|refine sy ?_ ?_|fail
  refine awp_loop' (ι := { k : Nat // k ≤ l.length ∧ ∀ x ∈ l.take k, srvIs h x = false }) (fun t o i => ⟨upds t [(5, .int .i64 i.1)], o⟩)
    (fun i => l.length - i.1) ⟨0, by simp, by simp⟩ (weak_o (by simp) (by simp)) ?_
  rintro ⟨k, hk, hi⟩ K1 hK1
  simp only [upds, List.set_cons_succ, List.set_cons_zero] at hK1 ⊢
  have hk1 : IntKind.i64.wrap ((k : Int) + 1) = ((k + 1 : Nat) : Int) := by rw [wrap64] <;> omega
  by_cases hlt : k < l.length
  · have hg := List.getElem?_eq_getElem hlt
    by_cases hb : l[k].host = h
    · have hbb : (l[k].host == h) = true := by simp [hb]
      rw [idxI_at hlt (by simpa [srvIs] using hb) hi]
      have W := And.intro hk1 (And.intro hg (And.intro hlt hbb))
      repeat' first|refine st ?_|(refine nx ?_;first|refine se ?_|refine so ?_)|(refine cx ?_;refine sc (fun hc=>?_) (fun hc=>?_)<;>try exact hc.elim)|(refine lx ?_;refine sp (fun hc=>?_) (fun hc=>?_)<;>try exact hc.elim)|refine sx ?_ ?_|refine sy ?_ ?_|fail
      all_goals (try (refine ⟨.inr rfl, ?_⟩; simp [Hands, Tryz.results270]))
    · have hbb : (l[k].host == h) = false := by simp [hb]
      have hnx : ∀ x ∈ l.take (k + 1), srvIs h x = false := take_succ_all hlt hi (by simpa [srvIs] using hb)
      have W := And.intro hk1 (And.intro hg (And.intro hlt hbb))
      repeat' first|refine st ?_|(refine nx ?_;first|refine se ?_|refine so ?_)|(refine cx ?_;refine sc (fun hc=>?_) (fun hc=>?_)<;>try exact hc.elim)|(refine lx ?_;refine sp (fun hc=>?_) (fun hc=>?_)<;>try exact hc.elim)|refine sx ?_ ?_|refine sy ?_ ?_|fail
      exact hK1 _ ⟨k + 1, by omega, hnx⟩ (weak_o (by simp) (by simp)) (by simp only; omega)
  · rw [idxI_none (take_all (by omega) hi)]
    have W := hk1
    repeat' first|refine st ?_|(refine nx ?_;first|refine se ?_|refine so ?_)|(refine cx ?_;refine sc (fun hc=>?_) (fun hc=>?_)<;>try exact hc.elim)|(refine lx ?_;refine sp (fun hc=>?_) (fun hc=>?_)<;>try exact hc.elim)|refine sx ?_ ?_|refine sy ?_ ?_|fail
    all_goals (try (refine ⟨.inr rfl, ?_⟩; simp [Hands, Tryz.results270]))
theorem l12File_ok [Tabs Tryz.prog] (s : DServer) (h : Str) (hl : s.files.length ≤ 1099511627776) : Ok Tryz.prog 271 [.agg (eServer .view s), .str h] (.int .i64 (idxI (filIs h) s.files)) := by
  refine ent Tryz.mix Tryz.func271 Tryz.ntmps271 ?_
  have W := trivial
  repeat' first|refine st ?_|(refine nx ?_;first|refine se ?_|refine so ?_)|(refine cx ?_;refine sc (fun hc=>?_) (fun hc=>?_)<;>try exact hc.elim)|(refine lx ?_;refine sp (fun hc=>?_) (fun hc=>?_)<;>try exact hc.elim)|refine sx ?_ ?_|refine sy ?_ ?_|fail
  refine awp_loop' (ι := { k : Nat // k ≤ s.files.length ∧ ∀ x ∈ s.files.take k, filIs h x = false }) (fun t o i => ⟨upds t [(5, .int .i64 i.1)], o⟩)
    (fun i => s.files.length - i.1) ⟨0, by simp, by simp⟩ (weak_o (by simp) (by simp)) ?_
  rintro ⟨k, hk, hi⟩ K1 hK1
  simp only [upds, List.set_cons_succ, List.set_cons_zero] at hK1 ⊢
  have hk1 : IntKind.i64.wrap ((k : Int) + 1) = ((k + 1 : Nat) : Int) := by rw [wrap64] <;> omega
  by_cases hlt : k < s.files.length
  · have hg := List.getElem?_eq_getElem hlt
    by_cases hb : s.files[k].path = h
    · have hbb : (s.files[k].path == h) = true := by simp [hb]
      rw [idxI_at hlt (by simpa [filIs] using hb) hi]
      have W := And.intro hk1 (And.intro hg (And.intro hlt hbb))
      repeat' first|refine st ?_|(refine nx ?_;first|refine se ?_|refine so ?_)|(refine cx ?_;refine sc (fun hc=>?_) (fun hc=>?_)<;>try exact hc.elim)|(refine lx ?_;refine sp (fun hc=>?_) (fun hc=>?_)<;>try exact hc.elim)|refine sx ?_ ?_|refine sy ?_ ?_|fail
      all_goals (try (refine ⟨.inr rfl, ?_⟩; simp [Hands, Tryz.results271]))
    · have hbb : (s.files[k].path == h) = false := by simp [hb]
      have hnx : ∀ x ∈ s.files.take (k + 1), filIs h x = false := take_succ_all hlt hi (by simpa [filIs] using hb)
      have W := And.intro hk1 (And.intro hg (And.intro hlt hbb))
      repeat' first|refine st ?_|(refine nx ?_;first|refine se ?_|refine so ?_)|(refine cx ?_;refine sc (fun hc=>?_) (fun hc=>?_)<;>try exact hc.elim)|(refine lx ?_;refine sp (fun hc=>?_) (fun hc=>?_)<;>try exact hc.elim)|refine sx ?_ ?_|refine sy ?_ ?_|fail
      exact hK1 _ ⟨k + 1, by omega, hnx⟩ (weak_o (by simp) (by simp)) (by simp only; omega)
  · rw [idxI_none (take_all (by omega) hi)]
    have W := hk1
    repeat' first|refine st ?_|(refine nx ?_;first|refine se ?_|refine so ?_)|(refine cx ?_;refine sc (fun hc=>?_) (fun hc=>?_)<;>try exact hc.elim)|(refine lx ?_;refine sp (fun hc=>?_) (fun hc=>?_)<;>try exact hc.elim)|refine sx ?_ ?_|refine sy ?_ ?_|fail
    all_goals (try (refine ⟨.inr rfl, ?_⟩; simp [Hands, Tryz.results271]))
theorem specAnswerTo_ok [Tabs Tryz.prog] (l : List DServer) (a : DAddr) (hs : szL szServer l ≤ 1099511627776) : Ok Tryz.prog 203 [.sl .view 2 (l.map (eServer .view)), .agg (eAddr a)] (.agg (eResponse (answerTo l a))) := by
  simp only [szL] at hs
  have c1 := l12Server_ok l a.host (by omega)
  have c2 := specNotFound_ok
  simp only [eResponse] at c2
  unfold answerTo
  rcases idx_find (srvIs a.host) l with ⟨h1, h2⟩ | ⟨k, hk, h1, h2⟩
  · rw [h1] at c1
    rw [h2]
    refine ent Tryz.mix Tryz.func203 Tryz.ntmps203 ?_
    have W := trivial
    repeat' first|refine st ?_|(refine nx ?_;first|refine se ?_|refine so ?_)|(refine cx ?_;refine sc (fun hc=>?_) (fun hc=>?_)<;>try exact hc.elim)|(refine lx ?_;refine sp (fun hc=>?_) (fun hc=>?_)<;>try exact hc.elim)|refine sx ?_ ?_|refine sy ?_ ?_|fail
    all_goals (try (refine ⟨.inr rfl, ?_⟩; simp [Hands, Tryz.results203]))
  · rw [h1] at c1
    rw [h2]
    have hg := List.getElem?_eq_getElem hk
    have hn : ¬ ((k : Int) < 0) := by omega
    have hz := sumN_get_le szServer l k hk
    simp only [szServer, szL] at hz
    have c3 := l12File_ok l[k] a.path (by omega)
    simp only [eServer] at c3
    simp only
    rcases idx_find (filIs a.path) l[k].files with ⟨h3, h4⟩ | ⟨j, hj, h3, h4⟩
    · rw [h3] at c3
      rw [h4]
      refine ent Tryz.mix Tryz.func203 Tryz.ntmps203 ?_
      have W := And.intro hg (And.intro hk hn)
      repeat' first|refine st ?_|(refine nx ?_;first|refine se ?_|refine so ?_)|(refine cx ?_;refine sc (fun hc=>?_) (fun hc=>?_)<;>try exact hc.elim)|(refine lx ?_;refine sp (fun hc=>?_) (fun hc=>?_)<;>try exact hc.elim)|refine sx ?_ ?_|refine sy ?_ ?_|fail
      all_goals (try (refine ⟨.inr rfl, ?_⟩; simp [Hands, Tryz.results203]))
    · rw [h3] at c3
      rw [h4]
      have hg2 := List.getElem?_eq_getElem hj
      have hn2 : ¬ ((j : Int) < 0) := by omega
      refine ent Tryz.mix Tryz.func203 Tryz.ntmps203 ?_
      have W := And.intro hg (And.intro hk (And.intro hn (And.intro hg2 (And.intro hj hn2))))
      repeat' first|refine st ?_|(refine nx ?_;first|refine se ?_|refine so ?_)|(refine cx ?_;refine sc (fun hc=>?_) (fun hc=>?_)<;>try exact hc.elim)|(refine lx ?_;refine sp (fun hc=>?_) (fun hc=>?_)<;>try exact hc.elim)|refine sx ?_ ?_|refine sy ?_ ?_|fail
      all_goals (try (refine ⟨.inr rfl, ?_⟩; simp [Hands, Tryz.results203]))
/-- What a guess is answered. -/
def respondTo (n : DNet) (top : Str) (a : DAddr) : DResponse :=
  if isAddr a = false then notFound else if (lookUp n.cache top a n.now).2 = true then (lookUp n.cache top a n.now).1 else answerTo n.servers a
end Go.Proofs.YtikabgfhklfjkaaGreatDoor
