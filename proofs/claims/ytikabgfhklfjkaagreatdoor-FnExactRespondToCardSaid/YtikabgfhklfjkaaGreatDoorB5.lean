/-
  Proved here: steps towards the statement of this claim, text B5.
  No condition beyond what each statement spells out.
-/
import Derived.Test.YtikabgfhklfjkaaGreatDoorU8
import Derived.Test.YtikabgfhklfjkaaGreatDoorR3
import Derived.Test.YtikabgfhklfjkaaGreatDoorQ2
import Derived.Test.YtikabgfhklfjkaaGreatDoorF6
set_option linter.all false
set_option linter.unusedSimpArgs false
set_option linter.unusedVariables false
set_option maxRecDepth 4000
set_option maxHeartbeats 4000000
namespace Go.Proofs.YtikabgfhklfjkaaGreatDoor
open Go.Aw
def notFound : DResponse := ⟨404, 1, [], 0, false, []⟩
theorem implNotFound_ok [Tabs Tryz.prog] : Ok Tryz.prog 209 [] (.agg (eResponse notFound)) := by
  refine ent Tryz.mix Tryz.func209 Tryz.ntmps209 ?_
  have W := trivial
  repeat' first|refine st ?_|(refine nx ?_;first|refine se ?_|refine so ?_)|(refine cx ?_;refine sc (fun hc=>?_) (fun hc=>?_)<;>try exact hc.elim)|(refine lx ?_;refine sp (fun hc=>?_) (fun hc=>?_)<;>try exact hc.elim)|refine sx ?_ ?_|refine sy ?_ ?_|fail
  all_goals (try (refine ⟨.inr rfl, ?_⟩; simp [Hands, Tryz.results209, notFound]))
theorem specNotFound_ok [Tabs Tryz.prog] : Ok Tryz.prog 201 [] (.agg (eResponse notFound)) := by
  refine ent Tryz.mix Tryz.func201 Tryz.ntmps201 ?_
  have W := trivial
  repeat' first|refine st ?_|(refine nx ?_;first|refine se ?_|refine so ?_)|(refine cx ?_;refine sc (fun hc=>?_) (fun hc=>?_)<;>try exact hc.elim)|(refine lx ?_;refine sp (fun hc=>?_) (fun hc=>?_)<;>try exact hc.elim)|refine sx ?_ ?_|refine sy ?_ ?_|fail
  all_goals (try (refine ⟨.inr rfl, ?_⟩; simp [Hands, Tryz.results201, notFound]))
def entIs (top : Str) (a : DAddr) (now : Int) (e : DEntry) : Bool := (e.top == top && decide (e.to = a)) && decide (now ≤ e.til)
def srvIs (h : Str) (s : DServer) : Bool := s.host == h
def filIs (h : Str) (s : DFile) : Bool := s.path == h
def lookUp (c : DCache) (top : Str) (a : DAddr) (now : Int) : DResponse × Bool :=
  match c.entries.find? (entIs top a now) with
  | some e => (e.response, true)
  | none => (notFound, false)
def answerTo (l : List DServer) (a : DAddr) : DResponse :=
  match l.find? (srvIs a.host) with
  | some s => match s.files.find? (filIs a.path) with
    | some f => f.response
    | none => notFound
  | none => notFound
theorem find_at {α : Type} {f : α → Bool} {l : List α} {k : Nat} (h : k < l.length) (hf : f l[k] = true) (hn : ∀ x ∈ l.take k, f x = false) : l.find? f = some l[k] := by
  have e : l = l.take k ++ l[k] :: l.drop (k + 1) := by simp
  have h5 := congrArg (List.find? f) e
  rw [h5, List.find?_append]
  have : (l.take k).find? f = none := List.find?_eq_none.2 fun x hx => by simp [hn x hx]
  rw [this]
  simp only [Option.none_or, List.find?_cons, hf]
theorem find_no {α : Type} {f : α → Bool} {l : List α} (hn : ∀ x ∈ l, f x = false) : l.find? f = none := List.find?_eq_none.2 fun x hx => by simp [hn x hx]
theorem first_at {α : Type} {f : α → Bool} : ∀ l : List α, ¬ (∀ x ∈ l, f x = false) → ∃ k, ∃ hk : k < l.length, f l[k] = true ∧ ∀ x ∈ l.take k, f x = false
  | [], h => absurd (fun x hx => by cases hx) h
  | x :: l, h => by
    cases hx : f x with
    | true => exact ⟨0, by simp, by simpa using hx, by simp⟩
    | false =>
      obtain ⟨k, hk, h1, h2⟩ := first_at l (fun hl => h (fun y hy => by
        rcases List.mem_cons.1 hy with rfl | hy
        · exact hx
        · exact hl y hy))
      refine ⟨k + 1, by simpa using hk, by simpa using h1, fun y hy => ?_⟩
      simp only [List.take_succ_cons, List.mem_cons] at hy
      rcases hy with rfl | hy
      · exact hx
      · exact h2 y hy
/-- The first place, or -1. -/
theorem idx_find {α : Type} (f : α → Bool) (l : List α) : (idxI f l = -1 ∧ l.find? f = none) ∨ ∃ k, ∃ h : k < l.length, idxI f l = (k : Int) ∧ l.find? f = some l[k] := by
  by_cases h : ∀ x ∈ l, f x = false
  · exact .inl ⟨idxI_none h, find_no h⟩
  · right
    obtain ⟨k, hk, h1, h2⟩ := first_at l h
    exact ⟨k, hk, idxI_at hk h1 h2, find_at hk h1 h2⟩
theorem lookUp1_ok [Tabs Tryz.prog] (e : DEntry) (top : Str) (a : DAddr) (now : Int) : Ok Tryz.prog 278 [.agg (eEntry e), .vptr .view [.str top] 0, .vptr .view (eAddr a) 0, .vptr .view [.int .i64 now] 0] (.bool (entIs top a now e)) := by
  unfold entIs
  refine ent Tryz.mix Tryz.func278 Tryz.ntmps278 ?_
  have W := trivial
  have c0 := eqAddrA e.to a
  repeat' first|refine st ?_|(refine nx ?_;first|refine se ?_|refine so ?_)|(refine cx ?_;refine sc (fun hc=>?_) (fun hc=>?_)<;>try exact hc.elim)|(refine lx ?_;refine sp (fun hc=>?_) (fun hc=>?_)<;>try exact hc.elim)|refine sx ?_ ?_|refine sy ?_ ?_|fail
  all_goals (try (refine ⟨.inr rfl, ?_⟩; simp [Hands, Tryz.results278]))
  all_goals simp_all
theorem serverAt1_ok [Tabs Tryz.prog] (s : DServer) (h : Str) : Ok Tryz.prog 339 [.agg (eServer .view s), .vptr .view [.str h] 0] (.bool (srvIs h s)) := by
  unfold srvIs
  refine ent Tryz.mix Tryz.func339 Tryz.ntmps339 ?_
  have W := trivial
  repeat' first|refine st ?_|(refine nx ?_;first|refine se ?_|refine so ?_)|(refine cx ?_;refine sc (fun hc=>?_) (fun hc=>?_)<;>try exact hc.elim)|(refine lx ?_;refine sp (fun hc=>?_) (fun hc=>?_)<;>try exact hc.elim)|refine sx ?_ ?_|refine sy ?_ ?_|fail
  all_goals (try (refine ⟨.inr rfl, ?_⟩; simp [Hands, Tryz.results339]))
theorem fileAt1_ok [Tabs Tryz.prog] (s : DFile) (h : Str) : Ok Tryz.prog 341 [.agg (eFile s), .vptr .view [.str h] 0] (.bool (filIs h s)) := by
  unfold filIs
  refine ent Tryz.mix Tryz.func341 Tryz.ntmps341 ?_
  have W := trivial
  repeat' first|refine st ?_|(refine nx ?_;first|refine se ?_|refine so ?_)|(refine cx ?_;refine sc (fun hc=>?_) (fun hc=>?_)<;>try exact hc.elim)|(refine lx ?_;refine sp (fun hc=>?_) (fun hc=>?_)<;>try exact hc.elim)|refine sx ?_ ?_|refine sy ?_ ?_|fail
  all_goals (try (refine ⟨.inr rfl, ?_⟩; simp [Hands, Tryz.results341]))
theorem indexEntry_ok [Tabs Tryz.prog] (l : List DEntry) (top : Str) (a : DAddr) (now : Int) (hl : l.length ≤ 1099511627776) : Ok Tryz.prog 277 [.sl .view 10 (l.map eEntry), .fn 278 [.vptr .view [.str top] 0, .vptr .view (eAddr a) 0, .vptr .view [.int .i64 now] 0]] (.int .i64 (idxI (entIs top a now) l)) := by
  refine ent Tryz.mix Tryz.func277 Tryz.ntmps277 ?_
  have W := trivial
  repeat' first|refine st ?_|(refine nx ?_;first|refine se ?_|refine so ?_)|(refine cx ?_;refine sc (fun hc=>?_) (fun hc=>?_)<;>try exact hc.elim)|(refine lx ?_;refine sp (fun hc=>?_) (fun hc=>?_)<;>try exact hc.elim)|refine sx ?_ ?_|refine sy ?_ ?_|fail
  refine awp_loop' (ι := { k : Nat // k ≤ l.length ∧ ∀ x ∈ l.take k, (entIs top a now) x = false }) (fun t o i => ⟨upds t [(8, .int .i64 i.1), (5, .undef)], o⟩)
    (fun i => l.length - i.1) ⟨0, by simp⟩ (weak_o (by simp) (by simp)) ?_
  rintro ⟨k, hk, hpre⟩ K1 hK1
  simp only [upds, List.set_cons_succ, List.set_cons_zero] at hK1 ⊢
  have hk1 : IntKind.i64.wrap ((k : Int) + 1) = ((k + 1 : Nat) : Int) := by rw [wrap64] <;> omega
  by_cases hlt : k < l.length
  · have hg := List.getElem?_eq_getElem hlt
    have c1 := lookUp1_ok l[k] top a now
    generalize hb : (entIs top a now) l[k] = b at *
    have W := And.intro hk1 (And.intro hg hlt)
    repeat' first|refine st ?_|(refine nx ?_;first|refine se ?_|refine so ?_)|(refine cx ?_;refine sc (fun hc=>?_) (fun hc=>?_)<;>try exact hc.elim)|(refine lx ?_;refine sp (fun hc=>?_) (fun hc=>?_)<;>try exact hc.elim)|refine sx ?_ ?_|refine sy ?_ ?_|fail
    · all_goals (try (refine ⟨.inr rfl, ?_⟩; simp [Hands, Tryz.results277]))
      rw [idxI_at hlt (by rw [hb]; simpa using hc) hpre]
    · exact hK1 _ ⟨k + 1, by omega, take_succ_all hlt hpre (by rw [hb]; simpa using hc)⟩ (weak_o (by simp) (by simp)) (by simp only; omega)
  · have W := hk1
    repeat' first|refine st ?_|(refine nx ?_;first|refine se ?_|refine so ?_)|(refine cx ?_;refine sc (fun hc=>?_) (fun hc=>?_)<;>try exact hc.elim)|(refine lx ?_;refine sp (fun hc=>?_) (fun hc=>?_)<;>try exact hc.elim)|refine sx ?_ ?_|refine sy ?_ ?_|fail
    all_goals (try (refine ⟨.inr rfl, ?_⟩; simp [Hands, Tryz.results277]))
    rw [idxI_none (take_all (by omega) hpre)]
theorem indexServer_ok [Tabs Tryz.prog] (l : List DServer) (h : Str) (hl : l.length ≤ 1099511627776) : Ok Tryz.prog 338 [.sl .view 2 (l.map (eServer .view)), .fn 339 [.vptr .view [.str h] 0]] (.int .i64 (idxI (srvIs h) l)) := by
  refine ent Tryz.mix Tryz.func338 Tryz.ntmps338 ?_
  have W := trivial
  repeat' first|refine st ?_|(refine nx ?_;first|refine se ?_|refine so ?_)|(refine cx ?_;refine sc (fun hc=>?_) (fun hc=>?_)<;>try exact hc.elim)|(refine lx ?_;refine sp (fun hc=>?_) (fun hc=>?_)<;>try exact hc.elim)|refine sx ?_ ?_|refine sy ?_ ?_|fail
  refine awp_loop' (ι := { k : Nat // k ≤ l.length ∧ ∀ x ∈ l.take k, (srvIs h) x = false }) (fun t o i => ⟨upds t [(8, .int .i64 i.1), (5, .undef)], o⟩)
    (fun i => l.length - i.1) ⟨0, by simp⟩ (weak_o (by simp) (by simp)) ?_
  rintro ⟨k, hk, hpre⟩ K1 hK1
  simp only [upds, List.set_cons_succ, List.set_cons_zero] at hK1 ⊢
  have hk1 : IntKind.i64.wrap ((k : Int) + 1) = ((k + 1 : Nat) : Int) := by rw [wrap64] <;> omega
  by_cases hlt : k < l.length
  · have hg := List.getElem?_eq_getElem hlt
    have c1 := serverAt1_ok l[k] h
    generalize hb : (srvIs h) l[k] = b at *
    have W := And.intro hk1 (And.intro hg hlt)
    repeat' first|refine st ?_|(refine nx ?_;first|refine se ?_|refine so ?_)|(refine cx ?_;refine sc (fun hc=>?_) (fun hc=>?_)<;>try exact hc.elim)|(refine lx ?_;refine sp (fun hc=>?_) (fun hc=>?_)<;>try exact hc.elim)|refine sx ?_ ?_|refine sy ?_ ?_|fail
    · all_goals (try (refine ⟨.inr rfl, ?_⟩; simp [Hands, Tryz.results338]))
      rw [idxI_at hlt (by rw [hb]; simpa using hc) hpre]
    · exact hK1 _ ⟨k + 1, by omega, take_succ_all hlt hpre (by rw [hb]; simpa using hc)⟩ (weak_o (by simp) (by simp)) (by simp only; omega)
  · have W := hk1
    repeat' first|refine st ?_|(refine nx ?_;first|refine se ?_|refine so ?_)|(refine cx ?_;refine sc (fun hc=>?_) (fun hc=>?_)<;>try exact hc.elim)|(refine lx ?_;refine sp (fun hc=>?_) (fun hc=>?_)<;>try exact hc.elim)|refine sx ?_ ?_|refine sy ?_ ?_|fail
    all_goals (try (refine ⟨.inr rfl, ?_⟩; simp [Hands, Tryz.results338]))
    rw [idxI_none (take_all (by omega) hpre)]
theorem indexFile_ok [Tabs Tryz.prog] (l : List DFile) (h : Str) (hl : l.length ≤ 1099511627776) : Ok Tryz.prog 340 [.sl .view 7 (l.map eFile), .fn 341 [.vptr .view [.str h] 0]] (.int .i64 (idxI (filIs h) l)) := by
  refine ent Tryz.mix Tryz.func340 Tryz.ntmps340 ?_
  have W := trivial
  repeat' first|refine st ?_|(refine nx ?_;first|refine se ?_|refine so ?_)|(refine cx ?_;refine sc (fun hc=>?_) (fun hc=>?_)<;>try exact hc.elim)|(refine lx ?_;refine sp (fun hc=>?_) (fun hc=>?_)<;>try exact hc.elim)|refine sx ?_ ?_|refine sy ?_ ?_|fail
  refine awp_loop' (ι := { k : Nat // k ≤ l.length ∧ ∀ x ∈ l.take k, (filIs h) x = false }) (fun t o i => ⟨upds t [(8, .int .i64 i.1), (5, .undef)], o⟩)
    (fun i => l.length - i.1) ⟨0, by simp⟩ (weak_o (by simp) (by simp)) ?_
  rintro ⟨k, hk, hpre⟩ K1 hK1
  simp only [upds, List.set_cons_succ, List.set_cons_zero] at hK1 ⊢
  have hk1 : IntKind.i64.wrap ((k : Int) + 1) = ((k + 1 : Nat) : Int) := by rw [wrap64] <;> omega
  by_cases hlt : k < l.length
  · have hg := List.getElem?_eq_getElem hlt
    have c1 := fileAt1_ok l[k] h
    generalize hb : (filIs h) l[k] = b at *
    have W := And.intro hk1 (And.intro hg hlt)
    repeat' first|refine st ?_|(refine nx ?_;first|refine se ?_|refine so ?_)|(refine cx ?_;refine sc (fun hc=>?_) (fun hc=>?_)<;>try exact hc.elim)|(refine lx ?_;refine sp (fun hc=>?_) (fun hc=>?_)<;>try exact hc.elim)|refine sx ?_ ?_|refine sy ?_ ?_|fail
    · all_goals (try (refine ⟨.inr rfl, ?_⟩; simp [Hands, Tryz.results340]))
      rw [idxI_at hlt (by rw [hb]; simpa using hc) hpre]
    · exact hK1 _ ⟨k + 1, by omega, take_succ_all hlt hpre (by rw [hb]; simpa using hc)⟩ (weak_o (by simp) (by simp)) (by simp only; omega)
  · have W := hk1
    repeat' first|refine st ?_|(refine nx ?_;first|refine se ?_|refine so ?_)|(refine cx ?_;refine sc (fun hc=>?_) (fun hc=>?_)<;>try exact hc.elim)|(refine lx ?_;refine sp (fun hc=>?_) (fun hc=>?_)<;>try exact hc.elim)|refine sx ?_ ?_|refine sy ?_ ?_|fail
    all_goals (try (refine ⟨.inr rfl, ?_⟩; simp [Hands, Tryz.results340]))
    rw [idxI_none (take_all (by omega) hpre)]
theorem serverAt_ok [Tabs Tryz.prog] (l : List DServer) (h : Str) (hl : l.length ≤ 1099511627776) : Ok Tryz.prog 279 [.sl .view 2 (l.map (eServer .view)), .str h] (.int .i64 (idxI (srvIs h) l)) := by
  have c1 := indexServer_ok l h hl
  refine ent Tryz.mix Tryz.func279 Tryz.ntmps279 ?_
  have W := trivial
  repeat' first|refine st ?_|(refine nx ?_;first|refine se ?_|refine so ?_)|(refine cx ?_;refine sc (fun hc=>?_) (fun hc=>?_)<;>try exact hc.elim)|(refine lx ?_;refine sp (fun hc=>?_) (fun hc=>?_)<;>try exact hc.elim)|refine sx ?_ ?_|refine sy ?_ ?_|fail
  all_goals (try (refine ⟨.inr rfl, ?_⟩; simp [Hands, Tryz.results279]))
theorem fileAt_ok [Tabs Tryz.prog] (s : DServer) (h : Str) (hl : s.files.length ≤ 1099511627776) : Ok Tryz.prog 280 [.agg (eServer .view s), .str h] (.int .i64 (idxI (filIs h) s.files)) := by
  have c1 := indexFile_ok s.files h hl
  refine ent Tryz.mix Tryz.func280 Tryz.ntmps280 ?_
  have W := trivial
  repeat' first|refine st ?_|(refine nx ?_;first|refine se ?_|refine so ?_)|(refine cx ?_;refine sc (fun hc=>?_) (fun hc=>?_)<;>try exact hc.elim)|(refine lx ?_;refine sp (fun hc=>?_) (fun hc=>?_)<;>try exact hc.elim)|refine sx ?_ ?_|refine sy ?_ ?_|fail
  all_goals (try (refine ⟨.inr rfl, ?_⟩; simp [Hands, Tryz.results280]))
theorem implLookUp_ok [Tabs Tryz.prog] (c : DCache) (top : Str) (a : DAddr) (now : Int) (hl : c.entries.length ≤ 1099511627776) : Ok Tryz.prog 210 [.agg (eCache .view c), .str top, .agg (eAddr a), .int .i64 now] (.tup [.agg (eResponse (lookUp c top a now).1), .bool (lookUp c top a now).2]) := by
  have c1 := indexEntry_ok c.entries top a now hl
  have c2 := implNotFound_ok
  simp only [eAddr] at c1
  simp only [eResponse] at c2
  unfold lookUp
  rcases idx_find (entIs top a now) c.entries with ⟨h1, h2⟩ | ⟨k, hk, h1, h2⟩
  · rw [h1] at c1
    rw [h2]
    refine ent Tryz.mix Tryz.func210 Tryz.ntmps210 ?_
    have W := trivial
    repeat' first|refine st ?_|(refine nx ?_;first|refine se ?_|refine so ?_)|(refine cx ?_;refine sc (fun hc=>?_) (fun hc=>?_)<;>try exact hc.elim)|(refine lx ?_;refine sp (fun hc=>?_) (fun hc=>?_)<;>try exact hc.elim)|refine sx ?_ ?_|refine sy ?_ ?_|fail
    all_goals (try (refine ⟨.inr rfl, ?_⟩; simp [Hands, Tryz.results210]))
  · rw [h1] at c1
    rw [h2]
    have hg := List.getElem?_eq_getElem hk
    have hn : ¬ ((k : Int) < 0) := by omega
    refine ent Tryz.mix Tryz.func210 Tryz.ntmps210 ?_
    have W := And.intro hg (And.intro hk hn)
    repeat' first|refine st ?_|(refine nx ?_;first|refine se ?_|refine so ?_)|(refine cx ?_;refine sc (fun hc=>?_) (fun hc=>?_)<;>try exact hc.elim)|(refine lx ?_;refine sp (fun hc=>?_) (fun hc=>?_)<;>try exact hc.elim)|refine sx ?_ ?_|refine sy ?_ ?_|fail
    all_goals (try (refine ⟨.inr rfl, ?_⟩; simp [Hands, Tryz.results210]))
theorem implAnswerTo_ok [Tabs Tryz.prog] (l : List DServer) (a : DAddr) (hs : szL szServer l ≤ 1099511627776) : Ok Tryz.prog 211 [.sl .view 2 (l.map (eServer .view)), .agg (eAddr a)] (.agg (eResponse (answerTo l a))) := by
  simp only [szL] at hs
  have c1 := serverAt_ok l a.host (by omega)
  have c2 := implNotFound_ok
  simp only [eResponse] at c2
  unfold answerTo
  rcases idx_find (srvIs a.host) l with ⟨h1, h2⟩ | ⟨k, hk, h1, h2⟩
  · rw [h1] at c1
    rw [h2]
    refine ent Tryz.mix Tryz.func211 Tryz.ntmps211 ?_
    have W := trivial
    repeat' first|refine st ?_|(refine nx ?_;first|refine se ?_|refine so ?_)|(refine cx ?_;refine sc (fun hc=>?_) (fun hc=>?_)<;>try exact hc.elim)|(refine lx ?_;refine sp (fun hc=>?_) (fun hc=>?_)<;>try exact hc.elim)|refine sx ?_ ?_|refine sy ?_ ?_|fail
    all_goals (try (refine ⟨.inr rfl, ?_⟩; simp [Hands, Tryz.results211]))
  · rw [h1] at c1
    rw [h2]
    have hg := List.getElem?_eq_getElem hk
    have hn : ¬ ((k : Int) < 0) := by omega
    have hz := sumN_get_le szServer l k hk
    simp only [szServer, szL] at hz
    have c3 := fileAt_ok l[k] a.path (by omega)
    simp only [eServer] at c3
    simp only
    rcases idx_find (filIs a.path) l[k].files with ⟨h3, h4⟩ | ⟨j, hj, h3, h4⟩
    · rw [h3] at c3
      rw [h4]
      refine ent Tryz.mix Tryz.func211 Tryz.ntmps211 ?_
      have W := And.intro hg (And.intro hk hn)
      repeat' first|refine st ?_|(refine nx ?_;first|refine se ?_|refine so ?_)|(refine cx ?_;refine sc (fun hc=>?_) (fun hc=>?_)<;>try exact hc.elim)|(refine lx ?_;refine sp (fun hc=>?_) (fun hc=>?_)<;>try exact hc.elim)|refine sx ?_ ?_|refine sy ?_ ?_|fail
      all_goals (try (refine ⟨.inr rfl, ?_⟩; simp [Hands, Tryz.results211]))
    · rw [h3] at c3
      rw [h4]
      have hg2 := List.getElem?_eq_getElem hj
      have hn2 : ¬ ((j : Int) < 0) := by omega
      refine ent Tryz.mix Tryz.func211 Tryz.ntmps211 ?_
      have W := And.intro hg (And.intro hk (And.intro hn (And.intro hg2 (And.intro hj hn2))))
      repeat' first|refine st ?_|(refine nx ?_;first|refine se ?_|refine so ?_)|(refine cx ?_;refine sc (fun hc=>?_) (fun hc=>?_)<;>try exact hc.elim)|(refine lx ?_;refine sp (fun hc=>?_) (fun hc=>?_)<;>try exact hc.elim)|refine sx ?_ ?_|refine sy ?_ ?_|fail
      all_goals (try (refine ⟨.inr rfl, ?_⟩; simp [Hands, Tryz.results211]))
end Go.Proofs.YtikabgfhklfjkaaGreatDoor
