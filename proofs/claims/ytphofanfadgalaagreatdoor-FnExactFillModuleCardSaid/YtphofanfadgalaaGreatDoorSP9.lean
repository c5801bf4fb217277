/-
  Proved here: steps towards the statement of this claim, text SP9.
  No condition beyond what each statement spells out.
-/
import Derived.Test.YtphofanfadgalaaGreatDoorSP6
import Derived.Test.YtphofanfadgalaaGreatDoorF4
import Derived.Test.YtphofanfadgalaaGreatDoorQ2
import Derived.Test.YtphofanfadgalaaGreatDoorF8
set_option linter.all false
set_option maxRecDepth 4000
set_option maxHeartbeats 4000000
namespace Go.Proofs.YtphofanfadgalaaGreatDoor
open Go.Aw
theorem specParseModule_ok [Tabs Tryz.prog] [HasMax Tryz.prog] (body base : Str) (hl : body.length ≤ 1073741824) (hb : base.length ≤ 1073741824) : Ok Tryz.prog 97 [.str body, .str base] (.tup [.sl .own 2 ((parseModule body base).1.map eAddr), .sl .own 2 ((parseModule body base).2.1.map eLine), .bool (parseModule body base).2.2]) := by
  have hst := goesOn_start base (segs 59 body)
  have hn := segs_length 59 body
  have hcn : body.count 59 ≤ body.length := List.count_le_length
  have hll : (segs 59 body).length ≤ 1073741825 := by omega
  have hres : ∀ acc r, impsOf base (segs 59 body) = some (acc, r) → ∀ ls ok, scriptOf (Lib.join r [59]) = (ls, ok) → parseModule body base = if ok = true then (acc, ls, true) else ([], [], false) := by
    intro acc r h1 ls ok h2
    unfold parseModule
    rw [h1]
    simp only [h2]
  have hnone : impsOf base (segs 59 body) = none → parseModule body base = ([], [], false) := by
    intro h1
    unfold parseModule
    rw [h1]
  generalize parseModule body base = g at *
  have hi0 : segs 59 body = segs 59 body ∨ (segs 59 body = [] ∧ body = []) := .inl rfl
  generalize hL : segs 59 body = l at hst hn hll hres hnone hi0
  refine ent Tryz.mix Tryz.func97 Tryz.ntmps97 ?_
  have W := trivial
  repeat' first|refine st ?_|(refine nx ?_;first|refine se ?_|refine so ?_)|(refine cx ?_;refine sc (fun hc=>?_) (fun hc=>?_)<;>try exact hc.elim)|(refine lx ?_;refine sp (fun hc=>?_) (fun hc=>?_)<;>try exact hc.elim)|refine sx ?_ ?_|refine sy ?_ ?_|fail
  refine awp_loop' (ι := { q : Str × List Str × List DAddr × Nat // (q.1.length ≤ body.length ∧ 1 ≤ q.2.2.2) ∧ (q.2.1 = segs 59 q.1 ∨ (q.2.1 = [] ∧ q.1 = [])) ∧ q.2.2.1.length + q.2.1.length ≤ l.length ∧ goesOn base l q.2.2.1 q.2.1 }) (fun t o i => ⟨upds t [(8, .str i.1.1), (7, .obj 0 i.1.2.2.2), (9, .undef), (10, .undef), (11, .undef)], [⟨true, false, 2, i.1.2.2.2, i.1.2.2.1.map eAddr⟩]⟩)
    (fun i => i.1.2.1.length) ⟨(body, l, [], 1), by simp, .inl hL.symm, by simp, hst⟩ (weak_o (by simp) (by simp)) ?_
  rintro ⟨⟨rest, parts, acc, v⟩, ⟨hrl, hv⟩, hparts, hac, hgo⟩ K1 hK1
  simp only at hrl hv hparts hac hgo
  simp only [upds, List.set_cons_succ, List.set_cons_zero] at hK1 ⊢
  have hjoin : Lib.join parts [59] = rest := by
    rcases hparts with rfl | ⟨rfl, rfl⟩
    · exact join_segs 59 rest
    · rfl
  cases hp : pfx impW rest with
  | false =>
    have hs : impsOf base l = some (acc, parts) := by
      rcases hparts with rfl | ⟨rfl, rfl⟩
      · rw [segs_first] at hgo ⊢
        refine goesOn_stop hgo ?_
        cases h : pfx impW (rest.take (ixB 59 rest)) with
        | false => rfl
        | true => rw [pfx_take h] at hp; cases hp
      · exact goesOn_end hgo
    have hr := hres _ _ hs
    rw [hjoin] at hr
    have cP := specParseScript_ok rest (by omega)
    generalize scriptOf rest = q at *
    obtain ⟨ls, ok⟩ := q
    have hr := hr ls ok rfl
    subst hr
    simp only at cP
    clear hK1 hs hres hnone hgo
    by_cases h7 : (7 : Int) ≤ (rest.length : Int)
    · have he : (rest.take 7 == ([105, 109, 112, 111, 114, 116, 32] : Str)) = false := by
        simp only [pfx, show impW.length = 7 from rfl, Bool.and_eq_false_iff, decide_eq_false_iff_not] at hp
        rcases hp with hp | hp
        · omega
        · exact hp
      clear hp
      cases ok
      · simp only [Bool.false_eq_true, if_false]
        have W := And.intro h7 he
        repeat' first|refine st ?_|(refine nx ?_;first|refine se ?_|refine so ?_)|(refine cx ?_;refine sc (fun hc=>?_) (fun hc=>?_)<;>try exact hc.elim)|(refine lx ?_;refine sp (fun hc=>?_) (fun hc=>?_)<;>try exact hc.elim)|refine sx ?_ ?_|refine sy ?_ ?_|fail
        all_goals (try (refine ⟨.inr rfl, ?_⟩; simp [Hands, Tryz.results97]))
      · simp only [if_true]
        have W := And.intro h7 he
        repeat' first|refine st ?_|(refine nx ?_;first|refine se ?_|refine so ?_)|(refine cx ?_;refine sc (fun hc=>?_) (fun hc=>?_)<;>try exact hc.elim)|(refine lx ?_;refine sp (fun hc=>?_) (fun hc=>?_)<;>try exact hc.elim)|refine sx ?_ ?_|refine sy ?_ ?_|fail
        all_goals (try (refine ⟨.inr rfl, ?_⟩; simp [Hands, Tryz.results97]))
    · clear hp
      cases ok
      · simp only [Bool.false_eq_true, if_false]
        have W := h7
        repeat' first|refine st ?_|(refine nx ?_;first|refine se ?_|refine so ?_)|(refine cx ?_;refine sc (fun hc=>?_) (fun hc=>?_)<;>try exact hc.elim)|(refine lx ?_;refine sp (fun hc=>?_) (fun hc=>?_)<;>try exact hc.elim)|refine sx ?_ ?_|refine sy ?_ ?_|fail
        all_goals (try (refine ⟨.inr rfl, ?_⟩; simp [Hands, Tryz.results97]))
      · simp only [if_true]
        have W := h7
        repeat' first|refine st ?_|(refine nx ?_;first|refine se ?_|refine so ?_)|(refine cx ?_;refine sc (fun hc=>?_) (fun hc=>?_)<;>try exact hc.elim)|(refine lx ?_;refine sp (fun hc=>?_) (fun hc=>?_)<;>try exact hc.elim)|refine sx ?_ ?_|refine sy ?_ ?_|fail
        all_goals (try (refine ⟨.inr rfl, ?_⟩; simp [Hands, Tryz.results97]))
  | true =>
    have h7n := pfx_le hp
    have h7 : (7 : Int) ≤ (rest.length : Int) := by simp only [show impW.length = 7 from rfl] at h7n; omega
    have he : (rest.take 7 == ([105, 109, 112, 111, 114, 116, 32] : Str)) = true := by
      simp only [pfx, show impW.length = 7 from rfl, Bool.and_eq_true] at hp
      exact hp.2
    have hpt := pfx_of_ix hp
    have hix := imp_ix hp
    have hxl := ixB_le 59 rest
    have hsg : parts = segs 59 rest := by
      rcases hparts with h | ⟨_, h⟩
      · exact h
      · subst h; simp at h7
    rw [segs_first] at hsg
    have cI : Ok Tryz.prog 135 [.str rest, .int .u8 59] (.int .i64 (ixB 59 rest : Nat)) := l5Index_ok rest 59 (by omega)
    generalize ixB 59 rest = k at *
    subst hsg
    have c2 := specParseAddr_ok ((rest.take k).drop 7) base (by simp; omega)
    simp only [eAddr] at c2
    have hbad := goesOn_bad hgo hpt
    have hnext := goesOn_next hgo hpt
    have cM := min_ok (rest.length : Int) ((k : Int) + 1)
    have hk7 : (7 : Int) ≤ (k : Int) := by omega
    have hkl : (k : Int) ≤ (rest.length : Int) := by omega
    generalize parseAddr ((rest.take k).drop 7) base = pa at *
    obtain ⟨a, ok⟩ := pa
    simp only at c2 hbad hnext
    clear hp hpt
    cases ok with
    | false =>
      have hr := hnone (hbad rfl)
      subst hr
      clear hK1
      have W := And.intro h7 (And.intro he (And.intro hk7 hkl))
      repeat' first|refine st ?_|(refine nx ?_;first|refine se ?_|refine so ?_)|(refine cx ?_;refine sc (fun hc=>?_) (fun hc=>?_)<;>try exact hc.elim)|(refine lx ?_;refine sp (fun hc=>?_) (fun hc=>?_)<;>try exact hc.elim)|refine sx ?_ ?_|refine sy ?_ ?_|fail
      all_goals (try (refine ⟨.inr rfl, ?_⟩; simp [Hands, Tryz.results97]))
    | true =>
      by_cases hkk : k < rest.length
      · have hm : min (rest.length : Int) ((k : Int) + 1) = ((k + 1 : Nat) : Int) := by omega
        rw [hm] at cM
        have hk1 : IntKind.i64.wrap ((k : Int) + 1) = ((k + 1 : Nat) : Int) := by rw [wrap64] <;> omega
        rw [if_pos hkk] at hnext hac
        have W := And.intro h7 (And.intro he (And.intro hk7 (And.intro hkl hk1)))
        repeat' first|refine st ?_|(refine nx ?_;first|refine se ?_|refine so ?_)|(refine cx ?_;refine sc (fun hc=>?_) (fun hc=>?_)<;>try exact hc.elim)|(refine lx ?_;refine sp (fun hc=>?_) (fun hc=>?_)<;>try exact hc.elim)|refine sx ?_ ?_|refine sy ?_ ?_|fail
        all_goals exact hK1 _ ⟨(rest.drop (k + 1), segs 59 (rest.drop (k + 1)), acc ++ [a], v + 1), ⟨by simp; omega, by simp only; omega⟩, .inl rfl, by simp at hac ⊢; omega, hnext rfl⟩ (weak_take 1 (by simp) (by simp) (by simp) (by simp)) (by simp [if_pos hkk])
      · have hm : min (rest.length : Int) ((k : Int) + 1) = (rest.length : Int) := by omega
        rw [hm] at cM
        rw [if_neg hkk] at hnext hac
        have W := And.intro h7 (And.intro he (And.intro hk7 hkl))
        repeat' first|refine st ?_|(refine nx ?_;first|refine se ?_|refine so ?_)|(refine cx ?_;refine sc (fun hc=>?_) (fun hc=>?_)<;>try exact hc.elim)|(refine lx ?_;refine sp (fun hc=>?_) (fun hc=>?_)<;>try exact hc.elim)|refine sx ?_ ?_|refine sy ?_ ?_|fail
        all_goals exact hK1 _ ⟨([], [], acc ++ [a], v + 1), ⟨by simp, by simp only; omega⟩, .inr ⟨rfl, rfl⟩, by simp at hac ⊢; omega, hnext rfl⟩ (weak_take 1 (by simp) (by simp) (by simp) (by simp)) (by simp)
end Go.Proofs.YtphofanfadgalaaGreatDoor

set_option maxRecDepth 4000
set_option maxHeartbeats 4000000
namespace Go.Proofs.YtphofanfadgalaaGreatDoor
open Go.Aw
theorem sumN_join {α : Type} (f : α → Nat) : ∀ a b : List α, sumN f (a ++ b) = sumN f a + sumN f b
  | [], b => by simp [sumN]
  | x :: xs, b => by simp only [List.cons_append, sumN, sumN_join f xs b]; omega
theorem cPage_lin (p : DPage) : cPage p ≤ 20 * szPage p + 20 := by
  have h1 := sumN_le_c 3 cToken_le p.queue
  have h2 := sumN_le_c 3 cNode_le p.builder.nodes
  simp only [szPage, szPolicy, szBuilder, szL, cPage, cPolicy, cBuilder, sumN_const]
  omega
theorem page_facts (g : DPage) (hg : szPage g ≤ 1099511627776) : (cPage g ≤ 21990232555540 ∧ g.queue.length ≤ 4611686018427387904) ∧ (∀ x ∈ g.queue, x.attrs.length ≤ 4611686018427387904) ∧ g.builder.nodes.length ≤ 4611686018427387904 ∧ (∀ x ∈ g.builder.nodes, x.attrs.length ≤ 4611686018427387904) := by
  have h := cPage_lin g
  refine ⟨⟨by omega, ?_⟩, ?_, ?_, ?_⟩
  · simp only [szPage, szL] at hg; omega
  · exact attrs_Token (by simp only [szPage, szL] at hg; omega)
  · simp only [szPage, szBuilder, szL] at hg; omega
  · exact attrs_Node (by simp only [szPage, szBuilder, szL] at hg; omega)
end Go.Proofs.YtphofanfadgalaaGreatDoor

set_option maxRecDepth 4000
set_option maxHeartbeats 4000000
namespace Go.Proofs.YtphofanfadgalaaGreatDoor
open Go.Aw
theorem find_no {α : Type} {f : α → Bool} {l : List α} (hn : ∀ x ∈ l, f x = false) : l.find? f = none := List.find?_eq_none.2 fun x hx => by simp [hn x hx]
theorem first_at {α : Type} {f : α → Bool} : ∀ l : List α, ¬ (∀ x ∈ l, f x = false) → ∃ k, ∃ hk : k < l.length, f l[k] = true ∧ ∀ x ∈ l.take k, f x = false
  | [], h => absurd (fun x hx => by cases hx) h
  | x :: l, h => by
    cases hx : f x with
    | true => exact ⟨0, by simp, by simpa using hx, by simp⟩
    | false =>
      obtain ⟨k, hk, h1, h2⟩ := first_at l (fun hl => h (fun y hy => by
        rcases List.mem_cons.1 hy with rfl | hy
        · exact hx
        · exact hl y hy))
      refine ⟨k + 1, by simpa using hk, by simpa using h1, fun y hy => ?_⟩
      simp only [List.take_succ_cons, List.mem_cons] at hy
      rcases hy with rfl | hy
      · exact hx
      · exact h2 y hy
theorem find_at {α : Type} {f : α → Bool} {l : List α} {k : Nat} (h : k < l.length) (hf : f l[k] = true) (hn : ∀ x ∈ l.take k, f x = false) : l.find? f = some l[k] := by
  have e : l = l.take k ++ l[k] :: l.drop (k + 1) := by simp
  have h5 := congrArg (List.find? f) e
  rw [h5, List.find?_append]
  have : (l.take k).find? f = none := List.find?_eq_none.2 fun x hx => by simp [hn x hx]
  rw [this]
  simp only [Option.none_or, List.find?_cons, hf]
theorem idx_find {α : Type} (f : α → Bool) (l : List α) : (idxI f l = -1 ∧ l.find? f = none) ∨ ∃ k, ∃ h : k < l.length, idxI f l = (k : Int) ∧ l.find? f = some l[k] := by
  by_cases h : ∀ x ∈ l, f x = false
  · exact .inl ⟨idxI_none h, find_no h⟩
  · right
    obtain ⟨k, hk, h1, h2⟩ := first_at l h
    exact ⟨k, hk, idxI_at hk h1 h2, find_at hk h1 h2⟩
def impsAt (p : DPage) (a : DAddr) : List DAddr :=
  match p.mods.find? (modIs a) with
  | some m => if m.done = true ∧ m.code = 1 then (parseModule m.body a.host).1 else []
  | none => []
def impsOk (p : DPage) (a : DAddr) : Bool :=
  match p.mods.find? (modIs a) with
  | some m => if m.done = true ∧ m.code = 1 then (parseModule m.body a.host).2.2 else false
  | none => false
theorem segs_sum (c : UInt8) : ∀ s : Str, sumN szStr (segs c s) ≤ s.length
  | [] => by simp [segs, sumN, szStr]
  | x :: s => by
    have ih := segs_sum c s
    simp only [segs]
    split
    · simp only [sumN, szStr, List.length_nil, List.length_cons] at ih ⊢; omega
    · split
      · rename_i h0; exact absurd h0 (segs_ne c s)
      · rename_i p q h0
        rw [h0] at ih
        simp only [sumN, szStr, List.length_cons] at ih ⊢; omega
theorem addr_sz (s b : Str) : szAddr (parseAddr s b).1 ≤ s.length + b.length := by
  have h := ixB_le 47 s
  unfold parseAddr addrOf
  split <;> split <;> simp [szAddr, noAddr] <;> omega
theorem imps_sz (base : Str) : ∀ (l : List Str) (acc : List DAddr) (q : List Str), impsOf base l = some (acc, q) → 7 * acc.length ≤ sumN szStr l ∧ sumN szAddr acc ≤ sumN szStr l + acc.length * base.length ∧ ∀ x ∈ acc, szAddr x ≤ sumN szStr l + base.length
  | [], acc, q, h => by
    simp only [impsOf, Option.some.injEq, Prod.mk.injEq] at h
    obtain ⟨rfl, rfl⟩ := h
    simp [sumN]
  | p :: ps, acc, q, h => by
    simp only [impsOf] at h
    split at h
    · rename_i hp
      split at h
      · obtain ⟨⟨a1, q1⟩, h1, h2⟩ := Option.map_eq_some_iff.1 h
        simp only [Prod.mk.injEq] at h2
        obtain ⟨rfl, rfl⟩ := h2
        obtain ⟨i1, i2, i3⟩ := imps_sz base ps a1 q1 h1
        have h7 := pfx_le hp
        have ha := addr_sz (p.drop 7) base
        simp only [show impW.length = 7 from rfl] at h7
        simp only [List.length_drop] at ha
        simp only [sumN, szStr, List.length_cons, Nat.succ_mul] at i1 i2 i3 ⊢
        refine ⟨by omega, by omega, ?_⟩
        intro x hx
        rcases List.mem_cons.1 hx with rfl | hx
        · omega
        · have := i3 x hx; omega
      · cases h
    · simp only [Option.some.injEq, Prod.mk.injEq] at h
      obtain ⟨rfl, rfl⟩ := h
      simp [sumN]
theorem parseImps_sz (s b : Str) : 7 * (parseModule s b).1.length ≤ s.length ∧ sumN szAddr (parseModule s b).1 ≤ s.length + (parseModule s b).1.length * b.length ∧ ∀ x ∈ (parseModule s b).1, szAddr x ≤ s.length + b.length := by
  have hs := segs_sum 59 s
  unfold parseModule
  split
  · simp [sumN]
  · rename_i l q h
    obtain ⟨i1, i2, i3⟩ := imps_sz b _ _ _ h
    split
    · exact ⟨by simp only; omega, by simp only; omega, fun x hx => by have := i3 x hx; omega⟩
    · simp [sumN]
theorem implModAt_ok [Tabs Tryz.prog] (p : DPage) (a : DAddr) (hl : p.mods.length ≤ 1099511627776) : Ok Tryz.prog 44 [.agg (ePage .view p), .agg (eAddr a)] (.int .i64 (idxI (modIs a) p.mods)) := by
  have c1 := indexMod_ok p.mods a hl
  simp only [eAddr] at c1
  refine ent Tryz.mix Tryz.func44 Tryz.ntmps44 ?_
  have W := trivial
  repeat' first|refine st ?_|(refine nx ?_;first|refine se ?_|refine so ?_)|(refine cx ?_;refine sc (fun hc=>?_) (fun hc=>?_)<;>try exact hc.elim)|(refine lx ?_;refine sp (fun hc=>?_) (fun hc=>?_)<;>try exact hc.elim)|refine sx ?_ ?_|refine sy ?_ ?_|fail
  all_goals (try (refine ⟨.inr rfl, ?_⟩; simp [Hands, Tryz.results44]))
end Go.Proofs.YtphofanfadgalaaGreatDoor
