/-
  Proved here: steps towards the statement of this claim, text P9.
  No condition beyond what each statement spells out.
-/
import Derived.Test.YtphofanfadgalaaGreatDoorP8
set_option linter.all false
set_option linter.unusedSimpArgs false
set_option linter.unusedVariables false
set_option maxRecDepth 4000
set_option maxHeartbeats 4000000
namespace Go.Proofs.YtphofanfadgalaaGreatDoor
open Go.Aw

theorem specParseModule_ok [Tabs Tryz.prog] [HasMax Tryz.prog] (body base : Str) (hl : body.length ≤ 1073741824) (hb : base.length ≤ 1073741824) : Ok Tryz.prog 97 [.str body, .str base] (.tup [.sl .own 2 ((parseModule body base).1.map eAddr), .sl .own 2 ((parseModule body base).2.1.map eLine), .bool (parseModule body base).2.2]) := by
  have hst := goesOn_start base (segs 59 body)
  have hn := segs_length 59 body
  have hcn : body.count 59 ≤ body.length := List.count_le_length
  have hll : (segs 59 body).length ≤ 1073741825 := by omega
  have hres : ∀ acc r, impsOf base (segs 59 body) = some (acc, r) → ∀ ls ok, scriptOf (Lib.join r [59]) = (ls, ok) → parseModule body base = if ok = true then (acc, ls, true) else ([], [], false) := by
    intro acc r h1 ls ok h2
    unfold parseModule
    rw [h1]
    simp only [h2]
  have hnone : impsOf base (segs 59 body) = none → parseModule body base = ([], [], false) := by
    intro h1
    unfold parseModule
    rw [h1]
  generalize parseModule body base = g at *
  have hi0 : segs 59 body = segs 59 body ∨ (segs 59 body = [] ∧ body = []) := .inl rfl
  generalize hL : segs 59 body = l at hst hn hll hres hnone hi0
  refine ent Tryz.mix Tryz.func97 Tryz.ntmps97 ?_
  have W := trivial
  repeat' first|refine st ?_|(refine nx ?_;first|refine se ?_|refine so ?_)|(refine cx ?_;refine sc (fun hc=>?_) (fun hc=>?_)<;>try exact hc.elim)|(refine lx ?_;refine sp (fun hc=>?_) (fun hc=>?_)<;>try exact hc.elim)|refine sx ?_ ?_|refine sy ?_ ?_|fail
  refine awp_loop' (ι := { q : Str × List Str × List DAddr × Nat // (q.1.length ≤ body.length ∧ 1 ≤ q.2.2.2) ∧ (q.2.1 = segs 59 q.1 ∨ (q.2.1 = [] ∧ q.1 = [])) ∧ q.2.2.1.length + q.2.1.length ≤ l.length ∧ goesOn base l q.2.2.1 q.2.1 }) (fun t o i => ⟨upds t [(8, .str i.1.1), (7, .obj 0 i.1.2.2.2), (9, .undef), (10, .undef), (11, .undef)], [⟨true, false, 2, i.1.2.2.2, i.1.2.2.1.map eAddr⟩]⟩)
    (fun i => i.1.2.1.length) ⟨(body, l, [], 1), by simp, .inl hL.symm, by simp, hst⟩ (weak_o (by simp) (by simp)) ?_
  rintro ⟨⟨rest, parts, acc, v⟩, ⟨hrl, hv⟩, hparts, hac, hgo⟩ K1 hK1
  simp only at hrl hv hparts hac hgo
  simp only [upds, List.set_cons_succ, List.set_cons_zero] at hK1 ⊢
  have hjoin : Lib.join parts [59] = rest := by
    rcases hparts with rfl | ⟨rfl, rfl⟩
    · exact join_segs 59 rest
    · rfl
  cases hp : pfx impW rest with
  | false =>
    have hs : impsOf base l = some (acc, parts) := by
      rcases hparts with rfl | ⟨rfl, rfl⟩
      · rw [segs_first] at hgo ⊢
        refine goesOn_stop hgo ?_
        cases h : pfx impW (rest.take (ixB 59 rest)) with
        | false => rfl
        | true => rw [pfx_take h] at hp; cases hp
      · exact goesOn_end hgo
    have hr := hres _ _ hs
    rw [hjoin] at hr
    have cP := specParseScript_ok rest (by omega)
    generalize scriptOf rest = q at *
    obtain ⟨ls, ok⟩ := q
    have hr := hr ls ok rfl
    subst hr
    simp only at cP
    clear hK1 hs hres hnone hgo
    by_cases h7 : (7 : Int) ≤ (rest.length : Int)
    · have he : (rest.take 7 == ([105, 109, 112, 111, 114, 116, 32] : Str)) = false := by
        simp only [pfx, show impW.length = 7 from rfl, Bool.and_eq_false_iff, decide_eq_false_iff_not] at hp
        rcases hp with hp | hp
        · omega
        · exact hp
      clear hp
      cases ok
      · simp only [Bool.false_eq_true, if_false]
        have W := And.intro h7 he
        repeat' first|refine st ?_|(refine nx ?_;first|refine se ?_|refine so ?_)|(refine cx ?_;refine sc (fun hc=>?_) (fun hc=>?_)<;>try exact hc.elim)|(refine lx ?_;refine sp (fun hc=>?_) (fun hc=>?_)<;>try exact hc.elim)|refine sx ?_ ?_|refine sy ?_ ?_|fail
        all_goals (try (refine ⟨.inr rfl, ?_⟩; simp [Hands, Tryz.results97]))
      · simp only [if_true]
        have W := And.intro h7 he
        repeat' first|refine st ?_|(refine nx ?_;first|refine se ?_|refine so ?_)|(refine cx ?_;refine sc (fun hc=>?_) (fun hc=>?_)<;>try exact hc.elim)|(refine lx ?_;refine sp (fun hc=>?_) (fun hc=>?_)<;>try exact hc.elim)|refine sx ?_ ?_|refine sy ?_ ?_|fail
        all_goals (try (refine ⟨.inr rfl, ?_⟩; simp [Hands, Tryz.results97]))
    · clear hp
      cases ok
      · simp only [Bool.false_eq_true, if_false]
        have W := h7
        repeat' first|refine st ?_|(refine nx ?_;first|refine se ?_|refine so ?_)|(refine cx ?_;refine sc (fun hc=>?_) (fun hc=>?_)<;>try exact hc.elim)|(refine lx ?_;refine sp (fun hc=>?_) (fun hc=>?_)<;>try exact hc.elim)|refine sx ?_ ?_|refine sy ?_ ?_|fail
        all_goals (try (refine ⟨.inr rfl, ?_⟩; simp [Hands, Tryz.results97]))
      · simp only [if_true]
        have W := h7
        repeat' first|refine st ?_|(refine nx ?_;first|refine se ?_|refine so ?_)|(refine cx ?_;refine sc (fun hc=>?_) (fun hc=>?_)<;>try exact hc.elim)|(refine lx ?_;refine sp (fun hc=>?_) (fun hc=>?_)<;>try exact hc.elim)|refine sx ?_ ?_|refine sy ?_ ?_|fail
        all_goals (try (refine ⟨.inr rfl, ?_⟩; simp [Hands, Tryz.results97]))
  | true =>
    have h7n := pfx_le hp
    have h7 : (7 : Int) ≤ (rest.length : Int) := by simp only [show impW.length = 7 from rfl] at h7n; omega
    have he : (rest.take 7 == ([105, 109, 112, 111, 114, 116, 32] : Str)) = true := by
      simp only [pfx, show impW.length = 7 from rfl, Bool.and_eq_true] at hp
      exact hp.2
    have hpt := pfx_of_ix hp
    have hix := imp_ix hp
    have hxl := ixB_le 59 rest
    have hsg : parts = segs 59 rest := by
      rcases hparts with h | ⟨_, h⟩
      · exact h
      · subst h; simp at h7
    rw [segs_first] at hsg
    have cI : Ok Tryz.prog 135 [.str rest, .int .u8 59] (.int .i64 (ixB 59 rest : Nat)) := l5Index_ok rest 59 (by omega)
    generalize ixB 59 rest = k at *
    subst hsg
    have c2 := specParseAddr_ok ((rest.take k).drop 7) base (by simp; omega)
    simp only [eAddr] at c2
    have hbad := goesOn_bad hgo hpt
    have hnext := goesOn_next hgo hpt
    have cM := min_ok (rest.length : Int) ((k : Int) + 1)
    have hk7 : (7 : Int) ≤ (k : Int) := by omega
    have hkl : (k : Int) ≤ (rest.length : Int) := by omega
    generalize parseAddr ((rest.take k).drop 7) base = pa at *
    obtain ⟨a, ok⟩ := pa
    simp only at c2 hbad hnext
    clear hp hpt
    cases ok with
    | false =>
      have hr := hnone (hbad rfl)
      subst hr
      clear hK1
      have W := And.intro h7 (And.intro he (And.intro hk7 hkl))
      repeat' first|refine st ?_|(refine nx ?_;first|refine se ?_|refine so ?_)|(refine cx ?_;refine sc (fun hc=>?_) (fun hc=>?_)<;>try exact hc.elim)|(refine lx ?_;refine sp (fun hc=>?_) (fun hc=>?_)<;>try exact hc.elim)|refine sx ?_ ?_|refine sy ?_ ?_|fail
      all_goals (try (refine ⟨.inr rfl, ?_⟩; simp [Hands, Tryz.results97]))
    | true =>
      by_cases hkk : k < rest.length
      · have hm : min (rest.length : Int) ((k : Int) + 1) = ((k + 1 : Nat) : Int) := by omega
        rw [hm] at cM
        have hk1 : IntKind.i64.wrap ((k : Int) + 1) = ((k + 1 : Nat) : Int) := by rw [wrap64] <;> omega
        rw [if_pos hkk] at hnext hac
        have W := And.intro h7 (And.intro he (And.intro hk7 (And.intro hkl hk1)))
        repeat' first|refine st ?_|(refine nx ?_;first|refine se ?_|refine so ?_)|(refine cx ?_;refine sc (fun hc=>?_) (fun hc=>?_)<;>try exact hc.elim)|(refine lx ?_;refine sp (fun hc=>?_) (fun hc=>?_)<;>try exact hc.elim)|refine sx ?_ ?_|refine sy ?_ ?_|fail
        all_goals exact hK1 _ ⟨(rest.drop (k + 1), segs 59 (rest.drop (k + 1)), acc ++ [a], v + 1), ⟨by simp; omega, by simp only; omega⟩, .inl rfl, by simp at hac ⊢; omega, hnext rfl⟩ (weak_take 1 (by simp) (by simp) (by simp) (by simp)) (by simp [if_pos hkk])
      · have hm : min (rest.length : Int) ((k : Int) + 1) = (rest.length : Int) := by omega
        rw [hm] at cM
        rw [if_neg hkk] at hnext hac
        have W := And.intro h7 (And.intro he (And.intro hk7 hkl))
        repeat' first|refine st ?_|(refine nx ?_;first|refine se ?_|refine so ?_)|(refine cx ?_;refine sc (fun hc=>?_) (fun hc=>?_)<;>try exact hc.elim)|(refine lx ?_;refine sp (fun hc=>?_) (fun hc=>?_)<;>try exact hc.elim)|refine sx ?_ ?_|refine sy ?_ ?_|fail
        all_goals exact hK1 _ ⟨([], [], acc ++ [a], v + 1), ⟨by simp, by simp only; omega⟩, .inr ⟨rfl, rfl⟩, by simp at hac ⊢; omega, hnext rfl⟩ (weak_take 1 (by simp) (by simp) (by simp) (by simp)) (by simp)
end Go.Proofs.YtphofanfadgalaaGreatDoor
