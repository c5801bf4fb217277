/-
  Proved here: steps towards the statement of this claim, text STK7.
  No condition beyond what each statement spells out.
-/
import Derived.Test.YtonajehhfkkglabGreatTK6
set_option linter.all false
set_option maxRecDepth 4000
set_option maxHeartbeats 4000000
namespace Go.Proofs.YtonajehhfkkglabGreat
open Go.Aw
theorem specEndScript_ok [Tabs Tryz.prog] (p : DPage) (k : Nat) (nd : DNode) (hk : k < p.builder.nodes.length) (hg : p.builder.nodes[k]? = some nd) (hs : szPage p ≤ 268435456) : OkG Tryz.prog 24 [.give (.agg (ePage .own p)), .view (.int .i64 ((k : Nat) : Int))] (.agg (ePage .own (endScript p k nd.attrs))) := by
  have hns : szNode nd ≤ 268435456 := by
    have h1 := sumN_mem_le szNode (List.mem_of_getElem? hg)
    simp only [szPage, szBuilder, szL] at hs; omega
  obtain ⟨nn, ntx, np, ta⟩ := nd
  have hta : ta.length + sumN szAttr ta ≤ 268435456 := by simp only [szNode, szL] at hns; omega
  have z1 := findAttr_sz ta sDigest
  have z3 := findAttr_sz ta sSrc
  have c1 := specFindAttr_ok ta sDigest (by omega)
  have c2 := specFindAttr_ok ta sKind (by omega)
  have c3 := specFindAttr_ok ta sSrc (by omega)
  have c4 := specFindAttr_ok ta sNonce (by omega)
  have c5 := specAllowsInline_ok p.policy (findAttr ta sNonce).1
  have a4 := specAddSlot_ok p 4 (findAttr ta sSrc).1 (findAttr ta sDigest).1 ((k : Nat) : Int) (by omega) (by omega) (by omega)
  have a3 := specAddSlot_ok p 3 (findAttr ta sSrc).1 (findAttr ta sDigest).1 ((k : Nat) : Int) (by omega) (by omega) (by omega)
  have a5 := specAddEntry_ok p (findAttr ta sSrc).1 hs (by omega)
  have hrg := addSlot_rg p 3 (findAttr ta sSrc).1 (findAttr ta sDigest).1 ((k : Nat) : Int)
  have hsl : p.slots.length ≤ 268435456 := by simp only [szPage, szL] at hs; omega
  simp only [endScript]
  generalize addSlot p 4 (findAttr ta sSrc).1 (findAttr ta sDigest).1 ((k : Nat) : Int) = g4 at *
  generalize addSlot p 3 (findAttr ta sSrc).1 (findAttr ta sDigest).1 ((k : Nat) : Int) = g3 at *
  generalize addEntry p (findAttr ta sSrc).1 = g5 at *
  simp only [ePage] at a3 a4 a5
  simp only [ePolicy] at c5
  clear z1 z3
  generalize findAttr ta sDigest = fd at *
  generalize findAttr ta sKind = fk at *
  generalize findAttr ta sSrc = fs at *
  generalize findAttr ta sNonce = fn at *
  obtain ⟨dv, db⟩ := fd
  obtain ⟨kv, kb⟩ := fk
  obtain ⟨sv, sbb⟩ := fs
  obtain ⟨nv, nb⟩ := fn
  obtain ⟨g3p, g3k⟩ := g3
  simp only [sDigest] at c1
  simp only [sKind] at c2
  simp only [sSrc] at c3
  simp only [sNonce] at c4
  simp only at hrg c5
  generalize allowsInline p.policy nv = al at *
  have hw : IntKind.i64.wrap (g3k + 1) = g3k + 1 := by rw [wrap64] <;> omega
  cases sbb
  · rw [if_pos rfl]
    cases al
    · rw [if_neg (by simp)]
      refine entG Tryz.mix Tryz.func24 Tryz.ntmps24 ?_
      have W := hg
      have V := hk
      repeat' first|refine st ?_|(refine nx ?_;first|refine se ?_|refine so ?_)|(refine cx ?_;refine sc (fun hc=>?_) (fun hc=>?_)<;>try exact hc.elim)|(refine lx ?_;refine sp (fun hc=>?_) (fun hc=>?_)<;>try exact hc.elim)|refine sx ?_ ?_|refine sy ?_ ?_|fail
      all_goals (try (refine ⟨by first | exact .inr rfl | exact .inl rfl, ?_⟩; simp [HandsG, lendOut, lendUse, rowOf, Tryz.results24]))
    · rw [if_pos rfl]
      refine entG Tryz.mix Tryz.func24 Tryz.ntmps24 ?_
      have W := hg
      have V := hk
      repeat' first|refine st ?_|(refine nx ?_;first|refine se ?_|refine so ?_)|(refine cx ?_;refine sc (fun hc=>?_) (fun hc=>?_)<;>try exact hc.elim)|(refine lx ?_;refine sp (fun hc=>?_) (fun hc=>?_)<;>try exact hc.elim)|refine sx ?_ ?_|refine sy ?_ ?_|fail
      all_goals (try (refine ⟨by first | exact .inr rfl | exact .inl rfl, ?_⟩; simp [HandsG, lendOut, lendUse, rowOf, Tryz.results24]))
  · rw [if_neg (by simp)]
    by_cases h1 : kv = sDefer
    · rw [if_pos h1]
      have h1b : (kv == [100, 101, 102, 101, 114]) = true := by simpa [sDefer] using h1
      refine entG Tryz.mix Tryz.func24 Tryz.ntmps24 ?_
      have W := And.intro hg h1b
      have V := hk
      repeat' first|refine st ?_|(refine nx ?_;first|refine se ?_|refine so ?_)|(refine cx ?_;refine sc (fun hc=>?_) (fun hc=>?_)<;>try exact hc.elim)|(refine lx ?_;refine sp (fun hc=>?_) (fun hc=>?_)<;>try exact hc.elim)|refine sx ?_ ?_|refine sy ?_ ?_|fail
      all_goals (try (refine ⟨by first | exact .inr rfl | exact .inl rfl, ?_⟩; simp [HandsG, lendOut, lendUse, rowOf, Tryz.results24]))
    · rw [if_neg h1]
      have h1b : (kv == [100, 101, 102, 101, 114]) = false := by simpa [sDefer] using h1
      by_cases h2 : kv = sModule
      · rw [if_pos h2]
        have h2b : (kv == [109, 111, 100, 117, 108, 101]) = true := by simpa [sModule] using h2
        refine entG Tryz.mix Tryz.func24 Tryz.ntmps24 ?_
        have W := And.intro hg (And.intro h1b h2b)
        have V := hk
        repeat' first|refine st ?_|(refine nx ?_;first|refine se ?_|refine so ?_)|(refine cx ?_;refine sc (fun hc=>?_) (fun hc=>?_)<;>try exact hc.elim)|(refine lx ?_;refine sp (fun hc=>?_) (fun hc=>?_)<;>try exact hc.elim)|refine sx ?_ ?_|refine sy ?_ ?_|fail
        all_goals (try (refine ⟨by first | exact .inr rfl | exact .inl rfl, ?_⟩; simp [HandsG, lendOut, lendUse, rowOf, Tryz.results24]))
      · rw [if_neg h2]
        have h2b : (kv == [109, 111, 100, 117, 108, 101]) = false := by simpa [sModule] using h2
        refine entG Tryz.mix Tryz.func24 Tryz.ntmps24 ?_
        have W := And.intro hg (And.intro h1b (And.intro h2b hw))
        have V := hk
        repeat' first|refine st ?_|(refine nx ?_;first|refine se ?_|refine so ?_)|(refine cx ?_;refine sc (fun hc=>?_) (fun hc=>?_)<;>try exact hc.elim)|(refine lx ?_;refine sp (fun hc=>?_) (fun hc=>?_)<;>try exact hc.elim)|refine sx ?_ ?_|refine sy ?_ ?_|fail
        all_goals (try (refine ⟨by first | exact .inr rfl | exact .inl rfl, ?_⟩; simp [HandsG, lendOut, lendUse, rowOf, Tryz.results24]))
end Go.Proofs.YtonajehhfkkglabGreat

set_option maxRecDepth 4000
set_option maxHeartbeats 4000000
namespace Go.Proofs.YtonajehhfkkglabGreat
open Go.Aw
theorem sumN_join2 {α : Type} (f : α → Nat) : ∀ a b : List α, sumN f (a ++ b) = sumN f a + sumN f b
  | [], b => by simp [sumN]
  | x :: xs, b => by simp only [List.cons_append, sumN, sumN_join2 f xs b]; omega
def scriptAt (b : DBuilder) (t : DToken) : Option Nat :=
  if t.kind = 2 ∧ t.name = sScript then
    match b.opens.getLast? with
    | some n => if 1 ≤ n ∧ (b.nodes[n.toNat]?).any (fun x => decide (x.name = sScript)) = true then some n.toNat else none
    | none => none
  else none
def takeTok (p : DPage) (t : DToken) (q : List DToken) : DPage :=
  match scriptAt p.builder t with
  | some k => endScript { p with queue := q, builder := (addToken p.builder t).1 } k ((p.builder.nodes[k]?).elim [] (·.attrs))
  | none => if t.kind = 1 ∧ 0 ≤ (addToken p.builder t).2 then askTok { p with queue := q, builder := (addToken p.builder t).1 } t (addToken p.builder t).2 else { p with queue := q, builder := (addToken p.builder t).1 }
def takeToken (p : DPage) : DPage × Bool := match p.queue with
  | [] => (p, false)
  | t :: q => if p.block = 0 ∧ p.inline = 0 then (takeTok p t q, true) else (p, false)
theorem addToken_sz (b : DBuilder) (t : DToken) : szBuilder (addToken b t).1 ≤ szBuilder b + szToken t + 2 := by
  unfold addToken
  split
  · have := closeTo_mem b t.name (b.opens.length - 1)
    simp only [szBuilder, szL] at this ⊢
    omega
  · split
    · simp only; omega
    · split
      · simp only; omega
      · have h1 : szNode (newNode b t) ≤ szToken t := by
          unfold newNode
          split <;> simp only [szNode, szToken, szL, List.length_nil, sumN] <;> omega
        have h2 : (if opensTag t = true then b.opens ++ [((b.nodes.length : Nat) : Int)] else b.opens).length ≤ b.opens.length + 1 := by split <;> simp
        simp only [szBuilder, szL, List.length_append, sumN_join2, sumN, List.length_cons, List.length_nil] at h1 h2 ⊢
        omega
theorem taken_sz {p : DPage} {t : DToken} {q : List DToken} (h : p.queue = t :: q) : szPage { p with queue := q, builder := (addToken p.builder t).1 } ≤ szPage p + 2 := by
  have h1 := addToken_sz p.builder t
  simp only [szPage, h, szL, sumN, List.length_cons] at h1 ⊢
  omega
theorem addToken_none {b : DBuilder} {t : DToken} (h : t.kind = 2) : (addToken b t).2 = -1 ∧ (addToken b t).1.nodes = b.nodes := by rw [addToken_close h]; exact ⟨rfl, rfl⟩
theorem scriptAt_no {b : DBuilder} {t : DToken} (h : ¬ (t.kind = 2 ∧ t.name = sScript)) : scriptAt b t = none := by unfold scriptAt; rw [if_neg h]
theorem scriptAt_nil {b : DBuilder} {t : DToken} (h : b.opens = []) : scriptAt b t = none := by unfold scriptAt; rw [h]; split <;> rfl
theorem scriptAt_out {b : DBuilder} {t : DToken} {os : List Int} {lo : Int} (h : b.opens = os ++ [lo]) (h2 : ¬ 1 ≤ lo ∨ ¬ lo < (b.nodes.length : Int)) : scriptAt b t = none := by
  unfold scriptAt
  split
  · rw [h, List.getLast?_concat]
    simp only
    rw [if_neg]
    rintro ⟨h3, h4⟩
    rcases h2 with h2 | h2
    · exact h2 h3
    · rw [List.getElem?_eq_none (by omega)] at h4; simp at h4
  · rfl
theorem scriptAt_else {b : DBuilder} {t : DToken} {os : List Int} {k : Nat} (h : b.opens = os ++ [((k : Nat) : Int)]) {nd : DNode} (hg : b.nodes[k]? = some nd) (hn : ¬ nd.name = sScript) : scriptAt b t = none := by
  unfold scriptAt
  split
  · rw [h, List.getLast?_concat]
    simp only
    rw [if_neg]
    rintro ⟨_, h4⟩
    rw [Int.toNat_natCast, hg] at h4
    exact hn (by simpa using h4)
  · rfl
theorem scriptAt_yes {b : DBuilder} {t : DToken} {os : List Int} {k : Nat} (h1 : t.kind = 2) (h2 : t.name = sScript) (h : b.opens = os ++ [((k : Nat) : Int)]) (hk : 1 ≤ k) {nd : DNode} (hg : b.nodes[k]? = some nd) (hn : nd.name = sScript) : scriptAt b t = some k := by
  unfold scriptAt
  rw [if_pos ⟨h1, h2⟩, h, List.getLast?_concat]
  simp only
  rw [if_pos ⟨by omega, by rw [Int.toNat_natCast, hg]; simpa using hn⟩]
  simp
end Go.Proofs.YtonajehhfkkglabGreat
