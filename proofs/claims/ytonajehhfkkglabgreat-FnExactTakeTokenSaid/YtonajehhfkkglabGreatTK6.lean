/-
  Proved here: steps towards the statement of this claim, text TK6.
  No condition beyond what each statement spells out.
-/
import Derived.Test.YtonajehhfkkglabGreatTK5
import Derived.Test.YtonajehhfkkglabGreatI6
set_option linter.all false
set_option maxRecDepth 4000
set_option maxHeartbeats 4000000
namespace Go.Proofs.YtonajehhfkkglabGreat
open Go.Aw
def sDefer : Str := [100, 101, 102, 101, 114]
def sNonce : Str := [110, 111, 110, 99, 101]
def endScript (p : DPage) (k : Nat) (l : List DAttr) : DPage :=
  if (findAttr l sSrc).2 = false then (if allowsInline p.policy (findAttr l sNonce).1 = true then { p with inline := ((k : Nat) : Int) } else p)
  else if (findAttr l sKind).1 = sDefer then (addSlot p 4 (findAttr l sSrc).1 (findAttr l sDigest).1 ((k : Nat) : Int)).1
  else if (findAttr l sKind).1 = sModule then addEntry p (findAttr l sSrc).1
  else { (addSlot p 3 (findAttr l sSrc).1 (findAttr l sDigest).1 ((k : Nat) : Int)).1 with block := (addSlot p 3 (findAttr l sSrc).1 (findAttr l sDigest).1 ((k : Nat) : Int)).2 + 1 }
theorem addSlot_rg (p : DPage) (m : Int) (a b : Str) (n : Int) : -1 ≤ (addSlot p m a b n).2 ∧ (addSlot p m a b n).2 ≤ (p.slots.length : Int) := by
  unfold addSlot
  split
  · simp only; omega
  · split <;> (simp only; omega)
theorem implEndScript_ok [Tabs Tryz.prog] (p : DPage) (k : Nat) (nd : DNode) (hk : k < p.builder.nodes.length) (hg : p.builder.nodes[k]? = some nd) (hs : szPage p ≤ 268435456) : OkG Tryz.prog 37 [.give (.agg (ePage .own p)), .view (.int .i64 ((k : Nat) : Int))] (.agg (ePage .own (endScript p k nd.attrs))) := by
  have hns : szNode nd ≤ 268435456 := by
    have h1 := sumN_mem_le szNode (List.mem_of_getElem? hg)
    simp only [szPage, szBuilder, szL] at hs; omega
  obtain ⟨nn, ntx, np, ta⟩ := nd
  have hta : ta.length + sumN szAttr ta ≤ 268435456 := by simp only [szNode, szL] at hns; omega
  have z1 := findAttr_sz ta sDigest
  have z3 := findAttr_sz ta sSrc
  have c1 := implFindAttr_ok ta sDigest (by omega)
  have c2 := implFindAttr_ok ta sKind (by omega)
  have c3 := implFindAttr_ok ta sSrc (by omega)
  have c4 := implFindAttr_ok ta sNonce (by omega)
  have c5 := implAllowsInline_ok p.policy (findAttr ta sNonce).1
  have a4 := implAddSlot_ok p 4 (findAttr ta sSrc).1 (findAttr ta sDigest).1 ((k : Nat) : Int) (by omega) (by omega) (by omega)
  have a3 := implAddSlot_ok p 3 (findAttr ta sSrc).1 (findAttr ta sDigest).1 ((k : Nat) : Int) (by omega) (by omega) (by omega)
  have a5 := implAddEntry_ok p (findAttr ta sSrc).1 hs (by omega)
  have hrg := addSlot_rg p 3 (findAttr ta sSrc).1 (findAttr ta sDigest).1 ((k : Nat) : Int)
  have hsl : p.slots.length ≤ 268435456 := by simp only [szPage, szL] at hs; omega
  simp only [endScript]
  generalize addSlot p 4 (findAttr ta sSrc).1 (findAttr ta sDigest).1 ((k : Nat) : Int) = g4 at *
  generalize addSlot p 3 (findAttr ta sSrc).1 (findAttr ta sDigest).1 ((k : Nat) : Int) = g3 at *
  generalize addEntry p (findAttr ta sSrc).1 = g5 at *
  simp only [ePage] at a3 a4 a5
  simp only [ePolicy] at c5
  clear z1 z3
  generalize findAttr ta sDigest = fd at *
  generalize findAttr ta sKind = fk at *
  generalize findAttr ta sSrc = fs at *
  generalize findAttr ta sNonce = fn at *
  obtain ⟨dv, db⟩ := fd
  obtain ⟨kv, kb⟩ := fk
  obtain ⟨sv, sbb⟩ := fs
  obtain ⟨nv, nb⟩ := fn
  obtain ⟨g3p, g3k⟩ := g3
  simp only [sDigest] at c1
  simp only [sKind] at c2
  simp only [sSrc] at c3
  simp only [sNonce] at c4
  simp only at hrg c5
  generalize allowsInline p.policy nv = al at *
  have hw : IntKind.i64.wrap (g3k + 1) = g3k + 1 := by rw [wrap64] <;> omega
  cases sbb
  · rw [if_pos rfl]
    cases al
    · rw [if_neg (by simp)]
      refine entG Tryz.mix Tryz.func37 Tryz.ntmps37 ?_
      have W := hg
      have V := hk
      repeat' first|refine st ?_|(refine nx ?_;first|refine se ?_|refine so ?_)|(refine cx ?_;refine sc (fun hc=>?_) (fun hc=>?_)<;>try exact hc.elim)|(refine lx ?_;refine sp (fun hc=>?_) (fun hc=>?_)<;>try exact hc.elim)|refine sx ?_ ?_|refine sy ?_ ?_|fail
      all_goals (try (refine ⟨by first | exact .inr rfl | exact .inl rfl, ?_⟩; simp [HandsG, lendOut, lendUse, rowOf, Tryz.results37]))
    · rw [if_pos rfl]
      refine entG Tryz.mix Tryz.func37 Tryz.ntmps37 ?_
      have W := hg
      have V := hk
      repeat' first|refine st ?_|(refine nx ?_;first|refine se ?_|refine so ?_)|(refine cx ?_;refine sc (fun hc=>?_) (fun hc=>?_)<;>try exact hc.elim)|(refine lx ?_;refine sp (fun hc=>?_) (fun hc=>?_)<;>try exact hc.elim)|refine sx ?_ ?_|refine sy ?_ ?_|fail
      all_goals (try (refine ⟨by first | exact .inr rfl | exact .inl rfl, ?_⟩; simp [HandsG, lendOut, lendUse, rowOf, Tryz.results37]))
  · rw [if_neg (by simp)]
    by_cases h1 : kv = sDefer
    · rw [if_pos h1]
      have h1b : (kv == [100, 101, 102, 101, 114]) = true := by simpa [sDefer] using h1
      refine entG Tryz.mix Tryz.func37 Tryz.ntmps37 ?_
      have W := And.intro hg h1b
      have V := hk
      repeat' first|refine st ?_|(refine nx ?_;first|refine se ?_|refine so ?_)|(refine cx ?_;refine sc (fun hc=>?_) (fun hc=>?_)<;>try exact hc.elim)|(refine lx ?_;refine sp (fun hc=>?_) (fun hc=>?_)<;>try exact hc.elim)|refine sx ?_ ?_|refine sy ?_ ?_|fail
      all_goals (try (refine ⟨by first | exact .inr rfl | exact .inl rfl, ?_⟩; simp [HandsG, lendOut, lendUse, rowOf, Tryz.results37]))
    · rw [if_neg h1]
      have h1b : (kv == [100, 101, 102, 101, 114]) = false := by simpa [sDefer] using h1
      by_cases h2 : kv = sModule
      · rw [if_pos h2]
        have h2b : (kv == [109, 111, 100, 117, 108, 101]) = true := by simpa [sModule] using h2
        refine entG Tryz.mix Tryz.func37 Tryz.ntmps37 ?_
        have W := And.intro hg (And.intro h1b h2b)
        have V := hk
        repeat' first|refine st ?_|(refine nx ?_;first|refine se ?_|refine so ?_)|(refine cx ?_;refine sc (fun hc=>?_) (fun hc=>?_)<;>try exact hc.elim)|(refine lx ?_;refine sp (fun hc=>?_) (fun hc=>?_)<;>try exact hc.elim)|refine sx ?_ ?_|refine sy ?_ ?_|fail
        all_goals (try (refine ⟨by first | exact .inr rfl | exact .inl rfl, ?_⟩; simp [HandsG, lendOut, lendUse, rowOf, Tryz.results37]))
      · rw [if_neg h2]
        have h2b : (kv == [109, 111, 100, 117, 108, 101]) = false := by simpa [sModule] using h2
        refine entG Tryz.mix Tryz.func37 Tryz.ntmps37 ?_
        have W := And.intro hg (And.intro h1b (And.intro h2b hw))
        have V := hk
        repeat' first|refine st ?_|(refine nx ?_;first|refine se ?_|refine so ?_)|(refine cx ?_;refine sc (fun hc=>?_) (fun hc=>?_)<;>try exact hc.elim)|(refine lx ?_;refine sp (fun hc=>?_) (fun hc=>?_)<;>try exact hc.elim)|refine sx ?_ ?_|refine sy ?_ ?_|fail
        all_goals (try (refine ⟨by first | exact .inr rfl | exact .inl rfl, ?_⟩; simp [HandsG, lendOut, lendUse, rowOf, Tryz.results37]))
end Go.Proofs.YtonajehhfkkglabGreat
