/-
  Proved here: steps towards the statement of this claim, text Z8.
  No condition beyond what each statement spells out.
-/
import Derived.Test.YtphofanfadgalaaGreatDoorZ6
import Derived.Test.YtphofanfadgalaaGreatDoorSPL
set_option linter.all false
set_option linter.unusedSimpArgs false
set_option linter.unusedVariables false
set_option maxRecDepth 4000
set_option maxHeartbeats 4000000
namespace Go.Proofs.YtphofanfadgalaaGreatDoor
open Go.Aw

/-- Whether a module's answer is there. -/
def modDone (p : DPage) (a : DAddr) : Bool :=
  match p.mods.find? (modIs a) with
  | some m => m.done
  | none => false
def graphReady (p : DPage) (a : DAddr) : Bool := (reachOf p a).all (modDone p)
def graphFails (p : DPage) (a : DAddr) : Bool := !(reachOf p a).all (impsOk p)
theorem all_at {α : Type} {f : α → Bool} {l : List α} (k : Nat) (hk : k < l.length) (h : f l[k] = false) : l.all f = false := by
  cases hb : l.all f with
  | false => rfl
  | true =>
    rw [List.all_eq_true] at hb
    have := hb l[k] (List.getElem_mem hk)
    rw [h] at this; cases this
theorem all_end {α : Type} {f : α → Bool} {l : List α} (h : ∀ x ∈ l, f x = true) : l.all f = true := List.all_eq_true.2 h
theorem implGraphReady_ok [Tabs Tryz.prog] [HasMax Tryz.prog] (p : DPage) (a : DAddr) (hs : szPage p + szAddr a ≤ 1048576) : Ok Tryz.prog 12 [.agg (ePage .view p), .agg (eAddr a)] (.bool (graphReady p a)) := by
  obtain ⟨hB, _⟩ := bnd_of p a hs
  obtain ⟨z1, _, _⟩ := reach_sz p a hs
  have c0 := implReachOf_ok p _ hB a (by simp)
  have cm := fun b => implModAt_ok p b (by simp only [szPage, szL] at hs; omega)
  unfold graphReady
  generalize reachOf p a = L at *
  simp only [eAddr, ePage] at c0 cm
  have hlen : (L.map eAddr).length = L.length := by simp
  refine ent Tryz.mix Tryz.func12 Tryz.ntmps12 ?_
  have W := trivial
  repeat' first|refine st ?_|(refine nx ?_;first|refine se ?_|refine so ?_)|(refine cx ?_;refine sc (fun hc=>?_) (fun hc=>?_)<;>try exact hc.elim)|(refine lx ?_;refine sp (fun hc=>?_) (fun hc=>?_)<;>try exact hc.elim)|refine sx ?_ ?_|refine sy ?_ ?_|fail
  refine awp_loop' (ι := { k : Nat // k ≤ L.length ∧ ∀ x ∈ L.take k, modDone p x = true }) (fun t o i => ⟨upds t [(12, .int .i64 i.1), (13, .undef), (14, .undef), (15, .undef), (6, .undef), (7, .undef)], o.take 3⟩)
    (fun i => L.length - i.1) ⟨0, by simp, by simp⟩ (weak_o (by simp) (by simp)) ?_
  rintro ⟨k, hk, hpre⟩ K1 hK1
  simp only [upds, List.set_cons_succ, List.set_cons_zero] at hK1 ⊢
  have hk1 : IntKind.i64.wrap ((k : Int) + 1) = ((k + 1 : Nat) : Int) := by rw [wrap64] <;> omega
  by_cases hlt : k < L.length
  · have hg := List.getElem?_eq_getElem hlt
    have c1 := cm L[k]
    have hnext : modDone p L[k] = true → ∀ x ∈ L.take (k + 1), modDone p x = true := fun h => take_succ_all hlt hpre h
    have hbad : modDone p L[k] = false → L.all (modDone p) = false := fun h => all_at k hlt h
    rcases idx_find (modIs L[k]) p.mods with ⟨hi, hf⟩ | ⟨j, hj, hi, hf⟩
    · have hd : modDone p L[k] = false := by unfold modDone; rw [hf]
      rw [hi] at c1
      have hres := hbad hd
      have W := And.intro hk1 (And.intro hg hlt)
      repeat' first|refine st ?_|(refine nx ?_;first|refine se ?_|refine so ?_)|(refine cx ?_;refine sc (fun hc=>?_) (fun hc=>?_)<;>try exact hc.elim)|(refine lx ?_;refine sp (fun hc=>?_) (fun hc=>?_)<;>try exact hc.elim)|refine sx ?_ ?_|refine sy ?_ ?_|fail
      all_goals (try (refine ⟨.inr rfl, ?_⟩; simp [Hands, Tryz.results12, hres]))
    · have hd : modDone p L[k] = p.mods[j].done := by unfold modDone; rw [hf]
      rw [hi] at c1
      have hgm := List.getElem?_eq_getElem hj
      have hj0 : ¬ (j : Int) < 0 := by omega
      cases hdone : p.mods[j].done
      · have hres := hbad (hd.trans hdone)
        have W := And.intro hk1 (And.intro hg (And.intro hlt (And.intro hgm (And.intro hj (And.intro hj0 hdone)))))
        repeat' first|refine st ?_|(refine nx ?_;first|refine se ?_|refine so ?_)|(refine cx ?_;refine sc (fun hc=>?_) (fun hc=>?_)<;>try exact hc.elim)|(refine lx ?_;refine sp (fun hc=>?_) (fun hc=>?_)<;>try exact hc.elim)|refine sx ?_ ?_|refine sy ?_ ?_|fail
        all_goals (try (refine ⟨.inr rfl, ?_⟩; simp [Hands, Tryz.results12, hres]))
      · have hnx := hnext (hd.trans hdone)
        have W := And.intro hk1 (And.intro hg (And.intro hlt (And.intro hgm (And.intro hj (And.intro hj0 hdone)))))
        repeat' first|refine st ?_|(refine nx ?_;first|refine se ?_|refine so ?_)|(refine cx ?_;refine sc (fun hc=>?_) (fun hc=>?_)<;>try exact hc.elim)|(refine lx ?_;refine sp (fun hc=>?_) (fun hc=>?_)<;>try exact hc.elim)|refine sx ?_ ?_|refine sy ?_ ?_|fail
        exact hK1 _ ⟨k + 1, by omega, hnx⟩ (weak_take 3 (by simp) (by simp) (by simp) (by simp)) (by simp only; omega)
  · have hres : L.all (modDone p) = true := all_end (by have := hpre; rwa [List.take_of_length_le (by omega)] at this)
    have W := And.intro hk1 hlt
    repeat' first|refine st ?_|(refine nx ?_;first|refine se ?_|refine so ?_)|(refine cx ?_;refine sc (fun hc=>?_) (fun hc=>?_)<;>try exact hc.elim)|(refine lx ?_;refine sp (fun hc=>?_) (fun hc=>?_)<;>try exact hc.elim)|refine sx ?_ ?_|refine sy ?_ ?_|fail
    all_goals (try (refine ⟨.inr rfl, ?_⟩; simp [Hands, Tryz.results12, hres]))
theorem specGraphReady_ok [Tabs Tryz.prog] [HasMax Tryz.prog] (p : DPage) (a : DAddr) (hs : szPage p + szAddr a ≤ 1048576) : Ok Tryz.prog 9 [.agg (ePage .view p), .agg (eAddr a)] (.bool (graphReady p a)) := by
  obtain ⟨hB, _⟩ := bnd_of p a hs
  obtain ⟨z1, _, _⟩ := reach_sz p a hs
  have c0 := specReachOf_ok p _ hB a (by simp)
  have cm := fun b => specFind_ok p b (by simp only [szPage, szL] at hs; omega)
  unfold graphReady
  generalize reachOf p a = L at *
  simp only [eAddr, ePage] at c0 cm
  have hlen : (L.map eAddr).length = L.length := by simp
  refine ent Tryz.mix Tryz.func9 Tryz.ntmps9 ?_
  have W := trivial
  repeat' first|refine st ?_|(refine nx ?_;first|refine se ?_|refine so ?_)|(refine cx ?_;refine sc (fun hc=>?_) (fun hc=>?_)<;>try exact hc.elim)|(refine lx ?_;refine sp (fun hc=>?_) (fun hc=>?_)<;>try exact hc.elim)|refine sx ?_ ?_|refine sy ?_ ?_|fail
  refine awp_loop' (ι := { k : Nat // k ≤ L.length ∧ ∀ x ∈ L.take k, modDone p x = true }) (fun t o i => ⟨upds t [(6, .int .i64 i.1), (7, .undef)], o⟩)
    (fun i => L.length - i.1) ⟨0, by simp, by simp⟩ (weak_o (by simp) (by simp)) ?_
  rintro ⟨k, hk, hpre⟩ K1 hK1
  simp only [upds, List.set_cons_succ, List.set_cons_zero] at hK1 ⊢
  have hk1 : IntKind.i64.wrap ((k : Int) + 1) = ((k + 1 : Nat) : Int) := by rw [wrap64] <;> omega
  by_cases hlt : k < L.length
  · have hg := List.getElem?_eq_getElem hlt
    have c1 := cm L[k]
    have hnext : modDone p L[k] = true → ∀ x ∈ L.take (k + 1), modDone p x = true := fun h => take_succ_all hlt hpre h
    have hbad : modDone p L[k] = false → L.all (modDone p) = false := fun h => all_at k hlt h
    rcases idx_find (modIs L[k]) p.mods with ⟨hi, hf⟩ | ⟨j, hj, hi, hf⟩
    · have hd : modDone p L[k] = false := by unfold modDone; rw [hf]
      rw [hi] at c1
      have hres := hbad hd
      have W := And.intro hk1 (And.intro hg hlt)
      repeat' first|refine st ?_|(refine nx ?_;first|refine se ?_|refine so ?_)|(refine cx ?_;refine sc (fun hc=>?_) (fun hc=>?_)<;>try exact hc.elim)|(refine lx ?_;refine sp (fun hc=>?_) (fun hc=>?_)<;>try exact hc.elim)|refine sx ?_ ?_|refine sy ?_ ?_|fail
      all_goals (try (refine ⟨.inr rfl, ?_⟩; simp [Hands, Tryz.results9, hres]))
    · have hd : modDone p L[k] = p.mods[j].done := by unfold modDone; rw [hf]
      rw [hi] at c1
      have hgm := List.getElem?_eq_getElem hj
      have hj0 : ¬ (j : Int) < 0 := by omega
      cases hdone : p.mods[j].done
      · have hres := hbad (hd.trans hdone)
        have W := And.intro hk1 (And.intro hg (And.intro hlt (And.intro hgm (And.intro hj (And.intro hj0 hdone)))))
        repeat' first|refine st ?_|(refine nx ?_;first|refine se ?_|refine so ?_)|(refine cx ?_;refine sc (fun hc=>?_) (fun hc=>?_)<;>try exact hc.elim)|(refine lx ?_;refine sp (fun hc=>?_) (fun hc=>?_)<;>try exact hc.elim)|refine sx ?_ ?_|refine sy ?_ ?_|fail
        all_goals (try (refine ⟨.inr rfl, ?_⟩; simp [Hands, Tryz.results9, hres]))
      · have hnx := hnext (hd.trans hdone)
        have W := And.intro hk1 (And.intro hg (And.intro hlt (And.intro hgm (And.intro hj (And.intro hj0 hdone)))))
        repeat' first|refine st ?_|(refine nx ?_;first|refine se ?_|refine so ?_)|(refine cx ?_;refine sc (fun hc=>?_) (fun hc=>?_)<;>try exact hc.elim)|(refine lx ?_;refine sp (fun hc=>?_) (fun hc=>?_)<;>try exact hc.elim)|refine sx ?_ ?_|refine sy ?_ ?_|fail
        exact hK1 _ ⟨k + 1, by omega, hnx⟩ (weak_take 3 (by simp) (by simp) (by simp) (by simp)) (by simp only; omega)
  · have hres : L.all (modDone p) = true := all_end (by have := hpre; rwa [List.take_of_length_le (by omega)] at this)
    have W := And.intro hk1 hlt
    repeat' first|refine st ?_|(refine nx ?_;first|refine se ?_|refine so ?_)|(refine cx ?_;refine sc (fun hc=>?_) (fun hc=>?_)<;>try exact hc.elim)|(refine lx ?_;refine sp (fun hc=>?_) (fun hc=>?_)<;>try exact hc.elim)|refine sx ?_ ?_|refine sy ?_ ?_|fail
    all_goals (try (refine ⟨.inr rfl, ?_⟩; simp [Hands, Tryz.results9, hres]))
end Go.Proofs.YtphofanfadgalaaGreatDoor
