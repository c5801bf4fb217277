/-
  Proved here: steps towards the statement of this claim, text Z9.
  No condition beyond what each statement spells out.
-/
import Derived.Test.YtphofanfadgalaaGreatDoorZ8
set_option linter.all false
set_option linter.unusedSimpArgs false
set_option linter.unusedVariables false
set_option maxRecDepth 4000
set_option maxHeartbeats 4000000
namespace Go.Proofs.YtphofanfadgalaaGreatDoor
open Go.Aw

theorem implGraphFails_ok [Tabs Tryz.prog] [HasMax Tryz.prog] (p : DPage) (a : DAddr) (hs : szPage p + szAddr a ≤ 1048576) : Ok Tryz.prog 15 [.agg (ePage .view p), .agg (eAddr a)] (.bool (graphFails p a)) := by
  obtain ⟨hB, _⟩ := bnd_of p a hs
  obtain ⟨z1, _, hU⟩ := reach_sz p a hs
  have c0 := implReachOf_ok p _ hB a (by simp)
  have cm := fun b => implModAt_ok p b (by simp only [szPage, szL] at hs; omega)
  unfold graphFails
  generalize reachOf p a = L at *
  simp only [eAddr, ePage] at c0 cm
  have hlen : (L.map eAddr).length = L.length := by simp
  refine ent Tryz.mix Tryz.func15 Tryz.ntmps15 ?_
  have W := trivial
  repeat' first|refine st ?_|(refine nx ?_;first|refine se ?_|refine so ?_)|(refine cx ?_;refine sc (fun hc=>?_) (fun hc=>?_)<;>try exact hc.elim)|(refine lx ?_;refine sp (fun hc=>?_) (fun hc=>?_)<;>try exact hc.elim)|refine sx ?_ ?_|refine sy ?_ ?_|fail
  refine awp_loop' (ι := { k : Nat // k ≤ L.length ∧ ∀ x ∈ L.take k, impsOk p x = true }) (fun t o i => ⟨upds t [(15, .int .i64 i.1), (16, .undef), (17, .undef), (18, .undef), (6, .undef), (7, .undef), (8, .undef), (9, .undef)], o.take 3⟩)
    (fun i => L.length - i.1) ⟨0, by simp, by simp⟩ (weak_o (by simp) (by simp)) ?_
  rintro ⟨k, hk, hpre⟩ K1 hK1
  simp only [upds, List.set_cons_succ, List.set_cons_zero] at hK1 ⊢
  have hk1 : IntKind.i64.wrap ((k : Int) + 1) = ((k + 1 : Nat) : Int) := by rw [wrap64] <;> omega
  by_cases hlt : k < L.length
  · have hg := List.getElem?_eq_getElem hlt
    have c1 := cm L[k]
    have hnext : impsOk p L[k] = true → ∀ x ∈ L.take (k + 1), impsOk p x = true := fun h => take_succ_all hlt hpre h
    have hbad : impsOk p L[k] = false → L.all (impsOk p) = false := fun h => all_at k hlt h
    rcases idx_find (modIs L[k]) p.mods with ⟨hi, hf⟩ | ⟨j, hj, hi, hf⟩
    · have hd : impsOk p L[k] = false := by unfold impsOk; rw [hf]
      rw [hi] at c1
      have hres := hbad hd
      have W := And.intro hk1 (And.intro hg hlt)
      repeat' first|refine st ?_|(refine nx ?_;first|refine se ?_|refine so ?_)|(refine cx ?_;refine sc (fun hc=>?_) (fun hc=>?_)<;>try exact hc.elim)|(refine lx ?_;refine sp (fun hc=>?_) (fun hc=>?_)<;>try exact hc.elim)|refine sx ?_ ?_|refine sy ?_ ?_|fail
      all_goals (try (refine ⟨.inr rfl, ?_⟩; simp [Hands, Tryz.results15, hres]))
    · have hd : impsOk p L[k] = if p.mods[j].done = true ∧ p.mods[j].code = 1 then (parseModule p.mods[j].body L[k].host).2.2 else false := by unfold impsOk; rw [hf]
      rw [hi] at c1
      have hgm := List.getElem?_eq_getElem hj
      have hj0 : ¬ (j : Int) < 0 := by omega
      have hmz := sumN_mem_le szModule (List.getElem_mem hj)
      have hha := hB.host _ (hU _ (List.getElem_mem hlt))
      simp only [szPage, szL] at hs
      simp only [szModule, szAddr] at hmz
      have cp := implParseModule_ok p.mods[j].body L[k].host (by omega) hha
      cases hdone : p.mods[j].done
      · have hres := hbad (by rw [hd, hdone]; simp)
        have W := And.intro hk1 (And.intro hg (And.intro hlt (And.intro hgm (And.intro hj (And.intro hj0 hdone)))))
        repeat' first|refine st ?_|(refine nx ?_;first|refine se ?_|refine so ?_)|(refine cx ?_;refine sc (fun hc=>?_) (fun hc=>?_)<;>try exact hc.elim)|(refine lx ?_;refine sp (fun hc=>?_) (fun hc=>?_)<;>try exact hc.elim)|refine sx ?_ ?_|refine sy ?_ ?_|fail
        all_goals (try (refine ⟨.inr rfl, ?_⟩; simp [Hands, Tryz.results15, hres]))
      · by_cases hcode : p.mods[j].code = 1
        · rw [if_pos ⟨hdone, hcode⟩] at hd
          generalize parseModule p.mods[j].body L[k].host = u at *
          obtain ⟨g, d, c⟩ := u
          simp only at hd cp
          cases c
          · have hres := hbad hd
            have W := And.intro hk1 (And.intro hg (And.intro hlt (And.intro hgm (And.intro hj (And.intro hj0 (And.intro hdone hcode))))))
            repeat' first|refine st ?_|(refine nx ?_;first|refine se ?_|refine so ?_)|(refine cx ?_;refine sc (fun hc=>?_) (fun hc=>?_)<;>try exact hc.elim)|(refine lx ?_;refine sp (fun hc=>?_) (fun hc=>?_)<;>try exact hc.elim)|refine sx ?_ ?_|refine sy ?_ ?_|fail
            all_goals (try (refine ⟨.inr rfl, ?_⟩; simp [Hands, Tryz.results15, hres]))
          · have hnx := hnext hd
            have W := And.intro hk1 (And.intro hg (And.intro hlt (And.intro hgm (And.intro hj (And.intro hj0 (And.intro hdone hcode))))))
            repeat' first|refine st ?_|(refine nx ?_;first|refine se ?_|refine so ?_)|(refine cx ?_;refine sc (fun hc=>?_) (fun hc=>?_)<;>try exact hc.elim)|(refine lx ?_;refine sp (fun hc=>?_) (fun hc=>?_)<;>try exact hc.elim)|refine sx ?_ ?_|refine sy ?_ ?_|fail
            exact hK1 _ ⟨k + 1, by omega, hnx⟩ (weak_take 3 (by simp) (by simp) (by simp) (by simp)) (by simp only; omega)
        · have hres := hbad (by rw [hd, if_neg (fun h => hcode h.2)])
          have W := And.intro hk1 (And.intro hg (And.intro hlt (And.intro hgm (And.intro hj (And.intro hj0 (And.intro hdone hcode))))))
          repeat' first|refine st ?_|(refine nx ?_;first|refine se ?_|refine so ?_)|(refine cx ?_;refine sc (fun hc=>?_) (fun hc=>?_)<;>try exact hc.elim)|(refine lx ?_;refine sp (fun hc=>?_) (fun hc=>?_)<;>try exact hc.elim)|refine sx ?_ ?_|refine sy ?_ ?_|fail
          all_goals (try (refine ⟨.inr rfl, ?_⟩; simp [Hands, Tryz.results15, hres]))
  · have hres : L.all (impsOk p) = true := all_end (by have := hpre; rwa [List.take_of_length_le (by omega)] at this)
    have W := And.intro hk1 hlt
    repeat' first|refine st ?_|(refine nx ?_;first|refine se ?_|refine so ?_)|(refine cx ?_;refine sc (fun hc=>?_) (fun hc=>?_)<;>try exact hc.elim)|(refine lx ?_;refine sp (fun hc=>?_) (fun hc=>?_)<;>try exact hc.elim)|refine sx ?_ ?_|refine sy ?_ ?_|fail
    all_goals (try (refine ⟨.inr rfl, ?_⟩; simp [Hands, Tryz.results15, hres]))
theorem specGraphFails_ok [Tabs Tryz.prog] [HasMax Tryz.prog] (p : DPage) (a : DAddr) (hs : szPage p + szAddr a ≤ 1048576) : Ok Tryz.prog 14 [.agg (ePage .view p), .agg (eAddr a)] (.bool (graphFails p a)) := by
  obtain ⟨hB, _⟩ := bnd_of p a hs
  obtain ⟨z1, _, hU⟩ := reach_sz p a hs
  have c0 := specReachOf_ok p _ hB a (by simp)
  have cm := fun b hb => specImports_ok p _ hB b hb
  unfold graphFails
  generalize reachOf p a = L at *
  simp only [eAddr, ePage] at c0 cm
  have hlen : (L.map eAddr).length = L.length := by simp
  refine ent Tryz.mix Tryz.func14 Tryz.ntmps14 ?_
  have W := trivial
  repeat' first|refine st ?_|(refine nx ?_;first|refine se ?_|refine so ?_)|(refine cx ?_;refine sc (fun hc=>?_) (fun hc=>?_)<;>try exact hc.elim)|(refine lx ?_;refine sp (fun hc=>?_) (fun hc=>?_)<;>try exact hc.elim)|refine sx ?_ ?_|refine sy ?_ ?_|fail
  refine awp_loop' (ι := { k : Nat // k ≤ L.length ∧ ∀ x ∈ L.take k, impsOk p x = true }) (fun t o i => ⟨upds t [(6, .int .i64 i.1), (7, .undef), (8, .undef)], o.take 3⟩)
    (fun i => L.length - i.1) ⟨0, by simp, by simp⟩ (weak_o (by simp) (by simp)) ?_
  rintro ⟨k, hk, hpre⟩ K1 hK1
  simp only [upds, List.set_cons_succ, List.set_cons_zero] at hK1 ⊢
  have hk1 : IntKind.i64.wrap ((k : Int) + 1) = ((k + 1 : Nat) : Int) := by rw [wrap64] <;> omega
  by_cases hlt : k < L.length
  · have hg := List.getElem?_eq_getElem hlt
    have c1 := cm L[k] (hU _ (List.getElem_mem hlt))
    have hnext : impsOk p L[k] = true → ∀ x ∈ L.take (k + 1), impsOk p x = true := fun h => take_succ_all hlt hpre h
    have hbad : impsOk p L[k] = false → L.all (impsOk p) = false := fun h => all_at k hlt h
    generalize impsAt p L[k] = g at *
    cases hd : impsOk p L[k]
    · have hres := hbad hd
      rw [hd] at c1
      have W := And.intro hk1 (And.intro hg hlt)
      repeat' first|refine st ?_|(refine nx ?_;first|refine se ?_|refine so ?_)|(refine cx ?_;refine sc (fun hc=>?_) (fun hc=>?_)<;>try exact hc.elim)|(refine lx ?_;refine sp (fun hc=>?_) (fun hc=>?_)<;>try exact hc.elim)|refine sx ?_ ?_|refine sy ?_ ?_|fail
      all_goals (try (refine ⟨.inr rfl, ?_⟩; simp [Hands, Tryz.results14, hres]))
    · have hnx := hnext hd
      rw [hd] at c1
      have W := And.intro hk1 (And.intro hg hlt)
      repeat' first|refine st ?_|(refine nx ?_;first|refine se ?_|refine so ?_)|(refine cx ?_;refine sc (fun hc=>?_) (fun hc=>?_)<;>try exact hc.elim)|(refine lx ?_;refine sp (fun hc=>?_) (fun hc=>?_)<;>try exact hc.elim)|refine sx ?_ ?_|refine sy ?_ ?_|fail
      exact hK1 _ ⟨k + 1, by omega, hnx⟩ (weak_take 3 (by simp) (by simp) (by simp) (by simp)) (by simp only; omega)
  · have hres : L.all (impsOk p) = true := all_end (by have := hpre; rwa [List.take_of_length_le (by omega)] at this)
    have W := And.intro hk1 hlt
    repeat' first|refine st ?_|(refine nx ?_;first|refine se ?_|refine so ?_)|(refine cx ?_;refine sc (fun hc=>?_) (fun hc=>?_)<;>try exact hc.elim)|(refine lx ?_;refine sp (fun hc=>?_) (fun hc=>?_)<;>try exact hc.elim)|refine sx ?_ ?_|refine sy ?_ ?_|fail
    all_goals (try (refine ⟨.inr rfl, ?_⟩; simp [Hands, Tryz.results14, hres]))
end Go.Proofs.YtphofanfadgalaaGreatDoor
