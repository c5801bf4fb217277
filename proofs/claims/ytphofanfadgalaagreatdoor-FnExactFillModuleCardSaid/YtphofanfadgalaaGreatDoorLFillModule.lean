/-
  Proved here: steps towards the statement of this claim, text LFillModule.
  No condition beyond what each statement spells out.
-/
import Derived.Test.YtphofanfadgalaaGreatDoorSI9
import Derived.Test.YtphofanfadgalaaGreatDoorSP9
import Derived.Test.YtphofanfadgalaaGreatDoorSV1
import Derived.Test.YtphofanfadgalaaGreatDoorSW3
import Derived.Test.YtphofanfadgalaaGreatDoorSX1
import Derived.Test.YtphofanfadgalaaGreatDoorF4
import Derived.Test.YtphofanfadgalaaGreatDoorF5
set_option linter.all false
set_option maxRecDepth 8000
set_option maxHeartbeats 8000000
namespace Go.Proofs.YtphofanfadgalaaGreatDoor
open Go.Aw
theorem fillM_sz (p : DPage) (a : DAddr) (x : DResponse) (hs : szPage p + szAddr a ≤ 1048576) : szPage (fillModule p a x) ≤ 61000000 := by
  rcases idx_find (modIs a) p.mods with ⟨hi, hf⟩ | ⟨k, hk, hi, hf⟩
  · rw [fillM_none hi]; omega
  · have hg := List.getElem?_eq_getElem hk
    cases hd : p.mods[k].done
    · rw [fillM_new hi hg hd]
      have hfi := find_filled (x := x) hi hk hf
      have hqs := set_szM p k hk x
      have hub := usable_le p.policy (modReqOf p p.mods[k]) x
      obtain ⟨b1, b2⟩ := imps_bounds (q := { p with mods := p.mods.set k (filledM p p.mods[k] x) }) hfi hub (by omega)
      have h := ask_take_sz (q := { p with mods := p.mods.set k (filledM p p.mods[k] x) }) (by omega) b1 b2 (impsAt { p with mods := p.mods.set k (filledM p p.mods[k] x) } a).length
      rw [List.take_length] at h
      exact h
    · rw [fillM_done hi hg hd]; omega
theorem FnExactFillModule_law [Tabs Tryz.prog] [HasMax Tryz.prog] [HasPow Tryz.prog] (p : DPage) (hwp : wfPage p) (hrp : rgPage p) (a : DAddr) (hwa : wfAddr a) (hra : rgAddr a) (x : DResponse) (hwx : wfResponse x) (hrx : rgResponse x) : Ok Tryz.prog 6 [.agg (ePage .view p), .agg (eAddr a), .agg (eResponse x)] (.bool true) := by
  have hz0 := szPage_ok p 1048576 (by omega) (by omega) hwp
  by_cases qz0 : (szPage p) ≤ 1048576
  · rw [sub_pos (by omega)] at hz0
    have hz1 := szAddr_ok a (1048576 - (((szPage p) : Nat) : Int)) (by omega) (by omega) hwa
    by_cases qz1 : (szPage p) + (szAddr a) ≤ 1048576
    · rw [sub_pos (by omega)] at hz1
      rw [show (1048576 - (((szPage p) : Nat) : Int)) - ((szAddr a : Nat) : Int) = 1048576 - (((szPage p) + (szAddr a) : Nat) : Int) by omega] at hz1
      have hz2 := szResponse_ok x (1048576 - (((szPage p) + (szAddr a) : Nat) : Int)) (by omega) (by omega) hwx
      by_cases qz2 : (szPage p) + (szAddr a) + (szResponse x) ≤ 1048576
      · rw [sub_pos (by omega)] at hz2
        rw [show (1048576 - (((szPage p) + (szAddr a) : Nat) : Int)) - ((szResponse x : Nat) : Int) = 1048576 - (((szPage p) + (szAddr a) + (szResponse x) : Nat) : Int) by omega] at hz2
        have hs : szPage p ≤ 1048576 := by omega
        have hs2 : szResponse x ≤ 1048576 := by omega
        obtain ⟨⟨hc, hq⟩, hqa, hb, hba⟩ := page_facts p (by omega)
        have t1 := toPage_ok p hs
        have t2 := toResponse_ok x hs2
        have t5 := toAddr_ok a (by omega)
        have t3 := specFillModule_ok p a x (by omega) (by omega)
        have t4 := implFillModule_ok p a x (by omega) (by omega)
        have hgs := fillM_sz p a x (by omega)
        generalize fillModule p a x = g at *
        obtain ⟨⟨gc, gq⟩, gqa, gb, gba⟩ := page_facts g (by omega)
        have e1 := eqPage_ok g g (by omega)
        have e2 := eqPage_ok p p (by omega)
        have m1 := markPage_ok p 1 (by omega) (by omega) hq hqa hb hba
        have m2 := markPage_ok g 1 (by omega) (by omega) gq gqa gb gba
        have m3 := heldPage_ok g 1 (by omega) (by omega) gq gqa gb gba
        refine ent Tryz.mix Tryz.func6 Tryz.ntmps6 ?_
        have W := trivial
        have c0 := hz0
        have c1 := hz1
        have c2 := hz2
        repeat' first|refine st ?_|(refine nx ?_;first|refine so ?_|refine sm (hc:=m1) (h:=?_)|refine sm (hc:=m2) (h:=?_))|(refine cx ?_;refine sc (fun hc=>?_) (fun hc=>?_)<;>try exact hc.elim)|(refine lx ?_;refine sp (fun hc=>?_) (fun hc=>?_)<;>try exact hc.elim)|refine sx ?_ ?_|refine sy ?_ ?_|fail
        all_goals (try (refine ⟨.inr rfl, ?_⟩; simp [Hands, Tryz.results6]))
        all_goals (try simp only [decide_eq_true_eq] at *); all_goals (first | omega | simp_all)
      · rw [sub_neg (by omega)] at hz2
        refine ent Tryz.mix Tryz.func6 Tryz.ntmps6 ?_
        have W := trivial
        have c0 := hz0
        have c1 := hz1
        have c2 := hz2
        repeat' first|refine st ?_|(refine nx ?_;refine so ?_)|(refine cx ?_;refine sc (fun hc=>?_) (fun hc=>?_)<;>try exact hc.elim)|(refine lx ?_;refine sp (fun hc=>?_) (fun hc=>?_)<;>try exact hc.elim)|refine sx ?_ ?_|refine sy ?_ ?_|fail
        all_goals (try (refine ⟨.inr rfl, ?_⟩; simp [Hands, Tryz.results6]))
    · rw [sub_neg (by omega)] at hz1
      refine ent Tryz.mix Tryz.func6 Tryz.ntmps6 ?_
      have W := trivial
      have c0 := hz0
      have c1 := hz1
      repeat' first|refine st ?_|(refine nx ?_;refine so ?_)|(refine cx ?_;refine sc (fun hc=>?_) (fun hc=>?_)<;>try exact hc.elim)|(refine lx ?_;refine sp (fun hc=>?_) (fun hc=>?_)<;>try exact hc.elim)|refine sx ?_ ?_|refine sy ?_ ?_|fail
      all_goals (try (refine ⟨.inr rfl, ?_⟩; simp [Hands, Tryz.results6]))
  · rw [sub_neg (by omega)] at hz0
    refine ent Tryz.mix Tryz.func6 Tryz.ntmps6 ?_
    have W := trivial
    have c0 := hz0
    repeat' first|refine st ?_|(refine nx ?_;refine so ?_)|(refine cx ?_;refine sc (fun hc=>?_) (fun hc=>?_)<;>try exact hc.elim)|(refine lx ?_;refine sp (fun hc=>?_) (fun hc=>?_)<;>try exact hc.elim)|refine sx ?_ ?_|refine sy ?_ ?_|fail
    all_goals (try (refine ⟨.inr rfl, ?_⟩; simp [Hands, Tryz.results6]))
end Go.Proofs.YtphofanfadgalaaGreatDoor
