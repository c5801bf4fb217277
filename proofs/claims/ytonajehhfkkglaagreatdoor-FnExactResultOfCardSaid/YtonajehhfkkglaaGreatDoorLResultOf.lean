/-
  Proved here: steps towards the statement of this claim, text LResultOf.
  No condition beyond what each statement spells out.
-/
import Derived.Test.YtonajehhfkkglaaGreatDoorSX1
import Derived.Test.YtonajehhfkkglaaGreatDoorSJS6
import Derived.Test.YtonajehhfkkglaaGreatDoorSV2
import Derived.Test.YtonajehhfkkglaaGreatDoorSW3
import Derived.Test.YtonajehhfkkglaaGreatDoorF4
import Derived.Test.YtonajehhfkkglaaGreatDoorF7
set_option linter.all false
set_option maxRecDepth 8000
set_option maxHeartbeats 8000000
namespace Go.Proofs.YtonajehhfkkglaaGreatDoor
open Go.Aw
theorem FnExactResultOf_law [Tabs Tryz.prog] [HasMax Tryz.prog] [HasPow Tryz.prog] [HasErr Tryz.prog] (p : DPage) (hwp : wfPage p) (hrp : rgPage p) : Ok Tryz.prog 3 [.agg (ePage .view p)] (.bool true) := by
  have hz0 := szPage_ok p 1048576 (by omega) (by omega) hwp
  by_cases qz0 : (szPage p) ≤ 1048576
  · rw [sub_pos (by omega)] at hz0
    have hs : szPage p ≤ 1048576 := by omega
    obtain ⟨⟨hc, hq⟩, hqa, hb, hba⟩ := page_facts p (by omega)
    obtain ⟨j1, j2, j3, j4, j5⟩ := join_facts p
    have hsl : p.slots.length ≤ 1048576 := by simp only [szPage, szL] at hs; omega
    have hlg : p.log.length ≤ 1048576 := by simp only [szPage, szL] at hs; omega
    have t1 := toPage_ok p hs
    have t2 := specResultOf_ok p hs (by omega) (fun x hx => by have := j1 x hx; omega) (by omega)
    have t3 := implResultOf_ok p hs (by omega) (fun x hx => by have := j1 x hx; omega) (by omega)
    obtain ⟨z1, z2, z3, z4, z5⟩ := result_sz p hs
    generalize resultOf p = g at *
    have hgb : cBuilder g.builder ≤ 21990232555540 := by rw [z2]; simp only [cPage] at hc; omega
    have hgn : g.builder.nodes.length ≤ 4611686018427387904 := by rw [z2]; exact hb
    have hgna : ∀ x ∈ g.builder.nodes, x.attrs.length ≤ 4611686018427387904 := by rw [z2]; exact hba
    have hgl : g.log.length ≤ 1048576 := by rw [z3]; exact hlg
    have c1 := sumN_const 1 g.log
    have c2 := sumN_const 1 g.verdicts
    have c3 := sumN_const 2 g.sheet.rules
    have hcg : cResult g ≤ 4611686018427386000 := by simp only [cResult, cSheet]; omega
    have e1 := eqResult_ok g g (by omega)
    have e2 := eqPage_ok p p (by omega)
    have m1 := markPage_ok p 1 (by omega) (by omega) hq hqa hb hba
    have m2 := markResult_ok g 1 (by omega) (by omega) hgn hgna
    have m3 := heldResult_ok g 1 (by omega) (by omega) hgn hgna
    refine ent Tryz.mix Tryz.func3 Tryz.ntmps3 ?_
    have W := trivial
    have c0 := hz0
    repeat' first|refine st ?_|(refine nx ?_;first|refine so ?_|refine sm (hc:=m1) (h:=?_)|refine sm (hc:=m2) (h:=?_))|(refine cx ?_;refine sc (fun hc=>?_) (fun hc=>?_)<;>try exact hc.elim)|(refine lx ?_;refine sp (fun hc=>?_) (fun hc=>?_)<;>try exact hc.elim)|refine sx ?_ ?_|refine sy ?_ ?_|fail
    all_goals (try (refine ⟨.inr rfl, ?_⟩; simp [Hands, Tryz.results3]))
    all_goals (try simp only [decide_eq_true_eq] at *); all_goals (first | omega | simp_all)
  · rw [sub_neg (by omega)] at hz0
    refine ent Tryz.mix Tryz.func3 Tryz.ntmps3 ?_
    have W := trivial
    have c0 := hz0
    repeat' first|refine st ?_|(refine nx ?_;refine so ?_)|(refine cx ?_;refine sc (fun hc=>?_) (fun hc=>?_)<;>try exact hc.elim)|(refine lx ?_;refine sp (fun hc=>?_) (fun hc=>?_)<;>try exact hc.elim)|refine sx ?_ ?_|refine sy ?_ ?_|fail
    all_goals (try (refine ⟨.inr rfl, ?_⟩; simp [Hands, Tryz.results3]))
end Go.Proofs.YtonajehhfkkglaaGreatDoor
