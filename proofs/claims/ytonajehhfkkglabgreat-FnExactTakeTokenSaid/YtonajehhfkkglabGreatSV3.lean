/-
  Proved here: steps towards the statement of this claim, text SV3.
  No condition beyond what each statement spells out.
-/
import Derived.Test.YtonajehhfkkglabGreatU5
import Derived.Test.YtonajehhfkkglabGreatA0
import Derived.Test.YtonajehhfkkglabGreatF4
set_option linter.all false
set_option maxRecDepth 4000
set_option maxHeartbeats 4000000
namespace Go.Proofs.YtonajehhfkkglabGreat
open Go.Aw
theorem eqPage_ok [Tabs Tryz.prog] (a b : DPage) (hs : szPage a ≤ 1099511627776) : Ok Tryz.prog 8 [.agg (ePage .view a), .agg (ePage .view b)] (.bool (decide (a = b))) := by
  simp only [szPage] at hs
  refine ent Tryz.mix Tryz.func8 Tryz.ntmps8 ?_
  have W := trivial
  repeat' first|refine st ?_|(refine nx ?_;first|refine so ?_|refine sk (hc:=eqAddr_ok a.addr b.addr (by omega)) (h:=?_)|refine sk (hc:=eqPolicy_ok a.policy b.policy (by omega)) (h:=?_)|refine sk (hc:=eqTokenizer_ok a.tok b.tok (by omega)) (h:=?_)|refine sk (hc:=eqTokenS_ok a.queue b.queue (by omega)) (h:=?_)|refine sk (hc:=eqBuilder_ok a.builder b.builder (by omega)) (h:=?_)|refine sk (hc:=eqSlotS_ok a.slots b.slots (by omega)) (h:=?_)|refine sk (hc:=eqModuleS_ok a.mods b.mods (by omega)) (h:=?_)|refine sk (hc:=eqAddrS_ok a.entries b.entries (by omega)) (h:=?_)|refine sk (hc:=eqAddrS_ok a.ran b.ran (by omega)) (h:=?_)|refine sk (hc:=eqStringS_ok a.log b.log (by omega)) (h:=?_))|(refine cx ?_;refine sc (fun hc=>?_) (fun hc=>?_)<;>try exact hc.elim)|(refine lx ?_;refine sp (fun hc=>?_) (fun hc=>?_)<;>try exact hc.elim)|refine sx ?_ ?_|refine sy ?_ ?_|fail
  all_goals (try (refine ⟨.inr rfl, ?_⟩; simp [Hands, Tryz.results8]))
  all_goals ((repeat clear hK K); cases a; cases b; simp_all)
end Go.Proofs.YtonajehhfkkglabGreat

set_option maxRecDepth 4000
set_option maxHeartbeats 4000000
namespace Go.Proofs.YtonajehhfkkglabGreat
open Go.Aw
theorem markText_ok [Tabs Tryz.prog] (k : Int) (hk : k ≤ 4611686018427387904) : Ok Tryz.prog 94 [.int .i64 k] (.str (markT k)) := by
  refine ent Tryz.mix Tryz.func94 Tryz.ntmps94 ?_
  have W := trivial
  repeat' first|refine st ?_|(refine nx ?_;refine so ?_)|(refine cx ?_;refine sc (fun hc=>?_) (fun hc=>?_)<;>try exact hc.elim)|(refine lx ?_;refine sp (fun hc=>?_) (fun hc=>?_)<;>try exact hc.elim)|refine sx ?_ ?_|refine sy ?_ ?_|fail
  · all_goals (try (refine ⟨.inr rfl, ?_⟩; simp [Hands, Tryz.results94]))
    all_goals (simp [markT]; omega)
  · refine awp_loop' (ι := { p : Nat × Int × Str // 0 ≤ p.2.1 ∧ p.2.1 < 10 ^ p.1 ∧ p.2.1 ≤ 4611686018427387904 ∧ digits p.1 p.2.1 p.2.2 = digits 20 k [] ∧ p.2.2.length ≤ 40 - p.1 ∧ p.1 ≤ 20 }) (fun t o i => ⟨upds t [(0, .int .i64 i.1.2.1), (3, .str i.1.2.2)], []⟩)
      (fun i => i.1.1) ⟨(20, k, []), by simp only; omega, by simp only; omega, hk, rfl, by simp, by simp⟩ (weak_o (by simp) (by simp)) ?_
    rintro ⟨⟨f, n, out⟩, h0, hf, hn, hd, hl, hf2⟩ K1 hK1
    simp only at h0 hf hn hd hl hf2
    simp only [upds, List.set_cons_succ, List.set_cons_zero] at hK1 ⊢
    have ht : n.tdiv 10 = n / 10 := Int.tdiv_eq_ediv_of_nonneg h0
    have hw : IntKind.i64.wrap (n.tdiv 10) = n.tdiv 10 := by rw [wrap64] <;> omega
    have h63 : 1 + out.length ≤ 9223372036854775807 := by omega
    by_cases hpos : 0 < n
    · cases f with
      | zero => exfalso; simp at hf; omega
      | succ f =>
        have W := And.intro hw (And.intro h63 hpos)
        repeat' first|refine st ?_|(refine nx ?_;refine so ?_)|(refine cx ?_;refine sc (fun hc=>?_) (fun hc=>?_)<;>try exact hc.elim)|(refine lx ?_;refine sp (fun hc=>?_) (fun hc=>?_)<;>try exact hc.elim)|refine sx ?_ ?_|refine sy ?_ ?_|fail
        refine hK1 _ ⟨(f, n.tdiv 10, digit n :: out), by simp only; omega, ?_, by simp only; omega, ?_, by simp only [List.length_cons]; omega, by simp only; omega⟩ (weak_take 0 rfl (by simp [digit]) (by simp) (by simp)) (by simp)
        · simp only [Int.pow_succ] at hf ⊢; omega
        · rw [← hd]; simp only [digits]; rw [if_neg (by omega)]
    · have : n = 0 := by omega
      subst this
      rw [digits_end _ _ _ (by omega)] at hd
      have h64 : 1 + out.length ≤ 9223372036854775807 := by omega
      have W := h64
      repeat' first|refine st ?_|(refine nx ?_;refine so ?_)|(refine cx ?_;refine sc (fun hc=>?_) (fun hc=>?_)<;>try exact hc.elim)|(refine lx ?_;refine sp (fun hc=>?_) (fun hc=>?_)<;>try exact hc.elim)|refine sx ?_ ?_|refine sy ?_ ?_|fail
      all_goals (try (refine ⟨.inr rfl, ?_⟩; simp [Hands, Tryz.results94]))
      all_goals (rw [hd]; simp [markT]; omega)
end Go.Proofs.YtonajehhfkkglabGreat
