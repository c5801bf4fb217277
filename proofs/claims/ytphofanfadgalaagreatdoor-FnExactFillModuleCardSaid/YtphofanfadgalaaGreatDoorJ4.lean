/-
  Proved here: steps towards the statement of this claim, text J4.
  No condition beyond what each statement spells out.
-/
import Derived.Test.YtphofanfadgalaaGreatDoorJ2
set_option linter.all false
set_option maxRecDepth 4000
set_option maxHeartbeats 4000000
namespace Go.Proofs.YtphofanfadgalaaGreatDoor
open Go.Aw
theorem segs_sumP (c : UInt8) : ∀ s : Str, sumN szStr (segs c s) ≤ s.length
  | [] => by simp [segs, sumN, szStr]
  | x :: s => by
    have ih := segs_sumP c s
    simp only [segs]
    split
    · simp only [sumN, szStr, List.length_nil, List.length_cons] at ih ⊢; omega
    · split
      · rename_i h0; exact absurd h0 (segs_ne c s)
      · rename_i p q h0
        rw [h0] at ih
        simp only [sumN, szStr, List.length_cons] at ih ⊢; omega
theorem segs_szP (c : UInt8) (s : Str) : szL szStr (segs c s) ≤ 2 * s.length + 1 := by
  have h1 := segs_sumP c s
  have h2 := segs_length c s
  have h3 := List.count_le_length (a := c) (l := s)
  simp only [szL]; omega
theorem segs_tailP (c : UInt8) (s : Str) : szL szStr (segs c s).tail ≤ 2 * s.length + 1 := by
  have h := segs_szP c s
  cases hs : segs c s with
  | nil => exact absurd hs (segs_ne c s)
  | cons x l => rw [hs] at h; simp only [szL, sumN, List.length_cons, List.tail_cons] at h ⊢; omega
theorem segs_memP {c : UInt8} {s x : Str} (h : x ∈ segs c s) : x.length ≤ s.length := by
  have h1 := segs_sumP c s
  have h2 := sumN_mem_le szStr h
  simp only [szStr] at h2; omega
theorem polAt_parts (f : Str → Str) {s x0 x1 x2 : Str} {r : List Str} (h : segs 59 s = x0 :: x1 :: x2 :: r) : polAt f s = ⟨true, (segs 32 x0).tail, (segs 32 x1).tail, (segs 32 x2).tail, match r[0]? with | some x => f x | none => []⟩ := by
  unfold polAt
  rw [h]
  rfl
theorem polAt_size (f : Str → Str) (hf : ∀ x, (f x).length ≤ x.length) {s : Str} (h : ¬ (segs 59 s).length < 3) : szPolicy (polAt f s) ≤ 7 * s.length + 3 := by
  match hs : segs 59 s with
  | [] => rw [hs] at h; simp at h
  | [_] => rw [hs] at h; simp at h
  | [_, _] => rw [hs] at h; simp at h
  | x0 :: x1 :: x2 :: r =>
    rw [polAt_parts f hs]
    have h0 := segs_memP (c := 59) (s := s) (x := x0) (by rw [hs]; simp)
    have h1 := segs_memP (c := 59) (s := s) (x := x1) (by rw [hs]; simp)
    have h2 := segs_memP (c := 59) (s := s) (x := x2) (by rw [hs]; simp)
    have k0 := segs_tailP 32 x0
    have k1 := segs_tailP 32 x1
    have k2 := segs_tailP 32 x2
    simp only [szPolicy]
    cases r with
    | nil => simp; omega
    | cons x r =>
      have h3 := segs_memP (c := 59) (s := s) (x := x) (by rw [hs]; simp)
      have := hf x
      simp only [List.getElem?_cons_zero]; omega
theorem nonceS_le (x : Str) : (nonceS x).length ≤ x.length := by unfold nonceS; split <;> simp
theorem l5SplitV_ok [Tabs Tryz.prog] (s : Str) (c : UInt8) (hl : s.length ≤ 1099511627776) : Ok Tryz.prog 168 [.str s, .int .u8 c.toNat] (.sl .view 1 ((segs c s).map eStr)) := (l5Split_ok s c hl).vwas (by simp [rt])
theorem specParsePolicy_ok [Tabs Tryz.prog] (s : Str) (hl : s.length ≤ 1073741824) : Ok Tryz.prog 151 [.str s] (.tup [.agg (ePolicy .view (parsePol nonceS s).1), .bool (parsePol nonceS s).2]) := by
  have z1 : Ok Tryz.prog 151 [.str []] (.tup [.agg [.bool false, .sl .own 1 [], .sl .own 1 [], .sl .own 1 [], .str []], .bool true]) := by
    refine entN Tryz.mix Tryz.func151 Tryz.ntmps151 ?_
    have W := trivial
    repeat' first|refine st ?_|(refine nx ?_;first|refine se ?_|refine so ?_)|(refine cx ?_;refine sc (fun hc=>?_) (fun hc=>?_)<;>try exact hc.elim)|(refine lx ?_;refine sp (fun hc=>?_) (fun hc=>?_)<;>try exact hc.elim)|refine sx ?_ ?_|refine sy ?_ ?_|fail
    all_goals (try (first | (refine ⟨.inr rfl, .inl ?_⟩; simp [HandsV, Tryz.results151]; done) | (refine ⟨.inr rfl, .inr (handsVB_of ?_)⟩; simp [AS.rvB, AS.rvs, AS.rv, Tryz.results151]; done) | (refine ⟨.inr rfl, .inl ?_⟩; simp [HandsV, Tryz.results151])))
  have c0 : Ok Tryz.prog 168 [.str s, .int .u8 59] (.sl .view 1 ((segs 59 s).map eStr)) := l5SplitV_ok s 59 (by omega)
  unfold parsePol
  by_cases h0 : s = []
  · rw [if_pos h0]
    subst h0
    exact z1.vwas (by simp [rt, rtc, noPol])
  rw [if_neg h0]
  by_cases h3 : (segs 59 s).length < 3
  · rw [if_pos h3]
    have z2 : Ok Tryz.prog 151 [.str s] (.tup [.agg [.bool false, .sl .own 1 [], .sl .own 1 [], .sl .own 1 [], .str []], .bool false]) := by
      have h3' : ((segs 59 s).length : Int) < 3 := by omega
      generalize segs 59 s = L at *
      refine entN Tryz.mix Tryz.func151 Tryz.ntmps151 ?_
      have W := And.intro h0 (And.intro h3' h3)
      have V := h0
      repeat' first|refine st ?_|(refine nx ?_;first|refine se ?_|refine so ?_)|(refine cx ?_;refine sc (fun hc=>?_) (fun hc=>?_)<;>try exact hc.elim)|(refine lx ?_;refine sp (fun hc=>?_) (fun hc=>?_)<;>try exact hc.elim)|refine sx ?_ ?_|refine sy ?_ ?_|fail
      all_goals (try (first | (refine ⟨.inr rfl, .inl ?_⟩; simp [HandsV, Tryz.results151]; done) | (refine ⟨.inr rfl, .inr (handsVB_of ?_)⟩; simp [AS.rvB, AS.rvs, AS.rv, Tryz.results151]; done) | (refine ⟨.inr rfl, .inl ?_⟩; simp [HandsV, Tryz.results151])))
      all_goals exact absurd (by assumption) h0
    exact z2.vwas (by simp [rt, rtc, noPol])
  rw [if_neg h3]
  have hz := polAt_size nonceS nonceS_le h3
  have cf := specFormatPolicy_ok (polAt nonceS s) (by omega)
  obtain ⟨x0, x1, x2, r, hs⟩ : ∃ x0 x1 x2 r, segs 59 s = x0 :: x1 :: x2 :: r := by
    match hs : segs 59 s with
    | [] => rw [hs] at h3; simp at h3
    | [_] => rw [hs] at h3; simp at h3
    | [_, _] => rw [hs] at h3; simp at h3
    | x0 :: x1 :: x2 :: r => exact ⟨x0, x1, x2, r, rfl⟩
  have m0 := segs_memP (c := 59) (s := s) (x := x0) (by rw [hs]; simp)
  have m1 := segs_memP (c := 59) (s := s) (x := x1) (by rw [hs]; simp)
  have m2 := segs_memP (c := 59) (s := s) (x := x2) (by rw [hs]; simp)
  have hrl : r.length ≤ s.length := by
    have := segs_length 59 s
    have h3 := List.count_le_length (a := (59 : UInt8)) (l := s)
    rw [hs] at this; simp at this; omega
  rw [hs] at c0
  have e := polAt_parts nonceS hs
  have c1 : Ok Tryz.prog 168 [.str x0, .int .u8 32] (.sl .view 1 ((segs 32 x0).map eStr)) := l5SplitV_ok x0 32 (by omega)
  have c2 : Ok Tryz.prog 168 [.str x1, .int .u8 32] (.sl .view 1 ((segs 32 x1).map eStr)) := l5SplitV_ok x1 32 (by omega)
  have c3 : Ok Tryz.prog 168 [.str x2, .int .u8 32] (.sl .view 1 ((segs 32 x2).map eStr)) := l5SplitV_ok x2 32 (by omega)
  obtain ⟨y0, t0, e0⟩ := List.exists_cons_of_ne_nil (segs_ne 32 x0)
  obtain ⟨y1, t1, e1⟩ := List.exists_cons_of_ne_nil (segs_ne 32 x1)
  obtain ⟨y2, t2, e2⟩ := List.exists_cons_of_ne_nil (segs_ne 32 x2)
  rw [e0] at c1; rw [e1] at c2; rw [e2] at c3
  rw [e0, e1, e2] at e
  simp only [List.tail_cons] at e
  clear hs m0 m1 m2 e0 e1 e2 h3 hz
  have tk : ∀ (t : List Str), (t.map eStr).take t.length = t.map eStr := fun t => List.take_of_length_le (by simp)
  have key : ∀ (n : Str), polAt nonceS s = ⟨true, t0, t1, t2, n⟩ → ∀ b, decide (fmtPolicy (polAt nonceS s) = s) = b → Ok Tryz.prog 182 [.agg [.bool true, .sl .view 1 (t0.map eStr), .sl .view 1 (t1.map eStr), .sl .view 1 (t2.map eStr), .str n]] (.str (fmtPolicy (polAt nonceS s))) := by
    intro n hn b _
    rw [hn] at cf ⊢
    simpa only [ePolicy] using cf
  have hres : ∀ n, polAt nonceS s = ⟨true, t0, t1, t2, n⟩ → (Ok Tryz.prog 182 [.agg [.bool true, .sl .view 1 (t0.map eStr), .sl .view 1 (t1.map eStr), .sl .view 1 (t2.map eStr), .str n]] (.str (fmtPolicy (polAt nonceS s)))) →
      Ok Tryz.prog 151 [.str s] (if fmtPolicy (polAt nonceS s) = s then .tup [.agg [.bool true, .sl .view 1 (t0.map eStr), .sl .view 1 (t1.map eStr), .sl .view 1 (t2.map eStr), .str n], .bool true] else .tup [.agg [.bool false, .sl .own 1 [], .sl .own 1 [], .sl .own 1 [], .str []], .bool false]) := by
    intro n hn cF
    rw [e] at hn
    simp only [DPolicy.mk.injEq, true_and] at hn
    subst hn
    generalize fmtPolicy (polAt nonceS s) = F at *
    cases r with
    | nil =>
      simp only [List.getElem?_nil] at cF ⊢
      by_cases hF : F = s
      · rw [if_pos hF]
        refine entN Tryz.mix Tryz.func151 Tryz.ntmps151 ?_
        have W := And.intro h0 (And.intro hF tk)
        have V := And.intro h0 tk
        repeat' first|refine st ?_|(refine nx ?_;first|refine se ?_|refine so ?_)|(refine cx ?_;refine sc (fun hc=>?_) (fun hc=>?_)<;>try exact hc.elim)|(refine lx ?_;refine sp (fun hc=>?_) (fun hc=>?_)<;>try exact hc.elim)|refine sx ?_ ?_|refine sy ?_ ?_|fail
        all_goals (try (first | (refine ⟨.inr rfl, .inl ?_⟩; simp [HandsV, Tryz.results151]; done) | (refine ⟨.inr rfl, .inr (handsVB_of ?_)⟩; simp [AS.rvB, AS.rvs, AS.rv, Tryz.results151]; done) | (refine ⟨.inr rfl, .inl ?_⟩; simp [HandsV, Tryz.results151])))
        all_goals first | exact absurd (by assumption) h0 | omega | simp_all
      · rw [if_neg hF]
        refine entN Tryz.mix Tryz.func151 Tryz.ntmps151 ?_
        have W := And.intro h0 (And.intro hF tk)
        have V := And.intro h0 tk
        repeat' first|refine st ?_|(refine nx ?_;first|refine se ?_|refine so ?_)|(refine cx ?_;refine sc (fun hc=>?_) (fun hc=>?_)<;>try exact hc.elim)|(refine lx ?_;refine sp (fun hc=>?_) (fun hc=>?_)<;>try exact hc.elim)|refine sx ?_ ?_|refine sy ?_ ?_|fail
        all_goals (try (first | (refine ⟨.inr rfl, .inl ?_⟩; simp [HandsV, Tryz.results151]; done) | (refine ⟨.inr rfl, .inr (handsVB_of ?_)⟩; simp [AS.rvB, AS.rvs, AS.rv, Tryz.results151]; done) | (refine ⟨.inr rfl, .inl ?_⟩; simp [HandsV, Tryz.results151])))
        all_goals first | exact absurd (by assumption) h0 | omega | simp_all
    | cons x r =>
      simp only [List.getElem?_cons_zero] at cF ⊢
      unfold nonceS at cF ⊢
      by_cases hx : 6 < x.length
      · rw [if_pos hx] at cF ⊢
        by_cases hF : F = s
        · rw [if_pos hF]
          refine entN Tryz.mix Tryz.func151 Tryz.ntmps151 ?_
          have W := And.intro h0 (And.intro hF (And.intro hx tk))
          have V := And.intro h0 tk
          repeat' first|refine st ?_|(refine nx ?_;first|refine se ?_|refine so ?_)|(refine cx ?_;refine sc (fun hc=>?_) (fun hc=>?_)<;>try exact hc.elim)|(refine lx ?_;refine sp (fun hc=>?_) (fun hc=>?_)<;>try exact hc.elim)|refine sx ?_ ?_|refine sy ?_ ?_|fail
          all_goals (try (first | (refine ⟨.inr rfl, .inl ?_⟩; simp [HandsV, Tryz.results151]; done) | (refine ⟨.inr rfl, .inr (handsVB_of ?_)⟩; simp [AS.rvB, AS.rvs, AS.rv, Tryz.results151]; done) | (refine ⟨.inr rfl, .inl ?_⟩; simp [HandsV, Tryz.results151])))
          all_goals first | exact absurd (by assumption) h0 | omega | simp_all
        · rw [if_neg hF]
          refine entN Tryz.mix Tryz.func151 Tryz.ntmps151 ?_
          have W := And.intro h0 (And.intro hF (And.intro hx tk))
          have V := And.intro h0 tk
          repeat' first|refine st ?_|(refine nx ?_;first|refine se ?_|refine so ?_)|(refine cx ?_;refine sc (fun hc=>?_) (fun hc=>?_)<;>try exact hc.elim)|(refine lx ?_;refine sp (fun hc=>?_) (fun hc=>?_)<;>try exact hc.elim)|refine sx ?_ ?_|refine sy ?_ ?_|fail
          all_goals (try (first | (refine ⟨.inr rfl, .inl ?_⟩; simp [HandsV, Tryz.results151]; done) | (refine ⟨.inr rfl, .inr (handsVB_of ?_)⟩; simp [AS.rvB, AS.rvs, AS.rv, Tryz.results151]; done) | (refine ⟨.inr rfl, .inl ?_⟩; simp [HandsV, Tryz.results151])))
          all_goals first | exact absurd (by assumption) h0 | omega | simp_all
      · rw [if_neg hx] at cF ⊢
        by_cases hF : F = s
        · rw [if_pos hF]
          refine entN Tryz.mix Tryz.func151 Tryz.ntmps151 ?_
          have W := And.intro h0 (And.intro hF (And.intro hx tk))
          have V := And.intro h0 tk
          repeat' first|refine st ?_|(refine nx ?_;first|refine se ?_|refine so ?_)|(refine cx ?_;refine sc (fun hc=>?_) (fun hc=>?_)<;>try exact hc.elim)|(refine lx ?_;refine sp (fun hc=>?_) (fun hc=>?_)<;>try exact hc.elim)|refine sx ?_ ?_|refine sy ?_ ?_|fail
          all_goals (try (first | (refine ⟨.inr rfl, .inl ?_⟩; simp [HandsV, Tryz.results151]; done) | (refine ⟨.inr rfl, .inr (handsVB_of ?_)⟩; simp [AS.rvB, AS.rvs, AS.rv, Tryz.results151]; done) | (refine ⟨.inr rfl, .inl ?_⟩; simp [HandsV, Tryz.results151])))
          all_goals first | exact absurd (by assumption) h0 | omega | simp_all
        · rw [if_neg hF]
          refine entN Tryz.mix Tryz.func151 Tryz.ntmps151 ?_
          have W := And.intro h0 (And.intro hF (And.intro hx tk))
          have V := And.intro h0 tk
          repeat' first|refine st ?_|(refine nx ?_;first|refine se ?_|refine so ?_)|(refine cx ?_;refine sc (fun hc=>?_) (fun hc=>?_)<;>try exact hc.elim)|(refine lx ?_;refine sp (fun hc=>?_) (fun hc=>?_)<;>try exact hc.elim)|refine sx ?_ ?_|refine sy ?_ ?_|fail
          all_goals (try (first | (refine ⟨.inr rfl, .inl ?_⟩; simp [HandsV, Tryz.results151]; done) | (refine ⟨.inr rfl, .inr (handsVB_of ?_)⟩; simp [AS.rvB, AS.rvs, AS.rv, Tryz.results151]; done) | (refine ⟨.inr rfl, .inl ?_⟩; simp [HandsV, Tryz.results151])))
          all_goals first | exact absurd (by assumption) h0 | omega | simp_all
  have := hres _ e (key _ e _ rfl)
  by_cases hF : fmtPolicy (polAt nonceS s) = s
  · rw [if_pos hF] at this ⊢
    rw [e]
    exact this.vwas (by simp [rt, rtc])
  · rw [if_neg hF] at this ⊢
    exact this.vwas (by simp [rt, rtc, noPol])
end Go.Proofs.YtphofanfadgalaaGreatDoor
