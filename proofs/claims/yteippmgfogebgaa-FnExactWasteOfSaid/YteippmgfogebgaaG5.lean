/-
  Proved here: contracts of SizeResponse and WasteOf, in the reference and in the program.
  No condition beyond what each statement spells out.
-/
import Derived.Test.YteippmgfogebgaaG4s
set_option linter.unusedSimpArgs false
set_option linter.unusedVariables false
namespace Go.Proofs.Yteippmgfogebgaa
open Go.Aw

theorem specSize_ok (x : DResp) (h : x.body.length ≤ 1048576) : Ok Try.prog 36 [.agg (eResp x)] (.int .i64 (x.body.length + 20 : Nat)) := by
  have hk : IntKind.i64.wrap ((x.body.length : Int) + 20) = (x.body.length : Int) + 20 := by rw [wrap64] <;> omega
  have hk2 : IntKind.i64.wrap (20 + (x.body.length : Int)) = (x.body.length : Int) + 20 := by rw [wrap64] <;> omega
  refine ok_of_awp Try.mix Try.func36 rfl ?_
  simp only [Try.ntmps36, List.length_cons, List.length_nil, Nat.reduceSub, Nat.reduceAdd, List.replicate_succ, List.replicate_zero, List.cons_append, List.nil_append]
  repeat' (first
    | (refine awpL_cons rfl fun K hK => ?_; simp [aop, hk, hk2]; (try simp (disch := omega) only [wrap64]); refine hK _ ?_; clear hK K)
    | refine awpL_nil ?_
    | refine awp_seq fun K hK => ?_
    | refine awp_region ?_
    | refine awp_then (by assumption) ?_
    | refine awp_then_ret ?_
    | refine awp_then_exit ?_
    | refine awp_in_normal ?_
    | refine awp_in_ret ?_
    | refine awp_in_eq ?_
    | refine awp_in_ne (by decide) ?_
    | refine awp_ret ?_
    | (refine awp_cond rfl (fun hc => ?_) (fun hc => ?_) <;> simp at hc <;> (try (exfalso; omega)))
    | refine awp_block ?_
    | refine awp_exit ?_
    | refine awp_skip ?_)
  all_goals (try (refine ⟨.inr rfl, ?_⟩; simp [Hands, Try.results36]))
theorem implSize_ok (x : DResp) (h : x.body.length ≤ 1048576) : Ok Try.prog 37 [.agg (eResp x)] (.int .i64 (x.body.length + 20 : Nat)) := by
  have hk : IntKind.i64.wrap ((x.body.length : Int) + 20) = (x.body.length : Int) + 20 := by rw [wrap64] <;> omega
  refine ok_of_awp Try.mix Try.func37 rfl ?_
  simp only [Try.ntmps37, List.length_cons, List.length_nil, Nat.reduceSub, Nat.reduceAdd, List.replicate_succ, List.replicate_zero, List.cons_append, List.nil_append]
  repeat' (first
    | (refine awpL_cons rfl fun K hK => ?_; simp [aop, hk]; (try simp (disch := omega) only [wrap64]); refine hK _ ?_; clear hK K)
    | refine awpL_nil ?_
    | refine awp_seq fun K hK => ?_
    | refine awp_region ?_
    | refine awp_then (by assumption) ?_
    | refine awp_then_ret ?_
    | refine awp_then_exit ?_
    | refine awp_in_normal ?_
    | refine awp_in_ret ?_
    | refine awp_in_eq ?_
    | refine awp_in_ne (by decide) ?_
    | refine awp_ret ?_
    | (refine awp_cond rfl (fun hc => ?_) (fun hc => ?_) <;> simp at hc <;> (try (exfalso; omega)))
    | refine awp_block ?_
    | refine awp_exit ?_
    | refine awp_skip ?_)
  all_goals (try (refine ⟨.inr rfl, ?_⟩; simp [Hands, Try.results37]))

def wasteN (g : DGuess) : Nat := if g.used then 0 else g.resp.body.length + 20
theorem waste_le (l : List DGuess) : sumN wasteN l ≤ sumN szG l + 20 * l.length := by
  induction l with
  | nil => simp [sumN]
  | cons x xs ih =>
    simp only [sumN, List.length_cons]
    have : wasteN x ≤ szG x + 20 := by unfold wasteN szG szR; split <;> omega
    omega
theorem szG_le {l : List DGuess} {g : DGuess} (h : g ∈ l) : szG g ≤ sumN szG l := by
  induction l with
  | nil => cases h
  | cons x xs ih =>
    simp only [sumN]
    rcases List.mem_cons.1 h with rfl | h
    · omega
    · have := ih h; omega
theorem body_le (g : DGuess) : g.resp.body.length ≤ szG g := by unfold szG szR; omega

theorem specWaste_ok (l : List DGuess) (hl : szL szG l ≤ 1048576) : Ok Try.prog 18 [.sl .view 9 (l.map eGuess)] (.int .i64 (sumN wasteN l)) := by
  unfold szL at hl
  refine ok_of_awp Try.mix Try.func18 rfl ?_
  simp only [Try.ntmps18, List.length_cons, List.length_nil, Nat.reduceSub, Nat.reduceAdd, List.replicate_succ, List.replicate_zero, List.cons_append, List.nil_append]
  repeat' (first
    | (refine awpL_cons rfl fun K hK => ?_; simp [aop]; (try simp (disch := omega) only [wrap64]); refine hK _ ?_; clear hK K)
    | refine awpL_nil ?_
    | refine awp_seq fun K hK => ?_
    | refine awp_region ?_
    | refine awp_then (by assumption) ?_
    | refine awp_then_ret ?_
    | refine awp_then_exit ?_
    | refine awp_in_normal ?_
    | refine awp_in_ret ?_
    | refine awp_in_eq ?_
    | refine awp_in_ne (by decide) ?_
    | refine awp_ret ?_
    | (refine awp_cond rfl (fun hc => ?_) (fun hc => ?_) <;> simp at hc <;> (try (exfalso; omega)))
    | refine awp_block ?_
    | refine awp_exit ?_
    | refine awp_skip ?_)
  refine awp_loop (ι := { k : Nat // k ≤ l.length })
    (fun i => ⟨[.sl .view 9 (l.map eGuess), .undef, .undef, .int .i64 (sumN wasteN (l.take i.1) : Nat), .int .i64 i.1, .undef, .undef, .undef, .undef, .undef, .undef, .undef, .undef, .undef, .undef, .undef, .undef, .undef, .undef, .undef, .undef, .undef, .undef, .undef, .undef, .undef], []⟩)
    (fun i => l.length - i.1) ⟨0, by simp⟩ (weak_o (by simp) (by simp [sumN])) ?_
  rintro ⟨k, hk⟩ K1 hK1
  have hk1 : IntKind.i64.wrap ((k : Int) + 1) = ((k + 1 : Nat) : Int) := by rw [wrap64] <;> omega
  by_cases hlt : k < l.length
  · have hg := List.getElem?_eq_getElem hlt
    have hts := sumN_take_succ wasteN l k hlt
    have hle := sumN_take_le wasteN l (k + 1)
    have hle2 := waste_le l
    have hb : l[k].resp.body.length ≤ 1048576 := by
      have h1 := szG_le (List.getElem_mem hlt)
      have h2 := body_le l[k]
      omega
    by_cases hu : l[k].used = true
    · have hw : wasteN l[k] = 0 := by simp [wasteN, hu]
      repeat' (first
        | (refine awpL_cons rfl fun K hK => ?_; simp [aop, hk1, hg, hu]; (try simp (disch := omega) only [wrap64]); refine hK _ ?_; clear hK K)
        | (refine awpL_cons rfl fun K hK => ?_; simp [aop, hk1, hg, hlt, hu]; (try simp (disch := omega) only [wrap64]); refine hK _ ?_; clear hK K)
        | refine awpL_nil ?_
        | refine awp_seq fun K hK => ?_
        | refine awp_region ?_
        | refine awp_then (by assumption) ?_
        | refine awp_then_ret ?_
        | refine awp_then_exit ?_
        | refine awp_in_normal ?_
        | refine awp_in_ret ?_
        | refine awp_in_eq ?_
        | refine awp_in_ne (by decide) ?_
        | refine awp_ret ?_
        | (refine awp_cond rfl (fun hc => ?_) (fun hc => ?_) <;> simp at hc <;> (try (exfalso; omega)))
        | refine awp_block ?_
        | refine awp_exit ?_
        | refine awp_skip ?_)
      refine hK1 _ ⟨k + 1, by omega⟩ (weak_o (by simp) ?_) (by simp only; omega)
      simp [hts, hw]
    · have hw : wasteN l[k] = l[k].resp.body.length + 20 := by simp [wasteN, hu]
      have hadd : IntKind.i64.wrap ((sumN wasteN (l.take k) : Int) + ((l[k].resp.body.length : Int) + 20)) = ((sumN wasteN (l.take k) + (l[k].resp.body.length + 20) : Nat) : Int) := by rw [wrap64] <;> omega
      simp only [Bool.not_eq_true] at hu
      repeat' (first
        | (refine awpL_cons rfl fun K hK => ?_; simp [aop, hk1, hg, hu, hadd]; refine ⟨_, (specSize_ok l[k].resp hb), hK _ ?_⟩; clear hK K)
        | (refine awpL_cons rfl fun K hK => ?_; simp [aop, hk1, hg, hu, hadd]; (try simp (disch := omega) only [wrap64]); refine hK _ ?_; clear hK K)
        | (refine awpL_cons rfl fun K hK => ?_; simp [aop, hk1, hg, hlt, hu]; (try simp (disch := omega) only [wrap64]); refine hK _ ?_; clear hK K)
        | refine awpL_nil ?_
        | refine awp_seq fun K hK => ?_
        | refine awp_region ?_
        | refine awp_then (by assumption) ?_
        | refine awp_then_ret ?_
        | refine awp_then_exit ?_
        | refine awp_in_normal ?_
        | refine awp_in_ret ?_
        | refine awp_in_eq ?_
        | refine awp_in_ne (by decide) ?_
        | refine awp_ret ?_
        | (refine awp_cond rfl (fun hc => ?_) (fun hc => ?_) <;> simp at hc <;> (try (exfalso; omega)))
        | refine awp_block ?_
        | refine awp_exit ?_
        | refine awp_skip ?_)
      refine hK1 _ ⟨k + 1, by omega⟩ (weak_o (by simp) ?_) (by simp only; omega)
      simp [hts, hw]
  · repeat' (first
      | (refine awpL_cons rfl fun K hK => ?_; simp [aop, hk1]; (try simp (disch := omega) only [wrap64]); refine hK _ ?_; clear hK K)
      | refine awpL_nil ?_
      | refine awp_seq fun K hK => ?_
      | refine awp_region ?_
      | refine awp_then (by assumption) ?_
      | refine awp_then_ret ?_
      | refine awp_then_exit ?_
      | refine awp_in_normal ?_
      | refine awp_in_ret ?_
      | refine awp_in_eq ?_
      | refine awp_in_ne (by decide) ?_
      | refine awp_ret ?_
      | (refine awp_cond rfl (fun hc => ?_) (fun hc => ?_) <;> simp at hc <;> (try (exfalso; omega)))
      | refine awp_block ?_
      | refine awp_exit ?_
      | refine awp_skip ?_)
    all_goals (try (refine ⟨.inr rfl, ?_⟩; simp [Hands, Try.results18]))
    rw [List.take_of_length_le (by omega)]

theorem implWaste_ok (l : List DGuess) (hl : szL szG l ≤ 1048576) : Ok Try.prog 19 [.sl .view 9 (l.map eGuess)] (.int .i64 (sumN wasteN l)) := by
  unfold szL at hl
  refine ok_of_awp Try.mix Try.func19 rfl ?_
  simp only [Try.ntmps19, List.length_cons, List.length_nil, Nat.reduceSub, Nat.reduceAdd, List.replicate_succ, List.replicate_zero, List.cons_append, List.nil_append]
  repeat' (first
    | (refine awpL_cons rfl fun K hK => ?_; simp [aop]; (try simp (disch := omega) only [wrap64]); refine hK _ ?_; clear hK K)
    | refine awpL_nil ?_
    | refine awp_seq fun K hK => ?_
    | refine awp_region ?_
    | refine awp_then (by assumption) ?_
    | refine awp_then_ret ?_
    | refine awp_then_exit ?_
    | refine awp_in_normal ?_
    | refine awp_in_ret ?_
    | refine awp_in_eq ?_
    | refine awp_in_ne (by decide) ?_
    | refine awp_ret ?_
    | (refine awp_cond rfl (fun hc => ?_) (fun hc => ?_) <;> simp at hc <;> (try (exfalso; omega)))
    | refine awp_block ?_
    | refine awp_exit ?_
    | refine awp_skip ?_)
  refine awp_loop (ι := { k : Nat // k ≤ l.length })
    (fun i => ⟨[.sl .view 9 (l.map eGuess), .undef, .undef, .int .i64 (sumN wasteN (l.take i.1) : Nat), .undef, .undef, .sl .view 9 (l.map eGuess), .int .i64 l.length, .int .i64 i.1, .undef, .undef, .undef, .undef, .undef, .undef, .undef, .undef, .undef, .undef, .undef, .undef, .undef], []⟩)
    (fun i => l.length - i.1) ⟨0, by simp⟩ (weak_o (by simp) (by simp [sumN])) ?_
  rintro ⟨k, hk⟩ K1 hK1
  have hk1 : IntKind.i64.wrap ((k : Int) + 1) = ((k + 1 : Nat) : Int) := by rw [wrap64] <;> omega
  by_cases hlt : k < l.length
  · have hg := List.getElem?_eq_getElem hlt
    have hts := sumN_take_succ wasteN l k hlt
    have hle := sumN_take_le wasteN l (k + 1)
    have hle2 := waste_le l
    have hb : l[k].resp.body.length ≤ 1048576 := by
      have h1 := szG_le (List.getElem_mem hlt)
      have h2 := body_le l[k]
      omega
    by_cases hu : l[k].used = true
    · have hw : wasteN l[k] = 0 := by simp [wasteN, hu]
      repeat' (first
        | (refine awpL_cons rfl fun K hK => ?_; simp [aop, hk1, hg, hu]; (try simp (disch := omega) only [wrap64]); refine hK _ ?_; clear hK K)
        | (refine awpL_cons rfl fun K hK => ?_; simp [aop, hk1, hg, hlt, hu]; (try simp (disch := omega) only [wrap64]); refine hK _ ?_; clear hK K)
        | refine awpL_nil ?_
        | refine awp_seq fun K hK => ?_
        | refine awp_region ?_
        | refine awp_then (by assumption) ?_
        | refine awp_then_ret ?_
        | refine awp_then_exit ?_
        | refine awp_in_normal ?_
        | refine awp_in_ret ?_
        | refine awp_in_eq ?_
        | refine awp_in_ne (by decide) ?_
        | refine awp_ret ?_
        | (refine awp_cond rfl (fun hc => ?_) (fun hc => ?_) <;> simp at hc <;> (try (exfalso; omega)))
        | refine awp_block ?_
        | refine awp_exit ?_
        | refine awp_skip ?_)
      refine hK1 _ ⟨k + 1, by omega⟩ (weak_take 0 rfl ?_ (by simp) (by simp)) (by simp only; omega)
      simp [hts, hw]
    · have hw : wasteN l[k] = l[k].resp.body.length + 20 := by simp [wasteN, hu]
      have hadd : IntKind.i64.wrap ((sumN wasteN (l.take k) : Int) + ((l[k].resp.body.length : Int) + 20)) = ((sumN wasteN (l.take k) + (l[k].resp.body.length + 20) : Nat) : Int) := by rw [wrap64] <;> omega
      simp only [Bool.not_eq_true] at hu
      repeat' (first
        | (refine awpL_cons rfl fun K hK => ?_; simp [aop, hk1, hg, hu, hadd]; refine ⟨_, (implSize_ok l[k].resp hb), hK _ ?_⟩; clear hK K)
        | (refine awpL_cons rfl fun K hK => ?_; simp [aop, hk1, hg, hu, hadd]; (try simp (disch := omega) only [wrap64]); refine hK _ ?_; clear hK K)
        | (refine awpL_cons rfl fun K hK => ?_; simp [aop, hk1, hg, hlt, hu]; (try simp (disch := omega) only [wrap64]); refine hK _ ?_; clear hK K)
        | refine awpL_nil ?_
        | refine awp_seq fun K hK => ?_
        | refine awp_region ?_
        | refine awp_then (by assumption) ?_
        | refine awp_then_ret ?_
        | refine awp_then_exit ?_
        | refine awp_in_normal ?_
        | refine awp_in_ret ?_
        | refine awp_in_eq ?_
        | refine awp_in_ne (by decide) ?_
        | refine awp_ret ?_
        | (refine awp_cond rfl (fun hc => ?_) (fun hc => ?_) <;> simp at hc <;> (try (exfalso; omega)))
        | refine awp_block ?_
        | refine awp_exit ?_
        | refine awp_skip ?_)
      refine hK1 _ ⟨k + 1, by omega⟩ (weak_take 0 rfl ?_ (by simp) (by simp)) (by simp only; omega)
      simp [hts, hw]
  · repeat' (first
      | (refine awpL_cons rfl fun K hK => ?_; simp [aop, hk1]; (try simp (disch := omega) only [wrap64]); refine hK _ ?_; clear hK K)
      | refine awpL_nil ?_
      | refine awp_seq fun K hK => ?_
      | refine awp_region ?_
      | refine awp_then (by assumption) ?_
      | refine awp_then_ret ?_
      | refine awp_then_exit ?_
      | refine awp_in_normal ?_
      | refine awp_in_ret ?_
      | refine awp_in_eq ?_
      | refine awp_in_ne (by decide) ?_
      | refine awp_ret ?_
      | (refine awp_cond rfl (fun hc => ?_) (fun hc => ?_) <;> simp at hc <;> (try (exfalso; omega)))
      | refine awp_block ?_
      | refine awp_exit ?_
      | refine awp_skip ?_)
    all_goals (try (refine ⟨.inr rfl, ?_⟩; simp [Hands, Try.results19]))
    rw [List.take_of_length_le (by omega)]
end Go.Proofs.Yteippmgfogebgaa
