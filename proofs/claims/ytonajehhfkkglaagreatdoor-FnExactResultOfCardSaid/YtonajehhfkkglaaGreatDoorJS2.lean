/-
  Proved here: steps towards the statement of this claim, text JS2.
  No condition beyond what each statement spells out.
-/
import Derived.Test.YtonajehhfkkglaaGreatDoorJS1
import Derived.Test.YtonajehhfkkglaaGreatDoorF9
import Derived.Test.YtonajehhfkkglaaGreatDoorF8
import Derived.Sort.Walk0
set_option linter.all false
set_option maxRecDepth 4000
set_option maxHeartbeats 4000000
namespace Go.Proofs.YtonajehhfkkglaaGreatDoor
open Go.Aw
def jRule (ss : List DSheet) (n : Str) : DRule := ⟨n, colorOf ss n⟩
@[simp] theorem rswr_rules (i j : Nat) : ∀ l : List DRule, rswr i j (l.map eRule) = l.map eRule
  | [] => rfl
  | x :: l => by simp only [List.map_cons, rswr, rswr_rules i j l]; simp [rswc, rsw, eRule]
@[simp] theorem rswr_sheets (i j : Nat) : ∀ l : List DSheet, rswr i j (l.map (eSheet .view)) = l.map (eSheet .view)
  | [] => rfl
  | x :: l => by simp only [List.map_cons, rswr, rswr_sheets i j l]; simp [rswc, rsw, eSheet]
theorem take_rows (l : List DRule) (n : Nat) (h : l.length = n) : List.take n (List.map eRule l) = List.map eRule l := List.take_of_length_le (by simp [h])
theorem weak_join {t t' : List AV} {o o' : List AObj} {o0 l4 : AObj} {v d : Nat} {L L0 : List (List AV)} (ho : o = [o0, ⟨true, true, 1, 0, [[.obj 3 v]]⟩, ⟨false, false, 2, d, L0⟩, ⟨true, false, 2, v, L⟩, l4]) (ho' : o' = [o0, ⟨true, true, 1, 0, [[.obj 2 v]]⟩, ⟨true, false, 2, v, L⟩])
    (hv : v ≠ 0) (h0 : o0.rsw 2 3 = o0) (hw : wk t t') (h1 : wk (rswc 2 3 t') t') (hc : closedc 3 t' = true) (hc0 : closedo 3 [o0] = true) : Weak ⟨t, o⟩ ⟨t', o'⟩ := by
  subst ho; subst ho'
  refine (weak_t hw).trans ?_
  refine (weak_swp 2 3 rfl rfl ⟨rfl, rfl⟩ (by simp [h0, hv]; rfl) h1).trans ?_
  refine weak_take 3 (by simp) (wk_rfl _) hc ?_
  simpa [closedo, closedc, closed] using hc0
theorem specJoinSheets_ok [Tabs Tryz.prog] (ss : List DSheet) (hl : ss.length ≤ 1099511627776) (hr : ∀ x ∈ ss, x.rules.length ≤ 1099511627776) (hn : (namesOf ss).length ≤ 1099511627776) : Ok Tryz.prog 24 [.sl .view 1 (ss.map (eSheet .view))] (.agg (eSheet .own (joinSheet ss))) := by
  have cC := fun n => specColorOf_ok ss n hl hr
  obtain ⟨A, hA⟩ : ∃ A : List Str → List Str, ∀ l, A l = l.foldl insName [] := ⟨_, fun _ => rfl⟩
  have hA0 : A (namesOf []) = [] := by rw [hA]; rfl
  have hAs : ∀ l n, A (l ++ [n]) = insName (A l) n := fun l n => by rw [hA, hA, List.foldl_append]; rfl
  have hAp : ∀ l, (A l).Pairwise (· < ·) := fun l => by rw [hA]; exact (insAll_asc l [] List.Pairwise.nil).1
  have hAl : ∀ l, (A l).length ≤ l.length := by
    intro l
    have e : ∀ (l acc : List Str), (l.foldl insName acc).length ≤ acc.length + l.length := by
      intro l
      induction l with
      | nil => intro acc; simp
      | cons n l ih =>
        intro acc
        have h1 := ih (insName acc n)
        have h2 : (insName acc n).length ≤ acc.length + 1 := by
          unfold insName
          split
          · omega
          · simp only [List.length_append, List.length_take, List.length_cons, List.length_drop]; omega
        simp only [List.foldl_cons, List.length_cons]
        omega
    have := e l []
    rw [hA]; simpa using this
  refine ent Tryz.mix Tryz.func24 Tryz.ntmps24 ?_
  have W := trivial
  repeat' first|refine st ?_|(refine nx ?_;first|refine sz ?_|refine so ?_)|(refine cx ?_;refine sc (fun hc=>?_) (fun hc=>?_)<;>try exact hc.elim)|(refine lx ?_;refine sp (fun hc=>?_) (fun hc=>?_)<;>try exact hc.elim)|refine sx ?_ ?_|refine sy ?_ ?_|fail
  refine awp_loop' (ι := { q : Nat × Nat // q.1 ≤ ss.length ∧ 1 ≤ q.2 }) (fun t o i => ⟨upds t [(4, .int .i64 i.1.1), (5, .undef), (6, .undef), (7, .undef), (8, .undef), (9, .undef)], o.take 1 ++ [⟨true, true, 1, 0, [[.obj 2 i.1.2]]⟩, ⟨true, false, 2, i.1.2, ((A (namesOf (ss.take i.1.1))).map (jRule ss)).map eRule⟩]⟩)
    (fun i => ss.length - i.1.1) ⟨(0, 1), by simp, by simp⟩ (weak_openB 1 0 0 (ob := ⟨true, true, 1, 0, [[.sl .own 2 []]]⟩) (by rfl) (by rfl) (by rfl) (by simp [hA0]) (by rfl) (by rfl) (by simp [hA0]) (by simp [rtc, rt, dropf, hA0])) ?_
  rintro ⟨⟨k, v⟩, hk, hv⟩ K1 hK1
  simp only at hk hv
  simp only [upds, List.set_cons_succ, List.set_cons_zero, List.take_succ_cons, List.take_zero, List.cons_append, List.nil_append] at hK1 ⊢
  have hk1 : IntKind.i64.wrap ((k : Int) + 1) = ((k + 1 : Nat) : Int) := by rw [wrap64] <;> omega
  by_cases hlt : k < ss.length
  · have hg := List.getElem?_eq_getElem hlt
    have hrk := hr _ (List.getElem_mem hlt)
    have hns := names_succ hlt
    have hnl := fun m (h : m ≤ ss[k].rules.length) => names_le hlt h
    have W := And.intro hk1 (And.intro hg hlt)
    repeat' first|refine st ?_|(refine nx ?_;first|refine sz ?_|refine so ?_)|(refine cx ?_;refine sc (fun hc=>?_) (fun hc=>?_)<;>try exact hc.elim)|(refine lx ?_;refine sp (fun hc=>?_) (fun hc=>?_)<;>try exact hc.elim)|refine sx ?_ ?_|refine sy ?_ ?_|fail
    obtain ⟨rl, hrl⟩ : ∃ rl, rl = ss[k].rules := ⟨_, rfl⟩
    have hrk2 : rl.length ≤ 1099511627776 := by rw [hrl]; exact hrk
    obtain ⟨N, hN⟩ : ∃ N : Nat → List Str, ∀ m, N m = namesOf (ss.take k) ++ (rl.take m).map (·.name) := ⟨_, fun _ => rfl⟩
    have hN0 : N 0 = namesOf (ss.take k) := by rw [hN]; simp
    have hNe : N rl.length = namesOf (ss.take (k + 1)) := by rw [hN, List.take_length, hns, hrl]
    have hNs : ∀ m (h : m < rl.length), N (m + 1) = N m ++ [rl[m].name] := fun m h => by
      rw [hN, hN, List.take_succ_eq_append_getElem h]; simp only [List.map_append, List.append_assoc, List.map_cons, List.map_nil]
    have hNl : ∀ m, m ≤ rl.length → (N m).length ≤ 1099511627776 := fun m h => by
      have := hnl m (by rw [← hrl]; exact h)
      rw [hN]
      simp only [List.length_map, List.length_append, List.length_take]
      omega
    refine awp_loop' (ι := { q : Nat × Nat // q.1 ≤ rl.length ∧ 1 ≤ q.2 }) (fun t o i => ⟨upds t [(5, .int .i64 i.1.1), (6, .undef), (7, .undef), (8, .undef)], o.take 1 ++ [⟨true, true, 1, 0, [[.obj 2 i.1.2]]⟩, ⟨true, false, 2, i.1.2, ((A (N i.1.1)).map (jRule ss)).map eRule⟩]⟩)
      (fun i => rl.length - i.1.1) ⟨(0, v), by simp, by simpa using hv⟩ (weak_o (by simp [hN0]) (by simp)) ?_
    clear hN hN0 hns hnl
    rintro ⟨⟨m, u⟩, hm, hu⟩ K2 hK2
    simp only at hm hu
    simp only [upds, List.set_cons_succ, List.set_cons_zero, List.take_succ_cons, List.take_zero, List.cons_append, List.nil_append, List.drop_succ_cons, List.drop_zero] at hK2 ⊢
    have hm1 : IntKind.i64.wrap ((m : Int) + 1) = ((m + 1 : Nat) : Int) := by rw [wrap64] <;> omega
    by_cases hltm : m < rl.length
    · have hgm := List.getElem?_eq_getElem hltm
      have hNs := hNs m hltm
      have hNl := hNl m hm
      have hap := hAp (N m)
      have hal := hAl (N m)
      have hins := hAs (N m) rl[m].name
      rw [← hNs] at hins
      generalize A (N m) = B at *
      have hBl : B.length ≤ 1099511627776 := by omega
      have hrg : ∀ j (h : j < B.length), (B.map (jRule ss))[j]? = some ⟨B[j], colorOf ss B[j]⟩ := fun j h => by simp [h, jRule]
      have hRl : (B.map (jRule ss)).length = B.length := by simp
      have hfin : ∀ J n, J ≤ B.length → A (N (m + 1)) = B.take J ++ n :: B.drop J → ((A (N (m + 1))).map (jRule ss)).map eRule = ((B.map (jRule ss)).map eRule).take J ++ [.str n, .int .i64 (colorOf ss n)] :: ((B.map (jRule ss)).map eRule).drop J := by
        intro J n _ h
        rw [h]; simp [jRule]
      generalize hRLd : B.map (jRule ss) = RL at *
      subst hrl
      have W := And.intro hm1 (And.intro hg (And.intro hlt (And.intro hgm hltm)))
      repeat' first|refine st ?_|(refine nx ?_;first|refine sz ?_|refine so ?_)|(refine cx ?_;refine sc (fun hc=>?_) (fun hc=>?_)<;>try exact hc.elim)|(refine lx ?_;refine sp (fun hc=>?_) (fun hc=>?_)<;>try exact hc.elim)|refine sx ?_ ?_|refine sy ?_ ?_|fail
      have hlss := fun x : Str => Proofs.bytesLess_eq ss[k].rules[m].name x
      generalize hnm : ss[k].rules[m].name = n at *
      have cc := cC n
      refine awp_loop' (ι := { j : Nat // j ≤ B.length ∧ ∀ x ∈ B.drop j, n < x }) (fun t o i => ⟨upds t [(7, .int .i64 i.1)], o⟩)
        (fun i => i.1) ⟨B.length, by simp, by simp⟩ (weak_o (by simp) (by simp [hRl])) ?_
      rintro ⟨j, hj, hjd⟩ K3 hK3
      simp only [upds, List.set_cons_succ, List.set_cons_zero] at hK3 ⊢
      cases j with
      | zero =>
        have hat : insAt B n = 0 := insAt_eq (by omega) hjd (fun x h => absurd h (by omega))
        have hf := hfin 0 n (by omega) (by rw [hins]; unfold insName; rw [hat, if_neg (by simp)])
        generalize colorOf ss n = c at *
        have W := And.intro hRl hm1
        repeat' first|refine st ?_|(refine nx ?_;first|refine sz ?_|refine so ?_)|(refine cx ?_;refine sc (fun hc=>?_) (fun hc=>?_)<;>try exact hc.elim)|(refine lx ?_;refine sp (fun hc=>?_) (fun hc=>?_)<;>try exact hc.elim)|refine sx ?_ ?_|refine sy ?_ ?_|fail
        have htk : List.take B.length (List.map eRule RL) = List.map eRule RL := List.take_of_length_le (by simp [hRl])
        refine hK2 _ ⟨(m + 1, 4), by simp only; omega, by simp⟩ ?_ (by simp only; omega)
        exact weak_join rfl (by simp only [hf, htk]; simp) (by simp) (by simp) (by simp) (by simp) (by simp) (by simp [closedo, closedc, closed])
      | succ j =>
        have hjl : j < B.length := by omega
        have hgj := hrg j hjl
        have hrn : ∀ h, (RL[j]'h).name = B[j] := fun h => by
          have := hgj
          rw [List.getElem?_eq_getElem h] at this
          rw [Option.some.inj this]
        have hk0 : (((j + 1 : Nat) : Int) - 1) = (j : Int) := by omega
        have hw0 : IntKind.i64.wrap ((j : Int)) = (j : Int) := by rw [wrap64] <;> omega
        have hlb := hlss B[j]
        have hpos : (0 : Int) < ((j + 1 : Nat) : Int) := by omega
        by_cases hb : n < B[j]
        · rw [decide_eq_true hb] at hlb
          have hjd2 : ∀ x ∈ B.drop j, n < x := by
            intro x hx
            rw [List.drop_eq_getElem_cons hjl] at hx
            rcases List.mem_cons.1 hx with e | hx
            · subst e; exact hb
            · exact hjd x hx
          clear hfin hlss hrg hNs
          have W := And.intro hpos (And.intro hk0 (And.intro hw0 (And.intro hgj (And.intro hlb (And.intro hjl hrn)))))
          repeat' first|refine st ?_|(refine nx ?_;first|refine sz ?_|refine so ?_)|(refine cx ?_;refine sc (fun hc=>?_) (fun hc=>?_)<;>try exact hc.elim)|(refine lx ?_;refine sp (fun hc=>?_) (fun hc=>?_)<;>try exact hc.elim)|refine sx ?_ ?_|refine sy ?_ ?_|fail
          exact hK3 _ ⟨j, by omega, hjd2⟩ (weak_o (by simp) (by simp)) (by simp only; omega)
        · rw [decide_eq_false hb] at hlb
          have hat : insAt B n = j + 1 := insAt_eq (by omega) hjd (fun x _ hx => by
            rw [Nat.add_sub_cancel, List.getElem?_eq_getElem hjl] at hx
            obtain rfl := Option.some.inj hx
            exact hb)
          by_cases he : B[j] = n
          · have hsame : A (N (m + 1)) = B := by
              rw [hins]; unfold insName; rw [hat, if_pos ⟨by omega, by rw [Nat.add_sub_cancel, List.getElem?_eq_getElem hjl, he]⟩]
            have hrow : ((A (N (m + 1))).map (jRule ss)).map eRule = RL.map eRule := by rw [hsame, hRLd]
            clear hfin hlss hrg hNs hRLd
            rw [he] at hlb hrn hgj
            have W := And.intro hpos (And.intro hk0 (And.intro hw0 (And.intro hgj (And.intro hlb (And.intro hjl (And.intro hrn hm1))))))
            repeat' first|refine st ?_|(refine nx ?_;first|refine sz ?_|refine so ?_)|(refine cx ?_;refine sc (fun hc=>?_) (fun hc=>?_)<;>try exact hc.elim)|(refine lx ?_;refine sp (fun hc=>?_) (fun hc=>?_)<;>try exact hc.elim)|refine sx ?_ ?_|refine sy ?_ ?_|fail
            refine hK2 _ ⟨(m + 1, u), by simp only; omega, hu⟩ ?_ (by simp only; omega)
            simp only [hrow]
            exact weak_o (by simp) (by simp)
          · have hf := hfin (j + 1) n (by omega) (by rw [hins]; unfold insName; rw [hat, if_neg (fun h => he (by have := h.2; rw [Nat.add_sub_cancel, List.getElem?_eq_getElem hjl] at this; exact Option.some.inj this))])
            have hjB : j + 1 ≤ B.length := hj
            generalize colorOf ss n = c at *
            clear hfin hlss hrg hNs hRLd
            have hjBi : ((j : Int) + 1) ≤ (B.length : Int) := by omega
            have htn : ((j : Int) + 1).toNat = j + 1 := by omega
            have hj0 : (0 : Int) ≤ (j : Int) + 1 := by omega
            have W := And.intro hpos (And.intro hk0 (And.intro hw0 (And.intro hgj (And.intro hlb (And.intro hjl (And.intro hrn (And.intro he (And.intro hm1 (And.intro hRl (And.intro hjB (And.intro hjBi (And.intro htn hj0))))))))))))
            repeat' first|refine st ?_|(refine nx ?_;first|refine sz ?_|refine so ?_)|(refine cx ?_;refine sc (fun hc=>?_) (fun hc=>?_)<;>try exact hc.elim)|(refine lx ?_;refine sp (fun hc=>?_) (fun hc=>?_)<;>try exact hc.elim)|refine sx ?_ ?_|refine sy ?_ ?_|fail
            all_goals first
              | exact absurd (by assumption) he
              | (have htk := take_rows RL B.length hRl
                 refine hK2 _ ⟨(m + 1, 4), by simp only; omega, by simp⟩ ?_ (by simp only; omega)
                 exact weak_join rfl (by simp only [hf, htk] <;> simp) (by simp) (by simp) (by simp) (by simp) (by simp) (by simp [closedo, closedc, closed]))
    · have htk : m = rl.length := by omega
      subst htk
      rw [hNe]
      subst hrl
      have W := And.intro hm1 (And.intro hk1 (And.intro hg hlt))
      repeat' first|refine st ?_|(refine nx ?_;first|refine sz ?_|refine so ?_)|(refine cx ?_;refine sc (fun hc=>?_) (fun hc=>?_)<;>try exact hc.elim)|(refine lx ?_;refine sp (fun hc=>?_) (fun hc=>?_)<;>try exact hc.elim)|refine sx ?_ ?_|refine sy ?_ ?_|fail
      exact hK1 _ ⟨(k + 1, u), by simp only; omega, hu⟩ (weak_o (by simp) (by simp)) (by simp only; omega)
  · have htk : ss.take k = ss := List.take_of_length_le (by omega)
    rw [htk, hA]
    unfold joinSheet joinRules
    generalize hRL : (List.foldl insName [] (namesOf ss)).map (jRule ss) = RL at *
    have e : ((namesOf ss).foldl insName []).map (fun n => (⟨n, colorOf ss n⟩ : DRule)) = RL := by rw [← hRL]; rfl
    rw [e]
    have W := hlt
    repeat' first|refine st ?_|(refine nx ?_;first|refine sz ?_|refine so ?_)|(refine cx ?_;refine sc (fun hc=>?_) (fun hc=>?_)<;>try exact hc.elim)|(refine lx ?_;refine sp (fun hc=>?_) (fun hc=>?_)<;>try exact hc.elim)|refine sx ?_ ?_|refine sy ?_ ?_|fail
    all_goals (try (refine ⟨.inr rfl, ?_⟩; simp [Hands, Tryz.results24]))
end Go.Proofs.YtonajehhfkkglaaGreatDoor
