/-
  Proved here: steps towards the statement of this claim, text JS1.
  No condition beyond what each statement spells out.
-/
import Derived.Test.YtonajehhfkkglaaGreatDoorJS0
import Derived.Test.YtonajehhfkkglaaGreatDoorC1
import Derived.Test.YtonajehhfkkglaaGreatDoorF3
set_option linter.all false
set_option maxRecDepth 4000
set_option maxHeartbeats 4000000
namespace Go.Proofs.YtonajehhfkkglaaGreatDoor
open Go.Aw
def namesOf (ss : List DSheet) : List Str := ss.flatMap fun s => s.rules.map (·.name)
def joinRules (ss : List DSheet) : List DRule := ((namesOf ss).foldl insName []).map fun n => ⟨n, colorOf ss n⟩
def joinSheet (ss : List DSheet) : DSheet := ⟨joinRules ss⟩
theorem names_succ {ss : List DSheet} {k : Nat} (h : k < ss.length) : namesOf (ss.take (k + 1)) = namesOf (ss.take k) ++ ss[k].rules.map (·.name) := by
  unfold namesOf
  rw [List.take_succ_eq_append_getElem h, List.flatMap_append]; simp
theorem names_le {ss : List DSheet} {k m : Nat} (h : k < ss.length) (hm : m ≤ ss[k].rules.length) : (namesOf (ss.take k)).length + m ≤ (namesOf ss).length := by
  have e : namesOf ss = namesOf (ss.take (k + 1)) ++ namesOf (ss.drop (k + 1)) := by
    unfold namesOf
    rw [← List.flatMap_append, List.take_append_drop]
  rw [e, names_succ h]
  simp only [List.length_append, List.length_map]
  omega
@[simp] theorem rtr_sheets (u : List Nat) (b : Bool) (l : List DSheet) : rtr (dropf u) b (l.map (eSheet .view)) = l.map (eSheet .view) := by
  induction l with
  | nil => rfl
  | cons x l ih => rw [List.map_cons, rtr, ih]; simp [rtc, rt, eSheet, dropf]
theorem implJoinSheets_ok [Tabs Tryz.prog] (ss : List DSheet) (hl : ss.length ≤ 1099511627776) (hr : ∀ x ∈ ss, x.rules.length ≤ 1099511627776) (hn : (namesOf ss).length ≤ 1099511627776) : Ok Tryz.prog 37 [.sl .view 1 (ss.map (eSheet .view))] (.agg (eSheet .own (joinSheet ss))) := by
  have cS := sortS_ok (namesOf ss) hn
  have cK := compactS_ok ((namesOf ss).mergeSort fun x y => decide (x ≤ y)) (by rw [List.length_mergeSort]; exact hn)
  rw [join_names] at cK
  have cC := fun n => implColorOf_ok ss n hl hr
  refine ent Tryz.mix Tryz.func37 Tryz.ntmps37 ?_
  have W := trivial
  repeat' first|refine st ?_|(refine nx ?_;refine so ?_)|(refine cx ?_;refine sc (fun hc=>?_) (fun hc=>?_)<;>try exact hc.elim)|(refine lx ?_;refine sp (fun hc=>?_) (fun hc=>?_)<;>try exact hc.elim)|refine sx ?_ ?_|refine sy ?_ ?_|fail
  refine awp_loop' (ι := { q : Nat × Nat // q.1 ≤ ss.length ∧ 1 ≤ q.2 }) (fun t o i => ⟨upds t [(14, .int .i64 i.1.1), (3, .obj 1 i.1.2), (5, .undef), (7, .undef)], o.take 1 ++ [⟨true, false, 1, i.1.2, (namesOf (ss.take i.1.1)).map eStr⟩]⟩)
    (fun i => ss.length - i.1.1) ⟨(0, 1), by simp, by simp⟩ (weak_o (by simp [namesOf]) (by simp)) ?_
  rintro ⟨⟨k, v⟩, hk, hv⟩ K1 hK1
  simp only at hk hv
  simp only [upds, List.set_cons_succ, List.set_cons_zero, List.take_succ_cons, List.take_zero, List.cons_append, List.nil_append] at hK1 ⊢
  have hk1 : IntKind.i64.wrap ((k : Int) + 1) = ((k + 1 : Nat) : Int) := by rw [wrap64] <;> omega
  by_cases hlt : k < ss.length
  · have hg := List.getElem?_eq_getElem hlt
    have hrk := hr _ (List.getElem_mem hlt)
    have hns := names_succ hlt
    have hnl := fun m (h : m ≤ ss[k].rules.length) => names_le hlt h
    have W := And.intro hk1 (And.intro hg hlt)
    repeat' first|refine st ?_|(refine nx ?_;refine so ?_)|(refine cx ?_;refine sc (fun hc=>?_) (fun hc=>?_)<;>try exact hc.elim)|(refine lx ?_;refine sp (fun hc=>?_) (fun hc=>?_)<;>try exact hc.elim)|refine sx ?_ ?_|refine sy ?_ ?_|fail
    generalize ss[k].rules = rl at *
    obtain ⟨G, hG⟩ : ∃ G : Nat → List (List AV), ∀ m, G m = (namesOf (ss.take k) ++ (rl.take m).map (·.name)).map eStr := ⟨_, fun _ => rfl⟩
    have hG0 : G 0 = (namesOf (ss.take k)).map eStr := by rw [hG]; simp
    have hGl : G rl.length = (namesOf (ss.take (k + 1))).map eStr := by rw [hG, List.take_length, hns]
    have hGs : ∀ m (h : m < rl.length), G (m + 1) = G m ++ [[.str rl[m].name]] := fun m h => by
      rw [hG, hG, List.take_succ_eq_append_getElem h]; simp only [List.map_append, List.append_assoc, List.map_cons, List.map_nil, eStr]
    have hGn : ∀ m, m ≤ rl.length → (G m).length ≤ 1099511627776 := fun m h => by
      have := hnl m h
      rw [hG]
      simp only [List.length_map, List.length_append, List.length_take]
      omega
    refine awp_loop' (ι := { q : Nat × Nat // q.1 ≤ rl.length ∧ 1 ≤ q.2 }) (fun t o i => ⟨upds t [(21, .int .i64 i.1.1), (3, .obj 1 i.1.2), (7, .undef)], o.take 1 ++ [⟨true, false, 1, i.1.2, G i.1.1⟩] ++ o.drop 2⟩)
      (fun i => rl.length - i.1.1) ⟨(0, v), by simp, by simpa using hv⟩ (weak_o (by simp [hG0]) (by simp)) ?_
    clear hG hG0 hns hnl
    rintro ⟨⟨m, u⟩, hm, hu⟩ K2 hK2
    simp only at hm hu
    simp only [upds, List.set_cons_succ, List.set_cons_zero, List.take_succ_cons, List.take_zero, List.cons_append, List.nil_append, List.drop_succ_cons, List.drop_zero] at hK2 ⊢
    have hm1 : IntKind.i64.wrap ((m : Int) + 1) = ((m + 1 : Nat) : Int) := by rw [wrap64] <;> omega
    by_cases hltm : m < rl.length
    · have hgm := List.getElem?_eq_getElem hltm
      have hps := hGs m hltm
      have hgl := hGn m hm
      clear hGs hGn hGl
      generalize hgg : G m = g at *
      have W := And.intro hm1 (And.intro hgm (And.intro hltm hgl))
      repeat' first|refine st ?_|(refine nx ?_;refine so ?_)|(refine cx ?_;refine sc (fun hc=>?_) (fun hc=>?_)<;>try exact hc.elim)|(refine lx ?_;refine sp (fun hc=>?_) (fun hc=>?_)<;>try exact hc.elim)|refine sx ?_ ?_|refine sy ?_ ?_|fail
      all_goals refine hK2 _ ⟨(m + 1, u + 1), by simp only; omega, by simp only; omega⟩ (weak_take 3 (by simp [hps]) (by simp) (by simp) (by simp)) (by simp only; omega)
    · have htk : m = rl.length := by omega
      subst htk
      rw [hGl]
      have W := And.intro hm1 hk1
      repeat' first|refine st ?_|(refine nx ?_;refine so ?_)|(refine cx ?_;refine sc (fun hc=>?_) (fun hc=>?_)<;>try exact hc.elim)|(refine lx ?_;refine sp (fun hc=>?_) (fun hc=>?_)<;>try exact hc.elim)|refine sx ?_ ?_|refine sy ?_ ?_|fail
      exact hK1 _ ⟨(k + 1, u), by simp only; omega, hu⟩ (weak_take 2 (by simp) (by simp) (by simp) (by simp)) (by simp only; omega)
  · have htk : ss.take k = ss := List.take_of_length_le (by omega)
    rw [htk]
    generalize hU : (namesOf ss).foldl insName [] = U at *
    have hUl : U.length ≤ 1099511627776 := by
      have h1 := compact_le ((namesOf ss).mergeSort fun x y => decide (x ≤ y))
      rw [join_names, hU, List.length_mergeSort] at h1
      omega
    unfold joinSheet joinRules
    rw [hU]
    have W := hk1
    repeat' first|refine st ?_|(refine nx ?_;first|refine so ?_|refine sm (hc:=cS) (h:=?_)|refine sg (hc:=cK) (h:=?_))|(refine cx ?_;refine sc (fun hc=>?_) (fun hc=>?_)<;>try exact hc.elim)|(refine lx ?_;refine sp (fun hc=>?_) (fun hc=>?_)<;>try exact hc.elim)|refine sx ?_ ?_|refine sy ?_ ?_|fail
    refine awp_loop' (ι := { q : Nat × Nat // q.1 ≤ U.length ∧ 1 ≤ q.2 }) (fun t o i => ⟨upds t [(38, .int .i64 i.1.1), (34, .undef), (10, .undef)], o.take 2 ++ [⟨true, true, 1, 0, [[.obj 4 i.1.2]]⟩] ++ (o.drop 3).take 1 ++ [⟨true, false, 2, i.1.2, ((U.take i.1.1).map fun n => (⟨n, colorOf ss n⟩ : DRule)).map eRule⟩]⟩)
      (fun i => U.length - i.1.1) ⟨(0, 1), by simp, by simp⟩ (weak_openB 2 0 0 (ob := ⟨true, true, 1, 0, [[.sl .own 2 []]]⟩) (by rfl) (by rfl) (by rfl) (by simp) (by rfl) (by rfl) (by simp) (by simp [rtc, rt, dropf])) ?_
    rintro ⟨⟨m, u⟩, hm, hu⟩ K2 hK2
    simp only at hm hu
    simp only [upds, List.set_cons_succ, List.set_cons_zero, List.take_succ_cons, List.take_zero, List.cons_append, List.nil_append, List.drop_succ_cons, List.drop_zero] at hK2 ⊢
    have hm1 : IntKind.i64.wrap ((m : Int) + 1) = ((m + 1 : Nat) : Int) := by rw [wrap64] <;> omega
    obtain ⟨G, hG⟩ : ∃ G : Nat → List (List AV), ∀ m, G m = ((U.take m).map fun n => (⟨n, colorOf ss n⟩ : DRule)).map eRule := ⟨_, fun _ => rfl⟩
    simp only [← hG] at hK2 ⊢
    by_cases hltm : m < U.length
    · have hgm := List.getElem?_eq_getElem hltm
      have cc := cC U[m]
      have hps : G (m + 1) = G m ++ [[.str U[m], .int .i64 (colorOf ss U[m])]] := by
        rw [hG, hG, List.take_succ_eq_append_getElem hltm]; simp only [List.map_append, List.map_cons, List.map_nil, eRule]
      have hgl : (G m).length ≤ 1099511627776 := by
        rw [hG]; simp only [List.length_map, List.length_take]; omega
      generalize colorOf ss U[m] = c at *
      clear hG cC
      generalize hgg : G m = g at *
      have W := And.intro hm1 (And.intro hgm (And.intro hltm hgl))
      repeat' first|refine st ?_|(refine nx ?_;refine so ?_)|(refine cx ?_;refine sc (fun hc=>?_) (fun hc=>?_)<;>try exact hc.elim)|(refine lx ?_;refine sp (fun hc=>?_) (fun hc=>?_)<;>try exact hc.elim)|refine sx ?_ ?_|refine sy ?_ ?_|fail
      all_goals refine hK2 _ ⟨(m + 1, u + 1), by simp only; omega, by simp only; omega⟩ (weak_take 5 (by simp [hps]) (by simp) (by simp) (by simp)) (by simp only; omega)
    · have htk : U.take m = U := List.take_of_length_le (by omega)
      have hGe : G m = (U.map fun n => (⟨n, colorOf ss n⟩ : DRule)).map eRule := by rw [hG, htk]
      rw [hGe]
      clear hG
      generalize (U.map fun n => (⟨n, colorOf ss n⟩ : DRule)) = RL at *
      have W := And.intro hm1 hltm
      repeat' first|refine st ?_|(refine nx ?_;refine so ?_)|(refine cx ?_;refine sc (fun hc=>?_) (fun hc=>?_)<;>try exact hc.elim)|(refine lx ?_;refine sp (fun hc=>?_) (fun hc=>?_)<;>try exact hc.elim)|refine sx ?_ ?_|refine sy ?_ ?_|fail
      all_goals (try (refine ⟨.inr rfl, ?_⟩; simp [Hands, Tryz.results37]))
end Go.Proofs.YtonajehhfkkglaaGreatDoor
