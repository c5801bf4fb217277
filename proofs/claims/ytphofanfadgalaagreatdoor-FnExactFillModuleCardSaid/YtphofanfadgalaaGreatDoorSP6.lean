/-
  Proved here: steps towards the statement of this claim, text SP6.
  No condition beyond what each statement spells out.
-/
import Derived.Test.YtphofanfadgalaaGreatDoorP5
import Derived.Test.YtphofanfadgalaaGreatDoorP4
set_option linter.all false
set_option maxRecDepth 4000
set_option maxHeartbeats 4000000
namespace Go.Proofs.YtphofanfadgalaaGreatDoor
open Go.Aw
def impW : Str := [105, 109, 112, 111, 114, 116, 32]
def impsOf (base : Str) : List Str → Option (List DAddr × List Str)
  | [] => some ([], [])
  | p :: ps => if pfx impW p = true then (if (parseAddr (p.drop 7) base).2 = true then (impsOf base ps).map (fun q => ((parseAddr (p.drop 7) base).1 :: q.1, q.2)) else none) else some ([], p :: ps)
def parseModule (body base : Str) : List DAddr × List DLine × Bool :=
  match impsOf base (segs 59 body) with
  | none => ([], [], false)
  | some (l, r) => if (scriptOf (Lib.join r [59])).2 = true then (l, (scriptOf (Lib.join r [59])).1, true) else ([], [], false)
def goesOn (base : Str) (l : List Str) (acc : List DAddr) (r : List Str) : Prop := impsOf base l = (impsOf base r).map fun q => (acc ++ q.1, q.2)
theorem goesOn_start (base : Str) (l : List Str) : goesOn base l [] l := by
  unfold goesOn
  cases impsOf base l <;> simp
theorem goesOn_bad {base : Str} {l : List Str} {acc : List DAddr} {p : Str} {ps : List Str} (h : goesOn base l acc (p :: ps)) (h1 : pfx impW p = true) (h2 : (parseAddr (p.drop 7) base).2 = false) : impsOf base l = none := by
  unfold goesOn at h
  rw [h]
  simp [impsOf, h1, h2]
theorem goesOn_next {base : Str} {l : List Str} {acc : List DAddr} {p : Str} {ps : List Str} (h : goesOn base l acc (p :: ps)) (h1 : pfx impW p = true) (h2 : (parseAddr (p.drop 7) base).2 = true) : goesOn base l (acc ++ [(parseAddr (p.drop 7) base).1]) ps := by
  unfold goesOn at h ⊢
  rw [h]
  simp only [impsOf, h1, h2, if_true]
  cases impsOf base ps <;> simp
theorem goesOn_end {base : Str} {l : List Str} {acc : List DAddr} (h : goesOn base l acc []) : impsOf base l = some (acc, []) := by
  unfold goesOn at h
  rw [h]
  simp [impsOf]
theorem goesOn_stop {base : Str} {l : List Str} {acc : List DAddr} {p : Str} {ps : List Str} (h : goesOn base l acc (p :: ps)) (h1 : pfx impW p = false) : impsOf base l = some (acc, p :: ps) := by
  unfold goesOn at h
  rw [h]
  simp [impsOf, h1]
theorem join_segs (c : UInt8) : ∀ s : Str, Lib.join (segs c s) [c] = s
  | [] => by simp [segs, Lib.join_one]
  | x :: s => by
    have ih := join_segs c s
    simp only [segs]
    split
    · rename_i h
      subst h
      cases hs : segs x s with
      | nil => exact absurd hs (segs_ne x s)
      | cons p r =>
        rw [hs] at ih
        simp only [Lib.join, List.intercalate] at ih ⊢
        simp only [List.intersperse, List.flatten_cons, List.nil_append, List.singleton_append] at ih ⊢
        rw [ih]
    · split
      · rename_i h0; exact absurd h0 (segs_ne c s)
      · rename_i p r h0
        rw [h0] at ih
        simp only [Lib.join, List.intercalate] at ih ⊢
        cases r with
        | nil => simp only [List.intersperse, List.flatten_cons, List.flatten_nil, List.append_nil] at ih ⊢; rw [ih]
        | cons q r => simp only [List.intersperse, List.flatten_cons, List.cons_append] at ih ⊢; rw [ih]
end Go.Proofs.YtphofanfadgalaaGreatDoor

set_option maxRecDepth 4000
set_option maxHeartbeats 4000000
namespace Go.Proofs.YtphofanfadgalaaGreatDoor
open Go.Aw
theorem joinL_ok [Tabs Tryz.prog] [HasMax Tryz.prog] (l : List Str) (sep : Str) (hl : l.length ≤ 140737488355328) (hs : (Lib.join l sep).length ≤ 140737488355328) :
    Ok Tryz.prog 102 [.sl .view 1 (l.map eStr), .str sep] (.str (Lib.join l sep)) := ok_join Tryz.lays156 Tryz.Builder_Extra_156 l sep hl hs
theorem join_tail_le (x : Str) (xs : List Str) (c : UInt8) : (Lib.join xs [c]).length ≤ (Lib.join (x :: xs) [c]).length := by
  cases xs with
  | nil => simp [Lib.join_nil]
  | cons y ys =>
    simp only [Lib.join, List.intercalate, List.intersperse, List.flatten_cons, List.length_append]
    omega
theorem join_drop_le (c : UInt8) : ∀ (k : Nat) (l : List Str), (Lib.join (l.drop k) [c]).length ≤ (Lib.join l [c]).length
  | 0, l => by simp
  | _ + 1, [] => by simp
  | k + 1, x :: xs => by
    rw [List.drop_succ_cons]
    exact Nat.le_trans (join_drop_le c k xs) (join_tail_le x xs c)
theorem cutImp_no [Tabs Tryz.prog] [HasMax Tryz.prog] {s : Str} (hl : s.length ≤ 1099511627776) (h : pfx impW s = false) : Ok Tryz.prog 99 [.str s, .str [105, 109, 112, 111, 114, 116, 32]] (.tup [.str s, .bool false]) := by
  have c := cutPrefix_ok s impW hl (by simp [impW])
  rw [h] at c
  exact c
theorem cutImp_yes [Tabs Tryz.prog] [HasMax Tryz.prog] {s : Str} (hl : s.length ≤ 1099511627776) (h : pfx impW s = true) : Ok Tryz.prog 99 [.str s, .str [105, 109, 112, 111, 114, 116, 32]] (.tup [.str (s.drop 7), .bool true]) := by
  have c := cutPrefix_ok s impW hl (by simp [impW])
  rw [h] at c
  exact c
theorem implParseModule_ok [Tabs Tryz.prog] [HasMax Tryz.prog] (body base : Str) (hl : body.length ≤ 1073741824) (hb : base.length ≤ 1073741824) : Ok Tryz.prog 54 [.str body, .str base] (.tup [.sl .own 2 ((parseModule body base).1.map eAddr), .sl .own 2 ((parseModule body base).2.1.map eLine), .bool (parseModule body base).2.2]) := by
  have cS := split_ok body 59 (by omega)
  have hle := segs_le 59 body
  have hst := goesOn_start base (segs 59 body)
  have hn := segs_length 59 body
  have hcn : body.count 59 ≤ body.length := List.count_le_length
  have hll : (segs 59 body).length ≤ 1073741825 := by omega
  have hres : ∀ acc r, impsOf base (segs 59 body) = some (acc, r) → ∀ ls ok, scriptOf (Lib.join r [59]) = (ls, ok) → parseModule body base = if ok = true then (acc, ls, true) else ([], [], false) := by
    intro acc r h1 ls ok h2
    unfold parseModule
    rw [h1]
    simp only [h2]
  have hnone : impsOf base (segs 59 body) = none → parseModule body base = ([], [], false) := by
    intro h1
    unfold parseModule
    rw [h1]
  generalize parseModule body base = g at *
  have hjl : (Lib.join (segs 59 body) [59]).length ≤ 1073741824 := by rw [join_segs]; exact hl
  generalize segs 59 body = l at *
  refine ent Tryz.mix Tryz.func54 Tryz.ntmps54 ?_
  have W := trivial
  repeat' first|refine st ?_|(refine nx ?_;first|refine se ?_|refine so ?_)|(refine cx ?_;refine sc (fun hc=>?_) (fun hc=>?_)<;>try exact hc.elim)|(refine lx ?_;refine sp (fun hc=>?_) (fun hc=>?_)<;>try exact hc.elim)|refine sx ?_ ?_|refine sy ?_ ?_|fail
  refine awp_loop' (ι := { q : Nat × List DAddr × Nat // (q.1 ≤ l.length ∧ 1 ≤ q.2.2) ∧ q.2.1.length = q.1 ∧ goesOn base l q.2.1 (l.drop q.1) }) (fun t o i => ⟨upds t [(7, .obj 0 (i.1.1 + 1)), (8, .obj 1 i.1.2.2), (9, .undef), (10, .undef), (11, .undef), (12, .undef)], [⟨true, false, 1, i.1.1 + 1, (l.drop i.1.1).map eStr⟩, ⟨true, false, 2, i.1.2.2, i.1.2.1.map eAddr⟩]⟩)
    (fun i => l.length - i.1.1) ⟨(0, [], 1), by simp, by simp, by simpa using hst⟩ (weak_o (by simp) (by simp)) ?_
  rintro ⟨⟨k, acc, v⟩, ⟨hk, hv⟩, hacc, hgo⟩ K1 hK1
  simp only at hk hv hacc hgo
  simp only [upds, List.set_cons_succ, List.set_cons_zero] at hK1 ⊢
  have hjd := join_drop_le 59 k l
  have hdl : (l.drop k).length ≤ 1073741825 := by simp; omega
  have cJ := joinL_ok (l.drop k) [59] (by omega) (by omega)
  have cP := implParseScript_ok (Lib.join (l.drop k) [59]) (by omega)
  by_cases hlt : k < l.length
  · have hd : l.drop k = l[k] :: l.drop (k + 1) := List.drop_eq_getElem_cons hlt
    have hpl := hle _ (List.getElem_mem hlt)
    have c2 := implParseAddr_ok (l[k].drop 7) base (by simp; omega)
    simp only [eAddr] at c2
    rw [hd] at hgo cJ cP hdl ⊢
    generalize hps : l.drop (k + 1) = ps at *
    generalize l[k] = p at *
    simp only [List.length_cons] at hdl
    cases hp : pfx impW p with
    | false =>
      have hs := goesOn_stop hgo hp
      have c1 := cutImp_no (by omega) hp
      have hr := hres _ _ hs
      clear hp hs hgo hst hK1
      have hdp : (0 : Int) < (ps.length : Int) + 1 := by omega
      generalize Lib.join (p :: ps) [59] = J2 at *
      generalize scriptOf J2 = q at *
      obtain ⟨ls, ok⟩ := q
      have hr := hr ls ok rfl
      subst hr
      simp only at cP
      cases ok
      · simp only [Bool.false_eq_true, if_false]
        have W := hdp
        repeat' first|refine st ?_|(refine nx ?_;first|refine se ?_|refine so ?_)|(refine cx ?_;refine sc (fun hc=>?_) (fun hc=>?_)<;>try exact hc.elim)|(refine lx ?_;refine sp (fun hc=>?_) (fun hc=>?_)<;>try exact hc.elim)|refine sx ?_ ?_|refine sy ?_ ?_|fail
        all_goals (try (refine ⟨.inr rfl, ?_⟩; simp [Hands, Tryz.results54]))
      · simp only [if_true]
        have W := hdp
        repeat' first|refine st ?_|(refine nx ?_;first|refine se ?_|refine so ?_)|(refine cx ?_;refine sc (fun hc=>?_) (fun hc=>?_)<;>try exact hc.elim)|(refine lx ?_;refine sp (fun hc=>?_) (fun hc=>?_)<;>try exact hc.elim)|refine sx ?_ ?_|refine sy ?_ ?_|fail
        all_goals (try (refine ⟨.inr rfl, ?_⟩; simp [Hands, Tryz.results54]))
    | true =>
      have hbad := goesOn_bad hgo hp
      have hnext := goesOn_next hgo hp
      have c1 := cutImp_yes (by omega) hp
      clear hp
      have hdp : (0 : Int) < (ps.length : Int) + 1 := by omega
      generalize parseAddr (p.drop 7) base = pa at *
      obtain ⟨a, ok⟩ := pa
      simp only at c2 hbad hnext
      have htk : List.take ps.length (ps.map eStr) = ps.map eStr := List.take_of_length_le (by simp)
      cases ok with
      | false =>
        have hr := hnone (hbad rfl)
        subst hr
        have W := hdp
        repeat' first|refine st ?_|(refine nx ?_;first|refine se ?_|refine so ?_)|(refine cx ?_;refine sc (fun hc=>?_) (fun hc=>?_)<;>try exact hc.elim)|(refine lx ?_;refine sp (fun hc=>?_) (fun hc=>?_)<;>try exact hc.elim)|refine sx ?_ ?_|refine sy ?_ ?_|fail
        all_goals (try (refine ⟨.inr rfl, ?_⟩; simp [Hands, Tryz.results54]))
      | true =>
        have W := hdp
        repeat' first|refine st ?_|(refine nx ?_;first|refine se ?_|refine so ?_)|(refine cx ?_;refine sc (fun hc=>?_) (fun hc=>?_)<;>try exact hc.elim)|(refine lx ?_;refine sp (fun hc=>?_) (fun hc=>?_)<;>try exact hc.elim)|refine sx ?_ ?_|refine sy ?_ ?_|fail
        all_goals exact hK1 _ ⟨(k + 1, acc ++ [a], v + 1), ⟨by simp only; omega, by simp only; omega⟩, by simp; omega, by simp only [hps]; exact hnext rfl⟩ (weak_take 2 (by simp [hps, htk]) (by simp) (by simp) (by simp)) (by simp only; omega)
  · have hd : l.drop k = [] := List.drop_of_length_le (by omega)
    rw [hd] at hgo cJ cP ⊢
    have hr := hres _ _ (goesOn_end hgo) [] true rfl
    subst hr
    have hq : scriptOf [] = ([], true) := rfl
    simp only [Lib.join_nil, hq, List.map_nil, if_true] at cJ cP ⊢
    have W := trivial
    repeat' first|refine st ?_|(refine nx ?_;first|refine se ?_|refine so ?_)|(refine cx ?_;refine sc (fun hc=>?_) (fun hc=>?_)<;>try exact hc.elim)|(refine lx ?_;refine sp (fun hc=>?_) (fun hc=>?_)<;>try exact hc.elim)|refine sx ?_ ?_|refine sy ?_ ?_|fail
    all_goals (try (refine ⟨.inr rfl, ?_⟩; simp [Hands, Tryz.results54]))
end Go.Proofs.YtphofanfadgalaaGreatDoor

set_option maxRecDepth 4000
set_option maxHeartbeats 4000000
namespace Go.Proofs.YtphofanfadgalaaGreatDoor
open Go.Aw
theorem segs_first (c : UInt8) (s : Str) : segs c s = s.take (ixB c s) :: (if ixB c s < s.length then segs c (s.drop (ixB c s + 1)) else []) := by
  rw [segs_step]
  have h := ixB_le c s
  split
  · rfl
  · rw [List.take_of_length_le (by omega)]
theorem pfx_take {p s : Str} {k : Nat} (h : pfx p (s.take k) = true) : pfx p s = true := by
  simp only [pfx, Bool.and_eq_true, decide_eq_true_eq, beq_iff_eq, List.take_take, List.length_take] at h ⊢
  obtain ⟨h1, h2⟩ := h
  rw [Nat.min_eq_left (by omega)] at h2
  exact ⟨by omega, h2⟩
theorem imp_ix {s : Str} (h : pfx impW s = true) : 7 ≤ ixB 59 s := by
  simp only [pfx, Bool.and_eq_true, decide_eq_true_eq, beq_iff_eq] at h
  obtain ⟨h1, h2⟩ := h
  have h3 : s = impW ++ s.drop 7 := by
    have := List.take_append_drop 7 s
    rw [show impW.length = 7 from rfl] at h2
    rw [h2] at this; exact this.symm
  rw [h3, ixB_skip 59 impW _ (by decide)]
  simp [impW]
theorem pfx_of_ix {s : Str} (h : pfx impW s = true) : pfx impW (s.take (ixB 59 s)) = true := by
  have h7 := imp_ix h
  have hle := ixB_le 59 s
  simp only [pfx, Bool.and_eq_true, decide_eq_true_eq, beq_iff_eq, List.take_take, List.length_take, show impW.length = 7 from rfl] at h ⊢
  rw [Nat.min_eq_left h7]
  exact ⟨by omega, h.2⟩
end Go.Proofs.YtphofanfadgalaaGreatDoor
