/-
  Proved here: steps towards the statement of this claim, text ST2.
  No condition beyond what each statement spells out.
-/
import Derived.Test.YtonajehhfkkglaaGreatDoorT1
import Derived.WalkKit
import Derived.BigCall
import Derived.Test.YtonajehhfkkglaaGreatDoorR3
import Derived.Test.YtonajehhfkkglaaGreatDoorF4
set_option linter.all false
set_option maxRecDepth 100000
set_option maxHeartbeats 4000000
namespace Go.Proofs.YtonajehhfkkglaaGreatDoor
open Go.Aw Go.Shelf Go.RowKit
theorem arg_str1 {w : World} {E : Env} {a : Str} {vs : List Value} {fp : List Nat} (h : Rc w E [.str a] vs fp) : vs = [.string ⟨a.toArray⟩] := by
  match vs, h with
  | [], h => simp [Rc] at h
  | [x], h =>
    simp only [Rc, R] at h
    obtain ⟨_, _, h1, _, _⟩ := h
    rw [h1.1]
  | _ :: _ :: _, h => simp [Rc] at h
theorem itoa_call [Tabs Tryz.prog] [HasPow Tryz.prog] (v : Int) (h1 : -9223372036854775808 ≤ v ∧ v ≤ 9223372036854775807) (w : World) (hg : Tabs.holds Tryz.prog w) :
    Calls Tryz.prog 139 #[.int .i64 v] w fun e w' => e = .returned (.string ⟨(Lib.itoa v).toArray⟩) ∧ Below w.heap.size w w' := by
  refine (implFormatInt_ok v h1 w [.int .i64 v] hg (by simp [Rc, R])).mono fun e w' h => ?_
  obtain ⟨x, fp, he, hr, _, _, h3, h4, h5⟩ := h
  simp only [R] at hr
  rw [hr.1] at he
  exact ⟨he, ⟨h5.os, h5.tape, h5.output, h3, h4⟩⟩
theorem implParseInt_ok [Tabs Tryz.prog] [HasPow Tryz.prog] [HasErr Tryz.prog] (s : Str) (hl : s.length ≤ 1099511627776) : Ok Tryz.prog 113 [.str s] (pIntR s) := by
  intro w vs hg h
  obtain rfl := arg_str1 h
  have fin : ∀ {e : Ending} {w' : World} {n : Int} {b : Bool}, pIntR s = .tup [.int .i64 n, .bool b] → e = .returned (.tuple #[.int .i64 n, .bool b]) → Below w.heap.size w w' → ∃ v fp, e = .returned v ∧ R w' (envNew w.heap.size w' fp) (pIntR s) v fp ∧ fp.Nodup ∧
      (∀ b ∈ fp, w.heap.size ≤ b ∧ b < w'.heap.size) ∧ w.heap.size ≤ w'.heap.size ∧ (∀ b, b < w.heap.size → w'.heap[b]? = w.heap[b]?) ∧ Same w w' :=
    fun hp he hb => ⟨_, [], he, by rw [hp]; simp [R, Rc], List.nodup_nil, by simp, hb.size, hb.block, below_same hb⟩
  have A := atoi_calls Tryz.LaysCx172 s (by omega) w hg
  go_enter Tryz.func113, Tryz.ntmps113
  go_wp2_with (go_at_call 138; refine A.mono ?_)
  rintro e w1 ⟨hA, hb⟩
  clear A
  have hg1 := Tabs.stable w w1 hg fun b h => hb.block b (Nat.lt_of_lt_of_le h (Tabs.low_le w hg))
  rcases hA with ⟨v, hv, rfl⟩ | ⟨hn, v, t, p, rfl⟩
  · rcases pInt_atoi s with ⟨v', hv', h0, h1, hi, hp⟩ | ⟨hp, hall⟩
    · obtain rfl : v = v' := by rw [hv] at hv'; exact Lib.NumEnd.ok.inj hv'
      have d0 : decide (v < 0) = false := by simpa using h0
      have d1 : decide (1000000000000 < v) = false := by simpa using h1
      have C := itoa_call v (by omega) w1 hg1
      rw [hi] at C
      have F := @fin
      clear hv hv' h0 h1 hi fin
      go_wp2_with (go_at_call 139; refine C.mono ?_)
      rintro e w2 ⟨rfl, hb2⟩
      clear C
      go_wp2
      go_ret2
      exact F (pIntR_some hp) rfl (hb.trans (hb2.mono hb.size))
    · have hr := pIntR_none hp
      have bd := Lib.atoiAll_bounds hv
      by_cases h0 : v < 0
      · have d0 : decide (v < 0) = true := by simpa using h0
        clear hv h0 hall bd
        go_wp2
        go_ret2
        exact fin hr rfl hb
      by_cases h1 : 1000000000000 < v
      · have d0 : decide (v < 0) = false := by simpa using h0
        have d1 : decide (1000000000000 < v) = true := by simpa using h1
        clear hv h0 h1 hall bd
        go_wp2
        go_ret2
        exact fin hr rfl hb
      · have hi : Lib.itoa v ≠ s := by
          rcases hall v hv with h | h | h
          · exact absurd h h0
          · exact absurd h h1
          · exact h
        have d0 : decide (v < 0) = false := by simpa using h0
        have d1 : decide (1000000000000 < v) = false := by simpa using h1
        have C := itoa_call v (by omega) w1 hg1
        generalize Lib.itoa v = x at C hi
        have d2 : (x == s) = false := by simpa using hi
        have d3 : (x != s) = true := by simpa using hi
        clear hv h0 h1 hall bd
        go_wp2_with (go_at_call 139; refine C.mono ?_)
        rintro e w2 ⟨rfl, hb2⟩
        clear C
        go_wp2
        go_ret2
        exact fin hr rfl (hb.trans (hb2.mono hb.size))
  · have hp : pInt s = none := by
      rcases pInt_atoi s with ⟨v', hv', _⟩ | ⟨hp, _⟩
      · exact absurd hv' (hn _)
      · exact hp
    have hr := pIntR_none hp
    clear hn
    go_wp2
    go_ret2
    exact fin hr rfl hb
end Go.Proofs.YtonajehhfkkglaaGreatDoor

set_option maxRecDepth 4000
set_option maxHeartbeats 400000
namespace Go.Proofs.YtonajehhfkkglaaGreatDoor
open Go.Aw
theorem idxI_lt {α : Type} (f : α → Bool) (l : List α) (h : l.findIdx f < l.length) : idxI f l = (l.findIdx f : Nat) := by
  unfold idxI
  rw [if_pos]
  exact List.any_eq_true.2 ⟨_, List.getElem_mem h, List.findIdx_getElem (w := h)⟩
theorem idxI_ge {α : Type} (f : α → Bool) (l : List α) (h : ¬ l.findIdx f < l.length) : idxI f l = -1 := by
  refine idxI_none fun x hx => ?_
  have he : l.findIdx f = l.length := by have := List.findIdx_le_length (p := f) (xs := l); omega
  have := List.findIdx_eq_length.1 he x hx
  simpa using this
theorem findAttr_ix (l : List DAttr) (n : Str) (h : l.findIdx (attrIs n) < l.length) : findAttr l n = (l[l.findIdx (attrIs n)].value, true) := by
  refine findAttr_at h (List.findIdx_getElem (w := h)) ?_
  intro x hx
  obtain ⟨i, hi, rfl⟩ := List.getElem_of_mem hx
  have hi' : i < l.findIdx (attrIs n) := by have := hi; simp at this; omega
  rw [List.getElem_take]
  have := List.not_of_lt_findIdx (p := (attrIs n)) (xs := l) hi'
  simpa using this
theorem findAttr_no (l : List DAttr) (n : Str) (h : ¬ l.findIdx (attrIs n) < l.length) : findAttr l n = ([], false) := by
  refine findAttr_none fun x hx => ?_
  have he : l.findIdx (attrIs n) = l.length := by have := List.findIdx_le_length (p := attrIs n) (xs := l); omega
  have := List.findIdx_eq_length.1 he x hx
  simpa using this
theorem indexByteString_ok [Tabs Tryz.prog] (s : Str) (c : UInt8) : OkN Tryz.prog 169 [.str s, .int .u8 c.toNat] (.int .i64 (ixI c s)) :=
  okN_indexByte (fn := Tryz.f169) (by kernel_rfl) (by decide +kernel) rfl (by decide +kernel) (by rfl) s c
end Go.Proofs.YtonajehhfkkglaaGreatDoor

set_option maxRecDepth 4000
set_option maxHeartbeats 400000
namespace Go.Proofs.YtonajehhfkkglaaGreatDoor
open Go.Aw
theorem stringsIndexByte_ok [Tabs Tryz.prog] (s : Str) (c : UInt8) : Ok Tryz.prog 158 [.str s, .int .u8 c.toNat] (.int .i64 (ixI c s)) := by
  have h1 := indexByteString_ok s c
  refine ent Tryz.mix Tryz.func158 Tryz.ntmps158 ?_
  have W := trivial
  repeat' first|refine st ?_|(refine nx ?_;refine so ?_)|(refine cx ?_;refine sc (fun hc=>?_) (fun hc=>?_)<;>try exact hc.elim)|(refine lx ?_;refine sp (fun hc=>?_) (fun hc=>?_)<;>try exact hc.elim)|refine sx ?_ ?_|refine sy ?_ ?_|fail
  all_goals (try (refine ⟨.inr rfl, ?_⟩; simp [Hands, Tryz.results158]))
theorem stringsIndex_ok [Tabs Tryz.prog] (s : Str) (c : UInt8) : Ok Tryz.prog 150 [.str s, .str [c]] (.int .i64 (ixI c s)) := by
  have h1 := stringsIndexByte_ok s c
  refine ent Tryz.mix Tryz.func150 Tryz.ntmps150 ?_
  have W := trivial
  repeat' first|refine st ?_|(refine nx ?_;refine so ?_)|(refine cx ?_;refine sc (fun hc=>?_) (fun hc=>?_)<;>try exact hc.elim)|(refine lx ?_;refine sp (fun hc=>?_) (fun hc=>?_)<;>try exact hc.elim)|refine sx ?_ ?_|refine sy ?_ ?_|fail
  all_goals (try (refine ⟨.inr rfl, ?_⟩; simp [Hands, Tryz.results150]))
  all_goals (subst hc; simp [ixI, ixB_cons])
theorem liteCut_ok [Tabs Tryz.prog] (s : Str) (c : UInt8) (hl : s.length ≤ 1099511627776) : Ok Tryz.prog 137 [.str s, .str [c]] (.tup [.str (s.take (ixB c s)), .str (s.drop (ixB c s + 1)), .bool (decide (ixB c s < s.length))]) := by
  have h1 := stringsIndex_ok s c
  have hle := ixB_le c s
  by_cases h : ixB c s < s.length
  · have e : ixI c s = ixB c s := if_pos h
    rw [e] at h1
    generalize ixB c s = k at *
    refine ent Tryz.mix Tryz.func137 Tryz.ntmps137 ?_
    have W := h
    repeat' first|refine st ?_|(refine nx ?_;refine so ?_)|(refine cx ?_;refine sc (fun hc=>?_) (fun hc=>?_)<;>try exact hc.elim)|(refine lx ?_;refine sp (fun hc=>?_) (fun hc=>?_)<;>try exact hc.elim)|refine sx ?_ ?_|refine sy ?_ ?_|fail
    all_goals (try (refine ⟨.inr rfl, ?_⟩; simp [Hands, Tryz.results137]))
    all_goals simp_all
  · have e : ixI c s = -1 := if_neg h
    rw [e] at h1
    have e2 : ixB c s = s.length := by omega
    rw [e2]
    refine ent Tryz.mix Tryz.func137 Tryz.ntmps137 ?_
    have W := trivial
    repeat' first|refine st ?_|(refine nx ?_;refine so ?_)|(refine cx ?_;refine sc (fun hc=>?_) (fun hc=>?_)<;>try exact hc.elim)|(refine lx ?_;refine sp (fun hc=>?_) (fun hc=>?_)<;>try exact hc.elim)|refine sx ?_ ?_|refine sy ?_ ?_|fail
    all_goals (try (refine ⟨.inr rfl, ?_⟩; simp [Hands, Tryz.results137]))
    all_goals simp
theorem stringsCut_ok [Tabs Tryz.prog] (s : Str) (c : UInt8) (hl : s.length ≤ 1099511627776) : Ok Tryz.prog 112 [.str s, .str [c]] (.tup [.str (s.take (ixB c s)), .str (s.drop (ixB c s + 1)), .bool (decide (ixB c s < s.length))]) := by
  have h1 := liteCut_ok s c hl
  refine ent Tryz.mix Tryz.func112 Tryz.ntmps112 ?_
  have W := trivial
  repeat' first|refine st ?_|(refine nx ?_;refine so ?_)|(refine cx ?_;refine sc (fun hc=>?_) (fun hc=>?_)<;>try exact hc.elim)|(refine lx ?_;refine sp (fun hc=>?_) (fun hc=>?_)<;>try exact hc.elim)|refine sx ?_ ?_|refine sy ?_ ?_|fail
  all_goals (try (refine ⟨.inr rfl, ?_⟩; simp [Hands, Tryz.results112]))
end Go.Proofs.YtonajehhfkkglaaGreatDoor

set_option maxRecDepth 4000
set_option maxHeartbeats 400000
namespace Go.Proofs.YtonajehhfkkglaaGreatDoor
open Go.Aw
theorem byte_eq {c : UInt8} {n : Nat} (hn : n < 256) (h : (c.toNat : Int) = n) : c = UInt8.ofNat n := by
  have : c.toNat = n := by omega
  rw [← this]; simp
theorem byte_ne {c : UInt8} {n : Nat} (hn : n < 256) (h : ¬ (c.toNat : Int) = n) : c ≠ UInt8.ofNat n := by
  rintro rfl
  apply h
  simp
  omega
theorem addrOf_cut {s b : Str} {k : Nat} (h : ixB 47 s = k) (hk : k < s.length) : addrOf s b = ⟨s.take k, s.drop (k + 1)⟩ := by
  subst h; exact if_pos hk
theorem addrOf_none {s b : Str} (h : ixB 47 s = s.length) : addrOf s b = ⟨b, s⟩ := if_neg (by omega)
end Go.Proofs.YtonajehhfkkglaaGreatDoor
