/-
  Proved here: steps towards the statement of this claim, text F8.
  No condition beyond what each statement spells out.
-/
import Derived.Test.YtkjhhcgnfppdiaaGreatDoorF6
set_option linter.all false
set_option linter.unusedVariables false
namespace Go.Aw

/-- An operation that also waits for what those wait for that it waits for. -/
def clO (l : List Oper) (o : Oper) : Oper :=
  { o with after := (o.after.toList ++ o.after.toList.flatMap fun e => if Region.binds .any e then (match l[e.on]? with | some o2 => o2.after.toList.filter fun x => Region.binds .any x | none => []) else []).toArray }
def cl1 (l : List Oper) : List Oper := l.map (clO l)

theorem cl1_length (l : List Oper) : (cl1 l).length = l.length := by simp [cl1]
theorem cl1_get (l : List Oper) (i : Nat) : (cl1 l)[i]? = (l[i]?).map (clO l) := by simp [cl1]

/-- What has run is closed. -/
def Clz (l : List Oper) (L : Array Bool) : Prop := ∀ i o, l[i]? = some o → L.getD i false = true → ∀ e ∈ o.after.toList, Region.binds .any e = true → L.getD e.on false = true

theorem clO_mem {l : List Oper} {o : Oper} {e} (h : e ∈ (clO l o).after.toList) : e ∈ o.after.toList ∨ ∃ e0 ∈ o.after.toList, Region.binds .any e0 = true ∧ ∃ o2, l[e0.on]? = some o2 ∧ e ∈ o2.after.toList ∧ Region.binds .any e = true := by
  simp only [clO, List.mem_append, List.mem_flatMap] at h
  rcases h with h | ⟨e0, h0, h1⟩
  · exact .inl h
  · split at h1
    · rename_i hb
      split at h1
      · rename_i o2 ho
        rw [List.mem_filter] at h1
        exact .inr ⟨e0, h0, hb, o2, ho, h1.1, h1.2⟩
      · cases h1
    · cases h1

theorem clz_cl1 {l : List Oper} {L : Array Bool} (h : Clz l L) : Clz (cl1 l) L := by
  intro i o ho hL e he hb
  rw [cl1_get] at ho
  cases hl : l[i]? with
  | none => rw [hl] at ho; cases ho
  | some o1 =>
    rw [hl] at ho
    obtain rfl := Option.some.inj ho
    rcases clO_mem he with h1 | ⟨e0, h0, hb0, o2, ho2, h1, _⟩
    · exact h i o1 hl hL e h1 hb
    · exact h _ o2 ho2 (h i o1 hl hL e0 h0 hb0) e h1 hb

theorem rdy_cl1 {l : List Oper} {L : Array Bool} (h : Clz l L) (i : Nat) : i ∈ Region.ready .any (cl1 l).toArray L ↔ i ∈ Region.ready .any l.toArray L := by
  rw [mem_rdy, mem_rdy]
  have hs : (cl1 l).toArray.size = l.toArray.size := by simp [cl1]
  rw [hs]
  refine and_congr_right fun hi => and_congr_right fun hn => ?_
  have hi' : i < l.length := by simpa using hi
  have e1 : l.toArray[i]? = some l[i] := by simp [hi']
  have e2 : (cl1 l).toArray[i]? = some (clO l l[i]) := by
    rw [List.getElem?_toArray, cl1_get, List.getElem?_eq_getElem hi']; rfl
  rw [e1, e2]
  constructor
  · rintro ⟨o, ho, hd⟩
    obtain rfl := Option.some.inj ho
    refine ⟨_, rfl, fun e he hb => hd e ?_ hb⟩
    simp only [clO, List.mem_append]
    exact .inl he
  · rintro ⟨o, ho, hd⟩
    obtain rfl := Option.some.inj ho
    refine ⟨_, rfl, fun e he hb => ?_⟩
    rcases clO_mem he with h1 | ⟨e0, h0, hb0, o2, ho2, h1, _⟩
    · exact hd e h1 hb
    · exact h _ o2 ho2 (hd e0 h0 hb0) e h1 hb

theorem wpAny_cl1 {P : Program} {l : List Oper} {Q : Exit → Act → World → Prop} : ∀ (fuel : Nat) (L : Array Bool) (a : Act) (w : World), Clz l L → wpAny P .any (cl1 l).toArray Q fuel L a w → wpAny P .any l.toArray Q fuel L a w := by
  have yl : ∀ (tm : Array Value) (j : Nat), yielded (cl1 l).toArray tm j = yielded l.toArray tm j := by
    intro tm j
    unfold yielded
    have : ((cl1 l).toArray[j]?).bind (·.dst) = (l.toArray[j]?).bind (·.dst) := by
      rw [List.getElem?_toArray, List.getElem?_toArray, cl1_get]
      cases l[j]? <;> rfl
    rw [this]
  have op : ∀ (K K' : Act → World → Prop) (i : Nat) (a : Act) (w : World), i < l.length → (∀ a w, K' a w → K a w) → wpOp P (cl1 l).toArray Q i K' a w → wpOp P l.toArray Q i K a w := by
    intro K K' i a w hi hK hw
    have ho : (cl1 l).toArray[i]? = some (clO l l[i]) := by
      rw [List.getElem?_toArray, cl1_get, List.getElem?_eq_getElem hi]; rfl
    have ho2 : l.toArray[i]? = some l[i] := by simp [hi]
    unfold wpOp at hw ⊢
    rw [ho] at hw
    rw [ho2]
    dsimp only at hw ⊢
    have hwt : Region.wanted (clO l l[i]) (yielded (cl1 l).toArray a.tmps) = Region.wanted l[i] (yielded l.toArray a.tmps) := by
      unfold Region.wanted
      cases hg : l[i].guard with
      | none => simp [clO, hg]
      | some g =>
        have e := yl a.tmps g.1
        simp only [clO, hg]
        rw [e]
    have hwp : ∀ (K : Act → World → Prop), (clO l l[i]).wp P a w K Q = l[i].wp P a w K Q := fun K => by
      generalize l[i] = o
      obtain ⟨dst, op, ty, pos, after, gd⟩ := o
      rfl
    have has : (clO l l[i]).asks P a w = l[i].asks P a w := by
      generalize l[i] = o
      obtain ⟨dst, op, ty, pos, after, gd⟩ := o
      rfl
    rw [hwt, hwp, has] at hw
    split
    · rename_i hc
      rw [if_pos hc] at hw
      exact hw.imp (Oper.wp_mono hK) id
    · rename_i hc
      rw [if_neg hc] at hw
      exact hK _ _ hw
  intro fuel
  induction fuel with
  | zero =>
    intro L a w hL hh
    simp only [wpAny] at hh ⊢
    refine ⟨List.eq_nil_iff_forall_not_mem.2 fun i hi => ?_, hh.2⟩
    have := (rdy_cl1 hL i).2 hi
    rw [hh.1] at this
    cases this
  | succ fuel ih =>
    intro L a w hL hh
    simp only [wpAny] at hh ⊢
    refine ⟨fun he => hh.1 (List.eq_nil_iff_forall_not_mem.2 fun k hk => ?_), fun i hi => ?_⟩
    · have := (rdy_cl1 hL k).1 hk
      rw [he] at this
      cases this
    · have hil : i < l.length := by simpa using (mem_rdy.1 hi).1
      obtain ⟨_, hn, o, ho, hd⟩ := mem_rdy.1 hi
      have h1 := hh.2 _ ((rdy_cl1 hL i).2 hi)
      refine op _ _ i a w hil (fun a w hk => ih _ a w (fun j oj hj hLj e he hb => ?_) hk) h1
      have keep : ∀ n, L.getD n false = true → (L.setIfInBounds i true).getD n false = true := by
        intro n hn
        rw [Array.getD_eq_getD_getElem?, Array.getElem?_setIfInBounds]
        by_cases e : i = n
        · subst e
          rw [if_pos rfl]
          split
          · rfl
          · rename_i hb
            rw [Array.getD_eq_getD_getElem?, Array.getElem?_eq_none (by omega)] at hn
            cases hn
        · rw [if_neg e, ← Array.getD_eq_getD_getElem?]; exact hn
      by_cases e1 : i = j
      · subst e1
        have e2 : oj = o := Option.some.inj (hj.symm.trans (by simpa using ho))
        subst e2
        exact keep _ (hd e he hb)
      · refine keep _ (hL j oj hj ?_ e he hb)
        rw [Array.getD_eq_getD_getElem?, Array.getElem?_setIfInBounds, if_neg e1, ← Array.getD_eq_getD_getElem?] at hLj
        exact hLj

theorem drawOk_cl1 {P : Program} [Tabs P] {l : List Oper} {s : AS} {K : AS → Prop} (hd : DrawOk P (cl1 l).toArray s K) : DrawOk P l.toArray s K := by
  intro B a w Q hr hk
  have h1 := hd B a w Q hr hk
  have hsz : (cl1 l).toArray.size = l.toArray.size := by simp [cl1]
  rw [hsz] at h1
  refine wpAny_cl1 _ _ a _ (fun i o _ h => ?_) h1
  rw [Array.getD_eq_getD_getElem?, Array.getElem?_replicate] at h
  split at h <;> cases h

/-- The code some of whose drawn regions are closed. -/
def closC (f : Nat → Bool) : Code → Code
  | .region id ops true => if f id then .region id (cl1 ops.toList).toArray true else .region id ops true
  | .seq x y => .seq (closC f x) (closC f y)
  | .cond c x y => .cond c (closC f x) (closC f y)
  | .block id c => .block id (closC f c)
  | .loop c => .loop (closC f c)
  | c => c

theorem awp_closC {P : Program} [Tabs P] (f : Nat → Bool) : ∀ (c : Code) (s : AS) (Q : Exit → AS → Prop), awp P (closC f c) s Q → awp P c s Q
  | .skip, s, Q, h => by simpa only [closC] using h
  | .region id ops false, s, Q, h => by simpa only [closC] using h
  | .region id ops true, s, Q, h => by
    simp only [closC] at h
    split at h
    · simp only [awp] at h ⊢
      exact drawOk_cl1 (l := ops.toList) h
    · exact h
  | .seq x y, s, Q, h => by
    simp only [closC, awp] at h ⊢
    refine awp_closC f x s _ (awp_imp _ _ _ _ (fun e s' he => ?_) h)
    cases e <;> simp only [AThen] at he ⊢ <;> first | exact awp_closC f y s' _ he | exact he
  | .cond c x y, s, Q, h => by
    simp only [closC, awp] at h ⊢
    split at h
    · exact ⟨fun e => awp_closC f x s Q (h.1 e), fun e => awp_closC f y s Q (h.2 e)⟩
    · exact h.elim
  | .block id c, s, Q, h => by
    simp only [closC, awp] at h ⊢
    exact awp_closC f c s _ h
  | .loop c, s, Q, h => by
    simp only [closC, awp] at h ⊢
    obtain ⟨ι, inv, μ, i, h0, hr⟩ := h
    exact ⟨ι, inv, μ, i, h0, fun i => awp_closC f c _ _ (hr i)⟩
  | .exit id, s, Q, h => by simpa only [closC] using h
  | .ret, s, Q, h => by simpa only [closC] using h
  | .rangeFunc _ _ _ _, _, _, h => by simp [closC, awp] at h
  | .scope _, _, _, h => by simp [closC, awp] at h
  | .label _, _, _, h => by simp [closC, awp] at h
  | .goto _, _, _, h => by simp [closC, awp] at h
  | .refuse _, _, _, h => by simp [closC, awp] at h

/-- A function's contract, by its body with some drawn regions closed. -/
theorem entK {P : Program} [Tabs P] (hm : P.follows .mixedOrders = true) {f : FuncId} {fn : Func} {c c' : Code} (L : List Nat) (hf : P.funcs[f]? = some fn) {n : Nat} (hn : fn.ntmps = n) {args t : List AV} {rr : AV}
    (h : awp P c' ⟨t, []⟩ (fun e s => (e = .normal ∨ e = .ret) ∧ Hands P fn s rr)) (hb : fn.body = some c := by rfl)
    (hc : closC (fun i => L.contains i) c = c' := by simp [closC, cl1, clO, Region.binds]; rfl)
    (ht : args ++ List.replicate (n - args.length) .undef = t := by
      simp only [List.length_cons, List.length_nil, Nat.reduceSub, Nat.reduceAdd, List.replicate_succ, List.replicate_zero, List.cons_append, List.nil_append]; rfl) : Ok P f args rr := by
  subst ht; subst hn; subst hc; exact ok_of_awp hm hf hb (awp_closC _ _ _ _ h)
end Go.Aw
