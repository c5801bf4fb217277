/-
  Proved here: steps towards the statement of this claim, text F8.
  No condition beyond what each statement spells out.
-/
import Derived.Test.YtonajehhfkkglabGreatF6
import Derived.Test.YtonajehhfkkglabGreatF3
import Derived.Test.YtonajehhfkkglabGreatF9
set_option linter.all false
namespace Go.Aw
section
variable {P : Program} [Tabs P] {B : Base P} {s : AS} {dst : Option Tmp} {ty : TypeId} {pos : String} {after : Array Edge} {gd : Option (Nat × Bool)}
theorem plain_res {o : List AObj} : ∀ {c : List AV}, (∀ x ∈ c, x.plainV = true) → resc o c = c ∧ resOkc o c = true ∧ usesc c = []
  | [], _ => ⟨rfl, rfl, rfl⟩
  | x :: xs, h => by
    obtain ⟨h1, h2, h3⟩ := plain_res (o := o) (c := xs) fun y hy => h y (by simp [hy])
    have hx := h x (by simp)
    cases x <;> simp only [AV.plainV] at hx <;> first | (cases hx; done) | (simp [resc, resOkc, usesc, res, resOk, uses, h1, h2, h3])
theorem step_litAt (t : TypeId) (len : Nat) (parts : Array (Nat × Operand)) {e : TypeId} {n by' i : Nat} (he : elemA P t = some (e, n, by')) (hz : zeroSz P e n = true) (hord : inOrder parts.toList = true) (hlen : len = parts.toList.length) (hbig : len * n ≤ 16777216) (hbig2 : len ≤ 16777216)
    (hpl : ∀ x ∈ (parts.toList.map (·.2)).map s.ev, x.plainV = true) (hgood : ∀ x ∈ (parts.toList.map (·.2)).map s.ev, x.good = true ∧ x.cells.length = n) (hi' : s.o[i]? = some ⟨true, false, n, 0, []⟩) :
    Step P B ⟨dst, .buildSlice t len parts, ty, pos, after, gd⟩ s (AS.put ⟨s.t, s.o.set i ⟨true, false, n, 1, ((parts.toList.map (·.2)).map s.ev).map AV.cells⟩⟩ dst (.obj i 1)) :=
  step_val fun G a w r => by
    generalize hxs : parts.toList.map (·.2) = xs at *
    have hparts : parts.toList = (xs.zipIdx).map fun p => (p.2, p.1) := by rw [← hxs]; exact inOrder_go _ 0 hord
    obtain ⟨hp1, hp2, hp3⟩ := plain_res (o := s.o) hpl
    obtain ⟨fp, hrc, hnd, hOf⟩ := Rc_res r _ _ hp2 (by rw [hp3]; simp) (Rc_map_ev r xs)
    have hfp : fp = [] := by
      cases fp with
      | nil => rfl
      | cons b _ =>
        obtain ⟨i, ob, g, hi, _⟩ := hOf b (by simp)
        rw [hp3] at hi; cases hi
    subst hfp
    rw [hp1] at hrc
    obtain ⟨hrv, hsz⟩ := Rc_rows hrc hgood
    have hvl : (xs.map a.eval).length = len := by rw [hlen, ← hxs]; simp
    have hrun : (execOp a.eval ⟨dst, .buildSlice t len parts, ty, pos, after, gd⟩).run P w = .ok (.value (.slice (some ⟨w.heap.size, 0, none⟩) len len)) (w.alloc (.cells ((xs.map a.eval).flatMap fun v => v.cells.toList).toArray e)) := by
      have e1 : parts.map (fun (i, x) => (i, a.eval x)) = (((xs.map a.eval).zipIdx).map fun p => (p.2, p.1)).toArray := by
        apply Array.ext'
        simp only [Array.toList_map, hparts, List.map_map, List.zipIdx_map]
        rfl
      have := run_buildSlice (P := P) (t := t) (len := len) (w := w) he hz hvl.symm hbig hsz
      simp only [execOp, e1, Sem.run_bind, this, Result.andThen_ok, Sem.run_pure]
    have hlt : i < G.length := by rw [r.len]; exact (List.getElem?_eq_some_iff.1 hi').1
    have hlk : Aw.look s.o G i ⟨true, false, n, 0, []⟩ G[i] := ⟨hi', List.getElem?_eq_getElem hlt⟩
    generalize G[i] = g at hlk
    generalize hCd : ((xs.map a.eval).flatMap fun v => v.cells.toList) = cs at *
    have hcl := Rv_length hrv
    have hself : (w.alloc (.cells cs.toArray e)).heap[w.heap.size]? = some (.cells cs.toArray e) := heap_alloc_self w _
    have hrl : ((xs.map s.ev).map AV.cells).length = len := by
      have := Rc_length hrc
      rw [List.length_map, ← this, hvl]
    have hlm : len ≤ maxLen := by simp only [maxLen]; omega
    have hm := r.modify hlk rfl ⟨true, false, n, 1, (xs.map s.ev).map AV.cells⟩ ⟨some ⟨w.heap.size, 0, none⟩, len, fun b => g.F b ∨ b = w.heap.size⟩ (w.alloc (.cells cs.toArray e)) (by simp) rfl (by simp)
      (fun b hb => by
        rcases hb with hb | hb
        · exact .inl hb
        · right; subst hb; simp) (fun b hb hne => ⟨.inl hb, fun a' ha' => by
          obtain rfl := Option.some.inj ha'
          have := (r.fresh _ _ _ b hlk rfl hb).2
          simp only; omega⟩) (fun b hlt _ => heap_alloc w _ b hlt) (by simp) (fun k _ => by
      refine ⟨[w.heap.size], ?_, by simp, by simp⟩
      generalize env B _ _ (w.alloc (.cells cs.toArray e)) = E' at k ⊢
      simp only [Env.of, Bool.false_eq_true, if_false]
      refine ⟨by rw [hrl]; exact hlm, .inr ⟨w.heap.size, 0, cs.toArray, e, (0, 0), [], rfl, hself, .inr rfl, ?_, by rw [hrl]; exact Nat.le_refl _, hlm, rfl, ?_⟩⟩
      · simp [hcl]
        rw [← hrl]; simp
      · refine Rr_iff.2 ⟨cs, Rv_keeps k.plain (fun b hb => by cases hb) hrv, ?_⟩
        refine cellsAt_block hself (fun j v hv => by simpa using hv))
    have hl2 : Aw.look (s.o.set i ⟨true, false, n, 1, (xs.map s.ev).map AV.cells⟩) (G.set i ⟨some ⟨w.heap.size, 0, none⟩, len, fun b => g.F b ∨ b = w.heap.size⟩) i ⟨true, false, n, 1, (xs.map s.ev).map AV.cells⟩ ⟨some ⟨w.heap.size, 0, none⟩, len, fun b => g.F b ∨ b = w.heap.size⟩ := look_set_self hlk
    refine ⟨_, _, hrun, _, hm.1.put dst ?_⟩
    simp only [R]
    exact ⟨trivial, _, _, hl2, Nat.le_refl _, fun _ _ => by rw [hrl], fun h => absurd h (by decide)⟩
end
structure Plc where
  at_ : Nat
  n : Nat
  st : List (Nat × AObj)
def stg (J : Nat → Bool) (h : AObj) : List (Nat × AObj) → AObj
  | [] => h
  | q :: r => if J q.1 = true then q.2 else stg J h r
def vst (i : Nat) (pr : List Nat) (h dead : AObj) : List (Nat × AObj) → AObj
  | [] => h
  | q :: r => if q.1 ∈ pr then q.2 else if q.1 = i ∨ i ∈ r.map (·.1) then vst i pr h dead r else dead
def hole (n : Nat) : AObj := ⟨true, false, n, 0, []⟩
def noob (n : Nat) : AObj := ⟨false, false, n, 0, []⟩
def plcS (J : Nat → Bool) : List Plc → List AObj → List AObj
  | [], o => o
  | p :: r, o => plcS J r (o.set p.at_ (stg J (hole p.n) p.st))
def plcV (i : Nat) (pr : List Nat) : List Plc → List AObj → List AObj
  | [], o => o
  | p :: r, o => plcV i pr r (o.set p.at_ (vst i pr (hole p.n) (noob p.n) p.st))
def stOk (l : List Oper) : List (Nat × AObj) → Bool
  | [] => true
  | [_] => true
  | q :: q' :: r => (preAt l q.1).contains q'.1 && stOk l (q' :: r)
def plOk (l : List Oper) (fl : List Plc) (n : Nat) : Bool :=
  decide (fl.map (·.at_)).Nodup && (fl.all fun p => decide (p.at_ < n) && stOk l p.st && decide (p.st.map (·.1)).Nodup && p.st.all fun q => decide (q.1 < l.length)) && decide ((fl.flatMap fun p => p.st.map (·.1))).Nodup
theorem plcS_length (J : Nat → Bool) : ∀ (fl : List Plc) (o : List AObj), (plcS J fl o).length = o.length
  | [], _ => rfl
  | q :: r, o => by simp only [plcS]; rw [plcS_length J r]; simp
theorem plcV_length (i : Nat) (pr : List Nat) : ∀ (fl : List Plc) (o : List AObj), (plcV i pr fl o).length = o.length
  | [], _ => rfl
  | q :: r, o => by simp only [plcV]; rw [plcV_length i pr r]; simp
theorem plcS_ne {J : Nat → Bool} {i : Nat} : ∀ {fl : List Plc} {o : List AObj}, (∀ q ∈ fl, q.at_ ≠ i) → (plcS J fl o)[i]? = o[i]?
  | [], _, _ => rfl
  | q :: r, o, h => by
    simp only [plcS]
    rw [plcS_ne fun p hp => h p (by simp [hp]), List.getElem?_set_ne (h q (by simp))]
theorem plcV_ne {k : Nat} {pr : List Nat} {i : Nat} : ∀ {fl : List Plc} {o : List AObj}, (∀ q ∈ fl, q.at_ ≠ i) → (plcV k pr fl o)[i]? = o[i]?
  | [], _, _ => rfl
  | q :: r, o, h => by
    simp only [plcV]
    rw [plcV_ne fun p hp => h p (by simp [hp]), List.getElem?_set_ne (h q (by simp))]
theorem plcS_get {J : Nat → Bool} : ∀ {fl : List Plc} {o : List AObj} {q : Plc}, (fl.map (·.at_)).Nodup → q ∈ fl → q.at_ < o.length → (plcS J fl o)[q.at_]? = some (stg J (hole q.n) q.st)
  | p :: r, o, q, hn, hq, hl => by
    simp only [plcS]
    simp only [List.map_cons, List.nodup_cons] at hn
    rcases List.mem_cons.1 hq with rfl | hq
    · rw [plcS_ne fun p hp e => hn.1 (List.mem_map.2 ⟨p, hp, e⟩), List.getElem?_set_self hl]
    · exact plcS_get hn.2 hq (by simpa using hl)
theorem plcV_get {k : Nat} {pr : List Nat} : ∀ {fl : List Plc} {o : List AObj} {q : Plc}, (fl.map (·.at_)).Nodup → q ∈ fl → q.at_ < o.length → (plcV k pr fl o)[q.at_]? = some (vst k pr (hole q.n) (noob q.n) q.st)
  | p :: r, o, q, hn, hq, hl => by
    simp only [plcV]
    simp only [List.map_cons, List.nodup_cons] at hn
    rcases List.mem_cons.1 hq with rfl | hq
    · rw [plcV_ne fun p hp e => hn.1 (List.mem_map.2 ⟨p, hp, e⟩), List.getElem?_set_self hl]
    · exact plcV_get hn.2 hq (by simpa using hl)
theorem plcS_congr {J J' : Nat → Bool} : ∀ {fl : List Plc} {o : List AObj}, (∀ p ∈ fl, ∀ q ∈ p.st, J q.1 = J' q.1) → plcS J fl o = plcS J' fl o
  | [], _, _ => rfl
  | p :: r, o, h => by
    simp only [plcS]
    have : ∀ st : List (Nat × AObj), (∀ q ∈ st, J q.1 = J' q.1) → stg J (hole p.n) st = stg J' (hole p.n) st := by
      intro st
      induction st with
      | nil => intros; rfl
      | cons q r ih => intro h; simp only [stg]; rw [h q (by simp), ih fun x hx => h x (by simp [hx])]
    rw [this p.st (h p (by simp)), plcS_congr fun q hq => h q (by simp [hq])]
theorem vst_live {J : Nat → Bool} {i : Nat} {pr : List Nat} {n : Nat} (hi : J i = false) (hp : ∀ e ∈ pr, J e = true) : ∀ (st : List (Nat × AObj)), (∀ s1 q s2, st = s1 ++ q :: s2 → J q.1 = false → ∀ p ∈ s1, J p.1 = false) → (vst i pr (hole n) (noob n) st).live = true → vst i pr (hole n) (noob n) st = stg J (hole n) st
  | [], _, _ => rfl
  | q :: r, hlat, h => by
    simp only [vst, stg] at h ⊢
    by_cases h1 : q.1 ∈ pr
    · rw [if_pos h1, if_pos (hp _ h1)]
    · rw [if_neg h1] at h ⊢
      by_cases h2 : q.1 = i ∨ i ∈ r.map (·.1)
      · rw [if_pos h2] at h ⊢
        have hq : J q.1 = false := by
          rcases h2 with h2 | h2
          · rw [h2]; exact hi
          · obtain ⟨x, hx, rfl⟩ := List.mem_map.1 h2
            obtain ⟨r1, r2, rfl⟩ := List.append_of_mem hx
            exact hlat (q :: r1) x r2 rfl hi q (by simp)
        rw [hq, if_neg (by simp)]
        exact vst_live hi hp r (fun s1 x s2 e hx p hp => hlat (q :: s1) x s2 (by rw [e]; rfl) hx p (by simp [hp])) h
      · rw [if_neg h2] at h; cases h
theorem stOk_tail {l : List Oper} {q : Nat × AObj} {r : List (Nat × AObj)} (h : stOk l (q :: r) = true) : stOk l r = true := by
  cases r with
  | nil => rfl
  | cons q' r => simp only [stOk, Bool.and_eq_true] at h; exact h.2
theorem st_later {l : List Oper} {J : Nat → Bool} (hJ : Clo l J) (hlen : ∀ i, J i = true → i < l.length) : ∀ {s1 : List (Nat × AObj)} {q : Nat × AObj} {s2 : List (Nat × AObj)}, stOk l (s1 ++ q :: s2) = true → J q.1 = false → ∀ p ∈ s1, J p.1 = false
  | [], _, _, _, _ => fun _ hp => by cases hp
  | x :: s1, q, s2, h, hq => by
    have ih := st_later hJ hlen (stOk_tail h) hq
    intro p hp
    rcases List.mem_cons.1 hp with rfl | hp
    · cases hJp : J p.1 with
      | false => rfl
      | true =>
        exfalso
        have hnx : ∃ y, (preAt l p.1).contains y = true ∧ J y = false := by
          cases s1 with
          | nil => simp only [List.cons_append, List.nil_append, stOk, Bool.and_eq_true] at h; exact ⟨q.1, h.1, hq⟩
          | cons y s1 => simp only [List.cons_append, stOk, Bool.and_eq_true] at h; exact ⟨y.1, h.1, ih y (by simp)⟩
        obtain ⟨y, hy, hyf⟩ := hnx
        have hlp := hlen _ hJp
        have hop : l[p.1]? = some (l.get ⟨p.1, hlp⟩) := List.getElem?_eq_getElem hlp
        have hm : y ∈ pre (l.get ⟨p.1, hlp⟩) := by
          unfold preAt at hy
          rw [hop] at hy
          simpa using hy
        have := hJ _ _ hop hJp _ hm
        rw [hyf] at this; cases this
    · exact ih p hp
theorem sub_plcS {J : Nat → Bool} {i : Nat} {pr : List Nat} {fl : List Plc} {o : List AObj} (hn : (fl.map (·.at_)).Nodup) (hs : ∀ q ∈ fl, q.at_ < o.length) (hi : J i = false) (hp : ∀ e ∈ pr, J e = true) (hlat : ∀ q ∈ fl, ∀ s1 x s2, q.st = s1 ++ x :: s2 → J x.1 = false → ∀ p ∈ s1, J p.1 = false) : Sub (plcV i pr fl o) (plcS J fl o) := by
  intro k ob h hl
  by_cases hk : ∃ q ∈ fl, q.at_ = k
  · obtain ⟨q, hq, rfl⟩ := hk
    rw [plcV_get hn hq (hs q hq)] at h
    obtain rfl := Option.some.inj h
    rw [plcS_get hn hq (hs q hq), vst_live hi hp _ (hlat q hq) hl]
  · have hk' : ∀ q ∈ fl, q.at_ ≠ k := fun q hq e => hk ⟨q, hq, e⟩
    rw [plcV_ne hk'] at h
    rw [plcS_ne hk']; exact h
theorem stg_upd {l : List Oper} {J : Nat → Bool} (hJ : Clo l J) (hlen : ∀ i, J i = true → i < l.length) {n i : Nat} {ob' : AObj} : ∀ {s1 s2 : List (Nat × AObj)}, stOk l (s1 ++ (i, ob') :: s2) = true → ((s1 ++ (i, ob') :: s2).map (·.1)).Nodup → J i = false → stg (upd J i) (hole n) (s1 ++ (i, ob') :: s2) = ob'
  | s1, s2, h, hn, hi => by
    have hl := st_later hJ hlen h hi
    induction s1 with
    | nil => simp [stg, upd]
    | cons x s1 ih =>
      simp only [List.cons_append, List.map_cons, List.nodup_cons] at hn
      have hx : x.1 ≠ i := fun e => hn.1 (by simp [e])
      simp only [List.cons_append, stg]
      have : upd J i x.1 = false := by unfold upd; rw [if_neg hx]; exact hl x (by simp)
      rw [this, if_neg (by simp)]
      exact ih (stOk_tail h) hn.2 (fun p hp => hl p (by simp [hp]))
def AtStep (P : Program) [Tabs P] (op : Oper) (m : List AV) (view : List AObj) (pl : Nat) (val : AV) (ob' : AObj) : Prop :=
  ∀ (B : Base P) (t2 : List AV) (o2 : List AObj), wk t2 m → Sub view o2 → o2.length = view.length → Step P B op ⟨t2, o2⟩ ⟨setO t2 op.dst val, o2.set pl ob'⟩
def Item3 (P : Program) [Tabs P] (l : List Oper) (t : List AV) (b : List AObj) (fl : List Plc) (j : Nat) (op : Oper) (vs : List AV) : Prop :=
  (∀ e ∈ pre op, e < j) ∧
  (((∀ p ∈ fl, ∀ q ∈ p.st, q.1 ≠ j) ∧ quietA op.op ⟨maskT j (pre op) 0 l (vs.take j) t, plcV j (pre op) fl b⟩ = true ∧ ∃ x, (vs.getD j .undef = x ∨ vs.getD j .undef = .undef) ∧
      opStep P l op ⟨maskT j (pre op) 0 l (vs.take j) t, plcV j (pre op) fl b⟩ (fun s' => s' = ⟨setO (maskT j (pre op) 0 l (vs.take j) t) op.dst x, plcV j (pre op) fl b⟩)) ∨
   (op.guard = none ∧ ∃ p ∈ fl, ∃ s1 ob' s2, p.st = s1 ++ (j, ob') :: s2 ∧ AtStep P op (maskT j (pre op) 0 l (vs.take j) t) (plcV j (pre op) fl b) p.at_ (vs.getD j .undef) ob'))
theorem awp_drawn3 {P : Program} [Tabs P] {id : Nat} {l : List Oper} {s : AS} {Q : Exit → AS → Prop} (fl : List Plc) {b : List AObj} (vs : List AV) (hfw : fwdOk l = true) (hdst : distinct l = true) (hfl : plOk l fl b.length = true)
    (hb0 : plcS (fun _ => false) fl b = s.o ++ (fl.map (·.n)).map fun n => ⟨true, false, n, 0, []⟩)
    (hit : ∀ j op, l[j]? = some op → Item3 P l s.t b fl j op vs) (hK : Q .normal ⟨doneT (fun _ => true) 0 l vs s.t, plcS (fun _ => true) fl b⟩) : awp P (.region id l.toArray true) s Q := by
  simp only [plOk, Bool.and_eq_true, decide_eq_true_eq, List.all_eq_true] at hfl
  obtain ⟨⟨hnd, hsl⟩, hnds⟩ := hfl
  have hs : ∀ q ∈ fl, q.at_ < b.length := fun q hq => (hsl q hq).1.1.1
  have hsq : ∀ q ∈ fl, ∀ x ∈ q.st, x.1 < l.length := fun q hq => (hsl q hq).2
  have hst : ∀ q ∈ fl, stOk l q.st = true := fun q hq => (hsl q hq).1.1.2
  have hsn : ∀ q ∈ fl, (q.st.map (·.1)).Nodup := fun q hq => (hsl q hq).1.2
  have huni : ∀ p ∈ fl, ∀ p' ∈ fl, ∀ q ∈ p.st, ∀ q' ∈ p'.st, q.1 = q'.1 → p.at_ = p'.at_ := by
    have : ∀ (fl : List Plc), (fl.flatMap fun p => p.st.map (·.1)).Nodup → ∀ p ∈ fl, ∀ p' ∈ fl, ∀ q ∈ p.st, ∀ q' ∈ p'.st, q.1 = q'.1 → p.at_ = p'.at_ := by
      intro fl
      induction fl with
      | nil => intro _ p hp; cases hp
      | cons x fl ih =>
        intro hn p hp p' hp' q hq q' hq' e
        simp only [List.flatMap_cons, List.nodup_append] at hn
        rcases List.mem_cons.1 hp with e1 | hp1 <;> rcases List.mem_cons.1 hp' with e2 | hp2
        · rw [e1, e2]
        · exfalso
          rw [e1] at hq
          exact hn.2.2 _ (List.mem_map.2 ⟨q, hq, rfl⟩) _ (List.mem_flatMap.2 ⟨p', hp2, List.mem_map.2 ⟨q', hq', rfl⟩⟩) e
        · exfalso
          rw [e2] at hq'
          exact hn.2.2 _ (List.mem_map.2 ⟨q', hq', rfl⟩) _ (List.mem_flatMap.2 ⟨p, hp1, List.mem_map.2 ⟨q, hq, rfl⟩⟩) e.symm
        · exact ih hn.2.1 p hp1 p' hp2 q hq q' hq' e
    exact this fl hnds
  unfold awp
  have hrest : restOk l l.length = true := by
    unfold restOk
    rw [List.all_eq_true]
    intro i hi
    simp at hi
    simp only [Bool.or_eq_true, decide_eq_true_eq]
    exact .inl (by omega)
  refine draw_ok4 (ops := l.toArray) l.length (by simp) (by simpa using hfw) (by simpa using hrest) (fun J => ⟨doneT J 0 l vs s.t, plcS J fl b⟩) ?_ ?_ ?_
  · have e1 : ∀ (l : List Oper) (j : Nat) (vs t : List AV), doneT (fun _ => false) j l vs t = t := by
      intro l
      induction l with
      | nil => intros; rfl
      | cons op r ih =>
        intro j vs t
        simp only [doneT]
        rw [ih]
        unfold dstep
        cases op.dst <;> simp
    rw [e1, hb0]
    exact fun _ _ _ _ _ r => weak_holes _ r
  · intro i op him hi J hJ hJm hJi hpre
    have hi' : l[i]? = some op := by simpa using hi
    have hJ' : Clo l J := by simpa using hJ
    have hJlen : ∀ k, J k = true → k < l.length := fun k hk => by
      rcases Nat.lt_or_ge k l.length with h | h
      · exact h
      · rw [hJm k h] at hk; cases hk
    obtain ⟨hprl, hex⟩ := hit i op hi'
    have hmask : wk (doneT J 0 l vs s.t) (maskT i (pre op) 0 l (vs.take i) s.t) :=
      mask_done hJi (fun e he => ⟨hpre e he, hprl e he⟩) l 0 vs (vs.take i) s.t s.t (fun k q hk hJk => hJ' k q hk (by simpa using hJk)) (fun k hk => by
        rw [List.getD_eq_getElem?_getD, List.getD_eq_getElem?_getD, List.getElem?_take]; simp [show k < i by omega]) (wk_rfl _)
    have hsub := sub_plcS (J := J) (i := i) (pr := pre op) hnd hs hJi hpre (fun q hq s1 x s2 e hx => st_later hJ' hJlen (by rw [← e]; exact hst q hq) hx)
    have htoD : ∀ v, vs.getD i .undef = v → doneT (upd J i) 0 l vs s.t = setO (doneT J 0 l vs s.t) op.dst v := fun v hv => by
      have := doneT_upd l 0 i op vs s.t v hdst hi' (by simpa using hJi) hv
      rwa [Nat.zero_add] at this
    rcases hex with ⟨hnf, hq, x, hvx, hop⟩ | ⟨hg, p, hp, s1, ob', s2, hpst, hat⟩
    · left
      obtain ⟨x', new', x2, rfl', hx2, _, hfin⟩ := opStep_mono (o2 := plcS J fl b) hq hmask hop hsub (.inl (by rw [plcS_length, plcV_length]))
      refine hfin _ ?_
      have hset : new' = [] ∧ (setO (maskT i (pre op) 0 l (vs.take i) s.t) op.dst x' = setO (maskT i (pre op) 0 l (vs.take i) s.t) op.dst x) := by
        simp only [AS.mk.injEq] at rfl'
        refine ⟨?_, rfl'.1⟩
        have := congrArg List.length rfl'.2
        rw [List.length_append] at this
        exact List.eq_nil_of_length_eq_zero (by omega)
      have hto : wk (setO (doneT J 0 l vs s.t) op.dst x2) (doneT (upd J i) 0 l vs s.t) := by
        rw [htoD _ rfl]
        have hL := wk_length hmask
        have hset2 := hset.2
        unfold setO at hset2 ⊢
        cases hd : op.dst with
        | none => exact wk_rfl _
        | some d =>
          rw [hd] at hset2
          dsimp only at hset2 ⊢
          rcases Nat.lt_or_ge d (doneT J 0 l vs s.t).length with hdl | hle
          · have hxx : x' = x := by
              have h5 := congrArg (fun t => t[d]?) hset2
              have hdl2 : d < (maskT i (pre op) 0 l (vs.take i) s.t).length := hL ▸ hdl
              rw [List.getElem?_set_self hdl2, List.getElem?_set_self hdl2] at h5
              exact Option.some.inj h5
            refine wk_set d (wk_rfl _) ?_
            rcases hvx with e | e
            · rw [e, ← hxx]; assumption
            · exact .inr e
          · rw [List.set_eq_of_length_le hle, List.set_eq_of_length_le hle]
            exact wk_rfl _
      have hobj : plcS J fl b ++ new' = plcS (upd J i) fl b := by
        rw [hset.1, List.append_nil]
        refine plcS_congr fun p hp q hq => ?_
        unfold upd; rw [if_neg (hnf p hp q hq)]
      rw [hobj]
      exact weak_t hto
    · right
      refine ⟨hg, fun B => ?_⟩
      have := hat B _ _ hmask hsub (by rw [plcS_length, plcV_length])
      have e : plcS (upd J i) fl b = (plcS J fl b).set p.at_ ob' := by
        refine List.ext_getElem? fun k => ?_
        by_cases hk : ∃ q ∈ fl, q.at_ = k
        · obtain ⟨q, hq, rfl⟩ := hk
          rw [plcS_get hnd hq (hs q hq)]
          by_cases hqp : q.at_ = p.at_
          · have hqp' : q = p := nodup_inj (·.at_) fl hnd q p hq hp hqp
            subst hqp'
            rw [List.getElem?_set_self (by rw [plcS_length]; exact hs q hq), hpst]
            rw [stg_upd hJ' hJlen (by rw [← hpst]; exact hst q hq) (by rw [← hpst]; exact hsn q hq) hJi]
          · rw [List.getElem?_set_ne (fun e => hqp e.symm), plcS_get hnd hq (hs q hq)]
            have : ∀ st : List (Nat × AObj), (∀ x ∈ st, x.1 ≠ i) → stg (upd J i) (hole q.n) st = stg J (hole q.n) st := by
              intro st
              induction st with
              | nil => intros; rfl
              | cons x r ih =>
                intro h
                have hx : upd J i x.1 = J x.1 := by unfold upd; rw [if_neg (h x (by simp))]
                simp only [stg]; rw [hx, ih fun y hy => h y (by simp [hy])]
            rw [this q.st fun x hx e => hqp (huni q hq p hp x hx (i, ob') (by rw [hpst]; simp) e)]
        · have hk' : ∀ q ∈ fl, q.at_ ≠ k := fun q hq e => hk ⟨q, hq, e⟩
          rw [plcS_ne hk', List.getElem?_set_ne (hk' p hp), plcS_ne hk']
      rw [htoD _ rfl, e]
      exact this
  · intro J hJ hJm hor
    left
    have hsz : l.toArray.size = l.length := by simp
    have hall : ∀ i, i < l.length → J i = true := by
      intro i hi
      rcases hor with h | ⟨op, hop, _⟩
      · exact h i (by omega)
      · have := (List.getElem?_eq_some_iff.1 hop).1; simp at this
    rw [hsz]
    have e3 : (List.range l.length).map J = List.replicate l.length true := by
      refine List.ext_getElem? fun i => ?_
      rw [List.getElem?_map, List.getElem?_replicate]
      by_cases hi : i < l.length
      · simp [hi, hall i hi]
      · simp [hi]
    have e4 : left (List.replicate l.length true) = 0 := by
      unfold left
      rw [List.filter_eq_nil_iff.2]
      · rfl
      · intro x hx
        rw [(List.mem_replicate.1 hx).2]; simp
    rw [e3, e4]
    simp only [dall]
    have e5 : doneT J 0 l vs s.t = doneT (fun _ => true) 0 l vs s.t := doneT_congr l 0 vs s.t fun k hk => by rw [Nat.zero_add]; exact hall k hk
    have e6 : plcS J fl b = plcS (fun _ => true) fl b := plcS_congr fun p hp q hq => hall _ (hsq p hp q hq)
    rw [e5, e6]; exact hK
end Go.Aw

namespace Go.Aw
theorem plainV_ne {x : AV} (h : x.plainV = true) : x ≠ .undef := by rintro rfl; simp [AV.plainV] at h
theorem at_lit {P : Program} [Tabs P] {dst : Option Tmp} {ty : TypeId} {pos : String} {after : Array Edge} {gd : Option (Nat × Bool)} {m : List AV} {view : List AObj} {pl : Nat} {T : TypeId} {len : Nat} {parts : Array (Nat × Operand)} {e : TypeId} {n by' : Nat} {xs : List AV}
    (he : elemA P T = some (e, n, by')) (hz : zeroSz P e n = true) (hord : inOrder parts.toList = true) (hlen : len = parts.toList.length) (hbig : len * n ≤ 16777216) (hbig2 : len ≤ 16777216)
    (hxs : (parts.toList.map (·.2)).map (AS.ev ⟨m, view⟩) = xs) (hpl : ∀ x ∈ xs, x.plainV = true) (hgood : ∀ x ∈ xs, x.good = true ∧ x.cells.length = n) (hv : view[pl]? = some (hole n)) :
    AtStep P ⟨dst, .buildSlice T len parts, ty, pos, after, gd⟩ m view pl (.obj pl 1) ⟨true, false, n, 1, xs.map AV.cells⟩ := by
  intro B t2 o2 hw hs _
  have e2 : (parts.toList.map (·.2)).map (AS.ev ⟨t2, o2⟩) = xs := by
    have key : ∀ (l : List Operand) (xs : List AV), l.map (AS.ev ⟨m, view⟩) = xs → (∀ x ∈ xs, x.plainV = true) → l.map (AS.ev ⟨t2, o2⟩) = xs := by
      intro l
      induction l with
      | nil => intro xs h _; exact h
      | cons a l ih =>
        intro xs h hp
        cases xs with
        | nil => cases h
        | cons x xs =>
          simp only [List.map_cons, List.cons.injEq] at h ⊢
          exact ⟨ev_mono hw h.1 (plainV_ne (hp x (by simp))), ih xs h.2 fun y hy => hp y (by simp [hy])⟩
    exact key _ _ hxs hpl
  have ho : o2[pl]? = some ⟨true, false, n, 0, []⟩ := hs pl _ hv rfl
  have := step_litAt (P := P) (B := B) (s := ⟨t2, o2⟩) (dst := dst) (ty := ty) (pos := pos) (after := after) (gd := gd) T len parts (i := pl) he hz hord hlen hbig hbig2 (by rw [e2]; exact hpl) (by rw [e2]; exact hgood) ho
  rw [e2, put_eq] at this
  exact this
theorem at_append {P : Program} [Tabs P] {dst : Option Tmp} {ty : TypeId} {pos : String} {after : Array Edge} {gd : Option (Nat × Bool)} {m : List AV} {view : List AObj} {pl v : Nat} {x y : Operand} {tS xT : TypeId} {e : TypeId} {n by' : Nat} {ob : AObj} {l2 : List (List AV)}
    (he : elemA P tS = some (e, n, by')) (hz : zeroSz P e n = true) (hxt : appendable P xT = true) (hx : AS.ev ⟨m, view⟩ x = .obj pl v) (hv : view[pl]? = some ob) (hob : ob.live = true ∧ ob.ver = v ∧ ob.box = false ∧ ob.n = n)
    (hy : AS.ev ⟨m, view⟩ y = .sl .view n l2) (hbytes : (ob.els.length + l2.length) * by' ≤ 140737488355328) (h63 : ob.els.length + l2.length ≤ 9223372036854775807) :
    AtStep P ⟨dst, .call { callee := .builtin .append, args := #[x, y], argTypes := #[tS, xT] }, ty, pos, after, gd⟩ m view pl (.obj pl (v + 1)) { ob with ver := v + 1, els := ob.els ++ l2 } := by
  intro B t2 o2 hw hs _
  have ho : o2[pl]? = some ob := hs pl _ hv hob.1
  have hx2 : AS.ev ⟨t2, o2⟩ x = .obj pl v := ev_mono hw hx (by simp)
  have hy2 : AS.ev ⟨t2, o2⟩ y = .sl .view n l2 := ev_mono hw hy (by simp)
  have hio : AV.isObj o2 pl v = some ob := by simp [AV.isObj, ho, hob.1, hob.2.1]
  have := step_append (P := P) (B := B) (s := ⟨t2, o2⟩) (dst := dst) (ty := ty) (pos := pos) (after := after) (gd := gd) tS xT x y (i := pl) (ob := ob) (s1 := ⟨t2, o2⟩) (l2 := l2) (o2 := o2) he hz hxt
    (by rw [hx2]; simp only [AS.target, hio, hob.2.2.1, hob.2.2.2, and_self, if_true]) (by rw [hy2]; simp only [AS.source, if_true]) hbytes h63
  simp only [AS.appended, put_eq, hob.2.1] at this
  exact this
theorem at_litE {P : Program} [Tabs P] {dst : Option Tmp} {ty : TypeId} {pos : String} {after : Array Edge} {gd : Option (Nat × Bool)} {m : List AV} {view : List AObj} {pl : Nat} {T : TypeId} {len : Nat} {parts : Array (Nat × Operand)} {e : TypeId} {n by' : Nat} {xs : List AV} {els : List (List AV)}
    (he : elemA P T = some (e, n, by')) (hz : zeroSz P e n = true) (hord : inOrder parts.toList = true) (hlen : len = parts.toList.length) (hbig : len * n ≤ 16777216) (hbig2 : len ≤ 16777216)
    (hxs : (parts.toList.map (·.2)).map (AS.ev ⟨m, view⟩) = xs) (hpl : ∀ x ∈ xs, x.plainV = true) (hgood : ∀ x ∈ xs, x.good = true ∧ x.cells.length = n) (hv : view[pl]? = some (hole n)) (hels : xs.map AV.cells = els) :
    AtStep P ⟨dst, .buildSlice T len parts, ty, pos, after, gd⟩ m view pl (.obj pl 1) ⟨true, false, n, 1, els⟩ := by
  subst hels
  exact at_lit he hz hord hlen hbig hbig2 hxs hpl hgood hv
theorem at_appendE {P : Program} [Tabs P] {dst : Option Tmp} {ty : TypeId} {pos : String} {after : Array Edge} {gd : Option (Nat × Bool)} {m : List AV} {view : List AObj} {pl v v' : Nat} {x y : Operand} {tS xT : TypeId} {e : TypeId} {n by' : Nat} {els els' : List (List AV)} {l2 : List (List AV)}
    (hx : AS.ev ⟨m, view⟩ x = .obj pl v) (hvv : v + 1 = v') (hv : view[pl]? = some ⟨true, false, n, v, els⟩) (hy : AS.ev ⟨m, view⟩ y = .sl .view n l2) (hels : els ++ l2 = els')
    (he : elemA P tS = some (e, n, by')) (hz : zeroSz P e n = true) (hxt : appendable P xT = true) (hbytes : (els.length + l2.length) * by' ≤ 140737488355328) (h63 : els.length + l2.length ≤ 9223372036854775807) :
    AtStep P ⟨dst, .call { callee := .builtin .append, args := #[x, y], argTypes := #[tS, xT] }, ty, pos, after, gd⟩ m view pl (.obj pl v') ⟨true, false, n, v', els'⟩ := by
  subst hels; subst hvv
  exact at_append he hz hxt hx hv ⟨rfl, rfl, rfl, rfl⟩ hy hbytes h63
def dw3 (P : Program) [Tabs P] (l : List Oper) (t : List AV) (b : List AObj) (fl : List Plc) (K : AS → Prop) : Nat → List Oper → List AV → Prop
  | _, [], vs => K ⟨doneT (fun _ => true) 0 l vs t, plcS (fun _ => true) fl b⟩
  | j, op :: r, vs => ∃ x, Item3 P l t b fl j op (vs ++ [x]) ∧ dw3 P l t b fl K (j + 1) r (vs ++ [x])
theorem item3_congr {P : Program} [Tabs P] {l : List Oper} {t : List AV} {b : List AObj} {fl : List Plc} {j : Nat} {op : Oper} {vs vs' : List AV} (h : Item3 P l t b fl j op vs) (h1 : vs.take j = vs'.take j) (h2 : vs.getD j .undef = vs'.getD j .undef) : Item3 P l t b fl j op vs' := by
  unfold Item3 at h ⊢
  rw [h1, h2] at h; exact h
theorem dw3_all {P : Program} [Tabs P] {l : List Oper} {t : List AV} {b : List AObj} {fl : List Plc} {K : AS → Prop} : ∀ (r : List Oper) (j : Nat) (vs : List AV), l.drop j = r → vs.length = j → dw3 P l t b fl K j r vs →
    ∃ vf, vf.take j = vs ∧ (∀ k op, j ≤ k → l[k]? = some op → Item3 P l t b fl k op vf) ∧ K ⟨doneT (fun _ => true) 0 l vf t, plcS (fun _ => true) fl b⟩
  | [], j, vs, hd, hl, h => by
    refine ⟨vs, List.take_of_length_le (by omega), fun k op hk hop => ?_, h⟩
    have h1 := (List.getElem?_eq_some_iff.1 hop).1
    have h2 := congrArg List.length hd
    simp at h2; omega
  | op :: r, j, vs, hd, hl, h => by
    simp only [dw3] at h
    obtain ⟨x, hi, h⟩ := h
    have hd' : l.drop (j + 1) = r := by rw [← List.drop_drop, hd]; rfl
    have hop : l[j]? = some op := by
      have := congrArg (·[0]?) hd
      simpa using this
    obtain ⟨vf, h1, h2, h3⟩ := dw3_all r (j + 1) (vs ++ [x]) hd' (by simp [hl]) h
    refine ⟨vf, ?_, fun k op' hk hop' => ?_, h3⟩
    · have := congrArg (List.take j) h1
      rw [List.take_take] at this
      rw [Nat.min_eq_left (by omega)] at this
      rw [this, List.take_append_of_le_length (by omega), List.take_of_length_le (by omega)]
    · rcases Nat.lt_or_ge j k with hlt | hge
      · exact h2 k op' hlt hop'
      · obtain rfl : j = k := by omega
        rw [hop] at hop'
        obtain rfl := Option.some.inj hop'
        refine item3_congr hi ?_ ?_
        · have := congrArg (List.take j) h1
          rw [List.take_take, Nat.min_eq_left (by omega)] at this
          rw [this]
        · have := congrArg (·[j]?) h1
          simp only [List.getElem?_take] at this
          rw [if_pos (by omega)] at this
          rw [List.getD_eq_getElem?_getD, List.getD_eq_getElem?_getD, this]
@[irreducible] def hide {α : Type} (x : α) : α := x
theorem hide_eq {α : Type} (x : α) : hide x = x := by unfold hide; rfl
def hideC (f : Nat → Bool) : Code → Code
  | .region id ops true => if f id then .region id (hide ops) true else .region id ops true
  | .region id ops false => if f id then hide (.region id ops false) else .region id ops false
  | .seq x y => .seq (hideC f x) (hideC f y)
  | .cond c x y => .cond c (hideC f x) (hideC f y)
  | .block id c => .block id (hideC f c)
  | .loop c => .loop (hideC f c)
  | c => c
theorem hideC_eq (f : Nat → Bool) : ∀ c : Code, hideC f c = c
  | .region id ops true => by simp only [hideC]; split <;> simp [hide_eq]
  | .region id ops false => by simp only [hideC]; split <;> simp [hide_eq]
  | .seq x y => by simp [hideC, hideC_eq f x, hideC_eq f y]
  | .cond c x y => by simp [hideC, hideC_eq f x, hideC_eq f y]
  | .block id c => by simp [hideC, hideC_eq f c]
  | .loop c => by simp [hideC, hideC_eq f c]
  | .skip => rfl
  | .exit _ => rfl
  | .ret => rfl
  | .rangeFunc _ _ _ _ => rfl
  | .scope _ => rfl
  | .label _ => rfl
  | .goto _ => rfl
  | .refuse _ => rfl
theorem entH {P : Program} [Tabs P] (hm : P.follows .mixedOrders = true) {f : FuncId} {fn : Func} {c c' : Code} (L : List Nat) (hf : P.funcs[f]? = some fn) {n : Nat} (hn : fn.ntmps = n) {args t : List AV} {rr : AV}
    (h : awp P c' ⟨t, []⟩ (fun e s => (e = .normal ∨ e = .ret) ∧ Hands P fn s rr)) (hb : fn.body = some c := by rfl)
    (hc : hideC (fun i => L.contains i) c = c' := by simp [hideC]; rfl)
    (ht : args ++ List.replicate (n - args.length) .undef = t := by
      simp only [List.length_cons, List.length_nil, Nat.reduceSub, Nat.reduceAdd, List.replicate_succ, List.replicate_zero, List.cons_append, List.nil_append]; rfl) : Ok P f args rr := by
  subst ht; subst hn; subst hc; rw [hideC_eq] at h; exact ok_of_awp hm hf hb h
theorem go_weak {P : Program} [Tabs P] {id : Nat} {l : List Oper} {s s2 : AS} {Q : Exit → AS → Prop} (hw : Weak s s2) (h : awp P (.region id l.toArray false) s2 Q) : awp P (hide (.region id l.toArray false)) s Q := by
  rw [hide_eq]; exact awp_weaken hw h
theorem go_drawn3 {P : Program} [Tabs P] {id : Nat} {l : List Oper} {s : AS} {Q : Exit → AS → Prop} (fl : List Plc) {b : List AObj} (hb : s.o ++ (fl.map (·.n)).map (fun n => ⟨true, false, n, 0, []⟩) = b) (hfw : fwdOk l = true) (hdst : distinct l = true) (hfl : plOk l fl b.length = true)
    (hb0 : plcS (fun _ => false) fl b = b) (h : dw3 P l s.t b fl (Q .normal) 0 l []) : awp P (.region id (hide l.toArray) true) s Q := by
  rw [hide_eq]
  obtain ⟨vf, _, h2, h3⟩ := dw3_all l 0 [] rfl rfl h
  exact awp_drawn3 fl vf hfw hdst hfl (by rw [hb0, hb]) (fun j op hop => h2 j op (Nat.zero_le _) hop) h3
section
variable {P : Program} [Tabs P] {l : List Oper} {t : List AV} {b : List AObj} {fl : List Plc} {K : AS → Prop} {j : Nat} {op : Oper} {r : List Oper} {vs : List AV} {pr : List Nat} {m : List AV} {om : List AObj}
theorem d3_nil {t' : List AV} {o' : List AObj} (h1 : doneT (fun _ => true) 0 l vs t = t') (h2 : plcS (fun _ => true) fl b = o') (h : K ⟨t', o'⟩) : dw3 P l t b fl K j [] vs := by
  simp only [dw3, h1, h2]; exact h
theorem d3_next {vs' : List AV} {c : Prop} (hc : c) (hv : vs = vs') (hd : dw3 P l t b fl K j r vs') : c ∧ dw3 P l t b fl K j r vs := by
  subst hv; exact ⟨hc, hd⟩
theorem d3_pure (hg : op.guard = none) (hnf : (fl.all fun p => p.st.all fun q => decide (q.1 ≠ j)) = true) (hpr : pre op = pr) (hlt : (pr.all fun e => decide (e < j)) = true) (hm : maskT j pr 0 l vs t = m) (ho : plcV j pr fl b = om) (hq : quietA op.op ⟨m, om⟩ = true) (hvl : vs.length = j) (hdl : (match op.dst with | some d => decide (d < m.length) | none => true) = true)
    (ha : Nx 2 P op ⟨m, om⟩ fun s' => s'.o.length = om.length ∧ dw3 P l t b fl K (j + 1) r (vs ++ [dval op s'])) : dw3 P l t b fl K j (op :: r) vs := by
  have hst : opStep P l op ⟨m, om⟩ fun s' => s'.o.length = om.length ∧ dw3 P l t b fl K (j + 1) r (vs ++ [dval op s']) := by
    unfold opStep
    simp only [hg]
    unfold Nx at ha
    rcases ha with ha | ha
    · exact .inl ha
    · rcases ha with ha | ha
      · exact absurd ha.1 (by decide)
      · exact .inr ha.2
  obtain ⟨x, new, x2, ⟨hlen, hK⟩, hx, _, hfin⟩ := opStep_mono (t2 := m) (o2 := om) hq (wk_rfl _) hst (fun i ob h _ => h) (.inl rfl)
  have hnew : new = [] := by
    rw [List.length_append] at hlen
    exact List.eq_nil_of_length_eq_zero (by omega)
  subst hnew
  rw [List.append_nil] at hK
  simp only [dw3]
  refine ⟨_, ?_, hK⟩
  have htk : (vs ++ [dval op ⟨setO m op.dst x, om⟩]).take j = vs := by rw [List.take_append_of_le_length (by omega), List.take_of_length_le (by omega)]
  have hgd : (vs ++ [dval op ⟨setO m op.dst x, om⟩]).getD j .undef = dval op ⟨setO m op.dst x, om⟩ := by
    rw [List.getD_eq_getElem?_getD, List.getElem?_append_right (by omega), hvl, Nat.sub_self]; rfl
  refine ⟨fun e he => by rw [hpr] at he; have := List.all_eq_true.1 hlt e he; simpa using this, .inl ⟨fun p hp q hq => ?_, ?_, x2, ?_, ?_⟩⟩
  · have := List.all_eq_true.1 (List.all_eq_true.1 hnf p hp) q hq
    simpa using this
  · rw [htk, hpr, hm, ho]; exact hq
  · rw [hgd]
    unfold dval setO
    cases hd : op.dst with
    | none => exact .inr rfl
    | some d =>
      rw [hd] at hdl
      have hdl : d < m.length := by simpa using hdl
      dsimp only
      rw [List.getD_eq_getElem?_getD, List.getElem?_set_self hdl]
      exact hx
  · rw [htk, hpr, hm, ho]
    exact hfin _ (by rw [List.append_nil])
theorem d3_make {v : AV} {ob' : AObj} (p : Plc) (s1 s2 : List (Nat × AObj)) (hg : op.guard = none) (hp : p ∈ fl) (hst : p.st = s1 ++ (j, ob') :: s2) (hpr : pre op = pr) (hlt : (pr.all fun e => decide (e < j)) = true) (hm : maskT j pr 0 l vs t = m) (ho : plcV j pr fl b = om) (hvl : vs.length = j)
    (ha : AtStep P op m om p.at_ v ob') (h : dw3 P l t b fl K (j + 1) r (vs ++ [v])) : dw3 P l t b fl K j (op :: r) vs := by
  simp only [dw3]
  refine ⟨v, ?_, h⟩
  have htk : (vs ++ [v]).take j = vs := by rw [List.take_append_of_le_length (by omega), List.take_of_length_le (by omega)]
  have hgd : (vs ++ [v]).getD j .undef = v := by
    rw [List.getD_eq_getElem?_getD, List.getElem?_append_right (by omega), hvl, Nat.sub_self]; rfl
  refine ⟨fun e he => by rw [hpr] at he; have := List.all_eq_true.1 hlt e he; simpa using this, .inr ⟨hg, p, hp, s1, ob', s2, hst, ?_⟩⟩
  rw [htk, hgd, hpr, hm, ho]
  exact ha
end
attribute [simp] plcS plcV stg vst hole noob plOk stOk
end Go.Aw

namespace Go.Aw
def swp (i j k : Nat) : Nat := if k = i then j else if k = j then i else k
theorem swp_swp (i j k : Nat) : swp i j (swp i j k) = k := by
  unfold swp; split <;> split <;> (try split) <;> omega
def moved (i j k : Nat) : Prop := k = i ∨ k = j
instance (i j k : Nat) : Decidable (moved i j k) := by unfold moved; infer_instance
theorem swp_not {i j k : Nat} (h : ¬ moved i j k) : swp i j k = k := by
  unfold moved at h; unfold swp
  rw [if_neg (fun e => h (.inl e)), if_neg (fun e => h (.inr e))]
def gsw (i j : Nat) : Tg → Tg
  | .dep k => .dep (swp i j k)
  | g => g
mutual
def rsw (i j : Nat) : AV → AV
  | .obj k v => if moved i j k then (if v = 0 then .undef else .obj (swp i j k) v) else .obj k v
  | .ptr k v idx off => if moved i j k then .undef else .ptr k v idx off
  | .sl g n l => .sl (gsw i j g) n (rswr i j l)
  | .vptr g c off => .vptr (gsw i j g) (rswc i j c) off
  | .agg c => .agg (rswc i j c)
  | .tup c => .tup (rswc i j c)
  | .fn f c => .fn f (rswc i j c)
  | .int k n => .int k n
  | .bool b => .bool b
  | .str s => .str s
  | .undef => .undef
def rswc (i j : Nat) : List AV → List AV
  | [] => []
  | x :: xs => rsw i j x :: rswc i j xs
def rswr (i j : Nat) : List (List AV) → List (List AV)
  | [] => []
  | x :: xs => rswc i j x :: rswr i j xs
end
theorem rswr_length (i j : Nat) : ∀ l, (rswr i j l).length = l.length
  | [] => rfl
  | _ :: l => by simp [rswr, rswr_length i j l]
structure Ren (i j : Nat) (E E' : Env) : Prop where
  a : ∀ b, E.A b → E'.A b
  v : ∀ k, E'.V (swp i j k) → E.V k
  d : ∀ k b, E.D k b → E'.D (swp i j k) b
  h : ∀ k ver x, (moved i j k → ver ≠ 0) → E.H k ver x → E'.H (swp i j k) ver x
  l : ∀ k ver idx off x, ¬ moved i j k → E.L k ver idx off x → E'.L k ver idx off x
theorem Ren.plain {i j : Nat} {E E' : Env} (k : Ren i j E E') : Ren i j E.plain E'.plain :=
  ⟨k.a, fun _ _ => trivial, fun _ _ h => h.elim, fun _ _ _ _ h => h.elim, fun _ _ _ _ _ _ h => h.elim⟩
theorem Ren.sub {i j : Nat} {E E' : Env} (k : Ren i j E E') (g : Tg) : Ren i j (E.sub g) (E'.sub (gsw i j g)) := by
  cases g with
  | own => exact k.plain
  | view => exact k.plain
  | dep q => exact ⟨k.a, fun _ _ => trivial, fun r b h => ⟨by rw [h.1], k.d _ _ h.2⟩, fun _ _ _ _ h => h.elim, fun _ _ _ _ _ _ h => h.elim⟩
theorem Ren.dead {i j : Nat} {E E' : Env} (k : Ren i j E E') {g : Tg} (h : E.dead g) : E'.dead (gsw i j g) := by
  cases g with
  | own => exact h
  | view => exact h
  | dep q => exact fun hv => h (k.v q hv)
theorem Ren.tg {i j : Nat} {E E' : Env} (k : Ren i j E E') {g : Tg} {b : Nat} (h : E.tg g b) : E'.tg (gsw i j g) b := by
  cases g with
  | own => exact h
  | view => exact k.a b h
  | dep q => exact k.d q b h
theorem gsw_own {i j : Nat} {g : Tg} : gsw i j g = .own ↔ g = .own := by cases g <;> simp [gsw]
mutual
theorem R_ren {w : World} {i j : Nat} {E E' : Env} (k : Ren i j E E') : ∀ (x : AV) (v : Value) (fp : List Nat), R w E x v fp → R w E' (rsw i j x) v fp
  | .obj q u, v, fp, h => by
    simp only [rsw]
    simp only [R] at h
    by_cases hm : moved i j q
    · rw [if_pos hm]
      by_cases hu : u = 0
      · rw [if_pos hu]; simp only [R]; exact h.1
      · rw [if_neg hu]; simp only [R]; exact ⟨h.1, k.h _ _ _ (fun _ => hu) h.2⟩
    · rw [if_neg hm]
      simp only [R]
      have := k.h q u v (fun hm' => absurd hm' hm) h.2
      rw [swp_not hm] at this
      exact ⟨h.1, this⟩
  | .ptr q u idx off, v, fp, h => by
    simp only [rsw]
    simp only [R] at h
    by_cases hm : moved i j q
    · rw [if_pos hm]; simp only [R]; exact h.1
    · rw [if_neg hm]; simp only [R]; exact ⟨h.1, k.l _ _ _ _ _ hm h.2⟩
  | .sl g n l, v, fp, h => by
    simp only [rsw, R, rswr_length] at h ⊢
    rcases h with h | ⟨a, cap, hv, hl, h⟩
    · exact .inl ⟨k.dead h.1, h.2⟩
    refine .inr ⟨a, cap, hv, hl, ?_⟩
    rcases h with ⟨hg, hl0, h1, h2⟩ | ⟨hg, b, off, C, e, fz, fps, ha, hb, hz, h1, h2, h3, hfp, hr⟩ | ⟨hg, hfp, h⟩
    · exact .inl ⟨gsw_own.2 hg, by rw [hl0]; rfl, h1, h2⟩
    · exact .inr (.inl ⟨gsw_own.2 hg, b, off, C, e, fz, fps, ha, hb, hz, h1, h2, h3, hfp, Rr_ren (k.sub g) _ _ _ _ _ hr⟩)
    · refine .inr (.inr ⟨fun e => hg (gsw_own.1 e), hfp, ?_⟩)
      rcases h with rfl | ⟨b, off, ha, ht, hr⟩
      · exact .inl rfl
      · exact .inr ⟨b, off, ha, k.tg ht, Rr_ren (k.sub g) _ _ _ _ _ hr⟩
  | .vptr g c off, v, fp, h => by
    simp only [rsw, R] at h ⊢
    rcases h with h | ⟨hfp, b, o, cs, hv, ht, hcs, hc, hr⟩
    · exact .inl ⟨k.dead h.1, h.2⟩
    · exact .inr ⟨hfp, b, o, cs, hv, k.tg ht, hcs, hc, Rc_ren (k.sub g) _ _ _ hr⟩
  | .agg c, v, fp, h => by
    simp only [rsw, R] at h ⊢
    obtain ⟨cs, h1, h2, h3⟩ := h
    exact ⟨cs, h1, h2, Rc_ren k c cs fp h3⟩
  | .tup c, v, fp, h => by
    simp only [rsw, R] at h ⊢
    obtain ⟨cs, h1, h3⟩ := h
    exact ⟨cs, h1, Rc_ren k c cs fp h3⟩
  | .fn f c, v, fp, h => by
    simp only [rsw, R] at h ⊢
    obtain ⟨h0, cs, h1, h3⟩ := h
    exact ⟨h0, cs, h1, Rc_ren k c cs [] h3⟩
  | .int _ _, v, fp, h => by simpa [rsw, R] using h
  | .bool _, v, fp, h => by simpa [rsw, R] using h
  | .str _, v, fp, h => by simpa [rsw, R] using h
  | .undef, v, fp, h => by simpa [rsw, R] using h
theorem Rc_ren {w : World} {i j : Nat} {E E' : Env} (k : Ren i j E E') : ∀ (c : List AV) (cs : List Value) (fp : List Nat), Rc w E c cs fp → Rc w E' (rswc i j c) cs fp
  | [], [], _, h => by simpa [Rc, rswc] using h
  | [], _ :: _, _, h => by simp [Rc] at h
  | _ :: _, [], _, h => by simp [Rc] at h
  | x :: xs, c :: cs, fp, h => by
    simp only [Rc, rswc] at h ⊢
    obtain ⟨f1, f2, h1, h2, h3⟩ := h
    exact ⟨f1, f2, R_ren k x c f1 h1, Rc_ren k xs cs f2 h2, h3⟩
theorem Rr_ren {w : World} {i j : Nat} {E E' : Env} (k : Ren i j E E') : ∀ (l : List (List AV)) (b off n : Nat) (fp : List Nat), Rr w E l b off n fp → Rr w E' (rswr i j l) b off n fp
  | [], _, _, _, _, h => by simpa [Rr, rswr] using h
  | e :: es, b, off, n, fp, h => by
    simp only [Rr, rswr] at h ⊢
    obtain ⟨cs, f1, f2, h1, h2, h3, h4, h5, h6⟩ := h
    exact ⟨cs, f1, f2, h1, h2, h3, Rc_ren k e cs f1 h4, Rr_ren k es b (off + n) n f2 h5, h6⟩
end
def AObj.rsw (i j : Nat) (ob : AObj) : AObj := if ob.box = true then { ob with els := rswr i j ob.els } else ob
def swo (i j : Nat) (o : List AObj) : List AObj := (List.range o.length).map fun k => ((o[swp i j k]?).getD ⟨false, false, 0, 0, []⟩).rsw i j
theorem OwnOk.ren {w : World} {i j : Nat} {E E' : Env} {n : Nat} {l : List (List AV)} {a : Option Addr} {cap : Nat} {fp : List Nat} (k : Ren i j E E') (h : OwnOk w E n l a cap fp) : OwnOk w E' n (rswr i j l) a cap fp := by
  refine ⟨by rw [rswr_length]; exact h.1, ?_⟩
  rcases h.2 with h | ⟨b, off, C, e, fz, fps, ha, hb, hz, h1, h2, h3, hfp, hr⟩
  · exact .inl ⟨by rw [h.1]; rfl, h.2⟩
  · exact .inr ⟨b, off, C, e, fz, fps, ha, hb, hz, h1, by rw [rswr_length]; exact h2, h3, hfp, Rr_ren k _ _ _ _ _ hr⟩
theorem weak_swap {t t' : List AV} {o o' : List AObj} (i j : Nat) (hi : i < o.length) (hj : j < o.length) (hbi : ∀ ob, o[i]? = some ob → ob.box = false) (hbj : ∀ ob, o[j]? = some ob → ob.box = false) (ho : swo i j o = o') (hw : wk (rswc i j t) t') : Weak ⟨t, o⟩ ⟨t', o'⟩ := by
  subst ho
  rintro P _ B a w ⟨G, r⟩
  have hlen := r.len
  generalize hG' : (List.range G.length).map (fun k => (G[swp i j k]?).getD ⟨none, 0, fun _ => False⟩) = G'
  have slt : ∀ k, k < o.length → swp i j k < o.length := by intro k hk; unfold swp; split <;> (try split) <;> omega
  have fz : ∀ ob : AObj, (ob.rsw i j).live = ob.live ∧ (ob.rsw i j).box = ob.box ∧ (ob.rsw i j).n = ob.n ∧ (ob.rsw i j).ver = ob.ver ∧ (ob.rsw i j).els.length = ob.els.length := by
    intro ob; unfold AObj.rsw; split <;> simp [rswr_length]
  have og : ∀ k, (swo i j o)[k]? = (o[swp i j k]?).map (AObj.rsw i j) := by
    intro k
    unfold swo
    rw [List.getElem?_map]
    by_cases hk : k < o.length
    · rw [List.getElem?_range hk]
      simp only [Option.map_some, List.getElem?_eq_getElem (slt k hk), Option.getD_some]
    · have h1 : (List.range o.length)[k]? = none := by rw [List.getElem?_eq_none_iff]; simp; omega
      have h2 : swp i j k = k := by unfold swp; rw [if_neg (by omega), if_neg (by omega)]
      rw [h1, h2, List.getElem?_eq_none (by omega)]; rfl
  have gg : ∀ k, G'[k]? = G[swp i j k]? := by
    intro k
    rw [← hG', List.getElem?_map]
    by_cases hk : k < G.length
    · rw [List.getElem?_range hk]
      have h3 : swp i j k < G.length := by rw [hlen]; exact slt k (by rw [← hlen]; exact hk)
      simp only [Option.map_some, List.getElem?_eq_getElem h3, Option.getD_some]
    · have h1 : (List.range G.length)[k]? = none := by rw [List.getElem?_eq_none_iff]; simp; omega
      have h2 : swp i j k = k := by
        have : o.length = G.length := hlen.symm
        unfold swp; rw [if_neg (by omega), if_neg (by omega)]
      rw [h1, h2, List.getElem?_eq_none (by omega)]; rfl
  have back : ∀ {k ob g}, look (swo i j o) G' k ob g → ∃ ob0, look o G (swp i j k) ob0 g ∧ ob = ob0.rsw i j := by
    rintro k ob g ⟨e1, e2⟩
    rw [og] at e1
    rw [gg] at e2
    cases hx : o[swp i j k]? with
    | none => rw [hx] at e1; cases e1
    | some ob0 =>
      rw [hx] at e1
      exact ⟨ob0, ⟨hx, e2⟩, (Option.some.inj e1).symm⟩
  have forth : ∀ {k ob g}, look o G k ob g → look (swo i j o) G' (swp i j k) (ob.rsw i j) g := by
    rintro k ob g ⟨e1, e2⟩
    exact ⟨by rw [og, swp_swp, e1]; rfl, by rw [gg, swp_swp, e2]⟩
  have nbox : ∀ {k ob g}, look o G k ob g → ob.box = true → ¬ moved i j k := by
    rintro k ob g ⟨e1, _⟩ hb (rfl | rfl)
    · rw [hbi ob e1] at hb; cases hb
    · rw [hbj ob e1] at hb; cases hb
  have rn : Ren i j (env B o G w) (env B (swo i j o) G' w) := by
    refine ⟨fun b h => ⟨h.1, fun k ob g hl hlv hF => ?_⟩, fun k h ob hob => ?_, fun k b h => ?_, fun k ver x hm h => ?_, fun k ver idx off x hm h => ?_⟩
    · obtain ⟨ob0, hl0, rfl⟩ := back hl
      exact h.2 _ _ _ hl0 (by rw [← (fz ob0).1]; exact hlv) hF
    · have h1 := h (ob.rsw i j) (by rw [og, swp_swp, hob]; rfl)
      rw [(fz ob).1] at h1; exact h1
    · obtain ⟨ob, g, hl, hlv, hF, hne⟩ := h
      exact ⟨_, g, forth hl, by rw [(fz ob).1]; exact hlv, hF, hne⟩
    · obtain ⟨ob, g, hl, hver, h5, hz⟩ := h
      refine ⟨_, g, forth hl, by rw [(fz ob).2.2.2.1]; exact hver, fun hlv hve => ?_, fun hv0 y hy => ?_⟩
      · rw [(fz ob).2.2.2.2]
        exact h5 (by rw [← (fz ob).1]; exact hlv) (by rw [← (fz ob).2.2.2.1]; exact hve)
      · by_cases hmv : moved i j k
        · exact absurd hv0 (hm hmv)
        · rw [swp_not hmv] at hy; exact hz hv0 y hy
    · obtain ⟨ob, g, hl, hver, h5, hz⟩ := h
      have hf := forth hl
      rw [swp_not hm] at hf
      refine ⟨_, g, hf, by rw [(fz ob).2.2.2.1]; exact hver, fun hlv hve => ?_, fun hb hv e1 e2 y hy => ?_⟩
      · rw [(fz ob).2.2.1]
        exact h5 (by rw [← (fz ob).1]; exact hlv) (by rw [← (fz ob).2.2.2.1]; exact hve)
      · have := hz (by rw [← (fz ob).2.1]; exact hb) hv e1 e2 y hy
        exact ⟨this.1, fun hlv hve => this.2 (by rw [← (fz ob).1]; exact hlv) (by rw [← (fz ob).2.2.2.1]; exact hve)⟩
  refine ⟨G', { len := ?_, defs := r.defs, ok := ?_, apart := ?_, fresh := ?_, tmps := Rc_wk hw (Rc_ren rn _ _ _ r.tmps), size := r.size, frame := r.frame, base := r.base, same := r.same }⟩
  · rw [← hG']; simp [swo, hlen]
  · intro k ob g hl hlv
    obtain ⟨ob0, hl0, rfl⟩ := back hl
    obtain ⟨fp, hown, hnd, hF⟩ := r.ok _ _ g hl0 (by rw [← (fz ob0).1]; exact hlv)
    refine ⟨fp, ?_, hnd, hF⟩
    cases hb0 : ob0.box with
    | false =>
      have e : ob0.rsw i j = ob0 := by unfold AObj.rsw; rw [if_neg (by simp [hb0])]
      rw [e]
      rw [hb0] at hown ⊢
      exact hown.keeps (w := w) (w' := w) ⟨fun b hb => ⟨rn.a b hb, rfl⟩, fun _ _ => trivial, fun _ _ _ h => h.elim, fun _ _ _ h => h.elim, fun _ _ _ _ _ h => h.elim⟩ (fun _ _ => rfl)
    | true =>
      have e : ob0.rsw i j = { ob0 with els := rswr i j ob0.els } := by unfold AObj.rsw; rw [if_pos hb0]
      rw [e]
      simp only [hb0] at hown ⊢
      simp only [Env.of, if_true] at hown ⊢
      exact hown.ren rn
  · intro p q op oq gp gq b hp hq hlp hlq hFp hFq
    obtain ⟨op0, hp0, rfl⟩ := back hp
    obtain ⟨oq0, hq0, rfl⟩ := back hq
    have := r.apart _ _ _ _ _ _ b hp0 hq0 (by rw [← (fz op0).1]; exact hlp) (by rw [← (fz oq0).1]; exact hlq) hFp hFq
    have h2 := congrArg (swp i j) this
    rwa [swp_swp, swp_swp] at h2
  · intro k ob g b hl hlv hF
    obtain ⟨ob0, hl0, rfl⟩ := back hl
    exact r.fresh _ _ g b hl0 (by rw [← (fz ob0).1]; exact hlv) hF
theorem swo_set {i j : Nat} {o : List AObj} {oi oj : AObj} (hi : o[i]? = some oi) (hj : o[j]? = some oj) : swo i j o = ((o.set i oj).set j oi).map (AObj.rsw i j) := by
  have hil := (List.getElem?_eq_some_iff.1 hi).1
  have hjl := (List.getElem?_eq_some_iff.1 hj).1
  refine List.ext_getElem? fun k => ?_
  unfold swo
  rw [List.getElem?_map, List.getElem?_map]
  by_cases hk : k < o.length
  · rw [List.getElem?_range hk]
    simp only [Option.map_some]
    by_cases hkj : k = j
    · subst hkj
      rw [List.getElem?_set_self (by simpa using hk)]
      have : swp i k k = i := by unfold swp; split <;> simp_all
      rw [this, hi]; rfl
    · rw [List.getElem?_set_ne (fun e => hkj e.symm)]
      by_cases hki : k = i
      · subst hki
        rw [List.getElem?_set_self hk]
        have : swp k j k = j := by unfold swp; simp
        rw [this, hj]; rfl
      · rw [List.getElem?_set_ne (fun e => hki e.symm)]
        have : swp i j k = k := by unfold swp; rw [if_neg hki, if_neg hkj]
        rw [this, List.getElem?_eq_getElem hk]; rfl
  · have h1 : (List.range o.length)[k]? = none := by rw [List.getElem?_eq_none_iff]; simp; omega
    have h2 : ((o.set i oj).set j oi)[k]? = none := by rw [List.getElem?_eq_none_iff]; simp; omega
    rw [h1, h2]; rfl
theorem weak_swp {t t' : List AV} {o o' : List AObj} (i j : Nat) {oi oj : AObj} (hi : o[i]? = some oi) (hj : o[j]? = some oj) (hb : oi.box = false ∧ oj.box = false) (ho : ((o.set i oj).set j oi).map (AObj.rsw i j) = o') (hw : wk (rswc i j t) t') : Weak ⟨t, o⟩ ⟨t', o'⟩ :=
  weak_swap i j (List.getElem?_eq_some_iff.1 hi).1 (List.getElem?_eq_some_iff.1 hj).1 (fun ob h => by rw [hi] at h; obtain rfl := Option.some.inj h; exact hb.1) (fun ob h => by rw [hj] at h; obtain rfl := Option.some.inj h; exact hb.2) (by rw [swo_set hi hj]; exact ho) hw
@[simp] theorem rsw_obj (i j : Nat) (l : Bool) (n v : Nat) (els : List (List AV)) : AObj.rsw i j ⟨l, false, n, v, els⟩ = ⟨l, false, n, v, els⟩ := rfl
@[simp] theorem rsw_box (i j : Nat) (l : Bool) (n v : Nat) (els : List (List AV)) : AObj.rsw i j ⟨l, true, n, v, els⟩ = ⟨l, true, n, v, rswr i j els⟩ := rfl
attribute [simp] rsw rswc rswr gsw swp moved
end Go.Aw

namespace Go.Aw
def entV : Nat → List GA → List AV
  | _, [] => []
  | k, .view x :: gs => x :: entV k gs
  | k, .give x :: gs => (absorb 1 k x).1 :: entV (k + (absorb 1 k x).2.length) gs
  | k, .lend c _ :: gs => .ptr k 2 0 0 :: entV (k + (1 + (absorbc 1 (k + 1) c).2.length)) gs
def entO : Nat → List GA → List AObj
  | _, [] => []
  | k, .view _ :: gs => entO k gs
  | k, .give x :: gs => (absorb 1 k x).2 ++ entO (k + (absorb 1 k x).2.length) gs
  | k, .lend c _ :: gs => (⟨true, true, c.length, 2, [(absorbc 1 (k + 1) c).1]⟩ :: (absorbc 1 (k + 1) c).2) ++ entO (k + (1 + (absorbc 1 (k + 1) c).2.length)) gs
theorem entV_length : ∀ (gs : List GA) (k : Nat), (entV k gs).length = gs.length
  | [], _ => rfl
  | .view _ :: gs, k => by simp [entV, entV_length gs]
  | .give _ :: gs, k => by simp [entV, entV_length gs]
  | .lend _ _ :: gs, k => by simp [entV, entV_length gs]
def Fc (E : Env) (k : Nat) (os : List AObj) (Gs : List CO) : Prop :=
  ∀ j ob g, look os Gs j ob g → E.H (k + j) ob.ver (.slice g.a ob.els.length g.cap) ∧ (ob.box = true → ∀ b f, g.a = some ⟨b, f, none⟩ → E.L (k + j) ob.ver 0 0 (.pointer (some ⟨b, f, none⟩)))
theorem Fc.left {E : Env} {k : Nat} {o1 o2 : List AObj} {G1 G2 : List CO} (h : Fc E k (o1 ++ o2) (G1 ++ G2)) : Fc E k o1 G1 := fun j ob g hl => h j ob g (look_app_left hl)
theorem Fc.right {E : Env} {k : Nat} {o1 o2 : List AObj} {G1 G2 : List CO} (hlen : G1.length = o1.length) (h : Fc E k (o1 ++ o2) (G1 ++ G2)) : Fc E (k + o1.length) o2 G2 := fun j ob g hl => by
  have := h _ ob g (look_app_right hlen hl)
  rwa [← Nat.add_assoc] at this
def Ent (w : World) (E : Env) (k : Nat) (os : List AObj) (fp : List Nat) (pin : List CO → Prop) (done : Env → Prop) : Prop :=
  ∃ Gs : List CO, Gs.length = os.length ∧
    (∀ j ob g, look os Gs j ob g → ob.live = true ∧ (ob.box = false → ob.ver = 1) ∧ (ob.box = true → ob.ver = 2) ∧ ∃ f, f.Nodup ∧ (∀ b, g.F b ↔ b ∈ f) ∧ (∀ b ∈ f, b ∈ fp) ∧
      ∀ E', Keeps w E w E' → Fc E' k os Gs → OwnOk w (E'.of ob.box) ob.n ob.els g.a g.cap f) ∧
    (∀ i j oi oj gi gj b, look os Gs i oi gi → look os Gs j oj gj → gi.F b → gj.F b → i = j) ∧ pin Gs ∧
    ∀ E' : Env, Keeps w E w E' → Fc E' k os Gs → done E'
theorem Ent.of_absorbed {w : World} {E : Env} {k : Nat} {os : List AObj} {fp : List Nat} {done : Env → Prop} (h : Absorbed 1 w E k os fp done) : Ent w E k os fp (fun _ => True) done := by
  obtain ⟨Gs, h1, h2, h3, h4⟩ := h
  refine ⟨Gs, h1, fun j ob g hl => ?_, h3, trivial, fun E' hk hf => h4 E' hk fun j ob g hl => ?_⟩
  · obtain ⟨a1, a2, a3, f, a4, a5, a6, a7⟩ := h2 j ob g hl
    refine ⟨a1, fun _ => a3, (fun h => by rw [a2] at h; cases h), f, a5, a6, a7, fun E' hk _ => ?_⟩
    rw [a2]
    exact a4.keeps hk.plain (fun _ _ => rfl)
  · have := (hf j ob g hl).1
    obtain ⟨_, _, a3, _⟩ := h2 j ob g hl
    rwa [a3] at this
theorem Ent.append {w : World} {E : Env} {k : Nat} {o1 o2 : List AObj} {f1 f2 : List Nat} {p1 p2 p : List CO → Prop} {d1 d2 d : Env → Prop} (h1 : Ent w E k o1 f1 p1 d1) (h2 : Ent w E (k + o1.length) o2 f2 p2 d2) (hn : (f1 ++ f2).Nodup)
    (hp : ∀ G1 G2, G1.length = o1.length → p1 G1 → p2 G2 → p (G1 ++ G2)) (hd : ∀ E', d1 E' → d2 E' → d E') : Ent w E k (o1 ++ o2) (f1 ++ f2) p d := by
  obtain ⟨G1, l1, a1, b1, q1, c1⟩ := h1
  obtain ⟨G2, l2, a2, b2, q2, c2⟩ := h2
  have hdj := (List.nodup_append.1 hn).2.2
  refine ⟨G1 ++ G2, by simp [l1, l2], ?_, ?_, hp G1 G2 l1 q1 q2, fun E' hk hf => hd E' (c1 E' hk hf.left) (c2 E' hk (hf.right l1))⟩
  · intro j ob g hl
    rcases look_app l1 hl with ⟨_, h⟩ | ⟨_, h⟩
    · obtain ⟨x, y, y', f, z1, z2, z3, z4⟩ := a1 _ _ _ h
      exact ⟨x, y, y', f, z1, z2, fun b hb => List.mem_append_left _ (z3 b hb), fun E' hk hf => z4 E' hk hf.left⟩
    · obtain ⟨x, y, y', f, z1, z2, z3, z4⟩ := a2 _ _ _ h
      exact ⟨x, y, y', f, z1, z2, fun b hb => List.mem_append_right _ (z3 b hb), fun E' hk hf => z4 E' hk (hf.right l1)⟩
  · intro i j oi oj gi gj b hi hj hfi hfj
    rcases look_app l1 hi with ⟨_, h⟩ | ⟨hi', h⟩ <;> rcases look_app l1 hj with ⟨_, h'⟩ | ⟨hj', h'⟩
    · exact b1 _ _ _ _ _ _ b h h' hfi hfj
    · obtain ⟨_, _, _, f, _, z2, z3, _⟩ := a1 _ _ _ h
      obtain ⟨_, _, _, f', _, z2', z3', _⟩ := a2 _ _ _ h'
      exact absurd rfl (hdj b (z3 b ((z2 b).1 hfi)) b (z3' b ((z2' b).1 hfj)))
    · obtain ⟨_, _, _, f, _, z2, z3, _⟩ := a2 _ _ _ h
      obtain ⟨_, _, _, f', _, z2', z3', _⟩ := a1 _ _ _ h'
      exact absurd rfl (hdj b (z3' b ((z2' b).1 hfj)) b (z3 b ((z2 b).1 hfi)))
    · have := b2 _ _ _ _ _ _ b h h' hfi hfj
      omega
theorem ent_lend {w : World} {O : Nat → Prop} {k : Nat} {c c' : List AV} {v : Value} {fp : List Nat} {cap : Nat} (h : RG w O (.lend c c') v fp cap) (hn : fp.Nodup) :
    Ent w (envBut w O) k (⟨true, true, c.length, 2, [(absorbc 1 (k + 1) c).1]⟩ :: (absorbc 1 (k + 1) c).2) fp
      (fun Gs => ∃ g b f, Gs[0]? = some g ∧ g.a = some ⟨b, f, none⟩ ∧ v = .pointer (some ⟨b, f, none⟩) ∧ g.cap = cap) (fun E' => R w E' (.ptr k 2 0 0) v []) := by
  simp only [RG] at h
  obtain ⟨b, f, rfl, hlen, hown⟩ := h
  rcases hown with ⟨h5, _⟩ | ⟨b', f', C, ty, fz, fps, ha', hbk, hz, k1, k2, k3, rfl, hr⟩
  · cases h5
  simp only [Option.some.injEq, Addr.mk.injEq, and_true] at ha'
  obtain ⟨rfl, rfl⟩ := ha'
  simp only [Rr] at hr
  obtain ⟨cs, f1, f2, hcl, hc, hone, hrc, rfl, e⟩ := hr
  have e : fps = f1 := by simpa using e
  subst e
  simp only [List.nodup_cons] at hn
  obtain ⟨Gs, a1, a2, a3, a4⟩ := Rc_absorb (q := 1) c cs fps (k + 1) hrc hn.2
  have tail : ∀ {j ob g}, look (⟨true, true, c.length, 2, [(absorbc 1 (k + 1) c).1]⟩ :: (absorbc 1 (k + 1) c).2) (⟨some ⟨b, f, none⟩, cap, fun x => x = b⟩ :: Gs) j ob g →
      (j = 0 ∧ ob = ⟨true, true, c.length, 2, [(absorbc 1 (k + 1) c).1]⟩ ∧ g = ⟨some ⟨b, f, none⟩, cap, fun x => x = b⟩) ∨ ∃ j', j = j' + 1 ∧ look (absorbc 1 (k + 1) c).2 Gs j' ob g := by
    rintro j ob g ⟨h1, h2⟩
    cases j with
    | zero => simp only [List.getElem?_cons_zero, Option.some.injEq] at h1 h2; exact .inl ⟨rfl, h1.symm, h2.symm⟩
    | succ j => exact .inr ⟨j, rfl, by simpa using h1, by simpa using h2⟩
  have inner : ∀ {E' : Env}, Fc E' k (⟨true, true, c.length, 2, [(absorbc 1 (k + 1) c).1]⟩ :: (absorbc 1 (k + 1) c).2) (⟨some ⟨b, f, none⟩, cap, fun x => x = b⟩ :: Gs) →
      ∀ j ob g, look (absorbc 1 (k + 1) c).2 Gs j ob g → E'.H (k + 1 + j) 1 (.slice g.a ob.els.length g.cap) := by
    intro E' hf j ob g hl
    have := (hf (j + 1) ob g ⟨by simpa using hl.1, by simpa using hl.2⟩).1
    obtain ⟨_, _, h3, _⟩ := a2 j ob g hl
    rw [h3] at this
    rwa [show k + 1 + j = k + (j + 1) by omega]
  refine ⟨⟨some ⟨b, f, none⟩, cap, fun x => x = b⟩ :: Gs, by simp [a1], ?_, ?_, ⟨_, b, f, rfl, rfl, rfl, rfl⟩, ?_⟩
  · intro j ob g hl
    rcases tail hl with ⟨rfl, rfl, rfl⟩ | ⟨j', rfl, hl'⟩
    · refine ⟨rfl, (fun h => by cases h), fun _ => rfl, [b], by simp, by simp, by simp, fun E' hk hf => ?_⟩
      refine ⟨by simp [maxLen], .inr ⟨b, f, C, ty, fz, [], rfl, hbk, hz, k1, by simpa using k2, k3, rfl, ?_⟩⟩
      simp only [Rr]
      exact ⟨cs, [], [], hcl, hc, hone, a4 E' hk (inner hf), rfl, rfl⟩
    · obtain ⟨h1, h2, h3, f', h4, h5, h6, h7⟩ := a2 _ _ _ hl'
      refine ⟨h1, fun _ => h3, (fun h => by rw [h2] at h; cases h), f', h5, h6, fun x hx => List.mem_cons_of_mem _ (h7 x hx), fun E' hk _ => ?_⟩
      rw [h2]
      exact h4.keeps hk.plain (fun _ _ => rfl)
  · intro i j oi oj gi gj x hi hj hfi hfj
    rcases tail hi with ⟨rfl, rfl, rfl⟩ | ⟨i', rfl, hi'⟩ <;> rcases tail hj with ⟨rfl, rfl, rfl⟩ | ⟨j', rfl, hj'⟩
    · rfl
    · obtain ⟨_, _, _, f', _, _, h6, h7⟩ := a2 _ _ _ hj'
      have hx : x = b := hfi
      subst hx
      exact absurd (h7 _ ((h6 _).1 hfj)) hn.1
    · obtain ⟨_, _, _, f', _, _, h6, h7⟩ := a2 _ _ _ hi'
      have hx : x = b := hfj
      subst hx
      exact absurd (h7 _ ((h6 _).1 hfi)) hn.1
    · have := a3 _ _ _ _ _ _ x hi' hj' hfi hfj
      omega
  · intro E' hk hf
    simp only [R]
    exact ⟨trivial, (hf 0 _ _ ⟨rfl, rfl⟩).2 rfl b f rfl⟩
def pinned (gat : Nat → Option CO) : Nat → List GA → List Value → List Nat → Prop
  | _, [], [], [] => True
  | k, .view _ :: gs, _ :: vs, _ :: caps => pinned gat k gs vs caps
  | k, .give x :: gs, _ :: vs, _ :: caps => pinned gat (k + (absorb 1 k x).2.length) gs vs caps
  | k, .lend c _ :: gs, v :: vs, cap :: caps => (∃ g b f, gat k = some g ∧ g.a = some ⟨b, f, none⟩ ∧ v = .pointer (some ⟨b, f, none⟩) ∧ g.cap = cap) ∧ pinned gat (k + (1 + (absorbc 1 (k + 1) c).2.length)) gs vs caps
  | _, _, _, _ => False
theorem ent_ok {w : World} {O : Nat → Prop} : ∀ (gs : List GA) (vs : List Value) (fss : List (List Nat)) (caps : List Nat) (k : Nat), RGs w O gs vs fss caps → fss.flatten.Nodup →
    Ent w (envBut w O) k (entO k gs) fss.flatten (fun Gs => ∀ pre : List CO, pre.length = k → pinned (fun i => (pre ++ Gs)[i]?) k gs vs caps) (fun E' => Rc w E' (entV k gs) vs [])
  | [], [], [], [], k, _, _ => ⟨[], rfl, fun j ob g hl => by simp [look, entO] at hl, fun i j oi oj gi gj b hl => by simp [look, entO] at hl, fun _ _ => by simp [pinned], fun E' _ _ => by simp [entV, Rc]⟩
  | .view x :: gs, v :: vs, fp :: fss, cap :: caps, k, h, hn => by
    simp only [RGs, RG] at h
    obtain ⟨⟨rfl, hx⟩, h⟩ := h
    simp only [List.flatten_cons, List.nil_append] at hn ⊢
    obtain ⟨Gs, a1, a2, a3, a4, a5⟩ := ent_ok gs vs fss caps k h hn
    refine ⟨Gs, a1, a2, a3, fun pre hp => by simp only [pinned]; exact a4 pre hp, fun E' hk hf => ?_⟩
    · simp only [entV, Rc]
      exact ⟨[], [], R_keeps hk _ _ _ (by simp) hx, a5 E' hk hf, rfl⟩
  | .give x :: gs, v :: vs, fp :: fss, cap :: caps, k, h, hn => by
    simp only [RGs, RG] at h
    obtain ⟨hx, h⟩ := h
    simp only [List.flatten_cons] at hn ⊢
    have hn' := List.nodup_append.1 hn
    refine (Ent.of_absorbed (R_absorb (q := 1) x v fp k hx hn'.1)).append (ent_ok gs vs fss caps (k + (absorb 1 k x).2.length) h hn'.2.1) hn (fun G1 G2 hl _ h2 pre hp => ?_) (fun E' h1 h2 => ?_)
    · simp only [pinned]
      have := h2 (pre ++ G1) (by simp [hp, hl])
      simpa using this
    · simp only [entV, Rc]
      exact ⟨[], [], h1, h2, rfl⟩
  | .lend c c' :: gs, v :: vs, fp :: fss, cap :: caps, k, h, hn => by
    simp only [RGs] at h
    obtain ⟨hx, h⟩ := h
    simp only [List.flatten_cons] at hn ⊢
    have hn' := List.nodup_append.1 hn
    have h2 := ent_ok gs vs fss caps (k + (1 + (absorbc 1 (k + 1) c).2.length)) h hn'.2.1
    simp only [entO]
    refine (ent_lend hx hn'.1).append (by
      rw [show k + (({ live := true, box := true, n := c.length, ver := 2, els := [(absorbc 1 (k + 1) c).1] } : AObj) :: (absorbc 1 (k + 1) c).2).length = k + (1 + (absorbc 1 (k + 1) c).2.length) by simp; omega]
      exact h2) hn (fun G1 G2 hl h1 h2 pre hp => ?_) (fun E' h1 h2 => ?_)
    · simp only [pinned]
      refine ⟨?_, ?_⟩
      · obtain ⟨g, b, f, e1, e2, e3, e4⟩ := h1
        refine ⟨g, b, f, ?_, e2, e3, e4⟩
        subst hp
        rw [List.getElem?_append_right (by omega), Nat.sub_self]
        cases G1 with
        | nil => simp at e1
        | cons _ _ => simpa using e1
      · have := h2 (pre ++ G1) (by simp only [List.length_append, hp, hl, List.length_cons]; omega)
        simpa using this
    · simp only [entV, Rc]
      exact ⟨[], [], h1, h2, rfl⟩
  | [], [], [], _ :: _, _, h, _ => by simp [RGs] at h
  | [], [], _ :: _, _, _, h, _ => by simp [RGs] at h
  | [], _ :: _, _, _, _, h, _ => by simp [RGs] at h
  | .view _ :: _, [], _, _, _, h, _ => by simp [RGs] at h
  | .view _ :: _, _ :: _, [], _, _, h, _ => by simp [RGs] at h
  | .view _ :: _, _ :: _, _ :: _, [], _, h, _ => by simp [RGs] at h
  | .give _ :: _, [], _, _, _, h, _ => by simp [RGs] at h
  | .give _ :: _, _ :: _, [], _, _, h, _ => by simp [RGs] at h
  | .give _ :: _, _ :: _, _ :: _, [], _, h, _ => by simp [RGs] at h
  | .lend _ _ :: _, [], _, _, _, h, _ => by simp [RGs] at h
  | .lend _ _ :: _, _ :: _, [], _, _, h, _ => by simp [RGs] at h
  | .lend _ _ :: _, _ :: _, _ :: _, [], _, h, _ => by simp [RGs] at h
def lendOut (s : AS) : Nat → Nat → List GA → Prop
  | _, _, [] => True
  | pos, k, .view _ :: gs => lendOut s (pos + 1) k gs
  | pos, k, .give x :: gs => lendOut s (pos + 1) (k + (absorb 1 k x).2.length) gs
  | pos, k, .lend c c' :: gs => (s.t.getD pos .undef = .ptr k 2 0 0 ∧ ∃ cells, s.o[k]? = some ⟨true, true, c.length, 2, [cells]⟩ ∧ resOkc s.o cells = true ∧ resc s.o cells = c' ∧ cleanc c' = true) ∧
      lendOut s (pos + 1) (k + (1 + (absorbc 1 (k + 1) c).2.length)) gs
def lendUse (s : AS) : Nat → List GA → List Nat
  | _, [] => []
  | k, .view _ :: gs => lendUse s k gs
  | k, .give x :: gs => lendUse s (k + (absorb 1 k x).2.length) gs
  | k, .lend c _ :: gs => (k :: usesc (rowOf s.o k)) ++ lendUse s (k + (1 + (absorbc 1 (k + 1) c).2.length)) gs
def HandsG (P : Program) (fn : Func) (s : AS) (gs : List GA) (r : AV) : Prop :=
  ∃ ys, s.rvs P fn.results.toList = some ys ∧ resOk s.o (single ys) = true ∧ res s.o (single ys) = r ∧ clean r = true ∧ lendOut s 0 0 gs ∧ (lendUse s 0 gs ++ uses (single ys)).Nodup
theorem lends_out {P : Program} [Tabs P] {B : Base P} {s : AS} {G : List CO} {a : Act} {w : World} (r : Rel' B s G a w) {gat : Nat → Option CO} (hp : ∀ i g, gat i = some g → B.p0 i = some (.pointer g.a, g.cap)) :
    ∀ (gs : List GA) (vs : List Value) (caps : List Nat) (pos k : Nat), pinned gat k gs vs caps → lendOut s pos k gs → (lendUse s k gs).Nodup →
    ∃ fss, RPs w gs vs fss caps ∧ fss.flatten.Nodup ∧ ∀ b ∈ fss.flatten, Of s.o G (lendUse s k gs) b
  | [], [], [], pos, k, _, _, _ => ⟨[], by simp [RPs], by simp, by simp⟩
  | .view x :: gs, v :: vs, cap :: caps, pos, k, h1, h2, h3 => by
    simp only [pinned] at h1
    simp only [lendOut] at h2
    simp only [lendUse] at h3 ⊢
    obtain ⟨fss, q1, q2, q3⟩ := lends_out r hp gs vs caps (pos + 1) k h1 h2 h3
    exact ⟨[] :: fss, by simp only [RPs, RP]; exact ⟨trivial, q1⟩, by simpa using q2, by simpa using q3⟩
  | .give x :: gs, v :: vs, cap :: caps, pos, k, h1, h2, h3 => by
    simp only [pinned] at h1
    simp only [lendOut] at h2
    simp only [lendUse] at h3 ⊢
    obtain ⟨fss, q1, q2, q3⟩ := lends_out r hp gs vs caps (pos + 1) _ h1 h2 h3
    exact ⟨[] :: fss, by simp only [RPs, RP]; exact ⟨trivial, q1⟩, by simpa using q2, by simpa using q3⟩
  | .lend c c' :: gs, v :: vs, cap :: caps, pos, k, h1, h2, h3 => by
    simp only [pinned] at h1
    simp only [lendOut] at h2
    simp only [lendUse] at h3 ⊢
    obtain ⟨⟨g0, b0, f0, e1, e2, e3, e4⟩, h1⟩ := h1
    obtain ⟨⟨htp, cells, ho, hok, hres, hcl⟩, h2⟩ := h2
    have hn := List.nodup_append.1 h3
    obtain ⟨fss, q1, q2, q3⟩ := lends_out r hp gs vs caps (pos + 1) _ h1 h2 hn.2.1
    have hrow : rowOf s.o k = cells := by simp [rowOf, ho]
    rw [hrow] at hn ⊢
    have hob : AV.isObj s.o k 2 = some ⟨true, true, c.length, 2, [cells]⟩ := by simp [AV.isObj, ho]
    obtain ⟨g, b, f, hl, hlive, hga, hv⟩ := r.ptr (x := .tmp pos) htp hob
    have hpin := r.pin (x := .tmp pos) htp hob hl rfl rfl rfl rfl _ (hp k g0 e1)
    rw [hv] at hpin
    obtain ⟨hp1, hp2⟩ := hpin
    have hcap : g.cap = g0.cap := hp2 rfl rfl
    simp only [Value.pointer.injEq] at hp1
    rw [e2] at hp1
    simp only [Nat.zero_mul, Nat.add_zero, Option.some.injEq, Addr.mk.injEq, and_true] at hp1
    obtain ⟨rfl, rfl⟩ := hp1
    obtain ⟨fp0, ⟨_, hown⟩, hndo, hFo⟩ := r.ok k _ g hl rfl
    simp only [Env.of, if_true] at hown
    rcases hown with ⟨h5, _⟩ | ⟨b', f', C, ty, fz, fps, ha', hbk, hz, k1, k2, k3, rfl, hr⟩
    · cases h5
    rw [hga] at ha'
    simp only [Option.some.injEq, Addr.mk.injEq, and_true] at ha'
    obtain ⟨rfl, rfl⟩ := ha'
    simp only [Rr] at hr
    obtain ⟨cs, f1, f2, hcn, hc, hone, hrc, rfl, e⟩ := hr
    have e : fps = f1 := by simpa using e
    subst e
    simp only [List.nodup_cons] at hndo
    have hn1 := hn.1
    simp only [List.nodup_cons] at hn1
    obtain ⟨fp', u1, u2, u3⟩ := Rc_resF r hl rfl cells cs fps hok hn1.2 hn1.1 hndo.2 (fun x hx => hFo x (by simp [hx])) hrc
    have hbF : g.F b := hFo b (by simp)
    have hbn : b ∉ fp' := fun hb => by
      rcases u3 b hb with h | h
      · exact hndo.1 h
      · obtain ⟨j, oj, gj, hj, hlj, hjl, hFj⟩ := h
        have := r.apart k j _ _ _ _ b hl hlj rfl hjl hbF hFj
        exact hn1.1 (this ▸ hj)
    rw [hres] at u1
    have u1' : Rc w envNone c' cs fp' := Rc_clean (E := (env B s.o G w).plain) (fun _ _ => trivial) rfl rfl rfl _ _ _ hcl u1
    have hin : ∀ x ∈ b :: fp', Of s.o G (k :: usesc cells) x := by
      intro x hx
      rcases List.mem_cons.1 hx with rfl | hx
      · exact ⟨k, _, g, by simp, hl, rfl, hbF⟩
      · rcases u3 x hx with h | h
        · exact ⟨k, _, g, by simp, hl, rfl, hFo x (by simp [h])⟩
        · exact Of_mono (fun j hj => by simp [hj]) h
    refine ⟨(b :: fp') :: fss, ?_, ?_, ?_⟩
    · simp only [RPs, RP]
      refine ⟨⟨b, f, e3, by simp [maxLen], .inr ⟨b, f, C, ty, fz, fp', rfl, hbk, hz, ?_, ?_, ?_, rfl, ?_⟩⟩, q1⟩
      · rw [← e4, ← hcap]; exact k1
      · rw [← e4, ← hcap]; simpa using k2
      · rw [← e4, ← hcap]; exact k3
      · simp only [Rr]
        exact ⟨cs, fp', [], hcn, hc, hone, u1', rfl, by simp⟩
    · simp only [List.flatten_cons, List.nodup_append]
      refine ⟨List.nodup_cons.2 ⟨hbn, u2⟩, q2, fun x hx y hy e => ?_⟩
      subst e
      exact Of_apart r (fun i hi j hj => hn.2.2 i hi j hj) (hin x hx) (q3 x hy)
    · intro x hx
      simp only [List.flatten_cons, List.mem_append] at hx
      rcases hx with hx | hx
      · exact Of_mono (fun i hi => List.mem_append_left _ hi) (hin x hx)
      · exact Of_mono (fun i hi => List.mem_append_right _ hi) (q3 x hx)
  | [], [], _ :: _, _, _, h, _, _ => by simp [pinned] at h
  | [], _ :: _, _, _, _, h, _, _ => by simp [pinned] at h
  | .view _ :: _, [], _, _, _, h, _, _ => by simp [pinned] at h
  | .view _ :: _, _ :: _, [], _, _, h, _, _ => by simp [pinned] at h
  | .give _ :: _, [], _, _, _, h, _, _ => by simp [pinned] at h
  | .give _ :: _, _ :: _, [], _, _, h, _, _ => by simp [pinned] at h
  | .lend _ _ :: _, [], _, _, _, h, _, _ => by simp [pinned] at h
  | .lend _ _ :: _, _ :: _, [], _, _, h, _, _ => by simp [pinned] at h
theorem RGs_length {w : World} {O : Nat → Prop} : ∀ {gs : List GA} {vs : List Value} {fss : List (List Nat)} {caps : List Nat}, RGs w O gs vs fss caps → vs.length = gs.length
  | [], [], _, _, _ => rfl
  | _ :: gs, _ :: vs, [], _, h => by simp [RGs] at h
  | _ :: gs, _ :: vs, _ :: _, [], h => by simp [RGs] at h
  | _ :: gs, _ :: vs, _ :: fss, _ :: caps, h => by simp only [RGs] at h; simp [RGs_length h.2]
  | [], _ :: _, _, _, h => by simp [RGs] at h
  | _ :: _, [], _, _, h => by simp [RGs] at h
theorem okG_of_awp {P : Program} [Tabs P] (hm : P.follows .mixedOrders = true) {f : FuncId} {fn : Func} {c : Code} (hf : P.funcs[f]? = some fn) (hb : fn.body = some c) {gs : List GA} {rr : AV}
    (h : awp P c ⟨entV 0 gs ++ List.replicate (fn.ntmps - gs.length) .undef, entO 0 gs⟩ (fun e s => (e = .normal ∨ e = .ret) ∧ HandsG P fn s gs rr)) : OkG P f gs rr := by
  intro w vs fss caps hg hab hnd hrg
  obtain ⟨Gs, hlen, hobj, hap, hpin, hdone⟩ := ent_ok gs vs fss caps 0 hrg hnd
  have hvl := RGs_length hrg
  generalize hB : (⟨w, fun b => b < w.heap.size, (· ∈ fss.flatten), fun _ => none, fun i => (Gs[i]?).map fun g => (.pointer g.a, g.cap), hg, fun b hb => (hab b hb).1, fun b hb => (hab b hb).2⟩ : Base P) = B
  have hw0 : B.w0 = w := by rw [← hB]
  have hA0 : ∀ b, B.A0 b ↔ b < w.heap.size := by intro b; rw [← hB]
  have hO0 : ∀ b, B.O0 b ↔ b ∈ fss.flatten := by intro b; rw [← hB]
  have hh0 : ∀ i, B.h0 i = none := by intro i; rw [← hB]
  have hp0 : ∀ i g, Gs[i]? = some g → B.p0 i = some (.pointer g.a, g.cap) := by intro i g hg; rw [← hB]; simp [hg]
  have kE : Keeps w (envBut w (· ∈ fss.flatten)) w (env B (entO 0 gs) Gs w) := by
    refine ⟨fun b hb => ⟨⟨.inl ((hA0 b).2 hb.1), fun i ob g hl _ hF => ?_⟩, rfl⟩, fun _ _ => trivial, fun _ _ _ h => h.elim, fun _ _ _ h => h.elim, fun _ _ _ _ _ h => h.elim⟩
    obtain ⟨_, _, _, f', _, h2, h3, _⟩ := hobj _ _ _ hl
    exact hb.2 (h3 _ ((h2 _).1 hF))
  have fc : Fc (env B (entO 0 gs) Gs w) 0 (entO 0 gs) Gs := by
    intro j ob g hl
    rw [Nat.zero_add]
    refine ⟨⟨ob, g, hl, Nat.le_refl _, fun _ _ => rfl, fun _ x hx => by rw [hh0] at hx; cases hx⟩, fun _ b f hga => ⟨ob, g, hl, Nat.le_refl _, fun _ _ => ⟨b, f, hga, by simp⟩, fun _ _ _ _ y hy => ?_⟩⟩
    rw [hp0 _ _ hl.2] at hy
    obtain rfl := Option.some.inj hy
    exact ⟨by rw [hga], fun _ _ => rfl⟩
  have r0 : Rel' B ⟨entV 0 gs ++ List.replicate (fn.ntmps - gs.length) .undef, entO 0 gs⟩ Gs { tmps := vs.toArray ++ Array.replicate (fn.ntmps - vs.toArray.size) Go.undef, defers := [] } w := by
    refine { len := hlen, defs := rfl, ok := ?_, apart := ?_, fresh := ?_, tmps := ?_, size := by rw [hw0]; exact Nat.le_refl _, frame := by rw [hw0]; exact fun _ _ _ => rfl, base := ?_, same := by rw [hw0]; exact Same.rfl }
    · intro i ob g hl _
      obtain ⟨_, _, _, f', h1, h2, h3, h4⟩ := hobj _ _ _ hl
      exact ⟨f', h4 _ kE fc, h1, fun b hb => (h2 b).2 hb⟩
    · intro i j oi oj gi gj b hi hj _ _ hfi hfj
      exact hap _ _ _ _ _ _ b hi hj hfi hfj
    · intro i ob g b hl _ hF
      obtain ⟨_, _, _, f', _, h2, h3, _⟩ := hobj _ _ _ hl
      have := h3 _ ((h2 _).1 hF)
      exact ⟨.inl ((hO0 b).2 this), (hab b this).2⟩
    · have h2 : ∀ n, Rc w (env B (entO 0 gs) Gs w) (List.replicate n .undef) (List.replicate n Go.undef) [] := by
        intro n
        induction n with
        | zero => simp [Rc]
        | succ n ih => simp only [List.replicate_succ, Rc]; exact ⟨[], [], by simp [R], ih, rfl⟩
      have := Rc_append (hdone _ kE fc) (h2 (fn.ntmps - gs.length))
      simpa [hvl] using this
    · intro b hb
      rw [hw0]; exact (hA0 b).1 hb
  refine calls_of_wp hf hb (wp_mono (awp_sound hm c _ _ h _ _ ⟨_, r0⟩) fun e a w' he => ?_)
  obtain ⟨s, ⟨he, ys, hys, hok, hres, hcl, hlo, hun⟩, G, r⟩ := he
  obtain ⟨u, hrun, hR⟩ := run_results r hys
  have hun' := List.nodup_append.1 hun
  obtain ⟨fp, k1, k2, k3⟩ := R_res r _ u hok hun'.2.1 hR
  rw [hres] at k1
  have hpin0 : pinned (fun i => Gs[i]?) 0 gs vs caps := by simpa using hpin [] rfl
  obtain ⟨fss', q1, q2, q3⟩ := lends_out r hp0 gs vs caps 0 0 hpin0 hlo hun'.1
  have hin : ∀ b ∈ fss'.flatten ++ fp, (b ∈ fss.flatten ∨ w.heap.size ≤ b) ∧ b < w'.heap.size := by
    intro b hb
    have : ∃ i ob g, look s.o G i ob g ∧ ob.live = true ∧ g.F b := by
      rcases List.mem_append.1 hb with hb | hb
      · obtain ⟨i, ob, g, _, h⟩ := q3 b hb; exact ⟨i, ob, g, h⟩
      · obtain ⟨i, ob, g, _, h⟩ := k3 b hb; exact ⟨i, ob, g, h⟩
    obtain ⟨i, ob, g, hl, hlive, hF⟩ := this
    have := r.fresh _ _ _ b hl hlive hF
    rw [hw0, hO0] at this
    exact this
  have hfin : ∃ v fp fss', Ending.returned u = .returned v ∧ R w' envNone rr v fp ∧ RPs w' gs vs fss' caps ∧ (fss'.flatten ++ fp).Nodup ∧
      (∀ b ∈ fss'.flatten ++ fp, (b ∈ fss.flatten ∨ w.heap.size ≤ b) ∧ b < w'.heap.size) ∧ w.heap.size ≤ w'.heap.size ∧ (∀ b, b < w.heap.size → b ∉ fss.flatten → w'.heap[b]? = w.heap[b]?) ∧ Same w w' := by
    refine ⟨u, fp, fss', rfl, R_clean (E := (env B s.o G w').plain) (fun _ _ => trivial) rfl rfl rfl _ _ _ hcl k1, q1, List.nodup_append.2 ⟨q2, k2, fun x hx y hy e => ?_⟩, hin, by have := r.size; rwa [hw0] at this, fun b hb hn => by have := r.frame b (by rw [hw0]; exact hb) (fun h => hn ((hO0 b).1 h)); rwa [hw0] at this, by have := r.same; rwa [hw0] at this⟩
    subst e
    exact Of_apart r (fun i hi j hj => hun'.2.2 i hi j hj) (q3 x hx) (k3 x hy)
  rcases he with rfl | rfl
  · exact ⟨r.defs, u, hrun, hfin⟩
  · exact ⟨r.defs, u, hrun, hfin⟩
end Go.Aw

namespace Go.Aw
theorem entG {P : Program} [Tabs P] (hm : P.follows .mixedOrders = true) {f : FuncId} {fn : Func} {c : Code} (hf : P.funcs[f]? = some fn) {n : Nat} (hn : fn.ntmps = n) {gs : List GA} {t : List AV} {o : List AObj} {rr : AV}
    (h : awp P c ⟨t, o⟩ (fun e s => (e = .normal ∨ e = .ret) ∧ HandsG P fn s gs rr)) (hb : fn.body = some c := by rfl)
    (ho : entO 0 gs = o := by
      simp only [entO, absorb_eq, absorbc_eq, absV, absVc, absO, absOc, absN, absNc, Nat.add_zero, Nat.zero_add, Nat.reduceAdd, List.cons_append, List.nil_append, List.append_nil, List.length_cons, List.length_nil]; rfl)
    (ht : entV 0 gs ++ List.replicate (n - gs.length) .undef = t := by
      simp only [entV, absorb_eq, absorbc_eq, absV, absVc, absO, absOc, absN, absNc, Nat.add_zero, Nat.zero_add, List.length_cons, List.length_nil, Nat.reduceSub, Nat.reduceAdd, List.replicate_succ, List.replicate_zero, List.cons_append, List.nil_append, List.append_nil]; rfl) : OkG P f gs rr := by
  subst ht; subst hn; subst ho; exact okG_of_awp hm hf hb h
end Go.Aw
