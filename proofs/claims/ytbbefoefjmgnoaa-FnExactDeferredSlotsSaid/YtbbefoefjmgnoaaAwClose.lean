/-
  Proved here: that a value with memory of its own may be stored into an element of an owned slice.
  No condition beyond what each statement spells out.
-/
import Derived.Test.YtbbefoefjmgnoaaAwSteps6
import Derived.Test.YtbbefoefjmgnoaaAwSteps2
set_option linter.all false
set_option linter.unusedVariables false
namespace Go.Aw
section
variable {P : Program} {B : Base} {s : AS} {dst : Option Tmp} {ty : TypeId} {pos : String} {after : Array Edge} {gd : Option (Nat × Bool)}

/-- Cells with memory of their own go into an element of an object. -/
theorem Rel'.storedF {G : List CO} {a : Act} {w : World} (r : Rel' B s G a w) {i idx off : Nat} {ob : AObj} {g : CO} {e c : List AV} {vs : List Value} {fpo fp2 : List Nat} (hl : Aw.look s.o G i ob g) (hlive : ob.live = true) (hbox : ob.box = false) (he : ob.els[idx]? = some e)
    (hfit : off + c.length ≤ e.length) (hone : ∀ x ∈ vs, x.oneCell' = true) (hr : Rc w (env B s.o G w).plain c vs fp2)
    (hown : OwnOk w (env B s.o G w).plain ob.n ob.els g.a g.cap fpo) (hnd0 : (fpo ++ fp2).Nodup) (hF0 : ∀ b ∈ fpo ++ fp2, g.F b) :
    ∃ b f, g.a = some ⟨b, f, none⟩ ∧ (storeCells ⟨b, f + (idx * ob.n + off), none⟩ vs).run P w = .ok () (w.setCells b (f + (idx * ob.n + off)) vs) ∧
      Rel' B (s.stored i idx off ob e c) (G.set i g) a (w.setCells b (f + (idx * ob.n + off)) vs) := by
  have hvl := Rc_length hr
  rcases hown with ⟨hlen, ⟨h, _⟩ | ⟨b, f, C, ty, fz, fps, ha, hb, hz, h1, h2, h3, rfl, hrr⟩⟩
  · rw [h] at he; simp at he
  obtain ⟨f1, f2, f3, cs, hfe, hn, hc, hone', hrc, hr1, hr3⟩ := Rr_get hrr he
  have hcl := Rc_length hrc
  have hidx : idx < ob.els.length := (List.getElem?_eq_some_iff.1 he).1
  have hmul : (idx + 1) * ob.n ≤ g.cap * ob.n := Nat.mul_le_mul_right _ (by omega)
  have hm1 : (idx + 1) * ob.n = idx * ob.n + ob.n := by rw [Nat.add_mul]; omega
  have hfit' : f + (idx * ob.n + off) + vs.length ≤ C.size := by omega
  refine ⟨b, f, ha, run_store_cells hb hz hfit' hone, ?_⟩
  have hbF : g.F b := hF0 b (by simp)
  have hother : ∀ b', b' ≠ b → (w.setCells b (f + (idx * ob.n + off)) vs).heap[b']? = w.heap[b']? := fun b' hne => heap_setCells b b' hne _ _ _
  obtain ⟨C', hC', hCs⟩ := block_setCells b ty fz vs (f + (idx * ob.n + off)) w C hb
  have hm := r.modify hl hlive { ob with els := ob.els.set idx (e.take off ++ c ++ e.drop (off + c.length)) } g (w.setCells b (f + (idx * ob.n + off)) vs) (Nat.le_refl _) rfl (fun _ => ⟨rfl, rfl, by simp⟩) (fun b hb => .inl hb) (fun b hb hne => ⟨hb, hne⟩)
    (fun b' hlt hne => hother b' (fun e => hne ⟨e ▸ hbF, ⟨b, f, none⟩, ha, e⟩)) (by rw [size_setCells]; exact Nat.le_refl _) (fun k _ => by
    generalize env B (s.o.set i { ob with els := ob.els.set idx (e.take off ++ c ++ e.drop (off + c.length)) }) (G.set i g) (w.setCells b (f + (idx * ob.n + off)) vs) = E' at k ⊢
    have kb := k.plain
    simp only [ObjOk, hbox, Env.of, Bool.false_eq_true, if_false]
    obtain ⟨g1, g2, rfl, hc1, hc2⟩ := Rc_split off hrc
    obtain ⟨g3, g4, rfl, hc3, hc4⟩ := Rc_split c.length hc2
    subst hfe
    have hbn0 := hnd0
    simp only [List.cons_append, List.nodup_cons] at hbn0
    obtain ⟨hbn, hnd⟩ := hbn0
    have hp : (f1 ++ (g1 ++ fp2 ++ g4) ++ f3).Perm ((f1 ++ (g1 ++ g4) ++ f3) ++ fp2) := by
      have e1 : (g1 ++ fp2 ++ g4 ++ f3).Perm (g1 ++ g4 ++ f3 ++ fp2) := by
        simp only [List.append_assoc]
        refine List.Perm.append_left g1 ?_
        rw [← List.append_assoc g4]
        exact List.perm_append_comm
      simpa only [List.append_assoc] using List.Perm.append_left f1 e1
    have hsub : (f1 ++ (g1 ++ g4) ++ f3 ++ fp2).Sublist (f1 ++ (g1 ++ (g3 ++ g4)) ++ f3 ++ fp2) := (((List.Sublist.refl f1).append ((List.Sublist.refl g1).append (List.sublist_append_right g3 g4))).append (List.Sublist.refl f3)).append (List.Sublist.refl fp2)
    have hin : ∀ x, x ∈ f1 ++ (g1 ++ fp2 ++ g4) ++ f3 → x ∈ f1 ++ (g1 ++ (g3 ++ g4)) ++ f3 ++ fp2 := fun x hx => hsub.subset (hp.subset hx)
    have hold : ∀ x ∈ f1 ++ (g1 ++ fp2 ++ g4) ++ f3, (w.setCells b (f + (idx * ob.n + off)) vs).heap[x]? = w.heap[x]? := fun x hx => hother x (fun e => hbn (e ▸ hin x hx))
    have hout : ∀ j, j < f + (idx * ob.n + off) ∨ f + (idx * ob.n + off) + vs.length ≤ j → (w.setCells b (f + (idx * ob.n + off)) vs).cell? ⟨b, j, none⟩ = w.cell? ⟨b, j, none⟩ := fun j hj => World.cell?_setCells_out b vs _ w _ (fun _ _ => hj)
    have hti : (ob.els.take idx).length = idx := by simp; omega
    refine ⟨b :: (f1 ++ (g1 ++ fp2 ++ g4) ++ f3), ⟨by simpa using hlen, .inr ⟨b, f, C', ty, fz, _, ha, hC', by rw [hCs]; exact hz, by rw [hCs]; exact h1, by simpa using h2, h3, rfl, ?_⟩⟩, ?_, ?_⟩
    · show Rr _ _ (ob.els.set idx _) b f ob.n _
      refine Rr_mk (cs := cs.take off ++ vs ++ cs.drop (off + vs.length)) hidx ?_ ?_ ?_ ?_ ?_ ?_
      · simp only [List.length_append, List.length_take, List.length_drop]; omega
      · have hc1 : CellsAt w b (f + idx * ob.n) cs := hc
        have htl : (cs.take off).length = off := by simp; omega
        refine CellsAt.append.2 ⟨CellsAt.append.2 ⟨?_, ?_⟩, ?_⟩
        · intro j v hv
          have hj := (List.getElem?_eq_some_iff.1 hv).1
          rw [htl] at hj
          rw [hout _ (by omega)]
          exact hc1.take j v hv
        · intro j v hv
          have hj : j < vs.length := (List.getElem?_eq_some_iff.1 hv).1
          rw [htl, Nat.add_assoc f]
          have := World.cell?_setCells_in b vs (f + (idx * ob.n + off)) w (fun j hj => by
            have : f + (idx * ob.n + off) + j < C.size := by omega
            simp [World.cell?, hb, this]) j hj
          rw [this]
          rw [List.getElem?_eq_getElem hj] at hv
          exact hv
        · intro j v hv
          simp only [List.length_append, htl]
          rw [hout _ (by omega)]
          have := hc1.drop (k := off + vs.length) j v hv
          rwa [show f + idx * ob.n + (off + vs.length) + j = f + idx * ob.n + (off + vs.length) + j from rfl] at this
      · intro x hx
        simp only [List.mem_append] at hx
        rcases hx with (hx | hx) | hx
        · exact hone' x (List.mem_of_mem_take hx)
        · exact hone x hx
        · exact hone' x (List.mem_of_mem_drop hx)
      · refine Rc_append (Rc_append (Rc_keeps kb _ _ _ (fun x hx => hold x (by simp [hx])) hc1) (Rc_keeps kb _ _ _ (fun x hx => hold x (by simp [hx])) hr)) ?_
        rw [← hvl, ← List.drop_drop, ← List.drop_drop] at *
        rw [hvl] at *
        exact Rc_keeps kb _ _ _ (fun x hx => hold x (by simp [hx])) hc4
      · refine Rr_out kb hout (fun x hx => hold x (by simp [hx])) (.inl ?_) hr1
        rw [hti]; omega
      · refine Rr_out kb hout (fun x hx => hold x (by simp [hx])) (.inr ?_) hr3
        omega
    · exact List.nodup_cons.2 ⟨fun h => hbn (hin b h), hp.nodup_iff.2 (hsub.nodup hnd)⟩
    · intro x hx
      rcases List.mem_cons.1 hx with rfl | hx
      · exact hbF
      · exact hF0 x (by
          have := hin x hx
          simp only [List.cons_append, List.mem_cons]
          exact .inr this))
  exact hm.1

theorem resc_length (o : List AObj) : ∀ c : List AV, (resc o c).length = c.length
  | [] => rfl
  | _ :: xs => by simp [resc, resc_length o xs]

/-- A store of cells that hold handles of objects: these objects die, their memory is now the element's. -/
def AS.shut (s : AS) (i idx off : Nat) (ob : AObj) (e c : List AV) : AS :=
  AS.stored ⟨s.t, kills (usesc c) s.o⟩ i idx off ob e (resc s.o c)

theorem step_store_close (t : TypeId) (x y : Operand) {i ver idx off : Nat} {ob : AObj} {e : List AV} (hx : s.ev x = .ptr i ver idx off) (ho : AV.isObj s.o i ver = some ob) (he : ob.els[idx]? = some e)
    (hfy : (s.ev y).fit s.o = true) (hsz : sizeA P t = some (s.ev y).cells.length) (hfit : off + (s.ev y).cells.length ≤ e.length) (hbox : ob.box = false)
    (hok : resOkc s.o (s.ev y).cells = true) (hu : (usesc (s.ev y).cells).Nodup) (hi : i ∉ usesc (s.ev y).cells) :
    Step P B ⟨dst, .store t x y, ty, pos, after, gd⟩ s ((s.shut i idx off ob e (s.ev y).cells).put dst .undef) :=
  step_skip' fun G a w r => by
    obtain ⟨g, b, f, hl, hlive, ha, hv⟩ := r.ptr hx ho
    have hc := R_cells hfy (r.ev y)
    obtain ⟨fp, hrc, hnd, hOf⟩ := Rc_res r _ _ hok hu hc.1
    obtain ⟨fpo, hown, hndo, hFo⟩ := r.ok i ob g hl hlive
    simp only [hbox, Env.of, Bool.false_eq_true, if_false] at hown
    obtain ⟨G2, g2, r2, k2, hlk2, ha2, hc2, hF2⟩ := Rel'.transfers (k := i) (ok := ob) hlive _ r hl hu hi (fun j hj => resOkc_live hok j hj)
    have hdis : (fpo ++ fp).Nodup := List.nodup_append.2 ⟨hndo, hnd, fun b hb b' hb' e => by
      subst e
      obtain ⟨j, ob', g', hj, hl', hlive', hF'⟩ := hOf b hb'
      have := r.apart i j _ _ _ _ b hl hl' hlive hlive' (hFo b hb) hF'
      exact hi (this ▸ hj)⟩
    obtain ⟨b', f', ha', hst, hrel⟩ := r2.storedF (P := P) (c := resc s.o (s.ev y).cells) hlk2 hlive hbox he (by rw [resc_length]; exact hfit) hc.2.1
      (Rc_keeps k2.plain _ _ _ (fun _ _ => rfl) hrc) (by rw [ha2, hc2]; exact hown.keeps k2.plain (fun _ _ => rfl)) hdis (fun b hb => by
        rcases List.mem_append.1 hb with hb | hb
        · exact (hF2 b).2 (.inl (hFo b hb))
        · exact (hF2 b).2 (.inr (hOf b hb)))
    rw [ha2, ha] at ha'
    simp only [Option.some.injEq, Addr.mk.injEq, and_true] at ha'
    obtain ⟨rfl, rfl⟩ := ha'
    have hlen := Rc_length hc.1
    refine ⟨_, ?_, _, hrel.put dst (by simp [R])⟩
    unfold sizeA at hsz
    cases hi' : P.info? t with
    | none => simp [hi'] at hsz
    | some inf =>
      simp only [hi', Option.map_some, Option.some.injEq] at hsz
      have hlen' : (a.eval y).cells.size = inf.size := by rw [hsz]; simpa using hlen
      simp [execOp, hv, Instr.storeAt, Instr.sureAddr, storeVar, sizeOf, typeInfo, hi', hlen', hst]
end
end Go.Aw
