/-
  Proved here: steps towards the statement of this claim, text SI2.
  No condition beyond what each statement spells out.
-/
import Derived.Test.YtphofanfadgalaaGreatDoorI1
import Derived.Test.YtphofanfadgalaaGreatDoorSP9
import Derived.Test.YtphofanfadgalaaGreatDoorF8
import Derived.Test.YtphofanfadgalaaGreatDoorF5
import Derived.Test.YtphofanfadgalaaGreatDoorF4
import Derived.Test.YtphofanfadgalaaGreatDoorSY2
import Derived.Test.YtphofanfadgalaaGreatDoorQ2
set_option linter.all false
set_option maxRecDepth 4000
set_option maxHeartbeats 4000000
namespace Go.Proofs.YtphofanfadgalaaGreatDoor
open Go.Aw
set_option maxRecDepth 100000
theorem insMod_in [Tabs Tryz.prog] (l : List DModule) (m : DModule) (i : Nat) (hi : i < l.length) (hn : l.length ≤ 1099511627776) : OkG Tryz.prog 125 [.give (.sl .own 5 (l.map eModule)), .view (.int .i64 i), .give (.sl .own 5 [eModule m])] (.sl .own 5 ((l.take i ++ m :: l.drop i).map eModule)) := by
  have h := ins_okG (P := Tryz.prog) (f := 125) (n := l.length) (i := i) (k := 5) (l := l.map eModule) (x := eModule m) (by simp) hi (by simp [List.all_map, flatv]) (by simp [flatv])
    (fun w b off c C e fz olds news vb voff vc Cv ev fzv hb hz hc hol h1o hfit hnc hmax hne hvb hzv hcv hnl h1n => by
      by_cases hr : l.length + 1 ≤ c
      · exact insMod_shift w b off l.length c i vb voff vc C Cv e ev fz fzv olds news hi hr hb hz hc hol h1o hfit hmax hne hvb hzv hcv hnl h1n
      · exact insMod_grow w b off l.length c i vb voff vc C Cv e ev fz fzv olds news hi (by omega) hn hb hz hc hol h1o hfit hnc hmax hne hvb hzv hcv hnl h1n)
  rw [← List.map_take, ← List.map_drop, List.append_assoc] at h
  simpa using h
theorem insMod_end [Tabs Tryz.prog] (l : List DModule) (m : DModule) (hn : l.length ≤ 1099511627776) : OkG Tryz.prog 125 [.give (.sl .own 5 (l.map eModule)), .view (.int .i64 l.length), .give (.sl .own 5 [eModule m])] (.sl .own 5 ((l ++ [m]).map eModule)) := by
  have h := ins_okG_end (P := Tryz.prog) (f := 125) (n := l.length) (k := 5) (l := l.map eModule) (x := eModule m) (by simp) (by simp [List.all_map, flatv]) (by simp [flatv])
    (fun w base bb c olds news vb voff vc hol hnc hmax hcv hnl h1n hor => by
      obtain ⟨inf, hinf, hq⟩ := Option.map_eq_some_iff.1 (show (Tryz.prog.info? 79).map (fun i => (i.size, i.bytes)) = some (5, 64) by kernel_rfl)
      obtain ⟨hsz, hby⟩ := Prod.mk.inj hq
      obtain ⟨z, hz0, hzc⟩ := zeroSz_some Tryz.zsz79 hinf
      have hmax2 : c ≤ 9223372036854775807 := hmax
      have holds : ∀ w', w'.heap = w.heap → (Builtin.firstCells inf.size l.length (.slice base l.length c)).run Tryz.prog w' = .ok olds.toArray w' := by
        intro w' hw'
        rcases hor with ⟨h0, h1⟩ | ⟨off, C, e, fz, rfl, hb, hz, hc, hfit⟩
        · rw [h0] at hol ⊢
          obtain rfl := List.eq_nil_of_length_eq_zero (by simpa using hol)
          cases base with
          | none => simp [Builtin.firstCells]
          | some a' => simp [Builtin.firstCells, loadCells, loadCellsFrom]
        · rw [hsz]
          exact firstCells_run hol (hc.heap hw')
      obtain ⟨hroom, hgrow⟩ := run_append (P := Tryz.prog) (w := w) (tS := 50) (xT := 50) (ty := 50) Tryz.underlying50 ⟨_, Tryz.underlying50, fun k h => by cases h⟩ hinf hz0 (base := base) (sLen := l.length) (sCap := c) (n := 1) (x := .slice (some ⟨vb, voff, none⟩) 1 vc)
        (by simp [Builtin.lenOf]) (news := news) (olds := olds) (fun w' hw' => by rw [hsz]; exact firstCells_run (by omega) (hcv.heap hw')) holds (by rw [hby]; omega) (by omega)
      by_cases hr : l.length + 1 ≤ c
      · rcases hor with ⟨h0, h1⟩ | ⟨off, C, e, fz, rfl, hb, hz, hc, hfit⟩
        · omega
        · have hst := run_store_cells (P := Tryz.prog) (off := off + l.length * 5) hb hz (by rw [hnl]; have := Nat.mul_le_mul_right 5 hr; omega) h1n
          have hrun := hroom hr _ (by rw [hsz]; simpa [addr_add] using hst)
          obtain ⟨C', hI⟩ := insd_endroom (k := 5) hb hz hc hol hnl hr hfit hmax
          exact insMod_endRun w _ l.length c vb voff vc _ _ _ hnc hmax2 (fun h => by cases h) (fun ty => hrun) ⟨_, _, _, _, _, _, _, rfl, hI⟩
      · have hrun := hgrow (by omega)
        have hgc := grownCap_ge w (l.length + 1) c 79
        have hgm : grownCap w (l.length + 1) c 79 ≤ maxLen := grownCap_le_maxLen _ _ _ _ (by simp [maxLen]; omega)
        obtain ⟨C', hI⟩ := insd_endgrow (w := w) (b := bb) (n := l.length) (k := 5) (cap := grownCap w (l.length + 1) c 79) (e := 79) (olds := olds) (news := news) (ROW := olds.toArray ++ news.toArray ++ Builtin.zeroCells z.cells (grownCap w (l.length + 1) c 79 - (l.length + 1)))
          (fun j v hv => by
            rw [show olds.toArray ++ news.toArray = (olds ++ news).toArray by simp, Array.getElem?_append_left (by simpa using (List.getElem?_eq_some_iff.1 hv).1)]
            simpa using hv)
          (by simp only [Array.size_append, List.size_toArray, size_zeroCells, hzc, hol, hnl]; omega) hgc hgm
        exact insMod_endRun w _ l.length c vb voff vc _ _ _ hnc hmax2 (fun h => by
          subst h
          rcases hor with ⟨h0, h1⟩ | ⟨off, C, e, fz, h, _⟩
          · exact h0
          · cases h) (fun ty => hrun) ⟨_, _, _, _, _, _, _, rfl, hI⟩)
  simpa using h
theorem insMod_ok [Tabs Tryz.prog] (l : List DModule) (m : DModule) (i : Nat) (hi : i ≤ l.length) (hn : l.length ≤ 1099511627776) : OkG Tryz.prog 125 [.give (.sl .own 5 (l.map eModule)), .view (.int .i64 i), .give (.sl .own 5 [eModule m])] (.sl .own 5 ((l.take i ++ m :: l.drop i).map eModule)) := by
  by_cases h : i < l.length
  · exact insMod_in l m i h hn
  · obtain rfl : i = l.length := by omega
    simpa using insMod_end l m hn
end Go.Proofs.YtphofanfadgalaaGreatDoor

namespace Go.Aw
theorem cmp_val : ∀ a b : List UInt8, Lib.compareBytes a b = if a = b then 0 else if Op.bytesLess a b = true then -1 else 1
  | [], [] => rfl
  | [], _ :: _ => by simp [Lib.compareBytes, Op.bytesLess]
  | _ :: _, [] => by simp [Lib.compareBytes, Op.bytesLess]
  | x :: xs, y :: ys => by
    have ih := cmp_val xs ys
    simp only [Lib.compareBytes, Op.bytesLess]
    by_cases h : x < y
    · have hne : x ≠ y := UInt8.ne_of_lt h
      simp [h, hne]
    · by_cases h2 : y < x
      · have hne : x ≠ y := (UInt8.ne_of_lt h2).symm
        simp [h, h2, hne]
      · have he : x = y := UInt8.le_antisymm (UInt8.not_lt.1 h2) (UInt8.not_lt.1 h)
        subst he
        simp [h, ih]
theorem cmp_zero (a b : List UInt8) : Lib.compareBytes a b = 0 ↔ a = b := by
  rw [cmp_val]
  split
  · simp_all
  · split <;> simp_all
theorem okN_compare {P : Program} [Tabs P] {f : FuncId} {fn : Func} (hf : P.funcs[f]? = some fn) (hname : (fn.name == "runtime.NumGoroutine") = false)
    (hb : fn.body.isNone = true) (hn : Extern.findNext fn = none) (he : Extern.find fn = some Extern.BytealgCompare.compare) (s t : Str) :
    OkN P f [.str s, .str t] (.int .i64 (Lib.compareBytes s t)) := by
  intro w vs h
  obtain ⟨v1, h⟩ : ∃ v : Value, vs = [.string ⟨s.toArray⟩, .string ⟨t.toArray⟩] := by
    cases vs with
    | nil => simp [Rc] at h
    | cons a vs => cases vs with
      | nil => simp [Rc] at h
      | cons b vs => cases vs with
        | nil =>
          simp only [Rc, R] at h
          obtain ⟨f1, f2, h1, h2, h3⟩ := h
          obtain ⟨f3, f4, h4, h5, h6⟩ := h2
          exact ⟨a, by rw [h1.1, h4.1]⟩
        | cons d vs =>
          simp only [Rc, R] at h
          obtain ⟨f1, f2, h1, h2, h3⟩ := h
          obtain ⟨f3, f4, h4, h5, h6⟩ := h2
          simp [Rc] at h5
  subst h
  refine ⟨.int .i64 (Lib.compareBytes s t), w, ?_, rfl, Same.rfl, fun _ _ => by simp [R]⟩
  rw [run_callFunc_extern hf hname hb hn he, show [Value.string ⟨s.toArray⟩, Value.string ⟨t.toArray⟩].toArray = #[Value.string ⟨s.toArray⟩, Value.string ⟨t.toArray⟩] from rfl, Go.Lib.run_compareString]
  rfl
end Go.Aw

set_option maxRecDepth 4000
set_option maxHeartbeats 4000000
namespace Go.Proofs.YtphofanfadgalaaGreatDoor
open Go.Aw
theorem cmpstring_ok [Tabs Tryz.prog] (s t : Str) : OkN Tryz.prog 209 [.str s, .str t] (.int .i64 (Lib.compareBytes s t)) :=
  okN_compare (fn := Tryz.f209) (by kernel_rfl) (by decide +kernel) rfl (by decide +kernel) (by rfl) s t
theorem compareString_ok [Tabs Tryz.prog] (s t : Str) : Ok Tryz.prog 192 [.str s, .str t] (.int .i64 (Lib.compareBytes s t)) := by
  refine ent Tryz.mix Tryz.func192 Tryz.ntmps192 ?_
  have W := trivial
  have c0 := cmpstring_ok s t
  repeat' first|refine st ?_|(refine nx ?_;first|refine se ?_|refine so ?_)|(refine cx ?_;refine sc (fun hc=>?_) (fun hc=>?_)<;>try exact hc.elim)|(refine lx ?_;refine sp (fun hc=>?_) (fun hc=>?_)<;>try exact hc.elim)|refine sx ?_ ?_|refine sy ?_ ?_|fail
  all_goals (try (refine ⟨.inr rfl, ?_⟩; simp [Hands, Tryz.results192]))
theorem stringsCompare_ok [Tabs Tryz.prog] (s t : Str) : Ok Tryz.prog 161 [.str s, .str t] (.int .i64 (Lib.compareBytes s t)) := by
  refine ent Tryz.mix Tryz.func161 Tryz.ntmps161 ?_
  have W := trivial
  have c0 := compareString_ok s t
  repeat' first|refine st ?_|(refine nx ?_;first|refine se ?_|refine so ?_)|(refine cx ?_;refine sc (fun hc=>?_) (fun hc=>?_)<;>try exact hc.elim)|(refine lx ?_;refine sp (fun hc=>?_) (fun hc=>?_)<;>try exact hc.elim)|refine sx ?_ ?_|refine sy ?_ ?_|fail
  all_goals (try (refine ⟨.inr rfl, ?_⟩; simp [Hands, Tryz.results161]))
def cmpAddr (a b : DAddr) : Int := if Lib.compareBytes a.host b.host ≠ 0 then Lib.compareBytes a.host b.host else Lib.compareBytes a.path b.path
theorem implCompareAddrs_ok [Tabs Tryz.prog] (a b : DAddr) : Ok Tryz.prog 124 [.agg (eAddr a), .agg (eAddr b)] (.int .i64 (cmpAddr a b)) := by
  have c1 := stringsCompare_ok a.host b.host
  have c2 := stringsCompare_ok a.path b.path
  unfold cmpAddr
  generalize Lib.compareBytes a.host b.host = x at *
  generalize Lib.compareBytes a.path b.path = y at *
  by_cases hx : x = 0
  · refine ent Tryz.mix Tryz.func124 Tryz.ntmps124 ?_
    have W := hx
    repeat' first|refine st ?_|(refine nx ?_;first|refine se ?_|refine so ?_)|(refine cx ?_;refine sc (fun hc=>?_) (fun hc=>?_)<;>try exact hc.elim)|(refine lx ?_;refine sp (fun hc=>?_) (fun hc=>?_)<;>try exact hc.elim)|refine sx ?_ ?_|refine sy ?_ ?_|fail
    all_goals (try (refine ⟨.inr rfl, ?_⟩; simp [Hands, Tryz.results124, hx]))
  · refine ent Tryz.mix Tryz.func124 Tryz.ntmps124 ?_
    have W := hx
    repeat' first|refine st ?_|(refine nx ?_;first|refine se ?_|refine so ?_)|(refine cx ?_;refine sc (fun hc=>?_) (fun hc=>?_)<;>try exact hc.elim)|(refine lx ?_;refine sp (fun hc=>?_) (fun hc=>?_)<;>try exact hc.elim)|refine sx ?_ ?_|refine sy ?_ ?_|fail
    all_goals (try (refine ⟨.inr rfl, ?_⟩; simp [Hands, Tryz.results124, hx]))
theorem bytesLess_irr : ∀ l : List UInt8, Op.bytesLess l l = false
  | [] => rfl
  | x :: l => by simp [Op.bytesLess, bytesLess_irr l, UInt8.lt_irrefl]
theorem cmpAddr_val (a b : DAddr) : cmpAddr a b = if a = b then 0 else if (Op.bytesLess a.host b.host || (a.host == b.host && Op.bytesLess a.path b.path)) = true then -1 else 1 := by
  unfold cmpAddr
  obtain ⟨h1, p1⟩ := a
  obtain ⟨h2, p2⟩ := b
  simp only [cmp_val, DAddr.mk.injEq]
  by_cases e1 : h1 = h2
  · subst e1
    by_cases e2 : p1 = p2
    · simp [e2]
    · have := bytesLess_irr h1
      simp [e2, this]
  · cases hb : Op.bytesLess h1 h2 <;> simp [e1, hb]
theorem specCompareAddrs_ok [Tabs Tryz.prog] (a b : DAddr) : Ok Tryz.prog 116 [.agg (eAddr a), .agg (eAddr b)] (.int .i64 (cmpAddr a b)) := by
  rw [cmpAddr_val]
  have c1 := eqAddrA a b
  by_cases he : a = b
  · subst he
    simp only [eAddr, decide_true] at c1
    refine ent Tryz.mix Tryz.func116 Tryz.ntmps116 ?_
    have W := trivial
    have c0 := c1
    repeat' first|refine st ?_|(refine nx ?_;first|refine se ?_|refine so ?_)|(refine cx ?_;refine sc (fun hc=>?_) (fun hc=>?_)<;>try exact hc.elim)|(refine lx ?_;refine sp (fun hc=>?_) (fun hc=>?_)<;>try exact hc.elim)|refine sx ?_ ?_|refine sy ?_ ?_|fail
    all_goals (try (refine ⟨.inr rfl, ?_⟩; simp [Hands, Tryz.results116]))
  · simp only [eAddr, he, decide_false] at c1
    simp only [he, if_false]
    cases h1 : Op.bytesLess a.host b.host
    · by_cases h2 : a.host = b.host
      · rw [h2] at c1
        have h0 := bytesLess_irr b.host
        cases h3 : Op.bytesLess a.path b.path
        · refine ent Tryz.mix Tryz.func116 Tryz.ntmps116 ?_
          have W := And.intro h0 (And.intro h1 (And.intro h2 h3))
          have c0 := c1
          repeat' first|refine st ?_|(refine nx ?_;first|refine se ?_|refine so ?_)|(refine cx ?_;refine sc (fun hc=>?_) (fun hc=>?_)<;>try exact hc.elim)|(refine lx ?_;refine sp (fun hc=>?_) (fun hc=>?_)<;>try exact hc.elim)|refine sx ?_ ?_|refine sy ?_ ?_|fail
          all_goals (try (refine ⟨.inr rfl, ?_⟩; simp [Hands, Tryz.results116, h0, h1, h2, h3]))
        · refine ent Tryz.mix Tryz.func116 Tryz.ntmps116 ?_
          have W := And.intro h0 (And.intro h1 (And.intro h2 h3))
          have c0 := c1
          repeat' first|refine st ?_|(refine nx ?_;first|refine se ?_|refine so ?_)|(refine cx ?_;refine sc (fun hc=>?_) (fun hc=>?_)<;>try exact hc.elim)|(refine lx ?_;refine sp (fun hc=>?_) (fun hc=>?_)<;>try exact hc.elim)|refine sx ?_ ?_|refine sy ?_ ?_|fail
          all_goals (try (refine ⟨.inr rfl, ?_⟩; simp [Hands, Tryz.results116, h0, h1, h2, h3]))
      · refine ent Tryz.mix Tryz.func116 Tryz.ntmps116 ?_
        have W := And.intro h1 h2
        have c0 := c1
        repeat' first|refine st ?_|(refine nx ?_;first|refine se ?_|refine so ?_)|(refine cx ?_;refine sc (fun hc=>?_) (fun hc=>?_)<;>try exact hc.elim)|(refine lx ?_;refine sp (fun hc=>?_) (fun hc=>?_)<;>try exact hc.elim)|refine sx ?_ ?_|refine sy ?_ ?_|fail
        all_goals (try (refine ⟨.inr rfl, ?_⟩; simp [Hands, Tryz.results116, h1, h2]))
    · refine ent Tryz.mix Tryz.func116 Tryz.ntmps116 ?_
      have W := h1
      have c0 := c1
      repeat' first|refine st ?_|(refine nx ?_;first|refine se ?_|refine so ?_)|(refine cx ?_;refine sc (fun hc=>?_) (fun hc=>?_)<;>try exact hc.elim)|(refine lx ?_;refine sp (fun hc=>?_) (fun hc=>?_)<;>try exact hc.elim)|refine sx ?_ ?_|refine sy ?_ ?_|fail
      all_goals (try (refine ⟨.inr rfl, ?_⟩; simp [Hands, Tryz.results116, h1]))
def askAt (l : List DModule) (a : DAddr) : Nat := (l.takeWhile fun m => decide (cmpAddr m.to a < 0)).length
theorem askAt_eq {a : DAddr} : ∀ {l : List DModule} {k : Nat}, k ≤ l.length → (∀ x ∈ l.take k, cmpAddr x.to a < 0) → (∀ m, l[k]? = some m → ¬ cmpAddr m.to a < 0) → askAt l a = k
  | [], k, h, _, _ => by simp at h; subst h; rfl
  | m :: l, 0, _, _, h => by simp [askAt, h m rfl]
  | m :: l, k + 1, h0, h1, h2 => by
    have ih := askAt_eq (a := a) (l := l) (k := k) (by simpa using h0) (fun x hx => h1 x (by simp [hx])) (fun m hm => h2 m (by simpa using hm))
    have := h1 m (by simp)
    simp only [askAt, List.takeWhile_cons, decide_eq_true this, List.length_cons] at ih ⊢
    simpa using ih
theorem askAt_le (l : List DModule) (a : DAddr) : askAt l a ≤ l.length := (List.takeWhile_sublist _).length_le
def newMod (p : DPage) (a : DAddr) : DModule := if checkRequest p.policy ⟨5, a, p.addr.host, []⟩ = 1 then ⟨a, false, 0, []⟩ else ⟨a, true, 2, []⟩
def askMods (p : DPage) (a : DAddr) (k : Nat) : List DModule := p.mods.take k ++ newMod p a :: p.mods.drop k
def askModule (p : DPage) (a : DAddr) : DPage :=
  match p.mods[askAt p.mods a]? with
  | some m => if m.to = a then p else { p with mods := askMods p a (askAt p.mods a) }
  | none => { p with mods := askMods p a (askAt p.mods a) }
end Go.Proofs.YtphofanfadgalaaGreatDoor
