/-
  Proved here: steps towards the statement of this claim, text I3.
  No condition beyond what each statement spells out.
-/
import Derived.Test.YtonajehhfkkglabGreatSPL
import Derived.Test.YtonajehhfkkglabGreatSY3
import Derived.Test.YtonajehhfkkglabGreatQ2
set_option linter.all false
set_option maxRecDepth 4000
set_option maxHeartbeats 4000000
namespace Go.Proofs.YtonajehhfkkglabGreat
open Go.Aw
theorem cmpstring_ok [Tabs Tryz.prog] (s t : Str) : OkN Tryz.prog 153 [.str s, .str t] (.int .i64 (Lib.compareBytes s t)) :=
  okN_compare (fn := Tryz.f153) (by kernel_rfl) (by decide +kernel) rfl (by decide +kernel) (by rfl) s t
theorem compareString_ok [Tabs Tryz.prog] (s t : Str) : Ok Tryz.prog 147 [.str s, .str t] (.int .i64 (Lib.compareBytes s t)) := by
  refine ent Tryz.mix Tryz.func147 Tryz.ntmps147 ?_
  have W := trivial
  have c0 := cmpstring_ok s t
  repeat' first|refine st ?_|(refine nx ?_;first|refine se ?_|refine so ?_)|(refine cx ?_;refine sc (fun hc=>?_) (fun hc=>?_)<;>try exact hc.elim)|(refine lx ?_;refine sp (fun hc=>?_) (fun hc=>?_)<;>try exact hc.elim)|refine sx ?_ ?_|refine sy ?_ ?_|fail
  all_goals (try (refine ⟨.inr rfl, ?_⟩; simp [Hands, Tryz.results147]))
theorem stringsCompare_ok [Tabs Tryz.prog] (s t : Str) : Ok Tryz.prog 142 [.str s, .str t] (.int .i64 (Lib.compareBytes s t)) := by
  refine ent Tryz.mix Tryz.func142 Tryz.ntmps142 ?_
  have W := trivial
  have c0 := compareString_ok s t
  repeat' first|refine st ?_|(refine nx ?_;first|refine se ?_|refine so ?_)|(refine cx ?_;refine sc (fun hc=>?_) (fun hc=>?_)<;>try exact hc.elim)|(refine lx ?_;refine sp (fun hc=>?_) (fun hc=>?_)<;>try exact hc.elim)|refine sx ?_ ?_|refine sy ?_ ?_|fail
  all_goals (try (refine ⟨.inr rfl, ?_⟩; simp [Hands, Tryz.results142]))
def cmpAddr (a b : DAddr) : Int := if Lib.compareBytes a.host b.host ≠ 0 then Lib.compareBytes a.host b.host else Lib.compareBytes a.path b.path
theorem implCompareAddrs_ok [Tabs Tryz.prog] (a b : DAddr) : Ok Tryz.prog 130 [.agg (eAddr a), .agg (eAddr b)] (.int .i64 (cmpAddr a b)) := by
  have c1 := stringsCompare_ok a.host b.host
  have c2 := stringsCompare_ok a.path b.path
  unfold cmpAddr
  generalize Lib.compareBytes a.host b.host = x at *
  generalize Lib.compareBytes a.path b.path = y at *
  by_cases hx : x = 0
  · refine ent Tryz.mix Tryz.func130 Tryz.ntmps130 ?_
    have W := hx
    repeat' first|refine st ?_|(refine nx ?_;first|refine se ?_|refine so ?_)|(refine cx ?_;refine sc (fun hc=>?_) (fun hc=>?_)<;>try exact hc.elim)|(refine lx ?_;refine sp (fun hc=>?_) (fun hc=>?_)<;>try exact hc.elim)|refine sx ?_ ?_|refine sy ?_ ?_|fail
    all_goals (try (refine ⟨.inr rfl, ?_⟩; simp [Hands, Tryz.results130, hx]))
  · refine ent Tryz.mix Tryz.func130 Tryz.ntmps130 ?_
    have W := hx
    repeat' first|refine st ?_|(refine nx ?_;first|refine se ?_|refine so ?_)|(refine cx ?_;refine sc (fun hc=>?_) (fun hc=>?_)<;>try exact hc.elim)|(refine lx ?_;refine sp (fun hc=>?_) (fun hc=>?_)<;>try exact hc.elim)|refine sx ?_ ?_|refine sy ?_ ?_|fail
    all_goals (try (refine ⟨.inr rfl, ?_⟩; simp [Hands, Tryz.results130, hx]))
theorem bytesLess_irr : ∀ l : List UInt8, Op.bytesLess l l = false
  | [] => rfl
  | x :: l => by simp [Op.bytesLess, bytesLess_irr l, UInt8.lt_irrefl]
theorem cmpAddr_val (a b : DAddr) : cmpAddr a b = if a = b then 0 else if (Op.bytesLess a.host b.host || (a.host == b.host && Op.bytesLess a.path b.path)) = true then -1 else 1 := by
  unfold cmpAddr
  obtain ⟨h1, p1⟩ := a
  obtain ⟨h2, p2⟩ := b
  simp only [cmp_val, DAddr.mk.injEq]
  by_cases e1 : h1 = h2
  · subst e1
    by_cases e2 : p1 = p2
    · simp [e2]
    · have := bytesLess_irr h1
      simp [e2, this]
  · cases hb : Op.bytesLess h1 h2 <;> simp [e1, hb]
theorem specCompareAddrs_ok [Tabs Tryz.prog] (a b : DAddr) : Ok Tryz.prog 124 [.agg (eAddr a), .agg (eAddr b)] (.int .i64 (cmpAddr a b)) := by
  rw [cmpAddr_val]
  have c1 := eqAddrA a b
  by_cases he : a = b
  · subst he
    simp only [eAddr, decide_true] at c1
    refine ent Tryz.mix Tryz.func124 Tryz.ntmps124 ?_
    have W := trivial
    have c0 := c1
    repeat' first|refine st ?_|(refine nx ?_;first|refine se ?_|refine so ?_)|(refine cx ?_;refine sc (fun hc=>?_) (fun hc=>?_)<;>try exact hc.elim)|(refine lx ?_;refine sp (fun hc=>?_) (fun hc=>?_)<;>try exact hc.elim)|refine sx ?_ ?_|refine sy ?_ ?_|fail
    all_goals (try (refine ⟨.inr rfl, ?_⟩; simp [Hands, Tryz.results124]))
  · simp only [eAddr, he, decide_false] at c1
    simp only [he, if_false]
    cases h1 : Op.bytesLess a.host b.host
    · by_cases h2 : a.host = b.host
      · rw [h2] at c1
        have h0 := bytesLess_irr b.host
        cases h3 : Op.bytesLess a.path b.path
        · refine ent Tryz.mix Tryz.func124 Tryz.ntmps124 ?_
          have W := And.intro h0 (And.intro h1 (And.intro h2 h3))
          have c0 := c1
          repeat' first|refine st ?_|(refine nx ?_;first|refine se ?_|refine so ?_)|(refine cx ?_;refine sc (fun hc=>?_) (fun hc=>?_)<;>try exact hc.elim)|(refine lx ?_;refine sp (fun hc=>?_) (fun hc=>?_)<;>try exact hc.elim)|refine sx ?_ ?_|refine sy ?_ ?_|fail
          all_goals (try (refine ⟨.inr rfl, ?_⟩; simp [Hands, Tryz.results124, h0, h1, h2, h3]))
        · refine ent Tryz.mix Tryz.func124 Tryz.ntmps124 ?_
          have W := And.intro h0 (And.intro h1 (And.intro h2 h3))
          have c0 := c1
          repeat' first|refine st ?_|(refine nx ?_;first|refine se ?_|refine so ?_)|(refine cx ?_;refine sc (fun hc=>?_) (fun hc=>?_)<;>try exact hc.elim)|(refine lx ?_;refine sp (fun hc=>?_) (fun hc=>?_)<;>try exact hc.elim)|refine sx ?_ ?_|refine sy ?_ ?_|fail
          all_goals (try (refine ⟨.inr rfl, ?_⟩; simp [Hands, Tryz.results124, h0, h1, h2, h3]))
      · refine ent Tryz.mix Tryz.func124 Tryz.ntmps124 ?_
        have W := And.intro h1 h2
        have c0 := c1
        repeat' first|refine st ?_|(refine nx ?_;first|refine se ?_|refine so ?_)|(refine cx ?_;refine sc (fun hc=>?_) (fun hc=>?_)<;>try exact hc.elim)|(refine lx ?_;refine sp (fun hc=>?_) (fun hc=>?_)<;>try exact hc.elim)|refine sx ?_ ?_|refine sy ?_ ?_|fail
        all_goals (try (refine ⟨.inr rfl, ?_⟩; simp [Hands, Tryz.results124, h1, h2]))
    · refine ent Tryz.mix Tryz.func124 Tryz.ntmps124 ?_
      have W := h1
      have c0 := c1
      repeat' first|refine st ?_|(refine nx ?_;first|refine se ?_|refine so ?_)|(refine cx ?_;refine sc (fun hc=>?_) (fun hc=>?_)<;>try exact hc.elim)|(refine lx ?_;refine sp (fun hc=>?_) (fun hc=>?_)<;>try exact hc.elim)|refine sx ?_ ?_|refine sy ?_ ?_|fail
      all_goals (try (refine ⟨.inr rfl, ?_⟩; simp [Hands, Tryz.results124, h1]))
def askAt (l : List DModule) (a : DAddr) : Nat := (l.takeWhile fun m => decide (cmpAddr m.to a < 0)).length
theorem askAt_eq {a : DAddr} : ∀ {l : List DModule} {k : Nat}, k ≤ l.length → (∀ x ∈ l.take k, cmpAddr x.to a < 0) → (∀ m, l[k]? = some m → ¬ cmpAddr m.to a < 0) → askAt l a = k
  | [], k, h, _, _ => by simp at h; subst h; rfl
  | m :: l, 0, _, _, h => by simp [askAt, h m rfl]
  | m :: l, k + 1, h0, h1, h2 => by
    have ih := askAt_eq (a := a) (l := l) (k := k) (by simpa using h0) (fun x hx => h1 x (by simp [hx])) (fun m hm => h2 m (by simpa using hm))
    have := h1 m (by simp)
    simp only [askAt, List.takeWhile_cons, decide_eq_true this, List.length_cons] at ih ⊢
    simpa using ih
theorem askAt_le (l : List DModule) (a : DAddr) : askAt l a ≤ l.length := (List.takeWhile_sublist _).length_le
def newMod (p : DPage) (a : DAddr) : DModule := if checkRequest p.policy ⟨5, a, p.addr.host, []⟩ = 1 then ⟨a, false, 0, []⟩ else ⟨a, true, 2, []⟩
def askMods (p : DPage) (a : DAddr) (k : Nat) : List DModule := p.mods.take k ++ newMod p a :: p.mods.drop k
def askModule (p : DPage) (a : DAddr) : DPage :=
  match p.mods[askAt p.mods a]? with
  | some m => if m.to = a then p else { p with mods := askMods p a (askAt p.mods a) }
  | none => { p with mods := askMods p a (askAt p.mods a) }
end Go.Proofs.YtonajehhfkkglabGreat
