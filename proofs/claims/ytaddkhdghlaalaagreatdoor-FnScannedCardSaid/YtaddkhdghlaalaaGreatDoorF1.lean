/-
  Proved here: what it means that a value of a world reads as an abstract value, and that the reading is kept by changes elsewhere.
  No condition beyond what each statement spells out.
-/
import Derived.WalkKit
import Derived.Laws.IdiomCopy
import Derived.Laws.AppendOwn
import Derived.Laws.MakeOwn
set_option linter.all false
namespace Go.Aw
inductive Tg where
  | own
  | view
  | dep (i : Nat)
inductive AV where
  | int (k : IntKind) (n : Int)
  | bool (b : Bool)
  | str (s : List UInt8)
  | sl (g : Tg) (n : Nat) (l : List (List AV))
  | vptr (g : Tg) (c : List AV) (off : Nat)
  | obj (i ver : Nat)
  | ptr (i ver idx off : Nat)
  | agg (c : List AV)
  | tup (c : List AV)
  | fn (f : FuncId) (c : List AV)
  | undef
instance : Inhabited AV := ⟨.undef⟩
structure Env where
  A : Nat → Prop
  V : Nat → Prop
  D : Nat → Nat → Prop
  H : Nat → Nat → Value → Prop
  L : Nat → Nat → Nat → Nat → Value → Prop
def Env.tg (E:Env):Tg→Nat→Prop
 | .own,_=>False
 | .view,b=>E.A b
 | .dep i,b=>E.D i b
def Env.dead (E:Env):Tg→Prop
 | .dep i=>¬E.V i
 |_=>False
def Env.plain (E:Env):Env where
 A:=E.A
 V _:=True
 D _ _:=False
 H _ _ _:=False
 L _ _ _ _ _:=False
def Env.sub (E:Env):Tg→Env
 | .dep i=>{E.plain with D:=fun j b=>j=i∧E.D i b}
 |_=>E.plain
def dE (w:World) (b off:Nat) (cs:List Value):Prop:=∀j v,cs[j]? =some v→w.cell? ⟨b,off+j,none⟩=some v
mutual
def R (w : World) : Env → AV → Value → List Nat → Prop
  | _, .int k n, v, fp => v = .int k n ∧ fp = []
  | _, .bool b, v, fp => v = .bool b ∧ fp = []
  | _, .str s, v, fp => v = .string ⟨s.toArray⟩ ∧ fp = []
  | E, .sl g n l, v, fp => (E.dead g ∧ fp = []) ∨ ∃ a cap, v = .slice a l.length cap ∧ (l.length ≤ maxLen ∧ l.length ≤ cap) ∧
      ((g = .own ∧ l = [] ∧ cap = 0 ∧ fp = []) ∨
       (g = .own ∧ ∃ b off C e fz fps, a = some ⟨b, off, none⟩ ∧ w.heap[b]? = some (.cells C e fz) ∧ ((C.size ≤ fz.1 ∧ n = 1) ∨ fz.2 = 0) ∧
          off + cap * n ≤ C.size ∧ l.length ≤ cap ∧ cap ≤ maxLen ∧ fp = b :: fps ∧ Rr w (E.sub g) l b off n fps) ∨
       (g ≠ .own ∧ fp = [] ∧ (l = [] ∨ ∃ b off, a = some ⟨b, off, none⟩ ∧ E.tg g b ∧ Rr w (E.sub g) l b off n [])))
  | E, .vptr g c off, v, fp => (E.dead g ∧ fp = []) ∨ fp = [] ∧ ∃ b o cs, v = .pointer (some ⟨b, o + off, none⟩) ∧ E.tg g b ∧ dE w b o cs ∧ (∀ x ∈ cs, x.oneCell' = true) ∧ Rc w (E.sub g) c cs []
  | E, .obj i ver, v, fp => fp = [] ∧ E.H i ver v
  | E, .ptr i ver idx off, v, fp => fp = [] ∧ E.L i ver idx off v
  | E, .agg c, v, fp => ∃ cs : List Value, v = .agg cs.toArray ∧ (∀ x ∈ cs, x.oneCell' = true) ∧ Rc w E c cs fp
  | E, .tup c, v, fp => ∃ cs : List Value, v = .tuple cs.toArray ∧ Rc w E c cs fp
  | E, .fn f c, v, fp => fp = [] ∧ ∃ cs : List Value, v = .func (.func f) #[] cs.toArray ∧ Rc w E c cs []
  | _, .undef, _, fp => fp = []
def Rc (w : World) : Env → List AV → List Value → List Nat → Prop
  | _, [], [], fp => fp = []
  | E, x :: xs, c :: cs, fp => ∃ f1 f2, R w E x c f1 ∧ Rc w E xs cs f2 ∧ fp = f1 ++ f2
  | _, _, _, _ => False
def Rr (w : World) : Env → List (List AV) → Nat → Nat → Nat → List Nat → Prop
  | _, [], _, _, _, fp => fp = []
  | E, e :: es, b, off, n, fp => ∃ cs f1 f2, cs.length = n ∧ dE w b off cs ∧ (∀ x ∈ cs, x.oneCell' = true) ∧ Rc w E e cs f1 ∧ Rr w E es b (off + n) n f2 ∧ fp = f1 ++ f2
end
theorem dE.same {w w':World} {b off:Nat} {cs:List Value} (h:dE w b off cs) (hb:w'.heap[b]? =w.heap[b]?):dE w' b off cs:=by
 intro j v hv
 have:=h j v hv
 simpa [World.cell?,hb] using this
structure bP (w : World) (E : Env) (w' : World) (E' : Env) : Prop where
  a : ∀ b, E.A b → E'.A b ∧ w'.heap[b]? = w.heap[b]?
  v : ∀ i, E'.V i → E.V i
  d : ∀ i b, E'.V i → E.D i b → E'.D i b ∧ w'.heap[b]? = w.heap[b]?
  h : ∀ i v x, E.H i v x → E'.H i v x
  l : ∀ i v j o x, E.L i v j o x → E'.L i v j o x
theorem bP.tg {w w':World} {E E':Env} (k:bP w E w' E') {g:Tg} {b:Nat} (h:E.tg g b) (hd:¬E'.dead g):E'.tg g b∧w'.heap[b]? =w.heap[b]?:=by
 cases g with
 |own=>exact h.elim
 |view=>exact k.a b h
 |dep i=>exact k.d i b (Classical.not_not.1 hd) h
theorem bP.dead {w w':World} {E E':Env} (k:bP w E w' E') {g:Tg} (h:E.dead g):E'.dead g:=by
 cases g with
 |own=>exact h
 |view=>exact h
 |dep i=>exact fun hv=>h (k.v i hv)
theorem bP.plain {w w':World} {E E':Env} (k:bP w E w' E'):bP w E.plain w' E'.plain:=
 ⟨k.a,fun _ _=>trivial,fun _ _ _ h=>h.elim,fun _ _ _ h=>h.elim,fun _ _ _ _ _ h=>h.elim⟩
theorem bP.sub {w w':World} {E E':Env} (k:bP w E w' E') (g:Tg) (hd:¬E'.dead g):bP w (E.sub g) w' (E'.sub g):=by
 cases g with
 |own=>exact k.plain
 |view=>exact k.plain
 |dep i=>
  exact ⟨k.a,fun _ _=>trivial,fun j b _ h=>⟨⟨h.1,(k.d i b (Classical.not_not.1 hd) h.2).1⟩,(k.d i b (Classical.not_not.1 hd) h.2).2⟩,fun _ _ _ h=>h.elim,fun _ _ _ _ _ h=>h.elim⟩
mutual
theorem jL {w w' : World} {E E' : Env} (k : bP w E w' E') : ∀ (av : AV) (v : Value) (fp : List Nat), (∀ b ∈ fp, w'.heap[b]? = w.heap[b]?) → R w E av v fp → R w' E' av v fp
  | .int _ _, _, _, _, h => by simpa [R] using h
  | .bool _, _, _, _, h => by simpa [R] using h
  | .str _, _, _, _, h => by simpa [R] using h
  | .sl g n l, v, fp, hf, h => by
    simp only [R] at h ⊢
    rcases h with h | ⟨a, cap, hv, hl, h⟩
    · exact .inl ⟨k.dead h.1, h.2⟩
    by_cases hd : E'.dead g
    · refine .inl ⟨hd, ?_⟩
      rcases h with h | ⟨hg, _⟩ | ⟨_, h, _⟩
      · exact h.2.2.2
      · subst hg; exact hd.elim
      · exact h
    refine .inr ⟨a, cap, hv, hl, ?_⟩
    rcases h with h | ⟨hg, b, off, C, e, fz, fps, ha, hb, hz, h1, h2, h3, hfp, hr⟩ | ⟨hg, hfp, h⟩
    · exact .inl h
    · subst hfp
      refine .inr (.inl ⟨hg, b, off, C, e, fz, fps, ha, ?_, hz, h1, h2, h3, rfl, ?_⟩)
      · rw [hf b (by simp)]; exact hb
      · exact kK (k.sub g hd) l b off n fps (hf b (by simp)) (fun x hx => hf x (by simp [hx])) hr
    · refine .inr (.inr ⟨hg, hfp, ?_⟩)
      rcases h with h | ⟨b, off, ha, ht, hr⟩
      · exact .inl h
      · have := k.tg ht hd
        exact .inr ⟨b, off, ha, this.1, kK (k.sub g hd) l b off n [] this.2 (by simp) hr⟩
  | .vptr g c off, v, fp, _, h => by
    simp only [R] at h ⊢
    rcases h with h | ⟨hfp, b, o, cs, hv, ht, hcs, hc, hr⟩
    · exact .inl ⟨k.dead h.1, h.2⟩
    by_cases hd : E'.dead g
    · exact .inl ⟨hd, hfp⟩
    have := k.tg ht hd
    exact .inr ⟨hfp, b, o, cs, hv, this.1, hcs.same this.2, hc, dI (k.sub g hd) c cs [] (by simp) hr⟩
  | .obj i ver, v, fp, _, h => by simp only [R] at h ⊢; exact ⟨h.1, k.h _ _ _ h.2⟩
  | .ptr i ver idx off, v, fp, _, h => by simp only [R] at h ⊢; exact ⟨h.1, k.l _ _ _ _ _ h.2⟩
  | .agg c, v, fp, hf, h => by
    simp only [R] at h ⊢
    obtain ⟨cs, hv, hc, hr⟩ := h
    exact ⟨cs, hv, hc, dI k c cs fp hf hr⟩
  | .tup c, v, fp, hf, h => by
    simp only [R] at h ⊢
    obtain ⟨cs, hv, hr⟩ := h
    exact ⟨cs, hv, dI k c cs fp hf hr⟩
  | .fn f c, v, fp, _, h => by
    simp only [R] at h ⊢
    obtain ⟨hfp, cs, hv, hr⟩ := h
    exact ⟨hfp, cs, hv, dI k c cs [] (by simp) hr⟩
  | .undef, _, _, _, h => by simpa [R] using h
theorem dI {w w' : World} {E E' : Env} (k : bP w E w' E') : ∀ (c : List AV) (cs : List Value) (fp : List Nat), (∀ b ∈ fp, w'.heap[b]? = w.heap[b]?) → Rc w E c cs fp → Rc w' E' c cs fp
  | [], [], _, _, h => by simpa [Rc] using h
  | [], _ :: _, _, _, h => by simp [Rc] at h
  | _ :: _, [], _, _, h => by simp [Rc] at h
  | x :: xs, c :: cs, fp, hf, h => by
    simp only [Rc] at h ⊢
    obtain ⟨f1, f2, h1, h2, rfl⟩ := h
    exact ⟨f1, f2, jL k x c f1 (fun b hb => hf b (by simp [hb])) h1, dI k xs cs f2 (fun b hb => hf b (by simp [hb])) h2, rfl⟩
theorem kK {w w' : World} {E E' : Env} (k : bP w E w' E') : ∀ (l : List (List AV)) (b off n : Nat) (fp : List Nat), w'.heap[b]? = w.heap[b]? → (∀ b ∈ fp, w'.heap[b]? = w.heap[b]?) → Rr w E l b off n fp → Rr w' E' l b off n fp
  | [], _, _, _, _, _, _, h => by simpa [Rr] using h
  | e :: es, b, off, n, fp, hb, hf, h => by
    simp only [Rr] at h ⊢
    obtain ⟨cs, f1, f2, hn, hcs, hc, h1, h2, rfl⟩ := h
    exact ⟨cs, f1, f2, hn, hcs.same hb, hc, dI k e cs f1 (fun b hb => hf b (by simp [hb])) h1, kK k es b (off + n) n f2 hb (fun b hb => hf b (by simp [hb])) h2, rfl⟩
end
def AV.kept (h:Bool) (x:AV):AV:=if h then x else .undef
mutual
def rt (f : Tg → Option Tg) (h : Bool) : AV → AV
  | .int k n => .int k n
  | .bool b => .bool b
  | .str s => .str s
  | .sl g n l => match f g with
    | some g' => .sl g' n (rtr f h l)
    | none => .undef
  | .vptr g c off => match f g with
    | some g' => .vptr g' (rtc f h c) off
    | none => .undef
  | .obj i v => AV.kept h (.obj i v)
  | .ptr i v j o => AV.kept h (.ptr i v j o)
  | .agg c => .agg (rtc f h c)
  | .tup c => .tup (rtc f h c)
  | .fn g c => .fn g (rtc f h c)
  | .undef => .undef
def rtc (f : Tg → Option Tg) (h : Bool) : List AV → List AV
  | [] => []
  | x :: xs => rt f h x :: rtc f h xs
def rtr (f : Tg → Option Tg) (h : Bool) : List (List AV) → List (List AV)
  | [] => []
  | x :: xs => rtc f h x :: rtr f h xs
end
theorem jT (f:Tg→Option Tg) (h:Bool):∀l,(rtr f h l).length=l.length
 |[]=>rfl
 |_::xs=>by simp [rtr,jT f h xs]
structure iT (f : Tg → Option Tg) (h : Bool) (E E' : Env) (O : Nat → Prop) : Prop where
  own : ∀ g, f .own = some g → g ≠ .own ∧ ∀ b, O b → E'.tg g b
  view : ∀ g, f .view = some g → g = .view ∧ ∀ b, E.A b → E'.A b
  dep : ∀ i g, f (.dep i) = some g → g ≠ .own ∧ (E.V i ∨ E'.dead g) ∧ ∀ b, E.D i b → E'.tg g b
  hh : h = true → ∀ i v x, E.H i v x → E'.H i v x
  hl : h = true → ∀ i v j o x, E.L i v j o x → E'.L i v j o x
theorem iT.ne {f:Tg→Option Tg} {h:Bool} {E E':Env} {O:Nat→Prop} (k:iT f h E E' O) {g g':Tg} (e:f g=some g'):g'≠ .own:=by
 cases g with
 |own=>exact (k.own _ e).1
 |view=>rw [(k.view _ e).1];simp
 |dep i=>exact (k.dep i _ e).1
theorem iT.tg {f:Tg→Option Tg} {h:Bool} {E E':Env} {O:Nat→Prop} (k:iT f h E E' O) {g g':Tg} {b:Nat} (e:f g=some g') (ht:E.tg g b):E'.tg g' b:=by
 cases g with
 |own=>exact ht.elim
 |view=>rw [(k.view _ e).1];exact (k.view _ e).2 b ht
 |dep i=>exact (k.dep i _ e).2.2 b ht
theorem iT.dead {f:Tg→Option Tg} {h:Bool} {E E':Env} {O:Nat→Prop} (k:iT f h E E' O) {g g':Tg} (e:f g=some g') (hd:E.dead g):E'.dead g':=by
 cases g with
 |own=>exact hd.elim
 |view=>exact hd.elim
 |dep i=>exact (k.dep i _ e).2.1.resolve_left hd
theorem iT.sub {f:Tg→Option Tg} {h:Bool} {E E':Env} {O:Nat→Prop} (k:iT f h E E' O) {g g':Tg} (e:f g=some g') (hd:¬E.dead g)
  {O':Nat→Prop} (ho:∀b,O' b→g= .own∧O b):iT f h (E.sub g) (E'.sub g') O' where
 own g2 e2:=⟨(k.own g2 e2).1,fun b hb=>by
  obtain ⟨rfl,hO⟩:=ho b hb
  rw [e] at e2
  obtain rfl:=Option.some.inj e2
  have:=(k.own _ e).2 b hO
  cases g' with
  |own=>exact this.elim
  |view=>exact this
  |dep i=>exact ⟨rfl,this⟩⟩
 view g2 e2:=⟨(k.view g2 e2).1,fun b hA=>by
  have h1:=(k.view g2 e2).2 b (by cases g<;>exact hA)
  cases g'<;>exact h1⟩
 dep i g2 e2:=by
  refine ⟨(k.dep i g2 e2).1,.inl (by cases g<;>trivial),fun b hD=> ?_⟩
  cases g with
  |own=>exact hD.elim
  |view=>exact hD.elim
  |dep j=>
   obtain ⟨rfl,hD⟩:=hD
   rw [e] at e2
   obtain rfl:=Option.some.inj e2
   have:=(k.dep _ _ e).2.2 b hD
   cases g' with
   |own=>exact this.elim
   |view=>exact this
   |dep i=>exact ⟨rfl,this⟩
 hh _ i v x hx:=by cases g<;>exact hx.elim
 hl _ i v j o x hx:=by cases g<;>exact hx.elim
mutual
theorem aYy {w : World} {f : Tg → Option Tg} {h : Bool} {E E' : Env} {O : Nat → Prop} (k : iT f h E E' O) : ∀ (av : AV) (v : Value) (fp : List Nat), (∀ b ∈ fp, O b) → R w E av v fp → R w E' (rt f h av) v []
  | .int _ _, _, _, _, r => by simp only [R, rt] at r ⊢; exact ⟨r.1, trivial⟩
  | .bool _, _, _, _, r => by simp only [R, rt] at r ⊢; exact ⟨r.1, trivial⟩
  | .str _, _, _, _, r => by simp only [R, rt] at r ⊢; exact ⟨r.1, trivial⟩
  | .sl g n l, v, fp, hf, r => by
    simp only [rt]
    cases e : f g with
    | none => simp [R]
    | some g' =>
      simp only [R, jT] at r ⊢
      rcases r with r | ⟨a, cap, hv, hl, r⟩
      · exact .inl ⟨k.dead e r.1, trivial⟩
      by_cases hd : E.dead g
      · refine .inl ⟨k.dead e hd, trivial⟩
      refine .inr ⟨a, cap, hv, hl, .inr (.inr ⟨k.ne e, trivial, ?_⟩)⟩
      rcases r with ⟨_, rfl, _⟩ | ⟨rfl, b, off, C, ty, fz, fps, ha, hb, hz, h1, h2, h3, rfl, hr⟩ | ⟨hg, hfp, r⟩
      · exact .inl rfl
      · exact .inr ⟨b, off, ha, (k.own _ e).2 b (hf b (by simp)), zL (k.sub e (fun h => h) (O' := O) (fun b hb => ⟨rfl, hb⟩)) l b off n fps (fun b hb => hf b (by simp [hb])) hr⟩
      · rcases r with rfl | ⟨b, off, ha, ht, hr⟩
        · exact .inl rfl
        · exact .inr ⟨b, off, ha, k.tg e ht, zL (k.sub e hd (O' := fun _ => False) (fun _ hb => hb.elim)) l b off n [] (by simp) hr⟩
  | .vptr g c off, v, fp, _, r => by
    simp only [rt]
    cases e : f g with
    | none => simp [R]
    | some g' =>
      simp only [R] at r ⊢
      rcases r with r | ⟨hfp, b, o, cs, hv, ht, hcs, hc, hr⟩
      · exact .inl ⟨k.dead e r.1, trivial⟩
      by_cases hd : E.dead g
      · exact .inl ⟨k.dead e hd, trivial⟩
      exact .inr ⟨trivial, b, o, cs, hv, k.tg e ht, hcs, hc, qB (k.sub e hd (O' := fun _ => False) (fun _ hb => hb.elim)) c cs [] (by simp) hr⟩
  | .obj i ver, v, fp, _, r => by
    cases h with
    | false => simp [rt, R, AV.kept]
    | true => simp only [R, rt, AV.kept, if_true] at r ⊢; exact ⟨trivial, k.hh rfl _ _ _ r.2⟩
  | .ptr i ver idx off, v, fp, _, r => by
    cases h with
    | false => simp [rt, R, AV.kept]
    | true => simp only [R, rt, AV.kept, if_true] at r ⊢; exact ⟨trivial, k.hl rfl _ _ _ _ _ r.2⟩
  | .agg c, v, fp, hf, r => by
    simp only [R, rt] at r ⊢
    obtain ⟨cs, hv, hc, hr⟩ := r
    exact ⟨cs, hv, hc, qB k c cs fp hf hr⟩
  | .tup c, v, fp, hf, r => by
    simp only [R, rt] at r ⊢
    obtain ⟨cs, hv, hr⟩ := r
    exact ⟨cs, hv, qB k c cs fp hf hr⟩
  | .fn g c, v, fp, _, r => by
    simp only [R, rt] at r ⊢
    obtain ⟨hfp, cs, hv, hr⟩ := r
    exact ⟨trivial, cs, hv, qB k c cs [] (by simp) hr⟩
  | .undef, _, _, _, _ => by simp [R, rt]
theorem qB {w : World} {f : Tg → Option Tg} {h : Bool} {E E' : Env} {O : Nat → Prop} (k : iT f h E E' O) : ∀ (c : List AV) (cs : List Value) (fp : List Nat), (∀ b ∈ fp, O b) → Rc w E c cs fp → Rc w E' (rtc f h c) cs []
  | [], [], _, _, _ => by simp [Rc, rtc]
  | [], _ :: _, _, _, r => by simp [Rc] at r
  | _ :: _, [], _, _, r => by simp [Rc] at r
  | x :: xs, c :: cs, fp, hf, r => by
    simp only [Rc, rtc] at r ⊢
    obtain ⟨f1, f2, h1, h2, rfl⟩ := r
    exact ⟨[], [], aYy k x c f1 (fun b hb => hf b (by simp [hb])) h1, qB k xs cs f2 (fun b hb => hf b (by simp [hb])) h2, rfl⟩
theorem zL {w : World} {f : Tg → Option Tg} {h : Bool} {E E' : Env} {O : Nat → Prop} (k : iT f h E E' O) : ∀ (l : List (List AV)) (b off n : Nat) (fp : List Nat), (∀ b ∈ fp, O b) → Rr w E l b off n fp → Rr w E' (rtr f h l) b off n []
  | [], _, _, _, _, _, _ => by simp [Rr, rtr]
  | e :: es, b, off, n, fp, hf, r => by
    simp only [Rr, rtr] at r ⊢
    obtain ⟨cs, f1, f2, hn, hcs, hc, h1, h2, rfl⟩ := r
    exact ⟨cs, [], [], hn, hcs, hc, qB k e cs f1 (fun b hb => hf b (by simp [hb])) h1, zL k es b (off + n) n f2 (fun b hb => hf b (by simp [hb])) h2, rfl⟩
end
end Go.Aw

namespace Go.Aw
structure aA where
  live : Bool
  box : Bool
  n : Nat
  ver : Nat
  els : List (List AV)
structure CO where
  a : Option Addr
  cap : Nat
  F : Nat → Prop
structure AS where
  t : List AV
  o : List aA
class aB (P : Program) where
  holds : World → Prop
  low : Nat
  low_le : ∀ w, holds w → low ≤ w.heap.size
  stable : ∀ w w', holds w → (∀ b, b < low → w'.heap[b]? = w.heap[b]?) → holds w'
structure Base (P : Program) [aB P] where
  w0 : World
  A0 : Nat → Prop
  O0 : Nat → Prop
  h0 : Nat → Option Value
  p0 : Nat → Option (Value × Nat)
  good : aB.holds P w0
  above : ∀ b, O0 b → aB.low P ≤ b
  gA : ∀ b, O0 b → A0 b
def look (o:List aA) (G:List CO) (i:Nat) (ob:aA) (g:CO):Prop:=o[i]? =some ob∧G[i]? =some g
def env {P:Program} [aB P] (B:Base P) (o:List aA) (G:List CO) (w:World):Env where
 A b:=(B.A0 b∨(B.w0.heap.size≤b∧b < w.heap.size))∧∀i ob g,look o G i ob g→ob.live=true→¬g.F b
 V i:=∀ob,o[i]? =some ob→ob.live=true
 D i b:=∃ob g,look o G i ob g∧ob.live=true∧g.F b∧∀a,g.a=some a→b≠a.block
 H i ver v:=∃ob g,look o G i ob g∧ver≤ob.ver∧(ob.live=true→ob.ver=ver→v= .slice g.a ob.els.length g.cap)∧(ver=0→∀x,B.h0 i=some x→v=x)
 L i ver idx off v:=∃ob g,look o G i ob g∧ver≤ob.ver∧(ob.live=true→ob.ver=ver→∃b f,g.a=some ⟨b,f,none⟩∧v= .pointer (some ⟨b,f+(idx * ob.n+off),none⟩))∧(ob.box=true→ver=2→idx=0→off=0→∀x,B.p0 i=some x→v=x.1∧(ob.live=true→ob.ver=2→g.cap=x.2))
def Env.of (E:Env) (box:Bool):Env:=if box then E else E.plain
def kX (w:World) (E:Env) (n:Nat) (l:List (List AV)) (a:Option Addr) (cap:Nat) (fp:List Nat):Prop:=
 l.length≤maxLen∧((l=[]∧cap=0∧fp=[])∨
  ∃b off C e fz fps,a=some ⟨b,off,none⟩∧w.heap[b]? =some (.cells C e fz)∧((C.size≤fz.1∧n=1)∨fz.2=0)∧
   off+cap * n≤C.size∧l.length≤cap∧cap≤maxLen∧fp=b::fps∧Rr w E l b off n fps)
theorem mX {w:World} {E:Env} {n:Nat} {l:List (List AV)} {v:Value} {fp:List Nat}:
  R w E (.sl .own n l) v fp↔∃a cap,v= .slice a l.length cap∧kX w E.plain n l a cap fp:=by
 simp only [R,kX]
 constructor
 ·rintro (⟨h,_⟩|⟨a,cap,hv,hl,h|h|h⟩)
  ·exact h.elim
  ·exact ⟨a,cap,hv,hl.1,.inl h.2⟩
  ·exact ⟨a,cap,hv,hl.1,.inr h.2⟩
  ·exact absurd rfl h.1
 ·rintro ⟨a,cap,hv,hl,h|h⟩
  ·exact .inr ⟨a,cap,hv,⟨hl,by simp [h.1]⟩,.inl ⟨trivial,h⟩⟩
  ·exact .inr ⟨a,cap,hv,⟨hl,by obtain ⟨b,off,C,e,fz,fps,_,_,_,_,h,_⟩:=h;exact h⟩,.inr (.inl ⟨trivial,h⟩)⟩
def aAx (w:World) (E:Env) (ob:aA) (g:CO):Prop:=
 ∃fp,kX w (E.of ob.box) ob.n ob.els g.a g.cap fp∧fp.Nodup∧∀b∈fp,g.F b
structure Same (w w' : World) : Prop where
  os : w'.os = w.os
  tape : w'.tape = w.tape
  output : w'.output = w.output
theorem Same.rfl {w:World}:Same w w:=⟨Eq.refl _,Eq.refl _,Eq.refl _⟩
theorem Same.trans {a b c:World} (h:Same a b) (k:Same b c):Same a c:=⟨k.os.trans h.os,k.tape.trans h.tape,k.output.trans h.output⟩
structure bG {P : Program} [aB P] (B : Base P) (s : AS) (G : List CO) (a : Act) (w : World) : Prop where
  len : G.length = s.o.length
  defs : a.defers = []
  ok : ∀ i ob g, look s.o G i ob g → ob.live = true → aAx w (env B s.o G w) ob g
  apart : ∀ i j oi oj gi gj b, look s.o G i oi gi → look s.o G j oj gj → oi.live = true → oj.live = true → gi.F b → gj.F b → i = j
  fresh : ∀ i ob g b, look s.o G i ob g → ob.live = true → g.F b → (B.O0 b ∨ B.w0.heap.size ≤ b) ∧ b < w.heap.size
  tmps : Rc w (env B s.o G w) s.t a.tmps.toList []
  size : B.w0.heap.size ≤ w.heap.size
  frame : ∀ b, b < B.w0.heap.size → ¬ B.O0 b → w.heap[b]? = B.w0.heap[b]?
  base : ∀ b, B.A0 b → b < B.w0.heap.size
  same : Same B.w0 w
def Rel {P:Program} [aB P] (B:Base P) (s:AS) (a:Act) (w:World):Prop:=∃G,bG B s G a w
theorem bG.holds {P:Program} [aB P] {B:Base P} {s:AS} {G:List CO} {a:Act} {w:World} (r:bG B s G a w):aB.holds P w:=
 aB.stable B.w0 w B.good fun b hb=>r.frame b (Nat.lt_of_lt_of_le hb (aB.low_le _ B.good)) fun h=>absurd (B.above b h) (by omega)
theorem bG.above {P:Program} [aB P] {B:Base P} {s:AS} {G:List CO} {a:Act} {w:World} (_:bG B s G a w) {b:Nat} (h:B.O0 b∨B.w0.heap.size≤b):aB.low P≤b:=
 h.elim (B.above b) fun h=>Nat.le_trans (aB.low_le _ B.good) h
theorem bP.of {w w':World} {E E':Env} (k:bP w E w' E') (box:Bool):bP w (E.of box) w' (E'.of box):=by
 cases box
 ·exact k.plain
 ·exact k
theorem aIw (w:World) (E:Env):bP w E.plain w E:=
 ⟨fun _ h=>⟨h,rfl⟩,fun _ _=>trivial,fun _ _ _ h=>h.elim,fun _ _ _ h=>h.elim,fun _ _ _ _ _ h=>h.elim⟩
theorem lX {P:Program} [aB P] {B:Base P} {s:AS} {G:List CO} {a:Act} {w:World} (r:bG B s G a w) {b:Nat} (h:(env B s.o G w).A b):b < w.heap.size:=by
 rcases h.1 with h|h
 ·exact Nat.lt_of_lt_of_le (r.base b h) r.size
 ·exact h.2
theorem wD {P:Program} [aB P] {B:Base P} {o o':List aA} {G G':List CO} {w w':World} (hs:w.heap.size≤w'.heap.size)
  (hA:∀b,(env B o G w).A b→b < w.heap.size∧w'.heap[b]? =w.heap[b]?)
  (hlen:G.length=o.length)
  (h2:∀i ob g,look o G i ob g→∃ob' g',look o' G' i ob' g'∧ob.ver≤ob'.ver∧(ob'.box=true→ob.box=true∨ob.ver < 2)∧(ob'.live=true→ob.live=true∧ob'.n=ob.n∧
   (ob'.ver=ob.ver→g'.a=g.a∧g'.cap=g.cap∧ob'.els.length=ob.els.length)∧
   (∀b,g.F b→(∀a,g.a=some a→b≠a.block)→g'.F b∧(∀a,g'.a=some a→b≠a.block)∧w'.heap[b]? =w.heap[b]?)))
  (h3:∀i ob' g' b,look o' G' i ob' g'→ob'.live=true→g'.F b→w.heap.size≤b∨∃j ob g,look o G j ob g∧ob.live=true∧g.F b):
  bP w (env B o G w) w' (env B o' G' w') where
 a b h:=by
  refine ⟨⟨?_,?_⟩,(hA b h).2⟩
  ·rcases h.1 with h1|h1
   ·exact .inl h1
   ·exact .inr ⟨h1.1,Nat.lt_of_lt_of_le h1.2 hs⟩
  ·intro i ob' g' hl hlive hf
   rcases h3 i ob' g' b hl hlive hf with h5|⟨j,ob,g,hl',hlive',hf'⟩
   ·have:=(hA b h).1;omega
   ·exact h.2 j ob g hl' hlive' hf'
 v i h ob hob:=by
  have hi:i < G.length:=by rw [hlen];exact (List.getElem?_eq_some_iff.1 hob).1
  obtain ⟨ob',g',hl,_,_,h5⟩:=h2 i ob G[i] ⟨hob,List.getElem?_eq_getElem hi⟩
  exact (h5 (h ob' hl.1)).1
 d i b hV h:=by
  obtain ⟨ob,g,hl,hlive,hf,hne⟩:=h
  obtain ⟨ob',g',hl',_,_,h5⟩:=h2 i ob g hl
  have hlive':=hV ob' hl'.1
  have h6:=(h5 hlive').2.2.2 b hf hne
  exact ⟨⟨ob',g',hl',hlive',h6.1,h6.2.1⟩,h6.2.2⟩
 h i v x h:=by
  obtain ⟨ob,g,hl,hver,h5,hz⟩:=h
  obtain ⟨ob',g',hl',hv',_,h6⟩:=h2 i ob g hl
  refine ⟨ob',g',hl',by omega,fun hlive hve=> ?_,hz⟩
  have h7:=h6 hlive
  have hve2:ob'.ver=ob.ver:=by omega
  have h8:=h7.2.2.1 hve2
  rw [h8.1,h8.2.1,h8.2.2]
  exact h5 h7.1 (by omega)
 l i v j x y h:=by
  obtain ⟨ob,g,hl,hver,h5,hz⟩:=h
  obtain ⟨ob',g',hl',hv',hb',h6⟩:=h2 i ob g hl
  refine ⟨ob',g',hl',by omega,fun hlive hve=> ?_,fun hb hv e1 e2 y hy=>by
   rcases hb' hb with h|h
   ·refine ⟨(hz h hv e1 e2 y hy).1,fun hlive hve=> ?_⟩
    have h7:=h6 hlive
    have hve2:ob'.ver=ob.ver:=by omega
    rw [(h7.2.2.1 hve2).2.1]
    exact (hz h hv e1 e2 y hy).2 h7.1 (by omega)
   ·omega⟩
  have h7:=h6 hlive
  have hve2:ob'.ver=ob.ver:=by omega
  have h8:=h7.2.2.1 hve2
  rw [h8.1,h7.2.1]
  exact h5 h7.1 (by omega)
theorem kX.keeps {w w':World} {E E':Env} {n:Nat} {l:List (List AV)} {a:Option Addr} {cap:Nat} {fp:List Nat} (h:kX w E n l a cap fp) (k:bP w E w' E') (hF:∀b∈fp,w'.heap[b]? =w.heap[b]?):kX w' E' n l a cap fp:=by
 refine ⟨h.1,?_⟩
 rcases h.2 with h|⟨b,off,C,e,fz,fps,ha,hb,hz,h1,h2,h3,rfl,hr⟩
 ·exact .inl h
 ·refine .inr ⟨b,off,C,e,fz,fps,ha,by rw [hF b (by simp)];exact hb,hz,h1,h2,h3,rfl,kK k _ _ _ _ _ (hF b (by simp)) (fun x hx=>hF x (by simp [hx])) hr⟩
theorem aAx.keeps {w w':World} {E E':Env} {ob:aA} {g:CO} (h:aAx w E ob g) (k:bP w E w' E') (hF:∀b,g.F b→w'.heap[b]? =w.heap[b]?):aAx w' E' ob g:=by
 obtain ⟨fp,hr,hn,hf⟩:=h
 exact ⟨fp,hr.keeps (k.of ob.box) (fun b hb=>hF b (hf b hb)),hn,hf⟩
theorem dZ {w:World} {E:Env}:∀{c:List AV} {cs:List Value} {fp:List Nat},Rc w E c cs fp→cs.length=c.length
 |[],[],_,_=>rfl
 |[],_::_,_,h=>by simp [Rc] at h
 |_::_,[],_,h=>by simp [Rc] at h
 |_::xs,_::cs,fp,h=>by
  simp only [Rc] at h
  obtain ⟨f1,f2,_,h2,_⟩:=h
  simp [dZ h2]
theorem aDl {w:World} {E:Env}:∀{c:List AV} {cs:List Value} {i:Nat} {x:AV},Rc w E c cs []→c[i]? =some x→∃v,cs[i]? =some v∧R w E x v []
 |[],_,i,x,_,h=>by simp at h
 |_::_,[],_,_,h,_=>by simp [Rc] at h
 |y::ys,c::cs,i,x,h,hx=>by
  simp only [Rc] at h
  obtain ⟨f1,f2,h1,h2,e⟩:=h
  obtain ⟨e1,e2⟩:f1=[]∧f2=[]:=by simpa using e
  subst e1;subst e2
  cases i with
  |zero=>simp at hx;subst hx;exact ⟨c,rfl,h1⟩
  |succ i=>simpa using aDl h2 (by simpa using hx)
theorem aZj {w:World} {E:Env}:∀{c:List AV} {cs:List Value} (i:Nat) {x:AV} {v:Value},Rc w E c cs []→R w E x v []→Rc w E (c.set i x) (cs.set i v) []
 |[],[],i,x,v,h,_=>by simpa using h
 |[],_::_,_,_,_,h,_=>by simp [Rc] at h
 |_::_,[],_,_,_,h,_=>by simp [Rc] at h
 |y::ys,c::cs,i,x,v,h,hx=>by
  simp only [Rc] at h
  obtain ⟨f1,f2,h1,h2,e⟩:=h
  obtain ⟨e1,e2⟩:f1=[]∧f2=[]:=by simpa using e
  subst e1;subst e2
  cases i with
  |zero=>simp only [List.set_cons_zero,Rc];exact ⟨[],[],hx,h2,rfl⟩
  |succ i=>simp only [List.set_cons_succ,Rc];exact ⟨[],[],h1,aZj i h2 hx,rfl⟩
theorem gT {w:World} {E:Env}:∀{c d:List AV} {cs ds:List Value} {f1 f2:List Nat},Rc w E c cs f1→Rc w E d ds f2→Rc w E (c++d) (cs++ds) (f1++f2)
 |[],_,[],_,f1,f2,h,h'=>by simp [Rc] at h;subst h;simpa using h'
 |[],_,_::_,_,_,_,h,_=>by simp [Rc] at h
 |_::_,_,[],_,_,_,h,_=>by simp [Rc] at h
 |y::ys,d,c::cs,ds,f1,f2,h,h'=>by
  simp only [Rc] at h
  obtain ⟨g1,g2,h1,h2,rfl⟩:=h
  simp only [List.cons_append,Rc]
  exact ⟨g1,g2++f2,h1,gT h2 h',by simp⟩
def AS.put (s:AS) (d:Option Tmp) (x:AV):AS:=match d with
 |some d=>{s with t:=s.t.set d x}
 |none=>s
theorem bG.put {P:Program} [aB P] {B:Base P} {s:AS} {G:List CO} {a:Act} {w:World} (r:bG B s G a w) (d:Option Tmp) {x:AV} {v:Value} (h:R w (env B s.o G w) x v []):
  bG B (s.put d x) G (a.put d v) w:=by
 cases d with
 |none=>exact r
 |some d=>exact {r with tmps:=by simpa [AS.put,Act.put] using aZj d r.tmps h}
theorem bG.next {P:Program} [aB P] {B:Base P} {s:AS} {G:List CO} {a:Act} {w:World} (r:bG B s G a w) {o':List aA} {G':List CO} {w':World}
  (k:bP w (env B s.o G w) w' (env B o' G' w')) (len:G'.length=o'.length)
  (ok:∀i ob g,look o' G' i ob g→ob.live=true→aAx w' (env B o' G' w') ob g)
  (apart:∀i j oi oj gi gj b,look o' G' i oi gi→look o' G' j oj gj→oi.live=true→oj.live=true→gi.F b→gj.F b→i=j)
  (fresh:∀i ob g b,look o' G' i ob g→ob.live=true→g.F b→(B.O0 b∨B.w0.heap.size≤b)∧b < w'.heap.size)
  (size:w.heap.size≤w'.heap.size) (frame:∀b,b < B.w0.heap.size→¬B.O0 b→w'.heap[b]? =w.heap[b]?)
  (same:Same w w':=by exact ⟨rfl,rfl,rfl⟩):bG B ⟨s.t,o'⟩ G' a w' where
 len:=len
 defs:=r.defs
 ok:=ok
 apart:=apart
 fresh:=fresh
 tmps:=dI k _ _ _ (by simp) r.tmps
 size:=Nat.le_trans r.size size
 frame b h1 h2:=(frame b h1 h2).trans (r.frame b h1 h2)
 base:=r.base
 same:=r.same.trans same
def ofV:Value→AV
 | .int k n=> .int k n
 | .bool b=> .bool b
 | .string s=> .str s.data.toList
 | .slice none 0 0=> .sl .own 0 []
 | .func (.func f) ⟨[]⟩ ⟨[]⟩=> .fn f []
 |_=> .undef
theorem bEf (w:World) (E:Env) (v:Value):R w E (ofV v) v []:=by
 unfold ofV
 split<;>simp [R,Rc,maxLen]
def AS.ev (s:AS):Operand→AV
 | .tmp t=>s.t.getD t .undef
 | .const v=>ofV v
 | .func f=> .fn f []
 | .global _=> .undef
theorem bG.ev {P:Program} [aB P] {B:Base P} {s:AS} {G:List CO} {a:Act} {w:World} (r:bG B s G a w) (x:Operand):R w (env B s.o G w) (s.ev x) (a.eval x) []:=by
 cases x with
 |tmp t=>
  simp only [AS.ev,List.getD]
  cases h:s.t[t]? with
  |none=>simp [R]
  |some y=>
   obtain ⟨v,hv,hr⟩:=aDl r.tmps h
   simp only [Act.eval,Option.getD_some]
   have:a.tmps[t]? =some v:=by simpa using hv
   simpa [Array.getD_eq_getD_getElem?,this] using hr
 |const v=>exact bEf w _ v
 |func f=>simp [AS.ev,Act.eval,R,Rc]
 |global g=>simp [AS.ev,R]
end Go.Aw

namespace Go.Aw
theorem oN {w:World} {E:Env}:∀{c:List AV} {cs:List Value} {fp:List Nat} (k:Nat),Rc w E c cs fp→
  ∃f1 f2,fp=f1++f2∧Rc w E (c.take k) (cs.take k) f1∧Rc w E (c.drop k) (cs.drop k) f2
 |c,cs,fp,0,h=>⟨[],fp,rfl,by simp [Rc],by simpa using h⟩
 |[],[],fp,k+1,h=>⟨fp,[],by simp,by simpa using h,by simp [Rc]⟩
 |[],_::_,_,_,h=>by simp [Rc] at h
 |_::_,[],_,_,h=>by simp [Rc] at h
 |x::xs,c::cs,fp,k+1,h=>by
  simp only [Rc] at h
  obtain ⟨g1,g2,h1,h2,rfl⟩:=h
  obtain ⟨f1,f2,rfl,h3,h4⟩:=oN k h2
  exact ⟨g1++f1,f2,by simp,by simp only [List.take_succ_cons,Rc];exact ⟨g1,f1,h1,h3,rfl⟩,by simpa using h4⟩
theorem zW {w:World} {E:Env} {l2:List (List AV)} {b n:Nat}:∀{l1:List (List AV)} {off:Nat} {fp:List Nat},
  Rr w E (l1++l2) b off n fp↔∃f1 f2,fp=f1++f2∧Rr w E l1 b off n f1∧Rr w E l2 b (off+l1.length * n) n f2
 |[],off,fp=>by
  simp only [List.nil_append,Rr,List.length_nil,Nat.zero_mul,Nat.add_zero]
  constructor
  ·intro h;exact ⟨[],fp,by simp,rfl,h⟩
  ·rintro ⟨f1,f2,rfl,rfl,h⟩;simpa using h
 |e::es,off,fp=>by
  simp only [List.cons_append,Rr,zW (l1:=es),List.length_cons]
  have e1:∀m,off+(m+1) * n=off+n+m * n:=fun m=>by rw [Nat.add_mul];omega
  constructor
  ·rintro ⟨cs,f1,f2,hn,hc,h1,hr,⟨g1,g2,rfl,h3,h4⟩,rfl⟩
   exact ⟨f1++g1,g2,by simp,⟨cs,f1,g1,hn,hc,h1,hr,h3,rfl⟩,by rw [e1];exact h4⟩
  ·rintro ⟨f1,f2,rfl,⟨cs,g1,g2,hn,hc,h1,hr,h3,rfl⟩,h4⟩
   exact ⟨cs,g1,g2++f2,hn,hc,h1,hr,⟨g2,f2,rfl,h3,by rw [e1] at h4;exact h4⟩,by simp⟩
theorem vF {w:World} {E:Env} {l:List (List AV)} {b off n:Nat} {fp:List Nat} {i:Nat} {e:List AV} (h:Rr w E l b off n fp) (hi:l[i]? =some e):
  ∃f1 f2 f3 cs,fp=f1++f2++f3∧cs.length=n∧dE w b (off+i * n) cs∧(∀x∈cs,x.oneCell'=true)∧Rc w E e cs f2∧
   Rr w E (l.take i) b off n f1∧Rr w E (l.drop (i+1)) b (off+(i+1) * n) n f3:=by
 obtain ⟨hlt,rfl⟩:=List.getElem?_eq_some_iff.1 hi
 have hl:l=l.take i++l[i]::l.drop (i+1):=by simp
 rw [hl] at h
 obtain ⟨f1,f4,rfl,h1,h2⟩:=zW.1 h
 have hti:(l.take i).length=i:=by simp;omega
 rw [hti] at h2
 simp only [Rr] at h2
 obtain ⟨cs,f2,f3,hn,hc,ho,hr,h3,rfl⟩:=h2
 refine ⟨f1,f2,f3,cs,by simp,hn,hc,ho,hr,h1,?_⟩
 rw [Nat.add_mul,Nat.one_mul,←Nat.add_assoc];exact h3
theorem aKx {w:World} {E:Env} {l:List (List AV)} {b off n:Nat} {i:Nat} {e:List AV} {f1 f2 f3:List Nat} {cs:List Value} (hi:i < l.length) (hn:cs.length=n)
  (hc:dE w b (off+i * n) cs) (ho:∀x∈cs,x.oneCell'=true) (hr:Rc w E e cs f2) (h1:Rr w E (l.take i) b off n f1) (h3:Rr w E (l.drop (i+1)) b (off+(i+1) * n) n f3):
  Rr w E (l.set i e) b off n (f1++f2++f3):=by
 have hl:l.set i e=l.take i++e::l.drop (i+1):=by rw [List.set_eq_take_append_cons_drop];simp [hi]
 rw [hl]
 refine zW.2 ⟨f1,f2++f3,by simp,h1,?_⟩
 have hti:(l.take i).length=i:=by simp;omega
 rw [hti]
 simp only [Rr]
 refine ⟨cs,f2,f3,hn,hc,ho,hr,?_,rfl⟩
 rw [Nat.add_mul,Nat.one_mul,←Nat.add_assoc] at h3;exact h3
theorem aGy {w w':World} {E E':Env} (k:bP w E w' E') {b lo hi:Nat} (hout:∀j,j < lo∨hi≤j→w'.cell? ⟨b,j,none⟩=w.cell? ⟨b,j,none⟩):∀{l:List (List AV)} {off n:Nat} {fp:List Nat},
  (∀x∈fp,w'.heap[x]? =w.heap[x]?)→(off+l.length * n≤lo∨hi≤off)→Rr w E l b off n fp→Rr w' E' l b off n fp
 |[],_,_,_,_,_,h=>by simpa [Rr] using h
 |e::es,off,n,fp,hf,hr,h=>by
  simp only [Rr] at h⊢
  obtain ⟨cs,f1,f2,hn,hc,ho,h1,h2,rfl⟩:=h
  have hl:(es.length+1) * n=n+es.length * n:=by rw [Nat.add_mul];omega
  simp only [List.length_cons,hl] at hr
  refine ⟨cs,f1,f2,hn,?_,ho,dI k _ _ _ (fun x hx=>hf x (by simp [hx])) h1,aGy k hout (fun x hx=>hf x (by simp [hx])) (by omega) h2,rfl⟩
  intro j v hv
  rw [hout]
  ·exact hc j v hv
  ·have:j < cs.length:=(List.getElem?_eq_some_iff.1 hv).1
   omega
theorem dE.drop {w:World} {b off k:Nat} {cs:List Value} (h:dE w b off cs):dE w b (off+k) (cs.drop k):=by
 intro j v hv
 rw [List.getElem?_drop] at hv
 have:=h _ _ hv
 rwa [←Nat.add_assoc] at this
theorem dE.take {w:World} {b off k:Nat} {cs:List Value} (h:dE w b off cs):dE w b off (cs.take k):=by
 intro j v hv
 rw [List.getElem?_take] at hv
 split at hv
 ·exact h _ _ hv
 ·cases hv
theorem addr_add (b o n:Nat):(⟨b,o,none⟩:Addr).add n=⟨b,o+n,none⟩:=Addr.add_lit b o n
theorem dE.run {P:Program} {w:World} {b off:Nat} {cs:List Value} (h:dE w b off cs):(loadCells ⟨b,off,none⟩ cs.length).run P w= .ok cs.toArray w:=
 run_loadCells_list w _ cs (fun j v hv=>by rw [addr_add];exact h j v hv)
def aggSize (P:Program) (t:TypeId):Option Nat:=
 match P.underlying t with
 |some (.struct _)=>(P.info? t).map (·.size)
 |some (.array _ _)=>(P.info? t).map (·.size)
 |_=>none
def oneSize (P:Program) (t:TypeId):Bool:=
 match P.underlying t with
 |some (.struct _)=>false
 |some (.array _ _)=>false
 |some _=>(P.info? t).map (·.size) == some 1
 |none=>false
theorem aQ2 {P:Program} {w:World} {t:TypeId} {b off:Nat} {cs:List Value} (ht:aggSize P t=some cs.length) (h:dE w b off cs):
  (loadVar t ⟨b,off,none⟩).run P w= .ok (.agg cs.toArray) w:=by
 unfold aggSize at ht
 have hr:=h.run (P:=P)
 split at ht
 ·rename_i d hd
  cases hi:P.info? t with
  |none=>simp [hi] at ht
  |some i=>
   simp [hi] at ht
   simp [loadVar,isAgg,run_underlying hd,sizeOf,typeInfo,hi,ht,hr]
 ·rename_i d hd
  cases hi:P.info? t with
  |none=>simp [hi] at ht
  |some i=>
   simp [hi] at ht
   simp [loadVar,isAgg,run_underlying hd,sizeOf,typeInfo,hi,ht,hr]
 ·cases ht
theorem aR2 {P:Program} {w:World} {t:TypeId} {b off:Nat} {v:Value} (ht:oneSize P t=true) (h:dE w b off [v]):
  (loadVar t ⟨b,off,none⟩).run P w= .ok v w:=by
 unfold oneSize at ht
 have h0:=h 0 v rfl
 split at ht
 ·cases ht
 ·cases ht
 ·rename_i d hd h1 h2
  simp only [loadVar,isAgg,Sem.run_bind,run_underlying h2,Result.andThen_ok]
  cases d<;>simp_all
 ·cases ht
theorem heap_setCells (b b':Nat) (hb:b'≠b):∀(vs:List Value) (o:Nat) (w:World),(w.setCells b o vs).heap[b']? =w.heap[b']?
 |[],_,_=>rfl
 |v::r,o,w=>by
  rw [World.setCells,heap_setCells b b' hb r]
  simp [World.setCell,Array.getElem?_modify,Ne.symm hb]
theorem size_setCells (b:Nat):∀(vs:List Value) (o:Nat) (w:World),(w.setCells b o vs).heap.size=w.heap.size
 |[],_,_=>rfl
 |v::r,o,w=>by rw [World.setCells,size_setCells b r];simp
theorem same_setCells (b:Nat):∀(vs:List Value) (o:Nat) (w:World),Same w (w.setCells b o vs)
 |[],_,_=>Same.rfl
 |v::r,o,w=>by rw [World.setCells];exact Same.trans (b:=w.setCell ⟨b,o,none⟩ v) ⟨rfl,rfl,rfl⟩ (same_setCells b r (o+1) _)
theorem uX (b:Nat) (e:TypeId) (fz:Nat×Nat):∀(vs:List Value) (o:Nat) (w:World) (C:Array Value),w.heap[b]? =some (.cells C e fz)→
  ∃C',(w.setCells b o vs).heap[b]? =some (.cells C' e fz)∧C'.size=C.size
 |[],_,w,C,h=>⟨C,h,rfl⟩
 |v::r,o,w,C,h=>by
  rw [World.setCells]
  have:(w.setCell ⟨b,o,none⟩ v).heap[b]? =some (.cells (C.setIfInBounds o v) e fz):=by
   simp [World.setCell,Array.getElem?_modify,h]
  obtain ⟨C',h1,h2⟩:=uX b e fz r (o+1) _ _ this
  exact ⟨C',h1,by simpa using h2⟩
theorem xN {P:Program} {w:World} {b off:Nat} {C:Array Value} {e:TypeId} {fz:Nat×Nat} {vs:List Value} {q:Prop} (hb:w.heap[b]? =some (.cells C e fz)) (hz:(C.size≤fz.1∧q)∨fz.2=0)
  (hfit:off+vs.length≤C.size) (h1:∀v∈vs,v.oneCell'=true):(storeCells ⟨b,off,none⟩ vs).run P w= .ok () (w.setCells b off vs):=by
 have:=run_storeCells_cells (P:=P) b off vs 0 w (fun j hj=>by
  have:off+j < C.size:=by omega
  simp [World.cell?,hb,this]) (fun j hj=>by
  simp only [World.frozen?,hb]
  rcases hz with ⟨hz,_⟩|hz
  ·have:¬fz.1≤off+j:=by omega
   simp [this]
  ·simp [hz]) h1
 simpa using this
end Go.Aw

namespace Go.Aw
theorem tY {o:List aA} {G:List CO} {i j:Nat} {ob':aA} {g':CO} {x:aA} {y:CO} (h:look (o.set i ob') (G.set i g') j x y):
  (j=i∧x=ob'∧y=g')∨(j≠i∧look o G j x y):=by
 obtain ⟨h1,h2⟩:=h
 rw [List.getElem?_set] at h1 h2
 by_cases hj:i=j
 ·subst hj
  left
  simp only [if_true] at h1 h2
  split at h1
  ·split at h2
   ·exact ⟨rfl,(Option.some.inj h1).symm,(Option.some.inj h2).symm⟩
   ·cases h2
  ·cases h1
 ·simp only [hj,if_false] at h1 h2
  exact .inr ⟨fun e=>hj e.symm,h1,h2⟩
theorem oM {o:List aA} {G:List CO} {i:Nat} {ob':aA} {g':CO} {x:aA} {y:CO} (h:look o G i x y):look (o.set i ob') (G.set i g') i ob' g':=by
 have h1:=(List.getElem?_eq_some_iff.1 h.1).1
 have h2:=(List.getElem?_eq_some_iff.1 h.2).1
 constructor<;>simp [h1,h2]
theorem zD {o:List aA} {G:List CO} {i j:Nat} {ob':aA} {g':CO} {x:aA} {y:CO} (h:look o G j x y) (hj:j≠i):look (o.set i ob') (G.set i g') j x y:=by
 constructor
 ·rw [List.getElem?_set_ne (Ne.symm hj)];exact h.1
 ·rw [List.getElem?_set_ne (Ne.symm hj)];exact h.2
theorem gL {o:List aA} {G:List CO} {i:Nat} {x x':aA} {y y':CO} (h:look o G i x y) (h':look o G i x' y'):x=x'∧y=y':=
 ⟨Option.some.inj (h.1.symm.trans h'.1),Option.some.inj (h.2.symm.trans h'.2)⟩
theorem bG.same_of {P:Program} [aB P] {B:Base P} {s:AS} {G:List CO} {a:Act} {w:World} (r:bG B s G a w) {i:Nat} {ob:aA} {g:CO} (hl:look s.o G i ob g) (hlive:ob.live=true) {w':World}
  (hsame:∀b,b < w.heap.size→¬(g.F b∧∃a,g.a=some a∧b=a.block)→w'.heap[b]? =w.heap[b]?):
  (∀b,(env B s.o G w).A b→w'.heap[b]? =w.heap[b]?)∧(∀j oj gj b,look s.o G j oj gj→oj.live=true→j≠i→gj.F b→w'.heap[b]? =w.heap[b]?):=by
 refine ⟨fun b hb=>hsame b (lX r hb) (fun h=>hb.2 i ob g hl hlive h.1),fun j oj gj b hj hjl hne hf=> ?_⟩
 exact hsame b (r.fresh j oj gj b hj hjl hf).2 (fun h=>hne (r.apart j i oj ob gj g b hj hl hjl hlive hf h.1))
theorem bG.modify {P:Program} [aB P] {B:Base P} {s:AS} {G:List CO} {a:Act} {w:World} (r:bG B s G a w) {i:Nat} {ob:aA} {g:CO} (hl:look s.o G i ob g) (hlive:ob.live=true)
  (ob':aA) (g':CO) (w':World) (hver:ob.ver≤ob'.ver) (hn:ob'.n=ob.n)
  (hhdr:ob'.ver=ob.ver→g'.a=g.a∧g'.cap=g.cap∧ob'.els.length=ob.els.length)
  (hF:∀b,g'.F b→g.F b∨(w.heap.size≤b∧b < w'.heap.size))
  (hD:∀b,g.F b→(∀a,g.a=some a→b≠a.block)→g'.F b∧(∀a,g'.a=some a→b≠a.block))
  (hsame:∀b,b < w.heap.size→¬(g.F b∧∃a,g.a=some a∧b=a.block)→w'.heap[b]? =w.heap[b]?)
  (hs:w.heap.size≤w'.heap.size)
  (ok':bP w (env B s.o G w) w' (env B (s.o.set i ob') (G.set i g') w')→ob'.live=true→aAx w' (env B (s.o.set i ob') (G.set i g') w') ob' g') (same:Same w w':=by first|exact ⟨rfl,rfl,rfl⟩|exact same_setCells _ _ _ _) (hbx:ob'.box=true→ob.box=true∨ob.ver < 2:=by first|exact fun h=> .inl h|(intro h;cases h)):
  bG B ⟨s.t,s.o.set i ob'⟩ (G.set i g') a w'∧bP w (env B s.o G w) w' (env B (s.o.set i ob') (G.set i g') w'):=by
 have hsm:=r.same_of hl hlive hsame
 have k:bP w (env B s.o G w) w' (env B (s.o.set i ob') (G.set i g') w'):=by
  refine wD hs (fun b hb=>⟨lX r hb,hsm.1 b hb⟩) r.len ?_ ?_
  ·intro j oj gj hj
   by_cases e:j=i
   ·subst e
    obtain ⟨rfl,rfl⟩:=gL hl hj
    refine ⟨ob',g',oM hl,hver,hbx,fun _=>⟨hlive,hn,hhdr,fun b hf hne=> ?_⟩⟩
    have:=hD b hf hne
    exact ⟨this.1,this.2,hsame b (r.fresh j _ _ b hl hlive hf).2 (fun h=>by obtain ⟨_,a,ha,rfl⟩:=h;exact hne a ha rfl)⟩
   ·refine ⟨oj,gj,zD hj e,Nat.le_refl _,fun h=> .inl h,fun hjl=>⟨hjl,rfl,fun _=>⟨rfl,rfl,rfl⟩,fun b hf hne=>⟨hf,hne,hsm.2 j oj gj b hj hjl e hf⟩⟩⟩
  ·intro j oj gj b hj hjl hf
   rcases tY hj with ⟨rfl,rfl,rfl⟩|⟨_,hj'⟩
   ·rcases hF b hf with h|h
    ·exact .inr ⟨j,ob,g,hl,hlive,h⟩
    ·exact .inl h.1
   ·exact .inr ⟨j,oj,gj,hj',hjl,hf⟩
 refine ⟨r.next k (by simp [r.len]) ?_ ?_ ?_ hs ?_ same,k⟩
 ·intro j oj gj hj hjl
  rcases tY hj with ⟨rfl,rfl,rfl⟩|⟨hne,hj'⟩
  ·exact ok' k hjl
  ·exact (r.ok j oj gj hj' hjl).keeps k (fun b hb=>hsm.2 j oj gj b hj' hjl hne hb)
 ·intro j1 j2 o1 o2 g1 g2 b h1 h2 hl1 hl2 hf1 hf2
  rcases tY h1 with ⟨rfl,rfl,rfl⟩|⟨hne1,h1'⟩<;>rcases tY h2 with ⟨rfl,rfl,rfl⟩|⟨hne2,h2'⟩
  ·rfl
  ·exfalso
   rcases hF b hf1 with h|h
   ·exact hne2 (r.apart _ _ _ _ _ _ b h2' hl hl2 hlive hf2 h)
   ·have:=(r.fresh _ _ _ b h2' hl2 hf2).2;omega
  ·exfalso
   rcases hF b hf2 with h|h
   ·exact hne1 (r.apart _ _ _ _ _ _ b h1' hl hl1 hlive hf1 h)
   ·have:=(r.fresh _ _ _ b h1' hl1 hf1).2;omega
  ·exact r.apart _ _ _ _ _ _ b h1' h2' hl1 hl2 hf1 hf2
 ·intro j oj gj b hj hjl hf
  rcases tY hj with ⟨rfl,rfl,rfl⟩|⟨hne,hj'⟩
  ·rcases hF b hf with h|h
   ·have:=r.fresh _ _ _ b hl hlive h
    exact ⟨this.1,Nat.lt_of_lt_of_le this.2 hs⟩
   ·exact ⟨.inr (Nat.le_trans r.size h.1),h.2⟩
  ·have:=r.fresh _ _ _ b hj' hjl hf
   exact ⟨this.1,Nat.lt_of_lt_of_le this.2 hs⟩
 ·intro b hb hO
  refine hsame b (Nat.lt_of_lt_of_le hb r.size) (fun h=> ?_)
  have:=(r.fresh _ _ _ b hl hlive h.1).1
  rcases this with h|h
  ·exact hO h
  ·omega
theorem jX {o o2:List aA} {G G2:List CO} (hlen:G.length=o.length) {i:Nat} {x:aA} {y:CO} (h:look (o++o2) (G++G2) i x y):
  (i < o.length∧look o G i x y)∨(o.length≤i∧look o2 G2 (i - o.length) x y):=by
 obtain ⟨h1,h2⟩:=h
 by_cases hi:i < o.length
 ·rw [List.getElem?_append_left hi] at h1
  rw [List.getElem?_append_left (by omega)] at h2
  exact .inl ⟨hi,h1,h2⟩
 ·rw [List.getElem?_append_right (by omega)] at h1
  rw [List.getElem?_append_right (by omega),hlen] at h2
  exact .inr ⟨by omega,h1,h2⟩
theorem lQ {o o2:List aA} {G G2:List CO} {i:Nat} {x:aA} {y:CO} (h:look o G i x y):look (o++o2) (G++G2) i x y:=by
 have h1:=(List.getElem?_eq_some_iff.1 h.1).1
 have h2:=(List.getElem?_eq_some_iff.1 h.2).1
 exact ⟨by rw [List.getElem?_append_left h1];exact h.1,by rw [List.getElem?_append_left h2];exact h.2⟩
theorem mG {o o2:List aA} {G G2:List CO} (hlen:G.length=o.length) {i:Nat} {x:aA} {y:CO} (h:look o2 G2 i x y):look (o++o2) (G++G2) (o.length+i) x y:=by
 refine ⟨by rw [List.getElem?_append_right (by omega),Nat.add_sub_cancel_left];exact h.1,?_⟩
 rw [List.getElem?_append_right (by omega),hlen,Nat.add_sub_cancel_left];exact h.2
theorem bG.add {P:Program} [aB P] {B:Base P} {s:AS} {G:List CO} {a:Act} {w:World} (r:bG B s G a w) (obs:List aA) (Gs:List CO) (w':World) (hlen:Gs.length=obs.length)
  (hs:w.heap.size≤w'.heap.size) (hsame:∀b,b < w.heap.size→w'.heap[b]? =w.heap[b]?)
  (hF:∀j ob g b,look obs Gs j ob g→ob.live=true→g.F b→w.heap.size≤b∧b < w'.heap.size)
  (hap:∀i j oi oj gi gj b,look obs Gs i oi gi→look obs Gs j oj gj→oi.live=true→oj.live=true→gi.F b→gj.F b→i=j)
  (ok:bP w (env B s.o G w) w' (env B (s.o++obs) (G++Gs) w')→∀j ob g,look obs Gs j ob g→ob.live=true→aAx w' (env B (s.o++obs) (G++Gs) w') ob g) (same:Same w w':=by first|exact ⟨rfl,rfl,rfl⟩|exact same_setCells _ _ _ _):
  bG B ⟨s.t,s.o++obs⟩ (G++Gs) a w'∧bP w (env B s.o G w) w' (env B (s.o++obs) (G++Gs) w'):=by
 have k:bP w (env B s.o G w) w' (env B (s.o++obs) (G++Gs) w'):=by
  refine wD hs (fun b hb=>⟨lX r hb,hsame b (lX r hb)⟩) r.len ?_ ?_
  ·intro j oj gj hj
   exact ⟨oj,gj,lQ hj,Nat.le_refl _,fun h=> .inl h,fun hjl=>⟨hjl,rfl,fun _=>⟨rfl,rfl,rfl⟩,fun b hf hne=>⟨hf,hne,hsame b (r.fresh j oj gj b hj hjl hf).2⟩⟩⟩
  ·intro j oj gj b hj hjl hf
   rcases jX r.len hj with ⟨_,h⟩|⟨_,h⟩
   ·exact .inr ⟨j,oj,gj,h,hjl,hf⟩
   ·exact .inl (hF _ _ _ b h hjl hf).1
 refine ⟨r.next k (by simp [r.len,hlen]) ?_ ?_ ?_ hs ?_ same,k⟩
 ·intro j oj gj hj hjl
  rcases jX r.len hj with ⟨_,h⟩|⟨_,h⟩
  ·exact (r.ok j oj gj h hjl).keeps k (fun b hb=>hsame b (r.fresh j oj gj b h hjl hb).2)
  ·exact ok k _ _ _ h hjl
 ·intro j1 j2 o1 o2 g1 g2 b h1 h2 hl1 hl2 hf1 hf2
  rcases jX r.len h1 with ⟨_,h1⟩|⟨hj1,h1⟩<;>rcases jX r.len h2 with ⟨_,h2⟩|⟨hj2,h2⟩
  ·exact r.apart _ _ _ _ _ _ b h1 h2 hl1 hl2 hf1 hf2
  ·have:=(r.fresh _ _ _ b h1 hl1 hf1).2
   have:=(hF _ _ _ b h2 hl2 hf2).1
   omega
  ·have:=(r.fresh _ _ _ b h2 hl2 hf2).2
   have:=(hF _ _ _ b h1 hl1 hf1).1
   omega
  ·have:=hap _ _ _ _ _ _ b h1 h2 hl1 hl2 hf1 hf2
   omega
 ·intro j oj gj b hj hjl hf
  rcases jX r.len hj with ⟨_,h⟩|⟨_,h⟩
  ·have:=r.fresh _ _ _ b h hjl hf
   exact ⟨this.1,Nat.lt_of_lt_of_le this.2 hs⟩
  ·have:=hF _ _ _ b h hjl hf
   exact ⟨.inr (Nat.le_trans r.size this.1),this.2⟩
 ·intro b hb hO
  exact hsame b (Nat.lt_of_lt_of_le hb r.size)
end Go.Aw

namespace Go.Aw
def slN (P:Program):Nat→TypeId→List Nat
 |0,_=>[]
 |f+1,t=>match P.underlying t with
  |some (.slice e)=>[P.cellsOf e]
  |some (.struct fs)=>fs.toList.flatMap fun x=>slN P f x.type
  |some (.array n e)=>(List.replicate n (slN P f e)).flatten
  |_=>[0]
def bDr (n:Nat):AV→AV
 | .sl .own _ []=> .sl .own n []
 |x=>x
def aEq:List AV→List Nat→List AV
 |x::xs,n::ns=>bDr n x::aEq xs ns
 |xs,[]=>xs
 |[],_=>[]
theorem bG0 (w:World) (E:Env) (n:Nat) (v:Value):R w E (bDr n (ofV v)) v []:=by
 unfold ofV
 split<;>simp [bDr,R,Rc,maxLen]
theorem aA4 (w:World) (E:Env):∀(vs:List Value) (ns:List Nat),Rc w E (aEq (vs.map ofV) ns) vs []
 |[],[]=>by simp [aEq,Rc]
 |[],_::_=>by simp [aEq,Rc]
 |v::vs,[]=>by
  have:=aA4 w E vs []
  have e:aEq (vs.map ofV) []=vs.map ofV:=by cases vs<;>rfl
  rw [e] at this
  simp only [List.map_cons,aEq,Rc]
  exact ⟨[],[],bEf w E v,this,rfl⟩
 |v::vs,n::ns=>by
  simp only [List.map_cons,aEq,Rc]
  exact ⟨[],[],bG0 w E n v,aA4 w E vs ns,rfl⟩
def zeroA (P:Program) (t:TypeId):Option (List AV):=
 match (P.info? t).bind (·.zero) with
 |some v=>if v.cells.toList.all (·.oneCell') then some (aEq (v.cells.toList.map ofV) (slN P 8 t)) else none
 |none=>none
def elemA (P:Program) (t:TypeId):Option (TypeId×Nat×Nat):=
 match P.underlying t with
 |some (.slice e)=>(P.info? e).map fun i=>(e,i.size,i.bytes)
 |_=>none
def fieldA (P:Program) (t:TypeId) (f:Nat):Option Nat:=
 match P.underlying t with
 |some (.struct fs)=>match fs[f]? with
  |some fd=>match P.info? fd.type with
   |some i=>if i.size=0 then none else some fd.offset
   |none=>none
  |none=>none
 |_=>none
def AV.cells:AV→List AV
 | .agg c=>c
 |x=>[x]
def AV.known:AV→Bool
 | .undef=>false
 | .tup _=>false
 | .sl (.dep _) _ _=>false
 | .vptr (.dep _) _ _=>false
 | .obj _ _=>false
 | .ptr _ _ _ _=>false
 |_=>true
def AV.isObj (o:List aA) (i ver:Nat):Option aA:=
 match o[i]? with
 |some ob=>if ob.live=true∧ob.ver=ver then some ob else none
 |none=>none
def AV.fit (o:List aA):AV→Bool
 | .undef=>false
 | .tup _=>false
 | .sl (.dep i) _ _=>match o[i]? with
  |some ob=>ob.live
  |none=>false
 | .vptr (.dep i) _ _=>match o[i]? with
  |some ob=>ob.live
  |none=>false
 | .obj i ver=>(AV.isObj o i ver).isSome
 | .ptr i ver _ _=>(AV.isObj o i ver).isSome
 |_=>true
theorem aH0 {P:Program} [aB P] {B:Base P} {o:List aA} {G:List CO} {w:World} {x:AV} {v:Value} {fp:List Nat} (hf:x.fit o=true) (h:R w (env B o G w) x v fp):
  Rc w (env B o G w) x.cells v.cells.toList fp∧(∀c∈v.cells.toList,c.oneCell'=true)∧(∀c,x= .agg c→∃cs,v= .agg cs)∧((∀c,x≠ .agg c)→v.cells=#[v]∧v.oneCell'=true):=by
 have one:∀{x:AV} {v:Value} {fp:List Nat},R w (env B o G w) x v fp→x.cells=[x]→v.cells=#[v]→v.oneCell'=true→(∀c,x≠ .agg c)→
   Rc w (env B o G w) x.cells v.cells.toList fp∧(∀c∈v.cells.toList,c.oneCell'=true)∧(∀c,x= .agg c→∃cs,v= .agg cs)∧((∀c,x≠ .agg c)→v.cells=#[v]∧v.oneCell'=true):=by
  intro x v fp h h1 h2 h3 h4
  rw [h1,h2]
  refine ⟨by simp only [Rc];exact ⟨fp,[],h,rfl,by simp⟩,by simpa using h3,fun c hc=>absurd hc (h4 c),fun _=>⟨rfl,h3⟩⟩
 cases x with
 |int k n=>have h':=h;simp only [R] at h';obtain ⟨rfl,_⟩:=h';exact one h rfl rfl rfl (by simp)
 |bool b=>have h':=h;simp only [R] at h';obtain ⟨rfl,_⟩:=h';exact one h rfl rfl rfl (by simp)
 |str b=>have h':=h;simp only [R] at h';obtain ⟨rfl,_⟩:=h';exact one h rfl rfl rfl (by simp)
 |sl g n l=>
  have h':=h
  simp only [R] at h'
  rcases h' with ⟨hd,_⟩|⟨a,cap,rfl,_⟩
  ·cases g with
   |own=>exact hd.elim
   |view=>exact hd.elim
   |dep i=>
    simp only [AV.fit] at hf
    exfalso
    refine hd (fun ob hob=> ?_)
    simpa [hob] using hf
  ·exact one h rfl rfl rfl (by simp)
 |vptr g c off=>
  have h':=h
  simp only [R] at h'
  rcases h' with ⟨hd,_⟩|⟨_,b,o,cs,rfl,_⟩
  ·cases g with
   |own=>exact hd.elim
   |view=>exact hd.elim
   |dep i=>
    simp only [AV.fit] at hf
    exfalso
    refine hd (fun ob hob=> ?_)
    simpa [hob] using hf
  ·exact one h rfl rfl rfl (by simp)
 |obj i ver=>
  have h':=h
  simp only [R] at h'
  obtain ⟨_,ob,g,hl,_,hh,_⟩:=h'
  simp only [AV.fit,AV.isObj,hl.1] at hf
  split at hf
  ·rename_i hc
   have:=hh hc.1 hc.2
   subst this
   exact one h rfl rfl rfl (by simp)
  ·cases hf
 |ptr i ver idx off=>
  have h':=h
  simp only [R] at h'
  obtain ⟨_,ob,g,hl,_,hh,_⟩:=h'
  simp only [AV.fit,AV.isObj,hl.1] at hf
  split at hf
  ·rename_i hc
   obtain ⟨b,f,_,rfl⟩:=hh hc.1 hc.2
   exact one h rfl rfl rfl (by simp)
  ·cases hf
 |agg c=>
  simp only [R] at h
  obtain ⟨cs,rfl,ho,hr⟩:=h
  exact ⟨by simpa [AV.cells,Value.cells] using hr,by simpa [Value.cells] using ho,fun _ _=>⟨_,rfl⟩,fun hne=>absurd rfl (hne c)⟩
 |tup c=>cases hf
 |fn f c=>have h':=h;simp only [R] at h';obtain ⟨_,cs,rfl,_⟩:=h';exact one h rfl rfl rfl (by simp)
 |undef=>cases hf
def Step (P:Program) [aB P] (B:Base P) (o:Oper) (s s':AS):Prop:=
 ∀a w next Q,Rel B s a w→(∀a' w',Rel B s' a' w'→next a' w')→o.wp P a w next Q
theorem nD {P:Program} [aB P] {B:Base P} {o:Oper} {s s':AS}
  (h:∀G a w,bG B s G a w→∃v w',(execOp a.eval o).run P w= .ok (.value v) w'∧Rel B s' (a.put o.dst v) w'):Step P B o s s':=by
 rintro a w next Q ⟨G,r⟩ hn
 obtain ⟨v,w',hr,hrel⟩:=h G a w r
 unfold Oper.wp
 rw [hr]
 exact hn _ _ hrel
theorem aKa {P:Program} [aB P] {B:Base P} {o:Oper} {s s':AS}
  (h:∀G a w,bG B s G a w→∃w',(execOp a.eval o).run P w= .ok .skip w'∧Rel B s' (a.put o.dst Go.undef) w'):Step P B o s s':=by
 rintro a w next Q ⟨G,r⟩ hn
 obtain ⟨w',hr,hrel⟩:=h G a w r
 unfold Oper.wp
 rw [hr]
 exact hn _ _ hrel
theorem dF {P:Program} [aB P] {B:Base P} {o:Oper} {s:AS} {x:AV}
  (h:∀G a w,bG B s G a w→∃v,(execOp a.eval o).run P w= .ok (.value v) w∧R w (env B s.o G w) x v []):Step P B o s (s.put o.dst x):=
 nD fun G a w r=>let ⟨v,hr,hx⟩:=h G a w r;⟨v,w,hr,G,r.put o.dst hx⟩
section
variable {P : Program} [aB P] {B : Base P} {s : AS} {dst : Option Tmp} {ty : TypeId} {pos : String} {after : Array Edge} {gd : Option (Nat × Bool)}
theorem aZ6 (x:Operand):Step P B ⟨dst,.move x,ty,pos,after,gd⟩ s (s.put dst (s.ev x)):=
 dF fun _ a _ r=>⟨a.eval x,rfl,r.ev x⟩
theorem aUl (x:Operand):Step P B ⟨dst,.assign x,ty,pos,after,gd⟩ s (s.put dst (s.ev x)):=
 dF fun _ a _ r=>⟨a.eval x,rfl,r.ev x⟩
def AS.box (s:AS) (d:Option Tmp) (c:List AV):AS:=AS.put ⟨s.t,s.o++[⟨true,true,c.length,0,[c]⟩]⟩ d (.ptr s.o.length 0 0 0)
theorem heap_alloc (w:World) (o:Obj) (b:Nat) (h:b < w.heap.size):(w.alloc o).heap[b]? =w.heap[b]?:=heap_alloc_old w o h
theorem jP (w:World) (o:Obj):(w.alloc o).heap[w.heap.size]? =some o:=heap_alloc_new w o
theorem bG.add1 {G:List CO} {a:Act} {w:World} (r:bG B s G a w) (ob:aA) (cap:Nat) (C:Array Value) (e:TypeId)
  (hl:ob.els.length≤cap) (hcap:cap≤maxLen) (hC:cap * ob.n≤C.size)
  (hr:∀w' E',bP w ((env B s.o G w).of ob.box) w' E'→w'.heap[w.heap.size]? =some (.cells C e (0,0))→Rr w' E' ob.els w.heap.size 0 ob.n []):
  ∃G',bG B ⟨s.t,s.o++[ob]⟩ G' a (w.alloc (.cells C e))∧bP w (env B s.o G w) (w.alloc (.cells C e)) (env B (s.o++[ob]) G' (w.alloc (.cells C e)))∧
   G'[s.o.length]? =some ⟨some ⟨w.heap.size,0,none⟩,cap,fun b=>b=w.heap.size⟩:=by
 refine ⟨G++[⟨some ⟨w.heap.size,0,none⟩,cap,fun b=>b=w.heap.size⟩],?_⟩
 have:=r.add [ob] [⟨some ⟨w.heap.size,0,none⟩,cap,fun b=>b=w.heap.size⟩] (w.alloc (.cells C e)) rfl (by simp) (fun b hb=>heap_alloc w _ b hb) ?_ ?_ ?_
 ·refine ⟨this.1,this.2,?_⟩
  rw [←r.len];simp
 ·rintro j x y b ⟨h1,h2⟩ _ hf
  cases j with
  |zero=>simp at h2;subst h2;simp at hf;subst hf;simp
  |succ j=>simp at h2
 ·rintro i j _ _ _ _ b ⟨h1,_⟩ ⟨h2,_⟩ _ _ _ _
  cases i<;>cases j<;>simp_all
 ·rintro k j x y ⟨h1,h2⟩ _
  cases j with
  |zero=>
   simp at h1 h2
   subst h1;subst h2
   refine ⟨[w.heap.size],⟨Nat.le_trans hl hcap,.inr ⟨w.heap.size,0,C,e,(0,0),[],rfl,jP w _,.inr rfl,by simpa using hC,hl,hcap,rfl,?_⟩⟩,by simp,by simp⟩
   exact hr _ _ (k.of ob.box) (jP w _)
  |succ j=>simp at h1
theorem aNz {o:List aA} {G':List CO} {ob:aA} {g:CO} (h:G'[o.length]? =some g):look (o++[ob]) G' o.length ob g:=⟨by simp,h⟩
theorem aFa (P:Program) (w:World) (t:TypeId) (v:Value):(newVar t v).run P w= .ok ⟨w.heap.size,0,none⟩ (w.alloc (.cells v.cells t)):=by
 simp [newVar,newRow]
theorem bG.boxed {G:List CO} {a:Act} {w:World} (r:bG B s G a w) (d:Option Tmp) {c:List AV} {cs:Array Value} (t:TypeId) (ho:∀x∈cs.toList,x.oneCell'=true)
  (hr:Rc w (env B s.o G w) c cs.toList []):Rel B (s.box d c) (a.put d (.pointer (some ⟨w.heap.size,0,none⟩))) (w.alloc (.cells cs t)):=by
 have hl:=dZ hr
 obtain ⟨G',r',k,hG⟩:=r.add1 ⟨true,true,c.length,0,[c]⟩ 1 cs t (by simp) (by simp [maxLen]) (by simpa using Nat.le_of_eq hl.symm) (fun w' E' k hb=>by
  simp only [Rr]
  refine ⟨cs.toList,[],[],by simpa using hl,?_,ho,dI k _ _ _ (by simp) hr,rfl,rfl⟩
  intro j v hv
  simp [World.cell?,hb]
  simpa using hv)
 refine ⟨G',?_⟩
 exact r'.put d (by
  simp only [R]
  exact ⟨trivial,_,_,aNz hG,Nat.le_refl _,fun _ _=>⟨w.heap.size,0,rfl,by simp⟩,fun _ h=>by cases h⟩)
theorem bG.boxAt {G:List CO} {a:Act} {w:World} (r:bG B s G a w) (d:Option Tmp) {c:List AV} {cs:Array Value} (t:TypeId) {i:Nat} (hi:s.o[i]? =some ⟨true,false,c.length,0,[]⟩) (ho:∀x∈cs.toList,x.oneCell'=true)
  (hr:Rc w (env B s.o G w) c cs.toList []):Rel B (AS.put ⟨s.t,s.o.set i ⟨true,true,c.length,1,[c]⟩⟩ d (.ptr i 1 0 0)) (a.put d (.pointer (some ⟨w.heap.size,0,none⟩))) (w.alloc (.cells cs t)):=by
 have hl:=dZ hr
 have hlt:i < G.length:=by rw [r.len];exact (List.getElem?_eq_some_iff.1 hi).1
 have hlk:Aw.look s.o G i ⟨true,false,c.length,0,[]⟩ G[i]:=⟨hi,List.getElem?_eq_getElem hlt⟩
 generalize G[i]=g at hlk
 have hm:=r.modify hlk rfl ⟨true,true,c.length,1,[c]⟩ ⟨some ⟨w.heap.size,0,none⟩,1,fun b=>g.F b∨b=w.heap.size⟩ (w.alloc (.cells cs t)) (by simp) rfl (fun h=>by simp at h)
  (fun b hb=>by
   rcases hb with hb|rfl
   ·exact .inl hb
   ·exact .inr ⟨Nat.le_refl _,by simp⟩)
  (fun b hb _=>⟨.inl hb,fun x hx=>by
   obtain rfl:=Option.some.inj hx
   have:=(r.fresh _ _ _ b hlk rfl hb).2
   simp;omega⟩)
  (fun b hb _=>heap_alloc w _ b hb) (by simp) (fun k _=>by
   refine ⟨[w.heap.size],⟨by simp [maxLen],.inr ⟨w.heap.size,0,cs,t,(0,0),[],rfl,jP w _,.inr rfl,by simpa using Nat.le_of_eq hl.symm,by simp,by simp [maxLen],rfl,?_⟩⟩,by simp,by simp⟩
   simp only [Env.of,if_true,Rr]
   refine ⟨cs.toList,[],[],by simpa using hl,?_,ho,dI k _ _ _ (by simp) hr,rfl,rfl⟩
   intro j v hv
   have hb:=jP w (Obj.cells cs t)
   simp only [World.cell?,hb]
   simpa using hv) (by exact ⟨rfl,rfl,rfl⟩) (fun _=> .inr (by simp))
 have hl2:Aw.look (s.o.set i ⟨true,true,c.length,1,[c]⟩) (G.set i ⟨some ⟨w.heap.size,0,none⟩,1,fun b=>g.F b∨b=w.heap.size⟩) i ⟨true,true,c.length,1,[c]⟩ ⟨some ⟨w.heap.size,0,none⟩,1,fun b=>g.F b∨b=w.heap.size⟩:=oM hlk
 refine ⟨_,hm.1.put d ?_⟩
 simp only [R]
 exact ⟨trivial,_,_,hl2,Nat.le_refl _,fun _ _=>⟨w.heap.size,0,rfl,by simp⟩,fun _ h=>by cases h⟩
theorem bCf (t:TypeId) (x:Operand) (hx:(s.ev x).fit s.o=true):Step P B ⟨dst,.box t x,ty,pos,after,gd⟩ s (s.box dst (s.ev x).cells):=
 nD fun G a w r=>by
  have h:=aH0 hx (r.ev x)
  exact ⟨_,_,by simp [execOp,Instr.box,aFa],r.boxed dst t h.2.1 h.1⟩
theorem aYl (t:TypeId) {z:List AV} (hz:zeroA P t=some z):Step P B ⟨dst,.alloc t,ty,pos,after,gd⟩ s (s.box dst z):=
 nD fun G a w r=>by
  unfold zeroA at hz
  cases hi:P.info? t with
  |none=>simp [hi] at hz
  |some i=>
   cases hv:i.zero with
   |none=>simp [hi,hv] at hz
   |some v=>
    simp only [hi,hv,Option.bind_some] at hz
    split at hz
    ·rename_i hall
     obtain rfl:=Option.some.inj hz
     refine ⟨_,_,by simp [execOp,Instr.alloc,zeroValue,typeInfo,hi,hv,aFa],r.boxed dst t (List.all_eq_true.1 hall) (aA4 w _ _ _)⟩
    ·cases hz
theorem aSm (t:TypeId) {z:List AV} {i:Nat} (hz:zeroA P t=some z) (hi':s.o[i]? =some ⟨true,false,z.length,0,[]⟩):Step P B ⟨dst,.alloc t,ty,pos,after,gd⟩ s (AS.put ⟨s.t,s.o.set i ⟨true,true,z.length,1,[z]⟩⟩ dst (.ptr i 1 0 0)):=
 nD fun G a w r=>by
  unfold zeroA at hz
  cases hi:P.info? t with
  |none=>simp [hi] at hz
  |some i=>
   cases hv:i.zero with
   |none=>simp [hi,hv] at hz
   |some v=>
    simp only [hi,hv,Option.bind_some] at hz
    split at hz
    ·rename_i hall
     obtain rfl:=Option.some.inj hz
     refine ⟨_,_,by simp [execOp,Instr.alloc,zeroValue,typeInfo,hi,hv,aFa],r.boxAt dst t hi' (List.all_eq_true.1 hall) (aA4 w _ _ _)⟩
    ·cases hz
theorem aJ2 {t:List AV} {o:List aA} {a:Act} {w:World} (ns:List Nat) (h:Rel B ⟨t,o⟩ a w):Rel B ⟨t,o++ns.map fun n=>⟨true,false,n,0,[]⟩⟩ a w:=by
 obtain ⟨G,r⟩:=h
 have:=r.add (ns.map fun n=>⟨true,false,n,0,[]⟩) (ns.map fun _=>⟨none,0,fun _=>False⟩) w (by simp) (Nat.le_refl _) (fun _ _=>rfl)
  (fun j ob g b hl _ hF=>by
   obtain ⟨_,h2⟩:=hl
   simp only [List.getElem?_map] at h2
   cases hn:ns[j]? with
   |none=>simp [hn] at h2
   |some n=>simp [hn] at h2;subst h2;exact hF.elim)
  (fun i j oi oj gi gj b hl _ _ _ hF _=>by
   obtain ⟨_,h2⟩:=hl
   simp only [List.getElem?_map] at h2
   cases hn:ns[i]? with
   |none=>simp [hn] at h2
   |some n=>simp [hn] at h2;subst h2;exact hF.elim)
  (fun k j ob g hl _=>by
   obtain ⟨h1,h2⟩:=hl
   simp only [List.getElem?_map] at h1 h2
   cases hn:ns[j]? with
   |none=>simp [hn] at h2
   |some n=>
    simp [hn] at h1 h2;subst h1;subst h2
    exact ⟨[],⟨by simp [maxLen],.inl ⟨rfl,rfl,rfl⟩⟩,by simp,by simp⟩) (by exact ⟨rfl,rfl,rfl⟩)
 exact ⟨_,this.1⟩
end
end Go.Aw

namespace Go.Aw
def dpf (i:Nat):Tg→Option Tg
 | .own=>some (.dep i)
 |g=>some g
theorem aXw {P:Program} [aB P] {B:Base P} {o:List aA} {G:List CO} {w:World} {i:Nat} {ob:aA} {g:CO} (hl:look o G i ob g) (hlive:ob.live=true) (box:Bool):
  iT (dpf i) true ((env B o G w).of box) (env B o G w) (fun b=>g.F b∧∀a,g.a=some a→b≠a.block) where
 own t e:=by
  obtain rfl:=Option.some.inj e
  exact ⟨by simp,fun b hb=>⟨ob,g,hl,hlive,hb.1,hb.2⟩⟩
 view t e:=by
  obtain rfl:=Option.some.inj e
  exact ⟨rfl,fun b hb=>by cases box<;>exact hb⟩
 dep j t e:=by
  obtain rfl:=Option.some.inj e
  refine ⟨by simp,?_,fun b hb=> ?_⟩
  ·by_cases h:(env B o G w).V j
   ·left;cases box
    ·trivial
    ·exact h
   ·right;exact h
  ·cases box
   ·exact hb.elim
   ·exact hb
 hh _ j v x h:=by cases box;exact h.elim;exact h
 hl _ j v k q x h:=by cases box;exact h.elim;exact h
theorem iO {o:List aA} {i ver:Nat} {ob:aA} (h:AV.isObj o i ver=some ob):o[i]? =some ob∧ob.live=true∧ob.ver=ver:=by
 unfold AV.isObj at h
 split at h
 ·rename_i x hx
  split at h
  ·rename_i hc
   obtain rfl:=Option.some.inj h
   exact ⟨hx,hc⟩
  ·cases h
 ·cases h
theorem bG.look {P:Program} [aB P] {B:Base P} {s:AS} {G:List CO} {a:Act} {w:World} (r:bG B s G a w) {i:Nat} {ob:aA} (h:s.o[i]? =some ob):∃g,look s.o G i ob g:=by
 have hi:i < G.length:=by rw [r.len];exact (List.getElem?_eq_some_iff.1 h).1
 exact ⟨G[i],h,List.getElem?_eq_getElem hi⟩
theorem bG.elem {P:Program} [aB P] {B:Base P} {s:AS} {G:List CO} {a:Act} {w:World} (r:bG B s G a w) {i idx:Nat} {ob:aA} {g:CO} {e:List AV} (hl:Aw.look s.o G i ob g) (hlive:ob.live=true) (he:ob.els[idx]? =some e):
  ∃b f cs,g.a=some ⟨b,f,none⟩∧cs.length=ob.n∧dE w b (f+idx * ob.n) cs∧(∀x∈cs,x.oneCell'=true)∧Rc w (env B s.o G w) (rtc (dpf i) true e) cs []:=by
 obtain ⟨fp,⟨_,h⟩,hnd,hF⟩:=r.ok i ob g hl hlive
 rcases h with ⟨h,_⟩|⟨b,f,C,ty,fz,fps,ha,hb,hz,h1,h2,h3,rfl,hr⟩
 ·rw [h] at he;simp at he
 obtain ⟨f1,f2,f3,cs,rfl,hn,hc,ho,hrc,_,_⟩:=vF hr he
 refine ⟨b,f,cs,ha,hn,hc,ho,?_⟩
 refine qB (aXw hl hlive ob.box) e cs f2 (fun x hx=>⟨hF x (by simp [hx]),fun a' ha'=> ?_⟩) hrc
 rw [ha] at ha'
 obtain rfl:=Option.some.inj ha'
 simp only [List.nodup_cons] at hnd
 rintro rfl
 exact hnd.1 (by simp [hx])
theorem aJm {w:World} {E:Env} {c:List AV} {cs:List Value} (off n:Nat) (h:Rc w E c cs []):Rc w E ((c.drop off).take n) ((cs.drop off).take n) []:=by
 obtain ⟨f1,f2,e,_,h2⟩:=oN off h
 obtain ⟨rfl,rfl⟩:f1=[]∧f2=[]:=by simpa using e.symm
 obtain ⟨f1,f2,e,h3,_⟩:=oN n h2
 obtain ⟨rfl,rfl⟩:f1=[]∧f2=[]:=by simpa using e.symm
 exact h3
theorem aB5 {cs:List Value} {off n:Nat} (ho:∀x∈cs,x.oneCell'=true):∀x∈(cs.drop off).take n,x.oneCell'=true:=
 fun x hx=>ho x (List.mem_of_mem_drop (List.mem_of_mem_take hx))
theorem dE.slice {w:World} {b off:Nat} {cs:List Value} (k n:Nat) (h:dE w b off cs):dE w b (off+k) ((cs.drop k).take n):=h.drop.take
theorem aAw (f:Tg→Option Tg) (h:Bool):∀c,(rtc f h c).length=c.length
 |[]=>rfl
 |_::xs=>by simp [rtc,aAw f h xs]
theorem rA {P:Program} {w:World} {t:TypeId} {b off k n:Nat} {cs:List Value} (ht:aggSize P t=some n) (hfit:k+n≤cs.length) (h:dE w b off cs):
  (Instr.loadAt t (.pointer (some ⟨b,off+k,none⟩))).run P w= .ok (.agg ((cs.drop k).take n).toArray) w:=by
 have hl:((cs.drop k).take n).length=n:=by simp;omega
 simpa [Instr.loadAt,Instr.sureAddr] using aQ2 (P:=P) (t:=t) (by rw [hl];exact ht) (h.slice k n)
theorem uY {P:Program} {w:World} {t:TypeId} {b off k:Nat} {cs:List Value} {v:Value} (ht:oneSize P t=true) (hv:cs[k]? =some v) (h:dE w b off cs):
  (Instr.loadAt t (.pointer (some ⟨b,off+k,none⟩))).run P w= .ok v w:=by
 have:(cs.drop k).take 1=[v]:=by
  obtain ⟨hk,rfl⟩:=List.getElem?_eq_some_iff.1 hv
  rw [List.drop_eq_getElem_cons hk,List.take_succ_cons,List.take_zero]
 have h1:=h.slice k 1
 rw [this] at h1
 simpa [Instr.loadAt,Instr.sureAddr] using aR2 (P:=P) (t:=t) ht h1
section
variable {P : Program} [aB P] {B : Base P} {s : AS} {dst : Option Tmp} {ty : TypeId} {pos : String} {after : Array Edge} {gd : Option (Nat × Bool)}
theorem bG.ptr {G:List CO} {a:Act} {w:World} (r:bG B s G a w) {x:Operand} {i ver idx off:Nat} {ob:aA} (hx:s.ev x= .ptr i ver idx off) (ho:AV.isObj s.o i ver=some ob):
  ∃g b f,Aw.look s.o G i ob g∧ob.live=true∧g.a=some ⟨b,f,none⟩∧a.eval x= .pointer (some ⟨b,f+(idx * ob.n+off),none⟩):=by
 have h:=r.ev x
 rw [hx] at h
 simp only [R] at h
 obtain ⟨_,ob',g,hl,_,hh,_⟩:=h
 obtain ⟨h1,h2,h3⟩:=iO ho
 obtain rfl:=Option.some.inj (hl.1.symm.trans h1)
 obtain ⟨b,f,ha,hv⟩:=hh h2 h3
 exact ⟨g,b,f,hl,h2,ha,hv⟩
theorem bG.pin {G:List CO} {a:Act} {w:World} (r:bG B s G a w) {x:Operand} {i ver idx off:Nat} {ob:aA} {g:CO} (hx:s.ev x= .ptr i ver idx off) (ho:AV.isObj s.o i ver=some ob) (hg:Aw.look s.o G i ob g):
  ob.box=true→ver=2→idx=0→off=0→∀y,B.p0 i=some y→a.eval x=y.1∧(ob.live=true→ob.ver=2→g.cap=y.2):=by
 have h:=r.ev x
 rw [hx] at h
 simp only [R] at h
 obtain ⟨_,ob',g',hl,_,_,hz⟩:=h
 obtain ⟨h1,h2,h3⟩:=iO ho
 obtain rfl:=Option.some.inj (hl.1.symm.trans h1)
 obtain rfl:=Option.some.inj (hl.2.symm.trans hg.2)
 exact hz
theorem aIg (t:TypeId) (x:Operand) {i ver idx off n:Nat} {ob:aA} {e:List AV} (hx:s.ev x= .ptr i ver idx off) (ho:AV.isObj s.o i ver=some ob) (he:ob.els[idx]? =some e)
  (hn:aggSize P t=some n) (hfit:off+n≤e.length):Step P B ⟨dst,.load t x,ty,pos,after,gd⟩ s (s.put dst (.agg ((rtc (dpf i) true e).drop off |>.take n))):=
 dF fun G a w r=>by
  obtain ⟨g,b,f,hl,hlive,ha,hv⟩:=r.ptr hx ho
  obtain ⟨b',f',cs,ha',hcn,hc,hone,hrc⟩:=r.elem hl hlive he
  rw [ha] at ha'
  simp only [Option.some.injEq,Addr.mk.injEq,and_true] at ha'
  obtain ⟨rfl,rfl⟩:=ha'
  have hle:=dZ hrc
  rw [aAw] at hle
  refine ⟨.agg ((cs.drop off).take n).toArray,?_,?_⟩
  ·simp only [execOp,hv,←Nat.add_assoc]
   simp [rA (P:=P) (k:=off) (n:=n) (cs:=cs) hn (by omega) hc]
  ·simp only [R]
   exact ⟨_,rfl,aB5 hone,aJm off n hrc⟩
theorem aIc (t:TypeId) (x:Operand) {i ver idx off:Nat} {ob:aA} {e:List AV} {y:AV} (hx:s.ev x= .ptr i ver idx off) (ho:AV.isObj s.o i ver=some ob) (he:ob.els[idx]? =some e)
  (hn:oneSize P t=true) (hy:(rtc (dpf i) true e)[off]? =some y):Step P B ⟨dst,.load t x,ty,pos,after,gd⟩ s (s.put dst y):=
 dF fun G a w r=>by
  obtain ⟨g,b,f,hl,hlive,ha,hv⟩:=r.ptr hx ho
  obtain ⟨b',f',cs,ha',hcn,hc,hone,hrc⟩:=r.elem hl hlive he
  rw [ha] at ha'
  simp only [Option.some.injEq,Addr.mk.injEq,and_true] at ha'
  obtain ⟨rfl,rfl⟩:=ha'
  obtain ⟨v,hv',hR⟩:=aDl hrc hy
  refine ⟨v,?_,hR⟩
  simp only [execOp,hv,←Nat.add_assoc]
  simp [uY (P:=P) hn hv' hc]
theorem bG.vptr {G:List CO} {a:Act} {w:World} (r:bG B s G a w) {x:Operand} {g:Tg} {c:List AV} {off:Nat} (hx:s.ev x= .vptr g c off) (hf:(AV.vptr g c off).fit s.o=true):
  ∃b o cs,a.eval x= .pointer (some ⟨b,o+off,none⟩)∧dE w b o cs∧(∀x∈cs,x.oneCell'=true)∧Rc w (env B s.o G w) c cs []:=by
 have h:=r.ev x
 rw [hx] at h
 simp only [R] at h
 rcases h with ⟨hd,_⟩|⟨_,b,o,cs,hv,ht,hcs,hc,hr⟩
 ·cases g with
  |own=>exact hd.elim
  |view=>exact hd.elim
  |dep i=>
   simp only [AV.fit] at hf
   exfalso
   refine hd (fun ob hob=> ?_)
   simpa [hob] using hf
 ·refine ⟨b,o,cs,hv,hcs,hc,dI (w':=w) (E':=env B s.o G w) ?_ _ _ _ (by simp) hr⟩
  cases g with
  |own=>exact ht.elim
  |view=>exact ⟨fun _ h=>⟨h,rfl⟩,fun _ _=>trivial,fun _ _ _ h=>h.elim,fun _ _ _ h=>h.elim,fun _ _ _ _ _ h=>h.elim⟩
  |dep i=>exact ⟨fun _ h=>⟨h,rfl⟩,fun _ _=>trivial,fun j b _ h=>⟨by obtain ⟨rfl,h⟩:=h;exact h,rfl⟩,fun _ _ _ h=>h.elim,fun _ _ _ _ _ h=>h.elim⟩
theorem aGb (t:TypeId) (x:Operand) {g:Tg} {c:List AV} {off n:Nat} (hx:s.ev x= .vptr g c off) (hf:(AV.vptr g c off).fit s.o=true)
  (hn:aggSize P t=some n) (hfit:off+n≤c.length):Step P B ⟨dst,.load t x,ty,pos,after,gd⟩ s (s.put dst (.agg (c.drop off |>.take n))):=
 dF fun G a w r=>by
  obtain ⟨b,o,cs,hv,hc,hone,hrc⟩:=r.vptr hx hf
  have hle:=dZ hrc
  refine ⟨.agg ((cs.drop off).take n).toArray,?_,?_⟩
  ·simp only [execOp,hv]
   simp [rA (P:=P) (k:=off) (n:=n) (cs:=cs) hn (by omega) hc]
  ·simp only [R]
   exact ⟨_,rfl,aB5 hone,aJm off n hrc⟩
theorem aF2 (t:TypeId) (x:Operand) {g:Tg} {c:List AV} {off:Nat} {y:AV} (hx:s.ev x= .vptr g c off) (hf:(AV.vptr g c off).fit s.o=true)
  (hn:oneSize P t=true) (hy:c[off]? =some y):Step P B ⟨dst,.load t x,ty,pos,after,gd⟩ s (s.put dst y):=
 dF fun G a w r=>by
  obtain ⟨b,o,cs,hv,hc,hone,hrc⟩:=r.vptr hx hf
  obtain ⟨v,hv',hR⟩:=aDl hrc hy
  refine ⟨v,?_,hR⟩
  simp only [execOp,hv]
  simp [uY (P:=P) hn hv' hc]
theorem aI7 {t:TypeId} {f fo:Nat} (h:fieldA P t f=some fo) (w:World) (b o:Nat):(Instr.fieldAt t (.pointer (some ⟨b,o,none⟩)) f).run P w= .ok (.pointer (some ⟨b,o+fo,none⟩)) w:=by
 unfold fieldA at h
 split at h
 ·rename_i fs hu
  split at h
  ·rename_i fd hfd
   split at h
   ·rename_i inf hi
    split at h
    ·cases h
    ·rename_i hz
     obtain rfl:=Option.some.inj h
     simp [Instr.fieldAt,run_underlying hu,hfd,Instr.sureAddr,fieldPlace,sizeOf,typeInfo,hi,hz,addr_add]
   ·cases h
  ·cases h
 ·cases h
theorem aM5 (t:TypeId) (x:Operand) (f:Nat) {i ver idx off fo:Nat} {ob:aA} (hx:s.ev x= .ptr i ver idx off) (ho:AV.isObj s.o i ver=some ob) (hf:fieldA P t f=some fo):
  Step P B ⟨dst,.fieldAddr t x f,ty,pos,after,gd⟩ s (s.put dst (.ptr i ver idx (off+fo))):=
 dF fun G a w r=>by
  obtain ⟨g,b,k,hl,hlive,ha,hv⟩:=r.ptr hx ho
  refine ⟨.pointer (some ⟨b,k+(idx * ob.n+(off+fo)),none⟩),?_,?_⟩
  ·simp only [execOp,hv]
   simp [aI7 hf,Nat.add_assoc]
  ·simp only [R]
   obtain ⟨h1,h2,h3⟩:=iO ho
   refine ⟨trivial,ob,g,hl,Nat.le_of_eq h3.symm,fun _ _=>⟨b,k,ha,rfl⟩,fun e1 e2 e3 e4 y hy=> ?_⟩
   have h0:off=0:=by omega
   have h0':fo=0:=by omega
   have:=r.pin hx ho hl e1 e2 e3 h0 y hy
   exact ⟨by rw [←this.1,hv,h0,h0'],this.2⟩
theorem aKc (t:TypeId) (x:Operand) (f:Nat) {g:Tg} {c:List AV} {off fo:Nat} (hx:s.ev x= .vptr g c off) (hfit:(AV.vptr g c off).fit s.o=true) (hf:fieldA P t f=some fo):
  Step P B ⟨dst,.fieldAddr t x f,ty,pos,after,gd⟩ s (s.put dst (.vptr g c (off+fo))):=
 dF fun G a w r=>by
  obtain ⟨b,o,cs,hv,hc,hone,hrc⟩:=r.vptr hx hfit
  refine ⟨.pointer (some ⟨b,o+(off+fo),none⟩),?_,?_⟩
  ·simp only [execOp,hv]
   simp [aI7 hf,Nat.add_assoc]
  ·have h:=r.ev x
   rw [hx] at h
   simp only [R] at h⊢
   rcases h with h|⟨h1,b',o',cs',hv',ht,hcs,hc',hr⟩
   ·exact .inl ⟨h.1,trivial⟩
   ·rw [hv] at hv'
    simp only [Value.pointer.injEq,Option.some.injEq,Addr.mk.injEq,and_true] at hv'
    refine .inr ⟨trivial,b',o',cs',?_,ht,hcs,hc',hr⟩
    obtain ⟨rfl,h2⟩:=hv'
    simp only [Value.pointer.injEq,Option.some.injEq,Addr.mk.injEq,and_true,true_and]
    omega
end
end Go.Aw

namespace Go.Aw
def Rv (w:World) (E:Env):List (List AV)→List Value→Nat→List Nat→Prop
 |[],vs,_,fp=>vs=[]∧fp=[]
 |e::es,vs,n,fp=>∃cs rest f1 f2,vs=cs++rest∧cs.length=n∧(∀x∈cs,x.oneCell'=true)∧Rc w E e cs f1∧Rv w E es rest n f2∧fp=f1++f2
theorem dE.append {w:World} {b off:Nat} {c1 c2:List Value}:dE w b off (c1++c2)↔dE w b off c1∧dE w b (off+c1.length) c2:=by
 constructor
 ·intro h
  refine ⟨fun j v hv=>h j v ?_,fun j v hv=> ?_⟩
  ·rw [List.getElem?_append_left (List.getElem?_eq_some_iff.1 hv).1];exact hv
  ·have:=h (c1.length+j) v (by rw [List.getElem?_append_right (by omega)];simpa using hv)
   rwa [←Nat.add_assoc] at this
 ·rintro ⟨h1,h2⟩ j v hv
  by_cases hj:j < c1.length
  ·rw [List.getElem?_append_left hj] at hv;exact h1 j v hv
  ·rw [List.getElem?_append_right (by omega)] at hv
   have:=h2 _ v hv
   rwa [show off+c1.length+(j - c1.length)=off+j by omega] at this
theorem qA {w:World} {E:Env} {b n:Nat}:∀{l:List (List AV)} {off:Nat} {fp:List Nat},Rr w E l b off n fp↔∃vs,Rv w E l vs n fp∧dE w b off vs
 |[],off,fp=>by
  simp only [Rr,Rv]
  exact ⟨fun h=>⟨[],⟨rfl,h⟩,fun j v hv=>by simp at hv⟩,fun ⟨_,h,_⟩=>h.2⟩
 |e::es,off,fp=>by
  simp only [Rr,Rv,qA (l:=es)]
  constructor
  ·rintro ⟨cs,f1,f2,hn,hc,ho,h1,⟨vs,h2,h3⟩,rfl⟩
   refine ⟨cs++vs,⟨cs,vs,f1,f2,rfl,hn,ho,h1,h2,rfl⟩,dE.append.2 ⟨hc,by rw [hn];exact h3⟩⟩
  ·rintro ⟨_,⟨cs,vs,f1,f2,rfl,hn,ho,h1,h2,rfl⟩,h3⟩
   have:=dE.append.1 h3
   exact ⟨cs,f1,f2,hn,this.1,ho,h1,⟨vs,h2,by rw [←hn];exact this.2⟩,rfl⟩
theorem jY {w:World} {E:Env} {n:Nat}:∀{l:List (List AV)} {vs:List Value} {fp:List Nat},Rv w E l vs n fp→vs.length=l.length * n
 |[],_,_,h=>by simp only [Rv] at h;simp [h.1]
 |_::es,_,_,h=>by
  simp only [Rv] at h
  obtain ⟨cs,rest,f1,f2,rfl,hn,_,_,h2,_⟩:=h
  simp [jY h2,hn,Nat.add_mul,Nat.add_comm]
theorem bAq {w:World} {E:Env} {n:Nat}:∀{l:List (List AV)} {vs:List Value} {fp:List Nat},Rv w E l vs n fp→∀x∈vs,x.oneCell'=true
 |[],_,_,h,x,hx=>by simp only [Rv] at h;simp [h.1] at hx
 |_::es,_,_,h,x,hx=>by
  simp only [Rv] at h
  obtain ⟨cs,rest,f1,f2,rfl,_,ho,_,h2,_⟩:=h
  rcases List.mem_append.1 hx with h|h
  ·exact ho x h
  ·exact bAq h2 x h
theorem aG8 {w:World} {E:Env} {n:Nat} {l2:List (List AV)} {v2:List Value} {g2:List Nat} (h':Rv w E l2 v2 n g2):∀{l:List (List AV)} {vs:List Value} {fp:List Nat},Rv w E l vs n fp→Rv w E (l++l2) (vs++v2) n (fp++g2)
 |[],_,_,h=>by simp only [Rv] at h;obtain ⟨rfl,rfl⟩:=h;simpa using h'
 |_::es,_,_,h=>by
  simp only [Rv] at h
  obtain ⟨cs,rest,f1,f2,rfl,hn,ho,h1,h2,rfl⟩:=h
  simp only [List.cons_append,Rv]
  exact ⟨cs,rest++v2,f1,f2++g2,by simp,hn,ho,h1,aG8 h' h2,by simp⟩
theorem qU {w w':World} {E E':Env} (k:bP w E w' E') {n:Nat}:∀{l:List (List AV)} {vs:List Value} {fp:List Nat},(∀b∈fp,w'.heap[b]? =w.heap[b]?)→Rv w E l vs n fp→Rv w' E' l vs n fp
 |[],_,_,_,h=>by simpa [Rv] using h
 |_::es,_,_,hf,h=>by
  simp only [Rv] at h⊢
  obtain ⟨cs,rest,f1,f2,rfl,hn,ho,h1,h2,rfl⟩:=h
  exact ⟨cs,rest,f1,f2,rfl,hn,ho,dI k _ _ _ (fun x hx=>hf x (by simp [hx])) h1,qU k (fun x hx=>hf x (by simp [hx])) h2,rfl⟩
theorem aXt {P:Program} {w:World} {tS xT ty e:TypeId} {i:TypeInfo} {z:Value} (ht:P.underlying tS=some (.slice e)) (hxt:∃d,P.underlying xT=some d∧∀k,d≠ .int k) (hi:P.info? e=some i) (hz:i.zero=some z)
  {base:Option Addr} {sLen sCap n:Nat} {x:Value} (hlen:(Builtin.lenOf x).run P w= .ok n w) {news olds:List Value}
  (hnews:∀w',w'.heap=w.heap→(Builtin.firstCells i.size n x).run P w'= .ok news.toArray w')
  (holds:∀w',w'.heap=w.heap→(Builtin.firstCells i.size sLen (.slice base sLen sCap)).run P w'= .ok olds.toArray w')
  (hbytes:(sLen+n) * i.bytes≤140737488355328) (h63:sLen+n≤9223372036854775807):
  (sLen+n≤sCap→∀w1,(match base with
    |some a=>(storeCells (a.add (sLen * i.size)) news).run P w= .ok () w1
    |none=>w1=w)→(Builtin.append_ #[tS,xT] ty #[.slice base sLen sCap,x]).run P w= .ok (.slice base (sLen+n) sCap) w1)∧
  (sCap < sLen+n→(Builtin.append_ #[tS,xT] ty #[.slice base sLen sCap,x]).run P w=
   .ok (.slice (some ⟨w.heap.size,0,none⟩) (sLen+n) (grownCap w (sLen+n) sCap e)) (w.drew.alloc (.cells (olds.toArray++news.toArray++Builtin.zeroCells z.cells (grownCap w (sLen+n) sCap e - (sLen+n))) e))):=by
 obtain ⟨d,hd,hdi⟩:=hxt
 constructor
 ·intro hroom w1 h1
  have hn:=hnews w rfl
  cases base with
  |none=>
   simp only at h1
   subst h1
   simp [Builtin.append_,run_underlying ht,run_underlying hd,sizeOf,typeInfo,hi,hlen,hroom,hn]
  |some a=>
   simp only at h1
   simp [Builtin.append_,run_underlying ht,run_underlying hd,sizeOf,typeInfo,hi,hlen,hroom,hn,h1]
 ·intro hg
  have hnr:¬(sLen+n≤sCap):=by omega
  have h63':¬(9223372036854775807 < ((sLen:Int)+(n:Int))):=by omega
  have hfit:=growslice_fits hg hbytes
  have h48':¬(281474976710656 < Builtin.nextslicecap (sLen+n) sCap * i.bytes):=by omega
  have hn:=hnews w.drew rfl
  have ho:=holds w.drew rfl
  simp [Builtin.append_,run_underlying ht,run_underlying hd,sizeOf,typeInfo,zeroValue,hi,hz,hlen,hnr,h63',h48',Question.forced,hn,ho,newRow,grownCap]
  rw [←List.append_toArray,Array.append_assoc]
def aA.kill (ob:aA):aA:={ob with live:=false}
theorem bG.transfer {P:Program} [aB P] {B:Base P} {s:AS} {G:List CO} {a:Act} {w:World} (r:bG B s G a w) {i j:Nat} (hij:i≠j) {oi oj:aA} {gi gj:CO} (hi:Aw.look s.o G i oi gi) (hj:Aw.look s.o G j oj gj) (hil:oi.live=true) (hjl:oj.live=true):
  bG B ⟨s.t,s.o.set j oj.kill⟩ (G.set i {gi with F:=fun b=>gi.F b∨gj.F b}) a w∧bP w (env B s.o G w) w (env B (s.o.set j oj.kill) (G.set i {gi with F:=fun b=>gi.F b∨gj.F b}) w):=by
 have hii:Aw.look (s.o.set j oj.kill) (G.set i {gi with F:=fun b=>gi.F b∨gj.F b}) i oi {gi with F:=fun b=>gi.F b∨gj.F b}:=by
  refine ⟨by rw [List.getElem?_set_ne (Ne.symm hij)];exact hi.1,?_⟩
  have:=(List.getElem?_eq_some_iff.1 hi.2).1
  simp [this]
 have hjj:Aw.look (s.o.set j oj.kill) (G.set i {gi with F:=fun b=>gi.F b∨gj.F b}) j oj.kill gj:=by
  refine ⟨?_,by rw [List.getElem?_set_ne hij];exact hj.2⟩
  have:=(List.getElem?_eq_some_iff.1 hj.1).1
  simp [this]
 have back:∀{k x y},Aw.look (s.o.set j oj.kill) (G.set i {gi with F:=fun b=>gi.F b∨gj.F b}) k x y→x.live=true→
   k≠j∧((k=i∧x=oi∧y={gi with F:=fun b=>gi.F b∨gj.F b})∨(k≠i∧Aw.look s.o G k x y)):=by
  intro k x y h hx
  by_cases hk:k=j
  ·subst hk
   have:=(gL h hjj).1
   subst this
   exact absurd hx (by simp [aA.kill])
  ·refine ⟨hk,?_⟩
   by_cases hki:k=i
   ·subst hki
    exact .inl ⟨rfl,gL h hii⟩
   ·refine .inr ⟨hki,?_,?_⟩
    ·have:=h.1;rwa [List.getElem?_set_ne (Ne.symm hk)] at this
    ·have:=h.2;rwa [List.getElem?_set_ne (Ne.symm hki)] at this
 have fwd:∀{k x y},k≠i→k≠j→Aw.look s.o G k x y→Aw.look (s.o.set j oj.kill) (G.set i {gi with F:=fun b=>gi.F b∨gj.F b}) k x y:=by
  intro k x y h1 h2 h
  exact ⟨by rw [List.getElem?_set_ne (Ne.symm h2)];exact h.1,by rw [List.getElem?_set_ne (Ne.symm h1)];exact h.2⟩
 have k:bP w (env B s.o G w) w (env B (s.o.set j oj.kill) (G.set i {gi with F:=fun b=>gi.F b∨gj.F b}) w):=by
  refine wD (Nat.le_refl _) (fun b hb=>⟨lX r hb,rfl⟩) r.len ?_ ?_
  ·intro k x y h
   by_cases hk:k=j
   ·subst hk
    obtain ⟨rfl,rfl⟩:=gL hj h
    exact ⟨_,_,hjj,Nat.le_refl _,fun h=> .inl h,fun hf=>absurd hf (by simp [aA.kill])⟩
   ·by_cases hki:k=i
    ·subst hki
     obtain ⟨rfl,rfl⟩:=gL hi h
     exact ⟨_,_,hii,Nat.le_refl _,fun h=> .inl h,fun _=>⟨hil,rfl,fun _=>⟨rfl,rfl,rfl⟩,fun b hb hne=>⟨.inl hb,hne,rfl⟩⟩⟩
    ·exact ⟨x,y,fwd hki hk h,Nat.le_refl _,fun h=> .inl h,fun hx=>⟨hx,rfl,fun _=>⟨rfl,rfl,rfl⟩,fun b hb hne=>⟨hb,hne,rfl⟩⟩⟩
  ·intro k x y b h hx hf
   obtain ⟨_,⟨rfl,rfl,rfl⟩|⟨_,h'⟩⟩:=back h hx
   ·rcases hf with hf|hf
    ·exact .inr ⟨_,_,_,hi,hil,hf⟩
    ·exact .inr ⟨_,_,_,hj,hjl,hf⟩
   ·exact .inr ⟨_,_,_,h',hx,hf⟩
 refine ⟨r.next k (by simp [r.len]) ?_ ?_ ?_ (Nat.le_refl _) (fun _ _ _=>rfl),k⟩
 ·intro k' x y h hx
  obtain ⟨_,⟨rfl,rfl,rfl⟩|⟨_,h'⟩⟩:=back h hx
  ·obtain ⟨fp,h1,h2,h3⟩:=(r.ok _ _ _ hi hil).keeps k (fun _ _=>rfl)
   exact ⟨fp,h1,h2,fun b hb=> .inl (h3 b hb)⟩
  ·exact (r.ok _ _ _ h' hx).keeps k (fun _ _=>rfl)
 ·intro k1 k2 x1 x2 y1 y2 b h1 h2 hx1 hx2 hf1 hf2
  obtain ⟨n1,⟨rfl,rfl,rfl⟩|⟨m1,h1'⟩⟩:=back h1 hx1<;>obtain ⟨n2,⟨rfl,rfl,rfl⟩|⟨m2,h2'⟩⟩:=back h2 hx2
  ·rfl
  ·rcases hf1 with hf1|hf1
   ·exact r.apart _ _ _ _ _ _ b hi h2' hil hx2 hf1 hf2
   ·exact absurd (r.apart _ _ _ _ _ _ b hj h2' hjl hx2 hf1 hf2).symm n2
  ·rcases hf2 with hf2|hf2
   ·exact r.apart _ _ _ _ _ _ b h1' hi hx1 hil hf1 hf2
   ·exact absurd (r.apart _ _ _ _ _ _ b h1' hj hx1 hjl hf1 hf2) n1
  ·exact r.apart _ _ _ _ _ _ b h1' h2' hx1 hx2 hf1 hf2
 ·intro k' x y b h hx hf
  obtain ⟨_,⟨rfl,rfl,rfl⟩|⟨_,h'⟩⟩:=back h hx
  ·rcases hf with hf|hf
   ·exact r.fresh _ _ _ b hi hil hf
   ·exact r.fresh _ _ _ b hj hjl hf
  ·exact r.fresh _ _ _ b h' hx hf
end Go.Aw

namespace Go.Aw
theorem qI {w:World} {b off:Nat} {C:Array Value} {e:TypeId} {fz:Nat×Nat} {vs:List Value} (hb:w.heap[b]? =some (.cells C e fz)) (h:∀j v,vs[j]? =some v→C[off+j]? =some v):dE w b off vs:=by
 intro j v hv
 simp [World.cell?,hb,h j v hv]
theorem rQ {P:Program} {w:World} {b off m n len cap:Nat} {vs:List Value} (hn:vs.length=m * n) (h:dE w b off vs):
  (Builtin.firstCells n m (.slice (some ⟨b,off,none⟩) len cap)).run P w= .ok vs.toArray w:=
 run_firstCells_some w n m _ len cap vs hn (fun j v hv=>by rw [addr_add];exact h j v hv)
theorem dE.heap {w w':World} {b off:Nat} {vs:List Value} (h:dE w b off vs) (hh:w'.heap=w.heap):dE w' b off vs:=h.same (by rw [hh])
theorem bG.append {P:Program} [aB P] {B:Base P} {s:AS} {G:List CO} {a:Act} {w:World} (r:bG B s G a w) {i:Nat} {ob:aA} {g:CO} (hl:Aw.look s.o G i ob g) (hlive:ob.live=true) (hbox:ob.box=false)
  {tS xT ty e:TypeId} {inf:TypeInfo} {z:Value} (ht:P.underlying tS=some (.slice e)) (hxt:∃d,P.underlying xT=some d∧∀k,d≠ .int k) (hi:P.info? e=some inf) (hz:inf.zero=some z) (hsz:inf.size=ob.n) (hzs:z.cells.size=ob.n)
  {x:Value} {l2:List (List AV)} {news:List Value} {fp fp2:List Nat} (hlen:(Builtin.lenOf x).run P w= .ok l2.length w)
  (hnews:∀w',w'.heap=w.heap→(Builtin.firstCells ob.n l2.length x).run P w'= .ok news.toArray w')
  (hrv:Rv w (env B s.o G w).plain l2 news ob.n fp2) (hown:kX w (env B s.o G w).plain ob.n ob.els g.a g.cap fp) (hnd:(fp++fp2).Nodup) (hF:∀b∈fp++fp2,g.F b)
  (hbytes:(ob.els.length+l2.length) * inf.bytes≤140737488355328) (h63:ob.els.length+l2.length≤9223372036854775807):
  ∃v w' G',(Builtin.append_ #[tS,xT] ty #[.slice g.a ob.els.length g.cap,x]).run P w= .ok v w'∧
   bG B ⟨s.t,s.o.set i {ob with ver:=ob.ver+1,els:=ob.els++l2}⟩ G' a w'∧
   R w' (env B (s.o.set i {ob with ver:=ob.ver+1,els:=ob.els++l2}) G' w') (.obj i (ob.ver+1)) v []:=by
 obtain ⟨olds,hro,hold⟩:∃olds,Rv w (env B s.o G w).plain ob.els olds ob.n fp.tail∧
   ∀w',w'.heap=w.heap→(Builtin.firstCells inf.size ob.els.length (.slice g.a ob.els.length g.cap)).run P w'= .ok olds.toArray w':=by
  rcases hown.2 with ⟨h1,h2,h3⟩|⟨b,off,C,ety,fz,fps,ha,hb,hz',h1,h2,h3,rfl,hr⟩
  ·subst h3
   refine ⟨[],by simp [h1,Rv],fun w' hw'=> ?_⟩
   rw [h1]
   cases hga:g.a with
   |none=>simp [Builtin.firstCells]
   |some a'=>simp [Builtin.firstCells,loadCells,loadCellsFrom]
  ·obtain ⟨vs,hv,hc⟩:=qA.1 hr
   refine ⟨vs,hv,fun w' hw'=> ?_⟩
   rw [ha,hsz]
   exact rQ (jY hv) (hc.heap hw')
 obtain ⟨hroom,hgrow⟩:=aXt (P:=P) (w:=w) (tS:=tS) (xT:=xT) (ty:=ty) ht hxt hi hz (base:=g.a) (sLen:=ob.els.length) (sCap:=g.cap) (x:=x) hlen (by rw [hsz];exact hnews) hold hbytes h63
 have hR:∀{w':World} {G':List CO} {g':CO},G'[i]? =some g'→(s.o[i]? =some ob)→R w' (env B (s.o.set i {ob with ver:=ob.ver+1,els:=ob.els++l2}) G' w') (.obj i (ob.ver+1)) (.slice g'.a (ob.els.length+l2.length) g'.cap) []:=by
  intro w' G' g' hg' ho
  simp only [R]
  refine ⟨trivial,{ob with ver:=ob.ver+1,els:=ob.els++l2},g',⟨?_,hg'⟩,Nat.le_refl _,⟨fun _ _=>by simp,fun h=>by omega⟩⟩
  have:=(List.getElem?_eq_some_iff.1 ho).1
  simp [this]
 have hiG:i < G.length:=(List.getElem?_eq_some_iff.1 hl.2).1
 by_cases hcase:ob.els.length+l2.length≤g.cap
 ·-- in place
  rcases hown.2 with ⟨h1,h2,h3⟩|⟨b,off,C,ety,fz,fps,ha,hb,hz',h1,h2,h3,rfl,hr⟩
  ·-- nothing to append,no capacity
   have hl2:l2=[]:=List.eq_nil_of_length_eq_zero (by omega)
   subst hl2
   have hnw:news=[]:=List.eq_nil_of_length_eq_zero (by simpa using jY hrv)
   subst hnw
   have hrun:=hroom hcase w (by cases g.a<;>simp [storeCells])
   have hm:=r.modify hl hlive {ob with ver:=ob.ver+1,els:=ob.els++[]} g w (by simp) rfl (by simp) (fun b hb=> .inl hb) (fun b hb hne=>⟨hb,hne⟩) (fun _ _ _=>rfl) (Nat.le_refl _) (fun k _=>by
    refine ⟨fp,?_,(List.nodup_append.1 hnd).1,fun b hb=>hF b (by simp [hb])⟩
    generalize env B (s.o.set i {ob with ver:=ob.ver+1,els:=ob.els++[]}) (G.set i g) w=E' at k⊢
    have h5:=hown.keeps k.plain (fun _ _=>rfl)
    simpa [hbox,Env.of] using h5)
   refine ⟨_,w,_,hrun,hm.1,?_⟩
   exact hR (by simp [hiG]) hl.1
  ·have hnl:=jY hrv
   have hol:=jY hro
   have hfit:off+ob.els.length * ob.n+news.length≤C.size:=by
    rw [hnl,Nat.add_assoc,←Nat.add_mul]
    exact Nat.le_trans (Nat.add_le_add_left (Nat.mul_le_mul_right _ hcase) _) h1
   have hst:=xN (P:=P) hb hz' hfit (bAq hrv)
   have hrun:=hroom hcase (w.setCells b (off+ob.els.length * ob.n) news) (by rw [ha,hsz];simpa [addr_add] using hst)
   have hbF:g.F b:=hF b (by simp)
   have hother:∀b',b'≠b→(w.setCells b (off+ob.els.length * ob.n) news).heap[b']? =w.heap[b']?:=fun b' hne=>heap_setCells b b' hne _ _ _
   obtain ⟨C',hC',hCs⟩:=uX b ety fz news (off+ob.els.length * ob.n) w C hb
   have hm:=r.modify hl hlive {ob with ver:=ob.ver+1,els:=ob.els++l2} g (w.setCells b (off+ob.els.length * ob.n) news) (by simp) rfl (by simp) (fun b hb=> .inl hb) (fun b hb hne=>⟨hb,hne⟩)
    (fun b' hlt hne=>hother b' (fun e=>hne ⟨e▸hbF,⟨b,off,none⟩,ha,e⟩)) (by rw [size_setCells];exact Nat.le_refl _) (fun k _=>by
    have hnd':(b::fps++fp2).Nodup:=hnd
    simp only [List.cons_append,List.nodup_cons,List.mem_append,not_or] at hnd'
    refine ⟨b::(fps++fp2),?_,by simpa using hnd,fun b' hb'=>hF b' (by simpa using hb')⟩
    generalize env B (s.o.set i {ob with ver:=ob.ver+1,els:=ob.els++l2}) (G.set i g) (w.setCells b (off+ob.els.length * ob.n) news)=E' at k⊢
    simp only [hbox,Env.of,Bool.false_eq_true,if_false]
    refine ⟨by simp [maxLen];omega,.inr ⟨b,off,C',ety,fz,fps++fp2,ha,hC',by rw [hCs];exact hz',by rw [hCs];exact h1,by simpa using hcase,h3,rfl,?_⟩⟩
    refine qA.2 ⟨olds++news,?_,dE.append.2 ⟨?_,?_⟩⟩
    ·refine aG8 (qU k.plain (fun b' hb'=>hother b' (fun e=>hnd'.1.2 (e▸hb'))) hrv) (qU k.plain (fun b' hb'=>hother b' (fun e=>hnd'.1.1 (e▸hb'))) hro)
    ·obtain ⟨vs,hv,hc⟩:=qA.1 hr
     have hov:olds=vs:=by
      have e1:=hold w rfl
      rw [ha,hsz,rQ (jY hv) hc] at e1
      simpa using e1.symm
     subst hov
     intro j v hv
     rw [World.cell?_setCells_out]
     ·exact hc j v hv
     ·intro _ _
      have:j < olds.length:=(List.getElem?_eq_some_iff.1 hv).1
      left;simp only;omega
    ·intro j v hv
     have hj:j < news.length:=(List.getElem?_eq_some_iff.1 hv).1
     rw [hol]
     have:=World.cell?_setCells_in b news (off+ob.els.length * ob.n) w (fun j hj=>by
      have:off+ob.els.length * ob.n+j < C.size:=by omega
      simp [World.cell?,hb,this]) j hj
     rw [this]
     rw [List.getElem?_eq_getElem hj] at hv
     exact hv)
   refine ⟨_,_,_,hrun,hm.1,?_⟩
   exact hR (by simp [hiG]) hl.1
 ·-- a new array
  have hrun:=hgrow (by omega)
  generalize hcap:grownCap w (ob.els.length+l2.length) g.cap e=cap' at hrun
  have hcge:ob.els.length+l2.length≤cap':=by rw [←hcap];exact grownCap_ge _ _ _ _
  have hcle:cap'≤maxLen:=by rw [←hcap];exact grownCap_le_maxLen _ _ _ _ (by simp [maxLen];omega)
  generalize hCd:olds.toArray++news.toArray++Builtin.zeroCells z.cells (cap' - (ob.els.length+l2.length))=C at hrun
  have hsame:∀b',b' < w.heap.size→(w.drew.alloc (.cells C e)).heap[b']? =w.heap[b']?:=fun b' hlt=>heap_alloc w.drew _ b' hlt
  have hself:(w.drew.alloc (.cells C e)).heap[w.heap.size]? =some (.cells C e):=jP w.drew _
  have hol:=jY hro
  have hnl:=jY hrv
  have hCsz:C.size=cap' * ob.n:=by
   rw [←hCd]
   simp only [Array.size_append,List.size_toArray,size_zeroCells,hzs,hol,hnl,←Nat.add_mul]
   congr 1;omega
  have hm:=r.modify hl hlive {ob with ver:=ob.ver+1,els:=ob.els++l2} ⟨some ⟨w.heap.size,0,none⟩,cap',fun b=>g.F b∨b=w.heap.size⟩ (w.drew.alloc (.cells C e)) (by simp) rfl (by simp)
   (fun b hb=>by
    rcases hb with hb|hb
    ·exact .inl hb
    ·right;subst hb;simp) (fun b hb hne=>⟨.inl hb,fun a' ha'=>by
     obtain rfl:=Option.some.inj ha'
     have:=(r.fresh _ _ _ b hl hlive hb).2
     simp only;omega⟩) (fun b hlt _=>hsame b hlt) (by simp) (fun k _=>by
   have hfpl:∀b∈fp++fp2,b < w.heap.size:=fun b hb=>(r.fresh _ _ _ b hl hlive (hF b hb)).2
   have hsub:∀b∈fp.tail,b∈fp:=fun b hb=>List.mem_of_mem_tail hb
   have hsubl:(fp.tail++fp2).Nodup:=by
    cases fp with
    |nil=>exact hnd
    |cons c t=>simp only [List.cons_append,List.nodup_cons] at hnd;exact hnd.2
   refine ⟨w.heap.size::(fp.tail++fp2),?_,?_,?_⟩
   ·generalize env B (s.o.set i {ob with ver:=ob.ver+1,els:=ob.els++l2}) (G.set i ⟨some ⟨w.heap.size,0,none⟩,cap',fun b=>g.F b∨b=w.heap.size⟩) (w.drew.alloc (.cells C e))=E' at k⊢
    simp only [hbox,Env.of,Bool.false_eq_true,if_false]
    refine ⟨by simp [maxLen];omega,.inr ⟨w.heap.size,0,C,e,(0,0),_,rfl,hself,.inr rfl,by simp [hCsz],by simpa using hcge,hcle,rfl,?_⟩⟩
    refine qA.2 ⟨olds++news,aG8 (qU k.plain (fun b' hb'=>hsame b' (hfpl b' (by simp [hb']))) hrv) (qU k.plain (fun b' hb'=>hsame b' (hfpl b' (List.mem_append_left _ (hsub b' hb')))) hro),?_⟩
    refine qI hself (fun j v hv=> ?_)
    rw [←hCd,show olds.toArray++news.toArray=(olds++news).toArray by simp,Nat.zero_add,Array.getElem?_append_left (by simpa using (List.getElem?_eq_some_iff.1 hv).1)]
    simpa using hv
   ·rw [List.nodup_cons]
    refine ⟨fun hmem=> ?_,hsubl⟩
    have:w.heap.size < w.heap.size:=hfpl _ (by
     rcases List.mem_append.1 hmem with h|h
     ·exact List.mem_append_left _ (hsub _ h)
     ·exact List.mem_append_right _ h)
    omega
   ·intro b hb
    rcases List.mem_cons.1 hb with rfl|hb
    ·exact .inr rfl
    ·left
     rcases List.mem_append.1 hb with h|h
     ·exact hF b (List.mem_append_left _ (hsub _ h))
     ·exact hF b (List.mem_append_right _ h))
  refine ⟨_,_,_,hrun,hm.1,?_⟩
  exact hR (g':=⟨some ⟨w.heap.size,0,none⟩,cap',fun b=>g.F b∨b=w.heap.size⟩) (by simp [hiG]) hl.1
end Go.Aw

namespace Go.Aw
mutual
def res (o : List aA) : AV → AV
  | .obj i ver => match AV.isObj o i ver with
    | some ob => .sl .own ob.n ob.els
    | none => .undef
  | .agg c => .agg (jD o c)
  | .tup c => .tup (jD o c)
  | .int k n => .int k n
  | .bool b => .bool b
  | .str s => .str s
  | .sl g n l => .sl g n l
  | .vptr g c off => .vptr g c off
  | .ptr i v j k => .ptr i v j k
  | .fn f c => .fn f c
  | .undef => .undef
def jD (o : List aA) : List AV → List AV
  | [] => []
  | x :: xs => res o x :: jD o xs
end
mutual
def uses : AV → List Nat
  | .obj i _ => [i]
  | .agg c => fK c
  | .tup c => fK c
  | _ => []
def fK : List AV → List Nat
  | [] => []
  | x :: xs => uses x ++ fK xs
end
mutual
def eB (o : List aA) : AV → Bool
  | .obj i ver => match AV.isObj o i ver with
    | some ob => !ob.box
    | none => false
  | .agg c => iW o c
  | .tup c => iW o c
  | .int _ _ => true
  | .bool _ => true
  | .str _ => true
  | .sl (.dep _) _ _ => false
  | .sl _ _ _ => true
  | .vptr .view _ _ => true
  | .fn _ [] => true
  | .undef => true
  | _ => false
def iW (o : List aA) : List AV → Bool
  | [] => true
  | x :: xs => eB o x && iW o xs
end
def Of (o:List aA) (G:List CO) (u:List Nat) (b:Nat):Prop:=∃i ob g,i∈u∧look o G i ob g∧ob.live=true∧g.F b
mutual
theorem zA {P : Program} [aB P] {B : Base P} {s : AS} {G : List CO} {a : Act} {w : World} (r : bG B s G a w) : ∀ (av : AV) (v : Value), eB s.o av = true → (uses av).Nodup → R w (env B s.o G w) av v [] →
    ∃ fp, R w (env B s.o G w).plain (res s.o av) v fp ∧ fp.Nodup ∧ ∀ b ∈ fp, Of s.o G (uses av) b
  | .obj i ver, v, ho, _, h => by
    cases hob : AV.isObj s.o i ver with
    | none => simp [eB, hob] at ho
    | some ob =>
      simp only [eB, hob] at ho
      simp only [res, hob]
      simp only [R] at h
      obtain ⟨_, ob', g, hl, _, hh, _⟩ := h
      obtain ⟨h1, h2, h3⟩ := iO hob
      obtain rfl := Option.some.inj (hl.1.symm.trans h1)
      have hv := hh h2 h3
      obtain ⟨fp, hown, hnd, hF⟩ := r.ok i _ g hl h2
      have hb : ob'.box = false := by simpa using ho
      rw [hb] at hown
      exact ⟨fp, mX.2 ⟨g.a, g.cap, hv, hown⟩, hnd, fun b hb => ⟨i, _, g, by simp [uses], hl, h2, hF b hb⟩⟩
  | .agg c, v, ho, hu, h => by
    simp only [R] at h
    obtain ⟨cs, rfl, hone, hr⟩ := h
    obtain ⟨fp, h1, h2, h3⟩ := aBm r c cs (by simpa [eB] using ho) (by simpa [uses] using hu) hr
    exact ⟨fp, by simp only [res, R]; exact ⟨cs, rfl, hone, h1⟩, h2, by simpa [uses] using h3⟩
  | .tup c, v, ho, hu, h => by
    simp only [R] at h
    obtain ⟨cs, rfl, hr⟩ := h
    obtain ⟨fp, h1, h2, h3⟩ := aBm r c cs (by simpa [eB] using ho) (by simpa [uses] using hu) hr
    exact ⟨fp, by simp only [res, R]; exact ⟨cs, rfl, h1⟩, h2, by simpa [uses] using h3⟩
  | .int k n, v, _, _, h => ⟨[], by simpa [res, R] using h, by simp, by simp⟩
  | .bool b, v, _, _, h => ⟨[], by simpa [res, R] using h, by simp, by simp⟩
  | .str x, v, _, _, h => ⟨[], by simpa [res, R] using h, by simp, by simp⟩
  | .sl .own n l, v, _, _, h => ⟨[], by simp only [res]; rw [mX] at h ⊢; exact h, by simp, by simp⟩
  | .sl .view n l, v, _, _, h => ⟨[], by simp only [res, R] at h ⊢; exact h, by simp, by simp⟩
  | .sl (.dep i) n l, v, ho, _, h => by simp [eB] at ho
  | .vptr .view c off, v, _, _, h => ⟨[], by simp only [res, R] at h ⊢; exact h, by simp, by simp⟩
  | .vptr .own c off, v, ho, _, h => by simp [eB] at ho
  | .vptr (.dep _) c off, v, ho, _, h => by simp [eB] at ho
  | .ptr _ _ _ _, v, ho, _, h => by simp [eB] at ho
  | .fn f [], v, _, _, h => ⟨[], by simp only [res, R] at h ⊢; obtain ⟨h1, cs, h2, h3⟩ := h; refine ⟨trivial, cs, h2, ?_⟩; cases cs <;> simp_all [Rc], by simp, by simp⟩
  | .fn f (_ :: _), v, ho, _, h => by simp [eB] at ho
  | .undef, v, _, _, h => ⟨[], by simp [res, R], by simp, by simp⟩
theorem aBm {P : Program} [aB P] {B : Base P} {s : AS} {G : List CO} {a : Act} {w : World} (r : bG B s G a w) : ∀ (c : List AV) (cs : List Value), iW s.o c = true → (fK c).Nodup → Rc w (env B s.o G w) c cs [] →
    ∃ fp, Rc w (env B s.o G w).plain (jD s.o c) cs fp ∧ fp.Nodup ∧ ∀ b ∈ fp, Of s.o G (fK c) b
  | [], [], _, _, _ => ⟨[], by simp [jD, Rc], by simp, by simp⟩
  | [], _ :: _, _, _, h => by simp [Rc] at h
  | _ :: _, [], _, _, h => by simp [Rc] at h
  | x :: xs, c :: cs, ho, hu, h => by
    simp only [Rc] at h
    obtain ⟨g1, g2, h1, h2, e⟩ := h
    obtain ⟨rfl, rfl⟩ : g1 = [] ∧ g2 = [] := by simpa using e
    simp only [iW, Bool.and_eq_true] at ho
    simp only [fK, List.nodup_append] at hu
    obtain ⟨f1, k1, n1, o1⟩ := zA r x c ho.1 hu.1 h1
    obtain ⟨f2, k2, n2, o2⟩ := aBm r xs cs ho.2 hu.2.1 h2
    refine ⟨f1 ++ f2, by simp only [jD, Rc]; exact ⟨f1, f2, k1, k2, rfl⟩, ?_, ?_⟩
    · refine List.nodup_append.2 ⟨n1, n2, fun b hb b' hb' e => ?_⟩
      subst e
      obtain ⟨i, ob, g, hi, hl, hlive, hF⟩ := o1 b hb
      obtain ⟨j, ob', g', hj, hl', hlive', hF'⟩ := o2 b hb'
      exact hu.2.2 i hi j hj (r.apart i j _ _ _ _ b hl hl' hlive hlive' hF hF')
    · intro b hb
      rcases List.mem_append.1 hb with hb | hb
      · obtain ⟨i, ob, g, hi, h⟩ := o1 b hb
        exact ⟨i, ob, g, by simp [fK, hi], h⟩
      · obtain ⟨i, ob, g, hi, h⟩ := o2 b hb
        exact ⟨i, ob, g, by simp [fK, hi], h⟩
end
def jJ (w:World):Env:=⟨fun b=>b < w.heap.size,fun _=>True,fun _ _=>False,fun _ _ _=>False,fun _ _ _ _ _=>False⟩
def mP:Env:=⟨fun _=>False,fun _=>True,fun _ _=>False,fun _ _ _=>False,fun _ _ _ _ _=>False⟩
def vD (n:Nat) (w:World) (fp:List Nat):Env:=⟨fun b=>n≤b∧b < w.heap.size∧b∉fp,fun _=>True,fun _ _=>False,fun _ _ _=>False,fun _ _ _ _ _=>False⟩
theorem bAj (n:Nat) (w:World) (fp:List Nat):bP w mP w (vD n w fp):=
 ⟨fun _ h=>h.elim,fun _ _=>trivial,fun _ _ _ h=>h.elim,fun _ _ _ h=>h.elim,fun _ _ _ _ _ h=>h.elim⟩
theorem bEm {n:Nat} {w:World} {x:AV} {v:Value} {fp:List Nat} (h:R w mP x v fp):R w (vD n w fp) x v fp:=jL (bAj n w fp) _ _ _ (fun _ _=>rfl) h
def Ok (P:Program) [aB P] (f:FuncId) (args:List AV) (r:AV):Prop:=
 ∀(w:World) (vs:List Value),aB.holds P w→Rc w (jJ w) args vs []→
  Calls P f vs.toArray w fun e w'=>∃v fp,e= .returned v∧R w' (vD w.heap.size w' fp) r v fp∧fp.Nodup∧
   (∀b∈fp,w.heap.size≤b∧b < w'.heap.size)∧w.heap.size≤w'.heap.size∧(∀b,b < w.heap.size→w'.heap[b]? =w.heap[b]?)∧Same w w'
def vwf:Tg→Option Tg
 | .dep _=>none
 |_=>some .view
mutual
def arg (o : List aA) : AV → AV
  | .obj i ver => match AV.isObj o i ver with
    | some ob => if ob.box then .undef else .sl .view ob.n (rtr (fun _ => some .view) false ob.els)
    | none => .undef
  | .ptr i ver idx off => match AV.isObj o i ver with
    | some ob => match ob.els[idx]? with
      | some e => .vptr .view (rtc vwf false e) off
      | none => .undef
    | none => .undef
  | .agg c => .agg (qF o c)
  | .tup c => .tup (qF o c)
  | .int k n => .int k n
  | .bool b => .bool b
  | .str s => .str s
  | .sl (.dep i) n l => match o[i]? with
    | some ob => if ob.live then .sl .view n (rtr (fun _ => some .view) false l) else .undef
    | none => .undef
  | .sl _ n l => .sl .view n (rtr (fun _ => some .view) false l)
  | .vptr (.dep i) c off => match o[i]? with
    | some ob => if ob.live then .vptr .view (rtc (fun _ => some .view) false c) off else .undef
    | none => .undef
  | .vptr _ c off => .vptr .view (rtc (fun _ => some .view) false c) off
  | .fn f c => .fn f (qF o c)
  | .undef => .undef
def qF (o : List aA) : List AV → List AV
  | [] => []
  | x :: xs => arg o x :: qF o xs
end
theorem aJf {P:Program} [aB P] {B:Base P} {s:AS} {G:List CO} {a:Act} {w:World} (r:bG B s G a w) (O:Nat→Prop) (hO:∀b,O b→b < w.heap.size):iT (fun _=>some .view) false (env B s.o G w).plain (jJ w) O where
 own t e:=by obtain rfl:=Option.some.inj e;exact ⟨by simp,fun b hb=>hO b hb⟩
 view t e:=by obtain rfl:=Option.some.inj e;exact ⟨rfl,fun b hb=>lX r hb⟩
 dep i t e:=by obtain rfl:=Option.some.inj e;exact ⟨by simp,.inl trivial,fun b hb=>hb.elim⟩
 hh h:=by cases h
 hl h:=by cases h
theorem aX5 {P:Program} [aB P] {B:Base P} {s:AS} {G:List CO} {a:Act} {w:World} (r:bG B s G a w) (box:Bool) (O:Nat→Prop) (hO:∀b,O b→b < w.heap.size):iT vwf false ((env B s.o G w).of box) (jJ w) O where
 own t e:=by obtain rfl:=Option.some.inj e;exact ⟨by simp,fun b hb=>hO b hb⟩
 view t e:=by obtain rfl:=Option.some.inj e;exact ⟨rfl,fun b hb=>lX r (by cases box<;>exact hb)⟩
 dep i t e:=by cases e
 hh h:=by cases h
 hl h:=by cases h
theorem aRn {P:Program} [aB P] {B:Base P} {s:AS} {G:List CO} {a:Act} {w:World} (r:bG B s G a w) (g:Tg) (O:Nat→Prop) (hO:∀b,O b→b < w.heap.size):iT (fun _=>some .view) false ((env B s.o G w).sub g) (jJ w).plain O:=by
 cases g with
 |own=>exact aJf r O hO
 |view=>exact aJf r O hO
 |dep i=>exact
  {own:=fun t e=>by obtain rfl:=Option.some.inj e;exact ⟨by simp,fun b hb=>hO b hb⟩
   view:=fun t e=>by obtain rfl:=Option.some.inj e;exact ⟨rfl,fun b hb=>lX r hb⟩
   dep:=fun j t e=>by
    obtain rfl:=Option.some.inj e
    refine ⟨by simp,.inl trivial,fun b hb=> ?_⟩
    obtain ⟨rfl,ob,g,hl,hlive,hF,_⟩:=hb
    exact (r.fresh _ _ _ b hl hlive hF).2
   hh:=fun h=>by cases h
   hl:=fun h=>by cases h}
theorem aXh {P:Program} [aB P] {B:Base P} {s:AS} {G:List CO} {a:Act} {w:World} (r:bG B s G a w) {g:Tg} {b:Nat} (h:(env B s.o G w).tg g b):b < w.heap.size:=by
 cases g with
 |own=>exact h.elim
 |view=>exact lX r h
 |dep i=>obtain ⟨ob,g,hl,hlive,hF,_⟩:=h;exact (r.fresh _ _ _ b hl hlive hF).2
theorem aGm {P:Program} [aB P] {B:Base P} {s:AS} {G:List CO} {a:Act} {w:World} (r:bG B s G a w) {g:Tg} {n:Nat} {l:List (List AV)} {v:Value} (hd:¬(env B s.o G w).dead g) (h:R w (env B s.o G w) (.sl g n l) v []):
  R w (jJ w) (.sl .view n (rtr (fun _=>some .view) false l)) v []:=by
 simp only [R,jT] at h⊢
 rcases h with h|⟨x,cap,hv,hl,h⟩
 ·exact absurd h.1 hd
 refine .inr ⟨x,cap,hv,hl,.inr (.inr ⟨by simp,trivial,?_⟩)⟩
 rcases h with ⟨_,rfl,_⟩|⟨_,b,off,C,ty,fz,fps,ha,hb,hz,h1,h2,h3,hfp,hr⟩|⟨hg,_,h⟩
 ·exact .inl rfl
 ·cases hfp
 ·rcases h with rfl|⟨b,off,ha,ht,hr⟩
  ·exact .inl rfl
  ·exact .inr ⟨b,off,ha,aXh r ht,zL (aRn r g (fun _=>False) (fun _ h=>h.elim)) _ _ _ _ _ (by simp) hr⟩
mutual
theorem bIx {P : Program} [aB P] {B : Base P} {s : AS} {G : List CO} {a : Act} {w : World} (r : bG B s G a w) : ∀ (av : AV) (v : Value), R w (env B s.o G w) av v [] → R w (jJ w) (arg s.o av) v []
  | .obj i ver, v, h => by
    cases hob : AV.isObj s.o i ver with
    | none => simp [arg, hob, R]
    | some ob =>
      simp only [arg, hob]
      by_cases hb : ob.box = true
      · simp [hb, R]
      simp only [R] at h
      obtain ⟨_, ob', g, hl, _, hh, _⟩ := h
      obtain ⟨h1, h2, h3⟩ := iO hob
      obtain rfl := Option.some.inj (hl.1.symm.trans h1)
      have hv := hh h2 h3
      obtain ⟨fp, ⟨hlen, hown⟩, hnd, hF⟩ := r.ok i _ g hl h2
      have hb' : ob'.box = false := by simpa using hb
      rw [hb'] at hown
      simp only [hb', Bool.false_eq_true, if_false]
      simp only [R, jT]
      refine .inr ⟨g.a, g.cap, hv, ⟨hlen, by rcases hown with h | ⟨_, _, _, _, _, _, _, _, _, _, h, _⟩; simp [h.1]; exact h⟩, .inr (.inr ⟨by simp, trivial, ?_⟩)⟩
      rcases hown with ⟨h5, _⟩ | ⟨b, off, C, e, fz, fps, ha, hbk, hz, k1, k2, k3, rfl, hr⟩
      · left; rw [h5]; rfl
      · right
        have hlt : ∀ x ∈ b :: fps, x < w.heap.size := fun x hx => (r.fresh _ _ _ x hl h2 (hF x hx)).2
        exact ⟨b, off, ha, hlt b (by simp), zL (aJf r (fun x => x < w.heap.size) (fun _ h => h)) _ _ _ _ fps (fun x hx => hlt x (by simp [hx])) hr⟩
  | .ptr i ver idx off, v, h => by
    cases hob : AV.isObj s.o i ver with
    | none => simp [arg, hob, R]
    | some ob =>
      simp only [arg, hob]
      cases he : ob.els[idx]? with
      | none => simp [R]
      | some e =>
        simp only [R] at h ⊢
        obtain ⟨_, ob', g, hl, _, hh, _⟩ := h
        obtain ⟨h1, h2, h3⟩ := iO hob
        obtain rfl := Option.some.inj (hl.1.symm.trans h1)
        obtain ⟨b, f, ha, hv⟩ := hh h2 h3
        obtain ⟨fp, ⟨_, hown⟩, hnd, hF⟩ := r.ok i _ g hl h2
        have hlt : ∀ x ∈ fp, x < w.heap.size := fun x hx => (r.fresh _ _ _ x hl h2 (hF x hx)).2
        rcases hown with ⟨h5, _⟩ | ⟨b', f', C, ty, fz, fps, ha', hbk, hz, k1, k2, k3, rfl, hr⟩
        · rw [h5] at he; simp at he
        · rw [ha] at ha'
          simp only [Option.some.injEq, Addr.mk.injEq, and_true] at ha'
          obtain ⟨rfl, rfl⟩ := ha'
          obtain ⟨f1, f2, f3, cs, rfl, hn, hc, hone, hrc, _, _⟩ := vF hr he
          refine .inr ⟨trivial, b, f + idx * ob'.n, cs, ?_, hlt b (by simp), hc, hone, ?_⟩
          · rw [hv, Nat.add_assoc]
          · have := qB (aX5 r ob'.box (fun x => x < w.heap.size) (fun _ h => h)) e cs f2 (fun x hx => hlt x (by simp [hx])) hrc
            exact dI (w := w) (w' := w) (E := jJ w) (E' := (jJ w).sub .view) ⟨fun _ h => ⟨h, rfl⟩, fun _ _ => trivial, fun _ _ _ h => h.elim, fun _ _ _ h => h.elim, fun _ _ _ _ _ h => h.elim⟩ _ _ _ (by simp) this
  | .agg c, v, h => by
    simp only [R, arg] at h ⊢
    obtain ⟨cs, hv, hone, hr⟩ := h
    exact ⟨cs, hv, hone, aDn r c cs hr⟩
  | .tup c, v, h => by
    simp only [R, arg] at h ⊢
    obtain ⟨cs, hv, hr⟩ := h
    exact ⟨cs, hv, aDn r c cs hr⟩
  | .fn f c, v, h => by
    simp only [R, arg] at h ⊢
    obtain ⟨h1, cs, hv, hr⟩ := h
    exact ⟨trivial, cs, hv, aDn r c cs hr⟩
  | .int k n, v, h => by simpa [arg, R] using h
  | .bool b, v, h => by simpa [arg, R] using h
  | .str x, v, h => by simpa [arg, R] using h
  | .sl .own n l, v, h => by simp only [arg]; exact aGm r (g := .own) (fun h => h) h
  | .sl .view n l, v, h => by simp only [arg]; exact aGm r (g := .view) (fun h => h) h
  | .sl (.dep i) n l, v, h => by
    simp only [arg]
    cases ho : s.o[i]? with
    | none => simp [R]
    | some ob =>
      simp only
      by_cases hlive : ob.live = true
      · rw [if_pos hlive]
        exact aGm r (g := .dep i) (fun hd => hd (fun ob' hob' => by rw [ho] at hob'; obtain rfl := Option.some.inj hob'; exact hlive)) h
      · rw [if_neg hlive]; simp [R]
  | .vptr .own c off, v, h => by
    simp only [R] at h
    rcases h with h | ⟨_, b, o, cs, hv, ht, _⟩
    · exact h.1.elim
    · exact ht.elim
  | .vptr .view c off, v, h => by
    simp only [arg]
    simp only [R] at h ⊢
    rcases h with h | ⟨_, b, o, cs, hv, ht, hcs, hone, hr⟩
    · exact h.1.elim
    · exact .inr ⟨trivial, b, o, cs, hv, aXh r ht, hcs, hone, qB (aRn r .view (fun _ => False) (fun _ h => h.elim)) _ _ _ (by simp) hr⟩
  | .vptr (.dep i) c off, v, h => by
    simp only [arg]
    cases ho : s.o[i]? with
    | none => simp [R]
    | some ob =>
      simp only
      by_cases hlive : ob.live = true
      · rw [if_pos hlive]
        simp only [R] at h ⊢
        rcases h with h | ⟨_, b, o, cs, hv, ht, hcs, hone, hr⟩
        · exact absurd (fun ob' hob' => by rw [ho] at hob'; obtain rfl := Option.some.inj hob'; exact hlive) h.1
        · exact .inr ⟨trivial, b, o, cs, hv, aXh r ht, hcs, hone, qB (aRn r (.dep i) (fun _ => False) (fun _ h => h.elim)) _ _ _ (by simp) hr⟩
      · rw [if_neg hlive]; simp [R]
  | .undef, v, _ => by simp [arg, R]
theorem aDn {P : Program} [aB P] {B : Base P} {s : AS} {G : List CO} {a : Act} {w : World} (r : bG B s G a w) : ∀ (c : List AV) (cs : List Value), Rc w (env B s.o G w) c cs [] → Rc w (jJ w) (qF s.o c) cs []
  | [], [], _ => by simp [qF, Rc]
  | [], _ :: _, h => by simp [Rc] at h
  | _ :: _, [], h => by simp [Rc] at h
  | x :: xs, c :: cs, h => by
    simp only [Rc] at h
    obtain ⟨f1, f2, h1, h2, e⟩ := h
    obtain ⟨rfl, rfl⟩ : f1 = [] ∧ f2 = [] := by simpa using e
    simp only [qF, Rc]
    exact ⟨[], [], bIx r x c h1, aDn r xs cs h2, rfl⟩
end
mutual
def dG (q k : Nat) : AV → AV × List aA
  | .sl .own n l => (.obj k q, [⟨true, false, n, q, l⟩])
  | .agg c => let p := dJ q k c; (.agg p.1, p.2)
  | .tup c => let p := dJ q k c; (.tup p.1, p.2)
  | x => (x, [])
def dJ (q k : Nat) : List AV → List AV × List aA
  | [] => ([], [])
  | x :: xs => let p := dG q k x; let r := dJ q (k + p.2.length) xs; (p.1 :: r.1, p.2 ++ r.2)
end
def iV (q:Nat) (w:World) (E:Env) (k:Nat) (os:List aA) (fp:List Nat) (done:Env→Prop):Prop:=
 ∃Gs:List CO,Gs.length=os.length∧
  (∀j ob g,look os Gs j ob g→ob.live=true∧ob.box=false∧ob.ver=q∧∃f,kX w E.plain ob.n ob.els g.a g.cap f∧f.Nodup∧(∀b,g.F b↔b∈f)∧∀b∈f,b∈fp)∧
  (∀i j oi oj gi gj b,look os Gs i oi gi→look os Gs j oj gj→gi.F b→gj.F b→i=j)∧
  ∀E':Env,bP w E w E'→(∀j ob g,look os Gs j ob g→E'.H (k+j) q (.slice g.a ob.els.length g.cap))→done E'
theorem iV.none {q:Nat} {w:World} {E:Env} {k:Nat} {av:AV} {v:Value} (h:R w E av v []):iV q w E k [] [] (fun E'=>R w E' av v []):=
 ⟨[],rfl,fun j ob g hl=>by simp [look] at hl,fun i j oi oj gi gj b hl=>by simp [look] at hl,fun E' hk _=>jL hk _ _ _ (by simp) h⟩
theorem iV.append {q:Nat} {w:World} {E:Env} {k:Nat} {o1 o2:List aA} {f1 f2:List Nat} {d1 d2:Env→Prop} (h1:iV q w E k o1 f1 d1) (h2:iV q w E (k+o1.length) o2 f2 d2) (hn:(f1++f2).Nodup):
  iV q w E k (o1++o2) (f1++f2) (fun E'=>d1 E'∧d2 E'):=by
 obtain ⟨G1,l1,a1,b1,c1⟩:=h1
 obtain ⟨G2,l2,a2,b2,c2⟩:=h2
 have hd:=(List.nodup_append.1 hn).2.2
 refine ⟨G1++G2,by simp [l1,l2],?_,?_,?_⟩
 ·intro j ob g hl
  rcases jX l1 hl with ⟨_,h⟩|⟨_,h⟩
  ·obtain ⟨x,y,y',f,z⟩:=a1 _ _ _ h
   exact ⟨x,y,y',f,z.1,z.2.1,z.2.2.1,fun b hb=>List.mem_append_left _ (z.2.2.2 b hb)⟩
  ·obtain ⟨x,y,y',f,z⟩:=a2 _ _ _ h
   exact ⟨x,y,y',f,z.1,z.2.1,z.2.2.1,fun b hb=>List.mem_append_right _ (z.2.2.2 b hb)⟩
 ·intro i j oi oj gi gj b hi hj hfi hfj
  rcases jX l1 hi with ⟨_,h⟩|⟨hi',h⟩<;>rcases jX l1 hj with ⟨_,h'⟩|⟨hj',h'⟩
  ·exact b1 _ _ _ _ _ _ b h h' hfi hfj
  ·obtain ⟨_,_,_,f,z⟩:=a1 _ _ _ h
   obtain ⟨_,_,_,f',z'⟩:=a2 _ _ _ h'
   exact absurd rfl (hd b (z.2.2.2 b ((z.2.2.1 b).1 hfi)) b (z'.2.2.2 b ((z'.2.2.1 b).1 hfj)))
  ·obtain ⟨_,_,_,f,z⟩:=a2 _ _ _ h
   obtain ⟨_,_,_,f',z'⟩:=a1 _ _ _ h'
   exact absurd rfl (hd b (z'.2.2.2 b ((z'.2.2.1 b).1 hfj)) b (z.2.2.2 b ((z.2.2.1 b).1 hfi)))
  ·have:=b2 _ _ _ _ _ _ b h h' hfi hfj
   omega
 ·intro E' hk hh
  refine ⟨c1 E' hk fun j ob g hl=>hh j ob g (lQ hl),c2 E' hk fun j ob g hl=> ?_⟩
  have:=hh _ ob g (mG l1 hl)
  rwa [←Nat.add_assoc] at this
mutual
theorem yR {q : Nat} {w : World} {E : Env} : ∀ (av : AV) (v : Value) (fp : List Nat) (k : Nat), R w E av v fp → fp.Nodup → iV q w E k (dG q k av).2 fp (fun E' => R w E' (dG q k av).1 v [])
  | .sl .own n l, v, fp, k, h, hn => by
    obtain ⟨a, cap, hv, hown⟩ := mX.1 h
    refine ⟨[⟨a, cap, fun b => b ∈ fp⟩], rfl, ?_, ?_, ?_⟩
    · rintro j ob g ⟨h1, h2⟩
      cases j with
      | zero =>
        simp [dG] at h1 h2
        subst h1; subst h2
        exact ⟨rfl, rfl, rfl, fp, hown, hn, fun b => Iff.rfl, fun b hb => hb⟩
      | succ j => simp [dG] at h1
    · rintro i j oi oj gi gj b ⟨h1, _⟩ ⟨h2, _⟩ _ _
      cases i <;> cases j <;> simp_all [dG]
    · intro E' _ hh
      simp only [dG, R]
      have := hh 0 ⟨true, false, n, q, l⟩ ⟨a, cap, fun b => b ∈ fp⟩ ⟨rfl, rfl⟩
      rw [hv]
      exact ⟨trivial, this⟩
  | .agg c, v, fp, k, h, hn => by
    simp only [R] at h
    obtain ⟨cs, hv, hone, hr⟩ := h
    obtain ⟨Gs, a, b, c', d⟩ := aAe c cs fp k hr hn
    exact ⟨Gs, a, b, c', fun E' hk hh => by simp only [dG, R]; exact ⟨cs, hv, hone, d E' hk hh⟩⟩
  | .tup c, v, fp, k, h, hn => by
    simp only [R] at h
    obtain ⟨cs, hv, hr⟩ := h
    obtain ⟨Gs, a, b, c', d⟩ := aAe c cs fp k hr hn
    exact ⟨Gs, a, b, c', fun E' hk hh => by simp only [dG, R]; exact ⟨cs, hv, d E' hk hh⟩⟩
  | .sl .view n l, v, fp, k, h, _ => by
    have hf : fp = [] := by
      simp only [R] at h
      rcases h with h | ⟨_, _, _, _, h | h | h⟩
      · exact h.2
      · exact h.2.2.2
      · exact absurd h.1 (by simp)
      · exact h.2.1
    subst hf; exact iV.none h
  | .sl (.dep i) n l, v, fp, k, h, _ => by
    have hf : fp = [] := by
      simp only [R] at h
      rcases h with h | ⟨_, _, _, _, h | h | h⟩
      · exact h.2
      · exact h.2.2.2
      · exact absurd h.1 (by simp)
      · exact h.2.1
    subst hf; exact iV.none h
  | .int _ _, v, fp, k, h, _ => by have h' := h; simp only [R] at h'; obtain ⟨_, rfl⟩ := h'; exact iV.none h
  | .bool _, v, fp, k, h, _ => by have h' := h; simp only [R] at h'; obtain ⟨_, rfl⟩ := h'; exact iV.none h
  | .str _, v, fp, k, h, _ => by have h' := h; simp only [R] at h'; obtain ⟨_, rfl⟩ := h'; exact iV.none h
  | .vptr _ _ _, v, fp, k, h, _ => by
    have hf : fp = [] := by simp only [R] at h; rcases h with h | h; exact h.2; exact h.1
    subst hf; exact iV.none h
  | .obj _ _, v, fp, k, h, _ => by have h' := h; simp only [R] at h'; obtain ⟨rfl, _⟩ := h'; exact iV.none h
  | .ptr _ _ _ _, v, fp, k, h, _ => by have h' := h; simp only [R] at h'; obtain ⟨rfl, _⟩ := h'; exact iV.none h
  | .fn _ _, v, fp, k, h, _ => by have h' := h; simp only [R] at h'; obtain ⟨rfl, _⟩ := h'; exact iV.none h
  | .undef, v, fp, k, h, _ => by have h' := h; simp only [R] at h'; subst h'; exact iV.none h
theorem aAe {q : Nat} {w : World} {E : Env} : ∀ (c : List AV) (cs : List Value) (fp : List Nat) (k : Nat), Rc w E c cs fp → fp.Nodup → iV q w E k (dJ q k c).2 fp (fun E' => Rc w E' (dJ q k c).1 cs [])
  | [], [], fp, k, h, _ => by
    simp only [Rc] at h; subst h
    exact ⟨[], rfl, fun j ob g hl => by simp [look, dJ] at hl, fun i j oi oj gi gj b hl => by simp [look, dJ] at hl, fun E' hk _ => by simp [dJ, Rc]⟩
  | [], _ :: _, _, _, h, _ => by simp [Rc] at h
  | _ :: _, [], _, _, h, _ => by simp [Rc] at h
  | x :: xs, c :: cs, fp, k, h, hn => by
    simp only [Rc] at h
    obtain ⟨f1, f2, h1, h2, rfl⟩ := h
    have n1 := (List.nodup_append.1 hn)
    have := (yR x c f1 k h1 n1.1).append (aAe xs cs f2 (k + (dG q k x).2.length) h2 n1.2.1) hn
    obtain ⟨Gs, a, b, c', d⟩ := this
    exact ⟨Gs, a, b, c', fun E' hk hh => by
      have := d E' hk hh
      simp only [dJ, Rc]
      exact ⟨[], [], this.1, this.2, rfl⟩⟩
end
end Go.Aw

namespace Go.Aw
def callable (P:Program) (f:FuncId):Bool:=
 match P.funcs[f]? with
 |some fn=> !(fn.name == "runtime.NumGoroutine")&&fn.body.isSome
 |none=>false
theorem rP {P:Program} [aB P] {f:FuncId} (h:callable P f=true) (args:Array Value) (w:World):(callFunc f args).run P w= .ok (.enter f args) w:=by
 unfold callable at h
 split at h
 ·rename_i fn hf
  simp only [Bool.and_eq_true,Bool.not_eq_true'] at h
  cases hx:fn.body with
  |none=>simp [hx] at h
  |some c=>
   have hne:fn.name≠ "runtime.NumGoroutine" :=by simpa using h.1
   simp [callFunc,hf,hne,hx]
 ·cases h
def AS.args (s:AS) (l:Array Operand):List AV:=l.toList.map s.ev
theorem pK {P:Program} [aB P] {B:Base P} {s:AS} {G:List CO} {a:Act} {w:World} (r:bG B s G a w):∀l:List Operand,Rc w (env B s.o G w) (l.map s.ev) (l.map a.eval) []
 |[]=>by simp [Rc]
 |x::xs=>by simp only [List.map_cons,Rc];exact ⟨[],[],r.ev x,pK r xs,rfl⟩
def AS.called (s:AS) (d:Option Tmp) (r:AV):AS:=AS.put ⟨s.t,s.o++(dG 1 s.o.length r).2⟩ d (dG 1 s.o.length r).1
theorem bP.refl (w:World) (E:Env):bP w E w E:=⟨fun _ h=>⟨h,rfl⟩,fun _ h=>h,fun _ _ _ h=>⟨h,rfl⟩,fun _ _ _ h=>h,fun _ _ _ _ _ h=>h⟩
theorem bP.trans {w:World} {E E' E'':Env} (k:bP w E w E') (k':bP w E' w E''):bP w E w E'':=
 ⟨fun b h=>⟨(k'.a b (k.a b h).1).1,rfl⟩,fun i h=>k.v i (k'.v i h),fun i b hv h=>⟨(k'.d i b hv (k.d i b (k'.v i hv) h).1).1,rfl⟩,fun i v x h=>k'.h i v x (k.h i v x h),fun i v j o x h=>k'.l i v j o x (k.l i v j o x h)⟩
mutual
def clean : AV → Bool
  | .sl .own _ l => gF l
  | .sl _ _ l => l.isEmpty
  | .vptr _ _ _ => false
  | .agg c => vI c
  | .tup c => vI c
  | .fn _ c => vI c
  | _ => true
def vI : List AV → Bool
  | [] => true
  | x :: xs => clean x && vI xs
def gF : List (List AV) → Bool
  | [] => true
  | x :: xs => vI x && gF xs
end
mutual
theorem aHy {w : World} {E E' : Env} (hv : ∀ i, E'.V i → E.V i) (hd : E.D = fun _ _ => False) (hh : E.H = fun _ _ _ => False) (hl : E.L = fun _ _ _ _ _ => False) : ∀ (av : AV) (v : Value) (fp : List Nat), clean av = true → R w E av v fp → R w E' av v fp
  | .sl .own n l, v, fp, hc, h => by
    obtain ⟨a, cap, rfl, hlen, hown⟩ := mX.1 h
    refine mX.2 ⟨a, cap, rfl, hlen, ?_⟩
    rcases hown with h | ⟨b, off, C, e, fz, fps, ha, hb, hz, h1, h2, h3, rfl, hr⟩
    · exact .inl h
    · exact .inr ⟨b, off, C, e, fz, fps, ha, hb, hz, h1, h2, h3, rfl, aS5 (E := E.plain) (E' := E'.plain) (fun _ _ => trivial) rfl rfl rfl l b off n fps (by simpa [clean] using hc) hr⟩
  | .sl .view n l, v, fp, hc, h => by
    have : l = [] := by simpa [clean] using hc
    subst this
    simp only [R] at h ⊢
    rcases h with h | ⟨a, cap, hv', hl', h⟩
    · exact h.1.elim
    · exact .inr ⟨a, cap, hv', hl', .inr (.inr ⟨by simp, by rcases h with h | h | h; exact h.2.2.2; exact absurd h.1 (by simp); exact h.2.1, .inl trivial⟩)⟩
  | .sl (.dep i) n l, v, fp, hc, h => by
    have : l = [] := by simpa [clean] using hc
    subst this
    simp only [R] at h ⊢
    rcases h with h | ⟨a, cap, hv', hl', h⟩
    · exact .inl ⟨fun hd => h.1 (hv i hd), h.2⟩
    · exact .inr ⟨a, cap, hv', hl', .inr (.inr ⟨by simp, by rcases h with h | h | h; exact h.2.2.2; exact absurd h.1 (by simp); exact h.2.1, .inl trivial⟩)⟩
  | .int _ _, _, _, _, h => by simpa [R] using h
  | .bool _, _, _, _, h => by simpa [R] using h
  | .str _, _, _, _, h => by simpa [R] using h
  | .vptr _ _ _, _, _, hc, _ => by simp [clean] at hc
  | .obj _ _, _, _, _, h => by simp only [R, hh] at h; exact h.2.elim
  | .ptr _ _ _ _, _, _, _, h => by simp only [R, hl] at h; exact h.2.elim
  | .agg c, v, fp, hc, h => by
    simp only [R] at h ⊢
    obtain ⟨cs, h1, h2, h3⟩ := h
    exact ⟨cs, h1, h2, yC hv hd hh hl c cs fp (by simpa [clean] using hc) h3⟩
  | .tup c, v, fp, hc, h => by
    simp only [R] at h ⊢
    obtain ⟨cs, h1, h3⟩ := h
    exact ⟨cs, h1, yC hv hd hh hl c cs fp (by simpa [clean] using hc) h3⟩
  | .fn f c, v, fp, hc, h => by
    simp only [R] at h ⊢
    obtain ⟨h0, cs, h1, h3⟩ := h
    exact ⟨h0, cs, h1, yC hv hd hh hl c cs [] (by simpa [clean] using hc) h3⟩
  | .undef, _, _, _, h => by simpa [R] using h
theorem yC {w : World} {E E' : Env} (hv : ∀ i, E'.V i → E.V i) (hd : E.D = fun _ _ => False) (hh : E.H = fun _ _ _ => False) (hl : E.L = fun _ _ _ _ _ => False) : ∀ (c : List AV) (cs : List Value) (fp : List Nat), vI c = true → Rc w E c cs fp → Rc w E' c cs fp
  | [], [], _, _, h => by simpa [Rc] using h
  | [], _ :: _, _, _, h => by simp [Rc] at h
  | _ :: _, [], _, _, h => by simp [Rc] at h
  | x :: xs, c :: cs, fp, hc, h => by
    simp only [Rc] at h ⊢
    simp only [vI, Bool.and_eq_true] at hc
    obtain ⟨f1, f2, h1, h2, h3⟩ := h
    exact ⟨f1, f2, aHy hv hd hh hl x c f1 hc.1 h1, yC hv hd hh hl xs cs f2 hc.2 h2, h3⟩
theorem aS5 {w : World} {E E' : Env} (hv : ∀ i, E'.V i → E.V i) (hd : E.D = fun _ _ => False) (hh : E.H = fun _ _ _ => False) (hl : E.L = fun _ _ _ _ _ => False) : ∀ (l : List (List AV)) (b off n : Nat) (fp : List Nat), gF l = true → Rr w E l b off n fp → Rr w E' l b off n fp
  | [], _, _, _, _, _, h => by simpa [Rr] using h
  | e :: es, b, off, n, fp, hc, h => by
    simp only [Rr] at h ⊢
    simp only [gF, Bool.and_eq_true] at hc
    obtain ⟨cs, f1, f2, h1, h2, h3, h4, h5, h6⟩ := h
    exact ⟨cs, f1, f2, h1, h2, h3, yC hv hd hh hl e cs f1 hc.1 h4, aS5 hv hd hh hl es b (off + n) n f2 hc.2 h5, h6⟩
end
def OkN (P:Program) (f:FuncId) (args:List AV) (r:AV):Prop:=
 ∀(w:World) (vs:List Value),Rc w (jJ w) args vs []→∃v w',(callFunc f vs.toArray).run P w= .ok (.value v) w'∧w'.heap=w.heap∧Same w w'∧∀w'' E,R w'' E r v []
section
variable {P : Program} [aB P] {B : Base P} {s : AS} {dst : Option Tmp} {ty : TypeId} {pos : String} {after : Array Edge} {gd : Option (Nat × Bool)}
theorem bAb (f:Operand) (args:Array Operand) (tys:Array TypeId) {g:FuncId} {cap:List AV} {rr:AV} (hf:s.ev f= .fn g cap) (hc:callable P g=true)
  (hok:Ok P g (qF s.o (s.args args++cap)) rr):
  Step P B ⟨dst,.call {callee:= .value f,args:=args,argTypes:=tys},ty,pos,after,gd⟩ s (s.called dst rr):=by
 rintro a w next Q ⟨G,r⟩ hn
 have h1:=r.ev f
 rw [hf] at h1
 simp only [R] at h1
 obtain ⟨_,cs,hv,hcap⟩:=h1
 have hargs:Rc w (env B s.o G w) (s.args args++cap) (args.toList.map a.eval++cs) []:=by
  have:=gT (pK r args.toList) hcap
  simpa [AS.args] using this
 have hcall:=hok w _ r.holds (aDn r _ _ hargs)
 unfold Oper.wp
 have hrun:(execOp a.eval ⟨dst,.call {callee:= .value f,args:=args,argTypes:=tys},ty,pos,after,gd⟩).run P w= .ok (.enter g (args.toList.map a.eval++cs).toArray) w:=by
  have e:args.map a.eval++cs.toArray=(args.toList.map a.eval++cs).toArray:=by apply Array.ext';simp
  simp [execOp,resolve,hv,Deferred.ofValue,invoke,rP hc,e]
 rw [hrun,Oper.upon_enter]
 refine hcall.mono fun e w' h=> ?_
 obtain ⟨v,fp,rfl,hrr,hnd,hfr,hsz,hsame,hio⟩:=h
 refine hn _ _ ?_
 obtain ⟨Gs,hlen,hobj,hap,hdone⟩:=yR (q:=1) rr v fp s.o.length hrr hnd
 have kn:bP w' (vD w.heap.size w' fp) w' (env B (s.o++(dG 1 s.o.length rr).2) (G++Gs) w'):=by
  refine ⟨fun b hb=>⟨⟨.inr ⟨Nat.le_trans r.size hb.1,hb.2.1⟩,fun i ob g hl hlive hF=> ?_⟩,rfl⟩,fun _ _=>trivial,fun _ _ _ h=>h.elim,fun _ _ _ h=>h.elim,fun _ _ _ _ _ h=>h.elim⟩
  rcases jX r.len hl with ⟨_,h⟩|⟨_,h⟩
  ·have:=(r.fresh _ _ _ b h hlive hF).2
   have:=hb.1
   omega
  ·obtain ⟨_,_,_,f,_,_,h3,h4⟩:=hobj _ _ _ h
   exact hb.2.2 (h4 _ ((h3 _).1 hF))
 have hadd:=r.add (dG 1 s.o.length rr).2 Gs w' hlen hsz hsame (fun j ob g b hl _ hF=>by
   obtain ⟨_,_,_,f,_,_,h3,h4⟩:=hobj _ _ _ hl
   exact hfr _ (h4 _ ((h3 _).1 hF))) (fun i j oi oj gi gj b hi hj _ _ hfi hfj=>hap _ _ _ _ _ _ b hi hj hfi hfj) (fun k j ob g hl _=>by
   obtain ⟨h1,h2,_,f,hown,h3,h4,h5⟩:=hobj _ _ _ hl
   refine ⟨f,?_,h3,fun b hb=>(h4 b).2 hb⟩
   have:=hown.keeps kn.plain (fun _ _=>rfl)
   rw [h2]
   exact this) hio
 refine ⟨G++Gs,hadd.1.put dst ?_⟩
 refine hdone _ kn fun j ob g hl=> ?_
 obtain ⟨_,_,h3,_⟩:=hobj _ _ _ hl
 exact ⟨ob,g,mG r.len hl,Nat.le_of_eq h3.symm,fun _ _=>rfl,fun h=>absurd h (by decide)⟩
theorem bG.heap {G:List CO} {a:Act} {w w':World} (r:bG B s G a w) (hh:w'.heap=w.heap) (same:Same w w'):bG B s G a w':=by
 have hE:env B s.o G w'=env B s.o G w:=by unfold env;rw [hh]
 have k:bP w (env B s.o G w) w' (env B s.o G w'):=by
  rw [hE]
  exact ⟨fun b h=>⟨h,by rw [hh]⟩,fun _ h=>h,fun _ _ _ h=>⟨h,by rw [hh]⟩,fun _ _ _ h=>h,fun _ _ _ _ _ h=>h⟩
 have:=r.next (o':=s.o) (G':=G) (w':=w') k r.len (fun i ob g hl hlive=>(r.ok i ob g hl hlive).keeps k (fun _ _=>by rw [hh])) r.apart
  (fun i ob g b hl hlive hF=>by have:=r.fresh i ob g b hl hlive hF;rw [hh];exact this) (by rw [hh];exact Nat.le_refl _) (fun _ _ _=>by rw [hh]) same
 exact this
theorem aT7 (f:Operand) (args:Array Operand) (tys:Array TypeId) {g:FuncId} {cap:List AV} {rr:AV} (hf:s.ev f= .fn g cap)
  (hok:OkN P g (qF s.o (s.args args++cap)) rr):
  Step P B ⟨dst,.call {callee:= .value f,args:=args,argTypes:=tys},ty,pos,after,gd⟩ s (s.put dst rr):=by
 rintro a w next Q ⟨G,r⟩ hn
 have h1:=r.ev f
 rw [hf] at h1
 simp only [R] at h1
 obtain ⟨_,cs,hv,hcap⟩:=h1
 have hargs:Rc w (env B s.o G w) (s.args args++cap) (args.toList.map a.eval++cs) []:=by
  have:=gT (pK r args.toList) hcap
  simpa [AS.args] using this
 obtain ⟨v,w',hrun0,hh,hsame,hR⟩:=hok w _ (aDn r _ _ hargs)
 unfold Oper.wp
 have hrun:(execOp a.eval ⟨dst,.call {callee:= .value f,args:=args,argTypes:=tys},ty,pos,after,gd⟩).run P w= .ok (.value v) w':=by
  have e:args.map a.eval++cs.toArray=(args.toList.map a.eval++cs).toArray:=by apply Array.ext';simp
  simp [execOp,resolve,hv,Deferred.ofValue,invoke,e,hrun0]
 rw [hrun,Oper.upon_value]
 exact hn _ _ ⟨G,(r.heap hh hsame).put dst (hR _ _)⟩
end
end Go.Aw
