/- Proved here: steps towards the statement of this claim. No condition. -/
import Derived.WalkKit
set_option linter.all false
namespace Go.Aw
open List
def aE:= @List.getElem?_eq_getElem
def cH:= @List.getElem?_eq_some_iff
def cQ:= @Option.some.inj
def cU:= @List.set_cons_zero
def cW:= @List.set_cons_succ
def cX:= @if_neg
def cY:= @List.take_of_length_le
def eA:= @List.cons_append
def eC:= @Option.some.injEq
def eE:= @Nat.le_refl
def eI:= @if_pos
def eJ:= @Bool.and_eq_true
def eK:= @List.take_succ_eq_append_getElem
def eL:= @List.take_succ_cons
def eM:= @List.nil_append
def eN:= @List.length_cons
def eR:= @List.length_append
def eS:= @Bool.false_eq_true
def eV:= @Bool.and_eq_true_iff
def eW:= @List.length_nil
def fL:= @List.mem_append
def fN:= @List.getElem_mem
def fR:= @decide_eq_true_eq
def fS:= @List.take_zero
def fW:= @List.all_eq_true
def fX:= @Array.getD_eq_getD_getElem?
def fY:= @List.append_nil
def gC:= @Go.run_underlying
def gE:= @Go.World.cell?_setCell_other
def gO:= @if_true
def gR:= @List.nodup_append
def gS:= @List.getD_eq_getElem?_getD
def hH:= @if_false
def hM:= @Nat.le_trans
def hS:= @List.getElem?_append_right
def hY:= @Nat.mul_le_mul_right
def iS:= @Bool.exists_bool
def kO:= @List.eq_nil_of_length_eq_zero
def lA:= @Nat.zero_add
def lB:= @List.getElem?_set_ne
def lE:= @List.mem_cons
def lO:= @Go.Result.andThen_ok
def lP:= @Int.toNat_natCast
def lR:= @List.nodup_cons
def mA:= @List.map_cons
def mB:= @Int.eq_ofNat_of_zero_le
def mC:= @Option.map_some
def mL:= @List.drop_eq_getElem_cons
def mN:= @List.mem_append_left
def mS:= @List.mem_of_getElem?
def mT:= @Go.Sem.run_bind
def nB:= @List.getElem?_set_self
def nF:= @List.take_append_drop
def oA:= @List.length_filter_le
def oB:= @Nat.add_assoc
def oE:= @Prod.mk.injEq
def oR:= @List.length_take
def oS:= @List.map_append
def oT:= @Nat.lt_of_lt_of_le
def oX:= @List.length_map
def oY:= @List.mem_of_find?_eq_some
def pA:= @List.getElem?_eq_none
def pB:= @List.drop_succ_cons
def pC:= @Go.Addr.mk.injEq
def pD:= @List.count_le_length
def pH:= @List.getElem?_append_left
def pL:= @List.flatten_cons
def pN:= @Nat.lt_irrefl
def pP:= @Go.World.cell?_setCell_same
def pS:= @Nat.add_mul
def pT:= @decide_eq_false_iff_not
def pZ:= @List.mem_singleton
def qS:= @List.replicate_succ
def rB:= @Option.getD_some
def rI:= @decide_eq_decide
def rK:= @and_true
def rL:= @decide_eq_true
def rN:= @Nat.add_zero
def rS:= @List.Sublist.refl
def sA:= @Go.Sem.run_pure
def sB:= @Nat.lt_or_ge
def sC:= @List.getElem?_cons_zero
def sE:= @List.mem_append_right
def sL:= @List.getElem?_map
def sR:= @Array.getElem?_append_left
def sX:= @Option.map_eq_some_iff
def sY:= @Array.getElem?_eq_some_iff
def tA:= @Int.tmod_eq_emod_of_nonneg
def tB:= @List.mem_of_mem_take
def tD:= @Bool.or_eq_true
def tE:= @Array.getElem?_eq_getElem
def tG:= @List.getElem?_eq_none_iff
def tI:= @Classical.byContradiction
def tM:= @List.exists_cons_of_ne_nil
def tP:= @Bool.and_eq_false_iff
def tR:= @Option.bind_some
def tU:= @List.getElem?_cons_succ
def tW:= @List.set_append_right
def vA:= @List.length_eq_zero_iff
def wA:= @Bool.not_eq_true
def xF:= @List.append_assoc
def yW:= @Nat.sub_self
def zE:= @List.length_drop
def An:= @congrArg
def As:= @List.take_length
def At:= @List.drop_drop
def Ax:= @decide_eq_false
def AD:= @Ne.symm
def AE:= @Nat.succ_mul
def AF:= @List.drop_zero
def AG:= @List.eq_nil_or_concat
def AH:= @List.mem_map
def AI:= @List.mem_cons_of_mem
def AK:= @List.drop_of_length_le
def AM:= @List.getElem?_take
def AN:= @Go.World.cell?_setCells_out
def AT:= @Option.isSome_iff_exists
def AW:= @List.take_append_of_le_length
def Bk:= @Go.World.cell?_setCells_in
def Bm:= @Go.IntKind.wrap_i64
def Bs:= @beq_iff_eq
def Bx:= @List.ext_getElem?
def By:= @List.mem_of_mem_drop
def BE:= @UInt8.toNat_inj
def BT:= @Bool.true_and
def BW:= @Array.toList_setIfInBounds
def BY:= @decide_true
def Cd:= @List.replicate_zero
def Cl:= @List.length_pos_iff
def Cp:= @UInt8.toNat_lt
def CA:= @Nat.le_of_eq
def CC:= @Array.toList_map
def CD:= @Array.mapM_eq_mapM_toList
def CH:= @Go.Value.pointer.injEq
def CI:= @beq_eq_false_iff_ne
def CM:= @List.set_eq_of_length_le
def CN:= @List.all_cons
def CT:= @List.find?_eq_none
def Dd:= @Bool.not_true
def Dg:= @List.map_nil
def Ds:= @Nat.min_eq_left
def DA:= @UInt8.toNat.inj
def DB:= @Go.grownCap_le_maxLen
def DE:= @Array.ext'
def DG:= @List.find?_some
def DH:= @List.mem_filter
def DM:= @Array.all_eq_true'
def DO:= @Classical.not_not
def DP:= @Bool.not_eq_true'
def DQ:= @Bool.not_false
def DS:= @List.foldl_append
def Ek:= @and_assoc
def EV:= @List.range_succ
def Fi:= @Bool.and_self
def Fk:= @List.mem_flatMap
def Fl:= @List.getElem_map
def Fm:= @and_self
theorem aA {a b:Prop} (h:a) (k:b):a/\b:=⟨h,k⟩
inductive Tg where
  | own
  | view
  | kG (i : Nat)
inductive AV where
  | int (k : IntKind) (n : Int)
  | bool (b : Bool)
  | str (s : List UInt8)
  | sl (g : Tg) (n : Nat) (l : List (List AV))
  | fA (g : Tg) (c : List AV) (off : Nat)
  | obj (i cZ : Nat)
  | ptr (i cZ idx off : Nat)
  | agg (c : List AV)
  | gZ (c : List AV)
  | fn (f : FuncId) (c : List AV)
  | undef
instance : Inhabited AV := ⟨.undef⟩
structure Env where
  A : Nat -> Prop
  V : Nat -> Prop
  D : Nat -> Nat -> Prop
  H : Nat -> Nat -> Value -> Prop
  L : Nat -> Nat -> Nat -> Nat -> Value -> Prop
def Env.tg (E:Env):Tg->Nat->Prop
 | .own,_=>False
 | .view,b=>E.A b
 | .kG i,b=>E.D i b
def Env.dead (E:Env):Tg->Prop
 | .kG i=>¬E.V i
 |_=>False
def Env.plain (E:Env):Env where
 A:=E.A
 V _:=True
 D _ _:=False
 H _ _ _:=False
 L _ _ _ _ _:=False
def Env.sub (E:Env):Tg->Env
 | .kG i=>{E.plain with D:=λj b=>j=i/\E.D i b}
 |_=>E.plain
def bN (w:World) (b off:Nat) (cs:List Value):Prop:=∀j v,cs[j]? =some v->w.cell? ⟨b,off+j,none⟩=some v
mutual
def R (w : World) : Env -> AV -> Value -> List Nat -> Prop
  | _, .int k n, v, fp => v = .int k n /\ fp = []
  | _, .bool b, v, fp => v = .bool b /\ fp = []
  | _, .str s, v, fp => v = .string ⟨s.toArray⟩ /\ fp = []
  | E, .sl g n l, v, fp => (E.dead g /\ fp = []) \/ ∃ a cap, v = .slice a l.length cap /\ (l.length <= maxLen /\ l.length <= cap) /\
      ((g = .own /\ l = [] /\ cap = 0 /\ fp = []) \/
       (g = .own /\ ∃ b off C e fz rD, a = some ⟨b, off, none⟩ /\ w.heap[b]? = some (.cells C e fz) /\ ((C.size <= fz.1 /\ n = 1) \/ fz.2 = 0) /\
          off + cap * n <= C.size /\ l.length <= cap /\ cap <= maxLen /\ fp = b :: rD /\ Rr w (E.sub g) l b off n rD) \/
       (g ≠ .own /\ fp = [] /\ (l = [] \/ ∃ b off, a = some ⟨b, off, none⟩ /\ E.tg g b /\ Rr w (E.sub g) l b off n [])))
  | E, .fA g c off, v, fp => (E.dead g /\ fp = []) \/ fp = [] /\ ∃ b o cs, v = .pointer (some ⟨b, o + off, none⟩) /\ E.tg g b /\ bN w b o cs /\ (∀ x ∈ cs, x.oneCell' = true) /\ Rc w (E.sub g) c cs []
  | E, .obj i cZ, v, fp => fp = [] /\ E.H i cZ v
  | E, .ptr i cZ idx off, v, fp => fp = [] /\ E.L i cZ idx off v
  | E, .agg c, v, fp => ∃ cs : List Value, v = .agg cs.toArray /\ (∀ x ∈ cs, x.oneCell' = true) /\ Rc w E c cs fp
  | E, .gZ c, v, fp => ∃ cs : List Value, v = .tuple cs.toArray /\ Rc w E c cs fp
  | E, .fn f c, v, fp => fp = [] /\ ∃ cs : List Value, v = .func (.func f) #[] cs.toArray /\ Rc w E c cs []
  | _, .undef, _, fp => fp = []
def Rc (w : World) : Env -> List AV -> List Value -> List Nat -> Prop
  | _, [], [], fp => fp = []
  | E, x :: xs, c :: cs, fp => ∃ f1 f2, R w E x c f1 /\ Rc w E xs cs f2 /\ fp = f1 ++ f2
  | _, _, _, _ => False
def Rr (w : World) : Env -> List (List AV) -> Nat -> Nat -> Nat -> List Nat -> Prop
  | _, [], _, _, _, fp => fp = []
  | E, e :: es, b, off, n, fp => ∃ cs f1 f2, cs.length = n /\ bN w b off cs /\ (∀ x ∈ cs, x.oneCell' = true) /\ Rc w E e cs f1 /\ Rr w E es b (off + n) n f2 /\ fp = f1 ++ f2
end
theorem bN.same {w w':World} {b off:Nat} {cs:List Value} (h:bN w b off cs) (hb:w'.heap[b]? =w.heap[b]?):bN w' b off cs:=by intro j v hv;have:=h j v hv;simpa [World.cell?,hb] using this
structure fK (w : World) (E : Env) (w' : World) (E' : Env) : Prop where
  a : ∀ b, E.A b -> E'.A b /\ w'.heap[b]? = w.heap[b]?
  v : ∀ i, E'.V i -> E.V i
  d : ∀ i b, E'.V i -> E.D i b -> E'.D i b /\ w'.heap[b]? = w.heap[b]?
  h : ∀ i v x, E.H i v x -> E'.H i v x
  l : ∀ i v j o x, E.L i v j o x -> E'.L i v j o x
theorem fK.tg {w w':World} {E E':Env} (k:fK w E w' E') {g:Tg} {b:Nat} (h:E.tg g b) (hd:¬E'.dead g):E'.tg g b/\w'.heap[b]? =w.heap[b]?:=by
 cases g with
 |own=>exact h.elim
 |view=>exact k.a b h
 |kG i=>exact k.d i b (DO.1 hd) h
theorem fK.dead {w w':World} {E E':Env} (k:fK w E w' E') {g:Tg} (h:E.dead g):E'.dead g:=by
 cases g with
 |own=>exact h
 |view=>exact h
 |kG i=>exact λhv=>h (k.v i hv)
theorem fK.plain {w w':World} {E E':Env} (k:fK w E w' E'):fK w E.plain w' E'.plain:=
 ⟨k.a,λ_ _=>trivial,λ_ _ _ h=>h.elim,λ_ _ _ h=>h.elim,λ_ _ _ _ _ h=>h.elim⟩
theorem fK.sub {w w':World} {E E':Env} (k:fK w E w' E') (g:Tg) (hd:¬E'.dead g):fK w (E.sub g) w' (E'.sub g):=by
 cases g with
 |own=>exact k.plain
 |view=>exact k.plain
 |kG i=>exact ⟨k.a,λ_ _=>trivial,λj b _ h=>⟨⟨h.1,(k.d i b (DO.1 hd) h.2).1⟩,(k.d i b (DO.1 hd) h.2).2⟩,λ_ _ _ h=>h.elim,λ_ _ _ _ _ h=>h.elim⟩
mutual
theorem pR {w w':World} {E E':Env} (k:fK w E w' E'):∀(av:AV) (v:Value) (fp:List Nat),(∀b∈fp,w'.heap[b]? =w.heap[b]?)->R w E av v fp->R w' E' av v fp
 | .int _ _,_,_,_,h=>by simpa [R] using h
 | .bool _,_,_,_,h=>by simpa [R] using h
 | .str _,_,_,_,h=>by simpa [R] using h
 | .sl g n l,v,fp,hf,h=>by
  simp only [R] at h⊢;rcases h with h|⟨a,cap,hv,hl,h⟩
  .exact .inl ⟨k.dead h.1,h.2⟩
  by_cases hd:E'.dead g
  .refine .inl ⟨hd,?_⟩;rcases h with h|⟨hg,_⟩|⟨_,h,_⟩
   .exact h.2.2.2
   .subst hg;exact hd.elim
   .exact h
  refine .inr ⟨a,cap,hv,hl,?_⟩;rcases h with h|⟨hg,b,off,C,e,fz,rD,ha,hb,hz,h1,h2,h3,JR,hr⟩|⟨hg,JR,h⟩
  .exact .inl h
  .subst JR;refine .inr (.inl ⟨hg,b,off,C,e,fz,rD,ha,?_,hz,h1,h2,h3,rfl,?_⟩)
   .rw [hf b (by simp)];exact hb
   .exact oI (k.sub g hd) l b off n rD (hf b (by simp)) (λx hx=>hf x (by simp [hx])) hr
  .refine .inr (.inr ⟨hg,JR,?_⟩);rcases h with h|⟨b,off,ha,ht,hr⟩
   .exact .inl h
   .have:=k.tg ht hd;exact .inr ⟨b,off,ha,this.1,oI (k.sub g hd) l b off n [] this.2 (by simp) hr⟩
 | .fA g c off,v,fp,_,h=>by
  simp only [R] at h⊢;rcases h with h|⟨JR,b,o,cs,hv,ht,hcs,hc,hr⟩
  .exact .inl ⟨k.dead h.1,h.2⟩
  by_cases hd:E'.dead g
  .exact .inl ⟨hd,JR⟩
  have:=k.tg ht hd;exact .inr ⟨JR,b,o,cs,hv,this.1,hcs.same this.2,hc,fB (k.sub g hd) c cs [] (by simp) hr⟩
 | .obj i cZ,v,fp,_,h=>by simp only [R] at h⊢;exact ⟨h.1,k.h _ _ _ h.2⟩
 | .ptr i cZ idx off,v,fp,_,h=>by simp only [R] at h⊢;exact ⟨h.1,k.l _ _ _ _ _ h.2⟩
 | .agg c,v,fp,hf,h=>by simp only [R] at h⊢;obtain ⟨cs,hv,hc,hr⟩:=h;exact ⟨cs,hv,hc,fB k c cs fp hf hr⟩
 | .gZ c,v,fp,hf,h=>by simp only [R] at h⊢;obtain ⟨cs,hv,hr⟩:=h;exact ⟨cs,hv,fB k c cs fp hf hr⟩
 | .fn f c,v,fp,_,h=>by simp only [R] at h⊢;obtain ⟨JR,cs,hv,hr⟩:=h;exact ⟨JR,cs,hv,fB k c cs [] (by simp) hr⟩
 | .undef,_,_,_,h=>by simpa [R] using h
theorem fB {w w':World} {E E':Env} (k:fK w E w' E'):∀(c:List AV) (cs:List Value) (fp:List Nat),(∀b∈fp,w'.heap[b]? =w.heap[b]?)->Rc w E c cs fp->Rc w' E' c cs fp
 |[],[],_,_,h=>by simpa [Rc] using h
 |[],_::_,_,_,h=>by simp [Rc] at h
 |_::_,[],_,_,h=>by simp [Rc] at h
 |x::xs,c::cs,fp,hf,h=>by simp only [Rc] at h⊢;obtain ⟨f1,f2,h1,h2,rfl⟩:=h;exact ⟨f1,f2,pR k x c f1 (λb hb=>hf b (by simp [hb])) h1,fB k xs cs f2 (λb hb=>hf b (by simp [hb])) h2,rfl⟩
theorem oI {w w':World} {E E':Env} (k:fK w E w' E'):∀(l:List (List AV)) (b off n:Nat) (fp:List Nat),w'.heap[b]? =w.heap[b]?->(∀b∈fp,w'.heap[b]? =w.heap[b]?)->Rr w E l b off n fp->Rr w' E' l b off n fp
 |[],_,_,_,_,_,_,h=>by simpa [Rr] using h
 |e::es,b,off,n,fp,hb,hf,h=>by simp only [Rr] at h⊢;obtain ⟨cs,f1,f2,hn,hcs,hc,h1,h2,rfl⟩:=h;exact ⟨cs,f1,f2,hn,hcs.same hb,hc,fB k e cs f1 (λb hb=>hf b (by simp [hb])) h1,oI k es b (off+n) n f2 hb (λb hb=>hf b (by simp [hb])) h2,rfl⟩
end
def AV.kept (h:Bool) (x:AV):AV:=if h then x else .undef
mutual
def rt (f:Tg->Option Tg) (h:Bool):AV->AV
 | .int k n=> .int k n
 | .bool b=> .bool b
 | .str s=> .str s
 | .sl g n l=>match f g with
  |some g'=> .sl g' n (mM f h l)
  |none=> .undef
 | .fA g c off=>match f g with
  |some g'=> .fA g' (xM f h c) off
  |none=> .undef
 | .obj i v=>AV.kept h (.obj i v)
 | .ptr i v j o=>AV.kept h (.ptr i v j o)
 | .agg c=> .agg (xM f h c)
 | .gZ c=> .gZ (xM f h c)
 | .fn g c=> .fn g (xM f h c)
 | .undef=> .undef
def xM (f:Tg->Option Tg) (h:Bool):List AV->List AV
 |[]=>[]
 |x::xs=>rt f h x::xM f h xs
def mM (f:Tg->Option Tg) (h:Bool):List (List AV)->List (List AV)
 |[]=>[]
 |x::xs=>xM f h x::mM f h xs
end
theorem lV (f:Tg->Option Tg) (h:Bool):∀l,(mM f h l).length=l.length
 |[]=>rfl
 |_::xs=>by simp [mM,lV f h xs]
structure nJ (f : Tg -> Option Tg) (h : Bool) (E E' : Env) (O : Nat -> Prop) : Prop where
  own : ∀ g, f .own = some g -> g ≠ .own /\ ∀ b, O b -> E'.tg g b
  view : ∀ g, f .view = some g -> g = .view /\ ∀ b, E.A b -> E'.A b
  kG : ∀ i g, f (.kG i) = some g -> g ≠ .own /\ (E.V i \/ E'.dead g) /\ ∀ b, E.D i b -> E'.tg g b
  hh : h = true -> ∀ i v x, E.H i v x -> E'.H i v x
  hl : h = true -> ∀ i v j o x, E.L i v j o x -> E'.L i v j o x
theorem nJ.ne {f:Tg->Option Tg} {h:Bool} {E E':Env} {O:Nat->Prop} (k:nJ f h E E' O) {g g':Tg} (e:f g=some g'):g'≠ .own:=by
 cases g with
 |own=>exact (k.own _ e).1
 |view=>rw [(k.view _ e).1];simp
 |kG i=>exact (k.kG i _ e).1
theorem nJ.tg {f:Tg->Option Tg} {h:Bool} {E E':Env} {O:Nat->Prop} (k:nJ f h E E' O) {g g':Tg} {b:Nat} (e:f g=some g') (ht:E.tg g b):E'.tg g' b:=by
 cases g with
 |own=>exact ht.elim
 |view=>rw [(k.view _ e).1];exact (k.view _ e).2 b ht
 |kG i=>exact (k.kG i _ e).2.2 b ht
theorem nJ.dead {f:Tg->Option Tg} {h:Bool} {E E':Env} {O:Nat->Prop} (k:nJ f h E E' O) {g g':Tg} (e:f g=some g') (hd:E.dead g):E'.dead g':=by
 cases g with
 |own=>exact hd.elim
 |view=>exact hd.elim
 |kG i=>exact (k.kG i _ e).2.1.resolve_left hd
theorem nJ.sub {f:Tg->Option Tg} {h:Bool} {E E':Env} {O:Nat->Prop} (k:nJ f h E E' O) {g g':Tg} (e:f g=some g') (hd:¬E.dead g)
  {O':Nat->Prop} (ho:∀b,O' b->g= .own/\O b):nJ f h (E.sub g) (E'.sub g') O' where
 own g2 e2:=⟨(k.own g2 e2).1,λb hb=>by
  obtain ⟨rfl,hO⟩:=ho b hb;rw [e] at e2;obtain rfl:=cQ e2;have:=(k.own _ e).2 b hO;cases g' with
  |own=>exact this.elim
  |view=>exact this
  |kG i=>exact ⟨rfl,this⟩⟩
 view g2 e2:=⟨(k.view g2 e2).1,λb hA=>by
  have h1:=(k.view g2 e2).2 b (by cases g<;>exact hA);cases g'<;>exact h1⟩
 kG i g2 e2:=by
  refine ⟨(k.kG i g2 e2).1,.inl (by cases g<;>trivial),λb hD=> ?_⟩;cases g with
  |own=>exact hD.elim
  |view=>exact hD.elim
  |kG j=>
   obtain ⟨rfl,hD⟩:=hD;rw [e] at e2;obtain rfl:=cQ e2;have:=(k.kG _ _ e).2.2 b hD;cases g' with
   |own=>exact this.elim
   |view=>exact this
   |kG i=>exact ⟨rfl,this⟩
 hh _ i v x hx:=by cases g<;>exact hx.elim
 hl _ i v j o x hx:=by cases g<;>exact hx.elim
mutual
theorem aNc {w:World} {f:Tg->Option Tg} {h:Bool} {E E':Env} {O:Nat->Prop} (k:nJ f h E E' O):∀(av:AV) (v:Value) (fp:List Nat),(∀b∈fp,O b)->R w E av v fp->R w E' (rt f h av) v []
 | .int _ _,_,_,_,r=>by simp only [R,rt] at r⊢;exact ⟨r.1,trivial⟩
 | .bool _,_,_,_,r=>by simp only [R,rt] at r⊢;exact ⟨r.1,trivial⟩
 | .str _,_,_,_,r=>by simp only [R,rt] at r⊢;exact ⟨r.1,trivial⟩
 | .sl g n l,v,fp,hf,r=>by
  simp only [rt];cases e:f g with
  |none=>simp [R]
  |some g'=>
   simp only [R,lV] at r⊢;rcases r with r|⟨a,cap,hv,hl,r⟩
   .exact .inl ⟨k.dead e r.1,trivial⟩
   by_cases hd:E.dead g
   .refine .inl ⟨k.dead e hd,trivial⟩
   refine .inr ⟨a,cap,hv,hl,.inr (.inr ⟨k.ne e,trivial,?_⟩)⟩;rcases r with ⟨_,rfl,_⟩|⟨rfl,b,off,C,ty,fz,rD,ha,hb,hz,h1,h2,h3,rfl,hr⟩|⟨hg,JR,r⟩
   .exact .inl rfl
   .exact .inr ⟨b,off,ha,(k.own _ e).2 b (hf b (by simp)),HV (k.sub e (λh=>h) (O':=O) (λb hb=>⟨rfl,hb⟩)) l b off n rD (λb hb=>hf b (by simp [hb])) hr⟩
   .rcases r with rfl|⟨b,off,ha,ht,hr⟩
    .exact .inl rfl
    .exact .inr ⟨b,off,ha,k.tg e ht,HV (k.sub e hd (O':=λ_=>False) (λ_ hb=>hb.elim)) l b off n [] (by simp) hr⟩
 | .fA g c off,v,fp,_,r=>by
  simp only [rt];cases e:f g with
  |none=>simp [R]
  |some g'=>
   simp only [R] at r⊢;rcases r with r|⟨JR,b,o,cs,hv,ht,hcs,hc,hr⟩
   .exact .inl ⟨k.dead e r.1,trivial⟩
   by_cases hd:E.dead g
   .exact .inl ⟨k.dead e hd,trivial⟩
   exact .inr ⟨trivial,b,o,cs,hv,k.tg e ht,hcs,hc,yN (k.sub e hd (O':=λ_=>False) (λ_ hb=>hb.elim)) c cs [] (by simp) hr⟩
 | .obj i cZ,v,fp,_,r=>by
  cases h with
  |false=>simp [rt,R,AV.kept]
  |true=>simp only [R,rt,AV.kept,gO] at r⊢;exact ⟨trivial,k.hh rfl _ _ _ r.2⟩
 | .ptr i cZ idx off,v,fp,_,r=>by
  cases h with
  |false=>simp [rt,R,AV.kept]
  |true=>simp only [R,rt,AV.kept,gO] at r⊢;exact ⟨trivial,k.hl rfl _ _ _ _ _ r.2⟩
 | .agg c,v,fp,hf,r=>by simp only [R,rt] at r⊢;obtain ⟨cs,hv,hc,hr⟩:=r;exact ⟨cs,hv,hc,yN k c cs fp hf hr⟩
 | .gZ c,v,fp,hf,r=>by simp only [R,rt] at r⊢;obtain ⟨cs,hv,hr⟩:=r;exact ⟨cs,hv,yN k c cs fp hf hr⟩
 | .fn g c,v,fp,_,r=>by simp only [R,rt] at r⊢;obtain ⟨JR,cs,hv,hr⟩:=r;exact ⟨trivial,cs,hv,yN k c cs [] (by simp) hr⟩
 | .undef,_,_,_,_=>by simp [R,rt]
theorem yN {w:World} {f:Tg->Option Tg} {h:Bool} {E E':Env} {O:Nat->Prop} (k:nJ f h E E' O):∀(c:List AV) (cs:List Value) (fp:List Nat),(∀b∈fp,O b)->Rc w E c cs fp->Rc w E' (xM f h c) cs []
 |[],[],_,_,_=>by simp [Rc,xM]
 |[],_::_,_,_,r=>by simp [Rc] at r
 |_::_,[],_,_,r=>by simp [Rc] at r
 |x::xs,c::cs,fp,hf,r=>by simp only [Rc,xM] at r⊢;obtain ⟨f1,f2,h1,h2,rfl⟩:=r;exact ⟨[],[],aNc k x c f1 (λb hb=>hf b (by simp [hb])) h1,yN k xs cs f2 (λb hb=>hf b (by simp [hb])) h2,rfl⟩
theorem HV {w:World} {f:Tg->Option Tg} {h:Bool} {E E':Env} {O:Nat->Prop} (k:nJ f h E E' O):∀(l:List (List AV)) (b off n:Nat) (fp:List Nat),(∀b∈fp,O b)->Rr w E l b off n fp->Rr w E' (mM f h l) b off n []
 |[],_,_,_,_,_,_=>by simp [Rr,mM]
 |e::es,b,off,n,fp,hf,r=>by simp only [Rr,mM] at r⊢;obtain ⟨cs,f1,f2,hn,hcs,hc,h1,h2,rfl⟩:=r;exact ⟨cs,[],[],hn,hcs,hc,yN k e cs f1 (λb hb=>hf b (by simp [hb])) h1,HV k es b (off+n) n f2 (λb hb=>hf b (by simp [hb])) h2,rfl⟩
end
structure aN where
  live : Bool
  box : Bool
  n : Nat
  cZ : Nat
  eQ : List (List AV)
structure CO where
  a : Option Addr
  cap : Nat
  F : Nat -> Prop
structure AS where
  t : List AV
  o : List aN
class aC (P : Program) where
  holds : World -> Prop
  low : Nat
  Qb : ∀ w, holds w -> low <= w.heap.size
  WB : ∀ w w', holds w -> (∀ b, b < low -> w'.heap[b]? = w.heap[b]?) -> holds w'
structure gV (P : Program) [aC P] where
  w0 : World
  A0 : Nat -> Prop
  O0 : Nat -> Prop
  h0 : Nat -> Option Value
  p0 : Nat -> Option (Value × Nat)
  xO : aC.holds P w0
  Yc : ∀ b, O0 b -> aC.low P <= b
  gA : ∀ b, O0 b -> A0 b
def look (o:List aN) (G:List CO) (i:Nat) (ob:aN) (g:CO):Prop:=o[i]? =some ob/\G[i]? =some g
def env {P:Program} [aC P] (B:gV P) (o:List aN) (G:List CO) (w:World):Env where
 A b:=(B.A0 b\/(B.w0.heap.size<=b/\b < w.heap.size))/\∀i ob g,look o G i ob g->ob.live=true->¬g.F b
 V i:=∀ob,o[i]? =some ob->ob.live=true
 D i b:=∃ob g,look o G i ob g/\ob.live=true/\g.F b/\∀a,g.a=some a->b≠a.block
 H i cZ v:=∃ob g,look o G i ob g/\cZ<=ob.cZ/\(ob.live=true->ob.cZ=cZ->v= .slice g.a ob.eQ.length g.cap)/\(cZ=0->∀x,B.h0 i=some x->v=x)
 L i cZ idx off v:=∃ob g,look o G i ob g/\cZ<=ob.cZ/\(ob.live=true->ob.cZ=cZ->∃b f,g.a=some ⟨b,f,none⟩/\v= .pointer (some ⟨b,f+(idx * ob.n+off),none⟩))/\(ob.box=true->cZ=2->idx=0->off=0->∀x,B.p0 i=some x->v=x.1/\(ob.live=true->ob.cZ=2->g.cap=x.2))
def Env.of (E:Env) (box:Bool):Env:=if box then E else E.plain
def wF (w:World) (E:Env) (n:Nat) (l:List (List AV)) (a:Option Addr) (cap:Nat) (fp:List Nat):Prop:=
 l.length<=maxLen/\((l=[]/\cap=0/\fp=[])\/
  ∃b off C e fz rD,a=some ⟨b,off,none⟩/\w.heap[b]? =some (.cells C e fz)/\((C.size<=fz.1/\n=1)\/fz.2=0)/\
   off+cap * n<=C.size/\l.length<=cap/\cap<=maxLen/\fp=b::rD/\Rr w E l b off n rD)
theorem wB {w:World} {E:Env} {n:Nat} {l:List (List AV)} {v:Value} {fp:List Nat}:
  R w E (.sl .own n l) v fp↔∃a cap,v= .slice a l.length cap/\wF w E.plain n l a cap fp:=by
 simp only [R,wF];constructor
 .rintro (⟨h,_⟩|⟨a,cap,hv,hl,h|h|h⟩)
  .exact h.elim
  .exact ⟨a,cap,hv,hl.1,.inl h.2⟩
  .exact ⟨a,cap,hv,hl.1,.inr h.2⟩
  .exact absurd rfl h.1
 .rintro ⟨a,cap,hv,hl,h|h⟩
  .exact .inr ⟨a,cap,hv,⟨hl,by simp [h.1]⟩,.inl ⟨trivial,h⟩⟩
  .exact .inr ⟨a,cap,hv,⟨hl,by obtain ⟨b,off,C,e,fz,rD,_,_,_,_,h,_⟩:=h;exact h⟩,.inr (.inl ⟨trivial,h⟩)⟩
def JS (w:World) (E:Env) (ob:aN) (g:CO):Prop:=
 ∃fp,wF w (E.of ob.box) ob.n ob.eQ g.a g.cap fp/\fp.Nodup/\∀b∈fp,g.F b
structure oD (w w' : World) : Prop where
  os : w'.os = w.os
  tape : w'.tape = w.tape
  output : w'.output = w.output
theorem oD.rfl {w:World}:oD w w:=⟨Eq.refl _,Eq.refl _,Eq.refl _⟩
theorem oD.trans {a b c:World} (h:oD a b) (k:oD b c):oD a c:=⟨k.os.trans h.os,k.tape.trans h.tape,k.output.trans h.output⟩
structure eF {P : Program} [aC P] (B : gV P) (s : AS) (G : List CO) (a : Act) (w : World) : Prop where
  len : G.length = s.o.length
  defs : a.defers = []
  ok : ∀ i ob g, look s.o G i ob g -> ob.live = true -> JS w (env B s.o G w) ob g
  apart : ∀ i j oi oj gi gj b, look s.o G i oi gi -> look s.o G j oj gj -> oi.live = true -> oj.live = true -> gi.F b -> gj.F b -> i = j
  fresh : ∀ i ob g b, look s.o G i ob g -> ob.live = true -> g.F b -> (B.O0 b \/ B.w0.heap.size <= b) /\ b < w.heap.size
  tmps : Rc w (env B s.o G w) s.t a.tmps.toList []
  size : B.w0.heap.size <= w.heap.size
  frame : ∀ b, b < B.w0.heap.size -> ¬ B.O0 b -> w.heap[b]? = B.w0.heap[b]?
  base : ∀ b, B.A0 b -> b < B.w0.heap.size
  same : oD B.w0 w
def Rel {P:Program} [aC P] (B:gV P) (s:AS) (a:Act) (w:World):Prop:=∃G,eF B s G a w
theorem eF.holds {P:Program} [aC P] {B:gV P} {s:AS} {G:List CO} {a:Act} {w:World} (r:eF B s G a w):aC.holds P w:=
 aC.WB B.w0 w B.xO λb hb=>r.frame b (oT hb (aC.Qb _ B.xO)) λh=>absurd (B.Yc b h) (by omega)
theorem eF.Yc {P:Program} [aC P] {B:gV P} {s:AS} {G:List CO} {a:Act} {w:World} (_:eF B s G a w) {b:Nat} (h:B.O0 b\/B.w0.heap.size<=b):aC.low P<=b:=
 h.elim (B.Yc b) λh=>hM (aC.Qb _ B.xO) h
theorem fK.of {w w':World} {E E':Env} (k:fK w E w' E') (box:Bool):fK w (E.of box) w' (E'.of box):=by
 cases box
 .exact k.plain
 .exact k
theorem Yd (w:World) (E:Env):fK w E.plain w E:=
 ⟨λ_ h=>⟨h,rfl⟩,λ_ _=>trivial,λ_ _ _ h=>h.elim,λ_ _ _ h=>h.elim,λ_ _ _ _ _ h=>h.elim⟩
theorem wR {P:Program} [aC P] {B:gV P} {s:AS} {G:List CO} {a:Act} {w:World} (r:eF B s G a w) {b:Nat} (h:(env B s.o G w).A b):b < w.heap.size:=by
 rcases h.1 with h|h
 .exact oT (r.base b h) r.size
 .exact h.2
theorem De {P:Program} [aC P] {B:gV P} {o o':List aN} {G G':List CO} {w w':World} (hs:w.heap.size<=w'.heap.size)
  (hA:∀b,(env B o G w).A b->b < w.heap.size/\w'.heap[b]? =w.heap[b]?)
  (hlen:G.length=o.length)
  (h2:∀i ob g,look o G i ob g->∃fZ g',look o' G' i fZ g'/\ob.cZ<=fZ.cZ/\(fZ.box=true->ob.box=true\/ob.cZ < 2)/\(fZ.live=true->ob.live=true/\fZ.n=ob.n/\
   (fZ.cZ=ob.cZ->g'.a=g.a/\g'.cap=g.cap/\fZ.eQ.length=ob.eQ.length)/\
   (∀b,g.F b->(∀a,g.a=some a->b≠a.block)->g'.F b/\(∀a,g'.a=some a->b≠a.block)/\w'.heap[b]? =w.heap[b]?)))
  (h3:∀i fZ g' b,look o' G' i fZ g'->fZ.live=true->g'.F b->w.heap.size<=b\/∃j ob g,look o G j ob g/\ob.live=true/\g.F b):
  fK w (env B o G w) w' (env B o' G' w') where
 a b h:=by
  refine ⟨⟨?_,?_⟩,(hA b h).2⟩
  .rcases h.1 with h1|h1
   .exact .inl h1
   .exact .inr ⟨h1.1,oT h1.2 hs⟩
  .intro i fZ g' hl hlive hf;rcases h3 i fZ g' b hl hlive hf with h5|⟨j,ob,g,BZ,xP,hf'⟩
   .have:=(hA b h).1;omega
   .exact h.2 j ob g BZ xP hf'
 v i h ob wG:=by
  have hi:i < G.length:=by rw [hlen];exact (cH.1 wG).1
  obtain ⟨fZ,g',hl,_,_,h5⟩:=h2 i ob G[i] ⟨wG,aE hi⟩;exact (h5 (h fZ hl.1)).1
 d i b hV h:=by obtain ⟨ob,g,hl,hlive,hf,hne⟩:=h;obtain ⟨fZ,g',BZ,_,_,h5⟩:=h2 i ob g hl;have xP:=hV fZ BZ.1;have h6:=(h5 xP).2.2.2 b hf hne;exact ⟨⟨fZ,g',BZ,xP,h6.1,h6.2.1⟩,h6.2.2⟩
 h i v x h:=by
  obtain ⟨ob,g,hl,DU,h5,hz⟩:=h;obtain ⟨fZ,g',BZ,hv',_,h6⟩:=h2 i ob g hl;refine ⟨fZ,g',BZ,by omega,λhlive WC=> ?_,hz⟩;have h7:=h6 hlive;have aAm:fZ.cZ=ob.cZ:=by omega
  have h8:=h7.2.2.1 aAm;rw [h8.1,h8.2.1,h8.2.2];exact h5 h7.1 (by omega)
 l i v j x y h:=by
  obtain ⟨ob,g,hl,DU,h5,hz⟩:=h;obtain ⟨fZ,g',BZ,hv',hb',h6⟩:=h2 i ob g hl;refine ⟨fZ,g',BZ,by omega,λhlive WC=> ?_,λhb hv e1 e2 y hy=>by
   rcases hb' hb with h|h
   .refine ⟨(hz h hv e1 e2 y hy).1,λhlive WC=> ?_⟩
    have h7:=h6 hlive;have aAm:fZ.cZ=ob.cZ:=by omega
    rw [(h7.2.2.1 aAm).2.1];exact (hz h hv e1 e2 y hy).2 h7.1 (by omega)
   .omega⟩
  have h7:=h6 hlive;have aAm:fZ.cZ=ob.cZ:=by omega
  have h8:=h7.2.2.1 aAm;rw [h8.1,h7.2.1];exact h5 h7.1 (by omega)
theorem wF.keeps {w w':World} {E E':Env} {n:Nat} {l:List (List AV)} {a:Option Addr} {cap:Nat} {fp:List Nat} (h:wF w E n l a cap fp) (k:fK w E w' E') (hF:∀b∈fp,w'.heap[b]? =w.heap[b]?):wF w' E' n l a cap fp:=by
 refine ⟨h.1,?_⟩;rcases h.2 with h|⟨b,off,C,e,fz,rD,ha,hb,hz,h1,h2,h3,rfl,hr⟩
 .exact .inl h
 .refine .inr ⟨b,off,C,e,fz,rD,ha,by rw [hF b (by simp)];exact hb,hz,h1,h2,h3,rfl,oI k _ _ _ _ _ (hF b (by simp)) (λx hx=>hF x (by simp [hx])) hr⟩
theorem JS.keeps {w w':World} {E E':Env} {ob:aN} {g:CO} (h:JS w E ob g) (k:fK w E w' E') (hF:∀b,g.F b->w'.heap[b]? =w.heap[b]?):JS w' E' ob g:=by obtain ⟨fp,hr,hn,hf⟩:=h;exact ⟨fp,hr.keeps (k.of ob.box) (λb hb=>hF b (hf b hb)),hn,hf⟩
theorem gN {w:World} {E:Env}:∀{c:List AV} {cs:List Value} {fp:List Nat},Rc w E c cs fp->cs.length=c.length
 |[],[],_,_=>rfl
 |[],_::_,_,h=>by simp [Rc] at h
 |_::_,[],_,h=>by simp [Rc] at h
 |_::xs,_::cs,fp,h=>by simp only [Rc] at h;obtain ⟨f1,f2,_,h2,_⟩:=h;simp [gN h2]
theorem Md {w:World} {E:Env}:∀{c:List AV} {cs:List Value} {i:Nat} {x:AV},Rc w E c cs []->c[i]? =some x->∃v,cs[i]? =some v/\R w E x v []
 |[],_,i,x,_,h=>by simp at h
 |_::_,[],_,_,h,_=>by simp [Rc] at h
 |y::ys,c::cs,i,x,h,hx=>by
  simp only [Rc] at h;obtain ⟨f1,f2,h1,h2,e⟩:=h;obtain ⟨e1,e2⟩:f1=[]/\f2=[]:=by simpa using e
  subst e1;subst e2;cases i with
  |zero=>simp at hx;subst hx;exact ⟨c,rfl,h1⟩
  |succ i=>simpa using Md h2 (by simpa using hx)
theorem aAn {w:World} {E:Env}:∀{c:List AV} {cs:List Value} (i:Nat) {x:AV} {v:Value},Rc w E c cs []->R w E x v []->Rc w E (c.set i x) (cs.set i v) []
 |[],[],i,x,v,h,_=>by simpa using h
 |[],_::_,_,_,_,h,_=>by simp [Rc] at h
 |_::_,[],_,_,_,h,_=>by simp [Rc] at h
 |y::ys,c::cs,i,x,v,h,hx=>by
  simp only [Rc] at h;obtain ⟨f1,f2,h1,h2,e⟩:=h;obtain ⟨e1,e2⟩:f1=[]/\f2=[]:=by simpa using e
  subst e1;subst e2;cases i with
  |zero=>simp only [cU,Rc];exact ⟨[],[],hx,h2,rfl⟩
  |succ i=>simp only [cW,Rc];exact ⟨[],[],h1,aAn i h2 hx,rfl⟩
theorem mU {w:World} {E:Env}:∀{c d:List AV} {cs ds:List Value} {f1 f2:List Nat},Rc w E c cs f1->Rc w E d ds f2->Rc w E (c++d) (cs++ds) (f1++f2)
 |[],_,[],_,f1,f2,h,h'=>by simp [Rc] at h;subst h;simpa using h'
 |[],_,_::_,_,_,_,h,_=>by simp [Rc] at h
 |_::_,_,[],_,_,_,h,_=>by simp [Rc] at h
 |y::ys,d,c::cs,ds,f1,f2,h,h'=>by simp only [Rc] at h;obtain ⟨g1,g2,h1,h2,rfl⟩:=h;simp only [eA,Rc];exact ⟨g1,g2++f2,h1,mU h2 h',by simp⟩
def AS.put (s:AS) (d:Option Tmp) (x:AV):AS:=match d with
 |some d=>{s with t:=s.t.set d x}
 |none=>s
theorem eF.put {P:Program} [aC P] {B:gV P} {s:AS} {G:List CO} {a:Act} {w:World} (r:eF B s G a w) (d:Option Tmp) {x:AV} {v:Value} (h:R w (env B s.o G w) x v []):
  eF B (s.put d x) G (a.put d v) w:=by
 cases d with
 |none=>exact r
 |some d=>exact {r with tmps:=by simpa [AS.put,Act.put] using aAn d r.tmps h}
theorem eF.next {P:Program} [aC P] {B:gV P} {s:AS} {G:List CO} {a:Act} {w:World} (r:eF B s G a w) {o':List aN} {G':List CO} {w':World}
  (k:fK w (env B s.o G w) w' (env B o' G' w')) (len:G'.length=o'.length)
  (ok:∀i ob g,look o' G' i ob g->ob.live=true->JS w' (env B o' G' w') ob g)
  (apart:∀i j oi oj gi gj b,look o' G' i oi gi->look o' G' j oj gj->oi.live=true->oj.live=true->gi.F b->gj.F b->i=j)
  (fresh:∀i ob g b,look o' G' i ob g->ob.live=true->g.F b->(B.O0 b\/B.w0.heap.size<=b)/\b < w'.heap.size)
  (size:w.heap.size<=w'.heap.size) (frame:∀b,b < B.w0.heap.size->¬B.O0 b->w'.heap[b]? =w.heap[b]?)
  (same:oD w w':=by exact ⟨rfl,rfl,rfl⟩):eF B ⟨s.t,o'⟩ G' a w' where
 len:=len
 defs:=r.defs
 ok:=ok
 apart:=apart
 fresh:=fresh
 tmps:=fB k _ _ _ (by simp) r.tmps
 size:=hM r.size size
 frame b h1 h2:=(frame b h1 h2).trans (r.frame b h1 h2)
 base:=r.base
 same:=r.same.trans same
def ofV:Value->AV
 | .int k n=> .int k n
 | .bool b=> .bool b
 | .string s=> .str s.data.toList
 | .slice none 0 0=> .sl .own 0 []
 | .func (.func f) ⟨[]⟩ ⟨[]⟩=> .fn f []
 |_=> .undef
theorem aIg (w:World) (E:Env) (v:Value):R w E (ofV v) v []:=by unfold ofV;split<;>simp [R,Rc,maxLen]
def AS.ev (s:AS):Operand->AV
 | .tmp t=>s.t.getD t .undef
 | .const v=>ofV v
 | .func f=> .fn f []
 | .global _=> .undef
theorem eF.ev {P:Program} [aC P] {B:gV P} {s:AS} {G:List CO} {a:Act} {w:World} (r:eF B s G a w) (x:Operand):R w (env B s.o G w) (s.ev x) (a.eval x) []:=by
 cases x with
 |tmp t=>
  simp only [AS.ev,getD];cases h:s.t[t]? with
  |none=>simp [R]
  |some y=>
   obtain ⟨v,hv,hr⟩:=Md r.tmps h;simp only [Act.eval,rB];have:a.tmps[t]? =some v:=by simpa using hv
   simpa [fX,this] using hr
 |const v=>exact aIg w _ v
 |func f=>simp [AS.ev,Act.eval,R,Rc]
 |global g=>simp [AS.ev,R]
theorem tV {w:World} {E:Env}:∀{c:List AV} {cs:List Value} {fp:List Nat} (k:Nat),Rc w E c cs fp->
  ∃f1 f2,fp=f1++f2/\Rc w E (c.take k) (cs.take k) f1/\Rc w E (c.drop k) (cs.drop k) f2
 |c,cs,fp,0,h=>⟨[],fp,rfl,by simp [Rc],by simpa using h⟩
 |[],[],fp,k+1,h=>⟨fp,[],by simp,by simpa using h,by simp [Rc]⟩
 |[],_::_,_,_,h=>by simp [Rc] at h
 |_::_,[],_,_,h=>by simp [Rc] at h
 |x::xs,c::cs,fp,k+1,h=>by simp only [Rc] at h;obtain ⟨g1,g2,h1,h2,rfl⟩:=h;obtain ⟨f1,f2,rfl,h3,h4⟩:=tV k h2;exact ⟨g1++f1,f2,by simp,by simp only [eL,Rc];exact ⟨g1,f1,h1,h3,rfl⟩,by simpa using h4⟩
theorem Df {w:World} {E:Env} {l2:List (List AV)} {b n:Nat}:∀{l1:List (List AV)} {off:Nat} {fp:List Nat},
  Rr w E (l1++l2) b off n fp↔∃f1 f2,fp=f1++f2/\Rr w E l1 b off n f1/\Rr w E l2 b (off+l1.length * n) n f2
 |[],off,fp=>by
  simp only [eM,Rr,eW,Nat.zero_mul,rN];constructor
  .intro h;exact ⟨[],fp,by simp,rfl,h⟩
  .rintro ⟨f1,f2,rfl,rfl,h⟩;simpa using h
 |e::es,off,fp=>by
  simp only [eA,Rr,Df (l1:=es),eN];have e1:∀m,off+(m+1) * n=off+n+m * n:=λm=>by rw [pS];omega
  constructor
  .rintro ⟨cs,f1,f2,hn,hc,h1,hr,⟨g1,g2,rfl,h3,h4⟩,rfl⟩;exact ⟨f1++g1,g2,by simp,⟨cs,f1,g1,hn,hc,h1,hr,h3,rfl⟩,by rw [e1];exact h4⟩
  .rintro ⟨f1,f2,rfl,⟨cs,g1,g2,hn,hc,h1,hr,h3,rfl⟩,h4⟩;exact ⟨cs,g1,g2++f2,hn,hc,h1,hr,⟨g2,f2,rfl,h3,by rw [e1] at h4;exact h4⟩,by simp⟩
theorem CS {w:World} {E:Env} {l:List (List AV)} {b off n:Nat} {fp:List Nat} {i:Nat} {e:List AV} (h:Rr w E l b off n fp) (hi:l[i]? =some e):
  ∃f1 f2 f3 cs,fp=f1++f2++f3/\cs.length=n/\bN w b (off+i * n) cs/\(∀x∈cs,x.oneCell'=true)/\Rc w E e cs f2/\
   Rr w E (l.take i) b off n f1/\Rr w E (l.drop (i+1)) b (off+(i+1) * n) n f3:=by
 obtain ⟨hlt,rfl⟩:=cH.1 hi;have hl:l=l.take i++l[i]::l.drop (i+1):=by simp
 rw [hl] at h;obtain ⟨f1,f4,rfl,h1,h2⟩:=Df.1 h;have hti:(l.take i).length=i:=by simp;omega
 rw [hti] at h2;simp only [Rr] at h2;obtain ⟨cs,f2,f3,hn,hc,ho,hr,h3,rfl⟩:=h2;refine ⟨f1,f2,f3,cs,by simp,hn,hc,ho,hr,h1,?_⟩;rw [pS,Nat.one_mul,<-oB];exact h3
theorem wy {w:World} {E:Env} {l:List (List AV)} {b off n:Nat} {i:Nat} {e:List AV} {f1 f2 f3:List Nat} {cs:List Value} (hi:i < l.length) (hn:cs.length=n)
  (hc:bN w b (off+i * n) cs) (ho:∀x∈cs,x.oneCell'=true) (hr:Rc w E e cs f2) (h1:Rr w E (l.take i) b off n f1) (h3:Rr w E (l.drop (i+1)) b (off+(i+1) * n) n f3):
  Rr w E (l.set i e) b off n (f1++f2++f3):=by
 have hl:l.set i e=l.take i++e::l.drop (i+1):=by rw [set_eq_take_append_cons_drop];simp [hi]
 rw [hl];refine Df.2 ⟨f1,f2++f3,by simp,h1,?_⟩;have hti:(l.take i).length=i:=by simp;omega
 rw [hti];simp only [Rr];refine ⟨cs,f2,f3,hn,hc,ho,hr,?_,rfl⟩;rw [pS,Nat.one_mul,<-oB] at h3;exact h3
theorem Qc {w w':World} {E E':Env} (k:fK w E w' E') {b lo hi:Nat} (IK:∀j,j < lo\/hi<=j->w'.cell? ⟨b,j,none⟩=w.cell? ⟨b,j,none⟩):∀{l:List (List AV)} {off n:Nat} {fp:List Nat},
  (∀x∈fp,w'.heap[x]? =w.heap[x]?)->(off+l.length * n<=lo\/hi<=off)->Rr w E l b off n fp->Rr w' E' l b off n fp
 |[],_,_,_,_,_,h=>by simpa [Rr] using h
 |e::es,off,n,fp,hf,hr,h=>by
  simp only [Rr] at h⊢;obtain ⟨cs,f1,f2,hn,hc,ho,h1,h2,rfl⟩:=h;have hl:(es.length+1) * n=n+es.length * n:=by rw [pS];omega
  simp only [eN,hl] at hr;refine ⟨cs,f1,f2,hn,?_,ho,fB k _ _ _ (λx hx=>hf x (by simp [hx])) h1,Qc k IK (λx hx=>hf x (by simp [hx])) (by omega) h2,rfl⟩;intro j v hv;rw [IK]
  .exact hc j v hv
  .have:j < cs.length:=(cH.1 hv).1;omega
theorem bN.drop {w:World} {b off k:Nat} {cs:List Value} (h:bN w b off cs):bN w b (off+k) (cs.drop k):=by
 intro j v hv;rw [getElem?_drop] at hv;have:=h _ _ hv
 rwa [<-oB] at this
theorem bN.take {w:World} {b off k:Nat} {cs:List Value} (h:bN w b off cs):bN w b off (cs.take k):=by
 intro j v hv;rw [AM] at hv;split at hv
 .exact h _ _ hv
 .cases hv
theorem addr_add (b o n:Nat):(⟨b,o,none⟩:Addr).add n=⟨b,o+n,none⟩:=Addr.add_lit b o n
theorem bN.run {P:Program} {w:World} {b off:Nat} {cs:List Value} (h:bN w b off cs):(loadCells ⟨b,off,none⟩ cs.length).run P w= .ok cs.toArray w:=
 run_loadCells_list w _ cs (λj v hv=>by rw [addr_add];exact h j v hv)
def bM (P:Program) (t:TypeId):Option Nat:=
 match P.underlying t with
 |some (.struct _)=>(P.info? t).map (·.size)
 |some (.array _ _)=>(P.info? t).map (·.size)
 |_=>none
def gB (P:Program) (t:TypeId):Bool:=
 match P.underlying t with
 |some (.struct _)=>false
 |some (.array _ _)=>false
 |some _=>(P.info? t).map (·.size) == some 1
 |none=>false
theorem WE {P:Program} {w:World} {t:TypeId} {b off:Nat} {cs:List Value} (ht:bM P t=some cs.length) (h:bN w b off cs):
  (loadVar t ⟨b,off,none⟩).run P w= .ok (.agg cs.toArray) w:=by
 unfold bM at ht;have hr:=h.run (P:=P);split at ht
 .rename_i d hd;cases hi:P.info? t with
  |none=>simp [hi] at ht
  |some i=>simp [hi] at ht;simp [loadVar,isAgg,gC hd,sizeOf,typeInfo,hi,ht,hr]
 .rename_i d hd;cases hi:P.info? t with
  |none=>simp [hi] at ht
  |some i=>simp [hi] at ht;simp [loadVar,isAgg,gC hd,sizeOf,typeInfo,hi,ht,hr]
 .cases ht
theorem WG {P:Program} {w:World} {t:TypeId} {b off:Nat} {v:Value} (ht:gB P t=true) (h:bN w b off [v]):
  (loadVar t ⟨b,off,none⟩).run P w= .ok v w:=by
 unfold gB at ht;have h0:=h 0 v rfl;split at ht
 .cases ht
 .cases ht
 .rename_i d hd h1 h2;simp only [loadVar,isAgg,mT,gC h2,lO];cases d<;>simp_all
 .cases ht
theorem lU (b b':Nat) (hb:b'≠b):∀(vs:List Value) (o:Nat) (w:World),(w.setCells b o vs).heap[b']? =w.heap[b']?
 |[],_,_=>rfl
 |v::r,o,w=>by rw [World.setCells,lU b b' hb r];simp [World.setCell,Array.getElem?_modify,AD hb]
theorem iA (b:Nat):∀(vs:List Value) (o:Nat) (w:World),(w.setCells b o vs).heap.size=w.heap.size
 |[],_,_=>rfl
 |v::r,o,w=>by rw [World.setCells,iA b r];simp
theorem kM (b:Nat):∀(vs:List Value) (o:Nat) (w:World),oD w (w.setCells b o vs)
 |[],_,_=>oD.rfl
 |v::r,o,w=>by rw [World.setCells];exact oD.trans (b:=w.setCell ⟨b,o,none⟩ v) ⟨rfl,rfl,rfl⟩ (kM b r (o+1) _)
theorem jQ (b:Nat) (e:TypeId) (fz:Nat×Nat):∀(vs:List Value) (o:Nat) (w:World) (C:Array Value),w.heap[b]? =some (.cells C e fz)->
  ∃C',(w.setCells b o vs).heap[b]? =some (.cells C' e fz)/\C'.size=C.size
 |[],_,w,C,h=>⟨C,h,rfl⟩
 |v::r,o,w,C,h=>by
  rw [World.setCells];have:(w.setCell ⟨b,o,none⟩ v).heap[b]? =some (.cells (C.setIfInBounds o v) e fz):=by simp [World.setCell,Array.getElem?_modify,h]
  obtain ⟨C',h1,h2⟩:=jQ b e fz r (o+1) _ _ this;exact ⟨C',h1,by simpa using h2⟩
theorem tX {P:Program} {w:World} {b off:Nat} {C:Array Value} {e:TypeId} {fz:Nat×Nat} {vs:List Value} {q:Prop} (hb:w.heap[b]? =some (.cells C e fz)) (hz:(C.size<=fz.1/\q)\/fz.2=0)
  (hfit:off+vs.length<=C.size) (h1:∀v∈vs,v.oneCell'=true):(storeCells ⟨b,off,none⟩ vs).run P w= .ok () (w.setCells b off vs):=by
 have:=run_storeCells_cells (P:=P) b off vs 0 w (λj hj=>by
  have:off+j < C.size:=by omega
  simp [World.cell?,hb,this]) (λj hj=>by
  simp only [World.frozen?,hb];rcases hz with ⟨hz,_⟩|hz
  .have:¬fz.1<=off+j:=by omega
   simp [this]
  .simp [hz]) h1
 simpa using this
theorem Bf {o:List aN} {G:List CO} {i j:Nat} {fZ:aN} {g':CO} {x:aN} {y:CO} (h:look (o.set i fZ) (G.set i g') j x y):
  (j=i/\x=fZ/\y=g')\/(j≠i/\look o G j x y):=by
 obtain ⟨h1,h2⟩:=h;rw [getElem?_set] at h1 h2;by_cases hj:i=j
 .subst hj;left;simp only [gO] at h1 h2;split at h1
  .split at h2
   .exact ⟨rfl,(cQ h1).symm,(cQ h2).symm⟩
   .cases h2
  .cases h1
 .simp only [hj,hH] at h1 h2;exact .inr ⟨λe=>hj e.symm,h1,h2⟩
theorem uE {o:List aN} {G:List CO} {i:Nat} {fZ:aN} {g':CO} {x:aN} {y:CO} (h:look o G i x y):look (o.set i fZ) (G.set i g') i fZ g':=by have h1:=(cH.1 h.1).1;have h2:=(cH.1 h.2).1;constructor<;>simp [h1,h2]
theorem Fq {o:List aN} {G:List CO} {i j:Nat} {fZ:aN} {g':CO} {x:aN} {y:CO} (h:look o G j x y) (hj:j≠i):look (o.set i fZ) (G.set i g') j x y:=by
 constructor
 .rw [lB (AD hj)];exact h.1
 .rw [lB (AD hj)];exact h.2
theorem nK {o:List aN} {G:List CO} {i:Nat} {x x':aN} {y y':CO} (h:look o G i x y) (h':look o G i x' y'):x=x'/\y=y':=
 ⟨cQ (h.1.symm.trans h'.1),cQ (h.2.symm.trans h'.2)⟩
theorem eF.aF0 {P:Program} [aC P] {B:gV P} {s:AS} {G:List CO} {a:Act} {w:World} (r:eF B s G a w) {i:Nat} {ob:aN} {g:CO} (hl:look s.o G i ob g) (hlive:ob.live=true) {w':World}
  (nU:∀b,b < w.heap.size->¬(g.F b/\∃a,g.a=some a/\b=a.block)->w'.heap[b]? =w.heap[b]?):
  (∀b,(env B s.o G w).A b->w'.heap[b]? =w.heap[b]?)/\(∀j oj gj b,look s.o G j oj gj->oj.live=true->j≠i->gj.F b->w'.heap[b]? =w.heap[b]?):=by
 refine ⟨λb hb=>nU b (wR r hb) (λh=>hb.2 i ob g hl hlive h.1),λj oj gj b hj hjl hne hf=> ?_⟩;exact nU b (r.fresh j oj gj b hj hjl hf).2 (λh=>hne (r.apart j i oj ob gj g b hj hl hjl hlive hf h.1))
theorem eF.modify {P:Program} [aC P] {B:gV P} {s:AS} {G:List CO} {a:Act} {w:World} (r:eF B s G a w) {i:Nat} {ob:aN} {g:CO} (hl:look s.o G i ob g) (hlive:ob.live=true)
  (fZ:aN) (g':CO) (w':World) (DU:ob.cZ<=fZ.cZ) (hn:fZ.n=ob.n)
  (aQe:fZ.cZ=ob.cZ->g'.a=g.a/\g'.cap=g.cap/\fZ.eQ.length=ob.eQ.length)
  (hF:∀b,g'.F b->g.F b\/(w.heap.size<=b/\b < w'.heap.size))
  (hD:∀b,g.F b->(∀a,g.a=some a->b≠a.block)->g'.F b/\(∀a,g'.a=some a->b≠a.block))
  (nU:∀b,b < w.heap.size->¬(g.F b/\∃a,g.a=some a/\b=a.block)->w'.heap[b]? =w.heap[b]?)
  (hs:w.heap.size<=w'.heap.size)
  (ok':fK w (env B s.o G w) w' (env B (s.o.set i fZ) (G.set i g') w')->fZ.live=true->JS w' (env B (s.o.set i fZ) (G.set i g') w') fZ g') (same:oD w w':=by first|exact ⟨rfl,rfl,rfl⟩|exact kM _ _ _ _) (JN:fZ.box=true->ob.box=true\/ob.cZ < 2:=by first|exact λh=> .inl h|(intro h;cases h)):
  eF B ⟨s.t,s.o.set i fZ⟩ (G.set i g') a w'/\fK w (env B s.o G w) w' (env B (s.o.set i fZ) (G.set i g') w'):=by
 have hsm:=r.aF0 hl hlive nU;have k:fK w (env B s.o G w) w' (env B (s.o.set i fZ) (G.set i g') w'):=by
  refine De hs (λb hb=>⟨wR r hb,hsm.1 b hb⟩) r.len ?_ ?_
  .intro j oj gj hj;by_cases e:j=i
   .subst e;obtain ⟨rfl,rfl⟩:=nK hl hj;refine ⟨fZ,g',uE hl,DU,JN,λ_=>⟨hlive,hn,aQe,λb hf hne=> ?_⟩⟩;have:=hD b hf hne;exact ⟨this.1,this.2,nU b (r.fresh j _ _ b hl hlive hf).2 (λh=>by obtain ⟨_,a,ha,rfl⟩:=h;exact hne a ha rfl)⟩
   .refine ⟨oj,gj,Fq hj e,eE _,λh=> .inl h,λhjl=>⟨hjl,rfl,λ_=>⟨rfl,rfl,rfl⟩,λb hf hne=>⟨hf,hne,hsm.2 j oj gj b hj hjl e hf⟩⟩⟩
  .intro j oj gj b hj hjl hf;rcases Bf hj with ⟨rfl,rfl,rfl⟩|⟨_,D8⟩
   .rcases hF b hf with h|h
    .exact .inr ⟨j,ob,g,hl,hlive,h⟩
    .exact .inl h.1
   .exact .inr ⟨j,oj,gj,D8,hjl,hf⟩
 refine ⟨r.next k (by simp [r.len]) ?_ ?_ ?_ hs ?_ same,k⟩
 .intro j oj gj hj hjl;rcases Bf hj with ⟨rfl,rfl,rfl⟩|⟨hne,D8⟩
  .exact ok' k hjl
  .exact (r.ok j oj gj D8 hjl).keeps k (λb hb=>hsm.2 j oj gj b D8 hjl hne hb)
 .intro j1 j2 o1 o2 g1 g2 b h1 h2 hl1 hl2 hf1 hf2;rcases Bf h1 with ⟨rfl,rfl,rfl⟩|⟨aQf,h1'⟩<;>rcases Bf h2 with ⟨rfl,rfl,rfl⟩|⟨hne2,h2'⟩
  .rfl
  .exfalso;rcases hF b hf1 with h|h
   .exact hne2 (r.apart _ _ _ _ _ _ b h2' hl hl2 hlive hf2 h)
   .have:=(r.fresh _ _ _ b h2' hl2 hf2).2;omega
  .exfalso;rcases hF b hf2 with h|h
   .exact aQf (r.apart _ _ _ _ _ _ b h1' hl hl1 hlive hf1 h)
   .have:=(r.fresh _ _ _ b h1' hl1 hf1).2;omega
  .exact r.apart _ _ _ _ _ _ b h1' h2' hl1 hl2 hf1 hf2
 .intro j oj gj b hj hjl hf;rcases Bf hj with ⟨rfl,rfl,rfl⟩|⟨hne,D8⟩
  .rcases hF b hf with h|h
   .have:=r.fresh _ _ _ b hl hlive h;exact ⟨this.1,oT this.2 hs⟩
   .exact ⟨.inr (hM r.size h.1),h.2⟩
  .have:=r.fresh _ _ _ b D8 hjl hf;exact ⟨this.1,oT this.2 hs⟩
 .intro b hb hO;refine nU b (oT hb r.size) (λh=> ?_);have:=(r.fresh _ _ _ b hl hlive h.1).1;rcases this with h|h
  .exact hO h
  .omega
theorem qJ {o o2:List aN} {G G2:List CO} (hlen:G.length=o.length) {i:Nat} {x:aN} {y:CO} (h:look (o++o2) (G++G2) i x y):
  (i < o.length/\look o G i x y)\/(o.length<=i/\look o2 G2 (i - o.length) x y):=by
 obtain ⟨h1,h2⟩:=h;by_cases hi:i < o.length
 .rw [pH hi] at h1;rw [pH (by omega)] at h2;exact .inl ⟨hi,h1,h2⟩
 .rw [hS (by omega)] at h1;rw [hS (by omega),hlen] at h2;exact .inr ⟨by omega,h1,h2⟩
theorem qQ {o o2:List aN} {G G2:List CO} {i:Nat} {x:aN} {y:CO} (h:look o G i x y):look (o++o2) (G++G2) i x y:=by have h1:=(cH.1 h.1).1;have h2:=(cH.1 h.2).1;exact ⟨by rw [pH h1];exact h.1,by rw [pH h2];exact h.2⟩
theorem rP {o o2:List aN} {G G2:List CO} (hlen:G.length=o.length) {i:Nat} {x:aN} {y:CO} (h:look o2 G2 i x y):look (o++o2) (G++G2) (o.length+i) x y:=by refine ⟨by rw [hS (by omega),Nat.add_sub_cancel_left];exact h.1,?_⟩;rw [hS (by omega),hlen,Nat.add_sub_cancel_left];exact h.2
theorem eF.add {P:Program} [aC P] {B:gV P} {s:AS} {G:List CO} {a:Act} {w:World} (r:eF B s G a w) (obs:List aN) (Gs:List CO) (w':World) (hlen:Gs.length=obs.length)
  (hs:w.heap.size<=w'.heap.size) (nU:∀b,b < w.heap.size->w'.heap[b]? =w.heap[b]?)
  (hF:∀j ob g b,look obs Gs j ob g->ob.live=true->g.F b->w.heap.size<=b/\b < w'.heap.size)
  (hap:∀i j oi oj gi gj b,look obs Gs i oi gi->look obs Gs j oj gj->oi.live=true->oj.live=true->gi.F b->gj.F b->i=j)
  (ok:fK w (env B s.o G w) w' (env B (s.o++obs) (G++Gs) w')->∀j ob g,look obs Gs j ob g->ob.live=true->JS w' (env B (s.o++obs) (G++Gs) w') ob g) (same:oD w w':=by first|exact ⟨rfl,rfl,rfl⟩|exact kM _ _ _ _):
  eF B ⟨s.t,s.o++obs⟩ (G++Gs) a w'/\fK w (env B s.o G w) w' (env B (s.o++obs) (G++Gs) w'):=by
 have k:fK w (env B s.o G w) w' (env B (s.o++obs) (G++Gs) w'):=by
  refine De hs (λb hb=>⟨wR r hb,nU b (wR r hb)⟩) r.len ?_ ?_
  .intro j oj gj hj;exact ⟨oj,gj,qQ hj,eE _,λh=> .inl h,λhjl=>⟨hjl,rfl,λ_=>⟨rfl,rfl,rfl⟩,λb hf hne=>⟨hf,hne,nU b (r.fresh j oj gj b hj hjl hf).2⟩⟩⟩
  .intro j oj gj b hj hjl hf;rcases qJ r.len hj with ⟨_,h⟩|⟨_,h⟩
   .exact .inr ⟨j,oj,gj,h,hjl,hf⟩
   .exact .inl (hF _ _ _ b h hjl hf).1
 refine ⟨r.next k (by simp [r.len,hlen]) ?_ ?_ ?_ hs ?_ same,k⟩
 .intro j oj gj hj hjl;rcases qJ r.len hj with ⟨_,h⟩|⟨_,h⟩
  .exact (r.ok j oj gj h hjl).keeps k (λb hb=>nU b (r.fresh j oj gj b h hjl hb).2)
  .exact ok k _ _ _ h hjl
 .intro j1 j2 o1 o2 g1 g2 b h1 h2 hl1 hl2 hf1 hf2;rcases qJ r.len h1 with ⟨_,h1⟩|⟨hj1,h1⟩<;>rcases qJ r.len h2 with ⟨_,h2⟩|⟨hj2,h2⟩
  .exact r.apart _ _ _ _ _ _ b h1 h2 hl1 hl2 hf1 hf2
  .have:=(r.fresh _ _ _ b h1 hl1 hf1).2;have:=(hF _ _ _ b h2 hl2 hf2).1;omega
  .have:=(r.fresh _ _ _ b h2 hl2 hf2).2;have:=(hF _ _ _ b h1 hl1 hf1).1;omega
  .have:=hap _ _ _ _ _ _ b h1 h2 hl1 hl2 hf1 hf2;omega
 .intro j oj gj b hj hjl hf;rcases qJ r.len hj with ⟨_,h⟩|⟨_,h⟩
  .have:=r.fresh _ _ _ b h hjl hf;exact ⟨this.1,oT this.2 hs⟩
  .have:=hF _ _ _ b h hjl hf;exact ⟨.inr (hM r.size this.1),this.2⟩
 .intro b hb hO;exact nU b (oT hb r.size)
def slN (P:Program):Nat->TypeId->List Nat
 |0,_=>[]
 |f+1,t=>match P.underlying t with
  |some (.slice e)=>[P.cellsOf e]
  |some (.struct fs)=>fs.toList.flatMap λx=>slN P f x.type
  |some (.array n e)=>(replicate n (slN P f e)).flatten
  |_=>[0]
def aJm (n:Nat):AV->AV
 | .sl .own _ []=> .sl .own n []
 |x=>x
def WH:List AV->List Nat->List AV
 |x::xs,n::ns=>aJm n x::WH xs ns
 |xs,[]=>xs
 |[],_=>[]
theorem aJn (w:World) (E:Env) (n:Nat) (v:Value):R w E (aJm n (ofV v)) v []:=by unfold ofV;split<;>simp [aJm,R,Rc,maxLen]
theorem Gy (w:World) (E:Env):∀(vs:List Value) (ns:List Nat),Rc w E (WH (vs.map ofV) ns) vs []
 |[],[]=>by simp [WH,Rc]
 |[],_::_=>by simp [WH,Rc]
 |v::vs,[]=>by
  have:=Gy w E vs [];have e:WH (vs.map ofV) []=vs.map ofV:=by cases vs<;>rfl
  rw [e] at this;simp only [mA,WH,Rc];exact ⟨[],[],aIg w E v,this,rfl⟩
 |v::vs,n::ns=>by simp only [mA,WH,Rc];exact ⟨[],[],aJn w E n v,Gy w E vs ns,rfl⟩
def dM (P:Program) (t:TypeId):Option (List AV):=
 match (P.info? t).bind (·.zero) with
 |some v=>if v.cells.toList.all (·.oneCell') then some (WH (v.cells.toList.map ofV) (slN P 8 t)) else none
 |none=>none
def gX (P:Program) (t:TypeId):Option (TypeId×Nat×Nat):=
 match P.underlying t with
 |some (.slice e)=>(P.info? e).map λi=>(e,i.size,i.bytes)
 |_=>none
def bC (P:Program) (t:TypeId) (f:Nat):Option Nat:=
 match P.underlying t with
 |some (.struct fs)=>match fs[f]? with
  |some fd=>match P.info? fd.type with
   |some i=>if i.size=0 then none else some fd.offset
   |none=>none
  |none=>none
 |_=>none
def AV.cells:AV->List AV
 | .agg c=>c
 |x=>[x]
def AV.known:AV->Bool
 | .undef=>false
 | .gZ _=>false
 | .sl (.kG _) _ _=>false
 | .fA (.kG _) _ _=>false
 | .obj _ _=>false
 | .ptr _ _ _ _=>false
 |_=>true
def AV.isObj (o:List aN) (i cZ:Nat):Option aN:=
 match o[i]? with
 |some ob=>if ob.live=true/\ob.cZ=cZ then some ob else none
 |none=>none
def AV.fit (o:List aN):AV->Bool
 | .undef=>false
 | .gZ _=>false
 | .sl (.kG i) _ _=>match o[i]? with
  |some ob=>ob.live
  |none=>false
 | .fA (.kG i) _ _=>match o[i]? with
  |some ob=>ob.live
  |none=>false
 | .obj i cZ=>(AV.isObj o i cZ).isSome
 | .ptr i cZ _ _=>(AV.isObj o i cZ).isSome
 |_=>true
theorem PH {P:Program} [aC P] {B:gV P} {o:List aN} {G:List CO} {w:World} {x:AV} {v:Value} {fp:List Nat} (hf:x.fit o=true) (h:R w (env B o G w) x v fp):
  Rc w (env B o G w) x.cells v.cells.toList fp/\(∀c∈v.cells.toList,c.oneCell'=true)/\(∀c,x= .agg c->∃cs,v= .agg cs)/\((∀c,x≠ .agg c)->v.cells=#[v]/\v.oneCell'=true):=by
 have one:∀{x:AV} {v:Value} {fp:List Nat},R w (env B o G w) x v fp->x.cells=[x]->v.cells=#[v]->v.oneCell'=true->(∀c,x≠ .agg c)->
   Rc w (env B o G w) x.cells v.cells.toList fp/\(∀c∈v.cells.toList,c.oneCell'=true)/\(∀c,x= .agg c->∃cs,v= .agg cs)/\((∀c,x≠ .agg c)->v.cells=#[v]/\v.oneCell'=true):=by
  intro x v fp h h1 h2 h3 h4;rw [h1,h2];refine ⟨by simp only [Rc];exact ⟨fp,[],h,rfl,by simp⟩,by simpa using h3,λc hc=>absurd hc (h4 c),λ_=>⟨rfl,h3⟩⟩
 cases x with
 |int k n=>have h':=h;simp only [R] at h';obtain ⟨rfl,_⟩:=h';exact one h rfl rfl rfl (by simp)
 |bool b=>have h':=h;simp only [R] at h';obtain ⟨rfl,_⟩:=h';exact one h rfl rfl rfl (by simp)
 |str b=>have h':=h;simp only [R] at h';obtain ⟨rfl,_⟩:=h';exact one h rfl rfl rfl (by simp)
 |sl g n l=>
  have h':=h;simp only [R] at h';rcases h' with ⟨hd,_⟩|⟨a,cap,rfl,_⟩
  .cases g with
   |own=>exact hd.elim
   |view=>exact hd.elim
   |kG i=>simp only [AV.fit] at hf;exfalso;refine hd (λob wG=> ?_);simpa [wG] using hf
  .exact one h rfl rfl rfl (by simp)
 |fA g c off=>
  have h':=h;simp only [R] at h';rcases h' with ⟨hd,_⟩|⟨_,b,o,cs,rfl,_⟩
  .cases g with
   |own=>exact hd.elim
   |view=>exact hd.elim
   |kG i=>simp only [AV.fit] at hf;exfalso;refine hd (λob wG=> ?_);simpa [wG] using hf
  .exact one h rfl rfl rfl (by simp)
 |obj i cZ=>
  have h':=h;simp only [R] at h';obtain ⟨_,ob,g,hl,_,hh,_⟩:=h';simp only [AV.fit,AV.isObj,hl.1] at hf;split at hf
  .rename_i hc;have:=hh hc.1 hc.2;subst this;exact one h rfl rfl rfl (by simp)
  .cases hf
 |ptr i cZ idx off=>
  have h':=h;simp only [R] at h';obtain ⟨_,ob,g,hl,_,hh,_⟩:=h';simp only [AV.fit,AV.isObj,hl.1] at hf;split at hf
  .rename_i hc;obtain ⟨b,f,_,rfl⟩:=hh hc.1 hc.2;exact one h rfl rfl rfl (by simp)
  .cases hf
 |agg c=>simp only [R] at h;obtain ⟨cs,rfl,ho,hr⟩:=h;exact ⟨by simpa [AV.cells,Value.cells] using hr,by simpa [Value.cells] using ho,λ_ _=>⟨_,rfl⟩,λhne=>absurd rfl (hne c)⟩
 |gZ c=>cases hf
 |fn f c=>have h':=h;simp only [R] at h';obtain ⟨_,cs,rfl,_⟩:=h';exact one h rfl rfl rfl (by simp)
 |undef=>cases hf
def Step (P:Program) [aC P] (B:gV P) (o:Oper) (s s':AS):Prop:=
 ∀a w next Q,Rel B s a w->(∀a' w',Rel B s' a' w'->next a' w')->o.wp P a w next Q
theorem rQ {P:Program} [aC P] {B:gV P} {o:Oper} {s s':AS}
  (h:∀G a w,eF B s G a w->∃v w',(execOp a.eval o).run P w= .ok (.value v) w'/\Rel B s' (a.put o.dst v) w'):Step P B o s s':=by
 rintro a w next Q ⟨G,r⟩ hn
 obtain ⟨v,w',hr,hrel⟩:=h G a w r;unfold Oper.wp;rw [hr];exact hn _ _ hrel
theorem Qd {P:Program} [aC P] {B:gV P} {o:Oper} {s s':AS}
  (h:∀G a w,eF B s G a w->∃w',(execOp a.eval o).run P w= .ok .skip w'/\Rel B s' (a.put o.dst Go.undef) w'):Step P B o s s':=by
 rintro a w next Q ⟨G,r⟩ hn
 obtain ⟨w',hr,hrel⟩:=h G a w r;unfold Oper.wp;rw [hr];exact hn _ _ hrel
theorem dW {P:Program} [aC P] {B:gV P} {o:Oper} {s:AS} {x:AV}
  (h:∀G a w,eF B s G a w->∃v,(execOp a.eval o).run P w= .ok (.value v) w/\R w (env B s.o G w) x v []):Step P B o s (s.put o.dst x):=
 rQ λG a w r=>let ⟨v,hr,hx⟩:=h G a w r;⟨v,w,hr,G,r.put o.dst hx⟩
section
variable {P : Program} [aC P] {B : gV P} {s : AS} {dst : Option Tmp} {ty : TypeId} {pos : String} {after : Array Edge} {gd : Option (Nat × Bool)}
theorem D9 (x:Operand):Step P B ⟨dst,.move x,ty,pos,after,gd⟩ s (s.put dst (s.ev x)):=
 dW λ_ a _ r=>⟨a.eval x,rfl,r.ev x⟩
theorem Ye (x:Operand):Step P B ⟨dst,.assign x,ty,pos,after,gd⟩ s (s.put dst (s.ev x)):=
 dW λ_ a _ r=>⟨a.eval x,rfl,r.ev x⟩
def AS.box (s:AS) (d:Option Tmp) (c:List AV):AS:=AS.put ⟨s.t,s.o++[⟨true,true,c.length,0,[c]⟩]⟩ d (.ptr s.o.length 0 0 0)
theorem heap_alloc (w:World) (o:Obj) (b:Nat) (h:b < w.heap.size):(w.alloc o).heap[b]? =w.heap[b]?:=heap_alloc_old w o h
theorem fT (w:World) (o:Obj):(w.alloc o).heap[w.heap.size]? =some o:=heap_alloc_new w o
theorem eF.aNd {G:List CO} {a:Act} {w:World} (r:eF B s G a w) (ob:aN) (cap:Nat) (C:Array Value) (e:TypeId)
  (hl:ob.eQ.length<=cap) (wS:cap<=maxLen) (hC:cap * ob.n<=C.size)
  (hr:∀w' E',fK w ((env B s.o G w).of ob.box) w' E'->w'.heap[w.heap.size]? =some (.cells C e (0,0))->Rr w' E' ob.eQ w.heap.size 0 ob.n []):
  ∃G',eF B ⟨s.t,s.o++[ob]⟩ G' a (w.alloc (.cells C e))/\fK w (env B s.o G w) (w.alloc (.cells C e)) (env B (s.o++[ob]) G' (w.alloc (.cells C e)))/\
   G'[s.o.length]? =some ⟨some ⟨w.heap.size,0,none⟩,cap,λb=>b=w.heap.size⟩:=by
 refine ⟨G++[⟨some ⟨w.heap.size,0,none⟩,cap,λb=>b=w.heap.size⟩],?_⟩;have:=r.add [ob] [⟨some ⟨w.heap.size,0,none⟩,cap,λb=>b=w.heap.size⟩] (w.alloc (.cells C e)) rfl (by simp) (λb hb=>heap_alloc w _ b hb) ?_ ?_ ?_
 .refine ⟨this.1,this.2,?_⟩;rw [<-r.len];simp
 .rintro j x y b ⟨h1,h2⟩ _ hf;cases j with
  |zero=>simp at h2;subst h2;simp at hf;subst hf;simp
  |succ j=>simp at h2
 .rintro i j _ _ _ _ b ⟨h1,_⟩ ⟨h2,_⟩ _ _ _ _;cases i<;>cases j<;>simp_all
 .rintro k j x y ⟨h1,h2⟩ _;cases j with
  |zero=>simp at h1 h2;subst h1;subst h2;refine ⟨[w.heap.size],⟨hM hl wS,.inr ⟨w.heap.size,0,C,e,(0,0),[],rfl,fT w _,.inr rfl,by simpa using hC,hl,wS,rfl,?_⟩⟩,by simp,by simp⟩;exact hr _ _ (k.of ob.box) (fT w _)
  |succ j=>simp at h1
theorem UY {o:List aN} {G':List CO} {ob:aN} {g:CO} (h:G'[o.length]? =some g):look (o++[ob]) G' o.length ob g:=⟨by simp,h⟩
theorem IL (P:Program) (w:World) (t:TypeId) (v:Value):(newVar t v).run P w= .ok ⟨w.heap.size,0,none⟩ (w.alloc (.cells v.cells t)):=by simp [newVar,newRow]
theorem eF.boxed {G:List CO} {a:Act} {w:World} (r:eF B s G a w) (d:Option Tmp) {c:List AV} {cs:Array Value} (t:TypeId) (ho:∀x∈cs.toList,x.oneCell'=true)
  (hr:Rc w (env B s.o G w) c cs.toList []):Rel B (s.box d c) (a.put d (.pointer (some ⟨w.heap.size,0,none⟩))) (w.alloc (.cells cs t)):=by
 have hl:=gN hr;obtain ⟨G',r',k,hG⟩:=r.aNd ⟨true,true,c.length,0,[c]⟩ 1 cs t (by simp) (by simp [maxLen]) (by simpa using CA hl.symm) (λw' E' k hb=>by
  simp only [Rr];refine ⟨cs.toList,[],[],by simpa using hl,?_,ho,fB k _ _ _ (by simp) hr,rfl,rfl⟩;intro j v hv;simp [World.cell?,hb];simpa using hv)
 refine ⟨G',?_⟩;exact r'.put d (by
  simp only [R];exact ⟨trivial,_,_,UY hG,eE _,λ_ _=>⟨w.heap.size,0,rfl,by simp⟩,λ_ h=>by cases h⟩)
theorem eF.aNe {G:List CO} {a:Act} {w:World} (r:eF B s G a w) (d:Option Tmp) {c:List AV} {cs:Array Value} (t:TypeId) {i:Nat} (hi:s.o[i]? =some ⟨true,false,c.length,0,[]⟩) (ho:∀x∈cs.toList,x.oneCell'=true)
  (hr:Rc w (env B s.o G w) c cs.toList []):Rel B (AS.put ⟨s.t,s.o.set i ⟨true,true,c.length,1,[c]⟩⟩ d (.ptr i 1 0 0)) (a.put d (.pointer (some ⟨w.heap.size,0,none⟩))) (w.alloc (.cells cs t)):=by
 have hl:=gN hr;have hlt:i < G.length:=by rw [r.len];exact (cH.1 hi).1
 have hlk:Aw.look s.o G i ⟨true,false,c.length,0,[]⟩ G[i]:=⟨hi,aE hlt⟩;generalize G[i]=g at hlk;have hm:=r.modify hlk rfl ⟨true,true,c.length,1,[c]⟩ ⟨some ⟨w.heap.size,0,none⟩,1,λb=>g.F b\/b=w.heap.size⟩ (w.alloc (.cells cs t)) (by simp) rfl (λh=>by simp at h)
  (λb hb=>by
   rcases hb with hb|rfl
   .exact .inl hb
   .exact .inr ⟨eE _,by simp⟩)
  (λb hb _=>⟨.inl hb,λx hx=>by
   obtain rfl:=cQ hx;have:=(r.fresh _ _ _ b hlk rfl hb).2;simp;omega⟩)
  (λb hb _=>heap_alloc w _ b hb) (by simp) (λk _=>by
   refine ⟨[w.heap.size],⟨by simp [maxLen],.inr ⟨w.heap.size,0,cs,t,(0,0),[],rfl,fT w _,.inr rfl,by simpa using CA hl.symm,by simp,by simp [maxLen],rfl,?_⟩⟩,by simp,by simp⟩;simp only [Env.of,gO,Rr];refine ⟨cs.toList,[],[],by simpa using hl,?_,ho,fB k _ _ _ (by simp) hr,rfl,rfl⟩;intro j v hv;have hb:=fT w (Obj.cells cs t);simp only [World.cell?,hb];simpa using hv) (by exact ⟨rfl,rfl,rfl⟩) (λ_=> .inr (by simp))
 have hl2:Aw.look (s.o.set i ⟨true,true,c.length,1,[c]⟩) (G.set i ⟨some ⟨w.heap.size,0,none⟩,1,λb=>g.F b\/b=w.heap.size⟩) i ⟨true,true,c.length,1,[c]⟩ ⟨some ⟨w.heap.size,0,none⟩,1,λb=>g.F b\/b=w.heap.size⟩:=uE hlk;refine ⟨_,hm.1.put d ?_⟩;simp only [R];exact ⟨trivial,_,_,hl2,eE _,λ_ _=>⟨w.heap.size,0,rfl,by simp⟩,λ_ h=>by cases h⟩
theorem aAp (t:TypeId) (x:Operand) (hx:(s.ev x).fit s.o=true):Step P B ⟨dst,.box t x,ty,pos,after,gd⟩ s (s.box dst (s.ev x).cells):=
 rQ λG a w r=>by have h:=PH hx (r.ev x);exact ⟨_,_,by simp [execOp,Instr.box,IL],r.boxed dst t h.2.1 h.1⟩
theorem ik (t:TypeId) {z:List AV} (hz:dM P t=some z):Step P B ⟨dst,.alloc t,ty,pos,after,gd⟩ s (s.box dst z):=
 rQ λG a w r=>by
  unfold dM at hz;cases hi:P.info? t with
  |none=>simp [hi] at hz
  |some i=>
   cases hv:i.zero with
   |none=>simp [hi,hv] at hz
   |some v=>
    simp only [hi,hv,tR] at hz;split at hz
    .rename_i hall;obtain rfl:=cQ hz;refine ⟨_,_,by simp [execOp,Instr.alloc,zeroValue,typeInfo,hi,hv,IL],r.boxed dst t (fW.1 hall) (Gy w _ _ _)⟩
    .cases hz
theorem WI (t:TypeId) {z:List AV} {i:Nat} (hz:dM P t=some z) (hi':s.o[i]? =some ⟨true,false,z.length,0,[]⟩):Step P B ⟨dst,.alloc t,ty,pos,after,gd⟩ s (AS.put ⟨s.t,s.o.set i ⟨true,true,z.length,1,[z]⟩⟩ dst (.ptr i 1 0 0)):=
 rQ λG a w r=>by
  unfold dM at hz;cases hi:P.info? t with
  |none=>simp [hi] at hz
  |some i=>
   cases hv:i.zero with
   |none=>simp [hi,hv] at hz
   |some v=>
    simp only [hi,hv,tR] at hz;split at hz
    .rename_i hall;obtain rfl:=cQ hz;refine ⟨_,_,by simp [execOp,Instr.alloc,zeroValue,typeInfo,hi,hv,IL],r.aNe dst t hi' (fW.1 hall) (Gy w _ _ _)⟩
    .cases hz
theorem Qe {t:List AV} {o:List aN} {a:Act} {w:World} (ns:List Nat) (h:Rel B ⟨t,o⟩ a w):Rel B ⟨t,o++ns.map λn=>⟨true,false,n,0,[]⟩⟩ a w:=by
 obtain ⟨G,r⟩:=h;have:=r.add (ns.map λn=>⟨true,false,n,0,[]⟩) (ns.map λ_=>⟨none,0,λ_=>False⟩) w (by simp) (eE _) (λ_ _=>rfl)
  (λj ob g b hl _ hF=>by
   obtain ⟨_,h2⟩:=hl;simp only [sL] at h2;cases hn:ns[j]? with
   |none=>simp [hn] at h2
   |some n=>simp [hn] at h2;subst h2;exact hF.elim)
  (λi j oi oj gi gj b hl _ _ _ hF _=>by
   obtain ⟨_,h2⟩:=hl;simp only [sL] at h2;cases hn:ns[i]? with
   |none=>simp [hn] at h2
   |some n=>simp [hn] at h2;subst h2;exact hF.elim)
  (λk j ob g hl _=>by
   obtain ⟨h1,h2⟩:=hl;simp only [sL] at h1 h2;cases hn:ns[j]? with
   |none=>simp [hn] at h2
   |some n=>
    simp [hn] at h1 h2;subst h1;subst h2;exact ⟨[],⟨by simp [maxLen],.inl ⟨rfl,rfl,rfl⟩⟩,by simp,by simp⟩) (by exact ⟨rfl,rfl,rfl⟩)
 exact ⟨_,this.1⟩
def DV (i:Nat):Tg->Option Tg
 | .own=>some (.kG i)
 |g=>some g
theorem il {P:Program} [aC P] {B:gV P} {o:List aN} {G:List CO} {w:World} {i:Nat} {ob:aN} {g:CO} (hl:look o G i ob g) (hlive:ob.live=true) (box:Bool):
  nJ (DV i) true ((env B o G w).of box) (env B o G w) (λb=>g.F b/\∀a,g.a=some a->b≠a.block) where
 own t e:=by obtain rfl:=cQ e;exact ⟨by simp,λb hb=>⟨ob,g,hl,hlive,hb.1,hb.2⟩⟩
 view t e:=by obtain rfl:=cQ e;exact ⟨rfl,λb hb=>by cases box<;>exact hb⟩
 kG j t e:=by
  obtain rfl:=cQ e;refine ⟨by simp,?_,λb hb=> ?_⟩
  .by_cases h:(env B o G w).V j
   .left;cases box
    .trivial
    .exact h
   .right;exact h
  .cases box
   .exact hb.elim
   .exact hb
 hh _ j v x h:=by cases box;exact h.elim;exact h
 hl _ j v k q x h:=by cases box;exact h.elim;exact h
theorem lC {o:List aN} {i cZ:Nat} {ob:aN} (h:AV.isObj o i cZ=some ob):o[i]? =some ob/\ob.live=true/\ob.cZ=cZ:=by
 unfold AV.isObj at h;split at h
 .rename_i x hx;split at h
  .rename_i hc;obtain rfl:=cQ h;exact ⟨hx,hc⟩
  .cases h
 .cases h
theorem eF.look {P:Program} [aC P] {B:gV P} {s:AS} {G:List CO} {a:Act} {w:World} (r:eF B s G a w) {i:Nat} {ob:aN} (h:s.o[i]? =some ob):∃g,look s.o G i ob g:=by
 have hi:i < G.length:=by rw [r.len];exact (cH.1 h).1
 exact ⟨G[i],h,aE hi⟩
theorem eF.elem {P:Program} [aC P] {B:gV P} {s:AS} {G:List CO} {a:Act} {w:World} (r:eF B s G a w) {i idx:Nat} {ob:aN} {g:CO} {e:List AV} (hl:Aw.look s.o G i ob g) (hlive:ob.live=true) (he:ob.eQ[idx]? =some e):
  ∃b f cs,g.a=some ⟨b,f,none⟩/\cs.length=ob.n/\bN w b (f+idx * ob.n) cs/\(∀x∈cs,x.oneCell'=true)/\Rc w (env B s.o G w) (xM (DV i) true e) cs []:=by
 obtain ⟨fp,⟨_,h⟩,hnd,hF⟩:=r.ok i ob g hl hlive;rcases h with ⟨h,_⟩|⟨b,f,C,ty,fz,rD,ha,hb,hz,h1,h2,h3,rfl,hr⟩
 .rw [h] at he;simp at he
 obtain ⟨f1,f2,f3,cs,rfl,hn,hc,ho,wH,_,_⟩:=CS hr he;refine ⟨b,f,cs,ha,hn,hc,ho,?_⟩;refine yN (il hl hlive ob.box) e cs f2 (λx hx=>⟨hF x (by simp [hx]),λa' wN=> ?_⟩) wH;rw [ha] at wN;obtain rfl:=cQ wN;simp only [lR] at hnd;rintro rfl;exact hnd.1 (by simp [hx])
theorem Qf {w:World} {E:Env} {c:List AV} {cs:List Value} (off n:Nat) (h:Rc w E c cs []):Rc w E ((c.drop off).take n) ((cs.drop off).take n) []:=by
 obtain ⟨f1,f2,e,_,h2⟩:=tV off h;obtain ⟨rfl,rfl⟩:f1=[]/\f2=[]:=by simpa using e.symm
 obtain ⟨f1,f2,e,h3,_⟩:=tV n h2;obtain ⟨rfl,rfl⟩:f1=[]/\f2=[]:=by simpa using e.symm
 exact h3
theorem Gz {cs:List Value} {off n:Nat} (ho:∀x∈cs,x.oneCell'=true):∀x∈(cs.drop off).take n,x.oneCell'=true:=
 λx hx=>ho x (By (tB hx))
theorem bN.slice {w:World} {b off:Nat} {cs:List Value} (k n:Nat) (h:bN w b off cs):bN w b (off+k) ((cs.drop k).take n):=h.drop.take
theorem DW (f:Tg->Option Tg) (h:Bool):∀c,(xM f h c).length=c.length
 |[]=>rfl
 |_::xs=>by simp [xM,DW f h xs]
theorem uJ {P:Program} {w:World} {t:TypeId} {b off k n:Nat} {cs:List Value} (ht:bM P t=some n) (hfit:k+n<=cs.length) (h:bN w b off cs):
  (Instr.loadAt t (.pointer (some ⟨b,off+k,none⟩))).run P w= .ok (.agg ((cs.drop k).take n).toArray) w:=by
 have hl:((cs.drop k).take n).length=n:=by simp;omega
 simpa [Instr.loadAt,Instr.sureAddr] using WE (P:=P) (t:=t) (by rw [hl];exact ht) (h.slice k n)
theorem xQ {P:Program} {w:World} {t:TypeId} {b off k:Nat} {cs:List Value} {v:Value} (ht:gB P t=true) (hv:cs[k]? =some v) (h:bN w b off cs):
  (Instr.loadAt t (.pointer (some ⟨b,off+k,none⟩))).run P w= .ok v w:=by
 have:(cs.drop k).take 1=[v]:=by obtain ⟨hk,rfl⟩:=cH.1 hv;rw [mL hk,eL,fS]
 have h1:=h.slice k 1;rw [this] at h1;simpa [Instr.loadAt,Instr.sureAddr] using WG (P:=P) (t:=t) ht h1
theorem eF.ptr {G:List CO} {a:Act} {w:World} (r:eF B s G a w) {x:Operand} {i cZ idx off:Nat} {ob:aN} (hx:s.ev x= .ptr i cZ idx off) (ho:AV.isObj s.o i cZ=some ob):
  ∃g b f,Aw.look s.o G i ob g/\ob.live=true/\g.a=some ⟨b,f,none⟩/\a.eval x= .pointer (some ⟨b,f+(idx * ob.n+off),none⟩):=by
 have h:=r.ev x;rw [hx] at h;simp only [R] at h;obtain ⟨_,fZ,g,hl,_,hh,_⟩:=h;obtain ⟨h1,h2,h3⟩:=lC ho;obtain rfl:=cQ (hl.1.symm.trans h1);obtain ⟨b,f,ha,hv⟩:=hh h2 h3;exact ⟨g,b,f,hl,h2,ha,hv⟩
theorem eF.pin {G:List CO} {a:Act} {w:World} (r:eF B s G a w) {x:Operand} {i cZ idx off:Nat} {ob:aN} {g:CO} (hx:s.ev x= .ptr i cZ idx off) (ho:AV.isObj s.o i cZ=some ob) (hg:Aw.look s.o G i ob g):
  ob.box=true->cZ=2->idx=0->off=0->∀y,B.p0 i=some y->a.eval x=y.1/\(ob.live=true->ob.cZ=2->g.cap=y.2):=by
 have h:=r.ev x;rw [hx] at h;simp only [R] at h;obtain ⟨_,fZ,g',hl,_,_,hz⟩:=h;obtain ⟨h1,h2,h3⟩:=lC ho;obtain rfl:=cQ (hl.1.symm.trans h1);obtain rfl:=cQ (hl.2.symm.trans hg.2);exact hz
theorem JU (t:TypeId) (x:Operand) {i cZ idx off n:Nat} {ob:aN} {e:List AV} (hx:s.ev x= .ptr i cZ idx off) (ho:AV.isObj s.o i cZ=some ob) (he:ob.eQ[idx]? =some e)
  (hn:bM P t=some n) (hfit:off+n<=e.length):Step P B ⟨dst,.load t x,ty,pos,after,gd⟩ s (s.put dst (.agg ((xM (DV i) true e).drop off |>.take n))):=
 dW λG a w r=>by
  obtain ⟨g,b,f,hl,hlive,ha,hv⟩:=r.ptr hx ho;obtain ⟨b',f',cs,wN,hcn,hc,hone,wH⟩:=r.elem hl hlive he;rw [ha] at wN;simp only [eC,pC,rK] at wN;obtain ⟨rfl,rfl⟩:=wN;have hle:=gN wH;rw [DW] at hle;refine ⟨.agg ((cs.drop off).take n).toArray,?_,?_⟩
  .simp only [execOp,hv,<-oB];simp [uJ (P:=P) (k:=off) (n:=n) (cs:=cs) hn (by omega) hc]
  .simp only [R];exact ⟨_,rfl,Gz hone,Qf off n wH⟩
theorem JV (t:TypeId) (x:Operand) {i cZ idx off:Nat} {ob:aN} {e:List AV} {y:AV} (hx:s.ev x= .ptr i cZ idx off) (ho:AV.isObj s.o i cZ=some ob) (he:ob.eQ[idx]? =some e)
  (hn:gB P t=true) (hy:(xM (DV i) true e)[off]? =some y):Step P B ⟨dst,.load t x,ty,pos,after,gd⟩ s (s.put dst y):=
 dW λG a w r=>by obtain ⟨g,b,f,hl,hlive,ha,hv⟩:=r.ptr hx ho;obtain ⟨b',f',cs,wN,hcn,hc,hone,wH⟩:=r.elem hl hlive he;rw [ha] at wN;simp only [eC,pC,rK] at wN;obtain ⟨rfl,rfl⟩:=wN;obtain ⟨v,hv',hR⟩:=Md wH hy;refine ⟨v,?_,hR⟩;simp only [execOp,hv,<-oB];simp [xQ (P:=P) hn hv' hc]
theorem eF.fA {G:List CO} {a:Act} {w:World} (r:eF B s G a w) {x:Operand} {g:Tg} {c:List AV} {off:Nat} (hx:s.ev x= .fA g c off) (hf:(AV.fA g c off).fit s.o=true):
  ∃b o cs,a.eval x= .pointer (some ⟨b,o+off,none⟩)/\bN w b o cs/\(∀x∈cs,x.oneCell'=true)/\Rc w (env B s.o G w) c cs []:=by
 have h:=r.ev x;rw [hx] at h;simp only [R] at h;rcases h with ⟨hd,_⟩|⟨_,b,o,cs,hv,ht,hcs,hc,hr⟩
 .cases g with
  |own=>exact hd.elim
  |view=>exact hd.elim
  |kG i=>simp only [AV.fit] at hf;exfalso;refine hd (λob wG=> ?_);simpa [wG] using hf
 .refine ⟨b,o,cs,hv,hcs,hc,fB (w':=w) (E':=env B s.o G w) ?_ _ _ _ (by simp) hr⟩;cases g with
  |own=>exact ht.elim
  |view=>exact ⟨λ_ h=>⟨h,rfl⟩,λ_ _=>trivial,λ_ _ _ h=>h.elim,λ_ _ _ h=>h.elim,λ_ _ _ _ _ h=>h.elim⟩
  |kG i=>exact ⟨λ_ h=>⟨h,rfl⟩,λ_ _=>trivial,λj b _ h=>⟨by obtain ⟨rfl,h⟩:=h;exact h,rfl⟩,λ_ _ _ h=>h.elim,λ_ _ _ _ _ h=>h.elim⟩
theorem IM (t:TypeId) (x:Operand) {g:Tg} {c:List AV} {off n:Nat} (hx:s.ev x= .fA g c off) (hf:(AV.fA g c off).fit s.o=true)
  (hn:bM P t=some n) (hfit:off+n<=c.length):Step P B ⟨dst,.load t x,ty,pos,after,gd⟩ s (s.put dst (.agg (c.drop off |>.take n))):=
 dW λG a w r=>by
  obtain ⟨b,o,cs,hv,hc,hone,wH⟩:=r.fA hx hf;have hle:=gN wH;refine ⟨.agg ((cs.drop off).take n).toArray,?_,?_⟩
  .simp only [execOp,hv];simp [uJ (P:=P) (k:=off) (n:=n) (cs:=cs) hn (by omega) hc]
  .simp only [R];exact ⟨_,rfl,Gz hone,Qf off n wH⟩
theorem IP (t:TypeId) (x:Operand) {g:Tg} {c:List AV} {off:Nat} {y:AV} (hx:s.ev x= .fA g c off) (hf:(AV.fA g c off).fit s.o=true)
  (hn:gB P t=true) (hy:c[off]? =some y):Step P B ⟨dst,.load t x,ty,pos,after,gd⟩ s (s.put dst y):=
 dW λG a w r=>by obtain ⟨b,o,cs,hv,hc,hone,wH⟩:=r.fA hx hf;obtain ⟨v,hv',hR⟩:=Md wH hy;refine ⟨v,?_,hR⟩;simp only [execOp,hv];simp [xQ (P:=P) hn hv' hc]
theorem Nw {t:TypeId} {f fo:Nat} (h:bC P t f=some fo) (w:World) (b o:Nat):(Instr.fieldAt t (.pointer (some ⟨b,o,none⟩)) f).run P w= .ok (.pointer (some ⟨b,o+fo,none⟩)) w:=by
 unfold bC at h;split at h
 .rename_i fs hu;split at h
  .rename_i fd hfd;split at h
   .rename_i inf hi;split at h
    .cases h
    .rename_i hz;obtain rfl:=cQ h;simp [Instr.fieldAt,gC hu,hfd,Instr.sureAddr,fieldPlace,sizeOf,typeInfo,hi,hz,addr_add]
   .cases h
  .cases h
 .cases h
theorem Qg (t:TypeId) (x:Operand) (f:Nat) {i cZ idx off fo:Nat} {ob:aN} (hx:s.ev x= .ptr i cZ idx off) (ho:AV.isObj s.o i cZ=some ob) (hf:bC P t f=some fo):
  Step P B ⟨dst,.fieldAddr t x f,ty,pos,after,gd⟩ s (s.put dst (.ptr i cZ idx (off+fo))):=
 dW λG a w r=>by
  obtain ⟨g,b,k,hl,hlive,ha,hv⟩:=r.ptr hx ho;refine ⟨.pointer (some ⟨b,k+(idx * ob.n+(off+fo)),none⟩),?_,?_⟩
  .simp only [execOp,hv];simp [Nw hf,oB]
  .simp only [R];obtain ⟨h1,h2,h3⟩:=lC ho;refine ⟨trivial,ob,g,hl,CA h3.symm,λ_ _=>⟨b,k,ha,rfl⟩,λe1 e2 e3 e4 y hy=> ?_⟩;have h0:off=0:=by omega
   have h0':fo=0:=by omega
   have:=r.pin hx ho hl e1 e2 e3 h0 y hy;exact ⟨by rw [<-this.1,hv,h0,h0'],this.2⟩
theorem OE (t:TypeId) (x:Operand) (f:Nat) {g:Tg} {c:List AV} {off fo:Nat} (hx:s.ev x= .fA g c off) (hfit:(AV.fA g c off).fit s.o=true) (hf:bC P t f=some fo):
  Step P B ⟨dst,.fieldAddr t x f,ty,pos,after,gd⟩ s (s.put dst (.fA g c (off+fo))):=
 dW λG a w r=>by
  obtain ⟨b,o,cs,hv,hc,hone,wH⟩:=r.fA hx hfit;refine ⟨.pointer (some ⟨b,o+(off+fo),none⟩),?_,?_⟩
  .simp only [execOp,hv];simp [Nw hf,oB]
  .have h:=r.ev x;rw [hx] at h;simp only [R] at h⊢;rcases h with h|⟨h1,b',o',cs',hv',ht,hcs,hc',hr⟩
   .exact .inl ⟨h.1,trivial⟩
   .rw [hv] at hv';simp only [CH,eC,pC,rK] at hv';refine .inr ⟨trivial,b',o',cs',?_,ht,hcs,hc',hr⟩;obtain ⟨rfl,h2⟩:=hv';simp only [CH,eC,pC,rK,true_and];omega
def Rv (w:World) (E:Env):List (List AV)->List Value->Nat->List Nat->Prop
 |[],vs,_,fp=>vs=[]/\fp=[]
 |e::es,vs,n,fp=>∃cs rest f1 f2,vs=cs++rest/\cs.length=n/\(∀x∈cs,x.oneCell'=true)/\Rc w E e cs f1/\Rv w E es rest n f2/\fp=f1++f2
theorem bN.append {w:World} {b off:Nat} {c1 c2:List Value}:bN w b off (c1++c2)↔bN w b off c1/\bN w b (off+c1.length) c2:=by
 constructor
 .intro h;refine ⟨λj v hv=>h j v ?_,λj v hv=> ?_⟩
  .rw [pH (cH.1 hv).1];exact hv
  .have:=h (c1.length+j) v (by rw [hS (by omega)];simpa using hv)
   rwa [<-oB] at this
 .rintro ⟨h1,h2⟩ j v hv;by_cases hj:j < c1.length
  .rw [pH hj] at hv;exact h1 j v hv
  .rw [hS (by omega)] at hv;have:=h2 _ v hv
   rwa [show off+c1.length+(j - c1.length)=off+j by omega] at this
theorem sV {w:World} {E:Env} {b n:Nat}:∀{l:List (List AV)} {off:Nat} {fp:List Nat},Rr w E l b off n fp↔∃vs,Rv w E l vs n fp/\bN w b off vs
 |[],off,fp=>by simp only [Rr,Rv];exact ⟨λh=>⟨[],⟨rfl,h⟩,λj v hv=>by simp at hv⟩,λ⟨_,h,_⟩=>h.2⟩
 |e::es,off,fp=>by
  simp only [Rr,Rv,sV (l:=es)];constructor
  .rintro ⟨cs,f1,f2,hn,hc,ho,h1,⟨vs,h2,h3⟩,rfl⟩;refine ⟨cs++vs,⟨cs,vs,f1,f2,rfl,hn,ho,h1,h2,rfl⟩,bN.append.2 ⟨hc,by rw [hn];exact h3⟩⟩
  .rintro ⟨_,⟨cs,vs,f1,f2,rfl,hn,ho,h1,h2,rfl⟩,h3⟩;have:=bN.append.1 h3;exact ⟨cs,f1,f2,hn,this.1,ho,h1,⟨vs,h2,by rw [<-hn];exact this.2⟩,rfl⟩
theorem jX {w:World} {E:Env} {n:Nat}:∀{l:List (List AV)} {vs:List Value} {fp:List Nat},Rv w E l vs n fp->vs.length=l.length * n
 |[],_,_,h=>by simp only [Rv] at h;simp [h.1]
 |_::es,_,_,h=>by simp only [Rv] at h;obtain ⟨cs,rest,f1,f2,rfl,hn,_,_,h2,_⟩:=h;simp [jX h2,hn,pS,Nat.add_comm]
theorem Qh {w:World} {E:Env} {n:Nat}:∀{l:List (List AV)} {vs:List Value} {fp:List Nat},Rv w E l vs n fp->∀x∈vs,x.oneCell'=true
 |[],_,_,h,x,hx=>by simp only [Rv] at h;simp [h.1] at hx
 |_::es,_,_,h,x,hx=>by
  simp only [Rv] at h;obtain ⟨cs,rest,f1,f2,rfl,_,ho,_,h2,_⟩:=h;rcases fL.1 hx with h|h
  .exact ho x h
  .exact Qh h2 x h
theorem AX {w:World} {E:Env} {n:Nat} {l2:List (List AV)} {v2:List Value} {g2:List Nat} (h':Rv w E l2 v2 n g2):∀{l:List (List AV)} {vs:List Value} {fp:List Nat},Rv w E l vs n fp->Rv w E (l++l2) (vs++v2) n (fp++g2)
 |[],_,_,h=>by simp only [Rv] at h;obtain ⟨rfl,rfl⟩:=h;simpa using h'
 |_::es,_,_,h=>by simp only [Rv] at h;obtain ⟨cs,rest,f1,f2,rfl,hn,ho,h1,h2,rfl⟩:=h;simp only [eA,Rv];exact ⟨cs,rest++v2,f1,f2++g2,by simp,hn,ho,h1,AX h' h2,by simp⟩
theorem wI {w w':World} {E E':Env} (k:fK w E w' E') {n:Nat}:∀{l:List (List AV)} {vs:List Value} {fp:List Nat},(∀b∈fp,w'.heap[b]? =w.heap[b]?)->Rv w E l vs n fp->Rv w' E' l vs n fp
 |[],_,_,_,h=>by simpa [Rv] using h
 |_::es,_,_,hf,h=>by simp only [Rv] at h⊢;obtain ⟨cs,rest,f1,f2,rfl,hn,ho,h1,h2,rfl⟩:=h;exact ⟨cs,rest,f1,f2,rfl,hn,ho,fB k _ _ _ (λx hx=>hf x (by simp [hx])) h1,wI k (λx hx=>hf x (by simp [hx])) h2,rfl⟩
theorem IQ {P:Program} {w:World} {tS xT ty e:TypeId} {i:TypeInfo} {z:Value} (ht:P.underlying tS=some (.slice e)) (hxt:∃d,P.underlying xT=some d/\∀k,d≠ .int k) (hi:P.info? e=some i) (hz:i.zero=some z)
  {base:Option Addr} {sLen sCap n:Nat} {x:Value} (hlen:(Builtin.lenOf x).run P w= .ok n w) {news olds:List Value}
  (Fs:∀w',w'.heap=w.heap->(Builtin.firstCells i.size n x).run P w'= .ok news.toArray w')
  (holds:∀w',w'.heap=w.heap->(Builtin.firstCells i.size sLen (.slice base sLen sCap)).run P w'= .ok olds.toArray w')
  (hbytes:(sLen+n) * i.bytes<=140737488355328) (h63:sLen+n<=9223372036854775807):
  (sLen+n<=sCap->∀w1,(match base with
    |some a=>(storeCells (a.add (sLen * i.size)) news).run P w= .ok () w1
    |none=>w1=w)->(Builtin.append_ #[tS,xT] ty #[.slice base sLen sCap,x]).run P w= .ok (.slice base (sLen+n) sCap) w1)/\
  (sCap < sLen+n->(Builtin.append_ #[tS,xT] ty #[.slice base sLen sCap,x]).run P w=
   .ok (.slice (some ⟨w.heap.size,0,none⟩) (sLen+n) (grownCap w (sLen+n) sCap e)) (w.drew.alloc (.cells (olds.toArray++news.toArray++Builtin.zeroCells z.cells (grownCap w (sLen+n) sCap e - (sLen+n))) e))):=by
 obtain ⟨d,hd,hdi⟩:=hxt;constructor
 .intro hroom w1 h1;have hn:=Fs w rfl;cases base with
  |none=>simp only at h1;subst h1;simp [Builtin.append_,gC ht,gC hd,sizeOf,typeInfo,hi,hlen,hroom,hn]
  |some a=>simp only at h1;simp [Builtin.append_,gC ht,gC hd,sizeOf,typeInfo,hi,hlen,hroom,hn,h1]
 .intro hg;have hnr:¬(sLen+n<=sCap):=by omega
  have aQi:¬(9223372036854775807 < ((sLen:Int)+(n:Int))):=by omega
  have hfit:=growslice_fits hg hbytes;have aQj:¬(281474976710656 < Builtin.nextslicecap (sLen+n) sCap * i.bytes):=by omega
  have hn:=Fs w.drew rfl;have ho:=holds w.drew rfl;simp [Builtin.append_,gC ht,gC hd,sizeOf,typeInfo,zeroValue,hi,hz,hlen,hnr,aQi,aQj,Question.forced,hn,ho,newRow,grownCap];rw [<-append_toArray,Array.append_assoc]
def aN.kill (ob:aN):aN:={ob with live:=false}
theorem eF.Yf {P:Program} [aC P] {B:gV P} {s:AS} {G:List CO} {a:Act} {w:World} (r:eF B s G a w) {i j:Nat} (hij:i≠j) {oi oj:aN} {gi gj:CO} (hi:Aw.look s.o G i oi gi) (hj:Aw.look s.o G j oj gj) (hil:oi.live=true) (hjl:oj.live=true):
  eF B ⟨s.t,s.o.set j oj.kill⟩ (G.set i {gi with F:=λb=>gi.F b\/gj.F b}) a w/\fK w (env B s.o G w) w (env B (s.o.set j oj.kill) (G.set i {gi with F:=λb=>gi.F b\/gj.F b}) w):=by
 have hii:Aw.look (s.o.set j oj.kill) (G.set i {gi with F:=λb=>gi.F b\/gj.F b}) i oi {gi with F:=λb=>gi.F b\/gj.F b}:=by refine ⟨by rw [lB (AD hij)];exact hi.1,?_⟩;have:=(cH.1 hi.2).1;simp [this]
 have hjj:Aw.look (s.o.set j oj.kill) (G.set i {gi with F:=λb=>gi.F b\/gj.F b}) j oj.kill gj:=by refine ⟨?_,by rw [lB hij];exact hj.2⟩;have:=(cH.1 hj.1).1;simp [this]
 have back:∀{k x y},Aw.look (s.o.set j oj.kill) (G.set i {gi with F:=λb=>gi.F b\/gj.F b}) k x y->x.live=true->
   k≠j/\((k=i/\x=oi/\y={gi with F:=λb=>gi.F b\/gj.F b})\/(k≠i/\Aw.look s.o G k x y)):=by
  intro k x y h hx;by_cases hk:k=j
  .subst hk;have:=(nK h hjj).1;subst this;exact absurd hx (by simp [aN.kill])
  .refine ⟨hk,?_⟩;by_cases hki:k=i
   .subst hki;exact .inl ⟨rfl,nK h hii⟩
   .refine .inr ⟨hki,?_,?_⟩
    .have:=h.1;rwa [lB (AD hk)] at this
    .have:=h.2;rwa [lB (AD hki)] at this
 have fwd:∀{k x y},k≠i->k≠j->Aw.look s.o G k x y->Aw.look (s.o.set j oj.kill) (G.set i {gi with F:=λb=>gi.F b\/gj.F b}) k x y:=by intro k x y h1 h2 h;exact ⟨by rw [lB (AD h2)];exact h.1,by rw [lB (AD h1)];exact h.2⟩
 have k:fK w (env B s.o G w) w (env B (s.o.set j oj.kill) (G.set i {gi with F:=λb=>gi.F b\/gj.F b}) w):=by
  refine De (eE _) (λb hb=>⟨wR r hb,rfl⟩) r.len ?_ ?_
  .intro k x y h;by_cases hk:k=j
   .subst hk;obtain ⟨rfl,rfl⟩:=nK hj h;exact ⟨_,_,hjj,eE _,λh=> .inl h,λhf=>absurd hf (by simp [aN.kill])⟩
   .by_cases hki:k=i
    .subst hki;obtain ⟨rfl,rfl⟩:=nK hi h;exact ⟨_,_,hii,eE _,λh=> .inl h,λ_=>⟨hil,rfl,λ_=>⟨rfl,rfl,rfl⟩,λb hb hne=>⟨.inl hb,hne,rfl⟩⟩⟩
    .exact ⟨x,y,fwd hki hk h,eE _,λh=> .inl h,λhx=>⟨hx,rfl,λ_=>⟨rfl,rfl,rfl⟩,λb hb hne=>⟨hb,hne,rfl⟩⟩⟩
  .intro k x y b h hx hf;obtain ⟨_,⟨rfl,rfl,rfl⟩|⟨_,h'⟩⟩:=back h hx
   .rcases hf with hf|hf
    .exact .inr ⟨_,_,_,hi,hil,hf⟩
    .exact .inr ⟨_,_,_,hj,hjl,hf⟩
   .exact .inr ⟨_,_,_,h',hx,hf⟩
 refine ⟨r.next k (by simp [r.len]) ?_ ?_ ?_ (eE _) (λ_ _ _=>rfl),k⟩
 .intro k' x y h hx;obtain ⟨_,⟨rfl,rfl,rfl⟩|⟨_,h'⟩⟩:=back h hx
  .obtain ⟨fp,h1,h2,h3⟩:=(r.ok _ _ _ hi hil).keeps k (λ_ _=>rfl)
   exact ⟨fp,h1,h2,λb hb=> .inl (h3 b hb)⟩
  .exact (r.ok _ _ _ h' hx).keeps k (λ_ _=>rfl)
 .intro k1 k2 x1 x2 y1 y2 b h1 h2 hx1 hx2 hf1 hf2;obtain ⟨n1,⟨rfl,rfl,rfl⟩|⟨m1,h1'⟩⟩:=back h1 hx1<;>obtain ⟨n2,⟨rfl,rfl,rfl⟩|⟨m2,h2'⟩⟩:=back h2 hx2
  .rfl
  .rcases hf1 with hf1|hf1
   .exact r.apart _ _ _ _ _ _ b hi h2' hil hx2 hf1 hf2
   .exact absurd (r.apart _ _ _ _ _ _ b hj h2' hjl hx2 hf1 hf2).symm n2
  .rcases hf2 with hf2|hf2
   .exact r.apart _ _ _ _ _ _ b h1' hi hx1 hil hf1 hf2
   .exact absurd (r.apart _ _ _ _ _ _ b h1' hj hx1 hjl hf1 hf2) n1
  .exact r.apart _ _ _ _ _ _ b h1' h2' hx1 hx2 hf1 hf2
 .intro k' x y b h hx hf;obtain ⟨_,⟨rfl,rfl,rfl⟩|⟨_,h'⟩⟩:=back h hx
  .rcases hf with hf|hf
   .exact r.fresh _ _ _ b hi hil hf
   .exact r.fresh _ _ _ b hj hjl hf
  .exact r.fresh _ _ _ b h' hx hf
theorem qR {w:World} {b off:Nat} {C:Array Value} {e:TypeId} {fz:Nat×Nat} {vs:List Value} (hb:w.heap[b]? =some (.cells C e fz)) (h:∀j v,vs[j]? =some v->C[off+j]? =some v):bN w b off vs:=by intro j v hv;simp [World.cell?,hb,h j v hv]
theorem kP {P:Program} {w:World} {b off m n len cap:Nat} {vs:List Value} (hn:vs.length=m * n) (h:bN w b off vs):
  (Builtin.firstCells n m (.slice (some ⟨b,off,none⟩) len cap)).run P w= .ok vs.toArray w:=
 run_firstCells_some w n m _ len cap vs hn (λj v hv=>by rw [addr_add];exact h j v hv)
theorem bN.heap {w w':World} {b off:Nat} {vs:List Value} (h:bN w b off vs) (hh:w'.heap=w.heap):bN w' b off vs:=h.same (by rw [hh])
theorem eF.append {P:Program} [aC P] {B:gV P} {s:AS} {G:List CO} {a:Act} {w:World} (r:eF B s G a w) {i:Nat} {ob:aN} {g:CO} (hl:Aw.look s.o G i ob g) (hlive:ob.live=true) (vP:ob.box=false)
  {tS xT ty e:TypeId} {inf:TypeInfo} {z:Value} (ht:P.underlying tS=some (.slice e)) (hxt:∃d,P.underlying xT=some d/\∀k,d≠ .int k) (hi:P.info? e=some inf) (hz:inf.zero=some z) (hsz:inf.size=ob.n) (hzs:z.cells.size=ob.n)
  {x:Value} {l2:List (List AV)} {news:List Value} {fp fp2:List Nat} (hlen:(Builtin.lenOf x).run P w= .ok l2.length w)
  (Fs:∀w',w'.heap=w.heap->(Builtin.firstCells ob.n l2.length x).run P w'= .ok news.toArray w')
  (Ny:Rv w (env B s.o G w).plain l2 news ob.n fp2) (hown:wF w (env B s.o G w).plain ob.n ob.eQ g.a g.cap fp) (hnd:(fp++fp2).Nodup) (hF:∀b∈fp++fp2,g.F b)
  (hbytes:(ob.eQ.length+l2.length) * inf.bytes<=140737488355328) (h63:ob.eQ.length+l2.length<=9223372036854775807):
  ∃v w' G',(Builtin.append_ #[tS,xT] ty #[.slice g.a ob.eQ.length g.cap,x]).run P w= .ok v w'/\
   eF B ⟨s.t,s.o.set i {ob with cZ:=ob.cZ+1,eQ:=ob.eQ++l2}⟩ G' a w'/\
   R w' (env B (s.o.set i {ob with cZ:=ob.cZ+1,eQ:=ob.eQ++l2}) G' w') (.obj i (ob.cZ+1)) v []:=by
 obtain ⟨olds,hro,hold⟩:∃olds,Rv w (env B s.o G w).plain ob.eQ olds ob.n fp.tail/\
   ∀w',w'.heap=w.heap->(Builtin.firstCells inf.size ob.eQ.length (.slice g.a ob.eQ.length g.cap)).run P w'= .ok olds.toArray w':=by
  rcases hown.2 with ⟨h1,h2,h3⟩|⟨b,off,C,ety,fz,rD,ha,hb,hz',h1,h2,h3,rfl,hr⟩
  .subst h3;refine ⟨[],by simp [h1,Rv],λw' wz=> ?_⟩;rw [h1];cases hga:g.a with
   |none=>simp [Builtin.firstCells]
   |some a'=>simp [Builtin.firstCells,loadCells,loadCellsFrom]
  .obtain ⟨vs,hv,hc⟩:=sV.1 hr;refine ⟨vs,hv,λw' wz=> ?_⟩;rw [ha,hsz];exact kP (jX hv) (hc.heap wz)
 obtain ⟨hroom,aAq⟩:=IQ (P:=P) (w:=w) (tS:=tS) (xT:=xT) (ty:=ty) ht hxt hi hz (base:=g.a) (sLen:=ob.eQ.length) (sCap:=g.cap) (x:=x) hlen (by rw [hsz];exact Fs) hold hbytes h63;have hR:∀{w':World} {G':List CO} {g':CO},G'[i]? =some g'->(s.o[i]? =some ob)->R w' (env B (s.o.set i {ob with cZ:=ob.cZ+1,eQ:=ob.eQ++l2}) G' w') (.obj i (ob.cZ+1)) (.slice g'.a (ob.eQ.length+l2.length) g'.cap) []:=by intro w' G' g' hg' ho;simp only [R];refine ⟨trivial,{ob with cZ:=ob.cZ+1,eQ:=ob.eQ++l2},g',⟨?_,hg'⟩,eE _,⟨λ_ _=>by simp,λh=>by omega⟩⟩;have:=(cH.1 ho).1;simp [this]
 have hiG:i < G.length:=(cH.1 hl.2).1;by_cases hcase:ob.eQ.length+l2.length<=g.cap
 .-- in place
  rcases hown.2 with ⟨h1,h2,h3⟩|⟨b,off,C,ety,fz,rD,ha,hb,hz',h1,h2,h3,rfl,hr⟩
  .-- nothing to append,no aNh
   have hl2:l2=[]:=kO (by omega);subst hl2;have hnw:news=[]:=kO (by simpa using jX Ny);subst hnw;have hrun:=hroom hcase w (by cases g.a<;>simp [storeCells]);have hm:=r.modify hl hlive {ob with cZ:=ob.cZ+1,eQ:=ob.eQ++[]} g w (by simp) rfl (by simp) (λb hb=> .inl hb) (λb hb hne=>⟨hb,hne⟩) (λ_ _ _=>rfl) (eE _) (λk _=>by
    refine ⟨fp,?_,(gR.1 hnd).1,λb hb=>hF b (by simp [hb])⟩;generalize env B (s.o.set i {ob with cZ:=ob.cZ+1,eQ:=ob.eQ++[]}) (G.set i g) w=E' at k⊢;have h5:=hown.keeps k.plain (λ_ _=>rfl);simpa [vP,Env.of] using h5)
   refine ⟨_,w,_,hrun,hm.1,?_⟩;exact hR (by simp [hiG]) hl.1
  .have hnl:=jX Ny;have hol:=jX hro;have hfit:off+ob.eQ.length * ob.n+news.length<=C.size:=by rw [hnl,oB,<-pS];exact hM (Nat.add_le_add_left (hY _ hcase) _) h1
   have hst:=tX (P:=P) hb hz' hfit (Qh Ny);have hrun:=hroom hcase (w.setCells b (off+ob.eQ.length * ob.n) news) (by rw [ha,hsz];simpa [addr_add] using hst);have UZ:g.F b:=hF b (by simp);have DX:∀b',b'≠b->(w.setCells b (off+ob.eQ.length * ob.n) news).heap[b']? =w.heap[b']?:=λb' hne=>lU b b' hne _ _ _
   obtain ⟨C',hC',hCs⟩:=jQ b ety fz news (off+ob.eQ.length * ob.n) w C hb;have hm:=r.modify hl hlive {ob with cZ:=ob.cZ+1,eQ:=ob.eQ++l2} g (w.setCells b (off+ob.eQ.length * ob.n) news) (by simp) rfl (by simp) (λb hb=> .inl hb) (λb hb hne=>⟨hb,hne⟩)
    (λb' hlt hne=>DX b' (λe=>hne ⟨e▸UZ,⟨b,off,none⟩,ha,e⟩)) (by rw [iA];exact eE _) (λk _=>by
    have hnd':(b::rD++fp2).Nodup:=hnd;simp only [eA,lR,fL,not_or] at hnd';refine ⟨b::(rD++fp2),?_,by simpa using hnd,λb' hb'=>hF b' (by simpa using hb')⟩;generalize env B (s.o.set i {ob with cZ:=ob.cZ+1,eQ:=ob.eQ++l2}) (G.set i g) (w.setCells b (off+ob.eQ.length * ob.n) news)=E' at k⊢;simp only [vP,Env.of,eS,hH];refine ⟨by simp [maxLen];omega,.inr ⟨b,off,C',ety,fz,rD++fp2,ha,hC',by rw [hCs];exact hz',by rw [hCs];exact h1,by simpa using hcase,h3,rfl,?_⟩⟩;refine sV.2 ⟨olds++news,?_,bN.append.2 ⟨?_,?_⟩⟩
    .refine AX (wI k.plain (λb' hb'=>DX b' (λe=>hnd'.1.2 (e▸hb'))) Ny) (wI k.plain (λb' hb'=>DX b' (λe=>hnd'.1.1 (e▸hb'))) hro)
    .obtain ⟨vs,hv,hc⟩:=sV.1 hr;have hov:olds=vs:=by have e1:=hold w rfl;rw [ha,hsz,kP (jX hv) hc] at e1;simpa using e1.symm
     subst hov;intro j v hv;rw [AN]
     .exact hc j v hv
     .intro _ _;have:j < olds.length:=(cH.1 hv).1;left;simp only;omega
    .intro j v hv;have hj:j < news.length:=(cH.1 hv).1;rw [hol];have:=Bk b news (off+ob.eQ.length * ob.n) w (λj hj=>by
      have:off+ob.eQ.length * ob.n+j < C.size:=by omega
      simp [World.cell?,hb,this]) j hj
     rw [this];rw [aE hj] at hv;exact hv)
   refine ⟨_,_,_,hrun,hm.1,?_⟩;exact hR (by simp [hiG]) hl.1
 .-- a new array
  have hrun:=aAq (by omega);generalize wS:grownCap w (ob.eQ.length+l2.length) g.cap e=cap' at hrun;have aQk:ob.eQ.length+l2.length<=cap':=by rw [<-wS];exact grownCap_ge _ _ _ _
  have aQl:cap'<=maxLen:=by rw [<-wS];exact DB _ _ _ _ (by simp [maxLen];omega)
  generalize hCd:olds.toArray++news.toArray++Builtin.zeroCells z.cells (cap' - (ob.eQ.length+l2.length))=C at hrun;have nU:∀b',b' < w.heap.size->(w.drew.alloc (.cells C e)).heap[b']? =w.heap[b']?:=λb' hlt=>heap_alloc w.drew _ b' hlt
  have hself:(w.drew.alloc (.cells C e)).heap[w.heap.size]? =some (.cells C e):=fT w.drew _;have hol:=jX hro;have hnl:=jX Ny;have aQm:C.size=cap' * ob.n:=by rw [<-hCd];simp only [Array.size_append,size_toArray,size_zeroCells,hzs,hol,hnl,<-pS];congr 1;omega
  have hm:=r.modify hl hlive {ob with cZ:=ob.cZ+1,eQ:=ob.eQ++l2} ⟨some ⟨w.heap.size,0,none⟩,cap',λb=>g.F b\/b=w.heap.size⟩ (w.drew.alloc (.cells C e)) (by simp) rfl (by simp)
   (λb hb=>by
    rcases hb with hb|hb
    .exact .inl hb
    .right;subst hb;simp) (λb hb hne=>⟨.inl hb,λa' wN=>by
     obtain rfl:=cQ wN;have:=(r.fresh _ _ _ b hl hlive hb).2;simp only;omega⟩) (λb hlt _=>nU b hlt) (by simp) (λk _=>by
   have aJp:∀b∈fp++fp2,b < w.heap.size:=λb hb=>(r.fresh _ _ _ b hl hlive (hF b hb)).2
   have hsub:∀b∈fp.tail,b∈fp:=λb hb=>mem_of_mem_tail hb
   have aNk:(fp.tail++fp2).Nodup:=by
    cases fp with
    |nil=>exact hnd
    |cons c t=>simp only [eA,lR] at hnd;exact hnd.2
   refine ⟨w.heap.size::(fp.tail++fp2),?_,?_,?_⟩
   .generalize env B (s.o.set i {ob with cZ:=ob.cZ+1,eQ:=ob.eQ++l2}) (G.set i ⟨some ⟨w.heap.size,0,none⟩,cap',λb=>g.F b\/b=w.heap.size⟩) (w.drew.alloc (.cells C e))=E' at k⊢
    simp only [vP,Env.of,eS,hH];refine ⟨by simp [maxLen];omega,.inr ⟨w.heap.size,0,C,e,(0,0),_,rfl,hself,.inr rfl,by simp [aQm],by simpa using aQk,aQl,rfl,?_⟩⟩;refine sV.2 ⟨olds++news,AX (wI k.plain (λb' hb'=>nU b' (aJp b' (by simp [hb']))) Ny) (wI k.plain (λb' hb'=>nU b' (aJp b' (mN _ (hsub b' hb')))) hro),?_⟩;refine qR hself (λj v hv=> ?_);rw [<-hCd,show olds.toArray++news.toArray=(olds++news).toArray by simp,lA,sR (by simpa using (cH.1 hv).1)];simpa using hv
   .rw [lR];refine ⟨λhmem=> ?_,aNk⟩;have:w.heap.size < w.heap.size:=aJp _ (by
     rcases fL.1 hmem with h|h
     .exact mN _ (hsub _ h)
     .exact sE _ h)
    omega
   .intro b hb;rcases lE.1 hb with rfl|hb
    .exact .inr rfl
    .left;rcases fL.1 hb with h|h
     .exact hF b (mN _ (hsub _ h))
     .exact hF b (sE _ h))
  refine ⟨_,_,_,hrun,hm.1,?_⟩;exact hR (g':=⟨some ⟨w.heap.size,0,none⟩,cap',λb=>g.F b\/b=w.heap.size⟩) (by simp [hiG]) hl.1
mutual
def res (o:List aN):AV->AV
 | .obj i cZ=>match AV.isObj o i cZ with
  |some ob=> .sl .own ob.n ob.eQ
  |none=> .undef
 | .agg c=> .agg (uR o c)
 | .gZ c=> .gZ (uR o c)
 | .int k n=> .int k n
 | .bool b=> .bool b
 | .str s=> .str s
 | .sl g n l=> .sl g n l
 | .fA g c off=> .fA g c off
 | .ptr i v j k=> .ptr i v j k
 | .fn f c=> .fn f c
 | .undef=> .undef
def uR (o:List aN):List AV->List AV
 |[]=>[]
 |x::xs=>res o x::uR o xs
end
mutual
def lT:AV->List Nat
 | .obj i _=>[i]
 | .agg c=>kJ c
 | .gZ c=>kJ c
 |_=>[]
def kJ:List AV->List Nat
 |[]=>[]
 |x::xs=>lT x++kJ xs
end
mutual
def jR (o:List aN):AV->Bool
 | .obj i cZ=>match AV.isObj o i cZ with
  |some ob=> !ob.box
  |none=>false
 | .agg c=>mV o c
 | .gZ c=>mV o c
 | .int _ _=>true
 | .bool _=>true
 | .str _=>true
 | .sl (.kG _) _ _=>false
 | .sl _ _ _=>true
 | .fA .view _ _=>true
 | .fn _ []=>true
 | .undef=>true
 |_=>false
def mV (o:List aN):List AV->Bool
 |[]=>true
 |x::xs=>jR o x&&mV o xs
end
def Of (o:List aN) (G:List CO) (u:List Nat) (b:Nat):Prop:=∃i ob g,i∈u/\look o G i ob g/\ob.live=true/\g.F b
mutual
theorem Nz {P:Program} [aC P] {B:gV P} {s:AS} {G:List CO} {a:Act} {w:World} (r:eF B s G a w):∀(av:AV) (v:Value),jR s.o av=true->(lT av).Nodup->R w (env B s.o G w) av v []->
  ∃fp,R w (env B s.o G w).plain (res s.o av) v fp/\fp.Nodup/\∀b∈fp,Of s.o G (lT av) b
 | .obj i cZ,v,ho,_,h=>by
  cases wG:AV.isObj s.o i cZ with
  |none=>simp [jR,wG] at ho
  |some ob=>
   simp only [jR,wG] at ho;simp only [res,wG];simp only [R] at h;obtain ⟨_,fZ,g,hl,_,hh,_⟩:=h;obtain ⟨h1,h2,h3⟩:=lC wG;obtain rfl:=cQ (hl.1.symm.trans h1);have hv:=hh h2 h3;obtain ⟨fp,hown,hnd,hF⟩:=r.ok i _ g hl h2;have hb:fZ.box=false:=by simpa using ho
   rw [hb] at hown;exact ⟨fp,wB.2 ⟨g.a,g.cap,hv,hown⟩,hnd,λb hb=>⟨i,_,g,by simp [lT],hl,h2,hF b hb⟩⟩
 | .agg c,v,ho,hu,h=>by simp only [R] at h;obtain ⟨cs,rfl,hone,hr⟩:=h;obtain ⟨fp,h1,h2,h3⟩:=IU r c cs (by simpa [jR] using ho) (by simpa [lT] using hu) hr;exact ⟨fp,by simp only [res,R];exact ⟨cs,rfl,hone,h1⟩,h2,by simpa [lT] using h3⟩
 | .gZ c,v,ho,hu,h=>by simp only [R] at h;obtain ⟨cs,rfl,hr⟩:=h;obtain ⟨fp,h1,h2,h3⟩:=IU r c cs (by simpa [jR] using ho) (by simpa [lT] using hu) hr;exact ⟨fp,by simp only [res,R];exact ⟨cs,rfl,h1⟩,h2,by simpa [lT] using h3⟩
 | .int k n,v,_,_,h=>⟨[],by simpa [res,R] using h,by simp,by simp⟩
 | .bool b,v,_,_,h=>⟨[],by simpa [res,R] using h,by simp,by simp⟩
 | .str x,v,_,_,h=>⟨[],by simpa [res,R] using h,by simp,by simp⟩
 | .sl .own n l,v,_,_,h=>⟨[],by simp only [res];rw [wB] at h⊢;exact h,by simp,by simp⟩
 | .sl .view n l,v,_,_,h=>⟨[],by simp only [res,R] at h⊢;exact h,by simp,by simp⟩
 | .sl (.kG i) n l,v,ho,_,h=>by simp [jR] at ho
 | .fA .view c off,v,_,_,h=>⟨[],by simp only [res,R] at h⊢;exact h,by simp,by simp⟩
 | .fA .own c off,v,ho,_,h=>by simp [jR] at ho
 | .fA (.kG _) c off,v,ho,_,h=>by simp [jR] at ho
 | .ptr _ _ _ _,v,ho,_,h=>by simp [jR] at ho
 | .fn f [],v,_,_,h=>⟨[],by simp only [res,R] at h⊢;obtain ⟨h1,cs,h2,h3⟩:=h;refine ⟨trivial,cs,h2,?_⟩;cases cs<;>simp_all [Rc],by simp,by simp⟩
 | .fn f (_::_),v,ho,_,h=>by simp [jR] at ho
 | .undef,v,_,_,h=>⟨[],by simp [res,R],by simp,by simp⟩
theorem IU {P:Program} [aC P] {B:gV P} {s:AS} {G:List CO} {a:Act} {w:World} (r:eF B s G a w):∀(c:List AV) (cs:List Value),mV s.o c=true->(kJ c).Nodup->Rc w (env B s.o G w) c cs []->
  ∃fp,Rc w (env B s.o G w).plain (uR s.o c) cs fp/\fp.Nodup/\∀b∈fp,Of s.o G (kJ c) b
 |[],[],_,_,_=>⟨[],by simp [uR,Rc],by simp,by simp⟩
 |[],_::_,_,_,h=>by simp [Rc] at h
 |_::_,[],_,_,h=>by simp [Rc] at h
 |x::xs,c::cs,ho,hu,h=>by
  simp only [Rc] at h;obtain ⟨g1,g2,h1,h2,e⟩:=h;obtain ⟨rfl,rfl⟩:g1=[]/\g2=[]:=by simpa using e
  simp only [mV,eJ] at ho;simp only [kJ,gR] at hu;obtain ⟨f1,k1,n1,o1⟩:=Nz r x c ho.1 hu.1 h1;obtain ⟨f2,k2,n2,o2⟩:=IU r xs cs ho.2 hu.2.1 h2;refine ⟨f1++f2,by simp only [uR,Rc];exact ⟨f1,f2,k1,k2,rfl⟩,?_,?_⟩
  .refine gR.2 ⟨n1,n2,λb hb b' hb' e=> ?_⟩
   subst e;obtain ⟨i,ob,g,hi,hl,hlive,hF⟩:=o1 b hb;obtain ⟨j,fZ,g',hj,BZ,xP,hF'⟩:=o2 b hb';exact hu.2.2 i hi j hj (r.apart i j _ _ _ _ b hl BZ hlive xP hF hF')
  .intro b hb;rcases fL.1 hb with hb|hb
   .obtain ⟨i,ob,g,hi,h⟩:=o1 b hb;exact ⟨i,ob,g,by simp [kJ,hi],h⟩
   .obtain ⟨i,ob,g,hi,h⟩:=o2 b hb;exact ⟨i,ob,g,by simp [kJ,hi],h⟩
end
def oF (w:World):Env:=⟨λb=>b < w.heap.size,λ_=>True,λ_ _=>False,λ_ _ _=>False,λ_ _ _ _ _=>False⟩
def nH:Env:=⟨λ_=>False,λ_=>True,λ_ _=>False,λ_ _ _=>False,λ_ _ _ _ _=>False⟩
def Bg (n:Nat) (w:World) (fp:List Nat):Env:=⟨λb=>n<=b/\b < w.heap.size/\b∉fp,λ_=>True,λ_ _=>False,λ_ _ _=>False,λ_ _ _ _ _=>False⟩
theorem E5 (n:Nat) (w:World) (fp:List Nat):fK w nH w (Bg n w fp):=
 ⟨λ_ h=>h.elim,λ_ _=>trivial,λ_ _ _ h=>h.elim,λ_ _ _ h=>h.elim,λ_ _ _ _ _ h=>h.elim⟩
theorem aIh {n:Nat} {w:World} {x:AV} {v:Value} {fp:List Nat} (h:R w nH x v fp):R w (Bg n w fp) x v fp:=pR (E5 n w fp) _ _ _ (λ_ _=>rfl) h
def Ok (P:Program) [aC P] (f:FuncId) (args:List AV) (r:AV):Prop:=
 ∀(w:World) (vs:List Value),aC.holds P w->Rc w (oF w) args vs []->
  Calls P f vs.toArray w λe w'=>∃v fp,e= .returned v/\R w' (Bg w.heap.size w' fp) r v fp/\fp.Nodup/\
   (∀b∈fp,w.heap.size<=b/\b < w'.heap.size)/\w.heap.size<=w'.heap.size/\(∀b,b < w.heap.size->w'.heap[b]? =w.heap[b]?)/\oD w w'
def IV:Tg->Option Tg
 | .kG _=>none
 |_=>some .view
mutual
def arg (o:List aN):AV->AV
 | .obj i cZ=>match AV.isObj o i cZ with
  |some ob=>if ob.box then .undef else .sl .view ob.n (mM (λ_=>some .view) false ob.eQ)
  |none=> .undef
 | .ptr i cZ idx off=>match AV.isObj o i cZ with
  |some ob=>match ob.eQ[idx]? with
   |some e=> .fA .view (xM IV false e) off
   |none=> .undef
  |none=> .undef
 | .agg c=> .agg (BV o c)
 | .gZ c=> .gZ (BV o c)
 | .int k n=> .int k n
 | .bool b=> .bool b
 | .str s=> .str s
 | .sl (.kG i) n l=>match o[i]? with
  |some ob=>if ob.live then .sl .view n (mM (λ_=>some .view) false l) else .undef
  |none=> .undef
 | .sl _ n l=> .sl .view n (mM (λ_=>some .view) false l)
 | .fA (.kG i) c off=>match o[i]? with
  |some ob=>if ob.live then .fA .view (xM (λ_=>some .view) false c) off else .undef
  |none=> .undef
 | .fA _ c off=> .fA .view (xM (λ_=>some .view) false c) off
 | .fn f c=> .fn f (BV o c)
 | .undef=> .undef
def BV (o:List aN):List AV->List AV
 |[]=>[]
 |x::xs=>arg o x::BV o xs
end
theorem Qi {P:Program} [aC P] {B:gV P} {s:AS} {G:List CO} {a:Act} {w:World} (r:eF B s G a w) (O:Nat->Prop) (hO:∀b,O b->b < w.heap.size):nJ (λ_=>some .view) false (env B s.o G w).plain (oF w) O where
 own t e:=by obtain rfl:=cQ e;exact ⟨by simp,λb hb=>hO b hb⟩
 view t e:=by obtain rfl:=cQ e;exact ⟨rfl,λb hb=>wR r hb⟩
 kG i t e:=by obtain rfl:=cQ e;exact ⟨by simp,.inl trivial,λb hb=>hb.elim⟩
 hh h:=by cases h
 hl h:=by cases h
theorem iq {P:Program} [aC P] {B:gV P} {s:AS} {G:List CO} {a:Act} {w:World} (r:eF B s G a w) (box:Bool) (O:Nat->Prop) (hO:∀b,O b->b < w.heap.size):nJ IV false ((env B s.o G w).of box) (oF w) O where
 own t e:=by obtain rfl:=cQ e;exact ⟨by simp,λb hb=>hO b hb⟩
 view t e:=by obtain rfl:=cQ e;exact ⟨rfl,λb hb=>wR r (by cases box<;>exact hb)⟩
 kG i t e:=by cases e
 hh h:=by cases h
 hl h:=by cases h
theorem iw {P:Program} [aC P] {B:gV P} {s:AS} {G:List CO} {a:Act} {w:World} (r:eF B s G a w) (g:Tg) (O:Nat->Prop) (hO:∀b,O b->b < w.heap.size):nJ (λ_=>some .view) false ((env B s.o G w).sub g) (oF w).plain O:=by
 cases g with
 |own=>exact Qi r O hO
 |view=>exact Qi r O hO
 |kG i=>exact
  {own:=λt e=>by obtain rfl:=cQ e;exact ⟨by simp,λb hb=>hO b hb⟩
   view:=λt e=>by obtain rfl:=cQ e;exact ⟨rfl,λb hb=>wR r hb⟩
   kG:=λj t e=>by obtain rfl:=cQ e;refine ⟨by simp,.inl trivial,λb hb=> ?_⟩;obtain ⟨rfl,ob,g,hl,hlive,hF,_⟩:=hb;exact (r.fresh _ _ _ b hl hlive hF).2
   hh:=λh=>by cases h
   hl:=λh=>by cases h}
theorem aAr {P:Program} [aC P] {B:gV P} {s:AS} {G:List CO} {a:Act} {w:World} (r:eF B s G a w) {g:Tg} {b:Nat} (h:(env B s.o G w).tg g b):b < w.heap.size:=by
 cases g with
 |own=>exact h.elim
 |view=>exact wR r h
 |kG i=>obtain ⟨ob,g,hl,hlive,hF,_⟩:=h;exact (r.fresh _ _ _ b hl hlive hF).2
theorem Me {P:Program} [aC P] {B:gV P} {s:AS} {G:List CO} {a:Act} {w:World} (r:eF B s G a w) {g:Tg} {n:Nat} {l:List (List AV)} {v:Value} (hd:¬(env B s.o G w).dead g) (h:R w (env B s.o G w) (.sl g n l) v []):
  R w (oF w) (.sl .view n (mM (λ_=>some .view) false l)) v []:=by
 simp only [R,lV] at h⊢;rcases h with h|⟨x,cap,hv,hl,h⟩
 .exact absurd h.1 hd
 refine .inr ⟨x,cap,hv,hl,.inr (.inr ⟨by simp,trivial,?_⟩)⟩;rcases h with ⟨_,rfl,_⟩|⟨_,b,off,C,ty,fz,rD,ha,hb,hz,h1,h2,h3,JR,hr⟩|⟨hg,_,h⟩
 .exact .inl rfl
 .cases JR
 .rcases h with rfl|⟨b,off,ha,ht,hr⟩
  .exact .inl rfl
  .exact .inr ⟨b,off,ha,aAr r ht,HV (iw r g (λ_=>False) (λ_ h=>h.elim)) _ _ _ _ _ (by simp) hr⟩
mutual
theorem aNl {P:Program} [aC P] {B:gV P} {s:AS} {G:List CO} {a:Act} {w:World} (r:eF B s G a w):∀(av:AV) (v:Value),R w (env B s.o G w) av v []->R w (oF w) (arg s.o av) v []
 | .obj i cZ,v,h=>by
  cases wG:AV.isObj s.o i cZ with
  |none=>simp [arg,wG,R]
  |some ob=>
   simp only [arg,wG];by_cases hb:ob.box=true
   .simp [hb,R]
   simp only [R] at h;obtain ⟨_,fZ,g,hl,_,hh,_⟩:=h;obtain ⟨h1,h2,h3⟩:=lC wG;obtain rfl:=cQ (hl.1.symm.trans h1);have hv:=hh h2 h3;obtain ⟨fp,⟨hlen,hown⟩,hnd,hF⟩:=r.ok i _ g hl h2;have hb':fZ.box=false:=by simpa using hb
   rw [hb'] at hown;simp only [hb',eS,hH];simp only [R,lV];refine .inr ⟨g.a,g.cap,hv,⟨hlen,by rcases hown with h|⟨_,_,_,_,_,_,_,_,_,_,h,_⟩;simp [h.1];exact h⟩,.inr (.inr ⟨by simp,trivial,?_⟩)⟩;rcases hown with ⟨h5,_⟩|⟨b,off,C,e,fz,rD,ha,hbk,hz,k1,k2,k3,rfl,hr⟩
   .left;rw [h5];rfl
   .right;have hlt:∀x∈b::rD,x < w.heap.size:=λx hx=>(r.fresh _ _ _ x hl h2 (hF x hx)).2
    exact ⟨b,off,ha,hlt b (by simp),HV (Qi r (λx=>x < w.heap.size) (λ_ h=>h)) _ _ _ _ rD (λx hx=>hlt x (by simp [hx])) hr⟩
 | .ptr i cZ idx off,v,h=>by
  cases wG:AV.isObj s.o i cZ with
  |none=>simp [arg,wG,R]
  |some ob=>
   simp only [arg,wG];cases he:ob.eQ[idx]? with
   |none=>simp [R]
   |some e=>
    simp only [R] at h⊢;obtain ⟨_,fZ,g,hl,_,hh,_⟩:=h;obtain ⟨h1,h2,h3⟩:=lC wG;obtain rfl:=cQ (hl.1.symm.trans h1);obtain ⟨b,f,ha,hv⟩:=hh h2 h3;obtain ⟨fp,⟨_,hown⟩,hnd,hF⟩:=r.ok i _ g hl h2;have hlt:∀x∈fp,x < w.heap.size:=λx hx=>(r.fresh _ _ _ x hl h2 (hF x hx)).2
    rcases hown with ⟨h5,_⟩|⟨b',f',C,ty,fz,rD,wN,hbk,hz,k1,k2,k3,rfl,hr⟩
    .rw [h5] at he;simp at he
    .rw [ha] at wN;simp only [eC,pC,rK] at wN;obtain ⟨rfl,rfl⟩:=wN;obtain ⟨f1,f2,f3,cs,rfl,hn,hc,hone,wH,_,_⟩:=CS hr he;refine .inr ⟨trivial,b,f+idx * fZ.n,cs,?_,hlt b (by simp),hc,hone,?_⟩
     .rw [hv,oB]
     .have:=yN (iq r fZ.box (λx=>x < w.heap.size) (λ_ h=>h)) e cs f2 (λx hx=>hlt x (by simp [hx])) wH;exact fB (w:=w) (w':=w) (E:=oF w) (E':=(oF w).sub .view) ⟨λ_ h=>⟨h,rfl⟩,λ_ _=>trivial,λ_ _ _ h=>h.elim,λ_ _ _ h=>h.elim,λ_ _ _ _ _ h=>h.elim⟩ _ _ _ (by simp) this
 | .agg c,v,h=>by simp only [R,arg] at h⊢;obtain ⟨cs,hv,hone,hr⟩:=h;exact ⟨cs,hv,hone,Mf r c cs hr⟩
 | .gZ c,v,h=>by simp only [R,arg] at h⊢;obtain ⟨cs,hv,hr⟩:=h;exact ⟨cs,hv,Mf r c cs hr⟩
 | .fn f c,v,h=>by simp only [R,arg] at h⊢;obtain ⟨h1,cs,hv,hr⟩:=h;exact ⟨trivial,cs,hv,Mf r c cs hr⟩
 | .int k n,v,h=>by simpa [arg,R] using h
 | .bool b,v,h=>by simpa [arg,R] using h
 | .str x,v,h=>by simpa [arg,R] using h
 | .sl .own n l,v,h=>by simp only [arg];exact Me r (g:= .own) (λh=>h) h
 | .sl .view n l,v,h=>by simp only [arg];exact Me r (g:= .view) (λh=>h) h
 | .sl (.kG i) n l,v,h=>by
  simp only [arg];cases ho:s.o[i]? with
  |none=>simp [R]
  |some ob=>
   simp only;by_cases hlive:ob.live=true
   .rw [eI hlive];exact Me r (g:= .kG i) (λhd=>hd (λfZ Ay=>by rw [ho] at Ay;obtain rfl:=cQ Ay;exact hlive)) h
   .rw [cX hlive];simp [R]
 | .fA .own c off,v,h=>by
  simp only [R] at h;rcases h with h|⟨_,b,o,cs,hv,ht,_⟩
  .exact h.1.elim
  .exact ht.elim
 | .fA .view c off,v,h=>by
  simp only [arg];simp only [R] at h⊢;rcases h with h|⟨_,b,o,cs,hv,ht,hcs,hone,hr⟩
  .exact h.1.elim
  .exact .inr ⟨trivial,b,o,cs,hv,aAr r ht,hcs,hone,yN (iw r .view (λ_=>False) (λ_ h=>h.elim)) _ _ _ (by simp) hr⟩
 | .fA (.kG i) c off,v,h=>by
  simp only [arg];cases ho:s.o[i]? with
  |none=>simp [R]
  |some ob=>
   simp only;by_cases hlive:ob.live=true
   .rw [eI hlive];simp only [R] at h⊢;rcases h with h|⟨_,b,o,cs,hv,ht,hcs,hone,hr⟩
    .exact absurd (λfZ Ay=>by rw [ho] at Ay;obtain rfl:=cQ Ay;exact hlive) h.1
    .exact .inr ⟨trivial,b,o,cs,hv,aAr r ht,hcs,hone,yN (iw r (.kG i) (λ_=>False) (λ_ h=>h.elim)) _ _ _ (by simp) hr⟩
   .rw [cX hlive];simp [R]
 | .undef,v,_=>by simp [arg,R]
theorem Mf {P:Program} [aC P] {B:gV P} {s:AS} {G:List CO} {a:Act} {w:World} (r:eF B s G a w):∀(c:List AV) (cs:List Value),Rc w (env B s.o G w) c cs []->Rc w (oF w) (BV s.o c) cs []
 |[],[],_=>by simp [BV,Rc]
 |[],_::_,h=>by simp [Rc] at h
 |_::_,[],h=>by simp [Rc] at h
 |x::xs,c::cs,h=>by
  simp only [Rc] at h;obtain ⟨f1,f2,h1,h2,e⟩:=h;obtain ⟨rfl,rfl⟩:f1=[]/\f2=[]:=by simpa using e
  simp only [BV,Rc];exact ⟨[],[],aNl r x c h1,Mf r xs cs h2,rfl⟩
end
mutual
def gH (q k:Nat):AV->AV×List aN
 | .sl .own n l=>(.obj k q,[⟨true,false,n,q,l⟩])
 | .agg c=>let p:=fE q k c;(.agg p.1,p.2)
 | .gZ c=>let p:=fE q k c;(.gZ p.1,p.2)
 |x=>(x,[])
def fE (q k:Nat):List AV->List AV×List aN
 |[]=>([],[])
 |x::xs=>let p:=gH q k x;let r:=fE q (k+p.2.length) xs;(p.1::r.1,p.2++r.2)
end
def lG (q:Nat) (w:World) (E:Env) (k:Nat) (os:List aN) (fp:List Nat) (done:Env->Prop):Prop:=
 ∃Gs:List CO,Gs.length=os.length/\
  (∀j ob g,look os Gs j ob g->ob.live=true/\ob.box=false/\ob.cZ=q/\∃f,wF w E.plain ob.n ob.eQ g.a g.cap f/\f.Nodup/\(∀b,g.F b↔b∈f)/\∀b∈f,b∈fp)/\
  (∀i j oi oj gi gj b,look os Gs i oi gi->look os Gs j oj gj->gi.F b->gj.F b->i=j)/\
  ∀E':Env,fK w E w E'->(∀j ob g,look os Gs j ob g->E'.H (k+j) q (.slice g.a ob.eQ.length g.cap))->done E'
theorem lG.none {q:Nat} {w:World} {E:Env} {k:Nat} {av:AV} {v:Value} (h:R w E av v []):lG q w E k [] [] (λE'=>R w E' av v []):=
 ⟨[],rfl,λj ob g hl=>by simp [look] at hl,λi j oi oj gi gj b hl=>by simp [look] at hl,λE' hk _=>pR hk _ _ _ (by simp) h⟩
theorem lG.append {q:Nat} {w:World} {E:Env} {k:Nat} {o1 o2:List aN} {f1 f2:List Nat} {d1 d2:Env->Prop} (h1:lG q w E k o1 f1 d1) (h2:lG q w E (k+o1.length) o2 f2 d2) (hn:(f1++f2).Nodup):
  lG q w E k (o1++o2) (f1++f2) (λE'=>d1 E'/\d2 E'):=by
 obtain ⟨G1,l1,a1,b1,c1⟩:=h1;obtain ⟨G2,l2,a2,b2,c2⟩:=h2;have hd:=(gR.1 hn).2.2;refine ⟨G1++G2,by simp [l1,l2],?_,?_,?_⟩
 .intro j ob g hl;rcases qJ l1 hl with ⟨_,h⟩|⟨_,h⟩
  .obtain ⟨x,y,y',f,z⟩:=a1 _ _ _ h;exact ⟨x,y,y',f,z.1,z.2.1,z.2.2.1,λb hb=>mN _ (z.2.2.2 b hb)⟩
  .obtain ⟨x,y,y',f,z⟩:=a2 _ _ _ h;exact ⟨x,y,y',f,z.1,z.2.1,z.2.2.1,λb hb=>sE _ (z.2.2.2 b hb)⟩
 .intro i j oi oj gi gj b hi hj Fp OG;rcases qJ l1 hi with ⟨_,h⟩|⟨hi',h⟩<;>rcases qJ l1 hj with ⟨_,h'⟩|⟨D8,h'⟩
  .exact b1 _ _ _ _ _ _ b h h' Fp OG
  .obtain ⟨_,_,_,f,z⟩:=a1 _ _ _ h;obtain ⟨_,_,_,f',z'⟩:=a2 _ _ _ h';exact absurd rfl (hd b (z.2.2.2 b ((z.2.2.1 b).1 Fp)) b (z'.2.2.2 b ((z'.2.2.1 b).1 OG)))
  .obtain ⟨_,_,_,f,z⟩:=a2 _ _ _ h;obtain ⟨_,_,_,f',z'⟩:=a1 _ _ _ h';exact absurd rfl (hd b (z'.2.2.2 b ((z'.2.2.1 b).1 OG)) b (z.2.2.2 b ((z.2.2.1 b).1 Fp)))
  .have:=b2 _ _ _ _ _ _ b h h' Fp OG;omega
 .intro E' hk hh;refine ⟨c1 E' hk λj ob g hl=>hh j ob g (qQ hl),c2 E' hk λj ob g hl=> ?_⟩;have:=hh _ ob g (rP l1 hl)
  rwa [<-oB] at this
mutual
theorem JW {q:Nat} {w:World} {E:Env}:∀(av:AV) (v:Value) (fp:List Nat) (k:Nat),R w E av v fp->fp.Nodup->lG q w E k (gH q k av).2 fp (λE'=>R w E' (gH q k av).1 v [])
 | .sl .own n l,v,fp,k,h,hn=>by
  obtain ⟨a,cap,hv,hown⟩:=wB.1 h;refine ⟨[⟨a,cap,λb=>b∈fp⟩],rfl,?_,?_,?_⟩
  .rintro j ob g ⟨h1,h2⟩;cases j with
   |zero=>simp [gH] at h1 h2;subst h1;subst h2;exact ⟨rfl,rfl,rfl,fp,hown,hn,λb=>Iff.rfl,λb hb=>hb⟩
   |succ j=>simp [gH] at h1
  .rintro i j oi oj gi gj b ⟨h1,_⟩ ⟨h2,_⟩ _ _;cases i<;>cases j<;>simp_all [gH]
  .intro E' _ hh;simp only [gH,R];have:=hh 0 ⟨true,false,n,q,l⟩ ⟨a,cap,λb=>b∈fp⟩ ⟨rfl,rfl⟩;rw [hv];exact ⟨trivial,this⟩
 | .agg c,v,fp,k,h,hn=>by simp only [R] at h;obtain ⟨cs,hv,hone,hr⟩:=h;obtain ⟨Gs,a,b,c',d⟩:=Dh c cs fp k hr hn;exact ⟨Gs,a,b,c',λE' hk hh=>by simp only [gH,R];exact ⟨cs,hv,hone,d E' hk hh⟩⟩
 | .gZ c,v,fp,k,h,hn=>by simp only [R] at h;obtain ⟨cs,hv,hr⟩:=h;obtain ⟨Gs,a,b,c',d⟩:=Dh c cs fp k hr hn;exact ⟨Gs,a,b,c',λE' hk hh=>by simp only [gH,R];exact ⟨cs,hv,d E' hk hh⟩⟩
 | .sl .view n l,v,fp,k,h,_=>by
  have hf:fp=[]:=by
   simp only [R] at h;rcases h with h|⟨_,_,_,_,h|h|h⟩
   .exact h.2
   .exact h.2.2.2
   .exact absurd h.1 (by simp)
   .exact h.2.1
  subst hf;exact lG.none h
 | .sl (.kG i) n l,v,fp,k,h,_=>by
  have hf:fp=[]:=by
   simp only [R] at h;rcases h with h|⟨_,_,_,_,h|h|h⟩
   .exact h.2
   .exact h.2.2.2
   .exact absurd h.1 (by simp)
   .exact h.2.1
  subst hf;exact lG.none h
 | .int _ _,v,fp,k,h,_=>by have h':=h;simp only [R] at h';obtain ⟨_,rfl⟩:=h';exact lG.none h
 | .bool _,v,fp,k,h,_=>by have h':=h;simp only [R] at h';obtain ⟨_,rfl⟩:=h';exact lG.none h
 | .str _,v,fp,k,h,_=>by have h':=h;simp only [R] at h';obtain ⟨_,rfl⟩:=h';exact lG.none h
 | .fA _ _ _,v,fp,k,h,_=>by
  have hf:fp=[]:=by simp only [R] at h;rcases h with h|h;exact h.2;exact h.1
  subst hf;exact lG.none h
 | .obj _ _,v,fp,k,h,_=>by have h':=h;simp only [R] at h';obtain ⟨rfl,_⟩:=h';exact lG.none h
 | .ptr _ _ _ _,v,fp,k,h,_=>by have h':=h;simp only [R] at h';obtain ⟨rfl,_⟩:=h';exact lG.none h
 | .fn _ _,v,fp,k,h,_=>by have h':=h;simp only [R] at h';obtain ⟨rfl,_⟩:=h';exact lG.none h
 | .undef,v,fp,k,h,_=>by have h':=h;simp only [R] at h';subst h';exact lG.none h
theorem Dh {q:Nat} {w:World} {E:Env}:∀(c:List AV) (cs:List Value) (fp:List Nat) (k:Nat),Rc w E c cs fp->fp.Nodup->lG q w E k (fE q k c).2 fp (λE'=>Rc w E' (fE q k c).1 cs [])
 |[],[],fp,k,h,_=>by simp only [Rc] at h;subst h;exact ⟨[],rfl,λj ob g hl=>by simp [look,fE] at hl,λi j oi oj gi gj b hl=>by simp [look,fE] at hl,λE' hk _=>by simp [fE,Rc]⟩
 |[],_::_,_,_,h,_=>by simp [Rc] at h
 |_::_,[],_,_,h,_=>by simp [Rc] at h
 |x::xs,c::cs,fp,k,h,hn=>by
  simp only [Rc] at h;obtain ⟨f1,f2,h1,h2,rfl⟩:=h;have n1:=(gR.1 hn);have:=(JW x c f1 k h1 n1.1).append (Dh xs cs f2 (k+(gH q k x).2.length) h2 n1.2.1) hn;obtain ⟨Gs,a,b,c',d⟩:=this;exact ⟨Gs,a,b,c',λE' hk hh=>by
   have:=d E' hk hh;simp only [fE,Rc];exact ⟨[],[],this.1,this.2,rfl⟩⟩
end
def aT (P:Program) (f:FuncId):Bool:=
 match P.funcs[f]? with
 |some fn=> !(fn.name == "runtime.NumGoroutine")&&fn.body.isSome
 |none=>false
theorem DY {P:Program} [aC P] {f:FuncId} (h:aT P f=true) (args:Array Value) (w:World):(callFunc f args).run P w= .ok (.enter f args) w:=by
 unfold aT at h;split at h
 .rename_i fn hf;simp only [eJ,DP] at h;cases hx:fn.body with
  |none=>simp [hx] at h
  |some c=>
   have hne:fn.name≠ "runtime.NumGoroutine" :=by simpa using h.1
   simp [callFunc,hf,hne,hx]
 .cases h
def AS.args (s:AS) (l:Array Operand):List AV:=l.toList.map s.ev
theorem xE {P:Program} [aC P] {B:gV P} {s:AS} {G:List CO} {a:Act} {w:World} (r:eF B s G a w):∀l:List Operand,Rc w (env B s.o G w) (l.map s.ev) (l.map a.eval) []
 |[]=>by simp [Rc]
 |x::xs=>by simp only [mA,Rc];exact ⟨[],[],r.ev x,xE r xs,rfl⟩
def AS.called (s:AS) (d:Option Tmp) (r:AV):AS:=AS.put ⟨s.t,s.o++(gH 1 s.o.length r).2⟩ d (gH 1 s.o.length r).1
theorem fK.refl (w:World) (E:Env):fK w E w E:=⟨λ_ h=>⟨h,rfl⟩,λ_ h=>h,λ_ _ _ h=>⟨h,rfl⟩,λ_ _ _ h=>h,λ_ _ _ _ _ h=>h⟩
theorem fK.trans {w:World} {E E' E'':Env} (k:fK w E w E') (k':fK w E' w E''):fK w E w E'':=
 ⟨λb h=>⟨(k'.a b (k.a b h).1).1,rfl⟩,λi h=>k.v i (k'.v i h),λi b hv h=>⟨(k'.d i b hv (k.d i b (k'.v i hv) h).1).1,rfl⟩,λi v x h=>k'.h i v x (k.h i v x h),λi v j o x h=>k'.l i v j o x (k.l i v j o x h)⟩
mutual
def clean:AV->Bool
 | .sl .own _ l=>kH l
 | .sl _ _ l=>l.isEmpty
 | .fA _ _ _=>false
 | .agg c=>CU c
 | .gZ c=>CU c
 | .fn _ c=>CU c
 |_=>true
def CU:List AV->Bool
 |[]=>true
 |x::xs=>clean x&&CU xs
def kH:List (List AV)->Bool
 |[]=>true
 |x::xs=>CU x&&kH xs
end
mutual
theorem PI {w:World} {E E':Env} (hv:∀i,E'.V i->E.V i) (hd:E.D=λ_ _=>False) (hh:E.H=λ_ _ _=>False) (hl:E.L=λ_ _ _ _ _=>False):∀(av:AV) (v:Value) (fp:List Nat),clean av=true->R w E av v fp->R w E' av v fp
 | .sl .own n l,v,fp,hc,h=>by
  obtain ⟨a,cap,rfl,hlen,hown⟩:=wB.1 h;refine wB.2 ⟨a,cap,rfl,hlen,?_⟩;rcases hown with h|⟨b,off,C,e,fz,rD,ha,hb,hz,h1,h2,h3,rfl,hr⟩
  .exact .inl h
  .exact .inr ⟨b,off,C,e,fz,rD,ha,hb,hz,h1,h2,h3,rfl,Yg (E:=E.plain) (E':=E'.plain) (λ_ _=>trivial) rfl rfl rfl l b off n rD (by simpa [clean] using hc) hr⟩
 | .sl .view n l,v,fp,hc,h=>by
  have:l=[]:=by simpa [clean] using hc
  subst this;simp only [R] at h⊢;rcases h with h|⟨a,cap,hv',BZ,h⟩
  .exact h.1.elim
  .exact .inr ⟨a,cap,hv',BZ,.inr (.inr ⟨by simp,by rcases h with h|h|h;exact h.2.2.2;exact absurd h.1 (by simp);exact h.2.1,.inl trivial⟩)⟩
 | .sl (.kG i) n l,v,fp,hc,h=>by
  have:l=[]:=by simpa [clean] using hc
  subst this;simp only [R] at h⊢;rcases h with h|⟨a,cap,hv',BZ,h⟩
  .exact .inl ⟨λhd=>h.1 (hv i hd),h.2⟩
  .exact .inr ⟨a,cap,hv',BZ,.inr (.inr ⟨by simp,by rcases h with h|h|h;exact h.2.2.2;exact absurd h.1 (by simp);exact h.2.1,.inl trivial⟩)⟩
 | .int _ _,_,_,_,h=>by simpa [R] using h
 | .bool _,_,_,_,h=>by simpa [R] using h
 | .str _,_,_,_,h=>by simpa [R] using h
 | .fA _ _ _,_,_,hc,_=>by simp [clean] at hc
 | .obj _ _,_,_,_,h=>by simp only [R,hh] at h;exact h.2.elim
 | .ptr _ _ _ _,_,_,_,h=>by simp only [R,hl] at h;exact h.2.elim
 | .agg c,v,fp,hc,h=>by simp only [R] at h⊢;obtain ⟨cs,h1,h2,h3⟩:=h;exact ⟨cs,h1,h2,Di hv hd hh hl c cs fp (by simpa [clean] using hc) h3⟩
 | .gZ c,v,fp,hc,h=>by simp only [R] at h⊢;obtain ⟨cs,h1,h3⟩:=h;exact ⟨cs,h1,Di hv hd hh hl c cs fp (by simpa [clean] using hc) h3⟩
 | .fn f c,v,fp,hc,h=>by simp only [R] at h⊢;obtain ⟨h0,cs,h1,h3⟩:=h;exact ⟨h0,cs,h1,Di hv hd hh hl c cs [] (by simpa [clean] using hc) h3⟩
 | .undef,_,_,_,h=>by simpa [R] using h
theorem Di {w:World} {E E':Env} (hv:∀i,E'.V i->E.V i) (hd:E.D=λ_ _=>False) (hh:E.H=λ_ _ _=>False) (hl:E.L=λ_ _ _ _ _=>False):∀(c:List AV) (cs:List Value) (fp:List Nat),CU c=true->Rc w E c cs fp->Rc w E' c cs fp
 |[],[],_,_,h=>by simpa [Rc] using h
 |[],_::_,_,_,h=>by simp [Rc] at h
 |_::_,[],_,_,h=>by simp [Rc] at h
 |x::xs,c::cs,fp,hc,h=>by simp only [Rc] at h⊢;simp only [CU,eJ] at hc;obtain ⟨f1,f2,h1,h2,h3⟩:=h;exact ⟨f1,f2,PI hv hd hh hl x c f1 hc.1 h1,Di hv hd hh hl xs cs f2 hc.2 h2,h3⟩
theorem Yg {w:World} {E E':Env} (hv:∀i,E'.V i->E.V i) (hd:E.D=λ_ _=>False) (hh:E.H=λ_ _ _=>False) (hl:E.L=λ_ _ _ _ _=>False):∀(l:List (List AV)) (b off n:Nat) (fp:List Nat),kH l=true->Rr w E l b off n fp->Rr w E' l b off n fp
 |[],_,_,_,_,_,h=>by simpa [Rr] using h
 |e::es,b,off,n,fp,hc,h=>by simp only [Rr] at h⊢;simp only [kH,eJ] at hc;obtain ⟨cs,f1,f2,h1,h2,h3,h4,h5,h6⟩:=h;exact ⟨cs,f1,f2,h1,h2,h3,Di hv hd hh hl e cs f1 hc.1 h4,Yg hv hd hh hl es b (off+n) n f2 hc.2 h5,h6⟩
end
def OkN (P:Program) (f:FuncId) (args:List AV) (r:AV):Prop:=
 ∀(w:World) (vs:List Value),Rc w (oF w) args vs []->∃v w',(callFunc f vs.toArray).run P w= .ok (.value v) w'/\w'.heap=w.heap/\oD w w'/\∀w'' E,R w'' E r v []
theorem E8 (f:Operand) (args:Array Operand) (X7:Array TypeId) {g:FuncId} {cap:List AV} {rr:AV} (hf:s.ev f= .fn g cap) (hc:aT P g=true)
  (nT:Ok P g (BV s.o (s.args args++cap)) rr):
  Step P B ⟨dst,.call {callee:= .value f,args:=args,argTypes:=X7},ty,pos,after,gd⟩ s (s.called dst rr):=by
 rintro a w next Q ⟨G,r⟩ hn
 have h1:=r.ev f;rw [hf] at h1;simp only [R] at h1;obtain ⟨_,cs,hv,wS⟩:=h1;have hargs:Rc w (env B s.o G w) (s.args args++cap) (args.toList.map a.eval++cs) []:=by have:=mU (xE r args.toList) wS;simpa [AS.args] using this
 have Yh:=nT w _ r.holds (Mf r _ _ hargs);unfold Oper.wp;have hrun:(execOp a.eval ⟨dst,.call {callee:= .value f,args:=args,argTypes:=X7},ty,pos,after,gd⟩).run P w= .ok (.enter g (args.toList.map a.eval++cs).toArray) w:=by
  have e:args.map a.eval++cs.toArray=(args.toList.map a.eval++cs).toArray:=by apply DE;simp
  simp [execOp,resolve,hv,Deferred.ofValue,invoke,DY hc,e]
 rw [hrun,Oper.upon_enter];refine Yh.mono λe w' h=> ?_
 obtain ⟨v,fp,rfl,WJ,hnd,hfr,hsz,nU,Fg⟩:=h;refine hn _ _ ?_;obtain ⟨Gs,hlen,Fu,hap,sO⟩:=JW (q:=1) rr v fp s.o.length WJ hnd;have kn:fK w' (Bg w.heap.size w' fp) w' (env B (s.o++(gH 1 s.o.length rr).2) (G++Gs) w'):=by
  refine ⟨λb hb=>⟨⟨.inr ⟨hM r.size hb.1,hb.2.1⟩,λi ob g hl hlive hF=> ?_⟩,rfl⟩,λ_ _=>trivial,λ_ _ _ h=>h.elim,λ_ _ _ h=>h.elim,λ_ _ _ _ _ h=>h.elim⟩;rcases qJ r.len hl with ⟨_,h⟩|⟨_,h⟩
  .have:=(r.fresh _ _ _ b h hlive hF).2;have:=hb.1;omega
  .obtain ⟨_,_,_,f,_,_,h3,h4⟩:=Fu _ _ _ h;exact hb.2.2 (h4 _ ((h3 _).1 hF))
 have hadd:=r.add (gH 1 s.o.length rr).2 Gs w' hlen hsz nU (λj ob g b hl _ hF=>by
   obtain ⟨_,_,_,f,_,_,h3,h4⟩:=Fu _ _ _ hl;exact hfr _ (h4 _ ((h3 _).1 hF))) (λi j oi oj gi gj b hi hj _ _ Fp OG=>hap _ _ _ _ _ _ b hi hj Fp OG) (λk j ob g hl _=>by
   obtain ⟨h1,h2,_,f,hown,h3,h4,h5⟩:=Fu _ _ _ hl;refine ⟨f,?_,h3,λb hb=>(h4 b).2 hb⟩;have:=hown.keeps kn.plain (λ_ _=>rfl);rw [h2];exact this) Fg
 refine ⟨G++Gs,hadd.1.put dst ?_⟩;refine sO _ kn λj ob g hl=> ?_
 obtain ⟨_,_,h3,_⟩:=Fu _ _ _ hl;exact ⟨ob,g,rP r.len hl,CA h3.symm,λ_ _=>rfl,λh=>absurd h (by decide)⟩
theorem eF.heap {G:List CO} {a:Act} {w w':World} (r:eF B s G a w) (hh:w'.heap=w.heap) (same:oD w w'):eF B s G a w':=by
 have hE:env B s.o G w'=env B s.o G w:=by unfold env;rw [hh]
 have k:fK w (env B s.o G w) w' (env B s.o G w'):=by rw [hE];exact ⟨λb h=>⟨h,by rw [hh]⟩,λ_ h=>h,λ_ _ _ h=>⟨h,by rw [hh]⟩,λ_ _ _ h=>h,λ_ _ _ _ _ h=>h⟩
 have:=r.next (o':=s.o) (G':=G) (w':=w') k r.len (λi ob g hl hlive=>(r.ok i ob g hl hlive).keeps k (λ_ _=>by rw [hh])) r.apart
  (λi ob g b hl hlive hF=>by have:=r.fresh i ob g b hl hlive hF;rw [hh];exact this) (by rw [hh];exact eE _) (λ_ _ _=>by rw [hh]) same
 exact this
theorem Yi (f:Operand) (args:Array Operand) (X7:Array TypeId) {g:FuncId} {cap:List AV} {rr:AV} (hf:s.ev f= .fn g cap)
  (nT:OkN P g (BV s.o (s.args args++cap)) rr):
  Step P B ⟨dst,.call {callee:= .value f,args:=args,argTypes:=X7},ty,pos,after,gd⟩ s (s.put dst rr):=by
 rintro a w next Q ⟨G,r⟩ hn
 have h1:=r.ev f;rw [hf] at h1;simp only [R] at h1;obtain ⟨_,cs,hv,wS⟩:=h1;have hargs:Rc w (env B s.o G w) (s.args args++cap) (args.toList.map a.eval++cs) []:=by have:=mU (xE r args.toList) wS;simpa [AS.args] using this
 obtain ⟨v,w',Yj,hh,nU,hR⟩:=nT w _ (Mf r _ _ hargs);unfold Oper.wp;have hrun:(execOp a.eval ⟨dst,.call {callee:= .value f,args:=args,argTypes:=X7},ty,pos,after,gd⟩).run P w= .ok (.value v) w':=by
  have e:args.map a.eval++cs.toArray=(args.toList.map a.eval++cs).toArray:=by apply DE;simp
  simp [execOp,resolve,hv,Deferred.ofValue,invoke,e,Yj]
 rw [hrun,Oper.upon_value];exact hn _ _ ⟨G,(r.heap hh nU).put dst (hR _ _)⟩
end
end Go.Aw
