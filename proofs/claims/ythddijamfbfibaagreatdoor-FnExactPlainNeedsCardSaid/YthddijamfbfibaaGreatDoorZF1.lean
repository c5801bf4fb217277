/- Proved here: steps towards the statement of this claim. No condition. -/
import Derived.WalkKit
set_option linter.all false
namespace Go.Aw
open List
def aE:= @List.getElem?_eq_getElem
def cH:= @List.getElem?_eq_some_iff
def cQ:= @Option.some.inj
def cU:= @List.set_cons_zero
def cW:= @List.set_cons_succ
def cX:= @List.take_of_length_le
def cY:= @if_neg
def eA:= @List.cons_append
def eC:= @Nat.le_refl
def eE:= @Option.some.injEq
def eI:= @Bool.and_eq_true
def eJ:= @List.take_succ_eq_append_getElem
def eK:= @if_pos
def eL:= @List.take_succ_cons
def eM:= @List.nil_append
def eN:= @List.length_cons
def eR:= @List.length_append
def eS:= @Bool.false_eq_true
def eV:= @List.length_nil
def eW:= @List.mem_append
def fL:= @Bool.and_eq_true_iff
def fN:= @decide_eq_true_eq
def fR:= @List.all_eq_true
def fS:= @List.getElem_mem
def fW:= @List.take_zero
def fX:= @List.append_nil
def fY:= @Array.getD_eq_getD_getElem?
def gC:= @Go.run_underlying
def gE:= @if_true
def gO:= @List.nodup_append
def gR:= @Go.World.cell?_setCell_other
def gS:= @List.mem_cons
def hM:= @if_false
def hS:= @List.eq_nil_of_length_eq_zero
def hY:= @Nat.zero_add
def iS:= @Bool.exists_bool
def kO:= @List.getElem?_append_right
def lA:= @List.getD_eq_getElem?_getD
def lB:= @Nat.le_trans
def lE:= @Nat.mul_le_mul_right
def lO:= @List.getElem?_set_ne
def lP:= @Go.Result.andThen_ok
def lR:= @List.nodup_cons
def mA:= @Int.toNat_natCast
def mB:= @List.map_cons
def mC:= @List.drop_eq_getElem_cons
def mL:= @List.length_map
def mN:= @List.getElem?_set_self
def mS:= @Int.eq_ofNat_of_zero_le
def mT:= @Option.map_some
def nB:= @List.mem_of_getElem?
def nF:= @Nat.lt_of_lt_of_le
def oA:= @List.take_append_drop
def oB:= @List.length_filter_le
def oE:= @List.mem_append_left
def oR:= @Nat.add_assoc
def oS:= @Go.Sem.run_bind
def oT:= @List.length_take
def oX:= @Prod.mk.injEq
def oY:= @List.map_append
def pA:= @decide_eq_false_iff_not
def pB:= @List.mem_of_find?_eq_some
def pC:= @List.getElem?_eq_none
def pD:= @List.replicate_succ
def pH:= @Array.getElem?_eq_some_iff
def pL:= @List.drop_succ_cons
def pN:= @Go.Addr.mk.injEq
def pP:= @List.count_le_length
def pS:= @List.getElem?_append_left
def pT:= @List.flatten_cons
def pZ:= @Nat.lt_irrefl
def qS:= @Go.World.cell?_setCell_same
def rB:= @Nat.add_mul
def rI:= @List.Sublist.refl
def rK:= @beq_eq_false_iff_ne
def rL:= @Bool.or_eq_true
def rN:= @Array.getElem?_append_left
def rS:= @List.mem_singleton
def sA:= @Nat.add_zero
def sB:= @List.append_assoc
def sC:= @Bool.and_eq_false_iff
def sE:= @List.mem_of_mem_take
def sL:= @Option.getD_some
def sR:= @decide_eq_decide
def sX:= @Classical.byContradiction
def sY:= @and_true
def tA:= @decide_eq_true
def tB:= @Go.Sem.run_pure
def tD:= @Nat.lt_or_ge
def tE:= @List.getElem?_cons_zero
def tG:= @List.mem_append_right
def tI:= @List.set_append_right
def tM:= @List.getElem?_map
def tP:= @beq_iff_eq
def tR:= @Nat.sub_self
def tU:= @Option.map_eq_some_iff
def tW:= @Int.tmod_eq_emod_of_nonneg
def vA:= @List.take_length
def wA:= @Ne.symm
def xF:= @Array.getElem?_eq_getElem
def yW:= @List.getElem?_eq_none_iff
def zE:= @congrArg
def An:= @List.exists_cons_of_ne_nil
def As:= @Option.bind_some
def At:= @List.getElem?_cons_succ
def Ax:= @List.length_eq_zero_iff
def AD:= @Bool.not_eq_true
def AE:= @List.length_drop
def AF:= @List.drop_drop
def AG:= @List.mem_map
def AH:= @List.drop_of_length_le
def AI:= @List.mem_of_mem_drop
def AK:= @List.mem_cons_of_mem
def AM:= @decide_eq_false
def AN:= @Nat.succ_mul
def AT:= @List.getElem_map
def AW:= @List.drop_zero
def Bk:= @List.eq_nil_or_concat
def Bm:= @List.replicate_zero
def Bs:= @List.not_mem_nil
def Bx:= @List.getElem?_take
def By:= @Go.World.cell?_setCells_out
def BE:= @Option.isSome_iff_exists
def BT:= @List.mem_filter
def BW:= @List.take_append_of_le_length
def BY:= @List.set_eq_of_length_le
def Cd:= @Go.World.cell?_setCells_in
def Cl:= @Array.toList_map
def Cp:= @Go.IntKind.wrap_i64
def CA:= @List.ext_getElem?
def CC:= @List.all_cons
def CD:= @UInt8.toNat_inj
def CH:= @Bool.true_and
def CI:= @Array.getElem?_modify
def CM:= @List.mem_or_eq_of_mem_set
def CN:= @Array.toList_setIfInBounds
def CT:= @decide_true
def Dd:= @List.range_succ
def Dg:= @List.length_pos_iff
def Ds:= @UInt8.toNat_lt
def DA:= @Nat.le_of_eq
def DB:= @List.size_toArray
def DE:= @List.flatMap_cons
def DG:= @List.map_nil
def DH:= @getElem!_pos
def DM:= @Array.mapM_eq_mapM_toList
def DO:= @Go.Value.pointer.injEq
def DP:= @List.find?_eq_none
def DQ:= @Bool.not_true
def DS:= @Nat.min_eq_left
def Ek:= @UInt8.toNat.inj
def EV:= @Go.grownCap_le_maxLen
def Fi:= @Array.ext'
def Fk:= @List.find?_some
def Fl:= @Array.all_eq_true'
def Fm:= @List.mem_flatMap
def Fo:= @Nat.zero_le
def Ft:= @Classical.not_not
def FA:= @Array.size_append
def FF:= @Bool.not_eq_true'
def FG:= @List.getElem_of_mem
def Ge:= @Bool.not_false
def Gk:= @or_false
def GB:= @List.foldl_append
def GC:= @List.Perm.append_left
def GF:= @and_assoc
def GO:= @Bool.and_self
def GP:= @and_self
theorem aA{a b:Prop}(h:a)(k:b):a/\b:=⟨h,k⟩
inductive Tg where
  | own
  | view
  | kH (i:Nat)
inductive AV where
  | int (k:IntKind) (n:Int)
  | bool (b:Bool)
  | str (s:List UInt8)
  | sl (g:Tg) (n:Nat) (l:List (List AV))
  | eU (g:Tg) (c:List AV) (off:Nat)
  | obj (i bU:Nat)
  | ptr (i bU idx off:Nat)
  | agg (c:List AV)
  | gM (c:List AV)
  | fn (f:FuncId) (c:List AV)
  | undef
instance:Inhabited AV := ⟨.undef⟩
structure Env where
  A:Nat -> Prop
  V:Nat -> Prop
  D:Nat -> Nat -> Prop
  H:Nat -> Nat -> Value -> Prop
  L:Nat -> Nat -> Nat -> Nat -> Value -> Prop
def Env.tg(E:Env):Tg->Nat->Prop
 | .own,_=>False
 | .view,b=>E.A b
 | .kH i,b=>E.D i b
def Env.dead(E:Env):Tg->Prop
 | .kH i=>¬E.V i
 |_=>False
def Env.plain(E:Env):Env where
 A:=E.A
 V _:=True
 D _ _:=False
 H _ _ _:=False
 L _ _ _ _ _:=False
def Env.sub(E:Env):Tg->Env
 | .kH i=>{E.plain with D:=λj b=>j=i/\E.D i b}
 |_=>E.plain
def bK(w:World)(b off:Nat)(cs:List Value):Prop:=∀j v,cs[j]? =some v->w.cell? ⟨b,off+j,none⟩=some v
mutual
def R(w:World): Env -> AV -> Value -> List Nat -> Prop
  | _, .int k n, v, fp => v = .int k n /\ fp = []
  | _, .bool b, v, fp => v = .bool b /\ fp = []
  | _, .str s, v, fp => v = .string ⟨s.toArray⟩ /\ fp = []
  | E, .sl g n l, v, fp => (E.dead g /\ fp = []) \/ ∃ a cap, v = .slice a l.length cap /\ (l.length <= maxLen /\ l.length <= cap) /\
      ((g = .own /\ l = [] /\ cap = 0 /\ fp = []) \/
       (g = .own /\ ∃ b off C e fz qN, a = some ⟨b, off, none⟩ /\ w.heap[b]? = some (.cells C e fz) /\ ((C.size <= fz.1 /\ n = 1) \/ fz.2 = 0) /\
          off+cap*n <= C.size /\ l.length <= cap /\ cap <= maxLen /\ fp = b :: qN /\ Rr w (E.sub g) l b off n qN) \/
       (g ≠ .own /\ fp = [] /\ (l = [] \/ ∃ b off, a = some ⟨b, off, none⟩ /\ E.tg g b /\ Rr w (E.sub g) l b off n [])))
  | E, .eU g c off, v, fp => (E.dead g /\ fp = []) \/ fp = [] /\ ∃ b o cs, v = .pointer (some ⟨b, o+off, none⟩) /\ E.tg g b /\ bK w b o cs /\ (∀ x ∈ cs, x.oneCell' = true) /\ Rc w (E.sub g) c cs []
  | E, .obj i bU, v, fp => fp = [] /\ E.H i bU v
  | E, .ptr i bU idx off, v, fp => fp = [] /\ E.L i bU idx off v
  | E, .agg c, v, fp => ∃ cs:List Value, v = .agg cs.toArray /\ (∀ x ∈ cs, x.oneCell' = true) /\ Rc w E c cs fp
  | E, .gM c, v, fp => ∃ cs:List Value, v = .tuple cs.toArray /\ Rc w E c cs fp
  | E, .fn f c, v, fp => fp = [] /\ ∃ cs:List Value, v = .func (.func f) #[] cs.toArray /\ Rc w E c cs []
  | _, .undef, _, fp => fp = []
def Rc(w:World): Env -> List AV -> List Value -> List Nat -> Prop
  | _, [], [], fp => fp = []
  | E, x :: xs, c :: cs, fp => ∃ f1 f2, R w E x c f1 /\ Rc w E xs cs f2 /\ fp = f1 ++ f2
  | _, _, _, _ => False
def Rr(w:World): Env -> List (List AV) -> Nat -> Nat -> Nat -> List Nat -> Prop
  | _, [], _, _, _, fp => fp = []
  | E, e :: es, b, off, n, fp => ∃ cs f1 f2, cs.length = n /\ bK w b off cs /\ (∀ x ∈ cs, x.oneCell' = true) /\ Rc w E e cs f1 /\ Rr w E es b (off+n) n f2 /\ fp = f1 ++ f2
end
theorem bK.same{w w':World}{b off:Nat}{cs:List Value}(h:bK w b off cs)(hb:w'.heap[b]? =w.heap[b]?):bK w' b off cs:=by intro j v hv;have:=h j v hv;simpa [World.cell?,hb]using this
structure eO(w:World)(E:Env)(w':World)(E':Env): Prop where
  a:∀ b, E.A b -> E'.A b /\ w'.heap[b]? = w.heap[b]?
  v:∀ i, E'.V i -> E.V i
  d:∀ i b, E'.V i -> E.D i b -> E'.D i b /\ w'.heap[b]? = w.heap[b]?
  h:∀ i v x, E.H i v x -> E'.H i v x
  l:∀ i v j o x, E.L i v j o x -> E'.L i v j o x
theorem eO.tg{w w':World}{E E':Env}(k:eO w E w' E'){g:Tg}{b:Nat}(h:E.tg g b)(hd:¬E'.dead g):E'.tg g b/\w'.heap[b]? =w.heap[b]?:=by
 cases g with
 |own=>exact h.elim
 |view=>exact k.a b h
 |kH i=>exact k.d i b (Ft.1 hd) h
theorem eO.dead{w w':World}{E E':Env}(k:eO w E w' E'){g:Tg}(h:E.dead g):E'.dead g:=by
 cases g with
 |own=>exact h
 |view=>exact h
 |kH i=>exact λhv=>h (k.v i hv)
theorem eO.plain{w w':World}{E E':Env}(k:eO w E w' E'):eO w E.plain w' E'.plain:=
 ⟨k.a,λ_ _=>trivial,λ_ _ _ h=>h.elim,λ_ _ _ h=>h.elim,λ_ _ _ _ _ h=>h.elim⟩
theorem eO.sub{w w':World}{E E':Env}(k:eO w E w' E')(g:Tg)(hd:¬E'.dead g):eO w (E.sub g) w' (E'.sub g):=by
 cases g with
 |own=>exact k.plain
 |view=>exact k.plain
 |kH i=>exact⟨k.a,λ_ _=>trivial,λj b _ h=>⟨⟨h.1,(k.d i b (Ft.1 hd) h.2).1⟩,(k.d i b (Ft.1 hd) h.2).2⟩,λ_ _ _ h=>h.elim,λ_ _ _ _ _ h=>h.elim⟩
mutual
theorem qK{w w':World}{E E':Env}(k:eO w E w' E'):∀(av:AV) (v:Value) (fp:List Nat),(∀b∈fp,w'.heap[b]? =w.heap[b]?)->R w E av v fp->R w' E' av v fp
 | .int _ _,_,_,_,h=>by simpa [R]using h
 | .bool _,_,_,_,h=>by simpa [R]using h
 | .str _,_,_,_,h=>by simpa [R]using h
 | .sl g n l,v,fp,hf,h=>by
  simp only[R]at h⊢;rcases h with h|⟨a,cap,hv,hl,h⟩
  .exact .inl ⟨k.dead h.1,h.2⟩
  by_cases hd:E'.dead g
  .refine .inl ⟨hd,?_⟩;rcases h with h|⟨hg,_⟩|⟨_,h,_⟩
   .exact h.2.2.2
   .subst hg;exact hd.elim
   .exact h
  refine .inr ⟨a,cap,hv,hl,?_⟩;rcases h with h|⟨hg,b,off,C,e,fz,qN,ha,hb,hz,h1,h2,h3,JI,hr⟩|⟨hg,JI,h⟩
  .exact .inl h
  .subst JI;refine .inr (.inl ⟨hg,b,off,C,e,fz,qN,ha,?_,hz,h1,h2,h3,rfl,?_⟩)
   .rw [hf b (by simp)];exact hb
   .exact mG (k.sub g hd) l b off n qN (hf b (by simp)) (λx hx=>hf x (by simp[hx])) hr
  .refine .inr (.inr ⟨hg,JI,?_⟩);rcases h with h|⟨b,off,ha,ht,hr⟩
   .exact .inl h
   .have:=k.tg ht hd;exact .inr ⟨b,off,ha,this.1,mG (k.sub g hd) l b off n [] this.2 (by simp) hr⟩
 | .eU g c off,v,fp,_,h=>by
  simp only[R]at h⊢;rcases h with h|⟨JI,b,o,cs,hv,ht,hcs,hc,hr⟩
  .exact .inl ⟨k.dead h.1,h.2⟩
  by_cases hd:E'.dead g
  .exact .inl ⟨hd,JI⟩
  have:=k.tg ht hd;exact .inr ⟨JI,b,o,cs,hv,this.1,hcs.same this.2,hc,dU (k.sub g hd) c cs [] (by simp) hr⟩
 | .obj i bU,v,fp,_,h=>by simp only[R]at h⊢;exact⟨h.1,k.h _ _ _ h.2⟩
 | .ptr i bU idx off,v,fp,_,h=>by simp only[R]at h⊢;exact⟨h.1,k.l _ _ _ _ _ h.2⟩
 | .agg c,v,fp,hf,h=>by simp only[R]at h⊢;obtain⟨cs,hv,hc,hr⟩:=h;exact⟨cs,hv,hc,dU k c cs fp hf hr⟩
 | .gM c,v,fp,hf,h=>by simp only[R]at h⊢;obtain⟨cs,hv,hr⟩:=h;exact⟨cs,hv,dU k c cs fp hf hr⟩
 | .fn f c,v,fp,_,h=>by simp only[R]at h⊢;obtain⟨JI,cs,hv,hr⟩:=h;exact⟨JI,cs,hv,dU k c cs [] (by simp) hr⟩
 | .undef,_,_,_,h=>by simpa [R]using h
theorem dU{w w':World}{E E':Env}(k:eO w E w' E'):∀(c:List AV) (cs:List Value) (fp:List Nat),(∀b∈fp,w'.heap[b]? =w.heap[b]?)->Rc w E c cs fp->Rc w' E' c cs fp
 |[],[],_,_,h=>by simpa [Rc]using h
 |[],_::_,_,_,h=>by simp[Rc]at h
 |_::_,[],_,_,h=>by simp[Rc]at h
 |x::xs,c::cs,fp,hf,h=>by simp only[Rc]at h⊢;obtain⟨f1,f2,h1,h2,rfl⟩:=h;exact⟨f1,f2,qK k x c f1 (λb hb=>hf b (by simp[hb])) h1,dU k xs cs f2 (λb hb=>hf b (by simp[hb])) h2,rfl⟩
theorem mG{w w':World}{E E':Env}(k:eO w E w' E'):∀(l:List (List AV)) (b off n:Nat) (fp:List Nat),w'.heap[b]? =w.heap[b]?->(∀b∈fp,w'.heap[b]? =w.heap[b]?)->Rr w E l b off n fp->Rr w' E' l b off n fp
 |[],_,_,_,_,_,_,h=>by simpa [Rr]using h
 |e::es,b,off,n,fp,hb,hf,h=>by simp only[Rr]at h⊢;obtain⟨cs,f1,f2,hn,hcs,hc,h1,h2,rfl⟩:=h;exact⟨cs,f1,f2,hn,hcs.same hb,hc,dU k e cs f1 (λb hb=>hf b (by simp[hb])) h1,mG k es b (off+n) n f2 hb (λb hb=>hf b (by simp[hb])) h2,rfl⟩
end
def AV.kept(h:Bool)(x:AV):AV:=if h then x else .undef
mutual
def rt(f:Tg->Option Tg)(h:Bool):AV->AV
 | .int k n=> .int k n
 | .bool b=> .bool b
 | .str s=> .str s
 | .sl g n l=>match f g with
  |some g'=> .sl g' n (mX f h l)
  |none=> .undef
 | .eU g c off=>match f g with
  |some g'=> .eU g' (xO f h c) off
  |none=> .undef
 | .obj i v=>AV.kept h (.obj i v)
 | .ptr i v j o=>AV.kept h (.ptr i v j o)
 | .agg c=> .agg (xO f h c)
 | .gM c=> .gM (xO f h c)
 | .fn g c=> .fn g (xO f h c)
 | .undef=> .undef
def xO(f:Tg->Option Tg)(h:Bool):List AV->List AV
 |[]=>[]
 |x::xs=>rt f h x::xO f h xs
def mX(f:Tg->Option Tg)(h:Bool):List (List AV)->List (List AV)
 |[]=>[]
 |x::xs=>xO f h x::mX f h xs
end
theorem mH(f:Tg->Option Tg)(h:Bool):∀l,(mX f h l).length=l.length
 |[]=>rfl
 |_::xs=>by simp[mX,mH f h xs]
structure nG(f:Tg -> Option Tg)(h:Bool)(E E':Env)(O:Nat -> Prop): Prop where
  own:∀ g, f .own = some g -> g ≠ .own /\ ∀ b, O b -> E'.tg g b
  view:∀ g, f .view = some g -> g = .view /\ ∀ b, E.A b -> E'.A b
  kH:∀ i g, f (.kH i) = some g -> g ≠ .own /\ (E.V i \/ E'.dead g) /\ ∀ b, E.D i b -> E'.tg g b
  hh:h = true -> ∀ i v x, E.H i v x -> E'.H i v x
  hl:h = true -> ∀ i v j o x, E.L i v j o x -> E'.L i v j o x
theorem nG.ne{f:Tg->Option Tg}{h:Bool}{E E':Env}{O:Nat->Prop}(k:nG f h E E' O){g g':Tg}(e:f g=some g'):g'≠ .own:=by
 cases g with
 |own=>exact(k.own _ e).1
 |view=>rw[(k.view _ e).1];simp
 |kH i=>exact(k.kH i _ e).1
theorem nG.tg{f:Tg->Option Tg}{h:Bool}{E E':Env}{O:Nat->Prop}(k:nG f h E E' O){g g':Tg}{b:Nat}(e:f g=some g')(ht:E.tg g b):E'.tg g' b:=by
 cases g with
 |own=>exact ht.elim
 |view=>rw[(k.view _ e).1];exact(k.view _ e).2 b ht
 |kH i=>exact(k.kH i _ e).2.2 b ht
theorem nG.dead{f:Tg->Option Tg}{h:Bool}{E E':Env}{O:Nat->Prop}(k:nG f h E E' O){g g':Tg}(e:f g=some g')(hd:E.dead g):E'.dead g':=by
 cases g with
 |own=>exact hd.elim
 |view=>exact hd.elim
 |kH i=>exact(k.kH i _ e).2.1.resolve_left hd
theorem nG.sub{f:Tg->Option Tg}{h:Bool}{E E':Env}{O:Nat->Prop}(k:nG f h E E' O){g g':Tg}(e:f g=some g')(hd:¬E.dead g)
  {O':Nat->Prop} (ho:∀b,O' b->g= .own/\O b):nG f h (E.sub g) (E'.sub g') O' where
 own g2 e2:=⟨(k.own g2 e2).1,λb hb=>by
  obtain⟨rfl,hO⟩:=ho b hb;rw[e]at e2;obtain rfl:=cQ e2;have:=(k.own _ e).2 b hO;cases g' with
  |own=>exact this.elim
  |view=>exact this
  |kH i=>exact⟨rfl,this⟩⟩
 view g2 e2:=⟨(k.view g2 e2).1,λb hA=>by
  have h1:=(k.view g2 e2).2 b (by cases g<;>exact hA);cases g'<;>exact h1⟩
 kH i g2 e2:=by
  refine⟨(k.kH i g2 e2).1,.inl (by cases g<;>trivial),λb hD=> ?_⟩;cases g with
  |own=>exact hD.elim
  |view=>exact hD.elim
  |kH j=>
   obtain⟨rfl,hD⟩:=hD;rw[e]at e2;obtain rfl:=cQ e2;have:=(k.kH _ _ e).2.2 b hD;cases g' with
   |own=>exact this.elim
   |view=>exact this
   |kH i=>exact⟨rfl,this⟩
 hh _ i v x hx:=by cases g<;>exact hx.elim
 hl _ i v j o x hx:=by cases g<;>exact hx.elim
mutual
theorem aJz{w:World}{f:Tg->Option Tg}{h:Bool}{E E':Env}{O:Nat->Prop}(k:nG f h E E' O):∀(av:AV) (v:Value) (fp:List Nat),(∀b∈fp,O b)->R w E av v fp->R w E' (rt f h av) v []
 | .int _ _,_,_,_,r=>by simp only[R,rt]at r⊢;exact⟨r.1,trivial⟩
 | .bool _,_,_,_,r=>by simp only[R,rt]at r⊢;exact⟨r.1,trivial⟩
 | .str _,_,_,_,r=>by simp only[R,rt]at r⊢;exact⟨r.1,trivial⟩
 | .sl g n l,v,fp,hf,r=>by
  simp only[rt];cases e:f g with
  |none=>simp[R]
  |some g'=>
   simp only[R,mH]at r⊢;rcases r with r|⟨a,cap,hv,hl,r⟩
   .exact .inl ⟨k.dead e r.1,trivial⟩
   by_cases hd:E.dead g
   .refine .inl ⟨k.dead e hd,trivial⟩
   refine .inr ⟨a,cap,hv,hl,.inr (.inr ⟨k.ne e,trivial,?_⟩)⟩;rcases r with⟨_,rfl,_⟩|⟨rfl,b,off,C,ty,fz,qN,ha,hb,hz,h1,h2,h3,rfl,hr⟩|⟨hg,JI,r⟩
   .exact .inl rfl
   .exact .inr ⟨b,off,ha,(k.own _ e).2 b (hf b (by simp)),Jc (k.sub e (λh=>h) (O':=O) (λb hb=>⟨rfl,hb⟩)) l b off n qN (λb hb=>hf b (by simp[hb])) hr⟩
   .rcases r with rfl|⟨b,off,ha,ht,hr⟩
    .exact .inl rfl
    .exact .inr ⟨b,off,ha,k.tg e ht,Jc (k.sub e hd (O':=λ_=>False) (λ_ hb=>hb.elim)) l b off n [] (by simp) hr⟩
 | .eU g c off,v,fp,_,r=>by
  simp only[rt];cases e:f g with
  |none=>simp[R]
  |some g'=>
   simp only[R]at r⊢;rcases r with r|⟨JI,b,o,cs,hv,ht,hcs,hc,hr⟩
   .exact .inl ⟨k.dead e r.1,trivial⟩
   by_cases hd:E.dead g
   .exact .inl ⟨k.dead e hd,trivial⟩
   exact .inr ⟨trivial,b,o,cs,hv,k.tg e ht,hcs,hc,yB (k.sub e hd (O':=λ_=>False) (λ_ hb=>hb.elim)) c cs [] (by simp) hr⟩
 | .obj i bU,v,fp,_,r=>by
  cases h with
  |false=>simp[rt,R,AV.kept]
  |true=>simp only[R,rt,AV.kept,gE]at r⊢;exact⟨trivial,k.hh rfl _ _ _ r.2⟩
 | .ptr i bU idx off,v,fp,_,r=>by
  cases h with
  |false=>simp[rt,R,AV.kept]
  |true=>simp only[R,rt,AV.kept,gE]at r⊢;exact⟨trivial,k.hl rfl _ _ _ _ _ r.2⟩
 | .agg c,v,fp,hf,r=>by simp only[R,rt]at r⊢;obtain⟨cs,hv,hc,hr⟩:=r;exact⟨cs,hv,hc,yB k c cs fp hf hr⟩
 | .gM c,v,fp,hf,r=>by simp only[R,rt]at r⊢;obtain⟨cs,hv,hr⟩:=r;exact⟨cs,hv,yB k c cs fp hf hr⟩
 | .fn g c,v,fp,_,r=>by simp only[R,rt]at r⊢;obtain⟨JI,cs,hv,hr⟩:=r;exact⟨trivial,cs,hv,yB k c cs [] (by simp) hr⟩
 | .undef,_,_,_,_=>by simp[R,rt]
theorem yB{w:World}{f:Tg->Option Tg}{h:Bool}{E E':Env}{O:Nat->Prop}(k:nG f h E E' O):∀(c:List AV) (cs:List Value) (fp:List Nat),(∀b∈fp,O b)->Rc w E c cs fp->Rc w E' (xO f h c) cs []
 |[],[],_,_,_=>by simp[Rc,xO]
 |[],_::_,_,_,r=>by simp[Rc]at r
 |_::_,[],_,_,r=>by simp[Rc]at r
 |x::xs,c::cs,fp,hf,r=>by simp only[Rc,xO]at r⊢;obtain⟨f1,f2,h1,h2,rfl⟩:=r;exact⟨[],[],aJz k x c f1 (λb hb=>hf b (by simp[hb])) h1,yB k xs cs f2 (λb hb=>hf b (by simp[hb])) h2,rfl⟩
theorem Jc{w:World}{f:Tg->Option Tg}{h:Bool}{E E':Env}{O:Nat->Prop}(k:nG f h E E' O):∀(l:List (List AV)) (b off n:Nat) (fp:List Nat),(∀b∈fp,O b)->Rr w E l b off n fp->Rr w E' (mX f h l) b off n []
 |[],_,_,_,_,_,_=>by simp[Rr,mX]
 |e::es,b,off,n,fp,hf,r=>by simp only[Rr,mX]at r⊢;obtain⟨cs,f1,f2,hn,hcs,hc,h1,h2,rfl⟩:=r;exact⟨cs,[],[],hn,hcs,hc,yB k e cs f1 (λb hb=>hf b (by simp[hb])) h1,Jc k es b (off+n) n f2 (λb hb=>hf b (by simp[hb])) h2,rfl⟩
end
structure aN where
  live:Bool
  box:Bool
  n:Nat
  bU:Nat
  dO:List (List AV)
structure CO where
  a:Option Addr
  cap:Nat
  F:Nat -> Prop
structure AS where
  t:List AV
  o:List aN
class aB(P:Program) where
  holds:World -> Prop
  low:Nat
  Ru:∀ w, holds w -> low <= w.heap.size
  Yt:∀ w w', holds w -> (∀ b, b<low -> w'.heap[b]? = w.heap[b]?) -> holds w'
structure gN(P:Program)[aB P] where
  w0:World
  A0:Nat -> Prop
  O0:Nat -> Prop
  h0:Nat -> Option Value
  p0:Nat -> Option (Value × Nat)
  yC:aB.holds P w0
  ZZ:∀ b, O0 b -> aB.low P <= b
  gA:∀ b, O0 b -> A0 b
def look(o:List aN)(G:List CO)(i:Nat)(ob:aN)(g:CO):Prop:=o[i]? =some ob/\G[i]? =some g
def env{P:Program}[aB P](B:gN P)(o:List aN)(G:List CO)(w:World):Env where
 A b:=(B.A0 b\/(B.w0.heap.size<=b/\b<w.heap.size))/\∀i ob g,look o G i ob g->ob.live=true->¬g.F b
 V i:=∀ob,o[i]? =some ob->ob.live=true
 D i b:=∃ob g,look o G i ob g/\ob.live=true/\g.F b/\∀a,g.a=some a->b≠a.block
 H i bU v:=∃ob g,look o G i ob g/\bU<=ob.bU/\(ob.live=true->ob.bU=bU->v= .slice g.a ob.dO.length g.cap)/\(bU=0->∀x,B.h0 i=some x->v=x)
 L i bU idx off v:=∃ob g,look o G i ob g/\bU<=ob.bU/\(ob.live=true->ob.bU=bU->∃b f,g.a=some ⟨b,f,none⟩/\v= .pointer (some ⟨b,f+(idx*ob.n+off),none⟩))/\(ob.box=true->bU=2->idx=0->off=0->∀x,B.p0 i=some x->v=x.1/\(ob.live=true->ob.bU=2->g.cap=x.2))
def Env.of(E:Env)(box:Bool):Env:=if box then E else E.plain
def uU(w:World)(E:Env)(n:Nat)(l:List (List AV))(a:Option Addr)(cap:Nat)(fp:List Nat):Prop:=
 l.length<=maxLen/\((l=[]/\cap=0/\fp=[])\/
  ∃b off C e fz qN,a=some ⟨b,off,none⟩/\w.heap[b]? =some (.cells C e fz)/\((C.size<=fz.1/\n=1)\/fz.2=0)/\
   off+cap*n<=C.size/\l.length<=cap/\cap<=maxLen/\fp=b::qN/\Rr w E l b off n qN)
theorem pM{w:World}{E:Env}{n:Nat}{l:List (List AV)}{v:Value}{fp:List Nat}:
  R w E (.sl .own n l) v fp↔∃a cap,v= .slice a l.length cap/\uU w E.plain n l a cap fp:=by
 simp only[R,uU];constructor
 .rintro (⟨h,_⟩|⟨a,cap,hv,hl,h|h|h⟩)
  .exact h.elim
  .exact ⟨a,cap,hv,hl.1,.inl h.2⟩
  .exact ⟨a,cap,hv,hl.1,.inr h.2⟩
  .exact absurd rfl h.1
 .rintro ⟨a,cap,hv,hl,h|h⟩
  .exact .inr ⟨a,cap,hv,⟨hl,by simp[h.1]⟩,.inl ⟨trivial,h⟩⟩
  .exact .inr ⟨a,cap,hv,⟨hl,by obtain⟨b,off,C,e,fz,qN,_,_,_,_,h,_⟩:=h;exact h⟩,.inr (.inl ⟨trivial,h⟩)⟩
def KX(w:World)(E:Env)(ob:aN)(g:CO):Prop:=
 ∃fp,uU w (E.of ob.box) ob.n ob.dO g.a g.cap fp/\fp.Nodup/\∀b∈fp,g.F b
structure mI(w w':World): Prop where
  os:w'.os = w.os
  tape:w'.tape = w.tape
  output:w'.output = w.output
theorem mI.rfl{w:World}:mI w w:=⟨Eq.refl _,Eq.refl _,Eq.refl _⟩
theorem mI.trans{a b c:World}(h:mI a b)(k:mI b c):mI a c:=⟨k.os.trans h.os,k.tape.trans h.tape,k.output.trans h.output⟩
structure eB{P:Program}[aB P](B:gN P)(s:AS)(G:List CO)(a:Act)(w:World): Prop where
  len:G.length = s.o.length
  defs:a.defers = []
  ok:∀ i ob g, look s.o G i ob g -> ob.live = true -> KX w (env B s.o G w) ob g
  apart:∀ i j oi oj gi gj b, look s.o G i oi gi -> look s.o G j oj gj -> oi.live = true -> oj.live = true -> gi.F b -> gj.F b -> i = j
  fresh:∀ i ob g b, look s.o G i ob g -> ob.live = true -> g.F b -> (B.O0 b \/ B.w0.heap.size <= b) /\ b<w.heap.size
  tmps:Rc w (env B s.o G w) s.t a.tmps.toList []
  size:B.w0.heap.size <= w.heap.size
  frame:∀ b, b<B.w0.heap.size -> ¬ B.O0 b -> w.heap[b]? = B.w0.heap[b]?
  base:∀ b, B.A0 b -> b<B.w0.heap.size
  same:mI B.w0 w
def Rel{P:Program}[aB P](B:gN P)(s:AS)(a:Act)(w:World):Prop:=∃G,eB B s G a w
theorem eB.holds{P:Program}[aB P]{B:gN P}{s:AS}{G:List CO}{a:Act}{w:World}(r:eB B s G a w):aB.holds P w:=
 aB.Yt B.w0 w B.yC λb hb=>r.frame b (nF hb (aB.Ru _ B.yC)) λh=>absurd (B.ZZ b h) (by omega)
theorem eB.ZZ{P:Program}[aB P]{B:gN P}{s:AS}{G:List CO}{a:Act}{w:World}(_:eB B s G a w){b:Nat}(h:B.O0 b\/B.w0.heap.size<=b):aB.low P<=b:=
 h.elim (B.ZZ b) λh=>lB (aB.Ru _ B.yC) h
theorem eO.of{w w':World}{E E':Env}(k:eO w E w' E')(box:Bool):eO w (E.of box) w' (E'.of box):=by
 cases box
 .exact k.plain
 .exact k
theorem OV(w:World)(E:Env):eO w E.plain w E:=
 ⟨λ_ h=>⟨h,rfl⟩,λ_ _=>trivial,λ_ _ _ h=>h.elim,λ_ _ _ h=>h.elim,λ_ _ _ _ _ h=>h.elim⟩
theorem xB{P:Program}[aB P]{B:gN P}{s:AS}{G:List CO}{a:Act}{w:World}(r:eB B s G a w){b:Nat}(h:(env B s.o G w).A b):b<w.heap.size:=by
 rcases h.1 with h|h
 .exact nF (r.base b h) r.size
 .exact h.2
theorem DU{P:Program}[aB P]{B:gN P}{o o':List aN}{G G':List CO}{w w':World}(hs:w.heap.size<=w'.heap.size)
  (hA:∀b,(env B o G w).A b->b<w.heap.size/\w'.heap[b]? =w.heap[b]?)
  (hlen:G.length=o.length)
  (h2:∀i ob g,look o G i ob g->∃fF g',look o' G' i fF g'/\ob.bU<=fF.bU/\(fF.box=true->ob.box=true\/ob.bU<2)/\(fF.live=true->ob.live=true/\fF.n=ob.n/\
   (fF.bU=ob.bU->g'.a=g.a/\g'.cap=g.cap/\fF.dO.length=ob.dO.length)/\
   (∀b,g.F b->(∀a,g.a=some a->b≠a.block)->g'.F b/\(∀a,g'.a=some a->b≠a.block)/\w'.heap[b]? =w.heap[b]?)))
  (h3:∀i fF g' b,look o' G' i fF g'->fF.live=true->g'.F b->w.heap.size<=b\/∃j ob g,look o G j ob g/\ob.live=true/\g.F b):
  eO w (env B o G w) w' (env B o' G' w') where
 a b h:=by
  refine⟨⟨?_,?_⟩,(hA b h).2⟩
  .rcases h.1 with h1|h1
   .exact .inl h1
   .exact .inr ⟨h1.1,nF h1.2 hs⟩
  .intro i fF g' hl hlive hf;rcases h3 i fF g' b hl hlive hf with h5|⟨j,ob,g,CQ,yD,hf'⟩
   .have:=(hA b h).1;omega
   .exact h.2 j ob g CQ yD hf'
 v i h ob vZ:=by
  have hi:i<G.length:=by rw[hlen];exact(cH.1 vZ).1
  obtain⟨fF,g',hl,_,_,h5⟩:=h2 i ob G[i] ⟨vZ,aE hi⟩;exact(h5 (h fF hl.1)).1
 d i b hV h:=by obtain⟨ob,g,hl,hlive,hf,hne⟩:=h;obtain⟨fF,g',CQ,_,_,h5⟩:=h2 i ob g hl;have yD:=hV fF CQ.1;have h6:=(h5 yD).2.2.2 b hf hne;exact⟨⟨fF,g',CQ,yD,h6.1,h6.2.1⟩,h6.2.2⟩
 h i v x h:=by
  obtain⟨ob,g,hl,AU,h5,hz⟩:=h;obtain⟨fF,g',CQ,hv',_,h6⟩:=h2 i ob g hl;refine⟨fF,g',CQ,by omega,λhlive VI=> ?_,hz⟩;have h7:=h6 hlive;have aD0:fF.bU=ob.bU:=by omega
  have h8:=h7.2.2.1 aD0;rw[h8.1,h8.2.1,h8.2.2];exact h5 h7.1 (by omega)
 l i v j x y h:=by
  obtain⟨ob,g,hl,AU,h5,hz⟩:=h;obtain⟨fF,g',CQ,hv',hb',h6⟩:=h2 i ob g hl;refine⟨fF,g',CQ,by omega,λhlive VI=> ?_,λhb hv e1 e2 y hy=>by
   rcases hb' hb with h|h
   .refine ⟨(hz h hv e1 e2 y hy).1,λhlive VI=> ?_⟩
    have h7:=h6 hlive;have aD0:fF.bU=ob.bU:=by omega
    rw[(h7.2.2.1 aD0).2.1];exact(hz h hv e1 e2 y hy).2 h7.1 (by omega)
   .omega⟩
  have h7:=h6 hlive;have aD0:fF.bU=ob.bU:=by omega
  have h8:=h7.2.2.1 aD0;rw[h8.1,h7.2.1];exact h5 h7.1 (by omega)
theorem uU.keeps{w w':World}{E E':Env}{n:Nat}{l:List (List AV)}{a:Option Addr}{cap:Nat}{fp:List Nat}(h:uU w E n l a cap fp)(k:eO w E w' E')(hF:∀b∈fp,w'.heap[b]? =w.heap[b]?):uU w' E' n l a cap fp:=by
 refine⟨h.1,?_⟩;rcases h.2 with h|⟨b,off,C,e,fz,qN,ha,hb,hz,h1,h2,h3,rfl,hr⟩
 .exact .inl h
 .refine .inr ⟨b,off,C,e,fz,qN,ha,by rw[hF b (by simp)];exact hb,hz,h1,h2,h3,rfl,mG k _ _ _ _ _ (hF b (by simp)) (λx hx=>hF x (by simp[hx])) hr⟩
theorem KX.keeps{w w':World}{E E':Env}{ob:aN}{g:CO}(h:KX w E ob g)(k:eO w E w' E')(hF:∀b,g.F b->w'.heap[b]? =w.heap[b]?):KX w' E' ob g:=by obtain⟨fp,hr,hn,hf⟩:=h;exact⟨fp,hr.keeps (k.of ob.box) (λb hb=>hF b (hf b hb)),hn,hf⟩
theorem gG{w:World}{E:Env}:∀{c:List AV} {cs:List Value} {fp:List Nat},Rc w E c cs fp->cs.length=c.length
 |[],[],_,_=>rfl
 |[],_::_,_,h=>by simp[Rc]at h
 |_::_,[],_,h=>by simp[Rc]at h
 |_::xs,_::cs,fp,h=>by simp only[Rc]at h;obtain⟨f1,f2,_,h2,_⟩:=h;simp[gG h2]
theorem JJ{w:World}{E:Env}:∀{c:List AV} {cs:List Value} {i:Nat} {x:AV},Rc w E c cs []->c[i]? =some x->∃v,cs[i]? =some v/\R w E x v []
 |[],_,i,x,_,h=>by simp at h
 |_::_,[],_,_,h,_=>by simp[Rc]at h
 |y::ys,c::cs,i,x,h,hx=>by
  simp only[Rc]at h;obtain⟨f1,f2,h1,h2,e⟩:=h;obtain⟨e1,e2⟩:f1=[]/\f2=[]:=by simpa using e
  subst e1;subst e2;cases i with
  |zero=>simp at hx;subst hx;exact⟨c,rfl,h1⟩
  |succ i=>simpa using JJ h2 (by simpa using hx)
theorem aD1{w:World}{E:Env}:∀{c:List AV} {cs:List Value} (i:Nat) {x:AV} {v:Value},Rc w E c cs []->R w E x v []->Rc w E (c.set i x) (cs.set i v) []
 |[],[],i,x,v,h,_=>by simpa using h
 |[],_::_,_,_,_,h,_=>by simp[Rc]at h
 |_::_,[],_,_,_,h,_=>by simp[Rc]at h
 |y::ys,c::cs,i,x,v,h,hx=>by
  simp only[Rc]at h;obtain⟨f1,f2,h1,h2,e⟩:=h;obtain⟨e1,e2⟩:f1=[]/\f2=[]:=by simpa using e
  subst e1;subst e2;cases i with
  |zero=>simp only[cU,Rc];exact⟨[],[],hx,h2,rfl⟩
  |succ i=>simp only[cW,Rc];exact⟨[],[],h1,aD1 i h2 hx,rfl⟩
theorem mY{w:World}{E:Env}:∀{c d:List AV} {cs ds:List Value} {f1 f2:List Nat},Rc w E c cs f1->Rc w E d ds f2->Rc w E (c++d) (cs++ds) (f1++f2)
 |[],_,[],_,f1,f2,h,h'=>by simp[Rc]at h;subst h;simpa using h'
 |[],_,_::_,_,_,_,h,_=>by simp[Rc]at h
 |_::_,_,[],_,_,_,h,_=>by simp[Rc]at h
 |y::ys,d,c::cs,ds,f1,f2,h,h'=>by simp only[Rc]at h;obtain⟨g1,g2,h1,h2,rfl⟩:=h;simp only[eA,Rc];exact⟨g1,g2++f2,h1,mY h2 h',by simp⟩
def AS.put(s:AS)(d:Option Tmp)(x:AV):AS:=match d with
 |some d=>{s with t:=s.t.set d x}
 |none=>s
theorem eB.put{P:Program}[aB P]{B:gN P}{s:AS}{G:List CO}{a:Act}{w:World}(r:eB B s G a w)(d:Option Tmp){x:AV}{v:Value}(h:R w (env B s.o G w) x v []):
  eB B (s.put d x) G (a.put d v) w:=by
 cases d with
 |none=>exact r
 |some d=>exact {r with tmps:=by simpa [AS.put,Act.put]using aD1 d r.tmps h}
theorem eB.next{P:Program}[aB P]{B:gN P}{s:AS}{G:List CO}{a:Act}{w:World}(r:eB B s G a w){o':List aN}{G':List CO}{w':World}
  (k:eO w (env B s.o G w) w' (env B o' G' w')) (len:G'.length=o'.length)
  (ok:∀i ob g,look o' G' i ob g->ob.live=true->KX w' (env B o' G' w') ob g)
  (apart:∀i j oi oj gi gj b,look o' G' i oi gi->look o' G' j oj gj->oi.live=true->oj.live=true->gi.F b->gj.F b->i=j)
  (fresh:∀i ob g b,look o' G' i ob g->ob.live=true->g.F b->(B.O0 b\/B.w0.heap.size<=b)/\b<w'.heap.size)
  (size:w.heap.size<=w'.heap.size) (frame:∀b,b<B.w0.heap.size->¬B.O0 b->w'.heap[b]? =w.heap[b]?)
  (same:mI w w':=by exact⟨rfl,rfl,rfl⟩):eB B ⟨s.t,o'⟩ G' a w' where
 len:=len
 defs:=r.defs
 ok:=ok
 apart:=apart
 fresh:=fresh
 tmps:=dU k _ _ _ (by simp) r.tmps
 size:=lB r.size size
 frame b h1 h2:=(frame b h1 h2).trans (r.frame b h1 h2)
 base:=r.base
 same:=r.same.trans same
def ofV:Value->AV
 | .int k n=> .int k n
 | .bool b=> .bool b
 | .string s=> .str s.data.toList
 | .slice none 0 0=> .sl .own 0 []
 | .func (.func f) ⟨[]⟩ ⟨[]⟩=> .fn f []
 |_=> .undef
theorem aMo(w:World)(E:Env)(v:Value):R w E (ofV v) v []:=by unfold ofV;split<;>simp[R,Rc,maxLen]
def AS.ev(s:AS):Operand->AV
 | .tmp t=>s.t.getD t .undef
 | .const v=>ofV v
 | .func f=> .fn f []
 | .global _=> .undef
theorem eB.ev{P:Program}[aB P]{B:gN P}{s:AS}{G:List CO}{a:Act}{w:World}(r:eB B s G a w)(x:Operand):R w (env B s.o G w) (s.ev x) (a.eval x) []:=by
 cases x with
 |tmp t=>
  simp only[AS.ev,getD];cases h:s.t[t]? with
  |none=>simp[R]
  |some y=>
   obtain⟨v,hv,hr⟩:=JJ r.tmps h;simp only[Act.eval,sL];have:a.tmps[t]? =some v:=by simpa using hv
   simpa [fY,this]using hr
 |const v=>exact aMo w _ v
 |func f=>simp[AS.ev,Act.eval,R,Rc]
 |global g=>simp[AS.ev,R]
theorem uL{w:World}{E:Env}:∀{c:List AV} {cs:List Value} {fp:List Nat} (k:Nat),Rc w E c cs fp->
  ∃f1 f2,fp=f1++f2/\Rc w E (c.take k) (cs.take k) f1/\Rc w E (c.drop k) (cs.drop k) f2
 |c,cs,fp,0,h=>⟨[],fp,rfl,by simp[Rc],by simpa using h⟩
 |[],[],fp,k+1,h=>⟨fp,[],by simp,by simpa using h,by simp[Rc]⟩
 |[],_::_,_,_,h=>by simp[Rc]at h
 |_::_,[],_,_,h=>by simp[Rc]at h
 |x::xs,c::cs,fp,k+1,h=>by simp only[Rc]at h;obtain⟨g1,g2,h1,h2,rfl⟩:=h;obtain⟨f1,f2,rfl,h3,h4⟩:=uL k h2;exact⟨g1++f1,f2,by simp,by simp only[eL,Rc];exact⟨g1,f1,h1,h3,rfl⟩,by simpa using h4⟩
theorem DV{w:World}{E:Env}{l2:List (List AV)}{b n:Nat}:∀{l1:List (List AV)} {off:Nat} {fp:List Nat},
  Rr w E (l1++l2) b off n fp↔∃f1 f2,fp=f1++f2/\Rr w E l1 b off n f1/\Rr w E l2 b (off+l1.length*n) n f2
 |[],off,fp=>by
  simp only[eM,Rr,eV,Nat.zero_mul,sA];constructor
  .intro h;exact⟨[],fp,by simp,rfl,h⟩
  .rintro ⟨f1,f2,rfl,rfl,h⟩;simpa using h
 |e::es,off,fp=>by
  simp only[eA,Rr,DV (l1:=es),eN];have e1:∀m,off+(m+1)*n=off+n+m*n:=λm=>by rw[rB];omega
  constructor
  .rintro ⟨cs,f1,f2,hn,hc,h1,hr,⟨g1,g2,rfl,h3,h4⟩,rfl⟩;exact⟨f1++g1,g2,by simp,⟨cs,f1,g1,hn,hc,h1,hr,h3,rfl⟩,by rw[e1];exact h4⟩
  .rintro ⟨f1,f2,rfl,⟨cs,g1,g2,hn,hc,h1,hr,h3,rfl⟩,h4⟩;exact⟨cs,g1,g2++f2,hn,hc,h1,hr,⟨g2,f2,rfl,h3,by rw[e1]at h4;exact h4⟩,by simp⟩
theorem AX{w:World}{E:Env}{l:List (List AV)}{b off n:Nat}{fp:List Nat}{i:Nat}{e:List AV}(h:Rr w E l b off n fp)(hi:l[i]? =some e):
  ∃f1 f2 f3 cs,fp=f1++f2++f3/\cs.length=n/\bK w b (off+i*n) cs/\(∀x∈cs,x.oneCell'=true)/\Rc w E e cs f2/\
   Rr w E (l.take i) b off n f1/\Rr w E (l.drop (i+1)) b (off+(i+1)*n) n f3:=by
 obtain⟨hlt,rfl⟩:=cH.1 hi;have hl:l=l.take i++l[i]::l.drop (i+1):=by simp
 rw[hl]at h;obtain⟨f1,f4,rfl,h1,h2⟩:=DV.1 h;have hti:(l.take i).length=i:=by simp;omega
 rw[hti]at h2;simp only[Rr]at h2;obtain⟨cs,f2,f3,hn,hc,ho,hr,h3,rfl⟩:=h2;refine⟨f1,f2,f3,cs,by simp,hn,hc,ho,hr,h1,?_⟩;rw[rB,Nat.one_mul,<-oR];exact h3
theorem WT{w:World}{E:Env}{l:List (List AV)}{b off n:Nat}{i:Nat}{e:List AV}{f1 f2 f3:List Nat}{cs:List Value}(hi:i<l.length)(hn:cs.length=n)
  (hc:bK w b (off+i*n) cs) (ho:∀x∈cs,x.oneCell'=true) (hr:Rc w E e cs f2) (h1:Rr w E (l.take i) b off n f1) (h3:Rr w E (l.drop (i+1)) b (off+(i+1)*n) n f3):
  Rr w E (l.set i e) b off n (f1++f2++f3):=by
 have hl:l.set i e=l.take i++e::l.drop (i+1):=by rw[set_eq_take_append_cons_drop];simp[hi]
 rw[hl];refine DV.2 ⟨f1,f2++f3,by simp,h1,?_⟩;have hti:(l.take i).length=i:=by simp;omega
 rw[hti];simp only[Rr];refine⟨cs,f2,f3,hn,hc,ho,hr,?_,rfl⟩;rw[rB,Nat.one_mul,<-oR]at h3;exact h3
theorem Rw{w w':World}{E E':Env}(k:eO w E w' E'){b lo hi:Nat}(JK:∀j,j<lo\/hi<=j->w'.cell? ⟨b,j,none⟩=w.cell? ⟨b,j,none⟩):∀{l:List (List AV)} {off n:Nat} {fp:List Nat},
  (∀x∈fp,w'.heap[x]? =w.heap[x]?)->(off+l.length*n<=lo\/hi<=off)->Rr w E l b off n fp->Rr w' E' l b off n fp
 |[],_,_,_,_,_,h=>by simpa [Rr]using h
 |e::es,off,n,fp,hf,hr,h=>by
  simp only[Rr]at h⊢;obtain⟨cs,f1,f2,hn,hc,ho,h1,h2,rfl⟩:=h;have hl:(es.length+1)*n=n+es.length*n:=by rw[rB];omega
  simp only[eN,hl]at hr;refine⟨cs,f1,f2,hn,?_,ho,dU k _ _ _ (λx hx=>hf x (by simp[hx])) h1,Rw k JK (λx hx=>hf x (by simp[hx])) (by omega) h2,rfl⟩;intro j v hv;rw[JK]
  .exact hc j v hv
  .have:j<cs.length:=(cH.1 hv).1;omega
theorem bK.drop{w:World}{b off k:Nat}{cs:List Value}(h:bK w b off cs):bK w b (off+k) (cs.drop k):=by
 intro j v hv;rw[getElem?_drop]at hv;have:=h _ _ hv
 rwa[<-oR]at this
theorem bK.take{w:World}{b off k:Nat}{cs:List Value}(h:bK w b off cs):bK w b off (cs.take k):=by
 intro j v hv;rw[Bx]at hv;split at hv
 .exact h _ _ hv
 .cases hv
theorem addr_add(b o n:Nat):(⟨b,o,none⟩:Addr).add n=⟨b,o+n,none⟩:=Addr.add_lit b o n
theorem bK.run{P:Program}{w:World}{b off:Nat}{cs:List Value}(h:bK w b off cs):(loadCells ⟨b,off,none⟩ cs.length).run P w= .ok cs.toArray w:=
 run_loadCells_list w _ cs (λj v hv=>by rw[addr_add];exact h j v hv)
def kJ(P:Program)(t:TypeId):Option Nat:=
 match P.underlying t with
 |some (.struct _)=>(P.info? t).map (·.size)
 |some (.array _ _)=>(P.info? t).map (·.size)
 |_=>none
def oD(P:Program)(t:TypeId):Bool:=
 match P.underlying t with
 |some (.struct _)=>false
 |some (.array _ _)=>false
 |some _=>(P.info? t).map (·.size) == some 1
 |none=>false
theorem Yu{P:Program}{w:World}{t:TypeId}{b off:Nat}{cs:List Value}(ht:kJ P t=some cs.length)(h:bK w b off cs):
  (loadVar t ⟨b,off,none⟩).run P w= .ok (.agg cs.toArray) w:=by
 unfold kJ at ht;have hr:=h.run (P:=P);split at ht
 .rename_i d hd;cases hi:P.info? t with
  |none=>simp[hi]at ht
  |some i=>simp[hi]at ht;simp[loadVar,isAgg,gC hd,sizeOf,typeInfo,hi,ht,hr]
 .rename_i d hd;cases hi:P.info? t with
  |none=>simp[hi]at ht
  |some i=>simp[hi]at ht;simp[loadVar,isAgg,gC hd,sizeOf,typeInfo,hi,ht,hr]
 .cases ht
theorem Yv{P:Program}{w:World}{t:TypeId}{b off:Nat}{v:Value}(ht:oD P t=true)(h:bK w b off [v]):
  (loadVar t ⟨b,off,none⟩).run P w= .ok v w:=by
 unfold oD at ht;have h0:=h 0 v rfl;split at ht
 .cases ht
 .cases ht
 .rename_i d hd h1 h2;simp only[loadVar,isAgg,oS,gC h2,lP];cases d<;>simp_all
 .cases ht
theorem mF(b b':Nat)(hb:b'≠b):∀(vs:List Value) (o:Nat) (w:World),(w.setCells b o vs).heap[b']? =w.heap[b']?
 |[],_,_=>rfl
 |v::r,o,w=>by rw[World.setCells,mF b b' hb r];simp[World.setCell,CI,wA hb]
theorem gX(b:Nat):∀(vs:List Value) (o:Nat) (w:World),(w.setCells b o vs).heap.size=w.heap.size
 |[],_,_=>rfl
 |v::r,o,w=>by rw[World.setCells,gX b r];simp
theorem kQ(b:Nat):∀(vs:List Value) (o:Nat) (w:World),mI w (w.setCells b o vs)
 |[],_,_=>mI.rfl
 |v::r,o,w=>by rw[World.setCells];exact mI.trans (b:=w.setCell ⟨b,o,none⟩ v) ⟨rfl,rfl,rfl⟩ (kQ b r (o+1) _)
theorem jT(b:Nat)(e:TypeId)(fz:Nat×Nat):∀(vs:List Value) (o:Nat) (w:World) (C:Array Value),w.heap[b]? =some (.cells C e fz)->
  ∃C',(w.setCells b o vs).heap[b]? =some (.cells C' e fz)/\C'.size=C.size
 |[],_,w,C,h=>⟨C,h,rfl⟩
 |v::r,o,w,C,h=>by
  rw[World.setCells];have:(w.setCell ⟨b,o,none⟩ v).heap[b]? =some (.cells (C.setIfInBounds o v) e fz):=by simp[World.setCell,CI,h]
  obtain⟨C',h1,h2⟩:=jT b e fz r (o+1) _ _ this;exact⟨C',h1,by simpa using h2⟩
theorem uM{P:Program}{w:World}{b off:Nat}{C:Array Value}{e:TypeId}{fz:Nat×Nat}{vs:List Value}{q:Prop}(hb:w.heap[b]? =some (.cells C e fz))(hz:(C.size<=fz.1/\q)\/fz.2=0)
  (hfit:off+vs.length<=C.size) (h1:∀v∈vs,v.oneCell'=true):(storeCells ⟨b,off,none⟩ vs).run P w= .ok () (w.setCells b off vs):=by
 have:=run_storeCells_cells (P:=P) b off vs 0 w (λj hj=>by
  have:off+j<C.size:=by omega
  simp[World.cell?,hb,this]) (λj hj=>by
  simp only[World.frozen?,hb];rcases hz with⟨hz,_⟩|hz
  .have:¬fz.1<=off+j:=by omega
   simp[this]
  .simp [hz]) h1
 simpa using this
theorem Ah{o:List aN}{G:List CO}{i j:Nat}{fF:aN}{g':CO}{x:aN}{y:CO}(h:look (o.set i fF) (G.set i g') j x y):
  (j=i/\x=fF/\y=g')\/(j≠i/\look o G j x y):=by
 obtain⟨h1,h2⟩:=h;rw[getElem?_set]at h1 h2;by_cases hj:i=j
 .subst hj;left;simp only[gE]at h1 h2;split at h1
  .split at h2
   .exact ⟨rfl,(cQ h1).symm,(cQ h2).symm⟩
   .cases h2
  .cases h1
 .simp only[hj,hM]at h1 h2;exact .inr ⟨λe=>hj e.symm,h1,h2⟩
theorem rQ{o:List aN}{G:List CO}{i:Nat}{fF:aN}{g':CO}{x:aN}{y:CO}(h:look o G i x y):look (o.set i fF) (G.set i g') i fF g':=by have h1:=(cH.1 h.1).1;have h2:=(cH.1 h.2).1;constructor<;>simp[h1,h2]
theorem CR{o:List aN}{G:List CO}{i j:Nat}{fF:aN}{g':CO}{x:aN}{y:CO}(h:look o G j x y)(hj:j≠i):look (o.set i fF) (G.set i g') j x y:=by
 constructor
 .rw [lO (wA hj)];exact h.1
 .rw [lO (wA hj)];exact h.2
theorem lM{o:List aN}{G:List CO}{i:Nat}{x x':aN}{y y':CO}(h:look o G i x y)(h':look o G i x' y'):x=x'/\y=y':=
 ⟨cQ (h.1.symm.trans h'.1),cQ (h.2.symm.trans h'.2)⟩
theorem eB.aJ0{P:Program}[aB P]{B:gN P}{s:AS}{G:List CO}{a:Act}{w:World}(r:eB B s G a w){i:Nat}{ob:aN}{g:CO}(hl:look s.o G i ob g)(hlive:ob.live=true){w':World}
  (oF:∀b,b<w.heap.size->¬(g.F b/\∃a,g.a=some a/\b=a.block)->w'.heap[b]? =w.heap[b]?):
  (∀b,(env B s.o G w).A b->w'.heap[b]? =w.heap[b]?)/\(∀j oj gj b,look s.o G j oj gj->oj.live=true->j≠i->gj.F b->w'.heap[b]? =w.heap[b]?):=by
 refine⟨λb hb=>oF b (xB r hb) (λh=>hb.2 i ob g hl hlive h.1),λj oj gj b hj hjl hne hf=> ?_⟩;exact oF b (r.fresh j oj gj b hj hjl hf).2 (λh=>hne (r.apart j i oj ob gj g b hj hl hjl hlive hf h.1))
theorem eB.modify{P:Program}[aB P]{B:gN P}{s:AS}{G:List CO}{a:Act}{w:World}(r:eB B s G a w){i:Nat}{ob:aN}{g:CO}(hl:look s.o G i ob g)(hlive:ob.live=true)
  (fF:aN) (g':CO) (w':World) (AU:ob.bU<=fF.bU) (hn:fF.n=ob.n)
  (aUu:fF.bU=ob.bU->g'.a=g.a/\g'.cap=g.cap/\fF.dO.length=ob.dO.length)
  (hF:∀b,g'.F b->g.F b\/(w.heap.size<=b/\b<w'.heap.size))
  (hD:∀b,g.F b->(∀a,g.a=some a->b≠a.block)->g'.F b/\(∀a,g'.a=some a->b≠a.block))
  (oF:∀b,b<w.heap.size->¬(g.F b/\∃a,g.a=some a/\b=a.block)->w'.heap[b]? =w.heap[b]?)
  (hs:w.heap.size<=w'.heap.size)
  (ok':eO w (env B s.o G w) w' (env B (s.o.set i fF) (G.set i g') w')->fF.live=true->KX w' (env B (s.o.set i fF) (G.set i g') w') fF g') (same:mI w w':=by first|exact⟨rfl,rfl,rfl⟩|exact kQ _ _ _ _) (Gh:fF.box=true->ob.box=true\/ob.bU<2:=by first|exact λh=> .inl h|(intro h;cases h)):
  eB B ⟨s.t,s.o.set i fF⟩ (G.set i g') a w'/\eO w (env B s.o G w) w' (env B (s.o.set i fF) (G.set i g') w'):=by
 have hsm:=r.aJ0 hl hlive oF;have k:eO w (env B s.o G w) w' (env B (s.o.set i fF) (G.set i g') w'):=by
  refine DU hs (λb hb=>⟨xB r hb,hsm.1 b hb⟩) r.len ?_ ?_
  .intro j oj gj hj;by_cases e:j=i
   .subst e;obtain⟨rfl,rfl⟩:=lM hl hj;refine⟨fF,g',rQ hl,AU,Gh,λ_=>⟨hlive,hn,aUu,λb hf hne=> ?_⟩⟩;have:=hD b hf hne;exact⟨this.1,this.2,oF b (r.fresh j _ _ b hl hlive hf).2 (λh=>by obtain⟨_,a,ha,rfl⟩:=h;exact hne a ha rfl)⟩
   .refine ⟨oj,gj,CR hj e,eC _,λh=> .inl h,λhjl=>⟨hjl,rfl,λ_=>⟨rfl,rfl,rfl⟩,λb hf hne=>⟨hf,hne,hsm.2 j oj gj b hj hjl e hf⟩⟩⟩
  .intro j oj gj b hj hjl hf;rcases Ah hj with⟨rfl,rfl,rfl⟩|⟨_,xc⟩
   .rcases hF b hf with h|h
    .exact .inr ⟨j,ob,g,hl,hlive,h⟩
    .exact .inl h.1
   .exact .inr ⟨j,oj,gj,xc,hjl,hf⟩
 refine⟨r.next k (by simp[r.len]) ?_ ?_ ?_ hs ?_ same,k⟩
 .intro j oj gj hj hjl;rcases Ah hj with⟨rfl,rfl,rfl⟩|⟨hne,xc⟩
  .exact ok' k hjl
  .exact (r.ok j oj gj xc hjl).keeps k (λb hb=>hsm.2 j oj gj b xc hjl hne hb)
 .intro j1 j2 o1 o2 g1 g2 b h1 h2 hl1 hl2 hf1 hf2;rcases Ah h1 with⟨rfl,rfl,rfl⟩|⟨aUv,h1'⟩<;>rcases Ah h2 with⟨rfl,rfl,rfl⟩|⟨hne2,h2'⟩
  .rfl
  .exfalso;rcases hF b hf1 with h|h
   .exact hne2 (r.apart _ _ _ _ _ _ b h2' hl hl2 hlive hf2 h)
   .have:=(r.fresh _ _ _ b h2' hl2 hf2).2;omega
  .exfalso;rcases hF b hf2 with h|h
   .exact aUv (r.apart _ _ _ _ _ _ b h1' hl hl1 hlive hf1 h)
   .have:=(r.fresh _ _ _ b h1' hl1 hf1).2;omega
  .exact r.apart _ _ _ _ _ _ b h1' h2' hl1 hl2 hf1 hf2
 .intro j oj gj b hj hjl hf;rcases Ah hj with⟨rfl,rfl,rfl⟩|⟨hne,xc⟩
  .rcases hF b hf with h|h
   .have:=r.fresh _ _ _ b hl hlive h;exact⟨this.1,nF this.2 hs⟩
   .exact ⟨.inr (lB r.size h.1),h.2⟩
  .have:=r.fresh _ _ _ b xc hjl hf;exact⟨this.1,nF this.2 hs⟩
 .intro b hb hO;refine oF b (nF hb r.size) (λh=> ?_);have:=(r.fresh _ _ _ b hl hlive h.1).1;rcases this with h|h
  .exact hO h
  .omega
theorem qA{o o2:List aN}{G G2:List CO}(hlen:G.length=o.length){i:Nat}{x:aN}{y:CO}(h:look (o++o2) (G++G2) i x y):
  (i<o.length/\look o G i x y)\/(o.length<=i/\look o2 G2 (i-o.length) x y):=by
 obtain⟨h1,h2⟩:=h;by_cases hi:i<o.length
 .rw [pS hi]at h1;rw[pS (by omega)]at h2;exact .inl ⟨hi,h1,h2⟩
 .rw [kO (by omega)]at h1;rw[kO (by omega),hlen]at h2;exact .inr ⟨by omega,h1,h2⟩
theorem nR{o o2:List aN}{G G2:List CO}{i:Nat}{x:aN}{y:CO}(h:look o G i x y):look (o++o2) (G++G2) i x y:=by have h1:=(cH.1 h.1).1;have h2:=(cH.1 h.2).1;exact⟨by rw[pS h1];exact h.1,by rw[pS h2];exact h.2⟩
theorem qB{o o2:List aN}{G G2:List CO}(hlen:G.length=o.length){i:Nat}{x:aN}{y:CO}(h:look o2 G2 i x y):look (o++o2) (G++G2) (o.length+i) x y:=by refine⟨by rw[kO (by omega),Nat.add_sub_cancel_left];exact h.1,?_⟩;rw[kO (by omega),hlen,Nat.add_sub_cancel_left];exact h.2
theorem eB.add{P:Program}[aB P]{B:gN P}{s:AS}{G:List CO}{a:Act}{w:World}(r:eB B s G a w)(obs:List aN)(Gs:List CO)(w':World)(hlen:Gs.length=obs.length)
  (hs:w.heap.size<=w'.heap.size) (oF:∀b,b<w.heap.size->w'.heap[b]? =w.heap[b]?)
  (hF:∀j ob g b,look obs Gs j ob g->ob.live=true->g.F b->w.heap.size<=b/\b<w'.heap.size)
  (hap:∀i j oi oj gi gj b,look obs Gs i oi gi->look obs Gs j oj gj->oi.live=true->oj.live=true->gi.F b->gj.F b->i=j)
  (ok:eO w (env B s.o G w) w' (env B (s.o++obs) (G++Gs) w')->∀j ob g,look obs Gs j ob g->ob.live=true->KX w' (env B (s.o++obs) (G++Gs) w') ob g) (same:mI w w':=by first|exact⟨rfl,rfl,rfl⟩|exact kQ _ _ _ _):
  eB B ⟨s.t,s.o++obs⟩ (G++Gs) a w'/\eO w (env B s.o G w) w' (env B (s.o++obs) (G++Gs) w'):=by
 have k:eO w (env B s.o G w) w' (env B (s.o++obs) (G++Gs) w'):=by
  refine DU hs (λb hb=>⟨xB r hb,oF b (xB r hb)⟩) r.len ?_ ?_
  .intro j oj gj hj;exact⟨oj,gj,nR hj,eC _,λh=> .inl h,λhjl=>⟨hjl,rfl,λ_=>⟨rfl,rfl,rfl⟩,λb hf hne=>⟨hf,hne,oF b (r.fresh j oj gj b hj hjl hf).2⟩⟩⟩
  .intro j oj gj b hj hjl hf;rcases qA r.len hj with⟨_,h⟩|⟨_,h⟩
   .exact .inr ⟨j,oj,gj,h,hjl,hf⟩
   .exact .inl (hF _ _ _ b h hjl hf).1
 refine⟨r.next k (by simp[r.len,hlen]) ?_ ?_ ?_ hs ?_ same,k⟩
 .intro j oj gj hj hjl;rcases qA r.len hj with⟨_,h⟩|⟨_,h⟩
  .exact (r.ok j oj gj h hjl).keeps k (λb hb=>oF b (r.fresh j oj gj b h hjl hb).2)
  .exact ok k _ _ _ h hjl
 .intro j1 j2 o1 o2 g1 g2 b h1 h2 hl1 hl2 hf1 hf2;rcases qA r.len h1 with⟨_,h1⟩|⟨hj1,h1⟩<;>rcases qA r.len h2 with⟨_,h2⟩|⟨hj2,h2⟩
  .exact r.apart _ _ _ _ _ _ b h1 h2 hl1 hl2 hf1 hf2
  .have:=(r.fresh _ _ _ b h1 hl1 hf1).2;have:=(hF _ _ _ b h2 hl2 hf2).1;omega
  .have:=(r.fresh _ _ _ b h2 hl2 hf2).2;have:=(hF _ _ _ b h1 hl1 hf1).1;omega
  .have:=hap _ _ _ _ _ _ b h1 h2 hl1 hl2 hf1 hf2;omega
 .intro j oj gj b hj hjl hf;rcases qA r.len hj with⟨_,h⟩|⟨_,h⟩
  .have:=r.fresh _ _ _ b h hjl hf;exact⟨this.1,nF this.2 hs⟩
  .have:=hF _ _ _ b h hjl hf;exact⟨.inr (lB r.size this.1),this.2⟩
 .intro b hb hO;exact oF b (nF hb r.size)
def slN(P:Program):Nat->TypeId->List Nat
 |0,_=>[]
 |f+1,t=>match P.underlying t with
  |some (.slice e)=>[P.cellsOf e]
  |some (.struct fs)=>fs.toList.flatMap λx=>slN P f x.type
  |some (.array n e)=>(replicate n (slN P f e)).flatten
  |_=>[0]
def aNv(n:Nat):AV->AV
 | .sl .own _ []=> .sl .own n []
 |x=>x
def Yw:List AV->List Nat->List AV
 |x::xs,n::ns=>aNv n x::Yw xs ns
 |xs,[]=>xs
 |[],_=>[]
theorem aNw(w:World)(E:Env)(n:Nat)(v:Value):R w E (aNv n (ofV v)) v []:=by unfold ofV;split<;>simp[aNv,R,Rc,maxLen]
theorem Ih(w:World)(E:Env):∀(vs:List Value) (ns:List Nat),Rc w E (Yw (vs.map ofV) ns) vs []
 |[],[]=>by simp[Yw,Rc]
 |[],_::_=>by simp[Yw,Rc]
 |v::vs,[]=>by
  have:=Ih w E vs [];have e:Yw (vs.map ofV) []=vs.map ofV:=by cases vs<;>rfl
  rw[e]at this;simp only[mB,Yw,Rc];exact⟨[],[],aMo w E v,this,rfl⟩
 |v::vs,n::ns=>by simp only[mB,Yw,Rc];exact⟨[],[],aNw w E n v,Ih w E vs ns,rfl⟩
def qC(P:Program)(t:TypeId):Option (List AV):=
 match (P.info? t).bind (·.zero)with
 |some v=>if v.cells.toList.all (·.oneCell')then some (Yw (v.cells.toList.map ofV) (slN P 8 t))else none
 |none=>none
def nC(P:Program)(t:TypeId):Option (TypeId×Nat×Nat):=
 match P.underlying t with
 |some (.slice e)=>(P.info? e).map λi=>(e,i.size,i.bytes)
 |_=>none
def Np(P:Program)(t:TypeId)(f:Nat):Option Nat:=
 match P.underlying t with
 |some (.struct fs)=>match fs[f]? with
  |some fd=>match P.info? fd.type with
   |some i=>if i.size=0 then none else some fd.offset
   |none=>none
  |none=>none
 |_=>none
def AV.cells:AV->List AV
 | .agg c=>c
 |x=>[x]
def AV.known:AV->Bool
 | .undef=>false
 | .gM _=>false
 | .sl (.kH _) _ _=>false
 | .eU (.kH _) _ _=>false
 | .obj _ _=>false
 | .ptr _ _ _ _=>false
 |_=>true
def AV.isObj(o:List aN)(i bU:Nat):Option aN:=
 match o[i]? with
 |some ob=>if ob.live=true/\ob.bU=bU then some ob else none
 |none=>none
def AV.fit(o:List aN):AV->Bool
 | .undef=>false
 | .gM _=>false
 | .sl (.kH i) _ _=>match o[i]? with
  |some ob=>ob.live
  |none=>false
 | .eU (.kH i) _ _=>match o[i]? with
  |some ob=>ob.live
  |none=>false
 | .obj i bU=>(AV.isObj o i bU).isSome
 | .ptr i bU _ _=>(AV.isObj o i bU).isSome
 |_=>true
theorem QT{P:Program}[aB P]{B:gN P}{o:List aN}{G:List CO}{w:World}{x:AV}{v:Value}{fp:List Nat}(hf:x.fit o=true)(h:R w (env B o G w) x v fp):
  Rc w (env B o G w) x.cells v.cells.toList fp/\(∀c∈v.cells.toList,c.oneCell'=true)/\(∀c,x= .agg c->∃cs,v= .agg cs)/\((∀c,x≠ .agg c)->v.cells=#[v]/\v.oneCell'=true):=by
 have one:∀{x:AV} {v:Value} {fp:List Nat},R w (env B o G w) x v fp->x.cells=[x]->v.cells=#[v]->v.oneCell'=true->(∀c,x≠ .agg c)->
   Rc w (env B o G w) x.cells v.cells.toList fp/\(∀c∈v.cells.toList,c.oneCell'=true)/\(∀c,x= .agg c->∃cs,v= .agg cs)/\((∀c,x≠ .agg c)->v.cells=#[v]/\v.oneCell'=true):=by
  intro x v fp h h1 h2 h3 h4;rw[h1,h2];refine⟨by simp only[Rc];exact⟨fp,[],h,rfl,by simp⟩,by simpa using h3,λc hc=>absurd hc (h4 c),λ_=>⟨rfl,h3⟩⟩
 cases x with
 |int k n=>have h':=h;simp only[R]at h';obtain⟨rfl,_⟩:=h';exact one h rfl rfl rfl (by simp)
 |bool b=>have h':=h;simp only[R]at h';obtain⟨rfl,_⟩:=h';exact one h rfl rfl rfl (by simp)
 |str b=>have h':=h;simp only[R]at h';obtain⟨rfl,_⟩:=h';exact one h rfl rfl rfl (by simp)
 |sl g n l=>
  have h':=h;simp only[R]at h';rcases h' with⟨hd,_⟩|⟨a,cap,rfl,_⟩
  .cases g with
   |own=>exact hd.elim
   |view=>exact hd.elim
   |kH i=>simp only[AV.fit]at hf;exfalso;refine hd (λob vZ=> ?_);simpa [vZ]using hf
  .exact one h rfl rfl rfl (by simp)
 |eU g c off=>
  have h':=h;simp only[R]at h';rcases h' with⟨hd,_⟩|⟨_,b,o,cs,rfl,_⟩
  .cases g with
   |own=>exact hd.elim
   |view=>exact hd.elim
   |kH i=>simp only[AV.fit]at hf;exfalso;refine hd (λob vZ=> ?_);simpa [vZ]using hf
  .exact one h rfl rfl rfl (by simp)
 |obj i bU=>
  have h':=h;simp only[R]at h';obtain⟨_,ob,g,hl,_,hh,_⟩:=h';simp only[AV.fit,AV.isObj,hl.1]at hf;split at hf
  .rename_i hc;have:=hh hc.1 hc.2;subst this;exact one h rfl rfl rfl (by simp)
  .cases hf
 |ptr i bU idx off=>
  have h':=h;simp only[R]at h';obtain⟨_,ob,g,hl,_,hh,_⟩:=h';simp only[AV.fit,AV.isObj,hl.1]at hf;split at hf
  .rename_i hc;obtain⟨b,f,_,rfl⟩:=hh hc.1 hc.2;exact one h rfl rfl rfl (by simp)
  .cases hf
 |agg c=>simp only[R]at h;obtain⟨cs,rfl,ho,hr⟩:=h;exact⟨by simpa [AV.cells,Value.cells]using hr,by simpa [Value.cells]using ho,λ_ _=>⟨_,rfl⟩,λhne=>absurd rfl (hne c)⟩
 |gM c=>cases hf
 |fn f c=>have h':=h;simp only[R]at h';obtain⟨_,cs,rfl,_⟩:=h';exact one h rfl rfl rfl (by simp)
 |undef=>cases hf
def Step(P:Program)[aB P](B:gN P)(o:Oper)(s s':AS):Prop:=
 ∀a w next Q,Rel B s a w->(∀a' w',Rel B s' a' w'->next a' w')->o.wp P a w next Q
theorem sO{P:Program}[aB P]{B:gN P}{o:Oper}{s s':AS}
  (h:∀G a w,eB B s G a w->∃v w',(execOp a.eval o).run P w= .ok (.value v) w'/\Rel B s' (a.put o.dst v) w'):Step P B o s s':=by
 rintro a w next Q ⟨G,r⟩ hn
 obtain⟨v,w',hr,hrel⟩:=h G a w r;unfold Oper.wp;rw[hr];exact hn _ _ hrel
theorem Rx{P:Program}[aB P]{B:gN P}{o:Oper}{s s':AS}
  (h:∀G a w,eB B s G a w->∃w',(execOp a.eval o).run P w= .ok .skip w'/\Rel B s' (a.put o.dst Go.undef) w'):Step P B o s s':=by
 rintro a w next Q ⟨G,r⟩ hn
 obtain⟨w',hr,hrel⟩:=h G a w r;unfold Oper.wp;rw[hr];exact hn _ _ hrel
theorem dV{P:Program}[aB P]{B:gN P}{o:Oper}{s:AS}{x:AV}
  (h:∀G a w,eB B s G a w->∃v,(execOp a.eval o).run P w= .ok (.value v) w/\R w (env B s.o G w) x v []):Step P B o s (s.put o.dst x):=
 sO λG a w r=>let⟨v,hr,hx⟩:=h G a w r;⟨v,w,hr,G,r.put o.dst hx⟩
section
variable{P:Program}[aB P]{B:gN P}{s:AS}{dst:Option Tmp}{ty:TypeId}{pos:String}{after:Array Edge}{gd:Option (Nat × Bool)}
theorem aA9(x:Operand):Step P B ⟨dst,.move x,ty,pos,after,gd⟩ s (s.put dst (s.ev x)):=
 dV λ_ a _ r=>⟨a.eval x,rfl,r.ev x⟩
theorem aa(x:Operand):Step P B ⟨dst,.assign x,ty,pos,after,gd⟩ s (s.put dst (s.ev x)):=
 dV λ_ a _ r=>⟨a.eval x,rfl,r.ev x⟩
def AS.box(s:AS)(d:Option Tmp)(c:List AV):AS:=AS.put ⟨s.t,s.o++[⟨true,true,c.length,0,[c]⟩]⟩ d (.ptr s.o.length 0 0 0)
theorem heap_alloc(w:World)(o:Obj)(b:Nat)(h:b<w.heap.size):(w.alloc o).heap[b]? =w.heap[b]?:=heap_alloc_old w o h
theorem fO(w:World)(o:Obj):(w.alloc o).heap[w.heap.size]? =some o:=heap_alloc_new w o
theorem eB.aRn{G:List CO}{a:Act}{w:World}(r:eB B s G a w)(ob:aN)(cap:Nat)(C:Array Value)(e:TypeId)
  (hl:ob.dO.length<=cap) (hcap:cap<=maxLen) (hC:cap*ob.n<=C.size)
  (hr:∀w' E',eO w ((env B s.o G w).of ob.box) w' E'->w'.heap[w.heap.size]? =some (.cells C e (0,0))->Rr w' E' ob.dO w.heap.size 0 ob.n []):
  ∃G',eB B ⟨s.t,s.o++[ob]⟩ G' a (w.alloc (.cells C e))/\eO w (env B s.o G w) (w.alloc (.cells C e)) (env B (s.o++[ob]) G' (w.alloc (.cells C e)))/\
   G'[s.o.length]? =some ⟨some ⟨w.heap.size,0,none⟩,cap,λb=>b=w.heap.size⟩:=by
 refine⟨G++[⟨some ⟨w.heap.size,0,none⟩,cap,λb=>b=w.heap.size⟩],?_⟩;have:=r.add [ob] [⟨some ⟨w.heap.size,0,none⟩,cap,λb=>b=w.heap.size⟩] (w.alloc (.cells C e)) rfl (by simp) (λb hb=>heap_alloc w _ b hb) ?_ ?_ ?_
 .refine ⟨this.1,this.2,?_⟩;rw[<-r.len];simp
 .rintro j x y b ⟨h1,h2⟩ _ hf;cases j with
  |zero=>simp at h2;subst h2;simp at hf;subst hf;simp
  |succ j=>simp at h2
 .rintro i j _ _ _ _ b ⟨h1,_⟩ ⟨h2,_⟩ _ _ _ _;cases i<;>cases j<;>simp_all
 .rintro k j x y ⟨h1,h2⟩ _;cases j with
  |zero=>simp at h1 h2;subst h1;subst h2;refine⟨[w.heap.size],⟨lB hl hcap,.inr ⟨w.heap.size,0,C,e,(0,0),[],rfl,fO w _,.inr rfl,by simpa using hC,hl,hcap,rfl,?_⟩⟩,by simp,by simp⟩;exact hr _ _ (k.of ob.box) (fO w _)
  |succ j=>simp at h1
theorem WU{o:List aN}{G':List CO}{ob:aN}{g:CO}(h:G'[o.length]? =some g):look (o++[ob]) G' o.length ob g:=⟨by simp,h⟩
theorem JL(P:Program)(w:World)(t:TypeId)(v:Value):(newVar t v).run P w= .ok ⟨w.heap.size,0,none⟩ (w.alloc (.cells v.cells t)):=by simp[newVar,newRow]
theorem eB.boxed{G:List CO}{a:Act}{w:World}(r:eB B s G a w)(d:Option Tmp){c:List AV}{cs:Array Value}(t:TypeId)(ho:∀x∈cs.toList,x.oneCell'=true)
  (hr:Rc w (env B s.o G w) c cs.toList []):Rel B (s.box d c) (a.put d (.pointer (some ⟨w.heap.size,0,none⟩))) (w.alloc (.cells cs t)):=by
 have hl:=gG hr;obtain⟨G',r',k,hG⟩:=r.aRn ⟨true,true,c.length,0,[c]⟩ 1 cs t (by simp) (by simp[maxLen]) (by simpa using DA hl.symm) (λw' E' k hb=>by
  simp only[Rr];refine⟨cs.toList,[],[],by simpa using hl,?_,ho,dU k _ _ _ (by simp) hr,rfl,rfl⟩;intro j v hv;simp[World.cell?,hb];simpa using hv)
 refine⟨G',?_⟩;exact r'.put d (by
  simp only[R];exact⟨trivial,_,_,WU hG,eC _,λ_ _=>⟨w.heap.size,0,rfl,by simp⟩,λ_ h=>by cases h⟩)
theorem eB.aRo{G:List CO}{a:Act}{w:World}(r:eB B s G a w)(d:Option Tmp){c:List AV}{cs:Array Value}(t:TypeId){i:Nat}(hi:s.o[i]? =some ⟨true,false,c.length,0,[]⟩)(ho:∀x∈cs.toList,x.oneCell'=true)
  (hr:Rc w (env B s.o G w) c cs.toList []):Rel B (AS.put ⟨s.t,s.o.set i ⟨true,true,c.length,1,[c]⟩⟩ d (.ptr i 1 0 0)) (a.put d (.pointer (some ⟨w.heap.size,0,none⟩))) (w.alloc (.cells cs t)):=by
 have hl:=gG hr;have hlt:i<G.length:=by rw[r.len];exact(cH.1 hi).1
 have hlk:Aw.look s.o G i ⟨true,false,c.length,0,[]⟩ G[i]:=⟨hi,aE hlt⟩;generalize G[i]=g at hlk;have hm:=r.modify hlk rfl ⟨true,true,c.length,1,[c]⟩ ⟨some ⟨w.heap.size,0,none⟩,1,λb=>g.F b\/b=w.heap.size⟩ (w.alloc (.cells cs t)) (by simp) rfl (λh=>by simp at h)
  (λb hb=>by
   rcases hb with hb|rfl
   .exact .inl hb
   .exact .inr ⟨eC _,by simp⟩)
  (λb hb _=>⟨.inl hb,λx hx=>by
   obtain rfl:=cQ hx;have:=(r.fresh _ _ _ b hlk rfl hb).2;simp;omega⟩)
  (λb hb _=>heap_alloc w _ b hb) (by simp) (λk _=>by
   refine⟨[w.heap.size],⟨by simp[maxLen],.inr ⟨w.heap.size,0,cs,t,(0,0),[],rfl,fO w _,.inr rfl,by simpa using DA hl.symm,by simp,by simp[maxLen],rfl,?_⟩⟩,by simp,by simp⟩;simp only[Env.of,gE,Rr];refine⟨cs.toList,[],[],by simpa using hl,?_,ho,dU k _ _ _ (by simp) hr,rfl,rfl⟩;intro j v hv;have hb:=fO w (Obj.cells cs t);simp only[World.cell?,hb];simpa using hv) (by exact⟨rfl,rfl,rfl⟩) (λ_=> .inr (by simp))
 have hl2:Aw.look (s.o.set i ⟨true,true,c.length,1,[c]⟩) (G.set i ⟨some ⟨w.heap.size,0,none⟩,1,λb=>g.F b\/b=w.heap.size⟩) i ⟨true,true,c.length,1,[c]⟩ ⟨some ⟨w.heap.size,0,none⟩,1,λb=>g.F b\/b=w.heap.size⟩:=rQ hlk;refine⟨_,hm.1.put d ?_⟩;simp only[R];exact⟨trivial,_,_,hl2,eC _,λ_ _=>⟨w.heap.size,0,rfl,by simp⟩,λ_ h=>by cases h⟩
theorem aD3(t:TypeId)(x:Operand)(hx:(s.ev x).fit s.o=true):Step P B ⟨dst,.box t x,ty,pos,after,gd⟩ s (s.box dst (s.ev x).cells):=
 sO λG a w r=>by have h:=QT hx (r.ev x);exact⟨_,_,by simp[execOp,Instr.box,JL],r.boxed dst t h.2.1 h.1⟩
theorem xn(t:TypeId){z:List AV}(hz:qC P t=some z):Step P B ⟨dst,.alloc t,ty,pos,after,gd⟩ s (s.box dst z):=
 sO λG a w r=>by
  unfold qC at hz;cases hi:P.info? t with
  |none=>simp[hi]at hz
  |some i=>
   cases hv:i.zero with
   |none=>simp[hi,hv]at hz
   |some v=>
    simp only[hi,hv,As]at hz;split at hz
    .rename_i hall;obtain rfl:=cQ hz;refine⟨_,_,by simp[execOp,Instr.alloc,zeroValue,typeInfo,hi,hv,JL],r.boxed dst t (fR.1 hall) (Ih w _ _ _)⟩
    .cases hz
theorem Yx(t:TypeId){z:List AV}{i:Nat}(hz:qC P t=some z)(hi':s.o[i]? =some ⟨true,false,z.length,0,[]⟩):Step P B ⟨dst,.alloc t,ty,pos,after,gd⟩ s (AS.put ⟨s.t,s.o.set i ⟨true,true,z.length,1,[z]⟩⟩ dst (.ptr i 1 0 0)):=
 sO λG a w r=>by
  unfold qC at hz;cases hi:P.info? t with
  |none=>simp[hi]at hz
  |some i=>
   cases hv:i.zero with
   |none=>simp[hi,hv]at hz
   |some v=>
    simp only[hi,hv,As]at hz;split at hz
    .rename_i hall;obtain rfl:=cQ hz;refine⟨_,_,by simp[execOp,Instr.alloc,zeroValue,typeInfo,hi,hv,JL],r.aRo dst t hi' (fR.1 hall) (Ih w _ _ _)⟩
    .cases hz
theorem Ry{t:List AV}{o:List aN}{a:Act}{w:World}(ns:List Nat)(h:Rel B ⟨t,o⟩ a w):Rel B ⟨t,o++ns.map λn=>⟨true,false,n,0,[]⟩⟩ a w:=by
 obtain⟨G,r⟩:=h;have:=r.add (ns.map λn=>⟨true,false,n,0,[]⟩) (ns.map λ_=>⟨none,0,λ_=>False⟩) w (by simp) (eC _) (λ_ _=>rfl)
  (λj ob g b hl _ hF=>by
   obtain⟨_,h2⟩:=hl;simp only[tM]at h2;cases hn:ns[j]? with
   |none=>simp[hn]at h2
   |some n=>simp[hn]at h2;subst h2;exact hF.elim)
  (λi j oi oj gi gj b hl _ _ _ hF _=>by
   obtain⟨_,h2⟩:=hl;simp only[tM]at h2;cases hn:ns[i]? with
   |none=>simp[hn]at h2
   |some n=>simp[hn]at h2;subst h2;exact hF.elim)
  (λk j ob g hl _=>by
   obtain⟨h1,h2⟩:=hl;simp only[tM]at h1 h2;cases hn:ns[j]? with
   |none=>simp[hn]at h2
   |some n=>
    simp[hn]at h1 h2;subst h1;subst h2;exact⟨[],⟨by simp[maxLen],.inl ⟨rfl,rfl,rfl⟩⟩,by simp,by simp⟩) (by exact⟨rfl,rfl,rfl⟩)
 exact⟨_,this.1⟩
def EE(i:Nat):Tg->Option Tg
 | .own=>some (.kH i)
 |g=>some g
theorem xq{P:Program}[aB P]{B:gN P}{o:List aN}{G:List CO}{w:World}{i:Nat}{ob:aN}{g:CO}(hl:look o G i ob g)(hlive:ob.live=true)(box:Bool):
  nG (EE i) true ((env B o G w).of box) (env B o G w) (λb=>g.F b/\∀a,g.a=some a->b≠a.block) where
 own t e:=by obtain rfl:=cQ e;exact⟨by simp,λb hb=>⟨ob,g,hl,hlive,hb.1,hb.2⟩⟩
 view t e:=by obtain rfl:=cQ e;exact⟨rfl,λb hb=>by cases box<;>exact hb⟩
 kH j t e:=by
  obtain rfl:=cQ e;refine⟨by simp,?_,λb hb=> ?_⟩
  .by_cases h:(env B o G w).V j
   .left;cases box
    .trivial
    .exact h
   .right;exact h
  .cases box
   .exact hb.elim
   .exact hb
 hh _ j v x h:=by cases box;exact h.elim;exact h
 hl _ j v k q x h:=by cases box;exact h.elim;exact h
theorem lI{o:List aN}{i bU:Nat}{ob:aN}(h:AV.isObj o i bU=some ob):o[i]? =some ob/\ob.live=true/\ob.bU=bU:=by
 unfold AV.isObj at h;split at h
 .rename_i x hx;split at h
  .rename_i hc;obtain rfl:=cQ h;exact⟨hx,hc⟩
  .cases h
 .cases h
theorem eB.look{P:Program}[aB P]{B:gN P}{s:AS}{G:List CO}{a:Act}{w:World}(r:eB B s G a w){i:Nat}{ob:aN}(h:s.o[i]? =some ob):∃g,look s.o G i ob g:=by
 have hi:i<G.length:=by rw[r.len];exact(cH.1 h).1
 exact⟨G[i],h,aE hi⟩
theorem eB.elem{P:Program}[aB P]{B:gN P}{s:AS}{G:List CO}{a:Act}{w:World}(r:eB B s G a w){i idx:Nat}{ob:aN}{g:CO}{e:List AV}(hl:Aw.look s.o G i ob g)(hlive:ob.live=true)(he:ob.dO[idx]? =some e):
  ∃b f cs,g.a=some ⟨b,f,none⟩/\cs.length=ob.n/\bK w b (f+idx*ob.n) cs/\(∀x∈cs,x.oneCell'=true)/\Rc w (env B s.o G w) (xO (EE i) true e) cs []:=by
 obtain⟨fp,⟨_,h⟩,hnd,hF⟩:=r.ok i ob g hl hlive;rcases h with⟨h,_⟩|⟨b,f,C,ty,fz,qN,ha,hb,hz,h1,h2,h3,rfl,hr⟩
 .rw [h]at he;simp at he
 obtain⟨f1,f2,f3,cs,rfl,hn,hc,ho,wL,_,_⟩:=AX hr he;refine⟨b,f,cs,ha,hn,hc,ho,?_⟩;refine yB (xq hl hlive ob.box) e cs f2 (λx hx=>⟨hF x (by simp[hx]),λa' wW=> ?_⟩) wL;rw[ha]at wW;obtain rfl:=cQ wW;simp only[lR]at hnd;rintro rfl;exact hnd.1 (by simp[hx])
theorem Rz{w:World}{E:Env}{c:List AV}{cs:List Value}(off n:Nat)(h:Rc w E c cs []):Rc w E ((c.drop off).take n) ((cs.drop off).take n) []:=by
 obtain⟨f1,f2,e,_,h2⟩:=uL off h;obtain⟨rfl,rfl⟩:f1=[]/\f2=[]:=by simpa using e.symm
 obtain⟨f1,f2,e,h3,_⟩:=uL n h2;obtain⟨rfl,rfl⟩:f1=[]/\f2=[]:=by simpa using e.symm
 exact h3
theorem Ii{cs:List Value}{off n:Nat}(ho:∀x∈cs,x.oneCell'=true):∀x∈(cs.drop off).take n,x.oneCell'=true:=
 λx hx=>ho x (AI (sE hx))
theorem bK.slice{w:World}{b off:Nat}{cs:List Value}(k n:Nat)(h:bK w b off cs):bK w b (off+k) ((cs.drop k).take n):=h.drop.take
theorem EF(f:Tg->Option Tg)(h:Bool):∀c,(xO f h c).length=c.length
 |[]=>rfl
 |_::xs=>by simp[xO,EF f h xs]
theorem uV{P:Program}{w:World}{t:TypeId}{b off k n:Nat}{cs:List Value}(ht:kJ P t=some n)(hfit:k+n<=cs.length)(h:bK w b off cs):
  (Instr.loadAt t (.pointer (some ⟨b,off+k,none⟩))).run P w= .ok (.agg ((cs.drop k).take n).toArray) w:=by
 have hl:((cs.drop k).take n).length=n:=by simp;omega
 simpa [Instr.loadAt,Instr.sureAddr]using Yu (P:=P) (t:=t) (by rw[hl];exact ht) (h.slice k n)
theorem yE{P:Program}{w:World}{t:TypeId}{b off k:Nat}{cs:List Value}{v:Value}(ht:oD P t=true)(hv:cs[k]? =some v)(h:bK w b off cs):
  (Instr.loadAt t (.pointer (some ⟨b,off+k,none⟩))).run P w= .ok v w:=by
 have:(cs.drop k).take 1=[v]:=by obtain⟨hk,rfl⟩:=cH.1 hv;rw[mC hk,eL,fW]
 have h1:=h.slice k 1;rw[this]at h1;simpa [Instr.loadAt,Instr.sureAddr]using Yv (P:=P) (t:=t) ht h1
theorem eB.ptr{G:List CO}{a:Act}{w:World}(r:eB B s G a w){x:Operand}{i bU idx off:Nat}{ob:aN}(hx:s.ev x= .ptr i bU idx off)(ho:AV.isObj s.o i bU=some ob):
  ∃g b f,Aw.look s.o G i ob g/\ob.live=true/\g.a=some ⟨b,f,none⟩/\a.eval x= .pointer (some ⟨b,f+(idx*ob.n+off),none⟩):=by
 have h:=r.ev x;rw[hx]at h;simp only[R]at h;obtain⟨_,fF,g,hl,_,hh,_⟩:=h;obtain⟨h1,h2,h3⟩:=lI ho;obtain rfl:=cQ (hl.1.symm.trans h1);obtain⟨b,f,ha,hv⟩:=hh h2 h3;exact⟨g,b,f,hl,h2,ha,hv⟩
theorem eB.pin{G:List CO}{a:Act}{w:World}(r:eB B s G a w){x:Operand}{i bU idx off:Nat}{ob:aN}{g:CO}(hx:s.ev x= .ptr i bU idx off)(ho:AV.isObj s.o i bU=some ob)(hg:Aw.look s.o G i ob g):
  ob.box=true->bU=2->idx=0->off=0->∀y,B.p0 i=some y->a.eval x=y.1/\(ob.live=true->ob.bU=2->g.cap=y.2):=by
 have h:=r.ev x;rw[hx]at h;simp only[R]at h;obtain⟨_,fF,g',hl,_,_,hz⟩:=h;obtain⟨h1,h2,h3⟩:=lI ho;obtain rfl:=cQ (hl.1.symm.trans h1);obtain rfl:=cQ (hl.2.symm.trans hg.2);exact hz
theorem KY(t:TypeId)(x:Operand){i bU idx off n:Nat}{ob:aN}{e:List AV}(hx:s.ev x= .ptr i bU idx off)(ho:AV.isObj s.o i bU=some ob)(he:ob.dO[idx]? =some e)
  (hn:kJ P t=some n) (hfit:off+n<=e.length):Step P B ⟨dst,.load t x,ty,pos,after,gd⟩ s (s.put dst (.agg ((xO (EE i) true e).drop off |>.take n))):=
 dV λG a w r=>by
  obtain⟨g,b,f,hl,hlive,ha,hv⟩:=r.ptr hx ho;obtain⟨b',f',cs,wW,hcn,hc,hone,wL⟩:=r.elem hl hlive he;rw[ha]at wW;simp only[eE,pN,sY]at wW;obtain⟨rfl,rfl⟩:=wW;have hle:=gG wL;rw[EF]at hle;refine⟨.agg ((cs.drop off).take n).toArray,?_,?_⟩
  .simp only[execOp,hv,<-oR];simp[uV (P:=P) (k:=off) (n:=n) (cs:=cs) hn (by omega) hc]
  .simp only[R];exact⟨_,rfl,Ii hone,Rz off n wL⟩
theorem KZ(t:TypeId)(x:Operand){i bU idx off:Nat}{ob:aN}{e:List AV}{y:AV}(hx:s.ev x= .ptr i bU idx off)(ho:AV.isObj s.o i bU=some ob)(he:ob.dO[idx]? =some e)
  (hn:oD P t=true) (hy:(xO (EE i) true e)[off]? =some y):Step P B ⟨dst,.load t x,ty,pos,after,gd⟩ s (s.put dst y):=
 dV λG a w r=>by obtain⟨g,b,f,hl,hlive,ha,hv⟩:=r.ptr hx ho;obtain⟨b',f',cs,wW,hcn,hc,hone,wL⟩:=r.elem hl hlive he;rw[ha]at wW;simp only[eE,pN,sY]at wW;obtain⟨rfl,rfl⟩:=wW;obtain⟨v,hv',hR⟩:=JJ wL hy;refine⟨v,?_,hR⟩;simp only[execOp,hv,<-oR];simp[yE (P:=P) hn hv' hc]
theorem eB.eU{G:List CO}{a:Act}{w:World}(r:eB B s G a w){x:Operand}{g:Tg}{c:List AV}{off:Nat}(hx:s.ev x= .eU g c off)(hf:(AV.eU g c off).fit s.o=true):
  ∃b o cs,a.eval x= .pointer (some ⟨b,o+off,none⟩)/\bK w b o cs/\(∀x∈cs,x.oneCell'=true)/\Rc w (env B s.o G w) c cs []:=by
 have h:=r.ev x;rw[hx]at h;simp only[R]at h;rcases h with⟨hd,_⟩|⟨_,b,o,cs,hv,ht,hcs,hc,hr⟩
 .cases g with
  |own=>exact hd.elim
  |view=>exact hd.elim
  |kH i=>simp only[AV.fit]at hf;exfalso;refine hd (λob vZ=> ?_);simpa [vZ]using hf
 .refine ⟨b,o,cs,hv,hcs,hc,dU (w':=w) (E':=env B s.o G w) ?_ _ _ _ (by simp) hr⟩;cases g with
  |own=>exact ht.elim
  |view=>exact⟨λ_ h=>⟨h,rfl⟩,λ_ _=>trivial,λ_ _ _ h=>h.elim,λ_ _ _ h=>h.elim,λ_ _ _ _ _ h=>h.elim⟩
  |kH i=>exact⟨λ_ h=>⟨h,rfl⟩,λ_ _=>trivial,λj b _ h=>⟨by obtain⟨rfl,h⟩:=h;exact h,rfl⟩,λ_ _ _ h=>h.elim,λ_ _ _ _ _ h=>h.elim⟩
theorem JM(t:TypeId)(x:Operand){g:Tg}{c:List AV}{off n:Nat}(hx:s.ev x= .eU g c off)(hf:(AV.eU g c off).fit s.o=true)
  (hn:kJ P t=some n) (hfit:off+n<=c.length):Step P B ⟨dst,.load t x,ty,pos,after,gd⟩ s (s.put dst (.agg (c.drop off |>.take n))):=
 dV λG a w r=>by
  obtain⟨b,o,cs,hv,hc,hone,wL⟩:=r.eU hx hf;have hle:=gG wL;refine⟨.agg ((cs.drop off).take n).toArray,?_,?_⟩
  .simp only[execOp,hv];simp[uV (P:=P) (k:=off) (n:=n) (cs:=cs) hn (by omega) hc]
  .simp only[R];exact⟨_,rfl,Ii hone,Rz off n wL⟩
theorem JN(t:TypeId)(x:Operand){g:Tg}{c:List AV}{off:Nat}{y:AV}(hx:s.ev x= .eU g c off)(hf:(AV.eU g c off).fit s.o=true)
  (hn:oD P t=true) (hy:c[off]? =some y):Step P B ⟨dst,.load t x,ty,pos,after,gd⟩ s (s.put dst y):=
 dV λG a w r=>by obtain⟨b,o,cs,hv,hc,hone,wL⟩:=r.eU hx hf;obtain⟨v,hv',hR⟩:=JJ wL hy;refine⟨v,?_,hR⟩;simp only[execOp,hv];simp[yE (P:=P) hn hv' hc]
theorem OW{t:TypeId}{f fo:Nat}(h:Np P t f=some fo)(w:World)(b o:Nat):(Instr.fieldAt t (.pointer (some ⟨b,o,none⟩)) f).run P w= .ok (.pointer (some ⟨b,o+fo,none⟩)) w:=by
 unfold Np at h;split at h
 .rename_i fs hu;split at h
  .rename_i fd hfd;split at h
   .rename_i inf hi;split at h
    .cases h
    .rename_i hz;obtain rfl:=cQ h;simp[Instr.fieldAt,gC hu,hfd,Instr.sureAddr,fieldPlace,sizeOf,typeInfo,hi,hz,addr_add]
   .cases h
  .cases h
 .cases h
theorem RA(t:TypeId)(x:Operand)(f:Nat){i bU idx off fo:Nat}{ob:aN}(hx:s.ev x= .ptr i bU idx off)(ho:AV.isObj s.o i bU=some ob)(hf:Np P t f=some fo):
  Step P B ⟨dst,.fieldAddr t x f,ty,pos,after,gd⟩ s (s.put dst (.ptr i bU idx (off+fo))):=
 dV λG a w r=>by
  obtain⟨g,b,k,hl,hlive,ha,hv⟩:=r.ptr hx ho;refine⟨.pointer (some ⟨b,k+(idx*ob.n+(off+fo)),none⟩),?_,?_⟩
  .simp only[execOp,hv];simp[OW hf,oR]
  .simp only[R];obtain⟨h1,h2,h3⟩:=lI ho;refine⟨trivial,ob,g,hl,DA h3.symm,λ_ _=>⟨b,k,ha,rfl⟩,λe1 e2 e3 e4 y hy=> ?_⟩;have h0:off=0:=by omega
   have h0':fo=0:=by omega
   have:=r.pin hx ho hl e1 e2 e3 h0 y hy;exact⟨by rw[<-this.1,hv,h0,h0'],this.2⟩
theorem Qi(t:TypeId)(x:Operand)(f:Nat){g:Tg}{c:List AV}{off fo:Nat}(hx:s.ev x= .eU g c off)(hfit:(AV.eU g c off).fit s.o=true)(hf:Np P t f=some fo):
  Step P B ⟨dst,.fieldAddr t x f,ty,pos,after,gd⟩ s (s.put dst (.eU g c (off+fo))):=
 dV λG a w r=>by
  obtain⟨b,o,cs,hv,hc,hone,wL⟩:=r.eU hx hfit;refine⟨.pointer (some ⟨b,o+(off+fo),none⟩),?_,?_⟩
  .simp only[execOp,hv];simp[OW hf,oR]
  .have h:=r.ev x;rw[hx]at h;simp only[R]at h⊢;rcases h with h|⟨h1,b',o',cs',hv',ht,hcs,hc',hr⟩
   .exact .inl ⟨h.1,trivial⟩
   .rw [hv]at hv';simp only[DO,eE,pN,sY]at hv';refine .inr ⟨trivial,b',o',cs',?_,ht,hcs,hc',hr⟩;obtain⟨rfl,h2⟩:=hv';simp only[DO,eE,pN,sY,true_and];omega
def Rv(w:World)(E:Env):List (List AV)->List Value->Nat->List Nat->Prop
 |[],vs,_,fp=>vs=[]/\fp=[]
 |e::es,vs,n,fp=>∃cs rest f1 f2,vs=cs++rest/\cs.length=n/\(∀x∈cs,x.oneCell'=true)/\Rc w E e cs f1/\Rv w E es rest n f2/\fp=f1++f2
theorem bK.append{w:World}{b off:Nat}{c1 c2:List Value}:bK w b off (c1++c2)↔bK w b off c1/\bK w b (off+c1.length) c2:=by
 constructor
 .intro h;refine⟨λj v hv=>h j v ?_,λj v hv=> ?_⟩
  .rw [pS (cH.1 hv).1];exact hv
  .have:=h (c1.length+j) v (by rw[kO (by omega)];simpa using hv)
   rwa[<-oR]at this
 .rintro ⟨h1,h2⟩ j v hv;by_cases hj:j<c1.length
  .rw [pS hj]at hv;exact h1 j v hv
  .rw [kO (by omega)]at hv;have:=h2 _ v hv
   rwa[show off+c1.length+(j-c1.length)=off+j by omega]at this
theorem qD{w:World}{E:Env}{b n:Nat}:∀{l:List (List AV)} {off:Nat} {fp:List Nat},Rr w E l b off n fp↔∃vs,Rv w E l vs n fp/\bK w b off vs
 |[],off,fp=>by simp only[Rr,Rv];exact⟨λh=>⟨[],⟨rfl,h⟩,λj v hv=>by simp at hv⟩,λ⟨_,h,_⟩=>h.2⟩
 |e::es,off,fp=>by
  simp only[Rr,Rv,qD (l:=es)];constructor
  .rintro ⟨cs,f1,f2,hn,hc,ho,h1,⟨vs,h2,h3⟩,rfl⟩;refine⟨cs++vs,⟨cs,vs,f1,f2,rfl,hn,ho,h1,h2,rfl⟩,bK.append.2 ⟨hc,by rw[hn];exact h3⟩⟩
  .rintro ⟨_,⟨cs,vs,f1,f2,rfl,hn,ho,h1,h2,rfl⟩,h3⟩;have:=bK.append.1 h3;exact⟨cs,f1,f2,hn,this.1,ho,h1,⟨vs,h2,by rw[<-hn];exact this.2⟩,rfl⟩
theorem jX{w:World}{E:Env}{n:Nat}:∀{l:List (List AV)} {vs:List Value} {fp:List Nat},Rv w E l vs n fp->vs.length=l.length*n
 |[],_,_,h=>by simp only[Rv]at h;simp[h.1]
 |_::es,_,_,h=>by simp only[Rv]at h;obtain⟨cs,rest,f1,f2,rfl,hn,_,_,h2,_⟩:=h;simp[jX h2,hn,rB,Nat.add_comm]
theorem RB{w:World}{E:Env}{n:Nat}:∀{l:List (List AV)} {vs:List Value} {fp:List Nat},Rv w E l vs n fp->∀x∈vs,x.oneCell'=true
 |[],_,_,h,x,hx=>by simp only[Rv]at h;simp[h.1]at hx
 |_::es,_,_,h,x,hx=>by
  simp only[Rv]at h;obtain⟨cs,rest,f1,f2,rfl,_,ho,_,h2,_⟩:=h;rcases eW.1 hx with h|h
  .exact ho x h
  .exact RB h2 x h
theorem BF{w:World}{E:Env}{n:Nat}{l2:List (List AV)}{v2:List Value}{g2:List Nat}(h':Rv w E l2 v2 n g2):∀{l:List (List AV)} {vs:List Value} {fp:List Nat},Rv w E l vs n fp->Rv w E (l++l2) (vs++v2) n (fp++g2)
 |[],_,_,h=>by simp only[Rv]at h;obtain⟨rfl,rfl⟩:=h;simpa using h'
 |_::es,_,_,h=>by simp only[Rv]at h;obtain⟨cs,rest,f1,f2,rfl,hn,ho,h1,h2,rfl⟩:=h;simp only[eA,Rv];exact⟨cs,rest++v2,f1,f2++g2,by simp,hn,ho,h1,BF h' h2,by simp⟩
theorem wQ{w w':World}{E E':Env}(k:eO w E w' E'){n:Nat}:∀{l:List (List AV)} {vs:List Value} {fp:List Nat},(∀b∈fp,w'.heap[b]? =w.heap[b]?)->Rv w E l vs n fp->Rv w' E' l vs n fp
 |[],_,_,_,h=>by simpa [Rv]using h
 |_::es,_,_,hf,h=>by simp only[Rv]at h⊢;obtain⟨cs,rest,f1,f2,rfl,hn,ho,h1,h2,rfl⟩:=h;exact⟨cs,rest,f1,f2,rfl,hn,ho,dU k _ _ _ (λx hx=>hf x (by simp[hx])) h1,wQ k (λx hx=>hf x (by simp[hx])) h2,rfl⟩
theorem JO{P:Program}{w:World}{tS xT ty e:TypeId}{i:TypeInfo}{z:Value}(ht:P.underlying tS=some (.slice e))(hxt:∃d,P.underlying xT=some d/\∀k,d≠ .int k)(hi:P.info? e=some i)(hz:i.zero=some z)
  {base:Option Addr} {sLen sCap n:Nat} {x:Value} (hlen:(Builtin.lenOf x).run P w= .ok n w) {news olds:List Value}
  (Gi:∀w',w'.heap=w.heap->(Builtin.firstCells i.size n x).run P w'= .ok news.toArray w')
  (holds:∀w',w'.heap=w.heap->(Builtin.firstCells i.size sLen (.slice base sLen sCap)).run P w'= .ok olds.toArray w')
  (hbytes:(sLen+n)*i.bytes<=140737488355328) (h63:sLen+n<=9223372036854775807):
  (sLen+n<=sCap->∀w1,(match base with
    |some a=>(storeCells (a.add (sLen*i.size)) news).run P w= .ok () w1
    |none=>w1=w)->(Builtin.append_ #[tS,xT] ty #[.slice base sLen sCap,x]).run P w= .ok (.slice base (sLen+n) sCap) w1)/\
  (sCap<sLen+n->(Builtin.append_ #[tS,xT] ty #[.slice base sLen sCap,x]).run P w=
   .ok (.slice (some ⟨w.heap.size,0,none⟩) (sLen+n) (grownCap w (sLen+n) sCap e)) (w.drew.alloc (.cells (olds.toArray++news.toArray++Builtin.zeroCells z.cells (grownCap w (sLen+n) sCap e-(sLen+n))) e))):=by
 obtain⟨d,hd,hdi⟩:=hxt;constructor
 .intro hroom w1 h1;have hn:=Gi w rfl;cases base with
  |none=>simp only at h1;subst h1;simp[Builtin.append_,gC ht,gC hd,sizeOf,typeInfo,hi,hlen,hroom,hn]
  |some a=>simp only at h1;simp[Builtin.append_,gC ht,gC hd,sizeOf,typeInfo,hi,hlen,hroom,hn,h1]
 .intro hg;have hnr:¬(sLen+n<=sCap):=by omega
  have aUy:¬(9223372036854775807<((sLen:Int)+(n:Int))):=by omega
  have hfit:=growslice_fits hg hbytes;have aUz:¬(281474976710656<Builtin.nextslicecap (sLen+n) sCap*i.bytes):=by omega
  have hn:=Gi w.drew rfl;have ho:=holds w.drew rfl;simp[Builtin.append_,gC ht,gC hd,sizeOf,typeInfo,zeroValue,hi,hz,hlen,hnr,aUy,aUz,Question.forced,hn,ho,newRow,grownCap];rw[<-append_toArray,Array.append_assoc]
def aN.kill(ob:aN):aN:={ob with live:=false}
theorem eB.RD{P:Program}[aB P]{B:gN P}{s:AS}{G:List CO}{a:Act}{w:World}(r:eB B s G a w){i j:Nat}(hij:i≠j){oi oj:aN}{gi gj:CO}(hi:Aw.look s.o G i oi gi)(hj:Aw.look s.o G j oj gj)(hil:oi.live=true)(hjl:oj.live=true):
  eB B ⟨s.t,s.o.set j oj.kill⟩ (G.set i {gi with F:=λb=>gi.F b\/gj.F b}) a w/\eO w (env B s.o G w) w (env B (s.o.set j oj.kill) (G.set i {gi with F:=λb=>gi.F b\/gj.F b}) w):=by
 have hii:Aw.look (s.o.set j oj.kill) (G.set i {gi with F:=λb=>gi.F b\/gj.F b}) i oi {gi with F:=λb=>gi.F b\/gj.F b}:=by refine⟨by rw[lO (wA hij)];exact hi.1,?_⟩;have:=(cH.1 hi.2).1;simp[this]
 have hjj:Aw.look (s.o.set j oj.kill) (G.set i {gi with F:=λb=>gi.F b\/gj.F b}) j oj.kill gj:=by refine⟨?_,by rw[lO hij];exact hj.2⟩;have:=(cH.1 hj.1).1;simp[this]
 have back:∀{k x y},Aw.look (s.o.set j oj.kill) (G.set i {gi with F:=λb=>gi.F b\/gj.F b}) k x y->x.live=true->
   k≠j/\((k=i/\x=oi/\y={gi with F:=λb=>gi.F b\/gj.F b})\/(k≠i/\Aw.look s.o G k x y)):=by
  intro k x y h hx;by_cases hk:k=j
  .subst hk;have:=(lM h hjj).1;subst this;exact absurd hx (by simp[aN.kill])
  .refine ⟨hk,?_⟩;by_cases hki:k=i
   .subst hki;exact .inl ⟨rfl,lM h hii⟩
   .refine .inr ⟨hki,?_,?_⟩
    .have:=h.1;rwa[lO (wA hk)]at this
    .have:=h.2;rwa[lO (wA hki)]at this
 have fwd:∀{k x y},k≠i->k≠j->Aw.look s.o G k x y->Aw.look (s.o.set j oj.kill) (G.set i {gi with F:=λb=>gi.F b\/gj.F b}) k x y:=by intro k x y h1 h2 h;exact⟨by rw[lO (wA h2)];exact h.1,by rw[lO (wA h1)];exact h.2⟩
 have k:eO w (env B s.o G w) w (env B (s.o.set j oj.kill) (G.set i {gi with F:=λb=>gi.F b\/gj.F b}) w):=by
  refine DU (eC _) (λb hb=>⟨xB r hb,rfl⟩) r.len ?_ ?_
  .intro k x y h;by_cases hk:k=j
   .subst hk;obtain⟨rfl,rfl⟩:=lM hj h;exact⟨_,_,hjj,eC _,λh=> .inl h,λhf=>absurd hf (by simp[aN.kill])⟩
   .by_cases hki:k=i
    .subst hki;obtain⟨rfl,rfl⟩:=lM hi h;exact⟨_,_,hii,eC _,λh=> .inl h,λ_=>⟨hil,rfl,λ_=>⟨rfl,rfl,rfl⟩,λb hb hne=>⟨.inl hb,hne,rfl⟩⟩⟩
    .exact ⟨x,y,fwd hki hk h,eC _,λh=> .inl h,λhx=>⟨hx,rfl,λ_=>⟨rfl,rfl,rfl⟩,λb hb hne=>⟨hb,hne,rfl⟩⟩⟩
  .intro k x y b h hx hf;obtain⟨_,⟨rfl,rfl,rfl⟩|⟨_,h'⟩⟩:=back h hx
   .rcases hf with hf|hf
    .exact .inr ⟨_,_,_,hi,hil,hf⟩
    .exact .inr ⟨_,_,_,hj,hjl,hf⟩
   .exact .inr ⟨_,_,_,h',hx,hf⟩
 refine⟨r.next k (by simp[r.len]) ?_ ?_ ?_ (eC _) (λ_ _ _=>rfl),k⟩
 .intro k' x y h hx;obtain⟨_,⟨rfl,rfl,rfl⟩|⟨_,h'⟩⟩:=back h hx
  .obtain ⟨fp,h1,h2,h3⟩:=(r.ok _ _ _ hi hil).keeps k (λ_ _=>rfl)
   exact⟨fp,h1,h2,λb hb=> .inl (h3 b hb)⟩
  .exact (r.ok _ _ _ h' hx).keeps k (λ_ _=>rfl)
 .intro k1 k2 x1 x2 y1 y2 b h1 h2 hx1 hx2 hf1 hf2;obtain⟨n1,⟨rfl,rfl,rfl⟩|⟨m1,h1'⟩⟩:=back h1 hx1<;>obtain⟨n2,⟨rfl,rfl,rfl⟩|⟨m2,h2'⟩⟩:=back h2 hx2
  .rfl
  .rcases hf1 with hf1|hf1
   .exact r.apart _ _ _ _ _ _ b hi h2' hil hx2 hf1 hf2
   .exact absurd (r.apart _ _ _ _ _ _ b hj h2' hjl hx2 hf1 hf2).symm n2
  .rcases hf2 with hf2|hf2
   .exact r.apart _ _ _ _ _ _ b h1' hi hx1 hil hf1 hf2
   .exact absurd (r.apart _ _ _ _ _ _ b h1' hj hx1 hjl hf1 hf2) n1
  .exact r.apart _ _ _ _ _ _ b h1' h2' hx1 hx2 hf1 hf2
 .intro k' x y b h hx hf;obtain⟨_,⟨rfl,rfl,rfl⟩|⟨_,h'⟩⟩:=back h hx
  .rcases hf with hf|hf
   .exact r.fresh _ _ _ b hi hil hf
   .exact r.fresh _ _ _ b hj hjl hf
  .exact r.fresh _ _ _ b h' hx hf
theorem pO{w:World}{b off:Nat}{C:Array Value}{e:TypeId}{fz:Nat×Nat}{vs:List Value}(hb:w.heap[b]? =some (.cells C e fz))(h:∀j v,vs[j]? =some v->C[off+j]? =some v):bK w b off vs:=by intro j v hv;simp[World.cell?,hb,h j v hv]
theorem kR{P:Program}{w:World}{b off m n len cap:Nat}{vs:List Value}(hn:vs.length=m*n)(h:bK w b off vs):
  (Builtin.firstCells n m (.slice (some ⟨b,off,none⟩) len cap)).run P w= .ok vs.toArray w:=
 run_firstCells_some w n m _ len cap vs hn (λj v hv=>by rw[addr_add];exact h j v hv)
theorem bK.heap{w w':World}{b off:Nat}{vs:List Value}(h:bK w b off vs)(hh:w'.heap=w.heap):bK w' b off vs:=h.same (by rw[hh])
theorem eB.append{P:Program}[aB P]{B:gN P}{s:AS}{G:List CO}{a:Act}{w:World}(r:eB B s G a w){i:Nat}{ob:aN}{g:CO}(hl:Aw.look s.o G i ob g)(hlive:ob.live=true)(wB:ob.box=false)
  {tS xT ty e:TypeId} {inf:TypeInfo} {z:Value} (ht:P.underlying tS=some (.slice e)) (hxt:∃d,P.underlying xT=some d/\∀k,d≠ .int k) (hi:P.info? e=some inf) (hz:inf.zero=some z) (hsz:inf.size=ob.n) (hzs:z.cells.size=ob.n)
  {x:Value} {l2:List (List AV)} {news:List Value} {fp fp2:List Nat} (hlen:(Builtin.lenOf x).run P w= .ok l2.length w)
  (Gi:∀w',w'.heap=w.heap->(Builtin.firstCells ob.n l2.length x).run P w'= .ok news.toArray w')
  (OX:Rv w (env B s.o G w).plain l2 news ob.n fp2) (hown:uU w (env B s.o G w).plain ob.n ob.dO g.a g.cap fp) (hnd:(fp++fp2).Nodup) (hF:∀b∈fp++fp2,g.F b)
  (hbytes:(ob.dO.length+l2.length)*inf.bytes<=140737488355328) (h63:ob.dO.length+l2.length<=9223372036854775807):
  ∃v w' G',(Builtin.append_ #[tS,xT] ty #[.slice g.a ob.dO.length g.cap,x]).run P w= .ok v w'/\
   eB B ⟨s.t,s.o.set i {ob with bU:=ob.bU+1,dO:=ob.dO++l2}⟩ G' a w'/\
   R w' (env B (s.o.set i {ob with bU:=ob.bU+1,dO:=ob.dO++l2}) G' w') (.obj i (ob.bU+1)) v []:=by
 obtain⟨olds,hro,hold⟩:∃olds,Rv w (env B s.o G w).plain ob.dO olds ob.n fp.tail/\
   ∀w',w'.heap=w.heap->(Builtin.firstCells inf.size ob.dO.length (.slice g.a ob.dO.length g.cap)).run P w'= .ok olds.toArray w':=by
  rcases hown.2 with⟨h1,h2,h3⟩|⟨b,off,C,ety,fz,qN,ha,hb,hz',h1,h2,h3,rfl,hr⟩
  .subst h3;refine⟨[],by simp[h1,Rv],λw' hw'=> ?_⟩;rw[h1];cases hga:g.a with
   |none=>simp[Builtin.firstCells]
   |some a'=>simp[Builtin.firstCells,loadCells,loadCellsFrom]
  .obtain ⟨vs,hv,hc⟩:=qD.1 hr;refine⟨vs,hv,λw' hw'=> ?_⟩;rw[ha,hsz];exact kR (jX hv) (hc.heap hw')
 obtain⟨hroom,aD4⟩:=JO (P:=P) (w:=w) (tS:=tS) (xT:=xT) (ty:=ty) ht hxt hi hz (base:=g.a) (sLen:=ob.dO.length) (sCap:=g.cap) (x:=x) hlen (by rw[hsz];exact Gi) hold hbytes h63;have hR:∀{w':World} {G':List CO} {g':CO},G'[i]? =some g'->(s.o[i]? =some ob)->R w' (env B (s.o.set i {ob with bU:=ob.bU+1,dO:=ob.dO++l2}) G' w') (.obj i (ob.bU+1)) (.slice g'.a (ob.dO.length+l2.length) g'.cap) []:=by intro w' G' g' hg' ho;simp only[R];refine⟨trivial,{ob with bU:=ob.bU+1,dO:=ob.dO++l2},g',⟨?_,hg'⟩,eC _,⟨λ_ _=>by simp,λh=>by omega⟩⟩;have:=(cH.1 ho).1;simp[this]
 have hiG:i<G.length:=(cH.1 hl.2).1;by_cases hcase:ob.dO.length+l2.length<=g.cap
 .-- in place
  rcases hown.2 with⟨h1,h2,h3⟩|⟨b,off,C,ety,fz,qN,ha,hb,hz',h1,h2,h3,rfl,hr⟩
  .-- nothing to append,no aRr
   have hl2:l2=[]:=hS (by omega);subst hl2;have hnw:news=[]:=hS (by simpa using jX OX);subst hnw;have hrun:=hroom hcase w (by cases g.a<;>simp[storeCells]);have hm:=r.modify hl hlive {ob with bU:=ob.bU+1,dO:=ob.dO++[]} g w (by simp) rfl (by simp) (λb hb=> .inl hb) (λb hb hne=>⟨hb,hne⟩) (λ_ _ _=>rfl) (eC _) (λk _=>by
    refine⟨fp,?_,(gO.1 hnd).1,λb hb=>hF b (by simp[hb])⟩;generalize env B (s.o.set i {ob with bU:=ob.bU+1,dO:=ob.dO++[]}) (G.set i g) w=E' at k⊢;have h5:=hown.keeps k.plain (λ_ _=>rfl);simpa [wB,Env.of]using h5)
   refine⟨_,w,_,hrun,hm.1,?_⟩;exact hR (by simp[hiG]) hl.1
  .have hnl:=jX OX;have hol:=jX hro;have hfit:off+ob.dO.length*ob.n+news.length<=C.size:=by rw[hnl,oR,<-rB];exact lB (Nat.add_le_add_left (lE _ hcase) _) h1
   have hst:=uM (P:=P) hb hz' hfit (RB OX);have hrun:=hroom hcase (w.setCells b (off+ob.dO.length*ob.n) news) (by rw[ha,hsz];simpa [addr_add]using hst);have WV:g.F b:=hF b (by simp);have EG:∀b',b'≠b->(w.setCells b (off+ob.dO.length*ob.n) news).heap[b']? =w.heap[b']?:=λb' hne=>mF b b' hne _ _ _
   obtain⟨C',hC',hCs⟩:=jT b ety fz news (off+ob.dO.length*ob.n) w C hb;have hm:=r.modify hl hlive {ob with bU:=ob.bU+1,dO:=ob.dO++l2} g (w.setCells b (off+ob.dO.length*ob.n) news) (by simp) rfl (by simp) (λb hb=> .inl hb) (λb hb hne=>⟨hb,hne⟩)
    (λb' hlt hne=>EG b' (λe=>hne ⟨e▸WV,⟨b,off,none⟩,ha,e⟩)) (by rw[gX];exact eC _) (λk _=>by
    have hnd':(b::qN++fp2).Nodup:=hnd;simp only[eA,lR,eW,not_or]at hnd';refine⟨b::(qN++fp2),?_,by simpa using hnd,λb' hb'=>hF b' (by simpa using hb')⟩;generalize env B (s.o.set i {ob with bU:=ob.bU+1,dO:=ob.dO++l2}) (G.set i g) (w.setCells b (off+ob.dO.length*ob.n) news)=E' at k⊢;simp only[wB,Env.of,eS,hM];refine⟨by simp[maxLen];omega,.inr ⟨b,off,C',ety,fz,qN++fp2,ha,hC',by rw[hCs];exact hz',by rw[hCs];exact h1,by simpa using hcase,h3,rfl,?_⟩⟩;refine qD.2 ⟨olds++news,?_,bK.append.2 ⟨?_,?_⟩⟩
    .refine BF (wQ k.plain (λb' hb'=>EG b' (λe=>hnd'.1.2 (e▸hb'))) OX) (wQ k.plain (λb' hb'=>EG b' (λe=>hnd'.1.1 (e▸hb'))) hro)
    .obtain ⟨vs,hv,hc⟩:=qD.1 hr;have hov:olds=vs:=by have e1:=hold w rfl;rw[ha,hsz,kR (jX hv) hc]at e1;simpa using e1.symm
     subst hov;intro j v hv;rw[By]
     .exact hc j v hv
     .intro _ _;have:j<olds.length:=(cH.1 hv).1;left;simp only;omega
    .intro j v hv;have hj:j<news.length:=(cH.1 hv).1;rw[hol];have:=Cd b news (off+ob.dO.length*ob.n) w (λj hj=>by
      have:off+ob.dO.length*ob.n+j<C.size:=by omega
      simp[World.cell?,hb,this]) j hj
     rw[this];rw[aE hj]at hv;exact hv)
   refine⟨_,_,_,hrun,hm.1,?_⟩;exact hR (by simp[hiG]) hl.1
 .-- a new array
  have hrun:=aD4 (by omega);generalize hcap:grownCap w (ob.dO.length+l2.length) g.cap e=cap' at hrun;have aU0:ob.dO.length+l2.length<=cap':=by rw[<-hcap];exact grownCap_ge _ _ _ _
  have aU1:cap'<=maxLen:=by rw[<-hcap];exact EV _ _ _ _ (by simp[maxLen];omega)
  generalize hCd:olds.toArray++news.toArray++Builtin.zeroCells z.cells (cap'-(ob.dO.length+l2.length))=C at hrun;have oF:∀b',b'<w.heap.size->(w.drew.alloc (.cells C e)).heap[b']? =w.heap[b']?:=λb' hlt=>heap_alloc w.drew _ b' hlt
  have hself:(w.drew.alloc (.cells C e)).heap[w.heap.size]? =some (.cells C e):=fO w.drew _;have hol:=jX hro;have hnl:=jX OX;have aU2:C.size=cap'*ob.n:=by rw[<-hCd];simp only[FA,DB,size_zeroCells,hzs,hol,hnl,<-rB];congr 1;omega
  have hm:=r.modify hl hlive {ob with bU:=ob.bU+1,dO:=ob.dO++l2} ⟨some ⟨w.heap.size,0,none⟩,cap',λb=>g.F b\/b=w.heap.size⟩ (w.drew.alloc (.cells C e)) (by simp) rfl (by simp)
   (λb hb=>by
    rcases hb with hb|hb
    .exact .inl hb
    .right;subst hb;simp) (λb hb hne=>⟨.inl hb,λa' wW=>by
     obtain rfl:=cQ wW;have:=(r.fresh _ _ _ b hl hlive hb).2;simp only;omega⟩) (λb hlt _=>oF b hlt) (by simp) (λk _=>by
   have aNy:∀b∈fp++fp2,b<w.heap.size:=λb hb=>(r.fresh _ _ _ b hl hlive (hF b hb)).2
   have hsub:∀b∈fp.tail,b∈fp:=λb hb=>mem_of_mem_tail hb
   have aRu:(fp.tail++fp2).Nodup:=by
    cases fp with
    |nil=>exact hnd
    |cons c t=>simp only[eA,lR]at hnd;exact hnd.2
   refine⟨w.heap.size::(fp.tail++fp2),?_,?_,?_⟩
   .generalize env B (s.o.set i {ob with bU:=ob.bU+1,dO:=ob.dO++l2}) (G.set i ⟨some ⟨w.heap.size,0,none⟩,cap',λb=>g.F b\/b=w.heap.size⟩) (w.drew.alloc (.cells C e))=E' at k⊢
    simp only[wB,Env.of,eS,hM];refine⟨by simp[maxLen];omega,.inr ⟨w.heap.size,0,C,e,(0,0),_,rfl,hself,.inr rfl,by simp[aU2],by simpa using aU0,aU1,rfl,?_⟩⟩;refine qD.2 ⟨olds++news,BF (wQ k.plain (λb' hb'=>oF b' (aNy b' (by simp[hb']))) OX) (wQ k.plain (λb' hb'=>oF b' (aNy b' (oE _ (hsub b' hb')))) hro),?_⟩;refine pO hself (λj v hv=> ?_);rw[<-hCd,show olds.toArray++news.toArray=(olds++news).toArray by simp,hY,rN (by simpa using(cH.1 hv).1)];simpa using hv
   .rw [lR];refine⟨λhmem=> ?_,aRu⟩;have:w.heap.size<w.heap.size:=aNy _ (by
     rcases eW.1 hmem with h|h
     .exact oE _ (hsub _ h)
     .exact tG _ h)
    omega
   .intro b hb;rcases gS.1 hb with rfl|hb
    .exact .inr rfl
    .left;rcases eW.1 hb with h|h
     .exact hF b (oE _ (hsub _ h))
     .exact hF b (tG _ h))
  refine⟨_,_,_,hrun,hm.1,?_⟩;exact hR (g':=⟨some ⟨w.heap.size,0,none⟩,cap',λb=>g.F b\/b=w.heap.size⟩) (by simp[hiG]) hl.1
mutual
def res(o:List aN):AV->AV
 | .obj i bU=>match AV.isObj o i bU with
  |some ob=> .sl .own ob.n ob.dO
  |none=> .undef
 | .agg c=> .agg (vD o c)
 | .gM c=> .gM (vD o c)
 | .int k n=> .int k n
 | .bool b=> .bool b
 | .str s=> .str s
 | .sl g n l=> .sl g n l
 | .eU g c off=> .eU g c off
 | .ptr i v j k=> .ptr i v j k
 | .fn f c=> .fn f c
 | .undef=> .undef
def vD(o:List aN):List AV->List AV
 |[]=>[]
 |x::xs=>res o x::vD o xs
end
mutual
def mE:AV->List Nat
 | .obj i _=>[i]
 | .agg c=>kK c
 | .gM c=>kK c
 |_=>[]
def kK:List AV->List Nat
 |[]=>[]
 |x::xs=>mE x++kK xs
end
mutual
def jO(o:List aN):AV->Bool
 | .obj i bU=>match AV.isObj o i bU with
  |some ob=> !ob.box
  |none=>false
 | .agg c=>nK o c
 | .gM c=>nK o c
 | .int _ _=>true
 | .bool _=>true
 | .str _=>true
 | .sl (.kH _) _ _=>false
 | .sl _ _ _=>true
 | .eU .view _ _=>true
 | .fn _ []=>true
 | .undef=>true
 |_=>false
def nK(o:List aN):List AV->Bool
 |[]=>true
 |x::xs=>jO o x&&nK o xs
end
def Of(o:List aN)(G:List CO)(u:List Nat)(b:Nat):Prop:=∃i ob g,i∈u/\look o G i ob g/\ob.live=true/\g.F b
mutual
theorem La{P:Program}[aB P]{B:gN P}{s:AS}{G:List CO}{a:Act}{w:World}(r:eB B s G a w):∀(av:AV) (v:Value),jO s.o av=true->(mE av).Nodup->R w (env B s.o G w) av v []->
  ∃fp,R w (env B s.o G w).plain (res s.o av) v fp/\fp.Nodup/\∀b∈fp,Of s.o G (mE av) b
 | .obj i bU,v,ho,_,h=>by
  cases vZ:AV.isObj s.o i bU with
  |none=>simp[jO,vZ]at ho
  |some ob=>
   simp only[jO,vZ]at ho;simp only[res,vZ];simp only[R]at h;obtain⟨_,fF,g,hl,_,hh,_⟩:=h;obtain⟨h1,h2,h3⟩:=lI vZ;obtain rfl:=cQ (hl.1.symm.trans h1);have hv:=hh h2 h3;obtain⟨fp,hown,hnd,hF⟩:=r.ok i _ g hl h2;have hb:fF.box=false:=by simpa using ho
   rw[hb]at hown;exact⟨fp,pM.2 ⟨g.a,g.cap,hv,hown⟩,hnd,λb hb=>⟨i,_,g,by simp[mE],hl,h2,hF b hb⟩⟩
 | .agg c,v,ho,hu,h=>by simp only[R]at h;obtain⟨cs,rfl,hone,hr⟩:=h;obtain⟨fp,h1,h2,h3⟩:=JP r c cs (by simpa [jO]using ho) (by simpa [mE]using hu) hr;exact⟨fp,by simp only[res,R];exact⟨cs,rfl,hone,h1⟩,h2,by simpa [mE]using h3⟩
 | .gM c,v,ho,hu,h=>by simp only[R]at h;obtain⟨cs,rfl,hr⟩:=h;obtain⟨fp,h1,h2,h3⟩:=JP r c cs (by simpa [jO]using ho) (by simpa [mE]using hu) hr;exact⟨fp,by simp only[res,R];exact⟨cs,rfl,h1⟩,h2,by simpa [mE]using h3⟩
 | .int k n,v,_,_,h=>⟨[],by simpa [res,R]using h,by simp,by simp⟩
 | .bool b,v,_,_,h=>⟨[],by simpa [res,R]using h,by simp,by simp⟩
 | .str x,v,_,_,h=>⟨[],by simpa [res,R]using h,by simp,by simp⟩
 | .sl .own n l,v,_,_,h=>⟨[],by simp only[res];rw[pM]at h⊢;exact h,by simp,by simp⟩
 | .sl .view n l,v,_,_,h=>⟨[],by simp only[res,R]at h⊢;exact h,by simp,by simp⟩
 | .sl (.kH i) n l,v,ho,_,h=>by simp[jO]at ho
 | .eU .view c off,v,_,_,h=>⟨[],by simp only[res,R]at h⊢;exact h,by simp,by simp⟩
 | .eU .own c off,v,ho,_,h=>by simp[jO]at ho
 | .eU (.kH _) c off,v,ho,_,h=>by simp[jO]at ho
 | .ptr _ _ _ _,v,ho,_,h=>by simp[jO]at ho
 | .fn f [],v,_,_,h=>⟨[],by simp only[res,R]at h⊢;obtain⟨h1,cs,h2,h3⟩:=h;refine⟨trivial,cs,h2,?_⟩;cases cs<;>simp_all[Rc],by simp,by simp⟩
 | .fn f (_::_),v,ho,_,h=>by simp[jO]at ho
 | .undef,v,_,_,h=>⟨[],by simp[res,R],by simp,by simp⟩
theorem JP{P:Program}[aB P]{B:gN P}{s:AS}{G:List CO}{a:Act}{w:World}(r:eB B s G a w):∀(c:List AV) (cs:List Value),nK s.o c=true->(kK c).Nodup->Rc w (env B s.o G w) c cs []->
  ∃fp,Rc w (env B s.o G w).plain (vD s.o c) cs fp/\fp.Nodup/\∀b∈fp,Of s.o G (kK c) b
 |[],[],_,_,_=>⟨[],by simp[vD,Rc],by simp,by simp⟩
 |[],_::_,_,_,h=>by simp[Rc]at h
 |_::_,[],_,_,h=>by simp[Rc]at h
 |x::xs,c::cs,ho,hu,h=>by
  simp only[Rc]at h;obtain⟨g1,g2,h1,h2,e⟩:=h;obtain⟨rfl,rfl⟩:g1=[]/\g2=[]:=by simpa using e
  simp only[nK,eI]at ho;simp only[kK,gO]at hu;obtain⟨f1,k1,n1,o1⟩:=La r x c ho.1 hu.1 h1;obtain⟨f2,k2,n2,o2⟩:=JP r xs cs ho.2 hu.2.1 h2;refine⟨f1++f2,by simp only[vD,Rc];exact⟨f1,f2,k1,k2,rfl⟩,?_,?_⟩
  .refine gO.2 ⟨n1,n2,λb hb b' hb' e=> ?_⟩
   subst e;obtain⟨i,ob,g,hi,hl,hlive,hF⟩:=o1 b hb;obtain⟨j,fF,g',hj,CQ,yD,hF'⟩:=o2 b hb';exact hu.2.2 i hi j hj (r.apart i j _ _ _ _ b hl CQ hlive yD hF hF')
  .intro b hb;rcases eW.1 hb with hb|hb
   .obtain ⟨i,ob,g,hi,h⟩:=o1 b hb;exact⟨i,ob,g,by simp[kK,hi],h⟩
   .obtain ⟨i,ob,g,hi,h⟩:=o2 b hb;exact⟨i,ob,g,by simp[kK,hi],h⟩
end
def oM(w:World):Env:=⟨λb=>b<w.heap.size,λ_=>True,λ_ _=>False,λ_ _ _=>False,λ_ _ _ _ _=>False⟩
def mJ:Env:=⟨λ_=>False,λ_=>True,λ_ _=>False,λ_ _ _=>False,λ_ _ _ _ _=>False⟩
def BP(n:Nat)(w:World)(fp:List Nat):Env:=⟨λb=>n<=b/\b<w.heap.size/\b∉fp,λ_=>True,λ_ _=>False,λ_ _ _=>False,λ_ _ _ _ _=>False⟩
theorem aBa(n:Nat)(w:World)(fp:List Nat):eO w mJ w (BP n w fp):=
 ⟨λ_ h=>h.elim,λ_ _=>trivial,λ_ _ _ h=>h.elim,λ_ _ _ h=>h.elim,λ_ _ _ _ _ h=>h.elim⟩
theorem aMp{n:Nat}{w:World}{x:AV}{v:Value}{fp:List Nat}(h:R w mJ x v fp):R w (BP n w fp) x v fp:=qK (aBa n w fp) _ _ _ (λ_ _=>rfl) h
def Ok(P:Program)[aB P](f:FuncId)(args:List AV)(r:AV):Prop:=
 ∀(w:World) (vs:List Value),aB.holds P w->Rc w (oM w) args vs []->
  Calls P f vs.toArray w λe w'=>∃v fp,e= .returned v/\R w' (BP w.heap.size w' fp) r v fp/\fp.Nodup/\
   (∀b∈fp,w.heap.size<=b/\b<w'.heap.size)/\w.heap.size<=w'.heap.size/\(∀b,b<w.heap.size->w'.heap[b]? =w.heap[b]?)/\mI w w'
def JQ:Tg->Option Tg
 | .kH _=>none
 |_=>some .view
mutual
def arg(o:List aN):AV->AV
 | .obj i bU=>match AV.isObj o i bU with
  |some ob=>if ob.box then .undef else .sl .view ob.n (mX (λ_=>some .view) false ob.dO)
  |none=> .undef
 | .ptr i bU idx off=>match AV.isObj o i bU with
  |some ob=>match ob.dO[idx]? with
   |some e=> .eU .view (xO JQ false e) off
   |none=> .undef
  |none=> .undef
 | .agg c=> .agg (CK o c)
 | .gM c=> .gM (CK o c)
 | .int k n=> .int k n
 | .bool b=> .bool b
 | .str s=> .str s
 | .sl (.kH i) n l=>match o[i]? with
  |some ob=>if ob.live then .sl .view n (mX (λ_=>some .view) false l)else .undef
  |none=> .undef
 | .sl _ n l=> .sl .view n (mX (λ_=>some .view) false l)
 | .eU (.kH i) c off=>match o[i]? with
  |some ob=>if ob.live then .eU .view (xO (λ_=>some .view) false c) off else .undef
  |none=> .undef
 | .eU _ c off=> .eU .view (xO (λ_=>some .view) false c) off
 | .fn f c=> .fn f (CK o c)
 | .undef=> .undef
def CK(o:List aN):List AV->List AV
 |[]=>[]
 |x::xs=>arg o x::CK o xs
end
theorem RF{P:Program}[aB P]{B:gN P}{s:AS}{G:List CO}{a:Act}{w:World}(r:eB B s G a w)(O:Nat->Prop)(hO:∀b,O b->b<w.heap.size):nG (λ_=>some .view) false (env B s.o G w).plain (oM w) O where
 own t e:=by obtain rfl:=cQ e;exact⟨by simp,λb hb=>hO b hb⟩
 view t e:=by obtain rfl:=cQ e;exact⟨rfl,λb hb=>xB r hb⟩
 kH i t e:=by obtain rfl:=cQ e;exact⟨by simp,.inl trivial,λb hb=>hb.elim⟩
 hh h:=by cases h
 hl h:=by cases h
theorem xu{P:Program}[aB P]{B:gN P}{s:AS}{G:List CO}{a:Act}{w:World}(r:eB B s G a w)(box:Bool)(O:Nat->Prop)(hO:∀b,O b->b<w.heap.size):nG JQ false ((env B s.o G w).of box) (oM w) O where
 own t e:=by obtain rfl:=cQ e;exact⟨by simp,λb hb=>hO b hb⟩
 view t e:=by obtain rfl:=cQ e;exact⟨rfl,λb hb=>xB r (by cases box<;>exact hb)⟩
 kH i t e:=by cases e
 hh h:=by cases h
 hl h:=by cases h
theorem xw{P:Program}[aB P]{B:gN P}{s:AS}{G:List CO}{a:Act}{w:World}(r:eB B s G a w)(g:Tg)(O:Nat->Prop)(hO:∀b,O b->b<w.heap.size):nG (λ_=>some .view) false ((env B s.o G w).sub g) (oM w).plain O:=by
 cases g with
 |own=>exact RF r O hO
 |view=>exact RF r O hO
 |kH i=>exact
  {own:=λt e=>by obtain rfl:=cQ e;exact⟨by simp,λb hb=>hO b hb⟩
   view:=λt e=>by obtain rfl:=cQ e;exact⟨rfl,λb hb=>xB r hb⟩
   kH:=λj t e=>by obtain rfl:=cQ e;refine⟨by simp,.inl trivial,λb hb=> ?_⟩;obtain⟨rfl,ob,g,hl,hlive,hF,_⟩:=hb;exact(r.fresh _ _ _ b hl hlive hF).2
   hh:=λh=>by cases h
   hl:=λh=>by cases h}
theorem aD5{P:Program}[aB P]{B:gN P}{s:AS}{G:List CO}{a:Act}{w:World}(r:eB B s G a w){g:Tg}{b:Nat}(h:(env B s.o G w).tg g b):b<w.heap.size:=by
 cases g with
 |own=>exact h.elim
 |view=>exact xB r h
 |kH i=>obtain⟨ob,g,hl,hlive,hF,_⟩:=h;exact(r.fresh _ _ _ b hl hlive hF).2
theorem Nq{P:Program}[aB P]{B:gN P}{s:AS}{G:List CO}{a:Act}{w:World}(r:eB B s G a w){g:Tg}{n:Nat}{l:List (List AV)}{v:Value}(hd:¬(env B s.o G w).dead g)(h:R w (env B s.o G w) (.sl g n l) v []):
  R w (oM w) (.sl .view n (mX (λ_=>some .view) false l)) v []:=by
 simp only[R,mH]at h⊢;rcases h with h|⟨x,cap,hv,hl,h⟩
 .exact absurd h.1 hd
 refine .inr ⟨x,cap,hv,hl,.inr (.inr ⟨by simp,trivial,?_⟩)⟩;rcases h with⟨_,rfl,_⟩|⟨_,b,off,C,ty,fz,qN,ha,hb,hz,h1,h2,h3,JI,hr⟩|⟨hg,_,h⟩
 .exact .inl rfl
 .cases JI
 .rcases h with rfl|⟨b,off,ha,ht,hr⟩
  .exact .inl rfl
  .exact .inr ⟨b,off,ha,aD5 r ht,Jc (xw r g (λ_=>False) (λ_ h=>h.elim)) _ _ _ _ _ (by simp) hr⟩
mutual
theorem aRv{P:Program}[aB P]{B:gN P}{s:AS}{G:List CO}{a:Act}{w:World}(r:eB B s G a w):∀(av:AV) (v:Value),R w (env B s.o G w) av v []->R w (oM w) (arg s.o av) v []
 | .obj i bU,v,h=>by
  cases vZ:AV.isObj s.o i bU with
  |none=>simp[arg,vZ,R]
  |some ob=>
   simp only[arg,vZ];by_cases hb:ob.box=true
   .simp [hb,R]
   simp only[R]at h;obtain⟨_,fF,g,hl,_,hh,_⟩:=h;obtain⟨h1,h2,h3⟩:=lI vZ;obtain rfl:=cQ (hl.1.symm.trans h1);have hv:=hh h2 h3;obtain⟨fp,⟨hlen,hown⟩,hnd,hF⟩:=r.ok i _ g hl h2;have hb':fF.box=false:=by simpa using hb
   rw[hb']at hown;simp only[hb',eS,hM];simp only[R,mH];refine .inr ⟨g.a,g.cap,hv,⟨hlen,by rcases hown with h|⟨_,_,_,_,_,_,_,_,_,_,h,_⟩;simp[h.1];exact h⟩,.inr (.inr ⟨by simp,trivial,?_⟩)⟩;rcases hown with⟨h5,_⟩|⟨b,off,C,e,fz,qN,ha,hbk,hz,k1,k2,k3,rfl,hr⟩
   .left;rw[h5];rfl
   .right;have hlt:∀x∈b::qN,x<w.heap.size:=λx hx=>(r.fresh _ _ _ x hl h2 (hF x hx)).2
    exact⟨b,off,ha,hlt b (by simp),Jc (RF r (λx=>x<w.heap.size) (λ_ h=>h)) _ _ _ _ qN (λx hx=>hlt x (by simp[hx])) hr⟩
 | .ptr i bU idx off,v,h=>by
  cases vZ:AV.isObj s.o i bU with
  |none=>simp[arg,vZ,R]
  |some ob=>
   simp only[arg,vZ];cases he:ob.dO[idx]? with
   |none=>simp[R]
   |some e=>
    simp only[R]at h⊢;obtain⟨_,fF,g,hl,_,hh,_⟩:=h;obtain⟨h1,h2,h3⟩:=lI vZ;obtain rfl:=cQ (hl.1.symm.trans h1);obtain⟨b,f,ha,hv⟩:=hh h2 h3;obtain⟨fp,⟨_,hown⟩,hnd,hF⟩:=r.ok i _ g hl h2;have hlt:∀x∈fp,x<w.heap.size:=λx hx=>(r.fresh _ _ _ x hl h2 (hF x hx)).2
    rcases hown with⟨h5,_⟩|⟨b',f',C,ty,fz,qN,wW,hbk,hz,k1,k2,k3,rfl,hr⟩
    .rw [h5]at he;simp at he
    .rw [ha]at wW;simp only[eE,pN,sY]at wW;obtain⟨rfl,rfl⟩:=wW;obtain⟨f1,f2,f3,cs,rfl,hn,hc,hone,wL,_,_⟩:=AX hr he;refine .inr ⟨trivial,b,f+idx*fF.n,cs,?_,hlt b (by simp),hc,hone,?_⟩
     .rw [hv,oR]
     .have:=yB (xu r fF.box (λx=>x<w.heap.size) (λ_ h=>h)) e cs f2 (λx hx=>hlt x (by simp[hx])) wL;exact dU (w:=w) (w':=w) (E:=oM w) (E':=(oM w).sub .view) ⟨λ_ h=>⟨h,rfl⟩,λ_ _=>trivial,λ_ _ _ h=>h.elim,λ_ _ _ h=>h.elim,λ_ _ _ _ _ h=>h.elim⟩ _ _ _ (by simp) this
 | .agg c,v,h=>by simp only[R,arg]at h⊢;obtain⟨cs,hv,hone,hr⟩:=h;exact⟨cs,hv,hone,Nr r c cs hr⟩
 | .gM c,v,h=>by simp only[R,arg]at h⊢;obtain⟨cs,hv,hr⟩:=h;exact⟨cs,hv,Nr r c cs hr⟩
 | .fn f c,v,h=>by simp only[R,arg]at h⊢;obtain⟨h1,cs,hv,hr⟩:=h;exact⟨trivial,cs,hv,Nr r c cs hr⟩
 | .int k n,v,h=>by simpa [arg,R]using h
 | .bool b,v,h=>by simpa [arg,R]using h
 | .str x,v,h=>by simpa [arg,R]using h
 | .sl .own n l,v,h=>by simp only[arg];exact Nq r (g:= .own) (λh=>h) h
 | .sl .view n l,v,h=>by simp only[arg];exact Nq r (g:= .view) (λh=>h) h
 | .sl (.kH i) n l,v,h=>by
  simp only[arg];cases ho:s.o[i]? with
  |none=>simp[R]
  |some ob=>
   simp only;by_cases hlive:ob.live=true
   .rw [eK hlive];exact Nq r (g:= .kH i) (λhd=>hd (λfF xY=>by rw[ho]at xY;obtain rfl:=cQ xY;exact hlive)) h
   .rw [cY hlive];simp[R]
 | .eU .own c off,v,h=>by
  simp only[R]at h;rcases h with h|⟨_,b,o,cs,hv,ht,_⟩
  .exact h.1.elim
  .exact ht.elim
 | .eU .view c off,v,h=>by
  simp only[arg];simp only[R]at h⊢;rcases h with h|⟨_,b,o,cs,hv,ht,hcs,hone,hr⟩
  .exact h.1.elim
  .exact .inr ⟨trivial,b,o,cs,hv,aD5 r ht,hcs,hone,yB (xw r .view (λ_=>False) (λ_ h=>h.elim)) _ _ _ (by simp) hr⟩
 | .eU (.kH i) c off,v,h=>by
  simp only[arg];cases ho:s.o[i]? with
  |none=>simp[R]
  |some ob=>
   simp only;by_cases hlive:ob.live=true
   .rw [eK hlive];simp only[R]at h⊢;rcases h with h|⟨_,b,o,cs,hv,ht,hcs,hone,hr⟩
    .exact absurd (λfF xY=>by rw[ho]at xY;obtain rfl:=cQ xY;exact hlive) h.1
    .exact .inr ⟨trivial,b,o,cs,hv,aD5 r ht,hcs,hone,yB (xw r (.kH i) (λ_=>False) (λ_ h=>h.elim)) _ _ _ (by simp) hr⟩
   .rw [cY hlive];simp[R]
 | .undef,v,_=>by simp[arg,R]
theorem Nr{P:Program}[aB P]{B:gN P}{s:AS}{G:List CO}{a:Act}{w:World}(r:eB B s G a w):∀(c:List AV) (cs:List Value),Rc w (env B s.o G w) c cs []->Rc w (oM w) (CK s.o c) cs []
 |[],[],_=>by simp[CK,Rc]
 |[],_::_,h=>by simp[Rc]at h
 |_::_,[],h=>by simp[Rc]at h
 |x::xs,c::cs,h=>by
  simp only[Rc]at h;obtain⟨f1,f2,h1,h2,e⟩:=h;obtain⟨rfl,rfl⟩:f1=[]/\f2=[]:=by simpa using e
  simp only[CK,Rc];exact⟨[],[],aRv r x c h1,Nr r xs cs h2,rfl⟩
end
mutual
def dF(q k:Nat):AV->AV×List aN
 | .sl .own n l=>(.obj k q,[⟨true,false,n,q,l⟩])
 | .agg c=>let p:=fB q k c;(.agg p.1,p.2)
 | .gM c=>let p:=fB q k c;(.gM p.1,p.2)
 |x=>(x,[])
def fB(q k:Nat):List AV->List AV×List aN
 |[]=>([],[])
 |x::xs=>let p:=dF q k x;let r:=fB q (k+p.2.length) xs;(p.1::r.1,p.2++r.2)
end
def lN(q:Nat)(w:World)(E:Env)(k:Nat)(os:List aN)(fp:List Nat)(done:Env->Prop):Prop:=
 ∃Gs:List CO,Gs.length=os.length/\
  (∀j ob g,look os Gs j ob g->ob.live=true/\ob.box=false/\ob.bU=q/\∃f,uU w E.plain ob.n ob.dO g.a g.cap f/\f.Nodup/\(∀b,g.F b↔b∈f)/\∀b∈f,b∈fp)/\
  (∀i j oi oj gi gj b,look os Gs i oi gi->look os Gs j oj gj->gi.F b->gj.F b->i=j)/\
  ∀E':Env,eO w E w E'->(∀j ob g,look os Gs j ob g->E'.H (k+j) q (.slice g.a ob.dO.length g.cap))->done E'
theorem lN.none{q:Nat}{w:World}{E:Env}{k:Nat}{av:AV}{v:Value}(h:R w E av v []):lN q w E k [] [] (λE'=>R w E' av v []):=
 ⟨[],rfl,λj ob g hl=>by simp[look]at hl,λi j oi oj gi gj b hl=>by simp[look]at hl,λE' hk _=>qK hk _ _ _ (by simp) h⟩
theorem lN.append{q:Nat}{w:World}{E:Env}{k:Nat}{o1 o2:List aN}{f1 f2:List Nat}{d1 d2:Env->Prop}(h1:lN q w E k o1 f1 d1)(h2:lN q w E (k+o1.length) o2 f2 d2)(hn:(f1++f2).Nodup):
  lN q w E k (o1++o2) (f1++f2) (λE'=>d1 E'/\d2 E'):=by
 obtain⟨G1,l1,a1,b1,c1⟩:=h1;obtain⟨G2,l2,a2,b2,c2⟩:=h2;have hd:=(gO.1 hn).2.2;refine⟨G1++G2,by simp[l1,l2],?_,?_,?_⟩
 .intro j ob g hl;rcases qA l1 hl with⟨_,h⟩|⟨_,h⟩
  .obtain ⟨x,y,y',f,z⟩:=a1 _ _ _ h;exact⟨x,y,y',f,z.1,z.2.1,z.2.2.1,λb hb=>oE _ (z.2.2.2 b hb)⟩
  .obtain ⟨x,y,y',f,z⟩:=a2 _ _ _ h;exact⟨x,y,y',f,z.1,z.2.1,z.2.2.1,λb hb=>tG _ (z.2.2.2 b hb)⟩
 .intro i j oi oj gi gj b hi hj FH Ns;rcases qA l1 hi with⟨_,h⟩|⟨hi',h⟩<;>rcases qA l1 hj with⟨_,h'⟩|⟨xc,h'⟩
  .exact b1 _ _ _ _ _ _ b h h' FH Ns
  .obtain ⟨_,_,_,f,z⟩:=a1 _ _ _ h;obtain⟨_,_,_,f',z'⟩:=a2 _ _ _ h';exact absurd rfl (hd b (z.2.2.2 b ((z.2.2.1 b).1 FH)) b (z'.2.2.2 b ((z'.2.2.1 b).1 Ns)))
  .obtain ⟨_,_,_,f,z⟩:=a2 _ _ _ h;obtain⟨_,_,_,f',z'⟩:=a1 _ _ _ h';exact absurd rfl (hd b (z'.2.2.2 b ((z'.2.2.1 b).1 Ns)) b (z.2.2.2 b ((z.2.2.1 b).1 FH)))
  .have:=b2 _ _ _ _ _ _ b h h' FH Ns;omega
 .intro E' hk hh;refine⟨c1 E' hk λj ob g hl=>hh j ob g (nR hl),c2 E' hk λj ob g hl=> ?_⟩;have:=hh _ ob g (qB l1 hl)
  rwa[<-oR]at this
mutual
theorem Gj{q:Nat}{w:World}{E:Env}:∀(av:AV) (v:Value) (fp:List Nat) (k:Nat),R w E av v fp->fp.Nodup->lN q w E k (dF q k av).2 fp (λE'=>R w E' (dF q k av).1 v [])
 | .sl .own n l,v,fp,k,h,hn=>by
  obtain⟨a,cap,hv,hown⟩:=pM.1 h;refine⟨[⟨a,cap,λb=>b∈fp⟩],rfl,?_,?_,?_⟩
  .rintro j ob g ⟨h1,h2⟩;cases j with
   |zero=>simp[dF]at h1 h2;subst h1;subst h2;exact⟨rfl,rfl,rfl,fp,hown,hn,λb=>Iff.rfl,λb hb=>hb⟩
   |succ j=>simp[dF]at h1
  .rintro i j oi oj gi gj b ⟨h1,_⟩ ⟨h2,_⟩ _ _;cases i<;>cases j<;>simp_all[dF]
  .intro E' _ hh;simp only[dF,R];have:=hh 0 ⟨true,false,n,q,l⟩ ⟨a,cap,λb=>b∈fp⟩ ⟨rfl,rfl⟩;rw[hv];exact⟨trivial,this⟩
 | .agg c,v,fp,k,h,hn=>by simp only[R]at h;obtain⟨cs,hv,hone,hr⟩:=h;obtain⟨Gs,a,b,c',d⟩:=DW c cs fp k hr hn;exact⟨Gs,a,b,c',λE' hk hh=>by simp only[dF,R];exact⟨cs,hv,hone,d E' hk hh⟩⟩
 | .gM c,v,fp,k,h,hn=>by simp only[R]at h;obtain⟨cs,hv,hr⟩:=h;obtain⟨Gs,a,b,c',d⟩:=DW c cs fp k hr hn;exact⟨Gs,a,b,c',λE' hk hh=>by simp only[dF,R];exact⟨cs,hv,d E' hk hh⟩⟩
 | .sl .view n l,v,fp,k,h,_=>by
  have hf:fp=[]:=by
   simp only[R]at h;rcases h with h|⟨_,_,_,_,h|h|h⟩
   .exact h.2
   .exact h.2.2.2
   .exact absurd h.1 (by simp)
   .exact h.2.1
  subst hf;exact lN.none h
 | .sl (.kH i) n l,v,fp,k,h,_=>by
  have hf:fp=[]:=by
   simp only[R]at h;rcases h with h|⟨_,_,_,_,h|h|h⟩
   .exact h.2
   .exact h.2.2.2
   .exact absurd h.1 (by simp)
   .exact h.2.1
  subst hf;exact lN.none h
 | .int _ _,v,fp,k,h,_=>by have h':=h;simp only[R]at h';obtain⟨_,rfl⟩:=h';exact lN.none h
 | .bool _,v,fp,k,h,_=>by have h':=h;simp only[R]at h';obtain⟨_,rfl⟩:=h';exact lN.none h
 | .str _,v,fp,k,h,_=>by have h':=h;simp only[R]at h';obtain⟨_,rfl⟩:=h';exact lN.none h
 | .eU _ _ _,v,fp,k,h,_=>by
  have hf:fp=[]:=by simp only[R]at h;rcases h with h|h;exact h.2;exact h.1
  subst hf;exact lN.none h
 | .obj _ _,v,fp,k,h,_=>by have h':=h;simp only[R]at h';obtain⟨rfl,_⟩:=h';exact lN.none h
 | .ptr _ _ _ _,v,fp,k,h,_=>by have h':=h;simp only[R]at h';obtain⟨rfl,_⟩:=h';exact lN.none h
 | .fn _ _,v,fp,k,h,_=>by have h':=h;simp only[R]at h';obtain⟨rfl,_⟩:=h';exact lN.none h
 | .undef,v,fp,k,h,_=>by have h':=h;simp only[R]at h';subst h';exact lN.none h
theorem DW{q:Nat}{w:World}{E:Env}:∀(c:List AV) (cs:List Value) (fp:List Nat) (k:Nat),Rc w E c cs fp->fp.Nodup->lN q w E k (fB q k c).2 fp (λE'=>Rc w E' (fB q k c).1 cs [])
 |[],[],fp,k,h,_=>by simp only[Rc]at h;subst h;exact⟨[],rfl,λj ob g hl=>by simp[look,fB]at hl,λi j oi oj gi gj b hl=>by simp[look,fB]at hl,λE' hk _=>by simp[fB,Rc]⟩
 |[],_::_,_,_,h,_=>by simp[Rc]at h
 |_::_,[],_,_,h,_=>by simp[Rc]at h
 |x::xs,c::cs,fp,k,h,hn=>by
  simp only[Rc]at h;obtain⟨f1,f2,h1,h2,rfl⟩:=h;have n1:=(gO.1 hn);have:=(Gj x c f1 k h1 n1.1).append (DW xs cs f2 (k+(dF q k x).2.length) h2 n1.2.1) hn;obtain⟨Gs,a,b,c',d⟩:=this;exact⟨Gs,a,b,c',λE' hk hh=>by
   have:=d E' hk hh;simp only[fB,Rc];exact⟨[],[],this.1,this.2,rfl⟩⟩
end
def bR(P:Program)(f:FuncId):Bool:=
 match P.funcs[f]? with
 |some fn=> !(fn.name == "runtime.NumGoroutine")&&fn.body.isSome
 |none=>false
theorem EH{P:Program}[aB P]{f:FuncId}(h:bR P f=true)(args:Array Value)(w:World):(callFunc f args).run P w= .ok (.enter f args) w:=by
 unfold bR at h;split at h
 .rename_i fn hf;simp only[eI,FF]at h;cases hx:fn.body with
  |none=>simp[hx]at h
  |some c=>
   have hne:fn.name≠ "runtime.NumGoroutine" :=by simpa using h.1
   simp[callFunc,hf,hne,hx]
 .cases h
def AS.args(s:AS)(l:Array Operand):List AV:=l.toList.map s.ev
theorem xP{P:Program}[aB P]{B:gN P}{s:AS}{G:List CO}{a:Act}{w:World}(r:eB B s G a w):∀l:List Operand,Rc w (env B s.o G w) (l.map s.ev) (l.map a.eval) []
 |[]=>by simp[Rc]
 |x::xs=>by simp only[mB,Rc];exact⟨[],[],r.ev x,xP r xs,rfl⟩
def AS.called(s:AS)(d:Option Tmp)(r:AV):AS:=AS.put ⟨s.t,s.o++(dF 1 s.o.length r).2⟩ d (dF 1 s.o.length r).1
theorem eO.refl(w:World)(E:Env):eO w E w E:=⟨λ_ h=>⟨h,rfl⟩,λ_ h=>h,λ_ _ _ h=>⟨h,rfl⟩,λ_ _ _ h=>h,λ_ _ _ _ _ h=>h⟩
theorem eO.trans{w:World}{E E' E'':Env}(k:eO w E w E')(k':eO w E' w E''):eO w E w E'':=
 ⟨λb h=>⟨(k'.a b (k.a b h).1).1,rfl⟩,λi h=>k.v i (k'.v i h),λi b hv h=>⟨(k'.d i b hv (k.d i b (k'.v i hv) h).1).1,rfl⟩,λi v x h=>k'.h i v x (k.h i v x h),λi v j o x h=>k'.l i v j o x (k.l i v j o x h)⟩
mutual
def clean:AV->Bool
 | .sl .own _ l=>iY l
 | .sl _ _ l=>l.isEmpty
 | .eU _ _ _=>false
 | .agg c=>DC c
 | .gM c=>DC c
 | .fn _ c=>DC c
 |_=>true
def DC:List AV->Bool
 |[]=>true
 |x::xs=>clean x&&DC xs
def iY:List (List AV)->Bool
 |[]=>true
 |x::xs=>DC x&&iY xs
end
mutual
theorem Lb{w:World}{E E':Env}(hv:∀i,E'.V i->E.V i)(hd:E.D=λ_ _=>False)(hh:E.H=λ_ _ _=>False)(hl:E.L=λ_ _ _ _ _=>False):∀(av:AV) (v:Value) (fp:List Nat),clean av=true->R w E av v fp->R w E' av v fp
 | .sl .own n l,v,fp,hc,h=>by
  obtain⟨a,cap,rfl,hlen,hown⟩:=pM.1 h;refine pM.2 ⟨a,cap,rfl,hlen,?_⟩;rcases hown with h|⟨b,off,C,e,fz,qN,ha,hb,hz,h1,h2,h3,rfl,hr⟩
  .exact .inl h
  .exact .inr ⟨b,off,C,e,fz,qN,ha,hb,hz,h1,h2,h3,rfl,ae (E:=E.plain) (E':=E'.plain) (λ_ _=>trivial) rfl rfl rfl l b off n qN (by simpa [clean]using hc) hr⟩
 | .sl .view n l,v,fp,hc,h=>by
  have:l=[]:=by simpa [clean]using hc
  subst this;simp only[R]at h⊢;rcases h with h|⟨a,cap,hv',CQ,h⟩
  .exact h.1.elim
  .exact .inr ⟨a,cap,hv',CQ,.inr (.inr ⟨by simp,by rcases h with h|h|h;exact h.2.2.2;exact absurd h.1 (by simp);exact h.2.1,.inl trivial⟩)⟩
 | .sl (.kH i) n l,v,fp,hc,h=>by
  have:l=[]:=by simpa [clean]using hc
  subst this;simp only[R]at h⊢;rcases h with h|⟨a,cap,hv',CQ,h⟩
  .exact .inl ⟨λhd=>h.1 (hv i hd),h.2⟩
  .exact .inr ⟨a,cap,hv',CQ,.inr (.inr ⟨by simp,by rcases h with h|h|h;exact h.2.2.2;exact absurd h.1 (by simp);exact h.2.1,.inl trivial⟩)⟩
 | .int _ _,_,_,_,h=>by simpa [R]using h
 | .bool _,_,_,_,h=>by simpa [R]using h
 | .str _,_,_,_,h=>by simpa [R]using h
 | .eU _ _ _,_,_,hc,_=>by simp[clean]at hc
 | .obj _ _,_,_,_,h=>by simp only[R,hh]at h;exact h.2.elim
 | .ptr _ _ _ _,_,_,_,h=>by simp only[R,hl]at h;exact h.2.elim
 | .agg c,v,fp,hc,h=>by simp only[R]at h⊢;obtain⟨cs,h1,h2,h3⟩:=h;exact⟨cs,h1,h2,DX hv hd hh hl c cs fp (by simpa [clean]using hc) h3⟩
 | .gM c,v,fp,hc,h=>by simp only[R]at h⊢;obtain⟨cs,h1,h3⟩:=h;exact⟨cs,h1,DX hv hd hh hl c cs fp (by simpa [clean]using hc) h3⟩
 | .fn f c,v,fp,hc,h=>by simp only[R]at h⊢;obtain⟨h0,cs,h1,h3⟩:=h;exact⟨h0,cs,h1,DX hv hd hh hl c cs [] (by simpa [clean]using hc) h3⟩
 | .undef,_,_,_,h=>by simpa [R]using h
theorem DX{w:World}{E E':Env}(hv:∀i,E'.V i->E.V i)(hd:E.D=λ_ _=>False)(hh:E.H=λ_ _ _=>False)(hl:E.L=λ_ _ _ _ _=>False):∀(c:List AV) (cs:List Value) (fp:List Nat),DC c=true->Rc w E c cs fp->Rc w E' c cs fp
 |[],[],_,_,h=>by simpa [Rc]using h
 |[],_::_,_,_,h=>by simp[Rc]at h
 |_::_,[],_,_,h=>by simp[Rc]at h
 |x::xs,c::cs,fp,hc,h=>by simp only[Rc]at h⊢;simp only[DC,eI]at hc;obtain⟨f1,f2,h1,h2,h3⟩:=h;exact⟨f1,f2,Lb hv hd hh hl x c f1 hc.1 h1,DX hv hd hh hl xs cs f2 hc.2 h2,h3⟩
theorem ae{w:World}{E E':Env}(hv:∀i,E'.V i->E.V i)(hd:E.D=λ_ _=>False)(hh:E.H=λ_ _ _=>False)(hl:E.L=λ_ _ _ _ _=>False):∀(l:List (List AV)) (b off n:Nat) (fp:List Nat),iY l=true->Rr w E l b off n fp->Rr w E' l b off n fp
 |[],_,_,_,_,_,h=>by simpa [Rr]using h
 |e::es,b,off,n,fp,hc,h=>by simp only[Rr]at h⊢;simp only[iY,eI]at hc;obtain⟨cs,f1,f2,h1,h2,h3,h4,h5,h6⟩:=h;exact⟨cs,f1,f2,h1,h2,h3,DX hv hd hh hl e cs f1 hc.1 h4,ae hv hd hh hl es b (off+n) n f2 hc.2 h5,h6⟩
end
def OkN(P:Program)(f:FuncId)(args:List AV)(r:AV):Prop:=
 ∀(w:World) (vs:List Value),Rc w (oM w) args vs []->∃v w',(callFunc f vs.toArray).run P w= .ok (.value v) w'/\w'.heap=w.heap/\mI w w'/\∀w'' E,R w'' E r v []
theorem aBb(f:Operand)(args:Array Operand)(xx:Array TypeId){g:FuncId}{cap:List AV}{rr:AV}(hf:s.ev f= .fn g cap)(hc:bR P g=true)
  (nU:Ok P g (CK s.o (s.args args++cap)) rr):
  Step P B ⟨dst,.call {callee:= .value f,args:=args,argTypes:=xx},ty,pos,after,gd⟩ s (s.called dst rr):=by
 rintro a w next Q ⟨G,r⟩ hn
 have h1:=r.ev f;rw[hf]at h1;simp only[R]at h1;obtain⟨_,cs,hv,hcap⟩:=h1;have hargs:Rc w (env B s.o G w) (s.args args++cap) (args.toList.map a.eval++cs) []:=by have:=mY (xP r args.toList) hcap;simpa [AS.args]using this
 have af:=nU w _ r.holds (Nr r _ _ hargs);unfold Oper.wp;have hrun:(execOp a.eval ⟨dst,.call {callee:= .value f,args:=args,argTypes:=xx},ty,pos,after,gd⟩).run P w= .ok (.enter g (args.toList.map a.eval++cs).toArray) w:=by
  have e:args.map a.eval++cs.toArray=(args.toList.map a.eval++cs).toArray:=by apply Fi;simp
  simp[execOp,resolve,hv,Deferred.ofValue,invoke,EH hc,e]
 rw[hrun,Oper.upon_enter];refine af.mono λe w' h=> ?_
 obtain⟨v,fp,rfl,hrr,hnd,hfr,hsz,oF,Gd⟩:=h;refine hn _ _ ?_;obtain⟨Gs,hlen,CL,hap,rF⟩:=Gj (q:=1) rr v fp s.o.length hrr hnd;have kn:eO w' (BP w.heap.size w' fp) w' (env B (s.o++(dF 1 s.o.length rr).2) (G++Gs) w'):=by
  refine⟨λb hb=>⟨⟨.inr ⟨lB r.size hb.1,hb.2.1⟩,λi ob g hl hlive hF=> ?_⟩,rfl⟩,λ_ _=>trivial,λ_ _ _ h=>h.elim,λ_ _ _ h=>h.elim,λ_ _ _ _ _ h=>h.elim⟩;rcases qA r.len hl with⟨_,h⟩|⟨_,h⟩
  .have:=(r.fresh _ _ _ b h hlive hF).2;have:=hb.1;omega
  .obtain ⟨_,_,_,f,_,_,h3,h4⟩:=CL _ _ _ h;exact hb.2.2 (h4 _ ((h3 _).1 hF))
 have hadd:=r.add (dF 1 s.o.length rr).2 Gs w' hlen hsz oF (λj ob g b hl _ hF=>by
   obtain⟨_,_,_,f,_,_,h3,h4⟩:=CL _ _ _ hl;exact hfr _ (h4 _ ((h3 _).1 hF))) (λi j oi oj gi gj b hi hj _ _ FH Ns=>hap _ _ _ _ _ _ b hi hj FH Ns) (λk j ob g hl _=>by
   obtain⟨h1,h2,_,f,hown,h3,h4,h5⟩:=CL _ _ _ hl;refine⟨f,?_,h3,λb hb=>(h4 b).2 hb⟩;have:=hown.keeps kn.plain (λ_ _=>rfl);rw[h2];exact this) Gd
 refine⟨G++Gs,hadd.1.put dst ?_⟩;refine rF _ kn λj ob g hl=> ?_
 obtain⟨_,_,h3,_⟩:=CL _ _ _ hl;exact⟨ob,g,qB r.len hl,DA h3.symm,λ_ _=>rfl,λh=>absurd h (by decide)⟩
theorem eB.heap{G:List CO}{a:Act}{w w':World}(r:eB B s G a w)(hh:w'.heap=w.heap)(same:mI w w'):eB B s G a w':=by
 have hE:env B s.o G w'=env B s.o G w:=by unfold env;rw[hh]
 have k:eO w (env B s.o G w) w' (env B s.o G w'):=by rw[hE];exact⟨λb h=>⟨h,by rw[hh]⟩,λ_ h=>h,λ_ _ _ h=>⟨h,by rw[hh]⟩,λ_ _ _ h=>h,λ_ _ _ _ _ h=>h⟩
 have:=r.next (o':=s.o) (G':=G) (w':=w') k r.len (λi ob g hl hlive=>(r.ok i ob g hl hlive).keeps k (λ_ _=>by rw[hh])) r.apart
  (λi ob g b hl hlive hF=>by have:=r.fresh i ob g b hl hlive hF;rw[hh];exact this) (by rw[hh];exact eC _) (λ_ _ _=>by rw[hh]) same
 exact this
theorem ag(f:Operand)(args:Array Operand)(xx:Array TypeId){g:FuncId}{cap:List AV}{rr:AV}(hf:s.ev f= .fn g cap)
  (nU:OkN P g (CK s.o (s.args args++cap)) rr):
  Step P B ⟨dst,.call {callee:= .value f,args:=args,argTypes:=xx},ty,pos,after,gd⟩ s (s.put dst rr):=by
 rintro a w next Q ⟨G,r⟩ hn
 have h1:=r.ev f;rw[hf]at h1;simp only[R]at h1;obtain⟨_,cs,hv,hcap⟩:=h1;have hargs:Rc w (env B s.o G w) (s.args args++cap) (args.toList.map a.eval++cs) []:=by have:=mY (xP r args.toList) hcap;simpa [AS.args]using this
 obtain⟨v,w',ah,hh,oF,hR⟩:=nU w _ (Nr r _ _ hargs);unfold Oper.wp;have hrun:(execOp a.eval ⟨dst,.call {callee:= .value f,args:=args,argTypes:=xx},ty,pos,after,gd⟩).run P w= .ok (.value v) w':=by
  have e:args.map a.eval++cs.toArray=(args.toList.map a.eval++cs).toArray:=by apply Fi;simp
  simp[execOp,resolve,hv,Deferred.ofValue,invoke,e,ah]
 rw[hrun,Oper.upon_value];exact hn _ _ ⟨G,(r.heap hh oF).put dst (hR _ _)⟩
end
end Go.Aw
