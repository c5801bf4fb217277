/- Proved here: steps towards the statement of this claim. No condition. -/
import Derived.WalkKit
set_option linter.all false
namespace Go.Aw
open List
def aE:= @List.getElem?_eq_getElem
def cH:= @List.set_cons_succ
def cJ:= @List.set_cons_zero
def cQ:= @List.getElem?_eq_some_iff
def cU:= @Option.some.inj
def cW:= @List.cons_append
def cX:= @Bool.false_eq_true
def cY:= @List.nil_append
def dT:= @List.length_cons
def eA:= @Option.some.injEq
def eC:= @List.append_nil
def eE:= @Nat.le_refl
def eI:= @Bool.and_eq_true
def eJ:= @List.take_of_length_le
def eK:= @if_neg
def eL:= @List.take_succ_eq_append_getElem
def eM:= @List.length_append
def eN:= @Array.getD_eq_getD_getElem?
def eR:= @List.length_nil
def eS:= @if_false
def eV:= @if_true
def eW:= @if_pos
def fL:= @List.take_succ_cons
def fN:= @cond_false
def fR:= @Bool.and_eq_true_iff
def fS:= @List.mem_append
def fW:= @List.all_eq_true
def fX:= @decide_eq_true_eq
def fY:= @cond_true
def gC:= @Go.run_underlying
def gE:= @List.mem_cons
def gO:= @Nat.lt_of_lt_of_le
def gR:= @List.getElem?_set_ne
def gS:= @List.nodup_append
def hI:= @List.getElem_mem
def hY:= @List.getD_eq_getElem?_getD
def iS:= @Int.eq_ofNat_of_zero_le
def kO:= @Nat.le_trans
def lA:= @List.map_cons
def lB:= @List.eq_nil_of_length_eq_zero
def lE:= @List.take_zero
def lO:= @Nat.zero_add
def lP:= @Go.Result.andThen_ok
def lR:= @List.getElem?_set_self
def mA:= @Option.map_some
def mB:= @List.mem_of_getElem?
def mC:= @List.nodup_cons
def mL:= @List.getElem?_append_right
def mN:= @List.take_append_drop
def mS:= @List.replicate_succ
def mT:= @Bool.exists_bool
def nB:= @Go.Addr.mk.injEq
def nF:= @List.mem_singleton
def oA:= @Go.Sem.run_bind
def oB:= @List.mem_append_left
def oE:= @Nat.add_assoc
def oR:= @Prod.mk.injEq
def oS:= @List.drop_eq_getElem_cons
def oT:= @List.length_map
def oX:= @List.map_append
def oY:= @List.length_take
def pA:= @Option.getD_some
def pB:= @decide_eq_decide
def pC:= @List.mem_of_mem_take
def pD:= @Int.toNat_natCast
def pH:= @List.flatten_cons
def pL:= @decide_eq_false_iff_not
def pN:= @Array.getElem?_eq_getElem
def pP:= @List.getElem?_eq_none
def pS:= @List.getElem?_append_left
def pT:= @Nat.mul_le_mul_right
def pZ:= @List.mem_of_find?_eq_some
def qS:= @List.mem_map
def qT:= @and_true
def rB:= @Nat.add_mul
def rI:= @List.eq_nil_iff_forall_not_mem
def rK:= @Array.getElem?_setIfInBounds
def rL:= @List.replicate_zero
def rN:= @Bool.and_eq_false_iff
def rS:= @Nat.add_zero
def sA:= @List.getElem?_map
def sB:= @List.append_assoc
def sC:= @Int.tmod_eq_emod_of_nonneg
def sE:= @Bool.or_eq_true
def sL:= @List.length_filter_le
def sR:= @Array.getElem?_replicate
def sX:= @List.Sublist.refl
def sY:= @Go.Sem.run_pure
def tA:= @Nat.lt_or_ge
def tB:= @List.count_le_length
def tD:= @List.mem_append_right
def tE:= @Array.getElem?_eq_none
def tG:= @List.mem_cons_of_mem
def tI:= @List.getElem?_eq_none_iff
def tM:= @Option.bind_some
def tP:= @Nat.le_of_eq
def tR:= @Bool.true_and
def tU:= @List.mem_or_eq_of_mem_set
def tW:= @List.take_length
def vA:= @List.drop_succ_cons
def wA:= @Ne.symm
def xF:= @Bool.not_eq_true'
def yW:= @List.drop_drop
def zE:= @List.set_eq_of_length_le
def An:= @Array.toList_map
def As:= @List.length_singleton
def At:= @Array.getElem?_append_left
def Ax:= @congrArg
def AD:= @List.getElem?_cons_succ
def AE:= @Array.toList_setIfInBounds
def AF:= @Array.getElem?_eq_some_iff
def AG:= @List.mem_of_mem_drop
def AH:= @Go.Oper.upon_enter
def AI:= @List.length_drop
def AK:= @List.ext_getElem?
def AM:= @Array.ext'
def AN:= @Option.isSome_iff_exists
def AT:= @List.take_append_of_le_length
def AW:= @Go.Value.pointer.injEq
def Bk:= @List.getElem?_toArray
def Bm:= @decide_eq_true
def Bs:= @Bool.not_eq_true
def Bx:= @List.mem_flatMap
def By:= @List.getElem?_cons_zero
def BE:= @List.length_eq_zero_iff
def BT:= @List.mem_filter
def BW:= @Nat.add_sub_cancel
def BY:= @List.all_cons
def Cd:= @List.getElem?_take
def Cl:= @Bool.not_true
def Cp:= @Array.getElem?_modify
def CA:= @beq_iff_eq
def CC:= @List.length_set
def CD:= @List.range_succ
def CH:= @List.length_pos_iff
def CI:= @List.foldl_append
def CM:= @List.eq_nil_or_concat
def CN:= @Array.mapM_eq_mapM_toList
def CT:= @Classical.byContradiction
def Dd:= @Go.World.cell?_setCells_out
def Dg:= @List.find?_eq_none
def Ds:= @List.map_nil
def DA:= @Nat.min_eq_left
def DB:= @Array.all_eq_true'
def DE:= @Go.World.cell?_setCells_in
def DG:= @Go.calls_of_wp
def DH:= @List.drop_zero
def DM:= @Classical.not_not
def DO:= @List.getElem?_set
def DP:= @List.flatMap_cons
def DQ:= @List.getElem_of_mem
def DS:= @Nat.sub_self
def Ek:= @List.drop_of_length_le
def EV:= @of_decide_eq_true
def Fi:= @List.foldl_cons
def Fk:= @List.Perm.append_left
def Fl:= @List.find?_some
def Fm:= @List.set_append_right
def Fo:= @Bool.false_or
def Ft:= @List.not_mem_nil
def FA:= @UInt8.toNat_inj
def FF:= @Go.wp_mono
def FG:= @Bool.not_false
def Ge:= @UInt8.toNat_lt
theorem aA{a b:Prop}(h:a)(k:b):a/\b:=⟨h,k⟩
inductive Tg where
  | own
  | view
  | iZ (i:Nat)
inductive AV where
  | int (k:IntKind) (n:Int)
  | bool (b:Bool)
  | str (s:List UInt8)
  | sl (g:Tg) (n:Nat) (l:List (List AV))
  | fH (g:Tg) (c:List AV) (off:Nat)
  | obj (i ver:Nat)
  | ptr (i ver idx off:Nat)
  | agg (c:List AV)
  | iP (c:List AV)
  | fn (f:FuncId) (c:List AV)
  | undef
instance:Inhabited AV := ⟨.undef⟩
structure Env where
  A:Nat -> Prop
  V:Nat -> Prop
  D:Nat -> Nat -> Prop
  H:Nat -> Nat -> Value -> Prop
  L:Nat -> Nat -> Nat -> Nat -> Value -> Prop
def Env.tg(E:Env):Tg->Nat->Prop
 | .own,_=>False
 | .view,b=>E.A b
 | .iZ i,b=>E.D i b
def Env.dead(E:Env):Tg->Prop
 | .iZ i=>¬E.V i
 |_=>False
def Env.plain(E:Env):Env where
 A:=E.A
 V _:=True
 D _ _:=False
 H _ _ _:=False
 L _ _ _ _ _:=False
def Env.sub(E:Env):Tg->Env
 | .iZ i=>{E.plain with D:=λj b=>j=i/\E.D i b}
 |_=>E.plain
def dU(w:World)(b off:Nat)(cs:List Value):Prop:=∀j v,cs[j]? =some v->w.cell? ⟨b,off+j,none⟩=some v
mutual
def R(w:World): Env -> AV -> Value -> List Nat -> Prop
  | _, .int k n, v, fp => v = .int k n /\ fp = []
  | _, .bool b, v, fp => v = .bool b /\ fp = []
  | _, .str s, v, fp => v = .string ⟨s.toArray⟩ /\ fp = []
  | E, .sl g n l, v, fp => (E.dead g /\ fp = []) \/ ∃ a cap, v = .slice a l.length cap /\ (l.length <= maxLen /\ l.length <= cap) /\
      ((g = .own /\ l = [] /\ cap = 0 /\ fp = []) \/
       (g = .own /\ ∃ b off C e fz nU, a = some ⟨b, off, none⟩ /\ w.heap[b]? = some (.cells C e fz) /\ ((C.size <= fz.1 /\ n = 1) \/ fz.2 = 0) /\
          off+cap*n <= C.size /\ l.length <= cap /\ cap <= maxLen /\ fp = b :: nU /\ Rr w (E.sub g) l b off n nU) \/
       (g ≠ .own /\ fp = [] /\ (l = [] \/ ∃ b off, a = some ⟨b, off, none⟩ /\ E.tg g b /\ Rr w (E.sub g) l b off n [])))
  | E, .fH g c off, v, fp => (E.dead g /\ fp = []) \/ fp = [] /\ ∃ b o cs, v = .pointer (some ⟨b, o+off, none⟩) /\ E.tg g b /\ dU w b o cs /\ (∀ x ∈ cs, x.oneCell' = true) /\ Rc w (E.sub g) c cs []
  | E, .obj i ver, v, fp => fp = [] /\ E.H i ver v
  | E, .ptr i ver idx off, v, fp => fp = [] /\ E.L i ver idx off v
  | E, .agg c, v, fp => ∃ cs:List Value, v = .agg cs.toArray /\ (∀ x ∈ cs, x.oneCell' = true) /\ Rc w E c cs fp
  | E, .iP c, v, fp => ∃ cs:List Value, v = .tuple cs.toArray /\ Rc w E c cs fp
  | E, .fn f c, v, fp => fp = [] /\ ∃ cs:List Value, v = .func (.func f) #[] cs.toArray /\ Rc w E c cs []
  | _, .undef, _, fp => fp = []
def Rc(w:World): Env -> List AV -> List Value -> List Nat -> Prop
  | _, [], [], fp => fp = []
  | E, x :: xs, c :: cs, fp => ∃ f1 f2, R w E x c f1 /\ Rc w E xs cs f2 /\ fp = f1 ++ f2
  | _, _, _, _ => False
def Rr(w:World): Env -> List (List AV) -> Nat -> Nat -> Nat -> List Nat -> Prop
  | _, [], _, _, _, fp => fp = []
  | E, e :: es, b, off, n, fp => ∃ cs f1 f2, cs.length = n /\ dU w b off cs /\ (∀ x ∈ cs, x.oneCell' = true) /\ Rc w E e cs f1 /\ Rr w E es b (off+n) n f2 /\ fp = f1 ++ f2
end
theorem dU.same{w w':World}{b off:Nat}{cs:List Value}(h:dU w b off cs)(hb:w'.heap[b]? =w.heap[b]?):dU w' b off cs:=by intro j v hv;have:=h j v hv;simpa [World.cell?,hb]using this
structure dF(w:World)(E:Env)(w':World)(E':Env): Prop where
  a:∀ b, E.A b -> E'.A b /\ w'.heap[b]? = w.heap[b]?
  v:∀ i, E'.V i -> E.V i
  d:∀ i b, E'.V i -> E.D i b -> E'.D i b /\ w'.heap[b]? = w.heap[b]?
  h:∀ i v x, E.H i v x -> E'.H i v x
  l:∀ i v j o x, E.L i v j o x -> E'.L i v j o x
theorem dF.tg{w w':World}{E E':Env}(k:dF w E w' E'){g:Tg}{b:Nat}(h:E.tg g b)(hd:¬E'.dead g):E'.tg g b/\w'.heap[b]? =w.heap[b]?:=by
 cases g with
 |own=>exact h.elim
 |view=>exact k.a b h
 |iZ i=>exact k.d i b (DM.1 hd) h
theorem dF.dead{w w':World}{E E':Env}(k:dF w E w' E'){g:Tg}(h:E.dead g):E'.dead g:=by
 cases g with
 |own=>exact h
 |view=>exact h
 |iZ i=>exact λhv=>h (k.v i hv)
theorem dF.plain{w w':World}{E E':Env}(k:dF w E w' E'):dF w E.plain w' E'.plain:=
 ⟨k.a,λ_ _=>trivial,λ_ _ _ h=>h.elim,λ_ _ _ h=>h.elim,λ_ _ _ _ _ h=>h.elim⟩
theorem dF.sub{w w':World}{E E':Env}(k:dF w E w' E')(g:Tg)(hd:¬E'.dead g):dF w (E.sub g) w' (E'.sub g):=by
 cases g with
 |own=>exact k.plain
 |view=>exact k.plain
 |iZ i=>exact⟨k.a,λ_ _=>trivial,λj b _ h=>⟨⟨h.1,(k.d i b (DM.1 hd) h.2).1⟩,(k.d i b (DM.1 hd) h.2).2⟩,λ_ _ _ h=>h.elim,λ_ _ _ _ _ h=>h.elim⟩
mutual
theorem lF{w w':World}{E E':Env}(k:dF w E w' E'):∀(av:AV) (v:Value) (fp:List Nat),(∀b∈fp,w'.heap[b]? =w.heap[b]?)->R w E av v fp->R w' E' av v fp
 | .int _ _,_,_,_,h=>by simpa [R]using h
 | .bool _,_,_,_,h=>by simpa [R]using h
 | .str _,_,_,_,h=>by simpa [R]using h
 | .sl g n l,v,fp,hf,h=>by
  simp only[R]at h⊢;rcases h with h|⟨a,cap,hv,hl,h⟩
  .exact .inl ⟨k.dead h.1,h.2⟩
  by_cases hd:E'.dead g
  .refine .inl ⟨hd,?_⟩;rcases h with h|⟨hg,_⟩|⟨_,h,_⟩
   .exact h.2.2.2
   .subst hg;exact hd.elim
   .exact h
  refine .inr ⟨a,cap,hv,hl,?_⟩;rcases h with h|⟨hg,b,off,C,e,fz,nU,ha,hb,hz,h1,h2,h3,Gj,hr⟩|⟨hg,Gj,h⟩
  .exact .inl h
  .subst Gj;refine .inr (.inl ⟨hg,b,off,C,e,fz,nU,ha,?_,hz,h1,h2,h3,rfl,?_⟩)
   .rw [hf b (by simp)];exact hb
   .exact lW (k.sub g hd) l b off n nU (hf b (by simp)) (λx hx=>hf x (by simp[hx])) hr
  .refine .inr (.inr ⟨hg,Gj,?_⟩);rcases h with h|⟨b,off,ha,ht,hr⟩
   .exact .inl h
   .have:=k.tg ht hd;exact .inr ⟨b,off,ha,this.1,lW (k.sub g hd) l b off n [] this.2 (by simp) hr⟩
 | .fH g c off,v,fp,_,h=>by
  simp only[R]at h⊢;rcases h with h|⟨Gj,b,o,cs,hv,ht,hcs,hc,hr⟩
  .exact .inl ⟨k.dead h.1,h.2⟩
  by_cases hd:E'.dead g
  .exact .inl ⟨hd,Gj⟩
  have:=k.tg ht hd;exact .inr ⟨Gj,b,o,cs,hv,this.1,hcs.same this.2,hc,dX (k.sub g hd) c cs [] (by simp) hr⟩
 | .obj i ver,v,fp,_,h=>by simp only[R]at h⊢;exact⟨h.1,k.h _ _ _ h.2⟩
 | .ptr i ver idx off,v,fp,_,h=>by simp only[R]at h⊢;exact⟨h.1,k.l _ _ _ _ _ h.2⟩
 | .agg c,v,fp,hf,h=>by simp only[R]at h⊢;obtain⟨cs,hv,hc,hr⟩:=h;exact⟨cs,hv,hc,dX k c cs fp hf hr⟩
 | .iP c,v,fp,hf,h=>by simp only[R]at h⊢;obtain⟨cs,hv,hr⟩:=h;exact⟨cs,hv,dX k c cs fp hf hr⟩
 | .fn f c,v,fp,_,h=>by simp only[R]at h⊢;obtain⟨Gj,cs,hv,hr⟩:=h;exact⟨Gj,cs,hv,dX k c cs [] (by simp) hr⟩
 | .undef,_,_,_,h=>by simpa [R]using h
theorem dX{w w':World}{E E':Env}(k:dF w E w' E'):∀(c:List AV) (cs:List Value) (fp:List Nat),(∀b∈fp,w'.heap[b]? =w.heap[b]?)->Rc w E c cs fp->Rc w' E' c cs fp
 |[],[],_,_,h=>by simpa [Rc]using h
 |[],_::_,_,_,h=>by simp[Rc]at h
 |_::_,[],_,_,h=>by simp[Rc]at h
 |x::xs,c::cs,fp,hf,h=>by simp only[Rc]at h⊢;obtain⟨f1,f2,h1,h2,rfl⟩:=h;exact⟨f1,f2,lF k x c f1 (λb hb=>hf b (by simp[hb])) h1,dX k xs cs f2 (λb hb=>hf b (by simp[hb])) h2,rfl⟩
theorem lW{w w':World}{E E':Env}(k:dF w E w' E'):∀(l:List (List AV)) (b off n:Nat) (fp:List Nat),w'.heap[b]? =w.heap[b]?->(∀b∈fp,w'.heap[b]? =w.heap[b]?)->Rr w E l b off n fp->Rr w' E' l b off n fp
 |[],_,_,_,_,_,_,h=>by simpa [Rr]using h
 |e::es,b,off,n,fp,hb,hf,h=>by simp only[Rr]at h⊢;obtain⟨cs,f1,f2,hn,hcs,hc,h1,h2,rfl⟩:=h;exact⟨cs,f1,f2,hn,hcs.same hb,hc,dX k e cs f1 (λb hb=>hf b (by simp[hb])) h1,lW k es b (off+n) n f2 hb (λb hb=>hf b (by simp[hb])) h2,rfl⟩
end
def AV.kept(h:Bool)(x:AV):AV:=if h then x else .undef
mutual
def rt(f:Tg->Option Tg)(h:Bool):AV->AV
 | .int k n=> .int k n
 | .bool b=> .bool b
 | .str s=> .str s
 | .sl g n l=>match f g with
  |some g'=> .sl g' n (iI f h l)
  |none=> .undef
 | .fH g c off=>match f g with
  |some g'=> .fH g' (qD f h c) off
  |none=> .undef
 | .obj i v=>AV.kept h (.obj i v)
 | .ptr i v j o=>AV.kept h (.ptr i v j o)
 | .agg c=> .agg (qD f h c)
 | .iP c=> .iP (qD f h c)
 | .fn g c=> .fn g (qD f h c)
 | .undef=> .undef
def qD(f:Tg->Option Tg)(h:Bool):List AV->List AV
 |[]=>[]
 |x::xs=>rt f h x::qD f h xs
def iI(f:Tg->Option Tg)(h:Bool):List (List AV)->List (List AV)
 |[]=>[]
 |x::xs=>qD f h x::iI f h xs
end
theorem kJ(f:Tg->Option Tg)(h:Bool):∀l,(iI f h l).length=l.length
 |[]=>rfl
 |_::xs=>by simp[iI,kJ f h xs]
structure lK(f:Tg -> Option Tg)(h:Bool)(E E':Env)(O:Nat -> Prop): Prop where
  own:∀ g, f .own = some g -> g ≠ .own /\ ∀ b, O b -> E'.tg g b
  view:∀ g, f .view = some g -> g = .view /\ ∀ b, E.A b -> E'.A b
  iZ:∀ i g, f (.iZ i) = some g -> g ≠ .own /\ (E.V i \/ E'.dead g) /\ ∀ b, E.D i b -> E'.tg g b
  hh:h = true -> ∀ i v x, E.H i v x -> E'.H i v x
  hl:h = true -> ∀ i v j o x, E.L i v j o x -> E'.L i v j o x
theorem lK.ne{f:Tg->Option Tg}{h:Bool}{E E':Env}{O:Nat->Prop}(k:lK f h E E' O){g g':Tg}(e:f g=some g'):g'≠ .own:=by
 cases g with
 |own=>exact(k.own _ e).1
 |view=>rw[(k.view _ e).1];simp
 |iZ i=>exact(k.iZ i _ e).1
theorem lK.tg{f:Tg->Option Tg}{h:Bool}{E E':Env}{O:Nat->Prop}(k:lK f h E E' O){g g':Tg}{b:Nat}(e:f g=some g')(ht:E.tg g b):E'.tg g' b:=by
 cases g with
 |own=>exact ht.elim
 |view=>rw[(k.view _ e).1];exact(k.view _ e).2 b ht
 |iZ i=>exact(k.iZ i _ e).2.2 b ht
theorem lK.dead{f:Tg->Option Tg}{h:Bool}{E E':Env}{O:Nat->Prop}(k:lK f h E E' O){g g':Tg}(e:f g=some g')(hd:E.dead g):E'.dead g':=by
 cases g with
 |own=>exact hd.elim
 |view=>exact hd.elim
 |iZ i=>exact(k.iZ i _ e).2.1.resolve_left hd
theorem lK.sub{f:Tg->Option Tg}{h:Bool}{E E':Env}{O:Nat->Prop}(k:lK f h E E' O){g g':Tg}(e:f g=some g')(hd:¬E.dead g)
  {O':Nat->Prop} (ho:∀b,O' b->g= .own/\O b):lK f h (E.sub g) (E'.sub g') O' where
 own g2 e2:=⟨(k.own g2 e2).1,λb hb=>by
  obtain⟨rfl,hO⟩:=ho b hb;rw[e]at e2;obtain rfl:=cU e2;have:=(k.own _ e).2 b hO;cases g' with
  |own=>exact this.elim
  |view=>exact this
  |iZ i=>exact⟨rfl,this⟩⟩
 view g2 e2:=⟨(k.view g2 e2).1,λb hA=>by
  have h1:=(k.view g2 e2).2 b (by cases g<;>exact hA);cases g'<;>exact h1⟩
 iZ i g2 e2:=by
  refine⟨(k.iZ i g2 e2).1,.inl (by cases g<;>trivial),λb hD=> ?_⟩;cases g with
  |own=>exact hD.elim
  |view=>exact hD.elim
  |iZ j=>
   obtain⟨rfl,hD⟩:=hD;rw[e]at e2;obtain rfl:=cU e2;have:=(k.iZ _ _ e).2.2 b hD;cases g' with
   |own=>exact this.elim
   |view=>exact this
   |iZ i=>exact⟨rfl,this⟩
 hh _ i v x hx:=by cases g<;>exact hx.elim
 hl _ i v j o x hx:=by cases g<;>exact hx.elim
mutual
theorem aF6{w:World}{f:Tg->Option Tg}{h:Bool}{E E':Env}{O:Nat->Prop}(k:lK f h E E' O):∀(av:AV) (v:Value) (fp:List Nat),(∀b∈fp,O b)->R w E av v fp->R w E' (rt f h av) v []
 | .int _ _,_,_,_,r=>by simp only[R,rt]at r⊢;exact⟨r.1,trivial⟩
 | .bool _,_,_,_,r=>by simp only[R,rt]at r⊢;exact⟨r.1,trivial⟩
 | .str _,_,_,_,r=>by simp only[R,rt]at r⊢;exact⟨r.1,trivial⟩
 | .sl g n l,v,fp,hf,r=>by
  simp only[rt];cases e:f g with
  |none=>simp[R]
  |some g'=>
   simp only[R,kJ]at r⊢;rcases r with r|⟨a,cap,hv,hl,r⟩
   .exact .inl ⟨k.dead e r.1,trivial⟩
   by_cases hd:E.dead g
   .refine .inl ⟨k.dead e hd,trivial⟩
   refine .inr ⟨a,cap,hv,hl,.inr (.inr ⟨k.ne e,trivial,?_⟩)⟩;rcases r with⟨_,rfl,_⟩|⟨rfl,b,off,C,ty,fz,nU,ha,hb,hz,h1,h2,h3,rfl,hr⟩|⟨hg,Gj,r⟩
   .exact .inl rfl
   .exact .inr ⟨b,off,ha,(k.own _ e).2 b (hf b (by simp)),Gy (k.sub e (λh=>h) (O':=O) (λb hb=>⟨rfl,hb⟩)) l b off n nU (λb hb=>hf b (by simp[hb])) hr⟩
   .rcases r with rfl|⟨b,off,ha,ht,hr⟩
    .exact .inl rfl
    .exact .inr ⟨b,off,ha,k.tg e ht,Gy (k.sub e hd (O':=λ_=>False) (λ_ hb=>hb.elim)) l b off n [] (by simp) hr⟩
 | .fH g c off,v,fp,_,r=>by
  simp only[rt];cases e:f g with
  |none=>simp[R]
  |some g'=>
   simp only[R]at r⊢;rcases r with r|⟨Gj,b,o,cs,hv,ht,hcs,hc,hr⟩
   .exact .inl ⟨k.dead e r.1,trivial⟩
   by_cases hd:E.dead g
   .exact .inl ⟨k.dead e hd,trivial⟩
   exact .inr ⟨trivial,b,o,cs,hv,k.tg e ht,hcs,hc,xA (k.sub e hd (O':=λ_=>False) (λ_ hb=>hb.elim)) c cs [] (by simp) hr⟩
 | .obj i ver,v,fp,_,r=>by
  cases h with
  |false=>simp[rt,R,AV.kept]
  |true=>simp only[R,rt,AV.kept,eV]at r⊢;exact⟨trivial,k.hh rfl _ _ _ r.2⟩
 | .ptr i ver idx off,v,fp,_,r=>by
  cases h with
  |false=>simp[rt,R,AV.kept]
  |true=>simp only[R,rt,AV.kept,eV]at r⊢;exact⟨trivial,k.hl rfl _ _ _ _ _ r.2⟩
 | .agg c,v,fp,hf,r=>by simp only[R,rt]at r⊢;obtain⟨cs,hv,hc,hr⟩:=r;exact⟨cs,hv,hc,xA k c cs fp hf hr⟩
 | .iP c,v,fp,hf,r=>by simp only[R,rt]at r⊢;obtain⟨cs,hv,hr⟩:=r;exact⟨cs,hv,xA k c cs fp hf hr⟩
 | .fn g c,v,fp,_,r=>by simp only[R,rt]at r⊢;obtain⟨Gj,cs,hv,hr⟩:=r;exact⟨trivial,cs,hv,xA k c cs [] (by simp) hr⟩
 | .undef,_,_,_,_=>by simp[R,rt]
theorem xA{w:World}{f:Tg->Option Tg}{h:Bool}{E E':Env}{O:Nat->Prop}(k:lK f h E E' O):∀(c:List AV) (cs:List Value) (fp:List Nat),(∀b∈fp,O b)->Rc w E c cs fp->Rc w E' (qD f h c) cs []
 |[],[],_,_,_=>by simp[Rc,qD]
 |[],_::_,_,_,r=>by simp[Rc]at r
 |_::_,[],_,_,r=>by simp[Rc]at r
 |x::xs,c::cs,fp,hf,r=>by simp only[Rc,qD]at r⊢;obtain⟨f1,f2,h1,h2,rfl⟩:=r;exact⟨[],[],aF6 k x c f1 (λb hb=>hf b (by simp[hb])) h1,xA k xs cs f2 (λb hb=>hf b (by simp[hb])) h2,rfl⟩
theorem Gy{w:World}{f:Tg->Option Tg}{h:Bool}{E E':Env}{O:Nat->Prop}(k:lK f h E E' O):∀(l:List (List AV)) (b off n:Nat) (fp:List Nat),(∀b∈fp,O b)->Rr w E l b off n fp->Rr w E' (iI f h l) b off n []
 |[],_,_,_,_,_,_=>by simp[Rr,iI]
 |e::es,b,off,n,fp,hf,r=>by simp only[Rr,iI]at r⊢;obtain⟨cs,f1,f2,hn,hcs,hc,h1,h2,rfl⟩:=r;exact⟨cs,[],[],hn,hcs,hc,xA k e cs f1 (λb hb=>hf b (by simp[hb])) h1,Gy k es b (off+n) n f2 (λb hb=>hf b (by simp[hb])) h2,rfl⟩
end
structure aD where
  live:Bool
  box:Bool
  n:Nat
  ver:Nat
  dM:List (List AV)
structure CO where
  a:Option Addr
  cap:Nat
  F:Nat -> Prop
structure AS where
  t:List AV
  o:List aD
class aB(P:Program) where
  holds:World -> Prop
  low:Nat
  UX:∀ w, holds w -> low <= w.heap.size
  ZR:∀ w w', holds w -> (∀ b, b<low -> w'.heap[b]? = w.heap[b]?) -> holds w'
structure fM(P:Program)[aB P] where
  w0:World
  A0:Nat -> Prop
  O0:Nat -> Prop
  h0:Nat -> Option Value
  p0:Nat -> Option (Value × Nat)
  Ab:aB.holds P w0
  Mc:∀ b, O0 b -> aB.low P <= b
  gA:∀ b, O0 b -> A0 b
def look(o:List aD)(G:List CO)(i:Nat)(ob:aD)(g:CO):Prop:=o[i]? =some ob/\G[i]? =some g
def env{P:Program}[aB P](B:fM P)(o:List aD)(G:List CO)(w:World):Env where
 A b:=(B.A0 b\/(B.w0.heap.size<=b/\b<w.heap.size))/\∀i ob g,look o G i ob g->ob.live=true->¬g.F b
 V i:=∀ob,o[i]? =some ob->ob.live=true
 D i b:=∃ob g,look o G i ob g/\ob.live=true/\g.F b/\∀a,g.a=some a->b≠a.block
 H i ver v:=∃ob g,look o G i ob g/\ver<=ob.ver/\(ob.live=true->ob.ver=ver->v= .slice g.a ob.dM.length g.cap)/\(ver=0->∀x,B.h0 i=some x->v=x)
 L i ver idx off v:=∃ob g,look o G i ob g/\ver<=ob.ver/\(ob.live=true->ob.ver=ver->∃b f,g.a=some ⟨b,f,none⟩/\v= .pointer (some ⟨b,f+(idx*ob.n+off),none⟩))/\(ob.box=true->ver=2->idx=0->off=0->∀x,B.p0 i=some x->v=x.1/\(ob.live=true->ob.ver=2->g.cap=x.2))
def Env.of(E:Env)(box:Bool):Env:=if box then E else E.plain
def qH(w:World)(E:Env)(n:Nat)(l:List (List AV))(a:Option Addr)(cap:Nat)(fp:List Nat):Prop:=
 l.length<=maxLen/\((l=[]/\cap=0/\fp=[])\/
  ∃b off C e fz nU,a=some ⟨b,off,none⟩/\w.heap[b]? =some (.cells C e fz)/\((C.size<=fz.1/\n=1)\/fz.2=0)/\
   off+cap*n<=C.size/\l.length<=cap/\cap<=maxLen/\fp=b::nU/\Rr w E l b off n nU)
theorem rO{w:World}{E:Env}{n:Nat}{l:List (List AV)}{v:Value}{fp:List Nat}:
  R w E (.sl .own n l) v fp↔∃a cap,v= .slice a l.length cap/\qH w E.plain n l a cap fp:=by
 simp only[R,qH];constructor
 .rintro (⟨h,_⟩|⟨a,cap,hv,hl,h|h|h⟩)
  .exact h.elim
  .exact ⟨a,cap,hv,hl.1,.inl h.2⟩
  .exact ⟨a,cap,hv,hl.1,.inr h.2⟩
  .exact absurd rfl h.1
 .rintro ⟨a,cap,hv,hl,h|h⟩
  .exact .inr ⟨a,cap,hv,⟨hl,by simp[h.1]⟩,.inl ⟨trivial,h⟩⟩
  .exact .inr ⟨a,cap,hv,⟨hl,by obtain⟨b,off,C,e,fz,nU,_,_,_,_,h,_⟩:=h;exact h⟩,.inr (.inl ⟨trivial,h⟩)⟩
def Jp(w:World)(E:Env)(ob:aD)(g:CO):Prop:=
 ∃fp,qH w (E.of ob.box) ob.n ob.dM g.a g.cap fp/\fp.Nodup/\∀b∈fp,g.F b
structure nV(w w':World): Prop where
  os:w'.os = w.os
  tape:w'.tape = w.tape
  output:w'.output = w.output
theorem nV.rfl{w:World}:nV w w:=⟨Eq.refl _,Eq.refl _,Eq.refl _⟩
theorem nV.trans{a b c:World}(h:nV a b)(k:nV b c):nV a c:=⟨k.os.trans h.os,k.tape.trans h.tape,k.output.trans h.output⟩
structure dN{P:Program}[aB P](B:fM P)(s:AS)(G:List CO)(a:Act)(w:World): Prop where
  len:G.length = s.o.length
  defs:a.defers = []
  ok:∀ i ob g, look s.o G i ob g -> ob.live = true -> Jp w (env B s.o G w) ob g
  apart:∀ i j oi oj gi gj b, look s.o G i oi gi -> look s.o G j oj gj -> oi.live = true -> oj.live = true -> gi.F b -> gj.F b -> i = j
  fresh:∀ i ob g b, look s.o G i ob g -> ob.live = true -> g.F b -> (B.O0 b \/ B.w0.heap.size <= b) /\ b<w.heap.size
  tmps:Rc w (env B s.o G w) s.t a.tmps.toList []
  size:B.w0.heap.size <= w.heap.size
  frame:∀ b, b<B.w0.heap.size -> ¬ B.O0 b -> w.heap[b]? = B.w0.heap[b]?
  base:∀ b, B.A0 b -> b<B.w0.heap.size
  same:nV B.w0 w
def Rel{P:Program}[aB P](B:fM P)(s:AS)(a:Act)(w:World):Prop:=∃G,dN B s G a w
theorem dN.holds{P:Program}[aB P]{B:fM P}{s:AS}{G:List CO}{a:Act}{w:World}(r:dN B s G a w):aB.holds P w:=
 aB.ZR B.w0 w B.Ab λb hb=>r.frame b (gO hb (aB.UX _ B.Ab)) λh=>absurd (B.Mc b h) (by omega)
theorem dN.Mc{P:Program}[aB P]{B:fM P}{s:AS}{G:List CO}{a:Act}{w:World}(_:dN B s G a w){b:Nat}(h:B.O0 b\/B.w0.heap.size<=b):aB.low P<=b:=
 h.elim (B.Mc b) λh=>kO (aB.UX _ B.Ab) h
theorem dF.of{w w':World}{E E':Env}(k:dF w E w' E')(box:Bool):dF w (E.of box) w' (E'.of box):=by
 cases box
 .exact k.plain
 .exact k
theorem Md(w:World)(E:Env):dF w E.plain w E:=
 ⟨λ_ h=>⟨h,rfl⟩,λ_ _=>trivial,λ_ _ _ h=>h.elim,λ_ _ _ h=>h.elim,λ_ _ _ _ _ h=>h.elim⟩
theorem nH{P:Program}[aB P]{B:fM P}{s:AS}{G:List CO}{a:Act}{w:World}(r:dN B s G a w){b:Nat}(h:(env B s.o G w).A b):b<w.heap.size:=by
 rcases h.1 with h|h
 .exact gO (r.base b h) r.size
 .exact h.2
theorem xG{P:Program}[aB P]{B:fM P}{o o':List aD}{G G':List CO}{w w':World}(hs:w.heap.size<=w'.heap.size)
  (hA:∀b,(env B o G w).A b->b<w.heap.size/\w'.heap[b]? =w.heap[b]?)
  (hlen:G.length=o.length)
  (h2:∀i ob g,look o G i ob g->∃ob' g',look o' G' i ob' g'/\ob.ver<=ob'.ver/\(ob'.box=true->ob.box=true\/ob.ver<2)/\(ob'.live=true->ob.live=true/\ob'.n=ob.n/\
   (ob'.ver=ob.ver->g'.a=g.a/\g'.cap=g.cap/\ob'.dM.length=ob.dM.length)/\
   (∀b,g.F b->(∀a,g.a=some a->b≠a.block)->g'.F b/\(∀a,g'.a=some a->b≠a.block)/\w'.heap[b]? =w.heap[b]?)))
  (h3:∀i ob' g' b,look o' G' i ob' g'->ob'.live=true->g'.F b->w.heap.size<=b\/∃j ob g,look o G j ob g/\ob.live=true/\g.F b):
  dF w (env B o G w) w' (env B o' G' w') where
 a b h:=by
  refine⟨⟨?_,?_⟩,(hA b h).2⟩
  .rcases h.1 with h1|h1
   .exact .inl h1
   .exact .inr ⟨h1.1,gO h1.2 hs⟩
  .intro i ob' g' hl hlive hf;rcases h3 i ob' g' b hl hlive hf with h5|⟨j,ob,g,BU,wC,hf'⟩
   .have:=(hA b h).1;omega
   .exact h.2 j ob g BU wC hf'
 v i h ob tX:=by
  have hi:i<G.length:=by rw[hlen];exact(cQ.1 tX).1
  obtain⟨ob',g',hl,_,_,h5⟩:=h2 i ob G[i] ⟨tX,aE hi⟩;exact(h5 (h ob' hl.1)).1
 d i b hV h:=by obtain⟨ob,g,hl,hlive,hf,hne⟩:=h;obtain⟨ob',g',BU,_,_,h5⟩:=h2 i ob g hl;have wC:=hV ob' BU.1;have h6:=(h5 wC).2.2.2 b hf hne;exact⟨⟨ob',g',BU,wC,h6.1,h6.2.1⟩,h6.2.2⟩
 h i v x h:=by
  obtain⟨ob,g,hl,wW,h5,hz⟩:=h;obtain⟨ob',g',BU,hv',_,h6⟩:=h2 i ob g hl;refine⟨ob',g',BU,by omega,λhlive UY=> ?_,hz⟩;have h7:=h6 hlive;have Y8:ob'.ver=ob.ver:=by omega
  have h8:=h7.2.2.1 Y8;rw[h8.1,h8.2.1,h8.2.2];exact h5 h7.1 (by omega)
 l i v j x y h:=by
  obtain⟨ob,g,hl,wW,h5,hz⟩:=h;obtain⟨ob',g',BU,hv',hb',h6⟩:=h2 i ob g hl;refine⟨ob',g',BU,by omega,λhlive UY=> ?_,λhb hv e1 e2 y hy=>by
   rcases hb' hb with h|h
   .refine ⟨(hz h hv e1 e2 y hy).1,λhlive UY=> ?_⟩
    have h7:=h6 hlive;have Y8:ob'.ver=ob.ver:=by omega
    rw[(h7.2.2.1 Y8).2.1];exact(hz h hv e1 e2 y hy).2 h7.1 (by omega)
   .omega⟩
  have h7:=h6 hlive;have Y8:ob'.ver=ob.ver:=by omega
  have h8:=h7.2.2.1 Y8;rw[h8.1,h7.2.1];exact h5 h7.1 (by omega)
theorem qH.keeps{w w':World}{E E':Env}{n:Nat}{l:List (List AV)}{a:Option Addr}{cap:Nat}{fp:List Nat}(h:qH w E n l a cap fp)(k:dF w E w' E')(hF:∀b∈fp,w'.heap[b]? =w.heap[b]?):qH w' E' n l a cap fp:=by
 refine⟨h.1,?_⟩;rcases h.2 with h|⟨b,off,C,e,fz,nU,ha,hb,hz,h1,h2,h3,rfl,hr⟩
 .exact .inl h
 .refine .inr ⟨b,off,C,e,fz,nU,ha,by rw[hF b (by simp)];exact hb,hz,h1,h2,h3,rfl,lW k _ _ _ _ _ (hF b (by simp)) (λx hx=>hF x (by simp[hx])) hr⟩
theorem Jp.keeps{w w':World}{E E':Env}{ob:aD}{g:CO}(h:Jp w E ob g)(k:dF w E w' E')(hF:∀b,g.F b->w'.heap[b]? =w.heap[b]?):Jp w' E' ob g:=by obtain⟨fp,hr,hn,hf⟩:=h;exact⟨fp,hr.keeps (k.of ob.box) (λb hb=>hF b (hf b hb)),hn,hf⟩
theorem fA{w:World}{E:Env}:∀{c:List AV} {cs:List Value} {fp:List Nat},Rc w E c cs fp->cs.length=c.length
 |[],[],_,_=>rfl
 |[],_::_,_,h=>by simp[Rc]at h
 |_::_,[],_,h=>by simp[Rc]at h
 |_::xs,_::cs,fp,h=>by simp only[Rc]at h;obtain⟨f1,f2,_,h2,_⟩:=h;simp[fA h2]
theorem KT{w:World}{E:Env}:∀{c:List AV} {cs:List Value} {i:Nat} {x:AV},Rc w E c cs []->c[i]? =some x->∃v,cs[i]? =some v/\R w E x v []
 |[],_,i,x,_,h=>by simp at h
 |_::_,[],_,_,h,_=>by simp[Rc]at h
 |y::ys,c::cs,i,x,h,hx=>by
  simp only[Rc]at h;obtain⟨f1,f2,h1,h2,e⟩:=h;obtain⟨e1,e2⟩:f1=[]/\f2=[]:=by simpa using e
  subst e1;subst e2;cases i with
  |zero=>simp at hx;subst hx;exact⟨c,rfl,h1⟩
  |succ i=>simpa using KT h2 (by simpa using hx)
theorem Y9{w:World}{E:Env}:∀{c:List AV} {cs:List Value} (i:Nat) {x:AV} {v:Value},Rc w E c cs []->R w E x v []->Rc w E (c.set i x) (cs.set i v) []
 |[],[],i,x,v,h,_=>by simpa using h
 |[],_::_,_,_,_,h,_=>by simp[Rc]at h
 |_::_,[],_,_,_,h,_=>by simp[Rc]at h
 |y::ys,c::cs,i,x,v,h,hx=>by
  simp only[Rc]at h;obtain⟨f1,f2,h1,h2,e⟩:=h;obtain⟨e1,e2⟩:f1=[]/\f2=[]:=by simpa using e
  subst e1;subst e2;cases i with
  |zero=>simp only[cJ,Rc];exact⟨[],[],hx,h2,rfl⟩
  |succ i=>simp only[cH,Rc];exact⟨[],[],h1,Y9 i h2 hx,rfl⟩
theorem iQ{w:World}{E:Env}:∀{c d:List AV} {cs ds:List Value} {f1 f2:List Nat},Rc w E c cs f1->Rc w E d ds f2->Rc w E (c++d) (cs++ds) (f1++f2)
 |[],_,[],_,f1,f2,h,h'=>by simp[Rc]at h;subst h;simpa using h'
 |[],_,_::_,_,_,_,h,_=>by simp[Rc]at h
 |_::_,_,[],_,_,_,h,_=>by simp[Rc]at h
 |y::ys,d,c::cs,ds,f1,f2,h,h'=>by simp only[Rc]at h;obtain⟨g1,g2,h1,h2,rfl⟩:=h;simp only[cW,Rc];exact⟨g1,g2++f2,h1,iQ h2 h',by simp⟩
def AS.put(s:AS)(d:Option Tmp)(x:AV):AS:=match d with
 |some d=>{s with t:=s.t.set d x}
 |none=>s
theorem dN.put{P:Program}[aB P]{B:fM P}{s:AS}{G:List CO}{a:Act}{w:World}(r:dN B s G a w)(d:Option Tmp){x:AV}{v:Value}(h:R w (env B s.o G w) x v []):
  dN B (s.put d x) G (a.put d v) w:=by
 cases d with
 |none=>exact r
 |some d=>exact {r with tmps:=by simpa [AS.put,Act.put]using Y9 d r.tmps h}
theorem dN.next{P:Program}[aB P]{B:fM P}{s:AS}{G:List CO}{a:Act}{w:World}(r:dN B s G a w){o':List aD}{G':List CO}{w':World}
  (k:dF w (env B s.o G w) w' (env B o' G' w')) (len:G'.length=o'.length)
  (ok:∀i ob g,look o' G' i ob g->ob.live=true->Jp w' (env B o' G' w') ob g)
  (apart:∀i j oi oj gi gj b,look o' G' i oi gi->look o' G' j oj gj->oi.live=true->oj.live=true->gi.F b->gj.F b->i=j)
  (fresh:∀i ob g b,look o' G' i ob g->ob.live=true->g.F b->(B.O0 b\/B.w0.heap.size<=b)/\b<w'.heap.size)
  (size:w.heap.size<=w'.heap.size) (frame:∀b,b<B.w0.heap.size->¬B.O0 b->w'.heap[b]? =w.heap[b]?)
  (same:nV w w':=by exact⟨rfl,rfl,rfl⟩):dN B ⟨s.t,o'⟩ G' a w' where
 len:=len
 defs:=r.defs
 ok:=ok
 apart:=apart
 fresh:=fresh
 tmps:=dX k _ _ _ (by simp) r.tmps
 size:=kO r.size size
 frame b h1 h2:=(frame b h1 h2).trans (r.frame b h1 h2)
 base:=r.base
 same:=r.same.trans same
def Z0:Value->AV
 | .int k n=> .int k n
 | .bool b=> .bool b
 | .string s=> .str s.data.toList
 | .slice none 0 0=> .sl .own 0 []
 | .func (.func f) ⟨[]⟩ ⟨[]⟩=> .fn f []
 |_=> .undef
theorem aIz(w:World)(E:Env)(v:Value):R w E (Z0 v) v []:=by unfold Z0;split<;>simp[R,Rc,maxLen]
def AS.ev(s:AS):Operand->AV
 | .tmp t=>s.t.getD t .undef
 | .const v=>Z0 v
 | .func f=> .fn f []
 | .global _=> .undef
theorem dN.ev{P:Program}[aB P]{B:fM P}{s:AS}{G:List CO}{a:Act}{w:World}(r:dN B s G a w)(x:Operand):R w (env B s.o G w) (s.ev x) (a.eval x) []:=by
 cases x with
 |tmp t=>
  simp only[AS.ev,getD];cases h:s.t[t]? with
  |none=>simp[R]
  |some y=>
   obtain⟨v,hv,hr⟩:=KT r.tmps h;simp only[Act.eval,pA];have:a.tmps[t]? =some v:=by simpa using hv
   simpa [eN,this]using hr
 |const v=>exact aIz w _ v
 |func f=>simp[AS.ev,Act.eval,R,Rc]
 |global g=>simp[AS.ev,R]
theorem rP{w:World}{E:Env}:∀{c:List AV} {cs:List Value} {fp:List Nat} (k:Nat),Rc w E c cs fp->
  ∃f1 f2,fp=f1++f2/\Rc w E (c.take k) (cs.take k) f1/\Rc w E (c.drop k) (cs.drop k) f2
 |c,cs,fp,0,h=>⟨[],fp,rfl,by simp[Rc],by simpa using h⟩
 |[],[],fp,k+1,h=>⟨fp,[],by simp,by simpa using h,by simp[Rc]⟩
 |[],_::_,_,_,h=>by simp[Rc]at h
 |_::_,[],_,_,h=>by simp[Rc]at h
 |x::xs,c::cs,fp,k+1,h=>by simp only[Rc]at h;obtain⟨g1,g2,h1,h2,rfl⟩:=h;obtain⟨f1,f2,rfl,h3,h4⟩:=rP k h2;exact⟨g1++f1,f2,by simp,by simp only[fL,Rc];exact⟨g1,f1,h1,h3,rfl⟩,by simpa using h4⟩
theorem BV{w:World}{E:Env}{l2:List (List AV)}{b n:Nat}:∀{l1:List (List AV)} {off:Nat} {fp:List Nat},
  Rr w E (l1++l2) b off n fp↔∃f1 f2,fp=f1++f2/\Rr w E l1 b off n f1/\Rr w E l2 b (off+l1.length*n) n f2
 |[],off,fp=>by
  simp only[cY,Rr,eR,Nat.zero_mul,rS];constructor
  .intro h;exact⟨[],fp,by simp,rfl,h⟩
  .rintro ⟨f1,f2,rfl,rfl,h⟩;simpa using h
 |e::es,off,fp=>by
  simp only[cW,Rr,BV (l1:=es),dT];have e1:∀m,off+(m+1)*n=off+n+m*n:=λm=>by rw[rB];omega
  constructor
  .rintro ⟨cs,f1,f2,hn,hc,h1,hr,⟨g1,g2,rfl,h3,h4⟩,rfl⟩;exact⟨f1++g1,g2,by simp,⟨cs,f1,g1,hn,hc,h1,hr,h3,rfl⟩,by rw[e1];exact h4⟩
  .rintro ⟨f1,f2,rfl,⟨cs,g1,g2,hn,hc,h1,hr,h3,rfl⟩,h4⟩;exact⟨cs,g1,g2++f2,hn,hc,h1,hr,⟨g2,f2,rfl,h3,by rw[e1]at h4;exact h4⟩,by simp⟩
theorem Ac{w:World}{E:Env}{l:List (List AV)}{b off n:Nat}{fp:List Nat}{i:Nat}{e:List AV}(h:Rr w E l b off n fp)(hi:l[i]? =some e):
  ∃f1 f2 f3 cs,fp=f1++f2++f3/\cs.length=n/\dU w b (off+i*n) cs/\(∀x∈cs,x.oneCell'=true)/\Rc w E e cs f2/\
   Rr w E (l.take i) b off n f1/\Rr w E (l.drop (i+1)) b (off+(i+1)*n) n f3:=by
 obtain⟨hlt,rfl⟩:=cQ.1 hi;have hl:l=l.take i++l[i]::l.drop (i+1):=by simp
 rw[hl]at h;obtain⟨f1,f4,rfl,h1,h2⟩:=BV.1 h;have hti:(l.take i).length=i:=by simp;omega
 rw[hti]at h2;simp only[Rr]at h2;obtain⟨cs,f2,f3,hn,hc,ho,hr,h3,rfl⟩:=h2;refine⟨f1,f2,f3,cs,by simp,hn,hc,ho,hr,h1,?_⟩;rw[rB,Nat.one_mul,<-oE];exact h3
theorem WI{w:World}{E:Env}{l:List (List AV)}{b off n:Nat}{i:Nat}{e:List AV}{f1 f2 f3:List Nat}{cs:List Value}(hi:i<l.length)(hn:cs.length=n)
  (hc:dU w b (off+i*n) cs) (ho:∀x∈cs,x.oneCell'=true) (hr:Rc w E e cs f2) (h1:Rr w E (l.take i) b off n f1) (h3:Rr w E (l.drop (i+1)) b (off+(i+1)*n) n f3):
  Rr w E (l.set i e) b off n (f1++f2++f3):=by
 have hl:l.set i e=l.take i++e::l.drop (i+1):=by rw[set_eq_take_append_cons_drop];simp[hi]
 rw[hl];refine BV.2 ⟨f1,f2++f3,by simp,h1,?_⟩;have hti:(l.take i).length=i:=by simp;omega
 rw[hti];simp only[Rr];refine⟨cs,f2,f3,hn,hc,ho,hr,?_,rfl⟩;rw[rB,Nat.one_mul,<-oE]at h3;exact h3
theorem Oy{w w':World}{E E':Env}(k:dF w E w' E'){b lo hi:Nat}(BX:∀j,j<lo\/hi<=j->w'.cell? ⟨b,j,none⟩=w.cell? ⟨b,j,none⟩):∀{l:List (List AV)} {off n:Nat} {fp:List Nat},
  (∀x∈fp,w'.heap[x]? =w.heap[x]?)->(off+l.length*n<=lo\/hi<=off)->Rr w E l b off n fp->Rr w' E' l b off n fp
 |[],_,_,_,_,_,h=>by simpa [Rr]using h
 |e::es,off,n,fp,hf,hr,h=>by
  simp only[Rr]at h⊢;obtain⟨cs,f1,f2,hn,hc,ho,h1,h2,rfl⟩:=h;have hl:(es.length+1)*n=n+es.length*n:=by rw[rB];omega
  simp only[dT,hl]at hr;refine⟨cs,f1,f2,hn,?_,ho,dX k _ _ _ (λx hx=>hf x (by simp[hx])) h1,Oy k BX (λx hx=>hf x (by simp[hx])) (by omega) h2,rfl⟩;intro j v hv;rw[BX]
  .exact hc j v hv
  .have:j<cs.length:=(cQ.1 hv).1;omega
theorem dU.drop{w:World}{b off k:Nat}{cs:List Value}(h:dU w b off cs):dU w b (off+k) (cs.drop k):=by
 intro j v hv;rw[getElem?_drop]at hv;have:=h _ _ hv
 rwa[<-oE]at this
theorem dU.take{w:World}{b off k:Nat}{cs:List Value}(h:dU w b off cs):dU w b off (cs.take k):=by
 intro j v hv;rw[Cd]at hv;split at hv
 .exact h _ _ hv
 .cases hv
theorem addr_add(b o n:Nat):(⟨b,o,none⟩:Addr).add n=⟨b,o+n,none⟩:=Addr.add_lit b o n
theorem dU.run{P:Program}{w:World}{b off:Nat}{cs:List Value}(h:dU w b off cs):(loadCells ⟨b,off,none⟩ cs.length).run P w= .ok cs.toArray w:=
 run_loadCells_list w _ cs (λj v hv=>by rw[addr_add];exact h j v hv)
def jV(P:Program)(t:TypeId):Option Nat:=
 match P.underlying t with
 |some (.struct _)=>(P.info? t).map (·.size)
 |some (.array _ _)=>(P.info? t).map (·.size)
 |_=>none
def mH(P:Program)(t:TypeId):Bool:=
 match P.underlying t with
 |some (.struct _)=>false
 |some (.array _ _)=>false
 |some _=>(P.info? t).map (·.size) == some 1
 |none=>false
theorem UZ{P:Program}{w:World}{t:TypeId}{b off:Nat}{cs:List Value}(ht:jV P t=some cs.length)(h:dU w b off cs):
  (loadVar t ⟨b,off,none⟩).run P w= .ok (.agg cs.toArray) w:=by
 unfold jV at ht;have hr:=h.run (P:=P);split at ht
 .rename_i d hd;cases hi:P.info? t with
  |none=>simp[hi]at ht
  |some i=>simp[hi]at ht;simp[loadVar,isAgg,gC hd,sizeOf,typeInfo,hi,ht,hr]
 .rename_i d hd;cases hi:P.info? t with
  |none=>simp[hi]at ht
  |some i=>simp[hi]at ht;simp[loadVar,isAgg,gC hd,sizeOf,typeInfo,hi,ht,hr]
 .cases ht
theorem Va{P:Program}{w:World}{t:TypeId}{b off:Nat}{v:Value}(ht:mH P t=true)(h:dU w b off [v]):
  (loadVar t ⟨b,off,none⟩).run P w= .ok v w:=by
 unfold mH at ht;have h0:=h 0 v rfl;split at ht
 .cases ht
 .cases ht
 .rename_i d hd h1 h2;simp only[loadVar,isAgg,oA,gC h2,lP];cases d<;>simp_all
 .cases ht
theorem uP(b b':Nat)(hb:b'≠b):∀(vs:List Value) (o:Nat) (w:World),(w.setCells b o vs).heap[b']? =w.heap[b']?
 |[],_,_=>rfl
 |v::r,o,w=>by rw[World.setCells,uP b b' hb r];simp[World.setCell,Cp,wA hb]
theorem uQ(b:Nat):∀(vs:List Value) (o:Nat) (w:World),(w.setCells b o vs).heap.size=w.heap.size
 |[],_,_=>rfl
 |v::r,o,w=>by rw[World.setCells,uQ b r];simp
theorem xX(b:Nat):∀(vs:List Value) (o:Nat) (w:World),nV w (w.setCells b o vs)
 |[],_,_=>nV.rfl
 |v::r,o,w=>by rw[World.setCells];exact nV.trans (b:=w.setCell ⟨b,o,none⟩ v) ⟨rfl,rfl,rfl⟩ (xX b r (o+1) _)
theorem wD(b:Nat)(e:TypeId)(fz:Nat×Nat):∀(vs:List Value) (o:Nat) (w:World) (C:Array Value),w.heap[b]? =some (.cells C e fz)->
  ∃C',(w.setCells b o vs).heap[b]? =some (.cells C' e fz)/\C'.size=C.size
 |[],_,w,C,h=>⟨C,h,rfl⟩
 |v::r,o,w,C,h=>by
  rw[World.setCells];have:(w.setCell ⟨b,o,none⟩ v).heap[b]? =some (.cells (C.setIfInBounds o v) e fz):=by simp[World.setCell,Cp,h]
  obtain⟨C',h1,h2⟩:=wD b e fz r (o+1) _ _ this;exact⟨C',h1,by simpa using h2⟩
theorem yT{P:Program}{w:World}{b off:Nat}{C:Array Value}{e:TypeId}{fz:Nat×Nat}{vs:List Value}{q:Prop}(hb:w.heap[b]? =some (.cells C e fz))(hz:(C.size<=fz.1/\q)\/fz.2=0)
  (yF:off+vs.length<=C.size) (h1:∀v∈vs,v.oneCell'=true):(storeCells ⟨b,off,none⟩ vs).run P w= .ok () (w.setCells b off vs):=by
 have:=run_storeCells_cells (P:=P) b off vs 0 w (λj hj=>by
  have:off+j<C.size:=by omega
  simp[World.cell?,hb,this]) (λj hj=>by
  simp only[World.frozen?,hb];rcases hz with⟨hz,_⟩|hz
  .have:¬fz.1<=off+j:=by omega
   simp[this]
  .simp [hz]) h1
 simpa using this
theorem yG{o:List aD}{G:List CO}{i j:Nat}{ob':aD}{g':CO}{x:aD}{y:CO}(h:look (o.set i ob') (G.set i g') j x y):
  (j=i/\x=ob'/\y=g')\/(j≠i/\look o G j x y):=by
 obtain⟨h1,h2⟩:=h;rw[DO]at h1 h2;by_cases hj:i=j
 .subst hj;left;simp only[eV]at h1 h2;split at h1
  .split at h2
   .exact ⟨rfl,(cU h1).symm,(cU h2).symm⟩
   .cases h2
  .cases h1
 .simp only[hj,eS]at h1 h2;exact .inr ⟨λe=>hj e.symm,h1,h2⟩
theorem pI{o:List aD}{G:List CO}{i:Nat}{ob':aD}{g':CO}{x:aD}{y:CO}(h:look o G i x y):look (o.set i ob') (G.set i g') i ob' g':=by have h1:=(cQ.1 h.1).1;have h2:=(cQ.1 h.2).1;constructor<;>simp[h1,h2]
theorem Ba{o:List aD}{G:List CO}{i j:Nat}{ob':aD}{g':CO}{x:aD}{y:CO}(h:look o G j x y)(hj:j≠i):look (o.set i ob') (G.set i g') j x y:=by
 constructor
 .rw [gR (wA hj)];exact h.1
 .rw [gR (wA hj)];exact h.2
theorem iD{o:List aD}{G:List CO}{i:Nat}{x x':aD}{y y':CO}(h:look o G i x y)(h':look o G i x' y'):x=x'/\y=y':=
 ⟨cU (h.1.symm.trans h'.1),cU (h.2.symm.trans h'.2)⟩
theorem dN.aF7{P:Program}[aB P]{B:fM P}{s:AS}{G:List CO}{a:Act}{w:World}(r:dN B s G a w){i:Nat}{ob:aD}{g:CO}(hl:look s.o G i ob g)(hlive:ob.live=true){w':World}
  (iH:∀b,b<w.heap.size->¬(g.F b/\∃a,g.a=some a/\b=a.block)->w'.heap[b]? =w.heap[b]?):
  (∀b,(env B s.o G w).A b->w'.heap[b]? =w.heap[b]?)/\(∀j oj gj b,look s.o G j oj gj->oj.live=true->j≠i->gj.F b->w'.heap[b]? =w.heap[b]?):=by
 refine⟨λb hb=>iH b (nH r hb) (λh=>hb.2 i ob g hl hlive h.1),λj oj gj b hj hjl hne hf=> ?_⟩;exact iH b (r.fresh j oj gj b hj hjl hf).2 (λh=>hne (r.apart j i oj ob gj g b hj hl hjl hlive hf h.1))
theorem dN.modify{P:Program}[aB P]{B:fM P}{s:AS}{G:List CO}{a:Act}{w:World}(r:dN B s G a w){i:Nat}{ob:aD}{g:CO}(hl:look s.o G i ob g)(hlive:ob.live=true)
  (ob':aD) (g':CO) (w':World) (wW:ob.ver<=ob'.ver) (hn:ob'.n=ob.n)
  (aRk:ob'.ver=ob.ver->g'.a=g.a/\g'.cap=g.cap/\ob'.dM.length=ob.dM.length)
  (hF:∀b,g'.F b->g.F b\/(w.heap.size<=b/\b<w'.heap.size))
  (hD:∀b,g.F b->(∀a,g.a=some a->b≠a.block)->g'.F b/\(∀a,g'.a=some a->b≠a.block))
  (iH:∀b,b<w.heap.size->¬(g.F b/\∃a,g.a=some a/\b=a.block)->w'.heap[b]? =w.heap[b]?)
  (hs:w.heap.size<=w'.heap.size)
  (ok':dF w (env B s.o G w) w' (env B (s.o.set i ob') (G.set i g') w')->ob'.live=true->Jp w' (env B (s.o.set i ob') (G.set i g') w') ob' g') (same:nV w w':=by first|exact⟨rfl,rfl,rfl⟩|exact xX _ _ _ _) (hbx:ob'.box=true->ob.box=true\/ob.ver<2:=by first|exact λh=> .inl h|(intro h;cases h)):
  dN B ⟨s.t,s.o.set i ob'⟩ (G.set i g') a w'/\dF w (env B s.o G w) w' (env B (s.o.set i ob') (G.set i g') w'):=by
 have hsm:=r.aF7 hl hlive iH;have k:dF w (env B s.o G w) w' (env B (s.o.set i ob') (G.set i g') w'):=by
  refine xG hs (λb hb=>⟨nH r hb,hsm.1 b hb⟩) r.len ?_ ?_
  .intro j oj gj hj;by_cases e:j=i
   .subst e;obtain⟨rfl,rfl⟩:=iD hl hj;refine⟨ob',g',pI hl,wW,hbx,λ_=>⟨hlive,hn,aRk,λb hf hne=> ?_⟩⟩;have:=hD b hf hne;exact⟨this.1,this.2,iH b (r.fresh j _ _ b hl hlive hf).2 (λh=>by obtain⟨_,a,ha,rfl⟩:=h;exact hne a ha rfl)⟩
   .refine ⟨oj,gj,Ba hj e,eE _,λh=> .inl h,λhjl=>⟨hjl,rfl,λ_=>⟨rfl,rfl,rfl⟩,λb hf hne=>⟨hf,hne,hsm.2 j oj gj b hj hjl e hf⟩⟩⟩
  .intro j oj gj b hj hjl hf;rcases yG hj with⟨rfl,rfl,rfl⟩|⟨_,ZM⟩
   .rcases hF b hf with h|h
    .exact .inr ⟨j,ob,g,hl,hlive,h⟩
    .exact .inl h.1
   .exact .inr ⟨j,oj,gj,ZM,hjl,hf⟩
 refine⟨r.next k (by simp[r.len]) ?_ ?_ ?_ hs ?_ same,k⟩
 .intro j oj gj hj hjl;rcases yG hj with⟨rfl,rfl,rfl⟩|⟨hne,ZM⟩
  .exact ok' k hjl
  .exact (r.ok j oj gj ZM hjl).keeps k (λb hb=>hsm.2 j oj gj b ZM hjl hne hb)
 .intro j1 j2 o1 o2 g1 g2 b h1 h2 hl1 hl2 hf1 hf2;rcases yG h1 with⟨rfl,rfl,rfl⟩|⟨aRl,h1'⟩<;>rcases yG h2 with⟨rfl,rfl,rfl⟩|⟨aRm,ZT⟩
  .rfl
  .exfalso;rcases hF b hf1 with h|h
   .exact aRm (r.apart _ _ _ _ _ _ b ZT hl hl2 hlive hf2 h)
   .have:=(r.fresh _ _ _ b ZT hl2 hf2).2;omega
  .exfalso;rcases hF b hf2 with h|h
   .exact aRl (r.apart _ _ _ _ _ _ b h1' hl hl1 hlive hf1 h)
   .have:=(r.fresh _ _ _ b h1' hl1 hf1).2;omega
  .exact r.apart _ _ _ _ _ _ b h1' ZT hl1 hl2 hf1 hf2
 .intro j oj gj b hj hjl hf;rcases yG hj with⟨rfl,rfl,rfl⟩|⟨hne,ZM⟩
  .rcases hF b hf with h|h
   .have:=r.fresh _ _ _ b hl hlive h;exact⟨this.1,gO this.2 hs⟩
   .exact ⟨.inr (kO r.size h.1),h.2⟩
  .have:=r.fresh _ _ _ b ZM hjl hf;exact⟨this.1,gO this.2 hs⟩
 .intro b hb hO;refine iH b (gO hb r.size) (λh=> ?_);have:=(r.fresh _ _ _ b hl hlive h.1).1;rcases this with h|h
  .exact hO h
  .omega
theorem lH{o o2:List aD}{G G2:List CO}(hlen:G.length=o.length){i:Nat}{x:aD}{y:CO}(h:look (o++o2) (G++G2) i x y):
  (i<o.length/\look o G i x y)\/(o.length<=i/\look o2 G2 (i-o.length) x y):=by
 obtain⟨h1,h2⟩:=h;by_cases hi:i<o.length
 .rw [pS hi]at h1;rw[pS (by omega)]at h2;exact .inl ⟨hi,h1,h2⟩
 .rw [mL (by omega)]at h1;rw[mL (by omega),hlen]at h2;exact .inr ⟨by omega,h1,h2⟩
theorem jK{o o2:List aD}{G G2:List CO}{i:Nat}{x:aD}{y:CO}(h:look o G i x y):look (o++o2) (G++G2) i x y:=by have h1:=(cQ.1 h.1).1;have h2:=(cQ.1 h.2).1;exact⟨by rw[pS h1];exact h.1,by rw[pS h2];exact h.2⟩
theorem kK{o o2:List aD}{G G2:List CO}(hlen:G.length=o.length){i:Nat}{x:aD}{y:CO}(h:look o2 G2 i x y):look (o++o2) (G++G2) (o.length+i) x y:=by refine⟨by rw[mL (by omega),Nat.add_sub_cancel_left];exact h.1,?_⟩;rw[mL (by omega),hlen,Nat.add_sub_cancel_left];exact h.2
theorem dN.add{P:Program}[aB P]{B:fM P}{s:AS}{G:List CO}{a:Act}{w:World}(r:dN B s G a w)(obs:List aD)(Gs:List CO)(w':World)(hlen:Gs.length=obs.length)
  (hs:w.heap.size<=w'.heap.size) (iH:∀b,b<w.heap.size->w'.heap[b]? =w.heap[b]?)
  (hF:∀j ob g b,look obs Gs j ob g->ob.live=true->g.F b->w.heap.size<=b/\b<w'.heap.size)
  (hap:∀i j oi oj gi gj b,look obs Gs i oi gi->look obs Gs j oj gj->oi.live=true->oj.live=true->gi.F b->gj.F b->i=j)
  (ok:dF w (env B s.o G w) w' (env B (s.o++obs) (G++Gs) w')->∀j ob g,look obs Gs j ob g->ob.live=true->Jp w' (env B (s.o++obs) (G++Gs) w') ob g) (same:nV w w':=by first|exact⟨rfl,rfl,rfl⟩|exact xX _ _ _ _):
  dN B ⟨s.t,s.o++obs⟩ (G++Gs) a w'/\dF w (env B s.o G w) w' (env B (s.o++obs) (G++Gs) w'):=by
 have k:dF w (env B s.o G w) w' (env B (s.o++obs) (G++Gs) w'):=by
  refine xG hs (λb hb=>⟨nH r hb,iH b (nH r hb)⟩) r.len ?_ ?_
  .intro j oj gj hj;exact⟨oj,gj,jK hj,eE _,λh=> .inl h,λhjl=>⟨hjl,rfl,λ_=>⟨rfl,rfl,rfl⟩,λb hf hne=>⟨hf,hne,iH b (r.fresh j oj gj b hj hjl hf).2⟩⟩⟩
  .intro j oj gj b hj hjl hf;rcases lH r.len hj with⟨_,h⟩|⟨_,h⟩
   .exact .inr ⟨j,oj,gj,h,hjl,hf⟩
   .exact .inl (hF _ _ _ b h hjl hf).1
 refine⟨r.next k (by simp[r.len,hlen]) ?_ ?_ ?_ hs ?_ same,k⟩
 .intro j oj gj hj hjl;rcases lH r.len hj with⟨_,h⟩|⟨_,h⟩
  .exact (r.ok j oj gj h hjl).keeps k (λb hb=>iH b (r.fresh j oj gj b h hjl hb).2)
  .exact ok k _ _ _ h hjl
 .intro j1 j2 o1 o2 g1 g2 b h1 h2 hl1 hl2 hf1 hf2;rcases lH r.len h1 with⟨_,h1⟩|⟨hj1,h1⟩<;>rcases lH r.len h2 with⟨_,h2⟩|⟨hj2,h2⟩
  .exact r.apart _ _ _ _ _ _ b h1 h2 hl1 hl2 hf1 hf2
  .have:=(r.fresh _ _ _ b h1 hl1 hf1).2;have:=(hF _ _ _ b h2 hl2 hf2).1;omega
  .have:=(r.fresh _ _ _ b h2 hl2 hf2).2;have:=(hF _ _ _ b h1 hl1 hf1).1;omega
  .have:=hap _ _ _ _ _ _ b h1 h2 hl1 hl2 hf1 hf2;omega
 .intro j oj gj b hj hjl hf;rcases lH r.len hj with⟨_,h⟩|⟨_,h⟩
  .have:=r.fresh _ _ _ b h hjl hf;exact⟨this.1,gO this.2 hs⟩
  .have:=hF _ _ _ b h hjl hf;exact⟨.inr (kO r.size this.1),this.2⟩
 .intro b hb hO;exact iH b (gO hb r.size)
def slN(P:Program):Nat->TypeId->List Nat
 |0,_=>[]
 |f+1,t=>match P.underlying t with
  |some (.slice e)=>[P.cellsOf e]
  |some (.struct fs)=>fs.toList.flatMap λx=>slN P f x.type
  |some (.array n e)=>(replicate n (slN P f e)).flatten
  |_=>[0]
def aKc(n:Nat):AV->AV
 | .sl .own _ []=> .sl .own n []
 |x=>x
def Vb:List AV->List Nat->List AV
 |x::xs,n::ns=>aKc n x::Vb xs ns
 |xs,[]=>xs
 |[],_=>[]
theorem aKd(w:World)(E:Env)(n:Nat)(v:Value):R w E (aKc n (Z0 v)) v []:=by unfold Z0;split<;>simp[aKc,R,Rc,maxLen]
theorem FE(w:World)(E:Env):∀(vs:List Value) (ns:List Nat),Rc w E (Vb (vs.map Z0) ns) vs []
 |[],[]=>by simp[Vb,Rc]
 |[],_::_=>by simp[Vb,Rc]
 |v::vs,[]=>by
  have:=FE w E vs [];have e:Vb (vs.map Z0) []=vs.map Z0:=by cases vs<;>rfl
  rw[e]at this;simp only[lA,Vb,Rc];exact⟨[],[],aIz w E v,this,rfl⟩
 |v::vs,n::ns=>by simp only[lA,Vb,Rc];exact⟨[],[],aKd w E n v,FE w E vs ns,rfl⟩
def nW(P:Program)(t:TypeId):Option (List AV):=
 match (P.info? t).bind (·.zero)with
 |some v=>if v.cells.toList.all (·.oneCell')then some (Vb (v.cells.toList.map Z0) (slN P 8 t))else none
 |none=>none
def lQ(P:Program)(t:TypeId):Option (TypeId×Nat×Nat):=
 match P.underlying t with
 |some (.slice e)=>(P.info? e).map λi=>(e,i.size,i.bytes)
 |_=>none
def KU(P:Program)(t:TypeId)(f:Nat):Option Nat:=
 match P.underlying t with
 |some (.struct fs)=>match fs[f]? with
  |some fd=>match P.info? fd.type with
   |some i=>if i.size=0 then none else some fd.offset
   |none=>none
  |none=>none
 |_=>none
def AV.cells:AV->List AV
 | .agg c=>c
 |x=>[x]
def AV.known:AV->Bool
 | .undef=>false
 | .iP _=>false
 | .sl (.iZ _) _ _=>false
 | .fH (.iZ _) _ _=>false
 | .obj _ _=>false
 | .ptr _ _ _ _=>false
 |_=>true
def AV.isObj(o:List aD)(i ver:Nat):Option aD:=
 match o[i]? with
 |some ob=>if ob.live=true/\ob.ver=ver then some ob else none
 |none=>none
def AV.fit(o:List aD):AV->Bool
 | .undef=>false
 | .iP _=>false
 | .sl (.iZ i) _ _=>match o[i]? with
  |some ob=>ob.live
  |none=>false
 | .fH (.iZ i) _ _=>match o[i]? with
  |some ob=>ob.live
  |none=>false
 | .obj i ver=>(AV.isObj o i ver).isSome
 | .ptr i ver _ _=>(AV.isObj o i ver).isSome
 |_=>true
theorem Od{P:Program}[aB P]{B:fM P}{o:List aD}{G:List CO}{w:World}{x:AV}{v:Value}{fp:List Nat}(hf:x.fit o=true)(h:R w (env B o G w) x v fp):
  Rc w (env B o G w) x.cells v.cells.toList fp/\(∀c∈v.cells.toList,c.oneCell'=true)/\(∀c,x= .agg c->∃cs,v= .agg cs)/\((∀c,x≠ .agg c)->v.cells=#[v]/\v.oneCell'=true):=by
 have one:∀{x:AV} {v:Value} {fp:List Nat},R w (env B o G w) x v fp->x.cells=[x]->v.cells=#[v]->v.oneCell'=true->(∀c,x≠ .agg c)->
   Rc w (env B o G w) x.cells v.cells.toList fp/\(∀c∈v.cells.toList,c.oneCell'=true)/\(∀c,x= .agg c->∃cs,v= .agg cs)/\((∀c,x≠ .agg c)->v.cells=#[v]/\v.oneCell'=true):=by
  intro x v fp h h1 h2 h3 h4;rw[h1,h2];refine⟨by simp only[Rc];exact⟨fp,[],h,rfl,by simp⟩,by simpa using h3,λc hc=>absurd hc (h4 c),λ_=>⟨rfl,h3⟩⟩
 cases x with
 |int k n=>have h':=h;simp only[R]at h';obtain⟨rfl,_⟩:=h';exact one h rfl rfl rfl (by simp)
 |bool b=>have h':=h;simp only[R]at h';obtain⟨rfl,_⟩:=h';exact one h rfl rfl rfl (by simp)
 |str b=>have h':=h;simp only[R]at h';obtain⟨rfl,_⟩:=h';exact one h rfl rfl rfl (by simp)
 |sl g n l=>
  have h':=h;simp only[R]at h';rcases h' with⟨hd,_⟩|⟨a,cap,rfl,_⟩
  .cases g with
   |own=>exact hd.elim
   |view=>exact hd.elim
   |iZ i=>simp only[AV.fit]at hf;exfalso;refine hd (λob tX=> ?_);simpa [tX]using hf
  .exact one h rfl rfl rfl (by simp)
 |fH g c off=>
  have h':=h;simp only[R]at h';rcases h' with⟨hd,_⟩|⟨_,b,o,cs,rfl,_⟩
  .cases g with
   |own=>exact hd.elim
   |view=>exact hd.elim
   |iZ i=>simp only[AV.fit]at hf;exfalso;refine hd (λob tX=> ?_);simpa [tX]using hf
  .exact one h rfl rfl rfl (by simp)
 |obj i ver=>
  have h':=h;simp only[R]at h';obtain⟨_,ob,g,hl,_,hh,_⟩:=h';simp only[AV.fit,AV.isObj,hl.1]at hf;split at hf
  .rename_i hc;have:=hh hc.1 hc.2;subst this;exact one h rfl rfl rfl (by simp)
  .cases hf
 |ptr i ver idx off=>
  have h':=h;simp only[R]at h';obtain⟨_,ob,g,hl,_,hh,_⟩:=h';simp only[AV.fit,AV.isObj,hl.1]at hf;split at hf
  .rename_i hc;obtain⟨b,f,_,rfl⟩:=hh hc.1 hc.2;exact one h rfl rfl rfl (by simp)
  .cases hf
 |agg c=>simp only[R]at h;obtain⟨cs,rfl,ho,hr⟩:=h;exact⟨by simpa [AV.cells,Value.cells]using hr,by simpa [Value.cells]using ho,λ_ _=>⟨_,rfl⟩,λhne=>absurd rfl (hne c)⟩
 |iP c=>cases hf
 |fn f c=>have h':=h;simp only[R]at h';obtain⟨_,cs,rfl,_⟩:=h';exact one h rfl rfl rfl (by simp)
 |undef=>cases hf
def Step(P:Program)[aB P](B:fM P)(o:Oper)(s s':AS):Prop:=
 ∀a w next Q,Rel B s a w->(∀a' w',Rel B s' a' w'->next a' w')->o.wp P a w next Q
theorem qI{P:Program}[aB P]{B:fM P}{o:Oper}{s s':AS}
  (h:∀G a w,dN B s G a w->∃v w',(execOp a.eval o).run P w= .ok (.value v) w'/\Rel B s' (a.put o.dst v) w'):Step P B o s s':=by
 rintro a w next Q ⟨G,r⟩ hn
 obtain⟨v,w',hr,Hg⟩:=h G a w r;unfold Oper.wp;rw[hr];exact hn _ _ Hg
theorem Oz{P:Program}[aB P]{B:fM P}{o:Oper}{s s':AS}
  (h:∀G a w,dN B s G a w->∃w',(execOp a.eval o).run P w= .ok .skip w'/\Rel B s' (a.put o.dst Go.undef) w'):Step P B o s s':=by
 rintro a w next Q ⟨G,r⟩ hn
 obtain⟨w',hr,Hg⟩:=h G a w r;unfold Oper.wp;rw[hr];exact hn _ _ Hg
theorem dO{P:Program}[aB P]{B:fM P}{o:Oper}{s:AS}{x:AV}
  (h:∀G a w,dN B s G a w->∃v,(execOp a.eval o).run P w= .ok (.value v) w/\R w (env B s.o G w) x v []):Step P B o s (s.put o.dst x):=
 qI λG a w r=>let⟨v,hr,hx⟩:=h G a w r;⟨v,w,hr,G,r.put o.dst hx⟩
section
variable{P:Program}[aB P]{B:fM P}{s:AS}{dst:Option Tmp}{ty:TypeId}{pos:String}{after:Array Edge}{gd:Option (Nat × Bool)}
theorem zf(x:Operand):Step P B ⟨dst,.move x,ty,pos,after,gd⟩ s (s.put dst (s.ev x)):=
 dO λ_ a _ r=>⟨a.eval x,rfl,r.ev x⟩
theorem WJ(x:Operand):Step P B ⟨dst,.assign x,ty,pos,after,gd⟩ s (s.put dst (s.ev x)):=
 dO λ_ a _ r=>⟨a.eval x,rfl,r.ev x⟩
def AS.box(s:AS)(d:Option Tmp)(c:List AV):AS:=AS.put ⟨s.t,s.o++[⟨true,true,c.length,0,[c]⟩]⟩ d (.ptr s.o.length 0 0 0)
theorem heap_alloc(w:World)(o:Obj)(b:Nat)(h:b<w.heap.size):(w.alloc o).heap[b]? =w.heap[b]?:=heap_alloc_old w o h
theorem jP(w:World)(o:Obj):(w.alloc o).heap[w.heap.size]? =some o:=heap_alloc_new w o
theorem dN.aNt{G:List CO}{a:Act}{w:World}(r:dN B s G a w)(ob:aD)(cap:Nat)(C:Array Value)(e:TypeId)
  (hl:ob.dM.length<=cap) (sP:cap<=maxLen) (hC:cap*ob.n<=C.size)
  (hr:∀w' E',dF w ((env B s.o G w).of ob.box) w' E'->w'.heap[w.heap.size]? =some (.cells C e (0,0))->Rr w' E' ob.dM w.heap.size 0 ob.n []):
  ∃G',dN B ⟨s.t,s.o++[ob]⟩ G' a (w.alloc (.cells C e))/\dF w (env B s.o G w) (w.alloc (.cells C e)) (env B (s.o++[ob]) G' (w.alloc (.cells C e)))/\
   G'[s.o.length]? =some ⟨some ⟨w.heap.size,0,none⟩,cap,λb=>b=w.heap.size⟩:=by
 refine⟨G++[⟨some ⟨w.heap.size,0,none⟩,cap,λb=>b=w.heap.size⟩],?_⟩;have:=r.add [ob] [⟨some ⟨w.heap.size,0,none⟩,cap,λb=>b=w.heap.size⟩] (w.alloc (.cells C e)) rfl (by simp) (λb hb=>heap_alloc w _ b hb) ?_ ?_ ?_
 .refine ⟨this.1,this.2,?_⟩;rw[<-r.len];simp
 .rintro j x y b ⟨h1,h2⟩ _ hf;cases j with
  |zero=>simp at h2;subst h2;simp at hf;subst hf;simp
  |succ j=>simp at h2
 .rintro i j _ _ _ _ b ⟨h1,_⟩ ⟨h2,_⟩ _ _ _ _;cases i<;>cases j<;>simp_all
 .rintro k j x y ⟨h1,h2⟩ _;cases j with
  |zero=>simp at h1 h2;subst h1;subst h2;refine⟨[w.heap.size],⟨kO hl sP,.inr ⟨w.heap.size,0,C,e,(0,0),[],rfl,jP w _,.inr rfl,by simpa using hC,hl,sP,rfl,?_⟩⟩,by simp,by simp⟩;exact hr _ _ (k.of ob.box) (jP w _)
  |succ j=>simp at h1
theorem Tx{o:List aD}{G':List CO}{ob:aD}{g:CO}(h:G'[o.length]? =some g):look (o++[ob]) G' o.length ob g:=⟨by simp,h⟩
theorem Hl(P:Program)(w:World)(t:TypeId)(v:Value):(newVar t v).run P w= .ok ⟨w.heap.size,0,none⟩ (w.alloc (.cells v.cells t)):=by simp[newVar,newRow]
theorem dN.boxed{G:List CO}{a:Act}{w:World}(r:dN B s G a w)(d:Option Tmp){c:List AV}{cs:Array Value}(t:TypeId)(ho:∀x∈cs.toList,x.oneCell'=true)
  (hr:Rc w (env B s.o G w) c cs.toList []):Rel B (s.box d c) (a.put d (.pointer (some ⟨w.heap.size,0,none⟩))) (w.alloc (.cells cs t)):=by
 have hl:=fA hr;obtain⟨G',r',k,hG⟩:=r.aNt ⟨true,true,c.length,0,[c]⟩ 1 cs t (by simp) (by simp[maxLen]) (by simpa using tP hl.symm) (λw' E' k hb=>by
  simp only[Rr];refine⟨cs.toList,[],[],by simpa using hl,?_,ho,dX k _ _ _ (by simp) hr,rfl,rfl⟩;intro j v hv;simp[World.cell?,hb];simpa using hv)
 refine⟨G',?_⟩;exact r'.put d (by
  simp only[R];exact⟨trivial,_,_,Tx hG,eE _,λ_ _=>⟨w.heap.size,0,rfl,by simp⟩,λ_ h=>by cases h⟩)
theorem dN.aNu{G:List CO}{a:Act}{w:World}(r:dN B s G a w)(d:Option Tmp){c:List AV}{cs:Array Value}(t:TypeId){i:Nat}(hi:s.o[i]? =some ⟨true,false,c.length,0,[]⟩)(ho:∀x∈cs.toList,x.oneCell'=true)
  (hr:Rc w (env B s.o G w) c cs.toList []):Rel B (AS.put ⟨s.t,s.o.set i ⟨true,true,c.length,1,[c]⟩⟩ d (.ptr i 1 0 0)) (a.put d (.pointer (some ⟨w.heap.size,0,none⟩))) (w.alloc (.cells cs t)):=by
 have hl:=fA hr;have hlt:i<G.length:=by rw[r.len];exact(cQ.1 hi).1
 have hlk:Aw.look s.o G i ⟨true,false,c.length,0,[]⟩ G[i]:=⟨hi,aE hlt⟩;generalize G[i]=g at hlk;have hm:=r.modify hlk rfl ⟨true,true,c.length,1,[c]⟩ ⟨some ⟨w.heap.size,0,none⟩,1,λb=>g.F b\/b=w.heap.size⟩ (w.alloc (.cells cs t)) (by simp) rfl (λh=>by simp at h)
  (λb hb=>by
   rcases hb with hb|rfl
   .exact .inl hb
   .exact .inr ⟨eE _,by simp⟩)
  (λb hb _=>⟨.inl hb,λx hx=>by
   obtain rfl:=cU hx;have:=(r.fresh _ _ _ b hlk rfl hb).2;simp;omega⟩)
  (λb hb _=>heap_alloc w _ b hb) (by simp) (λk _=>by
   refine⟨[w.heap.size],⟨by simp[maxLen],.inr ⟨w.heap.size,0,cs,t,(0,0),[],rfl,jP w _,.inr rfl,by simpa using tP hl.symm,by simp,by simp[maxLen],rfl,?_⟩⟩,by simp,by simp⟩;simp only[Env.of,eV,Rr];refine⟨cs.toList,[],[],by simpa using hl,?_,ho,dX k _ _ _ (by simp) hr,rfl,rfl⟩;intro j v hv;have hb:=jP w (Obj.cells cs t);simp only[World.cell?,hb];simpa using hv) (by exact⟨rfl,rfl,rfl⟩) (λ_=> .inr (by simp))
 have hl2:Aw.look (s.o.set i ⟨true,true,c.length,1,[c]⟩) (G.set i ⟨some ⟨w.heap.size,0,none⟩,1,λb=>g.F b\/b=w.heap.size⟩) i ⟨true,true,c.length,1,[c]⟩ ⟨some ⟨w.heap.size,0,none⟩,1,λb=>g.F b\/b=w.heap.size⟩:=pI hlk;refine⟨_,hm.1.put d ?_⟩;simp only[R];exact⟨trivial,_,_,hl2,eE _,λ_ _=>⟨w.heap.size,0,rfl,by simp⟩,λ_ h=>by cases h⟩
theorem aAa(t:TypeId)(x:Operand)(hx:(s.ev x).fit s.o=true):Step P B ⟨dst,.box t x,ty,pos,after,gd⟩ s (s.box dst (s.ev x).cells):=
 qI λG a w r=>by have h:=Od hx (r.ev x);exact⟨_,_,by simp[execOp,Instr.box,Hl],r.boxed dst t h.2.1 h.1⟩
theorem ZU(t:TypeId){z:List AV}(hz:nW P t=some z):Step P B ⟨dst,.alloc t,ty,pos,after,gd⟩ s (s.box dst z):=
 qI λG a w r=>by
  unfold nW at hz;cases hi:P.info? t with
  |none=>simp[hi]at hz
  |some i=>
   cases hv:i.zero with
   |none=>simp[hi,hv]at hz
   |some v=>
    simp only[hi,hv,tM]at hz;split at hz
    .rename_i hall;obtain rfl:=cU hz;refine⟨_,_,by simp[execOp,Instr.alloc,zeroValue,typeInfo,hi,hv,Hl],r.boxed dst t (fW.1 hall) (FE w _ _ _)⟩
    .cases hz
theorem Vd(t:TypeId){z:List AV}{i:Nat}(hz:nW P t=some z)(hi':s.o[i]? =some ⟨true,false,z.length,0,[]⟩):Step P B ⟨dst,.alloc t,ty,pos,after,gd⟩ s (AS.put ⟨s.t,s.o.set i ⟨true,true,z.length,1,[z]⟩⟩ dst (.ptr i 1 0 0)):=
 qI λG a w r=>by
  unfold nW at hz;cases hi:P.info? t with
  |none=>simp[hi]at hz
  |some i=>
   cases hv:i.zero with
   |none=>simp[hi,hv]at hz
   |some v=>
    simp only[hi,hv,tM]at hz;split at hz
    .rename_i hall;obtain rfl:=cU hz;refine⟨_,_,by simp[execOp,Instr.alloc,zeroValue,typeInfo,hi,hv,Hl],r.aNu dst t hi' (fW.1 hall) (FE w _ _ _)⟩
    .cases hz
theorem OA{t:List AV}{o:List aD}{a:Act}{w:World}(ns:List Nat)(h:Rel B ⟨t,o⟩ a w):Rel B ⟨t,o++ns.map λn=>⟨true,false,n,0,[]⟩⟩ a w:=by
 obtain⟨G,r⟩:=h;have:=r.add (ns.map λn=>⟨true,false,n,0,[]⟩) (ns.map λ_=>⟨none,0,λ_=>False⟩) w (by simp) (eE _) (λ_ _=>rfl)
  (λj ob g b hl _ hF=>by
   obtain⟨_,h2⟩:=hl;simp only[sA]at h2;cases hn:ns[j]? with
   |none=>simp[hn]at h2
   |some n=>simp[hn]at h2;subst h2;exact hF.elim)
  (λi j oi oj gi gj b hl _ _ _ hF _=>by
   obtain⟨_,h2⟩:=hl;simp only[sA]at h2;cases hn:ns[i]? with
   |none=>simp[hn]at h2
   |some n=>simp[hn]at h2;subst h2;exact hF.elim)
  (λk j ob g hl _=>by
   obtain⟨h1,h2⟩:=hl;simp only[sA]at h1 h2;cases hn:ns[j]? with
   |none=>simp[hn]at h2
   |some n=>
    simp[hn]at h1 h2;subst h1;subst h2;exact⟨[],⟨by simp[maxLen],.inl ⟨rfl,rfl,rfl⟩⟩,by simp,by simp⟩) (by exact⟨rfl,rfl,rfl⟩)
 exact⟨_,this.1⟩
def CB(i:Nat):Tg->Option Tg
 | .own=>some (.iZ i)
 |g=>some g
theorem ZV{P:Program}[aB P]{B:fM P}{o:List aD}{G:List CO}{w:World}{i:Nat}{ob:aD}{g:CO}(hl:look o G i ob g)(hlive:ob.live=true)(box:Bool):
  lK (CB i) true ((env B o G w).of box) (env B o G w) (λb=>g.F b/\∀a,g.a=some a->b≠a.block) where
 own t e:=by obtain rfl:=cU e;exact⟨by simp,λb hb=>⟨ob,g,hl,hlive,hb.1,hb.2⟩⟩
 view t e:=by obtain rfl:=cU e;exact⟨rfl,λb hb=>by cases box<;>exact hb⟩
 iZ j t e:=by
  obtain rfl:=cU e;refine⟨by simp,?_,λb hb=> ?_⟩
  .by_cases h:(env B o G w).V j
   .left;cases box
    .trivial
    .exact h
   .right;exact h
  .cases box
   .exact hb.elim
   .exact hb
 hh _ j v x h:=by cases box;exact h.elim;exact h
 hl _ j v k q x h:=by cases box;exact h.elim;exact h
theorem jB{o:List aD}{i ver:Nat}{ob:aD}(h:AV.isObj o i ver=some ob):o[i]? =some ob/\ob.live=true/\ob.ver=ver:=by
 unfold AV.isObj at h;split at h
 .rename_i x hx;split at h
  .rename_i hc;obtain rfl:=cU h;exact⟨hx,hc⟩
  .cases h
 .cases h
theorem dN.look{P:Program}[aB P]{B:fM P}{s:AS}{G:List CO}{a:Act}{w:World}(r:dN B s G a w){i:Nat}{ob:aD}(h:s.o[i]? =some ob):∃g,look s.o G i ob g:=by
 have hi:i<G.length:=by rw[r.len];exact(cQ.1 h).1
 exact⟨G[i],h,aE hi⟩
theorem dN.elem{P:Program}[aB P]{B:fM P}{s:AS}{G:List CO}{a:Act}{w:World}(r:dN B s G a w){i idx:Nat}{ob:aD}{g:CO}{e:List AV}(hl:Aw.look s.o G i ob g)(hlive:ob.live=true)(he:ob.dM[idx]? =some e):
  ∃b f cs,g.a=some ⟨b,f,none⟩/\cs.length=ob.n/\dU w b (f+idx*ob.n) cs/\(∀x∈cs,x.oneCell'=true)/\Rc w (env B s.o G w) (qD (CB i) true e) cs []:=by
 obtain⟨fp,⟨_,h⟩,hnd,hF⟩:=r.ok i ob g hl hlive;rcases h with⟨h,_⟩|⟨b,f,C,ty,fz,nU,ha,hb,hz,h1,h2,h3,rfl,hr⟩
 .rw [h]at he;simp at he
 obtain⟨f1,f2,f3,cs,rfl,hn,hc,ho,sK,_,_⟩:=Ac hr he;refine⟨b,f,cs,ha,hn,hc,ho,?_⟩;refine xA (ZV hl hlive ob.box) e cs f2 (λx hx=>⟨hF x (by simp[hx]),λa' vB=> ?_⟩) sK;rw[ha]at vB;obtain rfl:=cU vB;simp only[mC]at hnd;rintro rfl;exact hnd.1 (by simp[hx])
theorem OB{w:World}{E:Env}{c:List AV}{cs:List Value}(off n:Nat)(h:Rc w E c cs []):Rc w E ((c.drop off).take n) ((cs.drop off).take n) []:=by
 obtain⟨f1,f2,e,_,h2⟩:=rP off h;obtain⟨rfl,rfl⟩:f1=[]/\f2=[]:=by simpa using e.symm
 obtain⟨f1,f2,e,h3,_⟩:=rP n h2;obtain⟨rfl,rfl⟩:f1=[]/\f2=[]:=by simpa using e.symm
 exact h3
theorem FH{cs:List Value}{off n:Nat}(ho:∀x∈cs,x.oneCell'=true):∀x∈(cs.drop off).take n,x.oneCell'=true:=
 λx hx=>ho x (AG (pC hx))
theorem dU.slice{w:World}{b off:Nat}{cs:List Value}(k n:Nat)(h:dU w b off cs):dU w b (off+k) ((cs.drop k).take n):=h.drop.take
theorem CE(f:Tg->Option Tg)(h:Bool):∀c,(qD f h c).length=c.length
 |[]=>rfl
 |_::xs=>by simp[qD,CE f h xs]
theorem sM{P:Program}{w:World}{t:TypeId}{b off k n:Nat}{cs:List Value}(ht:jV P t=some n)(yF:k+n<=cs.length)(h:dU w b off cs):
  (Instr.loadAt t (.pointer (some ⟨b,off+k,none⟩))).run P w= .ok (.agg ((cs.drop k).take n).toArray) w:=by
 have hl:((cs.drop k).take n).length=n:=by simp;omega
 simpa [Instr.loadAt,Instr.sureAddr]using UZ (P:=P) (t:=t) (by rw[hl];exact ht) (h.slice k n)
theorem wE{P:Program}{w:World}{t:TypeId}{b off k:Nat}{cs:List Value}{v:Value}(ht:mH P t=true)(hv:cs[k]? =some v)(h:dU w b off cs):
  (Instr.loadAt t (.pointer (some ⟨b,off+k,none⟩))).run P w= .ok v w:=by
 have:(cs.drop k).take 1=[v]:=by obtain⟨hk,rfl⟩:=cQ.1 hv;rw[oS hk,fL,lE]
 have h1:=h.slice k 1;rw[this]at h1;simpa [Instr.loadAt,Instr.sureAddr]using Va (P:=P) (t:=t) ht h1
theorem dN.ptr{G:List CO}{a:Act}{w:World}(r:dN B s G a w){x:Operand}{i ver idx off:Nat}{ob:aD}(hx:s.ev x= .ptr i ver idx off)(ho:AV.isObj s.o i ver=some ob):
  ∃g b f,Aw.look s.o G i ob g/\ob.live=true/\g.a=some ⟨b,f,none⟩/\a.eval x= .pointer (some ⟨b,f+(idx*ob.n+off),none⟩):=by
 have h:=r.ev x;rw[hx]at h;simp only[R]at h;obtain⟨_,ob',g,hl,_,hh,_⟩:=h;obtain⟨h1,h2,h3⟩:=jB ho;obtain rfl:=cU (hl.1.symm.trans h1);obtain⟨b,f,ha,hv⟩:=hh h2 h3;exact⟨g,b,f,hl,h2,ha,hv⟩
theorem dN.pin{G:List CO}{a:Act}{w:World}(r:dN B s G a w){x:Operand}{i ver idx off:Nat}{ob:aD}{g:CO}(hx:s.ev x= .ptr i ver idx off)(ho:AV.isObj s.o i ver=some ob)(hg:Aw.look s.o G i ob g):
  ob.box=true->ver=2->idx=0->off=0->∀y,B.p0 i=some y->a.eval x=y.1/\(ob.live=true->ob.ver=2->g.cap=y.2):=by
 have h:=r.ev x;rw[hx]at h;simp only[R]at h;obtain⟨_,ob',g',hl,_,_,hz⟩:=h;obtain⟨h1,h2,h3⟩:=jB ho;obtain rfl:=cU (hl.1.symm.trans h1);obtain rfl:=cU (hl.2.symm.trans hg.2);exact hz
theorem Jq(t:TypeId)(x:Operand){i ver idx off n:Nat}{ob:aD}{e:List AV}(hx:s.ev x= .ptr i ver idx off)(ho:AV.isObj s.o i ver=some ob)(he:ob.dM[idx]? =some e)
  (hn:jV P t=some n) (yF:off+n<=e.length):Step P B ⟨dst,.load t x,ty,pos,after,gd⟩ s (s.put dst (.agg ((qD (CB i) true e).drop off |>.take n))):=
 dO λG a w r=>by
  obtain⟨g,b,f,hl,hlive,ha,hv⟩:=r.ptr hx ho;obtain⟨b',f',cs,vB,hcn,hc,hone,sK⟩:=r.elem hl hlive he;rw[ha]at vB;simp only[eA,nB,qT]at vB;obtain⟨rfl,rfl⟩:=vB;have hle:=fA sK;rw[CE]at hle;refine⟨.agg ((cs.drop off).take n).toArray,?_,?_⟩
  .simp only[execOp,hv,<-oE];simp[sM (P:=P) (k:=off) (n:=n) (cs:=cs) hn (by omega) hc]
  .simp only[R];exact⟨_,rfl,FH hone,OB off n sK⟩
theorem Jr(t:TypeId)(x:Operand){i ver idx off:Nat}{ob:aD}{e:List AV}{y:AV}(hx:s.ev x= .ptr i ver idx off)(ho:AV.isObj s.o i ver=some ob)(he:ob.dM[idx]? =some e)
  (hn:mH P t=true) (hy:(qD (CB i) true e)[off]? =some y):Step P B ⟨dst,.load t x,ty,pos,after,gd⟩ s (s.put dst y):=
 dO λG a w r=>by obtain⟨g,b,f,hl,hlive,ha,hv⟩:=r.ptr hx ho;obtain⟨b',f',cs,vB,hcn,hc,hone,sK⟩:=r.elem hl hlive he;rw[ha]at vB;simp only[eA,nB,qT]at vB;obtain⟨rfl,rfl⟩:=vB;obtain⟨v,hv',hR⟩:=KT sK hy;refine⟨v,?_,hR⟩;simp only[execOp,hv,<-oE];simp[wE (P:=P) hn hv' hc]
theorem dN.fH{G:List CO}{a:Act}{w:World}(r:dN B s G a w){x:Operand}{g:Tg}{c:List AV}{off:Nat}(hx:s.ev x= .fH g c off)(hf:(AV.fH g c off).fit s.o=true):
  ∃b o cs,a.eval x= .pointer (some ⟨b,o+off,none⟩)/\dU w b o cs/\(∀x∈cs,x.oneCell'=true)/\Rc w (env B s.o G w) c cs []:=by
 have h:=r.ev x;rw[hx]at h;simp only[R]at h;rcases h with⟨hd,_⟩|⟨_,b,o,cs,hv,ht,hcs,hc,hr⟩
 .cases g with
  |own=>exact hd.elim
  |view=>exact hd.elim
  |iZ i=>simp only[AV.fit]at hf;exfalso;refine hd (λob tX=> ?_);simpa [tX]using hf
 .refine ⟨b,o,cs,hv,hcs,hc,dX (w':=w) (E':=env B s.o G w) ?_ _ _ _ (by simp) hr⟩;cases g with
  |own=>exact ht.elim
  |view=>exact⟨λ_ h=>⟨h,rfl⟩,λ_ _=>trivial,λ_ _ _ h=>h.elim,λ_ _ _ h=>h.elim,λ_ _ _ _ _ h=>h.elim⟩
  |iZ i=>exact⟨λ_ h=>⟨h,rfl⟩,λ_ _=>trivial,λj b _ h=>⟨by obtain⟨rfl,h⟩:=h;exact h,rfl⟩,λ_ _ _ h=>h.elim,λ_ _ _ _ _ h=>h.elim⟩
theorem Hm(t:TypeId)(x:Operand){g:Tg}{c:List AV}{off n:Nat}(hx:s.ev x= .fH g c off)(hf:(AV.fH g c off).fit s.o=true)
  (hn:jV P t=some n) (yF:off+n<=c.length):Step P B ⟨dst,.load t x,ty,pos,after,gd⟩ s (s.put dst (.agg (c.drop off |>.take n))):=
 dO λG a w r=>by
  obtain⟨b,o,cs,hv,hc,hone,sK⟩:=r.fH hx hf;have hle:=fA sK;refine⟨.agg ((cs.drop off).take n).toArray,?_,?_⟩
  .simp only[execOp,hv];simp[sM (P:=P) (k:=off) (n:=n) (cs:=cs) hn (by omega) hc]
  .simp only[R];exact⟨_,rfl,FH hone,OB off n sK⟩
theorem Ho(t:TypeId)(x:Operand){g:Tg}{c:List AV}{off:Nat}{y:AV}(hx:s.ev x= .fH g c off)(hf:(AV.fH g c off).fit s.o=true)
  (hn:mH P t=true) (hy:c[off]? =some y):Step P B ⟨dst,.load t x,ty,pos,after,gd⟩ s (s.put dst y):=
 dO λG a w r=>by obtain⟨b,o,cs,hv,hc,hone,sK⟩:=r.fH hx hf;obtain⟨v,hv',hR⟩:=KT sK hy;refine⟨v,?_,hR⟩;simp only[execOp,hv];simp[wE (P:=P) hn hv' hc]
theorem Me{t:TypeId}{f fo:Nat}(h:KU P t f=some fo)(w:World)(b o:Nat):(Instr.fieldAt t (.pointer (some ⟨b,o,none⟩)) f).run P w= .ok (.pointer (some ⟨b,o+fo,none⟩)) w:=by
 unfold KU at h;split at h
 .rename_i fs hu;split at h
  .rename_i fd hfd;split at h
   .rename_i inf hi;split at h
    .cases h
    .rename_i hz;obtain rfl:=cU h;simp[Instr.fieldAt,gC hu,hfd,Instr.sureAddr,fieldPlace,sizeOf,typeInfo,hi,hz,addr_add]
   .cases h
  .cases h
 .cases h
theorem OC(t:TypeId)(x:Operand)(f:Nat){i ver idx off fo:Nat}{ob:aD}(hx:s.ev x= .ptr i ver idx off)(ho:AV.isObj s.o i ver=some ob)(hf:KU P t f=some fo):
  Step P B ⟨dst,.fieldAddr t x f,ty,pos,after,gd⟩ s (s.put dst (.ptr i ver idx (off+fo))):=
 dO λG a w r=>by
  obtain⟨g,b,k,hl,hlive,ha,hv⟩:=r.ptr hx ho;refine⟨.pointer (some ⟨b,k+(idx*ob.n+(off+fo)),none⟩),?_,?_⟩
  .simp only[execOp,hv];simp[Me hf,oE]
  .simp only[R];obtain⟨h1,h2,h3⟩:=jB ho;refine⟨trivial,ob,g,hl,tP h3.symm,λ_ _=>⟨b,k,ha,rfl⟩,λe1 e2 e3 e4 y hy=> ?_⟩;have h0:off=0:=by omega
   have h0':fo=0:=by omega
   have:=r.pin hx ho hl e1 e2 e3 h0 y hy;exact⟨by rw[<-this.1,hv,h0,h0'],this.2⟩
theorem Nt(t:TypeId)(x:Operand)(f:Nat){g:Tg}{c:List AV}{off fo:Nat}(hx:s.ev x= .fH g c off)(yF:(AV.fH g c off).fit s.o=true)(hf:KU P t f=some fo):
  Step P B ⟨dst,.fieldAddr t x f,ty,pos,after,gd⟩ s (s.put dst (.fH g c (off+fo))):=
 dO λG a w r=>by
  obtain⟨b,o,cs,hv,hc,hone,sK⟩:=r.fH hx yF;refine⟨.pointer (some ⟨b,o+(off+fo),none⟩),?_,?_⟩
  .simp only[execOp,hv];simp[Me hf,oE]
  .have h:=r.ev x;rw[hx]at h;simp only[R]at h⊢;rcases h with h|⟨h1,b',o',cs',hv',ht,hcs,hc',hr⟩
   .exact .inl ⟨h.1,trivial⟩
   .rw [hv]at hv';simp only[AW,eA,nB,qT]at hv';refine .inr ⟨trivial,b',o',cs',?_,ht,hcs,hc',hr⟩;obtain⟨rfl,h2⟩:=hv';simp only[AW,eA,nB,qT,true_and];omega
def Rv(w:World)(E:Env):List (List AV)->List Value->Nat->List Nat->Prop
 |[],vs,_,fp=>vs=[]/\fp=[]
 |e::es,vs,n,fp=>∃cs rest f1 f2,vs=cs++rest/\cs.length=n/\(∀x∈cs,x.oneCell'=true)/\Rc w E e cs f1/\Rv w E es rest n f2/\fp=f1++f2
theorem dU.append{w:World}{b off:Nat}{c1 c2:List Value}:dU w b off (c1++c2)↔dU w b off c1/\dU w b (off+c1.length) c2:=by
 constructor
 .intro h;refine⟨λj v hv=>h j v ?_,λj v hv=> ?_⟩
  .rw [pS (cQ.1 hv).1];exact hv
  .have:=h (c1.length+j) v (by rw[mL (by omega)];simpa using hv)
   rwa[<-oE]at this
 .rintro ⟨h1,h2⟩ j v hv;by_cases hj:j<c1.length
  .rw [pS hj]at hv;exact h1 j v hv
  .rw [mL (by omega)]at hv;have:=h2 _ v hv
   rwa[show off+c1.length+(j-c1.length)=off+j by omega]at this
theorem sS{w:World}{E:Env}{b n:Nat}:∀{l:List (List AV)} {off:Nat} {fp:List Nat},Rr w E l b off n fp↔∃vs,Rv w E l vs n fp/\dU w b off vs
 |[],off,fp=>by simp only[Rr,Rv];exact⟨λh=>⟨[],⟨rfl,h⟩,λj v hv=>by simp at hv⟩,λ⟨_,h,_⟩=>h.2⟩
 |e::es,off,fp=>by
  simp only[Rr,Rv,sS (l:=es)];constructor
  .rintro ⟨cs,f1,f2,hn,hc,ho,h1,⟨vs,h2,h3⟩,rfl⟩;refine⟨cs++vs,⟨cs,vs,f1,f2,rfl,hn,ho,h1,h2,rfl⟩,dU.append.2 ⟨hc,by rw[hn];exact h3⟩⟩
  .rintro ⟨_,⟨cs,vs,f1,f2,rfl,hn,ho,h1,h2,rfl⟩,h3⟩;have:=dU.append.1 h3;exact⟨cs,f1,f2,hn,this.1,ho,h1,⟨vs,h2,by rw[<-hn];exact this.2⟩,rfl⟩
theorem lL{w:World}{E:Env}{n:Nat}:∀{l:List (List AV)} {vs:List Value} {fp:List Nat},Rv w E l vs n fp->vs.length=l.length*n
 |[],_,_,h=>by simp only[Rv]at h;simp[h.1]
 |_::es,_,_,h=>by simp only[Rv]at h;obtain⟨cs,rest,f1,f2,rfl,hn,_,_,h2,_⟩:=h;simp[lL h2,hn,rB,Nat.add_comm]
theorem aAb{w:World}{E:Env}{n:Nat}:∀{l:List (List AV)} {vs:List Value} {fp:List Nat},Rv w E l vs n fp->∀x∈vs,x.oneCell'=true
 |[],_,_,h,x,hx=>by simp only[Rv]at h;simp[h.1]at hx
 |_::es,_,_,h,x,hx=>by
  simp only[Rv]at h;obtain⟨cs,rest,f1,f2,rfl,_,ho,_,h2,_⟩:=h;rcases fS.1 hx with h|h
  .exact ho x h
  .exact aAb h2 x h
theorem KV{w:World}{E:Env}{n:Nat}{l2:List (List AV)}{v2:List Value}{g2:List Nat}(h':Rv w E l2 v2 n g2):∀{l:List (List AV)} {vs:List Value} {fp:List Nat},Rv w E l vs n fp->Rv w E (l++l2) (vs++v2) n (fp++g2)
 |[],_,_,h=>by simp only[Rv]at h;obtain⟨rfl,rfl⟩:=h;simpa using h'
 |_::es,_,_,h=>by simp only[Rv]at h;obtain⟨cs,rest,f1,f2,rfl,hn,ho,h1,h2,rfl⟩:=h;simp only[cW,Rv];exact⟨cs,rest++v2,f1,f2++g2,by simp,hn,ho,h1,KV h' h2,by simp⟩
theorem uR{w w':World}{E E':Env}(k:dF w E w' E'){n:Nat}:∀{l:List (List AV)} {vs:List Value} {fp:List Nat},(∀b∈fp,w'.heap[b]? =w.heap[b]?)->Rv w E l vs n fp->Rv w' E' l vs n fp
 |[],_,_,_,h=>by simpa [Rv]using h
 |_::es,_,_,hf,h=>by simp only[Rv]at h⊢;obtain⟨cs,rest,f1,f2,rfl,hn,ho,h1,h2,rfl⟩:=h;exact⟨cs,rest,f1,f2,rfl,hn,ho,dX k _ _ _ (λx hx=>hf x (by simp[hx])) h1,uR k (λx hx=>hf x (by simp[hx])) h2,rfl⟩
theorem ZW{P:Program}{w:World}{tS xT ty e:TypeId}{i:TypeInfo}{z:Value}(ht:P.underlying tS=some (.slice e))(hxt:∃d,P.underlying xT=some d/\∀k,d≠ .int k)(hi:P.info? e=some i)(hz:i.zero=some z)
  {base:Option Addr} {sLen sCap n:Nat} {x:Value} (hlen:(Builtin.lenOf x).run P w= .ok n w) {news Hq:List Value}
  (Ad:∀w',w'.heap=w.heap->(Builtin.firstCells i.size n x).run P w'= .ok news.toArray w')
  (holds:∀w',w'.heap=w.heap->(Builtin.firstCells i.size sLen (.slice base sLen sCap)).run P w'= .ok Hq.toArray w')
  (CF:(sLen+n)*i.bytes<=140737488355328) (h63:sLen+n<=9223372036854775807):
  (sLen+n<=sCap->∀w1,(match base with
    |some a=>(storeCells (a.add (sLen*i.size)) news).run P w= .ok () w1
    |none=>w1=w)->(Builtin.append_ #[tS,xT] ty #[.slice base sLen sCap,x]).run P w= .ok (.slice base (sLen+n) sCap) w1)/\
  (sCap<sLen+n->(Builtin.append_ #[tS,xT] ty #[.slice base sLen sCap,x]).run P w=
   .ok (.slice (some ⟨w.heap.size,0,none⟩) (sLen+n) (grownCap w (sLen+n) sCap e)) (w.drew.alloc (.cells (Hq.toArray++news.toArray++Builtin.zeroCells z.cells (grownCap w (sLen+n) sCap e-(sLen+n))) e))):=by
 obtain⟨d,hd,hdi⟩:=hxt;constructor
 .intro WK w1 h1;have hn:=Ad w rfl;cases base with
  |none=>simp only at h1;subst h1;simp[Builtin.append_,gC ht,gC hd,sizeOf,typeInfo,hi,hlen,WK,hn]
  |some a=>simp only at h1;simp[Builtin.append_,gC ht,gC hd,sizeOf,typeInfo,hi,hlen,WK,hn,h1]
 .intro hg;have hnr:¬(sLen+n<=sCap):=by omega
  have aRo:¬(9223372036854775807<((sLen:Int)+(n:Int))):=by omega
  have yF:=growslice_fits hg CF;have aRp:¬(281474976710656<Builtin.nextslicecap (sLen+n) sCap*i.bytes):=by omega
  have hn:=Ad w.drew rfl;have ho:=holds w.drew rfl;simp[Builtin.append_,gC ht,gC hd,sizeOf,typeInfo,zeroValue,hi,hz,hlen,hnr,aRo,aRp,Question.forced,hn,ho,newRow,grownCap];rw[<-append_toArray,Array.append_assoc]
def aD.kill(ob:aD):aD:={ob with live:=false}
theorem dN.OD{P:Program}[aB P]{B:fM P}{s:AS}{G:List CO}{a:Act}{w:World}(r:dN B s G a w){i j:Nat}(hij:i≠j){oi oj:aD}{gi gj:CO}(hi:Aw.look s.o G i oi gi)(hj:Aw.look s.o G j oj gj)(hil:oi.live=true)(hjl:oj.live=true):
  dN B ⟨s.t,s.o.set j oj.kill⟩ (G.set i {gi with F:=λb=>gi.F b\/gj.F b}) a w/\dF w (env B s.o G w) w (env B (s.o.set j oj.kill) (G.set i {gi with F:=λb=>gi.F b\/gj.F b}) w):=by
 have hii:Aw.look (s.o.set j oj.kill) (G.set i {gi with F:=λb=>gi.F b\/gj.F b}) i oi {gi with F:=λb=>gi.F b\/gj.F b}:=by refine⟨by rw[gR (wA hij)];exact hi.1,?_⟩;have:=(cQ.1 hi.2).1;simp[this]
 have hjj:Aw.look (s.o.set j oj.kill) (G.set i {gi with F:=λb=>gi.F b\/gj.F b}) j oj.kill gj:=by refine⟨?_,by rw[gR hij];exact hj.2⟩;have:=(cQ.1 hj.1).1;simp[this]
 have back:∀{k x y},Aw.look (s.o.set j oj.kill) (G.set i {gi with F:=λb=>gi.F b\/gj.F b}) k x y->x.live=true->
   k≠j/\((k=i/\x=oi/\y={gi with F:=λb=>gi.F b\/gj.F b})\/(k≠i/\Aw.look s.o G k x y)):=by
  intro k x y h hx;by_cases hk:k=j
  .subst hk;have:=(iD h hjj).1;subst this;exact absurd hx (by simp[aD.kill])
  .refine ⟨hk,?_⟩;by_cases hki:k=i
   .subst hki;exact .inl ⟨rfl,iD h hii⟩
   .refine .inr ⟨hki,?_,?_⟩
    .have:=h.1;rwa[gR (wA hk)]at this
    .have:=h.2;rwa[gR (wA hki)]at this
 have fwd:∀{k x y},k≠i->k≠j->Aw.look s.o G k x y->Aw.look (s.o.set j oj.kill) (G.set i {gi with F:=λb=>gi.F b\/gj.F b}) k x y:=by intro k x y h1 h2 h;exact⟨by rw[gR (wA h2)];exact h.1,by rw[gR (wA h1)];exact h.2⟩
 have k:dF w (env B s.o G w) w (env B (s.o.set j oj.kill) (G.set i {gi with F:=λb=>gi.F b\/gj.F b}) w):=by
  refine xG (eE _) (λb hb=>⟨nH r hb,rfl⟩) r.len ?_ ?_
  .intro k x y h;by_cases hk:k=j
   .subst hk;obtain⟨rfl,rfl⟩:=iD hj h;exact⟨_,_,hjj,eE _,λh=> .inl h,λhf=>absurd hf (by simp[aD.kill])⟩
   .by_cases hki:k=i
    .subst hki;obtain⟨rfl,rfl⟩:=iD hi h;exact⟨_,_,hii,eE _,λh=> .inl h,λ_=>⟨hil,rfl,λ_=>⟨rfl,rfl,rfl⟩,λb hb hne=>⟨.inl hb,hne,rfl⟩⟩⟩
    .exact ⟨x,y,fwd hki hk h,eE _,λh=> .inl h,λhx=>⟨hx,rfl,λ_=>⟨rfl,rfl,rfl⟩,λb hb hne=>⟨hb,hne,rfl⟩⟩⟩
  .intro k x y b h hx hf;obtain⟨_,⟨rfl,rfl,rfl⟩|⟨_,h'⟩⟩:=back h hx
   .rcases hf with hf|hf
    .exact .inr ⟨_,_,_,hi,hil,hf⟩
    .exact .inr ⟨_,_,_,hj,hjl,hf⟩
   .exact .inr ⟨_,_,_,h',hx,hf⟩
 refine⟨r.next k (by simp[r.len]) ?_ ?_ ?_ (eE _) (λ_ _ _=>rfl),k⟩
 .intro k' x y h hx;obtain⟨_,⟨rfl,rfl,rfl⟩|⟨_,h'⟩⟩:=back h hx
  .obtain ⟨fp,h1,h2,h3⟩:=(r.ok _ _ _ hi hil).keeps k (λ_ _=>rfl)
   exact⟨fp,h1,h2,λb hb=> .inl (h3 b hb)⟩
  .exact (r.ok _ _ _ h' hx).keeps k (λ_ _=>rfl)
 .intro k1 k2 x1 x2 y1 y2 b h1 h2 rf hx2 hf1 hf2;obtain⟨n1,⟨rfl,rfl,rfl⟩|⟨m1,h1'⟩⟩:=back h1 rf<;>obtain⟨n2,⟨rfl,rfl,rfl⟩|⟨m2,ZT⟩⟩:=back h2 hx2
  .rfl
  .rcases hf1 with hf1|hf1
   .exact r.apart _ _ _ _ _ _ b hi ZT hil hx2 hf1 hf2
   .exact absurd (r.apart _ _ _ _ _ _ b hj ZT hjl hx2 hf1 hf2).symm n2
  .rcases hf2 with hf2|hf2
   .exact r.apart _ _ _ _ _ _ b h1' hi rf hil hf1 hf2
   .exact absurd (r.apart _ _ _ _ _ _ b h1' hj rf hjl hf1 hf2) n1
  .exact r.apart _ _ _ _ _ _ b h1' ZT rf hx2 hf1 hf2
 .intro k' x y b h hx hf;obtain⟨_,⟨rfl,rfl,rfl⟩|⟨_,h'⟩⟩:=back h hx
  .rcases hf with hf|hf
   .exact r.fresh _ _ _ b hi hil hf
   .exact r.fresh _ _ _ b hj hjl hf
  .exact r.fresh _ _ _ b h' hx hf
theorem rV{w:World}{b off:Nat}{C:Array Value}{e:TypeId}{fz:Nat×Nat}{vs:List Value}(hb:w.heap[b]? =some (.cells C e fz))(h:∀j v,vs[j]? =some v->C[off+j]? =some v):dU w b off vs:=by intro j v hv;simp[World.cell?,hb,h j v hv]
theorem sU{P:Program}{w:World}{b off m n len cap:Nat}{vs:List Value}(hn:vs.length=m*n)(h:dU w b off vs):
  (Builtin.firstCells n m (.slice (some ⟨b,off,none⟩) len cap)).run P w= .ok vs.toArray w:=
 run_firstCells_some w n m _ len cap vs hn (λj v hv=>by rw[addr_add];exact h j v hv)
theorem dU.heap{w w':World}{b off:Nat}{vs:List Value}(h:dU w b off vs)(hh:w'.heap=w.heap):dU w' b off vs:=h.same (by rw[hh])
theorem dN.append{P:Program}[aB P]{B:fM P}{s:AS}{G:List CO}{a:Act}{w:World}(r:dN B s G a w){i:Nat}{ob:aD}{g:CO}(hl:Aw.look s.o G i ob g)(hlive:ob.live=true)(tY:ob.box=false)
  {tS xT ty e:TypeId} {inf:TypeInfo} {z:Value} (ht:P.underlying tS=some (.slice e)) (hxt:∃d,P.underlying xT=some d/\∀k,d≠ .int k) (hi:P.info? e=some inf) (hz:inf.zero=some z) (hsz:inf.size=ob.n) (hzs:z.cells.size=ob.n)
  {x:Value} {l2:List (List AV)} {news:List Value} {fp fp2:List Nat} (hlen:(Builtin.lenOf x).run P w= .ok l2.length w)
  (Ad:∀w',w'.heap=w.heap->(Builtin.firstCells ob.n l2.length x).run P w'= .ok news.toArray w')
  (Mf:Rv w (env B s.o G w).plain l2 news ob.n fp2) (hown:qH w (env B s.o G w).plain ob.n ob.dM g.a g.cap fp) (hnd:(fp++fp2).Nodup) (hF:∀b∈fp++fp2,g.F b)
  (CF:(ob.dM.length+l2.length)*inf.bytes<=140737488355328) (h63:ob.dM.length+l2.length<=9223372036854775807):
  ∃v w' G',(Builtin.append_ #[tS,xT] ty #[.slice g.a ob.dM.length g.cap,x]).run P w= .ok v w'/\
   dN B ⟨s.t,s.o.set i {ob with ver:=ob.ver+1,dM:=ob.dM++l2}⟩ G' a w'/\
   R w' (env B (s.o.set i {ob with ver:=ob.ver+1,dM:=ob.dM++l2}) G' w') (.obj i (ob.ver+1)) v []:=by
 obtain⟨Hq,hro,hold⟩:∃Hq,Rv w (env B s.o G w).plain ob.dM Hq ob.n fp.tail/\
   ∀w',w'.heap=w.heap->(Builtin.firstCells inf.size ob.dM.length (.slice g.a ob.dM.length g.cap)).run P w'= .ok Hq.toArray w':=by
  rcases hown.2 with⟨h1,h2,h3⟩|⟨b,off,C,ety,fz,nU,ha,hb,hz',h1,h2,h3,rfl,hr⟩
  .subst h3;refine⟨[],by simp[h1,Rv],λw' zg=> ?_⟩;rw[h1];cases hga:g.a with
   |none=>simp[Builtin.firstCells]
   |some a'=>simp[Builtin.firstCells,loadCells,loadCellsFrom]
  .obtain ⟨vs,hv,hc⟩:=sS.1 hr;refine⟨vs,hv,λw' zg=> ?_⟩;rw[ha,hsz];exact sU (lL hv) (hc.heap zg)
 obtain⟨WK,aNw⟩:=ZW (P:=P) (w:=w) (tS:=tS) (xT:=xT) (ty:=ty) ht hxt hi hz (base:=g.a) (sLen:=ob.dM.length) (sCap:=g.cap) (x:=x) hlen (by rw[hsz];exact Ad) hold CF h63;have hR:∀{w':World} {G':List CO} {g':CO},G'[i]? =some g'->(s.o[i]? =some ob)->R w' (env B (s.o.set i {ob with ver:=ob.ver+1,dM:=ob.dM++l2}) G' w') (.obj i (ob.ver+1)) (.slice g'.a (ob.dM.length+l2.length) g'.cap) []:=by intro w' G' g' hg' ho;simp only[R];refine⟨trivial,{ob with ver:=ob.ver+1,dM:=ob.dM++l2},g',⟨?_,hg'⟩,eE _,⟨λ_ _=>by simp,λh=>by omega⟩⟩;have:=(cQ.1 ho).1;simp[this]
 have hiG:i<G.length:=(cQ.1 hl.2).1;by_cases hcase:ob.dM.length+l2.length<=g.cap
 .-- in place
  rcases hown.2 with⟨h1,h2,h3⟩|⟨b,off,C,ety,fz,nU,ha,hb,hz',h1,h2,h3,rfl,hr⟩
  .-- nothing to append,no aNy
   have hl2:l2=[]:=lB (by omega);subst hl2;have hnw:news=[]:=lB (by simpa using lL Mf);subst hnw;have fV:=WK hcase w (by cases g.a<;>simp[storeCells]);have hm:=r.modify hl hlive {ob with ver:=ob.ver+1,dM:=ob.dM++[]} g w (by simp) rfl (by simp) (λb hb=> .inl hb) (λb hb hne=>⟨hb,hne⟩) (λ_ _ _=>rfl) (eE _) (λk _=>by
    refine⟨fp,?_,(gS.1 hnd).1,λb hb=>hF b (by simp[hb])⟩;generalize env B (s.o.set i {ob with ver:=ob.ver+1,dM:=ob.dM++[]}) (G.set i g) w=E' at k⊢;have h5:=hown.keeps k.plain (λ_ _=>rfl);simpa [tY,Env.of]using h5)
   refine⟨_,w,_,fV,hm.1,?_⟩;exact hR (by simp[hiG]) hl.1
  .have hnl:=lL Mf;have hol:=lL hro;have yF:off+ob.dM.length*ob.n+news.length<=C.size:=by rw[hnl,oE,<-rB];exact kO (Nat.add_le_add_left (pT _ hcase) _) h1
   have hst:=yT (P:=P) hb hz' yF (aAb Mf);have fV:=WK hcase (w.setCells b (off+ob.dM.length*ob.n) news) (by rw[ha,hsz];simpa [addr_add]using hst);have DF:g.F b:=hF b (by simp);have CG:∀b',b'≠b->(w.setCells b (off+ob.dM.length*ob.n) news).heap[b']? =w.heap[b']?:=λb' hne=>uP b b' hne _ _ _
   obtain⟨C',hC',hCs⟩:=wD b ety fz news (off+ob.dM.length*ob.n) w C hb;have hm:=r.modify hl hlive {ob with ver:=ob.ver+1,dM:=ob.dM++l2} g (w.setCells b (off+ob.dM.length*ob.n) news) (by simp) rfl (by simp) (λb hb=> .inl hb) (λb hb hne=>⟨hb,hne⟩)
    (λb' hlt hne=>CG b' (λe=>hne ⟨e▸DF,⟨b,off,none⟩,ha,e⟩)) (by rw[uQ];exact eE _) (λk _=>by
    have hnd':(b::nU++fp2).Nodup:=hnd;simp only[cW,mC,fS,not_or]at hnd';refine⟨b::(nU++fp2),?_,by simpa using hnd,λb' hb'=>hF b' (by simpa using hb')⟩;generalize env B (s.o.set i {ob with ver:=ob.ver+1,dM:=ob.dM++l2}) (G.set i g) (w.setCells b (off+ob.dM.length*ob.n) news)=E' at k⊢;simp only[tY,Env.of,cX,eS];refine⟨by simp[maxLen];omega,.inr ⟨b,off,C',ety,fz,nU++fp2,ha,hC',by rw[hCs];exact hz',by rw[hCs];exact h1,by simpa using hcase,h3,rfl,?_⟩⟩;refine sS.2 ⟨Hq++news,?_,dU.append.2 ⟨?_,?_⟩⟩
    .refine KV (uR k.plain (λb' hb'=>CG b' (λe=>hnd'.1.2 (e▸hb'))) Mf) (uR k.plain (λb' hb'=>CG b' (λe=>hnd'.1.1 (e▸hb'))) hro)
    .obtain ⟨vs,hv,hc⟩:=sS.1 hr;have hov:Hq=vs:=by have e1:=hold w rfl;rw[ha,hsz,sU (lL hv) hc]at e1;simpa using e1.symm
     subst hov;intro j v hv;rw[Dd]
     .exact hc j v hv
     .intro _ _;have:j<Hq.length:=(cQ.1 hv).1;left;simp only;omega
    .intro j v hv;have hj:j<news.length:=(cQ.1 hv).1;rw[hol];have:=DE b news (off+ob.dM.length*ob.n) w (λj hj=>by
      have:off+ob.dM.length*ob.n+j<C.size:=by omega
      simp[World.cell?,hb,this]) j hj
     rw[this];rw[aE hj]at hv;exact hv)
   refine⟨_,_,_,fV,hm.1,?_⟩;exact hR (by simp[hiG]) hl.1
 .-- a new array
  have fV:=aNw (by omega);generalize sP:grownCap w (ob.dM.length+l2.length) g.cap e=KW at fV;have aRr:ob.dM.length+l2.length<=KW:=by rw[<-sP];exact grownCap_ge _ _ _ _
  have aRs:KW<=maxLen:=by rw[<-sP];exact grownCap_le_maxLen _ _ _ _ (by simp[maxLen];omega)
  generalize hCd:Hq.toArray++news.toArray++Builtin.zeroCells z.cells (KW-(ob.dM.length+l2.length))=C at fV;have iH:∀b',b'<w.heap.size->(w.drew.alloc (.cells C e)).heap[b']? =w.heap[b']?:=λb' hlt=>heap_alloc w.drew _ b' hlt
  have Ed:(w.drew.alloc (.cells C e)).heap[w.heap.size]? =some (.cells C e):=jP w.drew _;have hol:=lL hro;have hnl:=lL Mf;have aRt:C.size=KW*ob.n:=by rw[<-hCd];simp only[Array.size_append,size_toArray,size_zeroCells,hzs,hol,hnl,<-rB];congr 1;omega
  have hm:=r.modify hl hlive {ob with ver:=ob.ver+1,dM:=ob.dM++l2} ⟨some ⟨w.heap.size,0,none⟩,KW,λb=>g.F b\/b=w.heap.size⟩ (w.drew.alloc (.cells C e)) (by simp) rfl (by simp)
   (λb hb=>by
    rcases hb with hb|hb
    .exact .inl hb
    .right;subst hb;simp) (λb hb hne=>⟨.inl hb,λa' vB=>by
     obtain rfl:=cU vB;have:=(r.fresh _ _ _ b hl hlive hb).2;simp only;omega⟩) (λb hlt _=>iH b hlt) (by simp) (λk _=>by
   have aKf:∀b∈fp++fp2,b<w.heap.size:=λb hb=>(r.fresh _ _ _ b hl hlive (hF b hb)).2
   have hsub:∀b∈fp.tail,b∈fp:=λb hb=>mem_of_mem_tail hb
   have aN1:(fp.tail++fp2).Nodup:=by
    cases fp with
    |nil=>exact hnd
    |cons c t=>simp only[cW,mC]at hnd;exact hnd.2
   refine⟨w.heap.size::(fp.tail++fp2),?_,?_,?_⟩
   .generalize env B (s.o.set i {ob with ver:=ob.ver+1,dM:=ob.dM++l2}) (G.set i ⟨some ⟨w.heap.size,0,none⟩,KW,λb=>g.F b\/b=w.heap.size⟩) (w.drew.alloc (.cells C e))=E' at k⊢
    simp only[tY,Env.of,cX,eS];refine⟨by simp[maxLen];omega,.inr ⟨w.heap.size,0,C,e,(0,0),_,rfl,Ed,.inr rfl,by simp[aRt],by simpa using aRr,aRs,rfl,?_⟩⟩;refine sS.2 ⟨Hq++news,KV (uR k.plain (λb' hb'=>iH b' (aKf b' (by simp[hb']))) Mf) (uR k.plain (λb' hb'=>iH b' (aKf b' (oB _ (hsub b' hb')))) hro),?_⟩;refine rV Ed (λj v hv=> ?_);rw[<-hCd,show Hq.toArray++news.toArray=(Hq++news).toArray by simp,lO,At (by simpa using(cQ.1 hv).1)];simpa using hv
   .rw [mC];refine⟨λhmem=> ?_,aN1⟩;have:w.heap.size<w.heap.size:=aKf _ (by
     rcases fS.1 hmem with h|h
     .exact oB _ (hsub _ h)
     .exact tD _ h)
    omega
   .intro b hb;rcases gE.1 hb with rfl|hb
    .exact .inr rfl
    .left;rcases fS.1 hb with h|h
     .exact hF b (oB _ (hsub _ h))
     .exact hF b (tD _ h))
  refine⟨_,_,_,fV,hm.1,?_⟩;exact hR (g':=⟨some ⟨w.heap.size,0,none⟩,KW,λb=>g.F b\/b=w.heap.size⟩) (by simp[hiG]) hl.1
mutual
def res(o:List aD):AV->AV
 | .obj i ver=>match AV.isObj o i ver with
  |some ob=> .sl .own ob.n ob.dM
  |none=> .undef
 | .agg c=> .agg (rC o c)
 | .iP c=> .iP (rC o c)
 | .int k n=> .int k n
 | .bool b=> .bool b
 | .str s=> .str s
 | .sl g n l=> .sl g n l
 | .fH g c off=> .fH g c off
 | .ptr i v j k=> .ptr i v j k
 | .fn f c=> .fn f c
 | .undef=> .undef
def rC(o:List aD):List AV->List AV
 |[]=>[]
 |x::xs=>res o x::rC o xs
end
mutual
def iN:AV->List Nat
 | .obj i _=>[i]
 | .agg c=>jF c
 | .iP c=>jF c
 |_=>[]
def jF:List AV->List Nat
 |[]=>[]
 |x::xs=>iN x++jF xs
end
mutual
def gP(o:List aD):AV->Bool
 | .obj i ver=>match AV.isObj o i ver with
  |some ob=> !ob.box
  |none=>false
 | .agg c=>lM o c
 | .iP c=>lM o c
 | .int _ _=>true
 | .bool _=>true
 | .str _=>true
 | .sl (.iZ _) _ _=>false
 | .sl _ _ _=>true
 | .fH .view _ _=>true
 | .fn _ []=>true
 | .undef=>true
 |_=>false
def lM(o:List aD):List AV->Bool
 |[]=>true
 |x::xs=>gP o x&&lM o xs
end
def Of(o:List aD)(G:List CO)(u:List Nat)(b:Nat):Prop:=∃i ob g,i∈u/\look o G i ob g/\ob.live=true/\g.F b
mutual
theorem Ee{P:Program}[aB P]{B:fM P}{s:AS}{G:List CO}{a:Act}{w:World}(r:dN B s G a w):∀(av:AV) (v:Value),gP s.o av=true->(iN av).Nodup->R w (env B s.o G w) av v []->
  ∃fp,R w (env B s.o G w).plain (res s.o av) v fp/\fp.Nodup/\∀b∈fp,Of s.o G (iN av) b
 | .obj i ver,v,ho,_,h=>by
  cases tX:AV.isObj s.o i ver with
  |none=>simp[gP,tX]at ho
  |some ob=>
   simp only[gP,tX]at ho;simp only[res,tX];simp only[R]at h;obtain⟨_,ob',g,hl,_,hh,_⟩:=h;obtain⟨h1,h2,h3⟩:=jB tX;obtain rfl:=cU (hl.1.symm.trans h1);have hv:=hh h2 h3;obtain⟨fp,hown,hnd,hF⟩:=r.ok i _ g hl h2;have hb:ob'.box=false:=by simpa using ho
   rw[hb]at hown;exact⟨fp,rO.2 ⟨g.a,g.cap,hv,hown⟩,hnd,λb hb=>⟨i,_,g,by simp[iN],hl,h2,hF b hb⟩⟩
 | .agg c,v,ho,hu,h=>by simp only[R]at h;obtain⟨cs,rfl,hone,hr⟩:=h;obtain⟨fp,h1,h2,h3⟩:=Hr r c cs (by simpa [gP]using ho) (by simpa [iN]using hu) hr;exact⟨fp,by simp only[res,R];exact⟨cs,rfl,hone,h1⟩,h2,by simpa [iN]using h3⟩
 | .iP c,v,ho,hu,h=>by simp only[R]at h;obtain⟨cs,rfl,hr⟩:=h;obtain⟨fp,h1,h2,h3⟩:=Hr r c cs (by simpa [gP]using ho) (by simpa [iN]using hu) hr;exact⟨fp,by simp only[res,R];exact⟨cs,rfl,h1⟩,h2,by simpa [iN]using h3⟩
 | .int k n,v,_,_,h=>⟨[],by simpa [res,R]using h,by simp,by simp⟩
 | .bool b,v,_,_,h=>⟨[],by simpa [res,R]using h,by simp,by simp⟩
 | .str x,v,_,_,h=>⟨[],by simpa [res,R]using h,by simp,by simp⟩
 | .sl .own n l,v,_,_,h=>⟨[],by simp only[res];rw[rO]at h⊢;exact h,by simp,by simp⟩
 | .sl .view n l,v,_,_,h=>⟨[],by simp only[res,R]at h⊢;exact h,by simp,by simp⟩
 | .sl (.iZ i) n l,v,ho,_,h=>by simp[gP]at ho
 | .fH .view c off,v,_,_,h=>⟨[],by simp only[res,R]at h⊢;exact h,by simp,by simp⟩
 | .fH .own c off,v,ho,_,h=>by simp[gP]at ho
 | .fH (.iZ _) c off,v,ho,_,h=>by simp[gP]at ho
 | .ptr _ _ _ _,v,ho,_,h=>by simp[gP]at ho
 | .fn f [],v,_,_,h=>⟨[],by simp only[res,R]at h⊢;obtain⟨h1,cs,h2,h3⟩:=h;refine⟨trivial,cs,h2,?_⟩;cases cs<;>simp_all[Rc],by simp,by simp⟩
 | .fn f (_::_),v,ho,_,h=>by simp[gP]at ho
 | .undef,v,_,_,h=>⟨[],by simp[res,R],by simp,by simp⟩
theorem Hr{P:Program}[aB P]{B:fM P}{s:AS}{G:List CO}{a:Act}{w:World}(r:dN B s G a w):∀(c:List AV) (cs:List Value),lM s.o c=true->(jF c).Nodup->Rc w (env B s.o G w) c cs []->
  ∃fp,Rc w (env B s.o G w).plain (rC s.o c) cs fp/\fp.Nodup/\∀b∈fp,Of s.o G (jF c) b
 |[],[],_,_,_=>⟨[],by simp[rC,Rc],by simp,by simp⟩
 |[],_::_,_,_,h=>by simp[Rc]at h
 |_::_,[],_,_,h=>by simp[Rc]at h
 |x::xs,c::cs,ho,hu,h=>by
  simp only[Rc]at h;obtain⟨g1,g2,h1,h2,e⟩:=h;obtain⟨rfl,rfl⟩:g1=[]/\g2=[]:=by simpa using e
  simp only[lM,eI]at ho;simp only[jF,gS]at hu;obtain⟨f1,k1,n1,o1⟩:=Ee r x c ho.1 hu.1 h1;obtain⟨f2,k2,n2,o2⟩:=Hr r xs cs ho.2 hu.2.1 h2;refine⟨f1++f2,by simp only[rC,Rc];exact⟨f1,f2,k1,k2,rfl⟩,?_,?_⟩
  .refine gS.2 ⟨n1,n2,λb hb b' hb' e=> ?_⟩
   subst e;obtain⟨i,ob,g,hi,hl,hlive,hF⟩:=o1 b hb;obtain⟨j,ob',g',hj,BU,wC,hF'⟩:=o2 b hb';exact hu.2.2 i hi j hj (r.apart i j _ _ _ _ b hl BU hlive wC hF hF')
  .intro b hb;rcases fS.1 hb with hb|hb
   .obtain ⟨i,ob,g,hi,h⟩:=o1 b hb;exact⟨i,ob,g,by simp[jF,hi],h⟩
   .obtain ⟨i,ob,g,hi,h⟩:=o2 b hb;exact⟨i,ob,g,by simp[jF,hi],h⟩
end
def mK(w:World):Env:=⟨λb=>b<w.heap.size,λ_=>True,λ_ _=>False,λ_ _ _=>False,λ_ _ _ _ _=>False⟩
def oO:Env:=⟨λ_=>False,λ_=>True,λ_ _=>False,λ_ _ _=>False,λ_ _ _ _ _=>False⟩
def Ae(n:Nat)(w:World)(fp:List Nat):Env:=⟨λb=>n<=b/\b<w.heap.size/\b∉fp,λ_=>True,λ_ _=>False,λ_ _ _=>False,λ_ _ _ _ _=>False⟩
theorem zh(n:Nat)(w:World)(fp:List Nat):dF w oO w (Ae n w fp):=
 ⟨λ_ h=>h.elim,λ_ _=>trivial,λ_ _ _ h=>h.elim,λ_ _ _ h=>h.elim,λ_ _ _ _ _ h=>h.elim⟩
theorem aI0{n:Nat}{w:World}{x:AV}{v:Value}{fp:List Nat}(h:R w oO x v fp):R w (Ae n w fp) x v fp:=lF (zh n w fp) _ _ _ (λ_ _=>rfl) h
def Ok(P:Program)[aB P](f:FuncId)(args:List AV)(r:AV):Prop:=
 ∀(w:World) (vs:List Value),aB.holds P w->Rc w (mK w) args vs []->
  Calls P f vs.toArray w λe w'=>∃v fp,e= .returned v/\R w' (Ae w.heap.size w' fp) r v fp/\fp.Nodup/\
   (∀b∈fp,w.heap.size<=b/\b<w'.heap.size)/\w.heap.size<=w'.heap.size/\(∀b,b<w.heap.size->w'.heap[b]? =w.heap[b]?)/\nV w w'
def Ht:Tg->Option Tg
 | .iZ _=>none
 |_=>some .view
mutual
def arg(o:List aD):AV->AV
 | .obj i ver=>match AV.isObj o i ver with
  |some ob=>if ob.box then .undef else .sl .view ob.n (iI (λ_=>some .view) false ob.dM)
  |none=> .undef
 | .ptr i ver idx off=>match AV.isObj o i ver with
  |some ob=>match ob.dM[idx]? with
   |some e=> .fH .view (qD Ht false e) off
   |none=> .undef
  |none=> .undef
 | .agg c=> .agg (AY o c)
 | .iP c=> .iP (AY o c)
 | .int k n=> .int k n
 | .bool b=> .bool b
 | .str s=> .str s
 | .sl (.iZ i) n l=>match o[i]? with
  |some ob=>if ob.live then .sl .view n (iI (λ_=>some .view) false l)else .undef
  |none=> .undef
 | .sl _ n l=> .sl .view n (iI (λ_=>some .view) false l)
 | .fH (.iZ i) c off=>match o[i]? with
  |some ob=>if ob.live then .fH .view (qD (λ_=>some .view) false c) off else .undef
  |none=> .undef
 | .fH _ c off=> .fH .view (qD (λ_=>some .view) false c) off
 | .fn f c=> .fn f (AY o c)
 | .undef=> .undef
def AY(o:List aD):List AV->List AV
 |[]=>[]
 |x::xs=>arg o x::AY o xs
end
theorem OE{P:Program}[aB P]{B:fM P}{s:AS}{G:List CO}{a:Act}{w:World}(r:dN B s G a w)(O:Nat->Prop)(hO:∀b,O b->b<w.heap.size):lK (λ_=>some .view) false (env B s.o G w).plain (mK w) O where
 own t e:=by obtain rfl:=cU e;exact⟨by simp,λb hb=>hO b hb⟩
 view t e:=by obtain rfl:=cU e;exact⟨rfl,λb hb=>nH r hb⟩
 iZ i t e:=by obtain rfl:=cU e;exact⟨by simp,.inl trivial,λb hb=>hb.elim⟩
 hh h:=by cases h
 hl h:=by cases h
theorem ZX{P:Program}[aB P]{B:fM P}{s:AS}{G:List CO}{a:Act}{w:World}(r:dN B s G a w)(box:Bool)(O:Nat->Prop)(hO:∀b,O b->b<w.heap.size):lK Ht false ((env B s.o G w).of box) (mK w) O where
 own t e:=by obtain rfl:=cU e;exact⟨by simp,λb hb=>hO b hb⟩
 view t e:=by obtain rfl:=cU e;exact⟨rfl,λb hb=>nH r (by cases box<;>exact hb)⟩
 iZ i t e:=by cases e
 hh h:=by cases h
 hl h:=by cases h
theorem ZY{P:Program}[aB P]{B:fM P}{s:AS}{G:List CO}{a:Act}{w:World}(r:dN B s G a w)(g:Tg)(O:Nat->Prop)(hO:∀b,O b->b<w.heap.size):lK (λ_=>some .view) false ((env B s.o G w).sub g) (mK w).plain O:=by
 cases g with
 |own=>exact OE r O hO
 |view=>exact OE r O hO
 |iZ i=>exact
  {own:=λt e=>by obtain rfl:=cU e;exact⟨by simp,λb hb=>hO b hb⟩
   view:=λt e=>by obtain rfl:=cU e;exact⟨rfl,λb hb=>nH r hb⟩
   iZ:=λj t e=>by obtain rfl:=cU e;refine⟨by simp,.inl trivial,λb hb=> ?_⟩;obtain⟨rfl,ob,g,hl,hlive,hF,_⟩:=hb;exact(r.fresh _ _ _ b hl hlive hF).2
   hh:=λh=>by cases h
   hl:=λh=>by cases h}
theorem aAd{P:Program}[aB P]{B:fM P}{s:AS}{G:List CO}{a:Act}{w:World}(r:dN B s G a w){g:Tg}{b:Nat}(h:(env B s.o G w).tg g b):b<w.heap.size:=by
 cases g with
 |own=>exact h.elim
 |view=>exact nH r h
 |iZ i=>obtain⟨ob,g,hl,hlive,hF,_⟩:=h;exact(r.fresh _ _ _ b hl hlive hF).2
theorem KX{P:Program}[aB P]{B:fM P}{s:AS}{G:List CO}{a:Act}{w:World}(r:dN B s G a w){g:Tg}{n:Nat}{l:List (List AV)}{v:Value}(hd:¬(env B s.o G w).dead g)(h:R w (env B s.o G w) (.sl g n l) v []):
  R w (mK w) (.sl .view n (iI (λ_=>some .view) false l)) v []:=by
 simp only[R,kJ]at h⊢;rcases h with h|⟨x,cap,hv,hl,h⟩
 .exact absurd h.1 hd
 refine .inr ⟨x,cap,hv,hl,.inr (.inr ⟨by simp,trivial,?_⟩)⟩;rcases h with⟨_,rfl,_⟩|⟨_,b,off,C,ty,fz,nU,ha,hb,hz,h1,h2,h3,Gj,hr⟩|⟨hg,_,h⟩
 .exact .inl rfl
 .cases Gj
 .rcases h with rfl|⟨b,off,ha,ht,hr⟩
  .exact .inl rfl
  .exact .inr ⟨b,off,ha,aAd r ht,Gy (ZY r g (λ_=>False) (λ_ h=>h.elim)) _ _ _ _ _ (by simp) hr⟩
mutual
theorem aN2{P:Program}[aB P]{B:fM P}{s:AS}{G:List CO}{a:Act}{w:World}(r:dN B s G a w):∀(av:AV) (v:Value),R w (env B s.o G w) av v []->R w (mK w) (arg s.o av) v []
 | .obj i ver,v,h=>by
  cases tX:AV.isObj s.o i ver with
  |none=>simp[arg,tX,R]
  |some ob=>
   simp only[arg,tX];by_cases hb:ob.box=true
   .simp [hb,R]
   simp only[R]at h;obtain⟨_,ob',g,hl,_,hh,_⟩:=h;obtain⟨h1,h2,h3⟩:=jB tX;obtain rfl:=cU (hl.1.symm.trans h1);have hv:=hh h2 h3;obtain⟨fp,⟨hlen,hown⟩,hnd,hF⟩:=r.ok i _ g hl h2;have hb':ob'.box=false:=by simpa using hb
   rw[hb']at hown;simp only[hb',cX,eS];simp only[R,kJ];refine .inr ⟨g.a,g.cap,hv,⟨hlen,by rcases hown with h|⟨_,_,_,_,_,_,_,_,_,_,h,_⟩;simp[h.1];exact h⟩,.inr (.inr ⟨by simp,trivial,?_⟩)⟩;rcases hown with⟨h5,_⟩|⟨b,off,C,e,fz,nU,ha,hbk,hz,k1,k2,k3,rfl,hr⟩
   .left;rw[h5];rfl
   .right;have hlt:∀x∈b::nU,x<w.heap.size:=λx hx=>(r.fresh _ _ _ x hl h2 (hF x hx)).2
    exact⟨b,off,ha,hlt b (by simp),Gy (OE r (λx=>x<w.heap.size) (λ_ h=>h)) _ _ _ _ nU (λx hx=>hlt x (by simp[hx])) hr⟩
 | .ptr i ver idx off,v,h=>by
  cases tX:AV.isObj s.o i ver with
  |none=>simp[arg,tX,R]
  |some ob=>
   simp only[arg,tX];cases he:ob.dM[idx]? with
   |none=>simp[R]
   |some e=>
    simp only[R]at h⊢;obtain⟨_,ob',g,hl,_,hh,_⟩:=h;obtain⟨h1,h2,h3⟩:=jB tX;obtain rfl:=cU (hl.1.symm.trans h1);obtain⟨b,f,ha,hv⟩:=hh h2 h3;obtain⟨fp,⟨_,hown⟩,hnd,hF⟩:=r.ok i _ g hl h2;have hlt:∀x∈fp,x<w.heap.size:=λx hx=>(r.fresh _ _ _ x hl h2 (hF x hx)).2
    rcases hown with⟨h5,_⟩|⟨b',f',C,ty,fz,nU,vB,hbk,hz,k1,k2,k3,rfl,hr⟩
    .rw [h5]at he;simp at he
    .rw [ha]at vB;simp only[eA,nB,qT]at vB;obtain⟨rfl,rfl⟩:=vB;obtain⟨f1,f2,f3,cs,rfl,hn,hc,hone,sK,_,_⟩:=Ac hr he;refine .inr ⟨trivial,b,f+idx*ob'.n,cs,?_,hlt b (by simp),hc,hone,?_⟩
     .rw [hv,oE]
     .have:=xA (ZX r ob'.box (λx=>x<w.heap.size) (λ_ h=>h)) e cs f2 (λx hx=>hlt x (by simp[hx])) sK;exact dX (w:=w) (w':=w) (E:=mK w) (E':=(mK w).sub .view) ⟨λ_ h=>⟨h,rfl⟩,λ_ _=>trivial,λ_ _ _ h=>h.elim,λ_ _ _ h=>h.elim,λ_ _ _ _ _ h=>h.elim⟩ _ _ _ (by simp) this
 | .agg c,v,h=>by simp only[R,arg]at h⊢;obtain⟨cs,hv,hone,hr⟩:=h;exact⟨cs,hv,hone,KY r c cs hr⟩
 | .iP c,v,h=>by simp only[R,arg]at h⊢;obtain⟨cs,hv,hr⟩:=h;exact⟨cs,hv,KY r c cs hr⟩
 | .fn f c,v,h=>by simp only[R,arg]at h⊢;obtain⟨h1,cs,hv,hr⟩:=h;exact⟨trivial,cs,hv,KY r c cs hr⟩
 | .int k n,v,h=>by simpa [arg,R]using h
 | .bool b,v,h=>by simpa [arg,R]using h
 | .str x,v,h=>by simpa [arg,R]using h
 | .sl .own n l,v,h=>by simp only[arg];exact KX r (g:= .own) (λh=>h) h
 | .sl .view n l,v,h=>by simp only[arg];exact KX r (g:= .view) (λh=>h) h
 | .sl (.iZ i) n l,v,h=>by
  simp only[arg];cases ho:s.o[i]? with
  |none=>simp[R]
  |some ob=>
   simp only;by_cases hlive:ob.live=true
   .rw [eW hlive];exact KX r (g:= .iZ i) (λhd=>hd (λob' qC=>by rw[ho]at qC;obtain rfl:=cU qC;exact hlive)) h
   .rw [eK hlive];simp[R]
 | .fH .own c off,v,h=>by
  simp only[R]at h;rcases h with h|⟨_,b,o,cs,hv,ht,_⟩
  .exact h.1.elim
  .exact ht.elim
 | .fH .view c off,v,h=>by
  simp only[arg];simp only[R]at h⊢;rcases h with h|⟨_,b,o,cs,hv,ht,hcs,hone,hr⟩
  .exact h.1.elim
  .exact .inr ⟨trivial,b,o,cs,hv,aAd r ht,hcs,hone,xA (ZY r .view (λ_=>False) (λ_ h=>h.elim)) _ _ _ (by simp) hr⟩
 | .fH (.iZ i) c off,v,h=>by
  simp only[arg];cases ho:s.o[i]? with
  |none=>simp[R]
  |some ob=>
   simp only;by_cases hlive:ob.live=true
   .rw [eW hlive];simp only[R]at h⊢;rcases h with h|⟨_,b,o,cs,hv,ht,hcs,hone,hr⟩
    .exact absurd (λob' qC=>by rw[ho]at qC;obtain rfl:=cU qC;exact hlive) h.1
    .exact .inr ⟨trivial,b,o,cs,hv,aAd r ht,hcs,hone,xA (ZY r (.iZ i) (λ_=>False) (λ_ h=>h.elim)) _ _ _ (by simp) hr⟩
   .rw [eK hlive];simp[R]
 | .undef,v,_=>by simp[arg,R]
theorem KY{P:Program}[aB P]{B:fM P}{s:AS}{G:List CO}{a:Act}{w:World}(r:dN B s G a w):∀(c:List AV) (cs:List Value),Rc w (env B s.o G w) c cs []->Rc w (mK w) (AY s.o c) cs []
 |[],[],_=>by simp[AY,Rc]
 |[],_::_,h=>by simp[Rc]at h
 |_::_,[],h=>by simp[Rc]at h
 |x::xs,c::cs,h=>by
  simp only[Rc]at h;obtain⟨f1,f2,h1,h2,e⟩:=h;obtain⟨rfl,rfl⟩:f1=[]/\f2=[]:=by simpa using e
  simp only[AY,Rc];exact⟨[],[],aN2 r x c h1,KY r xs cs h2,rfl⟩
end
mutual
def eB(q k:Nat):AV->AV×List aD
 | .sl .own n l=>(.obj k q,[⟨true,false,n,q,l⟩])
 | .agg c=>let p:=eF q k c;(.agg p.1,p.2)
 | .iP c=>let p:=eF q k c;(.iP p.1,p.2)
 |x=>(x,[])
def eF(q k:Nat):List AV->List AV×List aD
 |[]=>([],[])
 |x::xs=>let p:=eB q k x;let r:=eF q (k+p.2.length) xs;(p.1::r.1,p.2++r.2)
end
def jT(q:Nat)(w:World)(E:Env)(k:Nat)(os:List aD)(fp:List Nat)(done:Env->Prop):Prop:=
 ∃Gs:List CO,Gs.length=os.length/\
  (∀j ob g,look os Gs j ob g->ob.live=true/\ob.box=false/\ob.ver=q/\∃f,qH w E.plain ob.n ob.dM g.a g.cap f/\f.Nodup/\(∀b,g.F b↔b∈f)/\∀b∈f,b∈fp)/\
  (∀i j oi oj gi gj b,look os Gs i oi gi->look os Gs j oj gj->gi.F b->gj.F b->i=j)/\
  ∀E':Env,dF w E w E'->(∀j ob g,look os Gs j ob g->E'.H (k+j) q (.slice g.a ob.dM.length g.cap))->done E'
theorem jT.none{q:Nat}{w:World}{E:Env}{k:Nat}{av:AV}{v:Value}(h:R w E av v []):jT q w E k [] [] (λE'=>R w E' av v []):=
 ⟨[],rfl,λj ob g hl=>by simp[look]at hl,λi j oi oj gi gj b hl=>by simp[look]at hl,λE' hk _=>lF hk _ _ _ (by simp) h⟩
theorem jT.append{q:Nat}{w:World}{E:Env}{k:Nat}{o1 o2:List aD}{f1 f2:List Nat}{d1 d2:Env->Prop}(h1:jT q w E k o1 f1 d1)(h2:jT q w E (k+o1.length) o2 f2 d2)(hn:(f1++f2).Nodup):
  jT q w E k (o1++o2) (f1++f2) (λE'=>d1 E'/\d2 E'):=by
 obtain⟨G1,l1,a1,b1,c1⟩:=h1;obtain⟨G2,l2,a2,b2,c2⟩:=h2;have hd:=(gS.1 hn).2.2;refine⟨G1++G2,by simp[l1,l2],?_,?_,?_⟩
 .intro j ob g hl;rcases lH l1 hl with⟨_,h⟩|⟨_,h⟩
  .obtain ⟨x,y,y',f,z⟩:=a1 _ _ _ h;exact⟨x,y,y',f,z.1,z.2.1,z.2.2.1,λb hb=>oB _ (z.2.2.2 b hb)⟩
  .obtain ⟨x,y,y',f,z⟩:=a2 _ _ _ h;exact⟨x,y,y',f,z.1,z.2.1,z.2.2.1,λb hb=>tD _ (z.2.2.2 b hb)⟩
 .intro i j oi oj gi gj b hi hj Ef KZ;rcases lH l1 hi with⟨_,h⟩|⟨hi',h⟩<;>rcases lH l1 hj with⟨_,h'⟩|⟨ZM,h'⟩
  .exact b1 _ _ _ _ _ _ b h h' Ef KZ
  .obtain ⟨_,_,_,f,z⟩:=a1 _ _ _ h;obtain⟨_,_,_,f',z'⟩:=a2 _ _ _ h';exact absurd rfl (hd b (z.2.2.2 b ((z.2.2.1 b).1 Ef)) b (z'.2.2.2 b ((z'.2.2.1 b).1 KZ)))
  .obtain ⟨_,_,_,f,z⟩:=a2 _ _ _ h;obtain⟨_,_,_,f',z'⟩:=a1 _ _ _ h';exact absurd rfl (hd b (z'.2.2.2 b ((z'.2.2.1 b).1 KZ)) b (z.2.2.2 b ((z.2.2.1 b).1 Ef)))
  .have:=b2 _ _ _ _ _ _ b h h' Ef KZ;omega
 .intro E' hk hh;refine⟨c1 E' hk λj ob g hl=>hh j ob g (jK hl),c2 E' hk λj ob g hl=> ?_⟩;have:=hh _ ob g (kK l1 hl)
  rwa[<-oE]at this
mutual
theorem Af{q:Nat}{w:World}{E:Env}:∀(av:AV) (v:Value) (fp:List Nat) (k:Nat),R w E av v fp->fp.Nodup->jT q w E k (eB q k av).2 fp (λE'=>R w E' (eB q k av).1 v [])
 | .sl .own n l,v,fp,k,h,hn=>by
  obtain⟨a,cap,hv,hown⟩:=rO.1 h;refine⟨[⟨a,cap,λb=>b∈fp⟩],rfl,?_,?_,?_⟩
  .rintro j ob g ⟨h1,h2⟩;cases j with
   |zero=>simp[eB]at h1 h2;subst h1;subst h2;exact⟨rfl,rfl,rfl,fp,hown,hn,λb=>Iff.rfl,λb hb=>hb⟩
   |succ j=>simp[eB]at h1
  .rintro i j oi oj gi gj b ⟨h1,_⟩ ⟨h2,_⟩ _ _;cases i<;>cases j<;>simp_all[eB]
  .intro E' _ hh;simp only[eB,R];have:=hh 0 ⟨true,false,n,q,l⟩ ⟨a,cap,λb=>b∈fp⟩ ⟨rfl,rfl⟩;rw[hv];exact⟨trivial,this⟩
 | .agg c,v,fp,k,h,hn=>by simp only[R]at h;obtain⟨cs,hv,hone,hr⟩:=h;obtain⟨Gs,a,b,c',d⟩:=BZ c cs fp k hr hn;exact⟨Gs,a,b,c',λE' hk hh=>by simp only[eB,R];exact⟨cs,hv,hone,d E' hk hh⟩⟩
 | .iP c,v,fp,k,h,hn=>by simp only[R]at h;obtain⟨cs,hv,hr⟩:=h;obtain⟨Gs,a,b,c',d⟩:=BZ c cs fp k hr hn;exact⟨Gs,a,b,c',λE' hk hh=>by simp only[eB,R];exact⟨cs,hv,d E' hk hh⟩⟩
 | .sl .view n l,v,fp,k,h,_=>by
  have hf:fp=[]:=by
   simp only[R]at h;rcases h with h|⟨_,_,_,_,h|h|h⟩
   .exact h.2
   .exact h.2.2.2
   .exact absurd h.1 (by simp)
   .exact h.2.1
  subst hf;exact jT.none h
 | .sl (.iZ i) n l,v,fp,k,h,_=>by
  have hf:fp=[]:=by
   simp only[R]at h;rcases h with h|⟨_,_,_,_,h|h|h⟩
   .exact h.2
   .exact h.2.2.2
   .exact absurd h.1 (by simp)
   .exact h.2.1
  subst hf;exact jT.none h
 | .int _ _,v,fp,k,h,_=>by have h':=h;simp only[R]at h';obtain⟨_,rfl⟩:=h';exact jT.none h
 | .bool _,v,fp,k,h,_=>by have h':=h;simp only[R]at h';obtain⟨_,rfl⟩:=h';exact jT.none h
 | .str _,v,fp,k,h,_=>by have h':=h;simp only[R]at h';obtain⟨_,rfl⟩:=h';exact jT.none h
 | .fH _ _ _,v,fp,k,h,_=>by
  have hf:fp=[]:=by simp only[R]at h;rcases h with h|h;exact h.2;exact h.1
  subst hf;exact jT.none h
 | .obj _ _,v,fp,k,h,_=>by have h':=h;simp only[R]at h';obtain⟨rfl,_⟩:=h';exact jT.none h
 | .ptr _ _ _ _,v,fp,k,h,_=>by have h':=h;simp only[R]at h';obtain⟨rfl,_⟩:=h';exact jT.none h
 | .fn _ _,v,fp,k,h,_=>by have h':=h;simp only[R]at h';obtain⟨rfl,_⟩:=h';exact jT.none h
 | .undef,v,fp,k,h,_=>by have h':=h;simp only[R]at h';subst h';exact jT.none h
theorem BZ{q:Nat}{w:World}{E:Env}:∀(c:List AV) (cs:List Value) (fp:List Nat) (k:Nat),Rc w E c cs fp->fp.Nodup->jT q w E k (eF q k c).2 fp (λE'=>Rc w E' (eF q k c).1 cs [])
 |[],[],fp,k,h,_=>by simp only[Rc]at h;subst h;exact⟨[],rfl,λj ob g hl=>by simp[look,eF]at hl,λi j oi oj gi gj b hl=>by simp[look,eF]at hl,λE' hk _=>by simp[eF,Rc]⟩
 |[],_::_,_,_,h,_=>by simp[Rc]at h
 |_::_,[],_,_,h,_=>by simp[Rc]at h
 |x::xs,c::cs,fp,k,h,hn=>by
  simp only[Rc]at h;obtain⟨f1,f2,h1,h2,rfl⟩:=h;have n1:=(gS.1 hn);have:=(Af x c f1 k h1 n1.1).append (BZ xs cs f2 (k+(eB q k x).2.length) h2 n1.2.1) hn;obtain⟨Gs,a,b,c',d⟩:=this;exact⟨Gs,a,b,c',λE' hk hh=>by
   have:=d E' hk hh;simp only[eF,Rc];exact⟨[],[],this.1,this.2,rfl⟩⟩
end
def aT(P:Program)(f:FuncId):Bool:=
 match P.funcs[f]? with
 |some fn=> !(fn.name == "runtime.NumGoroutine")&&fn.body.isSome
 |none=>false
theorem rD{P:Program}[aB P]{f:FuncId}(h:aT P f=true)(args:Array Value)(w:World):(callFunc f args).run P w= .ok (.enter f args) w:=by
 unfold aT at h;split at h
 .rename_i fn hf;simp only[eI,xF]at h;cases hx:fn.body with
  |none=>simp[hx]at h
  |some c=>
   have hne:fn.name≠ "runtime.NumGoroutine" :=by simpa using h.1
   simp[callFunc,hf,hne,hx]
 .cases h
def AS.args(s:AS)(l:Array Operand):List AV:=l.toList.map s.ev
theorem qJ{P:Program}[aB P]{B:fM P}{s:AS}{G:List CO}{a:Act}{w:World}(r:dN B s G a w):∀l:List Operand,Rc w (env B s.o G w) (l.map s.ev) (l.map a.eval) []
 |[]=>by simp[Rc]
 |x::xs=>by simp only[lA,Rc];exact⟨[],[],r.ev x,qJ r xs,rfl⟩
def AS.called(s:AS)(d:Option Tmp)(r:AV):AS:=AS.put ⟨s.t,s.o++(eB 1 s.o.length r).2⟩ d (eB 1 s.o.length r).1
theorem dF.refl(w:World)(E:Env):dF w E w E:=⟨λ_ h=>⟨h,rfl⟩,λ_ h=>h,λ_ _ _ h=>⟨h,rfl⟩,λ_ _ _ h=>h,λ_ _ _ _ _ h=>h⟩
theorem dF.trans{w:World}{E E' E'':Env}(k:dF w E w E')(k':dF w E' w E''):dF w E w E'':=
 ⟨λb h=>⟨(k'.a b (k.a b h).1).1,rfl⟩,λi h=>k.v i (k'.v i h),λi b hv h=>⟨(k'.d i b hv (k.d i b (k'.v i hv) h).1).1,rfl⟩,λi v x h=>k'.h i v x (k.h i v x h),λi v j o x h=>k'.l i v j o x (k.l i v j o x h)⟩
mutual
def clean:AV->Bool
 | .sl .own _ l=>jC l
 | .sl _ _ l=>l.isEmpty
 | .fH _ _ _=>false
 | .agg c=>BI c
 | .iP c=>BI c
 | .fn _ c=>BI c
 |_=>true
def BI:List AV->Bool
 |[]=>true
 |x::xs=>clean x&&BI xs
def jC:List (List AV)->Bool
 |[]=>true
 |x::xs=>BI x&&jC xs
end
mutual
theorem Oe{w:World}{E E':Env}(hv:∀i,E'.V i->E.V i)(hd:E.D=λ_ _=>False)(hh:E.H=λ_ _ _=>False)(hl:E.L=λ_ _ _ _ _=>False):∀(av:AV) (v:Value) (fp:List Nat),clean av=true->R w E av v fp->R w E' av v fp
 | .sl .own n l,v,fp,hc,h=>by
  obtain⟨a,cap,rfl,hlen,hown⟩:=rO.1 h;refine rO.2 ⟨a,cap,rfl,hlen,?_⟩;rcases hown with h|⟨b,off,C,e,fz,nU,ha,hb,hz,h1,h2,h3,rfl,hr⟩
  .exact .inl h
  .exact .inr ⟨b,off,C,e,fz,nU,ha,hb,hz,h1,h2,h3,rfl,WL (E:=E.plain) (E':=E'.plain) (λ_ _=>trivial) rfl rfl rfl l b off n nU (by simpa [clean]using hc) hr⟩
 | .sl .view n l,v,fp,hc,h=>by
  have:l=[]:=by simpa [clean]using hc
  subst this;simp only[R]at h⊢;rcases h with h|⟨a,cap,hv',BU,h⟩
  .exact h.1.elim
  .exact .inr ⟨a,cap,hv',BU,.inr (.inr ⟨by simp,by rcases h with h|h|h;exact h.2.2.2;exact absurd h.1 (by simp);exact h.2.1,.inl trivial⟩)⟩
 | .sl (.iZ i) n l,v,fp,hc,h=>by
  have:l=[]:=by simpa [clean]using hc
  subst this;simp only[R]at h⊢;rcases h with h|⟨a,cap,hv',BU,h⟩
  .exact .inl ⟨λhd=>h.1 (hv i hd),h.2⟩
  .exact .inr ⟨a,cap,hv',BU,.inr (.inr ⟨by simp,by rcases h with h|h|h;exact h.2.2.2;exact absurd h.1 (by simp);exact h.2.1,.inl trivial⟩)⟩
 | .int _ _,_,_,_,h=>by simpa [R]using h
 | .bool _,_,_,_,h=>by simpa [R]using h
 | .str _,_,_,_,h=>by simpa [R]using h
 | .fH _ _ _,_,_,hc,_=>by simp[clean]at hc
 | .obj _ _,_,_,_,h=>by simp only[R,hh]at h;exact h.2.elim
 | .ptr _ _ _ _,_,_,_,h=>by simp only[R,hl]at h;exact h.2.elim
 | .agg c,v,fp,hc,h=>by simp only[R]at h⊢;obtain⟨cs,h1,h2,h3⟩:=h;exact⟨cs,h1,h2,Ca hv hd hh hl c cs fp (by simpa [clean]using hc) h3⟩
 | .iP c,v,fp,hc,h=>by simp only[R]at h⊢;obtain⟨cs,h1,h3⟩:=h;exact⟨cs,h1,Ca hv hd hh hl c cs fp (by simpa [clean]using hc) h3⟩
 | .fn f c,v,fp,hc,h=>by simp only[R]at h⊢;obtain⟨h0,cs,h1,h3⟩:=h;exact⟨h0,cs,h1,Ca hv hd hh hl c cs [] (by simpa [clean]using hc) h3⟩
 | .undef,_,_,_,h=>by simpa [R]using h
theorem Ca{w:World}{E E':Env}(hv:∀i,E'.V i->E.V i)(hd:E.D=λ_ _=>False)(hh:E.H=λ_ _ _=>False)(hl:E.L=λ_ _ _ _ _=>False):∀(c:List AV) (cs:List Value) (fp:List Nat),BI c=true->Rc w E c cs fp->Rc w E' c cs fp
 |[],[],_,_,h=>by simpa [Rc]using h
 |[],_::_,_,_,h=>by simp[Rc]at h
 |_::_,[],_,_,h=>by simp[Rc]at h
 |x::xs,c::cs,fp,hc,h=>by simp only[Rc]at h⊢;simp only[BI,eI]at hc;obtain⟨f1,f2,h1,h2,h3⟩:=h;exact⟨f1,f2,Oe hv hd hh hl x c f1 hc.1 h1,Ca hv hd hh hl xs cs f2 hc.2 h2,h3⟩
theorem WL{w:World}{E E':Env}(hv:∀i,E'.V i->E.V i)(hd:E.D=λ_ _=>False)(hh:E.H=λ_ _ _=>False)(hl:E.L=λ_ _ _ _ _=>False):∀(l:List (List AV)) (b off n:Nat) (fp:List Nat),jC l=true->Rr w E l b off n fp->Rr w E' l b off n fp
 |[],_,_,_,_,_,h=>by simpa [Rr]using h
 |e::es,b,off,n,fp,hc,h=>by simp only[Rr]at h⊢;simp only[jC,eI]at hc;obtain⟨cs,f1,f2,h1,h2,h3,h4,h5,h6⟩:=h;exact⟨cs,f1,f2,h1,h2,h3,Ca hv hd hh hl e cs f1 hc.1 h4,WL hv hd hh hl es b (off+n) n f2 hc.2 h5,h6⟩
end
def OkN(P:Program)(f:FuncId)(args:List AV)(r:AV):Prop:=
 ∀(w:World) (vs:List Value),Rc w (mK w) args vs []->∃v w',(callFunc f vs.toArray).run P w= .ok (.value v) w'/\w'.heap=w.heap/\nV w w'/\∀w'' E,R w'' E r v []
theorem zi(f:Operand)(args:Array Operand)(KS:Array TypeId){g:FuncId}{cap:List AV}{rr:AV}(hf:s.ev f= .fn g cap)(hc:aT P g=true)
  (qE:Ok P g (AY s.o (s.args args++cap)) rr):
  Step P B ⟨dst,.call {callee:= .value f,args:=args,argTypes:=KS},ty,pos,after,gd⟩ s (s.called dst rr):=by
 rintro a w next Q ⟨G,r⟩ hn
 have h1:=r.ev f;rw[hf]at h1;simp only[R]at h1;obtain⟨_,cs,hv,sP⟩:=h1;have oP:Rc w (env B s.o G w) (s.args args++cap) (args.toList.map a.eval++cs) []:=by have:=iQ (qJ r args.toList) sP;simpa [AS.args]using this
 have Cb:=qE w _ r.holds (KY r _ _ oP);unfold Oper.wp;have fV:(execOp a.eval ⟨dst,.call {callee:= .value f,args:=args,argTypes:=KS},ty,pos,after,gd⟩).run P w= .ok (.enter g (args.toList.map a.eval++cs).toArray) w:=by
  have e:args.map a.eval++cs.toArray=(args.toList.map a.eval++cs).toArray:=by apply AM;simp
  simp[execOp,resolve,hv,Deferred.ofValue,invoke,rD hc,e]
 rw[fV,AH];refine Cb.mono λe w' h=> ?_
 obtain⟨v,fp,rfl,Nu,hnd,La,hsz,iH,zJ⟩:=h;refine hn _ _ ?_;obtain⟨Gs,hlen,vZ,hap,vO⟩:=Af (q:=1) rr v fp s.o.length Nu hnd;have kn:dF w' (Ae w.heap.size w' fp) w' (env B (s.o++(eB 1 s.o.length rr).2) (G++Gs) w'):=by
  refine⟨λb hb=>⟨⟨.inr ⟨kO r.size hb.1,hb.2.1⟩,λi ob g hl hlive hF=> ?_⟩,rfl⟩,λ_ _=>trivial,λ_ _ _ h=>h.elim,λ_ _ _ h=>h.elim,λ_ _ _ _ _ h=>h.elim⟩;rcases lH r.len hl with⟨_,h⟩|⟨_,h⟩
  .have:=(r.fresh _ _ _ b h hlive hF).2;have:=hb.1;omega
  .obtain ⟨_,_,_,f,_,_,h3,h4⟩:=vZ _ _ _ h;exact hb.2.2 (h4 _ ((h3 _).1 hF))
 have Hu:=r.add (eB 1 s.o.length rr).2 Gs w' hlen hsz iH (λj ob g b hl _ hF=>by
   obtain⟨_,_,_,f,_,_,h3,h4⟩:=vZ _ _ _ hl;exact La _ (h4 _ ((h3 _).1 hF))) (λi j oi oj gi gj b hi hj _ _ Ef KZ=>hap _ _ _ _ _ _ b hi hj Ef KZ) (λk j ob g hl _=>by
   obtain⟨h1,h2,_,f,hown,h3,h4,h5⟩:=vZ _ _ _ hl;refine⟨f,?_,h3,λb hb=>(h4 b).2 hb⟩;have:=hown.keeps kn.plain (λ_ _=>rfl);rw[h2];exact this) zJ
 refine⟨G++Gs,Hu.1.put dst ?_⟩;refine vO _ kn λj ob g hl=> ?_
 obtain⟨_,_,h3,_⟩:=vZ _ _ _ hl;exact⟨ob,g,kK r.len hl,tP h3.symm,λ_ _=>rfl,λh=>absurd h (by decide)⟩
theorem dN.heap{G:List CO}{a:Act}{w w':World}(r:dN B s G a w)(hh:w'.heap=w.heap)(same:nV w w'):dN B s G a w':=by
 have hE:env B s.o G w'=env B s.o G w:=by unfold env;rw[hh]
 have k:dF w (env B s.o G w) w' (env B s.o G w'):=by rw[hE];exact⟨λb h=>⟨h,by rw[hh]⟩,λ_ h=>h,λ_ _ _ h=>⟨h,by rw[hh]⟩,λ_ _ _ h=>h,λ_ _ _ _ _ h=>h⟩
 have:=r.next (o':=s.o) (G':=G) (w':=w') k r.len (λi ob g hl hlive=>(r.ok i ob g hl hlive).keeps k (λ_ _=>by rw[hh])) r.apart
  (λi ob g b hl hlive hF=>by have:=r.fresh i ob g b hl hlive hF;rw[hh];exact this) (by rw[hh];exact eE _) (λ_ _ _=>by rw[hh]) same
 exact this
theorem WM(f:Operand)(args:Array Operand)(KS:Array TypeId){g:FuncId}{cap:List AV}{rr:AV}(hf:s.ev f= .fn g cap)
  (qE:OkN P g (AY s.o (s.args args++cap)) rr):
  Step P B ⟨dst,.call {callee:= .value f,args:=args,argTypes:=KS},ty,pos,after,gd⟩ s (s.put dst rr):=by
 rintro a w next Q ⟨G,r⟩ hn
 have h1:=r.ev f;rw[hf]at h1;simp only[R]at h1;obtain⟨_,cs,hv,sP⟩:=h1;have oP:Rc w (env B s.o G w) (s.args args++cap) (args.toList.map a.eval++cs) []:=by have:=iQ (qJ r args.toList) sP;simpa [AS.args]using this
 obtain⟨v,w',WN,hh,iH,hR⟩:=qE w _ (KY r _ _ oP);unfold Oper.wp;have fV:(execOp a.eval ⟨dst,.call {callee:= .value f,args:=args,argTypes:=KS},ty,pos,after,gd⟩).run P w= .ok (.value v) w':=by
  have e:args.map a.eval++cs.toArray=(args.toList.map a.eval++cs).toArray:=by apply AM;simp
  simp[execOp,resolve,hv,Deferred.ofValue,invoke,e,WN]
 rw[fV,Oper.upon_value];exact hn _ _ ⟨G,(r.heap hh iH).put dst (hR _ _)⟩
end
end Go.Aw
