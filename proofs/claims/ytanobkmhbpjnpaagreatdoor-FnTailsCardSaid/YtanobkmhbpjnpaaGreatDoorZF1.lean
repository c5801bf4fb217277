/- Steps. No condition. -/
import Derived.WalkKit
set_option linter.all false
namespace Go.Aw
open List
def aE:= @List.getElem?_eq_getElem
def cH:= @List.set_cons_succ
def cQ:= @List.set_cons_zero
def cU:= @List.getElem?_eq_some_iff
def cW:= @List.cons_append
def cX:= @Option.some.inj
def cY:= @Bool.false_eq_true
def eA:= @List.nil_append
def eC:= @if_neg
def eE:= @List.append_nil
def eI:= @Option.some.injEq
def eJ:= @Nat.le_refl
def eK:= @Bool.and_eq_true
def eL:= @List.length_cons
def eM:= @if_pos
def eN:= @List.take_of_length_le
def eR:= @List.length_append
def eS:= @if_true
def eV:= @List.take_succ_cons
def eW:= @if_false
def fL:= @List.length_nil
def fN:= @List.take_succ_eq_append_getElem
def fR:= @List.mem_append
def fS:= @cond_false
def fW:= @List.all_eq_true
def fX:= @Bool.and_eq_true_iff
def fY:= @decide_eq_true_eq
def gC:= @Array.getD_eq_getD_getElem?
def gE:= @cond_true
def gO:= @List.eq_nil_of_length_eq_zero
def gR:= @List.getElem_mem
def gS:= @List.take_zero
def hY:= @Int.eq_ofNat_of_zero_le
def iS:= @Nat.le_trans
def kO:= @Go.run_underlying
def lA:= @Go.World.cell?_setCell_other
def lB:= @List.getElem?_set_ne
def lE:= @List.nodup_append
def lO:= @List.getElem?_append_right
def lP:= @Nat.lt_of_lt_of_le
def lR:= @Nat.zero_add
def mA:= @List.getD_eq_getElem?_getD
def mB:= @Nat.mul_le_mul_right
def mC:= @List.mem_cons
def mL:= @Bool.exists_bool
def mN:= @List.getElem?_set_self
def mS:= @List.mem_singleton
def mT:= @Go.Result.andThen_ok
def nB:= @List.mem_of_getElem?
def nF:= @List.nodup_cons
def oA:= @List.getElem?_append_left
def oB:= @Int.toNat_natCast
def oE:= @List.map_cons
def oR:= @Option.map_some
def oS:= @Go.Addr.mk.injEq
def oT:= @Prod.mk.injEq
def oX:= @List.replicate_succ
def oY:= @List.drop_eq_getElem_cons
def pA:= @List.mem_append_left
def pB:= @Go.Sem.run_bind
def pC:= @List.take_append_drop
def pD:= @List.length_filter_le
def pH:= @Nat.add_assoc
def pL:= @List.length_take
def pN:= @List.mem_of_find?_eq_some
def pP:= @List.map_append
def pS:= @and_true
def pT:= @List.getElem?_eq_none
def pZ:= @List.flatten_cons
def qS:= @List.count_le_length
def rB:= @Go.World.cell?_setCell_same
def rI:= @Nat.lt_irrefl
def rK:= @Nat.add_mul
def rL:= @List.append_assoc
def rN:= @List.mem_or_eq_of_mem_set
def rS:= @Array.getElem?_eq_getElem
def sA:= @Bool.or_eq_true
def sB:= @Option.getD_some
def sC:= @decide_eq_decide
def sE:= @Nat.add_zero
def sL:= @decide_eq_false_iff_not
def sR:= @List.getElem?_cons_zero
def sX:= @List.drop_succ_cons
def sY:= @Int.tmod_eq_emod_of_nonneg
def tA:= @List.mem_of_mem_take
def tB:= @List.length_singleton
def tD:= @List.getElem?_eq_none_iff
def tE:= @List.length_map
def tG:= @List.replicate_zero
def tI:= @decide_eq_true
def tM:= @List.take_append_of_le_length
def tP:= @List.Sublist.refl
def tR:= @Go.Sem.run_pure
def tU:= @Nat.sub_self
def tW:= @List.mem_append_right
def vA:= @List.getElem?_map
def wA:= @Array.getElem?_append_left
def xF:= @Option.map_eq_some_iff
def yW:= @Array.getElem?_eq_some_iff
def zE:= @List.mem_map
def An:= @Classical.byContradiction
def As:= @congrArg
def At:= @Bool.and_eq_false_iff
def Ax:= @List.exists_cons_of_ne_nil
def AD:= @Option.bind_some
def AE:= @List.getElem?_cons_succ
def AF:= @List.length_eq_zero_iff
def AG:= @Bool.not_eq_true
def AH:= @Ne.symm
def AI:= @Nat.le_of_eq
def AK:= @Bool.true_and
def AM:= @Nat.lt_or_ge
def AN:= @List.length_drop
def AT:= @List.length_pos_iff
def AW:= @Bool.not_eq_true'
def Bk:= @List.drop_drop
def Bm:= @decide_eq_false
def Bs:= @List.set_eq_of_length_le
def Bx:= @Nat.succ_mul
def By:= @List.set_append_right
def BE:= @List.eq_nil_or_concat
def BT:= @Array.toList_setIfInBounds
def BW:= @List.mem_of_mem_drop
def BY:= @Go.Oper.upon_enter
def Cd:= @List.mem_cons_of_mem
def Cl:= @List.all_cons
def Cp:= @List.drop_of_length_le
def CA:= @List.ext_getElem?
def CC:= @List.getElem?_take
def CD:= @Go.World.cell?_setCells_out
def CH:= @Array.ext'
def CI:= @Option.isSome_iff_exists
def CM:= @List.drop_append_of_le_length
def CN:= @Go.Value.pointer.injEq
def CT:= @Go.World.cell?_setCells_in
def Dd:= @Go.IntKind.wrap_i64
def Dg:= @decide_true
def Ds:= @beq_iff_eq
def DA:= @UInt8.toNat_inj
def DB:= @Bool.not_true
def DE:= @List.length_set
def DG:= @UInt8.toNat_lt
def DH:= @List.not_mem_nil
def DM:= @List.take_length
def DO:= @Array.toList_map
def DP:= @List.drop_zero
def DQ:= @List.foldl_append
def DS:= @Array.mapM_eq_mapM_toList
def Ek:= @List.eq_nil_iff_forall_not_mem
def EV:= @beq_eq_false_iff_ne
def Fi:= @List.find?_eq_none
def Fk:= @Array.getElem?_replicate
def Fl:= @List.cons.inj
def Fm:= @UInt8.toNat.inj
def Fo:= @Nat.min_eq_left
def Ft:= @Go.grownCap_le_maxLen
def FA:= @List.find?_some
def FF:= @List.mem_filter
def FG:= @Array.all_eq_true'
def Ge:= @Go.calls_of_wp
def Gk:= @Classical.not_not
def GB:= @List.getElem?_set
def GC:= @List.map_nil
def GF:= @List.append_eq_nil_iff
def GO:= @List.Perm.append_left
def GP:= @and_assoc
def GS:= @List.range_succ
def GW:= @Bool.false_or
def Hb:= @Bool.and_self
def Hc:= @List.mem_flatMap
def Hh:= @Decidable.of_not_not
def Hi:= @Bool.eq_iff_iff
def Hj:= @Go.wp_mono
def Hk:= @Bool.not_false
def Hn:= @and_self
def aA{a b:Prop}(h:a)(k:b):a/\b:=⟨h,k⟩
inductive Tg where
  | own
  | view
  | mQ (i:Nat)
inductive AV where
  | int (k:IntKind) (n:Int)
  | bool (b:Bool)
  | str (s:List UInt8)
  | sl (g:Tg) (n:Nat) (l:List (List AV))
  | iW (g:Tg) (c:List AV) (off:Nat)
  | obj (i bY:Nat)
  | ptr (i bY idx off:Nat)
  | agg (c:List AV)
  | iL (c:List AV)
  | fn (f:FuncId) (c:List AV)
  | aB
instance:Inhabited AV := ⟨.aB⟩
structure Env where
  A:Nat -> Prop
  V:Nat -> Prop
  D:Nat -> Nat -> Prop
  H:Nat -> Nat -> Value -> Prop
  L:Nat -> Nat -> Nat -> Nat -> Value -> Prop
def Env.tg(E:Env):Tg->Nat->Prop
 | .own,_=>False
 | .view,b=>E.A b
 | .mQ i,b=>E.D i b
def Env.dead(E:Env):Tg->Prop
 | .mQ i=>¬E.V i
 |_=>False
def Env.plain(E:Env):Env where
 A:=E.A
 V _:=True
 D _ _:=False
 H _ _ _:=False
 L _ _ _ _ _:=False
def Env.sub(E:Env):Tg->Env
 | .mQ i=>{E.plain with D:=λj b=>j=i/\E.D i b}
 |_=>E.plain
def dB(w:World)(b off:Nat)(cs:List Value):Prop:=∀j v,cs[j]? =some v->w.cell? ⟨b,off+j,none⟩=some v
mutual
def R(w:World): Env -> AV -> Value -> List Nat -> Prop
  | _, .int k n, v, fp => v = .int k n /\ fp = []
  | _, .bool b, v, fp => v = .bool b /\ fp = []
  | _, .str s, v, fp => v = .string ⟨s.toArray⟩ /\ fp = []
  | E, .sl g n l, v, fp => (E.dead g /\ fp = []) \/ ∃ a cap, v = .slice a l.length cap /\ (l.length <= maxLen /\ l.length <= cap) /\
      ((g = .own /\ l = [] /\ cap = 0 /\ fp = []) \/
       (g = .own /\ ∃ b off C e fz sH, a = some ⟨b, off, none⟩ /\ w.heap[b]? = some (.cells C e fz) /\ ((C.size <= fz.1 /\ n = 1) \/ fz.2 = 0) /\
          off+cap*n <= C.size /\ l.length <= cap /\ cap <= maxLen /\ fp = b :: sH /\ Rr w (E.sub g) l b off n sH) \/
       (g ≠ .own /\ fp = [] /\ (l = [] \/ ∃ b off, a = some ⟨b, off, none⟩ /\ E.tg g b /\ Rr w (E.sub g) l b off n [])))
  | E, .iW g c off, v, fp => (E.dead g /\ fp = []) \/ fp = [] /\ ∃ b o cs, v = .pointer (some ⟨b, o+off, none⟩) /\ E.tg g b /\ dB w b o cs /\ (∀ x ∈ cs, x.oneCell' = true) /\ Rc w (E.sub g) c cs []
  | E, .obj i bY, v, fp => fp = [] /\ E.H i bY v
  | E, .ptr i bY idx off, v, fp => fp = [] /\ E.L i bY idx off v
  | E, .agg c, v, fp => ∃ cs:List Value, v = .agg cs.toArray /\ (∀ x ∈ cs, x.oneCell' = true) /\ Rc w E c cs fp
  | E, .iL c, v, fp => ∃ cs:List Value, v = .tuple cs.toArray /\ Rc w E c cs fp
  | E, .fn f c, v, fp => fp = [] /\ ∃ cs:List Value, v = .func (.func f) #[] cs.toArray /\ Rc w E c cs []
  | _, .aB, _, fp => fp = []
def Rc(w:World): Env -> List AV -> List Value -> List Nat -> Prop
  | _, [], [], fp => fp = []
  | E, x :: xs, c :: cs, fp => ∃ f1 f2, R w E x c f1 /\ Rc w E xs cs f2 /\ fp = f1 ++ f2
  | _, _, _, _ => False
def Rr(w:World): Env -> List (List AV) -> Nat -> Nat -> Nat -> List Nat -> Prop
  | _, [], _, _, _, fp => fp = []
  | E, e :: es, b, off, n, fp => ∃ cs f1 f2, cs.length = n /\ dB w b off cs /\ (∀ x ∈ cs, x.oneCell' = true) /\ Rc w E e cs f1 /\ Rr w E es b (off+n) n f2 /\ fp = f1 ++ f2
end
def dB.same{w w':World}{b off:Nat}{cs:List Value}(h:dB w b off cs)(hb:w'.heap[b]? =w.heap[b]?):dB w' b off cs:=by intro j v hv;have:=h j v hv;simpa [World.cell?,hb]using this
structure fG(w:World)(E:Env)(w':World)(E':Env): Prop where
  a:∀ b, E.A b -> E'.A b /\ w'.heap[b]? = w.heap[b]?
  v:∀ i, E'.V i -> E.V i
  d:∀ i b, E'.V i -> E.D i b -> E'.D i b /\ w'.heap[b]? = w.heap[b]?
  h:∀ i v x, E.H i v x -> E'.H i v x
  l:∀ i v j o x, E.L i v j o x -> E'.L i v j o x
def fG.tg{w w':World}{E E':Env}(k:fG w E w' E'){g:Tg}{b:Nat}(h:E.tg g b)(hd:¬E'.dead g):E'.tg g b/\w'.heap[b]? =w.heap[b]?:=by
 cases g with
 |own=>exact h.elim
 |view=>exact k.a b h
 |mQ i=>exact k.d i b (Gk.1 hd) h
def fG.dead{w w':World}{E E':Env}(k:fG w E w' E'){g:Tg}(h:E.dead g):E'.dead g:=by
 cases g with
 |own=>exact h
 |view=>exact h
 |mQ i=>exact λhv=>h (k.v i hv)
def fG.plain{w w':World}{E E':Env}(k:fG w E w' E'):fG w E.plain w' E'.plain:=
 ⟨k.a,λ_ _=>trivial,λ_ _ _ h=>h.elim,λ_ _ _ h=>h.elim,λ_ _ _ _ _ h=>h.elim⟩
def fG.sub{w w':World}{E E':Env}(k:fG w E w' E')(g:Tg)(hd:¬E'.dead g):fG w (E.sub g) w' (E'.sub g):=by
 cases g with
 |own=>exact k.plain
 |view=>exact k.plain
 |mQ i=>exact⟨k.a,λ_ _=>trivial,λj b _ h=>⟨⟨h.1,(k.d i b (Gk.1 hd) h.2).1⟩,(k.d i b (Gk.1 hd) h.2).2⟩,λ_ _ _ h=>h.elim,λ_ _ _ _ _ h=>h.elim⟩
mutual
theorem oV{w w':World}{E E':Env}(k:fG w E w' E'):∀(av:AV) (v:Value) (fp:List Nat),(∀b∈fp,w'.heap[b]? =w.heap[b]?)->R w E av v fp->R w' E' av v fp
 | .int _ _,_,_,_,h=>by simpa [R]using h
 | .bool _,_,_,_,h=>by simpa [R]using h
 | .str _,_,_,_,h=>by simpa [R]using h
 | .sl g n l,v,fp,hf,h=>by
  simp only[R]at h⊢;rcases h with h|⟨a,cap,hv,hl,h⟩
  .exact .inl ⟨k.dead h.1,h.2⟩
  by_cases hd:E'.dead g
  .refine .inl ⟨hd,?_⟩;rcases h with h|⟨hg,_⟩|⟨_,h,_⟩
   .exact h.2.2.2
   .subst hg;exact hd.elim
   .exact h
  refine .inr ⟨a,cap,hv,hl,?_⟩;rcases h with h|⟨hg,b,off,C,e,fz,sH,ha,hb,hz,h1,h2,h3,Jq,hr⟩|⟨hg,Jq,h⟩
  .exact .inl h
  .subst Jq;refine .inr (.inl ⟨hg,b,off,C,e,fz,sH,ha,?_,hz,h1,h2,h3,rfl,?_⟩)
   .rw [hf b (by simp)];exact hb
   .exact qD (k.sub g hd) l b off n sH (hf b (by simp)) (λx hx=>hf x (by simp[hx])) hr
  .refine .inr (.inr ⟨hg,Jq,?_⟩);rcases h with h|⟨b,off,ha,ht,hr⟩
   .exact .inl h
   .have:=k.tg ht hd;exact .inr ⟨b,off,ha,this.1,qD (k.sub g hd) l b off n [] this.2 (by simp) hr⟩
 | .iW g c off,v,fp,_,h=>by
  simp only[R]at h⊢;rcases h with h|⟨Jq,b,o,cs,hv,ht,hcs,hc,hr⟩
  .exact .inl ⟨k.dead h.1,h.2⟩
  by_cases hd:E'.dead g
  .exact .inl ⟨hd,Jq⟩
  have:=k.tg ht hd;exact .inr ⟨Jq,b,o,cs,hv,this.1,hcs.same this.2,hc,gQ (k.sub g hd) c cs [] (by simp) hr⟩
 | .obj i bY,v,fp,_,h=>by simp only[R]at h⊢;exact⟨h.1,k.h _ _ _ h.2⟩
 | .ptr i bY idx off,v,fp,_,h=>by simp only[R]at h⊢;exact⟨h.1,k.l _ _ _ _ _ h.2⟩
 | .agg c,v,fp,hf,h=>by simp only[R]at h⊢;obtain⟨cs,hv,hc,hr⟩:=h;exact⟨cs,hv,hc,gQ k c cs fp hf hr⟩
 | .iL c,v,fp,hf,h=>by simp only[R]at h⊢;obtain⟨cs,hv,hr⟩:=h;exact⟨cs,hv,gQ k c cs fp hf hr⟩
 | .fn f c,v,fp,_,h=>by simp only[R]at h⊢;obtain⟨Jq,cs,hv,hr⟩:=h;exact⟨Jq,cs,hv,gQ k c cs [] (by simp) hr⟩
 | .aB,_,_,_,h=>by simpa [R]using h
theorem gQ{w w':World}{E E':Env}(k:fG w E w' E'):∀(c:List AV) (cs:List Value) (fp:List Nat),(∀b∈fp,w'.heap[b]? =w.heap[b]?)->Rc w E c cs fp->Rc w' E' c cs fp
 |[],[],_,_,h=>by simpa [Rc]using h
 |[],_::_,_,_,h=>by simp[Rc]at h
 |_::_,[],_,_,h=>by simp[Rc]at h
 |x::xs,c::cs,fp,hf,h=>by simp only[Rc]at h⊢;obtain⟨f1,f2,h1,h2,rfl⟩:=h;exact⟨f1,f2,oV k x c f1 (λb hb=>hf b (by simp[hb])) h1,gQ k xs cs f2 (λb hb=>hf b (by simp[hb])) h2,rfl⟩
theorem qD{w w':World}{E E':Env}(k:fG w E w' E'):∀(l:List (List AV)) (b off n:Nat) (fp:List Nat),w'.heap[b]? =w.heap[b]?->(∀b∈fp,w'.heap[b]? =w.heap[b]?)->Rr w E l b off n fp->Rr w' E' l b off n fp
 |[],_,_,_,_,_,_,h=>by simpa [Rr]using h
 |e::es,b,off,n,fp,hb,hf,h=>by simp only[Rr]at h⊢;obtain⟨cs,f1,f2,hn,hcs,hc,h1,h2,rfl⟩:=h;exact⟨cs,f1,f2,hn,hcs.same hb,hc,gQ k e cs f1 (λb hb=>hf b (by simp[hb])) h1,qD k es b (off+n) n f2 hb (λb hb=>hf b (by simp[hb])) h2,rfl⟩
end
def AV.kept(h:Bool)(x:AV):AV:=if h then x else .aB
mutual
def rt(f:Tg->Option Tg)(h:Bool):AV->AV
 | .int k n=> .int k n
 | .bool b=> .bool b
 | .str s=> .str s
 | .sl g n l=>match f g with
  |some g'=> .sl g' n (lW f h l)
  |none=> .aB
 | .iW g c off=>match f g with
  |some g'=> .iW g' (tJ f h c) off
  |none=> .aB
 | .obj i v=>AV.kept h (.obj i v)
 | .ptr i v j o=>AV.kept h (.ptr i v j o)
 | .agg c=> .agg (tJ f h c)
 | .iL c=> .iL (tJ f h c)
 | .fn g c=> .fn g (tJ f h c)
 | .aB=> .aB
def tJ(f:Tg->Option Tg)(h:Bool):List AV->List AV
 |[]=>[]
 |x::xs=>rt f h x::tJ f h xs
def lW(f:Tg->Option Tg)(h:Bool):List (List AV)->List (List AV)
 |[]=>[]
 |x::xs=>tJ f h x::lW f h xs
end
def oD(f:Tg->Option Tg)(h:Bool):∀l,(lW f h l).length=l.length
 |[]=>rfl
 |_::xs=>by simp[lW,oD f h xs]
structure pG(f:Tg -> Option Tg)(h:Bool)(E E':Env)(O:Nat -> Prop): Prop where
  own:∀ g, f .own = some g -> g ≠ .own /\ ∀ b, O b -> E'.tg g b
  view:∀ g, f .view = some g -> g = .view /\ ∀ b, E.A b -> E'.A b
  mQ:∀ i g, f (.mQ i) = some g -> g ≠ .own /\ (E.V i \/ E'.dead g) /\ ∀ b, E.D i b -> E'.tg g b
  hh:h = true -> ∀ i v x, E.H i v x -> E'.H i v x
  hl:h = true -> ∀ i v j o x, E.L i v j o x -> E'.L i v j o x
def pG.ne{f:Tg->Option Tg}{h:Bool}{E E':Env}{O:Nat->Prop}(k:pG f h E E' O){g g':Tg}(e:f g=some g'):g'≠ .own:=by
 cases g with
 |own=>exact(k.own _ e).1
 |view=>rw[(k.view _ e).1];simp
 |mQ i=>exact(k.mQ i _ e).1
def pG.tg{f:Tg->Option Tg}{h:Bool}{E E':Env}{O:Nat->Prop}(k:pG f h E E' O){g g':Tg}{b:Nat}(e:f g=some g')(ht:E.tg g b):E'.tg g' b:=by
 cases g with
 |own=>exact ht.elim
 |view=>rw[(k.view _ e).1];exact(k.view _ e).2 b ht
 |mQ i=>exact(k.mQ i _ e).2.2 b ht
def pG.dead{f:Tg->Option Tg}{h:Bool}{E E':Env}{O:Nat->Prop}(k:pG f h E E' O){g g':Tg}(e:f g=some g')(hd:E.dead g):E'.dead g':=by
 cases g with
 |own=>exact hd.elim
 |view=>exact hd.elim
 |mQ i=>exact(k.mQ i _ e).2.1.resolve_left hd
def pG.sub{f:Tg->Option Tg}{h:Bool}{E E':Env}{O:Nat->Prop}(k:pG f h E E' O){g g':Tg}(e:f g=some g')(hd:¬E.dead g)
  {O':Nat->Prop} (ho:∀b,O' b->g= .own/\O b):pG f h (E.sub g) (E'.sub g') O' where
 own g2 e2:=⟨(k.own g2 e2).1,λb hb=>by
  obtain⟨rfl,hO⟩:=ho b hb;rw[e]at e2;obtain rfl:=cX e2;have:=(k.own _ e).2 b hO;cases g' with
  |own=>exact this.elim
  |view=>exact this
  |mQ i=>exact⟨rfl,this⟩⟩
 view g2 e2:=⟨(k.view g2 e2).1,λb hA=>by
  have h1:=(k.view g2 e2).2 b (by cases g<;>exact hA);cases g'<;>exact h1⟩
 mQ i g2 e2:=by
  refine⟨(k.mQ i g2 e2).1,.inl (by cases g<;>trivial),λb hD=> ?_⟩;cases g with
  |own=>exact hD.elim
  |view=>exact hD.elim
  |mQ j=>
   obtain⟨rfl,hD⟩:=hD;rw[e]at e2;obtain rfl:=cX e2;have:=(k.mQ _ _ e).2.2 b hD;cases g' with
   |own=>exact this.elim
   |view=>exact this
   |mQ i=>exact⟨rfl,this⟩
 hh _ i v x hx:=by cases g<;>exact hx.elim
 hl _ i v j o x hx:=by cases g<;>exact hx.elim
mutual
theorem aKr{w:World}{f:Tg->Option Tg}{h:Bool}{E E':Env}{O:Nat->Prop}(k:pG f h E E' O):∀(av:AV) (v:Value) (fp:List Nat),(∀b∈fp,O b)->R w E av v fp->R w E' (rt f h av) v []
 | .int _ _,_,_,_,r=>by simp only[R,rt]at r⊢;exact⟨r.1,trivial⟩
 | .bool _,_,_,_,r=>by simp only[R,rt]at r⊢;exact⟨r.1,trivial⟩
 | .str _,_,_,_,r=>by simp only[R,rt]at r⊢;exact⟨r.1,trivial⟩
 | .sl g n l,v,fp,hf,r=>by
  simp only[rt];cases e:f g with
  |none=>simp[R]
  |some g'=>
   simp only[R,oD]at r⊢;rcases r with r|⟨a,cap,hv,hl,r⟩
   .exact .inl ⟨k.dead e r.1,trivial⟩
   by_cases hd:E.dead g
   .refine .inl ⟨k.dead e hd,trivial⟩
   refine .inr ⟨a,cap,hv,hl,.inr (.inr ⟨k.ne e,trivial,?_⟩)⟩;rcases r with⟨_,rfl,_⟩|⟨rfl,b,off,C,ty,fz,sH,ha,hb,hz,h1,h2,h3,rfl,hr⟩|⟨hg,Jq,r⟩
   .exact .inl rfl
   .exact .inr ⟨b,off,ha,(k.own _ e).2 b (hf b (by simp)),JD (k.sub e (λh=>h) (O':=O) (λb hb=>⟨rfl,hb⟩)) l b off n sH (λb hb=>hf b (by simp[hb])) hr⟩
   .rcases r with rfl|⟨b,off,ha,ht,hr⟩
    .exact .inl rfl
    .exact .inr ⟨b,off,ha,k.tg e ht,JD (k.sub e hd (O':=λ_=>False) (λ_ hb=>hb.elim)) l b off n [] (by simp) hr⟩
 | .iW g c off,v,fp,_,r=>by
  simp only[rt];cases e:f g with
  |none=>simp[R]
  |some g'=>
   simp only[R]at r⊢;rcases r with r|⟨Jq,b,o,cs,hv,ht,hcs,hc,hr⟩
   .exact .inl ⟨k.dead e r.1,trivial⟩
   by_cases hd:E.dead g
   .exact .inl ⟨k.dead e hd,trivial⟩
   exact .inr ⟨trivial,b,o,cs,hv,k.tg e ht,hcs,hc,Ar (k.sub e hd (O':=λ_=>False) (λ_ hb=>hb.elim)) c cs [] (by simp) hr⟩
 | .obj i bY,v,fp,_,r=>by
  cases h with
  |false=>simp[rt,R,AV.kept]
  |true=>simp only[R,rt,AV.kept,eS]at r⊢;exact⟨trivial,k.hh rfl _ _ _ r.2⟩
 | .ptr i bY idx off,v,fp,_,r=>by
  cases h with
  |false=>simp[rt,R,AV.kept]
  |true=>simp only[R,rt,AV.kept,eS]at r⊢;exact⟨trivial,k.hl rfl _ _ _ _ _ r.2⟩
 | .agg c,v,fp,hf,r=>by simp only[R,rt]at r⊢;obtain⟨cs,hv,hc,hr⟩:=r;exact⟨cs,hv,hc,Ar k c cs fp hf hr⟩
 | .iL c,v,fp,hf,r=>by simp only[R,rt]at r⊢;obtain⟨cs,hv,hr⟩:=r;exact⟨cs,hv,Ar k c cs fp hf hr⟩
 | .fn g c,v,fp,_,r=>by simp only[R,rt]at r⊢;obtain⟨Jq,cs,hv,hr⟩:=r;exact⟨trivial,cs,hv,Ar k c cs [] (by simp) hr⟩
 | .aB,_,_,_,_=>by simp[R,rt]
theorem Ar{w:World}{f:Tg->Option Tg}{h:Bool}{E E':Env}{O:Nat->Prop}(k:pG f h E E' O):∀(c:List AV) (cs:List Value) (fp:List Nat),(∀b∈fp,O b)->Rc w E c cs fp->Rc w E' (tJ f h c) cs []
 |[],[],_,_,_=>by simp[Rc,tJ]
 |[],_::_,_,_,r=>by simp[Rc]at r
 |_::_,[],_,_,r=>by simp[Rc]at r
 |x::xs,c::cs,fp,hf,r=>by simp only[Rc,tJ]at r⊢;obtain⟨f1,f2,h1,h2,rfl⟩:=r;exact⟨[],[],aKr k x c f1 (λb hb=>hf b (by simp[hb])) h1,Ar k xs cs f2 (λb hb=>hf b (by simp[hb])) h2,rfl⟩
theorem JD{w:World}{f:Tg->Option Tg}{h:Bool}{E E':Env}{O:Nat->Prop}(k:pG f h E E' O):∀(l:List (List AV)) (b off n:Nat) (fp:List Nat),(∀b∈fp,O b)->Rr w E l b off n fp->Rr w E' (lW f h l) b off n []
 |[],_,_,_,_,_,_=>by simp[Rr,lW]
 |e::es,b,off,n,fp,hf,r=>by simp only[Rr,lW]at r⊢;obtain⟨cs,f1,f2,hn,hcs,hc,h1,h2,rfl⟩:=r;exact⟨cs,[],[],hn,hcs,hc,Ar k e cs f1 (λb hb=>hf b (by simp[hb])) h1,JD k es b (off+n) n f2 (λb hb=>hf b (by simp[hb])) h2,rfl⟩
end
structure aI where
  fT:Bool
  box:Bool
  n:Nat
  bY:Nat
  fM:List (List AV)
structure CO where
  a:Option Addr
  cap:Nat
  F:Nat -> Prop
structure AS where
  t:List AV
  o:List aI
class aG(P:Program) where
  holds:World -> Prop
  low:Nat
  RX:∀ w, holds w -> low <= w.heap.size
  Yf:∀ w w', holds w -> (∀ b, b<low -> w'.heap[b]? = w.heap[b]?) -> holds w'
structure gL(P:Program)[aG P] where
  w0:World
  A0:Nat -> Prop
  O0:Nat -> Prop
  h0:Nat -> Option Value
  p0:Nat -> Option (Value × Nat)
  Bn:aG.holds P w0
  Pp:∀ b, O0 b -> aG.low P <= b
  gA:∀ b, O0 b -> A0 b
def look(o:List aI)(G:List CO)(i:Nat)(ob:aI)(g:CO):Prop:=o[i]? =some ob/\G[i]? =some g
def env{P:Program}[aG P](B:gL P)(o:List aI)(G:List CO)(w:World):Env where
 A b:=(B.A0 b\/(B.w0.heap.size<=b/\b<w.heap.size))/\∀i ob g,look o G i ob g->ob.fT=true->¬g.F b
 V i:=∀ob,o[i]? =some ob->ob.fT=true
 D i b:=∃ob g,look o G i ob g/\ob.fT=true/\g.F b/\∀a,g.a=some a->b≠a.block
 H i bY v:=∃ob g,look o G i ob g/\bY<=ob.bY/\(ob.fT=true->ob.bY=bY->v= .slice g.a ob.fM.length g.cap)/\(bY=0->∀x,B.h0 i=some x->v=x)
 L i bY idx off v:=∃ob g,look o G i ob g/\bY<=ob.bY/\(ob.fT=true->ob.bY=bY->∃b f,g.a=some ⟨b,f,none⟩/\v= .pointer (some ⟨b,f+(idx*ob.n+off),none⟩))/\(ob.box=true->bY=2->idx=0->off=0->∀x,B.p0 i=some x->v=x.1/\(ob.fT=true->ob.bY=2->g.cap=x.2))
def Env.of(E:Env)(box:Bool):Env:=if box then E else E.plain
def uH(w:World)(E:Env)(n:Nat)(l:List (List AV))(a:Option Addr)(cap:Nat)(fp:List Nat):Prop:=
 l.length<=maxLen/\((l=[]/\cap=0/\fp=[])\/
  ∃b off C e fz sH,a=some ⟨b,off,none⟩/\w.heap[b]? =some (.cells C e fz)/\((C.size<=fz.1/\n=1)\/fz.2=0)/\
   off+cap*n<=C.size/\l.length<=cap/\cap<=maxLen/\fp=b::sH/\Rr w E l b off n sH)
def vU{w:World}{E:Env}{n:Nat}{l:List (List AV)}{v:Value}{fp:List Nat}:
  R w E (.sl .own n l) v fp↔∃a cap,v= .slice a l.length cap/\uH w E.plain n l a cap fp:=by
 simp only[R,uH];constructor
 .rintro (⟨h,_⟩|⟨a,cap,hv,hl,h|h|h⟩)
  .exact h.elim
  .exact ⟨a,cap,hv,hl.1,.inl h.2⟩
  .exact ⟨a,cap,hv,hl.1,.inr h.2⟩
  .exact absurd rfl h.1
 .rintro ⟨a,cap,hv,hl,h|h⟩
  .exact .inr ⟨a,cap,hv,⟨hl,by simp[h.1]⟩,.inl ⟨trivial,h⟩⟩
  .exact .inr ⟨a,cap,hv,⟨hl,by obtain⟨b,off,C,e,fz,sH,_,_,_,_,h,_⟩:=h;exact h⟩,.inr (.inl ⟨trivial,h⟩)⟩
def LK(w:World)(E:Env)(ob:aI)(g:CO):Prop:=
 ∃fp,uH w (E.of ob.box) ob.n ob.fM g.a g.cap fp/\fp.Nodup/\∀b∈fp,g.F b
structure nZ(w w':World): Prop where
  os:w'.os = w.os
  tape:w'.tape = w.tape
  output:w'.output = w.output
def nZ.rfl{w:World}:nZ w w:=⟨Eq.refl _,Eq.refl _,Eq.refl _⟩
def nZ.trans{a b c:World}(h:nZ a b)(k:nZ b c):nZ a c:=⟨k.os.trans h.os,k.tape.trans h.tape,k.output.trans h.output⟩
structure fZ{P:Program}[aG P](B:gL P)(s:AS)(G:List CO)(a:Act)(w:World): Prop where
  len:G.length = s.o.length
  defs:a.defers = []
  ok:∀ i ob g, look s.o G i ob g -> ob.fT = true -> LK w (env B s.o G w) ob g
  fV:∀ i j oi oj gi gj b, look s.o G i oi gi -> look s.o G j oj gj -> oi.fT = true -> oj.fT = true -> gi.F b -> gj.F b -> i = j
  eB:∀ i ob g b, look s.o G i ob g -> ob.fT = true -> g.F b -> (B.O0 b \/ B.w0.heap.size <= b) /\ b<w.heap.size
  tmps:Rc w (env B s.o G w) s.t a.tmps.toList []
  size:B.w0.heap.size <= w.heap.size
  frame:∀ b, b<B.w0.heap.size -> ¬ B.O0 b -> w.heap[b]? = B.w0.heap[b]?
  base:∀ b, B.A0 b -> b<B.w0.heap.size
  same:nZ B.w0 w
def Rel{P:Program}[aG P](B:gL P)(s:AS)(a:Act)(w:World):Prop:=∃G,fZ B s G a w
def fZ.holds{P:Program}[aG P]{B:gL P}{s:AS}{G:List CO}{a:Act}{w:World}(r:fZ B s G a w):aG.holds P w:=
 aG.Yf B.w0 w B.Bn λb hb=>r.frame b (lP hb (aG.RX _ B.Bn)) λh=>absurd (B.Pp b h) (by omega)
def fZ.Pp{P:Program}[aG P]{B:gL P}{s:AS}{G:List CO}{a:Act}{w:World}(_:fZ B s G a w){b:Nat}(h:B.O0 b\/B.w0.heap.size<=b):aG.low P<=b:=
 h.elim (B.Pp b) λh=>iS (aG.RX _ B.Bn) h
def fG.of{w w':World}{E E':Env}(k:fG w E w' E')(box:Bool):fG w (E.of box) w' (E'.of box):=by
 cases box
 .exact k.plain
 .exact k
def Pq(w:World)(E:Env):fG w E.plain w E:=
 ⟨λ_ h=>⟨h,rfl⟩,λ_ _=>trivial,λ_ _ _ h=>h.elim,λ_ _ _ h=>h.elim,λ_ _ _ _ _ h=>h.elim⟩
def rQ{P:Program}[aG P]{B:gL P}{s:AS}{G:List CO}{a:Act}{w:World}(r:fZ B s G a w){b:Nat}(h:(env B s.o G w).A b):b<w.heap.size:=by
 rcases h.1 with h|h
 .exact lP (r.base b h) r.size
 .exact h.2
def Ay{P:Program}[aG P]{B:gL P}{o o':List aI}{G G':List CO}{w w':World}(hs:w.heap.size<=w'.heap.size)
  (hA:∀b,(env B o G w).A b->b<w.heap.size/\w'.heap[b]? =w.heap[b]?)
  (dF:G.length=o.length)
  (h2:∀i ob g,look o G i ob g->∃ob' g',look o' G' i ob' g'/\ob.bY<=ob'.bY/\(ob'.box=true->ob.box=true\/ob.bY<2)/\(ob'.fT=true->ob.fT=true/\ob'.n=ob.n/\
   (ob'.bY=ob.bY->g'.a=g.a/\g'.cap=g.cap/\ob'.fM.length=ob.fM.length)/\
   (∀b,g.F b->(∀a,g.a=some a->b≠a.block)->g'.F b/\(∀a,g'.a=some a->b≠a.block)/\w'.heap[b]? =w.heap[b]?)))
  (h3:∀i ob' g' b,look o' G' i ob' g'->ob'.fT=true->g'.F b->w.heap.size<=b\/∃j ob g,look o G j ob g/\ob.fT=true/\g.F b):
  fG w (env B o G w) w' (env B o' G' w') where
 a b h:=by
  refine⟨⟨?_,?_⟩,(hA b h).2⟩
  .rcases h.1 with h1|h1
   .exact .inl h1
   .exact .inr ⟨h1.1,lP h1.2 hs⟩
  .intro i ob' g' hl aY hf;rcases h3 i ob' g' b hl aY hf with h5|⟨j,ob,g,Dw,zP,hf'⟩
   .have:=(hA b h).1;omega
   .exact h.2 j ob g Dw zP hf'
 v i h ob wF:=by
  have hi:i<G.length:=by rw[dF];exact(cU.1 wF).1
  obtain⟨ob',g',hl,_,_,h5⟩:=h2 i ob G[i] ⟨wF,aE hi⟩;exact(h5 (h ob' hl.1)).1
 d i b hV h:=by obtain⟨ob,g,hl,aY,hf,jE⟩:=h;obtain⟨ob',g',Dw,_,_,h5⟩:=h2 i ob g hl;have zP:=hV ob' Dw.1;have h6:=(h5 zP).2.2.2 b hf jE;exact⟨⟨ob',g',Dw,zP,h6.1,h6.2.1⟩,h6.2.2⟩
 h i v x h:=by
  obtain⟨ob,g,hl,Ap,h5,hz⟩:=h;obtain⟨ob',g',Dw,hv',_,h6⟩:=h2 i ob g hl;refine⟨ob',g',Dw,by omega,λaY Yg=> ?_,hz⟩;have h7:=h6 aY;have aEu:ob'.bY=ob.bY:=by omega
  have h8:=h7.2.2.1 aEu;rw[h8.1,h8.2.1,h8.2.2];exact h5 h7.1 (by omega)
 l i v j x y h:=by
  obtain⟨ob,g,hl,Ap,h5,hz⟩:=h;obtain⟨ob',g',Dw,hv',hb',h6⟩:=h2 i ob g hl;refine⟨ob',g',Dw,by omega,λaY Yg=> ?_,λhb hv e1 e2 y hy=>by
   rcases hb' hb with h|h
   .refine ⟨(hz h hv e1 e2 y hy).1,λaY Yg=> ?_⟩
    have h7:=h6 aY;have aEu:ob'.bY=ob.bY:=by omega
    rw[(h7.2.2.1 aEu).2.1];exact(hz h hv e1 e2 y hy).2 h7.1 (by omega)
   .omega⟩
  have h7:=h6 aY;have aEu:ob'.bY=ob.bY:=by omega
  have h8:=h7.2.2.1 aEu;rw[h8.1,h7.2.1];exact h5 h7.1 (by omega)
def uH.keeps{w w':World}{E E':Env}{n:Nat}{l:List (List AV)}{a:Option Addr}{cap:Nat}{fp:List Nat}(h:uH w E n l a cap fp)(k:fG w E w' E')(hF:∀b∈fp,w'.heap[b]? =w.heap[b]?):uH w' E' n l a cap fp:=by
 refine⟨h.1,?_⟩;rcases h.2 with h|⟨b,off,C,e,fz,sH,ha,hb,hz,h1,h2,h3,rfl,hr⟩
 .exact .inl h
 .refine .inr ⟨b,off,C,e,fz,sH,ha,by rw[hF b (by simp)];exact hb,hz,h1,h2,h3,rfl,qD k _ _ _ _ _ (hF b (by simp)) (λx hx=>hF x (by simp[hx])) hr⟩
def LK.keeps{w w':World}{E E':Env}{ob:aI}{g:CO}(h:LK w E ob g)(k:fG w E w' E')(hF:∀b,g.F b->w'.heap[b]? =w.heap[b]?):LK w' E' ob g:=by obtain⟨fp,hr,hn,hf⟩:=h;exact⟨fp,hr.keeps (k.of ob.box) (λb hb=>hF b (hf b hb)),hn,hf⟩
def iY{w:World}{E:Env}:∀{c:List AV} {cs:List Value} {fp:List Nat},Rc w E c cs fp->cs.length=c.length
 |[],[],_,_=>rfl
 |[],_::_,_,h=>by simp[Rc]at h
 |_::_,[],_,h=>by simp[Rc]at h
 |_::xs,_::cs,fp,h=>by simp only[Rc]at h;obtain⟨f1,f2,_,h2,_⟩:=h;simp[iY h2]
def NN{w:World}{E:Env}:∀{c:List AV} {cs:List Value} {i:Nat} {x:AV},Rc w E c cs []->c[i]? =some x->∃v,cs[i]? =some v/\R w E x v []
 |[],_,i,x,_,h=>by simp at h
 |_::_,[],_,_,h,_=>by simp[Rc]at h
 |y::ys,c::cs,i,x,h,hx=>by
  simp only[Rc]at h;obtain⟨f1,f2,h1,h2,e⟩:=h;obtain⟨e1,e2⟩:f1=[]/\f2=[]:=by simpa using e
  subst e1;subst e2;cases i with
  |zero=>simp at hx;subst hx;exact⟨c,rfl,h1⟩
  |succ i=>simpa using NN h2 (by simpa using hx)
def aEv{w:World}{E:Env}:∀{c:List AV} {cs:List Value} (i:Nat) {x:AV} {v:Value},Rc w E c cs []->R w E x v []->Rc w E (c.set i x) (cs.set i v) []
 |[],[],i,x,v,h,_=>by simpa using h
 |[],_::_,_,_,_,h,_=>by simp[Rc]at h
 |_::_,[],_,_,_,h,_=>by simp[Rc]at h
 |y::ys,c::cs,i,x,v,h,hx=>by
  simp only[Rc]at h;obtain⟨f1,f2,h1,h2,e⟩:=h;obtain⟨e1,e2⟩:f1=[]/\f2=[]:=by simpa using e
  subst e1;subst e2;cases i with
  |zero=>simp only[cQ,Rc];exact⟨[],[],hx,h2,rfl⟩
  |succ i=>simp only[cH,Rc];exact⟨[],[],h1,aEv i h2 hx,rfl⟩
def mJ{w:World}{E:Env}:∀{c d:List AV} {cs ds:List Value} {f1 f2:List Nat},Rc w E c cs f1->Rc w E d ds f2->Rc w E (c++d) (cs++ds) (f1++f2)
 |[],_,[],_,f1,f2,h,h'=>by simp[Rc]at h;subst h;simpa using h'
 |[],_,_::_,_,_,_,h,_=>by simp[Rc]at h
 |_::_,_,[],_,_,_,h,_=>by simp[Rc]at h
 |y::ys,d,c::cs,ds,f1,f2,h,h'=>by simp only[Rc]at h;obtain⟨g1,g2,h1,h2,rfl⟩:=h;simp only[cW,Rc];exact⟨g1,g2++f2,h1,mJ h2 h',by simp⟩
def AS.put(s:AS)(d:Option Tmp)(x:AV):AS:=match d with
 |some d=>{s with t:=s.t.set d x}
 |none=>s
def fZ.put{P:Program}[aG P]{B:gL P}{s:AS}{G:List CO}{a:Act}{w:World}(r:fZ B s G a w)(d:Option Tmp){x:AV}{v:Value}(h:R w (env B s.o G w) x v []):
  fZ B (s.put d x) G (a.put d v) w:=by
 cases d with
 |none=>exact r
 |some d=>exact {r with tmps:=by simpa [AS.put,Act.put]using aEv d r.tmps h}
def fZ.next{P:Program}[aG P]{B:gL P}{s:AS}{G:List CO}{a:Act}{w:World}(r:fZ B s G a w){o':List aI}{G':List CO}{w':World}
  (k:fG w (env B s.o G w) w' (env B o' G' w')) (len:G'.length=o'.length)
  (ok:∀i ob g,look o' G' i ob g->ob.fT=true->LK w' (env B o' G' w') ob g)
  (fV:∀i j oi oj gi gj b,look o' G' i oi gi->look o' G' j oj gj->oi.fT=true->oj.fT=true->gi.F b->gj.F b->i=j)
  (eB:∀i ob g b,look o' G' i ob g->ob.fT=true->g.F b->(B.O0 b\/B.w0.heap.size<=b)/\b<w'.heap.size)
  (size:w.heap.size<=w'.heap.size) (frame:∀b,b<B.w0.heap.size->¬B.O0 b->w'.heap[b]? =w.heap[b]?)
  (same:nZ w w':=by exact⟨rfl,rfl,rfl⟩):fZ B ⟨s.t,o'⟩ G' a w' where
 len:=len
 defs:=r.defs
 ok:=ok
 fV:=fV
 eB:=eB
 tmps:=gQ k _ _ _ (by simp) r.tmps
 size:=iS r.size size
 frame b h1 h2:=(frame b h1 h2).trans (r.frame b h1 h2)
 base:=r.base
 same:=r.same.trans same
def ofV:Value->AV
 | .int k n=> .int k n
 | .bool b=> .bool b
 | .string s=> .str s.data.toList
 | .slice none 0 0=> .sl .own 0 []
 | .func (.func f) ⟨[]⟩ ⟨[]⟩=> .fn f []
 |_=> .aB
def aN0(w:World)(E:Env)(v:Value):R w E (ofV v) v []:=by unfold ofV;split<;>simp[R,Rc,maxLen]
def AS.ev(s:AS):Operand->AV
 | .tmp t=>s.t.getD t .aB
 | .const v=>ofV v
 | .func f=> .fn f []
 | .global _=> .aB
def fZ.ev{P:Program}[aG P]{B:gL P}{s:AS}{G:List CO}{a:Act}{w:World}(r:fZ B s G a w)(x:Operand):R w (env B s.o G w) (s.ev x) (a.eval x) []:=by
 cases x with
 |tmp t=>
  simp only[AS.ev,getD];cases h:s.t[t]? with
  |none=>simp[R]
  |some y=>
   obtain⟨v,hv,hr⟩:=NN r.tmps h;simp only[Act.eval,sB];have:a.tmps[t]? =some v:=by simpa using hv
   simpa [gC,this]using hr
 |const v=>exact aN0 w _ v
 |func f=>simp[AS.ev,Act.eval,R,Rc]
 |global g=>simp[AS.ev,R]
def vV{w:World}{E:Env}:∀{c:List AV} {cs:List Value} {fp:List Nat} (k:Nat),Rc w E c cs fp->
  ∃f1 f2,fp=f1++f2/\Rc w E (c.take k) (cs.take k) f1/\Rc w E (c.drop k) (cs.drop k) f2
 |c,cs,fp,0,h=>⟨[],fp,rfl,by simp[Rc],by simpa using h⟩
 |[],[],fp,k+1,h=>⟨fp,[],by simp,by simpa using h,by simp[Rc]⟩
 |[],_::_,_,_,h=>by simp[Rc]at h
 |_::_,[],_,_,h=>by simp[Rc]at h
 |x::xs,c::cs,fp,k+1,h=>by simp only[Rc]at h;obtain⟨g1,g2,h1,h2,rfl⟩:=h;obtain⟨f1,f2,rfl,h3,h4⟩:=vV k h2;exact⟨g1++f1,f2,by simp,by simp only[eV,Rc];exact⟨g1,f1,h1,h3,rfl⟩,by simpa using h4⟩
def EF{w:World}{E:Env}{l2:List (List AV)}{b n:Nat}:∀{l1:List (List AV)} {off:Nat} {fp:List Nat},
  Rr w E (l1++l2) b off n fp↔∃f1 f2,fp=f1++f2/\Rr w E l1 b off n f1/\Rr w E l2 b (off+l1.length*n) n f2
 |[],off,fp=>by
  simp only[eA,Rr,fL,Nat.zero_mul,sE];constructor
  .intro h;exact⟨[],fp,by simp,rfl,h⟩
  .rintro ⟨f1,f2,rfl,rfl,h⟩;simpa using h
 |e::es,off,fp=>by
  simp only[cW,Rr,EF (l1:=es),eL];have e1:∀m,off+(m+1)*n=off+n+m*n:=λm=>by rw[rK];omega
  constructor
  .rintro ⟨cs,f1,f2,hn,hc,h1,hr,⟨g1,g2,rfl,h3,h4⟩,rfl⟩;exact⟨f1++g1,g2,by simp,⟨cs,f1,g1,hn,hc,h1,hr,h3,rfl⟩,by rw[e1];exact h4⟩
  .rintro ⟨f1,f2,rfl,⟨cs,g1,g2,hn,hc,h1,hr,h3,rfl⟩,h4⟩;exact⟨cs,g1,g2++f2,hn,hc,h1,hr,⟨g2,f2,rfl,h3,by rw[e1]at h4;exact h4⟩,by simp⟩
def Cy{w:World}{E:Env}{l:List (List AV)}{b off n:Nat}{fp:List Nat}{i:Nat}{e:List AV}(h:Rr w E l b off n fp)(hi:l[i]? =some e):
  ∃f1 f2 f3 cs,fp=f1++f2++f3/\cs.length=n/\dB w b (off+i*n) cs/\(∀x∈cs,x.oneCell'=true)/\Rc w E e cs f2/\
   Rr w E (l.take i) b off n f1/\Rr w E (l.drop (i+1)) b (off+(i+1)*n) n f3:=by
 obtain⟨hlt,rfl⟩:=cU.1 hi;have hl:l=l.take i++l[i]::l.drop (i+1):=by simp
 rw[hl]at h;obtain⟨f1,f4,rfl,h1,h2⟩:=EF.1 h;have hti:(l.take i).length=i:=by simp;omega
 rw[hti]at h2;simp only[Rr]at h2;obtain⟨cs,f2,f3,hn,hc,ho,hr,h3,rfl⟩:=h2;refine⟨f1,f2,f3,cs,by simp,hn,hc,ho,hr,h1,?_⟩;rw[rK,Nat.one_mul,<-pH];exact h3
def ZL{w:World}{E:Env}{l:List (List AV)}{b off n:Nat}{i:Nat}{e:List AV}{f1 f2 f3:List Nat}{cs:List Value}(hi:i<l.length)(hn:cs.length=n)
  (hc:dB w b (off+i*n) cs) (ho:∀x∈cs,x.oneCell'=true) (hr:Rc w E e cs f2) (h1:Rr w E (l.take i) b off n f1) (h3:Rr w E (l.drop (i+1)) b (off+(i+1)*n) n f3):
  Rr w E (l.set i e) b off n (f1++f2++f3):=by
 have hl:l.set i e=l.take i++e::l.drop (i+1):=by rw[set_eq_take_append_cons_drop];simp[hi]
 rw[hl];refine EF.2 ⟨f1,f2++f3,by simp,h1,?_⟩;have hti:(l.take i).length=i:=by simp;omega
 rw[hti];simp only[Rr];refine⟨cs,f2,f3,hn,hc,ho,hr,?_,rfl⟩;rw[rK,Nat.one_mul,<-pH]at h3;exact h3
def RY{w w':World}{E E':Env}(k:fG w E w' E'){b lo hi:Nat}(EG:∀j,j<lo\/hi<=j->w'.cell? ⟨b,j,none⟩=w.cell? ⟨b,j,none⟩):∀{l:List (List AV)} {off n:Nat} {fp:List Nat},
  (∀x∈fp,w'.heap[x]? =w.heap[x]?)->(off+l.length*n<=lo\/hi<=off)->Rr w E l b off n fp->Rr w' E' l b off n fp
 |[],_,_,_,_,_,h=>by simpa [Rr]using h
 |e::es,off,n,fp,hf,hr,h=>by
  simp only[Rr]at h⊢;obtain⟨cs,f1,f2,hn,hc,ho,h1,h2,rfl⟩:=h;have hl:(es.length+1)*n=n+es.length*n:=by rw[rK];omega
  simp only[eL,hl]at hr;refine⟨cs,f1,f2,hn,?_,ho,gQ k _ _ _ (λx hx=>hf x (by simp[hx])) h1,RY k EG (λx hx=>hf x (by simp[hx])) (by omega) h2,rfl⟩;intro j v hv;rw[EG]
  .exact hc j v hv
  .have:j<cs.length:=(cU.1 hv).1;omega
def dB.drop{w:World}{b off k:Nat}{cs:List Value}(h:dB w b off cs):dB w b (off+k) (cs.drop k):=by
 intro j v hv;rw[getElem?_drop]at hv;have:=h _ _ hv
 rwa[<-pH]at this
def dB.take{w:World}{b off k:Nat}{cs:List Value}(h:dB w b off cs):dB w b off (cs.take k):=by
 intro j v hv;rw[CC]at hv;split at hv
 .exact h _ _ hv
 .cases hv
def addr_add(b o n:Nat):(⟨b,o,none⟩:Addr).add n=⟨b,o+n,none⟩:=Addr.add_lit b o n
def dB.run{P:Program}{w:World}{b off:Nat}{cs:List Value}(h:dB w b off cs):(loadCells ⟨b,off,none⟩ cs.length).run P w= .ok cs.toArray w:=
 run_loadCells_list w _ cs (λj v hv=>by rw[addr_add];exact h j v hv)
def nH(P:Program)(t:TypeId):Option Nat:=
 match P.underlying t with
 |some (.struct _)=>(P.info? t).map (·.size)
 |some (.array _ _)=>(P.info? t).map (·.size)
 |_=>none
def rY(P:Program)(t:TypeId):Bool:=
 match P.underlying t with
 |some (.struct _)=>false
 |some (.array _ _)=>false
 |some _=>(P.info? t).map (·.size) == some 1
 |none=>false
def Yh{P:Program}{w:World}{t:TypeId}{b off:Nat}{cs:List Value}(ht:nH P t=some cs.length)(h:dB w b off cs):
  (loadVar t ⟨b,off,none⟩).run P w= .ok (.agg cs.toArray) w:=by
 unfold nH at ht;have hr:=h.run (P:=P);split at ht
 .rename_i d hd;cases hi:P.info? t with
  |none=>simp[hi]at ht
  |some i=>simp[hi]at ht;simp[loadVar,isAgg,kO hd,sizeOf,typeInfo,hi,ht,hr]
 .rename_i d hd;cases hi:P.info? t with
  |none=>simp[hi]at ht
  |some i=>simp[hi]at ht;simp[loadVar,isAgg,kO hd,sizeOf,typeInfo,hi,ht,hr]
 .cases ht
def Yi{P:Program}{w:World}{t:TypeId}{b off:Nat}{v:Value}(ht:rY P t=true)(h:dB w b off [v]):
  (loadVar t ⟨b,off,none⟩).run P w= .ok v w:=by
 unfold rY at ht;have h0:=h 0 v rfl;split at ht
 .cases ht
 .cases ht
 .rename_i d hd h1 h2;simp only[loadVar,isAgg,pB,kO h2,mT];cases d<;>simp_all
 .cases ht
def oC(b b':Nat)(hb:b'≠b):∀(vs:List Value) (o:Nat) (w:World),(w.setCells b o vs).heap[b']? =w.heap[b']?
 |[],_,_=>rfl
 |v::r,o,w=>by rw[World.setCells,oC b b' hb r];simp[World.setCell,Array.getElem?_modify,AH hb]
def jR(b:Nat):∀(vs:List Value) (o:Nat) (w:World),(w.setCells b o vs).heap.size=w.heap.size
 |[],_,_=>rfl
 |v::r,o,w=>by rw[World.setCells,jR b r];simp
def nA(b:Nat):∀(vs:List Value) (o:Nat) (w:World),nZ w (w.setCells b o vs)
 |[],_,_=>nZ.rfl
 |v::r,o,w=>by rw[World.setCells];exact nZ.trans (b:=w.setCell ⟨b,o,none⟩ v) ⟨rfl,rfl,rfl⟩ (nA b r (o+1) _)
def mE(b:Nat)(e:TypeId)(fz:Nat×Nat):∀(vs:List Value) (o:Nat) (w:World) (C:Array Value),w.heap[b]? =some (.cells C e fz)->
  ∃C',(w.setCells b o vs).heap[b]? =some (.cells C' e fz)/\C'.size=C.size
 |[],_,w,C,h=>⟨C,h,rfl⟩
 |v::r,o,w,C,h=>by
  rw[World.setCells];have:(w.setCell ⟨b,o,none⟩ v).heap[b]? =some (.cells (C.setIfInBounds o v) e fz):=by simp[World.setCell,Array.getElem?_modify,h]
  obtain⟨C',h1,h2⟩:=mE b e fz r (o+1) _ _ this;exact⟨C',h1,by simpa using h2⟩
def vW{P:Program}{w:World}{b off:Nat}{C:Array Value}{e:TypeId}{fz:Nat×Nat}{vs:List Value}{q:Prop}(hb:w.heap[b]? =some (.cells C e fz))(hz:(C.size<=fz.1/\q)\/fz.2=0)
  (hfit:off+vs.length<=C.size) (h1:∀v∈vs,v.oneCell'=true):(storeCells ⟨b,off,none⟩ vs).run P w= .ok () (w.setCells b off vs):=by
 have:=run_storeCells_cells (P:=P) b off vs 0 w (λj hj=>by
  have:off+j<C.size:=by omega
  simp[World.cell?,hb,this]) (λj hj=>by
  simp only[World.frozen?,hb];rcases hz with⟨hz,_⟩|hz
  .have:¬fz.1<=off+j:=by omega
   simp[this]
  .simp [hz]) h1
 simpa using this
def Bo{o:List aI}{G:List CO}{i j:Nat}{ob':aI}{g':CO}{x:aI}{y:CO}(h:look (o.set i ob') (G.set i g') j x y):
  (j=i/\x=ob'/\y=g')\/(j≠i/\look o G j x y):=by
 obtain⟨h1,h2⟩:=h;rw[GB]at h1 h2;by_cases hj:i=j
 .subst hj;left;simp only[eS]at h1 h2;split at h1
  .split at h2
   .exact ⟨rfl,(cX h1).symm,(cX h2).symm⟩
   .cases h2
  .cases h1
 .simp only[hj,eW]at h1 h2;exact .inr ⟨λe=>hj e.symm,h1,h2⟩
def tK{o:List aI}{G:List CO}{i:Nat}{ob':aI}{g':CO}{x:aI}{y:CO}(h:look o G i x y):look (o.set i ob') (G.set i g') i ob' g':=by have h1:=(cU.1 h.1).1;have h2:=(cU.1 h.2).1;constructor<;>simp[h1,h2]
def Dx{o:List aI}{G:List CO}{i j:Nat}{ob':aI}{g':CO}{x:aI}{y:CO}(h:look o G j x y)(hj:j≠i):look (o.set i ob') (G.set i g') j x y:=by
 constructor
 .rw [lB (AH hj)];exact h.1
 .rw [lB (AH hj)];exact h.2
def lT{o:List aI}{G:List CO}{i:Nat}{x x':aI}{y y':CO}(h:look o G i x y)(h':look o G i x' y'):x=x'/\y=y':=
 ⟨cX (h.1.symm.trans h'.1),cX (h.2.symm.trans h'.2)⟩
def fZ.aKs{P:Program}[aG P]{B:gL P}{s:AS}{G:List CO}{a:Act}{w:World}(r:fZ B s G a w){i:Nat}{ob:aI}{g:CO}(hl:look s.o G i ob g)(aY:ob.fT=true){w':World}
  (mI:∀b,b<w.heap.size->¬(g.F b/\∃a,g.a=some a/\b=a.block)->w'.heap[b]? =w.heap[b]?):
  (∀b,(env B s.o G w).A b->w'.heap[b]? =w.heap[b]?)/\(∀j oj gj b,look s.o G j oj gj->oj.fT=true->j≠i->gj.F b->w'.heap[b]? =w.heap[b]?):=by
 refine⟨λb hb=>mI b (rQ r hb) (λh=>hb.2 i ob g hl aY h.1),λj oj gj b hj hjl jE hf=> ?_⟩;exact mI b (r.eB j oj gj b hj hjl hf).2 (λh=>jE (r.fV j i oj ob gj g b hj hl hjl aY hf h.1))
def fZ.modify{P:Program}[aG P]{B:gL P}{s:AS}{G:List CO}{a:Act}{w:World}(r:fZ B s G a w){i:Nat}{ob:aI}{g:CO}(hl:look s.o G i ob g)(aY:ob.fT=true)
  (ob':aI) (g':CO) (w':World) (Ap:ob.bY<=ob'.bY) (hn:ob'.n=ob.n)
  (aW5:ob'.bY=ob.bY->g'.a=g.a/\g'.cap=g.cap/\ob'.fM.length=ob.fM.length)
  (hF:∀b,g'.F b->g.F b\/(w.heap.size<=b/\b<w'.heap.size))
  (hD:∀b,g.F b->(∀a,g.a=some a->b≠a.block)->g'.F b/\(∀a,g'.a=some a->b≠a.block))
  (mI:∀b,b<w.heap.size->¬(g.F b/\∃a,g.a=some a/\b=a.block)->w'.heap[b]? =w.heap[b]?)
  (hs:w.heap.size<=w'.heap.size)
  (ok':fG w (env B s.o G w) w' (env B (s.o.set i ob') (G.set i g') w')->ob'.fT=true->LK w' (env B (s.o.set i ob') (G.set i g') w') ob' g') (same:nZ w w':=by first|exact⟨rfl,rfl,rfl⟩|exact nA _ _ _ _) (hbx:ob'.box=true->ob.box=true\/ob.bY<2:=by first|exact λh=> .inl h|(intro h;cases h)):
  fZ B ⟨s.t,s.o.set i ob'⟩ (G.set i g') a w'/\fG w (env B s.o G w) w' (env B (s.o.set i ob') (G.set i g') w'):=by
 have hsm:=r.aKs hl aY mI;have k:fG w (env B s.o G w) w' (env B (s.o.set i ob') (G.set i g') w'):=by
  refine Ay hs (λb hb=>⟨rQ r hb,hsm.1 b hb⟩) r.len ?_ ?_
  .intro j oj gj hj;by_cases e:j=i
   .subst e;obtain⟨rfl,rfl⟩:=lT hl hj;refine⟨ob',g',tK hl,Ap,hbx,λ_=>⟨aY,hn,aW5,λb hf jE=> ?_⟩⟩;have:=hD b hf jE;exact⟨this.1,this.2,mI b (r.eB j _ _ b hl aY hf).2 (λh=>by obtain⟨_,a,ha,rfl⟩:=h;exact jE a ha rfl)⟩
   .refine ⟨oj,gj,Dx hj e,eJ _,λh=> .inl h,λhjl=>⟨hjl,rfl,λ_=>⟨rfl,rfl,rfl⟩,λb hf jE=>⟨hf,jE,hsm.2 j oj gj b hj hjl e hf⟩⟩⟩
  .intro j oj gj b hj hjl hf;rcases Bo hj with⟨rfl,rfl,rfl⟩|⟨_,hj'⟩
   .rcases hF b hf with h|h
    .exact .inr ⟨j,ob,g,hl,aY,h⟩
    .exact .inl h.1
   .exact .inr ⟨j,oj,gj,hj',hjl,hf⟩
 refine⟨r.next k (by simp[r.len]) ?_ ?_ ?_ hs ?_ same,k⟩
 .intro j oj gj hj hjl;rcases Bo hj with⟨rfl,rfl,rfl⟩|⟨jE,hj'⟩
  .exact ok' k hjl
  .exact (r.ok j oj gj hj' hjl).keeps k (λb hb=>hsm.2 j oj gj b hj' hjl jE hb)
 .intro j1 j2 o1 o2 g1 g2 b h1 h2 hl1 hl2 hf1 hf2;rcases Bo h1 with⟨rfl,rfl,rfl⟩|⟨aW6,h1'⟩<;>rcases Bo h2 with⟨rfl,rfl,rfl⟩|⟨hne2,h2'⟩
  .rfl
  .exfalso;rcases hF b hf1 with h|h
   .exact hne2 (r.fV _ _ _ _ _ _ b h2' hl hl2 aY hf2 h)
   .have:=(r.eB _ _ _ b h2' hl2 hf2).2;omega
  .exfalso;rcases hF b hf2 with h|h
   .exact aW6 (r.fV _ _ _ _ _ _ b h1' hl hl1 aY hf1 h)
   .have:=(r.eB _ _ _ b h1' hl1 hf1).2;omega
  .exact r.fV _ _ _ _ _ _ b h1' h2' hl1 hl2 hf1 hf2
 .intro j oj gj b hj hjl hf;rcases Bo hj with⟨rfl,rfl,rfl⟩|⟨jE,hj'⟩
  .rcases hF b hf with h|h
   .have:=r.eB _ _ _ b hl aY h;exact⟨this.1,lP this.2 hs⟩
   .exact ⟨.inr (iS r.size h.1),h.2⟩
  .have:=r.eB _ _ _ b hj' hjl hf;exact⟨this.1,lP this.2 hs⟩
 .intro b hb hO;refine mI b (lP hb r.size) (λh=> ?_);have:=(r.eB _ _ _ b hl aY h.1).1;rcases this with h|h
  .exact hO h
  .omega
def pE{o o2:List aI}{G G2:List CO}(dF:G.length=o.length){i:Nat}{x:aI}{y:CO}(h:look (o++o2) (G++G2) i x y):
  (i<o.length/\look o G i x y)\/(o.length<=i/\look o2 G2 (i-o.length) x y):=by
 obtain⟨h1,h2⟩:=h;by_cases hi:i<o.length
 .rw [oA hi]at h1;rw[oA (by omega)]at h2;exact .inl ⟨hi,h1,h2⟩
 .rw [lO (by omega)]at h1;rw[lO (by omega),dF]at h2;exact .inr ⟨by omega,h1,h2⟩
def nC{o o2:List aI}{G G2:List CO}{i:Nat}{x:aI}{y:CO}(h:look o G i x y):look (o++o2) (G++G2) i x y:=by have h1:=(cU.1 h.1).1;have h2:=(cU.1 h.2).1;exact⟨by rw[oA h1];exact h.1,by rw[oA h2];exact h.2⟩
def oF{o o2:List aI}{G G2:List CO}(dF:G.length=o.length){i:Nat}{x:aI}{y:CO}(h:look o2 G2 i x y):look (o++o2) (G++G2) (o.length+i) x y:=by refine⟨by rw[lO (by omega),Nat.add_sub_cancel_left];exact h.1,?_⟩;rw[lO (by omega),dF,Nat.add_sub_cancel_left];exact h.2
def fZ.add{P:Program}[aG P]{B:gL P}{s:AS}{G:List CO}{a:Act}{w:World}(r:fZ B s G a w)(obs:List aI)(Gs:List CO)(w':World)(dF:Gs.length=obs.length)
  (hs:w.heap.size<=w'.heap.size) (mI:∀b,b<w.heap.size->w'.heap[b]? =w.heap[b]?)
  (hF:∀j ob g b,look obs Gs j ob g->ob.fT=true->g.F b->w.heap.size<=b/\b<w'.heap.size)
  (hap:∀i j oi oj gi gj b,look obs Gs i oi gi->look obs Gs j oj gj->oi.fT=true->oj.fT=true->gi.F b->gj.F b->i=j)
  (ok:fG w (env B s.o G w) w' (env B (s.o++obs) (G++Gs) w')->∀j ob g,look obs Gs j ob g->ob.fT=true->LK w' (env B (s.o++obs) (G++Gs) w') ob g) (same:nZ w w':=by first|exact⟨rfl,rfl,rfl⟩|exact nA _ _ _ _):
  fZ B ⟨s.t,s.o++obs⟩ (G++Gs) a w'/\fG w (env B s.o G w) w' (env B (s.o++obs) (G++Gs) w'):=by
 have k:fG w (env B s.o G w) w' (env B (s.o++obs) (G++Gs) w'):=by
  refine Ay hs (λb hb=>⟨rQ r hb,mI b (rQ r hb)⟩) r.len ?_ ?_
  .intro j oj gj hj;exact⟨oj,gj,nC hj,eJ _,λh=> .inl h,λhjl=>⟨hjl,rfl,λ_=>⟨rfl,rfl,rfl⟩,λb hf jE=>⟨hf,jE,mI b (r.eB j oj gj b hj hjl hf).2⟩⟩⟩
  .intro j oj gj b hj hjl hf;rcases pE r.len hj with⟨_,h⟩|⟨_,h⟩
   .exact .inr ⟨j,oj,gj,h,hjl,hf⟩
   .exact .inl (hF _ _ _ b h hjl hf).1
 refine⟨r.next k (by simp[r.len,dF]) ?_ ?_ ?_ hs ?_ same,k⟩
 .intro j oj gj hj hjl;rcases pE r.len hj with⟨_,h⟩|⟨_,h⟩
  .exact (r.ok j oj gj h hjl).keeps k (λb hb=>mI b (r.eB j oj gj b h hjl hb).2)
  .exact ok k _ _ _ h hjl
 .intro j1 j2 o1 o2 g1 g2 b h1 h2 hl1 hl2 hf1 hf2;rcases pE r.len h1 with⟨_,h1⟩|⟨hj1,h1⟩<;>rcases pE r.len h2 with⟨_,h2⟩|⟨hj2,h2⟩
  .exact r.fV _ _ _ _ _ _ b h1 h2 hl1 hl2 hf1 hf2
  .have:=(r.eB _ _ _ b h1 hl1 hf1).2;have:=(hF _ _ _ b h2 hl2 hf2).1;omega
  .have:=(r.eB _ _ _ b h2 hl2 hf2).2;have:=(hF _ _ _ b h1 hl1 hf1).1;omega
  .have:=hap _ _ _ _ _ _ b h1 h2 hl1 hl2 hf1 hf2;omega
 .intro j oj gj b hj hjl hf;rcases pE r.len hj with⟨_,h⟩|⟨_,h⟩
  .have:=r.eB _ _ _ b h hjl hf;exact⟨this.1,lP this.2 hs⟩
  .have:=hF _ _ _ b h hjl hf;exact⟨.inr (iS r.size this.1),this.2⟩
 .intro b hb hO;exact mI b (lP hb r.size)
def slN(P:Program):Nat->TypeId->List Nat
 |0,_=>[]
 |f+1,t=>match P.underlying t with
  |some (.slice e)=>[P.cellsOf e]
  |some (.struct fs)=>fs.toList.flatMap λx=>slN P f x.type
  |some (.array n e)=>(replicate n (slN P f e)).flatten
  |_=>[0]
def aPc(n:Nat):AV->AV
 | .sl .own _ []=> .sl .own n []
 |x=>x
def Yj:List AV->List Nat->List AV
 |x::xs,n::ns=>aPc n x::Yj xs ns
 |xs,[]=>xs
 |[],_=>[]
def aPd(w:World)(E:Env)(n:Nat)(v:Value):R w E (aPc n (ofV v)) v []:=by unfold ofV;split<;>simp[aPc,R,Rc,maxLen]
def IP(w:World)(E:Env):∀(vs:List Value) (ns:List Nat),Rc w E (Yj (vs.map ofV) ns) vs []
 |[],[]=>by simp[Yj,Rc]
 |[],_::_=>by simp[Yj,Rc]
 |v::vs,[]=>by
  have:=IP w E vs [];have e:Yj (vs.map ofV) []=vs.map ofV:=by cases vs<;>rfl
  rw[e]at this;simp only[oE,Yj,Rc];exact⟨[],[],aN0 w E v,this,rfl⟩
 |v::vs,n::ns=>by simp only[oE,Yj,Rc];exact⟨[],[],aPd w E n v,IP w E vs ns,rfl⟩
def sS(P:Program)(t:TypeId):Option (List AV):=
 match (P.info? t).bind (·.zero)with
 |some v=>if v.cells.toList.all (·.oneCell')then some (Yj (v.cells.toList.map ofV) (slN P 8 t))else none
 |none=>none
def oO(P:Program)(t:TypeId):Option (TypeId×Nat×Nat):=
 match P.underlying t with
 |some (.slice e)=>(P.info? e).map λi=>(e,i.size,i.bytes)
 |_=>none
def NP(P:Program)(t:TypeId)(f:Nat):Option Nat:=
 match P.underlying t with
 |some (.struct fs)=>match fs[f]? with
  |some fd=>match P.info? fd.type with
   |some i=>if i.size=0 then none else some fd.offset
   |none=>none
  |none=>none
 |_=>none
def AV.cells:AV->List AV
 | .agg c=>c
 |x=>[x]
def AV.known:AV->Bool
 | .aB=>false
 | .iL _=>false
 | .sl (.mQ _) _ _=>false
 | .iW (.mQ _) _ _=>false
 | .obj _ _=>false
 | .ptr _ _ _ _=>false
 |_=>true
def AV.gB(o:List aI)(i bY:Nat):Option aI:=
 match o[i]? with
 |some ob=>if ob.fT=true/\ob.bY=bY then some ob else none
 |none=>none
def AV.fit(o:List aI):AV->Bool
 | .aB=>false
 | .iL _=>false
 | .sl (.mQ i) _ _=>match o[i]? with
  |some ob=>ob.fT
  |none=>false
 | .iW (.mQ i) _ _=>match o[i]? with
  |some ob=>ob.fT
  |none=>false
 | .obj i bY=>(AV.gB o i bY).isSome
 | .ptr i bY _ _=>(AV.gB o i bY).isSome
 |_=>true
def Rq{P:Program}[aG P]{B:gL P}{o:List aI}{G:List CO}{w:World}{x:AV}{v:Value}{fp:List Nat}(hf:x.fit o=true)(h:R w (env B o G w) x v fp):
  Rc w (env B o G w) x.cells v.cells.toList fp/\(∀c∈v.cells.toList,c.oneCell'=true)/\(∀c,x= .agg c->∃cs,v= .agg cs)/\((∀c,x≠ .agg c)->v.cells=#[v]/\v.oneCell'=true):=by
 have one:∀{x:AV} {v:Value} {fp:List Nat},R w (env B o G w) x v fp->x.cells=[x]->v.cells=#[v]->v.oneCell'=true->(∀c,x≠ .agg c)->
   Rc w (env B o G w) x.cells v.cells.toList fp/\(∀c∈v.cells.toList,c.oneCell'=true)/\(∀c,x= .agg c->∃cs,v= .agg cs)/\((∀c,x≠ .agg c)->v.cells=#[v]/\v.oneCell'=true):=by
  intro x v fp h h1 h2 h3 h4;rw[h1,h2];refine⟨by simp only[Rc];exact⟨fp,[],h,rfl,by simp⟩,by simpa using h3,λc hc=>absurd hc (h4 c),λ_=>⟨rfl,h3⟩⟩
 cases x with
 |int k n=>have h':=h;simp only[R]at h';obtain⟨rfl,_⟩:=h';exact one h rfl rfl rfl (by simp)
 |bool b=>have h':=h;simp only[R]at h';obtain⟨rfl,_⟩:=h';exact one h rfl rfl rfl (by simp)
 |str b=>have h':=h;simp only[R]at h';obtain⟨rfl,_⟩:=h';exact one h rfl rfl rfl (by simp)
 |sl g n l=>
  have h':=h;simp only[R]at h';rcases h' with⟨hd,_⟩|⟨a,cap,rfl,_⟩
  .cases g with
   |own=>exact hd.elim
   |view=>exact hd.elim
   |mQ i=>simp only[AV.fit]at hf;exfalso;refine hd (λob wF=> ?_);simpa [wF]using hf
  .exact one h rfl rfl rfl (by simp)
 |iW g c off=>
  have h':=h;simp only[R]at h';rcases h' with⟨hd,_⟩|⟨_,b,o,cs,rfl,_⟩
  .cases g with
   |own=>exact hd.elim
   |view=>exact hd.elim
   |mQ i=>simp only[AV.fit]at hf;exfalso;refine hd (λob wF=> ?_);simpa [wF]using hf
  .exact one h rfl rfl rfl (by simp)
 |obj i bY=>
  have h':=h;simp only[R]at h';obtain⟨_,ob,g,hl,_,hh,_⟩:=h';simp only[AV.fit,AV.gB,hl.1]at hf;split at hf
  .rename_i hc;have:=hh hc.1 hc.2;subst this;exact one h rfl rfl rfl (by simp)
  .cases hf
 |ptr i bY idx off=>
  have h':=h;simp only[R]at h';obtain⟨_,ob,g,hl,_,hh,_⟩:=h';simp only[AV.fit,AV.gB,hl.1]at hf;split at hf
  .rename_i hc;obtain⟨b,f,_,rfl⟩:=hh hc.1 hc.2;exact one h rfl rfl rfl (by simp)
  .cases hf
 |agg c=>simp only[R]at h;obtain⟨cs,rfl,ho,hr⟩:=h;exact⟨by simpa [AV.cells,Value.cells]using hr,by simpa [Value.cells]using ho,λ_ _=>⟨_,rfl⟩,λjE=>absurd rfl (jE c)⟩
 |iL c=>cases hf
 |fn f c=>have h':=h;simp only[R]at h';obtain⟨_,cs,rfl,_⟩:=h';exact one h rfl rfl rfl (by simp)
 |aB=>cases hf
def Step(P:Program)[aG P](B:gL P)(o:Oper)(s s':AS):Prop:=
 ∀a w next Q,Rel B s a w->(∀a' w',Rel B s' a' w'->next a' w')->o.wp P a w next Q
def uI{P:Program}[aG P]{B:gL P}{o:Oper}{s s':AS}
  (h:∀G a w,fZ B s G a w->∃v w',(execOp a.eval o).run P w= .ok (.value v) w'/\Rel B s' (a.put o.dst v) w'):Step P B o s s':=by
 rintro a w next Q ⟨G,r⟩ hn
 obtain⟨v,w',hr,hrel⟩:=h G a w r;unfold Oper.wp;rw[hr];exact hn _ _ hrel
def RZ{P:Program}[aG P]{B:gL P}{o:Oper}{s s':AS}
  (h:∀G a w,fZ B s G a w->∃w',(execOp a.eval o).run P w= .ok .skip w'/\Rel B s' (a.put o.dst Go.undef) w'):Step P B o s s':=by
 rintro a w next Q ⟨G,r⟩ hn
 obtain⟨w',hr,hrel⟩:=h G a w r;unfold Oper.wp;rw[hr];exact hn _ _ hrel
def gD{P:Program}[aG P]{B:gL P}{o:Oper}{s:AS}{x:AV}
  (h:∀G a w,fZ B s G a w->∃v,(execOp a.eval o).run P w= .ok (.value v) w/\R w (env B s.o G w) x v []):Step P B o s (s.put o.dst x):=
 uI λG a w r=>let⟨v,hr,hx⟩:=h G a w r;⟨v,w,hr,G,r.put o.dst hx⟩
section
variable{P:Program}[aG P]{B:gL P}{s:AS}{dst:Option Tmp}{ty:TypeId}{pos:String}{after:Array Edge}{gd:Option (Nat × Bool)}
def aBy(x:Operand):Step P B ⟨dst,.move x,ty,pos,after,gd⟩ s (s.put dst (s.ev x)):=
 gD λ_ a _ r=>⟨a.eval x,rfl,r.ev x⟩
def ZM(x:Operand):Step P B ⟨dst,.assign x,ty,pos,after,gd⟩ s (s.put dst (s.ev x)):=
 gD λ_ a _ r=>⟨a.eval x,rfl,r.ev x⟩
def AS.box(s:AS)(d:Option Tmp)(c:List AV):AS:=AS.put ⟨s.t,s.o++[⟨true,true,c.length,0,[c]⟩]⟩ d (.ptr s.o.length 0 0 0)
def heap_alloc(w:World)(o:Obj)(b:Nat)(h:b<w.heap.size):(w.alloc o).heap[b]? =w.heap[b]?:=heap_alloc_old w o h
def iT(w:World)(o:Obj):(w.alloc o).heap[w.heap.size]? =some o:=heap_alloc_new w o
def fZ.aTb{G:List CO}{a:Act}{w:World}(r:fZ B s G a w)(ob:aI)(cap:Nat)(C:Array Value)(e:TypeId)
  (hl:ob.fM.length<=cap) (uJ:cap<=maxLen) (hC:cap*ob.n<=C.size)
  (hr:∀w' E',fG w ((env B s.o G w).of ob.box) w' E'->w'.heap[w.heap.size]? =some (.cells C e (0,0))->Rr w' E' ob.fM w.heap.size 0 ob.n []):
  ∃G',fZ B ⟨s.t,s.o++[ob]⟩ G' a (w.alloc (.cells C e))/\fG w (env B s.o G w) (w.alloc (.cells C e)) (env B (s.o++[ob]) G' (w.alloc (.cells C e)))/\
   G'[s.o.length]? =some ⟨some ⟨w.heap.size,0,none⟩,cap,λb=>b=w.heap.size⟩:=by
 refine⟨G++[⟨some ⟨w.heap.size,0,none⟩,cap,λb=>b=w.heap.size⟩],?_⟩;have:=r.add [ob] [⟨some ⟨w.heap.size,0,none⟩,cap,λb=>b=w.heap.size⟩] (w.alloc (.cells C e)) rfl (by simp) (λb hb=>heap_alloc w _ b hb) ?_ ?_ ?_
 .refine ⟨this.1,this.2,?_⟩;rw[<-r.len];simp
 .rintro j x y b ⟨h1,h2⟩ _ hf;cases j with
  |zero=>simp at h2;subst h2;simp at hf;subst hf;simp
  |succ j=>simp at h2
 .rintro i j _ _ _ _ b ⟨h1,_⟩ ⟨h2,_⟩ _ _ _ _;cases i<;>cases j<;>simp_all
 .rintro k j x y ⟨h1,h2⟩ _;cases j with
  |zero=>simp at h1 h2;subst h1;subst h2;refine⟨[w.heap.size],⟨iS hl uJ,.inr ⟨w.heap.size,0,C,e,(0,0),[],rfl,iT w _,.inr rfl,by simpa using hC,hl,uJ,rfl,?_⟩⟩,by simp,by simp⟩;exact hr _ _ (k.of ob.box) (iT w _)
  |succ j=>simp at h1
def Wz{o:List aI}{G':List CO}{ob:aI}{g:CO}(h:G'[o.length]? =some g):look (o++[ob]) G' o.length ob g:=⟨by simp,h⟩
def Kh(P:Program)(w:World)(t:TypeId)(v:Value):(newVar t v).run P w= .ok ⟨w.heap.size,0,none⟩ (w.alloc (.cells v.cells t)):=by simp[newVar,newRow]
def fZ.boxed{G:List CO}{a:Act}{w:World}(r:fZ B s G a w)(d:Option Tmp){c:List AV}{cs:Array Value}(t:TypeId)(ho:∀x∈cs.toList,x.oneCell'=true)
  (hr:Rc w (env B s.o G w) c cs.toList []):Rel B (s.box d c) (a.put d (.pointer (some ⟨w.heap.size,0,none⟩))) (w.alloc (.cells cs t)):=by
 have hl:=iY hr;obtain⟨G',r',k,hG⟩:=r.aTb ⟨true,true,c.length,0,[c]⟩ 1 cs t (by simp) (by simp[maxLen]) (by simpa using AI hl.symm) (λw' E' k hb=>by
  simp only[Rr];refine⟨cs.toList,[],[],by simpa using hl,?_,ho,gQ k _ _ _ (by simp) hr,rfl,rfl⟩;intro j v hv;simp[World.cell?,hb];simpa using hv)
 refine⟨G',?_⟩;exact r'.put d (by
  simp only[R];exact⟨trivial,_,_,Wz hG,eJ _,λ_ _=>⟨w.heap.size,0,rfl,by simp⟩,λ_ h=>by cases h⟩)
def fZ.aTc{G:List CO}{a:Act}{w:World}(r:fZ B s G a w)(d:Option Tmp){c:List AV}{cs:Array Value}(t:TypeId){i:Nat}(hi:s.o[i]? =some ⟨true,false,c.length,0,[]⟩)(ho:∀x∈cs.toList,x.oneCell'=true)
  (hr:Rc w (env B s.o G w) c cs.toList []):Rel B (AS.put ⟨s.t,s.o.set i ⟨true,true,c.length,1,[c]⟩⟩ d (.ptr i 1 0 0)) (a.put d (.pointer (some ⟨w.heap.size,0,none⟩))) (w.alloc (.cells cs t)):=by
 have hl:=iY hr;have hlt:i<G.length:=by rw[r.len];exact(cU.1 hi).1
 have hlk:Aw.look s.o G i ⟨true,false,c.length,0,[]⟩ G[i]:=⟨hi,aE hlt⟩;generalize G[i]=g at hlk;have hm:=r.modify hlk rfl ⟨true,true,c.length,1,[c]⟩ ⟨some ⟨w.heap.size,0,none⟩,1,λb=>g.F b\/b=w.heap.size⟩ (w.alloc (.cells cs t)) (by simp) rfl (λh=>by simp at h)
  (λb hb=>by
   rcases hb with hb|rfl
   .exact .inl hb
   .exact .inr ⟨eJ _,by simp⟩)
  (λb hb _=>⟨.inl hb,λx hx=>by
   obtain rfl:=cX hx;have:=(r.eB _ _ _ b hlk rfl hb).2;simp;omega⟩)
  (λb hb _=>heap_alloc w _ b hb) (by simp) (λk _=>by
   refine⟨[w.heap.size],⟨by simp[maxLen],.inr ⟨w.heap.size,0,cs,t,(0,0),[],rfl,iT w _,.inr rfl,by simpa using AI hl.symm,by simp,by simp[maxLen],rfl,?_⟩⟩,by simp,by simp⟩;simp only[Env.of,eS,Rr];refine⟨cs.toList,[],[],by simpa using hl,?_,ho,gQ k _ _ _ (by simp) hr,rfl,rfl⟩;intro j v hv;have hb:=iT w (Obj.cells cs t);simp only[World.cell?,hb];simpa using hv) (by exact⟨rfl,rfl,rfl⟩) (λ_=> .inr (by simp))
 have hl2:Aw.look (s.o.set i ⟨true,true,c.length,1,[c]⟩) (G.set i ⟨some ⟨w.heap.size,0,none⟩,1,λb=>g.F b\/b=w.heap.size⟩) i ⟨true,true,c.length,1,[c]⟩ ⟨some ⟨w.heap.size,0,none⟩,1,λb=>g.F b\/b=w.heap.size⟩:=tK hlk;refine⟨_,hm.1.put d ?_⟩;simp only[R];exact⟨trivial,_,_,hl2,eJ _,λ_ _=>⟨w.heap.size,0,rfl,by simp⟩,λ_ h=>by cases h⟩
def aEx(t:TypeId)(x:Operand)(hx:(s.ev x).fit s.o=true):Step P B ⟨dst,.box t x,ty,pos,after,gd⟩ s (s.box dst (s.ev x).cells):=
 uI λG a w r=>by have h:=Rq hx (r.ev x);exact⟨_,_,by simp[execOp,Instr.box,Kh],r.boxed dst t h.2.1 h.1⟩
def zi(t:TypeId){z:List AV}(hz:sS P t=some z):Step P B ⟨dst,.alloc t,ty,pos,after,gd⟩ s (s.box dst z):=
 uI λG a w r=>by
  unfold sS at hz;cases hi:P.info? t with
  |none=>simp[hi]at hz
  |some i=>
   cases hv:i.zero with
   |none=>simp[hi,hv]at hz
   |some v=>
    simp only[hi,hv,AD]at hz;split at hz
    .rename_i hall;obtain rfl:=cX hz;refine⟨_,_,by simp[execOp,Instr.alloc,zeroValue,typeInfo,hi,hv,Kh],r.boxed dst t (fW.1 hall) (IP w _ _ _)⟩
    .cases hz
def Yk(t:TypeId){z:List AV}{i:Nat}(hz:sS P t=some z)(hi':s.o[i]? =some ⟨true,false,z.length,0,[]⟩):Step P B ⟨dst,.alloc t,ty,pos,after,gd⟩ s (AS.put ⟨s.t,s.o.set i ⟨true,true,z.length,1,[z]⟩⟩ dst (.ptr i 1 0 0)):=
 uI λG a w r=>by
  unfold sS at hz;cases hi:P.info? t with
  |none=>simp[hi]at hz
  |some i=>
   cases hv:i.zero with
   |none=>simp[hi,hv]at hz
   |some v=>
    simp only[hi,hv,AD]at hz;split at hz
    .rename_i hall;obtain rfl:=cX hz;refine⟨_,_,by simp[execOp,Instr.alloc,zeroValue,typeInfo,hi,hv,Kh],r.aTc dst t hi' (fW.1 hall) (IP w _ _ _)⟩
    .cases hz
def Sa{t:List AV}{o:List aI}{a:Act}{w:World}(ns:List Nat)(h:Rel B ⟨t,o⟩ a w):Rel B ⟨t,o++ns.map λn=>⟨true,false,n,0,[]⟩⟩ a w:=by
 obtain⟨G,r⟩:=h;have:=r.add (ns.map λn=>⟨true,false,n,0,[]⟩) (ns.map λ_=>⟨none,0,λ_=>False⟩) w (by simp) (eJ _) (λ_ _=>rfl)
  (λj ob g b hl _ hF=>by
   obtain⟨_,h2⟩:=hl;simp only[vA]at h2;cases hn:ns[j]? with
   |none=>simp[hn]at h2
   |some n=>simp[hn]at h2;subst h2;exact hF.elim)
  (λi j oi oj gi gj b hl _ _ _ hF _=>by
   obtain⟨_,h2⟩:=hl;simp only[vA]at h2;cases hn:ns[i]? with
   |none=>simp[hn]at h2
   |some n=>simp[hn]at h2;subst h2;exact hF.elim)
  (λk j ob g hl _=>by
   obtain⟨h1,h2⟩:=hl;simp only[vA]at h1 h2;cases hn:ns[j]? with
   |none=>simp[hn]at h2
   |some n=>
    simp[hn]at h1 h2;subst h1;subst h2;exact⟨[],⟨by simp[maxLen],.inl ⟨rfl,rfl,rfl⟩⟩,by simp,by simp⟩) (by exact⟨rfl,rfl,rfl⟩)
 exact⟨_,this.1⟩
def Fp(i:Nat):Tg->Option Tg
 | .own=>some (.mQ i)
 |g=>some g
def zk{P:Program}[aG P]{B:gL P}{o:List aI}{G:List CO}{w:World}{i:Nat}{ob:aI}{g:CO}(hl:look o G i ob g)(aY:ob.fT=true)(box:Bool):
  pG (Fp i) true ((env B o G w).of box) (env B o G w) (λb=>g.F b/\∀a,g.a=some a->b≠a.block) where
 own t e:=by obtain rfl:=cX e;exact⟨by simp,λb hb=>⟨ob,g,hl,aY,hb.1,hb.2⟩⟩
 view t e:=by obtain rfl:=cX e;exact⟨rfl,λb hb=>by cases box<;>exact hb⟩
 mQ j t e:=by
  obtain rfl:=cX e;refine⟨by simp,?_,λb hb=> ?_⟩
  .by_cases h:(env B o G w).V j
   .left;cases box
    .trivial
    .exact h
   .right;exact h
  .cases box
   .exact hb.elim
   .exact hb
 hh _ j v x h:=by cases box;exact h.elim;exact h
 hl _ j v k q x h:=by cases box;exact h.elim;exact h
def mV{o:List aI}{i bY:Nat}{ob:aI}(h:AV.gB o i bY=some ob):o[i]? =some ob/\ob.fT=true/\ob.bY=bY:=by
 unfold AV.gB at h;split at h
 .rename_i x hx;split at h
  .rename_i hc;obtain rfl:=cX h;exact⟨hx,hc⟩
  .cases h
 .cases h
def fZ.look{P:Program}[aG P]{B:gL P}{s:AS}{G:List CO}{a:Act}{w:World}(r:fZ B s G a w){i:Nat}{ob:aI}(h:s.o[i]? =some ob):∃g,look s.o G i ob g:=by
 have hi:i<G.length:=by rw[r.len];exact(cU.1 h).1
 exact⟨G[i],h,aE hi⟩
def fZ.elem{P:Program}[aG P]{B:gL P}{s:AS}{G:List CO}{a:Act}{w:World}(r:fZ B s G a w){i idx:Nat}{ob:aI}{g:CO}{e:List AV}(hl:Aw.look s.o G i ob g)(aY:ob.fT=true)(he:ob.fM[idx]? =some e):
  ∃b f cs,g.a=some ⟨b,f,none⟩/\cs.length=ob.n/\dB w b (f+idx*ob.n) cs/\(∀x∈cs,x.oneCell'=true)/\Rc w (env B s.o G w) (tJ (Fp i) true e) cs []:=by
 obtain⟨fp,⟨_,h⟩,hnd,hF⟩:=r.ok i ob g hl aY;rcases h with⟨h,_⟩|⟨b,f,C,ty,fz,sH,ha,hb,hz,h1,h2,h3,rfl,hr⟩
 .rw [h]at he;simp at he
 obtain⟨f1,f2,f3,cs,rfl,hn,hc,ho,wK,_,_⟩:=Cy hr he;refine⟨b,f,cs,ha,hn,hc,ho,?_⟩;refine Ar (zk hl aY ob.box) e cs f2 (λx hx=>⟨hF x (by simp[hx]),λa' yM=> ?_⟩) wK;rw[ha]at yM;obtain rfl:=cX yM;simp only[nF]at hnd;rintro rfl;exact hnd.1 (by simp[hx])
def Sb{w:World}{E:Env}{c:List AV}{cs:List Value}(off n:Nat)(h:Rc w E c cs []):Rc w E ((c.drop off).take n) ((cs.drop off).take n) []:=by
 obtain⟨f1,f2,e,_,h2⟩:=vV off h;obtain⟨rfl,rfl⟩:f1=[]/\f2=[]:=by simpa using e.symm
 obtain⟨f1,f2,e,h3,_⟩:=vV n h2;obtain⟨rfl,rfl⟩:f1=[]/\f2=[]:=by simpa using e.symm
 exact h3
def IQ{cs:List Value}{off n:Nat}(ho:∀x∈cs,x.oneCell'=true):∀x∈(cs.drop off).take n,x.oneCell'=true:=
 λx hx=>ho x (BW (tA hx))
def dB.slice{w:World}{b off:Nat}{cs:List Value}(k n:Nat)(h:dB w b off cs):dB w b (off+k) ((cs.drop k).take n):=h.drop.take
def Fq(f:Tg->Option Tg)(h:Bool):∀c,(tJ f h c).length=c.length
 |[]=>rfl
 |_::xs=>by simp[tJ,Fq f h xs]
def wL{P:Program}{w:World}{t:TypeId}{b off k n:Nat}{cs:List Value}(ht:nH P t=some n)(hfit:k+n<=cs.length)(h:dB w b off cs):
  (Instr.loadAt t (.pointer (some ⟨b,off+k,none⟩))).run P w= .ok (.agg ((cs.drop k).take n).toArray) w:=by
 have hl:((cs.drop k).take n).length=n:=by simp;omega
 simpa [Instr.loadAt,Instr.sureAddr]using Yh (P:=P) (t:=t) (by rw[hl];exact ht) (h.slice k n)
def zQ{P:Program}{w:World}{t:TypeId}{b off k:Nat}{cs:List Value}{v:Value}(ht:rY P t=true)(hv:cs[k]? =some v)(h:dB w b off cs):
  (Instr.loadAt t (.pointer (some ⟨b,off+k,none⟩))).run P w= .ok v w:=by
 have:(cs.drop k).take 1=[v]:=by obtain⟨hk,rfl⟩:=cU.1 hv;rw[oY hk,eV,gS]
 have h1:=h.slice k 1;rw[this]at h1;simpa [Instr.loadAt,Instr.sureAddr]using Yi (P:=P) (t:=t) ht h1
def fZ.ptr{G:List CO}{a:Act}{w:World}(r:fZ B s G a w){x:Operand}{i bY idx off:Nat}{ob:aI}(hx:s.ev x= .ptr i bY idx off)(ho:AV.gB s.o i bY=some ob):
  ∃g b f,Aw.look s.o G i ob g/\ob.fT=true/\g.a=some ⟨b,f,none⟩/\a.eval x= .pointer (some ⟨b,f+(idx*ob.n+off),none⟩):=by
 have h:=r.ev x;rw[hx]at h;simp only[R]at h;obtain⟨_,ob',g,hl,_,hh,_⟩:=h;obtain⟨h1,h2,h3⟩:=mV ho;obtain rfl:=cX (hl.1.symm.trans h1);obtain⟨b,f,ha,hv⟩:=hh h2 h3;exact⟨g,b,f,hl,h2,ha,hv⟩
def fZ.pin{G:List CO}{a:Act}{w:World}(r:fZ B s G a w){x:Operand}{i bY idx off:Nat}{ob:aI}{g:CO}(hx:s.ev x= .ptr i bY idx off)(ho:AV.gB s.o i bY=some ob)(hg:Aw.look s.o G i ob g):
  ob.box=true->bY=2->idx=0->off=0->∀y,B.p0 i=some y->a.eval x=y.1/\(ob.fT=true->ob.bY=2->g.cap=y.2):=by
 have h:=r.ev x;rw[hx]at h;simp only[R]at h;obtain⟨_,ob',g',hl,_,_,hz⟩:=h;obtain⟨h1,h2,h3⟩:=mV ho;obtain rfl:=cX (hl.1.symm.trans h1);obtain rfl:=cX (hl.2.symm.trans hg.2);exact hz
def LM(t:TypeId)(x:Operand){i bY idx off n:Nat}{ob:aI}{e:List AV}(hx:s.ev x= .ptr i bY idx off)(ho:AV.gB s.o i bY=some ob)(he:ob.fM[idx]? =some e)
  (hn:nH P t=some n) (hfit:off+n<=e.length):Step P B ⟨dst,.load t x,ty,pos,after,gd⟩ s (s.put dst (.agg ((tJ (Fp i) true e).drop off |>.take n))):=
 gD λG a w r=>by
  obtain⟨g,b,f,hl,aY,ha,hv⟩:=r.ptr hx ho;obtain⟨b',f',cs,yM,hcn,hc,hone,wK⟩:=r.elem hl aY he;rw[ha]at yM;simp only[eI,oS,pS]at yM;obtain⟨rfl,rfl⟩:=yM;have hle:=iY wK;rw[Fq]at hle;refine⟨.agg ((cs.drop off).take n).toArray,?_,?_⟩
  .simp only[execOp,hv,<-pH];simp[wL (P:=P) (k:=off) (n:=n) (cs:=cs) hn (by omega) hc]
  .simp only[R];exact⟨_,rfl,IQ hone,Sb off n wK⟩
def LP(t:TypeId)(x:Operand){i bY idx off:Nat}{ob:aI}{e:List AV}{y:AV}(hx:s.ev x= .ptr i bY idx off)(ho:AV.gB s.o i bY=some ob)(he:ob.fM[idx]? =some e)
  (hn:rY P t=true) (hy:(tJ (Fp i) true e)[off]? =some y):Step P B ⟨dst,.load t x,ty,pos,after,gd⟩ s (s.put dst y):=
 gD λG a w r=>by obtain⟨g,b,f,hl,aY,ha,hv⟩:=r.ptr hx ho;obtain⟨b',f',cs,yM,hcn,hc,hone,wK⟩:=r.elem hl aY he;rw[ha]at yM;simp only[eI,oS,pS]at yM;obtain⟨rfl,rfl⟩:=yM;obtain⟨v,hv',hR⟩:=NN wK hy;refine⟨v,?_,hR⟩;simp only[execOp,hv,<-pH];simp[zQ (P:=P) hn hv' hc]
def fZ.iW{G:List CO}{a:Act}{w:World}(r:fZ B s G a w){x:Operand}{g:Tg}{c:List AV}{off:Nat}(hx:s.ev x= .iW g c off)(hf:(AV.iW g c off).fit s.o=true):
  ∃b o cs,a.eval x= .pointer (some ⟨b,o+off,none⟩)/\dB w b o cs/\(∀x∈cs,x.oneCell'=true)/\Rc w (env B s.o G w) c cs []:=by
 have h:=r.ev x;rw[hx]at h;simp only[R]at h;rcases h with⟨hd,_⟩|⟨_,b,o,cs,hv,ht,hcs,hc,hr⟩
 .cases g with
  |own=>exact hd.elim
  |view=>exact hd.elim
  |mQ i=>simp only[AV.fit]at hf;exfalso;refine hd (λob wF=> ?_);simpa [wF]using hf
 .refine ⟨b,o,cs,hv,hcs,hc,gQ (w':=w) (E':=env B s.o G w) ?_ _ _ _ (by simp) hr⟩;cases g with
  |own=>exact ht.elim
  |view=>exact⟨λ_ h=>⟨h,rfl⟩,λ_ _=>trivial,λ_ _ _ h=>h.elim,λ_ _ _ h=>h.elim,λ_ _ _ _ _ h=>h.elim⟩
  |mQ i=>exact⟨λ_ h=>⟨h,rfl⟩,λ_ _=>trivial,λj b _ h=>⟨by obtain⟨rfl,h⟩:=h;exact h,rfl⟩,λ_ _ _ h=>h.elim,λ_ _ _ _ _ h=>h.elim⟩
def Ki(t:TypeId)(x:Operand){g:Tg}{c:List AV}{off n:Nat}(hx:s.ev x= .iW g c off)(hf:(AV.iW g c off).fit s.o=true)
  (hn:nH P t=some n) (hfit:off+n<=c.length):Step P B ⟨dst,.load t x,ty,pos,after,gd⟩ s (s.put dst (.agg (c.drop off |>.take n))):=
 gD λG a w r=>by
  obtain⟨b,o,cs,hv,hc,hone,wK⟩:=r.iW hx hf;have hle:=iY wK;refine⟨.agg ((cs.drop off).take n).toArray,?_,?_⟩
  .simp only[execOp,hv];simp[wL (P:=P) (k:=off) (n:=n) (cs:=cs) hn (by omega) hc]
  .simp only[R];exact⟨_,rfl,IQ hone,Sb off n wK⟩
def Kj(t:TypeId)(x:Operand){g:Tg}{c:List AV}{off:Nat}{y:AV}(hx:s.ev x= .iW g c off)(hf:(AV.iW g c off).fit s.o=true)
  (hn:rY P t=true) (hy:c[off]? =some y):Step P B ⟨dst,.load t x,ty,pos,after,gd⟩ s (s.put dst y):=
 gD λG a w r=>by obtain⟨b,o,cs,hv,hc,hone,wK⟩:=r.iW hx hf;obtain⟨v,hv',hR⟩:=NN wK hy;refine⟨v,?_,hR⟩;simp only[execOp,hv];simp[zQ (P:=P) hn hv' hc]
def Ps{t:TypeId}{f fo:Nat}(h:NP P t f=some fo)(w:World)(b o:Nat):(Instr.fieldAt t (.pointer (some ⟨b,o,none⟩)) f).run P w= .ok (.pointer (some ⟨b,o+fo,none⟩)) w:=by
 unfold NP at h;split at h
 .rename_i fs hu;split at h
  .rename_i fd hfd;split at h
   .rename_i inf hi;split at h
    .cases h
    .rename_i hz;obtain rfl:=cX h;simp[Instr.fieldAt,kO hu,hfd,Instr.sureAddr,fieldPlace,sizeOf,typeInfo,hi,hz,addr_add]
   .cases h
  .cases h
 .cases h
def Sc(t:TypeId)(x:Operand)(f:Nat){i bY idx off fo:Nat}{ob:aI}(hx:s.ev x= .ptr i bY idx off)(ho:AV.gB s.o i bY=some ob)(hf:NP P t f=some fo):
  Step P B ⟨dst,.fieldAddr t x f,ty,pos,after,gd⟩ s (s.put dst (.ptr i bY idx (off+fo))):=
 gD λG a w r=>by
  obtain⟨g,b,k,hl,aY,ha,hv⟩:=r.ptr hx ho;refine⟨.pointer (some ⟨b,k+(idx*ob.n+(off+fo)),none⟩),?_,?_⟩
  .simp only[execOp,hv];simp[Ps hf,pH]
  .simp only[R];obtain⟨h1,h2,h3⟩:=mV ho;refine⟨trivial,ob,g,hl,AI h3.symm,λ_ _=>⟨b,k,ha,rfl⟩,λe1 e2 e3 e4 y hy=> ?_⟩;have h0:off=0:=by omega
   have h0':fo=0:=by omega
   have:=r.pin hx ho hl e1 e2 e3 h0 y hy;exact⟨by rw[<-this.1,hv,h0,h0'],this.2⟩
def QE(t:TypeId)(x:Operand)(f:Nat){g:Tg}{c:List AV}{off fo:Nat}(hx:s.ev x= .iW g c off)(hfit:(AV.iW g c off).fit s.o=true)(hf:NP P t f=some fo):
  Step P B ⟨dst,.fieldAddr t x f,ty,pos,after,gd⟩ s (s.put dst (.iW g c (off+fo))):=
 gD λG a w r=>by
  obtain⟨b,o,cs,hv,hc,hone,wK⟩:=r.iW hx hfit;refine⟨.pointer (some ⟨b,o+(off+fo),none⟩),?_,?_⟩
  .simp only[execOp,hv];simp[Ps hf,pH]
  .have h:=r.ev x;rw[hx]at h;simp only[R]at h⊢;rcases h with h|⟨h1,b',o',cs',hv',ht,hcs,hc',hr⟩
   .exact .inl ⟨h.1,trivial⟩
   .rw [hv]at hv';simp only[CN,eI,oS,pS]at hv';refine .inr ⟨trivial,b',o',cs',?_,ht,hcs,hc',hr⟩;obtain⟨rfl,h2⟩:=hv';simp only[CN,eI,oS,pS,true_and];omega
def Rv(w:World)(E:Env):List (List AV)->List Value->Nat->List Nat->Prop
 |[],vs,_,fp=>vs=[]/\fp=[]
 |e::es,vs,n,fp=>∃cs rest f1 f2,vs=cs++rest/\cs.length=n/\(∀x∈cs,x.oneCell'=true)/\Rc w E e cs f1/\Rv w E es rest n f2/\fp=f1++f2
def dB.append{w:World}{b off:Nat}{c1 c2:List Value}:dB w b off (c1++c2)↔dB w b off c1/\dB w b (off+c1.length) c2:=by
 constructor
 .intro h;refine⟨λj v hv=>h j v ?_,λj v hv=> ?_⟩
  .rw [oA (cU.1 hv).1];exact hv
  .have:=h (c1.length+j) v (by rw[lO (by omega)];simpa using hv)
   rwa[<-pH]at this
 .rintro ⟨h1,h2⟩ j v hv;by_cases hj:j<c1.length
  .rw [oA hj]at hv;exact h1 j v hv
  .rw [lO (by omega)]at hv;have:=h2 _ v hv
   rwa[show off+c1.length+(j-c1.length)=off+j by omega]at this
def vG{w:World}{E:Env}{b n:Nat}:∀{l:List (List AV)} {off:Nat} {fp:List Nat},Rr w E l b off n fp↔∃vs,Rv w E l vs n fp/\dB w b off vs
 |[],off,fp=>by simp only[Rr,Rv];exact⟨λh=>⟨[],⟨rfl,h⟩,λj v hv=>by simp at hv⟩,λ⟨_,h,_⟩=>h.2⟩
 |e::es,off,fp=>by
  simp only[Rr,Rv,vG (l:=es)];constructor
  .rintro ⟨cs,f1,f2,hn,hc,ho,h1,⟨vs,h2,h3⟩,rfl⟩;refine⟨cs++vs,⟨cs,vs,f1,f2,rfl,hn,ho,h1,h2,rfl⟩,dB.append.2 ⟨hc,by rw[hn];exact h3⟩⟩
  .rintro ⟨_,⟨cs,vs,f1,f2,rfl,hn,ho,h1,h2,rfl⟩,h3⟩;have:=dB.append.1 h3;exact⟨cs,f1,f2,hn,this.1,ho,h1,⟨vs,h2,by rw[<-hn];exact this.2⟩,rfl⟩
def mK{w:World}{E:Env}{n:Nat}:∀{l:List (List AV)} {vs:List Value} {fp:List Nat},Rv w E l vs n fp->vs.length=l.length*n
 |[],_,_,h=>by simp only[Rv]at h;simp[h.1]
 |_::es,_,_,h=>by simp only[Rv]at h;obtain⟨cs,rest,f1,f2,rfl,hn,_,_,h2,_⟩:=h;simp[mK h2,hn,rK,Nat.add_comm]
def Sd{w:World}{E:Env}{n:Nat}:∀{l:List (List AV)} {vs:List Value} {fp:List Nat},Rv w E l vs n fp->∀x∈vs,x.oneCell'=true
 |[],_,_,h,x,hx=>by simp only[Rv]at h;simp[h.1]at hx
 |_::es,_,_,h,x,hx=>by
  simp only[Rv]at h;obtain⟨cs,rest,f1,f2,rfl,_,ho,_,h2,_⟩:=h;rcases fR.1 hx with h|h
  .exact ho x h
  .exact Sd h2 x h
def Co{w:World}{E:Env}{n:Nat}{l2:List (List AV)}{v2:List Value}{g2:List Nat}(h':Rv w E l2 v2 n g2):∀{l:List (List AV)} {vs:List Value} {fp:List Nat},Rv w E l vs n fp->Rv w E (l++l2) (vs++v2) n (fp++g2)
 |[],_,_,h=>by simp only[Rv]at h;obtain⟨rfl,rfl⟩:=h;simpa using h'
 |_::es,_,_,h=>by simp only[Rv]at h;obtain⟨cs,rest,f1,f2,rfl,hn,ho,h1,h2,rfl⟩:=h;simp only[cW,Rv];exact⟨cs,rest++v2,f1,f2++g2,by simp,hn,ho,h1,Co h' h2,by simp⟩
def yB{w w':World}{E E':Env}(k:fG w E w' E'){n:Nat}:∀{l:List (List AV)} {vs:List Value} {fp:List Nat},(∀b∈fp,w'.heap[b]? =w.heap[b]?)->Rv w E l vs n fp->Rv w' E' l vs n fp
 |[],_,_,_,h=>by simpa [Rv]using h
 |_::es,_,_,hf,h=>by simp only[Rv]at h⊢;obtain⟨cs,rest,f1,f2,rfl,hn,ho,h1,h2,rfl⟩:=h;exact⟨cs,rest,f1,f2,rfl,hn,ho,gQ k _ _ _ (λx hx=>hf x (by simp[hx])) h1,yB k (λx hx=>hf x (by simp[hx])) h2,rfl⟩
def Kk{P:Program}{w:World}{tS xT ty e:TypeId}{i:TypeInfo}{z:Value}(ht:P.underlying tS=some (.slice e))(hxt:∃d,P.underlying xT=some d/\∀k,d≠ .int k)(hi:P.info? e=some i)(hz:i.zero=some z)
  {base:Option Addr} {sLen sCap n:Nat} {x:Value} (dF:(Builtin.lenOf x).run P w= .ok n w) {eO olds:List Value}
  (Cz:∀w',w'.heap=w.heap->(Builtin.firstCells i.size n x).run P w'= .ok eO.toArray w')
  (holds:∀w',w'.heap=w.heap->(Builtin.firstCells i.size sLen (.slice base sLen sCap)).run P w'= .ok olds.toArray w')
  (hbytes:(sLen+n)*i.bytes<=140737488355328) (h63:sLen+n<=9223372036854775807):
  (sLen+n<=sCap->∀w1,(match base with
    |some a=>(storeCells (a.add (sLen*i.size)) eO).run P w= .ok () w1
    |none=>w1=w)->(Builtin.append_ #[tS,xT] ty #[.slice base sLen sCap,x]).run P w= .ok (.slice base (sLen+n) sCap) w1)/\
  (sCap<sLen+n->(Builtin.append_ #[tS,xT] ty #[.slice base sLen sCap,x]).run P w=
   .ok (.slice (some ⟨w.heap.size,0,none⟩) (sLen+n) (grownCap w (sLen+n) sCap e)) (w.drew.alloc (.cells (olds.toArray++eO.toArray++Builtin.zeroCells z.cells (grownCap w (sLen+n) sCap e-(sLen+n))) e))):=by
 obtain⟨d,hd,hdi⟩:=hxt;constructor
 .intro hroom w1 h1;have hn:=Cz w rfl;cases base with
  |none=>simp only at h1;subst h1;simp[Builtin.append_,kO ht,kO hd,sizeOf,typeInfo,hi,dF,hroom,hn]
  |some a=>simp only at h1;simp[Builtin.append_,kO ht,kO hd,sizeOf,typeInfo,hi,dF,hroom,hn,h1]
 .intro hg;have hnr:¬(sLen+n<=sCap):=by omega
  have aW8:¬(9223372036854775807<((sLen:Int)+(n:Int))):=by omega
  have hfit:=growslice_fits hg hbytes;have aW9:¬(281474976710656<Builtin.nextslicecap (sLen+n) sCap*i.bytes):=by omega
  have hn:=Cz w.drew rfl;have ho:=holds w.drew rfl;simp[Builtin.append_,kO ht,kO hd,sizeOf,typeInfo,zeroValue,hi,hz,dF,hnr,aW8,aW9,Question.forced,hn,ho,newRow,grownCap];rw[<-append_toArray,Array.append_assoc]
def aI.kill(ob:aI):aI:={ob with fT:=false}
def fZ.Sg{P:Program}[aG P]{B:gL P}{s:AS}{G:List CO}{a:Act}{w:World}(r:fZ B s G a w){i j:Nat}(hij:i≠j){oi oj:aI}{gi gj:CO}(hi:Aw.look s.o G i oi gi)(hj:Aw.look s.o G j oj gj)(hil:oi.fT=true)(hjl:oj.fT=true):
  fZ B ⟨s.t,s.o.set j oj.kill⟩ (G.set i {gi with F:=λb=>gi.F b\/gj.F b}) a w/\fG w (env B s.o G w) w (env B (s.o.set j oj.kill) (G.set i {gi with F:=λb=>gi.F b\/gj.F b}) w):=by
 have hii:Aw.look (s.o.set j oj.kill) (G.set i {gi with F:=λb=>gi.F b\/gj.F b}) i oi {gi with F:=λb=>gi.F b\/gj.F b}:=by refine⟨by rw[lB (AH hij)];exact hi.1,?_⟩;have:=(cU.1 hi.2).1;simp[this]
 have hjj:Aw.look (s.o.set j oj.kill) (G.set i {gi with F:=λb=>gi.F b\/gj.F b}) j oj.kill gj:=by refine⟨?_,by rw[lB hij];exact hj.2⟩;have:=(cU.1 hj.1).1;simp[this]
 have back:∀{k x y},Aw.look (s.o.set j oj.kill) (G.set i {gi with F:=λb=>gi.F b\/gj.F b}) k x y->x.fT=true->
   k≠j/\((k=i/\x=oi/\y={gi with F:=λb=>gi.F b\/gj.F b})\/(k≠i/\Aw.look s.o G k x y)):=by
  intro k x y h hx;by_cases hk:k=j
  .subst hk;have:=(lT h hjj).1;subst this;exact absurd hx (by simp[aI.kill])
  .refine ⟨hk,?_⟩;by_cases hki:k=i
   .subst hki;exact .inl ⟨rfl,lT h hii⟩
   .refine .inr ⟨hki,?_,?_⟩
    .have:=h.1;rwa[lB (AH hk)]at this
    .have:=h.2;rwa[lB (AH hki)]at this
 have fwd:∀{k x y},k≠i->k≠j->Aw.look s.o G k x y->Aw.look (s.o.set j oj.kill) (G.set i {gi with F:=λb=>gi.F b\/gj.F b}) k x y:=by intro k x y h1 h2 h;exact⟨by rw[lB (AH h2)];exact h.1,by rw[lB (AH h1)];exact h.2⟩
 have k:fG w (env B s.o G w) w (env B (s.o.set j oj.kill) (G.set i {gi with F:=λb=>gi.F b\/gj.F b}) w):=by
  refine Ay (eJ _) (λb hb=>⟨rQ r hb,rfl⟩) r.len ?_ ?_
  .intro k x y h;by_cases hk:k=j
   .subst hk;obtain⟨rfl,rfl⟩:=lT hj h;exact⟨_,_,hjj,eJ _,λh=> .inl h,λhf=>absurd hf (by simp[aI.kill])⟩
   .by_cases hki:k=i
    .subst hki;obtain⟨rfl,rfl⟩:=lT hi h;exact⟨_,_,hii,eJ _,λh=> .inl h,λ_=>⟨hil,rfl,λ_=>⟨rfl,rfl,rfl⟩,λb hb jE=>⟨.inl hb,jE,rfl⟩⟩⟩
    .exact ⟨x,y,fwd hki hk h,eJ _,λh=> .inl h,λhx=>⟨hx,rfl,λ_=>⟨rfl,rfl,rfl⟩,λb hb jE=>⟨hb,jE,rfl⟩⟩⟩
  .intro k x y b h hx hf;obtain⟨_,⟨rfl,rfl,rfl⟩|⟨_,h'⟩⟩:=back h hx
   .rcases hf with hf|hf
    .exact .inr ⟨_,_,_,hi,hil,hf⟩
    .exact .inr ⟨_,_,_,hj,hjl,hf⟩
   .exact .inr ⟨_,_,_,h',hx,hf⟩
 refine⟨r.next k (by simp[r.len]) ?_ ?_ ?_ (eJ _) (λ_ _ _=>rfl),k⟩
 .intro k' x y h hx;obtain⟨_,⟨rfl,rfl,rfl⟩|⟨_,h'⟩⟩:=back h hx
  .obtain ⟨fp,h1,h2,h3⟩:=(r.ok _ _ _ hi hil).keeps k (λ_ _=>rfl)
   exact⟨fp,h1,h2,λb hb=> .inl (h3 b hb)⟩
  .exact (r.ok _ _ _ h' hx).keeps k (λ_ _=>rfl)
 .intro k1 k2 x1 x2 y1 y2 b h1 h2 hx1 hx2 hf1 hf2;obtain⟨n1,⟨rfl,rfl,rfl⟩|⟨m1,h1'⟩⟩:=back h1 hx1<;>obtain⟨n2,⟨rfl,rfl,rfl⟩|⟨m2,h2'⟩⟩:=back h2 hx2
  .rfl
  .rcases hf1 with hf1|hf1
   .exact r.fV _ _ _ _ _ _ b hi h2' hil hx2 hf1 hf2
   .exact absurd (r.fV _ _ _ _ _ _ b hj h2' hjl hx2 hf1 hf2).symm n2
  .rcases hf2 with hf2|hf2
   .exact r.fV _ _ _ _ _ _ b h1' hi hx1 hil hf1 hf2
   .exact absurd (r.fV _ _ _ _ _ _ b h1' hj hx1 hjl hf1 hf2) n1
  .exact r.fV _ _ _ _ _ _ b h1' h2' hx1 hx2 hf1 hf2
 .intro k' x y b h hx hf;obtain⟨_,⟨rfl,rfl,rfl⟩|⟨_,h'⟩⟩:=back h hx
  .rcases hf with hf|hf
   .exact r.eB _ _ _ b hi hil hf
   .exact r.eB _ _ _ b hj hjl hf
  .exact r.eB _ _ _ b h' hx hf
def tL{w:World}{b off:Nat}{C:Array Value}{e:TypeId}{fz:Nat×Nat}{vs:List Value}(hb:w.heap[b]? =some (.cells C e fz))(h:∀j v,vs[j]? =some v->C[off+j]? =some v):dB w b off vs:=by intro j v hv;simp[World.cell?,hb,h j v hv]
def nD{P:Program}{w:World}{b off m n len cap:Nat}{vs:List Value}(hn:vs.length=m*n)(h:dB w b off vs):
  (Builtin.firstCells n m (.slice (some ⟨b,off,none⟩) len cap)).run P w= .ok vs.toArray w:=
 run_firstCells_some w n m _ len cap vs hn (λj v hv=>by rw[addr_add];exact h j v hv)
def dB.heap{w w':World}{b off:Nat}{vs:List Value}(h:dB w b off vs)(hh:w'.heap=w.heap):dB w' b off vs:=h.same (by rw[hh])
def fZ.append{P:Program}[aG P]{B:gL P}{s:AS}{G:List CO}{a:Act}{w:World}(r:fZ B s G a w){i:Nat}{ob:aI}{g:CO}(hl:Aw.look s.o G i ob g)(aY:ob.fT=true)(xL:ob.box=false)
  {tS xT ty e:TypeId} {inf:TypeInfo} {z:Value} (ht:P.underlying tS=some (.slice e)) (hxt:∃d,P.underlying xT=some d/\∀k,d≠ .int k) (hi:P.info? e=some inf) (hz:inf.zero=some z) (hsz:inf.size=ob.n) (hzs:z.cells.size=ob.n)
  {x:Value} {l2:List (List AV)} {eO:List Value} {fp fp2:List Nat} (dF:(Builtin.lenOf x).run P w= .ok l2.length w)
  (Cz:∀w',w'.heap=w.heap->(Builtin.firstCells ob.n l2.length x).run P w'= .ok eO.toArray w')
  (Pt:Rv w (env B s.o G w).plain l2 eO ob.n fp2) (eQ:uH w (env B s.o G w).plain ob.n ob.fM g.a g.cap fp) (hnd:(fp++fp2).Nodup) (hF:∀b∈fp++fp2,g.F b)
  (hbytes:(ob.fM.length+l2.length)*inf.bytes<=140737488355328) (h63:ob.fM.length+l2.length<=9223372036854775807):
  ∃v w' G',(Builtin.append_ #[tS,xT] ty #[.slice g.a ob.fM.length g.cap,x]).run P w= .ok v w'/\
   fZ B ⟨s.t,s.o.set i {ob with bY:=ob.bY+1,fM:=ob.fM++l2}⟩ G' a w'/\
   R w' (env B (s.o.set i {ob with bY:=ob.bY+1,fM:=ob.fM++l2}) G' w') (.obj i (ob.bY+1)) v []:=by
 obtain⟨olds,hro,hold⟩:∃olds,Rv w (env B s.o G w).plain ob.fM olds ob.n fp.tail/\
   ∀w',w'.heap=w.heap->(Builtin.firstCells inf.size ob.fM.length (.slice g.a ob.fM.length g.cap)).run P w'= .ok olds.toArray w':=by
  rcases eQ.2 with⟨h1,h2,h3⟩|⟨b,off,C,ety,fz,sH,ha,hb,hz',h1,h2,h3,rfl,hr⟩
  .subst h3;refine⟨[],by simp[h1,Rv],λw' hw'=> ?_⟩;rw[h1];cases hga:g.a with
   |none=>simp[Builtin.firstCells]
   |some a'=>simp[Builtin.firstCells,loadCells,loadCellsFrom]
  .obtain ⟨vs,hv,hc⟩:=vG.1 hr;refine⟨vs,hv,λw' hw'=> ?_⟩;rw[ha,hsz];exact nD (mK hv) (hc.heap hw')
 obtain⟨hroom,aEy⟩:=Kk (P:=P) (w:=w) (tS:=tS) (xT:=xT) (ty:=ty) ht hxt hi hz (base:=g.a) (sLen:=ob.fM.length) (sCap:=g.cap) (x:=x) dF (by rw[hsz];exact Cz) hold hbytes h63;have hR:∀{w':World} {G':List CO} {g':CO},G'[i]? =some g'->(s.o[i]? =some ob)->R w' (env B (s.o.set i {ob with bY:=ob.bY+1,fM:=ob.fM++l2}) G' w') (.obj i (ob.bY+1)) (.slice g'.a (ob.fM.length+l2.length) g'.cap) []:=by intro w' G' g' hg' ho;simp only[R];refine⟨trivial,{ob with bY:=ob.bY+1,fM:=ob.fM++l2},g',⟨?_,hg'⟩,eJ _,⟨λ_ _=>by simp,λh=>by omega⟩⟩;have:=(cU.1 ho).1;simp[this]
 have hiG:i<G.length:=(cU.1 hl.2).1;by_cases hcase:ob.fM.length+l2.length<=g.cap
 .-- in place
  rcases eQ.2 with⟨h1,h2,h3⟩|⟨b,off,C,ety,fz,sH,ha,hb,hz',h1,h2,h3,rfl,hr⟩
  .-- nothing to append,no aTe
   have hl2:l2=[]:=gO (by omega);subst hl2;have hnw:eO=[]:=gO (by simpa using mK Pt);subst hnw;have hrun:=hroom hcase w (by cases g.a<;>simp[storeCells]);have hm:=r.modify hl aY {ob with bY:=ob.bY+1,fM:=ob.fM++[]} g w (by simp) rfl (by simp) (λb hb=> .inl hb) (λb hb jE=>⟨hb,jE⟩) (λ_ _ _=>rfl) (eJ _) (λk _=>by
    refine⟨fp,?_,(lE.1 hnd).1,λb hb=>hF b (by simp[hb])⟩;generalize env B (s.o.set i {ob with bY:=ob.bY+1,fM:=ob.fM++[]}) (G.set i g) w=E' at k⊢;have h5:=eQ.keeps k.plain (λ_ _=>rfl);simpa [xL,Env.of]using h5)
   refine⟨_,w,_,hrun,hm.1,?_⟩;exact hR (by simp[hiG]) hl.1
  .have hnl:=mK Pt;have hol:=mK hro;have hfit:off+ob.fM.length*ob.n+eO.length<=C.size:=by rw[hnl,pH,<-rK];exact iS (Nat.add_le_add_left (mB _ hcase) _) h1
   have hst:=vW (P:=P) hb hz' hfit (Sd Pt);have hrun:=hroom hcase (w.setCells b (off+ob.fM.length*ob.n) eO) (by rw[ha,hsz];simpa [addr_add]using hst);have Gj:g.F b:=hF b (by simp);have Fs:∀b',b'≠b->(w.setCells b (off+ob.fM.length*ob.n) eO).heap[b']? =w.heap[b']?:=λb' jE=>oC b b' jE _ _ _
   obtain⟨C',hC',hCs⟩:=mE b ety fz eO (off+ob.fM.length*ob.n) w C hb;have hm:=r.modify hl aY {ob with bY:=ob.bY+1,fM:=ob.fM++l2} g (w.setCells b (off+ob.fM.length*ob.n) eO) (by simp) rfl (by simp) (λb hb=> .inl hb) (λb hb jE=>⟨hb,jE⟩)
    (λb' hlt jE=>Fs b' (λe=>jE ⟨e▸Gj,⟨b,off,none⟩,ha,e⟩)) (by rw[jR];exact eJ _) (λk _=>by
    have hnd':(b::sH++fp2).Nodup:=hnd;simp only[cW,nF,fR,not_or]at hnd';refine⟨b::(sH++fp2),?_,by simpa using hnd,λb' hb'=>hF b' (by simpa using hb')⟩;generalize env B (s.o.set i {ob with bY:=ob.bY+1,fM:=ob.fM++l2}) (G.set i g) (w.setCells b (off+ob.fM.length*ob.n) eO)=E' at k⊢;simp only[xL,Env.of,cY,eW];refine⟨by simp[maxLen];omega,.inr ⟨b,off,C',ety,fz,sH++fp2,ha,hC',by rw[hCs];exact hz',by rw[hCs];exact h1,by simpa using hcase,h3,rfl,?_⟩⟩;refine vG.2 ⟨olds++eO,?_,dB.append.2 ⟨?_,?_⟩⟩
    .refine Co (yB k.plain (λb' hb'=>Fs b' (λe=>hnd'.1.2 (e▸hb'))) Pt) (yB k.plain (λb' hb'=>Fs b' (λe=>hnd'.1.1 (e▸hb'))) hro)
    .obtain ⟨vs,hv,hc⟩:=vG.1 hr;have hov:olds=vs:=by have e1:=hold w rfl;rw[ha,hsz,nD (mK hv) hc]at e1;simpa using e1.symm
     subst hov;intro j v hv;rw[CD]
     .exact hc j v hv
     .intro _ _;have:j<olds.length:=(cU.1 hv).1;left;simp only;omega
    .intro j v hv;have hj:j<eO.length:=(cU.1 hv).1;rw[hol];have:=CT b eO (off+ob.fM.length*ob.n) w (λj hj=>by
      have:off+ob.fM.length*ob.n+j<C.size:=by omega
      simp[World.cell?,hb,this]) j hj
     rw[this];rw[aE hj]at hv;exact hv)
   refine⟨_,_,_,hrun,hm.1,?_⟩;exact hR (by simp[hiG]) hl.1
 .-- a new array
  have hrun:=aEy (by omega);generalize uJ:grownCap w (ob.fM.length+l2.length) g.cap e=cap' at hrun;have aXa:ob.fM.length+l2.length<=cap':=by rw[<-uJ];exact grownCap_ge _ _ _ _
  have aXb:cap'<=maxLen:=by rw[<-uJ];exact Ft _ _ _ _ (by simp[maxLen];omega)
  generalize hCd:olds.toArray++eO.toArray++Builtin.zeroCells z.cells (cap'-(ob.fM.length+l2.length))=C at hrun;have mI:∀b',b'<w.heap.size->(w.drew.alloc (.cells C e)).heap[b']? =w.heap[b']?:=λb' hlt=>heap_alloc w.drew _ b' hlt
  have hself:(w.drew.alloc (.cells C e)).heap[w.heap.size]? =some (.cells C e):=iT w.drew _;have hol:=mK hro;have hnl:=mK Pt;have aXc:C.size=cap'*ob.n:=by rw[<-hCd];simp only[Array.size_append,size_toArray,size_zeroCells,hzs,hol,hnl,<-rK];congr 1;omega
  have hm:=r.modify hl aY {ob with bY:=ob.bY+1,fM:=ob.fM++l2} ⟨some ⟨w.heap.size,0,none⟩,cap',λb=>g.F b\/b=w.heap.size⟩ (w.drew.alloc (.cells C e)) (by simp) rfl (by simp)
   (λb hb=>by
    rcases hb with hb|hb
    .exact .inl hb
    .right;subst hb;simp) (λb hb jE=>⟨.inl hb,λa' yM=>by
     obtain rfl:=cX yM;have:=(r.eB _ _ _ b hl aY hb).2;simp only;omega⟩) (λb hlt _=>mI b hlt) (by simp) (λk _=>by
   have aPf:∀b∈fp++fp2,b<w.heap.size:=λb hb=>(r.eB _ _ _ b hl aY (hF b hb)).2
   have hsub:∀b∈fp.tail,b∈fp:=λb hb=>mem_of_mem_tail hb
   have aTh:(fp.tail++fp2).Nodup:=by
    cases fp with
    |nil=>exact hnd
    |cons c t=>simp only[cW,nF]at hnd;exact hnd.2
   refine⟨w.heap.size::(fp.tail++fp2),?_,?_,?_⟩
   .generalize env B (s.o.set i {ob with bY:=ob.bY+1,fM:=ob.fM++l2}) (G.set i ⟨some ⟨w.heap.size,0,none⟩,cap',λb=>g.F b\/b=w.heap.size⟩) (w.drew.alloc (.cells C e))=E' at k⊢
    simp only[xL,Env.of,cY,eW];refine⟨by simp[maxLen];omega,.inr ⟨w.heap.size,0,C,e,(0,0),_,rfl,hself,.inr rfl,by simp[aXc],by simpa using aXa,aXb,rfl,?_⟩⟩;refine vG.2 ⟨olds++eO,Co (yB k.plain (λb' hb'=>mI b' (aPf b' (by simp[hb']))) Pt) (yB k.plain (λb' hb'=>mI b' (aPf b' (pA _ (hsub b' hb')))) hro),?_⟩;refine tL hself (λj v hv=> ?_);rw[<-hCd,show olds.toArray++eO.toArray=(olds++eO).toArray by simp,lR,wA (by simpa using(cU.1 hv).1)];simpa using hv
   .rw [nF];refine⟨λhmem=> ?_,aTh⟩;have:w.heap.size<w.heap.size:=aPf _ (by
     rcases fR.1 hmem with h|h
     .exact pA _ (hsub _ h)
     .exact tW _ h)
    omega
   .intro b hb;rcases mC.1 hb with rfl|hb
    .exact .inr rfl
    .left;rcases fR.1 hb with h|h
     .exact hF b (pA _ (hsub _ h))
     .exact hF b (tW _ h))
  refine⟨_,_,_,hrun,hm.1,?_⟩;exact hR (g':=⟨some ⟨w.heap.size,0,none⟩,cap',λb=>g.F b\/b=w.heap.size⟩) (by simp[hiG]) hl.1
mutual
def res(o:List aI):AV->AV
 | .obj i bY=>match AV.gB o i bY with
  |some ob=> .sl .own ob.n ob.fM
  |none=> .aB
 | .agg c=> .agg (vH o c)
 | .iL c=> .iL (vH o c)
 | .int k n=> .int k n
 | .bool b=> .bool b
 | .str s=> .str s
 | .sl g n l=> .sl g n l
 | .iW g c off=> .iW g c off
 | .ptr i v j k=> .ptr i v j k
 | .fn f c=> .fn f c
 | .aB=> .aB
def vH(o:List aI):List AV->List AV
 |[]=>[]
 |x::xs=>res o x::vH o xs
end
mutual
def mG:AV->List Nat
 | .obj i _=>[i]
 | .agg c=>mX c
 | .iL c=>mX c
 |_=>[]
def mX:List AV->List Nat
 |[]=>[]
 |x::xs=>mG x++mX xs
end
mutual
def kV(o:List aI):AV->Bool
 | .obj i bY=>match AV.gB o i bY with
  |some ob=> !ob.box
  |none=>false
 | .agg c=>pI o c
 | .iL c=>pI o c
 | .int _ _=>true
 | .bool _=>true
 | .str _=>true
 | .sl (.mQ _) _ _=>false
 | .sl _ _ _=>true
 | .iW .view _ _=>true
 | .fn _ []=>true
 | .aB=>true
 |_=>false
def pI(o:List aI):List AV->Bool
 |[]=>true
 |x::xs=>kV o x&&pI o xs
end
def Of(o:List aI)(G:List CO)(u:List Nat)(b:Nat):Prop:=∃i ob g,i∈u/\look o G i ob g/\ob.fT=true/\g.F b
mutual
theorem GU{P:Program}[aG P]{B:gL P}{s:AS}{G:List CO}{a:Act}{w:World}(r:fZ B s G a w):∀(av:AV) (v:Value),kV s.o av=true->(mG av).Nodup->R w (env B s.o G w) av v []->
  ∃fp,R w (env B s.o G w).plain (res s.o av) v fp/\fp.Nodup/\∀b∈fp,Of s.o G (mG av) b
 | .obj i bY,v,ho,_,h=>by
  cases wF:AV.gB s.o i bY with
  |none=>simp[kV,wF]at ho
  |some ob=>
   simp only[kV,wF]at ho;simp only[res,wF];simp only[R]at h;obtain⟨_,ob',g,hl,_,hh,_⟩:=h;obtain⟨h1,h2,h3⟩:=mV wF;obtain rfl:=cX (hl.1.symm.trans h1);have hv:=hh h2 h3;obtain⟨fp,eQ,hnd,hF⟩:=r.ok i _ g hl h2;have hb:ob'.box=false:=by simpa using ho
   rw[hb]at eQ;exact⟨fp,vU.2 ⟨g.a,g.cap,hv,eQ⟩,hnd,λb hb=>⟨i,_,g,by simp[mG],hl,h2,hF b hb⟩⟩
 | .agg c,v,ho,hu,h=>by simp only[R]at h;obtain⟨cs,rfl,hone,hr⟩:=h;obtain⟨fp,h1,h2,h3⟩:=Kl r c cs (by simpa [kV]using ho) (by simpa [mG]using hu) hr;exact⟨fp,by simp only[res,R];exact⟨cs,rfl,hone,h1⟩,h2,by simpa [mG]using h3⟩
 | .iL c,v,ho,hu,h=>by simp only[R]at h;obtain⟨cs,rfl,hr⟩:=h;obtain⟨fp,h1,h2,h3⟩:=Kl r c cs (by simpa [kV]using ho) (by simpa [mG]using hu) hr;exact⟨fp,by simp only[res,R];exact⟨cs,rfl,h1⟩,h2,by simpa [mG]using h3⟩
 | .int k n,v,_,_,h=>⟨[],by simpa [res,R]using h,by simp,by simp⟩
 | .bool b,v,_,_,h=>⟨[],by simpa [res,R]using h,by simp,by simp⟩
 | .str x,v,_,_,h=>⟨[],by simpa [res,R]using h,by simp,by simp⟩
 | .sl .own n l,v,_,_,h=>⟨[],by simp only[res];rw[vU]at h⊢;exact h,by simp,by simp⟩
 | .sl .view n l,v,_,_,h=>⟨[],by simp only[res,R]at h⊢;exact h,by simp,by simp⟩
 | .sl (.mQ i) n l,v,ho,_,h=>by simp[kV]at ho
 | .iW .view c off,v,_,_,h=>⟨[],by simp only[res,R]at h⊢;exact h,by simp,by simp⟩
 | .iW .own c off,v,ho,_,h=>by simp[kV]at ho
 | .iW (.mQ _) c off,v,ho,_,h=>by simp[kV]at ho
 | .ptr _ _ _ _,v,ho,_,h=>by simp[kV]at ho
 | .fn f [],v,_,_,h=>⟨[],by simp only[res,R]at h⊢;obtain⟨h1,cs,h2,h3⟩:=h;refine⟨trivial,cs,h2,?_⟩;cases cs<;>simp_all[Rc],by simp,by simp⟩
 | .fn f (_::_),v,ho,_,h=>by simp[kV]at ho
 | .aB,v,_,_,h=>⟨[],by simp[res,R],by simp,by simp⟩
theorem Kl{P:Program}[aG P]{B:gL P}{s:AS}{G:List CO}{a:Act}{w:World}(r:fZ B s G a w):∀(c:List AV) (cs:List Value),pI s.o c=true->(mX c).Nodup->Rc w (env B s.o G w) c cs []->
  ∃fp,Rc w (env B s.o G w).plain (vH s.o c) cs fp/\fp.Nodup/\∀b∈fp,Of s.o G (mX c) b
 |[],[],_,_,_=>⟨[],by simp[vH,Rc],by simp,by simp⟩
 |[],_::_,_,_,h=>by simp[Rc]at h
 |_::_,[],_,_,h=>by simp[Rc]at h
 |x::xs,c::cs,ho,hu,h=>by
  simp only[Rc]at h;obtain⟨g1,g2,h1,h2,e⟩:=h;obtain⟨rfl,rfl⟩:g1=[]/\g2=[]:=by simpa using e
  simp only[pI,eK]at ho;simp only[mX,lE]at hu;obtain⟨f1,k1,n1,o1⟩:=GU r x c ho.1 hu.1 h1;obtain⟨f2,k2,n2,o2⟩:=Kl r xs cs ho.2 hu.2.1 h2;refine⟨f1++f2,by simp only[vH,Rc];exact⟨f1,f2,k1,k2,rfl⟩,?_,?_⟩
  .refine lE.2 ⟨n1,n2,λb hb b' hb' e=> ?_⟩
   subst e;obtain⟨i,ob,g,hi,hl,aY,hF⟩:=o1 b hb;obtain⟨j,ob',g',hj,Dw,zP,hF'⟩:=o2 b hb';exact hu.2.2 i hi j hj (r.fV i j _ _ _ _ b hl Dw aY zP hF hF')
  .intro b hb;rcases fR.1 hb with hb|hb
   .obtain ⟨i,ob,g,hi,h⟩:=o1 b hb;exact⟨i,ob,g,by simp[mX,hi],h⟩
   .obtain ⟨i,ob,g,hi,h⟩:=o2 b hb;exact⟨i,ob,g,by simp[mX,hi],h⟩
end
def qM(w:World):Env:=⟨λb=>b<w.heap.size,λ_=>True,λ_ _=>False,λ_ _ _=>False,λ_ _ _ _ _=>False⟩
def pY:Env:=⟨λ_=>False,λ_=>True,λ_ _=>False,λ_ _ _=>False,λ_ _ _ _ _=>False⟩
def CB(n:Nat)(w:World)(fp:List Nat):Env:=⟨λb=>n<=b/\b<w.heap.size/\b∉fp,λ_=>True,λ_ _=>False,λ_ _ _=>False,λ_ _ _ _ _=>False⟩
def aBz(n:Nat)(w:World)(fp:List Nat):fG w pY w (CB n w fp):=
 ⟨λ_ h=>h.elim,λ_ _=>trivial,λ_ _ _ h=>h.elim,λ_ _ _ h=>h.elim,λ_ _ _ _ _ h=>h.elim⟩
def aN1{n:Nat}{w:World}{x:AV}{v:Value}{fp:List Nat}(h:R w pY x v fp):R w (CB n w fp) x v fp:=oV (aBz n w fp) _ _ _ (λ_ _=>rfl) h
def Ok(P:Program)[aG P](f:FuncId)(args:List AV)(r:AV):Prop:=
 ∀(w:World) (vs:List Value),aG.holds P w->Rc w (qM w) args vs []->
  Calls P f vs.toArray w λe w'=>∃v fp,e= .returned v/\R w' (CB w.heap.size w' fp) r v fp/\fp.Nodup/\
   (∀b∈fp,w.heap.size<=b/\b<w'.heap.size)/\w.heap.size<=w'.heap.size/\(∀b,b<w.heap.size->w'.heap[b]? =w.heap[b]?)/\nZ w w'
def Km:Tg->Option Tg
 | .mQ _=>none
 |_=>some .view
mutual
def arg(o:List aI):AV->AV
 | .obj i bY=>match AV.gB o i bY with
  |some ob=>if ob.box then .aB else .sl .view ob.n (lW (λ_=>some .view) false ob.fM)
  |none=> .aB
 | .ptr i bY idx off=>match AV.gB o i bY with
  |some ob=>match ob.fM[idx]? with
   |some e=> .iW .view (tJ Km false e) off
   |none=> .aB
  |none=> .aB
 | .agg c=> .agg (Du o c)
 | .iL c=> .iL (Du o c)
 | .int k n=> .int k n
 | .bool b=> .bool b
 | .str s=> .str s
 | .sl (.mQ i) n l=>match o[i]? with
  |some ob=>if ob.fT then .sl .view n (lW (λ_=>some .view) false l)else .aB
  |none=> .aB
 | .sl _ n l=> .sl .view n (lW (λ_=>some .view) false l)
 | .iW (.mQ i) c off=>match o[i]? with
  |some ob=>if ob.fT then .iW .view (tJ (λ_=>some .view) false c) off else .aB
  |none=> .aB
 | .iW _ c off=> .iW .view (tJ (λ_=>some .view) false c) off
 | .fn f c=> .fn f (Du o c)
 | .aB=> .aB
def Du(o:List aI):List AV->List AV
 |[]=>[]
 |x::xs=>arg o x::Du o xs
end
def Si{P:Program}[aG P]{B:gL P}{s:AS}{G:List CO}{a:Act}{w:World}(r:fZ B s G a w)(O:Nat->Prop)(hO:∀b,O b->b<w.heap.size):pG (λ_=>some .view) false (env B s.o G w).plain (qM w) O where
 own t e:=by obtain rfl:=cX e;exact⟨by simp,λb hb=>hO b hb⟩
 view t e:=by obtain rfl:=cX e;exact⟨rfl,λb hb=>rQ r hb⟩
 mQ i t e:=by obtain rfl:=cX e;exact⟨by simp,.inl trivial,λb hb=>hb.elim⟩
 hh h:=by cases h
 hl h:=by cases h
def zl{P:Program}[aG P]{B:gL P}{s:AS}{G:List CO}{a:Act}{w:World}(r:fZ B s G a w)(box:Bool)(O:Nat->Prop)(hO:∀b,O b->b<w.heap.size):pG Km false ((env B s.o G w).of box) (qM w) O where
 own t e:=by obtain rfl:=cX e;exact⟨by simp,λb hb=>hO b hb⟩
 view t e:=by obtain rfl:=cX e;exact⟨rfl,λb hb=>rQ r (by cases box<;>exact hb)⟩
 mQ i t e:=by cases e
 hh h:=by cases h
 hl h:=by cases h
def zn{P:Program}[aG P]{B:gL P}{s:AS}{G:List CO}{a:Act}{w:World}(r:fZ B s G a w)(g:Tg)(O:Nat->Prop)(hO:∀b,O b->b<w.heap.size):pG (λ_=>some .view) false ((env B s.o G w).sub g) (qM w).plain O:=by
 cases g with
 |own=>exact Si r O hO
 |view=>exact Si r O hO
 |mQ i=>exact
  {own:=λt e=>by obtain rfl:=cX e;exact⟨by simp,λb hb=>hO b hb⟩
   view:=λt e=>by obtain rfl:=cX e;exact⟨rfl,λb hb=>rQ r hb⟩
   mQ:=λj t e=>by obtain rfl:=cX e;refine⟨by simp,.inl trivial,λb hb=> ?_⟩;obtain⟨rfl,ob,g,hl,aY,hF,_⟩:=hb;exact(r.eB _ _ _ b hl aY hF).2
   hh:=λh=>by cases h
   hl:=λh=>by cases h}
def aEz{P:Program}[aG P]{B:gL P}{s:AS}{G:List CO}{a:Act}{w:World}(r:fZ B s G a w){g:Tg}{b:Nat}(h:(env B s.o G w).tg g b):b<w.heap.size:=by
 cases g with
 |own=>exact h.elim
 |view=>exact rQ r h
 |mQ i=>obtain⟨ob,g,hl,aY,hF,_⟩:=h;exact(r.eB _ _ _ b hl aY hF).2
def NQ{P:Program}[aG P]{B:gL P}{s:AS}{G:List CO}{a:Act}{w:World}(r:fZ B s G a w){g:Tg}{n:Nat}{l:List (List AV)}{v:Value}(hd:¬(env B s.o G w).dead g)(h:R w (env B s.o G w) (.sl g n l) v []):
  R w (qM w) (.sl .view n (lW (λ_=>some .view) false l)) v []:=by
 simp only[R,oD]at h⊢;rcases h with h|⟨x,cap,hv,hl,h⟩
 .exact absurd h.1 hd
 refine .inr ⟨x,cap,hv,hl,.inr (.inr ⟨by simp,trivial,?_⟩)⟩;rcases h with⟨_,rfl,_⟩|⟨_,b,off,C,ty,fz,sH,ha,hb,hz,h1,h2,h3,Jq,hr⟩|⟨hg,_,h⟩
 .exact .inl rfl
 .cases Jq
 .rcases h with rfl|⟨b,off,ha,ht,hr⟩
  .exact .inl rfl
  .exact .inr ⟨b,off,ha,aEz r ht,JD (zn r g (λ_=>False) (λ_ h=>h.elim)) _ _ _ _ _ (by simp) hr⟩
mutual
theorem aTi{P:Program}[aG P]{B:gL P}{s:AS}{G:List CO}{a:Act}{w:World}(r:fZ B s G a w):∀(av:AV) (v:Value),R w (env B s.o G w) av v []->R w (qM w) (arg s.o av) v []
 | .obj i bY,v,h=>by
  cases wF:AV.gB s.o i bY with
  |none=>simp[arg,wF,R]
  |some ob=>
   simp only[arg,wF];by_cases hb:ob.box=true
   .simp [hb,R]
   simp only[R]at h;obtain⟨_,ob',g,hl,_,hh,_⟩:=h;obtain⟨h1,h2,h3⟩:=mV wF;obtain rfl:=cX (hl.1.symm.trans h1);have hv:=hh h2 h3;obtain⟨fp,⟨dF,eQ⟩,hnd,hF⟩:=r.ok i _ g hl h2;have hb':ob'.box=false:=by simpa using hb
   rw[hb']at eQ;simp only[hb',cY,eW];simp only[R,oD];refine .inr ⟨g.a,g.cap,hv,⟨dF,by rcases eQ with h|⟨_,_,_,_,_,_,_,_,_,_,h,_⟩;simp[h.1];exact h⟩,.inr (.inr ⟨by simp,trivial,?_⟩)⟩;rcases eQ with⟨h5,_⟩|⟨b,off,C,e,fz,sH,ha,hbk,hz,k1,k2,k3,rfl,hr⟩
   .left;rw[h5];rfl
   .right;have hlt:∀x∈b::sH,x<w.heap.size:=λx hx=>(r.eB _ _ _ x hl h2 (hF x hx)).2
    exact⟨b,off,ha,hlt b (by simp),JD (Si r (λx=>x<w.heap.size) (λ_ h=>h)) _ _ _ _ sH (λx hx=>hlt x (by simp[hx])) hr⟩
 | .ptr i bY idx off,v,h=>by
  cases wF:AV.gB s.o i bY with
  |none=>simp[arg,wF,R]
  |some ob=>
   simp only[arg,wF];cases he:ob.fM[idx]? with
   |none=>simp[R]
   |some e=>
    simp only[R]at h⊢;obtain⟨_,ob',g,hl,_,hh,_⟩:=h;obtain⟨h1,h2,h3⟩:=mV wF;obtain rfl:=cX (hl.1.symm.trans h1);obtain⟨b,f,ha,hv⟩:=hh h2 h3;obtain⟨fp,⟨_,eQ⟩,hnd,hF⟩:=r.ok i _ g hl h2;have hlt:∀x∈fp,x<w.heap.size:=λx hx=>(r.eB _ _ _ x hl h2 (hF x hx)).2
    rcases eQ with⟨h5,_⟩|⟨b',f',C,ty,fz,sH,yM,hbk,hz,k1,k2,k3,rfl,hr⟩
    .rw [h5]at he;simp at he
    .rw [ha]at yM;simp only[eI,oS,pS]at yM;obtain⟨rfl,rfl⟩:=yM;obtain⟨f1,f2,f3,cs,rfl,hn,hc,hone,wK,_,_⟩:=Cy hr he;refine .inr ⟨trivial,b,f+idx*ob'.n,cs,?_,hlt b (by simp),hc,hone,?_⟩
     .rw [hv,pH]
     .have:=Ar (zl r ob'.box (λx=>x<w.heap.size) (λ_ h=>h)) e cs f2 (λx hx=>hlt x (by simp[hx])) wK;exact gQ (w:=w) (w':=w) (E:=qM w) (E':=(qM w).sub .view) ⟨λ_ h=>⟨h,rfl⟩,λ_ _=>trivial,λ_ _ _ h=>h.elim,λ_ _ _ h=>h.elim,λ_ _ _ _ _ h=>h.elim⟩ _ _ _ (by simp) this
 | .agg c,v,h=>by simp only[R,arg]at h⊢;obtain⟨cs,hv,hone,hr⟩:=h;exact⟨cs,hv,hone,NR r c cs hr⟩
 | .iL c,v,h=>by simp only[R,arg]at h⊢;obtain⟨cs,hv,hr⟩:=h;exact⟨cs,hv,NR r c cs hr⟩
 | .fn f c,v,h=>by simp only[R,arg]at h⊢;obtain⟨h1,cs,hv,hr⟩:=h;exact⟨trivial,cs,hv,NR r c cs hr⟩
 | .int k n,v,h=>by simpa [arg,R]using h
 | .bool b,v,h=>by simpa [arg,R]using h
 | .str x,v,h=>by simpa [arg,R]using h
 | .sl .own n l,v,h=>by simp only[arg];exact NQ r (g:= .own) (λh=>h) h
 | .sl .view n l,v,h=>by simp only[arg];exact NQ r (g:= .view) (λh=>h) h
 | .sl (.mQ i) n l,v,h=>by
  simp only[arg];cases ho:s.o[i]? with
  |none=>simp[R]
  |some ob=>
   simp only;by_cases aY:ob.fT=true
   .rw [eM aY];exact NQ r (g:= .mQ i) (λhd=>hd (λob' uF=>by rw[ho]at uF;obtain rfl:=cX uF;exact aY)) h
   .rw [eC aY];simp[R]
 | .iW .own c off,v,h=>by
  simp only[R]at h;rcases h with h|⟨_,b,o,cs,hv,ht,_⟩
  .exact h.1.elim
  .exact ht.elim
 | .iW .view c off,v,h=>by
  simp only[arg];simp only[R]at h⊢;rcases h with h|⟨_,b,o,cs,hv,ht,hcs,hone,hr⟩
  .exact h.1.elim
  .exact .inr ⟨trivial,b,o,cs,hv,aEz r ht,hcs,hone,Ar (zn r .view (λ_=>False) (λ_ h=>h.elim)) _ _ _ (by simp) hr⟩
 | .iW (.mQ i) c off,v,h=>by
  simp only[arg];cases ho:s.o[i]? with
  |none=>simp[R]
  |some ob=>
   simp only;by_cases aY:ob.fT=true
   .rw [eM aY];simp only[R]at h⊢;rcases h with h|⟨_,b,o,cs,hv,ht,hcs,hone,hr⟩
    .exact absurd (λob' uF=>by rw[ho]at uF;obtain rfl:=cX uF;exact aY) h.1
    .exact .inr ⟨trivial,b,o,cs,hv,aEz r ht,hcs,hone,Ar (zn r (.mQ i) (λ_=>False) (λ_ h=>h.elim)) _ _ _ (by simp) hr⟩
   .rw [eC aY];simp[R]
 | .aB,v,_=>by simp[arg,R]
theorem NR{P:Program}[aG P]{B:gL P}{s:AS}{G:List CO}{a:Act}{w:World}(r:fZ B s G a w):∀(c:List AV) (cs:List Value),Rc w (env B s.o G w) c cs []->Rc w (qM w) (Du s.o c) cs []
 |[],[],_=>by simp[Du,Rc]
 |[],_::_,h=>by simp[Rc]at h
 |_::_,[],h=>by simp[Rc]at h
 |x::xs,c::cs,h=>by
  simp only[Rc]at h;obtain⟨f1,f2,h1,h2,e⟩:=h;obtain⟨rfl,rfl⟩:f1=[]/\f2=[]:=by simpa using e
  simp only[Du,Rc];exact⟨[],[],aTi r x c h1,NR r xs cs h2,rfl⟩
end
mutual
def iA(q k:Nat):AV->AV×List aI
 | .sl .own n l=>(.obj k q,[⟨true,false,n,q,l⟩])
 | .agg c=>let p:=iE q k c;(.agg p.1,p.2)
 | .iL c=>let p:=iE q k c;(.iL p.1,p.2)
 |x=>(x,[])
def iE(q k:Nat):List AV->List AV×List aI
 |[]=>([],[])
 |x::xs=>let p:=iA q k x;let r:=iE q (k+p.2.length) xs;(p.1::r.1,p.2++r.2)
end
def nQ(q:Nat)(w:World)(E:Env)(k:Nat)(os:List aI)(fp:List Nat)(done:Env->Prop):Prop:=
 ∃Gs:List CO,Gs.length=os.length/\
  (∀j ob g,look os Gs j ob g->ob.fT=true/\ob.box=false/\ob.bY=q/\∃f,uH w E.plain ob.n ob.fM g.a g.cap f/\f.Nodup/\(∀b,g.F b↔b∈f)/\∀b∈f,b∈fp)/\
  (∀i j oi oj gi gj b,look os Gs i oi gi->look os Gs j oj gj->gi.F b->gj.F b->i=j)/\
  ∀E':Env,fG w E w E'->(∀j ob g,look os Gs j ob g->E'.H (k+j) q (.slice g.a ob.fM.length g.cap))->done E'
def nQ.none{q:Nat}{w:World}{E:Env}{k:Nat}{av:AV}{v:Value}(h:R w E av v []):nQ q w E k [] [] (λE'=>R w E' av v []):=
 ⟨[],rfl,λj ob g hl=>by simp[look]at hl,λi j oi oj gi gj b hl=>by simp[look]at hl,λE' hk _=>oV hk _ _ _ (by simp) h⟩
def nQ.append{q:Nat}{w:World}{E:Env}{k:Nat}{o1 o2:List aI}{f1 f2:List Nat}{d1 d2:Env->Prop}(h1:nQ q w E k o1 f1 d1)(h2:nQ q w E (k+o1.length) o2 f2 d2)(hn:(f1++f2).Nodup):
  nQ q w E k (o1++o2) (f1++f2) (λE'=>d1 E'/\d2 E'):=by
 obtain⟨G1,l1,a1,b1,c1⟩:=h1;obtain⟨G2,l2,a2,b2,c2⟩:=h2;have hd:=(lE.1 hn).2.2;refine⟨G1++G2,by simp[l1,l2],?_,?_,?_⟩
 .intro j ob g hl;rcases pE l1 hl with⟨_,h⟩|⟨_,h⟩
  .obtain ⟨x,y,y',f,z⟩:=a1 _ _ _ h;exact⟨x,y,y',f,z.1,z.2.1,z.2.2.1,λb hb=>pA _ (z.2.2.2 b hb)⟩
  .obtain ⟨x,y,y',f,z⟩:=a2 _ _ _ h;exact⟨x,y,y',f,z.1,z.2.1,z.2.2.1,λb hb=>tW _ (z.2.2.2 b hb)⟩
 .intro i j oi oj gi gj b hi hj Gl NS;rcases pE l1 hi with⟨_,h⟩|⟨hi',h⟩<;>rcases pE l1 hj with⟨_,h'⟩|⟨hj',h'⟩
  .exact b1 _ _ _ _ _ _ b h h' Gl NS
  .obtain ⟨_,_,_,f,z⟩:=a1 _ _ _ h;obtain⟨_,_,_,f',z'⟩:=a2 _ _ _ h';exact absurd rfl (hd b (z.2.2.2 b ((z.2.2.1 b).1 Gl)) b (z'.2.2.2 b ((z'.2.2.1 b).1 NS)))
  .obtain ⟨_,_,_,f,z⟩:=a2 _ _ _ h;obtain⟨_,_,_,f',z'⟩:=a1 _ _ _ h';exact absurd rfl (hd b (z'.2.2.2 b ((z'.2.2.1 b).1 NS)) b (z.2.2.2 b ((z.2.2.1 b).1 Gl)))
  .have:=b2 _ _ _ _ _ _ b h h' Gl NS;omega
 .intro E' hk hh;refine⟨c1 E' hk λj ob g hl=>hh j ob g (nC hl),c2 E' hk λj ob g hl=> ?_⟩;have:=hh _ ob g (oF l1 hl)
  rwa[<-pH]at this
mutual
theorem CE{q:Nat}{w:World}{E:Env}:∀(av:AV) (v:Value) (fp:List Nat) (k:Nat),R w E av v fp->fp.Nodup->nQ q w E k (iA q k av).2 fp (λE'=>R w E' (iA q k av).1 v [])
 | .sl .own n l,v,fp,k,h,hn=>by
  obtain⟨a,cap,hv,eQ⟩:=vU.1 h;refine⟨[⟨a,cap,λb=>b∈fp⟩],rfl,?_,?_,?_⟩
  .rintro j ob g ⟨h1,h2⟩;cases j with
   |zero=>simp[iA]at h1 h2;subst h1;subst h2;exact⟨rfl,rfl,rfl,fp,eQ,hn,λb=>Iff.rfl,λb hb=>hb⟩
   |succ j=>simp[iA]at h1
  .rintro i j oi oj gi gj b ⟨h1,_⟩ ⟨h2,_⟩ _ _;cases i<;>cases j<;>simp_all[iA]
  .intro E' _ hh;simp only[iA,R];have:=hh 0 ⟨true,false,n,q,l⟩ ⟨a,cap,λb=>b∈fp⟩ ⟨rfl,rfl⟩;rw[hv];exact⟨trivial,this⟩
 | .agg c,v,fp,k,h,hn=>by simp only[R]at h;obtain⟨cs,hv,hone,hr⟩:=h;obtain⟨Gs,a,b,c',d⟩:=EH c cs fp k hr hn;exact⟨Gs,a,b,c',λE' hk hh=>by simp only[iA,R];exact⟨cs,hv,hone,d E' hk hh⟩⟩
 | .iL c,v,fp,k,h,hn=>by simp only[R]at h;obtain⟨cs,hv,hr⟩:=h;obtain⟨Gs,a,b,c',d⟩:=EH c cs fp k hr hn;exact⟨Gs,a,b,c',λE' hk hh=>by simp only[iA,R];exact⟨cs,hv,d E' hk hh⟩⟩
 | .sl .view n l,v,fp,k,h,_=>by
  have hf:fp=[]:=by
   simp only[R]at h;rcases h with h|⟨_,_,_,_,h|h|h⟩
   .exact h.2
   .exact h.2.2.2
   .exact absurd h.1 (by simp)
   .exact h.2.1
  subst hf;exact nQ.none h
 | .sl (.mQ i) n l,v,fp,k,h,_=>by
  have hf:fp=[]:=by
   simp only[R]at h;rcases h with h|⟨_,_,_,_,h|h|h⟩
   .exact h.2
   .exact h.2.2.2
   .exact absurd h.1 (by simp)
   .exact h.2.1
  subst hf;exact nQ.none h
 | .int _ _,v,fp,k,h,_=>by have h':=h;simp only[R]at h';obtain⟨_,rfl⟩:=h';exact nQ.none h
 | .bool _,v,fp,k,h,_=>by have h':=h;simp only[R]at h';obtain⟨_,rfl⟩:=h';exact nQ.none h
 | .str _,v,fp,k,h,_=>by have h':=h;simp only[R]at h';obtain⟨_,rfl⟩:=h';exact nQ.none h
 | .iW _ _ _,v,fp,k,h,_=>by
  have hf:fp=[]:=by simp only[R]at h;rcases h with h|h;exact h.2;exact h.1
  subst hf;exact nQ.none h
 | .obj _ _,v,fp,k,h,_=>by have h':=h;simp only[R]at h';obtain⟨rfl,_⟩:=h';exact nQ.none h
 | .ptr _ _ _ _,v,fp,k,h,_=>by have h':=h;simp only[R]at h';obtain⟨rfl,_⟩:=h';exact nQ.none h
 | .fn _ _,v,fp,k,h,_=>by have h':=h;simp only[R]at h';obtain⟨rfl,_⟩:=h';exact nQ.none h
 | .aB,v,fp,k,h,_=>by have h':=h;simp only[R]at h';subst h';exact nQ.none h
theorem EH{q:Nat}{w:World}{E:Env}:∀(c:List AV) (cs:List Value) (fp:List Nat) (k:Nat),Rc w E c cs fp->fp.Nodup->nQ q w E k (iE q k c).2 fp (λE'=>Rc w E' (iE q k c).1 cs [])
 |[],[],fp,k,h,_=>by simp only[Rc]at h;subst h;exact⟨[],rfl,λj ob g hl=>by simp[look,iE]at hl,λi j oi oj gi gj b hl=>by simp[look,iE]at hl,λE' hk _=>by simp[iE,Rc]⟩
 |[],_::_,_,_,h,_=>by simp[Rc]at h
 |_::_,[],_,_,h,_=>by simp[Rc]at h
 |x::xs,c::cs,fp,k,h,hn=>by
  simp only[Rc]at h;obtain⟨f1,f2,h1,h2,rfl⟩:=h;have n1:=(lE.1 hn);have:=(CE x c f1 k h1 n1.1).append (EH xs cs f2 (k+(iA q k x).2.length) h2 n1.2.1) hn;obtain⟨Gs,a,b,c',d⟩:=this;exact⟨Gs,a,b,c',λE' hk hh=>by
   have:=d E' hk hh;simp only[iE,Rc];exact⟨[],[],this.1,this.2,rfl⟩⟩
end
def bV(P:Program)(f:FuncId):Bool:=
 match P.funcs[f]? with
 |some fn=> !(fn.name == "runtime.NumGoroutine")&&fn.body.isSome
 |none=>false
def vI{P:Program}[aG P]{f:FuncId}(h:bV P f=true)(args:Array Value)(w:World):(callFunc f args).run P w= .ok (.enter f args) w:=by
 unfold bV at h;split at h
 .rename_i fn hf;simp only[eK,AW]at h;cases hx:fn.body with
  |none=>simp[hx]at h
  |some c=>
   have jE:fn.name≠ "runtime.NumGoroutine" :=by simpa using h.1
   simp[callFunc,hf,jE,hx]
 .cases h
def AS.args(s:AS)(l:Array Operand):List AV:=l.toList.map s.ev
def uK{P:Program}[aG P]{B:gL P}{s:AS}{G:List CO}{a:Act}{w:World}(r:fZ B s G a w):∀l:List Operand,Rc w (env B s.o G w) (l.map s.ev) (l.map a.eval) []
 |[]=>by simp[Rc]
 |x::xs=>by simp only[oE,Rc];exact⟨[],[],r.ev x,uK r xs,rfl⟩
def AS.bW(s:AS)(d:Option Tmp)(r:AV):AS:=AS.put ⟨s.t,s.o++(iA 1 s.o.length r).2⟩ d (iA 1 s.o.length r).1
def fG.refl(w:World)(E:Env):fG w E w E:=⟨λ_ h=>⟨h,rfl⟩,λ_ h=>h,λ_ _ _ h=>⟨h,rfl⟩,λ_ _ _ h=>h,λ_ _ _ _ _ h=>h⟩
def fG.trans{w:World}{E E' E'':Env}(k:fG w E w E')(k':fG w E' w E''):fG w E w E'':=
 ⟨λb h=>⟨(k'.a b (k.a b h).1).1,rfl⟩,λi h=>k.v i (k'.v i h),λi b hv h=>⟨(k'.d i b hv (k.d i b (k'.v i hv) h).1).1,rfl⟩,λi v x h=>k'.h i v x (k.h i v x h),λi v j o x h=>k'.l i v j o x (k.l i v j o x h)⟩
mutual
def clean:AV->Bool
 | .sl .own _ l=>mW l
 | .sl _ _ l=>l.isEmpty
 | .iW _ _ _=>false
 | .agg c=>Ev c
 | .iL c=>Ev c
 | .fn _ c=>Ev c
 |_=>true
def Ev:List AV->Bool
 |[]=>true
 |x::xs=>clean x&&Ev xs
def mW:List (List AV)->Bool
 |[]=>true
 |x::xs=>Ev x&&mW xs
end
mutual
theorem Rs{w:World}{E E':Env}(hv:∀i,E'.V i->E.V i)(hd:E.D=λ_ _=>False)(hh:E.H=λ_ _ _=>False)(hl:E.L=λ_ _ _ _ _=>False):∀(av:AV) (v:Value) (fp:List Nat),clean av=true->R w E av v fp->R w E' av v fp
 | .sl .own n l,v,fp,hc,h=>by
  obtain⟨a,cap,rfl,dF,eQ⟩:=vU.1 h;refine vU.2 ⟨a,cap,rfl,dF,?_⟩;rcases eQ with h|⟨b,off,C,e,fz,sH,ha,hb,hz,h1,h2,h3,rfl,hr⟩
  .exact .inl h
  .exact .inr ⟨b,off,C,e,fz,sH,ha,hb,hz,h1,h2,h3,rfl,ZN (E:=E.plain) (E':=E'.plain) (λ_ _=>trivial) rfl rfl rfl l b off n sH (by simpa [clean]using hc) hr⟩
 | .sl .view n l,v,fp,hc,h=>by
  have:l=[]:=by simpa [clean]using hc
  subst this;simp only[R]at h⊢;rcases h with h|⟨a,cap,hv',Dw,h⟩
  .exact h.1.elim
  .exact .inr ⟨a,cap,hv',Dw,.inr (.inr ⟨by simp,by rcases h with h|h|h;exact h.2.2.2;exact absurd h.1 (by simp);exact h.2.1,.inl trivial⟩)⟩
 | .sl (.mQ i) n l,v,fp,hc,h=>by
  have:l=[]:=by simpa [clean]using hc
  subst this;simp only[R]at h⊢;rcases h with h|⟨a,cap,hv',Dw,h⟩
  .exact .inl ⟨λhd=>h.1 (hv i hd),h.2⟩
  .exact .inr ⟨a,cap,hv',Dw,.inr (.inr ⟨by simp,by rcases h with h|h|h;exact h.2.2.2;exact absurd h.1 (by simp);exact h.2.1,.inl trivial⟩)⟩
 | .int _ _,_,_,_,h=>by simpa [R]using h
 | .bool _,_,_,_,h=>by simpa [R]using h
 | .str _,_,_,_,h=>by simpa [R]using h
 | .iW _ _ _,_,_,hc,_=>by simp[clean]at hc
 | .obj _ _,_,_,_,h=>by simp only[R,hh]at h;exact h.2.elim
 | .ptr _ _ _ _,_,_,_,h=>by simp only[R,hl]at h;exact h.2.elim
 | .agg c,v,fp,hc,h=>by simp only[R]at h⊢;obtain⟨cs,h1,h2,h3⟩:=h;exact⟨cs,h1,h2,EI hv hd hh hl c cs fp (by simpa [clean]using hc) h3⟩
 | .iL c,v,fp,hc,h=>by simp only[R]at h⊢;obtain⟨cs,h1,h3⟩:=h;exact⟨cs,h1,EI hv hd hh hl c cs fp (by simpa [clean]using hc) h3⟩
 | .fn f c,v,fp,hc,h=>by simp only[R]at h⊢;obtain⟨h0,cs,h1,h3⟩:=h;exact⟨h0,cs,h1,EI hv hd hh hl c cs [] (by simpa [clean]using hc) h3⟩
 | .aB,_,_,_,h=>by simpa [R]using h
theorem EI{w:World}{E E':Env}(hv:∀i,E'.V i->E.V i)(hd:E.D=λ_ _=>False)(hh:E.H=λ_ _ _=>False)(hl:E.L=λ_ _ _ _ _=>False):∀(c:List AV) (cs:List Value) (fp:List Nat),Ev c=true->Rc w E c cs fp->Rc w E' c cs fp
 |[],[],_,_,h=>by simpa [Rc]using h
 |[],_::_,_,_,h=>by simp[Rc]at h
 |_::_,[],_,_,h=>by simp[Rc]at h
 |x::xs,c::cs,fp,hc,h=>by simp only[Rc]at h⊢;simp only[Ev,eK]at hc;obtain⟨f1,f2,h1,h2,h3⟩:=h;exact⟨f1,f2,Rs hv hd hh hl x c f1 hc.1 h1,EI hv hd hh hl xs cs f2 hc.2 h2,h3⟩
theorem ZN{w:World}{E E':Env}(hv:∀i,E'.V i->E.V i)(hd:E.D=λ_ _=>False)(hh:E.H=λ_ _ _=>False)(hl:E.L=λ_ _ _ _ _=>False):∀(l:List (List AV)) (b off n:Nat) (fp:List Nat),mW l=true->Rr w E l b off n fp->Rr w E' l b off n fp
 |[],_,_,_,_,_,h=>by simpa [Rr]using h
 |e::es,b,off,n,fp,hc,h=>by simp only[Rr]at h⊢;simp only[mW,eK]at hc;obtain⟨cs,f1,f2,h1,h2,h3,h4,h5,h6⟩:=h;exact⟨cs,f1,f2,h1,h2,h3,EI hv hd hh hl e cs f1 hc.1 h4,ZN hv hd hh hl es b (off+n) n f2 hc.2 h5,h6⟩
end
def OkN(P:Program)(f:FuncId)(args:List AV)(r:AV):Prop:=
 ∀(w:World) (vs:List Value),Rc w (qM w) args vs []->∃v w',(callFunc f vs.toArray).run P w= .ok (.value v) w'/\w'.heap=w.heap/\nZ w w'/\∀w'' E,R w'' E r v []
def aB0(f:Operand)(args:Array Operand)(NL:Array TypeId){g:FuncId}{cap:List AV}{rr:AV}(hf:s.ev f= .fn g cap)(hc:bV P g=true)
  (rP:Ok P g (Du s.o (s.args args++cap)) rr):
  Step P B ⟨dst,.call {callee:= .value f,args:=args,argTypes:=NL},ty,pos,after,gd⟩ s (s.bW dst rr):=by
 rintro a w next Q ⟨G,r⟩ hn
 have h1:=r.ev f;rw[hf]at h1;simp only[R]at h1;obtain⟨_,cs,hv,uJ⟩:=h1;have hargs:Rc w (env B s.o G w) (s.args args++cap) (args.toList.map a.eval++cs) []:=by have:=mJ (uK r args.toList) uJ;simpa [AS.args]using this
 have EJ:=rP w _ r.holds (NR r _ _ hargs);unfold Oper.wp;have hrun:(execOp a.eval ⟨dst,.call {callee:= .value f,args:=args,argTypes:=NL},ty,pos,after,gd⟩).run P w= .ok (.enter g (args.toList.map a.eval++cs).toArray) w:=by
  have e:args.map a.eval++cs.toArray=(args.toList.map a.eval++cs).toArray:=by apply CH;simp
  simp[execOp,resolve,hv,Deferred.ofValue,invoke,vI hc,e]
 rw[hrun,BY];refine EJ.mono λe w' h=> ?_
 obtain⟨v,fp,rfl,QF,hnd,hfr,hsz,mI,BG⟩:=h;refine hn _ _ ?_;obtain⟨Gs,dF,zL,hap,rA⟩:=CE (q:=1) rr v fp s.o.length QF hnd;have kn:fG w' (CB w.heap.size w' fp) w' (env B (s.o++(iA 1 s.o.length rr).2) (G++Gs) w'):=by
  refine⟨λb hb=>⟨⟨.inr ⟨iS r.size hb.1,hb.2.1⟩,λi ob g hl aY hF=> ?_⟩,rfl⟩,λ_ _=>trivial,λ_ _ _ h=>h.elim,λ_ _ _ h=>h.elim,λ_ _ _ _ _ h=>h.elim⟩;rcases pE r.len hl with⟨_,h⟩|⟨_,h⟩
  .have:=(r.eB _ _ _ b h aY hF).2;have:=hb.1;omega
  .obtain ⟨_,_,_,f,_,_,h3,h4⟩:=zL _ _ _ h;exact hb.2.2 (h4 _ ((h3 _).1 hF))
 have hadd:=r.add (iA 1 s.o.length rr).2 Gs w' dF hsz mI (λj ob g b hl _ hF=>by
   obtain⟨_,_,_,f,_,_,h3,h4⟩:=zL _ _ _ hl;exact hfr _ (h4 _ ((h3 _).1 hF))) (λi j oi oj gi gj b hi hj _ _ Gl NS=>hap _ _ _ _ _ _ b hi hj Gl NS) (λk j ob g hl _=>by
   obtain⟨h1,h2,_,f,eQ,h3,h4,h5⟩:=zL _ _ _ hl;refine⟨f,?_,h3,λb hb=>(h4 b).2 hb⟩;have:=eQ.keeps kn.plain (λ_ _=>rfl);rw[h2];exact this) BG
 refine⟨G++Gs,hadd.1.put dst ?_⟩;refine rA _ kn λj ob g hl=> ?_
 obtain⟨_,_,h3,_⟩:=zL _ _ _ hl;exact⟨ob,g,oF r.len hl,AI h3.symm,λ_ _=>rfl,λh=>absurd h (by decide)⟩
def fZ.heap{G:List CO}{a:Act}{w w':World}(r:fZ B s G a w)(hh:w'.heap=w.heap)(same:nZ w w'):fZ B s G a w':=by
 have hE:env B s.o G w'=env B s.o G w:=by unfold env;rw[hh]
 have k:fG w (env B s.o G w) w' (env B s.o G w'):=by rw[hE];exact⟨λb h=>⟨h,by rw[hh]⟩,λ_ h=>h,λ_ _ _ h=>⟨h,by rw[hh]⟩,λ_ _ _ h=>h,λ_ _ _ _ _ h=>h⟩
 have:=r.next (o':=s.o) (G':=G) (w':=w') k r.len (λi ob g hl aY=>(r.ok i ob g hl aY).keeps k (λ_ _=>by rw[hh])) r.fV
  (λi ob g b hl aY hF=>by have:=r.eB i ob g b hl aY hF;rw[hh];exact this) (by rw[hh];exact eJ _) (λ_ _ _=>by rw[hh]) same
 exact this
def ZO(f:Operand)(args:Array Operand)(NL:Array TypeId){g:FuncId}{cap:List AV}{rr:AV}(hf:s.ev f= .fn g cap)
  (rP:OkN P g (Du s.o (s.args args++cap)) rr):
  Step P B ⟨dst,.call {callee:= .value f,args:=args,argTypes:=NL},ty,pos,after,gd⟩ s (s.put dst rr):=by
 rintro a w next Q ⟨G,r⟩ hn
 have h1:=r.ev f;rw[hf]at h1;simp only[R]at h1;obtain⟨_,cs,hv,uJ⟩:=h1;have hargs:Rc w (env B s.o G w) (s.args args++cap) (args.toList.map a.eval++cs) []:=by have:=mJ (uK r args.toList) uJ;simpa [AS.args]using this
 obtain⟨v,w',ZP,hh,mI,hR⟩:=rP w _ (NR r _ _ hargs);unfold Oper.wp;have hrun:(execOp a.eval ⟨dst,.call {callee:= .value f,args:=args,argTypes:=NL},ty,pos,after,gd⟩).run P w= .ok (.value v) w':=by
  have e:args.map a.eval++cs.toArray=(args.toList.map a.eval++cs).toArray:=by apply CH;simp
  simp[execOp,resolve,hv,Deferred.ofValue,invoke,e,ZP]
 rw[hrun,Oper.upon_value];exact hn _ _ ⟨G,(r.heap hh mI).put dst (hR _ _)⟩
end
end Go.Aw
