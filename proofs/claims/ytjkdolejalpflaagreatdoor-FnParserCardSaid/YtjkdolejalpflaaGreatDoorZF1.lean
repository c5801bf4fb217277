/- Proved here: steps towards the statement of this claim. No condition. -/
import Derived.WalkKit
set_option linter.all false
namespace Go.Aw
open List
def aE:= @List.getElem?_eq_getElem
def cA:= @List.getElem?_eq_some_iff
def cD:= @Option.some.inj
def cG:= @List.set_cons_zero
def cH:= @List.set_cons_succ
def cJ:= @Bool.false_eq_true
def cM:= @List.cons_append
def cQ:= @Option.some.injEq
def cU:= @if_neg
def cW:= @List.nil_append
def cX:= @Nat.le_refl
def cY:= @List.append_nil
def eA:= @if_pos
def eC:= @Bool.and_eq_true
def eE:= @List.length_cons
def eI:= @if_true
def eJ:= @List.length_append
def eK:= @if_false
def eL:= @List.take_of_length_le
def eM:= @cond_false
def eN:= @List.take_succ_eq_append_getElem
def eR:= @List.length_nil
def eS:= @Bool.and_eq_true_iff
def eV:= @Array.getD_eq_getD_getElem?
def eW:= @cond_true
def fL:= @Go.run_underlying
def fN:= @Go.World.cell?_setCell_other
def fR:= @List.mem_append
def fS:= @Nat.lt_of_lt_of_le
def fW:= @Nat.le_trans
def fX:= @Int.eq_ofNat_of_zero_le
def fY:= @List.nodup_append
def gC:= @Bool.exists_bool
def gE:= @Nat.zero_add
def gO:= @List.getElem?_set_ne
def gR:= @List.all_eq_true
def gS:= @decide_eq_true_eq
def hH:= @Nat.mul_le_mul_right
def hM:= @List.eq_nil_of_length_eq_zero
def hU:= @List.getElem?_append_right
def hY:= @List.nodup_cons
def iS:= @Go.Result.andThen_ok
def kO:= @List.take_succ_cons
def lA:= @Go.Addr.mk.injEq
def lB:= @List.replicate_succ
def lE:= @List.mem_cons
def lO:= @List.getD_eq_getElem?_getD
def lP:= @List.length_filter_le
def lR:= @Option.map_some
def mA:= @Nat.add_assoc
def mB:= @List.drop_eq_getElem_cons
def mC:= @Go.Sem.run_bind
def mL:= @List.getElem_mem
def mN:= @and_true
def mS:= @List.map_cons
def mT:= @List.take_append_drop
def nB:= @List.getElem?_append_left
def nF:= @List.getElem?_set_self
def oA:= @Go.World.cell?_setCell_same
def oB:= @List.mem_of_getElem?
def oE:= @Nat.add_mul
def oR:= @Array.getElem?_eq_getElem
def oS:= @Nat.add_zero
def oT:= @List.map_append
def oX:= @Prod.mk.injEq
def oY:= @List.flatten_cons
def pA:= @List.mem_append_left
def pB:= @List.mem_singleton
def pC:= @List.count_le_length
def pD:= @Option.getD_some
def pH:= @List.getElem?_eq_none
def pL:= @List.getElem?_eq_none_iff
def pN:= @List.length_take
def pP:= @decide_eq_true
def pS:= @List.Sublist.refl
def pT:= @List.mem_append_right
def pZ:= @decide_eq_decide
def qS:= @decide_eq_false_iff_not
def rB:= @Nat.le_of_eq
def rI:= @Array.getElem?_append_left
def rK:= @Int.toNat_natCast
def rL:= @Array.getElem?_eq_some_iff
def rN:= @List.replicate_zero
def rS:= @Int.tmod_eq_emod_of_nonneg
def sA:= @Classical.byContradiction
def sB:= @Option.bind_some
def sC:= @List.take_zero
def sE:= @List.getElem?_cons_succ
def sL:= @List.getElem?_cons_zero
def sR:= @Go.Sem.run_pure
def sX:= @Ne.symm
def sY:= @decide_eq_false
def tA:= @Go.Value.pointer.injEq
def tB:= @List.getElem?_map
def tD:= @List.append_assoc
def tE:= @Option.map_eq_some_iff
def tG:= @List.length_drop
def tI:= @List.drop_drop
def tM:= @List.set_append_right
def tP:= @List.eq_nil_or_concat
def tR:= @Array.toList_setIfInBounds
def tU:= @Go.Oper.upon_enter
def tW:= @Bool.or_eq_true
def vA:= @Go.World.cell?_setCells_out
def wA:= @Option.isSome_iff_exists
def xF:= @Go.World.cell?_setCells_in
def yW:= @Go.IntKind.wrap_i64
def zE:= @List.length_pos_iff
def An:= @decide_true
def As:= @List.length_map
def At:= @Nat.lt_or_ge
def Ax:= @Nat.succ_mul
def AD:= @List.mem_of_mem_drop
def AE:= @List.mem_of_mem_take
def AF:= @List.mem_cons_of_mem
def AG:= @UInt8.toNat_inj
def AH:= @Bool.true_and
def AI:= @Bool.and_eq_false_iff
def AK:= @List.drop_of_length_le
def AM:= @Array.ext'
def AN:= @List.mem_of_find?_eq_some
def AT:= @Go.calls_of_wp
def AW:= @List.drop_succ_cons
def Bk:= @Nat.sub_self
def Bm:= @Array.mapM_eq_mapM_toList
def Bs:= @List.eq_nil_iff_forall_not_mem
def Bx:= @beq_eq_false_iff_ne
def By:= @List.getElem?_take
def BE:= @Array.getElem?_replicate
def BT:= @UInt8.toNat.inj
def BW:= @Bool.eq_iff_iff
def BY:= @Go.grownCap_le_maxLen
def Cd:= @List.mem_filter
def Cl:= @Array.all_eq_true'
def Cp:= @List.take_length
def CA:= @Classical.not_not
def CC:= @Bool.not_eq_true'
def CD:= @List.all_cons
def CH:= @congrArg
def CI:= @UInt8.toNat_lt
def CM:= @List.ext_getElem?
def CN:= @Go.wp_mono
def CT:= @Bool.and_self
def Dd:= @List.not_mem_nil
def Dg:= @Nat.zero_mul
def Ds:= @and_assoc
theorem aA{a b:Prop}(h:a)(k:b):a/\b:=⟨h,k⟩
inductive Tg where
  | own
  | view
  | iF (i:Nat)
inductive AV where
  | int (k:IntKind) (n:Int)
  | bool (b:Bool)
  | str (s:List UInt8)
  | sl (g:Tg) (n:Nat) (l:List (List AV))
  | eF (g:Tg) (c:List AV) (off:Nat)
  | obj (i ver:Nat)
  | ptr (i ver idx off:Nat)
  | agg (c:List AV)
  | fH (c:List AV)
  | fn (f:FuncId) (c:List AV)
  | undef
instance:Inhabited AV := ⟨.undef⟩
structure Env where
  A:Nat -> Prop
  V:Nat -> Prop
  D:Nat -> Nat -> Prop
  H:Nat -> Nat -> Value -> Prop
  L:Nat -> Nat -> Nat -> Nat -> Value -> Prop
def Env.tg(E:Env):Tg->Nat->Prop
 | .own,_=>False
 | .view,b=>E.A b
 | .iF i,b=>E.D i b
def Env.dead(E:Env):Tg->Prop
 | .iF i=>¬E.V i
 |_=>False
def Env.plain(E:Env):Env where
 A:=E.A
 V _:=True
 D _ _:=False
 H _ _ _:=False
 L _ _ _ _ _:=False
def Env.sub(E:Env):Tg->Env
 | .iF i=>{E.plain with D:=λj b=>j=i/\E.D i b}
 |_=>E.plain
def bA(w:World)(b off:Nat)(cs:List Value):Prop:=∀j v,cs[j]? =some v->w.cell? ⟨b,off+j,none⟩=some v
mutual
def R(w:World): Env -> AV -> Value -> List Nat -> Prop
  | _, .int k n, v, fp => v = .int k n /\ fp = []
  | _, .bool b, v, fp => v = .bool b /\ fp = []
  | _, .str s, v, fp => v = .string ⟨s.toArray⟩ /\ fp = []
  | E, .sl g n l, v, fp => (E.dead g /\ fp = []) \/ ∃ a cap, v = .slice a l.length cap /\ (l.length <= maxLen /\ l.length <= cap) /\
      ((g = .own /\ l = [] /\ cap = 0 /\ fp = []) \/
       (g = .own /\ ∃ b off C e fz nA, a = some ⟨b, off, none⟩ /\ w.heap[b]? = some (.cells C e fz) /\ ((C.size <= fz.1 /\ n = 1) \/ fz.2 = 0) /\
          off+cap*n <= C.size /\ l.length <= cap /\ cap <= maxLen /\ fp = b :: nA /\ Rr w (E.sub g) l b off n nA) \/
       (g ≠ .own /\ fp = [] /\ (l = [] \/ ∃ b off, a = some ⟨b, off, none⟩ /\ E.tg g b /\ Rr w (E.sub g) l b off n [])))
  | E, .eF g c off, v, fp => (E.dead g /\ fp = []) \/ fp = [] /\ ∃ b o cs, v = .pointer (some ⟨b, o+off, none⟩) /\ E.tg g b /\ bA w b o cs /\ (∀ x ∈ cs, x.oneCell' = true) /\ Rc w (E.sub g) c cs []
  | E, .obj i ver, v, fp => fp = [] /\ E.H i ver v
  | E, .ptr i ver idx off, v, fp => fp = [] /\ E.L i ver idx off v
  | E, .agg c, v, fp => ∃ cs:List Value, v = .agg cs.toArray /\ (∀ x ∈ cs, x.oneCell' = true) /\ Rc w E c cs fp
  | E, .fH c, v, fp => ∃ cs:List Value, v = .tuple cs.toArray /\ Rc w E c cs fp
  | E, .fn f c, v, fp => fp = [] /\ ∃ cs:List Value, v = .func (.func f) #[] cs.toArray /\ Rc w E c cs []
  | _, .undef, _, fp => fp = []
def Rc(w:World): Env -> List AV -> List Value -> List Nat -> Prop
  | _, [], [], fp => fp = []
  | E, x :: xs, c :: cs, fp => ∃ f1 f2, R w E x c f1 /\ Rc w E xs cs f2 /\ fp = f1 ++ f2
  | _, _, _, _ => False
def Rr(w:World): Env -> List (List AV) -> Nat -> Nat -> Nat -> List Nat -> Prop
  | _, [], _, _, _, fp => fp = []
  | E, e :: es, b, off, n, fp => ∃ cs f1 f2, cs.length = n /\ bA w b off cs /\ (∀ x ∈ cs, x.oneCell' = true) /\ Rc w E e cs f1 /\ Rr w E es b (off+n) n f2 /\ fp = f1 ++ f2
end
theorem bA.same{w w':World}{b off:Nat}{cs:List Value}(h:bA w b off cs)(hb:w'.heap[b]? =w.heap[b]?):bA w' b off cs:=by intro j v hv;have:=h j v hv;simpa [World.cell?,hb]using this
structure bR(w:World)(E:Env)(w':World)(E':Env): Prop where
  a:∀ b, E.A b -> E'.A b /\ w'.heap[b]? = w.heap[b]?
  v:∀ i, E'.V i -> E.V i
  d:∀ i b, E'.V i -> E.D i b -> E'.D i b /\ w'.heap[b]? = w.heap[b]?
  h:∀ i v x, E.H i v x -> E'.H i v x
  l:∀ i v j o x, E.L i v j o x -> E'.L i v j o x
theorem bR.tg{w w':World}{E E':Env}(k:bR w E w' E'){g:Tg}{b:Nat}(h:E.tg g b)(hd:¬E'.dead g):E'.tg g b/\w'.heap[b]? =w.heap[b]?:=by
 cases g with
 |own=>exact h.elim
 |view=>exact k.a b h
 |iF i=>exact k.d i b (CA.1 hd) h
theorem bR.dead{w w':World}{E E':Env}(k:bR w E w' E'){g:Tg}(h:E.dead g):E'.dead g:=by
 cases g with
 |own=>exact h
 |view=>exact h
 |iF i=>exact λhv=>h (k.v i hv)
theorem bR.plain{w w':World}{E E':Env}(k:bR w E w' E'):bR w E.plain w' E'.plain:=
 ⟨k.a,λ_ _=>trivial,λ_ _ _ h=>h.elim,λ_ _ _ h=>h.elim,λ_ _ _ _ _ h=>h.elim⟩
theorem bR.sub{w w':World}{E E':Env}(k:bR w E w' E')(g:Tg)(hd:¬E'.dead g):bR w (E.sub g) w' (E'.sub g):=by
 cases g with
 |own=>exact k.plain
 |view=>exact k.plain
 |iF i=>exact⟨k.a,λ_ _=>trivial,λj b _ h=>⟨⟨h.1,(k.d i b (CA.1 hd) h.2).1⟩,(k.d i b (CA.1 hd) h.2).2⟩,λ_ _ _ h=>h.elim,λ_ _ _ _ _ h=>h.elim⟩
mutual
theorem jS{w w':World}{E E':Env}(k:bR w E w' E'):∀(av:AV) (v:Value) (fp:List Nat),(∀b∈fp,w'.heap[b]? =w.heap[b]?)->R w E av v fp->R w' E' av v fp
 | .int _ _,_,_,_,h=>by simpa [R]using h
 | .bool _,_,_,_,h=>by simpa [R]using h
 | .str _,_,_,_,h=>by simpa [R]using h
 | .sl g n l,v,fp,hf,h=>by
  simp only[R]at h⊢;rcases h with h|⟨a,cap,hv,hl,h⟩
  .exact .inl ⟨k.dead h.1,h.2⟩
  by_cases hd:E'.dead g
  .refine .inl ⟨hd,?_⟩;rcases h with h|⟨hg,_⟩|⟨_,h,_⟩
   .exact h.2.2.2
   .subst hg;exact hd.elim
   .exact h
  refine .inr ⟨a,cap,hv,hl,?_⟩;rcases h with h|⟨hg,b,off,C,e,fz,nA,ha,hb,hz,h1,h2,h3,Ec,hr⟩|⟨hg,Ec,h⟩
  .exact .inl h
  .subst Ec;refine .inr (.inl ⟨hg,b,off,C,e,fz,nA,ha,?_,hz,h1,h2,h3,rfl,?_⟩)
   .rw [hf b (by simp)];exact hb
   .exact kP (k.sub g hd) l b off n nA (hf b (by simp)) (λx hx=>hf x (by simp[hx])) hr
  .refine .inr (.inr ⟨hg,Ec,?_⟩);rcases h with h|⟨b,off,ha,ht,hr⟩
   .exact .inl h
   .have:=k.tg ht hd;exact .inr ⟨b,off,ha,this.1,kP (k.sub g hd) l b off n [] this.2 (by simp) hr⟩
 | .eF g c off,v,fp,_,h=>by
  simp only[R]at h⊢;rcases h with h|⟨Ec,b,o,cs,hv,ht,hcs,hc,hr⟩
  .exact .inl ⟨k.dead h.1,h.2⟩
  by_cases hd:E'.dead g
  .exact .inl ⟨hd,Ec⟩
  have:=k.tg ht hd;exact .inr ⟨Ec,b,o,cs,hv,this.1,hcs.same this.2,hc,dC (k.sub g hd) c cs [] (by simp) hr⟩
 | .obj i ver,v,fp,_,h=>by simp only[R]at h⊢;exact⟨h.1,k.h _ _ _ h.2⟩
 | .ptr i ver idx off,v,fp,_,h=>by simp only[R]at h⊢;exact⟨h.1,k.l _ _ _ _ _ h.2⟩
 | .agg c,v,fp,hf,h=>by simp only[R]at h⊢;obtain⟨cs,hv,hc,hr⟩:=h;exact⟨cs,hv,hc,dC k c cs fp hf hr⟩
 | .fH c,v,fp,hf,h=>by simp only[R]at h⊢;obtain⟨cs,hv,hr⟩:=h;exact⟨cs,hv,dC k c cs fp hf hr⟩
 | .fn f c,v,fp,_,h=>by simp only[R]at h⊢;obtain⟨Ec,cs,hv,hr⟩:=h;exact⟨Ec,cs,hv,dC k c cs [] (by simp) hr⟩
 | .undef,_,_,_,h=>by simpa [R]using h
theorem dC{w w':World}{E E':Env}(k:bR w E w' E'):∀(c:List AV) (cs:List Value) (fp:List Nat),(∀b∈fp,w'.heap[b]? =w.heap[b]?)->Rc w E c cs fp->Rc w' E' c cs fp
 |[],[],_,_,h=>by simpa [Rc]using h
 |[],_::_,_,_,h=>by simp[Rc]at h
 |_::_,[],_,_,h=>by simp[Rc]at h
 |x::xs,c::cs,fp,hf,h=>by simp only[Rc]at h⊢;obtain⟨f1,f2,h1,h2,rfl⟩:=h;exact⟨f1,f2,jS k x c f1 (λb hb=>hf b (by simp[hb])) h1,dC k xs cs f2 (λb hb=>hf b (by simp[hb])) h2,rfl⟩
theorem kP{w w':World}{E E':Env}(k:bR w E w' E'):∀(l:List (List AV)) (b off n:Nat) (fp:List Nat),w'.heap[b]? =w.heap[b]?->(∀b∈fp,w'.heap[b]? =w.heap[b]?)->Rr w E l b off n fp->Rr w' E' l b off n fp
 |[],_,_,_,_,_,_,h=>by simpa [Rr]using h
 |e::es,b,off,n,fp,hb,hf,h=>by simp only[Rr]at h⊢;obtain⟨cs,f1,f2,hn,hcs,hc,h1,h2,rfl⟩:=h;exact⟨cs,f1,f2,hn,hcs.same hb,hc,dC k e cs f1 (λb hb=>hf b (by simp[hb])) h1,kP k es b (off+n) n f2 hb (λb hb=>hf b (by simp[hb])) h2,rfl⟩
end
def AV.kept(h:Bool)(x:AV):AV:=if h then x else .undef
mutual
def rt(f:Tg->Option Tg)(h:Bool):AV->AV
 | .int k n=> .int k n
 | .bool b=> .bool b
 | .str s=> .str s
 | .sl g n l=>match f g with
  |some g'=> .sl g' n (iL f h l)
  |none=> .undef
 | .eF g c off=>match f g with
  |some g'=> .eF g' (pM f h c) off
  |none=> .undef
 | .obj i v=>AV.kept h (.obj i v)
 | .ptr i v j o=>AV.kept h (.ptr i v j o)
 | .agg c=> .agg (pM f h c)
 | .fH c=> .fH (pM f h c)
 | .fn g c=> .fn g (pM f h c)
 | .undef=> .undef
def pM(f:Tg->Option Tg)(h:Bool):List AV->List AV
 |[]=>[]
 |x::xs=>rt f h x::pM f h xs
def iL(f:Tg->Option Tg)(h:Bool):List (List AV)->List (List AV)
 |[]=>[]
 |x::xs=>pM f h x::iL f h xs
end
theorem jD(f:Tg->Option Tg)(h:Bool):∀l,(iL f h l).length=l.length
 |[]=>rfl
 |_::xs=>by simp[iL,jD f h xs]
structure jX(f:Tg -> Option Tg)(h:Bool)(E E':Env)(O:Nat -> Prop): Prop where
  own:∀ g, f .own = some g -> g ≠ .own /\ ∀ b, O b -> E'.tg g b
  view:∀ g, f .view = some g -> g = .view /\ ∀ b, E.A b -> E'.A b
  iF:∀ i g, f (.iF i) = some g -> g ≠ .own /\ (E.V i \/ E'.dead g) /\ ∀ b, E.D i b -> E'.tg g b
  hh:h = true -> ∀ i v x, E.H i v x -> E'.H i v x
  hl:h = true -> ∀ i v j o x, E.L i v j o x -> E'.L i v j o x
theorem jX.ne{f:Tg->Option Tg}{h:Bool}{E E':Env}{O:Nat->Prop}(k:jX f h E E' O){g g':Tg}(e:f g=some g'):g'≠ .own:=by
 cases g with
 |own=>exact(k.own _ e).1
 |view=>rw[(k.view _ e).1];simp
 |iF i=>exact(k.iF i _ e).1
theorem jX.tg{f:Tg->Option Tg}{h:Bool}{E E':Env}{O:Nat->Prop}(k:jX f h E E' O){g g':Tg}{b:Nat}(e:f g=some g')(ht:E.tg g b):E'.tg g' b:=by
 cases g with
 |own=>exact ht.elim
 |view=>rw[(k.view _ e).1];exact(k.view _ e).2 b ht
 |iF i=>exact(k.iF i _ e).2.2 b ht
theorem jX.dead{f:Tg->Option Tg}{h:Bool}{E E':Env}{O:Nat->Prop}(k:jX f h E E' O){g g':Tg}(e:f g=some g')(hd:E.dead g):E'.dead g':=by
 cases g with
 |own=>exact hd.elim
 |view=>exact hd.elim
 |iF i=>exact(k.iF i _ e).2.1.resolve_left hd
theorem jX.sub{f:Tg->Option Tg}{h:Bool}{E E':Env}{O:Nat->Prop}(k:jX f h E E' O){g g':Tg}(e:f g=some g')(hd:¬E.dead g)
  {O':Nat->Prop} (ho:∀b,O' b->g= .own/\O b):jX f h (E.sub g) (E'.sub g') O' where
 own g2 e2:=⟨(k.own g2 e2).1,λb hb=>by
  obtain⟨rfl,hO⟩:=ho b hb;rw[e]at e2;obtain rfl:=cD e2;have:=(k.own _ e).2 b hO;cases g' with
  |own=>exact this.elim
  |view=>exact this
  |iF i=>exact⟨rfl,this⟩⟩
 view g2 e2:=⟨(k.view g2 e2).1,λb hA=>by
  have h1:=(k.view g2 e2).2 b (by cases g<;>exact hA);cases g'<;>exact h1⟩
 iF i g2 e2:=by
  refine⟨(k.iF i g2 e2).1,.inl (by cases g<;>trivial),λb hD=> ?_⟩;cases g with
  |own=>exact hD.elim
  |view=>exact hD.elim
  |iF j=>
   obtain⟨rfl,hD⟩:=hD;rw[e]at e2;obtain rfl:=cD e2;have:=(k.iF _ _ e).2.2 b hD;cases g' with
   |own=>exact this.elim
   |view=>exact this
   |iF i=>exact⟨rfl,this⟩
 hh _ i v x hx:=by cases g<;>exact hx.elim
 hl _ i v j o x hx:=by cases g<;>exact hx.elim
mutual
theorem yc{w:World}{f:Tg->Option Tg}{h:Bool}{E E':Env}{O:Nat->Prop}(k:jX f h E E' O):∀(av:AV) (v:Value) (fp:List Nat),(∀b∈fp,O b)->R w E av v fp->R w E' (rt f h av) v []
 | .int _ _,_,_,_,r=>by simp only[R,rt]at r⊢;exact⟨r.1,trivial⟩
 | .bool _,_,_,_,r=>by simp only[R,rt]at r⊢;exact⟨r.1,trivial⟩
 | .str _,_,_,_,r=>by simp only[R,rt]at r⊢;exact⟨r.1,trivial⟩
 | .sl g n l,v,fp,hf,r=>by
  simp only[rt];cases e:f g with
  |none=>simp[R]
  |some g'=>
   simp only[R,jD]at r⊢;rcases r with r|⟨a,cap,hv,hl,r⟩
   .exact .inl ⟨k.dead e r.1,trivial⟩
   by_cases hd:E.dead g
   .refine .inl ⟨k.dead e hd,trivial⟩
   refine .inr ⟨a,cap,hv,hl,.inr (.inr ⟨k.ne e,trivial,?_⟩)⟩;rcases r with⟨_,rfl,_⟩|⟨rfl,b,off,C,ty,fz,nA,ha,hb,hz,h1,h2,h3,rfl,hr⟩|⟨hg,Ec,r⟩
   .exact .inl rfl
   .exact .inr ⟨b,off,ha,(k.own _ e).2 b (hf b (by simp)),Du (k.sub e (λh=>h) (O':=O) (λb hb=>⟨rfl,hb⟩)) l b off n nA (λb hb=>hf b (by simp[hb])) hr⟩
   .rcases r with rfl|⟨b,off,ha,ht,hr⟩
    .exact .inl rfl
    .exact .inr ⟨b,off,ha,k.tg e ht,Du (k.sub e hd (O':=λ_=>False) (λ_ hb=>hb.elim)) l b off n [] (by simp) hr⟩
 | .eF g c off,v,fp,_,r=>by
  simp only[rt];cases e:f g with
  |none=>simp[R]
  |some g'=>
   simp only[R]at r⊢;rcases r with r|⟨Ec,b,o,cs,hv,ht,hcs,hc,hr⟩
   .exact .inl ⟨k.dead e r.1,trivial⟩
   by_cases hd:E.dead g
   .exact .inl ⟨k.dead e hd,trivial⟩
   exact .inr ⟨trivial,b,o,cs,hv,k.tg e ht,hcs,hc,uD (k.sub e hd (O':=λ_=>False) (λ_ hb=>hb.elim)) c cs [] (by simp) hr⟩
 | .obj i ver,v,fp,_,r=>by
  cases h with
  |false=>simp[rt,R,AV.kept]
  |true=>simp only[R,rt,AV.kept,eI]at r⊢;exact⟨trivial,k.hh rfl _ _ _ r.2⟩
 | .ptr i ver idx off,v,fp,_,r=>by
  cases h with
  |false=>simp[rt,R,AV.kept]
  |true=>simp only[R,rt,AV.kept,eI]at r⊢;exact⟨trivial,k.hl rfl _ _ _ _ _ r.2⟩
 | .agg c,v,fp,hf,r=>by simp only[R,rt]at r⊢;obtain⟨cs,hv,hc,hr⟩:=r;exact⟨cs,hv,hc,uD k c cs fp hf hr⟩
 | .fH c,v,fp,hf,r=>by simp only[R,rt]at r⊢;obtain⟨cs,hv,hr⟩:=r;exact⟨cs,hv,uD k c cs fp hf hr⟩
 | .fn g c,v,fp,_,r=>by simp only[R,rt]at r⊢;obtain⟨Ec,cs,hv,hr⟩:=r;exact⟨trivial,cs,hv,uD k c cs [] (by simp) hr⟩
 | .undef,_,_,_,_=>by simp[R,rt]
theorem uD{w:World}{f:Tg->Option Tg}{h:Bool}{E E':Env}{O:Nat->Prop}(k:jX f h E E' O):∀(c:List AV) (cs:List Value) (fp:List Nat),(∀b∈fp,O b)->Rc w E c cs fp->Rc w E' (pM f h c) cs []
 |[],[],_,_,_=>by simp[Rc,pM]
 |[],_::_,_,_,r=>by simp[Rc]at r
 |_::_,[],_,_,r=>by simp[Rc]at r
 |x::xs,c::cs,fp,hf,r=>by simp only[Rc,pM]at r⊢;obtain⟨f1,f2,h1,h2,rfl⟩:=r;exact⟨[],[],yc k x c f1 (λb hb=>hf b (by simp[hb])) h1,uD k xs cs f2 (λb hb=>hf b (by simp[hb])) h2,rfl⟩
theorem Du{w:World}{f:Tg->Option Tg}{h:Bool}{E E':Env}{O:Nat->Prop}(k:jX f h E E' O):∀(l:List (List AV)) (b off n:Nat) (fp:List Nat),(∀b∈fp,O b)->Rr w E l b off n fp->Rr w E' (iL f h l) b off n []
 |[],_,_,_,_,_,_=>by simp[Rr,iL]
 |e::es,b,off,n,fp,hf,r=>by simp only[Rr,iL]at r⊢;obtain⟨cs,f1,f2,hn,hcs,hc,h1,h2,rfl⟩:=r;exact⟨cs,[],[],hn,hcs,hc,uD k e cs f1 (λb hb=>hf b (by simp[hb])) h1,Du k es b (off+n) n f2 (λb hb=>hf b (by simp[hb])) h2,rfl⟩
end
structure aD where
  live:Bool
  box:Bool
  n:Nat
  ver:Nat
  dY:List (List AV)
structure CO where
  a:Option Addr
  cap:Nat
  F:Nat -> Prop
structure AS where
  t:List AV
  o:List aD
class aB(P:Program) where
  holds:World -> Prop
  low:Nat
  Kl:∀ w, holds w -> low <= w.heap.size
  Px:∀ w w', holds w -> (∀ b, b<low -> w'.heap[b]? = w.heap[b]?) -> holds w'
structure eP(P:Program)[aB P] where
  w0:World
  A0:Nat -> Prop
  O0:Nat -> Prop
  h0:Nat -> Option Value
  p0:Nat -> Option (Value × Nat)
  Gw:aB.holds P w0
  Il:∀ b, O0 b -> aB.low P <= b
  gA:∀ b, O0 b -> A0 b
def look(o:List aD)(G:List CO)(i:Nat)(ob:aD)(g:CO):Prop:=o[i]? =some ob/\G[i]? =some g
def env{P:Program}[aB P](B:eP P)(o:List aD)(G:List CO)(w:World):Env where
 A b:=(B.A0 b\/(B.w0.heap.size<=b/\b<w.heap.size))/\∀i ob g,look o G i ob g->ob.live=true->¬g.F b
 V i:=∀ob,o[i]? =some ob->ob.live=true
 D i b:=∃ob g,look o G i ob g/\ob.live=true/\g.F b/\∀a,g.a=some a->b≠a.block
 H i ver v:=∃ob g,look o G i ob g/\ver<=ob.ver/\(ob.live=true->ob.ver=ver->v= .slice g.a ob.dY.length g.cap)/\(ver=0->∀x,B.h0 i=some x->v=x)
 L i ver idx off v:=∃ob g,look o G i ob g/\ver<=ob.ver/\(ob.live=true->ob.ver=ver->∃b f,g.a=some ⟨b,f,none⟩/\v= .pointer (some ⟨b,f+(idx*ob.n+off),none⟩))/\(ob.box=true->ver=2->idx=0->off=0->∀x,B.p0 i=some x->v=x.1/\(ob.live=true->ob.ver=2->g.cap=x.2))
def Env.of(E:Env)(box:Bool):Env:=if box then E else E.plain
def oD(w:World)(E:Env)(n:Nat)(l:List (List AV))(a:Option Addr)(cap:Nat)(fp:List Nat):Prop:=
 l.length<=maxLen/\((l=[]/\cap=0/\fp=[])\/
  ∃b off C e fz nA,a=some ⟨b,off,none⟩/\w.heap[b]? =some (.cells C e fz)/\((C.size<=fz.1/\n=1)\/fz.2=0)/\
   off+cap*n<=C.size/\l.length<=cap/\cap<=maxLen/\fp=b::nA/\Rr w E l b off n nA)
theorem qW{w:World}{E:Env}{n:Nat}{l:List (List AV)}{v:Value}{fp:List Nat}:
  R w E (.sl .own n l) v fp↔∃a cap,v= .slice a l.length cap/\oD w E.plain n l a cap fp:=by
 simp only[R,oD];constructor
 .rintro (⟨h,_⟩|⟨a,cap,hv,hl,h|h|h⟩)
  .exact h.elim
  .exact ⟨a,cap,hv,hl.1,.inl h.2⟩
  .exact ⟨a,cap,hv,hl.1,.inr h.2⟩
  .exact absurd rfl h.1
 .rintro ⟨a,cap,hv,hl,h|h⟩
  .exact .inr ⟨a,cap,hv,⟨hl,by simp[h.1]⟩,.inl ⟨trivial,h⟩⟩
  .exact .inr ⟨a,cap,hv,⟨hl,by obtain⟨b,off,C,e,fz,nA,_,_,_,_,h,_⟩:=h;exact h⟩,.inr (.inl ⟨trivial,h⟩)⟩
def Ff(w:World)(E:Env)(ob:aD)(g:CO):Prop:=
 ∃fp,oD w (E.of ob.box) ob.n ob.dY g.a g.cap fp/\fp.Nodup/\∀b∈fp,g.F b
structure iW(w w':World): Prop where
  os:w'.os = w.os
  tape:w'.tape = w.tape
  output:w'.output = w.output
theorem iW.rfl{w:World}:iW w w:=⟨Eq.refl _,Eq.refl _,Eq.refl _⟩
theorem iW.trans{a b c:World}(h:iW a b)(k:iW b c):iW a c:=⟨k.os.trans h.os,k.tape.trans h.tape,k.output.trans h.output⟩
structure bU{P:Program}[aB P](B:eP P)(s:AS)(G:List CO)(a:Act)(w:World): Prop where
  len:G.length = s.o.length
  defs:a.defers = []
  ok:∀ i ob g, look s.o G i ob g -> ob.live = true -> Ff w (env B s.o G w) ob g
  apart:∀ i j oi oj gi gj b, look s.o G i oi gi -> look s.o G j oj gj -> oi.live = true -> oj.live = true -> gi.F b -> gj.F b -> i = j
  fresh:∀ i ob g b, look s.o G i ob g -> ob.live = true -> g.F b -> (B.O0 b \/ B.w0.heap.size <= b) /\ b<w.heap.size
  tmps:Rc w (env B s.o G w) s.t a.tmps.toList []
  size:B.w0.heap.size <= w.heap.size
  frame:∀ b, b<B.w0.heap.size -> ¬ B.O0 b -> w.heap[b]? = B.w0.heap[b]?
  base:∀ b, B.A0 b -> b<B.w0.heap.size
  same:iW B.w0 w
def Rel{P:Program}[aB P](B:eP P)(s:AS)(a:Act)(w:World):Prop:=∃G,bU B s G a w
theorem bU.holds{P:Program}[aB P]{B:eP P}{s:AS}{G:List CO}{a:Act}{w:World}(r:bU B s G a w):aB.holds P w:=
 aB.Px B.w0 w B.Gw λb hb=>r.frame b (fS hb (aB.Kl _ B.Gw)) λh=>absurd (B.Il b h) (by omega)
theorem bU.Il{P:Program}[aB P]{B:eP P}{s:AS}{G:List CO}{a:Act}{w:World}(_:bU B s G a w){b:Nat}(h:B.O0 b\/B.w0.heap.size<=b):aB.low P<=b:=
 h.elim (B.Il b) λh=>fW (aB.Kl _ B.Gw) h
theorem bR.of{w w':World}{E E':Env}(k:bR w E w' E')(box:Bool):bR w (E.of box) w' (E'.of box):=by
 cases box
 .exact k.plain
 .exact k
theorem Ru(w:World)(E:Env):bR w E.plain w E:=
 ⟨λ_ h=>⟨h,rfl⟩,λ_ _=>trivial,λ_ _ _ h=>h.elim,λ_ _ _ h=>h.elim,λ_ _ _ _ _ h=>h.elim⟩
theorem lY{P:Program}[aB P]{B:eP P}{s:AS}{G:List CO}{a:Act}{w:World}(r:bU B s G a w){b:Nat}(h:(env B s.o G w).A b):b<w.heap.size:=by
 rcases h.1 with h|h
 .exact fS (r.base b h) r.size
 .exact h.2
theorem uF{P:Program}[aB P]{B:eP P}{o o':List aD}{G G':List CO}{w w':World}(hs:w.heap.size<=w'.heap.size)
  (hA:∀b,(env B o G w).A b->b<w.heap.size/\w'.heap[b]? =w.heap[b]?)
  (hlen:G.length=o.length)
  (h2:∀i ob g,look o G i ob g->∃dH g',look o' G' i dH g'/\ob.ver<=dH.ver/\(dH.box=true->ob.box=true\/ob.ver<2)/\(dH.live=true->ob.live=true/\dH.n=ob.n/\
   (dH.ver=ob.ver->g'.a=g.a/\g'.cap=g.cap/\dH.dY.length=ob.dY.length)/\
   (∀b,g.F b->(∀a,g.a=some a->b≠a.block)->g'.F b/\(∀a,g'.a=some a->b≠a.block)/\w'.heap[b]? =w.heap[b]?)))
  (h3:∀i dH g' b,look o' G' i dH g'->dH.live=true->g'.F b->w.heap.size<=b\/∃j ob g,look o G j ob g/\ob.live=true/\g.F b):
  bR w (env B o G w) w' (env B o' G' w') where
 a b h:=by
  refine⟨⟨?_,?_⟩,(hA b h).2⟩
  .rcases h.1 with h1|h1
   .exact .inl h1
   .exact .inr ⟨h1.1,fS h1.2 hs⟩
  .intro i dH g' hl hlive hf;rcases h3 i dH g' b hl hlive hf with h5|⟨j,ob,g,xY,sQ,hf'⟩
   .have:=(hA b h).1;omega
   .exact h.2 j ob g xY sQ hf'
 v i h ob qX:=by
  have hi:i<G.length:=by rw[hlen];exact(cA.1 qX).1
  obtain⟨dH,g',hl,_,_,h5⟩:=h2 i ob G[i] ⟨qX,aE hi⟩;exact(h5 (h dH hl.1)).1
 d i b hV h:=by obtain⟨ob,g,hl,hlive,hf,hne⟩:=h;obtain⟨dH,g',xY,_,_,h5⟩:=h2 i ob g hl;have sQ:=hV dH xY.1;have h6:=(h5 sQ).2.2.2 b hf hne;exact⟨⟨dH,g',xY,sQ,h6.1,h6.2.1⟩,h6.2.2⟩
 h i v x h:=by
  obtain⟨ob,g,hl,Al,h5,hz⟩:=h;obtain⟨dH,g',xY,hv',_,h6⟩:=h2 i ob g hl;refine⟨dH,g',xY,by omega,λhlive Py=> ?_,hz⟩;have h7:=h6 hlive;have Zo:dH.ver=ob.ver:=by omega
  have h8:=h7.2.2.1 Zo;rw[h8.1,h8.2.1,h8.2.2];exact h5 h7.1 (by omega)
 l i v j x y h:=by
  obtain⟨ob,g,hl,Al,h5,hz⟩:=h;obtain⟨dH,g',xY,hv',hb',h6⟩:=h2 i ob g hl;refine⟨dH,g',xY,by omega,λhlive Py=> ?_,λhb hv e1 e2 y hy=>by
   rcases hb' hb with h|h
   .refine ⟨(hz h hv e1 e2 y hy).1,λhlive Py=> ?_⟩
    have h7:=h6 hlive;have Zo:dH.ver=ob.ver:=by omega
    rw[(h7.2.2.1 Zo).2.1];exact(hz h hv e1 e2 y hy).2 h7.1 (by omega)
   .omega⟩
  have h7:=h6 hlive;have Zo:dH.ver=ob.ver:=by omega
  have h8:=h7.2.2.1 Zo;rw[h8.1,h7.2.1];exact h5 h7.1 (by omega)
theorem oD.keeps{w w':World}{E E':Env}{n:Nat}{l:List (List AV)}{a:Option Addr}{cap:Nat}{fp:List Nat}(h:oD w E n l a cap fp)(k:bR w E w' E')(hF:∀b∈fp,w'.heap[b]? =w.heap[b]?):oD w' E' n l a cap fp:=by
 refine⟨h.1,?_⟩;rcases h.2 with h|⟨b,off,C,e,fz,nA,ha,hb,hz,h1,h2,h3,rfl,hr⟩
 .exact .inl h
 .refine .inr ⟨b,off,C,e,fz,nA,ha,by rw[hF b (by simp)];exact hb,hz,h1,h2,h3,rfl,kP k _ _ _ _ _ (hF b (by simp)) (λx hx=>hF x (by simp[hx])) hr⟩
theorem Ff.keeps{w w':World}{E E':Env}{ob:aD}{g:CO}(h:Ff w E ob g)(k:bR w E w' E')(hF:∀b,g.F b->w'.heap[b]? =w.heap[b]?):Ff w' E' ob g:=by obtain⟨fp,hr,hn,hf⟩:=h;exact⟨fp,hr.keeps (k.of ob.box) (λb hb=>hF b (hf b hb)),hn,hf⟩
theorem eG{w:World}{E:Env}:∀{c:List AV} {cs:List Value} {fp:List Nat},Rc w E c cs fp->cs.length=c.length
 |[],[],_,_=>rfl
 |[],_::_,_,h=>by simp[Rc]at h
 |_::_,[],_,h=>by simp[Rc]at h
 |_::xs,_::cs,fp,h=>by simp only[Rc]at h;obtain⟨f1,f2,_,h2,_⟩:=h;simp[eG h2]
theorem Gx{w:World}{E:Env}:∀{c:List AV} {cs:List Value} {i:Nat} {x:AV},Rc w E c cs []->c[i]? =some x->∃v,cs[i]? =some v/\R w E x v []
 |[],_,i,x,_,h=>by simp at h
 |_::_,[],_,_,h,_=>by simp[Rc]at h
 |y::ys,c::cs,i,x,h,hx=>by
  simp only[Rc]at h;obtain⟨f1,f2,h1,h2,e⟩:=h;obtain⟨e1,e2⟩:f1=[]/\f2=[]:=by simpa using e
  subst e1;subst e2;cases i with
  |zero=>simp at hx;subst hx;exact⟨c,rfl,h1⟩
  |succ i=>simpa using Gx h2 (by simpa using hx)
theorem Zp{w:World}{E:Env}:∀{c:List AV} {cs:List Value} (i:Nat) {x:AV} {v:Value},Rc w E c cs []->R w E x v []->Rc w E (c.set i x) (cs.set i v) []
 |[],[],i,x,v,h,_=>by simpa using h
 |[],_::_,_,_,_,h,_=>by simp[Rc]at h
 |_::_,[],_,_,_,h,_=>by simp[Rc]at h
 |y::ys,c::cs,i,x,v,h,hx=>by
  simp only[Rc]at h;obtain⟨f1,f2,h1,h2,e⟩:=h;obtain⟨e1,e2⟩:f1=[]/\f2=[]:=by simpa using e
  subst e1;subst e2;cases i with
  |zero=>simp only[cG,Rc];exact⟨[],[],hx,h2,rfl⟩
  |succ i=>simp only[cH,Rc];exact⟨[],[],h1,Zp i h2 hx,rfl⟩
theorem gK{w:World}{E:Env}:∀{c d:List AV} {cs ds:List Value} {f1 f2:List Nat},Rc w E c cs f1->Rc w E d ds f2->Rc w E (c++d) (cs++ds) (f1++f2)
 |[],_,[],_,f1,f2,h,h'=>by simp[Rc]at h;subst h;simpa using h'
 |[],_,_::_,_,_,_,h,_=>by simp[Rc]at h
 |_::_,_,[],_,_,_,h,_=>by simp[Rc]at h
 |y::ys,d,c::cs,ds,f1,f2,h,h'=>by simp only[Rc]at h;obtain⟨g1,g2,h1,h2,rfl⟩:=h;simp only[cM,Rc];exact⟨g1,g2++f2,h1,gK h2 h',by simp⟩
def AS.put(s:AS)(d:Option Tmp)(x:AV):AS:=match d with
 |some d=>{s with t:=s.t.set d x}
 |none=>s
theorem bU.put{P:Program}[aB P]{B:eP P}{s:AS}{G:List CO}{a:Act}{w:World}(r:bU B s G a w)(d:Option Tmp){x:AV}{v:Value}(h:R w (env B s.o G w) x v []):
  bU B (s.put d x) G (a.put d v) w:=by
 cases d with
 |none=>exact r
 |some d=>exact {r with tmps:=by simpa [AS.put,Act.put]using Zp d r.tmps h}
theorem bU.next{P:Program}[aB P]{B:eP P}{s:AS}{G:List CO}{a:Act}{w:World}(r:bU B s G a w){o':List aD}{G':List CO}{w':World}
  (k:bR w (env B s.o G w) w' (env B o' G' w')) (len:G'.length=o'.length)
  (ok:∀i ob g,look o' G' i ob g->ob.live=true->Ff w' (env B o' G' w') ob g)
  (apart:∀i j oi oj gi gj b,look o' G' i oi gi->look o' G' j oj gj->oi.live=true->oj.live=true->gi.F b->gj.F b->i=j)
  (fresh:∀i ob g b,look o' G' i ob g->ob.live=true->g.F b->(B.O0 b\/B.w0.heap.size<=b)/\b<w'.heap.size)
  (size:w.heap.size<=w'.heap.size) (frame:∀b,b<B.w0.heap.size->¬B.O0 b->w'.heap[b]? =w.heap[b]?)
  (same:iW w w':=by exact⟨rfl,rfl,rfl⟩):bU B ⟨s.t,o'⟩ G' a w' where
 len:=len
 defs:=r.defs
 ok:=ok
 apart:=apart
 fresh:=fresh
 tmps:=dC k _ _ _ (by simp) r.tmps
 size:=fW r.size size
 frame b h1 h2:=(frame b h1 h2).trans (r.frame b h1 h2)
 base:=r.base
 same:=r.same.trans same
def Zq:Value->AV
 | .int k n=> .int k n
 | .bool b=> .bool b
 | .string s=> .str s.data.toList
 | .slice none 0 0=> .sl .own 0 []
 | .func (.func f) ⟨[]⟩ ⟨[]⟩=> .fn f []
 |_=> .undef
theorem M5(w:World)(E:Env)(v:Value):R w E (Zq v) v []:=by unfold Zq;split<;>simp[R,Rc,maxLen]
def AS.ev(s:AS):Operand->AV
 | .tmp t=>s.t.getD t .undef
 | .const v=>Zq v
 | .func f=> .fn f []
 | .global _=> .undef
theorem bU.ev{P:Program}[aB P]{B:eP P}{s:AS}{G:List CO}{a:Act}{w:World}(r:bU B s G a w)(x:Operand):R w (env B s.o G w) (s.ev x) (a.eval x) []:=by
 cases x with
 |tmp t=>
  simp only[AS.ev,getD];cases h:s.t[t]? with
  |none=>simp[R]
  |some y=>
   obtain⟨v,hv,hr⟩:=Gx r.tmps h;simp only[Act.eval,pD];have:a.tmps[t]? =some v:=by simpa using hv
   simpa [eV,this]using hr
 |const v=>exact M5 w _ v
 |func f=>simp[AS.ev,Act.eval,R,Rc]
 |global g=>simp[AS.ev,R]
theorem oZ{w:World}{E:Env}:∀{c:List AV} {cs:List Value} {fp:List Nat} (k:Nat),Rc w E c cs fp->
  ∃f1 f2,fp=f1++f2/\Rc w E (c.take k) (cs.take k) f1/\Rc w E (c.drop k) (cs.drop k) f2
 |c,cs,fp,0,h=>⟨[],fp,rfl,by simp[Rc],by simpa using h⟩
 |[],[],fp,k+1,h=>⟨fp,[],by simp,by simpa using h,by simp[Rc]⟩
 |[],_::_,_,_,h=>by simp[Rc]at h
 |_::_,[],_,_,h=>by simp[Rc]at h
 |x::xs,c::cs,fp,k+1,h=>by simp only[Rc]at h;obtain⟨g1,g2,h1,h2,rfl⟩:=h;obtain⟨f1,f2,rfl,h3,h4⟩:=oZ k h2;exact⟨g1++f1,f2,by simp,by simp only[kO,Rc];exact⟨g1,f1,h1,h3,rfl⟩,by simpa using h4⟩
theorem zM{w:World}{E:Env}{l2:List (List AV)}{b n:Nat}:∀{l1:List (List AV)} {off:Nat} {fp:List Nat},
  Rr w E (l1++l2) b off n fp↔∃f1 f2,fp=f1++f2/\Rr w E l1 b off n f1/\Rr w E l2 b (off+l1.length*n) n f2
 |[],off,fp=>by
  simp only[cW,Rr,eR,Dg,oS];constructor
  .intro h;exact⟨[],fp,by simp,rfl,h⟩
  .rintro ⟨f1,f2,rfl,rfl,h⟩;simpa using h
 |e::es,off,fp=>by
  simp only[cM,Rr,zM (l1:=es),eE];have e1:∀m,off+(m+1)*n=off+n+m*n:=λm=>by rw[oE];omega
  constructor
  .rintro ⟨cs,f1,f2,hn,hc,h1,hr,⟨g1,g2,rfl,h3,h4⟩,rfl⟩;exact⟨f1++g1,g2,by simp,⟨cs,f1,g1,hn,hc,h1,hr,h3,rfl⟩,by rw[e1];exact h4⟩
  .rintro ⟨f1,f2,rfl,⟨cs,g1,g2,hn,hc,h1,hr,h3,rfl⟩,h4⟩;exact⟨cs,g1,g2++f2,hn,hc,h1,hr,⟨g2,f2,rfl,h3,by rw[e1]at h4;exact h4⟩,by simp⟩
theorem Am{w:World}{E:Env}{l:List (List AV)}{b off n:Nat}{fp:List Nat}{i:Nat}{e:List AV}(h:Rr w E l b off n fp)(hi:l[i]? =some e):
  ∃f1 f2 f3 cs,fp=f1++f2++f3/\cs.length=n/\bA w b (off+i*n) cs/\(∀x∈cs,x.oneCell'=true)/\Rc w E e cs f2/\
   Rr w E (l.take i) b off n f1/\Rr w E (l.drop (i+1)) b (off+(i+1)*n) n f3:=by
 obtain⟨hlt,rfl⟩:=cA.1 hi;have hl:l=l.take i++l[i]::l.drop (i+1):=by simp
 rw[hl]at h;obtain⟨f1,f4,rfl,h1,h2⟩:=zM.1 h;have X7:(l.take i).length=i:=by simp;omega
 rw[X7]at h2;simp only[Rr]at h2;obtain⟨cs,f2,f3,hn,hc,ho,hr,h3,rfl⟩:=h2;refine⟨f1,f2,f3,cs,by simp,hn,hc,ho,hr,h1,?_⟩;rw[oE,Nat.one_mul,<-mA];exact h3
theorem WB{w:World}{E:Env}{l:List (List AV)}{b off n:Nat}{i:Nat}{e:List AV}{f1 f2 f3:List Nat}{cs:List Value}(hi:i<l.length)(hn:cs.length=n)
  (hc:bA w b (off+i*n) cs) (ho:∀x∈cs,x.oneCell'=true) (hr:Rc w E e cs f2) (h1:Rr w E (l.take i) b off n f1) (h3:Rr w E (l.drop (i+1)) b (off+(i+1)*n) n f3):
  Rr w E (l.set i e) b off n (f1++f2++f3):=by
 have hl:l.set i e=l.take i++e::l.drop (i+1):=by rw[set_eq_take_append_cons_drop];simp[hi]
 rw[hl];refine zM.2 ⟨f1,f2++f3,by simp,h1,?_⟩;have X7:(l.take i).length=i:=by simp;omega
 rw[X7];simp only[Rr];refine⟨cs,f2,f3,hn,hc,ho,hr,?_,rfl⟩;rw[oE,Nat.one_mul,<-mA]at h3;exact h3
theorem Km{w w':World}{E E':Env}(k:bR w E w' E'){b lo hi:Nat}(zN:∀j,j<lo\/hi<=j->w'.cell? ⟨b,j,none⟩=w.cell? ⟨b,j,none⟩):∀{l:List (List AV)} {off n:Nat} {fp:List Nat},
  (∀x∈fp,w'.heap[x]? =w.heap[x]?)->(off+l.length*n<=lo\/hi<=off)->Rr w E l b off n fp->Rr w' E' l b off n fp
 |[],_,_,_,_,_,h=>by simpa [Rr]using h
 |e::es,off,n,fp,hf,hr,h=>by
  simp only[Rr]at h⊢;obtain⟨cs,f1,f2,hn,hc,ho,h1,h2,rfl⟩:=h;have hl:(es.length+1)*n=n+es.length*n:=by rw[oE];omega
  simp only[eE,hl]at hr;refine⟨cs,f1,f2,hn,?_,ho,dC k _ _ _ (λx hx=>hf x (by simp[hx])) h1,Km k zN (λx hx=>hf x (by simp[hx])) (by omega) h2,rfl⟩;intro j v hv;rw[zN]
  .exact hc j v hv
  .have:j<cs.length:=(cA.1 hv).1;omega
theorem bA.drop{w:World}{b off k:Nat}{cs:List Value}(h:bA w b off cs):bA w b (off+k) (cs.drop k):=by
 intro j v hv;rw[getElem?_drop]at hv;have:=h _ _ hv
 rwa[<-mA]at this
theorem bA.take{w:World}{b off k:Nat}{cs:List Value}(h:bA w b off cs):bA w b off (cs.take k):=by
 intro j v hv;rw[By]at hv;split at hv
 .exact h _ _ hv
 .cases hv
theorem addr_add(b o n:Nat):(⟨b,o,none⟩:Addr).add n=⟨b,o+n,none⟩:=Addr.add_lit b o n
theorem bA.run{P:Program}{w:World}{b off:Nat}{cs:List Value}(h:bA w b off cs):(loadCells ⟨b,off,none⟩ cs.length).run P w= .ok cs.toArray w:=
 run_loadCells_list w _ cs (λj v hv=>by rw[addr_add];exact h j v hv)
def iZ(P:Program)(t:TypeId):Option Nat:=
 match P.underlying t with
 |some (.struct _)=>(P.info? t).map (·.size)
 |some (.array _ _)=>(P.info? t).map (·.size)
 |_=>none
def mO(P:Program)(t:TypeId):Bool:=
 match P.underlying t with
 |some (.struct _)=>false
 |some (.array _ _)=>false
 |some _=>(P.info? t).map (·.size) == some 1
 |none=>false
theorem Pz{P:Program}{w:World}{t:TypeId}{b off:Nat}{cs:List Value}(ht:iZ P t=some cs.length)(h:bA w b off cs):
  (loadVar t ⟨b,off,none⟩).run P w= .ok (.agg cs.toArray) w:=by
 unfold iZ at ht;have hr:=h.run (P:=P);split at ht
 .rename_i d hd;cases hi:P.info? t with
  |none=>simp[hi]at ht
  |some i=>simp[hi]at ht;simp[loadVar,isAgg,fL hd,sizeOf,typeInfo,hi,ht,hr]
 .rename_i d hd;cases hi:P.info? t with
  |none=>simp[hi]at ht
  |some i=>simp[hi]at ht;simp[loadVar,isAgg,fL hd,sizeOf,typeInfo,hi,ht,hr]
 .cases ht
theorem PD{P:Program}{w:World}{t:TypeId}{b off:Nat}{v:Value}(ht:mO P t=true)(h:bA w b off [v]):
  (loadVar t ⟨b,off,none⟩).run P w= .ok v w:=by
 unfold mO at ht;have h0:=h 0 v rfl;split at ht
 .cases ht
 .cases ht
 .rename_i d hd h1 h2;simp only[loadVar,isAgg,mC,fL h2,iS];cases d<;>simp_all
 .cases ht
theorem jC(b b':Nat)(hb:b'≠b):∀(vs:List Value) (o:Nat) (w:World),(w.setCells b o vs).heap[b']? =w.heap[b']?
 |[],_,_=>rfl
 |v::r,o,w=>by rw[World.setCells,jC b b' hb r];simp[World.setCell,Array.getElem?_modify,sX hb]
theorem fC(b:Nat):∀(vs:List Value) (o:Nat) (w:World),(w.setCells b o vs).heap.size=w.heap.size
 |[],_,_=>rfl
 |v::r,o,w=>by rw[World.setCells,fC b r];simp
theorem iM(b:Nat):∀(vs:List Value) (o:Nat) (w:World),iW w (w.setCells b o vs)
 |[],_,_=>iW.rfl
 |v::r,o,w=>by rw[World.setCells];exact iW.trans (b:=w.setCell ⟨b,o,none⟩ v) ⟨rfl,rfl,rfl⟩ (iM b r (o+1) _)
theorem gX(b:Nat)(e:TypeId)(fz:Nat×Nat):∀(vs:List Value) (o:Nat) (w:World) (C:Array Value),w.heap[b]? =some (.cells C e fz)->
  ∃C',(w.setCells b o vs).heap[b]? =some (.cells C' e fz)/\C'.size=C.size
 |[],_,w,C,h=>⟨C,h,rfl⟩
 |v::r,o,w,C,h=>by
  rw[World.setCells];have:(w.setCell ⟨b,o,none⟩ v).heap[b]? =some (.cells (C.setIfInBounds o v) e fz):=by simp[World.setCell,Array.getElem?_modify,h]
  obtain⟨C',h1,h2⟩:=gX b e fz r (o+1) _ _ this;exact⟨C',h1,by simpa using h2⟩
theorem pE{P:Program}{w:World}{b off:Nat}{C:Array Value}{e:TypeId}{fz:Nat×Nat}{vs:List Value}{q:Prop}(hb:w.heap[b]? =some (.cells C e fz))(hz:(C.size<=fz.1/\q)\/fz.2=0)
  (hfit:off+vs.length<=C.size) (h1:∀v∈vs,v.oneCell'=true):(storeCells ⟨b,off,none⟩ vs).run P w= .ok () (w.setCells b off vs):=by
 have:=run_storeCells_cells (P:=P) b off vs 0 w (λj hj=>by
  have:off+j<C.size:=by omega
  simp[World.cell?,hb,this]) (λj hj=>by
  simp only[World.frozen?,hb];rcases hz with⟨hz,_⟩|hz
  .have:¬fz.1<=off+j:=by omega
   simp[this]
  .simp [hz]) h1
 simpa using this
theorem wU{o:List aD}{G:List CO}{i j:Nat}{dH:aD}{g':CO}{x:aD}{y:CO}(h:look (o.set i dH) (G.set i g') j x y):
  (j=i/\x=dH/\y=g')\/(j≠i/\look o G j x y):=by
 obtain⟨h1,h2⟩:=h;rw[getElem?_set]at h1 h2;by_cases hj:i=j
 .subst hj;left;simp only[eI]at h1 h2;split at h1
  .split at h2
   .exact ⟨rfl,(cD h1).symm,(cD h2).symm⟩
   .cases h2
  .cases h1
 .simp only[hj,eK]at h1 h2;exact .inr ⟨λe=>hj e.symm,h1,h2⟩
theorem uW{o:List aD}{G:List CO}{i:Nat}{dH:aD}{g':CO}{x:aD}{y:CO}(h:look o G i x y):look (o.set i dH) (G.set i g') i dH g':=by have h1:=(cA.1 h.1).1;have h2:=(cA.1 h.2).1;constructor<;>simp[h1,h2]
theorem BG{o:List aD}{G:List CO}{i j:Nat}{dH:aD}{g':CO}{x:aD}{y:CO}(h:look o G j x y)(hj:j≠i):look (o.set i dH) (G.set i g') j x y:=by
 constructor
 .rw [gO (sX hj)];exact h.1
 .rw [gO (sX hj)];exact h.2
theorem jE{o:List aD}{G:List CO}{i:Nat}{x x':aD}{y y':CO}(h:look o G i x y)(h':look o G i x' y'):x=x'/\y=y':=
 ⟨cD (h.1.symm.trans h'.1),cD (h.2.symm.trans h'.2)⟩
theorem bU.yf{P:Program}[aB P]{B:eP P}{s:AS}{G:List CO}{a:Act}{w:World}(r:bU B s G a w){i:Nat}{ob:aD}{g:CO}(hl:look s.o G i ob g)(hlive:ob.live=true){w':World}
  (iN:∀b,b<w.heap.size->¬(g.F b/\∃a,g.a=some a/\b=a.block)->w'.heap[b]? =w.heap[b]?):
  (∀b,(env B s.o G w).A b->w'.heap[b]? =w.heap[b]?)/\(∀j oj gj b,look s.o G j oj gj->oj.live=true->j≠i->gj.F b->w'.heap[b]? =w.heap[b]?):=by
 refine⟨λb hb=>iN b (lY r hb) (λh=>hb.2 i ob g hl hlive h.1),λj oj gj b hj hjl hne hf=> ?_⟩;exact iN b (r.fresh j oj gj b hj hjl hf).2 (λh=>hne (r.apart j i oj ob gj g b hj hl hjl hlive hf h.1))
theorem bU.modify{P:Program}[aB P]{B:eP P}{s:AS}{G:List CO}{a:Act}{w:World}(r:bU B s G a w){i:Nat}{ob:aD}{g:CO}(hl:look s.o G i ob g)(hlive:ob.live=true)
  (dH:aD) (g':CO) (w':World) (Al:ob.ver<=dH.ver) (hn:dH.n=ob.n)
  (aGk:dH.ver=ob.ver->g'.a=g.a/\g'.cap=g.cap/\dH.dY.length=ob.dY.length)
  (hF:∀b,g'.F b->g.F b\/(w.heap.size<=b/\b<w'.heap.size))
  (hD:∀b,g.F b->(∀a,g.a=some a->b≠a.block)->g'.F b/\(∀a,g'.a=some a->b≠a.block))
  (iN:∀b,b<w.heap.size->¬(g.F b/\∃a,g.a=some a/\b=a.block)->w'.heap[b]? =w.heap[b]?)
  (hs:w.heap.size<=w'.heap.size)
  (ok':bR w (env B s.o G w) w' (env B (s.o.set i dH) (G.set i g') w')->dH.live=true->Ff w' (env B (s.o.set i dH) (G.set i g') w') dH g') (same:iW w w':=by first|exact⟨rfl,rfl,rfl⟩|exact iM _ _ _ _) (Dv:dH.box=true->ob.box=true\/ob.ver<2:=by first|exact λh=> .inl h|(intro h;cases h)):
  bU B ⟨s.t,s.o.set i dH⟩ (G.set i g') a w'/\bR w (env B s.o G w) w' (env B (s.o.set i dH) (G.set i g') w'):=by
 have hsm:=r.yf hl hlive iN;have k:bR w (env B s.o G w) w' (env B (s.o.set i dH) (G.set i g') w'):=by
  refine uF hs (λb hb=>⟨lY r hb,hsm.1 b hb⟩) r.len ?_ ?_
  .intro j oj gj hj;by_cases e:j=i
   .subst e;obtain⟨rfl,rfl⟩:=jE hl hj;refine⟨dH,g',uW hl,Al,Dv,λ_=>⟨hlive,hn,aGk,λb hf hne=> ?_⟩⟩;have:=hD b hf hne;exact⟨this.1,this.2,iN b (r.fresh j _ _ b hl hlive hf).2 (λh=>by obtain⟨_,a,ha,rfl⟩:=h;exact hne a ha rfl)⟩
   .refine ⟨oj,gj,BG hj e,cX _,λh=> .inl h,λhjl=>⟨hjl,rfl,λ_=>⟨rfl,rfl,rfl⟩,λb hf hne=>⟨hf,hne,hsm.2 j oj gj b hj hjl e hf⟩⟩⟩
  .intro j oj gj b hj hjl hf;rcases wU hj with⟨rfl,rfl,rfl⟩|⟨_,XA⟩
   .rcases hF b hf with h|h
    .exact .inr ⟨j,ob,g,hl,hlive,h⟩
    .exact .inl h.1
   .exact .inr ⟨j,oj,gj,XA,hjl,hf⟩
 refine⟨r.next k (by simp[r.len]) ?_ ?_ ?_ hs ?_ same,k⟩
 .intro j oj gj hj hjl;rcases wU hj with⟨rfl,rfl,rfl⟩|⟨hne,XA⟩
  .exact ok' k hjl
  .exact (r.ok j oj gj XA hjl).keeps k (λb hb=>hsm.2 j oj gj b XA hjl hne hb)
 .intro j1 j2 o1 o2 g1 g2 b h1 h2 hl1 hl2 hf1 hf2;rcases wU h1 with⟨rfl,rfl,rfl⟩|⟨aGl,h1'⟩<;>rcases wU h2 with⟨rfl,rfl,rfl⟩|⟨hne2,h2'⟩
  .rfl
  .exfalso;rcases hF b hf1 with h|h
   .exact hne2 (r.apart _ _ _ _ _ _ b h2' hl hl2 hlive hf2 h)
   .have:=(r.fresh _ _ _ b h2' hl2 hf2).2;omega
  .exfalso;rcases hF b hf2 with h|h
   .exact aGl (r.apart _ _ _ _ _ _ b h1' hl hl1 hlive hf1 h)
   .have:=(r.fresh _ _ _ b h1' hl1 hf1).2;omega
  .exact r.apart _ _ _ _ _ _ b h1' h2' hl1 hl2 hf1 hf2
 .intro j oj gj b hj hjl hf;rcases wU hj with⟨rfl,rfl,rfl⟩|⟨hne,XA⟩
  .rcases hF b hf with h|h
   .have:=r.fresh _ _ _ b hl hlive h;exact⟨this.1,fS this.2 hs⟩
   .exact ⟨.inr (fW r.size h.1),h.2⟩
  .have:=r.fresh _ _ _ b XA hjl hf;exact⟨this.1,fS this.2 hs⟩
 .intro b hb hO;refine iN b (fS hb r.size) (λh=> ?_);have:=(r.fresh _ _ _ b hl hlive h.1).1;rcases this with h|h
  .exact hO h
  .omega
theorem jV{o o2:List aD}{G G2:List CO}(hlen:G.length=o.length){i:Nat}{x:aD}{y:CO}(h:look (o++o2) (G++G2) i x y):
  (i<o.length/\look o G i x y)\/(o.length<=i/\look o2 G2 (i-o.length) x y):=by
 obtain⟨h1,h2⟩:=h;by_cases hi:i<o.length
 .rw [nB hi]at h1;rw[nB (by omega)]at h2;exact .inl ⟨hi,h1,h2⟩
 .rw [hU (by omega)]at h1;rw[hU (by omega),hlen]at h2;exact .inr ⟨by omega,h1,h2⟩
theorem iO{o o2:List aD}{G G2:List CO}{i:Nat}{x:aD}{y:CO}(h:look o G i x y):look (o++o2) (G++G2) i x y:=by have h1:=(cA.1 h.1).1;have h2:=(cA.1 h.2).1;exact⟨by rw[nB h1];exact h.1,by rw[nB h2];exact h.2⟩
theorem jF{o o2:List aD}{G G2:List CO}(hlen:G.length=o.length){i:Nat}{x:aD}{y:CO}(h:look o2 G2 i x y):look (o++o2) (G++G2) (o.length+i) x y:=by refine⟨by rw[hU (by omega),Nat.add_sub_cancel_left];exact h.1,?_⟩;rw[hU (by omega),hlen,Nat.add_sub_cancel_left];exact h.2
theorem bU.add{P:Program}[aB P]{B:eP P}{s:AS}{G:List CO}{a:Act}{w:World}(r:bU B s G a w)(uo:List aD)(Gs:List CO)(w':World)(hlen:Gs.length=uo.length)
  (hs:w.heap.size<=w'.heap.size) (iN:∀b,b<w.heap.size->w'.heap[b]? =w.heap[b]?)
  (hF:∀j ob g b,look uo Gs j ob g->ob.live=true->g.F b->w.heap.size<=b/\b<w'.heap.size)
  (hap:∀i j oi oj gi gj b,look uo Gs i oi gi->look uo Gs j oj gj->oi.live=true->oj.live=true->gi.F b->gj.F b->i=j)
  (ok:bR w (env B s.o G w) w' (env B (s.o++uo) (G++Gs) w')->∀j ob g,look uo Gs j ob g->ob.live=true->Ff w' (env B (s.o++uo) (G++Gs) w') ob g) (same:iW w w':=by first|exact⟨rfl,rfl,rfl⟩|exact iM _ _ _ _):
  bU B ⟨s.t,s.o++uo⟩ (G++Gs) a w'/\bR w (env B s.o G w) w' (env B (s.o++uo) (G++Gs) w'):=by
 have k:bR w (env B s.o G w) w' (env B (s.o++uo) (G++Gs) w'):=by
  refine uF hs (λb hb=>⟨lY r hb,iN b (lY r hb)⟩) r.len ?_ ?_
  .intro j oj gj hj;exact⟨oj,gj,iO hj,cX _,λh=> .inl h,λhjl=>⟨hjl,rfl,λ_=>⟨rfl,rfl,rfl⟩,λb hf hne=>⟨hf,hne,iN b (r.fresh j oj gj b hj hjl hf).2⟩⟩⟩
  .intro j oj gj b hj hjl hf;rcases jV r.len hj with⟨_,h⟩|⟨_,h⟩
   .exact .inr ⟨j,oj,gj,h,hjl,hf⟩
   .exact .inl (hF _ _ _ b h hjl hf).1
 refine⟨r.next k (by simp[r.len,hlen]) ?_ ?_ ?_ hs ?_ same,k⟩
 .intro j oj gj hj hjl;rcases jV r.len hj with⟨_,h⟩|⟨_,h⟩
  .exact (r.ok j oj gj h hjl).keeps k (λb hb=>iN b (r.fresh j oj gj b h hjl hb).2)
  .exact ok k _ _ _ h hjl
 .intro j1 j2 o1 o2 g1 g2 b h1 h2 hl1 hl2 hf1 hf2;rcases jV r.len h1 with⟨_,h1⟩|⟨hj1,h1⟩<;>rcases jV r.len h2 with⟨_,h2⟩|⟨hj2,h2⟩
  .exact r.apart _ _ _ _ _ _ b h1 h2 hl1 hl2 hf1 hf2
  .have:=(r.fresh _ _ _ b h1 hl1 hf1).2;have:=(hF _ _ _ b h2 hl2 hf2).1;omega
  .have:=(r.fresh _ _ _ b h2 hl2 hf2).2;have:=(hF _ _ _ b h1 hl1 hf1).1;omega
  .have:=hap _ _ _ _ _ _ b h1 h2 hl1 hl2 hf1 hf2;omega
 .intro j oj gj b hj hjl hf;rcases jV r.len hj with⟨_,h⟩|⟨_,h⟩
  .have:=r.fresh _ _ _ b h hjl hf;exact⟨this.1,fS this.2 hs⟩
  .have:=hF _ _ _ b h hjl hf;exact⟨.inr (fW r.size this.1),this.2⟩
 .intro b hb hO;exact iN b (fS hb r.size)
def slN(P:Program):Nat->TypeId->List Nat
 |0,_=>[]
 |f+1,t=>match P.underlying t with
  |some (.slice e)=>[P.cellsOf e]
  |some (.struct fs)=>fs.toList.flatMap λx=>slN P f x.type
  |some (.array n e)=>(replicate n (slN P f e)).flatten
  |_=>[0]
def X8(n:Nat):AV->AV
 | .sl .own _ []=> .sl .own n []
 |x=>x
def PE:List AV->List Nat->List AV
 |x::xs,n::ns=>X8 n x::PE xs ns
 |xs,[]=>xs
 |[],_=>[]
theorem X9(w:World)(E:Env)(n:Nat)(v:Value):R w E (X8 n (Zq v)) v []:=by unfold Zq;split<;>simp[X8,R,Rc,maxLen]
theorem CJ(w:World)(E:Env):∀(vs:List Value) (ns:List Nat),Rc w E (PE (vs.map Zq) ns) vs []
 |[],[]=>by simp[PE,Rc]
 |[],_::_=>by simp[PE,Rc]
 |v::vs,[]=>by
  have:=CJ w E vs [];have e:PE (vs.map Zq) []=vs.map Zq:=by cases vs<;>rfl
  rw[e]at this;simp only[mS,PE,Rc];exact⟨[],[],M5 w E v,this,rfl⟩
 |v::vs,n::ns=>by simp only[mS,PE,Rc];exact⟨[],[],X9 w E n v,CJ w E vs ns,rfl⟩
def nC(P:Program)(t:TypeId):Option (List AV):=
 match (P.info? t).bind (·.zero)with
 |some v=>if v.cells.toList.all (·.oneCell')then some (PE (v.cells.toList.map Zq) (slN P 8 t))else none
 |none=>none
def nK(P:Program)(t:TypeId):Option (TypeId×Nat×Nat):=
 match P.underlying t with
 |some (.slice e)=>(P.info? e).map λi=>(e,i.size,i.bytes)
 |_=>none
def Gy(P:Program)(t:TypeId)(f:Nat):Option Nat:=
 match P.underlying t with
 |some (.struct fs)=>match fs[f]? with
  |some fd=>match P.info? fd.type with
   |some i=>if i.size=0 then none else some fd.offset
   |none=>none
  |none=>none
 |_=>none
def AV.cells:AV->List AV
 | .agg c=>c
 |x=>[x]
def AV.known:AV->Bool
 | .undef=>false
 | .fH _=>false
 | .sl (.iF _) _ _=>false
 | .eF (.iF _) _ _=>false
 | .obj _ _=>false
 | .ptr _ _ _ _=>false
 |_=>true
def AV.isObj(o:List aD)(i ver:Nat):Option aD:=
 match o[i]? with
 |some ob=>if ob.live=true/\ob.ver=ver then some ob else none
 |none=>none
def AV.fit(o:List aD):AV->Bool
 | .undef=>false
 | .fH _=>false
 | .sl (.iF i) _ _=>match o[i]? with
  |some ob=>ob.live
  |none=>false
 | .eF (.iF i) _ _=>match o[i]? with
  |some ob=>ob.live
  |none=>false
 | .obj i ver=>(AV.isObj o i ver).isSome
 | .ptr i ver _ _=>(AV.isObj o i ver).isSome
 |_=>true
theorem JS{P:Program}[aB P]{B:eP P}{o:List aD}{G:List CO}{w:World}{x:AV}{v:Value}{fp:List Nat}(hf:x.fit o=true)(h:R w (env B o G w) x v fp):
  Rc w (env B o G w) x.cells v.cells.toList fp/\(∀c∈v.cells.toList,c.oneCell'=true)/\(∀c,x= .agg c->∃cs,v= .agg cs)/\((∀c,x≠ .agg c)->v.cells=#[v]/\v.oneCell'=true):=by
 have one:∀{x:AV} {v:Value} {fp:List Nat},R w (env B o G w) x v fp->x.cells=[x]->v.cells=#[v]->v.oneCell'=true->(∀c,x≠ .agg c)->
   Rc w (env B o G w) x.cells v.cells.toList fp/\(∀c∈v.cells.toList,c.oneCell'=true)/\(∀c,x= .agg c->∃cs,v= .agg cs)/\((∀c,x≠ .agg c)->v.cells=#[v]/\v.oneCell'=true):=by
  intro x v fp h h1 h2 h3 h4;rw[h1,h2];refine⟨by simp only[Rc];exact⟨fp,[],h,rfl,by simp⟩,by simpa using h3,λc hc=>absurd hc (h4 c),λ_=>⟨rfl,h3⟩⟩
 cases x with
 |int k n=>have h':=h;simp only[R]at h';obtain⟨rfl,_⟩:=h';exact one h rfl rfl rfl (by simp)
 |bool b=>have h':=h;simp only[R]at h';obtain⟨rfl,_⟩:=h';exact one h rfl rfl rfl (by simp)
 |str b=>have h':=h;simp only[R]at h';obtain⟨rfl,_⟩:=h';exact one h rfl rfl rfl (by simp)
 |sl g n l=>
  have h':=h;simp only[R]at h';rcases h' with⟨hd,_⟩|⟨a,cap,rfl,_⟩
  .cases g with
   |own=>exact hd.elim
   |view=>exact hd.elim
   |iF i=>simp only[AV.fit]at hf;exfalso;refine hd (λob qX=> ?_);simpa [qX]using hf
  .exact one h rfl rfl rfl (by simp)
 |eF g c off=>
  have h':=h;simp only[R]at h';rcases h' with⟨hd,_⟩|⟨_,b,o,cs,rfl,_⟩
  .cases g with
   |own=>exact hd.elim
   |view=>exact hd.elim
   |iF i=>simp only[AV.fit]at hf;exfalso;refine hd (λob qX=> ?_);simpa [qX]using hf
  .exact one h rfl rfl rfl (by simp)
 |obj i ver=>
  have h':=h;simp only[R]at h';obtain⟨_,ob,g,hl,_,hh,_⟩:=h';simp only[AV.fit,AV.isObj,hl.1]at hf;split at hf
  .rename_i hc;have:=hh hc.1 hc.2;subst this;exact one h rfl rfl rfl (by simp)
  .cases hf
 |ptr i ver idx off=>
  have h':=h;simp only[R]at h';obtain⟨_,ob,g,hl,_,hh,_⟩:=h';simp only[AV.fit,AV.isObj,hl.1]at hf;split at hf
  .rename_i hc;obtain⟨b,f,_,rfl⟩:=hh hc.1 hc.2;exact one h rfl rfl rfl (by simp)
  .cases hf
 |agg c=>simp only[R]at h;obtain⟨cs,rfl,ho,hr⟩:=h;exact⟨by simpa [AV.cells,Value.cells]using hr,by simpa [Value.cells]using ho,λ_ _=>⟨_,rfl⟩,λhne=>absurd rfl (hne c)⟩
 |fH c=>cases hf
 |fn f c=>have h':=h;simp only[R]at h';obtain⟨_,cs,rfl,_⟩:=h';exact one h rfl rfl rfl (by simp)
 |undef=>cases hf
def Step(P:Program)[aB P](B:eP P)(o:Oper)(s s':AS):Prop:=
 ∀a w next Q,Rel B s a w->(∀a' w',Rel B s' a' w'->next a' w')->o.wp P a w next Q
theorem rG{P:Program}[aB P]{B:eP P}{o:Oper}{s s':AS}
  (h:∀G a w,bU B s G a w->∃v w',(execOp a.eval o).run P w= .ok (.value v) w'/\Rel B s' (a.put o.dst v) w'):Step P B o s s':=by
 rintro a w next Q ⟨G,r⟩ hn
 obtain⟨v,w',hr,hrel⟩:=h G a w r;unfold Oper.wp;rw[hr];exact hn _ _ hrel
theorem Kn{P:Program}[aB P]{B:eP P}{o:Oper}{s s':AS}
  (h:∀G a w,bU B s G a w->∃w',(execOp a.eval o).run P w= .ok .skip w'/\Rel B s' (a.put o.dst Go.undef) w'):Step P B o s s':=by
 rintro a w next Q ⟨G,r⟩ hn
 obtain⟨w',hr,hrel⟩:=h G a w r;unfold Oper.wp;rw[hr];exact hn _ _ hrel
theorem bY{P:Program}[aB P]{B:eP P}{o:Oper}{s:AS}{x:AV}
  (h:∀G a w,bU B s G a w->∃v,(execOp a.eval o).run P w= .ok (.value v) w/\R w (env B s.o G w) x v []):Step P B o s (s.put o.dst x):=
 rG λG a w r=>let⟨v,hr,hx⟩:=h G a w r;⟨v,w,hr,G,r.put o.dst hx⟩
section
variable{P:Program}[aB P]{B:eP P}{s:AS}{dst:Option Tmp}{ty:TypeId}{pos:String}{after:Array Edge}{gd:Option (Nat × Bool)}
theorem XB(x:Operand):Step P B ⟨dst,.move x,ty,pos,after,gd⟩ s (s.put dst (s.ev x)):=
 bY λ_ a _ r=>⟨a.eval x,rfl,r.ev x⟩
theorem Rw(x:Operand):Step P B ⟨dst,.assign x,ty,pos,after,gd⟩ s (s.put dst (s.ev x)):=
 bY λ_ a _ r=>⟨a.eval x,rfl,r.ev x⟩
def AS.box(s:AS)(d:Option Tmp)(c:List AV):AS:=AS.put ⟨s.t,s.o++[⟨true,true,c.length,0,[c]⟩]⟩ d (.ptr s.o.length 0 0 0)
theorem heap_alloc(w:World)(o:Obj)(b:Nat)(h:b<w.heap.size):(w.alloc o).heap[b]? =w.heap[b]?:=heap_alloc_old w o h
theorem eU(w:World)(o:Obj):(w.alloc o).heap[w.heap.size]? =some o:=heap_alloc_new w o
theorem bU.aC3{G:List CO}{a:Act}{w:World}(r:bU B s G a w)(ob:aD)(cap:Nat)(C:Array Value)(e:TypeId)
  (hl:ob.dY.length<=cap) (nQ:cap<=maxLen) (hC:cap*ob.n<=C.size)
  (hr:∀w' E',bR w ((env B s.o G w).of ob.box) w' E'->w'.heap[w.heap.size]? =some (.cells C e (0,0))->Rr w' E' ob.dY w.heap.size 0 ob.n []):
  ∃G',bU B ⟨s.t,s.o++[ob]⟩ G' a (w.alloc (.cells C e))/\bR w (env B s.o G w) (w.alloc (.cells C e)) (env B (s.o++[ob]) G' (w.alloc (.cells C e)))/\
   G'[s.o.length]? =some ⟨some ⟨w.heap.size,0,none⟩,cap,λb=>b=w.heap.size⟩:=by
 refine⟨G++[⟨some ⟨w.heap.size,0,none⟩,cap,λb=>b=w.heap.size⟩],?_⟩;have:=r.add [ob] [⟨some ⟨w.heap.size,0,none⟩,cap,λb=>b=w.heap.size⟩] (w.alloc (.cells C e)) rfl (by simp) (λb hb=>heap_alloc w _ b hb) ?_ ?_ ?_
 .refine ⟨this.1,this.2,?_⟩;rw[<-r.len];simp
 .rintro j x y b ⟨h1,h2⟩ _ hf;cases j with
  |zero=>simp at h2;subst h2;simp at hf;subst hf;simp
  |succ j=>simp at h2
 .rintro i j _ _ _ _ b ⟨h1,_⟩ ⟨h2,_⟩ _ _ _ _;cases i<;>cases j<;>simp_all
 .rintro k j x y ⟨h1,h2⟩ _;cases j with
  |zero=>simp at h1 h2;subst h1;subst h2;refine⟨[w.heap.size],⟨fW hl nQ,.inr ⟨w.heap.size,0,C,e,(0,0),[],rfl,eU w _,.inr rfl,by simpa using hC,hl,nQ,rfl,?_⟩⟩,by simp,by simp⟩;exact hr _ _ (k.of ob.box) (eU w _)
  |succ j=>simp at h1
theorem NY{o:List aD}{G':List CO}{ob:aD}{g:CO}(h:G'[o.length]? =some g):look (o++[ob]) G' o.length ob g:=⟨by simp,h⟩
theorem Ed(P:Program)(w:World)(t:TypeId)(v:Value):(newVar t v).run P w= .ok ⟨w.heap.size,0,none⟩ (w.alloc (.cells v.cells t)):=by simp[newVar,newRow]
theorem bU.boxed{G:List CO}{a:Act}{w:World}(r:bU B s G a w)(d:Option Tmp){c:List AV}{cs:Array Value}(t:TypeId)(ho:∀x∈cs.toList,x.oneCell'=true)
  (hr:Rc w (env B s.o G w) c cs.toList []):Rel B (s.box d c) (a.put d (.pointer (some ⟨w.heap.size,0,none⟩))) (w.alloc (.cells cs t)):=by
 have hl:=eG hr;obtain⟨G',r',k,hG⟩:=r.aC3 ⟨true,true,c.length,0,[c]⟩ 1 cs t (by simp) (by simp[maxLen]) (by simpa using rB hl.symm) (λw' E' k hb=>by
  simp only[Rr];refine⟨cs.toList,[],[],by simpa using hl,?_,ho,dC k _ _ _ (by simp) hr,rfl,rfl⟩;intro j v hv;simp[World.cell?,hb];simpa using hv)
 refine⟨G',?_⟩;exact r'.put d (by
  simp only[R];exact⟨trivial,_,_,NY hG,cX _,λ_ _=>⟨w.heap.size,0,rfl,by simp⟩,λ_ h=>by cases h⟩)
theorem bU.aC4{G:List CO}{a:Act}{w:World}(r:bU B s G a w)(d:Option Tmp){c:List AV}{cs:Array Value}(t:TypeId){i:Nat}(hi:s.o[i]? =some ⟨true,false,c.length,0,[]⟩)(ho:∀x∈cs.toList,x.oneCell'=true)
  (hr:Rc w (env B s.o G w) c cs.toList []):Rel B (AS.put ⟨s.t,s.o.set i ⟨true,true,c.length,1,[c]⟩⟩ d (.ptr i 1 0 0)) (a.put d (.pointer (some ⟨w.heap.size,0,none⟩))) (w.alloc (.cells cs t)):=by
 have hl:=eG hr;have hlt:i<G.length:=by rw[r.len];exact(cA.1 hi).1
 have hlk:Aw.look s.o G i ⟨true,false,c.length,0,[]⟩ G[i]:=⟨hi,aE hlt⟩;generalize G[i]=g at hlk;have hm:=r.modify hlk rfl ⟨true,true,c.length,1,[c]⟩ ⟨some ⟨w.heap.size,0,none⟩,1,λb=>g.F b\/b=w.heap.size⟩ (w.alloc (.cells cs t)) (by simp) rfl (λh=>by simp at h)
  (λb hb=>by
   rcases hb with hb|rfl
   .exact .inl hb
   .exact .inr ⟨cX _,by simp⟩)
  (λb hb _=>⟨.inl hb,λx hx=>by
   obtain rfl:=cD hx;have:=(r.fresh _ _ _ b hlk rfl hb).2;simp;omega⟩)
  (λb hb _=>heap_alloc w _ b hb) (by simp) (λk _=>by
   refine⟨[w.heap.size],⟨by simp[maxLen],.inr ⟨w.heap.size,0,cs,t,(0,0),[],rfl,eU w _,.inr rfl,by simpa using rB hl.symm,by simp,by simp[maxLen],rfl,?_⟩⟩,by simp,by simp⟩;simp only[Env.of,eI,Rr];refine⟨cs.toList,[],[],by simpa using hl,?_,ho,dC k _ _ _ (by simp) hr,rfl,rfl⟩;intro j v hv;have hb:=eU w (Obj.cells cs t);simp only[World.cell?,hb];simpa using hv) (by exact⟨rfl,rfl,rfl⟩) (λ_=> .inr (by simp))
 have hl2:Aw.look (s.o.set i ⟨true,true,c.length,1,[c]⟩) (G.set i ⟨some ⟨w.heap.size,0,none⟩,1,λb=>g.F b\/b=w.heap.size⟩) i ⟨true,true,c.length,1,[c]⟩ ⟨some ⟨w.heap.size,0,none⟩,1,λb=>g.F b\/b=w.heap.size⟩:=uW hlk;refine⟨_,hm.1.put d ?_⟩;simp only[R];exact⟨trivial,_,_,hl2,cX _,λ_ _=>⟨w.heap.size,0,rfl,by simp⟩,λ_ h=>by cases h⟩
theorem Zr(t:TypeId)(x:Operand)(hx:(s.ev x).fit s.o=true):Step P B ⟨dst,.box t x,ty,pos,after,gd⟩ s (s.box dst (s.ev x).cells):=
 rG λG a w r=>by have h:=JS hx (r.ev x);exact⟨_,_,by simp[execOp,Instr.box,Ed],r.boxed dst t h.2.1 h.1⟩
theorem UF(t:TypeId){z:List AV}(hz:nC P t=some z):Step P B ⟨dst,.alloc t,ty,pos,after,gd⟩ s (s.box dst z):=
 rG λG a w r=>by
  unfold nC at hz;cases hi:P.info? t with
  |none=>simp[hi]at hz
  |some i=>
   cases hv:i.zero with
   |none=>simp[hi,hv]at hz
   |some v=>
    simp only[hi,hv,sB]at hz;split at hz
    .rename_i hall;obtain rfl:=cD hz;refine⟨_,_,by simp[execOp,Instr.alloc,zeroValue,typeInfo,hi,hv,Ed],r.boxed dst t (gR.1 hall) (CJ w _ _ _)⟩
    .cases hz
theorem PG(t:TypeId){z:List AV}{i:Nat}(hz:nC P t=some z)(hi':s.o[i]? =some ⟨true,false,z.length,0,[]⟩):Step P B ⟨dst,.alloc t,ty,pos,after,gd⟩ s (AS.put ⟨s.t,s.o.set i ⟨true,true,z.length,1,[z]⟩⟩ dst (.ptr i 1 0 0)):=
 rG λG a w r=>by
  unfold nC at hz;cases hi:P.info? t with
  |none=>simp[hi]at hz
  |some i=>
   cases hv:i.zero with
   |none=>simp[hi,hv]at hz
   |some v=>
    simp only[hi,hv,sB]at hz;split at hz
    .rename_i hall;obtain rfl:=cD hz;refine⟨_,_,by simp[execOp,Instr.alloc,zeroValue,typeInfo,hi,hv,Ed],r.aC4 dst t hi' (gR.1 hall) (CJ w _ _ _)⟩
    .cases hz
theorem UG{t:List AV}{o:List aD}{a:Act}{w:World}(ns:List Nat)(h:Rel B ⟨t,o⟩ a w):Rel B ⟨t,o++ns.map λn=>⟨true,false,n,0,[]⟩⟩ a w:=by
 obtain⟨G,r⟩:=h;have:=r.add (ns.map λn=>⟨true,false,n,0,[]⟩) (ns.map λ_=>⟨none,0,λ_=>False⟩) w (by simp) (cX _) (λ_ _=>rfl)
  (λj ob g b hl _ hF=>by
   obtain⟨_,h2⟩:=hl;simp only[tB]at h2;cases hn:ns[j]? with
   |none=>simp[hn]at h2
   |some n=>simp[hn]at h2;subst h2;exact hF.elim)
  (λi j oi oj gi gj b hl _ _ _ hF _=>by
   obtain⟨_,h2⟩:=hl;simp only[tB]at h2;cases hn:ns[i]? with
   |none=>simp[hn]at h2
   |some n=>simp[hn]at h2;subst h2;exact hF.elim)
  (λk j ob g hl _=>by
   obtain⟨h1,h2⟩:=hl;simp only[tB]at h1 h2;cases hn:ns[j]? with
   |none=>simp[hn]at h2
   |some n=>
    simp[hn]at h1 h2;subst h1;subst h2;exact⟨[],⟨by simp[maxLen],.inl ⟨rfl,rfl,rfl⟩⟩,by simp,by simp⟩) (by exact⟨rfl,rfl,rfl⟩)
 exact⟨_,this.1⟩
def Ao(i:Nat):Tg->Option Tg
 | .own=>some (.iF i)
 |g=>some g
theorem UH{P:Program}[aB P]{B:eP P}{o:List aD}{G:List CO}{w:World}{i:Nat}{ob:aD}{g:CO}(hl:look o G i ob g)(hlive:ob.live=true)(box:Bool):
  jX (Ao i) true ((env B o G w).of box) (env B o G w) (λb=>g.F b/\∀a,g.a=some a->b≠a.block) where
 own t e:=by obtain rfl:=cD e;exact⟨by simp,λb hb=>⟨ob,g,hl,hlive,hb.1,hb.2⟩⟩
 view t e:=by obtain rfl:=cD e;exact⟨rfl,λb hb=>by cases box<;>exact hb⟩
 iF j t e:=by
  obtain rfl:=cD e;refine⟨by simp,?_,λb hb=> ?_⟩
  .by_cases h:(env B o G w).V j
   .left;cases box
    .trivial
    .exact h
   .right;exact h
  .cases box
   .exact hb.elim
   .exact hb
 hh _ j v x h:=by cases box;exact h.elim;exact h
 hl _ j v k q x h:=by cases box;exact h.elim;exact h
theorem iG{o:List aD}{i ver:Nat}{ob:aD}(h:AV.isObj o i ver=some ob):o[i]? =some ob/\ob.live=true/\ob.ver=ver:=by
 unfold AV.isObj at h;split at h
 .rename_i x hx;split at h
  .rename_i hc;obtain rfl:=cD h;exact⟨hx,hc⟩
  .cases h
 .cases h
theorem bU.look{P:Program}[aB P]{B:eP P}{s:AS}{G:List CO}{a:Act}{w:World}(r:bU B s G a w){i:Nat}{ob:aD}(h:s.o[i]? =some ob):∃g,look s.o G i ob g:=by
 have hi:i<G.length:=by rw[r.len];exact(cA.1 h).1
 exact⟨G[i],h,aE hi⟩
theorem bU.elem{P:Program}[aB P]{B:eP P}{s:AS}{G:List CO}{a:Act}{w:World}(r:bU B s G a w){i idx:Nat}{ob:aD}{g:CO}{e:List AV}(hl:Aw.look s.o G i ob g)(hlive:ob.live=true)(he:ob.dY[idx]? =some e):
  ∃b f cs,g.a=some ⟨b,f,none⟩/\cs.length=ob.n/\bA w b (f+idx*ob.n) cs/\(∀x∈cs,x.oneCell'=true)/\Rc w (env B s.o G w) (pM (Ao i) true e) cs []:=by
 obtain⟨fp,⟨_,h⟩,hnd,hF⟩:=r.ok i ob g hl hlive;rcases h with⟨h,_⟩|⟨b,f,C,ty,fz,nA,ha,hb,hz,h1,h2,h3,rfl,hr⟩
 .rw [h]at he;simp at he
 obtain⟨f1,f2,f3,cs,rfl,hn,hc,ho,rF,_,_⟩:=Am hr he;refine⟨b,f,cs,ha,hn,hc,ho,?_⟩;refine uD (UH hl hlive ob.box) e cs f2 (λx hx=>⟨hF x (by simp[hx]),λa' uB=> ?_⟩) rF;rw[ha]at uB;obtain rfl:=cD uB;simp only[hY]at hnd;rintro rfl;exact hnd.1 (by simp[hx])
theorem Ko{w:World}{E:Env}{c:List AV}{cs:List Value}(off n:Nat)(h:Rc w E c cs []):Rc w E ((c.drop off).take n) ((cs.drop off).take n) []:=by
 obtain⟨f1,f2,e,_,h2⟩:=oZ off h;obtain⟨rfl,rfl⟩:f1=[]/\f2=[]:=by simpa using e.symm
 obtain⟨f1,f2,e,h3,_⟩:=oZ n h2;obtain⟨rfl,rfl⟩:f1=[]/\f2=[]:=by simpa using e.symm
 exact h3
theorem CK{cs:List Value}{off n:Nat}(ho:∀x∈cs,x.oneCell'=true):∀x∈(cs.drop off).take n,x.oneCell'=true:=
 λx hx=>ho x (AD (AE hx))
theorem bA.slice{w:World}{b off:Nat}{cs:List Value}(k n:Nat)(h:bA w b off cs):bA w b (off+k) ((cs.drop k).take n):=h.drop.take
theorem Ap(f:Tg->Option Tg)(h:Bool):∀c,(pM f h c).length=c.length
 |[]=>rfl
 |_::xs=>by simp[pM,Ap f h xs]
theorem pV{P:Program}{w:World}{t:TypeId}{b off k n:Nat}{cs:List Value}(ht:iZ P t=some n)(hfit:k+n<=cs.length)(h:bA w b off cs):
  (Instr.loadAt t (.pointer (some ⟨b,off+k,none⟩))).run P w= .ok (.agg ((cs.drop k).take n).toArray) w:=by
 have hl:((cs.drop k).take n).length=n:=by simp;omega
 simpa [Instr.loadAt,Instr.sureAddr]using Pz (P:=P) (t:=t) (by rw[hl];exact ht) (h.slice k n)
theorem sS{P:Program}{w:World}{t:TypeId}{b off k:Nat}{cs:List Value}{v:Value}(ht:mO P t=true)(hv:cs[k]? =some v)(h:bA w b off cs):
  (Instr.loadAt t (.pointer (some ⟨b,off+k,none⟩))).run P w= .ok v w:=by
 have:(cs.drop k).take 1=[v]:=by obtain⟨hk,rfl⟩:=cA.1 hv;rw[mB hk,kO,sC]
 have h1:=h.slice k 1;rw[this]at h1;simpa [Instr.loadAt,Instr.sureAddr]using PD (P:=P) (t:=t) ht h1
theorem bU.ptr{G:List CO}{a:Act}{w:World}(r:bU B s G a w){x:Operand}{i ver idx off:Nat}{ob:aD}(hx:s.ev x= .ptr i ver idx off)(ho:AV.isObj s.o i ver=some ob):
  ∃g b f,Aw.look s.o G i ob g/\ob.live=true/\g.a=some ⟨b,f,none⟩/\a.eval x= .pointer (some ⟨b,f+(idx*ob.n+off),none⟩):=by
 have h:=r.ev x;rw[hx]at h;simp only[R]at h;obtain⟨_,dH,g,hl,_,hh,_⟩:=h;obtain⟨h1,h2,h3⟩:=iG ho;obtain rfl:=cD (hl.1.symm.trans h1);obtain⟨b,f,ha,hv⟩:=hh h2 h3;exact⟨g,b,f,hl,h2,ha,hv⟩
theorem bU.Y0{G:List CO}{a:Act}{w:World}(r:bU B s G a w){x:Operand}{i ver idx off:Nat}{ob:aD}{g:CO}(hx:s.ev x= .ptr i ver idx off)(ho:AV.isObj s.o i ver=some ob)(hg:Aw.look s.o G i ob g):
  ob.box=true->ver=2->idx=0->off=0->∀y,B.p0 i=some y->a.eval x=y.1/\(ob.live=true->ob.ver=2->g.cap=y.2):=by
 have h:=r.ev x;rw[hx]at h;simp only[R]at h;obtain⟨_,dH,g',hl,_,_,hz⟩:=h;obtain⟨h1,h2,h3⟩:=iG ho;obtain rfl:=cD (hl.1.symm.trans h1);obtain rfl:=cD (hl.2.symm.trans hg.2);exact hz
theorem Fg(t:TypeId)(x:Operand){i ver idx off n:Nat}{ob:aD}{e:List AV}(hx:s.ev x= .ptr i ver idx off)(ho:AV.isObj s.o i ver=some ob)(he:ob.dY[idx]? =some e)
  (hn:iZ P t=some n) (hfit:off+n<=e.length):Step P B ⟨dst,.load t x,ty,pos,after,gd⟩ s (s.put dst (.agg ((pM (Ao i) true e).drop off |>.take n))):=
 bY λG a w r=>by
  obtain⟨g,b,f,hl,hlive,ha,hv⟩:=r.ptr hx ho;obtain⟨b',f',cs,uB,hcn,hc,hone,rF⟩:=r.elem hl hlive he;rw[ha]at uB;simp only[cQ,lA,mN]at uB;obtain⟨rfl,rfl⟩:=uB;have hle:=eG rF;rw[Ap]at hle;refine⟨.agg ((cs.drop off).take n).toArray,?_,?_⟩
  .simp only[execOp,hv,<-mA];simp[pV (P:=P) (k:=off) (n:=n) (cs:=cs) hn (by omega) hc]
  .simp only[R];exact⟨_,rfl,CK hone,Ko off n rF⟩
theorem Fh(t:TypeId)(x:Operand){i ver idx off:Nat}{ob:aD}{e:List AV}{y:AV}(hx:s.ev x= .ptr i ver idx off)(ho:AV.isObj s.o i ver=some ob)(he:ob.dY[idx]? =some e)
  (hn:mO P t=true) (hy:(pM (Ao i) true e)[off]? =some y):Step P B ⟨dst,.load t x,ty,pos,after,gd⟩ s (s.put dst y):=
 bY λG a w r=>by obtain⟨g,b,f,hl,hlive,ha,hv⟩:=r.ptr hx ho;obtain⟨b',f',cs,uB,hcn,hc,hone,rF⟩:=r.elem hl hlive he;rw[ha]at uB;simp only[cQ,lA,mN]at uB;obtain⟨rfl,rfl⟩:=uB;obtain⟨v,hv',hR⟩:=Gx rF hy;refine⟨v,?_,hR⟩;simp only[execOp,hv,<-mA];simp[sS (P:=P) hn hv' hc]
theorem bU.eF{G:List CO}{a:Act}{w:World}(r:bU B s G a w){x:Operand}{g:Tg}{c:List AV}{off:Nat}(hx:s.ev x= .eF g c off)(hf:(AV.eF g c off).fit s.o=true):
  ∃b o cs,a.eval x= .pointer (some ⟨b,o+off,none⟩)/\bA w b o cs/\(∀x∈cs,x.oneCell'=true)/\Rc w (env B s.o G w) c cs []:=by
 have h:=r.ev x;rw[hx]at h;simp only[R]at h;rcases h with⟨hd,_⟩|⟨_,b,o,cs,hv,ht,hcs,hc,hr⟩
 .cases g with
  |own=>exact hd.elim
  |view=>exact hd.elim
  |iF i=>simp only[AV.fit]at hf;exfalso;refine hd (λob qX=> ?_);simpa [qX]using hf
 .refine ⟨b,o,cs,hv,hcs,hc,dC (w':=w) (E':=env B s.o G w) ?_ _ _ _ (by simp) hr⟩;cases g with
  |own=>exact ht.elim
  |view=>exact⟨λ_ h=>⟨h,rfl⟩,λ_ _=>trivial,λ_ _ _ h=>h.elim,λ_ _ _ h=>h.elim,λ_ _ _ _ _ h=>h.elim⟩
  |iF i=>exact⟨λ_ h=>⟨h,rfl⟩,λ_ _=>trivial,λj b _ h=>⟨by obtain⟨rfl,h⟩:=h;exact h,rfl⟩,λ_ _ _ h=>h.elim,λ_ _ _ _ _ h=>h.elim⟩
theorem Ee(t:TypeId)(x:Operand){g:Tg}{c:List AV}{off n:Nat}(hx:s.ev x= .eF g c off)(hf:(AV.eF g c off).fit s.o=true)
  (hn:iZ P t=some n) (hfit:off+n<=c.length):Step P B ⟨dst,.load t x,ty,pos,after,gd⟩ s (s.put dst (.agg (c.drop off |>.take n))):=
 bY λG a w r=>by
  obtain⟨b,o,cs,hv,hc,hone,rF⟩:=r.eF hx hf;have hle:=eG rF;refine⟨.agg ((cs.drop off).take n).toArray,?_,?_⟩
  .simp only[execOp,hv];simp[pV (P:=P) (k:=off) (n:=n) (cs:=cs) hn (by omega) hc]
  .simp only[R];exact⟨_,rfl,CK hone,Ko off n rF⟩
theorem Ef(t:TypeId)(x:Operand){g:Tg}{c:List AV}{off:Nat}{y:AV}(hx:s.ev x= .eF g c off)(hf:(AV.eF g c off).fit s.o=true)
  (hn:mO P t=true) (hy:c[off]? =some y):Step P B ⟨dst,.load t x,ty,pos,after,gd⟩ s (s.put dst y):=
 bY λG a w r=>by obtain⟨b,o,cs,hv,hc,hone,rF⟩:=r.eF hx hf;obtain⟨v,hv',hR⟩:=Gx rF hy;refine⟨v,?_,hR⟩;simp only[execOp,hv];simp[sS (P:=P) hn hv' hc]
theorem Im{t:TypeId}{f fo:Nat}(h:Gy P t f=some fo)(w:World)(b o:Nat):(Instr.fieldAt t (.pointer (some ⟨b,o,none⟩)) f).run P w= .ok (.pointer (some ⟨b,o+fo,none⟩)) w:=by
 unfold Gy at h;split at h
 .rename_i fs hu;split at h
  .rename_i fd hfd;split at h
   .rename_i inf hi;split at h
    .cases h
    .rename_i hz;obtain rfl:=cD h;simp[Instr.fieldAt,fL hu,hfd,Instr.sureAddr,fieldPlace,sizeOf,typeInfo,hi,hz,addr_add]
   .cases h
  .cases h
 .cases h
theorem Kq(t:TypeId)(x:Operand)(f:Nat){i ver idx off fo:Nat}{ob:aD}(hx:s.ev x= .ptr i ver idx off)(ho:AV.isObj s.o i ver=some ob)(hf:Gy P t f=some fo):
  Step P B ⟨dst,.fieldAddr t x f,ty,pos,after,gd⟩ s (s.put dst (.ptr i ver idx (off+fo))):=
 bY λG a w r=>by
  obtain⟨g,b,k,hl,hlive,ha,hv⟩:=r.ptr hx ho;refine⟨.pointer (some ⟨b,k+(idx*ob.n+(off+fo)),none⟩),?_,?_⟩
  .simp only[execOp,hv];simp[Im hf,mA]
  .simp only[R];obtain⟨h1,h2,h3⟩:=iG ho;refine⟨trivial,ob,g,hl,rB h3.symm,λ_ _=>⟨b,k,ha,rfl⟩,λe1 e2 e3 e4 y hy=> ?_⟩;have h0:off=0:=by omega
   have h0':fo=0:=by omega
   have:=r.Y0 hx ho hl e1 e2 e3 h0 y hy;exact⟨by rw[<-this.1,hv,h0,h0'],this.2⟩
theorem Jm(t:TypeId)(x:Operand)(f:Nat){g:Tg}{c:List AV}{off fo:Nat}(hx:s.ev x= .eF g c off)(hfit:(AV.eF g c off).fit s.o=true)(hf:Gy P t f=some fo):
  Step P B ⟨dst,.fieldAddr t x f,ty,pos,after,gd⟩ s (s.put dst (.eF g c (off+fo))):=
 bY λG a w r=>by
  obtain⟨b,o,cs,hv,hc,hone,rF⟩:=r.eF hx hfit;refine⟨.pointer (some ⟨b,o+(off+fo),none⟩),?_,?_⟩
  .simp only[execOp,hv];simp[Im hf,mA]
  .have h:=r.ev x;rw[hx]at h;simp only[R]at h⊢;rcases h with h|⟨h1,b',o',cs',hv',ht,hcs,hc',hr⟩
   .exact .inl ⟨h.1,trivial⟩
   .rw [hv]at hv';simp only[tA,cQ,lA,mN]at hv';refine .inr ⟨trivial,b',o',cs',?_,ht,hcs,hc',hr⟩;obtain⟨rfl,h2⟩:=hv';simp only[tA,cQ,lA,mN,true_and];omega
def Rv(w:World)(E:Env):List (List AV)->List Value->Nat->List Nat->Prop
 |[],vs,_,fp=>vs=[]/\fp=[]
 |e::es,vs,n,fp=>∃cs rest f1 f2,vs=cs++rest/\cs.length=n/\(∀x∈cs,x.oneCell'=true)/\Rc w E e cs f1/\Rv w E es rest n f2/\fp=f1++f2
theorem bA.append{w:World}{b off:Nat}{c1 c2:List Value}:bA w b off (c1++c2)↔bA w b off c1/\bA w b (off+c1.length) c2:=by
 constructor
 .intro h;refine⟨λj v hv=>h j v ?_,λj v hv=> ?_⟩
  .rw [nB (cA.1 hv).1];exact hv
  .have:=h (c1.length+j) v (by rw[hU (by omega)];simpa using hv)
   rwa[<-mA]at this
 .rintro ⟨h1,h2⟩ j v hv;by_cases hj:j<c1.length
  .rw [nB hj]at hv;exact h1 j v hv
  .rw [hU (by omega)]at hv;have:=h2 _ v hv
   rwa[show off+c1.length+(j-c1.length)=off+j by omega]at this
theorem rA{w:World}{E:Env}{b n:Nat}:∀{l:List (List AV)} {off:Nat} {fp:List Nat},Rr w E l b off n fp↔∃vs,Rv w E l vs n fp/\bA w b off vs
 |[],off,fp=>by simp only[Rr,Rv];exact⟨λh=>⟨[],⟨rfl,h⟩,λj v hv=>by simp at hv⟩,λ⟨_,h,_⟩=>h.2⟩
 |e::es,off,fp=>by
  simp only[Rr,Rv,rA (l:=es)];constructor
  .rintro ⟨cs,f1,f2,hn,hc,ho,h1,⟨vs,h2,h3⟩,rfl⟩;refine⟨cs++vs,⟨cs,vs,f1,f2,rfl,hn,ho,h1,h2,rfl⟩,bA.append.2 ⟨hc,by rw[hn];exact h3⟩⟩
  .rintro ⟨_,⟨cs,vs,f1,f2,rfl,hn,ho,h1,h2,rfl⟩,h3⟩;have:=bA.append.1 h3;exact⟨cs,f1,f2,hn,this.1,ho,h1,⟨vs,h2,by rw[<-hn];exact this.2⟩,rfl⟩
theorem jL{w:World}{E:Env}{n:Nat}:∀{l:List (List AV)} {vs:List Value} {fp:List Nat},Rv w E l vs n fp->vs.length=l.length*n
 |[],_,_,h=>by simp only[Rv]at h;simp[h.1]
 |_::es,_,_,h=>by simp only[Rv]at h;obtain⟨cs,rest,f1,f2,rfl,hn,_,_,h2,_⟩:=h;simp[jL h2,hn,oE,Nat.add_comm]
theorem Kr{w:World}{E:Env}{n:Nat}:∀{l:List (List AV)} {vs:List Value} {fp:List Nat},Rv w E l vs n fp->∀x∈vs,x.oneCell'=true
 |[],_,_,h,x,hx=>by simp only[Rv]at h;simp[h.1]at hx
 |_::es,_,_,h,x,hx=>by
  simp only[Rv]at h;obtain⟨cs,rest,f1,f2,rfl,_,ho,_,h2,_⟩:=h;rcases fR.1 hx with h|h
  .exact ho x h
  .exact Kr h2 x h
theorem wO{w:World}{E:Env}{n:Nat}{l2:List (List AV)}{v2:List Value}{g2:List Nat}(h':Rv w E l2 v2 n g2):∀{l:List (List AV)} {vs:List Value} {fp:List Nat},Rv w E l vs n fp->Rv w E (l++l2) (vs++v2) n (fp++g2)
 |[],_,_,h=>by simp only[Rv]at h;obtain⟨rfl,rfl⟩:=h;simpa using h'
 |_::es,_,_,h=>by simp only[Rv]at h;obtain⟨cs,rest,f1,f2,rfl,hn,ho,h1,h2,rfl⟩:=h;simp only[cM,Rv];exact⟨cs,rest++v2,f1,f2++g2,by simp,hn,ho,h1,wO h' h2,by simp⟩
theorem vF{w w':World}{E E':Env}(k:bR w E w' E'){n:Nat}:∀{l:List (List AV)} {vs:List Value} {fp:List Nat},(∀b∈fp,w'.heap[b]? =w.heap[b]?)->Rv w E l vs n fp->Rv w' E' l vs n fp
 |[],_,_,_,h=>by simpa [Rv]using h
 |_::es,_,_,hf,h=>by simp only[Rv]at h⊢;obtain⟨cs,rest,f1,f2,rfl,hn,ho,h1,h2,rfl⟩:=h;exact⟨cs,rest,f1,f2,rfl,hn,ho,dC k _ _ _ (λx hx=>hf x (by simp[hx])) h1,vF k (λx hx=>hf x (by simp[hx])) h2,rfl⟩
theorem Eg{P:Program}{w:World}{tS xT ty e:TypeId}{i:TypeInfo}{z:Value}(ht:P.underlying tS=some (.slice e))(hxt:∃d,P.underlying xT=some d/\∀k,d≠ .int k)(hi:P.info? e=some i)(hz:i.zero=some z)
  {base:Option Addr} {sLen sCap n:Nat} {x:Value} (hlen:(Builtin.lenOf x).run P w= .ok n w) {news olds:List Value}
  (xZ:∀w',w'.heap=w.heap->(Builtin.firstCells i.size n x).run P w'= .ok news.toArray w')
  (holds:∀w',w'.heap=w.heap->(Builtin.firstCells i.size sLen (.slice base sLen sCap)).run P w'= .ok olds.toArray w')
  (Kt:(sLen+n)*i.bytes<=140737488355328) (h63:sLen+n<=9223372036854775807):
  (sLen+n<=sCap->∀w1,(match base with
    |some a=>(storeCells (a.add (sLen*i.size)) news).run P w= .ok () w1
    |none=>w1=w)->(Builtin.append_ #[tS,xT] ty #[.slice base sLen sCap,x]).run P w= .ok (.slice base (sLen+n) sCap) w1)/\
  (sCap<sLen+n->(Builtin.append_ #[tS,xT] ty #[.slice base sLen sCap,x]).run P w=
   .ok (.slice (some ⟨w.heap.size,0,none⟩) (sLen+n) (grownCap w (sLen+n) sCap e)) (w.drew.alloc (.cells (olds.toArray++news.toArray++Builtin.zeroCells z.cells (grownCap w (sLen+n) sCap e-(sLen+n))) e))):=by
 obtain⟨d,hd,hdi⟩:=hxt;constructor
 .intro hroom w1 h1;have hn:=xZ w rfl;cases base with
  |none=>simp only at h1;subst h1;simp[Builtin.append_,fL ht,fL hd,sizeOf,typeInfo,hi,hlen,hroom,hn]
  |some a=>simp only at h1;simp[Builtin.append_,fL ht,fL hd,sizeOf,typeInfo,hi,hlen,hroom,hn,h1]
 .intro hg;have hnr:¬(sLen+n<=sCap):=by omega
  have aGn:¬(9223372036854775807<((sLen:Int)+(n:Int))):=by omega
  have hfit:=growslice_fits hg Kt;have aGo:¬(281474976710656<Builtin.nextslicecap (sLen+n) sCap*i.bytes):=by omega
  have hn:=xZ w.drew rfl;have ho:=holds w.drew rfl;simp[Builtin.append_,fL ht,fL hd,sizeOf,typeInfo,zeroValue,hi,hz,hlen,hnr,aGn,aGo,Question.forced,hn,ho,newRow,grownCap];rw[<-append_toArray,Array.append_assoc]
def aD.kill(ob:aD):aD:={ob with live:=false}
theorem bU.Rx{P:Program}[aB P]{B:eP P}{s:AS}{G:List CO}{a:Act}{w:World}(r:bU B s G a w){i j:Nat}(hij:i≠j){oi oj:aD}{gi gj:CO}(hi:Aw.look s.o G i oi gi)(hj:Aw.look s.o G j oj gj)(hil:oi.live=true)(hjl:oj.live=true):
  bU B ⟨s.t,s.o.set j oj.kill⟩ (G.set i {gi with F:=λb=>gi.F b\/gj.F b}) a w/\bR w (env B s.o G w) w (env B (s.o.set j oj.kill) (G.set i {gi with F:=λb=>gi.F b\/gj.F b}) w):=by
 have hii:Aw.look (s.o.set j oj.kill) (G.set i {gi with F:=λb=>gi.F b\/gj.F b}) i oi {gi with F:=λb=>gi.F b\/gj.F b}:=by refine⟨by rw[gO (sX hij)];exact hi.1,?_⟩;have:=(cA.1 hi.2).1;simp[this]
 have hjj:Aw.look (s.o.set j oj.kill) (G.set i {gi with F:=λb=>gi.F b\/gj.F b}) j oj.kill gj:=by refine⟨?_,by rw[gO hij];exact hj.2⟩;have:=(cA.1 hj.1).1;simp[this]
 have back:∀{k x y},Aw.look (s.o.set j oj.kill) (G.set i {gi with F:=λb=>gi.F b\/gj.F b}) k x y->x.live=true->
   k≠j/\((k=i/\x=oi/\y={gi with F:=λb=>gi.F b\/gj.F b})\/(k≠i/\Aw.look s.o G k x y)):=by
  intro k x y h hx;by_cases hk:k=j
  .subst hk;have:=(jE h hjj).1;subst this;exact absurd hx (by simp[aD.kill])
  .refine ⟨hk,?_⟩;by_cases hki:k=i
   .subst hki;exact .inl ⟨rfl,jE h hii⟩
   .refine .inr ⟨hki,?_,?_⟩
    .have:=h.1;rwa[gO (sX hk)]at this
    .have:=h.2;rwa[gO (sX hki)]at this
 have fwd:∀{k x y},k≠i->k≠j->Aw.look s.o G k x y->Aw.look (s.o.set j oj.kill) (G.set i {gi with F:=λb=>gi.F b\/gj.F b}) k x y:=by intro k x y h1 h2 h;exact⟨by rw[gO (sX h2)];exact h.1,by rw[gO (sX h1)];exact h.2⟩
 have k:bR w (env B s.o G w) w (env B (s.o.set j oj.kill) (G.set i {gi with F:=λb=>gi.F b\/gj.F b}) w):=by
  refine uF (cX _) (λb hb=>⟨lY r hb,rfl⟩) r.len ?_ ?_
  .intro k x y h;by_cases hk:k=j
   .subst hk;obtain⟨rfl,rfl⟩:=jE hj h;exact⟨_,_,hjj,cX _,λh=> .inl h,λhf=>absurd hf (by simp[aD.kill])⟩
   .by_cases hki:k=i
    .subst hki;obtain⟨rfl,rfl⟩:=jE hi h;exact⟨_,_,hii,cX _,λh=> .inl h,λ_=>⟨hil,rfl,λ_=>⟨rfl,rfl,rfl⟩,λb hb hne=>⟨.inl hb,hne,rfl⟩⟩⟩
    .exact ⟨x,y,fwd hki hk h,cX _,λh=> .inl h,λhx=>⟨hx,rfl,λ_=>⟨rfl,rfl,rfl⟩,λb hb hne=>⟨hb,hne,rfl⟩⟩⟩
  .intro k x y b h hx hf;obtain⟨_,⟨rfl,rfl,rfl⟩|⟨_,h'⟩⟩:=back h hx
   .rcases hf with hf|hf
    .exact .inr ⟨_,_,_,hi,hil,hf⟩
    .exact .inr ⟨_,_,_,hj,hjl,hf⟩
   .exact .inr ⟨_,_,_,h',hx,hf⟩
 refine⟨r.next k (by simp[r.len]) ?_ ?_ ?_ (cX _) (λ_ _ _=>rfl),k⟩
 .intro k' x y h hx;obtain⟨_,⟨rfl,rfl,rfl⟩|⟨_,h'⟩⟩:=back h hx
  .obtain ⟨fp,h1,h2,h3⟩:=(r.ok _ _ _ hi hil).keeps k (λ_ _=>rfl)
   exact⟨fp,h1,h2,λb hb=> .inl (h3 b hb)⟩
  .exact (r.ok _ _ _ h' hx).keeps k (λ_ _=>rfl)
 .intro k1 k2 x1 x2 y1 y2 b h1 h2 hx1 hx2 hf1 hf2;obtain⟨n1,⟨rfl,rfl,rfl⟩|⟨m1,h1'⟩⟩:=back h1 hx1<;>obtain⟨n2,⟨rfl,rfl,rfl⟩|⟨m2,h2'⟩⟩:=back h2 hx2
  .rfl
  .rcases hf1 with hf1|hf1
   .exact r.apart _ _ _ _ _ _ b hi h2' hil hx2 hf1 hf2
   .exact absurd (r.apart _ _ _ _ _ _ b hj h2' hjl hx2 hf1 hf2).symm n2
  .rcases hf2 with hf2|hf2
   .exact r.apart _ _ _ _ _ _ b h1' hi hx1 hil hf1 hf2
   .exact absurd (r.apart _ _ _ _ _ _ b h1' hj hx1 hjl hf1 hf2) n1
  .exact r.apart _ _ _ _ _ _ b h1' h2' hx1 hx2 hf1 hf2
 .intro k' x y b h hx hf;obtain⟨_,⟨rfl,rfl,rfl⟩|⟨_,h'⟩⟩:=back h hx
  .rcases hf with hf|hf
   .exact r.fresh _ _ _ b hi hil hf
   .exact r.fresh _ _ _ b hj hjl hf
  .exact r.fresh _ _ _ b h' hx hf
theorem rH{w:World}{b off:Nat}{C:Array Value}{e:TypeId}{fz:Nat×Nat}{vs:List Value}(hb:w.heap[b]? =some (.cells C e fz))(h:∀j v,vs[j]? =some v->C[off+j]? =some v):bA w b off vs:=by intro j v hv;simp[World.cell?,hb,h j v hv]
theorem jG{P:Program}{w:World}{b off m n len cap:Nat}{vs:List Value}(hn:vs.length=m*n)(h:bA w b off vs):
  (Builtin.firstCells n m (.slice (some ⟨b,off,none⟩) len cap)).run P w= .ok vs.toArray w:=
 run_firstCells_some w n m _ len cap vs hn (λj v hv=>by rw[addr_add];exact h j v hv)
theorem bA.heap{w w':World}{b off:Nat}{vs:List Value}(h:bA w b off vs)(hh:w'.heap=w.heap):bA w' b off vs:=h.same (by rw[hh])
theorem bU.append{P:Program}[aB P]{B:eP P}{s:AS}{G:List CO}{a:Act}{w:World}(r:bU B s G a w){i:Nat}{ob:aD}{g:CO}(hl:Aw.look s.o G i ob g)(hlive:ob.live=true)(rV:ob.box=false)
  {tS xT ty e:TypeId} {inf:TypeInfo} {z:Value} (ht:P.underlying tS=some (.slice e)) (hxt:∃d,P.underlying xT=some d/\∀k,d≠ .int k) (hi:P.info? e=some inf) (hz:inf.zero=some z) (hsz:inf.size=ob.n) (Y6:z.cells.size=ob.n)
  {x:Value} {l2:List (List AV)} {news:List Value} {fp fp2:List Nat} (hlen:(Builtin.lenOf x).run P w= .ok l2.length w)
  (xZ:∀w',w'.heap=w.heap->(Builtin.firstCells ob.n l2.length x).run P w'= .ok news.toArray w')
  (Rp:Rv w (env B s.o G w).plain l2 news ob.n fp2) (hown:oD w (env B s.o G w).plain ob.n ob.dY g.a g.cap fp) (hnd:(fp++fp2).Nodup) (hF:∀b∈fp++fp2,g.F b)
  (Kt:(ob.dY.length+l2.length)*inf.bytes<=140737488355328) (h63:ob.dY.length+l2.length<=9223372036854775807):
  ∃v w' G',(Builtin.append_ #[tS,xT] ty #[.slice g.a ob.dY.length g.cap,x]).run P w= .ok v w'/\
   bU B ⟨s.t,s.o.set i {ob with ver:=ob.ver+1,dY:=ob.dY++l2}⟩ G' a w'/\
   R w' (env B (s.o.set i {ob with ver:=ob.ver+1,dY:=ob.dY++l2}) G' w') (.obj i (ob.ver+1)) v []:=by
 obtain⟨olds,hro,hold⟩:∃olds,Rv w (env B s.o G w).plain ob.dY olds ob.n fp.tail/\
   ∀w',w'.heap=w.heap->(Builtin.firstCells inf.size ob.dY.length (.slice g.a ob.dY.length g.cap)).run P w'= .ok olds.toArray w':=by
  rcases hown.2 with⟨h1,h2,h3⟩|⟨b,off,C,yg,fz,nA,ha,hb,hz',h1,h2,h3,rfl,hr⟩
  .subst h3;refine⟨[],by simp[h1,Rv],λw' YR=> ?_⟩;rw[h1];cases hga:g.a with
   |none=>simp[Builtin.firstCells]
   |some a'=>simp[Builtin.firstCells,loadCells,loadCellsFrom]
  .obtain ⟨vs,hv,hc⟩:=rA.1 hr;refine⟨vs,hv,λw' YR=> ?_⟩;rw[ha,hsz];exact jG (jL hv) (hc.heap YR)
 obtain⟨hroom,Zt⟩:=Eg (P:=P) (w:=w) (tS:=tS) (xT:=xT) (ty:=ty) ht hxt hi hz (base:=g.a) (sLen:=ob.dY.length) (sCap:=g.cap) (x:=x) hlen (by rw[hsz];exact xZ) hold Kt h63;have hR:∀{w':World} {G':List CO} {g':CO},G'[i]? =some g'->(s.o[i]? =some ob)->R w' (env B (s.o.set i {ob with ver:=ob.ver+1,dY:=ob.dY++l2}) G' w') (.obj i (ob.ver+1)) (.slice g'.a (ob.dY.length+l2.length) g'.cap) []:=by intro w' G' g' hg' ho;simp only[R];refine⟨trivial,{ob with ver:=ob.ver+1,dY:=ob.dY++l2},g',⟨?_,hg'⟩,cX _,⟨λ_ _=>by simp,λh=>by omega⟩⟩;have:=(cA.1 ho).1;simp[this]
 have hiG:i<G.length:=(cA.1 hl.2).1;by_cases hcase:ob.dY.length+l2.length<=g.cap
 .-- in place
  rcases hown.2 with⟨h1,h2,h3⟩|⟨b,off,C,yg,fz,nA,ha,hb,hz',h1,h2,h3,rfl,hr⟩
  .-- nothing to append,no aC7
   have hl2:l2=[]:=hM (by omega);subst hl2;have hnw:news=[]:=hM (by simpa using jL Rp);subst hnw;have hrun:=hroom hcase w (by cases g.a<;>simp[storeCells]);have hm:=r.modify hl hlive {ob with ver:=ob.ver+1,dY:=ob.dY++[]} g w (by simp) rfl (by simp) (λb hb=> .inl hb) (λb hb hne=>⟨hb,hne⟩) (λ_ _ _=>rfl) (cX _) (λk _=>by
    refine⟨fp,?_,(fY.1 hnd).1,λb hb=>hF b (by simp[hb])⟩;generalize env B (s.o.set i {ob with ver:=ob.ver+1,dY:=ob.dY++[]}) (G.set i g) w=E' at k⊢;have h5:=hown.keeps k.plain (λ_ _=>rfl);simpa [rV,Env.of]using h5)
   refine⟨_,w,_,hrun,hm.1,?_⟩;exact hR (by simp[hiG]) hl.1
  .have hnl:=jL Rp;have hol:=jL hro;have hfit:off+ob.dY.length*ob.n+news.length<=C.size:=by rw[hnl,mA,<-oE];exact fW (Nat.add_le_add_left (hH _ hcase) _) h1
   have hst:=pE (P:=P) hb hz' hfit (Kr Rp);have hrun:=hroom hcase (w.setCells b (off+ob.dY.length*ob.n) news) (by rw[ha,hsz];simpa [addr_add]using hst);have zO:g.F b:=hF b (by simp);have Aq:∀b',b'≠b->(w.setCells b (off+ob.dY.length*ob.n) news).heap[b']? =w.heap[b']?:=λb' hne=>jC b b' hne _ _ _
   obtain⟨C',hC',uq⟩:=gX b yg fz news (off+ob.dY.length*ob.n) w C hb;have hm:=r.modify hl hlive {ob with ver:=ob.ver+1,dY:=ob.dY++l2} g (w.setCells b (off+ob.dY.length*ob.n) news) (by simp) rfl (by simp) (λb hb=> .inl hb) (λb hb hne=>⟨hb,hne⟩)
    (λb' hlt hne=>Aq b' (λe=>hne ⟨e▸zO,⟨b,off,none⟩,ha,e⟩)) (by rw[fC];exact cX _) (λk _=>by
    have hnd':(b::nA++fp2).Nodup:=hnd;simp only[cM,hY,fR,not_or]at hnd';refine⟨b::(nA++fp2),?_,by simpa using hnd,λb' hb'=>hF b' (by simpa using hb')⟩;generalize env B (s.o.set i {ob with ver:=ob.ver+1,dY:=ob.dY++l2}) (G.set i g) (w.setCells b (off+ob.dY.length*ob.n) news)=E' at k⊢;simp only[rV,Env.of,cJ,eK];refine⟨by simp[maxLen];omega,.inr ⟨b,off,C',yg,fz,nA++fp2,ha,hC',by rw[uq];exact hz',by rw[uq];exact h1,by simpa using hcase,h3,rfl,?_⟩⟩;refine rA.2 ⟨olds++news,?_,bA.append.2 ⟨?_,?_⟩⟩
    .refine wO (vF k.plain (λb' hb'=>Aq b' (λe=>hnd'.1.2 (e▸hb'))) Rp) (vF k.plain (λb' hb'=>Aq b' (λe=>hnd'.1.1 (e▸hb'))) hro)
    .obtain ⟨vs,hv,hc⟩:=rA.1 hr;have hov:olds=vs:=by have e1:=hold w rfl;rw[ha,hsz,jG (jL hv) hc]at e1;simpa using e1.symm
     subst hov;intro j v hv;rw[vA]
     .exact hc j v hv
     .intro _ _;have:j<olds.length:=(cA.1 hv).1;left;simp only;omega
    .intro j v hv;have hj:j<news.length:=(cA.1 hv).1;rw[hol];have:=xF b news (off+ob.dY.length*ob.n) w (λj hj=>by
      have:off+ob.dY.length*ob.n+j<C.size:=by omega
      simp[World.cell?,hb,this]) j hj
     rw[this];rw[aE hj]at hv;exact hv)
   refine⟨_,_,_,hrun,hm.1,?_⟩;exact hR (by simp[hiG]) hl.1
 .-- a new array
  have hrun:=Zt (by omega);generalize nQ:grownCap w (ob.dY.length+l2.length) g.cap e=cap' at hrun;have aGp:ob.dY.length+l2.length<=cap':=by rw[<-nQ];exact grownCap_ge _ _ _ _
  have aGq:cap'<=maxLen:=by rw[<-nQ];exact BY _ _ _ _ (by simp[maxLen];omega)
  generalize hCd:olds.toArray++news.toArray++Builtin.zeroCells z.cells (cap'-(ob.dY.length+l2.length))=C at hrun;have iN:∀b',b'<w.heap.size->(w.drew.alloc (.cells C e)).heap[b']? =w.heap[b']?:=λb' hlt=>heap_alloc w.drew _ b' hlt
  have hself:(w.drew.alloc (.cells C e)).heap[w.heap.size]? =some (.cells C e):=eU w.drew _;have hol:=jL hro;have hnl:=jL Rp;have aGs:C.size=cap'*ob.n:=by rw[<-hCd];simp only[Array.size_append,size_toArray,size_zeroCells,Y6,hol,hnl,<-oE];congr 1;omega
  have hm:=r.modify hl hlive {ob with ver:=ob.ver+1,dY:=ob.dY++l2} ⟨some ⟨w.heap.size,0,none⟩,cap',λb=>g.F b\/b=w.heap.size⟩ (w.drew.alloc (.cells C e)) (by simp) rfl (by simp)
   (λb hb=>by
    rcases hb with hb|hb
    .exact .inl hb
    .right;subst hb;simp) (λb hb hne=>⟨.inl hb,λa' uB=>by
     obtain rfl:=cD uB;have:=(r.fresh _ _ _ b hl hlive hb).2;simp only;omega⟩) (λb hlt _=>iN b hlt) (by simp) (λk _=>by
   have Y7:∀b∈fp++fp2,b<w.heap.size:=λb hb=>(r.fresh _ _ _ b hl hlive (hF b hb)).2
   have hsub:∀b∈fp.tail,b∈fp:=λb hb=>mem_of_mem_tail hb
   have aC9:(fp.tail++fp2).Nodup:=by
    cases fp with
    |nil=>exact hnd
    |cons c t=>simp only[cM,hY]at hnd;exact hnd.2
   refine⟨w.heap.size::(fp.tail++fp2),?_,?_,?_⟩
   .generalize env B (s.o.set i {ob with ver:=ob.ver+1,dY:=ob.dY++l2}) (G.set i ⟨some ⟨w.heap.size,0,none⟩,cap',λb=>g.F b\/b=w.heap.size⟩) (w.drew.alloc (.cells C e))=E' at k⊢
    simp only[rV,Env.of,cJ,eK];refine⟨by simp[maxLen];omega,.inr ⟨w.heap.size,0,C,e,(0,0),_,rfl,hself,.inr rfl,by simp[aGs],by simpa using aGp,aGq,rfl,?_⟩⟩;refine rA.2 ⟨olds++news,wO (vF k.plain (λb' hb'=>iN b' (Y7 b' (by simp[hb']))) Rp) (vF k.plain (λb' hb'=>iN b' (Y7 b' (pA _ (hsub b' hb')))) hro),?_⟩;refine rH hself (λj v hv=> ?_);rw[<-hCd,show olds.toArray++news.toArray=(olds++news).toArray by simp,gE,rI (by simpa using(cA.1 hv).1)];simpa using hv
   .rw [hY];refine⟨λhmem=> ?_,aC9⟩;have:w.heap.size<w.heap.size:=Y7 _ (by
     rcases fR.1 hmem with h|h
     .exact pA _ (hsub _ h)
     .exact pT _ h)
    omega
   .intro b hb;rcases lE.1 hb with rfl|hb
    .exact .inr rfl
    .left;rcases fR.1 hb with h|h
     .exact hF b (pA _ (hsub _ h))
     .exact hF b (pT _ h))
  refine⟨_,_,_,hrun,hm.1,?_⟩;exact hR (g':=⟨some ⟨w.heap.size,0,none⟩,cap',λb=>g.F b\/b=w.heap.size⟩) (by simp[hiG]) hl.1
mutual
def res(o:List aD):AV->AV
 | .obj i ver=>match AV.isObj o i ver with
  |some ob=> .sl .own ob.n ob.dY
  |none=> .undef
 | .agg c=> .agg (qE o c)
 | .fH c=> .fH (qE o c)
 | .int k n=> .int k n
 | .bool b=> .bool b
 | .str s=> .str s
 | .sl g n l=> .sl g n l
 | .eF g c off=> .eF g c off
 | .ptr i v j k=> .ptr i v j k
 | .fn f c=> .fn f c
 | .undef=> .undef
def qE(o:List aD):List AV->List AV
 |[]=>[]
 |x::xs=>res o x::qE o xs
end
mutual
def iB:AV->List Nat
 | .obj i _=>[i]
 | .agg c=>jB c
 | .fH c=>jB c
 |_=>[]
def jB:List AV->List Nat
 |[]=>[]
 |x::xs=>iB x++jB xs
end
mutual
def gG(o:List aD):AV->Bool
 | .obj i ver=>match AV.isObj o i ver with
  |some ob=> !ob.box
  |none=>false
 | .agg c=>lZ o c
 | .fH c=>lZ o c
 | .int _ _=>true
 | .bool _=>true
 | .str _=>true
 | .sl (.iF _) _ _=>false
 | .sl _ _ _=>true
 | .eF .view _ _=>true
 | .fn _ []=>true
 | .undef=>true
 |_=>false
def lZ(o:List aD):List AV->Bool
 |[]=>true
 |x::xs=>gG o x&&lZ o xs
end
def Of(o:List aD)(G:List CO)(u:List Nat)(b:Nat):Prop:=∃i ob g,i∈u/\look o G i ob g/\ob.live=true/\g.F b
mutual
theorem Bp{P:Program}[aB P]{B:eP P}{s:AS}{G:List CO}{a:Act}{w:World}(r:bU B s G a w):∀(av:AV) (v:Value),gG s.o av=true->(iB av).Nodup->R w (env B s.o G w) av v []->
  ∃fp,R w (env B s.o G w).plain (res s.o av) v fp/\fp.Nodup/\∀b∈fp,Of s.o G (iB av) b
 | .obj i ver,v,ho,_,h=>by
  cases qX:AV.isObj s.o i ver with
  |none=>simp[gG,qX]at ho
  |some ob=>
   simp only[gG,qX]at ho;simp only[res,qX];simp only[R]at h;obtain⟨_,dH,g,hl,_,hh,_⟩:=h;obtain⟨h1,h2,h3⟩:=iG qX;obtain rfl:=cD (hl.1.symm.trans h1);have hv:=hh h2 h3;obtain⟨fp,hown,hnd,hF⟩:=r.ok i _ g hl h2;have hb:dH.box=false:=by simpa using ho
   rw[hb]at hown;exact⟨fp,qW.2 ⟨g.a,g.cap,hv,hown⟩,hnd,λb hb=>⟨i,_,g,by simp[iB],hl,h2,hF b hb⟩⟩
 | .agg c,v,ho,hu,h=>by simp only[R]at h;obtain⟨cs,rfl,hone,hr⟩:=h;obtain⟨fp,h1,h2,h3⟩:=Ku r c cs (by simpa [gG]using ho) (by simpa [iB]using hu) hr;exact⟨fp,by simp only[res,R];exact⟨cs,rfl,hone,h1⟩,h2,by simpa [iB]using h3⟩
 | .fH c,v,ho,hu,h=>by simp only[R]at h;obtain⟨cs,rfl,hr⟩:=h;obtain⟨fp,h1,h2,h3⟩:=Ku r c cs (by simpa [gG]using ho) (by simpa [iB]using hu) hr;exact⟨fp,by simp only[res,R];exact⟨cs,rfl,h1⟩,h2,by simpa [iB]using h3⟩
 | .int k n,v,_,_,h=>⟨[],by simpa [res,R]using h,by simp,by simp⟩
 | .bool b,v,_,_,h=>⟨[],by simpa [res,R]using h,by simp,by simp⟩
 | .str x,v,_,_,h=>⟨[],by simpa [res,R]using h,by simp,by simp⟩
 | .sl .own n l,v,_,_,h=>⟨[],by simp only[res];rw[qW]at h⊢;exact h,by simp,by simp⟩
 | .sl .view n l,v,_,_,h=>⟨[],by simp only[res,R]at h⊢;exact h,by simp,by simp⟩
 | .sl (.iF i) n l,v,ho,_,h=>by simp[gG]at ho
 | .eF .view c off,v,_,_,h=>⟨[],by simp only[res,R]at h⊢;exact h,by simp,by simp⟩
 | .eF .own c off,v,ho,_,h=>by simp[gG]at ho
 | .eF (.iF _) c off,v,ho,_,h=>by simp[gG]at ho
 | .ptr _ _ _ _,v,ho,_,h=>by simp[gG]at ho
 | .fn f [],v,_,_,h=>⟨[],by simp only[res,R]at h⊢;obtain⟨h1,cs,h2,h3⟩:=h;refine⟨trivial,cs,h2,?_⟩;cases cs<;>simp_all[Rc],by simp,by simp⟩
 | .fn f (_::_),v,ho,_,h=>by simp[gG]at ho
 | .undef,v,_,_,h=>⟨[],by simp[res,R],by simp,by simp⟩
theorem Ku{P:Program}[aB P]{B:eP P}{s:AS}{G:List CO}{a:Act}{w:World}(r:bU B s G a w):∀(c:List AV) (cs:List Value),lZ s.o c=true->(jB c).Nodup->Rc w (env B s.o G w) c cs []->
  ∃fp,Rc w (env B s.o G w).plain (qE s.o c) cs fp/\fp.Nodup/\∀b∈fp,Of s.o G (jB c) b
 |[],[],_,_,_=>⟨[],by simp[qE,Rc],by simp,by simp⟩
 |[],_::_,_,_,h=>by simp[Rc]at h
 |_::_,[],_,_,h=>by simp[Rc]at h
 |x::xs,c::cs,ho,hu,h=>by
  simp only[Rc]at h;obtain⟨g1,g2,h1,h2,e⟩:=h;obtain⟨rfl,rfl⟩:g1=[]/\g2=[]:=by simpa using e
  simp only[lZ,eC]at ho;simp only[jB,fY]at hu;obtain⟨f1,k1,n1,o1⟩:=Bp r x c ho.1 hu.1 h1;obtain⟨f2,k2,n2,o2⟩:=Ku r xs cs ho.2 hu.2.1 h2;refine⟨f1++f2,by simp only[qE,Rc];exact⟨f1,f2,k1,k2,rfl⟩,?_,?_⟩
  .refine fY.2 ⟨n1,n2,λb hb b' hb' e=> ?_⟩
   subst e;obtain⟨i,ob,g,hi,hl,hlive,hF⟩:=o1 b hb;obtain⟨j,dH,g',hj,xY,sQ,yh⟩:=o2 b hb';exact hu.2.2 i hi j hj (r.apart i j _ _ _ _ b hl xY hlive sQ hF yh)
  .intro b hb;rcases fR.1 hb with hb|hb
   .obtain ⟨i,ob,g,hi,h⟩:=o1 b hb;exact⟨i,ob,g,by simp[jB,hi],h⟩
   .obtain ⟨i,ob,g,hi,h⟩:=o2 b hb;exact⟨i,ob,g,by simp[jB,hi],h⟩
end
def lI(w:World):Env:=⟨λb=>b<w.heap.size,λ_=>True,λ_ _=>False,λ_ _ _=>False,λ_ _ _ _ _=>False⟩
def kZ:Env:=⟨λ_=>False,λ_=>True,λ_ _=>False,λ_ _ _=>False,λ_ _ _ _ _=>False⟩
def wV(n:Nat)(w:World)(fp:List Nat):Env:=⟨λb=>n<=b/\b<w.heap.size/\b∉fp,λ_=>True,λ_ _=>False,λ_ _ _=>False,λ_ _ _ _ _=>False⟩
theorem XC(n:Nat)(w:World)(fp:List Nat):bR w kZ w (wV n w fp):=
 ⟨λ_ h=>h.elim,λ_ _=>trivial,λ_ _ _ h=>h.elim,λ_ _ _ h=>h.elim,λ_ _ _ _ _ h=>h.elim⟩
theorem M6{n:Nat}{w:World}{x:AV}{v:Value}{fp:List Nat}(h:R w kZ x v fp):R w (wV n w fp) x v fp:=jS (XC n w fp) _ _ _ (λ_ _=>rfl) h
def Ok(P:Program)[aB P](f:FuncId)(args:List AV)(r:AV):Prop:=
 ∀(w:World) (vs:List Value),aB.holds P w->Rc w (lI w) args vs []->
  Calls P f vs.toArray w λe w'=>∃v fp,e= .returned v/\R w' (wV w.heap.size w' fp) r v fp/\fp.Nodup/\
   (∀b∈fp,w.heap.size<=b/\b<w'.heap.size)/\w.heap.size<=w'.heap.size/\(∀b,b<w.heap.size->w'.heap[b]? =w.heap[b]?)/\iW w w'
def Eh:Tg->Option Tg
 | .iF _=>none
 |_=>some .view
mutual
def arg(o:List aD):AV->AV
 | .obj i ver=>match AV.isObj o i ver with
  |some ob=>if ob.box then .undef else .sl .view ob.n (iL (λ_=>some .view) false ob.dY)
  |none=> .undef
 | .ptr i ver idx off=>match AV.isObj o i ver with
  |some ob=>match ob.dY[idx]? with
   |some e=> .eF .view (pM Eh false e) off
   |none=> .undef
  |none=> .undef
 | .agg c=> .agg (xV o c)
 | .fH c=> .fH (xV o c)
 | .int k n=> .int k n
 | .bool b=> .bool b
 | .str s=> .str s
 | .sl (.iF i) n l=>match o[i]? with
  |some ob=>if ob.live then .sl .view n (iL (λ_=>some .view) false l)else .undef
  |none=> .undef
 | .sl _ n l=> .sl .view n (iL (λ_=>some .view) false l)
 | .eF (.iF i) c off=>match o[i]? with
  |some ob=>if ob.live then .eF .view (pM (λ_=>some .view) false c) off else .undef
  |none=> .undef
 | .eF _ c off=> .eF .view (pM (λ_=>some .view) false c) off
 | .fn f c=> .fn f (xV o c)
 | .undef=> .undef
def xV(o:List aD):List AV->List AV
 |[]=>[]
 |x::xs=>arg o x::xV o xs
end
theorem Kv{P:Program}[aB P]{B:eP P}{s:AS}{G:List CO}{a:Act}{w:World}(r:bU B s G a w)(O:Nat->Prop)(hO:∀b,O b->b<w.heap.size):jX (λ_=>some .view) false (env B s.o G w).plain (lI w) O where
 own t e:=by obtain rfl:=cD e;exact⟨by simp,λb hb=>hO b hb⟩
 view t e:=by obtain rfl:=cD e;exact⟨rfl,λb hb=>lY r hb⟩
 iF i t e:=by obtain rfl:=cD e;exact⟨by simp,.inl trivial,λb hb=>hb.elim⟩
 hh h:=by cases h
 hl h:=by cases h
theorem UI{P:Program}[aB P]{B:eP P}{s:AS}{G:List CO}{a:Act}{w:World}(r:bU B s G a w)(box:Bool)(O:Nat->Prop)(hO:∀b,O b->b<w.heap.size):jX Eh false ((env B s.o G w).of box) (lI w) O where
 own t e:=by obtain rfl:=cD e;exact⟨by simp,λb hb=>hO b hb⟩
 view t e:=by obtain rfl:=cD e;exact⟨rfl,λb hb=>lY r (by cases box<;>exact hb)⟩
 iF i t e:=by cases e
 hh h:=by cases h
 hl h:=by cases h
theorem UJ{P:Program}[aB P]{B:eP P}{s:AS}{G:List CO}{a:Act}{w:World}(r:bU B s G a w)(g:Tg)(O:Nat->Prop)(hO:∀b,O b->b<w.heap.size):jX (λ_=>some .view) false ((env B s.o G w).sub g) (lI w).plain O:=by
 cases g with
 |own=>exact Kv r O hO
 |view=>exact Kv r O hO
 |iF i=>exact
  {own:=λt e=>by obtain rfl:=cD e;exact⟨by simp,λb hb=>hO b hb⟩
   view:=λt e=>by obtain rfl:=cD e;exact⟨rfl,λb hb=>lY r hb⟩
   iF:=λj t e=>by obtain rfl:=cD e;refine⟨by simp,.inl trivial,λb hb=> ?_⟩;obtain⟨rfl,ob,g,hl,hlive,hF,_⟩:=hb;exact(r.fresh _ _ _ b hl hlive hF).2
   hh:=λh=>by cases h
   hl:=λh=>by cases h}
theorem Zu{P:Program}[aB P]{B:eP P}{s:AS}{G:List CO}{a:Act}{w:World}(r:bU B s G a w){g:Tg}{b:Nat}(h:(env B s.o G w).tg g b):b<w.heap.size:=by
 cases g with
 |own=>exact h.elim
 |view=>exact lY r h
 |iF i=>obtain⟨ob,g,hl,hlive,hF,_⟩:=h;exact(r.fresh _ _ _ b hl hlive hF).2
theorem Gz{P:Program}[aB P]{B:eP P}{s:AS}{G:List CO}{a:Act}{w:World}(r:bU B s G a w){g:Tg}{n:Nat}{l:List (List AV)}{v:Value}(hd:¬(env B s.o G w).dead g)(h:R w (env B s.o G w) (.sl g n l) v []):
  R w (lI w) (.sl .view n (iL (λ_=>some .view) false l)) v []:=by
 simp only[R,jD]at h⊢;rcases h with h|⟨x,cap,hv,hl,h⟩
 .exact absurd h.1 hd
 refine .inr ⟨x,cap,hv,hl,.inr (.inr ⟨by simp,trivial,?_⟩)⟩;rcases h with⟨_,rfl,_⟩|⟨_,b,off,C,ty,fz,nA,ha,hb,hz,h1,h2,h3,Ec,hr⟩|⟨hg,_,h⟩
 .exact .inl rfl
 .cases Ec
 .rcases h with rfl|⟨b,off,ha,ht,hr⟩
  .exact .inl rfl
  .exact .inr ⟨b,off,ha,Zu r ht,Du (UJ r g (λ_=>False) (λ_ h=>h.elim)) _ _ _ _ _ (by simp) hr⟩
mutual
theorem aDa{P:Program}[aB P]{B:eP P}{s:AS}{G:List CO}{a:Act}{w:World}(r:bU B s G a w):∀(av:AV) (v:Value),R w (env B s.o G w) av v []->R w (lI w) (arg s.o av) v []
 | .obj i ver,v,h=>by
  cases qX:AV.isObj s.o i ver with
  |none=>simp[arg,qX,R]
  |some ob=>
   simp only[arg,qX];by_cases hb:ob.box=true
   .simp [hb,R]
   simp only[R]at h;obtain⟨_,dH,g,hl,_,hh,_⟩:=h;obtain⟨h1,h2,h3⟩:=iG qX;obtain rfl:=cD (hl.1.symm.trans h1);have hv:=hh h2 h3;obtain⟨fp,⟨hlen,hown⟩,hnd,hF⟩:=r.ok i _ g hl h2;have hb':dH.box=false:=by simpa using hb
   rw[hb']at hown;simp only[hb',cJ,eK];simp only[R,jD];refine .inr ⟨g.a,g.cap,hv,⟨hlen,by rcases hown with h|⟨_,_,_,_,_,_,_,_,_,_,h,_⟩;simp[h.1];exact h⟩,.inr (.inr ⟨by simp,trivial,?_⟩)⟩;rcases hown with⟨h5,_⟩|⟨b,off,C,e,fz,nA,ha,hbk,hz,k1,k2,k3,rfl,hr⟩
   .left;rw[h5];rfl
   .right;have hlt:∀x∈b::nA,x<w.heap.size:=λx hx=>(r.fresh _ _ _ x hl h2 (hF x hx)).2
    exact⟨b,off,ha,hlt b (by simp),Du (Kv r (λx=>x<w.heap.size) (λ_ h=>h)) _ _ _ _ nA (λx hx=>hlt x (by simp[hx])) hr⟩
 | .ptr i ver idx off,v,h=>by
  cases qX:AV.isObj s.o i ver with
  |none=>simp[arg,qX,R]
  |some ob=>
   simp only[arg,qX];cases he:ob.dY[idx]? with
   |none=>simp[R]
   |some e=>
    simp only[R]at h⊢;obtain⟨_,dH,g,hl,_,hh,_⟩:=h;obtain⟨h1,h2,h3⟩:=iG qX;obtain rfl:=cD (hl.1.symm.trans h1);obtain⟨b,f,ha,hv⟩:=hh h2 h3;obtain⟨fp,⟨_,hown⟩,hnd,hF⟩:=r.ok i _ g hl h2;have hlt:∀x∈fp,x<w.heap.size:=λx hx=>(r.fresh _ _ _ x hl h2 (hF x hx)).2
    rcases hown with⟨h5,_⟩|⟨b',f',C,ty,fz,nA,uB,hbk,hz,k1,k2,k3,rfl,hr⟩
    .rw [h5]at he;simp at he
    .rw [ha]at uB;simp only[cQ,lA,mN]at uB;obtain⟨rfl,rfl⟩:=uB;obtain⟨f1,f2,f3,cs,rfl,hn,hc,hone,rF,_,_⟩:=Am hr he;refine .inr ⟨trivial,b,f+idx*dH.n,cs,?_,hlt b (by simp),hc,hone,?_⟩
     .rw [hv,mA]
     .have:=uD (UI r dH.box (λx=>x<w.heap.size) (λ_ h=>h)) e cs f2 (λx hx=>hlt x (by simp[hx])) rF;exact dC (w:=w) (w':=w) (E:=lI w) (E':=(lI w).sub .view) ⟨λ_ h=>⟨h,rfl⟩,λ_ _=>trivial,λ_ _ _ h=>h.elim,λ_ _ _ h=>h.elim,λ_ _ _ _ _ h=>h.elim⟩ _ _ _ (by simp) this
 | .agg c,v,h=>by simp only[R,arg]at h⊢;obtain⟨cs,hv,hone,hr⟩:=h;exact⟨cs,hv,hone,GD r c cs hr⟩
 | .fH c,v,h=>by simp only[R,arg]at h⊢;obtain⟨cs,hv,hr⟩:=h;exact⟨cs,hv,GD r c cs hr⟩
 | .fn f c,v,h=>by simp only[R,arg]at h⊢;obtain⟨h1,cs,hv,hr⟩:=h;exact⟨trivial,cs,hv,GD r c cs hr⟩
 | .int k n,v,h=>by simpa [arg,R]using h
 | .bool b,v,h=>by simpa [arg,R]using h
 | .str x,v,h=>by simpa [arg,R]using h
 | .sl .own n l,v,h=>by simp only[arg];exact Gz r (g:= .own) (λh=>h) h
 | .sl .view n l,v,h=>by simp only[arg];exact Gz r (g:= .view) (λh=>h) h
 | .sl (.iF i) n l,v,h=>by
  simp only[arg];cases ho:s.o[i]? with
  |none=>simp[R]
  |some ob=>
   simp only;by_cases hlive:ob.live=true
   .rw [eA hlive];exact Gz r (g:= .iF i) (λhd=>hd (λdH qC=>by rw[ho]at qC;obtain rfl:=cD qC;exact hlive)) h
   .rw [cU hlive];simp[R]
 | .eF .own c off,v,h=>by
  simp only[R]at h;rcases h with h|⟨_,b,o,cs,hv,ht,_⟩
  .exact h.1.elim
  .exact ht.elim
 | .eF .view c off,v,h=>by
  simp only[arg];simp only[R]at h⊢;rcases h with h|⟨_,b,o,cs,hv,ht,hcs,hone,hr⟩
  .exact h.1.elim
  .exact .inr ⟨trivial,b,o,cs,hv,Zu r ht,hcs,hone,uD (UJ r .view (λ_=>False) (λ_ h=>h.elim)) _ _ _ (by simp) hr⟩
 | .eF (.iF i) c off,v,h=>by
  simp only[arg];cases ho:s.o[i]? with
  |none=>simp[R]
  |some ob=>
   simp only;by_cases hlive:ob.live=true
   .rw [eA hlive];simp only[R]at h⊢;rcases h with h|⟨_,b,o,cs,hv,ht,hcs,hone,hr⟩
    .exact absurd (λdH qC=>by rw[ho]at qC;obtain rfl:=cD qC;exact hlive) h.1
    .exact .inr ⟨trivial,b,o,cs,hv,Zu r ht,hcs,hone,uD (UJ r (.iF i) (λ_=>False) (λ_ h=>h.elim)) _ _ _ (by simp) hr⟩
   .rw [cU hlive];simp[R]
 | .undef,v,_=>by simp[arg,R]
theorem GD{P:Program}[aB P]{B:eP P}{s:AS}{G:List CO}{a:Act}{w:World}(r:bU B s G a w):∀(c:List AV) (cs:List Value),Rc w (env B s.o G w) c cs []->Rc w (lI w) (xV s.o c) cs []
 |[],[],_=>by simp[xV,Rc]
 |[],_::_,h=>by simp[Rc]at h
 |_::_,[],h=>by simp[Rc]at h
 |x::xs,c::cs,h=>by
  simp only[Rc]at h;obtain⟨f1,f2,h1,h2,e⟩:=h;obtain⟨rfl,rfl⟩:f1=[]/\f2=[]:=by simpa using e
  simp only[xV,Rc];exact⟨[],[],aDa r x c h1,GD r xs cs h2,rfl⟩
end
mutual
def bV(q k:Nat):AV->AV×List aD
 | .sl .own n l=>(.obj k q,[⟨true,false,n,q,l⟩])
 | .agg c=>let p:=dM q k c;(.agg p.1,p.2)
 | .fH c=>let p:=dM q k c;(.fH p.1,p.2)
 |x=>(x,[])
def dM(q k:Nat):List AV->List AV×List aD
 |[]=>([],[])
 |x::xs=>let p:=bV q k x;let r:=dM q (k+p.2.length) xs;(p.1::r.1,p.2++r.2)
end
def iX(q:Nat)(w:World)(E:Env)(k:Nat)(os:List aD)(fp:List Nat)(done:Env->Prop):Prop:=
 ∃Gs:List CO,Gs.length=os.length/\
  (∀j ob g,look os Gs j ob g->ob.live=true/\ob.box=false/\ob.ver=q/\∃f,oD w E.plain ob.n ob.dY g.a g.cap f/\f.Nodup/\(∀b,g.F b↔b∈f)/\∀b∈f,b∈fp)/\
  (∀i j oi oj gi gj b,look os Gs i oi gi->look os Gs j oj gj->gi.F b->gj.F b->i=j)/\
  ∀E':Env,bR w E w E'->(∀j ob g,look os Gs j ob g->E'.H (k+j) q (.slice g.a ob.dY.length g.cap))->done E'
theorem iX.none{q:Nat}{w:World}{E:Env}{k:Nat}{av:AV}{v:Value}(h:R w E av v []):iX q w E k [] [] (λE'=>R w E' av v []):=
 ⟨[],rfl,λj ob g hl=>by simp[look]at hl,λi j oi oj gi gj b hl=>by simp[look]at hl,λE' hk _=>jS hk _ _ _ (by simp) h⟩
theorem iX.append{q:Nat}{w:World}{E:Env}{k:Nat}{o1 o2:List aD}{f1 f2:List Nat}{d1 d2:Env->Prop}(h1:iX q w E k o1 f1 d1)(h2:iX q w E (k+o1.length) o2 f2 d2)(hn:(f1++f2).Nodup):
  iX q w E k (o1++o2) (f1++f2) (λE'=>d1 E'/\d2 E'):=by
 obtain⟨G1,l1,a1,b1,c1⟩:=h1;obtain⟨G2,l2,a2,b2,c2⟩:=h2;have hd:=(fY.1 hn).2.2;refine⟨G1++G2,by simp[l1,l2],?_,?_,?_⟩
 .intro j ob g hl;rcases jV l1 hl with⟨_,h⟩|⟨_,h⟩
  .obtain ⟨x,y,y',f,z⟩:=a1 _ _ _ h;exact⟨x,y,y',f,z.1,z.2.1,z.2.2.1,λb hb=>pA _ (z.2.2.2 b hb)⟩
  .obtain ⟨x,y,y',f,z⟩:=a2 _ _ _ h;exact⟨x,y,y',f,z.1,z.2.1,z.2.2.1,λb hb=>pT _ (z.2.2.2 b hb)⟩
 .intro i j oi oj gi gj b hi hj Ei GG;rcases jV l1 hi with⟨_,h⟩|⟨hi',h⟩<;>rcases jV l1 hj with⟨_,h'⟩|⟨XA,h'⟩
  .exact b1 _ _ _ _ _ _ b h h' Ei GG
  .obtain ⟨_,_,_,f,z⟩:=a1 _ _ _ h;obtain⟨_,_,_,f',z'⟩:=a2 _ _ _ h';exact absurd rfl (hd b (z.2.2.2 b ((z.2.2.1 b).1 Ei)) b (z'.2.2.2 b ((z'.2.2.1 b).1 GG)))
  .obtain ⟨_,_,_,f,z⟩:=a2 _ _ _ h;obtain⟨_,_,_,f',z'⟩:=a1 _ _ _ h';exact absurd rfl (hd b (z'.2.2.2 b ((z'.2.2.1 b).1 GG)) b (z.2.2.2 b ((z.2.2.1 b).1 Ei)))
  .have:=b2 _ _ _ _ _ _ b h h' Ei GG;omega
 .intro E' hk hh;refine⟨c1 E' hk λj ob g hl=>hh j ob g (iO hl),c2 E' hk λj ob g hl=> ?_⟩;have:=hh _ ob g (jF l1 hl)
  rwa[<-mA]at this
mutual
theorem vG{q:Nat}{w:World}{E:Env}:∀(av:AV) (v:Value) (fp:List Nat) (k:Nat),R w E av v fp->fp.Nodup->iX q w E k (bV q k av).2 fp (λE'=>R w E' (bV q k av).1 v [])
 | .sl .own n l,v,fp,k,h,hn=>by
  obtain⟨a,cap,hv,hown⟩:=qW.1 h;refine⟨[⟨a,cap,λb=>b∈fp⟩],rfl,?_,?_,?_⟩
  .rintro j ob g ⟨h1,h2⟩;cases j with
   |zero=>simp[bV]at h1 h2;subst h1;subst h2;exact⟨rfl,rfl,rfl,fp,hown,hn,λb=>Iff.rfl,λb hb=>hb⟩
   |succ j=>simp[bV]at h1
  .rintro i j oi oj gi gj b ⟨h1,_⟩ ⟨h2,_⟩ _ _;cases i<;>cases j<;>simp_all[bV]
  .intro E' _ hh;simp only[bV,R];have:=hh 0 ⟨true,false,n,q,l⟩ ⟨a,cap,λb=>b∈fp⟩ ⟨rfl,rfl⟩;rw[hv];exact⟨trivial,this⟩
 | .agg c,v,fp,k,h,hn=>by simp only[R]at h;obtain⟨cs,hv,hone,hr⟩:=h;obtain⟨Gs,a,b,c',d⟩:=zP c cs fp k hr hn;exact⟨Gs,a,b,c',λE' hk hh=>by simp only[bV,R];exact⟨cs,hv,hone,d E' hk hh⟩⟩
 | .fH c,v,fp,k,h,hn=>by simp only[R]at h;obtain⟨cs,hv,hr⟩:=h;obtain⟨Gs,a,b,c',d⟩:=zP c cs fp k hr hn;exact⟨Gs,a,b,c',λE' hk hh=>by simp only[bV,R];exact⟨cs,hv,d E' hk hh⟩⟩
 | .sl .view n l,v,fp,k,h,_=>by
  have hf:fp=[]:=by
   simp only[R]at h;rcases h with h|⟨_,_,_,_,h|h|h⟩
   .exact h.2
   .exact h.2.2.2
   .exact absurd h.1 (by simp)
   .exact h.2.1
  subst hf;exact iX.none h
 | .sl (.iF i) n l,v,fp,k,h,_=>by
  have hf:fp=[]:=by
   simp only[R]at h;rcases h with h|⟨_,_,_,_,h|h|h⟩
   .exact h.2
   .exact h.2.2.2
   .exact absurd h.1 (by simp)
   .exact h.2.1
  subst hf;exact iX.none h
 | .int _ _,v,fp,k,h,_=>by have h':=h;simp only[R]at h';obtain⟨_,rfl⟩:=h';exact iX.none h
 | .bool _,v,fp,k,h,_=>by have h':=h;simp only[R]at h';obtain⟨_,rfl⟩:=h';exact iX.none h
 | .str _,v,fp,k,h,_=>by have h':=h;simp only[R]at h';obtain⟨_,rfl⟩:=h';exact iX.none h
 | .eF _ _ _,v,fp,k,h,_=>by
  have hf:fp=[]:=by simp only[R]at h;rcases h with h|h;exact h.2;exact h.1
  subst hf;exact iX.none h
 | .obj _ _,v,fp,k,h,_=>by have h':=h;simp only[R]at h';obtain⟨rfl,_⟩:=h';exact iX.none h
 | .ptr _ _ _ _,v,fp,k,h,_=>by have h':=h;simp only[R]at h';obtain⟨rfl,_⟩:=h';exact iX.none h
 | .fn _ _,v,fp,k,h,_=>by have h':=h;simp only[R]at h';obtain⟨rfl,_⟩:=h';exact iX.none h
 | .undef,v,fp,k,h,_=>by have h':=h;simp only[R]at h';subst h';exact iX.none h
theorem zP{q:Nat}{w:World}{E:Env}:∀(c:List AV) (cs:List Value) (fp:List Nat) (k:Nat),Rc w E c cs fp->fp.Nodup->iX q w E k (dM q k c).2 fp (λE'=>Rc w E' (dM q k c).1 cs [])
 |[],[],fp,k,h,_=>by simp only[Rc]at h;subst h;exact⟨[],rfl,λj ob g hl=>by simp[look,dM]at hl,λi j oi oj gi gj b hl=>by simp[look,dM]at hl,λE' hk _=>by simp[dM,Rc]⟩
 |[],_::_,_,_,h,_=>by simp[Rc]at h
 |_::_,[],_,_,h,_=>by simp[Rc]at h
 |x::xs,c::cs,fp,k,h,hn=>by
  simp only[Rc]at h;obtain⟨f1,f2,h1,h2,rfl⟩:=h;have n1:=(fY.1 hn);have:=(vG x c f1 k h1 n1.1).append (zP xs cs f2 (k+(bV q k x).2.length) h2 n1.2.1) hn;obtain⟨Gs,a,b,c',d⟩:=this;exact⟨Gs,a,b,c',λE' hk hh=>by
   have:=d E' hk hh;simp only[dM,Rc];exact⟨[],[],this.1,this.2,rfl⟩⟩
end
def bJ(P:Program)(f:FuncId):Bool:=
 match P.funcs[f]? with
 |some fn=> !(fn.name == "runtime.NumGoroutine")&&fn.body.isSome
 |none=>false
theorem oK{P:Program}[aB P]{f:FuncId}(h:bJ P f=true)(args:Array Value)(w:World):(callFunc f args).run P w= .ok (.enter f args) w:=by
 unfold bJ at h;split at h
 .rename_i fn hf;simp only[eC,CC]at h;cases hx:fn.body with
  |none=>simp[hx]at h
  |some c=>
   have hne:fn.name≠ "runtime.NumGoroutine" :=by simpa using h.1
   simp[callFunc,hf,hne,hx]
 .cases h
def AS.args(s:AS)(l:Array Operand):List AV:=l.toList.map s.ev
theorem qN{P:Program}[aB P]{B:eP P}{s:AS}{G:List CO}{a:Act}{w:World}(r:bU B s G a w):∀l:List Operand,Rc w (env B s.o G w) (l.map s.ev) (l.map a.eval) []
 |[]=>by simp[Rc]
 |x::xs=>by simp only[mS,Rc];exact⟨[],[],r.ev x,qN r xs,rfl⟩
def AS.called(s:AS)(d:Option Tmp)(r:AV):AS:=AS.put ⟨s.t,s.o++(bV 1 s.o.length r).2⟩ d (bV 1 s.o.length r).1
theorem bR.refl(w:World)(E:Env):bR w E w E:=⟨λ_ h=>⟨h,rfl⟩,λ_ h=>h,λ_ _ _ h=>⟨h,rfl⟩,λ_ _ _ h=>h,λ_ _ _ _ _ h=>h⟩
theorem bR.trans{w:World}{E E' E'':Env}(k:bR w E w E')(k':bR w E' w E''):bR w E w E'':=
 ⟨λb h=>⟨(k'.a b (k.a b h).1).1,rfl⟩,λi h=>k.v i (k'.v i h),λi b hv h=>⟨(k'.d i b hv (k.d i b (k'.v i hv) h).1).1,rfl⟩,λi v x h=>k'.h i v x (k.h i v x h),λi v j o x h=>k'.l i v j o x (k.l i v j o x h)⟩
mutual
def clean:AV->Bool
 | .sl .own _ l=>iH l
 | .sl _ _ l=>l.isEmpty
 | .eF _ _ _=>false
 | .agg c=>zC c
 | .fH c=>zC c
 | .fn _ c=>zC c
 |_=>true
def zC:List AV->Bool
 |[]=>true
 |x::xs=>clean x&&zC xs
def iH:List (List AV)->Bool
 |[]=>true
 |x::xs=>zC x&&iH xs
end
mutual
theorem JU{w:World}{E E':Env}(hv:∀i,E'.V i->E.V i)(hd:E.D=λ_ _=>False)(hh:E.H=λ_ _ _=>False)(hl:E.L=λ_ _ _ _ _=>False):∀(av:AV) (v:Value) (fp:List Nat),clean av=true->R w E av v fp->R w E' av v fp
 | .sl .own n l,v,fp,hc,h=>by
  obtain⟨a,cap,rfl,hlen,hown⟩:=qW.1 h;refine qW.2 ⟨a,cap,rfl,hlen,?_⟩;rcases hown with h|⟨b,off,C,e,fz,nA,ha,hb,hz,h1,h2,h3,rfl,hr⟩
  .exact .inl h
  .exact .inr ⟨b,off,C,e,fz,nA,ha,hb,hz,h1,h2,h3,rfl,Ry (E:=E.plain) (E':=E'.plain) (λ_ _=>trivial) rfl rfl rfl l b off n nA (by simpa [clean]using hc) hr⟩
 | .sl .view n l,v,fp,hc,h=>by
  have:l=[]:=by simpa [clean]using hc
  subst this;simp only[R]at h⊢;rcases h with h|⟨a,cap,hv',xY,h⟩
  .exact h.1.elim
  .exact .inr ⟨a,cap,hv',xY,.inr (.inr ⟨by simp,by rcases h with h|h|h;exact h.2.2.2;exact absurd h.1 (by simp);exact h.2.1,.inl trivial⟩)⟩
 | .sl (.iF i) n l,v,fp,hc,h=>by
  have:l=[]:=by simpa [clean]using hc
  subst this;simp only[R]at h⊢;rcases h with h|⟨a,cap,hv',xY,h⟩
  .exact .inl ⟨λhd=>h.1 (hv i hd),h.2⟩
  .exact .inr ⟨a,cap,hv',xY,.inr (.inr ⟨by simp,by rcases h with h|h|h;exact h.2.2.2;exact absurd h.1 (by simp);exact h.2.1,.inl trivial⟩)⟩
 | .int _ _,_,_,_,h=>by simpa [R]using h
 | .bool _,_,_,_,h=>by simpa [R]using h
 | .str _,_,_,_,h=>by simpa [R]using h
 | .eF _ _ _,_,_,hc,_=>by simp[clean]at hc
 | .obj _ _,_,_,_,h=>by simp only[R,hh]at h;exact h.2.elim
 | .ptr _ _ _ _,_,_,_,h=>by simp only[R,hl]at h;exact h.2.elim
 | .agg c,v,fp,hc,h=>by simp only[R]at h⊢;obtain⟨cs,h1,h2,h3⟩:=h;exact⟨cs,h1,h2,zQ hv hd hh hl c cs fp (by simpa [clean]using hc) h3⟩
 | .fH c,v,fp,hc,h=>by simp only[R]at h⊢;obtain⟨cs,h1,h3⟩:=h;exact⟨cs,h1,zQ hv hd hh hl c cs fp (by simpa [clean]using hc) h3⟩
 | .fn f c,v,fp,hc,h=>by simp only[R]at h⊢;obtain⟨h0,cs,h1,h3⟩:=h;exact⟨h0,cs,h1,zQ hv hd hh hl c cs [] (by simpa [clean]using hc) h3⟩
 | .undef,_,_,_,h=>by simpa [R]using h
theorem zQ{w:World}{E E':Env}(hv:∀i,E'.V i->E.V i)(hd:E.D=λ_ _=>False)(hh:E.H=λ_ _ _=>False)(hl:E.L=λ_ _ _ _ _=>False):∀(c:List AV) (cs:List Value) (fp:List Nat),zC c=true->Rc w E c cs fp->Rc w E' c cs fp
 |[],[],_,_,h=>by simpa [Rc]using h
 |[],_::_,_,_,h=>by simp[Rc]at h
 |_::_,[],_,_,h=>by simp[Rc]at h
 |x::xs,c::cs,fp,hc,h=>by simp only[Rc]at h⊢;simp only[zC,eC]at hc;obtain⟨f1,f2,h1,h2,h3⟩:=h;exact⟨f1,f2,JU hv hd hh hl x c f1 hc.1 h1,zQ hv hd hh hl xs cs f2 hc.2 h2,h3⟩
theorem Ry{w:World}{E E':Env}(hv:∀i,E'.V i->E.V i)(hd:E.D=λ_ _=>False)(hh:E.H=λ_ _ _=>False)(hl:E.L=λ_ _ _ _ _=>False):∀(l:List (List AV)) (b off n:Nat) (fp:List Nat),iH l=true->Rr w E l b off n fp->Rr w E' l b off n fp
 |[],_,_,_,_,_,h=>by simpa [Rr]using h
 |e::es,b,off,n,fp,hc,h=>by simp only[Rr]at h⊢;simp only[iH,eC]at hc;obtain⟨cs,f1,f2,h1,h2,h3,h4,h5,h6⟩:=h;exact⟨cs,f1,f2,h1,h2,h3,zQ hv hd hh hl e cs f1 hc.1 h4,Ry hv hd hh hl es b (off+n) n f2 hc.2 h5,h6⟩
end
def OkN(P:Program)(f:FuncId)(args:List AV)(r:AV):Prop:=
 ∀(w:World) (vs:List Value),Rc w (lI w) args vs []->∃v w',(callFunc f vs.toArray).run P w= .ok (.value v) w'/\w'.heap=w.heap/\iW w w'/\∀w'' E,R w'' E r v []
theorem XD(f:Operand)(args:Array Operand)(Fj:Array TypeId){g:FuncId}{cap:List AV}{rr:AV}(hf:s.ev f= .fn g cap)(hc:bJ P g=true)
  (qD:Ok P g (xV s.o (s.args args++cap)) rr):
  Step P B ⟨dst,.call {callee:= .value f,args:=args,argTypes:=Fj},ty,pos,after,gd⟩ s (s.called dst rr):=by
 rintro a w next Q ⟨G,r⟩ hn
 have h1:=r.ev f;rw[hf]at h1;simp only[R]at h1;obtain⟨_,cs,hv,nQ⟩:=h1;have hargs:Rc w (env B s.o G w) (s.args args++cap) (args.toList.map a.eval++cs) []:=by have:=gK (qN r args.toList) nQ;simpa [AS.args]using this
 have zR:=qD w _ r.holds (GD r _ _ hargs);unfold Oper.wp;have hrun:(execOp a.eval ⟨dst,.call {callee:= .value f,args:=args,argTypes:=Fj},ty,pos,after,gd⟩).run P w= .ok (.enter g (args.toList.map a.eval++cs).toArray) w:=by
  have e:args.map a.eval++cs.toArray=(args.toList.map a.eval++cs).toArray:=by apply AM;simp
  simp[execOp,resolve,hv,Deferred.ofValue,invoke,oK hc,e]
 rw[hrun,tU];refine zR.mono λe w' h=> ?_
 obtain⟨v,fp,rfl,Jn,hnd,hfr,hsz,iN,wW⟩:=h;refine hn _ _ ?_;obtain⟨Gs,hlen,rJ,hap,vH⟩:=vG (q:=1) rr v fp s.o.length Jn hnd;have kn:bR w' (wV w.heap.size w' fp) w' (env B (s.o++(bV 1 s.o.length rr).2) (G++Gs) w'):=by
  refine⟨λb hb=>⟨⟨.inr ⟨fW r.size hb.1,hb.2.1⟩,λi ob g hl hlive hF=> ?_⟩,rfl⟩,λ_ _=>trivial,λ_ _ _ h=>h.elim,λ_ _ _ h=>h.elim,λ_ _ _ _ _ h=>h.elim⟩;rcases jV r.len hl with⟨_,h⟩|⟨_,h⟩
  .have:=(r.fresh _ _ _ b h hlive hF).2;have:=hb.1;omega
  .obtain ⟨_,_,_,f,_,_,h3,h4⟩:=rJ _ _ _ h;exact hb.2.2 (h4 _ ((h3 _).1 hF))
 have hadd:=r.add (bV 1 s.o.length rr).2 Gs w' hlen hsz iN (λj ob g b hl _ hF=>by
   obtain⟨_,_,_,f,_,_,h3,h4⟩:=rJ _ _ _ hl;exact hfr _ (h4 _ ((h3 _).1 hF))) (λi j oi oj gi gj b hi hj _ _ Ei GG=>hap _ _ _ _ _ _ b hi hj Ei GG) (λk j ob g hl _=>by
   obtain⟨h1,h2,_,f,hown,h3,h4,h5⟩:=rJ _ _ _ hl;refine⟨f,?_,h3,λb hb=>(h4 b).2 hb⟩;have:=hown.keeps kn.plain (λ_ _=>rfl);rw[h2];exact this) wW
 refine⟨G++Gs,hadd.1.put dst ?_⟩;refine vH _ kn λj ob g hl=> ?_
 obtain⟨_,_,h3,_⟩:=rJ _ _ _ hl;exact⟨ob,g,jF r.len hl,rB h3.symm,λ_ _=>rfl,λh=>absurd h (by decide)⟩
theorem bU.heap{G:List CO}{a:Act}{w w':World}(r:bU B s G a w)(hh:w'.heap=w.heap)(same:iW w w'):bU B s G a w':=by
 have hE:env B s.o G w'=env B s.o G w:=by unfold env;rw[hh]
 have k:bR w (env B s.o G w) w' (env B s.o G w'):=by rw[hE];exact⟨λb h=>⟨h,by rw[hh]⟩,λ_ h=>h,λ_ _ _ h=>⟨h,by rw[hh]⟩,λ_ _ _ h=>h,λ_ _ _ _ _ h=>h⟩
 have:=r.next (o':=s.o) (G':=G) (w':=w') k r.len (λi ob g hl hlive=>(r.ok i ob g hl hlive).keeps k (λ_ _=>by rw[hh])) r.apart
  (λi ob g b hl hlive hF=>by have:=r.fresh i ob g b hl hlive hF;rw[hh];exact this) (by rw[hh];exact cX _) (λ_ _ _=>by rw[hh]) same
 exact this
theorem Rz(f:Operand)(args:Array Operand)(Fj:Array TypeId){g:FuncId}{cap:List AV}{rr:AV}(hf:s.ev f= .fn g cap)
  (qD:OkN P g (xV s.o (s.args args++cap)) rr):
  Step P B ⟨dst,.call {callee:= .value f,args:=args,argTypes:=Fj},ty,pos,after,gd⟩ s (s.put dst rr):=by
 rintro a w next Q ⟨G,r⟩ hn
 have h1:=r.ev f;rw[hf]at h1;simp only[R]at h1;obtain⟨_,cs,hv,nQ⟩:=h1;have hargs:Rc w (env B s.o G w) (s.args args++cap) (args.toList.map a.eval++cs) []:=by have:=gK (qN r args.toList) nQ;simpa [AS.args]using this
 obtain⟨v,w',RA,hh,iN,hR⟩:=qD w _ (GD r _ _ hargs);unfold Oper.wp;have hrun:(execOp a.eval ⟨dst,.call {callee:= .value f,args:=args,argTypes:=Fj},ty,pos,after,gd⟩).run P w= .ok (.value v) w':=by
  have e:args.map a.eval++cs.toArray=(args.toList.map a.eval++cs).toArray:=by apply AM;simp
  simp[execOp,resolve,hv,Deferred.ofValue,invoke,e,RA]
 rw[hrun,Oper.upon_value];exact hn _ _ ⟨G,(r.heap hh iN).put dst (hR _ _)⟩
end
end Go.Aw
