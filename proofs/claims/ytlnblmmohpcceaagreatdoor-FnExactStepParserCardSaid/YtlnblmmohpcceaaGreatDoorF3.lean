/-
  Proved here: that the abstract walk of a function is sound.
  No condition beyond what each statement spells out.
-/
import Derived.Test.YtlnblmmohpcceaaGreatDoorF2
import Derived.Test.YtlnblmmohpcceaaGreatDoorF9
import Derived.Orders
set_option linter.all false
namespace Go.Aw
def gF (s s':AS):Prop:=∀⦃P:Program⦄ [aA P] (B:Base P) a w,Rel B s a w→Rel B s' a w
def tK (K:AS→Prop) (Q:Exit→AS→Prop):Exit→AS→Prop
 | .normal,s=>K s
 |e,s=>Q e s
def AIn (id:Nat) (Q:Exit→AS→Prop):Exit→AS→Prop
 | .exit id',s=>if id'=id then Q .normal s else Q (.exit id') s
 |e,s=>Q e s
def lift {P:Program} [aA P] (B:Base P) (Q:Exit→AS→Prop):Exit→Act→World→Prop:=fun e a w=>∃s,Q e s∧Rel B s a w
def aJf (want:Bool):AV→AV
 | .tup []=> .bool (!want)
 |x=>x
@[simp] theorem bGj (w b:Bool):aJf w (.bool b)= .bool b:=rfl
@[simp] theorem bGr (w:Bool):aJf w (.tup [])= .bool (!w):=rfl
theorem bBm {w b:Bool} {x:AV} (h:aJf w x= .bool b):(x= .tup []∧b= !w)∨x= .bool b:=by
 unfold aJf at h
 split at h
 ·exact .inl ⟨rfl,(AV.bool.inj h).symm⟩
 ·exact .inr h
theorem aSk (w:World) (E:Env):R w E (.tup []) undef []:=by
 simp only [R];exact ⟨[],rfl,by simp [Rc]⟩
def lG (all:List Oper) (s:AS) (j:Nat) (want:Bool):AV:=match all[j]? with
 |some o=>match o.dst with
  |some d=>aJf want (s.t.getD d .undef)
  |none=> .undef
 |none=> .undef
def zU (P:Program) [aA P] (o:Oper) (s:AS) (K:AS→Prop):Prop:=
 match o.op with
 | .call ⟨.value f,⟨x::ys⟩,_⟩=>match s.ev f with
  | .fn g []=>callable P g=true∧(ys.all fun y=>(s.ev y).plainV)=true∧eY s.o (s.ev x)=true∧(uses (s.ev x)).Nodup∧∃x' r,OkM P g (res s.o (s.ev x)) x' (ys.map s.ev) r∧(r.plainV=true∨r= .tup [])∧mt s.o (s.ev x) x'=true∧K (s.mutated o.dst (s.ev x) x' r)
  |_=>False
 | .convert src d x=>match s.ev x with
  | .str l=>match elemA P d with
   |some (e,m,_)=>isString P src=true∧m=1∧intType P e=some .u8∧l.length≤9223372036854775807∧K (s.made o.dst 1 (eD l))
   |none=>False
  |_=>False
 |_=>False
theorem aT9 {P:Program} [aA P] {B:Base P} {o:Oper} {s:AS} {K:AS→Prop} (h:zU P o s K):∃s',K s'∧Step P B o s s':=by
 obtain ⟨dst,op,ty,pos,after,gd⟩:=o
 unfold zU at h
 dsimp only at h
 split at h
 ·split at h
  ·rename_i hf
   obtain ⟨h1,h2,h3,h4,x',r,h5,h6,h7,h8⟩:=h
   exact ⟨_,h8,bAn _ _ _ _ hf h1 h2 h6 h3 h4 h7 h5⟩
  ·exact h.elim
 ·split at h
  ·rename_i hx
   split at h
   ·rename_i he
    obtain ⟨h1,rfl,h2,h3,h4⟩:=h
    exact ⟨_,h4,aXz _ _ _ hx h1 he h2 h3⟩
   ·exact h.elim
  ·exact h.elim
 ·exact h.elim
def aFo (P:Program) [aA P] (o:Oper) (s:AS) (K:AS→Prop):Prop:=
 match o.op with
 | .call ⟨.value f,args,_⟩=>match s.ev f with
  | .fn g []=>callable P g=true∧∃gs r,OkG P g gs r∧(takes s.o (s.args args) gs).Nodup∧handed s.o (takes s.o (s.args args) gs) (s.args args) gs∧K (s.given o.dst (s.args args) gs r)
  |_=>False
 |_=>False
theorem aX2 {P:Program} [aA P] {B:Base P} {o:Oper} {s:AS} {K:AS→Prop} (h:aFo P o s K):∃s',K s'∧Step P B o s s':=by
 obtain ⟨dst,op,ty,pos,after,gd⟩:=o
 unfold aFo at h
 dsimp only at h
 split at h
 ·split at h
  ·rename_i hf
   obtain ⟨h1,gs,r,h2,h3,h4,h5⟩:=h
   exact ⟨_,h5,aZv _ _ _ hf h1 h3 h4 h2⟩
  ·exact h.elim
 ·exact h.elim
theorem gF.refl (s:AS):gF s s:=fun _ _ _ _ _ h=>h
theorem gF.trans {a b c:AS} (h:gF a b) (k:gF b c):gF a c:=fun _ _ B x w r=>k B x w (h B x w r)
def xX (P:Program) [aA P] (o:Oper) (s:AS) (K:AS→Prop):Prop:=∃s1,gF s s1∧(aop P o s1 K∨zU P o s1 K∨aFo P o s1 K)
theorem aJn {P:Program} [aA P] {B:Base P} {o:Oper} {s:AS} {K:AS→Prop} (h:xX P o s K):∃s',K s'∧Step P B o s s':=by
 obtain ⟨s1,hw,h⟩:=h
 obtain ⟨s',hK,hst⟩:∃s',K s'∧Step P B o s1 s':=by
  rcases h with h|h|h
  ·exact sQ h
  ·exact aT9 h
  ·exact aX2 h
 exact ⟨s',hK,fun a w next Q hr hn=>hst a w next Q (hw B a w hr) hn⟩
theorem aY5 {P:Program} [aA P] {o:Oper} {s:AS} {K:AS→Prop} (h:zU P o s K):xX P o s K:=⟨s,gF.refl s,.inr (.inl h)⟩
theorem bFq {P:Program} [aA P] {o:Oper} {s:AS} {K:AS→Prop} (h:aFo P o s K):xX P o s K:=⟨s,gF.refl s,.inr (.inr h)⟩
theorem bE8 {P:Program} [aA P] {o:Oper} {s:AS} {K:AS→Prop} (h:bAo P o s K):xX P o s K:=by
 unfold bAo at h
 split at h
 ·split at h
  ·split at h
   ·rename_i ob hob
    exact ⟨_,fun _ _ B a w hr=>bD8 hob h.1 hr,.inl h.2⟩
   ·exact h.elim
  ·exact h.elim
 ·exact h.elim
def fD (P:Program) [aA P] (all:List Oper):List Oper→AS→(AS→Prop)→Prop
 |[],s,K=>K s
 |o::r,s,K=>match o.guard with
  |none=>(aop P o s fun s'=>fD P all r s' K)∨(xX P o s fun s'=>fD P all r s' K)
  |some (j,want)=>match lG all s j want with
   | .bool b=>(b=want→aop P o s fun s'=>fD P all r s' K)∧(b≠want→fD P all r (s.put o.dst (.tup [])) K)
   |_=>False
def aP8 (P:Program) [aA P] (ops:Array Oper) (s:AS) (K:AS→Prop):Prop:=
 ∀(B:Base P) a w (Q:Exit→Act→World→Prop),Rel B s a w→(∀a' w' s',K s'→Rel B s' a' w'→Q .normal a' w')→
  wpAny P .any ops Q ops.size (Array.replicate ops.size false) a {w with drawn:=w.drawn+1}
def awp (P:Program) [aA P]:Code→AS→(Exit→AS→Prop)→Prop
 | .skip,s,Q=>Q .normal s
 | .region _ ops false,s,Q=>∃s2,gF s s2∧fD P ops.toList ops.toList s2 (Q .normal)
 | .region _ ops true,s,Q=>aP8 P ops s (Q .normal)
 | .seq x y,s,Q=>awp P x s (tK (fun s'=>awp P y s' Q) Q)
 | .cond c x y,s,Q=>match s.ev c with
  | .bool b=>(b=true→awp P x s Q)∧(b=false→awp P y s Q)
  |_=>False
 | .block id c,s,Q=>awp P c s (AIn id Q)
 | .loop c,s,Q=>∃(ι:Type) (inv:ι→AS) (μ:ι→Nat) (i:ι),gF s (inv i)∧∀i,awp P c (inv i) (tK (fun s'=>∃j,gF s' (inv j)∧μ j < μ i) Q)
 | .exit id,s,Q=>Q (.exit id) s
 | .ret,s,Q=>Q .ret s
 |_,_,_=>False
theorem aIc {P:Program} [aA P] {B:Base P} {s:AS} {G:List CO} {a:Act} {w:World} (r:bC B s G a w) {all:List Oper} {j:Nat} {b want:Bool} (h:lG all s j want= .bool b):(yielded all.toArray a.tmps j == some want)=(b == want):=by
 unfold lG at h
 split at h
 ·rename_i o ho
  split at h
  ·rename_i d hd
   have h1:=r.ev (.tmp d)
   simp only [AS.ev] at h1
   rcases bBm h with ⟨h0,rfl⟩|h0
   ·rw [h0] at h1
    simp only [R] at h1
    obtain ⟨cs,h2,h3⟩:=h1
    cases cs with
    |cons=>simp [Rc] at h3
    |nil=>
     simp only [Act.eval] at h2
     rw [Array.getD_eq_getD_getElem?] at h2
     cases hg:a.tmps[d]? with
     |none=>simp [yielded,ho,hd,hg]
     |some v=>
      simp [hg] at h2
      subst h2
      simp [yielded,ho,hd,hg]
   ·rw [h0] at h1
    simp only [R] at h1
    have h2:=h1.1
    simp only [Act.eval] at h2
    rw [Array.getD_eq_getD_getElem?] at h2
    cases hg:a.tmps[d]? with
    |none=>simp [hg] at h2;cases h2
    |some v=>simp [hg] at h2;subst h2;simp [yielded,ho,hd,hg]
  ·cases h
 ·cases h
theorem aDj {P:Program} [aA P] {B:Base P} {all:List Oper} {Q:Exit→Act→World→Prop}:∀(l:List Oper) (s:AS) (K:AS→Prop),fD P all l s K→∀a w,Rel B s a w→(∀a' w' s',K s'→Rel B s' a' w'→Q .normal a' w')→wpList P all.toArray Q l a w
 |[],s,K,h,a,w,r,hk=>hk _ _ _ h r
 |o::l,s,K,h,a,w,r,hk=>by
  simp only [fD] at h
  have stepped:((aop P o s fun s'=>fD P all l s' K)∨(xX P o s fun s'=>fD P all l s' K))→Region.wanted o (yielded all.toArray a.tmps)=true→wpList P all.toArray Q (o::l) a w:=by
   intro h hw
   obtain ⟨s',h',hst⟩:∃s',fD P all l s' K∧Step P B o s s':=by
    rcases h with h|h
    ·exact sQ (B:=B) h
    ·exact aJn (B:=B) h
   simp only [wpList,hw,if_true]
   exact .inl (hst a w _ Q r fun a' w' r'=>aDj l s' K h' a' w' r' hk)
  split at h
  ·rename_i hg
   exact stepped h (by simp [Region.wanted,hg])
  ·rename_i j want hg
   split at h
   ·rename_i b hb
    obtain ⟨G,r'⟩:=r
    have hy:=aIc r' hb
    by_cases hbw:b=want
    ·exact stepped (.inl (h.1 hbw)) (by simp [Region.wanted,hg,hy,hbw])
    ·have hw:Region.wanted o (yielded all.toArray a.tmps)=false:=by simp [Region.wanted,hg,hy,hbw]
     simp only [wpList,hw,Bool.false_eq_true,if_false]
     exact aDj l _ K (h.2 hbw) _ _ ⟨G,r'.put o.dst (aSk _ _)⟩ hk
   ·exact h.elim
theorem aK3 {ι:Type} (p:ι→Prop) (μ:ι→Nat) (h:∃i,p i):∃i,p i∧∀j,p j→μ i≤μ j:=by
 obtain ⟨i,hi⟩:=h
 generalize hn:μ i=n
 induction n using Nat.strongRecOn generalizing i with
 |_ n ih=>
  by_cases hex:∃j,p j∧μ j < n
  ·obtain ⟨j,hj,hlt⟩:=hex
   exact ih (μ j) hlt j hj rfl
  ·refine ⟨i,hi,fun j hj=> ?_⟩
   rw [hn]
   exact Nat.le_of_not_lt fun hlt=>hex ⟨j,hj,hlt⟩
open Classical in
noncomputable def least {ι : Type} (p : ι → Prop) (μ : ι → Nat) : Nat := if h : ∃ i, p i then μ (aK3 p μ h).choose else 0
theorem bBx {ι:Type} {p:ι→Prop} {μ:ι→Nat} {j:ι} (h:p j):least p μ≤μ j:=by
 have hex:∃i,p i:=⟨j,h⟩
 unfold least
 rw [dif_pos hex]
 exact (aK3 p μ hex).choose_spec.2 j h
theorem bBb {ι:Type} {p:ι→Prop} {μ:ι→Nat} (h:∃i,p i):∃i,p i∧least p μ=μ i:=by
 refine ⟨(aK3 p μ h).choose,(aK3 p μ h).choose_spec.1,?_⟩
 unfold least
 rw [dif_pos h]
theorem nS {P:Program} [aA P] (hm:P.follows .mixedOrders=true) {B:Base P}:∀(c:Code) (s:AS) (Q:Exit→AS→Prop),awp P c s Q→∀a w,Rel B s a w→c.wp P (lift B Q) a w
 | .skip,s,Q,h,a,w,r=>wp_skip ⟨s,h,r⟩
 | .region id ops false,s,Q,⟨s2,hw,h⟩,a,w,r=>wp_region_list (by
   have:=aDj (Q:=lift B Q) ops.toList s2 (Q .normal) h a w (hw B a w r) (fun a' w' s' h' r'=>⟨s',h',r'⟩)
   simpa using this)
 | .region id ops true,s,Q,h,a,w,r=>wp_region_any hm (h B a w (lift B Q) r fun a' w' s' h' r'=>⟨s',h',r'⟩)
 | .seq x y,s,Q,h,a,w,r=>wp_seq (wp_mono (nS hm x s _ h a w r) fun e a' w' he=>by
   obtain ⟨s',h',r'⟩:=he
   cases e with
   |normal=>exact nS hm y s' Q h' a' w' r'
   |_=>exact ⟨s',h',r'⟩)
 | .cond c x y,s,Q,h,a,w,r=>by
  simp only [awp] at h
  split at h
  ·rename_i b hb
   obtain ⟨G,r'⟩:=r
   exact wp_cond_split (r'.boolv hb) (fun hb=>nS hm x s Q (h.1 hb) a w ⟨G,r'⟩) (fun hb=>nS hm y s Q (h.2 hb) a w ⟨G,r'⟩)
  ·exact h.elim
 | .block id c,s,Q,h,a,w,r=>wp_block (wp_mono (nS hm c s _ h a w r) fun e a' w' he=>by
   obtain ⟨s',h',r'⟩:=he
   cases e with
   |exit id'=>
    simp only [AIn] at h'
    simp only [Exit.inBlock]
    split at h'
    ·rename_i hid;rw [if_pos hid];exact ⟨s',h',r'⟩
    ·rename_i hid;rw [if_neg hid];exact ⟨s',h',r'⟩
   |_=>exact ⟨s',h',r'⟩)
 | .loop c,s,Q,h,a,w,r=>by
  obtain ⟨ι,inv,μ,i,h0,hr⟩:=h
  refine wp_loop (fun a w=>∃i,Rel B (inv i) a w) (fun a w=>least (fun i=>Rel B (inv i) a w) μ) ⟨i,h0 B a w r⟩ fun a w hex=> ?_
  obtain ⟨i,hi,hmin⟩:=bBb (μ:=μ) hex
  refine wp_mono (nS hm c (inv i) _ (hr i) a w hi) fun e a' w' he=> ?_
  obtain ⟨s',h',r'⟩:=he
  cases e with
  |normal=>
   obtain ⟨j,hw,hlt⟩:=h'
   have hj:=hw B a' w' r'
   refine ⟨⟨j,hj⟩,?_⟩
   rw [hmin]
   exact Nat.lt_of_le_of_lt (bBx hj) hlt
  |_=>exact ⟨s',h',r'⟩
 | .exit id,s,Q,h,a,w,r=>wp_exit ⟨s,h,r⟩
 | .ret,s,Q,h,a,w,r=>wp_ret ⟨s,h,r⟩
 | .rangeFunc _ _ _ _,_,_,h,_,_,_=>by simp [awp] at h
 | .scope _,_,_,h,_,_,_=>by simp [awp] at h
 | .label _,_,_,h,_,_,_=>by simp [awp] at h
 | .goto _,_,_,h,_,_,_=>by simp [awp] at h
 | .refuse _,_,_,h,_,_,_=>by simp [awp] at h
def AS.rv (P:Program) (s:AS):ResultVar→Option AV
 | .tmp t=>some (s.t.getD t .undef)
 | .cell t ty=>match s.t.getD t .undef with
  | .ptr i ver idx off=>match s.at i ver idx with
   |some (_,e)=>match aggSize P ty with
    |some n=>if off+n≤e.length then some (.agg (((rtc (dpf i) true e).drop off).take n)) else none
    |none=>if oneSize P ty then (rtc (dpf i) true e)[off]? else none
   |none=>none
  |_=>none
def aAb (a:Act):ResultVar→Sem Value
 | .tmp t=>pure (a.tmps.getD t Go.undef)
 | .cell t ty=>do loadVar ty (←asAddr (a.tmps.getD t Go.undef))
theorem aLh (fn:Func) (a:Act):results fn a.tmps=(do let vs←fn.results.mapM (aAb a);pure (if h:vs.size=1 then vs[0] else .tuple vs)):=by
 unfold results
 congr 1
 all_goals (congr 1;all_goals (funext x;cases x<;>rfl))
theorem bE0 {P:Program} [aA P] {B:Base P} {s:AS} {G:List CO} {a:Act} {w:World} (r:bC B s G a w) {rv:ResultVar} {x:AV} (h:s.rv P rv=some x):
  ∃v,(aAb a rv).run P w= .ok v w∧R w (env B s.o G w) x v []:=by
 cases rv with
 |tmp t=>
  simp only [AS.rv,Option.some.injEq] at h
  subst h
  exact ⟨a.tmps.getD t Go.undef,rfl,r.ev (.tmp t)⟩
 |cell t ty=>
  simp only [AS.rv] at h
  split at h
  ·rename_i i ver idx off hx
   split at h
   ·rename_i ob e ha
    obtain ⟨ho,he⟩:=vY ha
    obtain ⟨g,b,f,hl,hlive,hga,hv⟩:=r.ptr (x:= .tmp t) hx ho
    obtain ⟨b',f',cs,ha',hcn,hc,hone,hrc⟩:=r.elem hl hlive he
    rw [hga] at ha'
    simp only [Option.some.injEq,Addr.mk.injEq,and_true] at ha'
    obtain ⟨rfl,rfl⟩:=ha'
    have hle:=eF hrc
    rw [zW] at hle
    simp only [Act.eval] at hv
    split at h
    ·rename_i n hn
     split at h
     ·rename_i hfit
      obtain rfl:=Option.some.inj h
      refine ⟨.agg ((cs.drop off).take n).toArray,?_,by simp only [R];exact ⟨_,rfl,aBx hone,aIg off n hrc⟩⟩
      have:=qA (P:=P) (t:=ty) (k:=off) (n:=n) (cs:=cs) hn (by omega) hc
      simp only [Instr.loadAt,Instr.sureAddr,pure_bind] at this
      simp [aAb,hv,asAddr,←Nat.add_assoc,this]
     ·cases h
    ·split at h
     ·rename_i hone1
      obtain ⟨v,hv',hR⟩:=aA1 hrc h
      refine ⟨v,?_,hR⟩
      have:=uE (P:=P) (t:=ty) hone1 hv' hc
      simp only [Instr.loadAt,Instr.sureAddr,pure_bind] at this
      simp [aAb,hv,asAddr,←Nat.add_assoc,this]
     ·cases h
   ·cases h
  ·cases h
def AS.rvs (P:Program) (s:AS):List ResultVar→Option (List AV)
 |[]=>some []
 |x::xs=>match s.rv P x with
  |some y=>match AS.rvs P s xs with
   |some ys=>some (y::ys)
   |none=>none
  |none=>none
def single:List AV→AV
 |[x]=>x
 |xs=> .tup xs
def Hands (P:Program) (fn:Func) (s:AS) (r:AV):Prop:=
 ∃ys,s.rvs P fn.results.toList=some ys∧eY s.o (single ys)=true∧(uses (single ys)).Nodup∧res s.o (single ys)=r∧clean r=true
theorem aMn {P:Program} [aA P] {B:Base P} {s:AS} {G:List CO} {a:Act} {w:World} (r:bC B s G a w):∀{l:List ResultVar} {ys:List AV},s.rvs P l=some ys→
  ∃vs,(l.mapM (m:=Sem) (aAb a)).run P w= .ok vs w∧Rc w (env B s.o G w) ys vs []
 |[],ys,h=>by
  simp only [AS.rvs,Option.some.injEq] at h
  subst h
  exact ⟨[],by simp,by simp [Rc]⟩
 |x::xs,ys,h=>by
  simp only [AS.rvs] at h
  split at h
  ·rename_i y hy
   split at h
   ·rename_i ys' hys
    obtain rfl:=Option.some.inj h
    obtain ⟨v,h1,h2⟩:=bE0 r hy
    obtain ⟨vs,h3,h4⟩:=aMn r hys
    refine ⟨v::vs,?_,by simp only [Rc];exact ⟨[],[],h2,h4,rfl⟩⟩
    simp only [List.mapM_cons,Sem.run_bind]
    rw [h1]
    simp only [Result.andThen_ok]
    rw [h3]
    simp
   ·cases h
  ·cases h
theorem yD {P:Program} [aA P] {B:Base P} {s:AS} {G:List CO} {a:Act} {w:World} (r:bC B s G a w) {fn:Func} {ys:List AV} (h:s.rvs P fn.results.toList=some ys):
  ∃v,(results fn a.tmps).run P w= .ok v w∧R w (env B s.o G w) (single ys) v []:=by
 obtain ⟨vs,h1,h2⟩:=aMn r h
 have hl:=eF h2
 have hm:(fn.results.mapM (m:=Sem) (aAb a)).run P w= .ok vs.toArray w:=by
  rw [Array.mapM_eq_mapM_toList]
  simp only [Sem.run_map]
  rw [h1]
  rfl
 rw [aLh]
 simp only [Sem.run_bind]
 rw [hm]
 simp only [Result.andThen_ok,Sem.run_pure]
 match ys,vs,hl,h2 with
 |[y],[v],_,h2=>
  refine ⟨v,by simp,?_⟩
  simp only [Rc] at h2
  obtain ⟨f1,f2,h3,_,e⟩:=h2
  obtain ⟨rfl,_⟩:f1=[]∧f2=[]:=by simpa using e
  exact h3
 |[],[],_,h2=>exact ⟨.tuple #[],by simp,by simp only [single,R];exact ⟨[],rfl,h2⟩⟩
 |y1::y2::ys,v1::v2::vs,_,h2=>exact ⟨.tuple (v1::v2::vs).toArray,by simp,by simp only [single,R];exact ⟨_,rfl,h2⟩⟩
theorem aM9 {P:Program} [aA P] (hm:P.follows .mixedOrders=true) {f:FuncId} {fn:Func} {c:Code} (hf:P.funcs[f]? =some fn) (hb:fn.body=some c) {args:List AV} {rr:AV}
  (h:awp P c ⟨args++List.replicate (fn.ntmps - args.length) .undef,[]⟩ (fun e s=>(e= .normal∨e= .ret)∧Hands P fn s rr)):Ok P f args rr:=by
 intro w vs hg hargs
 have hl:=eF hargs
 have r0:bC ⟨w,fun b=>b < w.heap.size,fun _=>False,fun _=>none,fun _=>none,hg,fun _ h=>h.elim,fun _ h=>h.elim⟩ ⟨args++List.replicate (fn.ntmps - args.length) .undef,[]⟩ [] {tmps:=vs.toArray++Array.replicate (fn.ntmps - vs.toArray.size) Go.undef,defers:=[]} w:=by
  refine ⟨rfl,rfl,fun i ob g hl=>by simp [look] at hl,fun i j oi oj gi gj b hl=>by simp [look] at hl,fun i ob g b hl=>by simp [look] at hl,?_,Nat.le_refl _,fun _ _ _=>rfl,fun b hb=>hb,Same.rfl⟩
  have h1:Rc w (env ⟨w,fun b=>b < w.heap.size,fun _=>False,fun _=>none,fun _=>none,hg,fun _ h=>h.elim,fun _ h=>h.elim⟩ [] [] w) args vs []:=bY (w:=w) (w':=w) (E:=jC w) (E':=env ⟨w,fun b=>b < w.heap.size,fun _=>False,fun _=>none,fun _=>none,hg,fun _ h=>h.elim,fun _ h=>h.elim⟩ [] [] w) ⟨fun b hb=>⟨⟨.inl hb,fun i ob g hl=>by simp [look] at hl⟩,rfl⟩,fun _ _=>trivial,fun _ _ _ h=>by exact h.elim,fun _ _ _ h=>by exact h.elim,fun _ _ _ _ _ h=>by exact h.elim⟩ _ _ _ (by simp) hargs
  have h2:∀n,Rc w (env ⟨w,fun b=>b < w.heap.size,fun _=>False,fun _=>none,fun _=>none,hg,fun _ h=>h.elim,fun _ h=>h.elim⟩ [] [] w) (List.replicate n .undef) (List.replicate n Go.undef) []:=by
   intro n
   induction n with
   |zero=>simp [Rc]
   |succ n ih=>simp only [List.replicate_succ,Rc];exact ⟨[],[],by simp [R],ih,rfl⟩
  have:=jX h1 (h2 (fn.ntmps - args.length))
  simpa [hl] using this
 refine calls_of_wp hf hb (wp_mono (nS hm c _ _ h _ _ ⟨_,r0⟩) fun e a w' he=> ?_)
 obtain ⟨s,⟨he,ys,hys,hok,hu,hres,hcl⟩,G,r⟩:=he
 obtain ⟨v,hrun,hR⟩:=yD r hys
 obtain ⟨fp,h1,h2,h3⟩:=aB1 r _ v hok hu hR
 rw [hres] at h1
 have hfin:∃v' fp,Ending.returned v= .returned v'∧R w' (aAh w.heap.size w' fp) rr v' fp∧fp.Nodup∧(∀b∈fp,w.heap.size≤b∧b < w'.heap.size)∧w.heap.size≤w'.heap.size∧(∀b,b < w.heap.size→w'.heap[b]? =w.heap[b]?)∧Same w w':=by
  refine ⟨v,fp,rfl,bCy <| aCq (E:=(env _ s.o G w').plain) (fun _ _=>trivial) rfl rfl rfl _ _ _ hcl h1,h2,fun b hb=> ?_,r.size,fun b hb=>r.frame b hb (fun h=>h),r.same⟩
  obtain ⟨i,ob,g,_,hl,hlive,hF⟩:=h3 b hb
  have:=r.fresh _ _ _ b hl hlive hF
  exact ⟨this.1.resolve_left (fun h=>h),this.2⟩
 rcases he with rfl|rfl
 ·exact ⟨r.defs,v,hrun,hfin⟩
 ·exact ⟨r.defs,v,hrun,hfin⟩
theorem aRs {P:Program} [aA P] {all:List Oper} {s:AS} {K:AS→Prop} (h:K s):fD P all [] s K:=h
theorem aKd {P:Program} [aA P] {id:Nat} {l:List Oper} {s:AS} {Q:Exit→AS→Prop} (h:fD P l l s (Q .normal)):awp P (.region id l.toArray false) s Q:=by
 simp only [awp];exact ⟨s,gF.refl s,h⟩
theorem aYe {P:Program} [aA P] {id:Nat} {ops:Array Oper} {s s2:AS} {Q:Exit→AS→Prop} (hw:gF s s2) (h:awp P (.region id ops false) s2 Q):awp P (.region id ops false) s Q:=by
 simp only [awp] at h⊢
 obtain ⟨s3,h1,h2⟩:=h
 exact ⟨s3,hw.trans h1,h2⟩
theorem aIy {P:Program} [aA P] {c:Operand} {x y:Code} {s:AS} {Q:Exit→AS→Prop} {b:Bool} (hc:s.ev c= .bool b) (h1:b=true→awp P x s Q) (h2:b=false→awp P y s Q):awp P (.cond c x y) s Q:=by
 simp only [awp,hc]
 exact ⟨h1,h2⟩
theorem aNz {P:Program} [aA P] {id:Nat} {c:Code} {s:AS} {Q:Exit→AS→Prop} (h:awp P c s (AIn id Q)):awp P (.block id c) s Q:=h
theorem aRh {P:Program} [aA P] {id:Nat} {s:AS} {Q:Exit→AS→Prop} (h:Q (.exit id) s):awp P (.exit id) s Q:=h
theorem aWg {P:Program} [aA P] {s:AS} {Q:Exit→AS→Prop} (h:Q .ret s):awp P .ret s Q:=h
theorem aQe {P:Program} [aA P] {s:AS} {Q:Exit→AS→Prop} (h:Q .normal s):awp P .skip s Q:=h
theorem bB9 {P:Program} [aA P] {c:Code} {s:AS} {Q:Exit→AS→Prop} {ι:Type} (inv:ι→AS) (μ:ι→Nat) (i:ι) (h0:gF s (inv i)) (h:∀i,∀K:AS→Prop,(∀s' j,gF s' (inv j)→μ j < μ i→K s')→awp P c (inv i) (tK K Q)):awp P (.loop c) s Q:=
 ⟨ι,inv,μ,i,h0,fun i=>h i _ fun _ j h1 h2=>⟨j,h1,h2⟩⟩
theorem aE9 {K:AS→Prop} {Q:Exit→AS→Prop} {s:AS} (h:Q .ret s):tK K Q .ret s:=h
theorem aEi {K:AS→Prop} {Q:Exit→AS→Prop} {s:AS} {id:Nat} (h:Q (.exit id) s):tK K Q (.exit id) s:=h
theorem aEm {Q:Exit→AS→Prop} {s:AS} {id:Nat} (h:Q .normal s):AIn id Q .normal s:=h
theorem aKq {Q:Exit→AS→Prop} {s:AS} {id:Nat} (h:Q .ret s):AIn id Q .ret s:=h
theorem aNf {Q:Exit→AS→Prop} {s:AS} {id:Nat} (h:Q .normal s):AIn id Q (.exit id) s:=by simpa [AIn] using h
theorem aNd {Q:Exit→AS→Prop} {s:AS} {id id':Nat} (hne:id'≠id) (h:Q (.exit id') s):AIn id Q (.exit id') s:=by simpa [AIn,hne] using h
def wk:List AV→List AV→Prop
 |[],[]=>True
 |x::xs,y::ys=>(y=x∨y= .undef)∧wk xs ys
 |_,_=>False
theorem wX {w:World} {E:Env}:∀{t t':List AV} {vs:List Value},wk t t'→Rc w E t vs []→Rc w E t' vs []
 |[],[],_,_,h=>h
 |[],_::_,_,h,_=>h.elim
 |_::_,[],_,h,_=>h.elim
 |_::_,_::_,[],_,h=>by simp [Rc] at h
 |x::xs,y::ys,v::vs,h,hr=>by
  simp only [Rc] at hr⊢
  obtain ⟨f1,f2,h1,h2,e⟩:=hr
  obtain ⟨rfl,rfl⟩:f1=[]∧f2=[]:=by simpa using e
  refine ⟨[],[],?_,wX h.2 h2,rfl⟩
  rcases h.1 with rfl|rfl
  ·exact h1
  ·simp [R]
theorem uN {t t':List AV} {o:List aB} (h:wk t t'):gF ⟨t,o⟩ ⟨t',o⟩:=by
 rintro P _ B a w ⟨G,r⟩
 exact ⟨G,{r with tmps:=wX h r.tmps}⟩
theorem wrap64 (n:Int) (h1: -9223372036854775808≤n) (h2:n≤9223372036854775807):IntKind.i64.wrap n=n:=by rw [IntKind.wrap_i64];omega
mutual
def xA : AV → Nat
  | .sl .own _ _ => 1
  | .agg c => qE c
  | .tup c => qE c
  | _ => 0
def qE : List AV → Nat
  | [] => 0
  | x :: xs => xA x + qE xs
end
mutual
def vH (q k : Nat) : AV → AV
  | .sl .own _ _ => .obj k q
  | .agg c => .agg (qC q k c)
  | .tup c => .tup (qC q k c)
  | .int a b => .int a b
  | .bool b => .bool b
  | .str s => .str s
  | .sl g n l => .sl g n l
  | .vptr g c off => .vptr g c off
  | .obj i v => .obj i v
  | .ptr i v j o => .ptr i v j o
  | .fn f c => .fn f c
  | .undef => .undef
def qC (q k : Nat) : List AV → List AV
  | [] => []
  | x :: xs => vH q k x :: qC q (k + xA x) xs
end
mutual
def uD (q : Nat) : AV → List aB
  | .sl .own n l => [⟨true, false, n, q, l⟩]
  | .agg c => oK q c
  | .tup c => oK q c
  | .int _ _ => []
  | .bool _ => []
  | .str _ => []
  | .sl _ _ _ => []
  | .vptr _ _ _ => []
  | .obj _ _ => []
  | .ptr _ _ _ _ => []
  | .fn _ _ => []
  | .undef => []
def oK (q : Nat) : List AV → List aB
  | [] => []
  | x :: xs => uD q x ++ oK q xs
end
mutual
theorem aH7 (q : Nat) : ∀ x : AV, (uD q x).length = xA x
  | .sl .own _ _ => rfl
  | .sl .view _ _ => rfl
  | .sl (.dep _) _ _ => rfl
  | .agg c => aBa q c
  | .tup c => aBa q c
  | .int _ _ => rfl
  | .bool _ => rfl
  | .str _ => rfl
  | .vptr _ _ _ => rfl
  | .obj _ _ => rfl
  | .ptr _ _ _ _ => rfl
  | .fn _ _ => rfl
  | .undef => rfl
theorem aBa (q : Nat) : ∀ c : List AV, (oK q c).length = qE c
  | [] => rfl
  | x :: xs => by simp only [oK, qE, List.length_append, aH7 q x, aBa q xs]
end
mutual
theorem lX (q k : Nat) : ∀ x : AV, bF q k x = (vH q k x, uD q x)
  | .sl .own _ _ => rfl
  | .sl .view _ _ => rfl
  | .sl (.dep _) _ _ => rfl
  | .agg c => by simp only [bF, vH, uD, jL q k c]
  | .tup c => by simp only [bF, vH, uD, jL q k c]
  | .int _ _ => rfl
  | .bool _ => rfl
  | .str _ => rfl
  | .vptr _ _ _ => rfl
  | .obj _ _ => rfl
  | .ptr _ _ _ _ => rfl
  | .fn _ _ => rfl
  | .undef => rfl
theorem jL (q k : Nat) : ∀ c : List AV, dD q k c = (qC q k c, oK q c)
  | [] => rfl
  | x :: xs => by simp only [dD, qC, oK, lX q k x, jL q _ xs, aH7]
end
attribute [simp] wk AS.ev AS.put AS.box AS.shut AV.fit AV.cells AV.isObj AS.at AS.stored qF ofV rt rtc rtr AV.kept dpf vwf AS.args arg oM AS.called vH qC uD oK xA qE lX jL AS.target AS.source AS.appended AS.resliced AS.bound AS.made aLd aKr aB.kill
  AV.solid AV.good AV.known AV.scalar oN oN.go AS.built kills aPz eZ uses jP res eY iH aBi clean uM eB single AS.rv AS.rvs lG tK AIn AV.nd aXh aUg aXc dQ AV.plainV
attribute [irreducible] awp fD tK AIn
end Go.Aw

namespace Go.Aw
theorem aOa {P:Program} [aA P] {t:TypeId} {c:List AV} {off:Nat} {K1 K2:AV→Prop} (hk:∀y,K1 y→K2 y) (h:qF P t c off K1):qF P t c off K2:=by
 unfold qF at *
 split at h
 ·exact ⟨h.1,hk _ h.2⟩
 ·refine ⟨h.1,?_⟩
  have:=h.2
  split at this
  ·exact hk _ this
  ·exact this.elim
theorem aM0 {P:Program} [aA P] {o:Oper} {s:AS} {K1 K2:AS→Prop} (hk:∀s',K1 s'→K2 s') (h:aop P o s K1):aop P o s K2:=by
 obtain ⟨dst,op,ty,pos,after,gd⟩:=o
 unfold aop at h⊢
 dsimp only at h⊢
 split at h
 all_goals (repeat' (split at h))
 all_goals (first
  |exact h.elim
  |exact hk _ h
  |exact ⟨h.1,hk _ h.2⟩
  |((repeat (refine ⟨h.1,?_⟩;replace h:=h.2));exact hk _ h)
  |exact aOa (fun y=>hk _) h
  |exact ⟨h.1,aOa (fun y=>hk _) h.2⟩
  |(obtain ⟨r,h1,h2⟩:=h;exact ⟨r,h1,hk _ h2⟩)
  |((repeat (refine ⟨h.1,?_⟩;replace h:=h.2));obtain ⟨r,h1,h2⟩:=h;exact ⟨r,h1,hk _ h2⟩)
  |((repeat (refine ⟨h.1,?_⟩;replace h:=h.2));split at h<;>first|exact hk _ h|((repeat (refine ⟨h.1,?_⟩;replace h:=h.2));exact hk _ h)|exact h.elim)
  |((repeat (refine ⟨h.1,?_⟩;replace h:=h.2));(repeat' (split at h))<;>first|exact h.elim|((repeat (refine ⟨h.1,?_⟩;replace h:=h.2));exact hk _ h)|((repeat (refine ⟨h.1,?_⟩;replace h:=h.2));obtain ⟨r,h1,h2⟩:=h;exact ⟨r,h1,hk _ h2⟩))
  |(have h9:=hk _ h;simp_all;done)
  |((first|rw [if_pos (by assumption)]|rw [if_neg (by assumption)]);((repeat (refine ⟨h.1,?_⟩;replace h:=h.2));exact hk _ h))
  |((first|rw [if_pos (by assumption)]|rw [if_neg (by assumption)]);((repeat (refine ⟨h.1,?_⟩;replace h:=h.2));obtain ⟨r,h1,h2⟩:=h;exact ⟨r,h1,hk _ h2⟩))
  |((repeat (refine ⟨h.1,?_⟩;replace h:=h.2));obtain ⟨r,h1,h2⟩:=h;refine ⟨r,h1,?_⟩;(first|rw [if_pos (by assumption)]|rw [if_neg (by assumption)]);exact hk _ h2))
theorem aYw {P:Program} [aA P] {o:Oper} {s:AS} {K1 K2:AS→Prop} (hk:∀s',K1 s'→K2 s') (h:zU P o s K1):zU P o s K2:=by
 obtain ⟨dst,op,ty,pos,after,gd⟩:=o
 unfold zU at h⊢
 dsimp only at h⊢
 split at h
 ·split at h
  ·obtain ⟨h1,h2,h3,h4,x',r,h5,h6,h7,h8⟩:=h
   exact ⟨h1,h2,h3,h4,x',r,h5,h6,h7,hk _ h8⟩
  ·exact h.elim
 ·split at h
  ·split at h
   ·obtain ⟨h1,h2,h3,h4,h5⟩:=h
    exact ⟨h1,h2,h3,h4,hk _ h5⟩
   ·exact h.elim
  ·exact h.elim
 ·exact h.elim
theorem bA4 {P:Program} [aA P] {o:Oper} {s:AS} {K1 K2:AS→Prop} (hk:∀s',K1 s'→K2 s') (h:aFo P o s K1):aFo P o s K2:=by
 obtain ⟨dst,op,ty,pos,after,gd⟩:=o
 unfold aFo at h⊢
 dsimp only at h⊢
 split at h
 ·split at h
  ·obtain ⟨h1,gs,r,h2,h3,h4,h5⟩:=h
   exact ⟨h1,gs,r,h2,h3,h4,hk _ h5⟩
  ·exact h.elim
 ·exact h.elim
theorem bBq {P:Program} [aA P] {o:Oper} {s:AS} {K1 K2:AS→Prop} (hk:∀s',K1 s'→K2 s') (h:xX P o s K1):xX P o s K2:=by
 obtain ⟨s1,hw,h⟩:=h
 exact ⟨s1,hw,h.imp (aM0 hk) (Or.imp (aYw hk) (bA4 hk))⟩
end Go.Aw

namespace Go.Aw
abbrev Str:=List UInt8
def aC {α:Type} (f:α→Nat):List α→Nat
 |[]=>0
 |x::xs=>f x+aC f xs
def szL {α:Type} (f:α→Nat) (l:List α):Nat:=l.length+aC f l
def sub (n:Int) (k:Nat):Int:=if n < k then -1 else n - k
theorem aV9 {n:Int} {k:Nat} (h:n < k):sub n k= -1:=by simp [sub,h]
theorem uA {n:Int} {k:Nat} (h:¬n < k):sub n k=n - k:=by simp [sub,h]
theorem bT {α:Type} (f:α→Nat):∀(l:List α) (k:Nat) (h:k < l.length),aC f (l.take (k+1))=aC f (l.take k)+f l[k]
 |x::xs,0,_=>by simp [aC]
 |x::xs,k+1,h=>by
  simp only [List.take_succ_cons,aC,List.getElem_cons_succ]
  rw [bT f xs k (by simpa using h)];omega
theorem dC {α:Type} (f:α→Nat):∀(l:List α) (k:Nat),aC f (l.take k)≤aC f l
 |[],k=>by simp
 |x::xs,0=>by simp [aC]
 |x::xs,k+1=>by simp only [List.take_succ_cons,aC];have:=dC f xs k;omega
def nN (z:List AV) (xs:List (List AV)) (k:Nat):List (List AV):=xs.take k++List.replicate (xs.length - k) z
@[simp] theorem bFa (z:List AV) (xs:List (List AV)) (k:Nat):(nN z xs k).length=xs.length:=by simp [nN];omega
theorem pU (z:List AV) (xs:List (List AV)):List.replicate xs.length z=nN z xs 0:=by simp [nN]
theorem qZ (z:List AV) (xs:List (List AV)) (k:Nat) (h:xs.length≤k):nN z xs k=xs:=by
 have:xs.length - k=0:=by omega
 simp [nN,this,List.take_of_length_le h]
theorem qX (z:List AV) (xs:List (List AV)) (k:Nat) (h:k < xs.length):(nN z xs k)[k]? =some z:=by
 have h1:(xs.take k).length=k:=by simp;omega
 rw [nN,List.getElem?_append_right (by omega),h1,Nat.sub_self]
 have:0 < xs.length - k:=by omega
 simp [this]
theorem qP (z:List AV) (xs:List (List AV)) (k:Nat) (h:k < xs.length):(nN z xs k).set k xs[k]=nN z xs (k+1):=by
 have h1:(xs.take k).length=k:=by simp;omega
 have h2:xs.length - k=(xs.length - (k+1))+1:=by omega
 have h3:xs.take (k+1)=xs.take k++[xs[k]]:=by rw [List.take_succ_eq_append_getElem h]
 unfold nN
 rw [h2,List.replicate_succ,List.set_append_right _ _ (by omega),h1,Nat.sub_self,List.set_cons_zero,h3,List.append_assoc]
 rfl
@[simp] theorem dJ {α:Type} (f:α→List AV) (h:∀x,uM (f x)=true):∀l:List α,eB (l.map f)=true
 |[]=>rfl
 |x::xs=>by simp only [List.map_cons,eB,h x,Bool.true_and];exact dJ f h xs
theorem aY {α:Type} {f g:α→List AV} {t:Tg→Option Tg} {b:Bool} (h:∀x,rtc t b (f x)=g x):∀l:List α,rtr t b (l.map f)=l.map g
 |[]=>rfl
 |x::xs=>by simp only [List.map_cons,rtr,h x,aY h xs]
theorem dO {α:Type} (f:α→Nat) (l:List α) (k:Nat) (h:k < l.length):f l[k]≤aC f l:=by
 have h1:=bT f l k h
 have h2:=dC f l (k+1)
 omega
theorem bV {α:Type} (f:α→Nat) {l:List α} {x:α} (h:x∈l):f x≤aC f l:=by
 obtain ⟨k,hk,rfl⟩:=List.getElem_of_mem h
 exact dO f l k hk
end Go.Aw

namespace Go.Aw
@[simp] def dV (n:Int):List AV:=[.int .i64 n]
@[simp] def bHg (n:Bool):List AV:=[.bool n]
@[simp] def bU (s:Str):List AV:=[.str s]
def cB (s:Str):Nat:=s.length
@[simp] theorem bG5 (t:Tg→Option Tg) (b:Bool) (l:List Int):rtr t b (l.map dV)=l.map dV:=aY (by intro x;rfl) l
@[simp] theorem bG6 (t:Tg→Option Tg) (b:Bool) (l:List Str):rtr t b (l.map bU)=l.map bU:=aY (by intro x;rfl) l
@[simp] theorem aJ4 (l:List Int):eB (l.map dV)=true:=dJ _ (by intro x;rfl) l
@[simp] theorem bGb (l:List Str):eB (l.map bU)=true:=dJ _ (by intro x;rfl) l
structure aK where
  host : Str
  path : Str
deriving DecidableEq
@[simp] def aF (x:aK):List AV:=[.str x.host,.str x.path]
def aR (x:aK):Nat:=x.host.length+x.path.length
def wI (x:aK):Prop:=x.host.length≤9223372036854775807∧x.path.length≤9223372036854775807
@[simp] theorem bG0 (t:Tg→Option Tg) (b:Bool) (l:List aK):rtr t b (l.map aF)=l.map aF:=aY (by intro x;rfl) l
@[simp] theorem bFz (l:List aK):eB (l.map aF)=true:=dJ _ (by intro x;rfl) l
structure fA where
  name : Str
  value : Str
deriving DecidableEq
@[simp] def dI (x:fA):List AV:=[.str x.name,.str x.value]
def eQ (x:fA):Nat:=x.name.length+x.value.length
def aCo (x:fA):Prop:=x.name.length≤9223372036854775807∧x.value.length≤9223372036854775807
@[simp] theorem bG2 (t:Tg→Option Tg) (b:Bool) (l:List fA):rtr t b (l.map dI)=l.map dI:=aY (by intro x;rfl) l
@[simp] theorem bF8 (l:List fA):eB (l.map dI)=true:=dJ _ (by intro x;rfl) l
structure aW where
  kind : Int
  name : Str
  attrs : List fA
  text : Str
deriving DecidableEq
@[simp] def aU (g:Tg) (x:aW):List AV:=[.int .i64 x.kind,.str x.name,.sl g 2 (x.attrs.map dI),.str x.text]
def aV (x:aW):Nat:=x.name.length+(szL eQ x.attrs)+x.text.length
def aCp (x:aW):Prop:=x.name.length≤9223372036854775807∧(x.attrs.length≤9223372036854775807∧∀y∈x.attrs,aCo y)∧x.text.length≤9223372036854775807
@[simp] theorem bEw (g:Tg) (b:Bool) (l:List aW):rtr (fun _=>some .view) b (l.map (aU g))=l.map (aU .view):=aY (by intro x;simp) l
@[simp] theorem bD2 (i:Nat) (b:Bool) (l:List aW):rtr (dpf i) b (l.map (aU .own))=l.map (aU (.dep i)):=aY (by intro x;simp) l
@[simp] theorem bDy (i:Nat) (b:Bool) (l:List aW):rtr (dpf i) b (l.map (aU .view))=l.map (aU .view):=aY (by intro x;simp) l
@[simp] theorem bDd (i j:Nat) (b:Bool) (l:List aW):rtr (dpf i) b (l.map (aU (.dep j)))=l.map (aU (.dep j)):=aY (by intro x;simp) l
@[simp] theorem bDl (b:Bool) (l:List aW):rtr vwf b (l.map (aU .own))=l.map (aU .view):=aY (by intro x;simp) l
@[simp] theorem bEa (b:Bool) (l:List aW):rtr vwf b (l.map (aU .view))=l.map (aU .view):=aY (by intro x;simp) l
@[simp] theorem sZ (l:List aW):eB (l.map (aU .own))=true:=dJ _ (by intro x;simp) l
structure iU where
  rest : Str
deriving DecidableEq
@[simp] def bZ (x:iU):List AV:=[.str x.rest]
def nU (x:iU):Nat:=x.rest.length
def aCe (x:iU):Prop:=x.rest.length≤9223372036854775807
@[simp] theorem bDa (t:Tg→Option Tg) (b:Bool) (l:List iU):rtr t b (l.map bZ)=l.map bZ:=aY (by intro x;rfl) l
@[simp] theorem bAs (l:List iU):eB (l.map bZ)=true:=dJ _ (by intro x;rfl) l
structure dA where
  name : Str
  text : Str
  parent : Int
  attrs : List fA
deriving DecidableEq
@[simp] def bB (g:Tg) (x:dA):List AV:=[.str x.name,.str x.text,.int .i64 x.parent,.sl g 2 (x.attrs.map dI)]
def dW (x:dA):Nat:=x.name.length+x.text.length+(szL eQ x.attrs)
def aFr (x:dA):Prop:=x.name.length≤9223372036854775807∧x.text.length≤9223372036854775807∧(x.attrs.length≤9223372036854775807∧∀y∈x.attrs,aCo y)
@[simp] theorem bFt (g:Tg) (b:Bool) (l:List dA):rtr (fun _=>some .view) b (l.map (bB g))=l.map (bB .view):=aY (by intro x;simp) l
@[simp] theorem bEn (i:Nat) (b:Bool) (l:List dA):rtr (dpf i) b (l.map (bB .own))=l.map (bB (.dep i)):=aY (by intro x;simp) l
@[simp] theorem bEh (i:Nat) (b:Bool) (l:List dA):rtr (dpf i) b (l.map (bB .view))=l.map (bB .view):=aY (by intro x;simp) l
@[simp] theorem bEv (i j:Nat) (b:Bool) (l:List dA):rtr (dpf i) b (l.map (bB (.dep j)))=l.map (bB (.dep j)):=aY (by intro x;simp) l
@[simp] theorem bEi (b:Bool) (l:List dA):rtr vwf b (l.map (bB .own))=l.map (bB .view):=aY (by intro x;simp) l
@[simp] theorem bEt (b:Bool) (l:List dA):rtr vwf b (l.map (bB .view))=l.map (bB .view):=aY (by intro x;simp) l
@[simp] theorem bFw (l:List dA):eB (l.map (bB .own))=true:=dJ _ (by intro x;simp) l
structure aS where
  nodes : List dA
  opens : List Int
deriving DecidableEq
@[simp] def aL (g:Tg) (x:aS):List AV:=[.sl g 4 (x.nodes.map (bB g)),.sl g 1 (x.opens.map dV)]
def aI (x:aS):Nat:=(szL dW x.nodes)+x.opens.length
def aE5 (x:aS):Prop:=(x.nodes.length≤9223372036854775807∧∀y∈x.nodes,aFr y)∧x.opens.length≤9223372036854775807
@[simp] theorem bCu (g:Tg) (b:Bool) (l:List aS):rtr (fun _=>some .view) b (l.map (aL g))=l.map (aL .view):=aY (by intro x;simp) l
@[simp] theorem bAu (i:Nat) (b:Bool) (l:List aS):rtr (dpf i) b (l.map (aL .own))=l.map (aL (.dep i)):=aY (by intro x;simp) l
@[simp] theorem bBs (i:Nat) (b:Bool) (l:List aS):rtr (dpf i) b (l.map (aL .view))=l.map (aL .view):=aY (by intro x;simp) l
@[simp] theorem bA1 (i j:Nat) (b:Bool) (l:List aS):rtr (dpf i) b (l.map (aL (.dep j)))=l.map (aL (.dep j)):=aY (by intro x;simp) l
@[simp] theorem bB6 (b:Bool) (l:List aS):rtr vwf b (l.map (aL .own))=l.map (aL .view):=aY (by intro x;simp) l
@[simp] theorem bAr (b:Bool) (l:List aS):rtr vwf b (l.map (aL .view))=l.map (aL .view):=aY (by intro x;simp) l
@[simp] theorem bEb (l:List aS):eB (l.map (aL .own))=true:=dJ _ (by intro x;simp) l
structure uU where
  name : Str
  color : Int
deriving DecidableEq
@[simp] def oW (x:uU):List AV:=[.str x.name,.int .i64 x.color]
@[simp] theorem bG3 (t:Tg→Option Tg) (b:Bool) (l:List uU):rtr t b (l.map oW)=l.map oW:=aY (by intro x;rfl) l
@[simp] theorem bF3 (l:List uU):eB (l.map oW)=true:=dJ _ (by intro x;rfl) l
structure dU where
  rules : List uU
deriving DecidableEq
@[simp] def bP (g:Tg) (x:dU):List AV:=[.sl g 2 (x.rules.map oW)]
@[simp] theorem bEp (g:Tg) (b:Bool) (l:List dU):rtr (fun _=>some .view) b (l.map (bP g))=l.map (bP .view):=aY (by intro x;simp) l
@[simp] theorem bEd (i:Nat) (b:Bool) (l:List dU):rtr (dpf i) b (l.map (bP .own))=l.map (bP (.dep i)):=aY (by intro x;simp) l
@[simp] theorem bD4 (i:Nat) (b:Bool) (l:List dU):rtr (dpf i) b (l.map (bP .view))=l.map (bP .view):=aY (by intro x;simp) l
@[simp] theorem bDx (i j:Nat) (b:Bool) (l:List dU):rtr (dpf i) b (l.map (bP (.dep j)))=l.map (bP (.dep j)):=aY (by intro x;simp) l
@[simp] theorem bDi (b:Bool) (l:List dU):rtr vwf b (l.map (bP .own))=l.map (bP .view):=aY (by intro x;simp) l
@[simp] theorem bDu (b:Bool) (l:List dU):rtr vwf b (l.map (bP .view))=l.map (bP .view):=aY (by intro x;simp) l
@[simp] theorem bEz (l:List dU):eB (l.map (bP .own))=true:=dJ _ (by intro x;simp) l
structure fI where
  op : Int
  text : Str
deriving DecidableEq
@[simp] def fU (x:fI):List AV:=[.int .i64 x.op,.str x.text]
@[simp] theorem bGx (t:Tg→Option Tg) (b:Bool) (l:List fI):rtr t b (l.map fU)=l.map fU:=aY (by intro x;rfl) l
@[simp] theorem bFx (l:List fI):eB (l.map fU)=true:=dJ _ (by intro x;rfl) l
structure fC where
  isSet : Bool
  scripts : List Str
  styles : List Str
  images : List Str
  nonce : Str
deriving DecidableEq
@[simp] def bJ (g:Tg) (x:fC):List AV:=[.bool x.isSet,.sl g 1 (x.scripts.map bU),.sl g 1 (x.styles.map bU),.sl g 1 (x.images.map bU),.str x.nonce]
def gL (x:fC):Nat:=(szL cB x.scripts)+(szL cB x.styles)+(szL cB x.images)+x.nonce.length
def aId (x:fC):Prop:=(x.scripts.length≤9223372036854775807∧∀y∈x.scripts,y.length≤9223372036854775807)∧(x.styles.length≤9223372036854775807∧∀y∈x.styles,y.length≤9223372036854775807)∧(x.images.length≤9223372036854775807∧∀y∈x.images,y.length≤9223372036854775807)∧x.nonce.length≤9223372036854775807
@[simp] theorem bD5 (g:Tg) (b:Bool) (l:List fC):rtr (fun _=>some .view) b (l.map (bJ g))=l.map (bJ .view):=aY (by intro x;simp) l
@[simp] theorem bCi (i:Nat) (b:Bool) (l:List fC):rtr (dpf i) b (l.map (bJ .own))=l.map (bJ (.dep i)):=aY (by intro x;simp) l
@[simp] theorem bCj (i:Nat) (b:Bool) (l:List fC):rtr (dpf i) b (l.map (bJ .view))=l.map (bJ .view):=aY (by intro x;simp) l
@[simp] theorem bCd (i j:Nat) (b:Bool) (l:List fC):rtr (dpf i) b (l.map (bJ (.dep j)))=l.map (bJ (.dep j)):=aY (by intro x;simp) l
@[simp] theorem bCf (b:Bool) (l:List fC):rtr vwf b (l.map (bJ .own))=l.map (bJ .view):=aY (by intro x;simp) l
@[simp] theorem bCh (b:Bool) (l:List fC):rtr vwf b (l.map (bJ .view))=l.map (bJ .view):=aY (by intro x;simp) l
@[simp] theorem bEr (l:List fC):eB (l.map (bJ .own))=true:=dJ _ (by intro x;simp) l
structure vM where
  status : Int
  kind : Int
  body : Str
  age : Int
  shares : Bool
  policy : Str
deriving DecidableEq
@[simp] def aGa (x:vM):List AV:=[.int .i64 x.status,.int .i64 x.kind,.str x.body,.int .i64 x.age,.bool x.shares,.str x.policy]
@[simp] theorem bEm (t:Tg→Option Tg) (b:Bool) (l:List vM):rtr t b (l.map aGa)=l.map aGa:=aY (by intro x;rfl) l
@[simp] theorem bCq (l:List vM):eB (l.map aGa)=true:=dJ _ (by intro x;rfl) l
structure gY where
  kind : Int
  to : aK
  frm : Str
  digest : Str
deriving DecidableEq
@[simp] def iJ (x:gY):List AV:=[.int .i64 x.kind,.str x.to.host,.str x.to.path,.str x.frm,.str x.digest]
def nR (x:gY):Nat:=(aR x.to)+x.frm.length+x.digest.length
@[simp] theorem bFo (t:Tg→Option Tg) (b:Bool) (l:List gY):rtr t b (l.map iJ)=l.map iJ:=aY (by intro x;rfl) l
@[simp] theorem bDn (l:List gY):eB (l.map iJ)=true:=dJ _ (by intro x;rfl) l
structure aP2 where
  path : Str
  response : vM
deriving DecidableEq
@[simp] def aP3 (x:aP2):List AV:=[.str x.path,.int .i64 x.response.status,.int .i64 x.response.kind,.str x.response.body,.int .i64 x.response.age,.bool x.response.shares,.str x.response.policy]
@[simp] theorem bGq (t:Tg→Option Tg) (b:Bool) (l:List aP2):rtr t b (l.map aP3)=l.map aP3:=aY (by intro x;rfl) l
@[simp] theorem bF2 (l:List aP2):eB (l.map aP3)=true:=dJ _ (by intro x;rfl) l
structure tT where
  host : Str
  files : List aP2
deriving DecidableEq
@[simp] def nE (g:Tg) (x:tT):List AV:=[.str x.host,.sl g 7 (x.files.map aP3)]
@[simp] theorem bEc (g:Tg) (b:Bool) (l:List tT):rtr (fun _=>some .view) b (l.map (nE g))=l.map (nE .view):=aY (by intro x;simp) l
@[simp] theorem bCg (i:Nat) (b:Bool) (l:List tT):rtr (dpf i) b (l.map (nE .own))=l.map (nE (.dep i)):=aY (by intro x;simp) l
@[simp] theorem bCl (i:Nat) (b:Bool) (l:List tT):rtr (dpf i) b (l.map (nE .view))=l.map (nE .view):=aY (by intro x;simp) l
@[simp] theorem bCw (i j:Nat) (b:Bool) (l:List tT):rtr (dpf i) b (l.map (nE (.dep j)))=l.map (nE (.dep j)):=aY (by intro x;simp) l
@[simp] theorem bCn (b:Bool) (l:List tT):rtr vwf b (l.map (nE .own))=l.map (nE .view):=aY (by intro x;simp) l
@[simp] theorem bCx (b:Bool) (l:List tT):rtr vwf b (l.map (nE .view))=l.map (nE .view):=aY (by intro x;simp) l
@[simp] theorem bEl (l:List tT):eB (l.map (nE .own))=true:=dJ _ (by intro x;simp) l
structure aJb where
  top : Str
  to : aK
  response : vM
  til : Int
deriving DecidableEq
@[simp] def aE3 (x:aJb):List AV:=[.str x.top,.str x.to.host,.str x.to.path,.int .i64 x.response.status,.int .i64 x.response.kind,.str x.response.body,.int .i64 x.response.age,.bool x.response.shares,.str x.response.policy,.int .i64 x.til]
@[simp] theorem bGm (t:Tg→Option Tg) (b:Bool) (l:List aJb):rtr t b (l.map aE3)=l.map aE3:=aY (by intro x;rfl) l
@[simp] theorem bE7 (l:List aJb):eB (l.map aE3)=true:=dJ _ (by intro x;rfl) l
structure wV where
  entries : List aJb
deriving DecidableEq
@[simp] def qK (g:Tg) (x:wV):List AV:=[.sl g 10 (x.entries.map aE3)]
@[simp] theorem bEo (g:Tg) (b:Bool) (l:List wV):rtr (fun _=>some .view) b (l.map (qK g))=l.map (qK .view):=aY (by intro x;simp) l
@[simp] theorem bDc (i:Nat) (b:Bool) (l:List wV):rtr (dpf i) b (l.map (qK .own))=l.map (qK (.dep i)):=aY (by intro x;simp) l
@[simp] theorem bDk (i:Nat) (b:Bool) (l:List wV):rtr (dpf i) b (l.map (qK .view))=l.map (qK .view):=aY (by intro x;simp) l
@[simp] theorem bDp (i j:Nat) (b:Bool) (l:List wV):rtr (dpf i) b (l.map (qK (.dep j)))=l.map (qK (.dep j)):=aY (by intro x;simp) l
@[simp] theorem bDh (b:Bool) (l:List wV):rtr vwf b (l.map (qK .own))=l.map (qK .view):=aY (by intro x;simp) l
@[simp] theorem bDg (b:Bool) (l:List wV):rtr vwf b (l.map (qK .view))=l.map (qK .view):=aY (by intro x;simp) l
@[simp] theorem bFi (l:List wV):eB (l.map (qK .own))=true:=dJ _ (by intro x;simp) l
structure aP0 where
  top : Str
  to : aK
  guess : Bool
deriving DecidableEq
@[simp] def aP4 (x:aP0):List AV:=[.str x.top,.str x.to.host,.str x.to.path,.bool x.guess]
@[simp] theorem bGt (t:Tg→Option Tg) (b:Bool) (l:List aP0):rtr t b (l.map aP4)=l.map aP4:=aY (by intro x;rfl) l
@[simp] theorem bF1 (l:List aP0):eB (l.map aP4)=true:=dJ _ (by intro x;rfl) l
structure aGe where
  servers : List tT
  cache : wV
  log : List aP0
  now : Int
deriving DecidableEq
@[simp] def xJ (g:Tg) (x:aGe):List AV:=[.sl g 2 (x.servers.map (nE g)),.sl g 10 (x.cache.entries.map aE3),.sl g 4 (x.log.map aP4),.int .i64 x.now]
@[simp] theorem bF4 (g:Tg) (b:Bool) (l:List aGe):rtr (fun _=>some .view) b (l.map (xJ g))=l.map (xJ .view):=aY (by intro x;simp) l
@[simp] theorem bE9 (i:Nat) (b:Bool) (l:List aGe):rtr (dpf i) b (l.map (xJ .own))=l.map (xJ (.dep i)):=aY (by intro x;simp) l
@[simp] theorem bFf (i:Nat) (b:Bool) (l:List aGe):rtr (dpf i) b (l.map (xJ .view))=l.map (xJ .view):=aY (by intro x;simp) l
@[simp] theorem bFg (i j:Nat) (b:Bool) (l:List aGe):rtr (dpf i) b (l.map (xJ (.dep j)))=l.map (xJ (.dep j)):=aY (by intro x;simp) l
@[simp] theorem bFm (b:Bool) (l:List aGe):rtr vwf b (l.map (xJ .own))=l.map (xJ .view):=aY (by intro x;simp) l
@[simp] theorem bE4 (b:Bool) (l:List aGe):rtr vwf b (l.map (xJ .view))=l.map (xJ .view):=aY (by intro x;simp) l
@[simp] theorem bGo (l:List aGe):eB (l.map (xJ .own))=true:=dJ _ (by intro x;simp) l
structure gP where
  mode : Int
  to : aK
  digest : Str
  node : Int
  done : Bool
  code : Int
  body : Str
deriving DecidableEq
@[simp] def eX (x:gP):List AV:=[.int .i64 x.mode,.str x.to.host,.str x.to.path,.str x.digest,.int .i64 x.node,.bool x.done,.int .i64 x.code,.str x.body]
def fG (x:gP):Nat:=(aR x.to)+x.digest.length+x.body.length
def aFd (x:gP):Prop:=wI x.to∧x.digest.length≤9223372036854775807∧x.body.length≤9223372036854775807
@[simp] theorem bGz (t:Tg→Option Tg) (b:Bool) (l:List gP):rtr t b (l.map eX)=l.map eX:=aY (by intro x;rfl) l
@[simp] theorem bFy (l:List gP):eB (l.map eX)=true:=dJ _ (by intro x;rfl) l
structure cZ where
  to : aK
  done : Bool
  code : Int
  body : Str
deriving DecidableEq
@[simp] def bD (x:cZ):List AV:=[.str x.to.host,.str x.to.path,.bool x.done,.int .i64 x.code,.str x.body]
def aZ (x:cZ):Nat:=(aR x.to)+x.body.length
def aBb (x:cZ):Prop:=wI x.to∧x.body.length≤9223372036854775807
@[simp] theorem bF6 (t:Tg→Option Tg) (b:Bool) (l:List cZ):rtr t b (l.map bD)=l.map bD:=aY (by intro x;rfl) l
@[simp] theorem aPh (l:List cZ):eB (l.map bD)=true:=dJ _ (by intro x;rfl) l
structure aJ where
  addr : aK
  policy : fC
  tok : iU
  queue : List aW
  ended : Bool
  builder : aS
  slots : List gP
  mods : List cZ
  entries : List aK
  block : Int
  inline : Int
  deferred : Int
  entered : Int
  ran : List aK
  log : List Str
  loaded : Bool
deriving DecidableEq
@[simp] def aG (g:Tg) (x:aJ):List AV:=[.str x.addr.host,.str x.addr.path,.bool x.policy.isSet,.sl g 1 (x.policy.scripts.map bU),.sl g 1 (x.policy.styles.map bU),.sl g 1 (x.policy.images.map bU),.str x.policy.nonce,.str x.tok.rest,.sl g 4 (x.queue.map (aU g)),.bool x.ended,.sl g 4 (x.builder.nodes.map (bB g)),.sl g 1 (x.builder.opens.map dV),.sl g 8 (x.slots.map eX),.sl g 5 (x.mods.map bD),.sl g 2 (x.entries.map aF),.int .i64 x.block,.int .i64 x.inline,.int .i64 x.deferred,.int .i64 x.entered,.sl g 2 (x.ran.map aF),.sl g 1 (x.log.map bU),.bool x.loaded]
def aD (x:aJ):Nat:=(aR x.addr)+(gL x.policy)+(nU x.tok)+(szL aV x.queue)+(aI x.builder)+(szL fG x.slots)+(szL aZ x.mods)+(szL aR x.entries)+(szL aR x.ran)+(szL cB x.log)
def aFn (x:aJ):Prop:=wI x.addr∧aId x.policy∧aCe x.tok∧(x.queue.length≤9223372036854775807∧∀y∈x.queue,aCp y)∧aE5 x.builder∧(x.slots.length≤9223372036854775807∧∀y∈x.slots,aFd y)∧(x.mods.length≤9223372036854775807∧∀y∈x.mods,aBb y)∧(x.entries.length≤9223372036854775807∧∀y∈x.entries,wI y)∧(x.ran.length≤9223372036854775807∧∀y∈x.ran,wI y)∧(x.log.length≤9223372036854775807∧∀y∈x.log,y.length≤9223372036854775807)
@[simp] theorem bEx (g:Tg) (b:Bool) (l:List aJ):rtr (fun _=>some .view) b (l.map (aG g))=l.map (aG .view):=aY (by intro x;simp) l
@[simp] theorem bEf (i:Nat) (b:Bool) (l:List aJ):rtr (dpf i) b (l.map (aG .own))=l.map (aG (.dep i)):=aY (by intro x;simp) l
@[simp] theorem bEg (i:Nat) (b:Bool) (l:List aJ):rtr (dpf i) b (l.map (aG .view))=l.map (aG .view):=aY (by intro x;simp) l
@[simp] theorem bEs (i j:Nat) (b:Bool) (l:List aJ):rtr (dpf i) b (l.map (aG (.dep j)))=l.map (aG (.dep j)):=aY (by intro x;simp) l
@[simp] theorem bEu (b:Bool) (l:List aJ):rtr vwf b (l.map (aG .own))=l.map (aG .view):=aY (by intro x;simp) l
@[simp] theorem bEj (b:Bool) (l:List aJ):rtr vwf b (l.map (aG .view))=l.map (aG .view):=aY (by intro x;simp) l
@[simp] theorem bF0 (l:List aJ):eB (l.map (aG .own))=true:=dJ _ (by intro x;simp) l
structure vS where
  builder : aS
  log : List Str
  verdicts : List Str
  sheet : dU
  loaded : Bool
deriving DecidableEq
@[simp] def nY (g:Tg) (x:vS):List AV:=[.sl g 4 (x.builder.nodes.map (bB g)),.sl g 1 (x.builder.opens.map dV),.sl g 1 (x.log.map bU),.sl g 1 (x.verdicts.map bU),.sl g 2 (x.sheet.rules.map oW),.bool x.loaded]
@[simp] theorem bDw (g:Tg) (b:Bool) (l:List vS):rtr (fun _=>some .view) b (l.map (nY g))=l.map (nY .view):=aY (by intro x;simp) l
@[simp] theorem bCt (i:Nat) (b:Bool) (l:List vS):rtr (dpf i) b (l.map (nY .own))=l.map (nY (.dep i)):=aY (by intro x;simp) l
@[simp] theorem bCv (i:Nat) (b:Bool) (l:List vS):rtr (dpf i) b (l.map (nY .view))=l.map (nY .view):=aY (by intro x;simp) l
@[simp] theorem bCp (i j:Nat) (b:Bool) (l:List vS):rtr (dpf i) b (l.map (nY (.dep j)))=l.map (nY (.dep j)):=aY (by intro x;simp) l
@[simp] theorem bCk (b:Bool) (l:List vS):rtr vwf b (l.map (nY .own))=l.map (nY .view):=aY (by intro x;simp) l
@[simp] theorem bCo (b:Bool) (l:List vS):rtr vwf b (l.map (nY .view))=l.map (nY .view):=aY (by intro x;simp) l
@[simp] theorem bEq (l:List vS):eB (l.map (nY .own))=true:=dJ _ (by intro x;simp) l
structure aRb where
  to : aK
  response : vM
  used : Bool
deriving DecidableEq
@[simp] def aQj (x:aRb):List AV:=[.str x.to.host,.str x.to.path,.int .i64 x.response.status,.int .i64 x.response.kind,.str x.response.body,.int .i64 x.response.age,.bool x.response.shares,.str x.response.policy,.bool x.used]
@[simp] theorem bGd (t:Tg→Option Tg) (b:Bool) (l:List aRb):rtr t b (l.map aQj)=l.map aQj:=aY (by intro x;rfl) l
@[simp] theorem bFc (l:List aRb):eB (l.map aQj)=true:=dJ _ (by intro x;rfl) l
end Go.Aw

namespace Go.Aw
mutual
def closed (m : Nat) : AV → Bool
  | .obj i _ => decide (i < m)
  | .ptr i _ _ _ => decide (i < m)
  | .sl (.dep i) _ _ => decide (i < m)
  | .vptr (.dep i) _ _ => decide (i < m)
  | .agg c => fK m c
  | .tup c => fK m c
  | .fn _ c => fK m c
  | _ => true
def fK (m : Nat) : List AV → Bool
  | [] => true
  | x :: xs => closed m x && fK m xs
end
theorem qR {o:List aB} {G:List CO} {m i:Nat} {ob:aB} {g:CO}:look (o.take m) (G.take m) i ob g↔i < m∧look o G i ob g:=by
 unfold look
 rw [List.getElem?_take,List.getElem?_take]
 by_cases h:i < m<;>simp [h]
theorem sP {P:Program} [aA P] {B:Base P} {o:List aB} {G:List CO} {w:World} (m:Nat):(∀b,(env B o G w).A b→(env B (o.take m) (G.take m) w).A b)∧
  (∀i,i < m→((env B (o.take m) (G.take m) w).V i↔(env B o G w).V i))∧(∀i b,i < m→(env B o G w).D i b→(env B (o.take m) (G.take m) w).D i b):=by
 refine ⟨fun b h=>⟨h.1,fun i ob g hl=>h.2 i ob g (qR.1 hl).2⟩,fun i hi=> ?_,fun i b hi h=> ?_⟩
 ·simp only [env,List.getElem?_take,hi,if_true]
 ·obtain ⟨ob,g,hl,h⟩:=h
  exact ⟨ob,g,qR.2 ⟨hi,hl⟩,h⟩
theorem aCz {P:Program} [aA P] {B:Base P} {o:List aB} {G:List CO} {w:World} {m i:Nat} (hi:i < m):bM w ((env B o G w).sub (.dep i)) w ((env B (o.take m) (G.take m) w).sub (.dep i)):=by
 have h:=sP (B:=B) (o:=o) (G:=G) (w:=w) m
 exact ⟨fun b hb=>⟨h.1 b hb,rfl⟩,fun _ _=>trivial,fun j b _ hd=>⟨⟨hd.1,h.2.2 i b hi hd.2⟩,rfl⟩,fun _ _ _ h=>h.elim,fun _ _ _ _ _ h=>h.elim⟩
theorem rG {P:Program} [aA P] {B:Base P} {o:List aB} {G:List CO} {w:World} (m:Nat):bM w (env B o G w).plain w (env B (o.take m) (G.take m) w).plain:=by
 have h:=sP (B:=B) (o:=o) (G:=G) (w:=w) m
 exact ⟨fun b hb=>⟨h.1 b hb,rfl⟩,fun _ _=>trivial,fun _ _ _ h=>h.elim,fun _ _ _ h=>h.elim,fun _ _ _ _ _ h=>h.elim⟩
mutual
theorem bAm {P : Program} [aA P] {B : Base P} {o : List aB} {G : List CO} {w : World} {m : Nat} : ∀ (x : AV) (v : Value) (fp : List Nat), closed m x = true → R w (env B o G w) x v fp → R w (env B (o.take m) (G.take m) w) x v fp
  | .int _ _, _, _, _, h => by simpa [R] using h
  | .bool _, _, _, _, h => by simpa [R] using h
  | .str _, _, _, _, h => by simpa [R] using h
  | .sl .own n l, v, fp, _, h => by
    obtain ⟨a, cap, hv, hown⟩ := kP.1 h
    exact kP.2 ⟨a, cap, hv, hown.keeps (rG m) (fun _ _ => rfl)⟩
  | .sl .view n l, v, fp, _, h => by
    simp only [R] at h ⊢
    rcases h with h | ⟨a, cap, hv, hl, h⟩
    · exact h.1.elim
    · refine .inr ⟨a, cap, hv, hl, ?_⟩
      rcases h with h | h | ⟨hg, hf, h⟩
      · exact absurd h.1 (by simp)
      · exact absurd h.1 (by simp)
      · refine .inr (.inr ⟨hg, hf, ?_⟩)
        rcases h with h | ⟨b, off, ha, ht, hr⟩
        · exact .inl h
        · exact .inr ⟨b, off, ha, (sP m).1 b ht, jJ (rG m) _ _ _ _ _ rfl (by simp) hr⟩
  | .sl (.dep i) n l, v, fp, hc, h => by
    have hi : i < m := by simpa [closed] using hc
    simp only [R] at h ⊢
    rcases h with h | ⟨a, cap, hv, hl, h⟩
    · exact .inl ⟨fun hV => h.1 (((sP m).2.1 i hi).1 hV), h.2⟩
    · refine .inr ⟨a, cap, hv, hl, ?_⟩
      rcases h with h | h | ⟨hg, hf, h⟩
      · exact absurd h.1 (by simp)
      · exact absurd h.1 (by simp)
      · refine .inr (.inr ⟨hg, hf, ?_⟩)
        rcases h with h | ⟨b, off, ha, ht, hr⟩
        · exact .inl h
        · exact .inr ⟨b, off, ha, (sP m).2.2 i b hi ht, jJ (aCz hi) _ _ _ _ _ rfl (by simp) hr⟩
  | .vptr .own c off, v, fp, _, h => by
    simp only [R] at h ⊢
    rcases h with h | ⟨_, _, _, _, _, ht, _⟩
    · exact h.1.elim
    · exact ht.elim
  | .vptr .view c off, v, fp, _, h => by
    simp only [R] at h ⊢
    rcases h with h | ⟨hf, b, o', cs, hv, ht, hcs, hone, hr⟩
    · exact h.1.elim
    · exact .inr ⟨hf, b, o', cs, hv, (sP m).1 b ht, hcs, hone, bY (rG m) _ _ _ (by simp) hr⟩
  | .vptr (.dep i) c off, v, fp, hc, h => by
    have hi : i < m := by simpa [closed] using hc
    simp only [R] at h ⊢
    rcases h with h | ⟨hf, b, o', cs, hv, ht, hcs, hone, hr⟩
    · exact .inl ⟨fun hV => h.1 (((sP m).2.1 i hi).1 hV), h.2⟩
    · exact .inr ⟨hf, b, o', cs, hv, (sP m).2.2 i b hi ht, hcs, hone, bY (aCz hi) _ _ _ (by simp) hr⟩
  | .obj i ver, v, fp, hc, h => by
    have hi : i < m := by simpa [closed] using hc
    simp only [R] at h ⊢
    obtain ⟨hf, ob, g, hl, h⟩ := h
    exact ⟨hf, ob, g, qR.2 ⟨hi, hl⟩, h⟩
  | .ptr i ver idx off, v, fp, hc, h => by
    have hi : i < m := by simpa [closed] using hc
    simp only [R] at h ⊢
    obtain ⟨hf, ob, g, hl, h⟩ := h
    exact ⟨hf, ob, g, qR.2 ⟨hi, hl⟩, h⟩
  | .agg c, v, fp, hc, h => by
    simp only [R] at h ⊢
    obtain ⟨cs, h1, h2, h3⟩ := h
    exact ⟨cs, h1, h2, vK c cs fp (by simpa [closed] using hc) h3⟩
  | .tup c, v, fp, hc, h => by
    simp only [R] at h ⊢
    obtain ⟨cs, h1, h3⟩ := h
    exact ⟨cs, h1, vK c cs fp (by simpa [closed] using hc) h3⟩
  | .fn f c, v, fp, hc, h => by
    simp only [R] at h ⊢
    obtain ⟨h0, cs, h1, h3⟩ := h
    exact ⟨h0, cs, h1, vK c cs [] (by simpa [closed] using hc) h3⟩
  | .undef, _, _, _, h => by simpa [R] using h
theorem vK {P : Program} [aA P] {B : Base P} {o : List aB} {G : List CO} {w : World} {m : Nat} : ∀ (c : List AV) (cs : List Value) (fp : List Nat), fK m c = true → Rc w (env B o G w) c cs fp → Rc w (env B (o.take m) (G.take m) w) c cs fp
  | [], [], _, _, h => by simpa [Rc] using h
  | [], _ :: _, _, _, h => by simp [Rc] at h
  | _ :: _, [], _, _, h => by simp [Rc] at h
  | x :: xs, c :: cs, fp, hc, h => by
    simp only [Rc] at h ⊢
    simp only [fK, Bool.and_eq_true] at hc
    obtain ⟨f1, f2, h1, h2, h3⟩ := h
    exact ⟨f1, f2, bAm x c f1 hc.1 h1, vK xs cs f2 hc.2 h2, h3⟩
end
def dL (m:Nat):List aB→Bool
 |[]=>true
 |ob::r=>(!ob.box || match ob.els with
  |[e]=>fK m e
  |_=>false)&&dL m r
theorem aHv {m:Nat}:∀{o:List aB},dL m o=true→∀ob∈o,ob.box=true→∃e,ob.els=[e]∧fK m e=true
 |ob::r,h,x,hx,hb=>by
  simp only [dL,Bool.and_eq_true] at h
  rcases List.mem_cons.1 hx with rfl|hx
  ·have h1:=h.1
   rw [hb] at h1
   simp only [Bool.not_true,Bool.false_or] at h1
   split at h1
   ·rename_i e he;exact ⟨e,he,h1⟩
   ·cases h1
  ·exact aHv h.2 x hx hb
theorem aQ {t t':List AV} {o o':List aB} (m:Nat) (ho:o.take m=o') (h:wk t t') (hc:fK m t'=true) (hb:dL m o'=true):gF ⟨t,o⟩ ⟨t',o'⟩:=by
 subst ho
 rintro P _ B a w ⟨G,r⟩
 refine ⟨G.take m,?_⟩
 exact
  {len:=by simp [r.len]
   defs:=r.defs
   ok:=fun i ob g hl hlive=>by
    have hl':=(qR.1 hl).2
    obtain ⟨fp,hown,hnd,hF⟩:=r.ok i ob g hl' hlive
    refine ⟨fp,?_,hnd,hF⟩
    cases hbx:ob.box with
    |false=>
     rw [hbx] at hown
     exact hown.keeps (rG m) (fun _ _=>rfl)
    |true=>
     rw [hbx] at hown
     obtain ⟨e,he,hce⟩:=aHv hb ob (List.mem_of_getElem? hl.1) hbx
     rw [he] at hown⊢
     obtain ⟨hlen,hown⟩:=hown
     refine ⟨hlen,?_⟩
     rcases hown with h|⟨b,off,C,ety,fz,fps,ha,hbk,hz,h1,h2,h3,rfl,hr⟩
     ·exact .inl h
     ·refine .inr ⟨b,off,C,ety,fz,fps,ha,hbk,hz,h1,h2,h3,rfl,?_⟩
      simp only [Rr] at hr⊢
      obtain ⟨cs,f1,f2,k1,k2,k3,k4,k5,k6⟩:=hr
      exact ⟨cs,f1,f2,k1,k2,k3,vK e cs f1 hce k4,k5,k6⟩
   apart:=fun i j oi oj gi gj b hi hj h1 h2 h3 h4=>r.apart i j _ _ _ _ b (qR.1 hi).2 (qR.1 hj).2 h1 h2 h3 h4
   fresh:=fun i ob g b hl h1 h2=>r.fresh i ob g b (qR.1 hl).2 h1 h2
   tmps:=vK _ _ _ hc (wX h r.tmps)
   size:=r.size
   frame:=r.frame
   base:=r.base
   same:=r.same}
theorem aH {t t':List AV} {o o':List aB} (ho:o=o') (h:wk t t'):gF ⟨t,o⟩ ⟨t',o'⟩:=ho▸uN h
attribute [simp] closed fK dL
end Go.Aw

namespace Go.Aw
def upd (J:Nat→Bool) (i:Nat):Nat→Bool:=fun j=>if j=i then true else J j
def dv (J:Nat→Bool) (i:Nat) (v:AV):AV:=if J i=true then v else .undef
@[simp] theorem bHf (J:Nat→Bool) (i:Nat) (v:AV):dv (upd J i) i v=v:=by simp [dv,upd]
def qY (P:Program) [aA P] (S:(Nat→Bool)→AS):Nat→List Oper→Prop
 |_,[]=>True
 |i,o::r=>(o.guard=none∧∀J:Nat→Bool,J i=false→(∀e∈o.after.toList,Region.binds .any e=true→J e.on=true)→aop P o (S J) fun s'=>gF s' (S (upd J i)))∧qY P S (i+1) r
def fwd:Nat→List Oper→Bool
 |_,[]=>true
 |i,o::r=>(o.after.toList.all fun e=> !Region.binds .any e || decide (e.on < i))&&fwd (i+1) r
theorem aEf {P:Program} [aA P] {S:(Nat→Bool)→AS}:∀{l:List Oper} {k i:Nat} {o:Oper},qY P S k l→l[i]? =some o→
  o.guard=none∧∀J:Nat→Bool,J (k+i)=false→(∀e∈o.after.toList,Region.binds .any e=true→J e.on=true)→aop P o (S J) fun s'=>gF s' (S (upd J (k+i)))
 |[],_,_,_,_,h=>by simp at h
 |x::xs,k,0,o,hd,h=>by
  simp at h;subst h;exact hd.1
 |x::xs,k,i+1,o,hd,h=>by
  have:=aEf (k:=k+1) (i:=i) hd.2 (by simpa using h)
  rwa [show k+1+i=k+(i+1) by omega] at this
theorem aVl:∀{l:List Oper} {k i:Nat} {o:Oper},fwd k l=true→l[i]? =some o→∀e∈o.after.toList,Region.binds .any e=true→e.on < k+i
 |[],_,_,_,_,h=>by simp at h
 |x::xs,k,0,o,hf,h=>by
  simp at h;subst h
  simp only [fwd,Bool.and_eq_true,List.all_eq_true] at hf
  intro e he hb
  have:=hf.1 e he
  simpa [hb] using this
 |x::xs,k,i+1,o,hf,h=>by
  simp only [fwd,Bool.and_eq_true] at hf
  have:=aVl (k:=k+1) (i:=i) hf.2 (by simpa using h)
  rwa [show k+1+i=k+(i+1) by omega] at this
def left (l:List Bool):Nat:=(l.filter fun b=> !b).length
theorem yU (b:Bool) (l:List Bool):left (b::l)=(if b=true then 0 else 1)+left l:=by
 cases b<;>simp [left]<;>omega
theorem aDs:∀{l:List Bool} {i:Nat},l[i]? =some false→left (l.set i true)+1=left l
 |[],_,h=>by simp at h
 |b::l,0,h=>by simp at h;subst h;simp [yU];omega
 |b::l,i+1,h=>by
  have:=aDs (l:=l) (i:=i) (by simpa using h)
  rw [List.set_cons_succ,yU,yU]
  omega
theorem aFp {l:List Bool} (h:left l=0):∀{i:Nat} {b:Bool},l[i]? =some b→b=true:=by
 intro i b hb
 have hm:=List.mem_of_getElem? hb
 cases b with
 |true=>rfl
 |false=>
  have:false∈l.filter (fun b=> !b):=List.mem_filter.2 ⟨hm,rfl⟩
  rw [List.eq_nil_of_length_eq_zero h] at this
  simp at this
theorem aI4 {l:List Bool} (h:left l≠0):∃i:Nat,l[i]? =some false∧∀j:Nat,j < i→l[j]? =some true:=by
 induction l with
 |nil=>simp [left] at h
 |cons b l ih=>
  cases b with
  |false=>exact ⟨0,rfl,fun j hj=>by omega⟩
  |true=>
   have:left l≠0:=by rw [yU] at h;simpa using h
   obtain ⟨i,h1,h2⟩:=ih this
   refine ⟨i+1,by simpa using h1,fun j hj=> ?_⟩
   cases j with
   |zero=>rfl
   |succ j=>simpa using h2 j (by omega)
theorem bDt {P:Program} [aA P] {ops:Array Oper} {s:AS} {K:AS→Prop} (S:(Nat→Bool)→AS) (h0:gF s (S fun _=>false)) (hf:fwd 0 ops.toList=true) (hs:qY P S 0 ops.toList)
  (he:∀J:Nat→Bool,(∀i,i < ops.size→J i=true)→K (S J)):aP8 P ops s K:=by
 intro B a w Q hr hk
 have key:∀(fuel:Nat) (listed:Array Bool) (a:Act) (w:World),listed.size=ops.size→left listed.toList=fuel→Rel B (S fun i=>listed.getD i false) a w→wpAny P .any ops Q fuel listed a w:=by
  intro fuel
  induction fuel with
  |zero=>
   intro listed a w hl hz r
   have hall:∀i,i < ops.size→listed.getD i false=true:=by
    intro i hi
    have hi':i < listed.size:=by omega
    have:=aFp hz (i:=i) (b:=listed[i]) (by simp [hi'])
    simp [Array.getD,hi',this]
   refine ⟨?_,hk _ _ _ (he _ hall) r⟩
   unfold Region.ready
   rw [List.filter_eq_nil_iff]
   intro i hi
   have hi2:i < ops.size:=by simpa using hi
   have h1:=hall i hi2
   have hi':i < listed.size:=by omega
   have h2:listed.getD i true=true:=by
    rw [Array.getD_eq_getD_getElem?] at h1⊢
    rw [Array.getElem?_eq_getElem hi'] at h1⊢
    exact h1
   rw [h2]
   simp
  |succ fuel ih=>
   intro listed a w hl hz r
   constructor
   ·intro hnil
    exfalso
    obtain ⟨i,h1,h2⟩:=aI4 (l:=listed.toList) (by omega)
    have hi:i < listed.size:=by have:=(List.getElem?_eq_some_iff.1 h1).1;simpa using this
    have hio:i < ops.size:=by omega
    have:i∈Region.ready .any ops listed:=by
     unfold Region.ready
     rw [List.mem_filter]
     refine ⟨by simpa using hio,?_⟩
     have h1':listed[i]? =some false:=by simpa using h1
     have hop:ops[i]? =some ops[i]:=by simp [hio]
     simp only [Array.getD_eq_getD_getElem?,h1',Option.getD_some,Bool.not_false,Bool.true_and,hop,Option.map_some]
     rw [Array.all_eq_true']
     intro e he
     cases hb:Region.binds .any e with
     |false=>simp
     |true=>
      have:=aVl hf (i:=i) (o:=ops[i]) (by simp [hio]) e (by simpa using he) hb
      have h3:=h2 e.on (by omega)
      have h3':listed[e.on]? =some true:=by simpa using h3
      simp [h3']
    rw [hnil] at this
    simp at this
   ·intro i hi
    unfold Region.ready at hi
    rw [List.mem_filter] at hi
    obtain ⟨hi1,hi2⟩:=hi
    have hio:i < ops.size:=by simpa using hi1
    have hil:i < listed.size:=by omega
    have hop:ops[i]? =some ops[i]:=by simp [hio]
    simp only [Bool.and_eq_true,hop,Option.map_some,Option.getD_some] at hi2
    obtain ⟨h1,h2⟩:=hi2
    have h1':listed[i]? =some false:=by
     simp only [Array.getD_eq_getD_getElem?] at h1
     rw [Array.getElem?_eq_getElem hil] at h1⊢
     simpa using h1
    rw [Array.all_eq_true'] at h2
    obtain ⟨hg,hst⟩:=aEf hs (i:=i) (o:=ops[i]) (by simp [hio])
    rw [Nat.zero_add] at hst
    have hst':=hst (fun j=>listed.getD j false) (by simp [h1']) (fun e he hb=>by
     have:=h2 e (by simpa using he)
     simpa [hb] using this)
    obtain ⟨s',hw,hstep⟩:=sQ (B:=B) hst'
    unfold wpOp
    rw [hop]
    simp only [Region.wanted,hg,if_true]
    refine .inl (hstep a w _ Q r fun a' w' r'=>ih _ _ _ (by simpa using hl) ?_ ?_)
    ·have:=aDs (l:=listed.toList) (i:=i) (by simpa using h1')
     rw [Array.toList_setIfInBounds]
     omega
    ·have hu:upd (fun j=>listed.getD j false) i=fun j=>(listed.setIfInBounds i true).getD j false:=by
      funext j
      unfold upd
      simp only [Array.getD_eq_getD_getElem?,Array.getElem?_setIfInBounds]
      by_cases hj:j=i
      ·subst hj;simp [hil]
      ·simp [hj,Ne.symm hj]
     rw [←hu]
     exact hw B a' w' r'
 obtain ⟨G,r⟩:=hr
 have r2:Rel B s a {w with drawn:=w.drawn+1}:=⟨G,{len:=r.len,defs:=r.defs,ok:=fun i ob g hl hlive=>(r.ok i ob g hl hlive).keeps (w':={w with drawn:=w.drawn+1}) ⟨fun b h=>⟨h,rfl⟩,fun _ h=>h,fun _ _ _ h=>⟨h,rfl⟩,fun _ _ _ h=>h,fun _ _ _ _ _ h=>h⟩ (fun _ _=>rfl),apart:=r.apart,fresh:=r.fresh,tmps:=bY (w:=w) (E:=env B s.o G w) (w':={w with drawn:=w.drawn+1}) (E':=env B s.o G {w with drawn:=w.drawn+1}) ⟨fun b h=>⟨h,rfl⟩,fun _ h=>h,fun _ _ _ h=>⟨h,rfl⟩,fun _ _ _ h=>h,fun _ _ _ _ _ h=>h⟩ _ _ _ (by simp) r.tmps,size:=r.size,frame:=r.frame,base:=r.base,same:=r.same.trans ⟨rfl,rfl,rfl⟩}⟩
 refine key _ _ _ _ (by simp) (by simp [left]) ?_
 have hJ:(fun i=>(Array.replicate ops.size false).getD i false)=fun _=>false:=by
  funext i
  simp only [Array.getD_eq_getD_getElem?,Array.getElem?_replicate]
  split<;>rfl
 rw [hJ]
 exact h0 _ _ _ r2
theorem aDf {P:Program} [aA P] {id:Nat} {l:List Oper} {s:AS} {Q:Exit→AS→Prop} (S:(Nat→Bool)→AS) (h0:gF s (S fun _=>false)) (hf:fwd 0 l=true) (hs:qY P S 0 l)
  (he:∀J:Nat→Bool,(∀i,i < l.length→J i=true)→Q .normal (S J)):awp P (.region id l.toArray true) s Q:=by
 unfold awp;exact bDt (ops:=l.toArray) S h0 (by simpa using hf) (by simpa using hs) (by simpa using he)
theorem dM {P:Program} [aA P] {o:Oper} {s:AS} {K:AS→Prop} (h:∀K':AS→Prop,(∀s',K s'→K' s')→aop P o s K'):aop P o s K:=h K fun _ h=>h
end Go.Aw

namespace Go.Aw
mutual
def tY (m : Nat) : AV → Bool
  | .int _ _ => true
  | .bool _ => true
  | .str _ => true
  | .obj i ver => decide (i < m) && ver == 0
  | .agg c => aC7 m c
  | .tup c => aC7 m c
  | _ => false
def aC7 (m : Nat) : List AV → Bool
  | [] => true
  | x :: xs => tY m x && aC7 m xs
end
mutual
theorem aWa {w1 w2 : World} {E1 E2 : Env} {m : Nat} {hv : Nat → Option Value} (h1 : ∀ i v, i < m → E1.H i 0 v → hv i = some v) (h2 : ∀ i v, i < m → E2.H i 0 v → hv i = some v) :
    ∀ (x : AV) (v1 v2 : Value), tY m x = true → R w1 E1 x v1 [] → R w2 E2 x v2 [] → v1 = v2
  | .int _ _, _, _, _, a, b => by simp only [R] at a b; rw [a.1, b.1]
  | .bool _, _, _, _, a, b => by simp only [R] at a b; rw [a.1, b.1]
  | .str _, _, _, _, a, b => by simp only [R] at a b; rw [a.1, b.1]
  | .obj i ver, v1, v2, hr, a, b => by
    simp only [tY, Bool.and_eq_true, decide_eq_true_eq, beq_iff_eq] at hr
    obtain ⟨hi, rfl⟩ := hr
    simp only [R] at a b
    have e1 := h1 i v1 hi a.2
    have e2 := h2 i v2 hi b.2
    rw [e1] at e2
    exact Option.some.inj e2
  | .agg c, _, _, hr, a, b => by
    simp only [R] at a b
    obtain ⟨c1, rfl, _, a⟩ := a
    obtain ⟨c2, rfl, _, b⟩ := b
    rw [aI0 h1 h2 c c1 c2 (by simpa [tY] using hr) a b]
  | .tup c, _, _, hr, a, b => by
    simp only [R] at a b
    obtain ⟨c1, rfl, a⟩ := a
    obtain ⟨c2, rfl, b⟩ := b
    rw [aI0 h1 h2 c c1 c2 (by simpa [tY] using hr) a b]
  | .sl _ _ _, _, _, hr, _, _ => by simp [tY] at hr
  | .vptr _ _ _, _, _, hr, _, _ => by simp [tY] at hr
  | .ptr _ _ _ _, _, _, hr, _, _ => by simp [tY] at hr
  | .fn _ _, _, _, hr, _, _ => by simp [tY] at hr
  | .undef, _, _, hr, _, _ => by simp [tY] at hr
theorem aI0 {w1 w2 : World} {E1 E2 : Env} {m : Nat} {hv : Nat → Option Value} (h1 : ∀ i v, i < m → E1.H i 0 v → hv i = some v) (h2 : ∀ i v, i < m → E2.H i 0 v → hv i = some v) :
    ∀ (x : List AV) (v1 v2 : List Value), aC7 m x = true → Rc w1 E1 x v1 [] → Rc w2 E2 x v2 [] → v1 = v2
  | [], [], [], _, _, _ => rfl
  | [], _ :: _, _, _, a, _ => by simp [Rc] at a
  | [], [], _ :: _, _, _, b => by simp [Rc] at b
  | _ :: _, [], _, _, a, _ => by simp [Rc] at a
  | _ :: _, _ :: _, [], _, _, b => by simp [Rc] at b
  | x :: xs, c1 :: r1, c2 :: r2, hr, a, b => by
    simp only [Rc] at a b
    simp only [aC7, Bool.and_eq_true] at hr
    obtain ⟨f1, f2, a1, a2, e⟩ := a
    obtain ⟨rfl, rfl⟩ : f1 = [] ∧ f2 = [] := by simpa using e
    obtain ⟨f1, f2, b1, b2, e⟩ := b
    obtain ⟨rfl, rfl⟩ : f1 = [] ∧ f2 = [] := by simpa using e
    rw [aWa h1 h2 x c1 c2 hr.1 a1 b1, aI0 h1 h2 xs r1 r2 hr.2 a2 b2]
end
def qM (P:Program) (fn:Func) (s:AS) (p x' r:AV):Prop:=
 (∃ys,s.rvs P fn.results.toList=some ys∧single ys=r∧r.scalar=true)∧s.t[0]? =some p∧eY s.o p=true∧(uses p).Nodup∧res s.o p=x'∧clean x'=true
theorem aXk {P:Program} [aA P] (hm:P.follows .mixedOrders=true) {f:FuncId} {fn:Func} {c:Code} (hf:P.funcs[f]? =some fn) (hb:fn.body=some c) {x x':AV} {rest:List AV} {rr:AV}
  (hrig:tY (bF 0 0 x).2.length (bF 0 0 x).1=true)
  (h:awp P c ⟨((bF 0 0 x).1::rest)++List.replicate (fn.ntmps - (rest.length+1)) .undef,(bF 0 0 x).2⟩ (fun e s=>(e= .normal∨e= .ret)∧qM P fn s (bF 0 0 x).1 x' rr)):OkM P f x x' rest rr:=by
 intro w v vs fp hg hab hx hnd hlt hrest
 have hl:=eF hrest
 obtain ⟨Gs,hlen,hobj,hap,hdone⟩:=aAm (q:=0) x v fp 0 hx hnd
 generalize hB:(⟨w,fun b=>b < w.heap.size,(· ∈fp),fun i=>match (bF 0 0 x).2[i]?,Gs[i]? with
  |some ob,some g=>some (.slice g.a ob.els.length g.cap)
  |_,_=>none,fun _=>none,hg,hab,hlt⟩:Base P)=B
 have hw0:B.w0=w:=by rw [←hB]
 have hA0:∀b,B.A0 b↔b < w.heap.size:=by intro b;rw [←hB]
 have hO0:∀b,B.O0 b↔b∈fp:=by intro b;rw [←hB]
 have hh0:∀i ob g,look (bF 0 0 x).2 Gs i ob g→B.h0 i=some (.slice g.a ob.els.length g.cap):=by
  intro i ob g hl
  rw [←hB]
  simp only [hl.1,hl.2]
 have kE:bM w (lK w (· ∈fp)) w (env B (bF 0 0 x).2 Gs w):=by
  refine ⟨fun b hb=>⟨⟨.inl ((hA0 b).2 hb.1),fun i ob g hl _ hF=> ?_⟩,rfl⟩,fun _ _=>trivial,fun _ _ _ h=>h.elim,fun _ _ _ h=>h.elim,fun _ _ _ _ _ h=>h.elim⟩
  obtain ⟨_,_,_,f',_,_,h3,h4⟩:=hobj _ _ _ hl
  exact hb.2 (h4 _ ((h3 _).1 hF))
 have r0:bC B ⟨((bF 0 0 x).1::rest)++List.replicate (fn.ntmps - (rest.length+1)) .undef,(bF 0 0 x).2⟩ Gs {tmps:=(v::vs).toArray++Array.replicate (fn.ntmps - (v::vs).toArray.size) Go.undef,defers:=[]} w:=by
  refine {len:=hlen,defs:=rfl,ok:= ?_,apart:= ?_,fresh:= ?_,tmps:= ?_,size:=by rw [hw0];exact Nat.le_refl _,frame:=by rw [hw0];exact fun _ _ _=>rfl,base:= ?_,same:=by rw [hw0];exact Same.rfl}
  ·intro i ob g hl _
   obtain ⟨_,h2,_,f',hown,h3,h4,h5⟩:=hobj _ _ _ hl
   refine ⟨f',?_,h3,fun b hb=>(h4 b).2 hb⟩
   rw [h2]
   exact hown.keeps kE.plain (fun _ _=>rfl)
  ·intro i j oi oj gi gj b hi hj _ _ hfi hfj
   exact hap _ _ _ _ _ _ b hi hj hfi hfj
  ·intro i ob g b hl _ hF
   obtain ⟨_,_,_,f',_,_,h3,h4⟩:=hobj _ _ _ hl
   have:=h4 _ ((h3 _).1 hF)
   exact ⟨.inl ((hO0 b).2 this),hlt b this⟩
  ·have h0:R w (env B (bF 0 0 x).2 Gs w) (bF 0 0 x).1 v []:=hdone _ kE fun j ob g hl=>by
    obtain ⟨_,_,h3,_⟩:=hobj _ _ _ hl
    rw [Nat.zero_add]
    exact ⟨ob,g,hl,Nat.zero_le _,fun _ _=>rfl,fun _ y hy=>by rw [hh0 _ _ _ hl] at hy;exact Option.some.inj hy⟩
   have h1:Rc w (env B (bF 0 0 x).2 Gs w) ((bF 0 0 x).1::rest) (v::vs) []:=by
    simp only [Rc]
    exact ⟨[],[],h0,bY kE _ _ _ (by simp) hrest,rfl⟩
   have h2:∀n,Rc w (env B (bF 0 0 x).2 Gs w) (List.replicate n .undef) (List.replicate n Go.undef) []:=by
    intro n
    induction n with
    |zero=>simp [Rc]
    |succ n ih=>simp only [List.replicate_succ,Rc];exact ⟨[],[],by simp [R],ih,rfl⟩
   have:=jX h1 (h2 (fn.ntmps - (rest.length+1)))
   simpa [hl] using this
  ·intro b hb
   rw [hw0];exact (hA0 b).1 hb
 have hv0:R w (env B (bF 0 0 x).2 Gs w) (bF 0 0 x).1 v []:=hdone _ kE fun j ob g hl=>by
  rw [Nat.zero_add]
  exact ⟨ob,g,hl,Nat.zero_le _,fun _ _=>rfl,fun _ y hy=>by rw [hh0 _ _ _ hl] at hy;exact Option.some.inj hy⟩
 refine calls_of_wp hf hb (wp_mono (nS hm c _ _ h _ _ ⟨_,r0⟩) fun e a w' he=> ?_)
 obtain ⟨s,⟨he,⟨ys,hys,hyr,hsc⟩,ht0,hok,hu,hres,hcl⟩,G,r⟩:=he
 obtain ⟨u,hrun,hR⟩:=yD r hys
 have hhv:∀(o:List aB) (G':List CO) (w'':World) i y,i < (bF 0 0 x).2.length→(env B o G' w'').H i 0 y→B.h0 i=some y:=by
  intro o G' w'' i y hi hH
  obtain ⟨_,_,_,_,_,hz⟩:=hH
  have hg:∃ob g,look (bF 0 0 x).2 Gs i ob g:=⟨_,_,List.getElem?_eq_getElem hi,List.getElem?_eq_getElem (by omega)⟩
  obtain ⟨ob,g,hl⟩:=hg
  have e:=hh0 _ _ _ hl
  rw [hz rfl _ e]
  exact e
 obtain ⟨v1,hv1,hr1⟩:=aA1 r.tmps ht0
 have hvv:v=v1:=aWa (hv:=B.h0) (hhv _ _ _) (hhv _ _ _) _ _ _ hrig hv0 hr1
 subst hvv
 obtain ⟨fp',k1,k2,k3⟩:=aB1 r _ v hok hu hr1
 rw [hres] at k1
 have hfin:∃u' fp',Ending.returned u= .returned u'∧R w' iK rr u' []∧R w' iK x' v fp'∧fp'.Nodup∧
   (∀b∈fp',(b∈fp∨w.heap.size≤b)∧b < w'.heap.size)∧w.heap.size≤w'.heap.size∧(∀b,b < w.heap.size→b∉fp→w'.heap[b]? =w.heap[b]?)∧Same w w':=by
  refine ⟨u,fp',rfl,?_,aCq (E:=(env _ s.o G w').plain) (fun _ _=>trivial) rfl rfl rfl _ _ _ hcl k1,k2,fun b hb=> ?_,by have:=r.size;rwa [hw0] at this,fun b hb hn=>by have:=r.frame b (by rw [hw0];exact hb) (fun h=>hn ((hO0 b).1 h));rwa [hw0] at this,by have:=r.same;rwa [hw0] at this⟩
  ·rw [hyr] at hR
   cases rr<;>simp only [AV.scalar] at hsc<;>first|(cases hsc;done)|(simp only [R] at hR⊢;exact hR)
  ·obtain ⟨i,ob,g,_,hl,hlive,hF⟩:=k3 b hb
   have:=r.fresh _ _ _ b hl hlive hF
   rw [hw0,hO0] at this
   exact this
 rcases he with rfl|rfl
 ·exact ⟨r.defs,u,hrun,hfin⟩
 ·exact ⟨r.defs,u,hrun,hfin⟩
end Go.Aw

namespace Go.Aw
theorem aXb {w:World} {E:Env} {e:List AV} {cs:List Value} {fp:List Nat} {c:Nat} {x:AV} (h:Rc w E e cs fp) (hx:e[c]? =some x):
  ∃a1 a2 a3 v,fp=a1++a2++a3∧cs[c]? =some v∧Rc w E (e.take c) (cs.take c) a1∧R w E x v a2∧Rc w E (e.drop (c+1)) (cs.drop (c+1)) a3:=by
 obtain ⟨a1,r1,rfl,h1,h2⟩:=nH c h
 have hlt:=(List.getElem?_eq_some_iff.1 hx).1
 have hl:=eF h
 have hd:e.drop c=x::e.drop (c+1):=by
  rw [List.drop_eq_getElem_cons hlt,(List.getElem?_eq_some_iff.1 hx).2]
 have hcs:cs.drop c=cs[c]'(by omega)::cs.drop (c+1):=List.drop_eq_getElem_cons (by omega)
 rw [hd,hcs] at h2
 simp only [Rc] at h2
 obtain ⟨a2,a3,h3,h4,rfl⟩:=h2
 exact ⟨a1,a2,a3,_,by simp,List.getElem?_eq_getElem (by omega),h1,h3,h4⟩
theorem aQ4 {w:World} {E:Env} {e:List AV} {cs:List Value} {a1 a2 a3:List Nat} {c:Nat} {x:AV} {v:Value} (hc:c < e.length) (hv:cs[c]? =some v) (h1:Rc w E (e.take c) (cs.take c) a1) (h2:R w E x v a2) (h3:Rc w E (e.drop (c+1)) (cs.drop (c+1)) a3):
  Rc w E (e.set c x) cs (a1++a2++a3):=by
 have e1:e.set c x=e.take c++x::e.drop (c+1):=by rw [List.set_eq_take_append_cons_drop];simp [hc]
 obtain ⟨hlt,rfl⟩:=List.getElem?_eq_some_iff.1 hv
 have e2:cs=cs.take c++cs[c]::cs.drop (c+1):=by simp
 rw [e1]
 conv=>arg 4;rw [e2]
 have:=jX h1 (show Rc w E (x::e.drop (c+1)) (cs[c]::cs.drop (c+1)) (a2++a3) by simp only [Rc];exact ⟨a2,a3,h2,h3,rfl⟩)
 simpa using this
theorem aOb {t t':List AV} {o o':List aB} (i k c:Nat) {ob:aB} {e:List AV} {m:Nat} {rows:List (List AV)} (ho:o[i]? =some ob) (hl:ob.live=true) (hall:(o.all fun x=> !x.box)=true) (he:ob.els[k]? =some e)
  (hc:e[c]? =some (.sl .own m rows)) (ho':o.set i {ob with box:=true,els:=ob.els.set k (e.set c (.obj o.length 1))}++[⟨true,false,m,1,rows⟩]=o') (hw:wk (rtc (dQ [i]) true t) t') (hv2:ob.ver < 2:=by first|decide|simp):gF ⟨t,o⟩ ⟨t',o'⟩:=by
 subst ho'
 rintro P _ B a w ⟨G,r⟩
 have nb:∀{j x g},look o G j x g→x.box=false:=fun h=>by
  have:=List.all_eq_true.1 hall _ (List.mem_of_getElem? h.1)
  simpa using this
 obtain ⟨g,hlk⟩:=r.look ho
 have hb:=nb hlk
 obtain ⟨fp,hown,hnd,hF⟩:=r.ok i ob g hlk hl
 simp only [hb,Env.of,Bool.false_eq_true,if_false] at hown
 obtain ⟨hlen,⟨h,_⟩|⟨b,off,C,ty,fz,fps,ha,hbk,hz,h1,h2,h3,rfl,hr⟩⟩:=hown
 ·rw [h] at he;simp at he
 have hk:k < ob.els.length:=(List.getElem?_eq_some_iff.1 he).1
 have hcl:c < e.length:=(List.getElem?_eq_some_iff.1 hc).1
 obtain ⟨f1,f2,f3,cs,rfl,hn,hcs,hone,hre,hr1,hr3⟩:=rQ hr he
 obtain ⟨a1,a2,a3,v,rfl,hv,k1,k2,k3⟩:=aXb hre hc
 obtain ⟨ad,cap',hvs,hown2⟩:=kP.1 k2
 have hlo:i < o.length:=(List.getElem?_eq_some_iff.1 ho).1
 have hsub2:∀x∈a2,g.F x:=fun x hx=>hF x (by simp [hx])
 generalize hob':({ob with box:=true,els:=ob.els.set k (e.set c (.obj o.length 1))}:aB)=ob'
 generalize hg':({g with F:=fun x=>g.F x∧x∉a2}:CO)=g'
 generalize hO:o.set i ob'++[⟨true,false,m,1,rows⟩]=o'
 generalize hGG:G.set i g'++[⟨ad,cap',fun x=>x∈a2⟩]=G'
 have hlenG:(G.set i g').length=(o.set i ob').length:=by simp [r.len]
 have back:∀{j x y},look o' G' j x y→(j=i∧x=ob'∧y=g')∨(j=o.length∧x=⟨true,false,m,1,rows⟩∧y=⟨ad,cap',fun x=>x∈a2⟩)∨(j≠i∧look o G j x y):=by
  intro j x y h
  rw [←hO,←hGG] at h
  rcases lF hlenG h with ⟨_,h⟩|⟨hj,h⟩
  ·rcases sD h with ⟨h1,h2,h3⟩|⟨h1,h2⟩
   ·exact .inl ⟨h1,h2,h3⟩
   ·exact .inr (.inr ⟨h1,h2⟩)
  ·right;left
   obtain ⟨h1,h2⟩:=h
   cases hd:j - (o.set i ob').length with
   |zero=>
    rw [hd] at h1 h2
    simp at h1 h2 hj hd
    exact ⟨by omega,h1.symm,h2.symm⟩
   |succ n=>rw [hd] at h1;simp at h1
 have fi:look o' G' i ob' g':=by rw [←hO,←hGG];exact kY (nK hlk)
 have fJ:look o' G' o.length ⟨true,false,m,1,rows⟩ ⟨ad,cap',fun x=>x∈a2⟩:=by
  rw [←hO,←hGG]
  have:=mH (o:=o.set i ob') (o2:=[⟨true,false,m,1,rows⟩]) (G:=G.set i g') (G2:=[⟨ad,cap',fun x=>x∈a2⟩]) hlenG (i:=0) (x:=⟨true,false,m,1,rows⟩) (y:=⟨ad,cap',fun x=>x∈a2⟩) ⟨rfl,rfl⟩
  simpa using this
 have fo:∀{j x y},j≠i→look o G j x y→look o' G' j x y:=fun hj h=>by rw [←hO,←hGG];exact kY (yI h hj)
 have hobl:ob'.live=true:=by rw [←hob'];exact hl
 have hobn:ob'.n=ob.n:=by rw [←hob']
 have hobv:ob'.ver=ob.ver:=by rw [←hob']
 have hobe:ob'.els.length=ob.els.length:=by rw [←hob'];simp
 have hga:g'.a=g.a:=by rw [←hg']
 have hgc:g'.cap=g.cap:=by rw [←hg']
 have hgF:∀x,g'.F x↔g.F x∧x∉a2:=fun x=>by rw [←hg']
 let Er:Env:={env B o G w with D:=fun j x=>j∉[i]∧(env B o G w).D j x}
 have rt1:iR (dQ [i]) true (env B o G w) Er (fun _=>True):=by
  refine ⟨fun t e=>by simp [dQ] at e,fun t e=>by simp only [dQ,Option.some.injEq] at e;exact ⟨e.symm,fun b hb=>hb⟩,fun j t e=> ?_,fun _ _ _ _ h=>h,fun _ _ _ _ _ _ h=>h⟩
  simp only [dQ] at e
  split at e
  ·cases e
  ·rename_i hiu
   obtain rfl:=Option.some.inj e
   refine ⟨by simp,?_,fun b hb=>⟨hiu,hb⟩⟩
   by_cases hV:(env B o G w).V j
   ·exact .inl hV
   ·exact .inr hV
 have kA:∀x,(env B o G w).A x→(env B o' G' w).A x:=fun x hx=>⟨hx.1,fun j y z hlj hjl hf=>by
  rcases back hlj with ⟨rfl,rfl,rfl⟩|⟨rfl,rfl,rfl⟩|⟨_,h⟩
  ·exact hx.2 _ _ _ hlk hl ((hgF x).1 hf).1
  ·exact hx.2 _ _ _ hlk hl (hsub2 x hf)
  ·exact hx.2 _ _ _ h hjl hf⟩
 have k2':bM w Er w (env B o' G' w):=by
  refine ⟨fun x hx=>⟨kA x hx,rfl⟩,fun j h x hx=> ?_,fun j x hV h=> ?_,fun j ver x h=> ?_,fun j ver p q x h=> ?_⟩
  ·obtain ⟨y,hy⟩:=r.look hx
   by_cases hj:j=i
   ·subst hj
    rw [ho] at hx
    obtain rfl:=Option.some.inj hx;exact hl
   ·exact h x (fo hj hy).1
  ·obtain ⟨hji,x',y,hlj,hjl,hf,hne⟩:=h
   exact ⟨⟨x',y,fo (by simpa using hji) hlj,hjl,hf,hne⟩,rfl⟩
  ·obtain ⟨x',y,hlj,hver,hh,hz⟩:=h
   by_cases hj:j=i
   ·subst hj
    obtain ⟨rfl,rfl⟩:=iI hlk hlj
    exact ⟨ob',g',fi,by omega,fun _ hve=>by rw [hga,hgc,hobe];exact hh hl (by omega),hz⟩
   ·exact ⟨x',y,fo hj hlj,hver,hh,hz⟩
  ·obtain ⟨x',y,hlj,hver,hh,hz⟩:=h
   by_cases hj:j=i
   ·subst hj
    obtain ⟨rfl,rfl⟩:=iI hlk hlj
    exact ⟨ob',g',fi,by omega,fun _ hve=>by rw [hga,hobn];exact hh hl (by omega),fun _ e=>by omega⟩
   ·exact ⟨x',y,fo hj hlj,hver,hh,hz⟩
 have kp:bM w (env B o G w).plain w (env B o' G' w).plain:=⟨fun x hx=>⟨kA x hx,rfl⟩,fun _ _=>trivial,fun _ _ _ h=>h.elim,fun _ _ _ h=>h.elim,fun _ _ _ _ _ h=>h.elim⟩
 have kf:bM w (env B o G w).plain w (env B o' G' w):=kp.trans (aH6 w _)
 have hnd':=hnd
 simp only [List.nodup_cons] at hnd'
 refine ⟨G',{len:=by rw [←hO,←hGG];simp [r.len],defs:=r.defs,ok:= ?_,apart:= ?_,fresh:= ?_,tmps:=wX hw (bY k2' _ _ _ (by simp) (nO rt1 _ _ _ (by simp) r.tmps)),size:=r.size,frame:=r.frame,base:=r.base,same:=r.same}⟩
 ·intro j x y hlj hjl
  rcases back hlj with ⟨rfl,rfl,rfl⟩|⟨rfl,rfl,rfl⟩|⟨hj,h⟩
  ·refine ⟨b::(f1++(a1++[]++a3)++f3),?_,?_,?_⟩
   ·rw [←hob',←hg']
    simp only [Env.of,if_true]
    refine ⟨by simpa using hlen,.inr ⟨b,off,C,ty,fz,_,ha,hbk,hz,h1,by simpa using h2,h3,rfl,?_⟩⟩
    refine aGt hk hn hcs hone (aQ4 hcl hv (bY kf _ _ _ (fun _ _=>rfl) k1) ?_ (bY kf _ _ _ (fun _ _=>rfl) k3)) (jJ kf _ _ _ _ _ rfl (fun _ _=>rfl) hr1) (jJ kf _ _ _ _ _ rfl (fun _ _=>rfl) hr3)
    simp only [R]
    exact ⟨trivial,_,_,fJ,Nat.le_refl _,fun _ _=>hvs,fun h=>by omega⟩
   ·have hs:(f1++(a1++[]++a3)++f3).Sublist (f1++(a1++a2++a3)++f3):=((List.Sublist.refl f1).append (((List.Sublist.refl a1).append (List.nil_sublist a2)).append (List.Sublist.refl a3))).append (List.Sublist.refl f3)
    exact List.nodup_cons.2 ⟨fun h=>hnd'.1 (hs.subset h),hs.nodup hnd'.2⟩
   ·intro x hx
    rw [hgF]
    have hin:x∈b::(f1++(a1++a2++a3)++f3):=by
     simp only [List.mem_cons,List.mem_append,List.not_mem_nil,or_false] at hx⊢
     grind
    refine ⟨hF x hin,fun hx2=> ?_⟩
    have hd:=hnd'.2
    simp only [List.nodup_append,List.mem_append] at hd
    simp only [List.mem_cons,List.mem_append,List.not_mem_nil,or_false] at hx
    rcases hx with rfl|(hx|hx|hx)|hx
    ·exact hnd'.1 (by simp [hx2])
    ·exact hd.1.2.2 x hx x (.inl (.inr hx2)) rfl
    ·exact hd.1.2.1.1.2.2 x hx x hx2 rfl
    ·exact hd.1.2.1.2.2 x (.inr hx2) x hx rfl
    ·exact hd.2.2 x (.inr (.inl (.inr hx2))) x hx rfl
  ·refine ⟨a2,?_,?_,fun x hx=>hx⟩
   ·simp only [Env.of,Bool.false_eq_true,if_false]
    exact hown2.keeps kp (fun _ _=>rfl)
   ·have hd:=hnd'.2
    simp only [List.nodup_append] at hd
    exact hd.1.2.1.1.2.1
  ·have hbj:=nb h
   obtain ⟨fq,q1,q2,q3⟩:=r.ok j x y h hjl
   simp only [hbj,Env.of,Bool.false_eq_true,if_false] at q1
   refine ⟨fq,?_,q2,q3⟩
   simp only [hbj,Env.of,Bool.false_eq_true,if_false]
   exact q1.keeps kp (fun _ _=>rfl)
 ·intro j1 j2 x1 x2 y1 y2 z hl1 hl2 v1 v2 hf1 hf2
  rcases back hl1 with ⟨rfl,rfl,rfl⟩|⟨rfl,rfl,rfl⟩|⟨hj1,h1⟩<;>rcases back hl2 with ⟨rfl,rfl,rfl⟩|⟨rfl,rfl,rfl⟩|⟨hj2,h2⟩
  ·rfl
  ·exact absurd hf2 ((hgF z).1 hf1).2
  ·exact absurd (r.apart _ _ _ _ _ _ z hlk h2 hl v2 ((hgF z).1 hf1).1 hf2).symm hj2
  ·exact absurd hf1 ((hgF z).1 hf2).2
  ·rfl
  ·exact absurd (r.apart _ _ _ _ _ _ z hlk h2 hl v2 (hsub2 z hf1) hf2).symm hj2
  ·exact absurd (r.apart _ _ _ _ _ _ z h1 hlk v1 hl hf1 ((hgF z).1 hf2).1) hj1
  ·exact absurd (r.apart _ _ _ _ _ _ z h1 hlk v1 hl hf1 (hsub2 z hf2)) hj1
  ·exact r.apart _ _ _ _ _ _ z h1 h2 v1 v2 hf1 hf2
 ·intro j x y z hlj hjl hf
  rcases back hlj with ⟨rfl,rfl,rfl⟩|⟨rfl,rfl,rfl⟩|⟨_,h⟩
  ·exact r.fresh _ _ _ z hlk hl ((hgF z).1 hf).1
  ·exact r.fresh _ _ _ z hlk hl (hsub2 z hf)
  ·exact r.fresh _ _ _ z h hjl hf
end Go.Aw

namespace Go.Aw
def AV.pureA:AV→Bool
 | .int _ _=>true
 | .bool _=>true
 | .str _=>true
 | .sl .own _ _=>true
 |_=>false
theorem bFh {w:World} {E E':Env} (hA:∀b,E.A b→E'.A b) {x:AV} {v:Value} {fp:List Nat} (hx:x.pureA=true) (h:R w E x v fp):R w E' x v fp:=by
 cases x with
 |int _ _=>simpa [R] using h
 |bool _=>simpa [R] using h
 |str _=>simpa [R] using h
 |sl g n l=>
  cases g with
  |own=>
   obtain ⟨a,cap,hv,hown⟩:=kP.1 h
   exact kP.2 ⟨a,cap,hv,hown.keeps ⟨fun b hb=>⟨hA b hb,rfl⟩,fun _ _=>trivial,fun _ _ _ h=>h.elim,fun _ _ _ h=>h.elim,fun _ _ _ _ _ h=>h.elim⟩ (fun _ _=>rfl)⟩
  |_=>cases hx
 |_=>cases hx
theorem aGx {w:World} {E E':Env} (hA:∀b,E.A b→E'.A b):∀{c:List AV} {cs:List Value} {fp:List Nat},c.all AV.pureA=true→Rc w E c cs fp→Rc w E' c cs fp
 |[],[],_,_,h=>h
 |[],_::_,_,_,h=>by simp [Rc] at h
 |_::_,[],_,_,h=>by simp [Rc] at h
 |x::xs,c::cs,fp,hp,h=>by
  simp only [Rc] at h⊢
  simp only [List.all_cons,Bool.and_eq_true] at hp
  obtain ⟨f1,f2,h1,h2,h3⟩:=h
  exact ⟨f1,f2,bFh hA hp.1 h1,aGx hA hp.2 h2,h3⟩
theorem aMy {w:World} {E E':Env} (hA:∀b,E.A b→E'.A b):∀{l:List (List AV)} {b off n:Nat} {fp:List Nat},(l.all fun r=>r.all AV.pureA)=true→Rr w E l b off n fp→Rr w E' l b off n fp
 |[],_,_,_,_,_,h=>h
 |e::es,b,off,n,fp,hp,h=>by
  simp only [Rr] at h⊢
  simp only [List.all_cons,Bool.and_eq_true] at hp
  obtain ⟨cs,f1,f2,h1,h2,h3,h4,h5,h6⟩:=h
  exact ⟨cs,f1,f2,h1,h2,h3,aGx hA hp.1 h4,aMy hA hp.2 h5,h6⟩
theorem aIi {α:Type} {p:α→Bool} {l:List α} (k:Nat) (h:l.all p=true):(l.take k).all p=true:=by
 rw [List.all_eq_true] at h⊢;exact fun x hx=>h x (List.mem_of_mem_take hx)
theorem aIe {α:Type} {p:α→Bool} {l:List α} (k:Nat) (h:l.all p=true):(l.drop k).all p=true:=by
 rw [List.all_eq_true] at h⊢;exact fun x hx=>h x (List.mem_of_mem_drop hx)
theorem aEr {α:Type} (l:List α) (k:Nat) (x:α):(l.set k x).take k=l.take k:=by
 rw [List.take_set];exact List.set_eq_of_length_le (by simp;omega)
theorem aEq {α:Type} (l:List α) (k:Nat) (x:α):(l.set k x).drop (k+1)=l.drop (k+1):=by
 rw [List.drop_set];simp
theorem aJa {t t':List AV} {o o':List aB} (i J k c:Nat) {ob oj:aB} {e:List AV} {ver:Nat} (ho:o[i]? =some ob) (hj:o[J]? =some oj) (hij:i≠J) (hl:ob.live=true) (hlj:oj.live=true) (hbj:oj.box=false)
  (he:ob.els[k]? =some e) (hc:e[c]? =some (.obj J ver)) (hver:oj.ver=ver) (hp:((ob.els.set k (e.set c (.int .i64 0))).all fun r=>r.all AV.pureA)=true) (hbx:ob.box=true)
  (ho':(o.set J oj.kill).set i {ob with box:=false,els:=ob.els.set k (e.set c (.sl .own oj.n oj.els))}=o') (hw:wk t t'):gF ⟨t,o⟩ ⟨t',o'⟩:=by
 subst ho'
 rintro P _ B a w ⟨G,r⟩
 obtain ⟨g,hlk⟩:=r.look ho
 obtain ⟨gj,hlkj⟩:=r.look hj
 obtain ⟨fp,hown,hnd,hF⟩:=r.ok i ob g hlk hl
 obtain ⟨fj,hownj,hndj,hFj⟩:=r.ok J oj gj hlkj hlj
 simp only [hbx,Env.of,if_true] at hown
 simp only [hbj,Env.of,Bool.false_eq_true,if_false] at hownj
 obtain ⟨hlen,⟨h,_⟩|⟨b,off,C,ty,fz,fps,ha,hbk,hz,h1,h2,h3,rfl,hr⟩⟩:=hown
 ·rw [h] at he;simp at he
 have hk:k < ob.els.length:=(List.getElem?_eq_some_iff.1 he).1
 have hcl:c < e.length:=(List.getElem?_eq_some_iff.1 hc).1
 obtain ⟨f1,f2,f3,cs,rfl,hn,hcs,hone,hre,hr1,hr3⟩:=rQ hr he
 obtain ⟨a1,a2,a3,v,rfl,hv,k1,k2,k3⟩:=aXb hre hc
 simp only [R] at k2
 obtain ⟨rfl,ob2,g2,hl2,_,hh,_⟩:=k2
 obtain ⟨rfl,rfl⟩:=iI hlkj hl2
 have hvs:=hh hlj hver
 obtain ⟨r2,kk⟩:=r.transfer hij hlk hlkj hl hlj
 generalize hgt:({g with F:=fun b=>g.F b∨gj.F b}:CO)=gt at r2 kk
 have hgta:gt.a=g.a:=by rw [←hgt]
 have hgtc:gt.cap=g.cap:=by rw [←hgt]
 have hgtF:∀x,gt.F x↔g.F x∨gj.F x:=fun x=>by rw [←hgt]
 have hlk2:look (o.set J oj.kill) (G.set i gt) i ob gt:=by
  refine ⟨by rw [List.getElem?_set_ne (Ne.symm hij)];exact hlk.1,?_⟩
  have:=(List.getElem?_eq_some_iff.1 hlk.2).1
  simp [this]
 have hpe:(e.set c (.int .i64 0)).all AV.pureA=true:=by
  rw [List.all_eq_true] at hp
  exact hp _ (List.mem_iff_getElem?.2 ⟨k,by rw [List.getElem?_set_self hk]⟩)
 have hm:=r2.modify hlk2 hl {ob with box:=false,els:=ob.els.set k (e.set c (.sl .own oj.n oj.els))} gt w (Nat.le_refl _) rfl (fun _=>⟨rfl,rfl,by simp⟩) (fun b hb=> .inl hb) (fun b hb hne=>⟨hb,hne⟩) (fun _ _ _=>rfl) (Nat.le_refl _) (fun km _=>by
  generalize hE:env B ((o.set J oj.kill).set i {ob with box:=false,els:=ob.els.set k (e.set c (.sl .own oj.n oj.els))}) ((G.set i gt).set i gt) w=E'
  replace km:bM w (env B (o.set J oj.kill) (G.set i gt) w) w E':=by rw [←hE];exact km
  have kA:∀x,(env B o G w).A x→E'.A x:=fun x hx=>(km.a x (kk.a x hx).1).1
  have kp:bM w (env B o G w).plain w E'.plain:=⟨fun x hx=>⟨kA x hx,rfl⟩,fun _ _=>trivial,fun _ _ _ h=>h.elim,fun _ _ _ h=>h.elim,fun _ _ _ _ _ h=>h.elim⟩
  refine ⟨b::(f1++(a1++fj++a3)++f3),?_,?_,?_⟩
  ·simp only [Env.of,Bool.false_eq_true,if_false]
   refine ⟨by simpa using hlen,.inr ⟨b,off,C,ty,fz,_,by rw [hgta];exact ha,hbk,hz,by rw [hgtc];exact h1,by rw [hgtc];simpa using h2,by rw [hgtc];exact h3,rfl,?_⟩⟩
   refine aGt hk hn hcs hone (aQ4 hcl hv ?_ ?_ ?_) ?_ ?_
   ·exact aGx (E:=env B o G w) (E':=E'.plain) kA (by have:=aIi c hpe;rwa [aEr] at this) k1
   ·exact kP.2 ⟨gj.a,gj.cap,hvs,hownj.keeps kp (fun _ _=>rfl)⟩
   ·exact aGx (E:=env B o G w) (E':=E'.plain) kA (by have:=aIe (c+1) hpe;rwa [aEq] at this) k3
   ·exact aMy (E:=env B o G w) (E':=E'.plain) kA (by have:=aIi k hp;rwa [aEr] at this) hr1
   ·exact aMy (E:=env B o G w) (E':=E'.plain) kA (by have:=aIe (k+1) hp;rwa [aEq] at this) hr3
  ·have hdj:∀x∈fj,x∉b::(f1++(a1++[]++a3)++f3):=fun x hx hx2=>hij (r.apart _ _ _ _ _ _ x hlk hlkj hl hlj (hF x hx2) (hFj x hx))
   have hp2:(b::(f1++(a1++fj++a3)++f3)).Perm ((b::(f1++(a1++[]++a3)++f3))++fj):=by
    rw [List.cons_append]
    refine List.Perm.cons b ?_
    simp only [List.append_assoc,List.nil_append]
    refine List.Perm.append_left f1 (List.Perm.append_left a1 ?_)
    rw [←List.append_assoc a3]
    exact List.perm_append_comm
   refine hp2.nodup_iff.2 (List.nodup_append.2 ⟨hnd,hndj,fun x hx y hy e=> ?_⟩)
   subst e
   exact hdj x hy hx
  ·intro x hx
   rw [hgtF]
   have:x∈b::(f1++(a1++[]++a3)++f3)∨x∈fj:=by
    simp only [List.mem_cons,List.mem_append,List.not_mem_nil,or_false] at hx⊢
    grind
   rcases this with h|h
   ·exact .inl (hF x h)
   ·exact .inr (hFj x h))
 refine ⟨(G.set i gt).set i gt,{hm.1 with tmps:= ?_}⟩
 exact wX hw hm.1.tmps
end Go.Aw

namespace Go.Aw
mutual
def nodep (i : Nat) : AV → Bool
  | .sl (.dep j) _ _ => decide (j ≠ i)
  | .vptr (.dep j) _ _ => decide (j ≠ i)
  | .agg c => oI i c
  | .tup c => oI i c
  | .fn _ c => oI i c
  | _ => true
def oI (i : Nat) : List AV → Bool
  | [] => true
  | x :: xs => nodep i x && oI i xs
end
def Env.no (E:Env) (i:Nat):Env:={E with D:=fun j x=>j∉[i]∧E.D j x}
theorem aR3 {w:World} {E:Env} {i j:Nat} (h:j≠i):bM w (E.sub (.dep j)) w ((E.no i).sub (.dep j)):=
 ⟨fun b h=>⟨h,rfl⟩,fun _ _=>trivial,fun k b _ hd=>⟨⟨hd.1,by simpa using h,hd.2⟩,rfl⟩,fun _ _ _ h=>h.elim,fun _ _ _ _ _ h=>h.elim⟩
mutual
theorem bDm {w : World} {E : Env} {i : Nat} : ∀ (x : AV) (v : Value) (fp : List Nat), nodep i x = true → R w E x v fp → R w (E.no i) x v fp
  | .int _ _, _, _, _, h => by simpa [R] using h
  | .bool _, _, _, _, h => by simpa [R] using h
  | .str _, _, _, _, h => by simpa [R] using h
  | .sl .own n l, v, fp, _, h => kP.2 (kP.1 h)
  | .sl .view n l, v, fp, _, h => by
    simp only [R] at h ⊢
    rcases h with h | ⟨a, cap, hv, hl, h⟩
    · exact h.1.elim
    · refine .inr ⟨a, cap, hv, hl, ?_⟩
      rcases h with h | h | ⟨hg, hf, h⟩
      · exact absurd h.1 (by simp)
      · exact absurd h.1 (by simp)
      · exact .inr (.inr ⟨hg, hf, h⟩)
  | .sl (.dep j) n l, v, fp, hc, h => by
    have hi : j ≠ i := by simpa [nodep] using hc
    simp only [R] at h ⊢
    rcases h with h | ⟨a, cap, hv, hl, h⟩
    · exact .inl h
    · refine .inr ⟨a, cap, hv, hl, ?_⟩
      rcases h with h | h | ⟨hg, hf, h⟩
      · exact absurd h.1 (by simp)
      · exact absurd h.1 (by simp)
      · refine .inr (.inr ⟨hg, hf, ?_⟩)
        rcases h with h | ⟨b, off, ha, ht, hr⟩
        · exact .inl h
        · exact .inr ⟨b, off, ha, ⟨by simpa using hi, ht⟩, jJ (aR3 hi) _ _ _ _ _ rfl (by simp) hr⟩
  | .vptr .own c off, v, fp, _, h => by
    simp only [R] at h ⊢
    rcases h with h | ⟨_, _, _, _, _, ht, _⟩
    · exact h.1.elim
    · exact ht.elim
  | .vptr .view c off, v, fp, _, h => by
    simp only [R] at h ⊢
    rcases h with h | ⟨hf, b, o', cs, hv, ht, hcs, hone, hr⟩
    · exact h.1.elim
    · exact .inr ⟨hf, b, o', cs, hv, ht, hcs, hone, hr⟩
  | .vptr (.dep j) c off, v, fp, hc, h => by
    have hi : j ≠ i := by simpa [nodep] using hc
    simp only [R] at h ⊢
    rcases h with h | ⟨hf, b, o', cs, hv, ht, hcs, hone, hr⟩
    · exact .inl h
    · exact .inr ⟨hf, b, o', cs, hv, ⟨by simpa using hi, ht⟩, hcs, hone, bY (aR3 hi) _ _ _ (by simp) hr⟩
  | .obj _ _, v, fp, _, h => by simp only [R] at h ⊢; exact h
  | .ptr _ _ _ _, v, fp, _, h => by simp only [R] at h ⊢; exact h
  | .agg c, v, fp, hc, h => by
    simp only [R] at h ⊢
    obtain ⟨cs, h1, h2, h3⟩ := h
    exact ⟨cs, h1, h2, aAw c cs fp (by simpa [nodep] using hc) h3⟩
  | .tup c, v, fp, hc, h => by
    simp only [R] at h ⊢
    obtain ⟨cs, h1, h3⟩ := h
    exact ⟨cs, h1, aAw c cs fp (by simpa [nodep] using hc) h3⟩
  | .fn f c, v, fp, hc, h => by
    simp only [R] at h ⊢
    obtain ⟨h0, cs, h1, h3⟩ := h
    exact ⟨h0, cs, h1, aAw c cs [] (by simpa [nodep] using hc) h3⟩
  | .undef, _, _, _, h => by simpa [R] using h
theorem aAw {w : World} {E : Env} {i : Nat} : ∀ (c : List AV) (cs : List Value) (fp : List Nat), oI i c = true → Rc w E c cs fp → Rc w (E.no i) c cs fp
  | [], [], _, _, h => by simpa [Rc] using h
  | [], _ :: _, _, _, h => by simp [Rc] at h
  | _ :: _, [], _, _, h => by simp [Rc] at h
  | x :: xs, c :: cs, fp, hc, h => by
    simp only [Rc] at h ⊢
    simp only [oI, Bool.and_eq_true] at hc
    obtain ⟨f1, f2, h1, h2, h3⟩ := h
    exact ⟨f1, f2, bDm x c f1 hc.1 h1, aAw xs cs f2 hc.2 h2, h3⟩
end
theorem aQo {w:World} {E:Env} {i:Nat}:∀(l:List (List AV)) (b off n:Nat) (fp:List Nat),(l.all fun c=>oI i c)=true→Rr w E l b off n fp→Rr w (E.no i) l b off n fp
 |[],_,_,_,_,_,h=>by simpa [Rr] using h
 |e::es,b,off,n,fp,hc,h=>by
  simp only [Rr] at h⊢
  simp only [List.all_cons,Bool.and_eq_true] at hc
  obtain ⟨cs,f1,f2,h1,h2,h3,h4,h5,h6⟩:=h
  exact ⟨cs,f1,f2,h1,h2,h3,aAw e cs f1 hc.1 h4,aQo es b _ n f2 hc.2 h5,h6⟩
theorem mK.nodep {w:World} {E:Env} {n:Nat} {l:List (List AV)} {a:Option Addr} {cap:Nat} {fp:List Nat} {i:Nat} (hc:(l.all fun c=>oI i c)=true) (h:mK w E n l a cap fp):mK w (E.no i) n l a cap fp:=by
 obtain ⟨h1,h|⟨b,off,C,e,fz,fps,k1,k2,k3,k4,k5,k6,k7,k8⟩⟩:=h
 ·exact ⟨h1,.inl h⟩
 ·exact ⟨h1,.inr ⟨b,off,C,e,fz,fps,k1,k2,k3,k4,k5,k6,k7,aQo l b off n fps hc k8⟩⟩
theorem pR {t t':List AV} {o o':List aB} (i k c:Nat) {ob:aB} {e:List AV} {m:Nat} {rows:List (List AV)} (ho:o[i]? =some ob) (hl:ob.live=true) (hb:ob.box=true) (hall:(o.all fun x=> !x.box || x.els.all fun c=>oI i c)=true) (he:ob.els[k]? =some e)
  (hc:e[c]? =some (.sl .own m rows)) (ho':o.set i {ob with els:=ob.els.set k (e.set c (.obj o.length 1))}++[⟨true,false,m,1,rows⟩]=o') (hw:wk (rtc (dQ [i]) true t) t'):gF ⟨t,o⟩ ⟨t',o'⟩:=by
 subst ho'
 rintro P _ B a w ⟨G,r⟩
 have nb:∀{j x g},look o G j x g→x.box=true→(x.els.all fun c=>oI i c)=true:=fun h hb=>by
  have:=List.all_eq_true.1 hall _ (List.mem_of_getElem? h.1)
  simpa only [hb,Bool.not_true,Bool.false_or] using this
 obtain ⟨g,hlk⟩:=r.look ho
 obtain ⟨fp,hown,hnd,hF⟩:=r.ok i ob g hlk hl
 simp only [hb,Env.of,if_true] at hown
 replace hown:=hown.nodep (nb hlk hb)
 obtain ⟨hlen,⟨h,_⟩|⟨b,off,C,ty,fz,fps,ha,hbk,hz,h1,h2,h3,rfl,hr⟩⟩:=hown
 ·rw [h] at he;simp at he
 have hk:k < ob.els.length:=(List.getElem?_eq_some_iff.1 he).1
 have hcl:c < e.length:=(List.getElem?_eq_some_iff.1 hc).1
 obtain ⟨f1,f2,f3,cs,rfl,hn,hcs,hone,hre,hr1,hr3⟩:=rQ hr he
 obtain ⟨a1,a2,a3,v,rfl,hv,k1,k2,k3⟩:=aXb hre hc
 obtain ⟨ad,cap',hvs,hown2⟩:=kP.1 k2
 have hlo:i < o.length:=(List.getElem?_eq_some_iff.1 ho).1
 have hsub2:∀x∈a2,g.F x:=fun x hx=>hF x (by simp [hx])
 generalize hob':({ob with els:=ob.els.set k (e.set c (.obj o.length 1))}:aB)=ob'
 generalize hg':({g with F:=fun x=>g.F x∧x∉a2}:CO)=g'
 generalize hO:o.set i ob'++[⟨true,false,m,1,rows⟩]=o'
 generalize hGG:G.set i g'++[⟨ad,cap',fun x=>x∈a2⟩]=G'
 have hlenG:(G.set i g').length=(o.set i ob').length:=by simp [r.len]
 have back:∀{j x y},look o' G' j x y→(j=i∧x=ob'∧y=g')∨(j=o.length∧x=⟨true,false,m,1,rows⟩∧y=⟨ad,cap',fun x=>x∈a2⟩)∨(j≠i∧look o G j x y):=by
  intro j x y h
  rw [←hO,←hGG] at h
  rcases lF hlenG h with ⟨_,h⟩|⟨hj,h⟩
  ·rcases sD h with ⟨h1,h2,h3⟩|⟨h1,h2⟩
   ·exact .inl ⟨h1,h2,h3⟩
   ·exact .inr (.inr ⟨h1,h2⟩)
  ·right;left
   obtain ⟨h1,h2⟩:=h
   cases hd:j - (o.set i ob').length with
   |zero=>
    rw [hd] at h1 h2
    simp at h1 h2 hj hd
    exact ⟨by omega,h1.symm,h2.symm⟩
   |succ n=>rw [hd] at h1;simp at h1
 have fi:look o' G' i ob' g':=by rw [←hO,←hGG];exact kY (nK hlk)
 have fJ:look o' G' o.length ⟨true,false,m,1,rows⟩ ⟨ad,cap',fun x=>x∈a2⟩:=by
  rw [←hO,←hGG]
  have:=mH (o:=o.set i ob') (o2:=[⟨true,false,m,1,rows⟩]) (G:=G.set i g') (G2:=[⟨ad,cap',fun x=>x∈a2⟩]) hlenG (i:=0) (x:=⟨true,false,m,1,rows⟩) (y:=⟨ad,cap',fun x=>x∈a2⟩) ⟨rfl,rfl⟩
  simpa using this
 have fo:∀{j x y},j≠i→look o G j x y→look o' G' j x y:=fun hj h=>by rw [←hO,←hGG];exact kY (yI h hj)
 have hobl:ob'.live=true:=by rw [←hob'];exact hl
 have hobn:ob'.n=ob.n:=by rw [←hob']
 have hobv:ob'.ver=ob.ver:=by rw [←hob']
 have hobe:ob'.els.length=ob.els.length:=by rw [←hob'];simp
 have hga:g'.a=g.a:=by rw [←hg']
 have hgc:g'.cap=g.cap:=by rw [←hg']
 have hgF:∀x,g'.F x↔g.F x∧x∉a2:=fun x=>by rw [←hg']
 let Er:Env:=(env B o G w).no i
 have rt1:iR (dQ [i]) true (env B o G w) Er (fun _=>True):=by
  refine ⟨fun t e=>by simp [dQ] at e,fun t e=>by simp only [dQ,Option.some.injEq] at e;exact ⟨e.symm,fun b hb=>hb⟩,fun j t e=> ?_,fun _ _ _ _ h=>h,fun _ _ _ _ _ _ h=>h⟩
  simp only [dQ] at e
  split at e
  ·cases e
  ·rename_i hiu
   obtain rfl:=Option.some.inj e
   refine ⟨by simp,?_,fun b hb=>⟨hiu,hb⟩⟩
   by_cases hV:(env B o G w).V j
   ·exact .inl hV
   ·exact .inr hV
 have kA:∀x,(env B o G w).A x→(env B o' G' w).A x:=fun x hx=>⟨hx.1,fun j y z hlj hjl hf=>by
  rcases back hlj with ⟨rfl,rfl,rfl⟩|⟨rfl,rfl,rfl⟩|⟨_,h⟩
  ·exact hx.2 _ _ _ hlk hl ((hgF x).1 hf).1
  ·exact hx.2 _ _ _ hlk hl (hsub2 x hf)
  ·exact hx.2 _ _ _ h hjl hf⟩
 have k2':bM w Er w (env B o' G' w):=by
  refine ⟨fun x hx=>⟨kA x hx,rfl⟩,fun j h x hx=> ?_,fun j x hV h=> ?_,fun j ver x h=> ?_,fun j ver p q x h=> ?_⟩
  ·obtain ⟨y,hy⟩:=r.look hx
   by_cases hj:j=i
   ·subst hj
    rw [ho] at hx
    obtain rfl:=Option.some.inj hx;exact hl
   ·exact h x (fo hj hy).1
  ·obtain ⟨hji,x',y,hlj,hjl,hf,hne⟩:=h
   exact ⟨⟨x',y,fo (by simpa using hji) hlj,hjl,hf,hne⟩,rfl⟩
  ·obtain ⟨x',y,hlj,hver,hh,hz⟩:=h
   by_cases hj:j=i
   ·subst hj
    obtain ⟨rfl,rfl⟩:=iI hlk hlj
    exact ⟨ob',g',fi,by omega,fun _ hve=>by rw [hga,hgc,hobe];exact hh hl (by omega),hz⟩
   ·exact ⟨x',y,fo hj hlj,hver,hh,hz⟩
  ·obtain ⟨x',y,hlj,hver,hh,hz⟩:=h
   by_cases hj:j=i
   ·subst hj
    obtain ⟨rfl,rfl⟩:=iI hlk hlj
    exact ⟨ob',g',fi,by omega,fun _ hve=>by rw [hga,hobn];exact hh hl (by omega),fun _ e2 e3 e4 y hy=>⟨(hz hb e2 e3 e4 y hy).1,fun _ hve=>by rw [hgc];exact (hz hb e2 e3 e4 y hy).2 hl (by omega)⟩⟩
   ·exact ⟨x',y,fo hj hlj,hver,hh,hz⟩
 have kp:bM w (env B o G w).plain w (env B o' G' w).plain:=⟨fun x hx=>⟨kA x hx,rfl⟩,fun _ _=>trivial,fun _ _ _ h=>h.elim,fun _ _ _ h=>h.elim,fun _ _ _ _ _ h=>h.elim⟩
 have kf:bM w (env B o G w).plain w (env B o' G' w):=kp.trans (aH6 w _)
 have hnd':=hnd
 simp only [List.nodup_cons] at hnd'
 refine ⟨G',{len:=by rw [←hO,←hGG];simp [r.len],defs:=r.defs,ok:= ?_,apart:= ?_,fresh:= ?_,tmps:=wX hw (bY k2' _ _ _ (by simp) (nO rt1 _ _ _ (by simp) r.tmps)),size:=r.size,frame:=r.frame,base:=r.base,same:=r.same}⟩
 ·intro j x y hlj hjl
  rcases back hlj with ⟨rfl,rfl,rfl⟩|⟨rfl,rfl,rfl⟩|⟨hj,h⟩
  ·refine ⟨b::(f1++(a1++[]++a3)++f3),?_,?_,?_⟩
   ·rw [←hob',←hg']
    simp only [hb,Env.of,if_true]
    refine ⟨by simpa using hlen,.inr ⟨b,off,C,ty,fz,_,ha,hbk,hz,h1,by simpa using h2,h3,rfl,?_⟩⟩
    refine aGt hk hn hcs hone (aQ4 hcl hv (bY k2' _ _ _ (fun _ _=>rfl) k1) ?_ (bY k2' _ _ _ (fun _ _=>rfl) k3)) (jJ k2' _ _ _ _ _ rfl (fun _ _=>rfl) hr1) (jJ k2' _ _ _ _ _ rfl (fun _ _=>rfl) hr3)
    simp only [R]
    exact ⟨trivial,_,_,fJ,Nat.le_refl _,fun _ _=>hvs,fun h=>by omega⟩
   ·have hs:(f1++(a1++[]++a3)++f3).Sublist (f1++(a1++a2++a3)++f3):=((List.Sublist.refl f1).append (((List.Sublist.refl a1).append (List.nil_sublist a2)).append (List.Sublist.refl a3))).append (List.Sublist.refl f3)
    exact List.nodup_cons.2 ⟨fun h=>hnd'.1 (hs.subset h),hs.nodup hnd'.2⟩
   ·intro x hx
    rw [hgF]
    have hin:x∈b::(f1++(a1++a2++a3)++f3):=by
     simp only [List.mem_cons,List.mem_append,List.not_mem_nil,or_false] at hx⊢
     grind
    refine ⟨hF x hin,fun hx2=> ?_⟩
    have hd:=hnd'.2
    simp only [List.nodup_append,List.mem_append] at hd
    simp only [List.mem_cons,List.mem_append,List.not_mem_nil,or_false] at hx
    rcases hx with rfl|(hx|hx|hx)|hx
    ·exact hnd'.1 (by simp [hx2])
    ·exact hd.1.2.2 x hx x (.inl (.inr hx2)) rfl
    ·exact hd.1.2.1.1.2.2 x hx x hx2 rfl
    ·exact hd.1.2.1.2.2 x (.inr hx2) x hx rfl
    ·exact hd.2.2 x (.inr (.inl (.inr hx2))) x hx rfl
  ·refine ⟨a2,?_,?_,fun x hx=>hx⟩
   ·simp only [Env.of,Bool.false_eq_true,if_false]
    exact hown2.keeps kp (fun _ _=>rfl)
   ·have hd:=hnd'.2
    simp only [List.nodup_append] at hd
    exact hd.1.2.1.1.2.1
  ·obtain ⟨fq,q1,q2,q3⟩:=r.ok j x y h hjl
   refine ⟨fq,?_,q2,q3⟩
   cases hbj:x.box with
   |false=>
    simp only [hbj,Env.of,Bool.false_eq_true,if_false] at q1⊢
    exact q1.keeps kp (fun _ _=>rfl)
   |true=>
    simp only [hbj,Env.of,if_true] at q1⊢
    exact (q1.nodep (nb h hbj)).keeps k2' (fun _ _=>rfl)
 ·intro j1 j2 x1 x2 y1 y2 z hl1 hl2 v1 v2 hf1 hf2
  rcases back hl1 with ⟨rfl,rfl,rfl⟩|⟨rfl,rfl,rfl⟩|⟨hj1,h1⟩<;>rcases back hl2 with ⟨rfl,rfl,rfl⟩|⟨rfl,rfl,rfl⟩|⟨hj2,h2⟩
  ·rfl
  ·exact absurd hf2 ((hgF z).1 hf1).2
  ·exact absurd (r.apart _ _ _ _ _ _ z hlk h2 hl v2 ((hgF z).1 hf1).1 hf2).symm hj2
  ·exact absurd hf1 ((hgF z).1 hf2).2
  ·rfl
  ·exact absurd (r.apart _ _ _ _ _ _ z hlk h2 hl v2 (hsub2 z hf1) hf2).symm hj2
  ·exact absurd (r.apart _ _ _ _ _ _ z h1 hlk v1 hl hf1 ((hgF z).1 hf2).1) hj1
  ·exact absurd (r.apart _ _ _ _ _ _ z h1 hlk v1 hl hf1 (hsub2 z hf2)) hj1
  ·exact r.apart _ _ _ _ _ _ z h1 h2 v1 v2 hf1 hf2
 ·intro j x y z hlj hjl hf
  rcases back hlj with ⟨rfl,rfl,rfl⟩|⟨rfl,rfl,rfl⟩|⟨_,h⟩
  ·exact r.fresh _ _ _ z hlk hl ((hgF z).1 hf).1
  ·exact r.fresh _ _ _ z hlk hl (hsub2 z hf)
  ·exact r.fresh _ _ _ z h hjl hf
attribute [simp] nodep oI
end Go.Aw

namespace Go.Aw
def quiet:Op→Bool
 | .move _| .assign _| .load _ _| .fieldAddr _ _ _| .indexAddr _ _ _| .index _ _ _| .extract _ _| .unOp _ _ _| .binOp _ _ _ _ _| .convert _ _ _| .pick _ _ _| .alloc _| .box _ _| .build _ _| .nilCheck _=>true
 | .call ⟨.builtin .len,⟨[_]⟩,⟨[_]⟩⟩=>true
 | .call ⟨.value _,_,_⟩=>true
 |_=>false
def jN (op:Op) (s:AS):Bool:=match op with
 | .buildSlice _ _ parts=>(eZ ((parts.toList.map (·.2)).map s.ev)).isEmpty
 | .slice _ x _ _ none=>match s.ev x with
  | .str _=>true
  | .sl _ _ _=>true
  |_=>false
 | .call ⟨.builtin .append,⟨[x,y]⟩,_⟩=>(match s.ev x with| .sl .own _ []=>true|_=>false)&&(match s.ev y with| .sl .own _ []=>true| .sl .view _ _=>true| .str _=>true|_=>false)
 |o=>quiet o
mutual
theorem bBl {o o' : List aB} : ∀ x : AV, uses x = [] → res o x = res o' x ∧ eY o x = eY o' x
  | .obj i v, h => by simp [uses] at h
  | .agg c, h => by have := aBj (o := o) (o' := o') c (by simpa [uses] using h); simp only [res, eY, this, and_self]
  | .tup c, h => by have := aBj (o := o) (o' := o') c (by simpa [uses] using h); simp only [res, eY, this, and_self]
  | .int _ _, _ => ⟨rfl, rfl⟩
  | .bool _, _ => ⟨rfl, rfl⟩
  | .str _, _ => ⟨rfl, rfl⟩
  | .sl .own _ _, _ => ⟨rfl, rfl⟩
  | .sl .view _ _, _ => ⟨rfl, rfl⟩
  | .sl (.dep _) _ _, _ => ⟨rfl, rfl⟩
  | .vptr .own _ _, _ => ⟨rfl, rfl⟩
  | .vptr .view _ _, _ => ⟨rfl, rfl⟩
  | .vptr (.dep _) _ _, _ => ⟨rfl, rfl⟩
  | .ptr _ _ _ _, _ => ⟨rfl, rfl⟩
  | .fn _ [], _ => ⟨rfl, rfl⟩
  | .fn _ (_ :: _), _ => ⟨rfl, rfl⟩
  | .undef, _ => ⟨rfl, rfl⟩
theorem aBj {o o' : List aB} : ∀ c : List AV, eZ c = [] → jP o c = jP o' c ∧ iH o c = iH o' c
  | [], _ => ⟨rfl, rfl⟩
  | x :: xs, h => by
    simp only [eZ, List.append_eq_nil_iff] at h
    have h1 := bBl (o := o) (o' := o') x h.1
    have h2 := aBj (o := o) (o' := o') xs h.2
    simp only [jP, iH, h1, h2, and_self]
end
theorem aVo {o:List aB}:∀{c:List AV},(∀x∈jP o c,x.good=true)→∀x∈c,x≠ .undef
 |[],_,x,hx=>by cases hx
 |y::ys,h,x,hx=>by
  rcases List.mem_cons.1 hx with rfl|hx
  ·rintro rfl
   have:=h .undef (by simp [jP,res])
   simp [AV.good,AV.solid] at this
  ·exact aVo (o:=o) (c:=ys) (fun z hz=>h z (by simp [jP,hz])) x hx
def jD (t:List AV):Option Tmp→AV→List AV
 |some d,x=>t.set d x
 |none,_=>t
theorem put_eq (t:List AV) (o:List aB) (d:Option Tmp) (x:AV):AS.put ⟨t,o⟩ d x=⟨jD t d x,o⟩:=by cases d<;>rfl
theorem aS5:∀{t2 t:List AV} (i:Nat),wk t2 t→t.getD i .undef=t2.getD i .undef∨t.getD i .undef= .undef
 |[],[],_,_=> .inl rfl
 |[],_::_,_,h=>h.elim
 |_::_,[],_,h=>h.elim
 |x::xs,y::ys,0,h=>by simpa [List.getD] using h.1
 |x::xs,y::ys,i+1,h=>by simpa [List.getD] using aS5 i h.2
theorem aCu (t:List AV) (o:List aB) (d:Option Tmp) (c:List AV):AS.box ⟨t,o⟩ d c=⟨jD t d (.ptr o.length 0 0 0),o++[⟨true,true,c.length,0,[c]⟩]⟩:=put_eq _ _ _ _
theorem aBg (t:List AV) (o:List aB) (d:Option Tmp) (r:AV):AS.called ⟨t,o⟩ d r=⟨jD t d (bF 1 o.length r).1,o++(bF 1 o.length r).2⟩:=put_eq _ _ _ _
section
variable {t t2 : List AV} {o o2 : List aB}
theorem aG0 (hw:wk t2 t) (x:Operand):(AS.ev ⟨t,o⟩ x)=(AS.ev ⟨t2,o2⟩ x)∨(AS.ev ⟨t,o⟩ x)= .undef:=by
 cases x with
 |tmp i=>exact aS5 i hw
 |const v=>exact .inl rfl
 |func f=>exact .inl rfl
 |global g=>exact .inl rfl
theorem aAe (hw:wk t2 t) {x:Operand} {y:AV} (h:AS.ev ⟨t,o⟩ x=y) (hy:y≠ .undef):AS.ev ⟨t2,o2⟩ x=y:=by
 rcases aG0 (o:=o) (o2:=o2) hw x with h'|h'
 ·rw [←h',h]
 ·rw [h] at h';exact absurd h' hy
def Sub (o o2:List aB):Prop:=∀(i:Nat) (ob:aB),o[i]? =some ob→ob.live=true→o2[i]? =some ob
theorem sM (hs:Sub o o2) {i ver:Nat} {ob:aB} (h:AV.isObj o i ver=some ob):AV.isObj o2 i ver=some ob:=by
 unfold AV.isObj at h⊢
 split at h
 ·rename_i x hx
  split at h
  ·rename_i hc
   rw [hs _ _ hx hc.1]
   simp only [hc,and_self,if_true]
   exact h
  ·cases h
 ·cases h
theorem aZw (hs:Sub o o2) {i ver idx:Nat} {p:aB×List AV} (h:AS.at ⟨t,o⟩ i ver idx=some p):AS.at ⟨t2,o2⟩ i ver idx=some p:=by
 unfold AS.at at h⊢
 split at h
 ·rename_i ob h1
  simp only [sM hs h1];exact h
 ·cases h
theorem wF (hs:Sub o o2) {i ver:Nat} (h:(AV.isObj o i ver).isSome=true):(AV.isObj o2 i ver).isSome=true:=by
 obtain ⟨ob,h⟩:=Option.isSome_iff_exists.1 h
 rw [sM hs h];rfl
theorem rX (hs:Sub o o2) {x:AV} (h:x.fit o=true):x.fit o2=true:=by
 cases x with
 |sl g n l=>
  cases g with
  |dep i=>
   simp only [AV.fit] at h⊢
   split at h
   ·rename_i ob hob;rw [hs _ _ hob h];exact h
   ·cases h
  |_=>rfl
 |vptr g c off=>
  cases g with
  |dep i=>
   simp only [AV.fit] at h⊢
   split at h
   ·rename_i ob hob;rw [hs _ _ hob h];exact h
   ·cases h
  |_=>rfl
 |obj i ver=>simp only [AV.fit] at h⊢;exact wF hs h
 |ptr i ver _ _=>simp only [AV.fit] at h⊢;exact wF hs h
 |undef=>cases h
 |tup _=>cases h
 |_=>rfl
theorem aR7 {x:AV} (h:x.fit o=true):x≠ .undef:=by rintro rfl;cases h
end
mutual
theorem bDv {o o2 : List aB} (hs : Sub o o2) : ∀ (x : AV), arg o x ≠ .undef → ∀ (w : World) (v : Value), R w (jC w) (arg o2 x) v [] → R w (jC w) (arg o x) v []
  | .obj i ver, hn, w, v, h => by
    cases ho : AV.isObj o i ver with
    | none => exact absurd (by simp only [arg, ho]) hn
    | some ob => simp only [arg, ho, sM hs ho] at h ⊢; exact h
  | .ptr i ver idx off, hn, w, v, h => by
    cases ho : AV.isObj o i ver with
    | none => exact absurd (by simp only [arg, ho]) hn
    | some ob => simp only [arg, ho, sM hs ho] at h ⊢; exact h
  | .agg c, _, w, v, h => by
    simp only [arg, R] at h ⊢
    obtain ⟨cs, h1, h2, h3⟩ := h
    exact ⟨cs, h1, h2, xV hs c w cs h3⟩
  | .tup c, _, w, v, h => by
    simp only [arg, R] at h ⊢
    obtain ⟨cs, h1, h3⟩ := h
    exact ⟨cs, h1, xV hs c w cs h3⟩
  | .fn f c, _, w, v, h => by
    simp only [arg, R] at h ⊢
    obtain ⟨h0, cs, h1, h3⟩ := h
    exact ⟨h0, cs, h1, xV hs c w cs h3⟩
  | .int _ _, _, _, _, h => h
  | .bool _, _, _, _, h => h
  | .str _, _, _, _, h => h
  | .sl .own _ _, _, _, _, h => h
  | .sl .view _ _, _, _, _, h => h
  | .sl (.dep i) n l, hn, w, v, h => by
    cases ho : o[i]? with
    | none => simp [arg, ho] at hn
    | some ob =>
      by_cases hv : ob.live = true
      · simp only [arg, ho, hs _ _ ho hv] at h ⊢; exact h
      · simp [arg, ho, hv] at hn
  | .vptr .own _ _, _, _, _, h => h
  | .vptr .view _ _, _, _, _, h => h
  | .vptr (.dep i) c off, hn, w, v, h => by
    cases ho : o[i]? with
    | none => simp [arg, ho] at hn
    | some ob =>
      by_cases hv : ob.live = true
      · simp only [arg, ho, hs _ _ ho hv] at h ⊢; exact h
      · simp [arg, ho, hv] at hn
  | .undef, hn, _, _, _ => absurd rfl hn
theorem xV {o o2 : List aB} (hs : Sub o o2) : ∀ (c : List AV) (w : World) (cs : List Value), Rc w (jC w) (oM o2 c) cs [] → Rc w (jC w) (oM o c) cs []
  | [], _, _, h => h
  | x :: xs, w, [], h => by simp [oM, Rc] at h
  | x :: xs, w, c :: cs, h => by
    simp only [oM, Rc] at h ⊢
    obtain ⟨f1, f2, h1, h2, e⟩ := h
    obtain ⟨rfl, rfl⟩ : f1 = [] ∧ f2 = [] := by simpa using e
    refine ⟨[], [], ?_, xV hs xs w cs h2, rfl⟩
    by_cases hn : arg o x = .undef
    · rw [hn]; simp [R]
    · exact bDv hs x hn w c h1
end
theorem aMp {o:List aB}:∀{a2 a:List AV},wk a2 a→wk (oM o a2) (oM o a)
 |[],[],_=>trivial
 |[],_::_,h=>h.elim
 |_::_,[],h=>h.elim
 |x::xs,y::ys,h=>by
  refine ⟨?_,aMp h.2⟩
  rcases h.1 with rfl|rfl
  ·exact .inl rfl
  ·exact .inr rfl
theorem aVs {t t2:List AV} {o o2:List aB} (hw:wk t2 t) (l:List Operand) (cap:List AV):wk (l.map (AS.ev ⟨t2,o2⟩)++cap) (l.map (AS.ev ⟨t,o⟩)++cap):=by
 induction l with
 |nil=>
  simp only [List.map_nil,List.nil_append]
  induction cap with
  |nil=>trivial
  |cons x xs ih=>exact ⟨.inl rfl,ih⟩
 |cons x xs ih=>exact ⟨aG0 hw x,ih⟩
theorem Ok.mono {P:Program} [aA P] {f:FuncId} {a a2:List AV} {r:AV} (h:Ok P f a r) (hs:∀w vs,Rc w (jC w) a2 vs []→Rc w (jC w) a vs []):Ok P f a2 r:=
 fun w vs hg hr=>h w vs hg (hs w vs hr)
theorem aVa:∀(q k k':Nat) (x:AV),(bF q k x).2=[]→bF q k' x=bF q k x:=by
 intro q k k' x h
 exact (go q k k').1 x h
where
 go (q k k':Nat):(∀x:AV,(bF q k x).2=[]→bF q k' x=bF q k x)∧(∀c:List AV,(dD q k c).2=[]→dD q k' c=dD q k c):=
  ⟨fun x=>one x,fun c=>all c⟩
 one {q k k':Nat}:∀x:AV,(bF q k x).2=[]→bF q k' x=bF q k x
  | .sl .own n l,h=>by simp [bF] at h
  | .agg c,h=>by simp only [bF] at h⊢;rw [all c h]
  | .tup c,h=>by simp only [bF] at h⊢;rw [all c h]
  | .sl .view _ _,_=>rfl
  | .sl (.dep _) _ _,_=>rfl
  | .int _ _,_=>rfl
  | .bool _,_=>rfl
  | .str _,_=>rfl
  | .vptr _ _ _,_=>rfl
  | .obj _ _,_=>rfl
  | .ptr _ _ _ _,_=>rfl
  | .fn _ _,_=>rfl
  | .undef,_=>rfl
 all {q k k':Nat}:∀c:List AV,(dD q k c).2=[]→dD q k' c=dD q k c
  |[],_=>rfl
  |x::xs,h=>by
   simp only [dD,List.append_eq_nil_iff] at h⊢
   have h1:=one (k':=k') x h.1
   rw [h1]
   have h2:(bF q k x).2.length=0:=by rw [h.1];rfl
   rw [h2] at h⊢
   have h3:=all (k:=k+0) (k':=k'+0) xs h.2
   rw [h3]
theorem zV {t2 t:List AV} {o o2:List aB} (hw:wk t2 t) {d n:Nat} {x:Option Operand} (h:AS.bound ⟨t,o⟩ d x=some n):AS.bound ⟨t2,o2⟩ d x=some n:=by
 cases x with
 |none=>exact h
 |some x=>
  simp only [AS.bound] at h⊢
  split at h
  ·rename_i hx
   rw [aAe (o2:=o2) hw hx (by simp)];exact h
  ·cases h
theorem aRw {P:Program} [aA P] {op:Oper} {t t2:List AV} {o o2:List aB} {K:AS→Prop} (q:jN op.op ⟨t,o⟩=true) (hw:wk t2 t) (h:aop P op ⟨t,o⟩ K) (hs:Sub o o2) (hext:o2.length=o.length∨∀s',K s'→s'.o.length=o.length):
  ∃x new x2,K ⟨jD t op.dst x,o++new⟩∧(x=x2∨x= .undef)∧(o2.length=o.length∨new=[])∧∀K2:AS→Prop,K2 ⟨jD t2 op.dst x2,o2++new⟩→aop P op ⟨t2,o2⟩ K2:=by
 have same:∀{x:AV},K (AS.put ⟨t,o⟩ op.dst x)→(∀K2:AS→Prop,K2 (AS.put ⟨t2,o2⟩ op.dst x)→aop P op ⟨t2,o2⟩ K2)→
   ∃x new x2,K ⟨jD t op.dst x,o++new⟩∧(x=x2∨x= .undef)∧(o2.length=o.length∨new=[])∧∀K2:AS→Prop,K2 ⟨jD t2 op.dst x2,o2++new⟩→aop P op ⟨t2,o2⟩ K2:=by
  intro x h1 h2
  refine ⟨x,[],x,by rw [List.append_nil,←put_eq];exact h1,.inl rfl,.inr rfl,fun K2 hK=>h2 K2 ?_⟩
  rw [put_eq];rw [List.append_nil] at hK;exact hK
 obtain ⟨dst,op,ty,pos,after,gd⟩:=op
 have E:∀{x:Operand} {y:AV},AS.ev ⟨t,o⟩ x=y→y≠ .undef→AS.ev ⟨t2,o2⟩ x=y:=fun h hy=>aAe hw h hy
 unfold aop at h
 dsimp only at h q same⊢
 split at h
 case h_1=>
  rename_i X
  refine ⟨_,[],AS.ev ⟨t2,o2⟩ X,by rw [put_eq] at h;rw [List.append_nil];exact h,aG0 hw X,.inr rfl,fun K2 hK=> ?_⟩
  unfold aop;dsimp only;rw [put_eq];rw [List.append_nil] at hK;exact hK
 case h_2=>
  rename_i X
  refine ⟨_,[],AS.ev ⟨t2,o2⟩ X,by rw [put_eq] at h;rw [List.append_nil];exact h,aG0 hw X,.inr rfl,fun K2 hK=> ?_⟩
  unfold aop;dsimp only;rw [put_eq];rw [List.append_nil] at hK;exact hK
 case h_3=>
  split at h
  ·rename_i b hc
   rename_i X Y _
   refine ⟨if b then AS.ev ⟨t,o⟩ X else AS.ev ⟨t,o⟩ Y,[],if b then AS.ev ⟨t2,o2⟩ X else AS.ev ⟨t2,o2⟩ Y,by rw [put_eq] at h;rw [List.append_nil];exact h,?_,.inr rfl,fun K2 hK=> ?_⟩
   ·cases b
    ·exact aG0 hw Y
    ·exact aG0 hw X
   ·unfold aop;dsimp only;rw [E hc (by simp)];dsimp only;rw [put_eq];rw [List.append_nil] at hK;exact hK
  ·exact h.elim
 case h_4=>
  split at h
  ·rename_i z hz
   rcases hext with hlen|hext
   ·refine ⟨.ptr o.length 0 0 0,[⟨true,true,z.length,0,[z]⟩],.ptr o.length 0 0 0,by rw [aCu] at h;exact h,.inl rfl,.inl hlen,fun K2 hK=> ?_⟩
    unfold aop;dsimp only;rw [hz];dsimp only;rw [aCu,hlen];exact hK
   ·have:=hext _ h
    rw [aCu] at this;simp at this
  ·exact h.elim
 case h_5=>
  rename_i X
  obtain ⟨h1,h2⟩:=h
  have hX:=E (x:=X) rfl (aR7 h1)
  rcases hext with hlen|hext
  ·refine ⟨.ptr o.length 0 0 0,[⟨true,true,(AS.ev ⟨t,o⟩ X).cells.length,0,[(AS.ev ⟨t,o⟩ X).cells]⟩],.ptr o.length 0 0 0,by rw [aCu] at h2;exact h2,.inl rfl,.inl hlen,fun K2 hK=> ?_⟩
   unfold aop;dsimp only;rw [hX];refine ⟨rX hs h1,?_⟩;rw [aCu,hlen];exact hK
  ·have:=hext _ h2
   rw [aCu] at this;simp at this
 case h_6=>
  rename_i T parts
  split at h
  ·rename_i pl hp
   split at h
   ·rename_i z0 hz
    obtain ⟨h1,h⟩:=h
    split at h
    ·rename_i z hf
     have hparts:(parts.toList.map fun p=>(p.1,AS.ev ⟨t2,o2⟩ p.2))=parts.toList.map fun p=>(p.1,AS.ev ⟨t,o⟩ p.2):=
      List.map_congr_left fun p hp=>by rw [E (x:=p.2) rfl (aR7 (h1 p hp))]
     refine same h fun K2 hK=> ?_
     unfold aop;dsimp only;rw [hp];dsimp only;rw [hz];dsimp only
     refine ⟨fun p hp=>by rw [E (x:=p.2) rfl (aR7 (h1 p hp))];exact rX hs (h1 p hp),?_⟩
     rw [hparts,hf];exact hK
    ·exact h.elim
   ·exact h.elim
  ·exact h.elim
 case h_7=>
  rename_i T len parts
  split at h
  ·rename_i e n by' he
   obtain ⟨k1,k2,k3,k4,k5,k6,k7,k8,h⟩:=h
   have hu:eZ ((parts.toList.map (·.2)).map (AS.ev ⟨t,o⟩))=[]:=by simpa [jN] using q
   have hL:(parts.toList.map (·.2)).map (AS.ev ⟨t2,o2⟩)=(parts.toList.map (·.2)).map (AS.ev ⟨t,o⟩):=
    List.map_congr_left fun x hx=>E rfl (aVo (fun y hy=>(k8 y hy).1) _ (List.mem_map.2 ⟨x,hx,rfl⟩))
   have hkill:∀os:List aB,kills [] os=os:=fun _=>rfl
   rcases hext with hlen|hext
   ·refine ⟨.obj o.length 1,[⟨true,false,n,1,(jP o ((parts.toList.map (·.2)).map (AS.ev ⟨t,o⟩))).map AV.cells⟩],.obj o.length 1,?_,.inl rfl,.inl hlen,fun K2 hK=> ?_⟩
    ·unfold AS.built at h
     rw [hu,hkill,put_eq] at h
     simpa using h
    ·unfold aop;dsimp only;rw [he];dsimp only
     refine ⟨k1,k2,k3,k4,k5,?_⟩
     rw [hL]
     have hfree:=aBj (o:=o) (o':=o2) _ hu
     refine ⟨by rw [←hfree.2];exact k6,k7,by rw [←hfree.1];exact k8,?_⟩
     unfold AS.built
     dsimp only
     rw [hL,hu,hkill,put_eq,hlen,←hfree.1]
     simpa [hlen] using hK
   ·have:=hext _ h
    unfold AS.built at this
    rw [hu,hkill,put_eq] at this;simp at this
  ·exact h.elim
 case h_8=>
  rename_i T X
  split at h
  ·rename_i hx
   split at h
   ·rename_i ob e ha
    unfold qF at h
    split at h
    ·rename_i n hn
     refine same h.2 fun K2 hK=> ?_
     unfold aop;dsimp only;rw [E hx (by simp)];dsimp only;rw [aZw hs ha];dsimp only;unfold qF;rw [hn];exact ⟨h.1,hK⟩
    ·rename_i hn
     obtain ⟨h1,h⟩:=h
     split at h
     ·rename_i y hy
      refine same h fun K2 hK=> ?_
      unfold aop;dsimp only;rw [E hx (by simp)];dsimp only;rw [aZw hs ha];dsimp only;unfold qF;rw [hn];dsimp only;rw [hy];exact ⟨h1,hK⟩
     ·exact h.elim
   ·exact h.elim
  ·rename_i hx
   obtain ⟨hf,h⟩:=h
   unfold qF at h
   split at h
   ·rename_i n hn
    refine same h.2 fun K2 hK=> ?_
    unfold aop;dsimp only;rw [E hx (by simp)];dsimp only;unfold qF;rw [hn];exact ⟨rX hs hf,h.1,hK⟩
   ·rename_i hn
    obtain ⟨h1,h⟩:=h
    split at h
    ·rename_i y hy
     refine same h fun K2 hK=> ?_
     unfold aop;dsimp only;rw [E hx (by simp)];dsimp only;unfold qF;rw [hn];dsimp only;rw [hy];exact ⟨rX hs hf,h1,hK⟩
    ·exact h.elim
  ·exact h.elim
 case h_9=>cases q
 case h_10=>
  split at h
  ·rename_i fo hf
   split at h
   ·rename_i hx
    refine same h.2 fun K2 hK=> ?_
    unfold aop;dsimp only;rw [hf];dsimp only;rw [E hx (by simp)];exact ⟨wF hs h.1,hK⟩
   ·rename_i hx
    refine same h.2 fun K2 hK=> ?_
    unfold aop;dsimp only;rw [hf];dsimp only;rw [E hx (by simp)];exact ⟨rX hs h.1,hK⟩
   ·exact h.elim
  ·exact h.elim
 case h_11=>
  split at h
  ·rename_i hi
   obtain ⟨h0,h⟩:=h
   split at h
   ·rename_i hx
    split at h
    ·rename_i ob ho
     split at h
     ·rename_i he
      refine same h.2.2.2 fun K2 hK=> ?_
      unfold aop;dsimp only;rw [E hi (by simp)];dsimp only;rw [E hx (by simp)];dsimp only;rw [sM hs ho];dsimp only;rw [he];exact ⟨h0,h.1,h.2.1,h.2.2.1,hK⟩
     ·exact h.elim
    ·exact h.elim
   ·rename_i hx
    obtain ⟨hf,h⟩:=h
    split at h
    ·rename_i he
     obtain ⟨hm,h⟩:=h
     split at h
     ·rename_i hc
      refine same h fun K2 hK=> ?_
      unfold aop;dsimp only;rw [E hi (by simp)];dsimp only;rw [E hx (by simp)];dsimp only;rw [he];dsimp only;rw [hc];exact ⟨h0,rX hs hf,hm,hK⟩
     ·exact h.elim
    ·exact h.elim
   ·rename_i hx
    obtain ⟨hso,h⟩:=h
    split at h
    ·rename_i ha
     refine same h.2 fun K2 hK=> ?_
     unfold aop;dsimp only;rw [E hi (by simp)];dsimp only;rw [E hx (by simp)];dsimp only;rw [ha];exact ⟨h0,wF hs hso,h.1,hK⟩
    ·exact h.elim
   ·exact h.elim
  ·exact h.elim
 case h_12=>
  split at h
  ·rename_i hx
   split at h
   ·rename_i hi
    obtain ⟨ht,h0,h⟩:=h
    split at h
    ·rename_i hu
     refine same h fun K2 hK=> ?_
     unfold aop;dsimp only;rw [E hx (by simp)];dsimp only;rw [E hi (by simp)];dsimp only;rw [hu];exact ⟨ht,h0,hK⟩
    ·exact h.elim
   ·exact h.elim
  ·exact h.elim
 case h_13=>
  split at h
  ·rename_i hx
   split at h
   ·rename_i hy
    refine same h fun K2 hK=> ?_
    unfold aop;dsimp only;rw [E hx (by simp)];dsimp only;rw [hy];exact hK
   ·exact h.elim
  ·exact h.elim
 case h_14=>cases q
 case h_15=>cases q
 case h_16=>
  split at h
  ·rename_i hx
   split at h
   ·rename_i ha
    split at h
    ·rename_i hb
     obtain ⟨h1,h2,h3,h⟩:=h
     refine same h fun K2 hK=> ?_
     unfold aop;dsimp only;rw [E hx (by simp)];dsimp only;rw [zV hw ha];dsimp only;rw [zV hw hb];exact ⟨h1,h2,h3,hK⟩
    ·exact h.elim
   ·exact h.elim
  ·rename_i hx
   split at h
   ·rename_i ha
    split at h
    ·rename_i hb
     split at h
     ·rename_i he
      obtain ⟨h1,h2,h3,h4,h⟩:=h
      refine same h fun K2 hK=> ?_
      unfold aop;dsimp only;rw [E hx (by simp)];dsimp only;rw [zV hw ha];dsimp only;rw [zV hw hb];dsimp only;rw [he];exact ⟨h1,rX hs h2,h3,h4,hK⟩
     ·exact h.elim
    ·exact h.elim
   ·exact h.elim
  ·rename_i hx
   simp only [jN,hx] at q
   cases q
  ·exact h.elim
 case h_17=>
  split at h
  ·rename_i hx
   refine same h fun K2 hK=> ?_
   unfold aop;dsimp only;rw [E hx (by simp)];exact hK
  ·exact h.elim
 case h_18=>
  split at h
  ·rename_i hx
   refine same h fun K2 hK=> ?_
   unfold aop;dsimp only;rw [E hx (by simp)];exact hK
  ·exact h.elim
 case h_19=>
  split at h
  ·rename_i hx
   split at h
   ·rename_i hy
    obtain ⟨hk,h⟩:=h
    split at h
    ·rename_i hz
     refine same h fun K2 hK=> ?_
     unfold aop;dsimp only;rw [E hx (by simp)];dsimp only;rw [E hy (by simp)];dsimp only;rw [hz];exact ⟨hk,hK⟩
    ·exact h.elim
   ·exact h.elim
  ·rename_i hx
   split at h
   ·rename_i hy
    obtain ⟨hk,h⟩:=h
    split at h
    ·rename_i hz
     refine same h fun K2 hK=> ?_
     unfold aop;dsimp only;rw [E hx (by simp)];dsimp only;rw [E hy (by simp)];dsimp only;rw [hz];exact ⟨hk,hK⟩
    ·exact h.elim
   ·exact h.elim
  ·rename_i hx
   split at h
   ·rename_i hy
    refine same h.2.2 fun K2 hK=> ?_
    unfold aop;dsimp only;rw [E hx (by simp)];dsimp only;rw [E hy (by simp)];exact ⟨h.1,h.2.1,hK⟩
   ·exact h.elim
  ·rename_i hx
   split at h
   ·rename_i hy
    obtain ⟨h1,h2,h3,b,h4,h5⟩:=h
    refine same h5 fun K2 hK=> ?_
    unfold aop;dsimp only;rw [E hx (by simp)];dsimp only;rw [E hy (by simp)];exact ⟨h1,h2,h3,b,h4,hK⟩
   ·exact h.elim
  ·exact h.elim
 case h_20=>
  split at h
  ·rename_i hx
   split at h
   ·rename_i hk
    refine same h.2 fun K2 hK=> ?_
    unfold aop;dsimp only;rw [E hx (by simp)];dsimp only;rw [hk];exact ⟨h.1,hK⟩
   ·exact h.elim
  ·rename_i hx
   refine same h.2.2 fun K2 hK=> ?_
   unfold aop;dsimp only;rw [E hx (by simp)];exact ⟨h.1,h.2.1,hK⟩
  ·rename_i hx
   split at h
   ·rename_i he
    obtain ⟨h1,h2,h3,h4,h5,bs,h6,h7⟩:=h
    refine same h7 fun K2 hK=> ?_
    unfold aop;dsimp only;rw [E hx (by simp)];dsimp only;rw [he];exact ⟨h1,h2,rX hs h3,h4,h5,bs,h6,hK⟩
   ·exact h.elim
  ·rename_i hx
   split at h
   ·rename_i ho
    split at h
    ·rename_i he
     obtain ⟨h1,h2,h3,h4,bs,h6,h7⟩:=h
     refine same h7 fun K2 hK=> ?_
     unfold aop;dsimp only;rw [E hx (by simp)];dsimp only;rw [sM hs ho];dsimp only;rw [he];exact ⟨h1,h2,h3,h4,bs,h6,hK⟩
    ·exact h.elim
   ·exact h.elim
  ·exact h.elim
 case h_21=>
  split at h
  ·rename_i hx
   refine same h.2 fun K2 hK=> ?_
   unfold aop;dsimp only;rw [E hx (by simp)];exact ⟨h.1,hK⟩
  ·rename_i hx
   refine same h.2.2 fun K2 hK=> ?_
   unfold aop;dsimp only;rw [E hx (by simp)];exact ⟨rX hs h.1,h.2.1,hK⟩
  ·rename_i hx
   split at h
   ·rename_i ho
    refine same h.2 fun K2 hK=> ?_
    unfold aop;dsimp only;rw [E hx (by simp)];dsimp only;rw [sM hs ho];exact ⟨h.1,hK⟩
   ·exact h.elim
  ·exact h.elim
 case h_22=>
  rename_i X Y tS xT
  simp only [jN,Bool.and_eq_true] at q
  obtain ⟨qx,qy⟩:=q
  split at h
  ·rename_i e n by' he
   obtain ⟨k1,k2,h⟩:=h
   split at qx
   ·rename_i m hx
    have hx2:=E hx (by simp)
    rw [hx] at h
    simp only [AS.target] at h
    have hsrc:∀(y:AV),AS.ev ⟨t,o⟩ Y=y→y≠ .undef→(match y with| .sl .own _ []=>true| .sl .view _ _=>true| .str _=>true|_=>false)=true→∀l2 o',AS.source ⟨t,o++[⟨true,false,n,0,[]⟩]⟩ o.length n y=some (l2,o')→
      o'=o++[⟨true,false,n,0,[]⟩]∧AS.source ⟨t2,o2++[⟨true,false,n,0,[]⟩]⟩ o2.length n (AS.ev ⟨t2,o2⟩ Y)=some (l2,o2++[⟨true,false,n,0,[]⟩]):=by
     intro y hy hne hk l2 o' hs'
     rw [E hy hne]
     split at hk
     ·simp only [AS.source,Option.some.injEq,Prod.mk.injEq] at hs'⊢;exact ⟨hs'.2.symm,hs'.1,trivial⟩
     ·simp only [AS.source] at hs'⊢
      split at hs'
      ·rename_i hm
       simp only [Option.some.injEq,Prod.mk.injEq] at hs'
       rw [if_pos hm]
       exact ⟨hs'.2.symm,by rw [hs'.1]⟩
      ·cases hs'
     ·simp only [AS.source] at hs'⊢
      split at hs'
      ·rename_i hm
       simp only [Option.some.injEq,Prod.mk.injEq] at hs'
       rw [if_pos hm]
       exact ⟨hs'.2.symm,by rw [hs'.1]⟩
      ·cases hs'
     ·cases hk
    split at h
    ·rename_i l2 o' hs'
     obtain ⟨h1,h2,h⟩:=h
     obtain ⟨rfl,hs2⟩:=hsrc _ rfl (by rintro hu;rw [hu] at qy;simp at qy) qy _ _ hs'
     have e1:(o++[(⟨true,false,n,0,[]⟩:aB)]).set o.length ⟨true,false,n,0+1,[]++l2⟩=o++[⟨true,false,n,0+1,[]++l2⟩]:=by
      rw [List.set_append_right _ _ (Nat.le_refl _)];simp
     have e2:(o2++[(⟨true,false,n,0,[]⟩:aB)]).set o2.length ⟨true,false,n,0+1,[]++l2⟩=o2++[⟨true,false,n,0+1,[]++l2⟩]:=by
      rw [List.set_append_right _ _ (Nat.le_refl _)];simp
     unfold AS.appended at h
     dsimp only at h
     rw [e1,put_eq] at h
     rcases hext with hlen|hext
     ·refine ⟨.obj o.length (0+1),[⟨true,false,n,0+1,[]++l2⟩],.obj o.length (0+1),h,.inl rfl,.inl hlen,fun K2 hK=> ?_⟩
      unfold aop;dsimp only;rw [he];dsimp only
      refine ⟨k1,k2,?_⟩
      rw [hx2]
      simp only [AS.target]
      rw [hs2]
      dsimp only
      refine ⟨h1,h2,?_⟩
      unfold AS.appended
      dsimp only
      rw [e2,put_eq,hlen]
      exact hK
     ·have:=hext _ h
      simp at this
    ·exact h.elim
   ·cases qx
  ·exact h.elim
 case h_23=>
  rename_i F args tys
  split at h
  ·rename_i g cap hf
   split at h
   ·rename_i h1
    obtain ⟨r,h2,h3⟩:=h
    have hok:Ok P g (oM o2 (AS.args ⟨t2,o2⟩ args++cap)) r:=h2.mono fun w vs hr=>
     wX (aMp (aVs (o:=o) (o2:=o2) hw args.toList cap)) (xV hs _ w vs hr)
    rcases hext with hlen|hext
    ·refine ⟨(bF 1 o.length r).1,(bF 1 o.length r).2,(bF 1 o.length r).1,by rw [aBg] at h3;exact h3,.inl rfl,.inl hlen,fun K2 hK=> ?_⟩
     unfold aop;dsimp only;rw [E hf (by simp)];dsimp only;rw [if_pos h1];refine ⟨r,hok,?_⟩;rw [aBg,hlen];exact hK
    ·have hn:=hext _ h3
     simp only [aBg,List.length_append] at hn
     have hn':(bF 1 o.length r).2=[]:=List.eq_nil_of_length_eq_zero (by omega)
     have ha:=aVa 1 o.length o2.length r hn'
     refine ⟨(bF 1 o.length r).1,[],(bF 1 o.length r).1,?_,.inl rfl,.inr rfl,fun K2 hK=> ?_⟩
     ·rw [aBg,hn'] at h3;exact h3
     ·unfold aop;dsimp only;rw [E hf (by simp)];dsimp only;rw [if_pos h1]
      refine ⟨r,hok,?_⟩
      unfold AS.called;rw [ha,hn',put_eq];simpa using hK
   ·rename_i h1
    obtain ⟨r,h2,h3⟩:=h
    refine same h3 fun K2 hK=> ?_
    unfold aop;dsimp only;rw [E hf (by simp)];dsimp only;rw [if_neg h1]
    exact ⟨r,fun w vs hr=>h2 w vs (wX (aMp (aVs (o:=o) (o2:=o2) hw args.toList cap)) (xV hs _ w vs hr)),hK⟩
  ·exact h.elim
 case h_24=>
  split at h
  ·rename_i hx
   refine same h.2 fun K2 hK=> ?_
   unfold aop;dsimp only;rw [E hx (by simp)];exact ⟨wF hs h.1,hK⟩
  ·rename_i hx
   refine same h.2 fun K2 hK=> ?_
   unfold aop;dsimp only;rw [E hx (by simp)];exact ⟨rX hs h.1,hK⟩
  ·exact h.elim
 case h_25=>exact h.elim
end Go.Aw
