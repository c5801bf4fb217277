/-
  Proved here: that the abstract walk of a function is sound.
  No condition beyond what each statement spells out.
-/
import Derived.Test.YtejigeoigebhcaaGreatAF2
import Derived.Test.YtejigeoigebhcaaGreatAF9
import Derived.Orders
set_option linter.all false
namespace Go.Aw
def eH (s s':AS):Prop:=∀⦃P:Program⦄ [aB P] (B:Base P) a w,Rel B s a w→Rel B s' a w
def eY (K:AS→Prop) (Q:Exit→AS→Prop):Exit→AS→Prop
 | .normal,s=>K s
 |e,s=>Q e s
def AIn (id:Nat) (Q:Exit→AS→Prop):Exit→AS→Prop
 | .exit id',s=>if id'=id then Q .normal s else Q (.exit id') s
 |e,s=>Q e s
def lift {P:Program} [aB P] (B:Base P) (Q:Exit→AS→Prop):Exit→Act→World→Prop:=fun e a w=>∃s,Q e s∧Rel B s a w
def aB5 (want:Bool):AV→AV
 | .tup []=> .bool (!want)
 |x=>x
@[simp] theorem aRq (w b:Bool):aB5 w (.bool b)= .bool b:=rfl
@[simp] theorem aRv (w:Bool):aB5 w (.tup [])= .bool (!w):=rfl
theorem aL3 {w b:Bool} {x:AV} (h:aB5 w x= .bool b):(x= .tup []∧b= !w)∨x= .bool b:=by
 unfold aB5 at h
 split at h
 ·exact .inl ⟨rfl,(AV.bool.inj h).symm⟩
 ·exact .inr h
theorem aGs (w:World) (E:Env):R w E (.tup []) undef []:=by
 simp only [R];exact ⟨[],rfl,by simp [Rc]⟩
def gD (all:List Oper) (s:AS) (j:Nat) (want:Bool):AV:=match all[j]? with
 |some o=>match o.dst with
  |some d=>aB5 want (s.t.getD d .undef)
  |none=> .undef
 |none=> .undef
def yZ (P:Program) [aB P] (o:Oper) (s:AS) (K:AS→Prop):Prop:=
 match o.op with
 | .call ⟨.value f,⟨x::ys⟩,_⟩=>match s.ev f with
  | .fn g []=>callable P g=true∧(ys.all fun y=>(s.ev y).plainV)=true∧bW s.o (s.ev x)=true∧(uses (s.ev x)).Nodup∧∃x' r,OkM P g (res s.o (s.ev x)) x' (ys.map s.ev) r∧(r.plainV=true∨r= .tup [])∧mt s.o (s.ev x) x'=true∧K (s.mutated o.dst (s.ev x) x' r)
  |_=>False
 | .convert src d x=>match s.ev x with
  | .str l=>match elemA P d with
   |some (e,m,_)=>isString P src=true∧m=1∧intType P e=some .u8∧l.length≤9223372036854775807∧K (s.made o.dst 1 (aN l))
   |none=>False
  |_=>False
 |_=>False
theorem aG7 {P:Program} [aB P] {B:Base P} {o:Oper} {s:AS} {K:AS→Prop} (h:yZ P o s K):∃s',K s'∧Step P B o s s':=by
 obtain ⟨dst,op,ty,pos,after,gd⟩:=o
 unfold yZ at h
 dsimp only at h
 split at h
 ·split at h
  ·rename_i hf
   obtain ⟨h1,h2,h3,h4,x',r,h5,h6,h7,h8⟩:=h
   exact ⟨_,h8,aMf _ _ _ _ hf h1 h2 h6 h3 h4 h7 h5⟩
  ·exact h.elim
 ·split at h
  ·rename_i hx
   split at h
   ·rename_i he
    obtain ⟨h1,rfl,h2,h3,h4⟩:=h
    exact ⟨_,h4,aI5 _ _ _ hx h1 he h2 h3⟩
   ·exact h.elim
  ·exact h.elim
 ·exact h.elim
def xD (P:Program) [aB P] (o:Oper) (s:AS) (K:AS→Prop):Prop:=
 match o.op with
 | .call ⟨.value f,args,_⟩=>match s.ev f with
  | .fn g []=>callable P g=true∧∃gs r,OkG P g gs r∧(takes s.o (s.args args) gs).Nodup∧handed s.o (takes s.o (s.args args) gs) (s.args args) gs∧K (s.given o.dst (s.args args) gs r)
  |_=>False
 |_=>False
theorem aI3 {P:Program} [aB P] {B:Base P} {o:Oper} {s:AS} {K:AS→Prop} (h:xD P o s K):∃s',K s'∧Step P B o s s':=by
 obtain ⟨dst,op,ty,pos,after,gd⟩:=o
 unfold xD at h
 dsimp only at h
 split at h
 ·split at h
  ·rename_i hf
   obtain ⟨h1,gs,r,h2,h3,h4,h5⟩:=h
   exact ⟨_,h5,aLb _ _ _ hf h1 h3 h4 h2⟩
  ·exact h.elim
 ·exact h.elim
theorem eH.refl (s:AS):eH s s:=fun _ _ _ _ _ h=>h
theorem eH.trans {a b c:AS} (h:eH a b) (k:eH b c):eH a c:=fun _ _ B x w r=>k B x w (h B x w r)
def oK (P:Program) [aB P] (o:Oper) (s:AS) (K:AS→Prop):Prop:=∃s1,eH s s1∧(aop P o s1 K∨yZ P o s1 K∨xD P o s1 K)
theorem aA4 {P:Program} [aB P] {B:Base P} {o:Oper} {s:AS} {K:AS→Prop} (h:oK P o s K):∃s',K s'∧Step P B o s s':=by
 obtain ⟨s1,hw,h⟩:=h
 obtain ⟨s',hK,hst⟩:∃s',K s'∧Step P B o s1 s':=by
  rcases h with h|h|h
  ·exact qC h
  ·exact aG7 h
  ·exact aI3 h
 exact ⟨s',hK,fun a w next Q hr hn=>hst a w next Q (hw B a w hr) hn⟩
theorem aQq {P:Program} [aB P] {o:Oper} {s:AS} {K:AS→Prop} (h:xD P o s K):oK P o s K:=⟨s,eH.refl s,.inr (.inr h)⟩
theorem aP7 {P:Program} [aB P] {o:Oper} {s:AS} {K:AS→Prop} (h:aMk P o s K):oK P o s K:=by
 unfold aMk at h
 split at h
 ·split at h
  ·split at h
   ·rename_i ob hob
    exact ⟨_,fun _ _ B a w hr=>aCu hob h.1 hr,.inl h.2⟩
   ·exact h.elim
  ·exact h.elim
 ·exact h.elim
theorem aLq {P:Program} [aB P] {o:Oper} {s s1:AS} {K:AS→Prop} (hw:eH s s1) (h:aop P o s1 K∨oK P o s1 K):oK P o s K:=by
 rcases h with h|⟨s2,hw2,h⟩
 ·exact ⟨s1,hw,.inl h⟩
 ·exact ⟨s2,hw.trans hw2,h⟩
def pV (P:Program) [aB P] (o:Oper) (s:AS) (K:AS→Prop):Prop:=∃s1,eH s s1∧uX P o s1 K
theorem aAc {P:Program} [aB P] {B:Base P} {o:Oper} {s:AS} {K:AS→Prop} (h:pV P o s K) (a:Act) (w:World) (next:Act→World→Prop) (X:Exit→Act→World→Prop) (hr:Rel B s a w)
  (hn:∀a' w' s',K s'→Rel B s' a' w'→next a' w'):o.wp P a w next X:=by
 obtain ⟨s1,hw,h⟩:=h
 exact aJh h a w next X (hw B a w hr) hn
def bH (P:Program) [aB P] (all:List Oper):List Oper→AS→(AS→Prop)→Prop
 |[],s,K=>K s
 |o::r,s,K=>match o.guard with
  |none=>(aop P o s fun s'=>bH P all r s' K)∨(oK P o s fun s'=>bH P all r s' K)∨(pV P o s fun s'=>bH P all r s' K)
  |some (j,want)=>match gD all s j want with
   | .bool b=>(b=want→(aop P o s fun s'=>bH P all r s' K)∨(oK P o s fun s'=>bH P all r s' K)∨(pV P o s fun s'=>bH P all r s' K))∧(b≠want→bH P all r (s.put o.dst (.tup [])) K)
   |_=>False
def aA7 (P:Program) [aB P] (ops:Array Oper) (s:AS) (K:AS→Prop):Prop:=
 ∀(B:Base P) a w (Q:Exit→Act→World→Prop),Rel B s a w→(∀a' w' s',K s'→Rel B s' a' w'→Q .normal a' w')→
  wpAny P .any ops Q ops.size (Array.replicate ops.size false) a {w with drawn:=w.drawn+1}
def awp (P:Program) [aB P]:Code→AS→(Exit→AS→Prop)→Prop
 | .skip,s,Q=>Q .normal s
 | .region _ ops false,s,Q=>∃s2,eH s s2∧bH P ops.toList ops.toList s2 (Q .normal)
 | .region _ ops true,s,Q=>aA7 P ops s (Q .normal)
 | .seq x y,s,Q=>awp P x s (eY (fun s'=>awp P y s' Q) Q)
 | .cond c x y,s,Q=>match s.ev c with
  | .bool b=>(b=true→awp P x s Q)∧(b=false→awp P y s Q)
  |_=>False
 | .block id c,s,Q=>awp P c s (AIn id Q)
 | .loop c,s,Q=>∃(ι:Type) (inv:ι→AS) (μ:ι→Nat) (i:ι),eH s (inv i)∧∀i,awp P c (inv i) (eY (fun s'=>∃j,eH s' (inv j)∧μ j < μ i) Q)
 | .exit id,s,Q=>Q (.exit id) s
 | .ret,s,Q=>Q .ret s
 |_,_,_=>False
theorem aA1 {P:Program} [aB P] {B:Base P} {s:AS} {G:List CO} {a:Act} {w:World} (r:aI B s G a w) {all:List Oper} {j:Nat} {b want:Bool} (h:gD all s j want= .bool b):(yielded all.toArray a.tmps j == some want)=(b == want):=by
 unfold gD at h
 split at h
 ·rename_i o ho
  split at h
  ·rename_i d hd
   have h1:=r.ev (.tmp d)
   simp only [AS.ev] at h1
   rcases aL3 h with ⟨h0,rfl⟩|h0
   ·rw [h0] at h1
    simp only [R] at h1
    obtain ⟨cs,h2,h3⟩:=h1
    cases cs with
    |cons=>simp [Rc] at h3
    |nil=>
     simp only [Act.eval] at h2
     rw [Array.getD_eq_getD_getElem?] at h2
     cases hg:a.tmps[d]? with
     |none=>simp [yielded,ho,hd,hg]
     |some v=>
      simp [hg] at h2
      subst h2
      simp [yielded,ho,hd,hg]
   ·rw [h0] at h1
    simp only [R] at h1
    have h2:=h1.1
    simp only [Act.eval] at h2
    rw [Array.getD_eq_getD_getElem?] at h2
    cases hg:a.tmps[d]? with
    |none=>simp [hg] at h2;cases h2
    |some v=>simp [hg] at h2;subst h2;simp [yielded,ho,hd,hg]
  ·cases h
 ·cases h
theorem rC {P:Program} [aB P] {B:Base P} {all:List Oper} {Q:Exit→Act→World→Prop}:∀(l:List Oper) (s:AS) (K:AS→Prop),bH P all l s K→∀a w,Rel B s a w→(∀a' w' s',K s'→Rel B s' a' w'→Q .normal a' w')→wpList P all.toArray Q l a w
 |[],s,K,h,a,w,r,hk=>hk _ _ _ h r
 |o::l,s,K,h,a,w,r,hk=>by
  simp only [bH] at h
  have stepped:((aop P o s fun s'=>bH P all l s' K)∨(oK P o s fun s'=>bH P all l s' K)∨(pV P o s fun s'=>bH P all l s' K))→Region.wanted o (yielded all.toArray a.tmps)=true→wpList P all.toArray Q (o::l) a w:=by
   intro h hw
   simp only [wpList,hw,if_true]
   by_cases hcu:pV P o s fun s'=>bH P all l s' K
   ·exact .inl (aAc hcu a w _ Q r fun a' w' s' h' r'=>rC l s' K h' a' w' r' hk)
   obtain ⟨s',h',hst⟩:∃s',bH P all l s' K∧Step P B o s s':=by
    rcases h with h|h|h
    ·exact qC (B:=B) h
    ·exact aA4 (B:=B) h
    ·exact (hcu h).elim
   exact .inl (hst a w _ Q r fun a' w' r'=>rC l s' K h' a' w' r' hk)
  split at h
  ·rename_i hg
   exact stepped h (by simp [Region.wanted,hg])
  ·rename_i j want hg
   split at h
   ·rename_i b hb
    obtain ⟨G,r'⟩:=r
    have hy:=aA1 r' hb
    by_cases hbw:b=want
    ·exact stepped (h.1 hbw) (by simp [Region.wanted,hg,hy,hbw])
    ·have hw:Region.wanted o (yielded all.toArray a.tmps)=false:=by simp [Region.wanted,hg,hy,hbw]
     simp only [wpList,hw,Bool.false_eq_true,if_false]
     exact rC l _ K (h.2 hbw) _ _ ⟨G,r'.put o.dst (aGs _ _)⟩ hk
   ·exact h.elim
theorem aBg {ι:Type} (p:ι→Prop) (μ:ι→Nat) (h:∃i,p i):∃i,p i∧∀j,p j→μ i≤μ j:=by
 obtain ⟨i,hi⟩:=h
 generalize hn:μ i=n
 induction n using Nat.strongRecOn generalizing i with
 |_ n ih=>
  by_cases hex:∃j,p j∧μ j < n
  ·obtain ⟨j,hj,hlt⟩:=hex
   exact ih (μ j) hlt j hj rfl
  ·refine ⟨i,hi,fun j hj=> ?_⟩
   rw [hn]
   exact Nat.le_of_not_lt fun hlt=>hex ⟨j,hj,hlt⟩
open Classical in
noncomputable def least {ι : Type} (p : ι → Prop) (μ : ι → Nat) : Nat := if h : ∃ i, p i then μ (aBg p μ h).choose else 0
theorem aM5 {ι:Type} {p:ι→Prop} {μ:ι→Nat} {j:ι} (h:p j):least p μ≤μ j:=by
 have hex:∃i,p i:=⟨j,h⟩
 unfold least
 rw [dif_pos hex]
 exact (aBg p μ hex).choose_spec.2 j h
theorem aNa {ι:Type} {p:ι→Prop} {μ:ι→Nat} (h:∃i,p i):∃i,p i∧least p μ=μ i:=by
 refine ⟨(aBg p μ h).choose,(aBg p μ h).choose_spec.1,?_⟩
 unfold least
 rw [dif_pos h]
theorem gM {P:Program} [aB P] (hm:P.follows .mixedOrders=true) {B:Base P}:∀(c:Code) (s:AS) (Q:Exit→AS→Prop),awp P c s Q→∀a w,Rel B s a w→c.wp P (lift B Q) a w
 | .skip,s,Q,h,a,w,r=>wp_skip ⟨s,h,r⟩
 | .region id ops false,s,Q,⟨s2,hw,h⟩,a,w,r=>wp_region_list (by
   have:=rC (Q:=lift B Q) ops.toList s2 (Q .normal) h a w (hw B a w r) (fun a' w' s' h' r'=>⟨s',h',r'⟩)
   simpa using this)
 | .region id ops true,s,Q,h,a,w,r=>wp_region_any hm (h B a w (lift B Q) r fun a' w' s' h' r'=>⟨s',h',r'⟩)
 | .seq x y,s,Q,h,a,w,r=>wp_seq (wp_mono (gM hm x s _ h a w r) fun e a' w' he=>by
   obtain ⟨s',h',r'⟩:=he
   cases e with
   |normal=>exact gM hm y s' Q h' a' w' r'
   |_=>exact ⟨s',h',r'⟩)
 | .cond c x y,s,Q,h,a,w,r=>by
  simp only [awp] at h
  split at h
  ·rename_i b hb
   obtain ⟨G,r'⟩:=r
   exact wp_cond_split (r'.boolv hb) (fun hb=>gM hm x s Q (h.1 hb) a w ⟨G,r'⟩) (fun hb=>gM hm y s Q (h.2 hb) a w ⟨G,r'⟩)
  ·exact h.elim
 | .block id c,s,Q,h,a,w,r=>wp_block (wp_mono (gM hm c s _ h a w r) fun e a' w' he=>by
   obtain ⟨s',h',r'⟩:=he
   cases e with
   |exit id'=>
    simp only [AIn] at h'
    simp only [Exit.inBlock]
    split at h'
    ·rename_i hid;rw [if_pos hid];exact ⟨s',h',r'⟩
    ·rename_i hid;rw [if_neg hid];exact ⟨s',h',r'⟩
   |_=>exact ⟨s',h',r'⟩)
 | .loop c,s,Q,h,a,w,r=>by
  obtain ⟨ι,inv,μ,i,h0,hr⟩:=h
  refine wp_loop (fun a w=>∃i,Rel B (inv i) a w) (fun a w=>least (fun i=>Rel B (inv i) a w) μ) ⟨i,h0 B a w r⟩ fun a w hex=> ?_
  obtain ⟨i,hi,hmin⟩:=aNa (μ:=μ) hex
  refine wp_mono (gM hm c (inv i) _ (hr i) a w hi) fun e a' w' he=> ?_
  obtain ⟨s',h',r'⟩:=he
  cases e with
  |normal=>
   obtain ⟨j,hw,hlt⟩:=h'
   have hj:=hw B a' w' r'
   refine ⟨⟨j,hj⟩,?_⟩
   rw [hmin]
   exact Nat.lt_of_le_of_lt (aM5 hj) hlt
  |_=>exact ⟨s',h',r'⟩
 | .exit id,s,Q,h,a,w,r=>wp_exit ⟨s,h,r⟩
 | .ret,s,Q,h,a,w,r=>wp_ret ⟨s,h,r⟩
 | .rangeFunc _ _ _ _,_,_,h,_,_,_=>by simp [awp] at h
 | .scope _,_,_,h,_,_,_=>by simp [awp] at h
 | .label _,_,_,h,_,_,_=>by simp [awp] at h
 | .goto _,_,_,h,_,_,_=>by simp [awp] at h
 | .refuse _,_,_,h,_,_,_=>by simp [awp] at h
def AS.rv (P:Program) (s:AS):ResultVar→Option AV
 | .tmp t=>some (s.t.getD t .undef)
 | .cell t ty=>match s.t.getD t .undef with
  | .ptr i ver idx off=>match s.at i ver idx with
   |some (_,e)=>match aggSize P ty with
    |some n=>if off+n≤e.length then some (.agg (((rtc (dpf i) true e).drop off).take n)) else none
    |none=>if oneSize P ty then (rtc (dpf i) true e)[off]? else none
   |none=>none
  |_=>none
def rJ (a:Act):ResultVar→Sem Value
 | .tmp t=>pure (a.tmps.getD t Go.undef)
 | .cell t ty=>do loadVar ty (←asAddr (a.tmps.getD t Go.undef))
theorem aA6 (fn:Func) (a:Act):results fn a.tmps=(do let vs←fn.results.mapM (rJ a);pure (if h:vs.size=1 then vs[0] else .tuple vs)):=by
 unfold results
 congr 1
 all_goals (congr 1;all_goals (funext x;cases x<;>rfl))
theorem aQi {P:Program} [aB P] {B:Base P} {s:AS} {G:List CO} {a:Act} {w:World} (r:aI B s G a w) {rv:ResultVar} {x:AV} (h:s.rv P rv=some x):
  ∃v,(rJ a rv).run P w= .ok v w∧R w (env B s.o G w) x v []:=by
 cases rv with
 |tmp t=>
  simp only [AS.rv,Option.some.injEq] at h
  subst h
  exact ⟨a.tmps.getD t Go.undef,rfl,r.ev (.tmp t)⟩
 |cell t ty=>
  simp only [AS.rv] at h
  split at h
  ·rename_i i ver idx off hx
   split at h
   ·rename_i ob e ha
    obtain ⟨ho,he⟩:=nJ ha
    obtain ⟨g,b,f,hl,hlive,hga,hv⟩:=r.ptr (x:= .tmp t) hx ho
    obtain ⟨b',f',cs,ha',hcn,hc,hone,hrc⟩:=r.elem hl hlive he
    rw [hga] at ha'
    simp only [Option.some.injEq,Addr.mk.injEq,and_true] at ha'
    obtain ⟨rfl,rfl⟩:=ha'
    have hle:=bV hrc
    rw [qY] at hle
    simp only [Act.eval] at hv
    split at h
    ·rename_i n hn
     split at h
     ·rename_i hfit
      obtain rfl:=Option.some.inj h
      refine ⟨.agg ((cs.drop off).take n).toArray,?_,by simp only [R];exact ⟨_,rfl,uF hone,aAn off n hrc⟩⟩
      have:=jT (P:=P) (t:=ty) (k:=off) (n:=n) (cs:=cs) hn (by omega) hc
      simp only [Instr.loadAt,Instr.sureAddr,pure_bind] at this
      simp [rJ,hv,asAddr,←Nat.add_assoc,this]
     ·cases h
    ·split at h
     ·rename_i hone1
      obtain ⟨v,hv',hR⟩:=vG hrc h
      refine ⟨v,?_,hR⟩
      have:=mJ (P:=P) (t:=ty) hone1 hv' hc
      simp only [Instr.loadAt,Instr.sureAddr,pure_bind] at this
      simp [rJ,hv,asAddr,←Nat.add_assoc,this]
     ·cases h
   ·cases h
  ·cases h
def AS.rvs (P:Program) (s:AS):List ResultVar→Option (List AV)
 |[]=>some []
 |x::xs=>match s.rv P x with
  |some y=>match AS.rvs P s xs with
   |some ys=>some (y::ys)
   |none=>none
  |none=>none
def single:List AV→AV
 |[x]=>x
 |xs=> .tup xs
def Hands (P:Program) (fn:Func) (s:AS) (r:AV):Prop:=
 ∃ys,s.rvs P fn.results.toList=some ys∧bW s.o (single ys)=true∧(uses (single ys)).Nodup∧res s.o (single ys)=r∧clean r=true
theorem aCz {P:Program} [aB P] {B:Base P} {s:AS} {G:List CO} {a:Act} {w:World} (r:aI B s G a w):∀{l:List ResultVar} {ys:List AV},s.rvs P l=some ys→
  ∃vs,(l.mapM (m:=Sem) (rJ a)).run P w= .ok vs w∧Rc w (env B s.o G w) ys vs []
 |[],ys,h=>by
  simp only [AS.rvs,Option.some.injEq] at h
  subst h
  exact ⟨[],by simp,by simp [Rc]⟩
 |x::xs,ys,h=>by
  simp only [AS.rvs] at h
  split at h
  ·rename_i y hy
   split at h
   ·rename_i ys' hys
    obtain rfl:=Option.some.inj h
    obtain ⟨v,h1,h2⟩:=aQi r hy
    obtain ⟨vs,h3,h4⟩:=aCz r hys
    refine ⟨v::vs,?_,by simp only [Rc];exact ⟨[],[],h2,h4,rfl⟩⟩
    simp only [List.mapM_cons,Sem.run_bind]
    rw [h1]
    simp only [Result.andThen_ok]
    rw [h3]
    simp
   ·cases h
  ·cases h
theorem lF {P:Program} [aB P] {B:Base P} {s:AS} {G:List CO} {a:Act} {w:World} (r:aI B s G a w) {fn:Func} {ys:List AV} (h:s.rvs P fn.results.toList=some ys):
  ∃v,(results fn a.tmps).run P w= .ok v w∧R w (env B s.o G w) (single ys) v []:=by
 obtain ⟨vs,h1,h2⟩:=aCz r h
 have hl:=bV h2
 have hm:(fn.results.mapM (m:=Sem) (rJ a)).run P w= .ok vs.toArray w:=by
  rw [Array.mapM_eq_mapM_toList]
  simp only [Sem.run_map]
  rw [h1]
  rfl
 rw [aA6]
 simp only [Sem.run_bind]
 rw [hm]
 simp only [Result.andThen_ok,Sem.run_pure]
 match ys,vs,hl,h2 with
 |[y],[v],_,h2=>
  refine ⟨v,by simp,?_⟩
  simp only [Rc] at h2
  obtain ⟨f1,f2,h3,_,e⟩:=h2
  obtain ⟨rfl,_⟩:f1=[]∧f2=[]:=by simpa using e
  exact h3
 |[],[],_,h2=>exact ⟨.tuple #[],by simp,by simp only [single,R];exact ⟨[],rfl,h2⟩⟩
 |y1::y2::ys,v1::v2::vs,_,h2=>exact ⟨.tuple (v1::v2::vs).toArray,by simp,by simp only [single,R];exact ⟨_,rfl,h2⟩⟩
theorem aDe {P:Program} [aB P] (hm:P.follows .mixedOrders=true) {f:FuncId} {fn:Func} {c:Code} (hf:P.funcs[f]? =some fn) (hb:fn.body=some c) {args:List AV} {rr:AV}
  (h:awp P c ⟨args++List.replicate (fn.ntmps - args.length) .undef,[]⟩ (fun e s=>(e= .normal∨e= .ret)∧Hands P fn s rr)):Ok P f args rr:=by
 intro w vs hg hargs
 have hl:=bV hargs
 have r0:aI ⟨w,fun b=>b < w.heap.size,fun _=>False,fun _=>none,fun _=>none,hg,fun _ h=>h.elim,fun _ h=>h.elim⟩ ⟨args++List.replicate (fn.ntmps - args.length) .undef,[]⟩ [] {tmps:=vs.toArray++Array.replicate (fn.ntmps - vs.toArray.size) Go.undef,defers:=[]} w:=by
  refine ⟨rfl,rfl,fun i ob g hl=>by simp [look] at hl,fun i j oi oj gi gj b hl=>by simp [look] at hl,fun i ob g b hl=>by simp [look] at hl,?_,Nat.le_refl _,fun _ _ _=>rfl,fun b hb=>hb,Same.rfl⟩
  have h1:Rc w (env ⟨w,fun b=>b < w.heap.size,fun _=>False,fun _=>none,fun _=>none,hg,fun _ h=>h.elim,fun _ h=>h.elim⟩ [] [] w) args vs []:=bK (w:=w) (w':=w) (E:=eB w) (E':=env ⟨w,fun b=>b < w.heap.size,fun _=>False,fun _=>none,fun _=>none,hg,fun _ h=>h.elim,fun _ h=>h.elim⟩ [] [] w) ⟨fun b hb=>⟨⟨.inl hb,fun i ob g hl=>by simp [look] at hl⟩,rfl⟩,fun _ _=>trivial,fun _ _ _ h=>by exact h.elim,fun _ _ _ h=>by exact h.elim,fun _ _ _ _ _ h=>by exact h.elim⟩ _ _ _ (by simp) hargs
  have h2:∀n,Rc w (env ⟨w,fun b=>b < w.heap.size,fun _=>False,fun _=>none,fun _=>none,hg,fun _ h=>h.elim,fun _ h=>h.elim⟩ [] [] w) (List.replicate n .undef) (List.replicate n Go.undef) []:=by
   intro n
   induction n with
   |zero=>simp [Rc]
   |succ n ih=>simp only [List.replicate_succ,Rc];exact ⟨[],[],by simp [R],ih,rfl⟩
  have:=dM h1 (h2 (fn.ntmps - args.length))
  simpa [hl] using this
 refine calls_of_wp hf hb (wp_mono (gM hm c _ _ h _ _ ⟨_,r0⟩) fun e a w' he=> ?_)
 obtain ⟨s,⟨he,ys,hys,hok,hu,hres,hcl⟩,G,r⟩:=he
 obtain ⟨v,hrun,hR⟩:=lF r hys
 obtain ⟨fp,h1,h2,h3⟩:=rH r _ v hok hu hR
 rw [hres] at h1
 have hfin:∃v' fp,Ending.returned v= .returned v'∧R w' (mR w.heap.size w' fp) rr v' fp∧fp.Nodup∧(∀b∈fp,w.heap.size≤b∧b < w'.heap.size)∧w.heap.size≤w'.heap.size∧(∀b,b < w.heap.size→w'.heap[b]? =w.heap[b]?)∧Same w w':=by
  refine ⟨v,fp,rfl,aNu <| aC3 (E:=(env _ s.o G w').plain) (fun _ _=>trivial) rfl rfl rfl _ _ _ hcl h1,h2,fun b hb=> ?_,r.size,fun b hb=>r.frame b hb (fun h=>h),r.same⟩
  obtain ⟨i,ob,g,_,hl,hlive,hF⟩:=h3 b hb
  have:=r.fresh _ _ _ b hl hlive hF
  exact ⟨this.1.resolve_left (fun h=>h),this.2⟩
 rcases he with rfl|rfl
 ·exact ⟨r.defs,v,hrun,hfin⟩
 ·exact ⟨r.defs,v,hrun,hfin⟩
theorem lV {P:Program} [aB P] {all:List Oper} {s:AS} {K:AS→Prop} (h:K s):bH P all [] s K:=h
theorem aBk {P:Program} [aB P] {id:Nat} {l:List Oper} {s:AS} {Q:Exit→AS→Prop} (h:bH P l l s (Q .normal)):awp P (.region id l.toArray false) s Q:=by
 simp only [awp];exact ⟨s,eH.refl s,h⟩
theorem rG {P:Program} [aB P] {id:Nat} {ops:Array Oper} {s s2:AS} {Q:Exit→AS→Prop} (hw:eH s s2) (h:awp P (.region id ops false) s2 Q):awp P (.region id ops false) s Q:=by
 simp only [awp] at h⊢
 obtain ⟨s3,h1,h2⟩:=h
 exact ⟨s3,hw.trans h1,h2⟩
theorem aAp {P:Program} [aB P] {c:Operand} {x y:Code} {s:AS} {Q:Exit→AS→Prop} {b:Bool} (hc:s.ev c= .bool b) (h1:b=true→awp P x s Q) (h2:b=false→awp P y s Q):awp P (.cond c x y) s Q:=by
 simp only [awp,hc]
 exact ⟨h1,h2⟩
theorem aDy {P:Program} [aB P] {id:Nat} {c:Code} {s:AS} {Q:Exit→AS→Prop} (h:awp P c s (AIn id Q)):awp P (.block id c) s Q:=h
theorem aFv {P:Program} [aB P] {id:Nat} {s:AS} {Q:Exit→AS→Prop} (h:Q (.exit id) s):awp P (.exit id) s Q:=h
theorem aIc {P:Program} [aB P] {s:AS} {Q:Exit→AS→Prop} (h:Q .ret s):awp P .ret s Q:=h
theorem aE6 {P:Program} [aB P] {s:AS} {Q:Exit→AS→Prop} (h:Q .normal s):awp P .skip s Q:=h
theorem aMh {P:Program} [aB P] {c:Code} {s:AS} {Q:Exit→AS→Prop} {ι:Type} (inv:ι→AS) (μ:ι→Nat) (i:ι) (h0:eH s (inv i)) (h:∀i,∀K:AS→Prop,(∀s' j,eH s' (inv j)→μ j < μ i→K s')→awp P c (inv i) (eY K Q)):awp P (.loop c) s Q:=
 ⟨ι,inv,μ,i,h0,fun i=>h i _ fun _ j h1 h2=>⟨j,h1,h2⟩⟩
theorem wR {K:AS→Prop} {Q:Exit→AS→Prop} {s:AS} (h:Q .ret s):eY K Q .ret s:=h
theorem wK {K:AS→Prop} {Q:Exit→AS→Prop} {s:AS} {id:Nat} (h:Q (.exit id) s):eY K Q (.exit id) s:=h
theorem wM {Q:Exit→AS→Prop} {s:AS} {id:Nat} (h:Q .normal s):AIn id Q .normal s:=h
theorem aB3 {Q:Exit→AS→Prop} {s:AS} {id:Nat} (h:Q .ret s):AIn id Q .ret s:=h
theorem aDh {Q:Exit→AS→Prop} {s:AS} {id:Nat} (h:Q .normal s):AIn id Q (.exit id) s:=by simpa [AIn] using h
theorem aDw {Q:Exit→AS→Prop} {s:AS} {id id':Nat} (hne:id'≠id) (h:Q (.exit id') s):AIn id Q (.exit id') s:=by simpa [AIn,hne] using h
def wk:List AV→List AV→Prop
 |[],[]=>True
 |x::xs,y::ys=>(y=x∨y= .undef)∧wk xs ys
 |_,_=>False
theorem yS {w:World} {E:Env}:∀{t t':List AV} {vs:List Value},wk t t'→Rc w E t vs []→Rc w E t' vs []
 |[],[],_,_,h=>h
 |[],_::_,_,h,_=>h.elim
 |_::_,[],_,h,_=>h.elim
 |_::_,_::_,[],_,h=>by simp [Rc] at h
 |x::xs,y::ys,v::vs,h,hr=>by
  simp only [Rc] at hr⊢
  obtain ⟨f1,f2,h1,h2,e⟩:=hr
  obtain ⟨rfl,rfl⟩:f1=[]∧f2=[]:=by simpa using e
  refine ⟨[],[],?_,yS h.2 h2,rfl⟩
  rcases h.1 with rfl|rfl
  ·exact h1
  ·simp [R]
theorem aK4 {t t':List AV} {o:List aA} (h:wk t t'):eH ⟨t,o⟩ ⟨t',o⟩:=by
 rintro P _ B a w ⟨G,r⟩
 exact ⟨G,{r with tmps:=yS h r.tmps}⟩
theorem wrap64 (n:Int) (h1: -9223372036854775808≤n) (h2:n≤9223372036854775807):IntKind.i64.wrap n=n:=by rw [IntKind.wrap_i64];omega
mutual
def aX : AV → Nat
  | .sl .own _ _ => 1
  | .agg c => aL c
  | .tup c => aL c
  | _ => 0
def aL : List AV → Nat
  | [] => 0
  | x :: xs => aX x + aL xs
end
mutual
def aV (q k : Nat) : AV → AV
  | .sl .own _ _ => .obj k q
  | .agg c => .agg (aM q k c)
  | .tup c => .tup (aM q k c)
  | .int a b => .int a b
  | .bool b => .bool b
  | .str s => .str s
  | .sl g n l => .sl g n l
  | .vptr g c off => .vptr g c off
  | .obj i v => .obj i v
  | .ptr i v j o => .ptr i v j o
  | .fn f c => .fn f c
  | .undef => .undef
def aM (q k : Nat) : List AV → List AV
  | [] => []
  | x :: xs => aV q k x :: aM q (k + aX x) xs
end
mutual
def aU (q : Nat) : AV → List aA
  | .sl .own n l => [⟨true, false, n, q, l⟩]
  | .agg c => aK q c
  | .tup c => aK q c
  | .int _ _ => []
  | .bool _ => []
  | .str _ => []
  | .sl _ _ _ => []
  | .vptr _ _ _ => []
  | .obj _ _ => []
  | .ptr _ _ _ _ => []
  | .fn _ _ => []
  | .undef => []
def aK (q : Nat) : List AV → List aA
  | [] => []
  | x :: xs => aU q x ++ aK q xs
end
mutual
theorem zS (q : Nat) : ∀ x : AV, (aU q x).length = aX x
  | .sl .own _ _ => rfl
  | .sl .view _ _ => rfl
  | .sl (.dep _) _ _ => rfl
  | .agg c => sK q c
  | .tup c => sK q c
  | .int _ _ => rfl
  | .bool _ => rfl
  | .str _ => rfl
  | .vptr _ _ _ => rfl
  | .obj _ _ => rfl
  | .ptr _ _ _ _ => rfl
  | .fn _ _ => rfl
  | .undef => rfl
theorem sK (q : Nat) : ∀ c : List AV, (aK q c).length = aL c
  | [] => rfl
  | x :: xs => by simp only [aK, aL, List.length_append, zS q x, sK q xs]
end
mutual
theorem aF (q k : Nat) : ∀ x : AV, bN q k x = (aV q k x, aU q x)
  | .sl .own _ _ => rfl
  | .sl .view _ _ => rfl
  | .sl (.dep _) _ _ => rfl
  | .agg c => by simp only [bN, aV, aU, aC q k c]
  | .tup c => by simp only [bN, aV, aU, aC q k c]
  | .int _ _ => rfl
  | .bool _ => rfl
  | .str _ => rfl
  | .vptr _ _ _ => rfl
  | .obj _ _ => rfl
  | .ptr _ _ _ _ => rfl
  | .fn _ _ => rfl
  | .undef => rfl
theorem aC (q k : Nat) : ∀ c : List AV, dN q k c = (aM q k c, aK q c)
  | [] => rfl
  | x :: xs => by simp only [dN, aM, aK, aF q k x, aC q _ xs, zS]
end
attribute [simp] wk AS.ev AS.put AS.box AS.shut AV.fit AV.cells AV.isObj AS.at AS.stored jU ofV rt rtc rtr AV.kept dpf vwf AS.args arg jG AS.called aV aM aU aK aX aL aF aC AS.target AS.source AS.appended AS.resliced AS.bound AS.made qH aB8 aA.kill
  AV.solid AV.good AV.known AV.scalar rT rT.go AS.built kills aEu dD uses eP res bW fM tQ clean oH cB single AS.rv AS.rvs gD eY AIn AV.nd aIw aHk aJ1 dS AV.plainV
attribute [irreducible] awp bH eY AIn
end Go.Aw

namespace Go.Aw
theorem aDz {P:Program} [aB P] {t:TypeId} {c:List AV} {off:Nat} {K1 K2:AV→Prop} (hk:∀y,K1 y→K2 y) (h:jU P t c off K1):jU P t c off K2:=by
 unfold jU at *
 split at h
 ·exact ⟨h.1,hk _ h.2⟩
 ·refine ⟨h.1,?_⟩
  have:=h.2
  split at this
  ·exact hk _ this
  ·exact this.elim
theorem aCw {P:Program} [aB P] {o:Oper} {s:AS} {K1 K2:AS→Prop} (hk:∀s',K1 s'→K2 s') (h:aop P o s K1):aop P o s K2:=by
 obtain ⟨dst,op,ty,pos,after,gd⟩:=o
 unfold aop at h⊢
 dsimp only at h⊢
 split at h
 all_goals (repeat' (split at h))
 all_goals (first
  |exact h.elim
  |exact hk _ h
  |exact ⟨h.1,hk _ h.2⟩
  |((repeat (refine ⟨h.1,?_⟩;replace h:=h.2));exact hk _ h)
  |exact aDz (fun y=>hk _) h
  |exact ⟨h.1,aDz (fun y=>hk _) h.2⟩
  |(obtain ⟨r,h1,h2⟩:=h;exact ⟨r,h1,hk _ h2⟩)
  |((repeat (refine ⟨h.1,?_⟩;replace h:=h.2));obtain ⟨r,h1,h2⟩:=h;exact ⟨r,h1,hk _ h2⟩)
  |((repeat (refine ⟨h.1,?_⟩;replace h:=h.2));split at h<;>first|exact hk _ h|((repeat (refine ⟨h.1,?_⟩;replace h:=h.2));exact hk _ h)|exact h.elim)
  |((repeat (refine ⟨h.1,?_⟩;replace h:=h.2));(repeat' (split at h))<;>first|exact h.elim|((repeat (refine ⟨h.1,?_⟩;replace h:=h.2));exact hk _ h)|((repeat (refine ⟨h.1,?_⟩;replace h:=h.2));obtain ⟨r,h1,h2⟩:=h;exact ⟨r,h1,hk _ h2⟩))
  |(have h9:=hk _ h;simp_all;done)
  |((first|rw [if_pos (by assumption)]|rw [if_neg (by assumption)]);((repeat (refine ⟨h.1,?_⟩;replace h:=h.2));exact hk _ h))
  |((first|rw [if_pos (by assumption)]|rw [if_neg (by assumption)]);((repeat (refine ⟨h.1,?_⟩;replace h:=h.2));obtain ⟨r,h1,h2⟩:=h;exact ⟨r,h1,hk _ h2⟩))
  |((repeat (refine ⟨h.1,?_⟩;replace h:=h.2));obtain ⟨r,h1,h2⟩:=h;refine ⟨r,h1,?_⟩;(first|rw [if_pos (by assumption)]|rw [if_neg (by assumption)]);exact hk _ h2))
theorem aKc {P:Program} [aB P] {o:Oper} {s:AS} {K1 K2:AS→Prop} (hk:∀s',K1 s'→K2 s') (h:yZ P o s K1):yZ P o s K2:=by
 obtain ⟨dst,op,ty,pos,after,gd⟩:=o
 unfold yZ at h⊢
 dsimp only at h⊢
 split at h
 ·split at h
  ·obtain ⟨h1,h2,h3,h4,x',r,h5,h6,h7,h8⟩:=h
   exact ⟨h1,h2,h3,h4,x',r,h5,h6,h7,hk _ h8⟩
  ·exact h.elim
 ·split at h
  ·split at h
   ·obtain ⟨h1,h2,h3,h4,h5⟩:=h
    exact ⟨h1,h2,h3,h4,hk _ h5⟩
   ·exact h.elim
  ·exact h.elim
 ·exact h.elim
theorem aMw {P:Program} [aB P] {o:Oper} {s:AS} {K1 K2:AS→Prop} (hk:∀s',K1 s'→K2 s') (h:xD P o s K1):xD P o s K2:=by
 obtain ⟨dst,op,ty,pos,after,gd⟩:=o
 unfold xD at h⊢
 dsimp only at h⊢
 split at h
 ·split at h
  ·obtain ⟨h1,gs,r,h2,h3,h4,h5⟩:=h
   exact ⟨h1,gs,r,h2,h3,h4,hk _ h5⟩
  ·exact h.elim
 ·exact h.elim
theorem aFq {P:Program} [aB P] {o:Oper} {s:AS} {K1 K2:AS→Prop} (hk:∀s',K1 s'→K2 s') (h:oK P o s K1):oK P o s K2:=by
 obtain ⟨s1,hw,h⟩:=h
 exact ⟨s1,hw,h.imp (aCw hk) (Or.imp (aKc hk) (aMw hk))⟩
theorem aMr {P:Program} [aB P] {o:Oper} {s:AS} {K1 K2:AS→Prop} (hk:∀s',K1 s'→K2 s') (h:uX P o s K1):uX P o s K2:=by
 obtain ⟨dst,op,ty,pos,after,gd⟩:=o
 unfold uX at h⊢
 dsimp only at h⊢
 split at h
 ·split at h
  ·obtain ⟨hc,⟨x,zs,k,ver,code,i,h',Q,h0,h1,h2,h3,h4,h5,h6⟩|⟨x,code,h0,h1,h2,h3⟩|⟨Q,h1,h2⟩⟩:=h
   ·exact ⟨hc,.inl ⟨x,zs,k,ver,code,i,h',Q,h0,h1,h2,h3,h4,h5,fun r i' h' hq hi=>hk _ (h6 r i' h' hq hi)⟩⟩
   ·exact ⟨hc,.inr (.inl ⟨x,code,h0,h1,h2,fun i h hi=>hk _ (h3 i h hi)⟩)⟩
   ·exact ⟨hc,.inr (.inr ⟨Q,h1,fun r hq=>hk _ (h2 r hq)⟩)⟩
  ·exact h.elim
 ·exact h.elim
theorem aC7 {P:Program} [aB P] {o:Oper} {s:AS} {K1 K2:AS→Prop} (hk:∀s',K1 s'→K2 s') (h:pV P o s K1):pV P o s K2:=by
 obtain ⟨s1,hw,h⟩:=h
 exact ⟨s1,hw,aMr hk h⟩
end Go.Aw

namespace Go.Aw
abbrev Str:=List UInt8
def aZ {α:Type} (f:α→Nat):List α→Nat
 |[]=>0
 |x::xs=>f x+aZ f xs
def szL {α:Type} (f:α→Nat) (l:List α):Nat:=l.length+aZ f l
def sub (n:Int) (k:Nat):Int:=if n < k then -1 else n - k
theorem vC {α:Type} (f:α→Nat):∀(l:List α) (k:Nat) (h:k < l.length),aZ f (l.take (k+1))=aZ f (l.take k)+f l[k]
 |x::xs,0,_=>by simp [aZ]
 |x::xs,k+1,h=>by
  simp only [List.take_succ_cons,aZ,List.getElem_cons_succ]
  rw [vC f xs k (by simpa using h)];omega
theorem sD {α:Type} (f:α→Nat):∀(l:List α) (k:Nat),aZ f (l.take k)≤aZ f l
 |[],k=>by simp
 |x::xs,0=>by simp [aZ]
 |x::xs,k+1=>by simp only [List.take_succ_cons,aZ];have:=sD f xs k;omega
def aNn (z:List AV) (xs:List (List AV)) (k:Nat):List (List AV):=xs.take k++List.replicate (xs.length - k) z
@[simp] theorem aQx (z:List AV) (xs:List (List AV)) (k:Nat):(aNn z xs k).length=xs.length:=by simp [aNn];omega
@[simp] theorem bO {α:Type} (f:α→List AV) (h:∀x,oH (f x)=true):∀l:List α,cB (l.map f)=true
 |[]=>rfl
 |x::xs=>by simp only [List.map_cons,cB,h x,Bool.true_and];exact bO f h xs
theorem aG {α:Type} {f g:α→List AV} {t:Tg→Option Tg} {b:Bool} (h:∀x,rtc t b (f x)=g x):∀l:List α,rtr t b (l.map f)=l.map g
 |[]=>rfl
 |x::xs=>by simp only [List.map_cons,rtr,h x,aG h xs]
theorem fK {α:Type} (f:α→Nat) (l:List α) (k:Nat) (h:k < l.length):f l[k]≤aZ f l:=by
 have h1:=vC f l k h
 have h2:=sD f l (k+1)
 omega
theorem uJ {α:Type} (f:α→Nat) {l:List α} {x:α} (h:x∈l):f x≤aZ f l:=by
 obtain ⟨k,hk,rfl⟩:=List.getElem_of_mem h
 exact fK f l k hk
end Go.Aw

namespace Go.Aw
@[simp] def sW (n:Int):List AV:=[.int .i64 n]
@[simp] def aSi (n:Bool):List AV:=[.bool n]
@[simp] def bS (s:Str):List AV:=[.str s]
def bZ (s:Str):Nat:=s.length
@[simp] theorem aR7 (t:Tg→Option Tg) (b:Bool) (l:List Int):rtr t b (l.map sW)=l.map sW:=aG (by intro x;rfl) l
@[simp] theorem aR2 (t:Tg→Option Tg) (b:Bool) (l:List Str):rtr t b (l.map bS)=l.map bS:=aG (by intro x;rfl) l
@[simp] theorem aRl (l:List Int):cB (l.map sW)=true:=bO _ (by intro x;rfl) l
@[simp] theorem aRe (l:List Str):cB (l.map bS)=true:=bO _ (by intro x;rfl) l
structure aP where
  host : Str
  path : Str
deriving DecidableEq
@[simp] def aO (x:aP):List AV:=[.str x.host,.str x.path]
def bG (x:aP):Nat:=x.host.length+x.path.length
@[simp] theorem aRr (t:Tg→Option Tg) (b:Bool) (l:List aP):rtr t b (l.map aO)=l.map aO:=aG (by intro x;rfl) l
@[simp] theorem aQ3 (l:List aP):cB (l.map aO)=true:=bO _ (by intro x;rfl) l
structure gT where
  name : Str
  value : Str
deriving DecidableEq
@[simp] def lJ (x:gT):List AV:=[.str x.name,.str x.value]
def qB (x:gT):Nat:=x.name.length+x.value.length
@[simp] theorem aRy (t:Tg→Option Tg) (b:Bool) (l:List gT):rtr t b (l.map lJ)=l.map lJ:=aG (by intro x;rfl) l
@[simp] theorem aQ0 (l:List gT):cB (l.map lJ)=true:=bO _ (by intro x;rfl) l
structure dE where
  kind : Int
  name : Str
  attrs : List gT
  text : Str
deriving DecidableEq
@[simp] def bQ (g:Tg) (x:dE):List AV:=[.int .i64 x.kind,.str x.name,.sl g 2 (x.attrs.map lJ),.str x.text]
def dR (x:dE):Nat:=x.name.length+(szL qB x.attrs)+x.text.length
@[simp] theorem aPu (g:Tg) (b:Bool) (l:List dE):rtr (fun _=>some .view) b (l.map (bQ g))=l.map (bQ .view):=aG (by intro x;simp) l
@[simp] theorem aO8 (i:Nat) (b:Bool) (l:List dE):rtr (dpf i) b (l.map (bQ .own))=l.map (bQ (.dep i)):=aG (by intro x;simp) l
@[simp] theorem aOz (i:Nat) (b:Bool) (l:List dE):rtr (dpf i) b (l.map (bQ .view))=l.map (bQ .view):=aG (by intro x;simp) l
@[simp] theorem aN2 (i j:Nat) (b:Bool) (l:List dE):rtr (dpf i) b (l.map (bQ (.dep j)))=l.map (bQ (.dep j)):=aG (by intro x;simp) l
@[simp] theorem aPa (b:Bool) (l:List dE):rtr vwf b (l.map (bQ .own))=l.map (bQ .view):=aG (by intro x;simp) l
@[simp] theorem aOj (b:Bool) (l:List dE):rtr vwf b (l.map (bQ .view))=l.map (bQ .view):=aG (by intro x;simp) l
@[simp] theorem tC (l:List dE):cB (l.map (bQ .own))=true:=bO _ (by intro x;simp) l
structure gJ where
  rest : Str
deriving DecidableEq
@[simp] def iT (x:gJ):List AV:=[.str x.rest]
def iD (x:gJ):Nat:=x.rest.length
@[simp] theorem aOh (t:Tg→Option Tg) (b:Bool) (l:List gJ):rtr t b (l.map iT)=l.map iT:=aG (by intro x;rfl) l
@[simp] theorem aMj (l:List gJ):cB (l.map iT)=true:=bO _ (by intro x;rfl) l
structure kK where
  name : Str
  text : Str
  parent : Int
  attrs : List gT
deriving DecidableEq
@[simp] def dC (g:Tg) (x:kK):List AV:=[.str x.name,.str x.text,.int .i64 x.parent,.sl g 2 (x.attrs.map lJ)]
def oI (x:kK):Nat:=x.name.length+x.text.length+(szL qB x.attrs)
@[simp] theorem aP9 (g:Tg) (b:Bool) (l:List kK):rtr (fun _=>some .view) b (l.map (dC g))=l.map (dC .view):=aG (by intro x;simp) l
@[simp] theorem aPk (i:Nat) (b:Bool) (l:List kK):rtr (dpf i) b (l.map (dC .own))=l.map (dC (.dep i)):=aG (by intro x;simp) l
@[simp] theorem aPn (i:Nat) (b:Bool) (l:List kK):rtr (dpf i) b (l.map (dC .view))=l.map (dC .view):=aG (by intro x;simp) l
@[simp] theorem aPs (i j:Nat) (b:Bool) (l:List kK):rtr (dpf i) b (l.map (dC (.dep j)))=l.map (dC (.dep j)):=aG (by intro x;simp) l
@[simp] theorem aPg (b:Bool) (l:List kK):rtr vwf b (l.map (dC .own))=l.map (dC .view):=aG (by intro x;simp) l
@[simp] theorem aPm (b:Bool) (l:List kK):rtr vwf b (l.map (dC .view))=l.map (dC .view):=aG (by intro x;simp) l
@[simp] theorem aQy (l:List kK):cB (l.map (dC .own))=true:=bO _ (by intro x;simp) l
structure fB where
  nodes : List kK
  opens : List Int
deriving DecidableEq
@[simp] def cO (g:Tg) (x:fB):List AV:=[.sl g 4 (x.nodes.map (dC g)),.sl g 1 (x.opens.map sW)]
def iX (x:fB):Nat:=(szL oI x.nodes)+x.opens.length
@[simp] theorem aNp (g:Tg) (b:Bool) (l:List fB):rtr (fun _=>some .view) b (l.map (cO g))=l.map (cO .view):=aG (by intro x;simp) l
@[simp] theorem aMs (i:Nat) (b:Bool) (l:List fB):rtr (dpf i) b (l.map (cO .own))=l.map (cO (.dep i)):=aG (by intro x;simp) l
@[simp] theorem aLw (i:Nat) (b:Bool) (l:List fB):rtr (dpf i) b (l.map (cO .view))=l.map (cO .view):=aG (by intro x;simp) l
@[simp] theorem aL2 (i j:Nat) (b:Bool) (l:List fB):rtr (dpf i) b (l.map (cO (.dep j)))=l.map (cO (.dep j)):=aG (by intro x;simp) l
@[simp] theorem aM7 (b:Bool) (l:List fB):rtr vwf b (l.map (cO .own))=l.map (cO .view):=aG (by intro x;simp) l
@[simp] theorem aLz (b:Bool) (l:List fB):rtr vwf b (l.map (cO .view))=l.map (cO .view):=aG (by intro x;simp) l
@[simp] theorem aO4 (l:List fB):cB (l.map (cO .own))=true:=bO _ (by intro x;simp) l
structure aEy where
  name : Str
  color : Int
deriving DecidableEq
@[simp] def aB1 (x:aEy):List AV:=[.str x.name,.int .i64 x.color]
@[simp] theorem aRu (t:Tg→Option Tg) (b:Bool) (l:List aEy):rtr t b (l.map aB1)=l.map aB1:=aG (by intro x;rfl) l
@[simp] theorem aQ7 (l:List aEy):cB (l.map aB1)=true:=bO _ (by intro x;rfl) l
structure nQ where
  rules : List aEy
deriving DecidableEq
@[simp] def kG (g:Tg) (x:nQ):List AV:=[.sl g 2 (x.rules.map aB1)]
@[simp] theorem aPj (g:Tg) (b:Bool) (l:List nQ):rtr (fun _=>some .view) b (l.map (kG g))=l.map (kG .view):=aG (by intro x;simp) l
@[simp] theorem aOb (i:Nat) (b:Bool) (l:List nQ):rtr (dpf i) b (l.map (kG .own))=l.map (kG (.dep i)):=aG (by intro x;simp) l
@[simp] theorem aN7 (i:Nat) (b:Bool) (l:List nQ):rtr (dpf i) b (l.map (kG .view))=l.map (kG .view):=aG (by intro x;simp) l
@[simp] theorem aO9 (i j:Nat) (b:Bool) (l:List nQ):rtr (dpf i) b (l.map (kG (.dep j)))=l.map (kG (.dep j)):=aG (by intro x;simp) l
@[simp] theorem aOa (b:Bool) (l:List nQ):rtr vwf b (l.map (kG .own))=l.map (kG .view):=aG (by intro x;simp) l
@[simp] theorem aOy (b:Bool) (l:List nQ):rtr vwf b (l.map (kG .view))=l.map (kG .view):=aG (by intro x;simp) l
@[simp] theorem aQg (l:List nQ):cB (l.map (kG .own))=true:=bO _ (by intro x;simp) l
structure aJy where
  op : Int
  text : Str
deriving DecidableEq
@[simp] def aJ2 (x:aJy):List AV:=[.int .i64 x.op,.str x.text]
@[simp] theorem aRz (t:Tg→Option Tg) (b:Bool) (l:List aJy):rtr t b (l.map aJ2)=l.map aJ2:=aG (by intro x;rfl) l
@[simp] theorem aQ1 (l:List aJy):cB (l.map aJ2)=true:=bO _ (by intro x;rfl) l
structure bX where
  isSet : Bool
  scripts : List Str
  styles : List Str
  images : List Str
  nonce : Str
deriving DecidableEq
@[simp] def bD (g:Tg) (x:bX):List AV:=[.bool x.isSet,.sl g 1 (x.scripts.map bS),.sl g 1 (x.styles.map bS),.sl g 1 (x.images.map bS),.str x.nonce]
def bE (x:bX):Nat:=(szL bZ x.scripts)+(szL bZ x.styles)+(szL bZ x.images)+x.nonce.length
@[simp] theorem aN9 (g:Tg) (b:Bool) (l:List bX):rtr (fun _=>some .view) b (l.map (bD g))=l.map (bD .view):=aG (by intro x;simp) l
@[simp] theorem aNc (i:Nat) (b:Bool) (l:List bX):rtr (dpf i) b (l.map (bD .own))=l.map (bD (.dep i)):=aG (by intro x;simp) l
@[simp] theorem aNo (i:Nat) (b:Bool) (l:List bX):rtr (dpf i) b (l.map (bD .view))=l.map (bD .view):=aG (by intro x;simp) l
@[simp] theorem aNs (i j:Nat) (b:Bool) (l:List bX):rtr (dpf i) b (l.map (bD (.dep j)))=l.map (bD (.dep j)):=aG (by intro x;simp) l
@[simp] theorem aNz (b:Bool) (l:List bX):rtr vwf b (l.map (bD .own))=l.map (bD .view):=aG (by intro x;simp) l
@[simp] theorem aNt (b:Bool) (l:List bX):rtr vwf b (l.map (bD .view))=l.map (bD .view):=aG (by intro x;simp) l
@[simp] theorem aPh (l:List bX):cB (l.map (bD .own))=true:=bO _ (by intro x;simp) l
structure fE where
  status : Int
  kind : Int
  body : Str
  age : Int
  shares : Bool
  policy : Str
deriving DecidableEq
@[simp] def jK (x:fE):List AV:=[.int .i64 x.status,.int .i64 x.kind,.str x.body,.int .i64 x.age,.bool x.shares,.str x.policy]
def iR (x:fE):Nat:=x.body.length+x.policy.length
@[simp] theorem aPp (t:Tg→Option Tg) (b:Bool) (l:List fE):rtr t b (l.map jK)=l.map jK:=aG (by intro x;rfl) l
@[simp] theorem aNf (l:List fE):cB (l.map jK)=true:=bO _ (by intro x;rfl) l
structure fC where
  kind : Int
  to : aP
  frm : Str
  digest : Str
deriving DecidableEq
@[simp] def dH (x:fC):List AV:=[.int .i64 x.kind,.str x.to.host,.str x.to.path,.str x.frm,.str x.digest]
def fF (x:fC):Nat:=(bG x.to)+x.frm.length+x.digest.length
@[simp] theorem aQm (t:Tg→Option Tg) (b:Bool) (l:List fC):rtr t b (l.map dH)=l.map dH:=aG (by intro x;rfl) l
@[simp] theorem aPb (l:List fC):cB (l.map dH)=true:=bO _ (by intro x;rfl) l
structure aEx where
  path : Str
  response : fE
deriving DecidableEq
@[simp] def aEs (x:aEx):List AV:=[.str x.path,.int .i64 x.response.status,.int .i64 x.response.kind,.str x.response.body,.int .i64 x.response.age,.bool x.response.shares,.str x.response.policy]
@[simp] theorem aRt (t:Tg→Option Tg) (b:Bool) (l:List aEx):rtr t b (l.map aEs)=l.map aEs:=aG (by intro x;rfl) l
@[simp] theorem aQ6 (l:List aEx):cB (l.map aEs)=true:=bO _ (by intro x;rfl) l
structure mD where
  host : Str
  files : List aEx
deriving DecidableEq
@[simp] def iK (g:Tg) (x:mD):List AV:=[.str x.host,.sl g 7 (x.files.map aEs)]
@[simp] theorem aO2 (g:Tg) (b:Bool) (l:List mD):rtr (fun _=>some .view) b (l.map (iK g))=l.map (iK .view):=aG (by intro x;simp) l
@[simp] theorem aN0 (i:Nat) (b:Bool) (l:List mD):rtr (dpf i) b (l.map (iK .own))=l.map (iK (.dep i)):=aG (by intro x;simp) l
@[simp] theorem aNw (i:Nat) (b:Bool) (l:List mD):rtr (dpf i) b (l.map (iK .view))=l.map (iK .view):=aG (by intro x;simp) l
@[simp] theorem aNv (i j:Nat) (b:Bool) (l:List mD):rtr (dpf i) b (l.map (iK (.dep j)))=l.map (iK (.dep j)):=aG (by intro x;simp) l
@[simp] theorem aN1 (b:Bool) (l:List mD):rtr vwf b (l.map (iK .own))=l.map (iK .view):=aG (by intro x;simp) l
@[simp] theorem aNd (b:Bool) (l:List mD):rtr vwf b (l.map (iK .view))=l.map (iK .view):=aG (by intro x;simp) l
@[simp] theorem aPl (l:List mD):cB (l.map (iK .own))=true:=bO _ (by intro x;simp) l
structure aBn where
  top : Str
  to : aP
  response : fE
  til : Int
deriving DecidableEq
@[simp] def yA (x:aBn):List AV:=[.str x.top,.str x.to.host,.str x.to.path,.int .i64 x.response.status,.int .i64 x.response.kind,.str x.response.body,.int .i64 x.response.age,.bool x.response.shares,.str x.response.policy,.int .i64 x.til]
@[simp] theorem aRo (t:Tg→Option Tg) (b:Bool) (l:List aBn):rtr t b (l.map yA)=l.map yA:=aG (by intro x;rfl) l
@[simp] theorem aQc (l:List aBn):cB (l.map yA)=true:=bO _ (by intro x;rfl) l
structure nR where
  entries : List aBn
deriving DecidableEq
@[simp] def jY (g:Tg) (x:nR):List AV:=[.sl g 10 (x.entries.map yA)]
@[simp] theorem aPt (g:Tg) (b:Bool) (l:List nR):rtr (fun _=>some .view) b (l.map (jY g))=l.map (jY .view):=aG (by intro x;simp) l
@[simp] theorem aN5 (i:Nat) (b:Bool) (l:List nR):rtr (dpf i) b (l.map (jY .own))=l.map (jY (.dep i)):=aG (by intro x;simp) l
@[simp] theorem aPe (i:Nat) (b:Bool) (l:List nR):rtr (dpf i) b (l.map (jY .view))=l.map (jY .view):=aG (by intro x;simp) l
@[simp] theorem aN3 (i j:Nat) (b:Bool) (l:List nR):rtr (dpf i) b (l.map (jY (.dep j)))=l.map (jY (.dep j)):=aG (by intro x;simp) l
@[simp] theorem aN6 (b:Bool) (l:List nR):rtr vwf b (l.map (jY .own))=l.map (jY .view):=aG (by intro x;simp) l
@[simp] theorem aOl (b:Bool) (l:List nR):rtr vwf b (l.map (jY .view))=l.map (jY .view):=aG (by intro x;simp) l
@[simp] theorem aQk (l:List nR):cB (l.map (jY .own))=true:=bO _ (by intro x;simp) l
structure aEw where
  top : Str
  to : aP
  guess : Bool
deriving DecidableEq
@[simp] def aEv (x:aEw):List AV:=[.str x.top,.str x.to.host,.str x.to.path,.bool x.guess]
@[simp] theorem aRw (t:Tg→Option Tg) (b:Bool) (l:List aEw):rtr t b (l.map aEv)=l.map aEv:=aG (by intro x;rfl) l
@[simp] theorem aQ5 (l:List aEw):cB (l.map aEv)=true:=bO _ (by intro x;rfl) l
structure xR where
  servers : List mD
  cache : nR
  log : List aEw
  now : Int
deriving DecidableEq
@[simp] def oW (g:Tg) (x:xR):List AV:=[.sl g 2 (x.servers.map (iK g)),.sl g 10 (x.cache.entries.map yA),.sl g 4 (x.log.map aEv),.int .i64 x.now]
@[simp] theorem aQz (g:Tg) (b:Bool) (l:List xR):rtr (fun _=>some .view) b (l.map (oW g))=l.map (oW .view):=aG (by intro x;simp) l
@[simp] theorem aQp (i:Nat) (b:Bool) (l:List xR):rtr (dpf i) b (l.map (oW .own))=l.map (oW (.dep i)):=aG (by intro x;simp) l
@[simp] theorem aQh (i:Nat) (b:Bool) (l:List xR):rtr (dpf i) b (l.map (oW .view))=l.map (oW .view):=aG (by intro x;simp) l
@[simp] theorem aQs (i j:Nat) (b:Bool) (l:List xR):rtr (dpf i) b (l.map (oW (.dep j)))=l.map (oW (.dep j)):=aG (by intro x;simp) l
@[simp] theorem aP1 (b:Bool) (l:List xR):rtr vwf b (l.map (oW .own))=l.map (oW .view):=aG (by intro x;simp) l
@[simp] theorem aQo (b:Bool) (l:List xR):rtr vwf b (l.map (oW .view))=l.map (oW .view):=aG (by intro x;simp) l
@[simp] theorem aRd (l:List xR):cB (l.map (oW .own))=true:=bO _ (by intro x;simp) l
structure iC where
  mode : Int
  to : aP
  digest : Str
  node : Int
  done : Bool
  code : Int
  body : Str
deriving DecidableEq
@[simp] def gG (x:iC):List AV:=[.int .i64 x.mode,.str x.to.host,.str x.to.path,.str x.digest,.int .i64 x.node,.bool x.done,.int .i64 x.code,.str x.body]
def jZ (x:iC):Nat:=(bG x.to)+x.digest.length+x.body.length
@[simp] theorem aRx (t:Tg→Option Tg) (b:Bool) (l:List iC):rtr t b (l.map gG)=l.map gG:=aG (by intro x;rfl) l
@[simp] theorem aQ4 (l:List iC):cB (l.map gG)=true:=bO _ (by intro x;rfl) l
structure bT where
  to : aP
  done : Bool
  code : Int
  body : Str
deriving DecidableEq
@[simp] def bL (x:bT):List AV:=[.str x.to.host,.str x.to.path,.bool x.done,.int .i64 x.code,.str x.body]
def gI (x:bT):Nat:=(bG x.to)+x.body.length
@[simp] theorem aQ2 (t:Tg→Option Tg) (b:Bool) (l:List bT):rtr t b (l.map bL)=l.map bL:=aG (by intro x;rfl) l
@[simp] theorem aEf (l:List bT):cB (l.map bL)=true:=bO _ (by intro x;rfl) l
structure aS where
  addr : aP
  policy : bX
  tok : gJ
  queue : List dE
  ended : Bool
  builder : fB
  slots : List iC
  mods : List bT
  entries : List aP
  block : Int
  inline : Int
  deferred : Int
  entered : Int
  ran : List aP
  log : List Str
  loaded : Bool
deriving DecidableEq
@[simp] def aR (g:Tg) (x:aS):List AV:=[.str x.addr.host,.str x.addr.path,.bool x.policy.isSet,.sl g 1 (x.policy.scripts.map bS),.sl g 1 (x.policy.styles.map bS),.sl g 1 (x.policy.images.map bS),.str x.policy.nonce,.str x.tok.rest,.sl g 4 (x.queue.map (bQ g)),.bool x.ended,.sl g 4 (x.builder.nodes.map (dC g)),.sl g 1 (x.builder.opens.map sW),.sl g 8 (x.slots.map gG),.sl g 5 (x.mods.map bL),.sl g 2 (x.entries.map aO),.int .i64 x.block,.int .i64 x.inline,.int .i64 x.deferred,.int .i64 x.entered,.sl g 2 (x.ran.map aO),.sl g 1 (x.log.map bS),.bool x.loaded]
def aJ (x:aS):Nat:=(bG x.addr)+(bE x.policy)+(iD x.tok)+(szL dR x.queue)+(iX x.builder)+(szL jZ x.slots)+(szL gI x.mods)+(szL bG x.entries)+(szL bG x.ran)+(szL bZ x.log)
@[simp] theorem aQl (g:Tg) (b:Bool) (l:List aS):rtr (fun _=>some .view) b (l.map (aR g))=l.map (aR .view):=aG (by intro x;simp) l
@[simp] theorem aPo (i:Nat) (b:Bool) (l:List aS):rtr (dpf i) b (l.map (aR .own))=l.map (aR (.dep i)):=aG (by intro x;simp) l
@[simp] theorem aPv (i:Nat) (b:Bool) (l:List aS):rtr (dpf i) b (l.map (aR .view))=l.map (aR .view):=aG (by intro x;simp) l
@[simp] theorem aPx (i j:Nat) (b:Bool) (l:List aS):rtr (dpf i) b (l.map (aR (.dep j)))=l.map (aR (.dep j)):=aG (by intro x;simp) l
@[simp] theorem aPi (b:Bool) (l:List aS):rtr vwf b (l.map (aR .own))=l.map (aR .view):=aG (by intro x;simp) l
@[simp] theorem aPq (b:Bool) (l:List aS):rtr vwf b (l.map (aR .view))=l.map (aR .view):=aG (by intro x;simp) l
@[simp] theorem aQ8 (l:List aS):cB (l.map (aR .own))=true:=bO _ (by intro x;simp) l
structure nO where
  builder : fB
  log : List Str
  verdicts : List Str
  sheet : nQ
  loaded : Bool
deriving DecidableEq
@[simp] def iZ (g:Tg) (x:nO):List AV:=[.sl g 4 (x.builder.nodes.map (dC g)),.sl g 1 (x.builder.opens.map sW),.sl g 1 (x.log.map bS),.sl g 1 (x.verdicts.map bS),.sl g 2 (x.sheet.rules.map aB1),.bool x.loaded]
@[simp] theorem aOw (g:Tg) (b:Bool) (l:List nO):rtr (fun _=>some .view) b (l.map (iZ g))=l.map (iZ .view):=aG (by intro x;simp) l
@[simp] theorem aNq (i:Nat) (b:Bool) (l:List nO):rtr (dpf i) b (l.map (iZ .own))=l.map (iZ (.dep i)):=aG (by intro x;simp) l
@[simp] theorem aNg (i:Nat) (b:Bool) (l:List nO):rtr (dpf i) b (l.map (iZ .view))=l.map (iZ .view):=aG (by intro x;simp) l
@[simp] theorem aNr (i j:Nat) (b:Bool) (l:List nO):rtr (dpf i) b (l.map (iZ (.dep j)))=l.map (iZ (.dep j)):=aG (by intro x;simp) l
@[simp] theorem aNh (b:Bool) (l:List nO):rtr vwf b (l.map (iZ .own))=l.map (iZ .view):=aG (by intro x;simp) l
@[simp] theorem aNm (b:Bool) (l:List nO):rtr vwf b (l.map (iZ .view))=l.map (iZ .view):=aG (by intro x;simp) l
@[simp] theorem aPw (l:List nO):cB (l.map (iZ .own))=true:=bO _ (by intro x;simp) l
structure aGv where
  to : aP
  response : fE
  used : Bool
deriving DecidableEq
@[simp] def aFt (x:aGv):List AV:=[.str x.to.host,.str x.to.path,.int .i64 x.response.status,.int .i64 x.response.kind,.str x.response.body,.int .i64 x.response.age,.bool x.response.shares,.str x.response.policy,.bool x.used]
@[simp] theorem aRg (t:Tg→Option Tg) (b:Bool) (l:List aGv):rtr t b (l.map aFt)=l.map aFt:=aG (by intro x;rfl) l
@[simp] theorem aP6 (l:List aGv):cB (l.map aFt)=true:=bO _ (by intro x;rfl) l
end Go.Aw

namespace Go.Aw
mutual
def closed (m : Nat) : AV → Bool
  | .obj i _ => decide (i < m)
  | .ptr i _ _ _ => decide (i < m)
  | .sl (.dep i) _ _ => decide (i < m)
  | .vptr (.dep i) _ _ => decide (i < m)
  | .agg c => kC m c
  | .tup c => kC m c
  | .fn _ c => kC m c
  | _ => true
def kC (m : Nat) : List AV → Bool
  | [] => true
  | x :: xs => closed m x && kC m xs
end
theorem kH {o:List aA} {G:List CO} {m i:Nat} {ob:aA} {g:CO}:look (o.take m) (G.take m) i ob g↔i < m∧look o G i ob g:=by
 unfold look
 rw [List.getElem?_take,List.getElem?_take]
 by_cases h:i < m<;>simp [h]
theorem lQ {P:Program} [aB P] {B:Base P} {o:List aA} {G:List CO} {w:World} (m:Nat):(∀b,(env B o G w).A b→(env B (o.take m) (G.take m) w).A b)∧
  (∀i,i < m→((env B (o.take m) (G.take m) w).V i↔(env B o G w).V i))∧(∀i b,i < m→(env B o G w).D i b→(env B (o.take m) (G.take m) w).D i b):=by
 refine ⟨fun b h=>⟨h.1,fun i ob g hl=>h.2 i ob g (kH.1 hl).2⟩,fun i hi=> ?_,fun i b hi h=> ?_⟩
 ·simp only [env,List.getElem?_take,hi,if_true]
 ·obtain ⟨ob,g,hl,h⟩:=h
  exact ⟨ob,g,kH.2 ⟨hi,hl⟩,h⟩
theorem vL {P:Program} [aB P] {B:Base P} {o:List aA} {G:List CO} {w:World} {m i:Nat} (hi:i < m):aT w ((env B o G w).sub (.dep i)) w ((env B (o.take m) (G.take m) w).sub (.dep i)):=by
 have h:=lQ (B:=B) (o:=o) (G:=G) (w:=w) m
 exact ⟨fun b hb=>⟨h.1 b hb,rfl⟩,fun _ _=>trivial,fun j b _ hd=>⟨⟨hd.1,h.2.2 i b hi hd.2⟩,rfl⟩,fun _ _ _ h=>h.elim,fun _ _ _ _ _ h=>h.elim⟩
theorem kM {P:Program} [aB P] {B:Base P} {o:List aA} {G:List CO} {w:World} (m:Nat):aT w (env B o G w).plain w (env B (o.take m) (G.take m) w).plain:=by
 have h:=lQ (B:=B) (o:=o) (G:=G) (w:=w) m
 exact ⟨fun b hb=>⟨h.1 b hb,rfl⟩,fun _ _=>trivial,fun _ _ _ h=>h.elim,fun _ _ _ h=>h.elim,fun _ _ _ _ _ h=>h.elim⟩
mutual
theorem aM9 {P : Program} [aB P] {B : Base P} {o : List aA} {G : List CO} {w : World} {m : Nat} : ∀ (x : AV) (v : Value) (fp : List Nat), closed m x = true → R w (env B o G w) x v fp → R w (env B (o.take m) (G.take m) w) x v fp
  | .int _ _, _, _, _, h => by simpa [R] using h
  | .bool _, _, _, _, h => by simpa [R] using h
  | .str _, _, _, _, h => by simpa [R] using h
  | .sl .own n l, v, fp, _, h => by
    obtain ⟨a, cap, hv, hown⟩ := iF.1 h
    exact iF.2 ⟨a, cap, hv, hown.keeps (kM m) (fun _ _ => rfl)⟩
  | .sl .view n l, v, fp, _, h => by
    simp only [R] at h ⊢
    rcases h with h | ⟨a, cap, hv, hl, h⟩
    · exact h.1.elim
    · refine .inr ⟨a, cap, hv, hl, ?_⟩
      rcases h with h | h | ⟨hg, hf, h⟩
      · exact absurd h.1 (by simp)
      · exact absurd h.1 (by simp)
      · refine .inr (.inr ⟨hg, hf, ?_⟩)
        rcases h with h | ⟨b, off, ha, ht, hr⟩
        · exact .inl h
        · exact .inr ⟨b, off, ha, (lQ m).1 b ht, fT (kM m) _ _ _ _ _ rfl (by simp) hr⟩
  | .sl (.dep i) n l, v, fp, hc, h => by
    have hi : i < m := by simpa [closed] using hc
    simp only [R] at h ⊢
    rcases h with h | ⟨a, cap, hv, hl, h⟩
    · exact .inl ⟨fun hV => h.1 (((lQ m).2.1 i hi).1 hV), h.2⟩
    · refine .inr ⟨a, cap, hv, hl, ?_⟩
      rcases h with h | h | ⟨hg, hf, h⟩
      · exact absurd h.1 (by simp)
      · exact absurd h.1 (by simp)
      · refine .inr (.inr ⟨hg, hf, ?_⟩)
        rcases h with h | ⟨b, off, ha, ht, hr⟩
        · exact .inl h
        · exact .inr ⟨b, off, ha, (lQ m).2.2 i b hi ht, fT (vL hi) _ _ _ _ _ rfl (by simp) hr⟩
  | .vptr .own c off, v, fp, _, h => by
    simp only [R] at h ⊢
    rcases h with h | ⟨_, _, _, _, _, ht, _⟩
    · exact h.1.elim
    · exact ht.elim
  | .vptr .view c off, v, fp, _, h => by
    simp only [R] at h ⊢
    rcases h with h | ⟨hf, b, o', cs, hv, ht, hcs, hone, hr⟩
    · exact h.1.elim
    · exact .inr ⟨hf, b, o', cs, hv, (lQ m).1 b ht, hcs, hone, bK (kM m) _ _ _ (by simp) hr⟩
  | .vptr (.dep i) c off, v, fp, hc, h => by
    have hi : i < m := by simpa [closed] using hc
    simp only [R] at h ⊢
    rcases h with h | ⟨hf, b, o', cs, hv, ht, hcs, hone, hr⟩
    · exact .inl ⟨fun hV => h.1 (((lQ m).2.1 i hi).1 hV), h.2⟩
    · exact .inr ⟨hf, b, o', cs, hv, (lQ m).2.2 i b hi ht, hcs, hone, bK (vL hi) _ _ _ (by simp) hr⟩
  | .obj i ver, v, fp, hc, h => by
    have hi : i < m := by simpa [closed] using hc
    simp only [R] at h ⊢
    obtain ⟨hf, ob, g, hl, h⟩ := h
    exact ⟨hf, ob, g, kH.2 ⟨hi, hl⟩, h⟩
  | .ptr i ver idx off, v, fp, hc, h => by
    have hi : i < m := by simpa [closed] using hc
    simp only [R] at h ⊢
    obtain ⟨hf, ob, g, hl, h⟩ := h
    exact ⟨hf, ob, g, kH.2 ⟨hi, hl⟩, h⟩
  | .agg c, v, fp, hc, h => by
    simp only [R] at h ⊢
    obtain ⟨cs, h1, h2, h3⟩ := h
    exact ⟨cs, h1, h2, nK c cs fp (by simpa [closed] using hc) h3⟩
  | .tup c, v, fp, hc, h => by
    simp only [R] at h ⊢
    obtain ⟨cs, h1, h3⟩ := h
    exact ⟨cs, h1, nK c cs fp (by simpa [closed] using hc) h3⟩
  | .fn f c, v, fp, hc, h => by
    simp only [R] at h ⊢
    obtain ⟨h0, cs, h1, h3⟩ := h
    exact ⟨h0, cs, h1, nK c cs [] (by simpa [closed] using hc) h3⟩
  | .undef, _, _, _, h => by simpa [R] using h
theorem nK {P : Program} [aB P] {B : Base P} {o : List aA} {G : List CO} {w : World} {m : Nat} : ∀ (c : List AV) (cs : List Value) (fp : List Nat), kC m c = true → Rc w (env B o G w) c cs fp → Rc w (env B (o.take m) (G.take m) w) c cs fp
  | [], [], _, _, h => by simpa [Rc] using h
  | [], _ :: _, _, _, h => by simp [Rc] at h
  | _ :: _, [], _, _, h => by simp [Rc] at h
  | x :: xs, c :: cs, fp, hc, h => by
    simp only [Rc] at h ⊢
    simp only [kC, Bool.and_eq_true] at hc
    obtain ⟨f1, f2, h1, h2, h3⟩ := h
    exact ⟨f1, f2, aM9 x c f1 hc.1 h1, nK xs cs f2 hc.2 h2, h3⟩
end
def rU (m:Nat):List aA→Bool
 |[]=>true
 |ob::r=>(!ob.box || match ob.els with
  |[e]=>kC m e
  |_=>false)&&rU m r
theorem zN {m:Nat}:∀{o:List aA},rU m o=true→∀ob∈o,ob.box=true→∃e,ob.els=[e]∧kC m e=true
 |ob::r,h,x,hx,hb=>by
  simp only [rU,Bool.and_eq_true] at h
  rcases List.mem_cons.1 hx with rfl|hx
  ·have h1:=h.1
   rw [hb] at h1
   simp only [Bool.not_true,Bool.false_or] at h1
   split at h1
   ·rename_i e he;exact ⟨e,he,h1⟩
   ·cases h1
  ·exact zN h.2 x hx hb
theorem aW {t t':List AV} {o o':List aA} (m:Nat) (ho:o.take m=o') (h:wk t t') (hc:kC m t'=true) (hb:rU m o'=true):eH ⟨t,o⟩ ⟨t',o'⟩:=by
 subst ho
 rintro P _ B a w ⟨G,r⟩
 refine ⟨G.take m,?_⟩
 exact
  {len:=by simp [r.len]
   defs:=r.defs
   ok:=fun i ob g hl hlive=>by
    have hl':=(kH.1 hl).2
    obtain ⟨fp,hown,hnd,hF⟩:=r.ok i ob g hl' hlive
    refine ⟨fp,?_,hnd,hF⟩
    cases hbx:ob.box with
    |false=>
     rw [hbx] at hown
     exact hown.keeps (kM m) (fun _ _=>rfl)
    |true=>
     rw [hbx] at hown
     obtain ⟨e,he,hce⟩:=zN hb ob (List.mem_of_getElem? hl.1) hbx
     rw [he] at hown⊢
     obtain ⟨hlen,hown⟩:=hown
     refine ⟨hlen,?_⟩
     rcases hown with h|⟨b,off,C,ety,fz,fps,ha,hbk,hz,h1,h2,h3,rfl,hr⟩
     ·exact .inl h
     ·refine .inr ⟨b,off,C,ety,fz,fps,ha,hbk,hz,h1,h2,h3,rfl,?_⟩
      simp only [Rr] at hr⊢
      obtain ⟨cs,f1,f2,k1,k2,k3,k4,k5,k6⟩:=hr
      exact ⟨cs,f1,f2,k1,k2,k3,nK e cs f1 hce k4,k5,k6⟩
   apart:=fun i j oi oj gi gj b hi hj h1 h2 h3 h4=>r.apart i j _ _ _ _ b (kH.1 hi).2 (kH.1 hj).2 h1 h2 h3 h4
   fresh:=fun i ob g b hl h1 h2=>r.fresh i ob g b (kH.1 hl).2 h1 h2
   tmps:=nK _ _ _ hc (yS h r.tmps)
   size:=r.size
   frame:=r.frame
   base:=r.base
   same:=r.same}
theorem aY {t t':List AV} {o o':List aA} (ho:o=o') (h:wk t t'):eH ⟨t,o⟩ ⟨t',o'⟩:=ho▸aK4 h
attribute [simp] closed kC rU
end Go.Aw

namespace Go.Aw
def upd (J:Nat→Bool) (i:Nat):Nat→Bool:=fun j=>if j=i then true else J j
def dv (J:Nat→Bool) (i:Nat) (v:AV):AV:=if J i=true then v else .undef
@[simp] theorem aSh (J:Nat→Bool) (i:Nat) (v:AV):dv (upd J i) i v=v:=by simp [dv,upd]
def fwd:Nat→List Oper→Bool
 |_,[]=>true
 |i,o::r=>(o.after.toList.all fun e=> !Region.binds .any e || decide (e.on < i))&&fwd (i+1) r
def left (l:List Bool):Nat:=(l.filter fun b=> !b).length
theorem qJ (b:Bool) (l:List Bool):left (b::l)=(if b=true then 0 else 1)+left l:=by
 cases b<;>simp [left]<;>omega
theorem wF:∀{l:List Bool} {i:Nat},l[i]? =some false→left (l.set i true)+1=left l
 |[],_,h=>by simp at h
 |b::l,0,h=>by simp at h;subst h;simp [qJ];omega
 |b::l,i+1,h=>by
  have:=wF (l:=l) (i:=i) (by simpa using h)
  rw [List.set_cons_succ,qJ,qJ]
  omega
theorem xY {l:List Bool} (h:left l=0):∀{i:Nat} {b:Bool},l[i]? =some b→b=true:=by
 intro i b hb
 have hm:=List.mem_of_getElem? hb
 cases b with
 |true=>rfl
 |false=>
  have:false∈l.filter (fun b=> !b):=List.mem_filter.2 ⟨hm,rfl⟩
  rw [List.eq_nil_of_length_eq_zero h] at this
  simp at this
theorem aAz {l:List Bool} (h:left l≠0):∃i:Nat,l[i]? =some false∧∀j:Nat,j < i→l[j]? =some true:=by
 induction l with
 |nil=>simp [left] at h
 |cons b l ih=>
  cases b with
  |false=>exact ⟨0,rfl,fun j hj=>by omega⟩
  |true=>
   have:left l≠0:=by rw [qJ] at h;simpa using h
   obtain ⟨i,h1,h2⟩:=ih this
   refine ⟨i+1,by simpa using h1,fun j hj=> ?_⟩
   cases j with
   |zero=>rfl
   |succ j=>simpa using h2 j (by omega)
end Go.Aw

namespace Go.Aw
mutual
def pR (m : Nat) : AV → Bool
  | .int _ _ => true
  | .bool _ => true
  | .str _ => true
  | .obj i ver => decide (i < m) && ver == 0
  | .agg c => yJ m c
  | .tup c => yJ m c
  | _ => false
def yJ (m : Nat) : List AV → Bool
  | [] => true
  | x :: xs => pR m x && yJ m xs
end
mutual
theorem aOe {w1 w2 : World} {E1 E2 : Env} {m : Nat} {hv : Nat → Option Value} (h1 : ∀ i v, i < m → E1.H i 0 v → hv i = some v) (h2 : ∀ i v, i < m → E2.H i 0 v → hv i = some v) :
    ∀ (x : AV) (v1 v2 : Value), pR m x = true → R w1 E1 x v1 [] → R w2 E2 x v2 [] → v1 = v2
  | .int _ _, _, _, _, a, b => by simp only [R] at a b; rw [a.1, b.1]
  | .bool _, _, _, _, a, b => by simp only [R] at a b; rw [a.1, b.1]
  | .str _, _, _, _, a, b => by simp only [R] at a b; rw [a.1, b.1]
  | .obj i ver, v1, v2, hr, a, b => by
    simp only [pR, Bool.and_eq_true, decide_eq_true_eq, beq_iff_eq] at hr
    obtain ⟨hi, rfl⟩ := hr
    simp only [R] at a b
    have e1 := h1 i v1 hi a.2
    have e2 := h2 i v2 hi b.2
    rw [e1] at e2
    exact Option.some.inj e2
  | .agg c, _, _, hr, a, b => by
    simp only [R] at a b
    obtain ⟨c1, rfl, _, a⟩ := a
    obtain ⟨c2, rfl, _, b⟩ := b
    rw [aAk h1 h2 c c1 c2 (by simpa [pR] using hr) a b]
  | .tup c, _, _, hr, a, b => by
    simp only [R] at a b
    obtain ⟨c1, rfl, a⟩ := a
    obtain ⟨c2, rfl, b⟩ := b
    rw [aAk h1 h2 c c1 c2 (by simpa [pR] using hr) a b]
  | .sl _ _ _, _, _, hr, _, _ => by simp [pR] at hr
  | .vptr _ _ _, _, _, hr, _, _ => by simp [pR] at hr
  | .ptr _ _ _ _, _, _, hr, _, _ => by simp [pR] at hr
  | .fn _ _, _, _, hr, _, _ => by simp [pR] at hr
  | .undef, _, _, hr, _, _ => by simp [pR] at hr
theorem aAk {w1 w2 : World} {E1 E2 : Env} {m : Nat} {hv : Nat → Option Value} (h1 : ∀ i v, i < m → E1.H i 0 v → hv i = some v) (h2 : ∀ i v, i < m → E2.H i 0 v → hv i = some v) :
    ∀ (x : List AV) (v1 v2 : List Value), yJ m x = true → Rc w1 E1 x v1 [] → Rc w2 E2 x v2 [] → v1 = v2
  | [], [], [], _, _, _ => rfl
  | [], _ :: _, _, _, a, _ => by simp [Rc] at a
  | [], [], _ :: _, _, _, b => by simp [Rc] at b
  | _ :: _, [], _, _, a, _ => by simp [Rc] at a
  | _ :: _, _ :: _, [], _, _, b => by simp [Rc] at b
  | x :: xs, c1 :: r1, c2 :: r2, hr, a, b => by
    simp only [Rc] at a b
    simp only [yJ, Bool.and_eq_true] at hr
    obtain ⟨f1, f2, a1, a2, e⟩ := a
    obtain ⟨rfl, rfl⟩ : f1 = [] ∧ f2 = [] := by simpa using e
    obtain ⟨f1, f2, b1, b2, e⟩ := b
    obtain ⟨rfl, rfl⟩ : f1 = [] ∧ f2 = [] := by simpa using e
    rw [aOe h1 h2 x c1 c2 hr.1 a1 b1, aAk h1 h2 xs r1 r2 hr.2 a2 b2]
end
end Go.Aw

namespace Go.Aw
theorem aRi {w:World} {E:Env} {e:List AV} {cs:List Value} {fp:List Nat} {c:Nat} {x:AV} (h:Rc w E e cs fp) (hx:e[c]? =some x):
  ∃a1 a2 a3 v,fp=a1++a2++a3∧cs[c]? =some v∧Rc w E (e.take c) (cs.take c) a1∧R w E x v a2∧Rc w E (e.drop (c+1)) (cs.drop (c+1)) a3:=by
 obtain ⟨a1,r1,rfl,h1,h2⟩:=iO c h
 have hlt:=(List.getElem?_eq_some_iff.1 hx).1
 have hl:=bV h
 have hd:e.drop c=x::e.drop (c+1):=by
  rw [List.drop_eq_getElem_cons hlt,(List.getElem?_eq_some_iff.1 hx).2]
 have hcs:cs.drop c=cs[c]'(by omega)::cs.drop (c+1):=List.drop_eq_getElem_cons (by omega)
 rw [hd,hcs] at h2
 simp only [Rc] at h2
 obtain ⟨a2,a3,h3,h4,rfl⟩:=h2
 exact ⟨a1,a2,a3,_,by simp,List.getElem?_eq_getElem (by omega),h1,h3,h4⟩
theorem aQv {w:World} {E:Env} {e:List AV} {cs:List Value} {a1 a2 a3:List Nat} {c:Nat} {x:AV} {v:Value} (hc:c < e.length) (hv:cs[c]? =some v) (h1:Rc w E (e.take c) (cs.take c) a1) (h2:R w E x v a2) (h3:Rc w E (e.drop (c+1)) (cs.drop (c+1)) a3):
  Rc w E (e.set c x) cs (a1++a2++a3):=by
 have e1:e.set c x=e.take c++x::e.drop (c+1):=by rw [List.set_eq_take_append_cons_drop];simp [hc]
 obtain ⟨hlt,rfl⟩:=List.getElem?_eq_some_iff.1 hv
 have e2:cs=cs.take c++cs[c]::cs.drop (c+1):=by simp
 rw [e1]
 conv=>arg 4;rw [e2]
 have:=dM h1 (show Rc w E (x::e.drop (c+1)) (cs[c]::cs.drop (c+1)) (a2++a3) by simp only [Rc];exact ⟨a2,a3,h2,h3,rfl⟩)
 simpa using this
end Go.Aw

namespace Go.Aw
end Go.Aw

namespace Go.Aw
mutual
def nodep (i : Nat) : AV → Bool
  | .sl (.dep j) _ _ => decide (j ≠ i)
  | .vptr (.dep j) _ _ => decide (j ≠ i)
  | .agg c => lW i c
  | .tup c => lW i c
  | .fn _ c => lW i c
  | _ => true
def lW (i : Nat) : List AV → Bool
  | [] => true
  | x :: xs => nodep i x && lW i xs
end
def Env.no (E:Env) (i:Nat):Env:={E with D:=fun j x=>j∉[i]∧E.D j x}
theorem aFb {w:World} {E:Env} {i j:Nat} (h:j≠i):aT w (E.sub (.dep j)) w ((E.no i).sub (.dep j)):=
 ⟨fun b h=>⟨h,rfl⟩,fun _ _=>trivial,fun k b _ hd=>⟨⟨hd.1,by simpa using h,hd.2⟩,rfl⟩,fun _ _ _ h=>h.elim,fun _ _ _ _ _ h=>h.elim⟩
mutual
theorem aO5 {w : World} {E : Env} {i : Nat} : ∀ (x : AV) (v : Value) (fp : List Nat), nodep i x = true → R w E x v fp → R w (E.no i) x v fp
  | .int _ _, _, _, _, h => by simpa [R] using h
  | .bool _, _, _, _, h => by simpa [R] using h
  | .str _, _, _, _, h => by simpa [R] using h
  | .sl .own n l, v, fp, _, h => iF.2 (iF.1 h)
  | .sl .view n l, v, fp, _, h => by
    simp only [R] at h ⊢
    rcases h with h | ⟨a, cap, hv, hl, h⟩
    · exact h.1.elim
    · refine .inr ⟨a, cap, hv, hl, ?_⟩
      rcases h with h | h | ⟨hg, hf, h⟩
      · exact absurd h.1 (by simp)
      · exact absurd h.1 (by simp)
      · exact .inr (.inr ⟨hg, hf, h⟩)
  | .sl (.dep j) n l, v, fp, hc, h => by
    have hi : j ≠ i := by simpa [nodep] using hc
    simp only [R] at h ⊢
    rcases h with h | ⟨a, cap, hv, hl, h⟩
    · exact .inl h
    · refine .inr ⟨a, cap, hv, hl, ?_⟩
      rcases h with h | h | ⟨hg, hf, h⟩
      · exact absurd h.1 (by simp)
      · exact absurd h.1 (by simp)
      · refine .inr (.inr ⟨hg, hf, ?_⟩)
        rcases h with h | ⟨b, off, ha, ht, hr⟩
        · exact .inl h
        · exact .inr ⟨b, off, ha, ⟨by simpa using hi, ht⟩, fT (aFb hi) _ _ _ _ _ rfl (by simp) hr⟩
  | .vptr .own c off, v, fp, _, h => by
    simp only [R] at h ⊢
    rcases h with h | ⟨_, _, _, _, _, ht, _⟩
    · exact h.1.elim
    · exact ht.elim
  | .vptr .view c off, v, fp, _, h => by
    simp only [R] at h ⊢
    rcases h with h | ⟨hf, b, o', cs, hv, ht, hcs, hone, hr⟩
    · exact h.1.elim
    · exact .inr ⟨hf, b, o', cs, hv, ht, hcs, hone, hr⟩
  | .vptr (.dep j) c off, v, fp, hc, h => by
    have hi : j ≠ i := by simpa [nodep] using hc
    simp only [R] at h ⊢
    rcases h with h | ⟨hf, b, o', cs, hv, ht, hcs, hone, hr⟩
    · exact .inl h
    · exact .inr ⟨hf, b, o', cs, hv, ⟨by simpa using hi, ht⟩, hcs, hone, bK (aFb hi) _ _ _ (by simp) hr⟩
  | .obj _ _, v, fp, _, h => by simp only [R] at h ⊢; exact h
  | .ptr _ _ _ _, v, fp, _, h => by simp only [R] at h ⊢; exact h
  | .agg c, v, fp, hc, h => by
    simp only [R] at h ⊢
    obtain ⟨cs, h1, h2, h3⟩ := h
    exact ⟨cs, h1, h2, sM c cs fp (by simpa [nodep] using hc) h3⟩
  | .tup c, v, fp, hc, h => by
    simp only [R] at h ⊢
    obtain ⟨cs, h1, h3⟩ := h
    exact ⟨cs, h1, sM c cs fp (by simpa [nodep] using hc) h3⟩
  | .fn f c, v, fp, hc, h => by
    simp only [R] at h ⊢
    obtain ⟨h0, cs, h1, h3⟩ := h
    exact ⟨h0, cs, h1, sM c cs [] (by simpa [nodep] using hc) h3⟩
  | .undef, _, _, _, h => by simpa [R] using h
theorem sM {w : World} {E : Env} {i : Nat} : ∀ (c : List AV) (cs : List Value) (fp : List Nat), lW i c = true → Rc w E c cs fp → Rc w (E.no i) c cs fp
  | [], [], _, _, h => by simpa [Rc] using h
  | [], _ :: _, _, _, h => by simp [Rc] at h
  | _ :: _, [], _, _, h => by simp [Rc] at h
  | x :: xs, c :: cs, fp, hc, h => by
    simp only [Rc] at h ⊢
    simp only [lW, Bool.and_eq_true] at hc
    obtain ⟨f1, f2, h1, h2, h3⟩ := h
    exact ⟨f1, f2, aO5 x c f1 hc.1 h1, sM xs cs f2 hc.2 h2, h3⟩
end
theorem aG4 {w:World} {E:Env} {i:Nat}:∀(l:List (List AV)) (b off n:Nat) (fp:List Nat),(l.all fun c=>lW i c)=true→Rr w E l b off n fp→Rr w (E.no i) l b off n fp
 |[],_,_,_,_,_,h=>by simpa [Rr] using h
 |e::es,b,off,n,fp,hc,h=>by
  simp only [Rr] at h⊢
  simp only [List.all_cons,Bool.and_eq_true] at hc
  obtain ⟨cs,f1,f2,h1,h2,h3,h4,h5,h6⟩:=h
  exact ⟨cs,f1,f2,h1,h2,h3,sM e cs f1 hc.1 h4,aG4 es b _ n f2 hc.2 h5,h6⟩
theorem gH.nodep {w:World} {E:Env} {n:Nat} {l:List (List AV)} {a:Option Addr} {cap:Nat} {fp:List Nat} {i:Nat} (hc:(l.all fun c=>lW i c)=true) (h:gH w E n l a cap fp):gH w (E.no i) n l a cap fp:=by
 obtain ⟨h1,h|⟨b,off,C,e,fz,fps,k1,k2,k3,k4,k5,k6,k7,k8⟩⟩:=h
 ·exact ⟨h1,.inl h⟩
 ·exact ⟨h1,.inr ⟨b,off,C,e,fz,fps,k1,k2,k3,k4,k5,k6,k7,aG4 l b off n fps hc k8⟩⟩
theorem rE {t t':List AV} {o o':List aA} (i k c:Nat) {ob:aA} {e:List AV} {m:Nat} {rows:List (List AV)} (ho:o[i]? =some ob) (hl:ob.live=true) (hb:ob.box=true) (hall:(o.all fun x=> !x.box || x.els.all fun c=>lW i c)=true) (he:ob.els[k]? =some e)
  (hc:e[c]? =some (.sl .own m rows)) (ho':o.set i {ob with els:=ob.els.set k (e.set c (.obj o.length 1))}++[⟨true,false,m,1,rows⟩]=o') (hw:wk (rtc (dS [i]) true t) t'):eH ⟨t,o⟩ ⟨t',o'⟩:=by
 subst ho'
 rintro P _ B a w ⟨G,r⟩
 have nb:∀{j x g},look o G j x g→x.box=true→(x.els.all fun c=>lW i c)=true:=fun h hb=>by
  have:=List.all_eq_true.1 hall _ (List.mem_of_getElem? h.1)
  simpa only [hb,Bool.not_true,Bool.false_or] using this
 obtain ⟨g,hlk⟩:=r.look ho
 obtain ⟨fp,hown,hnd,hF⟩:=r.ok i ob g hlk hl
 simp only [hb,Env.of,if_true] at hown
 replace hown:=hown.nodep (nb hlk hb)
 obtain ⟨hlen,⟨h,_⟩|⟨b,off,C,ty,fz,fps,ha,hbk,hz,h1,h2,h3,rfl,hr⟩⟩:=hown
 ·rw [h] at he;simp at he
 have hk:k < ob.els.length:=(List.getElem?_eq_some_iff.1 he).1
 have hcl:c < e.length:=(List.getElem?_eq_some_iff.1 hc).1
 obtain ⟨f1,f2,f3,cs,rfl,hn,hcs,hone,hre,hr1,hr3⟩:=qN hr he
 obtain ⟨a1,a2,a3,v,rfl,hv,k1,k2,k3⟩:=aRi hre hc
 obtain ⟨ad,cap',hvs,hown2⟩:=iF.1 k2
 have hlo:i < o.length:=(List.getElem?_eq_some_iff.1 ho).1
 have hsub2:∀x∈a2,g.F x:=fun x hx=>hF x (by simp [hx])
 generalize hob':({ob with els:=ob.els.set k (e.set c (.obj o.length 1))}:aA)=ob'
 generalize hg':({g with F:=fun x=>g.F x∧x∉a2}:CO)=g'
 generalize hO:o.set i ob'++[⟨true,false,m,1,rows⟩]=o'
 generalize hGG:G.set i g'++[⟨ad,cap',fun x=>x∈a2⟩]=G'
 have hlenG:(G.set i g').length=(o.set i ob').length:=by simp [r.len]
 have back:∀{j x y},look o' G' j x y→(j=i∧x=ob'∧y=g')∨(j=o.length∧x=⟨true,false,m,1,rows⟩∧y=⟨ad,cap',fun x=>x∈a2⟩)∨(j≠i∧look o G j x y):=by
  intro j x y h
  rw [←hO,←hGG] at h
  rcases eU hlenG h with ⟨_,h⟩|⟨hj,h⟩
  ·rcases oP h with ⟨h1,h2,h3⟩|⟨h1,h2⟩
   ·exact .inl ⟨h1,h2,h3⟩
   ·exact .inr (.inr ⟨h1,h2⟩)
  ·right;left
   obtain ⟨h1,h2⟩:=h
   cases hd:j - (o.set i ob').length with
   |zero=>
    rw [hd] at h1 h2
    simp at h1 h2 hj hd
    exact ⟨by omega,h1.symm,h2.symm⟩
   |succ n=>rw [hd] at h1;simp at h1
 have fi:look o' G' i ob' g':=by rw [←hO,←hGG];exact fP (qU hlk)
 have fJ:look o' G' o.length ⟨true,false,m,1,rows⟩ ⟨ad,cap',fun x=>x∈a2⟩:=by
  rw [←hO,←hGG]
  have:=fZ (o:=o.set i ob') (o2:=[⟨true,false,m,1,rows⟩]) (G:=G.set i g') (G2:=[⟨ad,cap',fun x=>x∈a2⟩]) hlenG (i:=0) (x:=⟨true,false,m,1,rows⟩) (y:=⟨ad,cap',fun x=>x∈a2⟩) ⟨rfl,rfl⟩
  simpa using this
 have fo:∀{j x y},j≠i→look o G j x y→look o' G' j x y:=fun hj h=>by rw [←hO,←hGG];exact fP (zW h hj)
 have hobl:ob'.live=true:=by rw [←hob'];exact hl
 have hobn:ob'.n=ob.n:=by rw [←hob']
 have hobv:ob'.ver=ob.ver:=by rw [←hob']
 have hobe:ob'.els.length=ob.els.length:=by rw [←hob'];simp
 have hga:g'.a=g.a:=by rw [←hg']
 have hgc:g'.cap=g.cap:=by rw [←hg']
 have hgF:∀x,g'.F x↔g.F x∧x∉a2:=fun x=>by rw [←hg']
 let Er:Env:=(env B o G w).no i
 have rt1:dX (dS [i]) true (env B o G w) Er (fun _=>True):=by
  refine ⟨fun t e=>by simp [dS] at e,fun t e=>by simp only [dS,Option.some.injEq] at e;exact ⟨e.symm,fun b hb=>hb⟩,fun j t e=> ?_,fun _ _ _ _ h=>h,fun _ _ _ _ _ _ h=>h⟩
  simp only [dS] at e
  split at e
  ·cases e
  ·rename_i hiu
   obtain rfl:=Option.some.inj e
   refine ⟨by simp,?_,fun b hb=>⟨hiu,hb⟩⟩
   by_cases hV:(env B o G w).V j
   ·exact .inl hV
   ·exact .inr hV
 have kA:∀x,(env B o G w).A x→(env B o' G' w).A x:=fun x hx=>⟨hx.1,fun j y z hlj hjl hf=>by
  rcases back hlj with ⟨rfl,rfl,rfl⟩|⟨rfl,rfl,rfl⟩|⟨_,h⟩
  ·exact hx.2 _ _ _ hlk hl ((hgF x).1 hf).1
  ·exact hx.2 _ _ _ hlk hl (hsub2 x hf)
  ·exact hx.2 _ _ _ h hjl hf⟩
 have k2':aT w Er w (env B o' G' w):=by
  refine ⟨fun x hx=>⟨kA x hx,rfl⟩,fun j h x hx=> ?_,fun j x hV h=> ?_,fun j ver x h=> ?_,fun j ver p q x h=> ?_⟩
  ·obtain ⟨y,hy⟩:=r.look hx
   by_cases hj:j=i
   ·subst hj
    rw [ho] at hx
    obtain rfl:=Option.some.inj hx;exact hl
   ·exact h x (fo hj hy).1
  ·obtain ⟨hji,x',y,hlj,hjl,hf,hne⟩:=h
   exact ⟨⟨x',y,fo (by simpa using hji) hlj,hjl,hf,hne⟩,rfl⟩
  ·obtain ⟨x',y,hlj,hver,hh,hz⟩:=h
   by_cases hj:j=i
   ·subst hj
    obtain ⟨rfl,rfl⟩:=fU hlk hlj
    exact ⟨ob',g',fi,by omega,fun _ hve=>by rw [hga,hgc,hobe];exact hh hl (by omega),hz⟩
   ·exact ⟨x',y,fo hj hlj,hver,hh,hz⟩
  ·obtain ⟨x',y,hlj,hver,hh,hz⟩:=h
   by_cases hj:j=i
   ·subst hj
    obtain ⟨rfl,rfl⟩:=fU hlk hlj
    exact ⟨ob',g',fi,by omega,fun _ hve=>by rw [hga,hobn];exact hh hl (by omega),fun _ e2 e3 e4 y hy=>⟨(hz hb e2 e3 e4 y hy).1,fun _ hve=>by rw [hgc];exact (hz hb e2 e3 e4 y hy).2 hl (by omega)⟩⟩
   ·exact ⟨x',y,fo hj hlj,hver,hh,hz⟩
 have kp:aT w (env B o G w).plain w (env B o' G' w).plain:=⟨fun x hx=>⟨kA x hx,rfl⟩,fun _ _=>trivial,fun _ _ _ h=>h.elim,fun _ _ _ h=>h.elim,fun _ _ _ _ _ h=>h.elim⟩
 have kf:aT w (env B o G w).plain w (env B o' G' w):=kp.trans (aHx w _)
 have hnd':=hnd
 simp only [List.nodup_cons] at hnd'
 refine ⟨G',{len:=by rw [←hO,←hGG];simp [r.len],defs:=r.defs,ok:= ?_,apart:= ?_,fresh:= ?_,tmps:=yS hw (bK k2' _ _ _ (by simp) (jV rt1 _ _ _ (by simp) r.tmps)),size:=r.size,frame:=r.frame,base:=r.base,same:=r.same}⟩
 ·intro j x y hlj hjl
  rcases back hlj with ⟨rfl,rfl,rfl⟩|⟨rfl,rfl,rfl⟩|⟨hj,h⟩
  ·refine ⟨b::(f1++(a1++[]++a3)++f3),?_,?_,?_⟩
   ·rw [←hob',←hg']
    simp only [hb,Env.of,if_true]
    refine ⟨by simpa using hlen,.inr ⟨b,off,C,ty,fz,_,ha,hbk,hz,h1,by simpa using h2,h3,rfl,?_⟩⟩
    refine aJb hk hn hcs hone (aQv hcl hv (bK k2' _ _ _ (fun _ _=>rfl) k1) ?_ (bK k2' _ _ _ (fun _ _=>rfl) k3)) (fT k2' _ _ _ _ _ rfl (fun _ _=>rfl) hr1) (fT k2' _ _ _ _ _ rfl (fun _ _=>rfl) hr3)
    simp only [R]
    exact ⟨trivial,_,_,fJ,Nat.le_refl _,fun _ _=>hvs,fun h=>by omega⟩
   ·have hs:(f1++(a1++[]++a3)++f3).Sublist (f1++(a1++a2++a3)++f3):=((List.Sublist.refl f1).append (((List.Sublist.refl a1).append (List.nil_sublist a2)).append (List.Sublist.refl a3))).append (List.Sublist.refl f3)
    exact List.nodup_cons.2 ⟨fun h=>hnd'.1 (hs.subset h),hs.nodup hnd'.2⟩
   ·intro x hx
    rw [hgF]
    have hin:x∈b::(f1++(a1++a2++a3)++f3):=by
     simp only [List.mem_cons,List.mem_append,List.not_mem_nil,or_false] at hx⊢
     grind
    refine ⟨hF x hin,fun hx2=> ?_⟩
    have hd:=hnd'.2
    simp only [List.nodup_append,List.mem_append] at hd
    simp only [List.mem_cons,List.mem_append,List.not_mem_nil,or_false] at hx
    rcases hx with rfl|(hx|hx|hx)|hx
    ·exact hnd'.1 (by simp [hx2])
    ·exact hd.1.2.2 x hx x (.inl (.inr hx2)) rfl
    ·exact hd.1.2.1.1.2.2 x hx x hx2 rfl
    ·exact hd.1.2.1.2.2 x (.inr hx2) x hx rfl
    ·exact hd.2.2 x (.inr (.inl (.inr hx2))) x hx rfl
  ·refine ⟨a2,?_,?_,fun x hx=>hx⟩
   ·simp only [Env.of,Bool.false_eq_true,if_false]
    exact hown2.keeps kp (fun _ _=>rfl)
   ·have hd:=hnd'.2
    simp only [List.nodup_append] at hd
    exact hd.1.2.1.1.2.1
  ·obtain ⟨fq,q1,q2,q3⟩:=r.ok j x y h hjl
   refine ⟨fq,?_,q2,q3⟩
   cases hbj:x.box with
   |false=>
    simp only [hbj,Env.of,Bool.false_eq_true,if_false] at q1⊢
    exact q1.keeps kp (fun _ _=>rfl)
   |true=>
    simp only [hbj,Env.of,if_true] at q1⊢
    exact (q1.nodep (nb h hbj)).keeps k2' (fun _ _=>rfl)
 ·intro j1 j2 x1 x2 y1 y2 z hl1 hl2 v1 v2 hf1 hf2
  rcases back hl1 with ⟨rfl,rfl,rfl⟩|⟨rfl,rfl,rfl⟩|⟨hj1,h1⟩<;>rcases back hl2 with ⟨rfl,rfl,rfl⟩|⟨rfl,rfl,rfl⟩|⟨hj2,h2⟩
  ·rfl
  ·exact absurd hf2 ((hgF z).1 hf1).2
  ·exact absurd (r.apart _ _ _ _ _ _ z hlk h2 hl v2 ((hgF z).1 hf1).1 hf2).symm hj2
  ·exact absurd hf1 ((hgF z).1 hf2).2
  ·rfl
  ·exact absurd (r.apart _ _ _ _ _ _ z hlk h2 hl v2 (hsub2 z hf1) hf2).symm hj2
  ·exact absurd (r.apart _ _ _ _ _ _ z h1 hlk v1 hl hf1 ((hgF z).1 hf2).1) hj1
  ·exact absurd (r.apart _ _ _ _ _ _ z h1 hlk v1 hl hf1 (hsub2 z hf2)) hj1
  ·exact r.apart _ _ _ _ _ _ z h1 h2 v1 v2 hf1 hf2
 ·intro j x y z hlj hjl hf
  rcases back hlj with ⟨rfl,rfl,rfl⟩|⟨rfl,rfl,rfl⟩|⟨_,h⟩
  ·exact r.fresh _ _ _ z hlk hl ((hgF z).1 hf).1
  ·exact r.fresh _ _ _ z hlk hl (hsub2 z hf)
  ·exact r.fresh _ _ _ z h hjl hf
attribute [simp] nodep lW
end Go.Aw

namespace Go.Aw
def quiet:Op→Bool
 | .move _| .assign _| .load _ _| .fieldAddr _ _ _| .indexAddr _ _ _| .index _ _ _| .extract _ _| .unOp _ _ _| .binOp _ _ _ _ _| .convert _ _ _| .pick _ _ _| .alloc _| .box _ _| .build _ _| .nilCheck _=>true
 | .call ⟨.builtin .len,⟨[_]⟩,⟨[_]⟩⟩=>true
 | .call ⟨.value _,_,_⟩=>true
 |_=>false
def iH (op:Op) (s:AS):Bool:=match op with
 | .buildSlice _ _ parts=>(dD ((parts.toList.map (·.2)).map s.ev)).isEmpty
 | .slice _ x _ _ none=>match s.ev x with
  | .str _=>true
  | .sl _ _ _=>true
  |_=>false
 | .call ⟨.builtin .append,⟨[x,y]⟩,_⟩=>(match s.ev x with| .sl .own _ []=>true|_=>false)&&(match s.ev y with| .sl .own _ []=>true| .sl .view _ _=>true| .str _=>true|_=>false)
 |o=>quiet o
mutual
theorem aLx {o o' : List aA} : ∀ x : AV, uses x = [] → res o x = res o' x ∧ bW o x = bW o' x
  | .obj i v, h => by simp [uses] at h
  | .agg c, h => by have := tX (o := o) (o' := o') c (by simpa [uses] using h); simp only [res, bW, this, and_self]
  | .tup c, h => by have := tX (o := o) (o' := o') c (by simpa [uses] using h); simp only [res, bW, this, and_self]
  | .int _ _, _ => ⟨rfl, rfl⟩
  | .bool _, _ => ⟨rfl, rfl⟩
  | .str _, _ => ⟨rfl, rfl⟩
  | .sl .own _ _, _ => ⟨rfl, rfl⟩
  | .sl .view _ _, _ => ⟨rfl, rfl⟩
  | .sl (.dep _) _ _, _ => ⟨rfl, rfl⟩
  | .vptr .own _ _, _ => ⟨rfl, rfl⟩
  | .vptr .view _ _, _ => ⟨rfl, rfl⟩
  | .vptr (.dep _) _ _, _ => ⟨rfl, rfl⟩
  | .ptr _ _ _ _, _ => ⟨rfl, rfl⟩
  | .fn _ [], _ => ⟨rfl, rfl⟩
  | .fn _ (_ :: _), _ => ⟨rfl, rfl⟩
  | .undef, _ => ⟨rfl, rfl⟩
theorem tX {o o' : List aA} : ∀ c : List AV, dD c = [] → eP o c = eP o' c ∧ fM o c = fM o' c
  | [], _ => ⟨rfl, rfl⟩
  | x :: xs, h => by
    simp only [dD, List.append_eq_nil_iff] at h
    have h1 := aLx (o := o) (o' := o') x h.1
    have h2 := tX (o := o) (o' := o') xs h.2
    simp only [eP, fM, h1, h2, and_self]
end
theorem aIs {o:List aA}:∀{c:List AV},(∀x∈eP o c,x.good=true)→∀x∈c,x≠ .undef
 |[],_,x,hx=>by cases hx
 |y::ys,h,x,hx=>by
  rcases List.mem_cons.1 hx with rfl|hx
  ·rintro rfl
   have:=h .undef (by simp [eP,res])
   simp [AV.good,AV.solid] at this
  ·exact aIs (o:=o) (c:=ys) (fun z hz=>h z (by simp [eP,hz])) x hx
def gY (t:List AV):Option Tmp→AV→List AV
 |some d,x=>t.set d x
 |none,_=>t
theorem put_eq (t:List AV) (o:List aA) (d:Option Tmp) (x:AV):AS.put ⟨t,o⟩ d x=⟨gY t d x,o⟩:=by cases d<;>rfl
theorem aGi:∀{t2 t:List AV} (i:Nat),wk t2 t→t.getD i .undef=t2.getD i .undef∨t.getD i .undef= .undef
 |[],[],_,_=> .inl rfl
 |[],_::_,_,h=>h.elim
 |_::_,[],_,h=>h.elim
 |x::xs,y::ys,0,h=>by simpa [List.getD] using h.1
 |x::xs,y::ys,i+1,h=>by simpa [List.getD] using aGi i h.2
theorem vI (t:List AV) (o:List aA) (d:Option Tmp) (c:List AV):AS.box ⟨t,o⟩ d c=⟨gY t d (.ptr o.length 0 0 0),o++[⟨true,true,c.length,0,[c]⟩]⟩:=put_eq _ _ _ _
theorem tL (t:List AV) (o:List aA) (d:Option Tmp) (r:AV):AS.called ⟨t,o⟩ d r=⟨gY t d (bN 1 o.length r).1,o++(bN 1 o.length r).2⟩:=put_eq _ _ _ _
section
variable {t t2 : List AV} {o o2 : List aA}
theorem yR (hw:wk t2 t) (x:Operand):(AS.ev ⟨t,o⟩ x)=(AS.ev ⟨t2,o2⟩ x)∨(AS.ev ⟨t,o⟩ x)= .undef:=by
 cases x with
 |tmp i=>exact aGi i hw
 |const v=>exact .inl rfl
 |func f=>exact .inl rfl
 |global g=>exact .inl rfl
theorem aIn (hw:wk t2 t) {x:Operand} {y:AV} (h:AS.ev ⟨t,o⟩ x=y) (hy:y≠ .undef):AS.ev ⟨t2,o2⟩ x=y:=by
 rcases yR (o:=o) (o2:=o2) hw x with h'|h'
 ·rw [←h',h]
 ·rw [h] at h';exact absurd h' hy
def Sub (o o2:List aA):Prop:=∀(i:Nat) (ob:aA),o[i]? =some ob→ob.live=true→o2[i]? =some ob
theorem lT (hs:Sub o o2) {i ver:Nat} {ob:aA} (h:AV.isObj o i ver=some ob):AV.isObj o2 i ver=some ob:=by
 unfold AV.isObj at h⊢
 split at h
 ·rename_i x hx
  split at h
  ·rename_i hc
   rw [hs _ _ hx hc.1]
   simp only [hc,and_self,if_true]
   exact h
  ·cases h
 ·cases h
theorem aLc (hs:Sub o o2) {i ver idx:Nat} {p:aA×List AV} (h:AS.at ⟨t,o⟩ i ver idx=some p):AS.at ⟨t2,o2⟩ i ver idx=some p:=by
 unfold AS.at at h⊢
 split at h
 ·rename_i ob h1
  simp only [lT hs h1];exact h
 ·cases h
theorem nS (hs:Sub o o2) {i ver:Nat} (h:(AV.isObj o i ver).isSome=true):(AV.isObj o2 i ver).isSome=true:=by
 obtain ⟨ob,h⟩:=Option.isSome_iff_exists.1 h
 rw [lT hs h];rfl
theorem lG (hs:Sub o o2) {x:AV} (h:x.fit o=true):x.fit o2=true:=by
 cases x with
 |sl g n l=>
  cases g with
  |dep i=>
   simp only [AV.fit] at h⊢
   split at h
   ·rename_i ob hob;rw [hs _ _ hob h];exact h
   ·cases h
  |_=>rfl
 |vptr g c off=>
  cases g with
  |dep i=>
   simp only [AV.fit] at h⊢
   split at h
   ·rename_i ob hob;rw [hs _ _ hob h];exact h
   ·cases h
  |_=>rfl
 |obj i ver=>simp only [AV.fit] at h⊢;exact nS hs h
 |ptr i ver _ _=>simp only [AV.fit] at h⊢;exact nS hs h
 |undef=>cases h
 |tup _=>cases h
 |_=>rfl
theorem aFc {x:AV} (h:x.fit o=true):x≠ .undef:=by rintro rfl;cases h
end
mutual
theorem aOu {o o2 : List aA} (hs : Sub o o2) : ∀ (x : AV), arg o x ≠ .undef → ∀ (w : World) (v : Value), R w (eB w) (arg o2 x) v [] → R w (eB w) (arg o x) v []
  | .obj i ver, hn, w, v, h => by
    cases ho : AV.isObj o i ver with
    | none => exact absurd (by simp only [arg, ho]) hn
    | some ob => simp only [arg, ho, lT hs ho] at h ⊢; exact h
  | .ptr i ver idx off, hn, w, v, h => by
    cases ho : AV.isObj o i ver with
    | none => exact absurd (by simp only [arg, ho]) hn
    | some ob => simp only [arg, ho, lT hs ho] at h ⊢; exact h
  | .agg c, _, w, v, h => by
    simp only [arg, R] at h ⊢
    obtain ⟨cs, h1, h2, h3⟩ := h
    exact ⟨cs, h1, h2, pF hs c w cs h3⟩
  | .tup c, _, w, v, h => by
    simp only [arg, R] at h ⊢
    obtain ⟨cs, h1, h3⟩ := h
    exact ⟨cs, h1, pF hs c w cs h3⟩
  | .fn f c, _, w, v, h => by
    simp only [arg, R] at h ⊢
    obtain ⟨h0, cs, h1, h3⟩ := h
    exact ⟨h0, cs, h1, pF hs c w cs h3⟩
  | .int _ _, _, _, _, h => h
  | .bool _, _, _, _, h => h
  | .str _, _, _, _, h => h
  | .sl .own _ _, _, _, _, h => h
  | .sl .view _ _, _, _, _, h => h
  | .sl (.dep i) n l, hn, w, v, h => by
    cases ho : o[i]? with
    | none => simp [arg, ho] at hn
    | some ob =>
      by_cases hv : ob.live = true
      · simp only [arg, ho, hs _ _ ho hv] at h ⊢; exact h
      · simp [arg, ho, hv] at hn
  | .vptr .own _ _, _, _, _, h => h
  | .vptr .view _ _, _, _, _, h => h
  | .vptr (.dep i) c off, hn, w, v, h => by
    cases ho : o[i]? with
    | none => simp [arg, ho] at hn
    | some ob =>
      by_cases hv : ob.live = true
      · simp only [arg, ho, hs _ _ ho hv] at h ⊢; exact h
      · simp [arg, ho, hv] at hn
  | .undef, hn, _, _, _ => absurd rfl hn
theorem pF {o o2 : List aA} (hs : Sub o o2) : ∀ (c : List AV) (w : World) (cs : List Value), Rc w (eB w) (jG o2 c) cs [] → Rc w (eB w) (jG o c) cs []
  | [], _, _, h => h
  | x :: xs, w, [], h => by simp [jG, Rc] at h
  | x :: xs, w, c :: cs, h => by
    simp only [jG, Rc] at h ⊢
    obtain ⟨f1, f2, h1, h2, e⟩ := h
    obtain ⟨rfl, rfl⟩ : f1 = [] ∧ f2 = [] := by simpa using e
    refine ⟨[], [], ?_, pF hs xs w cs h2, rfl⟩
    by_cases hn : arg o x = .undef
    · rw [hn]; simp [R]
    · exact aOu hs x hn w c h1
end
theorem aC4 {o:List aA}:∀{a2 a:List AV},wk a2 a→wk (jG o a2) (jG o a)
 |[],[],_=>trivial
 |[],_::_,h=>h.elim
 |_::_,[],h=>h.elim
 |x::xs,y::ys,h=>by
  refine ⟨?_,aC4 h.2⟩
  rcases h.1 with rfl|rfl
  ·exact .inl rfl
  ·exact .inr rfl
theorem aH4 {t t2:List AV} {o o2:List aA} (hw:wk t2 t) (l:List Operand) (cap:List AV):wk (l.map (AS.ev ⟨t2,o2⟩)++cap) (l.map (AS.ev ⟨t,o⟩)++cap):=by
 induction l with
 |nil=>
  simp only [List.map_nil,List.nil_append]
  induction cap with
  |nil=>trivial
  |cons x xs ih=>exact ⟨.inl rfl,ih⟩
 |cons x xs ih=>exact ⟨yR hw x,ih⟩
theorem Ok.mono {P:Program} [aB P] {f:FuncId} {a a2:List AV} {r:AV} (h:Ok P f a r) (hs:∀w vs,Rc w (eB w) a2 vs []→Rc w (eB w) a vs []):Ok P f a2 r:=
 fun w vs hg hr=>h w vs hg (hs w vs hr)
theorem aHd:∀(q k k':Nat) (x:AV),(bN q k x).2=[]→bN q k' x=bN q k x:=by
 intro q k k' x h
 exact (go q k k').1 x h
where
 go (q k k':Nat):(∀x:AV,(bN q k x).2=[]→bN q k' x=bN q k x)∧(∀c:List AV,(dN q k c).2=[]→dN q k' c=dN q k c):=
  ⟨fun x=>one x,fun c=>all c⟩
 one {q k k':Nat}:∀x:AV,(bN q k x).2=[]→bN q k' x=bN q k x
  | .sl .own n l,h=>by simp [bN] at h
  | .agg c,h=>by simp only [bN] at h⊢;rw [all c h]
  | .tup c,h=>by simp only [bN] at h⊢;rw [all c h]
  | .sl .view _ _,_=>rfl
  | .sl (.dep _) _ _,_=>rfl
  | .int _ _,_=>rfl
  | .bool _,_=>rfl
  | .str _,_=>rfl
  | .vptr _ _ _,_=>rfl
  | .obj _ _,_=>rfl
  | .ptr _ _ _ _,_=>rfl
  | .fn _ _,_=>rfl
  | .undef,_=>rfl
 all {q k k':Nat}:∀c:List AV,(dN q k c).2=[]→dN q k' c=dN q k c
  |[],_=>rfl
  |x::xs,h=>by
   simp only [dN,List.append_eq_nil_iff] at h⊢
   have h1:=one (k':=k') x h.1
   rw [h1]
   have h2:(bN q k x).2.length=0:=by rw [h.1];rfl
   rw [h2] at h⊢
   have h3:=all (k:=k+0) (k':=k'+0) xs h.2
   rw [h3]
theorem rA {t2 t:List AV} {o o2:List aA} (hw:wk t2 t) {d n:Nat} {x:Option Operand} (h:AS.bound ⟨t,o⟩ d x=some n):AS.bound ⟨t2,o2⟩ d x=some n:=by
 cases x with
 |none=>exact h
 |some x=>
  simp only [AS.bound] at h⊢
  split at h
  ·rename_i hx
   rw [aIn (o2:=o2) hw hx (by simp)];exact h
  ·cases h
theorem aGf {P:Program} [aB P] {op:Oper} {t t2:List AV} {o o2:List aA} {K:AS→Prop} (q:iH op.op ⟨t,o⟩=true) (hw:wk t2 t) (h:aop P op ⟨t,o⟩ K) (hs:Sub o o2) (hext:o2.length=o.length∨∀s',K s'→s'.o.length=o.length):
  ∃x new x2,K ⟨gY t op.dst x,o++new⟩∧(x=x2∨x= .undef)∧(o2.length=o.length∨new=[])∧∀K2:AS→Prop,K2 ⟨gY t2 op.dst x2,o2++new⟩→aop P op ⟨t2,o2⟩ K2:=by
 have same:∀{x:AV},K (AS.put ⟨t,o⟩ op.dst x)→(∀K2:AS→Prop,K2 (AS.put ⟨t2,o2⟩ op.dst x)→aop P op ⟨t2,o2⟩ K2)→
   ∃x new x2,K ⟨gY t op.dst x,o++new⟩∧(x=x2∨x= .undef)∧(o2.length=o.length∨new=[])∧∀K2:AS→Prop,K2 ⟨gY t2 op.dst x2,o2++new⟩→aop P op ⟨t2,o2⟩ K2:=by
  intro x h1 h2
  refine ⟨x,[],x,by rw [List.append_nil,←put_eq];exact h1,.inl rfl,.inr rfl,fun K2 hK=>h2 K2 ?_⟩
  rw [put_eq];rw [List.append_nil] at hK;exact hK
 obtain ⟨dst,op,ty,pos,after,gd⟩:=op
 have E:∀{x:Operand} {y:AV},AS.ev ⟨t,o⟩ x=y→y≠ .undef→AS.ev ⟨t2,o2⟩ x=y:=fun h hy=>aIn hw h hy
 unfold aop at h
 dsimp only at h q same⊢
 split at h
 case h_1=>
  rename_i X
  refine ⟨_,[],AS.ev ⟨t2,o2⟩ X,by rw [put_eq] at h;rw [List.append_nil];exact h,yR hw X,.inr rfl,fun K2 hK=> ?_⟩
  unfold aop;dsimp only;rw [put_eq];rw [List.append_nil] at hK;exact hK
 case h_2=>
  rename_i X
  refine ⟨_,[],AS.ev ⟨t2,o2⟩ X,by rw [put_eq] at h;rw [List.append_nil];exact h,yR hw X,.inr rfl,fun K2 hK=> ?_⟩
  unfold aop;dsimp only;rw [put_eq];rw [List.append_nil] at hK;exact hK
 case h_3=>
  split at h
  ·rename_i b hc
   rename_i X Y _
   refine ⟨if b then AS.ev ⟨t,o⟩ X else AS.ev ⟨t,o⟩ Y,[],if b then AS.ev ⟨t2,o2⟩ X else AS.ev ⟨t2,o2⟩ Y,by rw [put_eq] at h;rw [List.append_nil];exact h,?_,.inr rfl,fun K2 hK=> ?_⟩
   ·cases b
    ·exact yR hw Y
    ·exact yR hw X
   ·unfold aop;dsimp only;rw [E hc (by simp)];dsimp only;rw [put_eq];rw [List.append_nil] at hK;exact hK
  ·exact h.elim
 case h_4=>
  split at h
  ·rename_i z hz
   rcases hext with hlen|hext
   ·refine ⟨.ptr o.length 0 0 0,[⟨true,true,z.length,0,[z]⟩],.ptr o.length 0 0 0,by rw [vI] at h;exact h,.inl rfl,.inl hlen,fun K2 hK=> ?_⟩
    unfold aop;dsimp only;rw [hz];dsimp only;rw [vI,hlen];exact hK
   ·have:=hext _ h
    rw [vI] at this;simp at this
  ·exact h.elim
 case h_5=>
  rename_i X
  obtain ⟨h1,h2⟩:=h
  have hX:=E (x:=X) rfl (aFc h1)
  rcases hext with hlen|hext
  ·refine ⟨.ptr o.length 0 0 0,[⟨true,true,(AS.ev ⟨t,o⟩ X).cells.length,0,[(AS.ev ⟨t,o⟩ X).cells]⟩],.ptr o.length 0 0 0,by rw [vI] at h2;exact h2,.inl rfl,.inl hlen,fun K2 hK=> ?_⟩
   unfold aop;dsimp only;rw [hX];refine ⟨lG hs h1,?_⟩;rw [vI,hlen];exact hK
  ·have:=hext _ h2
   rw [vI] at this;simp at this
 case h_6=>
  rename_i T parts
  split at h
  ·rename_i pl hp
   split at h
   ·rename_i z0 hz
    obtain ⟨h1,h⟩:=h
    split at h
    ·rename_i z hf
     have hparts:(parts.toList.map fun p=>(p.1,AS.ev ⟨t2,o2⟩ p.2))=parts.toList.map fun p=>(p.1,AS.ev ⟨t,o⟩ p.2):=
      List.map_congr_left fun p hp=>by rw [E (x:=p.2) rfl (aFc (h1 p hp))]
     refine same h fun K2 hK=> ?_
     unfold aop;dsimp only;rw [hp];dsimp only;rw [hz];dsimp only
     refine ⟨fun p hp=>by rw [E (x:=p.2) rfl (aFc (h1 p hp))];exact lG hs (h1 p hp),?_⟩
     rw [hparts,hf];exact hK
    ·exact h.elim
   ·exact h.elim
  ·exact h.elim
 case h_7=>
  rename_i T len parts
  split at h
  ·rename_i e n by' he
   obtain ⟨k1,k2,k3,k4,k5,k6,k7,k8,h⟩:=h
   have hu:dD ((parts.toList.map (·.2)).map (AS.ev ⟨t,o⟩))=[]:=by simpa [iH] using q
   have hL:(parts.toList.map (·.2)).map (AS.ev ⟨t2,o2⟩)=(parts.toList.map (·.2)).map (AS.ev ⟨t,o⟩):=
    List.map_congr_left fun x hx=>E rfl (aIs (fun y hy=>(k8 y hy).1) _ (List.mem_map.2 ⟨x,hx,rfl⟩))
   have hkill:∀os:List aA,kills [] os=os:=fun _=>rfl
   rcases hext with hlen|hext
   ·refine ⟨.obj o.length 1,[⟨true,false,n,1,(eP o ((parts.toList.map (·.2)).map (AS.ev ⟨t,o⟩))).map AV.cells⟩],.obj o.length 1,?_,.inl rfl,.inl hlen,fun K2 hK=> ?_⟩
    ·unfold AS.built at h
     rw [hu,hkill,put_eq] at h
     simpa using h
    ·unfold aop;dsimp only;rw [he];dsimp only
     refine ⟨k1,k2,k3,k4,k5,?_⟩
     rw [hL]
     have hfree:=tX (o:=o) (o':=o2) _ hu
     refine ⟨by rw [←hfree.2];exact k6,k7,by rw [←hfree.1];exact k8,?_⟩
     unfold AS.built
     dsimp only
     rw [hL,hu,hkill,put_eq,hlen,←hfree.1]
     simpa [hlen] using hK
   ·have:=hext _ h
    unfold AS.built at this
    rw [hu,hkill,put_eq] at this;simp at this
  ·exact h.elim
 case h_8=>
  rename_i T X
  split at h
  ·rename_i hx
   split at h
   ·rename_i ob e ha
    unfold jU at h
    split at h
    ·rename_i n hn
     refine same h.2 fun K2 hK=> ?_
     unfold aop;dsimp only;rw [E hx (by simp)];dsimp only;rw [aLc hs ha];dsimp only;unfold jU;rw [hn];exact ⟨h.1,hK⟩
    ·rename_i hn
     obtain ⟨h1,h⟩:=h
     split at h
     ·rename_i y hy
      refine same h fun K2 hK=> ?_
      unfold aop;dsimp only;rw [E hx (by simp)];dsimp only;rw [aLc hs ha];dsimp only;unfold jU;rw [hn];dsimp only;rw [hy];exact ⟨h1,hK⟩
     ·exact h.elim
   ·exact h.elim
  ·rename_i hx
   obtain ⟨hf,h⟩:=h
   unfold jU at h
   split at h
   ·rename_i n hn
    refine same h.2 fun K2 hK=> ?_
    unfold aop;dsimp only;rw [E hx (by simp)];dsimp only;unfold jU;rw [hn];exact ⟨lG hs hf,h.1,hK⟩
   ·rename_i hn
    obtain ⟨h1,h⟩:=h
    split at h
    ·rename_i y hy
     refine same h fun K2 hK=> ?_
     unfold aop;dsimp only;rw [E hx (by simp)];dsimp only;unfold jU;rw [hn];dsimp only;rw [hy];exact ⟨lG hs hf,h1,hK⟩
    ·exact h.elim
  ·exact h.elim
 case h_9=>cases q
 case h_10=>
  split at h
  ·rename_i fo hf
   split at h
   ·rename_i hx
    refine same h.2 fun K2 hK=> ?_
    unfold aop;dsimp only;rw [hf];dsimp only;rw [E hx (by simp)];exact ⟨nS hs h.1,hK⟩
   ·rename_i hx
    refine same h.2 fun K2 hK=> ?_
    unfold aop;dsimp only;rw [hf];dsimp only;rw [E hx (by simp)];exact ⟨lG hs h.1,hK⟩
   ·exact h.elim
  ·exact h.elim
 case h_11=>
  split at h
  ·rename_i hi
   obtain ⟨h0,h⟩:=h
   split at h
   ·rename_i hx
    split at h
    ·rename_i ob ho
     split at h
     ·rename_i he
      refine same h.2.2.2 fun K2 hK=> ?_
      unfold aop;dsimp only;rw [E hi (by simp)];dsimp only;rw [E hx (by simp)];dsimp only;rw [lT hs ho];dsimp only;rw [he];exact ⟨h0,h.1,h.2.1,h.2.2.1,hK⟩
     ·exact h.elim
    ·exact h.elim
   ·rename_i hx
    obtain ⟨hf,h⟩:=h
    split at h
    ·rename_i he
     obtain ⟨hm,h⟩:=h
     split at h
     ·rename_i hc
      refine same h fun K2 hK=> ?_
      unfold aop;dsimp only;rw [E hi (by simp)];dsimp only;rw [E hx (by simp)];dsimp only;rw [he];dsimp only;rw [hc];exact ⟨h0,lG hs hf,hm,hK⟩
     ·exact h.elim
    ·exact h.elim
   ·rename_i hx
    obtain ⟨hso,h⟩:=h
    split at h
    ·rename_i ha
     refine same h.2 fun K2 hK=> ?_
     unfold aop;dsimp only;rw [E hi (by simp)];dsimp only;rw [E hx (by simp)];dsimp only;rw [ha];exact ⟨h0,nS hs hso,h.1,hK⟩
    ·exact h.elim
   ·exact h.elim
  ·exact h.elim
 case h_12=>
  split at h
  ·rename_i hx
   split at h
   ·rename_i hi
    obtain ⟨ht,h0,h⟩:=h
    split at h
    ·rename_i hu
     refine same h fun K2 hK=> ?_
     unfold aop;dsimp only;rw [E hx (by simp)];dsimp only;rw [E hi (by simp)];dsimp only;rw [hu];exact ⟨ht,h0,hK⟩
    ·exact h.elim
   ·exact h.elim
  ·exact h.elim
 case h_13=>
  split at h
  ·rename_i hx
   split at h
   ·rename_i hy
    refine same h fun K2 hK=> ?_
    unfold aop;dsimp only;rw [E hx (by simp)];dsimp only;rw [hy];exact hK
   ·exact h.elim
  ·exact h.elim
 case h_14=>cases q
 case h_15=>cases q
 case h_16=>
  split at h
  ·rename_i hx
   split at h
   ·rename_i ha
    split at h
    ·rename_i hb
     obtain ⟨h1,h2,h3,h⟩:=h
     refine same h fun K2 hK=> ?_
     unfold aop;dsimp only;rw [E hx (by simp)];dsimp only;rw [rA hw ha];dsimp only;rw [rA hw hb];exact ⟨h1,h2,h3,hK⟩
    ·exact h.elim
   ·exact h.elim
  ·rename_i hx
   split at h
   ·rename_i ha
    split at h
    ·rename_i hb
     split at h
     ·rename_i he
      obtain ⟨h1,h2,h3,h4,h⟩:=h
      refine same h fun K2 hK=> ?_
      unfold aop;dsimp only;rw [E hx (by simp)];dsimp only;rw [rA hw ha];dsimp only;rw [rA hw hb];dsimp only;rw [he];exact ⟨h1,lG hs h2,h3,h4,hK⟩
     ·exact h.elim
    ·exact h.elim
   ·exact h.elim
  ·rename_i hx
   simp only [iH,hx] at q
   cases q
  ·exact h.elim
 case h_17=>
  split at h
  ·rename_i hx
   refine same h fun K2 hK=> ?_
   unfold aop;dsimp only;rw [E hx (by simp)];exact hK
  ·exact h.elim
 case h_18=>
  split at h
  ·rename_i hx
   refine same h fun K2 hK=> ?_
   unfold aop;dsimp only;rw [E hx (by simp)];exact hK
  ·exact h.elim
 case h_19=>
  split at h
  ·rename_i hx
   split at h
   ·rename_i hy
    obtain ⟨hk,h⟩:=h
    split at h
    ·rename_i hz
     refine same h fun K2 hK=> ?_
     unfold aop;dsimp only;rw [E hx (by simp)];dsimp only;rw [E hy (by simp)];dsimp only;rw [hz];exact ⟨hk,hK⟩
    ·exact h.elim
   ·exact h.elim
  ·rename_i hx
   split at h
   ·rename_i hy
    obtain ⟨hk,h⟩:=h
    split at h
    ·rename_i hz
     refine same h fun K2 hK=> ?_
     unfold aop;dsimp only;rw [E hx (by simp)];dsimp only;rw [E hy (by simp)];dsimp only;rw [hz];exact ⟨hk,hK⟩
    ·exact h.elim
   ·exact h.elim
  ·rename_i hx
   split at h
   ·rename_i hy
    refine same h.2.2 fun K2 hK=> ?_
    unfold aop;dsimp only;rw [E hx (by simp)];dsimp only;rw [E hy (by simp)];exact ⟨h.1,h.2.1,hK⟩
   ·exact h.elim
  ·rename_i hx
   split at h
   ·rename_i hy
    obtain ⟨h1,h2,h3,b,h4,h5⟩:=h
    refine same h5 fun K2 hK=> ?_
    unfold aop;dsimp only;rw [E hx (by simp)];dsimp only;rw [E hy (by simp)];exact ⟨h1,h2,h3,b,h4,hK⟩
   ·exact h.elim
  ·exact h.elim
 case h_20=>
  split at h
  ·rename_i hx
   split at h
   ·rename_i hk
    refine same h.2 fun K2 hK=> ?_
    unfold aop;dsimp only;rw [E hx (by simp)];dsimp only;rw [hk];exact ⟨h.1,hK⟩
   ·exact h.elim
  ·rename_i hx
   refine same h.2.2 fun K2 hK=> ?_
   unfold aop;dsimp only;rw [E hx (by simp)];exact ⟨h.1,h.2.1,hK⟩
  ·rename_i hx
   split at h
   ·rename_i he
    obtain ⟨h1,h2,h3,h4,h5,bs,h6,h7⟩:=h
    refine same h7 fun K2 hK=> ?_
    unfold aop;dsimp only;rw [E hx (by simp)];dsimp only;rw [he];exact ⟨h1,h2,lG hs h3,h4,h5,bs,h6,hK⟩
   ·exact h.elim
  ·rename_i hx
   split at h
   ·rename_i ho
    split at h
    ·rename_i he
     obtain ⟨h1,h2,h3,h4,bs,h6,h7⟩:=h
     refine same h7 fun K2 hK=> ?_
     unfold aop;dsimp only;rw [E hx (by simp)];dsimp only;rw [lT hs ho];dsimp only;rw [he];exact ⟨h1,h2,h3,h4,bs,h6,hK⟩
    ·exact h.elim
   ·exact h.elim
  ·exact h.elim
 case h_21=>
  split at h
  ·rename_i hx
   refine same h.2 fun K2 hK=> ?_
   unfold aop;dsimp only;rw [E hx (by simp)];exact ⟨h.1,hK⟩
  ·rename_i hx
   refine same h.2.2 fun K2 hK=> ?_
   unfold aop;dsimp only;rw [E hx (by simp)];exact ⟨lG hs h.1,h.2.1,hK⟩
  ·rename_i hx
   split at h
   ·rename_i ho
    refine same h.2 fun K2 hK=> ?_
    unfold aop;dsimp only;rw [E hx (by simp)];dsimp only;rw [lT hs ho];exact ⟨h.1,hK⟩
   ·exact h.elim
  ·exact h.elim
 case h_22=>
  rename_i X Y tS xT
  simp only [iH,Bool.and_eq_true] at q
  obtain ⟨qx,qy⟩:=q
  split at h
  ·rename_i e n by' he
   obtain ⟨k1,k2,h⟩:=h
   split at qx
   ·rename_i m hx
    have hx2:=E hx (by simp)
    rw [hx] at h
    simp only [AS.target] at h
    have hsrc:∀(y:AV),AS.ev ⟨t,o⟩ Y=y→y≠ .undef→(match y with| .sl .own _ []=>true| .sl .view _ _=>true| .str _=>true|_=>false)=true→∀l2 o',AS.source ⟨t,o++[⟨true,false,n,0,[]⟩]⟩ o.length n y=some (l2,o')→
      o'=o++[⟨true,false,n,0,[]⟩]∧AS.source ⟨t2,o2++[⟨true,false,n,0,[]⟩]⟩ o2.length n (AS.ev ⟨t2,o2⟩ Y)=some (l2,o2++[⟨true,false,n,0,[]⟩]):=by
     intro y hy hne hk l2 o' hs'
     rw [E hy hne]
     split at hk
     ·simp only [AS.source,Option.some.injEq,Prod.mk.injEq] at hs'⊢;exact ⟨hs'.2.symm,hs'.1,trivial⟩
     ·simp only [AS.source] at hs'⊢
      split at hs'
      ·rename_i hm
       simp only [Option.some.injEq,Prod.mk.injEq] at hs'
       rw [if_pos hm]
       exact ⟨hs'.2.symm,by rw [hs'.1]⟩
      ·cases hs'
     ·simp only [AS.source] at hs'⊢
      split at hs'
      ·rename_i hm
       simp only [Option.some.injEq,Prod.mk.injEq] at hs'
       rw [if_pos hm]
       exact ⟨hs'.2.symm,by rw [hs'.1]⟩
      ·cases hs'
     ·cases hk
    split at h
    ·rename_i l2 o' hs'
     obtain ⟨h1,h2,h⟩:=h
     obtain ⟨rfl,hs2⟩:=hsrc _ rfl (by rintro hu;rw [hu] at qy;simp at qy) qy _ _ hs'
     have e1:(o++[(⟨true,false,n,0,[]⟩:aA)]).set o.length ⟨true,false,n,0+1,[]++l2⟩=o++[⟨true,false,n,0+1,[]++l2⟩]:=by
      rw [List.set_append_right _ _ (Nat.le_refl _)];simp
     have e2:(o2++[(⟨true,false,n,0,[]⟩:aA)]).set o2.length ⟨true,false,n,0+1,[]++l2⟩=o2++[⟨true,false,n,0+1,[]++l2⟩]:=by
      rw [List.set_append_right _ _ (Nat.le_refl _)];simp
     unfold AS.appended at h
     dsimp only at h
     rw [e1,put_eq] at h
     rcases hext with hlen|hext
     ·refine ⟨.obj o.length (0+1),[⟨true,false,n,0+1,[]++l2⟩],.obj o.length (0+1),h,.inl rfl,.inl hlen,fun K2 hK=> ?_⟩
      unfold aop;dsimp only;rw [he];dsimp only
      refine ⟨k1,k2,?_⟩
      rw [hx2]
      simp only [AS.target]
      rw [hs2]
      dsimp only
      refine ⟨h1,h2,?_⟩
      unfold AS.appended
      dsimp only
      rw [e2,put_eq,hlen]
      exact hK
     ·have:=hext _ h
      simp at this
    ·exact h.elim
   ·cases qx
  ·exact h.elim
 case h_23=>
  rename_i F args tys
  split at h
  ·rename_i g cap hf
   split at h
   ·rename_i h1
    obtain ⟨r,h2,h3⟩:=h
    have hok:Ok P g (jG o2 (AS.args ⟨t2,o2⟩ args++cap)) r:=h2.mono fun w vs hr=>
     yS (aC4 (aH4 (o:=o) (o2:=o2) hw args.toList cap)) (pF hs _ w vs hr)
    rcases hext with hlen|hext
    ·refine ⟨(bN 1 o.length r).1,(bN 1 o.length r).2,(bN 1 o.length r).1,by rw [tL] at h3;exact h3,.inl rfl,.inl hlen,fun K2 hK=> ?_⟩
     unfold aop;dsimp only;rw [E hf (by simp)];dsimp only;rw [if_pos h1];refine ⟨r,hok,?_⟩;rw [tL,hlen];exact hK
    ·have hn:=hext _ h3
     simp only [tL,List.length_append] at hn
     have hn':(bN 1 o.length r).2=[]:=List.eq_nil_of_length_eq_zero (by omega)
     have ha:=aHd 1 o.length o2.length r hn'
     refine ⟨(bN 1 o.length r).1,[],(bN 1 o.length r).1,?_,.inl rfl,.inr rfl,fun K2 hK=> ?_⟩
     ·rw [tL,hn'] at h3;exact h3
     ·unfold aop;dsimp only;rw [E hf (by simp)];dsimp only;rw [if_pos h1]
      refine ⟨r,hok,?_⟩
      unfold AS.called;rw [ha,hn',put_eq];simpa using hK
   ·rename_i h1
    obtain ⟨r,h2,h3⟩:=h
    refine same h3 fun K2 hK=> ?_
    unfold aop;dsimp only;rw [E hf (by simp)];dsimp only;rw [if_neg h1]
    exact ⟨r,fun w vs hr=>h2 w vs (yS (aC4 (aH4 (o:=o) (o2:=o2) hw args.toList cap)) (pF hs _ w vs hr)),hK⟩
  ·exact h.elim
 case h_24=>
  split at h
  ·rename_i hx
   refine same h.2 fun K2 hK=> ?_
   unfold aop;dsimp only;rw [E hx (by simp)];exact ⟨nS hs h.1,hK⟩
  ·rename_i hx
   refine same h.2 fun K2 hK=> ?_
   unfold aop;dsimp only;rw [E hx (by simp)];exact ⟨lG hs h.1,hK⟩
  ·exact h.elim
 case h_25=>exact h.elim
end Go.Aw
