/-
  Proved here: that the abstract walk of a function is sound.
  No condition beyond what each statement spells out.
-/
import Derived.Test.YtgkcdgaljknohaaGreatDoorF2
import Derived.Test.YtgkcdgaljknohaaGreatDoorF9
import Derived.Orders
set_option linter.all false
namespace Go.Aw
def Weak (s s':AS):Prop:=∀⦃P:Program⦄ [Tabs P] (B:Base P) a w,Rel B s a w→Rel B s' a w
def AThen (K:AS→Prop) (Q:Exit→AS→Prop):Exit→AS→Prop
 | .normal,s=>K s
 |e,s=>Q e s
def AIn (id:Nat) (Q:Exit→AS→Prop):Exit→AS→Prop
 | .exit id',s=>if id'=id then Q .normal s else Q (.exit id') s
 |e,s=>Q e s
def lift {P:Program} [Tabs P] (B:Base P) (Q:Exit→AS→Prop):Exit→Act→World→Prop:=fun e a w=>∃s,Q e s∧Rel B s a w
def skipW (want:Bool):AV→AV
 | .tup []=> .bool (!want)
 |x=>x
@[simp] theorem skipW_bool (w b:Bool):skipW w (.bool b)= .bool b:=rfl
@[simp] theorem skipW_nil (w:Bool):skipW w (.tup [])= .bool (!w):=rfl
theorem skipW_eq {w b:Bool} {x:AV} (h:skipW w x= .bool b):(x= .tup []∧b= !w)∨x= .bool b:=by
 unfold skipW at h
 split at h
 ·exact .inl ⟨rfl,(AV.bool.inj h).symm⟩
 ·exact .inr h
theorem R_skip (w:World) (E:Env):R w E (.tup []) undef []:=by
 simp only [R];exact ⟨[],rfl,by simp [Rc]⟩
def guardA (all:List Oper) (s:AS) (j:Nat) (want:Bool):AV:=match all[j]? with
 |some o=>match o.dst with
  |some d=>skipW want (s.t.getD d .undef)
  |none=> .undef
 |none=> .undef
def amutM (P:Program) [Tabs P] (o:Oper) (s:AS) (K:AS→Prop):Prop:=
 match o.op with
 | .call ⟨.value f,⟨x::ys⟩,_⟩=>match s.ev f with
  | .fn g []=>callable P g=true∧(ys.all fun y=>(s.ev y).plainV)=true∧resOk s.o (s.ev x)=true∧(uses (s.ev x)).Nodup∧∃x' r,OkM P g (res s.o (s.ev x)) x' (ys.map s.ev) r∧(r.plainV=true∨r= .tup [])∧mt s.o (s.ev x) x'=true∧K (s.mutated o.dst (s.ev x) x' r)
  |_=>False
 | .convert src d x=>match s.ev x with
  | .str l=>match elemA P d with
   |some (e,m,_)=>isString P src=true∧m=1∧intType P e=some .u8∧l.length≤9223372036854775807∧K (s.made o.dst 1 (bytesRows l))
   |none=>False
  |_=>False
 |_=>False
theorem amutM_sound {P:Program} [Tabs P] {B:Base P} {o:Oper} {s:AS} {K:AS→Prop} (h:amutM P o s K):∃s',K s'∧Step P B o s s':=by
 obtain ⟨dst,op,ty,pos,after,gd⟩:=o
 unfold amutM at h
 dsimp only at h
 split at h
 ·split at h
  ·rename_i hf
   obtain ⟨h1,h2,h3,h4,x',r,h5,h6,h7,h8⟩:=h
   exact ⟨_,h8,step_mut _ _ _ _ hf h1 h2 h6 h3 h4 h7 h5⟩
  ·exact h.elim
 ·split at h
  ·rename_i hx
   split at h
   ·rename_i he
    obtain ⟨h1,rfl,h2,h3,h4⟩:=h
    exact ⟨_,h4,step_bytes _ _ _ hx h1 he h2 h3⟩
   ·exact h.elim
  ·exact h.elim
 ·exact h.elim
def agiv (P:Program) [Tabs P] (o:Oper) (s:AS) (K:AS→Prop):Prop:=
 match o.op with
 | .call ⟨.value f,args,_⟩=>match s.ev f with
  | .fn g []=>callable P g=true∧∃gs r,OkG P g gs r∧(takes s.o (s.args args) gs).Nodup∧handed s.o (takes s.o (s.args args) gs) (s.args args) gs∧K (s.given o.dst (s.args args) gs r)
  |_=>False
 |_=>False
theorem agiv_sound {P:Program} [Tabs P] {B:Base P} {o:Oper} {s:AS} {K:AS→Prop} (h:agiv P o s K):∃s',K s'∧Step P B o s s':=by
 obtain ⟨dst,op,ty,pos,after,gd⟩:=o
 unfold agiv at h
 dsimp only at h
 split at h
 ·split at h
  ·rename_i hf
   obtain ⟨h1,gs,r,h2,h3,h4,h5⟩:=h
   exact ⟨_,h5,step_give _ _ _ hf h1 h3 h4 h2⟩
  ·exact h.elim
 ·exact h.elim
theorem Weak.refl (s:AS):Weak s s:=fun _ _ _ _ _ h=>h
theorem Weak.trans {a b c:AS} (h:Weak a b) (k:Weak b c):Weak a c:=fun _ _ B x w r=>k B x w (h B x w r)
def amut (P:Program) [Tabs P] (o:Oper) (s:AS) (K:AS→Prop):Prop:=∃s1,Weak s s1∧(aop P o s1 K∨amutM P o s1 K∨agiv P o s1 K)
theorem amut_sound {P:Program} [Tabs P] {B:Base P} {o:Oper} {s:AS} {K:AS→Prop} (h:amut P o s K):∃s',K s'∧Step P B o s s':=by
 obtain ⟨s1,hw,h⟩:=h
 obtain ⟨s',hK,hst⟩:∃s',K s'∧Step P B o s1 s':=by
  rcases h with h|h|h
  ·exact aop_sound h
  ·exact amutM_sound h
  ·exact agiv_sound h
 exact ⟨s',hK,fun a w next Q hr hn=>hst a w next Q (hw B a w hr) hn⟩
theorem amut_M {P:Program} [Tabs P] {o:Oper} {s:AS} {K:AS→Prop} (h:amutM P o s K):amut P o s K:=⟨s,Weak.refl s,.inr (.inl h)⟩
theorem amut_G {P:Program} [Tabs P] {o:Oper} {s:AS} {K:AS→Prop} (h:agiv P o s K):amut P o s K:=⟨s,Weak.refl s,.inr (.inr h)⟩
theorem amut_F {P:Program} [Tabs P] {o:Oper} {s:AS} {K:AS→Prop} (h:afrz P o s K):amut P o s K:=by
 unfold afrz at h
 split at h
 ·split at h
  ·split at h
   ·rename_i ob hob
    exact ⟨_,fun _ _ B a w hr=>frz_rel hob h.1 hr,.inl h.2⟩
   ·exact h.elim
  ·exact h.elim
 ·exact h.elim
def awpL (P:Program) [Tabs P] (all:List Oper):List Oper→AS→(AS→Prop)→Prop
 |[],s,K=>K s
 |o::r,s,K=>match o.guard with
  |none=>(aop P o s fun s'=>awpL P all r s' K)∨(amut P o s fun s'=>awpL P all r s' K)
  |some (j,want)=>match guardA all s j want with
   | .bool b=>(b=want→aop P o s fun s'=>awpL P all r s' K)∧(b≠want→awpL P all r (s.put o.dst (.tup [])) K)
   |_=>False
def DrawOk (P:Program) [Tabs P] (ops:Array Oper) (s:AS) (K:AS→Prop):Prop:=
 ∀(B:Base P) a w (Q:Exit→Act→World→Prop),Rel B s a w→(∀a' w' s',K s'→Rel B s' a' w'→Q .normal a' w')→
  wpAny P .any ops Q ops.size (Array.replicate ops.size false) a {w with drawn:=w.drawn+1}
def awp (P:Program) [Tabs P]:Code→AS→(Exit→AS→Prop)→Prop
 | .skip,s,Q=>Q .normal s
 | .region _ ops false,s,Q=>∃s2,Weak s s2∧awpL P ops.toList ops.toList s2 (Q .normal)
 | .region _ ops true,s,Q=>DrawOk P ops s (Q .normal)
 | .seq x y,s,Q=>awp P x s (AThen (fun s'=>awp P y s' Q) Q)
 | .cond c x y,s,Q=>match s.ev c with
  | .bool b=>(b=true→awp P x s Q)∧(b=false→awp P y s Q)
  |_=>False
 | .block id c,s,Q=>awp P c s (AIn id Q)
 | .loop c,s,Q=>∃(ι:Type) (inv:ι→AS) (μ:ι→Nat) (i:ι),Weak s (inv i)∧∀i,awp P c (inv i) (AThen (fun s'=>∃j,Weak s' (inv j)∧μ j < μ i) Q)
 | .exit id,s,Q=>Q (.exit id) s
 | .ret,s,Q=>Q .ret s
 |_,_,_=>False
theorem guard_ok {P:Program} [Tabs P] {B:Base P} {s:AS} {G:List CO} {a:Act} {w:World} (r:Rel' B s G a w) {all:List Oper} {j:Nat} {b want:Bool} (h:guardA all s j want= .bool b):(yielded all.toArray a.tmps j == some want)=(b == want):=by
 unfold guardA at h
 split at h
 ·rename_i o ho
  split at h
  ·rename_i d hd
   have h1:=r.ev (.tmp d)
   simp only [AS.ev] at h1
   rcases skipW_eq h with ⟨h0,rfl⟩|h0
   ·rw [h0] at h1
    simp only [R] at h1
    obtain ⟨cs,h2,h3⟩:=h1
    cases cs with
    |cons=>simp [Rc] at h3
    |nil=>
     simp only [Act.eval] at h2
     rw [Array.getD_eq_getD_getElem?] at h2
     cases hg:a.tmps[d]? with
     |none=>simp [yielded,ho,hd,hg]
     |some v=>
      simp [hg] at h2
      subst h2
      simp [yielded,ho,hd,hg]
   ·rw [h0] at h1
    simp only [R] at h1
    have h2:=h1.1
    simp only [Act.eval] at h2
    rw [Array.getD_eq_getD_getElem?] at h2
    cases hg:a.tmps[d]? with
    |none=>simp [hg] at h2;cases h2
    |some v=>simp [hg] at h2;subst h2;simp [yielded,ho,hd,hg]
  ·cases h
 ·cases h
theorem awpL_sound {P:Program} [Tabs P] {B:Base P} {all:List Oper} {Q:Exit→Act→World→Prop}:∀(l:List Oper) (s:AS) (K:AS→Prop),awpL P all l s K→∀a w,Rel B s a w→(∀a' w' s',K s'→Rel B s' a' w'→Q .normal a' w')→wpList P all.toArray Q l a w
 |[],s,K,h,a,w,r,hk=>hk _ _ _ h r
 |o::l,s,K,h,a,w,r,hk=>by
  simp only [awpL] at h
  have stepped:((aop P o s fun s'=>awpL P all l s' K)∨(amut P o s fun s'=>awpL P all l s' K))→Region.wanted o (yielded all.toArray a.tmps)=true→wpList P all.toArray Q (o::l) a w:=by
   intro h hw
   obtain ⟨s',h',hst⟩:∃s',awpL P all l s' K∧Step P B o s s':=by
    rcases h with h|h
    ·exact aop_sound (B:=B) h
    ·exact amut_sound (B:=B) h
   simp only [wpList,hw,if_true]
   exact .inl (hst a w _ Q r fun a' w' r'=>awpL_sound l s' K h' a' w' r' hk)
  split at h
  ·rename_i hg
   exact stepped h (by simp [Region.wanted,hg])
  ·rename_i j want hg
   split at h
   ·rename_i b hb
    obtain ⟨G,r'⟩:=r
    have hy:=guard_ok r' hb
    by_cases hbw:b=want
    ·exact stepped (.inl (h.1 hbw)) (by simp [Region.wanted,hg,hy,hbw])
    ·have hw:Region.wanted o (yielded all.toArray a.tmps)=false:=by simp [Region.wanted,hg,hy,hbw]
     simp only [wpList,hw,Bool.false_eq_true,if_false]
     exact awpL_sound l _ K (h.2 hbw) _ _ ⟨G,r'.put o.dst (R_skip _ _)⟩ hk
   ·exact h.elim
theorem min_of {ι:Type} (p:ι→Prop) (μ:ι→Nat) (h:∃i,p i):∃i,p i∧∀j,p j→μ i≤μ j:=by
 obtain ⟨i,hi⟩:=h
 generalize hn:μ i=n
 induction n using Nat.strongRecOn generalizing i with
 |_ n ih=>
  by_cases hex:∃j,p j∧μ j < n
  ·obtain ⟨j,hj,hlt⟩:=hex
   exact ih (μ j) hlt j hj rfl
  ·refine ⟨i,hi,fun j hj=> ?_⟩
   rw [hn]
   exact Nat.le_of_not_lt fun hlt=>hex ⟨j,hj,hlt⟩
open Classical in
noncomputable def least {ι : Type} (p : ι → Prop) (μ : ι → Nat) : Nat := if h : ∃ i, p i then μ (min_of p μ h).choose else 0
theorem least_le {ι:Type} {p:ι→Prop} {μ:ι→Nat} {j:ι} (h:p j):least p μ≤μ j:=by
 have hex:∃i,p i:=⟨j,h⟩
 unfold least
 rw [dif_pos hex]
 exact (min_of p μ hex).choose_spec.2 j h
theorem least_at {ι:Type} {p:ι→Prop} {μ:ι→Nat} (h:∃i,p i):∃i,p i∧least p μ=μ i:=by
 refine ⟨(min_of p μ h).choose,(min_of p μ h).choose_spec.1,?_⟩
 unfold least
 rw [dif_pos h]
theorem awp_sound {P:Program} [Tabs P] (hm:P.follows .mixedOrders=true) {B:Base P}:∀(c:Code) (s:AS) (Q:Exit→AS→Prop),awp P c s Q→∀a w,Rel B s a w→c.wp P (lift B Q) a w
 | .skip,s,Q,h,a,w,r=>wp_skip ⟨s,h,r⟩
 | .region id ops false,s,Q,⟨s2,hw,h⟩,a,w,r=>wp_region_list (by
   have:=awpL_sound (Q:=lift B Q) ops.toList s2 (Q .normal) h a w (hw B a w r) (fun a' w' s' h' r'=>⟨s',h',r'⟩)
   simpa using this)
 | .region id ops true,s,Q,h,a,w,r=>wp_region_any hm (h B a w (lift B Q) r fun a' w' s' h' r'=>⟨s',h',r'⟩)
 | .seq x y,s,Q,h,a,w,r=>wp_seq (wp_mono (awp_sound hm x s _ h a w r) fun e a' w' he=>by
   obtain ⟨s',h',r'⟩:=he
   cases e with
   |normal=>exact awp_sound hm y s' Q h' a' w' r'
   |_=>exact ⟨s',h',r'⟩)
 | .cond c x y,s,Q,h,a,w,r=>by
  simp only [awp] at h
  split at h
  ·rename_i b hb
   obtain ⟨G,r'⟩:=r
   exact wp_cond_split (r'.boolv hb) (fun hb=>awp_sound hm x s Q (h.1 hb) a w ⟨G,r'⟩) (fun hb=>awp_sound hm y s Q (h.2 hb) a w ⟨G,r'⟩)
  ·exact h.elim
 | .block id c,s,Q,h,a,w,r=>wp_block (wp_mono (awp_sound hm c s _ h a w r) fun e a' w' he=>by
   obtain ⟨s',h',r'⟩:=he
   cases e with
   |exit id'=>
    simp only [AIn] at h'
    simp only [Exit.inBlock]
    split at h'
    ·rename_i hid;rw [if_pos hid];exact ⟨s',h',r'⟩
    ·rename_i hid;rw [if_neg hid];exact ⟨s',h',r'⟩
   |_=>exact ⟨s',h',r'⟩)
 | .loop c,s,Q,h,a,w,r=>by
  obtain ⟨ι,inv,μ,i,h0,hr⟩:=h
  refine wp_loop (fun a w=>∃i,Rel B (inv i) a w) (fun a w=>least (fun i=>Rel B (inv i) a w) μ) ⟨i,h0 B a w r⟩ fun a w hex=> ?_
  obtain ⟨i,hi,hmin⟩:=least_at (μ:=μ) hex
  refine wp_mono (awp_sound hm c (inv i) _ (hr i) a w hi) fun e a' w' he=> ?_
  obtain ⟨s',h',r'⟩:=he
  cases e with
  |normal=>
   obtain ⟨j,hw,hlt⟩:=h'
   have hj:=hw B a' w' r'
   refine ⟨⟨j,hj⟩,?_⟩
   rw [hmin]
   exact Nat.lt_of_le_of_lt (least_le hj) hlt
  |_=>exact ⟨s',h',r'⟩
 | .exit id,s,Q,h,a,w,r=>wp_exit ⟨s,h,r⟩
 | .ret,s,Q,h,a,w,r=>wp_ret ⟨s,h,r⟩
 | .rangeFunc _ _ _ _,_,_,h,_,_,_=>by simp [awp] at h
 | .scope _,_,_,h,_,_,_=>by simp [awp] at h
 | .label _,_,_,h,_,_,_=>by simp [awp] at h
 | .goto _,_,_,h,_,_,_=>by simp [awp] at h
 | .refuse _,_,_,h,_,_,_=>by simp [awp] at h
def AS.rv (P:Program) (s:AS):ResultVar→Option AV
 | .tmp t=>some (s.t.getD t .undef)
 | .cell t ty=>match s.t.getD t .undef with
  | .ptr i ver idx off=>match s.at i ver idx with
   |some (_,e)=>match aggSize P ty with
    |some n=>if off+n≤e.length then some (.agg (((rtc (dpf i) true e).drop off).take n)) else none
    |none=>if oneSize P ty then (rtc (dpf i) true e)[off]? else none
   |none=>none
  |_=>none
def rvRun (a:Act):ResultVar→Sem Value
 | .tmp t=>pure (a.tmps.getD t Go.undef)
 | .cell t ty=>do loadVar ty (←asAddr (a.tmps.getD t Go.undef))
theorem results_rv (fn:Func) (a:Act):results fn a.tmps=(do let vs←fn.results.mapM (rvRun a);pure (if h:vs.size=1 then vs[0] else .tuple vs)):=by
 unfold results
 congr 1
 all_goals (congr 1;all_goals (funext x;cases x<;>rfl))
theorem run_rv {P:Program} [Tabs P] {B:Base P} {s:AS} {G:List CO} {a:Act} {w:World} (r:Rel' B s G a w) {rv:ResultVar} {x:AV} (h:s.rv P rv=some x):
  ∃v,(rvRun a rv).run P w= .ok v w∧R w (env B s.o G w) x v []:=by
 cases rv with
 |tmp t=>
  simp only [AS.rv,Option.some.injEq] at h
  subst h
  exact ⟨a.tmps.getD t Go.undef,rfl,r.ev (.tmp t)⟩
 |cell t ty=>
  simp only [AS.rv] at h
  split at h
  ·rename_i i ver idx off hx
   split at h
   ·rename_i ob e ha
    obtain ⟨ho,he⟩:=at_some ha
    obtain ⟨g,b,f,hl,hlive,hga,hv⟩:=r.ptr (x:= .tmp t) hx ho
    obtain ⟨b',f',cs,ha',hcn,hc,hone,hrc⟩:=r.elem hl hlive he
    rw [hga] at ha'
    simp only [Option.some.injEq,Addr.mk.injEq,and_true] at ha'
    obtain ⟨rfl,rfl⟩:=ha'
    have hle:=Rc_length hrc
    rw [rtc_length] at hle
    simp only [Act.eval] at hv
    split at h
    ·rename_i n hn
     split at h
     ·rename_i hfit
      obtain rfl:=Option.some.inj h
      refine ⟨.agg ((cs.drop off).take n).toArray,?_,by simp only [R];exact ⟨_,rfl,mem_slice hone,Rc_slice off n hrc⟩⟩
      have:=run_load_part_agg (P:=P) (t:=ty) (k:=off) (n:=n) (cs:=cs) hn (by omega) hc
      simp only [Instr.loadAt,Instr.sureAddr,pure_bind] at this
      simp [rvRun,hv,asAddr,←Nat.add_assoc,this]
     ·cases h
    ·split at h
     ·rename_i hone1
      obtain ⟨v,hv',hR⟩:=Rc_get hrc h
      refine ⟨v,?_,hR⟩
      have:=run_load_part_one (P:=P) (t:=ty) hone1 hv' hc
      simp only [Instr.loadAt,Instr.sureAddr,pure_bind] at this
      simp [rvRun,hv,asAddr,←Nat.add_assoc,this]
     ·cases h
   ·cases h
  ·cases h
def AS.rvs (P:Program) (s:AS):List ResultVar→Option (List AV)
 |[]=>some []
 |x::xs=>match s.rv P x with
  |some y=>match AS.rvs P s xs with
   |some ys=>some (y::ys)
   |none=>none
  |none=>none
def single:List AV→AV
 |[x]=>x
 |xs=> .tup xs
def Hands (P:Program) (fn:Func) (s:AS) (r:AV):Prop:=
 ∃ys,s.rvs P fn.results.toList=some ys∧resOk s.o (single ys)=true∧(uses (single ys)).Nodup∧res s.o (single ys)=r∧clean r=true
theorem run_rvs {P:Program} [Tabs P] {B:Base P} {s:AS} {G:List CO} {a:Act} {w:World} (r:Rel' B s G a w):∀{l:List ResultVar} {ys:List AV},s.rvs P l=some ys→
  ∃vs,(l.mapM (m:=Sem) (rvRun a)).run P w= .ok vs w∧Rc w (env B s.o G w) ys vs []
 |[],ys,h=>by
  simp only [AS.rvs,Option.some.injEq] at h
  subst h
  exact ⟨[],by simp,by simp [Rc]⟩
 |x::xs,ys,h=>by
  simp only [AS.rvs] at h
  split at h
  ·rename_i y hy
   split at h
   ·rename_i ys' hys
    obtain rfl:=Option.some.inj h
    obtain ⟨v,h1,h2⟩:=run_rv r hy
    obtain ⟨vs,h3,h4⟩:=run_rvs r hys
    refine ⟨v::vs,?_,by simp only [Rc];exact ⟨[],[],h2,h4,rfl⟩⟩
    simp only [List.mapM_cons,Sem.run_bind]
    rw [h1]
    simp only [Result.andThen_ok]
    rw [h3]
    simp
   ·cases h
  ·cases h
theorem run_results {P:Program} [Tabs P] {B:Base P} {s:AS} {G:List CO} {a:Act} {w:World} (r:Rel' B s G a w) {fn:Func} {ys:List AV} (h:s.rvs P fn.results.toList=some ys):
  ∃v,(results fn a.tmps).run P w= .ok v w∧R w (env B s.o G w) (single ys) v []:=by
 obtain ⟨vs,h1,h2⟩:=run_rvs r h
 have hl:=Rc_length h2
 have hm:(fn.results.mapM (m:=Sem) (rvRun a)).run P w= .ok vs.toArray w:=by
  rw [Array.mapM_eq_mapM_toList]
  simp only [Sem.run_map]
  rw [h1]
  rfl
 rw [results_rv]
 simp only [Sem.run_bind]
 rw [hm]
 simp only [Result.andThen_ok,Sem.run_pure]
 match ys,vs,hl,h2 with
 |[y],[v],_,h2=>
  refine ⟨v,by simp,?_⟩
  simp only [Rc] at h2
  obtain ⟨f1,f2,h3,_,e⟩:=h2
  obtain ⟨rfl,_⟩:f1=[]∧f2=[]:=by simpa using e
  exact h3
 |[],[],_,h2=>exact ⟨.tuple #[],by simp,by simp only [single,R];exact ⟨[],rfl,h2⟩⟩
 |y1::y2::ys,v1::v2::vs,_,h2=>exact ⟨.tuple (v1::v2::vs).toArray,by simp,by simp only [single,R];exact ⟨_,rfl,h2⟩⟩
theorem ok_of_awp {P:Program} [Tabs P] (hm:P.follows .mixedOrders=true) {f:FuncId} {fn:Func} {c:Code} (hf:P.funcs[f]? =some fn) (hb:fn.body=some c) {args:List AV} {rr:AV}
  (h:awp P c ⟨args++List.replicate (fn.ntmps - args.length) .undef,[]⟩ (fun e s=>(e= .normal∨e= .ret)∧Hands P fn s rr)):Ok P f args rr:=by
 intro w vs hg hargs
 have hl:=Rc_length hargs
 have r0:Rel' ⟨w,fun b=>b < w.heap.size,fun _=>False,fun _=>none,fun _=>none,hg,fun _ h=>h.elim,fun _ h=>h.elim⟩ ⟨args++List.replicate (fn.ntmps - args.length) .undef,[]⟩ [] {tmps:=vs.toArray++Array.replicate (fn.ntmps - vs.toArray.size) Go.undef,defers:=[]} w:=by
  refine ⟨rfl,rfl,fun i ob g hl=>by simp [look] at hl,fun i j oi oj gi gj b hl=>by simp [look] at hl,fun i ob g b hl=>by simp [look] at hl,?_,Nat.le_refl _,fun _ _ _=>rfl,fun b hb=>hb,Same.rfl⟩
  have h1:Rc w (env ⟨w,fun b=>b < w.heap.size,fun _=>False,fun _=>none,fun _=>none,hg,fun _ h=>h.elim,fun _ h=>h.elim⟩ [] [] w) args vs []:=Rc_keeps (w:=w) (w':=w) (E:=envAll w) (E':=env ⟨w,fun b=>b < w.heap.size,fun _=>False,fun _=>none,fun _=>none,hg,fun _ h=>h.elim,fun _ h=>h.elim⟩ [] [] w) ⟨fun b hb=>⟨⟨.inl hb,fun i ob g hl=>by simp [look] at hl⟩,rfl⟩,fun _ _=>trivial,fun _ _ _ h=>by exact h.elim,fun _ _ _ h=>by exact h.elim,fun _ _ _ _ _ h=>by exact h.elim⟩ _ _ _ (by simp) hargs
  have h2:∀n,Rc w (env ⟨w,fun b=>b < w.heap.size,fun _=>False,fun _=>none,fun _=>none,hg,fun _ h=>h.elim,fun _ h=>h.elim⟩ [] [] w) (List.replicate n .undef) (List.replicate n Go.undef) []:=by
   intro n
   induction n with
   |zero=>simp [Rc]
   |succ n ih=>simp only [List.replicate_succ,Rc];exact ⟨[],[],by simp [R],ih,rfl⟩
  have:=Rc_append h1 (h2 (fn.ntmps - args.length))
  simpa [hl] using this
 refine calls_of_wp hf hb (wp_mono (awp_sound hm c _ _ h _ _ ⟨_,r0⟩) fun e a w' he=> ?_)
 obtain ⟨s,⟨he,ys,hys,hok,hu,hres,hcl⟩,G,r⟩:=he
 obtain ⟨v,hrun,hR⟩:=run_results r hys
 obtain ⟨fp,h1,h2,h3⟩:=R_res r _ v hok hu hR
 rw [hres] at h1
 have hfin:∃v' fp,Ending.returned v= .returned v'∧R w' (envNew w.heap.size w' fp) rr v' fp∧fp.Nodup∧(∀b∈fp,w.heap.size≤b∧b < w'.heap.size)∧w.heap.size≤w'.heap.size∧(∀b,b < w.heap.size→w'.heap[b]? =w.heap[b]?)∧Same w w':=by
  refine ⟨v,fp,rfl,R_new <| R_clean (E:=(env _ s.o G w').plain) (fun _ _=>trivial) rfl rfl rfl _ _ _ hcl h1,h2,fun b hb=> ?_,r.size,fun b hb=>r.frame b hb (fun h=>h),r.same⟩
  obtain ⟨i,ob,g,_,hl,hlive,hF⟩:=h3 b hb
  have:=r.fresh _ _ _ b hl hlive hF
  exact ⟨this.1.resolve_left (fun h=>h),this.2⟩
 rcases he with rfl|rfl
 ·exact ⟨r.defs,v,hrun,hfin⟩
 ·exact ⟨r.defs,v,hrun,hfin⟩
theorem awpL_nil {P:Program} [Tabs P] {all:List Oper} {s:AS} {K:AS→Prop} (h:K s):awpL P all [] s K:=h
theorem awp_region {P:Program} [Tabs P] {id:Nat} {l:List Oper} {s:AS} {Q:Exit→AS→Prop} (h:awpL P l l s (Q .normal)):awp P (.region id l.toArray false) s Q:=by
 simp only [awp];exact ⟨s,Weak.refl s,h⟩
theorem awp_cond {P:Program} [Tabs P] {c:Operand} {x y:Code} {s:AS} {Q:Exit→AS→Prop} {b:Bool} (hc:s.ev c= .bool b) (h1:b=true→awp P x s Q) (h2:b=false→awp P y s Q):awp P (.cond c x y) s Q:=by
 simp only [awp,hc]
 exact ⟨h1,h2⟩
theorem awp_block {P:Program} [Tabs P] {id:Nat} {c:Code} {s:AS} {Q:Exit→AS→Prop} (h:awp P c s (AIn id Q)):awp P (.block id c) s Q:=h
theorem awp_exit {P:Program} [Tabs P] {id:Nat} {s:AS} {Q:Exit→AS→Prop} (h:Q (.exit id) s):awp P (.exit id) s Q:=h
theorem awp_ret {P:Program} [Tabs P] {s:AS} {Q:Exit→AS→Prop} (h:Q .ret s):awp P .ret s Q:=h
theorem awp_skip {P:Program} [Tabs P] {s:AS} {Q:Exit→AS→Prop} (h:Q .normal s):awp P .skip s Q:=h
theorem awp_loop {P:Program} [Tabs P] {c:Code} {s:AS} {Q:Exit→AS→Prop} {ι:Type} (inv:ι→AS) (μ:ι→Nat) (i:ι) (h0:Weak s (inv i)) (h:∀i,∀K:AS→Prop,(∀s' j,Weak s' (inv j)→μ j < μ i→K s')→awp P c (inv i) (AThen K Q)):awp P (.loop c) s Q:=
 ⟨ι,inv,μ,i,h0,fun i=>h i _ fun _ j h1 h2=>⟨j,h1,h2⟩⟩
theorem awp_then_ret {K:AS→Prop} {Q:Exit→AS→Prop} {s:AS} (h:Q .ret s):AThen K Q .ret s:=h
theorem awp_then_exit {K:AS→Prop} {Q:Exit→AS→Prop} {s:AS} {id:Nat} (h:Q (.exit id) s):AThen K Q (.exit id) s:=h
theorem awp_in_normal {Q:Exit→AS→Prop} {s:AS} {id:Nat} (h:Q .normal s):AIn id Q .normal s:=h
theorem awp_in_ret {Q:Exit→AS→Prop} {s:AS} {id:Nat} (h:Q .ret s):AIn id Q .ret s:=h
theorem awp_in_eq {Q:Exit→AS→Prop} {s:AS} {id:Nat} (h:Q .normal s):AIn id Q (.exit id) s:=by simpa [AIn] using h
theorem awp_in_ne {Q:Exit→AS→Prop} {s:AS} {id id':Nat} (hne:id'≠id) (h:Q (.exit id') s):AIn id Q (.exit id') s:=by simpa [AIn,hne] using h
def wk:List AV→List AV→Prop
 |[],[]=>True
 |x::xs,y::ys=>(y=x∨y= .undef)∧wk xs ys
 |_,_=>False
theorem Rc_wk {w:World} {E:Env}:∀{t t':List AV} {vs:List Value},wk t t'→Rc w E t vs []→Rc w E t' vs []
 |[],[],_,_,h=>h
 |[],_::_,_,h,_=>h.elim
 |_::_,[],_,h,_=>h.elim
 |_::_,_::_,[],_,h=>by simp [Rc] at h
 |x::xs,y::ys,v::vs,h,hr=>by
  simp only [Rc] at hr⊢
  obtain ⟨f1,f2,h1,h2,e⟩:=hr
  obtain ⟨rfl,rfl⟩:f1=[]∧f2=[]:=by simpa using e
  refine ⟨[],[],?_,Rc_wk h.2 h2,rfl⟩
  rcases h.1 with rfl|rfl
  ·exact h1
  ·simp [R]
theorem weak_t {t t':List AV} {o:List AObj} (h:wk t t'):Weak ⟨t,o⟩ ⟨t',o⟩:=by
 rintro P _ B a w ⟨G,r⟩
 exact ⟨G,{r with tmps:=Rc_wk h r.tmps}⟩
theorem wrap64 (n:Int) (h1: -9223372036854775808≤n) (h2:n≤9223372036854775807):IntKind.i64.wrap n=n:=by rw [IntKind.wrap_i64];omega
mutual
def absN : AV → Nat
  | .sl .own _ _ => 1
  | .agg c => absNc c
  | .tup c => absNc c
  | _ => 0
def absNc : List AV → Nat
  | [] => 0
  | x :: xs => absN x + absNc xs
end
mutual
def absV (q k : Nat) : AV → AV
  | .sl .own _ _ => .obj k q
  | .agg c => .agg (absVc q k c)
  | .tup c => .tup (absVc q k c)
  | .int a b => .int a b
  | .bool b => .bool b
  | .str s => .str s
  | .sl g n l => .sl g n l
  | .vptr g c off => .vptr g c off
  | .obj i v => .obj i v
  | .ptr i v j o => .ptr i v j o
  | .fn f c => .fn f c
  | .undef => .undef
def absVc (q k : Nat) : List AV → List AV
  | [] => []
  | x :: xs => absV q k x :: absVc q (k + absN x) xs
end
mutual
def absO (q : Nat) : AV → List AObj
  | .sl .own n l => [⟨true, false, n, q, l⟩]
  | .agg c => absOc q c
  | .tup c => absOc q c
  | .int _ _ => []
  | .bool _ => []
  | .str _ => []
  | .sl _ _ _ => []
  | .vptr _ _ _ => []
  | .obj _ _ => []
  | .ptr _ _ _ _ => []
  | .fn _ _ => []
  | .undef => []
def absOc (q : Nat) : List AV → List AObj
  | [] => []
  | x :: xs => absO q x ++ absOc q xs
end
mutual
theorem absO_length (q : Nat) : ∀ x : AV, (absO q x).length = absN x
  | .sl .own _ _ => rfl
  | .sl .view _ _ => rfl
  | .sl (.dep _) _ _ => rfl
  | .agg c => absOc_length q c
  | .tup c => absOc_length q c
  | .int _ _ => rfl
  | .bool _ => rfl
  | .str _ => rfl
  | .vptr _ _ _ => rfl
  | .obj _ _ => rfl
  | .ptr _ _ _ _ => rfl
  | .fn _ _ => rfl
  | .undef => rfl
theorem absOc_length (q : Nat) : ∀ c : List AV, (absOc q c).length = absNc c
  | [] => rfl
  | x :: xs => by simp only [absOc, absNc, List.length_append, absO_length q x, absOc_length q xs]
end
mutual
theorem absorb_eq (q k : Nat) : ∀ x : AV, absorb q k x = (absV q k x, absO q x)
  | .sl .own _ _ => rfl
  | .sl .view _ _ => rfl
  | .sl (.dep _) _ _ => rfl
  | .agg c => by simp only [absorb, absV, absO, absorbc_eq q k c]
  | .tup c => by simp only [absorb, absV, absO, absorbc_eq q k c]
  | .int _ _ => rfl
  | .bool _ => rfl
  | .str _ => rfl
  | .vptr _ _ _ => rfl
  | .obj _ _ => rfl
  | .ptr _ _ _ _ => rfl
  | .fn _ _ => rfl
  | .undef => rfl
theorem absorbc_eq (q k : Nat) : ∀ c : List AV, absorbc q k c = (absVc q k c, absOc q c)
  | [] => rfl
  | x :: xs => by simp only [absorbc, absVc, absOc, absorb_eq q k x, absorbc_eq q _ xs, absO_length]
end
attribute [simp] wk AS.ev AS.put AS.box AS.shut AV.fit AV.cells AV.isObj AS.at AS.stored loadA ofV rt rtc rtr AV.kept dpf vwf AS.args arg argc AS.called absV absVc absO absOc absN absNc absorb_eq absorbc_eq AS.target AS.source AS.appended AS.resliced AS.bound AS.made intBin strBin AObj.kill
  AV.solid AV.good AV.known AV.scalar inOrder inOrder.go AS.built kills kill1 usesc uses resc res resOk resOkc fillA clean cleanc cleanr single AS.rv AS.rvs guardA AThen AIn AV.nd rowsNd_nil rowsNd_cons rowsNd_set dropf AV.plainV
attribute [irreducible] awp awpL AThen AIn
end Go.Aw

namespace Go.Aw
theorem loadA_imp {P:Program} [Tabs P] {t:TypeId} {c:List AV} {off:Nat} {K1 K2:AV→Prop} (hk:∀y,K1 y→K2 y) (h:loadA P t c off K1):loadA P t c off K2:=by
 unfold loadA at *
 split at h
 ·exact ⟨h.1,hk _ h.2⟩
 ·refine ⟨h.1,?_⟩
  have:=h.2
  split at this
  ·exact hk _ this
  ·exact this.elim
theorem aop_imp {P:Program} [Tabs P] {o:Oper} {s:AS} {K1 K2:AS→Prop} (hk:∀s',K1 s'→K2 s') (h:aop P o s K1):aop P o s K2:=by
 obtain ⟨dst,op,ty,pos,after,gd⟩:=o
 unfold aop at h⊢
 dsimp only at h⊢
 split at h
 all_goals (repeat' (split at h))
 all_goals (first
  |exact h.elim
  |exact hk _ h
  |exact ⟨h.1,hk _ h.2⟩
  |((repeat (refine ⟨h.1,?_⟩;replace h:=h.2));exact hk _ h)
  |exact loadA_imp (fun y=>hk _) h
  |exact ⟨h.1,loadA_imp (fun y=>hk _) h.2⟩
  |(obtain ⟨r,h1,h2⟩:=h;exact ⟨r,h1,hk _ h2⟩)
  |((repeat (refine ⟨h.1,?_⟩;replace h:=h.2));obtain ⟨r,h1,h2⟩:=h;exact ⟨r,h1,hk _ h2⟩)
  |((repeat (refine ⟨h.1,?_⟩;replace h:=h.2));split at h<;>first|exact hk _ h|((repeat (refine ⟨h.1,?_⟩;replace h:=h.2));exact hk _ h)|exact h.elim)
  |((repeat (refine ⟨h.1,?_⟩;replace h:=h.2));(repeat' (split at h))<;>first|exact h.elim|((repeat (refine ⟨h.1,?_⟩;replace h:=h.2));exact hk _ h)|((repeat (refine ⟨h.1,?_⟩;replace h:=h.2));obtain ⟨r,h1,h2⟩:=h;exact ⟨r,h1,hk _ h2⟩))
  |(have h9:=hk _ h;simp_all;done)
  |((first|rw [if_pos (by assumption)]|rw [if_neg (by assumption)]);((repeat (refine ⟨h.1,?_⟩;replace h:=h.2));exact hk _ h))
  |((first|rw [if_pos (by assumption)]|rw [if_neg (by assumption)]);((repeat (refine ⟨h.1,?_⟩;replace h:=h.2));obtain ⟨r,h1,h2⟩:=h;exact ⟨r,h1,hk _ h2⟩))
  |((repeat (refine ⟨h.1,?_⟩;replace h:=h.2));obtain ⟨r,h1,h2⟩:=h;refine ⟨r,h1,?_⟩;(first|rw [if_pos (by assumption)]|rw [if_neg (by assumption)]);exact hk _ h2))
theorem amutM_imp {P:Program} [Tabs P] {o:Oper} {s:AS} {K1 K2:AS→Prop} (hk:∀s',K1 s'→K2 s') (h:amutM P o s K1):amutM P o s K2:=by
 obtain ⟨dst,op,ty,pos,after,gd⟩:=o
 unfold amutM at h⊢
 dsimp only at h⊢
 split at h
 ·split at h
  ·obtain ⟨h1,h2,h3,h4,x',r,h5,h6,h7,h8⟩:=h
   exact ⟨h1,h2,h3,h4,x',r,h5,h6,h7,hk _ h8⟩
  ·exact h.elim
 ·split at h
  ·split at h
   ·obtain ⟨h1,h2,h3,h4,h5⟩:=h
    exact ⟨h1,h2,h3,h4,hk _ h5⟩
   ·exact h.elim
  ·exact h.elim
 ·exact h.elim
theorem agiv_imp {P:Program} [Tabs P] {o:Oper} {s:AS} {K1 K2:AS→Prop} (hk:∀s',K1 s'→K2 s') (h:agiv P o s K1):agiv P o s K2:=by
 obtain ⟨dst,op,ty,pos,after,gd⟩:=o
 unfold agiv at h⊢
 dsimp only at h⊢
 split at h
 ·split at h
  ·obtain ⟨h1,gs,r,h2,h3,h4,h5⟩:=h
   exact ⟨h1,gs,r,h2,h3,h4,hk _ h5⟩
  ·exact h.elim
 ·exact h.elim
theorem amut_imp {P:Program} [Tabs P] {o:Oper} {s:AS} {K1 K2:AS→Prop} (hk:∀s',K1 s'→K2 s') (h:amut P o s K1):amut P o s K2:=by
 obtain ⟨s1,hw,h⟩:=h
 exact ⟨s1,hw,h.imp (aop_imp hk) (Or.imp (amutM_imp hk) (agiv_imp hk))⟩
end Go.Aw

namespace Go.Aw
abbrev Str:=List UInt8
def sumN {α:Type} (f:α→Nat):List α→Nat
 |[]=>0
 |x::xs=>f x+sumN f xs
def szL {α:Type} (f:α→Nat) (l:List α):Nat:=l.length+sumN f l
def sub (n:Int) (k:Nat):Int:=if n < k then -1 else n - k
theorem sub_neg {n:Int} {k:Nat} (h:n < k):sub n k= -1:=by simp [sub,h]
theorem sub_pos {n:Int} {k:Nat} (h:¬n < k):sub n k=n - k:=by simp [sub,h]
theorem sumN_take_succ {α:Type} (f:α→Nat):∀(l:List α) (k:Nat) (h:k < l.length),sumN f (l.take (k+1))=sumN f (l.take k)+f l[k]
 |x::xs,0,_=>by simp [sumN]
 |x::xs,k+1,h=>by
  simp only [List.take_succ_cons,sumN,List.getElem_cons_succ]
  rw [sumN_take_succ f xs k (by simpa using h)];omega
theorem sumN_take_le {α:Type} (f:α→Nat):∀(l:List α) (k:Nat),sumN f (l.take k)≤sumN f l
 |[],k=>by simp
 |x::xs,0=>by simp [sumN]
 |x::xs,k+1=>by simp only [List.take_succ_cons,sumN];have:=sumN_take_le f xs k;omega
def fillL (z:List AV) (xs:List (List AV)) (k:Nat):List (List AV):=xs.take k++List.replicate (xs.length - k) z
@[simp] theorem fillL_length (z:List AV) (xs:List (List AV)) (k:Nat):(fillL z xs k).length=xs.length:=by simp [fillL];omega
theorem fillL_zero (z:List AV) (xs:List (List AV)):List.replicate xs.length z=fillL z xs 0:=by simp [fillL]
theorem fillL_all (z:List AV) (xs:List (List AV)) (k:Nat) (h:xs.length≤k):fillL z xs k=xs:=by
 have:xs.length - k=0:=by omega
 simp [fillL,this,List.take_of_length_le h]
theorem fillL_get (z:List AV) (xs:List (List AV)) (k:Nat) (h:k < xs.length):(fillL z xs k)[k]? =some z:=by
 have h1:(xs.take k).length=k:=by simp;omega
 rw [fillL,List.getElem?_append_right (by omega),h1,Nat.sub_self]
 have:0 < xs.length - k:=by omega
 simp [this]
theorem fillL_set (z:List AV) (xs:List (List AV)) (k:Nat) (h:k < xs.length):(fillL z xs k).set k xs[k]=fillL z xs (k+1):=by
 have h1:(xs.take k).length=k:=by simp;omega
 have h2:xs.length - k=(xs.length - (k+1))+1:=by omega
 have h3:xs.take (k+1)=xs.take k++[xs[k]]:=by rw [List.take_succ_eq_append_getElem h]
 unfold fillL
 rw [h2,List.replicate_succ,List.set_append_right _ _ (by omega),h1,Nat.sub_self,List.set_cons_zero,h3,List.append_assoc]
 rfl
@[simp] theorem cleanr_map {α:Type} (f:α→List AV) (h:∀x,cleanc (f x)=true):∀l:List α,cleanr (l.map f)=true
 |[]=>rfl
 |x::xs=>by simp only [List.map_cons,cleanr,h x,Bool.true_and];exact cleanr_map f h xs
theorem rtr_map {α:Type} {f g:α→List AV} {t:Tg→Option Tg} {b:Bool} (h:∀x,rtc t b (f x)=g x):∀l:List α,rtr t b (l.map f)=l.map g
 |[]=>rfl
 |x::xs=>by simp only [List.map_cons,rtr,h x,rtr_map h xs]
theorem sumN_get_le {α:Type} (f:α→Nat) (l:List α) (k:Nat) (h:k < l.length):f l[k]≤sumN f l:=by
 have h1:=sumN_take_succ f l k h
 have h2:=sumN_take_le f l (k+1)
 omega
theorem sumN_mem_le {α:Type} (f:α→Nat) {l:List α} {x:α} (h:x∈l):f x≤sumN f l:=by
 obtain ⟨k,hk,rfl⟩:=List.getElem_of_mem h
 exact sumN_get_le f l k hk
end Go.Aw

namespace Go.Aw
@[simp] def eInt (n:Int):List AV:=[.int .i64 n]
@[simp] def eBool (n:Bool):List AV:=[.bool n]
@[simp] def eStr (s:Str):List AV:=[.str s]
def szStr (s:Str):Nat:=s.length
@[simp] theorem rtr_eInt (t:Tg→Option Tg) (b:Bool) (l:List Int):rtr t b (l.map eInt)=l.map eInt:=rtr_map (by intro x;rfl) l
@[simp] theorem rtr_eStr (t:Tg→Option Tg) (b:Bool) (l:List Str):rtr t b (l.map eStr)=l.map eStr:=rtr_map (by intro x;rfl) l
@[simp] theorem clean_eInt (l:List Int):cleanr (l.map eInt)=true:=cleanr_map _ (by intro x;rfl) l
@[simp] theorem clean_eStr (l:List Str):cleanr (l.map eStr)=true:=cleanr_map _ (by intro x;rfl) l
structure DAddr where
  host : Str
  path : Str
deriving DecidableEq
@[simp] def eAddr (x:DAddr):List AV:=[.str x.host,.str x.path]
def szAddr (x:DAddr):Nat:=x.host.length+x.path.length
def wfAddr (x:DAddr):Prop:=x.host.length≤9223372036854775807∧x.path.length≤9223372036854775807
@[simp] theorem rtr_eAddr (t:Tg→Option Tg) (b:Bool) (l:List DAddr):rtr t b (l.map eAddr)=l.map eAddr:=rtr_map (by intro x;rfl) l
@[simp] theorem clean_eAddr (l:List DAddr):cleanr (l.map eAddr)=true:=cleanr_map _ (by intro x;rfl) l
structure DAttr where
  name : Str
  value : Str
deriving DecidableEq
@[simp] def eAttr (x:DAttr):List AV:=[.str x.name,.str x.value]
def szAttr (x:DAttr):Nat:=x.name.length+x.value.length
def wfAttr (x:DAttr):Prop:=x.name.length≤9223372036854775807∧x.value.length≤9223372036854775807
@[simp] theorem rtr_eAttr (t:Tg→Option Tg) (b:Bool) (l:List DAttr):rtr t b (l.map eAttr)=l.map eAttr:=rtr_map (by intro x;rfl) l
@[simp] theorem clean_eAttr (l:List DAttr):cleanr (l.map eAttr)=true:=cleanr_map _ (by intro x;rfl) l
structure DToken where
  kind : Int
  name : Str
  attrs : List DAttr
  text : Str
deriving DecidableEq
@[simp] def eToken (g:Tg) (x:DToken):List AV:=[.int .i64 x.kind,.str x.name,.sl g 2 (x.attrs.map eAttr),.str x.text]
def szToken (x:DToken):Nat:=x.name.length+(szL szAttr x.attrs)+x.text.length
def wfToken (x:DToken):Prop:=x.name.length≤9223372036854775807∧(x.attrs.length≤9223372036854775807∧∀y∈x.attrs,wfAttr y)∧x.text.length≤9223372036854775807
@[simp] theorem rtr_vw_eToken (g:Tg) (b:Bool) (l:List DToken):rtr (fun _=>some .view) b (l.map (eToken g))=l.map (eToken .view):=rtr_map (by intro x;simp) l
@[simp] theorem rtr_dpo_eToken (i:Nat) (b:Bool) (l:List DToken):rtr (dpf i) b (l.map (eToken .own))=l.map (eToken (.dep i)):=rtr_map (by intro x;simp) l
@[simp] theorem rtr_dpv_eToken (i:Nat) (b:Bool) (l:List DToken):rtr (dpf i) b (l.map (eToken .view))=l.map (eToken .view):=rtr_map (by intro x;simp) l
@[simp] theorem rtr_dpd_eToken (i j:Nat) (b:Bool) (l:List DToken):rtr (dpf i) b (l.map (eToken (.dep j)))=l.map (eToken (.dep j)):=rtr_map (by intro x;simp) l
@[simp] theorem rtr_vwo_eToken (b:Bool) (l:List DToken):rtr vwf b (l.map (eToken .own))=l.map (eToken .view):=rtr_map (by intro x;simp) l
@[simp] theorem rtr_vwv_eToken (b:Bool) (l:List DToken):rtr vwf b (l.map (eToken .view))=l.map (eToken .view):=rtr_map (by intro x;simp) l
@[simp] theorem clean_eToken (l:List DToken):cleanr (l.map (eToken .own))=true:=cleanr_map _ (by intro x;simp) l
structure DTokenizer where
  rest : Str
deriving DecidableEq
@[simp] def eTokenizer (x:DTokenizer):List AV:=[.str x.rest]
def szTokenizer (x:DTokenizer):Nat:=x.rest.length
def wfTokenizer (x:DTokenizer):Prop:=x.rest.length≤9223372036854775807
@[simp] theorem rtr_eTokenizer (t:Tg→Option Tg) (b:Bool) (l:List DTokenizer):rtr t b (l.map eTokenizer)=l.map eTokenizer:=rtr_map (by intro x;rfl) l
@[simp] theorem clean_eTokenizer (l:List DTokenizer):cleanr (l.map eTokenizer)=true:=cleanr_map _ (by intro x;rfl) l
structure DNode where
  name : Str
  text : Str
  parent : Int
  attrs : List DAttr
deriving DecidableEq
@[simp] def eNode (g:Tg) (x:DNode):List AV:=[.str x.name,.str x.text,.int .i64 x.parent,.sl g 2 (x.attrs.map eAttr)]
def szNode (x:DNode):Nat:=x.name.length+x.text.length+(szL szAttr x.attrs)
def wfNode (x:DNode):Prop:=x.name.length≤9223372036854775807∧x.text.length≤9223372036854775807∧(x.attrs.length≤9223372036854775807∧∀y∈x.attrs,wfAttr y)
@[simp] theorem rtr_vw_eNode (g:Tg) (b:Bool) (l:List DNode):rtr (fun _=>some .view) b (l.map (eNode g))=l.map (eNode .view):=rtr_map (by intro x;simp) l
@[simp] theorem rtr_dpo_eNode (i:Nat) (b:Bool) (l:List DNode):rtr (dpf i) b (l.map (eNode .own))=l.map (eNode (.dep i)):=rtr_map (by intro x;simp) l
@[simp] theorem rtr_dpv_eNode (i:Nat) (b:Bool) (l:List DNode):rtr (dpf i) b (l.map (eNode .view))=l.map (eNode .view):=rtr_map (by intro x;simp) l
@[simp] theorem rtr_dpd_eNode (i j:Nat) (b:Bool) (l:List DNode):rtr (dpf i) b (l.map (eNode (.dep j)))=l.map (eNode (.dep j)):=rtr_map (by intro x;simp) l
@[simp] theorem rtr_vwo_eNode (b:Bool) (l:List DNode):rtr vwf b (l.map (eNode .own))=l.map (eNode .view):=rtr_map (by intro x;simp) l
@[simp] theorem rtr_vwv_eNode (b:Bool) (l:List DNode):rtr vwf b (l.map (eNode .view))=l.map (eNode .view):=rtr_map (by intro x;simp) l
@[simp] theorem clean_eNode (l:List DNode):cleanr (l.map (eNode .own))=true:=cleanr_map _ (by intro x;simp) l
structure DBuilder where
  nodes : List DNode
  opens : List Int
deriving DecidableEq
@[simp] def eBuilder (g:Tg) (x:DBuilder):List AV:=[.sl g 4 (x.nodes.map (eNode g)),.sl g 1 (x.opens.map eInt)]
def szBuilder (x:DBuilder):Nat:=(szL szNode x.nodes)+x.opens.length
def wfBuilder (x:DBuilder):Prop:=(x.nodes.length≤9223372036854775807∧∀y∈x.nodes,wfNode y)∧x.opens.length≤9223372036854775807
@[simp] theorem rtr_vw_eBuilder (g:Tg) (b:Bool) (l:List DBuilder):rtr (fun _=>some .view) b (l.map (eBuilder g))=l.map (eBuilder .view):=rtr_map (by intro x;simp) l
@[simp] theorem rtr_dpo_eBuilder (i:Nat) (b:Bool) (l:List DBuilder):rtr (dpf i) b (l.map (eBuilder .own))=l.map (eBuilder (.dep i)):=rtr_map (by intro x;simp) l
@[simp] theorem rtr_dpv_eBuilder (i:Nat) (b:Bool) (l:List DBuilder):rtr (dpf i) b (l.map (eBuilder .view))=l.map (eBuilder .view):=rtr_map (by intro x;simp) l
@[simp] theorem rtr_dpd_eBuilder (i j:Nat) (b:Bool) (l:List DBuilder):rtr (dpf i) b (l.map (eBuilder (.dep j)))=l.map (eBuilder (.dep j)):=rtr_map (by intro x;simp) l
@[simp] theorem rtr_vwo_eBuilder (b:Bool) (l:List DBuilder):rtr vwf b (l.map (eBuilder .own))=l.map (eBuilder .view):=rtr_map (by intro x;simp) l
@[simp] theorem rtr_vwv_eBuilder (b:Bool) (l:List DBuilder):rtr vwf b (l.map (eBuilder .view))=l.map (eBuilder .view):=rtr_map (by intro x;simp) l
@[simp] theorem clean_eBuilder (l:List DBuilder):cleanr (l.map (eBuilder .own))=true:=cleanr_map _ (by intro x;simp) l
structure DRule where
  name : Str
  color : Int
deriving DecidableEq
@[simp] def eRule (x:DRule):List AV:=[.str x.name,.int .i64 x.color]
@[simp] theorem rtr_eRule (t:Tg→Option Tg) (b:Bool) (l:List DRule):rtr t b (l.map eRule)=l.map eRule:=rtr_map (by intro x;rfl) l
@[simp] theorem clean_eRule (l:List DRule):cleanr (l.map eRule)=true:=cleanr_map _ (by intro x;rfl) l
structure DSheet where
  rules : List DRule
deriving DecidableEq
@[simp] def eSheet (g:Tg) (x:DSheet):List AV:=[.sl g 2 (x.rules.map eRule)]
@[simp] theorem rtr_vw_eSheet (g:Tg) (b:Bool) (l:List DSheet):rtr (fun _=>some .view) b (l.map (eSheet g))=l.map (eSheet .view):=rtr_map (by intro x;simp) l
@[simp] theorem rtr_dpo_eSheet (i:Nat) (b:Bool) (l:List DSheet):rtr (dpf i) b (l.map (eSheet .own))=l.map (eSheet (.dep i)):=rtr_map (by intro x;simp) l
@[simp] theorem rtr_dpv_eSheet (i:Nat) (b:Bool) (l:List DSheet):rtr (dpf i) b (l.map (eSheet .view))=l.map (eSheet .view):=rtr_map (by intro x;simp) l
@[simp] theorem rtr_dpd_eSheet (i j:Nat) (b:Bool) (l:List DSheet):rtr (dpf i) b (l.map (eSheet (.dep j)))=l.map (eSheet (.dep j)):=rtr_map (by intro x;simp) l
@[simp] theorem rtr_vwo_eSheet (b:Bool) (l:List DSheet):rtr vwf b (l.map (eSheet .own))=l.map (eSheet .view):=rtr_map (by intro x;simp) l
@[simp] theorem rtr_vwv_eSheet (b:Bool) (l:List DSheet):rtr vwf b (l.map (eSheet .view))=l.map (eSheet .view):=rtr_map (by intro x;simp) l
@[simp] theorem clean_eSheet (l:List DSheet):cleanr (l.map (eSheet .own))=true:=cleanr_map _ (by intro x;simp) l
structure DLine where
  op : Int
  text : Str
deriving DecidableEq
@[simp] def eLine (x:DLine):List AV:=[.int .i64 x.op,.str x.text]
@[simp] theorem rtr_eLine (t:Tg→Option Tg) (b:Bool) (l:List DLine):rtr t b (l.map eLine)=l.map eLine:=rtr_map (by intro x;rfl) l
@[simp] theorem clean_eLine (l:List DLine):cleanr (l.map eLine)=true:=cleanr_map _ (by intro x;rfl) l
structure DPolicy where
  isSet : Bool
  scripts : List Str
  styles : List Str
  images : List Str
  nonce : Str
deriving DecidableEq
@[simp] def ePolicy (g:Tg) (x:DPolicy):List AV:=[.bool x.isSet,.sl g 1 (x.scripts.map eStr),.sl g 1 (x.styles.map eStr),.sl g 1 (x.images.map eStr),.str x.nonce]
def szPolicy (x:DPolicy):Nat:=(szL szStr x.scripts)+(szL szStr x.styles)+(szL szStr x.images)+x.nonce.length
def wfPolicy (x:DPolicy):Prop:=(x.scripts.length≤9223372036854775807∧∀y∈x.scripts,y.length≤9223372036854775807)∧(x.styles.length≤9223372036854775807∧∀y∈x.styles,y.length≤9223372036854775807)∧(x.images.length≤9223372036854775807∧∀y∈x.images,y.length≤9223372036854775807)∧x.nonce.length≤9223372036854775807
@[simp] theorem rtr_vw_ePolicy (g:Tg) (b:Bool) (l:List DPolicy):rtr (fun _=>some .view) b (l.map (ePolicy g))=l.map (ePolicy .view):=rtr_map (by intro x;simp) l
@[simp] theorem rtr_dpo_ePolicy (i:Nat) (b:Bool) (l:List DPolicy):rtr (dpf i) b (l.map (ePolicy .own))=l.map (ePolicy (.dep i)):=rtr_map (by intro x;simp) l
@[simp] theorem rtr_dpv_ePolicy (i:Nat) (b:Bool) (l:List DPolicy):rtr (dpf i) b (l.map (ePolicy .view))=l.map (ePolicy .view):=rtr_map (by intro x;simp) l
@[simp] theorem rtr_dpd_ePolicy (i j:Nat) (b:Bool) (l:List DPolicy):rtr (dpf i) b (l.map (ePolicy (.dep j)))=l.map (ePolicy (.dep j)):=rtr_map (by intro x;simp) l
@[simp] theorem rtr_vwo_ePolicy (b:Bool) (l:List DPolicy):rtr vwf b (l.map (ePolicy .own))=l.map (ePolicy .view):=rtr_map (by intro x;simp) l
@[simp] theorem rtr_vwv_ePolicy (b:Bool) (l:List DPolicy):rtr vwf b (l.map (ePolicy .view))=l.map (ePolicy .view):=rtr_map (by intro x;simp) l
@[simp] theorem clean_ePolicy (l:List DPolicy):cleanr (l.map (ePolicy .own))=true:=cleanr_map _ (by intro x;simp) l
structure DResponse where
  status : Int
  kind : Int
  body : Str
  age : Int
  shares : Bool
  policy : Str
deriving DecidableEq
@[simp] def eResponse (x:DResponse):List AV:=[.int .i64 x.status,.int .i64 x.kind,.str x.body,.int .i64 x.age,.bool x.shares,.str x.policy]
@[simp] theorem rtr_eResponse (t:Tg→Option Tg) (b:Bool) (l:List DResponse):rtr t b (l.map eResponse)=l.map eResponse:=rtr_map (by intro x;rfl) l
@[simp] theorem clean_eResponse (l:List DResponse):cleanr (l.map eResponse)=true:=cleanr_map _ (by intro x;rfl) l
structure DRequest where
  kind : Int
  to : DAddr
  frm : Str
  digest : Str
deriving DecidableEq
@[simp] def eRequest (x:DRequest):List AV:=[.int .i64 x.kind,.str x.to.host,.str x.to.path,.str x.frm,.str x.digest]
@[simp] theorem rtr_eRequest (t:Tg→Option Tg) (b:Bool) (l:List DRequest):rtr t b (l.map eRequest)=l.map eRequest:=rtr_map (by intro x;rfl) l
@[simp] theorem clean_eRequest (l:List DRequest):cleanr (l.map eRequest)=true:=cleanr_map _ (by intro x;rfl) l
structure DFile where
  path : Str
  response : DResponse
deriving DecidableEq
@[simp] def eFile (x:DFile):List AV:=[.str x.path,.int .i64 x.response.status,.int .i64 x.response.kind,.str x.response.body,.int .i64 x.response.age,.bool x.response.shares,.str x.response.policy]
@[simp] theorem rtr_eFile (t:Tg→Option Tg) (b:Bool) (l:List DFile):rtr t b (l.map eFile)=l.map eFile:=rtr_map (by intro x;rfl) l
@[simp] theorem clean_eFile (l:List DFile):cleanr (l.map eFile)=true:=cleanr_map _ (by intro x;rfl) l
structure DServer where
  host : Str
  files : List DFile
deriving DecidableEq
@[simp] def eServer (g:Tg) (x:DServer):List AV:=[.str x.host,.sl g 7 (x.files.map eFile)]
@[simp] theorem rtr_vw_eServer (g:Tg) (b:Bool) (l:List DServer):rtr (fun _=>some .view) b (l.map (eServer g))=l.map (eServer .view):=rtr_map (by intro x;simp) l
@[simp] theorem rtr_dpo_eServer (i:Nat) (b:Bool) (l:List DServer):rtr (dpf i) b (l.map (eServer .own))=l.map (eServer (.dep i)):=rtr_map (by intro x;simp) l
@[simp] theorem rtr_dpv_eServer (i:Nat) (b:Bool) (l:List DServer):rtr (dpf i) b (l.map (eServer .view))=l.map (eServer .view):=rtr_map (by intro x;simp) l
@[simp] theorem rtr_dpd_eServer (i j:Nat) (b:Bool) (l:List DServer):rtr (dpf i) b (l.map (eServer (.dep j)))=l.map (eServer (.dep j)):=rtr_map (by intro x;simp) l
@[simp] theorem rtr_vwo_eServer (b:Bool) (l:List DServer):rtr vwf b (l.map (eServer .own))=l.map (eServer .view):=rtr_map (by intro x;simp) l
@[simp] theorem rtr_vwv_eServer (b:Bool) (l:List DServer):rtr vwf b (l.map (eServer .view))=l.map (eServer .view):=rtr_map (by intro x;simp) l
@[simp] theorem clean_eServer (l:List DServer):cleanr (l.map (eServer .own))=true:=cleanr_map _ (by intro x;simp) l
structure DEntry where
  top : Str
  to : DAddr
  response : DResponse
  til : Int
deriving DecidableEq
@[simp] def eEntry (x:DEntry):List AV:=[.str x.top,.str x.to.host,.str x.to.path,.int .i64 x.response.status,.int .i64 x.response.kind,.str x.response.body,.int .i64 x.response.age,.bool x.response.shares,.str x.response.policy,.int .i64 x.til]
@[simp] theorem rtr_eEntry (t:Tg→Option Tg) (b:Bool) (l:List DEntry):rtr t b (l.map eEntry)=l.map eEntry:=rtr_map (by intro x;rfl) l
@[simp] theorem clean_eEntry (l:List DEntry):cleanr (l.map eEntry)=true:=cleanr_map _ (by intro x;rfl) l
structure DCache where
  entries : List DEntry
deriving DecidableEq
@[simp] def eCache (g:Tg) (x:DCache):List AV:=[.sl g 10 (x.entries.map eEntry)]
@[simp] theorem rtr_vw_eCache (g:Tg) (b:Bool) (l:List DCache):rtr (fun _=>some .view) b (l.map (eCache g))=l.map (eCache .view):=rtr_map (by intro x;simp) l
@[simp] theorem rtr_dpo_eCache (i:Nat) (b:Bool) (l:List DCache):rtr (dpf i) b (l.map (eCache .own))=l.map (eCache (.dep i)):=rtr_map (by intro x;simp) l
@[simp] theorem rtr_dpv_eCache (i:Nat) (b:Bool) (l:List DCache):rtr (dpf i) b (l.map (eCache .view))=l.map (eCache .view):=rtr_map (by intro x;simp) l
@[simp] theorem rtr_dpd_eCache (i j:Nat) (b:Bool) (l:List DCache):rtr (dpf i) b (l.map (eCache (.dep j)))=l.map (eCache (.dep j)):=rtr_map (by intro x;simp) l
@[simp] theorem rtr_vwo_eCache (b:Bool) (l:List DCache):rtr vwf b (l.map (eCache .own))=l.map (eCache .view):=rtr_map (by intro x;simp) l
@[simp] theorem rtr_vwv_eCache (b:Bool) (l:List DCache):rtr vwf b (l.map (eCache .view))=l.map (eCache .view):=rtr_map (by intro x;simp) l
@[simp] theorem clean_eCache (l:List DCache):cleanr (l.map (eCache .own))=true:=cleanr_map _ (by intro x;simp) l
structure DSent where
  top : Str
  to : DAddr
  guess : Bool
deriving DecidableEq
@[simp] def eSent (x:DSent):List AV:=[.str x.top,.str x.to.host,.str x.to.path,.bool x.guess]
@[simp] theorem rtr_eSent (t:Tg→Option Tg) (b:Bool) (l:List DSent):rtr t b (l.map eSent)=l.map eSent:=rtr_map (by intro x;rfl) l
@[simp] theorem clean_eSent (l:List DSent):cleanr (l.map eSent)=true:=cleanr_map _ (by intro x;rfl) l
structure DNet where
  servers : List DServer
  cache : DCache
  log : List DSent
  now : Int
deriving DecidableEq
@[simp] def eNet (g:Tg) (x:DNet):List AV:=[.sl g 2 (x.servers.map (eServer g)),.sl g 10 (x.cache.entries.map eEntry),.sl g 4 (x.log.map eSent),.int .i64 x.now]
@[simp] theorem rtr_vw_eNet (g:Tg) (b:Bool) (l:List DNet):rtr (fun _=>some .view) b (l.map (eNet g))=l.map (eNet .view):=rtr_map (by intro x;simp) l
@[simp] theorem rtr_dpo_eNet (i:Nat) (b:Bool) (l:List DNet):rtr (dpf i) b (l.map (eNet .own))=l.map (eNet (.dep i)):=rtr_map (by intro x;simp) l
@[simp] theorem rtr_dpv_eNet (i:Nat) (b:Bool) (l:List DNet):rtr (dpf i) b (l.map (eNet .view))=l.map (eNet .view):=rtr_map (by intro x;simp) l
@[simp] theorem rtr_dpd_eNet (i j:Nat) (b:Bool) (l:List DNet):rtr (dpf i) b (l.map (eNet (.dep j)))=l.map (eNet (.dep j)):=rtr_map (by intro x;simp) l
@[simp] theorem rtr_vwo_eNet (b:Bool) (l:List DNet):rtr vwf b (l.map (eNet .own))=l.map (eNet .view):=rtr_map (by intro x;simp) l
@[simp] theorem rtr_vwv_eNet (b:Bool) (l:List DNet):rtr vwf b (l.map (eNet .view))=l.map (eNet .view):=rtr_map (by intro x;simp) l
@[simp] theorem clean_eNet (l:List DNet):cleanr (l.map (eNet .own))=true:=cleanr_map _ (by intro x;simp) l
structure DSlot where
  mode : Int
  to : DAddr
  digest : Str
  node : Int
  done : Bool
  code : Int
  body : Str
deriving DecidableEq
@[simp] def eSlot (x:DSlot):List AV:=[.int .i64 x.mode,.str x.to.host,.str x.to.path,.str x.digest,.int .i64 x.node,.bool x.done,.int .i64 x.code,.str x.body]
def szSlot (x:DSlot):Nat:=(szAddr x.to)+x.digest.length+x.body.length
def wfSlot (x:DSlot):Prop:=wfAddr x.to∧x.digest.length≤9223372036854775807∧x.body.length≤9223372036854775807
@[simp] theorem rtr_eSlot (t:Tg→Option Tg) (b:Bool) (l:List DSlot):rtr t b (l.map eSlot)=l.map eSlot:=rtr_map (by intro x;rfl) l
@[simp] theorem clean_eSlot (l:List DSlot):cleanr (l.map eSlot)=true:=cleanr_map _ (by intro x;rfl) l
structure DModule where
  to : DAddr
  done : Bool
  code : Int
  body : Str
deriving DecidableEq
@[simp] def eModule (x:DModule):List AV:=[.str x.to.host,.str x.to.path,.bool x.done,.int .i64 x.code,.str x.body]
def szModule (x:DModule):Nat:=(szAddr x.to)+x.body.length
def wfModule (x:DModule):Prop:=wfAddr x.to∧x.body.length≤9223372036854775807
@[simp] theorem rtr_eModule (t:Tg→Option Tg) (b:Bool) (l:List DModule):rtr t b (l.map eModule)=l.map eModule:=rtr_map (by intro x;rfl) l
@[simp] theorem clean_eModule (l:List DModule):cleanr (l.map eModule)=true:=cleanr_map _ (by intro x;rfl) l
structure DPage where
  addr : DAddr
  policy : DPolicy
  tok : DTokenizer
  queue : List DToken
  ended : Bool
  builder : DBuilder
  slots : List DSlot
  mods : List DModule
  entries : List DAddr
  block : Int
  inline : Int
  deferred : Int
  entered : Int
  ran : List DAddr
  log : List Str
  loaded : Bool
deriving DecidableEq
@[simp] def ePage (g:Tg) (x:DPage):List AV:=[.str x.addr.host,.str x.addr.path,.bool x.policy.isSet,.sl g 1 (x.policy.scripts.map eStr),.sl g 1 (x.policy.styles.map eStr),.sl g 1 (x.policy.images.map eStr),.str x.policy.nonce,.str x.tok.rest,.sl g 4 (x.queue.map (eToken g)),.bool x.ended,.sl g 4 (x.builder.nodes.map (eNode g)),.sl g 1 (x.builder.opens.map eInt),.sl g 8 (x.slots.map eSlot),.sl g 5 (x.mods.map eModule),.sl g 2 (x.entries.map eAddr),.int .i64 x.block,.int .i64 x.inline,.int .i64 x.deferred,.int .i64 x.entered,.sl g 2 (x.ran.map eAddr),.sl g 1 (x.log.map eStr),.bool x.loaded]
def szPage (x:DPage):Nat:=(szAddr x.addr)+(szPolicy x.policy)+(szTokenizer x.tok)+(szL szToken x.queue)+(szBuilder x.builder)+(szL szSlot x.slots)+(szL szModule x.mods)+(szL szAddr x.entries)+(szL szAddr x.ran)+(szL szStr x.log)
def wfPage (x:DPage):Prop:=wfAddr x.addr∧wfPolicy x.policy∧wfTokenizer x.tok∧(x.queue.length≤9223372036854775807∧∀y∈x.queue,wfToken y)∧wfBuilder x.builder∧(x.slots.length≤9223372036854775807∧∀y∈x.slots,wfSlot y)∧(x.mods.length≤9223372036854775807∧∀y∈x.mods,wfModule y)∧(x.entries.length≤9223372036854775807∧∀y∈x.entries,wfAddr y)∧(x.ran.length≤9223372036854775807∧∀y∈x.ran,wfAddr y)∧(x.log.length≤9223372036854775807∧∀y∈x.log,y.length≤9223372036854775807)
@[simp] theorem rtr_vw_ePage (g:Tg) (b:Bool) (l:List DPage):rtr (fun _=>some .view) b (l.map (ePage g))=l.map (ePage .view):=rtr_map (by intro x;simp) l
@[simp] theorem rtr_dpo_ePage (i:Nat) (b:Bool) (l:List DPage):rtr (dpf i) b (l.map (ePage .own))=l.map (ePage (.dep i)):=rtr_map (by intro x;simp) l
@[simp] theorem rtr_dpv_ePage (i:Nat) (b:Bool) (l:List DPage):rtr (dpf i) b (l.map (ePage .view))=l.map (ePage .view):=rtr_map (by intro x;simp) l
@[simp] theorem rtr_dpd_ePage (i j:Nat) (b:Bool) (l:List DPage):rtr (dpf i) b (l.map (ePage (.dep j)))=l.map (ePage (.dep j)):=rtr_map (by intro x;simp) l
@[simp] theorem rtr_vwo_ePage (b:Bool) (l:List DPage):rtr vwf b (l.map (ePage .own))=l.map (ePage .view):=rtr_map (by intro x;simp) l
@[simp] theorem rtr_vwv_ePage (b:Bool) (l:List DPage):rtr vwf b (l.map (ePage .view))=l.map (ePage .view):=rtr_map (by intro x;simp) l
@[simp] theorem clean_ePage (l:List DPage):cleanr (l.map (ePage .own))=true:=cleanr_map _ (by intro x;simp) l
structure DResult where
  builder : DBuilder
  log : List Str
  verdicts : List Str
  sheet : DSheet
  loaded : Bool
deriving DecidableEq
@[simp] def eResult (g:Tg) (x:DResult):List AV:=[.sl g 4 (x.builder.nodes.map (eNode g)),.sl g 1 (x.builder.opens.map eInt),.sl g 1 (x.log.map eStr),.sl g 1 (x.verdicts.map eStr),.sl g 2 (x.sheet.rules.map eRule),.bool x.loaded]
@[simp] theorem rtr_vw_eResult (g:Tg) (b:Bool) (l:List DResult):rtr (fun _=>some .view) b (l.map (eResult g))=l.map (eResult .view):=rtr_map (by intro x;simp) l
@[simp] theorem rtr_dpo_eResult (i:Nat) (b:Bool) (l:List DResult):rtr (dpf i) b (l.map (eResult .own))=l.map (eResult (.dep i)):=rtr_map (by intro x;simp) l
@[simp] theorem rtr_dpv_eResult (i:Nat) (b:Bool) (l:List DResult):rtr (dpf i) b (l.map (eResult .view))=l.map (eResult .view):=rtr_map (by intro x;simp) l
@[simp] theorem rtr_dpd_eResult (i j:Nat) (b:Bool) (l:List DResult):rtr (dpf i) b (l.map (eResult (.dep j)))=l.map (eResult (.dep j)):=rtr_map (by intro x;simp) l
@[simp] theorem rtr_vwo_eResult (b:Bool) (l:List DResult):rtr vwf b (l.map (eResult .own))=l.map (eResult .view):=rtr_map (by intro x;simp) l
@[simp] theorem rtr_vwv_eResult (b:Bool) (l:List DResult):rtr vwf b (l.map (eResult .view))=l.map (eResult .view):=rtr_map (by intro x;simp) l
@[simp] theorem clean_eResult (l:List DResult):cleanr (l.map (eResult .own))=true:=cleanr_map _ (by intro x;simp) l
structure DGuess where
  to : DAddr
  response : DResponse
  used : Bool
deriving DecidableEq
@[simp] def eGuess (x:DGuess):List AV:=[.str x.to.host,.str x.to.path,.int .i64 x.response.status,.int .i64 x.response.kind,.str x.response.body,.int .i64 x.response.age,.bool x.response.shares,.str x.response.policy,.bool x.used]
@[simp] theorem rtr_eGuess (t:Tg→Option Tg) (b:Bool) (l:List DGuess):rtr t b (l.map eGuess)=l.map eGuess:=rtr_map (by intro x;rfl) l
@[simp] theorem clean_eGuess (l:List DGuess):cleanr (l.map eGuess)=true:=cleanr_map _ (by intro x;rfl) l
end Go.Aw

namespace Go.Aw
mutual
def closed (m : Nat) : AV → Bool
  | .obj i _ => decide (i < m)
  | .ptr i _ _ _ => decide (i < m)
  | .sl (.dep i) _ _ => decide (i < m)
  | .vptr (.dep i) _ _ => decide (i < m)
  | .agg c => closedc m c
  | .tup c => closedc m c
  | .fn _ c => closedc m c
  | _ => true
def closedc (m : Nat) : List AV → Bool
  | [] => true
  | x :: xs => closed m x && closedc m xs
end
theorem look_take {o:List AObj} {G:List CO} {m i:Nat} {ob:AObj} {g:CO}:look (o.take m) (G.take m) i ob g↔i < m∧look o G i ob g:=by
 unfold look
 rw [List.getElem?_take,List.getElem?_take]
 by_cases h:i < m<;>simp [h]
theorem env_take {P:Program} [Tabs P] {B:Base P} {o:List AObj} {G:List CO} {w:World} (m:Nat):(∀b,(env B o G w).A b→(env B (o.take m) (G.take m) w).A b)∧
  (∀i,i < m→((env B (o.take m) (G.take m) w).V i↔(env B o G w).V i))∧(∀i b,i < m→(env B o G w).D i b→(env B (o.take m) (G.take m) w).D i b):=by
 refine ⟨fun b h=>⟨h.1,fun i ob g hl=>h.2 i ob g (look_take.1 hl).2⟩,fun i hi=> ?_,fun i b hi h=> ?_⟩
 ·simp only [env,List.getElem?_take,hi,if_true]
 ·obtain ⟨ob,g,hl,h⟩:=h
  exact ⟨ob,g,look_take.2 ⟨hi,hl⟩,h⟩
theorem keeps_sub_take {P:Program} [Tabs P] {B:Base P} {o:List AObj} {G:List CO} {w:World} {m i:Nat} (hi:i < m):Keeps w ((env B o G w).sub (.dep i)) w ((env B (o.take m) (G.take m) w).sub (.dep i)):=by
 have h:=env_take (B:=B) (o:=o) (G:=G) (w:=w) m
 exact ⟨fun b hb=>⟨h.1 b hb,rfl⟩,fun _ _=>trivial,fun j b _ hd=>⟨⟨hd.1,h.2.2 i b hi hd.2⟩,rfl⟩,fun _ _ _ h=>h.elim,fun _ _ _ _ _ h=>h.elim⟩
theorem keeps_plain_take {P:Program} [Tabs P] {B:Base P} {o:List AObj} {G:List CO} {w:World} (m:Nat):Keeps w (env B o G w).plain w (env B (o.take m) (G.take m) w).plain:=by
 have h:=env_take (B:=B) (o:=o) (G:=G) (w:=w) m
 exact ⟨fun b hb=>⟨h.1 b hb,rfl⟩,fun _ _=>trivial,fun _ _ _ h=>h.elim,fun _ _ _ h=>h.elim,fun _ _ _ _ _ h=>h.elim⟩
mutual
theorem R_closed {P : Program} [Tabs P] {B : Base P} {o : List AObj} {G : List CO} {w : World} {m : Nat} : ∀ (x : AV) (v : Value) (fp : List Nat), closed m x = true → R w (env B o G w) x v fp → R w (env B (o.take m) (G.take m) w) x v fp
  | .int _ _, _, _, _, h => by simpa [R] using h
  | .bool _, _, _, _, h => by simpa [R] using h
  | .str _, _, _, _, h => by simpa [R] using h
  | .sl .own n l, v, fp, _, h => by
    obtain ⟨a, cap, hv, hown⟩ := R_own.1 h
    exact R_own.2 ⟨a, cap, hv, hown.keeps (keeps_plain_take m) (fun _ _ => rfl)⟩
  | .sl .view n l, v, fp, _, h => by
    simp only [R] at h ⊢
    rcases h with h | ⟨a, cap, hv, hl, h⟩
    · exact h.1.elim
    · refine .inr ⟨a, cap, hv, hl, ?_⟩
      rcases h with h | h | ⟨hg, hf, h⟩
      · exact absurd h.1 (by simp)
      · exact absurd h.1 (by simp)
      · refine .inr (.inr ⟨hg, hf, ?_⟩)
        rcases h with h | ⟨b, off, ha, ht, hr⟩
        · exact .inl h
        · exact .inr ⟨b, off, ha, (env_take m).1 b ht, Rr_keeps (keeps_plain_take m) _ _ _ _ _ rfl (by simp) hr⟩
  | .sl (.dep i) n l, v, fp, hc, h => by
    have hi : i < m := by simpa [closed] using hc
    simp only [R] at h ⊢
    rcases h with h | ⟨a, cap, hv, hl, h⟩
    · exact .inl ⟨fun hV => h.1 (((env_take m).2.1 i hi).1 hV), h.2⟩
    · refine .inr ⟨a, cap, hv, hl, ?_⟩
      rcases h with h | h | ⟨hg, hf, h⟩
      · exact absurd h.1 (by simp)
      · exact absurd h.1 (by simp)
      · refine .inr (.inr ⟨hg, hf, ?_⟩)
        rcases h with h | ⟨b, off, ha, ht, hr⟩
        · exact .inl h
        · exact .inr ⟨b, off, ha, (env_take m).2.2 i b hi ht, Rr_keeps (keeps_sub_take hi) _ _ _ _ _ rfl (by simp) hr⟩
  | .vptr .own c off, v, fp, _, h => by
    simp only [R] at h ⊢
    rcases h with h | ⟨_, _, _, _, _, ht, _⟩
    · exact h.1.elim
    · exact ht.elim
  | .vptr .view c off, v, fp, _, h => by
    simp only [R] at h ⊢
    rcases h with h | ⟨hf, b, o', cs, hv, ht, hcs, hone, hr⟩
    · exact h.1.elim
    · exact .inr ⟨hf, b, o', cs, hv, (env_take m).1 b ht, hcs, hone, Rc_keeps (keeps_plain_take m) _ _ _ (by simp) hr⟩
  | .vptr (.dep i) c off, v, fp, hc, h => by
    have hi : i < m := by simpa [closed] using hc
    simp only [R] at h ⊢
    rcases h with h | ⟨hf, b, o', cs, hv, ht, hcs, hone, hr⟩
    · exact .inl ⟨fun hV => h.1 (((env_take m).2.1 i hi).1 hV), h.2⟩
    · exact .inr ⟨hf, b, o', cs, hv, (env_take m).2.2 i b hi ht, hcs, hone, Rc_keeps (keeps_sub_take hi) _ _ _ (by simp) hr⟩
  | .obj i ver, v, fp, hc, h => by
    have hi : i < m := by simpa [closed] using hc
    simp only [R] at h ⊢
    obtain ⟨hf, ob, g, hl, h⟩ := h
    exact ⟨hf, ob, g, look_take.2 ⟨hi, hl⟩, h⟩
  | .ptr i ver idx off, v, fp, hc, h => by
    have hi : i < m := by simpa [closed] using hc
    simp only [R] at h ⊢
    obtain ⟨hf, ob, g, hl, h⟩ := h
    exact ⟨hf, ob, g, look_take.2 ⟨hi, hl⟩, h⟩
  | .agg c, v, fp, hc, h => by
    simp only [R] at h ⊢
    obtain ⟨cs, h1, h2, h3⟩ := h
    exact ⟨cs, h1, h2, Rc_closed c cs fp (by simpa [closed] using hc) h3⟩
  | .tup c, v, fp, hc, h => by
    simp only [R] at h ⊢
    obtain ⟨cs, h1, h3⟩ := h
    exact ⟨cs, h1, Rc_closed c cs fp (by simpa [closed] using hc) h3⟩
  | .fn f c, v, fp, hc, h => by
    simp only [R] at h ⊢
    obtain ⟨h0, cs, h1, h3⟩ := h
    exact ⟨h0, cs, h1, Rc_closed c cs [] (by simpa [closed] using hc) h3⟩
  | .undef, _, _, _, h => by simpa [R] using h
theorem Rc_closed {P : Program} [Tabs P] {B : Base P} {o : List AObj} {G : List CO} {w : World} {m : Nat} : ∀ (c : List AV) (cs : List Value) (fp : List Nat), closedc m c = true → Rc w (env B o G w) c cs fp → Rc w (env B (o.take m) (G.take m) w) c cs fp
  | [], [], _, _, h => by simpa [Rc] using h
  | [], _ :: _, _, _, h => by simp [Rc] at h
  | _ :: _, [], _, _, h => by simp [Rc] at h
  | x :: xs, c :: cs, fp, hc, h => by
    simp only [Rc] at h ⊢
    simp only [closedc, Bool.and_eq_true] at hc
    obtain ⟨f1, f2, h1, h2, h3⟩ := h
    exact ⟨f1, f2, R_closed x c f1 hc.1 h1, Rc_closed xs cs f2 hc.2 h2, h3⟩
end
def closedo (m:Nat):List AObj→Bool
 |[]=>true
 |ob::r=>(!ob.box || match ob.els with
  |[e]=>closedc m e
  |_=>false)&&closedo m r
theorem closedo_mem {m:Nat}:∀{o:List AObj},closedo m o=true→∀ob∈o,ob.box=true→∃e,ob.els=[e]∧closedc m e=true
 |ob::r,h,x,hx,hb=>by
  simp only [closedo,Bool.and_eq_true] at h
  rcases List.mem_cons.1 hx with rfl|hx
  ·have h1:=h.1
   rw [hb] at h1
   simp only [Bool.not_true,Bool.false_or] at h1
   split at h1
   ·rename_i e he;exact ⟨e,he,h1⟩
   ·cases h1
  ·exact closedo_mem h.2 x hx hb
theorem weak_take {t t':List AV} {o o':List AObj} (m:Nat) (ho:o.take m=o') (h:wk t t') (hc:closedc m t'=true) (hb:closedo m o'=true):Weak ⟨t,o⟩ ⟨t',o'⟩:=by
 subst ho
 rintro P _ B a w ⟨G,r⟩
 refine ⟨G.take m,?_⟩
 exact
  {len:=by simp [r.len]
   defs:=r.defs
   ok:=fun i ob g hl hlive=>by
    have hl':=(look_take.1 hl).2
    obtain ⟨fp,hown,hnd,hF⟩:=r.ok i ob g hl' hlive
    refine ⟨fp,?_,hnd,hF⟩
    cases hbx:ob.box with
    |false=>
     rw [hbx] at hown
     exact hown.keeps (keeps_plain_take m) (fun _ _=>rfl)
    |true=>
     rw [hbx] at hown
     obtain ⟨e,he,hce⟩:=closedo_mem hb ob (List.mem_of_getElem? hl.1) hbx
     rw [he] at hown⊢
     obtain ⟨hlen,hown⟩:=hown
     refine ⟨hlen,?_⟩
     rcases hown with h|⟨b,off,C,ety,fz,fps,ha,hbk,hz,h1,h2,h3,rfl,hr⟩
     ·exact .inl h
     ·refine .inr ⟨b,off,C,ety,fz,fps,ha,hbk,hz,h1,h2,h3,rfl,?_⟩
      simp only [Rr] at hr⊢
      obtain ⟨cs,f1,f2,k1,k2,k3,k4,k5,k6⟩:=hr
      exact ⟨cs,f1,f2,k1,k2,k3,Rc_closed e cs f1 hce k4,k5,k6⟩
   apart:=fun i j oi oj gi gj b hi hj h1 h2 h3 h4=>r.apart i j _ _ _ _ b (look_take.1 hi).2 (look_take.1 hj).2 h1 h2 h3 h4
   fresh:=fun i ob g b hl h1 h2=>r.fresh i ob g b (look_take.1 hl).2 h1 h2
   tmps:=Rc_closed _ _ _ hc (Rc_wk h r.tmps)
   size:=r.size
   frame:=r.frame
   base:=r.base
   same:=r.same}
theorem weak_o {t t':List AV} {o o':List AObj} (ho:o=o') (h:wk t t'):Weak ⟨t,o⟩ ⟨t',o'⟩:=ho▸weak_t h
attribute [simp] closed closedc closedo
end Go.Aw

namespace Go.Aw
def upd (J:Nat→Bool) (i:Nat):Nat→Bool:=fun j=>if j=i then true else J j
def dv (J:Nat→Bool) (i:Nat) (v:AV):AV:=if J i=true then v else .undef
@[simp] theorem dv_upd (J:Nat→Bool) (i:Nat) (v:AV):dv (upd J i) i v=v:=by simp [dv,upd]
def drawSteps (P:Program) [Tabs P] (S:(Nat→Bool)→AS):Nat→List Oper→Prop
 |_,[]=>True
 |i,o::r=>(o.guard=none∧∀J:Nat→Bool,J i=false→(∀e∈o.after.toList,Region.binds .any e=true→J e.on=true)→aop P o (S J) fun s'=>Weak s' (S (upd J i)))∧drawSteps P S (i+1) r
def fwd:Nat→List Oper→Bool
 |_,[]=>true
 |i,o::r=>(o.after.toList.all fun e=> !Region.binds .any e || decide (e.on < i))&&fwd (i+1) r
theorem drawSteps_get {P:Program} [Tabs P] {S:(Nat→Bool)→AS}:∀{l:List Oper} {k i:Nat} {o:Oper},drawSteps P S k l→l[i]? =some o→
  o.guard=none∧∀J:Nat→Bool,J (k+i)=false→(∀e∈o.after.toList,Region.binds .any e=true→J e.on=true)→aop P o (S J) fun s'=>Weak s' (S (upd J (k+i)))
 |[],_,_,_,_,h=>by simp at h
 |x::xs,k,0,o,hd,h=>by
  simp at h;subst h;exact hd.1
 |x::xs,k,i+1,o,hd,h=>by
  have:=drawSteps_get (k:=k+1) (i:=i) hd.2 (by simpa using h)
  rwa [show k+1+i=k+(i+1) by omega] at this
theorem fwd_get:∀{l:List Oper} {k i:Nat} {o:Oper},fwd k l=true→l[i]? =some o→∀e∈o.after.toList,Region.binds .any e=true→e.on < k+i
 |[],_,_,_,_,h=>by simp at h
 |x::xs,k,0,o,hf,h=>by
  simp at h;subst h
  simp only [fwd,Bool.and_eq_true,List.all_eq_true] at hf
  intro e he hb
  have:=hf.1 e he
  simpa [hb] using this
 |x::xs,k,i+1,o,hf,h=>by
  simp only [fwd,Bool.and_eq_true] at hf
  have:=fwd_get (k:=k+1) (i:=i) hf.2 (by simpa using h)
  rwa [show k+1+i=k+(i+1) by omega] at this
def left (l:List Bool):Nat:=(l.filter fun b=> !b).length
theorem left_cons (b:Bool) (l:List Bool):left (b::l)=(if b=true then 0 else 1)+left l:=by
 cases b<;>simp [left]<;>omega
theorem left_set:∀{l:List Bool} {i:Nat},l[i]? =some false→left (l.set i true)+1=left l
 |[],_,h=>by simp at h
 |b::l,0,h=>by simp at h;subst h;simp [left_cons];omega
 |b::l,i+1,h=>by
  have:=left_set (l:=l) (i:=i) (by simpa using h)
  rw [List.set_cons_succ,left_cons,left_cons]
  omega
theorem left_zero {l:List Bool} (h:left l=0):∀{i:Nat} {b:Bool},l[i]? =some b→b=true:=by
 intro i b hb
 have hm:=List.mem_of_getElem? hb
 cases b with
 |true=>rfl
 |false=>
  have:false∈l.filter (fun b=> !b):=List.mem_filter.2 ⟨hm,rfl⟩
  rw [List.eq_nil_of_length_eq_zero h] at this
  simp at this
theorem left_pos {l:List Bool} (h:left l≠0):∃i:Nat,l[i]? =some false∧∀j:Nat,j < i→l[j]? =some true:=by
 induction l with
 |nil=>simp [left] at h
 |cons b l ih=>
  cases b with
  |false=>exact ⟨0,rfl,fun j hj=>by omega⟩
  |true=>
   have:left l≠0:=by rw [left_cons] at h;simpa using h
   obtain ⟨i,h1,h2⟩:=ih this
   refine ⟨i+1,by simpa using h1,fun j hj=> ?_⟩
   cases j with
   |zero=>rfl
   |succ j=>simpa using h2 j (by omega)
theorem draw_ok {P:Program} [Tabs P] {ops:Array Oper} {s:AS} {K:AS→Prop} (S:(Nat→Bool)→AS) (h0:Weak s (S fun _=>false)) (hf:fwd 0 ops.toList=true) (hs:drawSteps P S 0 ops.toList)
  (he:∀J:Nat→Bool,(∀i,i < ops.size→J i=true)→K (S J)):DrawOk P ops s K:=by
 intro B a w Q hr hk
 have key:∀(fuel:Nat) (listed:Array Bool) (a:Act) (w:World),listed.size=ops.size→left listed.toList=fuel→Rel B (S fun i=>listed.getD i false) a w→wpAny P .any ops Q fuel listed a w:=by
  intro fuel
  induction fuel with
  |zero=>
   intro listed a w hl hz r
   have hall:∀i,i < ops.size→listed.getD i false=true:=by
    intro i hi
    have hi':i < listed.size:=by omega
    have:=left_zero hz (i:=i) (b:=listed[i]) (by simp [hi'])
    simp [Array.getD,hi',this]
   refine ⟨?_,hk _ _ _ (he _ hall) r⟩
   unfold Region.ready
   rw [List.filter_eq_nil_iff]
   intro i hi
   have hi2:i < ops.size:=by simpa using hi
   have h1:=hall i hi2
   have hi':i < listed.size:=by omega
   have h2:listed.getD i true=true:=by
    rw [Array.getD_eq_getD_getElem?] at h1⊢
    rw [Array.getElem?_eq_getElem hi'] at h1⊢
    exact h1
   rw [h2]
   simp
  |succ fuel ih=>
   intro listed a w hl hz r
   constructor
   ·intro hnil
    exfalso
    obtain ⟨i,h1,h2⟩:=left_pos (l:=listed.toList) (by omega)
    have hi:i < listed.size:=by have:=(List.getElem?_eq_some_iff.1 h1).1;simpa using this
    have hio:i < ops.size:=by omega
    have:i∈Region.ready .any ops listed:=by
     unfold Region.ready
     rw [List.mem_filter]
     refine ⟨by simpa using hio,?_⟩
     have h1':listed[i]? =some false:=by simpa using h1
     have hop:ops[i]? =some ops[i]:=by simp [hio]
     simp only [Array.getD_eq_getD_getElem?,h1',Option.getD_some,Bool.not_false,Bool.true_and,hop,Option.map_some]
     rw [Array.all_eq_true']
     intro e he
     cases hb:Region.binds .any e with
     |false=>simp
     |true=>
      have:=fwd_get hf (i:=i) (o:=ops[i]) (by simp [hio]) e (by simpa using he) hb
      have h3:=h2 e.on (by omega)
      have h3':listed[e.on]? =some true:=by simpa using h3
      simp [h3']
    rw [hnil] at this
    simp at this
   ·intro i hi
    unfold Region.ready at hi
    rw [List.mem_filter] at hi
    obtain ⟨hi1,hi2⟩:=hi
    have hio:i < ops.size:=by simpa using hi1
    have hil:i < listed.size:=by omega
    have hop:ops[i]? =some ops[i]:=by simp [hio]
    simp only [Bool.and_eq_true,hop,Option.map_some,Option.getD_some] at hi2
    obtain ⟨h1,h2⟩:=hi2
    have h1':listed[i]? =some false:=by
     simp only [Array.getD_eq_getD_getElem?] at h1
     rw [Array.getElem?_eq_getElem hil] at h1⊢
     simpa using h1
    rw [Array.all_eq_true'] at h2
    obtain ⟨hg,hst⟩:=drawSteps_get hs (i:=i) (o:=ops[i]) (by simp [hio])
    rw [Nat.zero_add] at hst
    have hst':=hst (fun j=>listed.getD j false) (by simp [h1']) (fun e he hb=>by
     have:=h2 e (by simpa using he)
     simpa [hb] using this)
    obtain ⟨s',hw,hstep⟩:=aop_sound (B:=B) hst'
    unfold wpOp
    rw [hop]
    simp only [Region.wanted,hg,if_true]
    refine .inl (hstep a w _ Q r fun a' w' r'=>ih _ _ _ (by simpa using hl) ?_ ?_)
    ·have:=left_set (l:=listed.toList) (i:=i) (by simpa using h1')
     rw [Array.toList_setIfInBounds]
     omega
    ·have hu:upd (fun j=>listed.getD j false) i=fun j=>(listed.setIfInBounds i true).getD j false:=by
      funext j
      unfold upd
      simp only [Array.getD_eq_getD_getElem?,Array.getElem?_setIfInBounds]
      by_cases hj:j=i
      ·subst hj;simp [hil]
      ·simp [hj,Ne.symm hj]
     rw [←hu]
     exact hw B a' w' r'
 obtain ⟨G,r⟩:=hr
 have r2:Rel B s a {w with drawn:=w.drawn+1}:=⟨G,{len:=r.len,defs:=r.defs,ok:=fun i ob g hl hlive=>(r.ok i ob g hl hlive).keeps (w':={w with drawn:=w.drawn+1}) ⟨fun b h=>⟨h,rfl⟩,fun _ h=>h,fun _ _ _ h=>⟨h,rfl⟩,fun _ _ _ h=>h,fun _ _ _ _ _ h=>h⟩ (fun _ _=>rfl),apart:=r.apart,fresh:=r.fresh,tmps:=Rc_keeps (w:=w) (E:=env B s.o G w) (w':={w with drawn:=w.drawn+1}) (E':=env B s.o G {w with drawn:=w.drawn+1}) ⟨fun b h=>⟨h,rfl⟩,fun _ h=>h,fun _ _ _ h=>⟨h,rfl⟩,fun _ _ _ h=>h,fun _ _ _ _ _ h=>h⟩ _ _ _ (by simp) r.tmps,size:=r.size,frame:=r.frame,base:=r.base,same:=r.same.trans ⟨rfl,rfl,rfl⟩}⟩
 refine key _ _ _ _ (by simp) (by simp [left]) ?_
 have hJ:(fun i=>(Array.replicate ops.size false).getD i false)=fun _=>false:=by
  funext i
  simp only [Array.getD_eq_getD_getElem?,Array.getElem?_replicate]
  split<;>rfl
 rw [hJ]
 exact h0 _ _ _ r2
theorem awp_draw {P:Program} [Tabs P] {id:Nat} {l:List Oper} {s:AS} {Q:Exit→AS→Prop} (S:(Nat→Bool)→AS) (h0:Weak s (S fun _=>false)) (hf:fwd 0 l=true) (hs:drawSteps P S 0 l)
  (he:∀J:Nat→Bool,(∀i,i < l.length→J i=true)→Q .normal (S J)):awp P (.region id l.toArray true) s Q:=by
 unfold awp;exact draw_ok (ops:=l.toArray) S h0 (by simpa using hf) (by simpa using hs) (by simpa using he)
theorem aop_k {P:Program} [Tabs P] {o:Oper} {s:AS} {K:AS→Prop} (h:∀K':AS→Prop,(∀s',K s'→K' s')→aop P o s K'):aop P o s K:=h K fun _ h=>h
end Go.Aw

namespace Go.Aw
mutual
def rigid (m : Nat) : AV → Bool
  | .int _ _ => true
  | .bool _ => true
  | .str _ => true
  | .obj i ver => decide (i < m) && ver == 0
  | .agg c => rigidc m c
  | .tup c => rigidc m c
  | _ => false
def rigidc (m : Nat) : List AV → Bool
  | [] => true
  | x :: xs => rigid m x && rigidc m xs
end
mutual
theorem R_rigid {w1 w2 : World} {E1 E2 : Env} {m : Nat} {hv : Nat → Option Value} (h1 : ∀ i v, i < m → E1.H i 0 v → hv i = some v) (h2 : ∀ i v, i < m → E2.H i 0 v → hv i = some v) :
    ∀ (x : AV) (v1 v2 : Value), rigid m x = true → R w1 E1 x v1 [] → R w2 E2 x v2 [] → v1 = v2
  | .int _ _, _, _, _, a, b => by simp only [R] at a b; rw [a.1, b.1]
  | .bool _, _, _, _, a, b => by simp only [R] at a b; rw [a.1, b.1]
  | .str _, _, _, _, a, b => by simp only [R] at a b; rw [a.1, b.1]
  | .obj i ver, v1, v2, hr, a, b => by
    simp only [rigid, Bool.and_eq_true, decide_eq_true_eq, beq_iff_eq] at hr
    obtain ⟨hi, rfl⟩ := hr
    simp only [R] at a b
    have e1 := h1 i v1 hi a.2
    have e2 := h2 i v2 hi b.2
    rw [e1] at e2
    exact Option.some.inj e2
  | .agg c, _, _, hr, a, b => by
    simp only [R] at a b
    obtain ⟨c1, rfl, _, a⟩ := a
    obtain ⟨c2, rfl, _, b⟩ := b
    rw [Rc_rigid h1 h2 c c1 c2 (by simpa [rigid] using hr) a b]
  | .tup c, _, _, hr, a, b => by
    simp only [R] at a b
    obtain ⟨c1, rfl, a⟩ := a
    obtain ⟨c2, rfl, b⟩ := b
    rw [Rc_rigid h1 h2 c c1 c2 (by simpa [rigid] using hr) a b]
  | .sl _ _ _, _, _, hr, _, _ => by simp [rigid] at hr
  | .vptr _ _ _, _, _, hr, _, _ => by simp [rigid] at hr
  | .ptr _ _ _ _, _, _, hr, _, _ => by simp [rigid] at hr
  | .fn _ _, _, _, hr, _, _ => by simp [rigid] at hr
  | .undef, _, _, hr, _, _ => by simp [rigid] at hr
theorem Rc_rigid {w1 w2 : World} {E1 E2 : Env} {m : Nat} {hv : Nat → Option Value} (h1 : ∀ i v, i < m → E1.H i 0 v → hv i = some v) (h2 : ∀ i v, i < m → E2.H i 0 v → hv i = some v) :
    ∀ (x : List AV) (v1 v2 : List Value), rigidc m x = true → Rc w1 E1 x v1 [] → Rc w2 E2 x v2 [] → v1 = v2
  | [], [], [], _, _, _ => rfl
  | [], _ :: _, _, _, a, _ => by simp [Rc] at a
  | [], [], _ :: _, _, _, b => by simp [Rc] at b
  | _ :: _, [], _, _, a, _ => by simp [Rc] at a
  | _ :: _, _ :: _, [], _, _, b => by simp [Rc] at b
  | x :: xs, c1 :: r1, c2 :: r2, hr, a, b => by
    simp only [Rc] at a b
    simp only [rigidc, Bool.and_eq_true] at hr
    obtain ⟨f1, f2, a1, a2, e⟩ := a
    obtain ⟨rfl, rfl⟩ : f1 = [] ∧ f2 = [] := by simpa using e
    obtain ⟨f1, f2, b1, b2, e⟩ := b
    obtain ⟨rfl, rfl⟩ : f1 = [] ∧ f2 = [] := by simpa using e
    rw [R_rigid h1 h2 x c1 c2 hr.1 a1 b1, Rc_rigid h1 h2 xs r1 r2 hr.2 a2 b2]
end
def HandsM (P:Program) (fn:Func) (s:AS) (p x' r:AV):Prop:=
 (∃ys,s.rvs P fn.results.toList=some ys∧single ys=r∧r.scalar=true)∧s.t[0]? =some p∧resOk s.o p=true∧(uses p).Nodup∧res s.o p=x'∧clean x'=true
theorem okM_of_awp {P:Program} [Tabs P] (hm:P.follows .mixedOrders=true) {f:FuncId} {fn:Func} {c:Code} (hf:P.funcs[f]? =some fn) (hb:fn.body=some c) {x x':AV} {rest:List AV} {rr:AV}
  (hrig:rigid (absorb 0 0 x).2.length (absorb 0 0 x).1=true)
  (h:awp P c ⟨((absorb 0 0 x).1::rest)++List.replicate (fn.ntmps - (rest.length+1)) .undef,(absorb 0 0 x).2⟩ (fun e s=>(e= .normal∨e= .ret)∧HandsM P fn s (absorb 0 0 x).1 x' rr)):OkM P f x x' rest rr:=by
 intro w v vs fp hg hab hx hnd hlt hrest
 have hl:=Rc_length hrest
 obtain ⟨Gs,hlen,hobj,hap,hdone⟩:=R_absorb (q:=0) x v fp 0 hx hnd
 generalize hB:(⟨w,fun b=>b < w.heap.size,(· ∈fp),fun i=>match (absorb 0 0 x).2[i]?,Gs[i]? with
  |some ob,some g=>some (.slice g.a ob.els.length g.cap)
  |_,_=>none,fun _=>none,hg,hab,hlt⟩:Base P)=B
 have hw0:B.w0=w:=by rw [←hB]
 have hA0:∀b,B.A0 b↔b < w.heap.size:=by intro b;rw [←hB]
 have hO0:∀b,B.O0 b↔b∈fp:=by intro b;rw [←hB]
 have hh0:∀i ob g,look (absorb 0 0 x).2 Gs i ob g→B.h0 i=some (.slice g.a ob.els.length g.cap):=by
  intro i ob g hl
  rw [←hB]
  simp only [hl.1,hl.2]
 have kE:Keeps w (envBut w (· ∈fp)) w (env B (absorb 0 0 x).2 Gs w):=by
  refine ⟨fun b hb=>⟨⟨.inl ((hA0 b).2 hb.1),fun i ob g hl _ hF=> ?_⟩,rfl⟩,fun _ _=>trivial,fun _ _ _ h=>h.elim,fun _ _ _ h=>h.elim,fun _ _ _ _ _ h=>h.elim⟩
  obtain ⟨_,_,_,f',_,_,h3,h4⟩:=hobj _ _ _ hl
  exact hb.2 (h4 _ ((h3 _).1 hF))
 have r0:Rel' B ⟨((absorb 0 0 x).1::rest)++List.replicate (fn.ntmps - (rest.length+1)) .undef,(absorb 0 0 x).2⟩ Gs {tmps:=(v::vs).toArray++Array.replicate (fn.ntmps - (v::vs).toArray.size) Go.undef,defers:=[]} w:=by
  refine {len:=hlen,defs:=rfl,ok:= ?_,apart:= ?_,fresh:= ?_,tmps:= ?_,size:=by rw [hw0];exact Nat.le_refl _,frame:=by rw [hw0];exact fun _ _ _=>rfl,base:= ?_,same:=by rw [hw0];exact Same.rfl}
  ·intro i ob g hl _
   obtain ⟨_,h2,_,f',hown,h3,h4,h5⟩:=hobj _ _ _ hl
   refine ⟨f',?_,h3,fun b hb=>(h4 b).2 hb⟩
   rw [h2]
   exact hown.keeps kE.plain (fun _ _=>rfl)
  ·intro i j oi oj gi gj b hi hj _ _ hfi hfj
   exact hap _ _ _ _ _ _ b hi hj hfi hfj
  ·intro i ob g b hl _ hF
   obtain ⟨_,_,_,f',_,_,h3,h4⟩:=hobj _ _ _ hl
   have:=h4 _ ((h3 _).1 hF)
   exact ⟨.inl ((hO0 b).2 this),hlt b this⟩
  ·have h0:R w (env B (absorb 0 0 x).2 Gs w) (absorb 0 0 x).1 v []:=hdone _ kE fun j ob g hl=>by
    obtain ⟨_,_,h3,_⟩:=hobj _ _ _ hl
    rw [Nat.zero_add]
    exact ⟨ob,g,hl,Nat.zero_le _,fun _ _=>rfl,fun _ y hy=>by rw [hh0 _ _ _ hl] at hy;exact Option.some.inj hy⟩
   have h1:Rc w (env B (absorb 0 0 x).2 Gs w) ((absorb 0 0 x).1::rest) (v::vs) []:=by
    simp only [Rc]
    exact ⟨[],[],h0,Rc_keeps kE _ _ _ (by simp) hrest,rfl⟩
   have h2:∀n,Rc w (env B (absorb 0 0 x).2 Gs w) (List.replicate n .undef) (List.replicate n Go.undef) []:=by
    intro n
    induction n with
    |zero=>simp [Rc]
    |succ n ih=>simp only [List.replicate_succ,Rc];exact ⟨[],[],by simp [R],ih,rfl⟩
   have:=Rc_append h1 (h2 (fn.ntmps - (rest.length+1)))
   simpa [hl] using this
  ·intro b hb
   rw [hw0];exact (hA0 b).1 hb
 have hv0:R w (env B (absorb 0 0 x).2 Gs w) (absorb 0 0 x).1 v []:=hdone _ kE fun j ob g hl=>by
  rw [Nat.zero_add]
  exact ⟨ob,g,hl,Nat.zero_le _,fun _ _=>rfl,fun _ y hy=>by rw [hh0 _ _ _ hl] at hy;exact Option.some.inj hy⟩
 refine calls_of_wp hf hb (wp_mono (awp_sound hm c _ _ h _ _ ⟨_,r0⟩) fun e a w' he=> ?_)
 obtain ⟨s,⟨he,⟨ys,hys,hyr,hsc⟩,ht0,hok,hu,hres,hcl⟩,G,r⟩:=he
 obtain ⟨u,hrun,hR⟩:=run_results r hys
 have hhv:∀(o:List AObj) (G':List CO) (w'':World) i y,i < (absorb 0 0 x).2.length→(env B o G' w'').H i 0 y→B.h0 i=some y:=by
  intro o G' w'' i y hi hH
  obtain ⟨_,_,_,_,_,hz⟩:=hH
  have hg:∃ob g,look (absorb 0 0 x).2 Gs i ob g:=⟨_,_,List.getElem?_eq_getElem hi,List.getElem?_eq_getElem (by omega)⟩
  obtain ⟨ob,g,hl⟩:=hg
  have e:=hh0 _ _ _ hl
  rw [hz rfl _ e]
  exact e
 obtain ⟨v1,hv1,hr1⟩:=Rc_get r.tmps ht0
 have hvv:v=v1:=R_rigid (hv:=B.h0) (hhv _ _ _) (hhv _ _ _) _ _ _ hrig hv0 hr1
 subst hvv
 obtain ⟨fp',k1,k2,k3⟩:=R_res r _ v hok hu hr1
 rw [hres] at k1
 have hfin:∃u' fp',Ending.returned u= .returned u'∧R w' envNone rr u' []∧R w' envNone x' v fp'∧fp'.Nodup∧
   (∀b∈fp',(b∈fp∨w.heap.size≤b)∧b < w'.heap.size)∧w.heap.size≤w'.heap.size∧(∀b,b < w.heap.size→b∉fp→w'.heap[b]? =w.heap[b]?)∧Same w w':=by
  refine ⟨u,fp',rfl,?_,R_clean (E:=(env _ s.o G w').plain) (fun _ _=>trivial) rfl rfl rfl _ _ _ hcl k1,k2,fun b hb=> ?_,by have:=r.size;rwa [hw0] at this,fun b hb hn=>by have:=r.frame b (by rw [hw0];exact hb) (fun h=>hn ((hO0 b).1 h));rwa [hw0] at this,by have:=r.same;rwa [hw0] at this⟩
  ·rw [hyr] at hR
   cases rr<;>simp only [AV.scalar] at hsc<;>first|(cases hsc;done)|(simp only [R] at hR⊢;exact hR)
  ·obtain ⟨i,ob,g,_,hl,hlive,hF⟩:=k3 b hb
   have:=r.fresh _ _ _ b hl hlive hF
   rw [hw0,hO0] at this
   exact this
 rcases he with rfl|rfl
 ·exact ⟨r.defs,u,hrun,hfin⟩
 ·exact ⟨r.defs,u,hrun,hfin⟩
end Go.Aw

namespace Go.Aw
theorem Rc_at {w:World} {E:Env} {e:List AV} {cs:List Value} {fp:List Nat} {c:Nat} {x:AV} (h:Rc w E e cs fp) (hx:e[c]? =some x):
  ∃a1 a2 a3 v,fp=a1++a2++a3∧cs[c]? =some v∧Rc w E (e.take c) (cs.take c) a1∧R w E x v a2∧Rc w E (e.drop (c+1)) (cs.drop (c+1)) a3:=by
 obtain ⟨a1,r1,rfl,h1,h2⟩:=Rc_split c h
 have hlt:=(List.getElem?_eq_some_iff.1 hx).1
 have hl:=Rc_length h
 have hd:e.drop c=x::e.drop (c+1):=by
  rw [List.drop_eq_getElem_cons hlt,(List.getElem?_eq_some_iff.1 hx).2]
 have hcs:cs.drop c=cs[c]'(by omega)::cs.drop (c+1):=List.drop_eq_getElem_cons (by omega)
 rw [hd,hcs] at h2
 simp only [Rc] at h2
 obtain ⟨a2,a3,h3,h4,rfl⟩:=h2
 exact ⟨a1,a2,a3,_,by simp,List.getElem?_eq_getElem (by omega),h1,h3,h4⟩
theorem Rc_put {w:World} {E:Env} {e:List AV} {cs:List Value} {a1 a2 a3:List Nat} {c:Nat} {x:AV} {v:Value} (hc:c < e.length) (hv:cs[c]? =some v) (h1:Rc w E (e.take c) (cs.take c) a1) (h2:R w E x v a2) (h3:Rc w E (e.drop (c+1)) (cs.drop (c+1)) a3):
  Rc w E (e.set c x) cs (a1++a2++a3):=by
 have e1:e.set c x=e.take c++x::e.drop (c+1):=by rw [List.set_eq_take_append_cons_drop];simp [hc]
 obtain ⟨hlt,rfl⟩:=List.getElem?_eq_some_iff.1 hv
 have e2:cs=cs.take c++cs[c]::cs.drop (c+1):=by simp
 rw [e1]
 conv=>arg 4;rw [e2]
 have:=Rc_append h1 (show Rc w E (x::e.drop (c+1)) (cs[c]::cs.drop (c+1)) (a2++a3) by simp only [Rc];exact ⟨a2,a3,h2,h3,rfl⟩)
 simpa using this
theorem weak_open {t t':List AV} {o o':List AObj} (i k c:Nat) {ob:AObj} {e:List AV} {m:Nat} {rows:List (List AV)} (ho:o[i]? =some ob) (hl:ob.live=true) (hall:(o.all fun x=> !x.box)=true) (he:ob.els[k]? =some e)
  (hc:e[c]? =some (.sl .own m rows)) (ho':o.set i {ob with box:=true,els:=ob.els.set k (e.set c (.obj o.length 1))}++[⟨true,false,m,1,rows⟩]=o') (hw:wk (rtc (dropf [i]) true t) t') (hv2:ob.ver < 2:=by first|decide|simp):Weak ⟨t,o⟩ ⟨t',o'⟩:=by
 subst ho'
 rintro P _ B a w ⟨G,r⟩
 have nb:∀{j x g},look o G j x g→x.box=false:=fun h=>by
  have:=List.all_eq_true.1 hall _ (List.mem_of_getElem? h.1)
  simpa using this
 obtain ⟨g,hlk⟩:=r.look ho
 have hb:=nb hlk
 obtain ⟨fp,hown,hnd,hF⟩:=r.ok i ob g hlk hl
 simp only [hb,Env.of,Bool.false_eq_true,if_false] at hown
 obtain ⟨hlen,⟨h,_⟩|⟨b,off,C,ty,fz,fps,ha,hbk,hz,h1,h2,h3,rfl,hr⟩⟩:=hown
 ·rw [h] at he;simp at he
 have hk:k < ob.els.length:=(List.getElem?_eq_some_iff.1 he).1
 have hcl:c < e.length:=(List.getElem?_eq_some_iff.1 hc).1
 obtain ⟨f1,f2,f3,cs,rfl,hn,hcs,hone,hre,hr1,hr3⟩:=Rr_get hr he
 obtain ⟨a1,a2,a3,v,rfl,hv,k1,k2,k3⟩:=Rc_at hre hc
 obtain ⟨ad,cap',hvs,hown2⟩:=R_own.1 k2
 have hlo:i < o.length:=(List.getElem?_eq_some_iff.1 ho).1
 have hsub2:∀x∈a2,g.F x:=fun x hx=>hF x (by simp [hx])
 generalize hob':({ob with box:=true,els:=ob.els.set k (e.set c (.obj o.length 1))}:AObj)=ob'
 generalize hg':({g with F:=fun x=>g.F x∧x∉a2}:CO)=g'
 generalize hO:o.set i ob'++[⟨true,false,m,1,rows⟩]=o'
 generalize hGG:G.set i g'++[⟨ad,cap',fun x=>x∈a2⟩]=G'
 have hlenG:(G.set i g').length=(o.set i ob').length:=by simp [r.len]
 have back:∀{j x y},look o' G' j x y→(j=i∧x=ob'∧y=g')∨(j=o.length∧x=⟨true,false,m,1,rows⟩∧y=⟨ad,cap',fun x=>x∈a2⟩)∨(j≠i∧look o G j x y):=by
  intro j x y h
  rw [←hO,←hGG] at h
  rcases look_app hlenG h with ⟨_,h⟩|⟨hj,h⟩
  ·rcases look_set h with ⟨h1,h2,h3⟩|⟨h1,h2⟩
   ·exact .inl ⟨h1,h2,h3⟩
   ·exact .inr (.inr ⟨h1,h2⟩)
  ·right;left
   obtain ⟨h1,h2⟩:=h
   cases hd:j - (o.set i ob').length with
   |zero=>
    rw [hd] at h1 h2
    simp at h1 h2 hj hd
    exact ⟨by omega,h1.symm,h2.symm⟩
   |succ n=>rw [hd] at h1;simp at h1
 have fi:look o' G' i ob' g':=by rw [←hO,←hGG];exact look_app_left (look_set_self hlk)
 have fJ:look o' G' o.length ⟨true,false,m,1,rows⟩ ⟨ad,cap',fun x=>x∈a2⟩:=by
  rw [←hO,←hGG]
  have:=look_app_right (o:=o.set i ob') (o2:=[⟨true,false,m,1,rows⟩]) (G:=G.set i g') (G2:=[⟨ad,cap',fun x=>x∈a2⟩]) hlenG (i:=0) (x:=⟨true,false,m,1,rows⟩) (y:=⟨ad,cap',fun x=>x∈a2⟩) ⟨rfl,rfl⟩
  simpa using this
 have fo:∀{j x y},j≠i→look o G j x y→look o' G' j x y:=fun hj h=>by rw [←hO,←hGG];exact look_app_left (look_set_ne h hj)
 have hobl:ob'.live=true:=by rw [←hob'];exact hl
 have hobn:ob'.n=ob.n:=by rw [←hob']
 have hobv:ob'.ver=ob.ver:=by rw [←hob']
 have hobe:ob'.els.length=ob.els.length:=by rw [←hob'];simp
 have hga:g'.a=g.a:=by rw [←hg']
 have hgc:g'.cap=g.cap:=by rw [←hg']
 have hgF:∀x,g'.F x↔g.F x∧x∉a2:=fun x=>by rw [←hg']
 let Er:Env:={env B o G w with D:=fun j x=>j∉[i]∧(env B o G w).D j x}
 have rt1:Retags (dropf [i]) true (env B o G w) Er (fun _=>True):=by
  refine ⟨fun t e=>by simp [dropf] at e,fun t e=>by simp only [dropf,Option.some.injEq] at e;exact ⟨e.symm,fun b hb=>hb⟩,fun j t e=> ?_,fun _ _ _ _ h=>h,fun _ _ _ _ _ _ h=>h⟩
  simp only [dropf] at e
  split at e
  ·cases e
  ·rename_i hiu
   obtain rfl:=Option.some.inj e
   refine ⟨by simp,?_,fun b hb=>⟨hiu,hb⟩⟩
   by_cases hV:(env B o G w).V j
   ·exact .inl hV
   ·exact .inr hV
 have kA:∀x,(env B o G w).A x→(env B o' G' w).A x:=fun x hx=>⟨hx.1,fun j y z hlj hjl hf=>by
  rcases back hlj with ⟨rfl,rfl,rfl⟩|⟨rfl,rfl,rfl⟩|⟨_,h⟩
  ·exact hx.2 _ _ _ hlk hl ((hgF x).1 hf).1
  ·exact hx.2 _ _ _ hlk hl (hsub2 x hf)
  ·exact hx.2 _ _ _ h hjl hf⟩
 have k2':Keeps w Er w (env B o' G' w):=by
  refine ⟨fun x hx=>⟨kA x hx,rfl⟩,fun j h x hx=> ?_,fun j x hV h=> ?_,fun j ver x h=> ?_,fun j ver p q x h=> ?_⟩
  ·obtain ⟨y,hy⟩:=r.look hx
   by_cases hj:j=i
   ·subst hj
    rw [ho] at hx
    obtain rfl:=Option.some.inj hx;exact hl
   ·exact h x (fo hj hy).1
  ·obtain ⟨hji,x',y,hlj,hjl,hf,hne⟩:=h
   exact ⟨⟨x',y,fo (by simpa using hji) hlj,hjl,hf,hne⟩,rfl⟩
  ·obtain ⟨x',y,hlj,hver,hh,hz⟩:=h
   by_cases hj:j=i
   ·subst hj
    obtain ⟨rfl,rfl⟩:=look_inj hlk hlj
    exact ⟨ob',g',fi,by omega,fun _ hve=>by rw [hga,hgc,hobe];exact hh hl (by omega),hz⟩
   ·exact ⟨x',y,fo hj hlj,hver,hh,hz⟩
  ·obtain ⟨x',y,hlj,hver,hh,hz⟩:=h
   by_cases hj:j=i
   ·subst hj
    obtain ⟨rfl,rfl⟩:=look_inj hlk hlj
    exact ⟨ob',g',fi,by omega,fun _ hve=>by rw [hga,hobn];exact hh hl (by omega),fun _ e=>by omega⟩
   ·exact ⟨x',y,fo hj hlj,hver,hh,hz⟩
 have kp:Keeps w (env B o G w).plain w (env B o' G' w).plain:=⟨fun x hx=>⟨kA x hx,rfl⟩,fun _ _=>trivial,fun _ _ _ h=>h.elim,fun _ _ _ h=>h.elim,fun _ _ _ _ _ h=>h.elim⟩
 have kf:Keeps w (env B o G w).plain w (env B o' G' w):=kp.trans (plain_keeps w _)
 have hnd':=hnd
 simp only [List.nodup_cons] at hnd'
 refine ⟨G',{len:=by rw [←hO,←hGG];simp [r.len],defs:=r.defs,ok:= ?_,apart:= ?_,fresh:= ?_,tmps:=Rc_wk hw (Rc_keeps k2' _ _ _ (by simp) (Rc_rt rt1 _ _ _ (by simp) r.tmps)),size:=r.size,frame:=r.frame,base:=r.base,same:=r.same}⟩
 ·intro j x y hlj hjl
  rcases back hlj with ⟨rfl,rfl,rfl⟩|⟨rfl,rfl,rfl⟩|⟨hj,h⟩
  ·refine ⟨b::(f1++(a1++[]++a3)++f3),?_,?_,?_⟩
   ·rw [←hob',←hg']
    simp only [Env.of,if_true]
    refine ⟨by simpa using hlen,.inr ⟨b,off,C,ty,fz,_,ha,hbk,hz,h1,by simpa using h2,h3,rfl,?_⟩⟩
    refine Rr_mk hk hn hcs hone (Rc_put hcl hv (Rc_keeps kf _ _ _ (fun _ _=>rfl) k1) ?_ (Rc_keeps kf _ _ _ (fun _ _=>rfl) k3)) (Rr_keeps kf _ _ _ _ _ rfl (fun _ _=>rfl) hr1) (Rr_keeps kf _ _ _ _ _ rfl (fun _ _=>rfl) hr3)
    simp only [R]
    exact ⟨trivial,_,_,fJ,Nat.le_refl _,fun _ _=>hvs,fun h=>by omega⟩
   ·have hs:(f1++(a1++[]++a3)++f3).Sublist (f1++(a1++a2++a3)++f3):=((List.Sublist.refl f1).append (((List.Sublist.refl a1).append (List.nil_sublist a2)).append (List.Sublist.refl a3))).append (List.Sublist.refl f3)
    exact List.nodup_cons.2 ⟨fun h=>hnd'.1 (hs.subset h),hs.nodup hnd'.2⟩
   ·intro x hx
    rw [hgF]
    have hin:x∈b::(f1++(a1++a2++a3)++f3):=by
     simp only [List.mem_cons,List.mem_append,List.not_mem_nil,or_false] at hx⊢
     grind
    refine ⟨hF x hin,fun hx2=> ?_⟩
    have hd:=hnd'.2
    simp only [List.nodup_append,List.mem_append] at hd
    simp only [List.mem_cons,List.mem_append,List.not_mem_nil,or_false] at hx
    rcases hx with rfl|(hx|hx|hx)|hx
    ·exact hnd'.1 (by simp [hx2])
    ·exact hd.1.2.2 x hx x (.inl (.inr hx2)) rfl
    ·exact hd.1.2.1.1.2.2 x hx x hx2 rfl
    ·exact hd.1.2.1.2.2 x (.inr hx2) x hx rfl
    ·exact hd.2.2 x (.inr (.inl (.inr hx2))) x hx rfl
  ·refine ⟨a2,?_,?_,fun x hx=>hx⟩
   ·simp only [Env.of,Bool.false_eq_true,if_false]
    exact hown2.keeps kp (fun _ _=>rfl)
   ·have hd:=hnd'.2
    simp only [List.nodup_append] at hd
    exact hd.1.2.1.1.2.1
  ·have hbj:=nb h
   obtain ⟨fq,q1,q2,q3⟩:=r.ok j x y h hjl
   simp only [hbj,Env.of,Bool.false_eq_true,if_false] at q1
   refine ⟨fq,?_,q2,q3⟩
   simp only [hbj,Env.of,Bool.false_eq_true,if_false]
   exact q1.keeps kp (fun _ _=>rfl)
 ·intro j1 j2 x1 x2 y1 y2 z hl1 hl2 v1 v2 hf1 hf2
  rcases back hl1 with ⟨rfl,rfl,rfl⟩|⟨rfl,rfl,rfl⟩|⟨hj1,h1⟩<;>rcases back hl2 with ⟨rfl,rfl,rfl⟩|⟨rfl,rfl,rfl⟩|⟨hj2,h2⟩
  ·rfl
  ·exact absurd hf2 ((hgF z).1 hf1).2
  ·exact absurd (r.apart _ _ _ _ _ _ z hlk h2 hl v2 ((hgF z).1 hf1).1 hf2).symm hj2
  ·exact absurd hf1 ((hgF z).1 hf2).2
  ·rfl
  ·exact absurd (r.apart _ _ _ _ _ _ z hlk h2 hl v2 (hsub2 z hf1) hf2).symm hj2
  ·exact absurd (r.apart _ _ _ _ _ _ z h1 hlk v1 hl hf1 ((hgF z).1 hf2).1) hj1
  ·exact absurd (r.apart _ _ _ _ _ _ z h1 hlk v1 hl hf1 (hsub2 z hf2)) hj1
  ·exact r.apart _ _ _ _ _ _ z h1 h2 v1 v2 hf1 hf2
 ·intro j x y z hlj hjl hf
  rcases back hlj with ⟨rfl,rfl,rfl⟩|⟨rfl,rfl,rfl⟩|⟨_,h⟩
  ·exact r.fresh _ _ _ z hlk hl ((hgF z).1 hf).1
  ·exact r.fresh _ _ _ z hlk hl (hsub2 z hf)
  ·exact r.fresh _ _ _ z h hjl hf
end Go.Aw

namespace Go.Aw
def AV.pureA:AV→Bool
 | .int _ _=>true
 | .bool _=>true
 | .str _=>true
 | .sl .own _ _=>true
 |_=>false
theorem R_pure {w:World} {E E':Env} (hA:∀b,E.A b→E'.A b) {x:AV} {v:Value} {fp:List Nat} (hx:x.pureA=true) (h:R w E x v fp):R w E' x v fp:=by
 cases x with
 |int _ _=>simpa [R] using h
 |bool _=>simpa [R] using h
 |str _=>simpa [R] using h
 |sl g n l=>
  cases g with
  |own=>
   obtain ⟨a,cap,hv,hown⟩:=R_own.1 h
   exact R_own.2 ⟨a,cap,hv,hown.keeps ⟨fun b hb=>⟨hA b hb,rfl⟩,fun _ _=>trivial,fun _ _ _ h=>h.elim,fun _ _ _ h=>h.elim,fun _ _ _ _ _ h=>h.elim⟩ (fun _ _=>rfl)⟩
  |_=>cases hx
 |_=>cases hx
theorem Rc_pure {w:World} {E E':Env} (hA:∀b,E.A b→E'.A b):∀{c:List AV} {cs:List Value} {fp:List Nat},c.all AV.pureA=true→Rc w E c cs fp→Rc w E' c cs fp
 |[],[],_,_,h=>h
 |[],_::_,_,_,h=>by simp [Rc] at h
 |_::_,[],_,_,h=>by simp [Rc] at h
 |x::xs,c::cs,fp,hp,h=>by
  simp only [Rc] at h⊢
  simp only [List.all_cons,Bool.and_eq_true] at hp
  obtain ⟨f1,f2,h1,h2,h3⟩:=h
  exact ⟨f1,f2,R_pure hA hp.1 h1,Rc_pure hA hp.2 h2,h3⟩
theorem Rr_pure {w:World} {E E':Env} (hA:∀b,E.A b→E'.A b):∀{l:List (List AV)} {b off n:Nat} {fp:List Nat},(l.all fun r=>r.all AV.pureA)=true→Rr w E l b off n fp→Rr w E' l b off n fp
 |[],_,_,_,_,_,h=>h
 |e::es,b,off,n,fp,hp,h=>by
  simp only [Rr] at h⊢
  simp only [List.all_cons,Bool.and_eq_true] at hp
  obtain ⟨cs,f1,f2,h1,h2,h3,h4,h5,h6⟩:=h
  exact ⟨cs,f1,f2,h1,h2,h3,Rc_pure hA hp.1 h4,Rr_pure hA hp.2 h5,h6⟩
theorem all_take {α:Type} {p:α→Bool} {l:List α} (k:Nat) (h:l.all p=true):(l.take k).all p=true:=by
 rw [List.all_eq_true] at h⊢;exact fun x hx=>h x (List.mem_of_mem_take hx)
theorem all_drop {α:Type} {p:α→Bool} {l:List α} (k:Nat) (h:l.all p=true):(l.drop k).all p=true:=by
 rw [List.all_eq_true] at h⊢;exact fun x hx=>h x (List.mem_of_mem_drop hx)
theorem take_set_same {α:Type} (l:List α) (k:Nat) (x:α):(l.set k x).take k=l.take k:=by
 rw [List.take_set];exact List.set_eq_of_length_le (by simp;omega)
theorem drop_set_same {α:Type} (l:List α) (k:Nat) (x:α):(l.set k x).drop (k+1)=l.drop (k+1):=by
 rw [List.drop_set];simp
theorem weak_close {t t':List AV} {o o':List AObj} (i J k c:Nat) {ob oj:AObj} {e:List AV} {ver:Nat} (ho:o[i]? =some ob) (hj:o[J]? =some oj) (hij:i≠J) (hl:ob.live=true) (hlj:oj.live=true) (hbj:oj.box=false)
  (he:ob.els[k]? =some e) (hc:e[c]? =some (.obj J ver)) (hver:oj.ver=ver) (hp:((ob.els.set k (e.set c (.int .i64 0))).all fun r=>r.all AV.pureA)=true) (hbx:ob.box=true)
  (ho':(o.set J oj.kill).set i {ob with box:=false,els:=ob.els.set k (e.set c (.sl .own oj.n oj.els))}=o') (hw:wk t t'):Weak ⟨t,o⟩ ⟨t',o'⟩:=by
 subst ho'
 rintro P _ B a w ⟨G,r⟩
 obtain ⟨g,hlk⟩:=r.look ho
 obtain ⟨gj,hlkj⟩:=r.look hj
 obtain ⟨fp,hown,hnd,hF⟩:=r.ok i ob g hlk hl
 obtain ⟨fj,hownj,hndj,hFj⟩:=r.ok J oj gj hlkj hlj
 simp only [hbx,Env.of,if_true] at hown
 simp only [hbj,Env.of,Bool.false_eq_true,if_false] at hownj
 obtain ⟨hlen,⟨h,_⟩|⟨b,off,C,ty,fz,fps,ha,hbk,hz,h1,h2,h3,rfl,hr⟩⟩:=hown
 ·rw [h] at he;simp at he
 have hk:k < ob.els.length:=(List.getElem?_eq_some_iff.1 he).1
 have hcl:c < e.length:=(List.getElem?_eq_some_iff.1 hc).1
 obtain ⟨f1,f2,f3,cs,rfl,hn,hcs,hone,hre,hr1,hr3⟩:=Rr_get hr he
 obtain ⟨a1,a2,a3,v,rfl,hv,k1,k2,k3⟩:=Rc_at hre hc
 simp only [R] at k2
 obtain ⟨rfl,ob2,g2,hl2,_,hh,_⟩:=k2
 obtain ⟨rfl,rfl⟩:=look_inj hlkj hl2
 have hvs:=hh hlj hver
 obtain ⟨r2,kk⟩:=r.transfer hij hlk hlkj hl hlj
 generalize hgt:({g with F:=fun b=>g.F b∨gj.F b}:CO)=gt at r2 kk
 have hgta:gt.a=g.a:=by rw [←hgt]
 have hgtc:gt.cap=g.cap:=by rw [←hgt]
 have hgtF:∀x,gt.F x↔g.F x∨gj.F x:=fun x=>by rw [←hgt]
 have hlk2:look (o.set J oj.kill) (G.set i gt) i ob gt:=by
  refine ⟨by rw [List.getElem?_set_ne (Ne.symm hij)];exact hlk.1,?_⟩
  have:=(List.getElem?_eq_some_iff.1 hlk.2).1
  simp [this]
 have hpe:(e.set c (.int .i64 0)).all AV.pureA=true:=by
  rw [List.all_eq_true] at hp
  exact hp _ (List.mem_iff_getElem?.2 ⟨k,by rw [List.getElem?_set_self hk]⟩)
 have hm:=r2.modify hlk2 hl {ob with box:=false,els:=ob.els.set k (e.set c (.sl .own oj.n oj.els))} gt w (Nat.le_refl _) rfl (fun _=>⟨rfl,rfl,by simp⟩) (fun b hb=> .inl hb) (fun b hb hne=>⟨hb,hne⟩) (fun _ _ _=>rfl) (Nat.le_refl _) (fun km _=>by
  generalize hE:env B ((o.set J oj.kill).set i {ob with box:=false,els:=ob.els.set k (e.set c (.sl .own oj.n oj.els))}) ((G.set i gt).set i gt) w=E'
  replace km:Keeps w (env B (o.set J oj.kill) (G.set i gt) w) w E':=by rw [←hE];exact km
  have kA:∀x,(env B o G w).A x→E'.A x:=fun x hx=>(km.a x (kk.a x hx).1).1
  have kp:Keeps w (env B o G w).plain w E'.plain:=⟨fun x hx=>⟨kA x hx,rfl⟩,fun _ _=>trivial,fun _ _ _ h=>h.elim,fun _ _ _ h=>h.elim,fun _ _ _ _ _ h=>h.elim⟩
  refine ⟨b::(f1++(a1++fj++a3)++f3),?_,?_,?_⟩
  ·simp only [Env.of,Bool.false_eq_true,if_false]
   refine ⟨by simpa using hlen,.inr ⟨b,off,C,ty,fz,_,by rw [hgta];exact ha,hbk,hz,by rw [hgtc];exact h1,by rw [hgtc];simpa using h2,by rw [hgtc];exact h3,rfl,?_⟩⟩
   refine Rr_mk hk hn hcs hone (Rc_put hcl hv ?_ ?_ ?_) ?_ ?_
   ·exact Rc_pure (E:=env B o G w) (E':=E'.plain) kA (by have:=all_take c hpe;rwa [take_set_same] at this) k1
   ·exact R_own.2 ⟨gj.a,gj.cap,hvs,hownj.keeps kp (fun _ _=>rfl)⟩
   ·exact Rc_pure (E:=env B o G w) (E':=E'.plain) kA (by have:=all_drop (c+1) hpe;rwa [drop_set_same] at this) k3
   ·exact Rr_pure (E:=env B o G w) (E':=E'.plain) kA (by have:=all_take k hp;rwa [take_set_same] at this) hr1
   ·exact Rr_pure (E:=env B o G w) (E':=E'.plain) kA (by have:=all_drop (k+1) hp;rwa [drop_set_same] at this) hr3
  ·have hdj:∀x∈fj,x∉b::(f1++(a1++[]++a3)++f3):=fun x hx hx2=>hij (r.apart _ _ _ _ _ _ x hlk hlkj hl hlj (hF x hx2) (hFj x hx))
   have hp2:(b::(f1++(a1++fj++a3)++f3)).Perm ((b::(f1++(a1++[]++a3)++f3))++fj):=by
    rw [List.cons_append]
    refine List.Perm.cons b ?_
    simp only [List.append_assoc,List.nil_append]
    refine List.Perm.append_left f1 (List.Perm.append_left a1 ?_)
    rw [←List.append_assoc a3]
    exact List.perm_append_comm
   refine hp2.nodup_iff.2 (List.nodup_append.2 ⟨hnd,hndj,fun x hx y hy e=> ?_⟩)
   subst e
   exact hdj x hy hx
  ·intro x hx
   rw [hgtF]
   have:x∈b::(f1++(a1++[]++a3)++f3)∨x∈fj:=by
    simp only [List.mem_cons,List.mem_append,List.not_mem_nil,or_false] at hx⊢
    grind
   rcases this with h|h
   ·exact .inl (hF x h)
   ·exact .inr (hFj x h))
 refine ⟨(G.set i gt).set i gt,{hm.1 with tmps:= ?_}⟩
 exact Rc_wk hw hm.1.tmps
end Go.Aw

namespace Go.Aw
mutual
def nodep (i : Nat) : AV → Bool
  | .sl (.dep j) _ _ => decide (j ≠ i)
  | .vptr (.dep j) _ _ => decide (j ≠ i)
  | .agg c => nodepc i c
  | .tup c => nodepc i c
  | .fn _ c => nodepc i c
  | _ => true
def nodepc (i : Nat) : List AV → Bool
  | [] => true
  | x :: xs => nodep i x && nodepc i xs
end
def Env.no (E:Env) (i:Nat):Env:={E with D:=fun j x=>j∉[i]∧E.D j x}
theorem keeps_no {w:World} {E:Env} {i j:Nat} (h:j≠i):Keeps w (E.sub (.dep j)) w ((E.no i).sub (.dep j)):=
 ⟨fun b h=>⟨h,rfl⟩,fun _ _=>trivial,fun k b _ hd=>⟨⟨hd.1,by simpa using h,hd.2⟩,rfl⟩,fun _ _ _ h=>h.elim,fun _ _ _ _ _ h=>h.elim⟩
mutual
theorem R_nodep {w : World} {E : Env} {i : Nat} : ∀ (x : AV) (v : Value) (fp : List Nat), nodep i x = true → R w E x v fp → R w (E.no i) x v fp
  | .int _ _, _, _, _, h => by simpa [R] using h
  | .bool _, _, _, _, h => by simpa [R] using h
  | .str _, _, _, _, h => by simpa [R] using h
  | .sl .own n l, v, fp, _, h => R_own.2 (R_own.1 h)
  | .sl .view n l, v, fp, _, h => by
    simp only [R] at h ⊢
    rcases h with h | ⟨a, cap, hv, hl, h⟩
    · exact h.1.elim
    · refine .inr ⟨a, cap, hv, hl, ?_⟩
      rcases h with h | h | ⟨hg, hf, h⟩
      · exact absurd h.1 (by simp)
      · exact absurd h.1 (by simp)
      · exact .inr (.inr ⟨hg, hf, h⟩)
  | .sl (.dep j) n l, v, fp, hc, h => by
    have hi : j ≠ i := by simpa [nodep] using hc
    simp only [R] at h ⊢
    rcases h with h | ⟨a, cap, hv, hl, h⟩
    · exact .inl h
    · refine .inr ⟨a, cap, hv, hl, ?_⟩
      rcases h with h | h | ⟨hg, hf, h⟩
      · exact absurd h.1 (by simp)
      · exact absurd h.1 (by simp)
      · refine .inr (.inr ⟨hg, hf, ?_⟩)
        rcases h with h | ⟨b, off, ha, ht, hr⟩
        · exact .inl h
        · exact .inr ⟨b, off, ha, ⟨by simpa using hi, ht⟩, Rr_keeps (keeps_no hi) _ _ _ _ _ rfl (by simp) hr⟩
  | .vptr .own c off, v, fp, _, h => by
    simp only [R] at h ⊢
    rcases h with h | ⟨_, _, _, _, _, ht, _⟩
    · exact h.1.elim
    · exact ht.elim
  | .vptr .view c off, v, fp, _, h => by
    simp only [R] at h ⊢
    rcases h with h | ⟨hf, b, o', cs, hv, ht, hcs, hone, hr⟩
    · exact h.1.elim
    · exact .inr ⟨hf, b, o', cs, hv, ht, hcs, hone, hr⟩
  | .vptr (.dep j) c off, v, fp, hc, h => by
    have hi : j ≠ i := by simpa [nodep] using hc
    simp only [R] at h ⊢
    rcases h with h | ⟨hf, b, o', cs, hv, ht, hcs, hone, hr⟩
    · exact .inl h
    · exact .inr ⟨hf, b, o', cs, hv, ⟨by simpa using hi, ht⟩, hcs, hone, Rc_keeps (keeps_no hi) _ _ _ (by simp) hr⟩
  | .obj _ _, v, fp, _, h => by simp only [R] at h ⊢; exact h
  | .ptr _ _ _ _, v, fp, _, h => by simp only [R] at h ⊢; exact h
  | .agg c, v, fp, hc, h => by
    simp only [R] at h ⊢
    obtain ⟨cs, h1, h2, h3⟩ := h
    exact ⟨cs, h1, h2, Rc_nodep c cs fp (by simpa [nodep] using hc) h3⟩
  | .tup c, v, fp, hc, h => by
    simp only [R] at h ⊢
    obtain ⟨cs, h1, h3⟩ := h
    exact ⟨cs, h1, Rc_nodep c cs fp (by simpa [nodep] using hc) h3⟩
  | .fn f c, v, fp, hc, h => by
    simp only [R] at h ⊢
    obtain ⟨h0, cs, h1, h3⟩ := h
    exact ⟨h0, cs, h1, Rc_nodep c cs [] (by simpa [nodep] using hc) h3⟩
  | .undef, _, _, _, h => by simpa [R] using h
theorem Rc_nodep {w : World} {E : Env} {i : Nat} : ∀ (c : List AV) (cs : List Value) (fp : List Nat), nodepc i c = true → Rc w E c cs fp → Rc w (E.no i) c cs fp
  | [], [], _, _, h => by simpa [Rc] using h
  | [], _ :: _, _, _, h => by simp [Rc] at h
  | _ :: _, [], _, _, h => by simp [Rc] at h
  | x :: xs, c :: cs, fp, hc, h => by
    simp only [Rc] at h ⊢
    simp only [nodepc, Bool.and_eq_true] at hc
    obtain ⟨f1, f2, h1, h2, h3⟩ := h
    exact ⟨f1, f2, R_nodep x c f1 hc.1 h1, Rc_nodep xs cs f2 hc.2 h2, h3⟩
end
theorem Rr_nodep {w:World} {E:Env} {i:Nat}:∀(l:List (List AV)) (b off n:Nat) (fp:List Nat),(l.all fun c=>nodepc i c)=true→Rr w E l b off n fp→Rr w (E.no i) l b off n fp
 |[],_,_,_,_,_,h=>by simpa [Rr] using h
 |e::es,b,off,n,fp,hc,h=>by
  simp only [Rr] at h⊢
  simp only [List.all_cons,Bool.and_eq_true] at hc
  obtain ⟨cs,f1,f2,h1,h2,h3,h4,h5,h6⟩:=h
  exact ⟨cs,f1,f2,h1,h2,h3,Rc_nodep e cs f1 hc.1 h4,Rr_nodep es b _ n f2 hc.2 h5,h6⟩
theorem OwnOk.nodep {w:World} {E:Env} {n:Nat} {l:List (List AV)} {a:Option Addr} {cap:Nat} {fp:List Nat} {i:Nat} (hc:(l.all fun c=>nodepc i c)=true) (h:OwnOk w E n l a cap fp):OwnOk w (E.no i) n l a cap fp:=by
 obtain ⟨h1,h|⟨b,off,C,e,fz,fps,k1,k2,k3,k4,k5,k6,k7,k8⟩⟩:=h
 ·exact ⟨h1,.inl h⟩
 ·exact ⟨h1,.inr ⟨b,off,C,e,fz,fps,k1,k2,k3,k4,k5,k6,k7,Rr_nodep l b off n fps hc k8⟩⟩
theorem weak_openB {t t':List AV} {o o':List AObj} (i k c:Nat) {ob:AObj} {e:List AV} {m:Nat} {rows:List (List AV)} (ho:o[i]? =some ob) (hl:ob.live=true) (hb:ob.box=true) (hall:(o.all fun x=> !x.box || x.els.all fun c=>nodepc i c)=true) (he:ob.els[k]? =some e)
  (hc:e[c]? =some (.sl .own m rows)) (ho':o.set i {ob with els:=ob.els.set k (e.set c (.obj o.length 1))}++[⟨true,false,m,1,rows⟩]=o') (hw:wk (rtc (dropf [i]) true t) t'):Weak ⟨t,o⟩ ⟨t',o'⟩:=by
 subst ho'
 rintro P _ B a w ⟨G,r⟩
 have nb:∀{j x g},look o G j x g→x.box=true→(x.els.all fun c=>nodepc i c)=true:=fun h hb=>by
  have:=List.all_eq_true.1 hall _ (List.mem_of_getElem? h.1)
  simpa only [hb,Bool.not_true,Bool.false_or] using this
 obtain ⟨g,hlk⟩:=r.look ho
 obtain ⟨fp,hown,hnd,hF⟩:=r.ok i ob g hlk hl
 simp only [hb,Env.of,if_true] at hown
 replace hown:=hown.nodep (nb hlk hb)
 obtain ⟨hlen,⟨h,_⟩|⟨b,off,C,ty,fz,fps,ha,hbk,hz,h1,h2,h3,rfl,hr⟩⟩:=hown
 ·rw [h] at he;simp at he
 have hk:k < ob.els.length:=(List.getElem?_eq_some_iff.1 he).1
 have hcl:c < e.length:=(List.getElem?_eq_some_iff.1 hc).1
 obtain ⟨f1,f2,f3,cs,rfl,hn,hcs,hone,hre,hr1,hr3⟩:=Rr_get hr he
 obtain ⟨a1,a2,a3,v,rfl,hv,k1,k2,k3⟩:=Rc_at hre hc
 obtain ⟨ad,cap',hvs,hown2⟩:=R_own.1 k2
 have hlo:i < o.length:=(List.getElem?_eq_some_iff.1 ho).1
 have hsub2:∀x∈a2,g.F x:=fun x hx=>hF x (by simp [hx])
 generalize hob':({ob with els:=ob.els.set k (e.set c (.obj o.length 1))}:AObj)=ob'
 generalize hg':({g with F:=fun x=>g.F x∧x∉a2}:CO)=g'
 generalize hO:o.set i ob'++[⟨true,false,m,1,rows⟩]=o'
 generalize hGG:G.set i g'++[⟨ad,cap',fun x=>x∈a2⟩]=G'
 have hlenG:(G.set i g').length=(o.set i ob').length:=by simp [r.len]
 have back:∀{j x y},look o' G' j x y→(j=i∧x=ob'∧y=g')∨(j=o.length∧x=⟨true,false,m,1,rows⟩∧y=⟨ad,cap',fun x=>x∈a2⟩)∨(j≠i∧look o G j x y):=by
  intro j x y h
  rw [←hO,←hGG] at h
  rcases look_app hlenG h with ⟨_,h⟩|⟨hj,h⟩
  ·rcases look_set h with ⟨h1,h2,h3⟩|⟨h1,h2⟩
   ·exact .inl ⟨h1,h2,h3⟩
   ·exact .inr (.inr ⟨h1,h2⟩)
  ·right;left
   obtain ⟨h1,h2⟩:=h
   cases hd:j - (o.set i ob').length with
   |zero=>
    rw [hd] at h1 h2
    simp at h1 h2 hj hd
    exact ⟨by omega,h1.symm,h2.symm⟩
   |succ n=>rw [hd] at h1;simp at h1
 have fi:look o' G' i ob' g':=by rw [←hO,←hGG];exact look_app_left (look_set_self hlk)
 have fJ:look o' G' o.length ⟨true,false,m,1,rows⟩ ⟨ad,cap',fun x=>x∈a2⟩:=by
  rw [←hO,←hGG]
  have:=look_app_right (o:=o.set i ob') (o2:=[⟨true,false,m,1,rows⟩]) (G:=G.set i g') (G2:=[⟨ad,cap',fun x=>x∈a2⟩]) hlenG (i:=0) (x:=⟨true,false,m,1,rows⟩) (y:=⟨ad,cap',fun x=>x∈a2⟩) ⟨rfl,rfl⟩
  simpa using this
 have fo:∀{j x y},j≠i→look o G j x y→look o' G' j x y:=fun hj h=>by rw [←hO,←hGG];exact look_app_left (look_set_ne h hj)
 have hobl:ob'.live=true:=by rw [←hob'];exact hl
 have hobn:ob'.n=ob.n:=by rw [←hob']
 have hobv:ob'.ver=ob.ver:=by rw [←hob']
 have hobe:ob'.els.length=ob.els.length:=by rw [←hob'];simp
 have hga:g'.a=g.a:=by rw [←hg']
 have hgc:g'.cap=g.cap:=by rw [←hg']
 have hgF:∀x,g'.F x↔g.F x∧x∉a2:=fun x=>by rw [←hg']
 let Er:Env:=(env B o G w).no i
 have rt1:Retags (dropf [i]) true (env B o G w) Er (fun _=>True):=by
  refine ⟨fun t e=>by simp [dropf] at e,fun t e=>by simp only [dropf,Option.some.injEq] at e;exact ⟨e.symm,fun b hb=>hb⟩,fun j t e=> ?_,fun _ _ _ _ h=>h,fun _ _ _ _ _ _ h=>h⟩
  simp only [dropf] at e
  split at e
  ·cases e
  ·rename_i hiu
   obtain rfl:=Option.some.inj e
   refine ⟨by simp,?_,fun b hb=>⟨hiu,hb⟩⟩
   by_cases hV:(env B o G w).V j
   ·exact .inl hV
   ·exact .inr hV
 have kA:∀x,(env B o G w).A x→(env B o' G' w).A x:=fun x hx=>⟨hx.1,fun j y z hlj hjl hf=>by
  rcases back hlj with ⟨rfl,rfl,rfl⟩|⟨rfl,rfl,rfl⟩|⟨_,h⟩
  ·exact hx.2 _ _ _ hlk hl ((hgF x).1 hf).1
  ·exact hx.2 _ _ _ hlk hl (hsub2 x hf)
  ·exact hx.2 _ _ _ h hjl hf⟩
 have k2':Keeps w Er w (env B o' G' w):=by
  refine ⟨fun x hx=>⟨kA x hx,rfl⟩,fun j h x hx=> ?_,fun j x hV h=> ?_,fun j ver x h=> ?_,fun j ver p q x h=> ?_⟩
  ·obtain ⟨y,hy⟩:=r.look hx
   by_cases hj:j=i
   ·subst hj
    rw [ho] at hx
    obtain rfl:=Option.some.inj hx;exact hl
   ·exact h x (fo hj hy).1
  ·obtain ⟨hji,x',y,hlj,hjl,hf,hne⟩:=h
   exact ⟨⟨x',y,fo (by simpa using hji) hlj,hjl,hf,hne⟩,rfl⟩
  ·obtain ⟨x',y,hlj,hver,hh,hz⟩:=h
   by_cases hj:j=i
   ·subst hj
    obtain ⟨rfl,rfl⟩:=look_inj hlk hlj
    exact ⟨ob',g',fi,by omega,fun _ hve=>by rw [hga,hgc,hobe];exact hh hl (by omega),hz⟩
   ·exact ⟨x',y,fo hj hlj,hver,hh,hz⟩
  ·obtain ⟨x',y,hlj,hver,hh,hz⟩:=h
   by_cases hj:j=i
   ·subst hj
    obtain ⟨rfl,rfl⟩:=look_inj hlk hlj
    exact ⟨ob',g',fi,by omega,fun _ hve=>by rw [hga,hobn];exact hh hl (by omega),fun _ e2 e3 e4 y hy=>⟨(hz hb e2 e3 e4 y hy).1,fun _ hve=>by rw [hgc];exact (hz hb e2 e3 e4 y hy).2 hl (by omega)⟩⟩
   ·exact ⟨x',y,fo hj hlj,hver,hh,hz⟩
 have kp:Keeps w (env B o G w).plain w (env B o' G' w).plain:=⟨fun x hx=>⟨kA x hx,rfl⟩,fun _ _=>trivial,fun _ _ _ h=>h.elim,fun _ _ _ h=>h.elim,fun _ _ _ _ _ h=>h.elim⟩
 have kf:Keeps w (env B o G w).plain w (env B o' G' w):=kp.trans (plain_keeps w _)
 have hnd':=hnd
 simp only [List.nodup_cons] at hnd'
 refine ⟨G',{len:=by rw [←hO,←hGG];simp [r.len],defs:=r.defs,ok:= ?_,apart:= ?_,fresh:= ?_,tmps:=Rc_wk hw (Rc_keeps k2' _ _ _ (by simp) (Rc_rt rt1 _ _ _ (by simp) r.tmps)),size:=r.size,frame:=r.frame,base:=r.base,same:=r.same}⟩
 ·intro j x y hlj hjl
  rcases back hlj with ⟨rfl,rfl,rfl⟩|⟨rfl,rfl,rfl⟩|⟨hj,h⟩
  ·refine ⟨b::(f1++(a1++[]++a3)++f3),?_,?_,?_⟩
   ·rw [←hob',←hg']
    simp only [hb,Env.of,if_true]
    refine ⟨by simpa using hlen,.inr ⟨b,off,C,ty,fz,_,ha,hbk,hz,h1,by simpa using h2,h3,rfl,?_⟩⟩
    refine Rr_mk hk hn hcs hone (Rc_put hcl hv (Rc_keeps k2' _ _ _ (fun _ _=>rfl) k1) ?_ (Rc_keeps k2' _ _ _ (fun _ _=>rfl) k3)) (Rr_keeps k2' _ _ _ _ _ rfl (fun _ _=>rfl) hr1) (Rr_keeps k2' _ _ _ _ _ rfl (fun _ _=>rfl) hr3)
    simp only [R]
    exact ⟨trivial,_,_,fJ,Nat.le_refl _,fun _ _=>hvs,fun h=>by omega⟩
   ·have hs:(f1++(a1++[]++a3)++f3).Sublist (f1++(a1++a2++a3)++f3):=((List.Sublist.refl f1).append (((List.Sublist.refl a1).append (List.nil_sublist a2)).append (List.Sublist.refl a3))).append (List.Sublist.refl f3)
    exact List.nodup_cons.2 ⟨fun h=>hnd'.1 (hs.subset h),hs.nodup hnd'.2⟩
   ·intro x hx
    rw [hgF]
    have hin:x∈b::(f1++(a1++a2++a3)++f3):=by
     simp only [List.mem_cons,List.mem_append,List.not_mem_nil,or_false] at hx⊢
     grind
    refine ⟨hF x hin,fun hx2=> ?_⟩
    have hd:=hnd'.2
    simp only [List.nodup_append,List.mem_append] at hd
    simp only [List.mem_cons,List.mem_append,List.not_mem_nil,or_false] at hx
    rcases hx with rfl|(hx|hx|hx)|hx
    ·exact hnd'.1 (by simp [hx2])
    ·exact hd.1.2.2 x hx x (.inl (.inr hx2)) rfl
    ·exact hd.1.2.1.1.2.2 x hx x hx2 rfl
    ·exact hd.1.2.1.2.2 x (.inr hx2) x hx rfl
    ·exact hd.2.2 x (.inr (.inl (.inr hx2))) x hx rfl
  ·refine ⟨a2,?_,?_,fun x hx=>hx⟩
   ·simp only [Env.of,Bool.false_eq_true,if_false]
    exact hown2.keeps kp (fun _ _=>rfl)
   ·have hd:=hnd'.2
    simp only [List.nodup_append] at hd
    exact hd.1.2.1.1.2.1
  ·obtain ⟨fq,q1,q2,q3⟩:=r.ok j x y h hjl
   refine ⟨fq,?_,q2,q3⟩
   cases hbj:x.box with
   |false=>
    simp only [hbj,Env.of,Bool.false_eq_true,if_false] at q1⊢
    exact q1.keeps kp (fun _ _=>rfl)
   |true=>
    simp only [hbj,Env.of,if_true] at q1⊢
    exact (q1.nodep (nb h hbj)).keeps k2' (fun _ _=>rfl)
 ·intro j1 j2 x1 x2 y1 y2 z hl1 hl2 v1 v2 hf1 hf2
  rcases back hl1 with ⟨rfl,rfl,rfl⟩|⟨rfl,rfl,rfl⟩|⟨hj1,h1⟩<;>rcases back hl2 with ⟨rfl,rfl,rfl⟩|⟨rfl,rfl,rfl⟩|⟨hj2,h2⟩
  ·rfl
  ·exact absurd hf2 ((hgF z).1 hf1).2
  ·exact absurd (r.apart _ _ _ _ _ _ z hlk h2 hl v2 ((hgF z).1 hf1).1 hf2).symm hj2
  ·exact absurd hf1 ((hgF z).1 hf2).2
  ·rfl
  ·exact absurd (r.apart _ _ _ _ _ _ z hlk h2 hl v2 (hsub2 z hf1) hf2).symm hj2
  ·exact absurd (r.apart _ _ _ _ _ _ z h1 hlk v1 hl hf1 ((hgF z).1 hf2).1) hj1
  ·exact absurd (r.apart _ _ _ _ _ _ z h1 hlk v1 hl hf1 (hsub2 z hf2)) hj1
  ·exact r.apart _ _ _ _ _ _ z h1 h2 v1 v2 hf1 hf2
 ·intro j x y z hlj hjl hf
  rcases back hlj with ⟨rfl,rfl,rfl⟩|⟨rfl,rfl,rfl⟩|⟨_,h⟩
  ·exact r.fresh _ _ _ z hlk hl ((hgF z).1 hf).1
  ·exact r.fresh _ _ _ z hlk hl (hsub2 z hf)
  ·exact r.fresh _ _ _ z h hjl hf
attribute [simp] nodep nodepc
end Go.Aw

namespace Go.Aw
def quiet:Op→Bool
 | .move _| .assign _| .load _ _| .fieldAddr _ _ _| .indexAddr _ _ _| .index _ _ _| .extract _ _| .unOp _ _ _| .binOp _ _ _ _ _| .convert _ _ _| .pick _ _ _| .alloc _| .box _ _| .build _ _| .nilCheck _=>true
 | .call ⟨.builtin .len,⟨[_]⟩,⟨[_]⟩⟩=>true
 | .call ⟨.value _,_,_⟩=>true
 |_=>false
def quietA (op:Op) (s:AS):Bool:=match op with
 | .buildSlice _ _ parts=>(usesc ((parts.toList.map (·.2)).map s.ev)).isEmpty
 | .slice _ x _ _ none=>match s.ev x with
  | .str _=>true
  | .sl _ _ _=>true
  |_=>false
 | .call ⟨.builtin .append,⟨[x,y]⟩,_⟩=>(match s.ev x with| .sl .own _ []=>true|_=>false)&&(match s.ev y with| .sl .own _ []=>true| .sl .view _ _=>true| .str _=>true|_=>false)
 |o=>quiet o
mutual
theorem res_free {o o' : List AObj} : ∀ x : AV, uses x = [] → res o x = res o' x ∧ resOk o x = resOk o' x
  | .obj i v, h => by simp [uses] at h
  | .agg c, h => by have := resc_free (o := o) (o' := o') c (by simpa [uses] using h); simp only [res, resOk, this, and_self]
  | .tup c, h => by have := resc_free (o := o) (o' := o') c (by simpa [uses] using h); simp only [res, resOk, this, and_self]
  | .int _ _, _ => ⟨rfl, rfl⟩
  | .bool _, _ => ⟨rfl, rfl⟩
  | .str _, _ => ⟨rfl, rfl⟩
  | .sl .own _ _, _ => ⟨rfl, rfl⟩
  | .sl .view _ _, _ => ⟨rfl, rfl⟩
  | .sl (.dep _) _ _, _ => ⟨rfl, rfl⟩
  | .vptr .own _ _, _ => ⟨rfl, rfl⟩
  | .vptr .view _ _, _ => ⟨rfl, rfl⟩
  | .vptr (.dep _) _ _, _ => ⟨rfl, rfl⟩
  | .ptr _ _ _ _, _ => ⟨rfl, rfl⟩
  | .fn _ [], _ => ⟨rfl, rfl⟩
  | .fn _ (_ :: _), _ => ⟨rfl, rfl⟩
  | .undef, _ => ⟨rfl, rfl⟩
theorem resc_free {o o' : List AObj} : ∀ c : List AV, usesc c = [] → resc o c = resc o' c ∧ resOkc o c = resOkc o' c
  | [], _ => ⟨rfl, rfl⟩
  | x :: xs, h => by
    simp only [usesc, List.append_eq_nil_iff] at h
    have h1 := res_free (o := o) (o' := o') x h.1
    have h2 := resc_free (o := o) (o' := o') xs h.2
    simp only [resc, resOkc, h1, h2, and_self]
end
theorem good_ne {o:List AObj}:∀{c:List AV},(∀x∈resc o c,x.good=true)→∀x∈c,x≠ .undef
 |[],_,x,hx=>by cases hx
 |y::ys,h,x,hx=>by
  rcases List.mem_cons.1 hx with rfl|hx
  ·rintro rfl
   have:=h .undef (by simp [resc,res])
   simp [AV.good,AV.solid] at this
  ·exact good_ne (o:=o) (c:=ys) (fun z hz=>h z (by simp [resc,hz])) x hx
def setO (t:List AV):Option Tmp→AV→List AV
 |some d,x=>t.set d x
 |none,_=>t
theorem put_eq (t:List AV) (o:List AObj) (d:Option Tmp) (x:AV):AS.put ⟨t,o⟩ d x=⟨setO t d x,o⟩:=by cases d<;>rfl
theorem wk_get:∀{t2 t:List AV} (i:Nat),wk t2 t→t.getD i .undef=t2.getD i .undef∨t.getD i .undef= .undef
 |[],[],_,_=> .inl rfl
 |[],_::_,_,h=>h.elim
 |_::_,[],_,h=>h.elim
 |x::xs,y::ys,0,h=>by simpa [List.getD] using h.1
 |x::xs,y::ys,i+1,h=>by simpa [List.getD] using wk_get i h.2
theorem box_eq (t:List AV) (o:List AObj) (d:Option Tmp) (c:List AV):AS.box ⟨t,o⟩ d c=⟨setO t d (.ptr o.length 0 0 0),o++[⟨true,true,c.length,0,[c]⟩]⟩:=put_eq _ _ _ _
theorem called_eq (t:List AV) (o:List AObj) (d:Option Tmp) (r:AV):AS.called ⟨t,o⟩ d r=⟨setO t d (absorb 1 o.length r).1,o++(absorb 1 o.length r).2⟩:=put_eq _ _ _ _
section
variable {t t2 : List AV} {o o2 : List AObj}
theorem ev_wk (hw:wk t2 t) (x:Operand):(AS.ev ⟨t,o⟩ x)=(AS.ev ⟨t2,o2⟩ x)∨(AS.ev ⟨t,o⟩ x)= .undef:=by
 cases x with
 |tmp i=>exact wk_get i hw
 |const v=>exact .inl rfl
 |func f=>exact .inl rfl
 |global g=>exact .inl rfl
theorem ev_mono (hw:wk t2 t) {x:Operand} {y:AV} (h:AS.ev ⟨t,o⟩ x=y) (hy:y≠ .undef):AS.ev ⟨t2,o2⟩ x=y:=by
 rcases ev_wk (o:=o) (o2:=o2) hw x with h'|h'
 ·rw [←h',h]
 ·rw [h] at h';exact absurd h' hy
def Sub (o o2:List AObj):Prop:=∀(i:Nat) (ob:AObj),o[i]? =some ob→ob.live=true→o2[i]? =some ob
theorem isObj_app (hs:Sub o o2) {i ver:Nat} {ob:AObj} (h:AV.isObj o i ver=some ob):AV.isObj o2 i ver=some ob:=by
 unfold AV.isObj at h⊢
 split at h
 ·rename_i x hx
  split at h
  ·rename_i hc
   rw [hs _ _ hx hc.1]
   simp only [hc,and_self,if_true]
   exact h
  ·cases h
 ·cases h
theorem at_app (hs:Sub o o2) {i ver idx:Nat} {p:AObj×List AV} (h:AS.at ⟨t,o⟩ i ver idx=some p):AS.at ⟨t2,o2⟩ i ver idx=some p:=by
 unfold AS.at at h⊢
 split at h
 ·rename_i ob h1
  simp only [isObj_app hs h1];exact h
 ·cases h
theorem isSome_app (hs:Sub o o2) {i ver:Nat} (h:(AV.isObj o i ver).isSome=true):(AV.isObj o2 i ver).isSome=true:=by
 obtain ⟨ob,h⟩:=Option.isSome_iff_exists.1 h
 rw [isObj_app hs h];rfl
theorem fit_app (hs:Sub o o2) {x:AV} (h:x.fit o=true):x.fit o2=true:=by
 cases x with
 |sl g n l=>
  cases g with
  |dep i=>
   simp only [AV.fit] at h⊢
   split at h
   ·rename_i ob hob;rw [hs _ _ hob h];exact h
   ·cases h
  |_=>rfl
 |vptr g c off=>
  cases g with
  |dep i=>
   simp only [AV.fit] at h⊢
   split at h
   ·rename_i ob hob;rw [hs _ _ hob h];exact h
   ·cases h
  |_=>rfl
 |obj i ver=>simp only [AV.fit] at h⊢;exact isSome_app hs h
 |ptr i ver _ _=>simp only [AV.fit] at h⊢;exact isSome_app hs h
 |undef=>cases h
 |tup _=>cases h
 |_=>rfl
theorem fit_ne {x:AV} (h:x.fit o=true):x≠ .undef:=by rintro rfl;cases h
end
mutual
theorem arg_app {o o2 : List AObj} (hs : Sub o o2) : ∀ (x : AV), arg o x ≠ .undef → ∀ (w : World) (v : Value), R w (envAll w) (arg o2 x) v [] → R w (envAll w) (arg o x) v []
  | .obj i ver, hn, w, v, h => by
    cases ho : AV.isObj o i ver with
    | none => exact absurd (by simp only [arg, ho]) hn
    | some ob => simp only [arg, ho, isObj_app hs ho] at h ⊢; exact h
  | .ptr i ver idx off, hn, w, v, h => by
    cases ho : AV.isObj o i ver with
    | none => exact absurd (by simp only [arg, ho]) hn
    | some ob => simp only [arg, ho, isObj_app hs ho] at h ⊢; exact h
  | .agg c, _, w, v, h => by
    simp only [arg, R] at h ⊢
    obtain ⟨cs, h1, h2, h3⟩ := h
    exact ⟨cs, h1, h2, argc_app hs c w cs h3⟩
  | .tup c, _, w, v, h => by
    simp only [arg, R] at h ⊢
    obtain ⟨cs, h1, h3⟩ := h
    exact ⟨cs, h1, argc_app hs c w cs h3⟩
  | .fn f c, _, w, v, h => by
    simp only [arg, R] at h ⊢
    obtain ⟨h0, cs, h1, h3⟩ := h
    exact ⟨h0, cs, h1, argc_app hs c w cs h3⟩
  | .int _ _, _, _, _, h => h
  | .bool _, _, _, _, h => h
  | .str _, _, _, _, h => h
  | .sl .own _ _, _, _, _, h => h
  | .sl .view _ _, _, _, _, h => h
  | .sl (.dep i) n l, hn, w, v, h => by
    cases ho : o[i]? with
    | none => simp [arg, ho] at hn
    | some ob =>
      by_cases hv : ob.live = true
      · simp only [arg, ho, hs _ _ ho hv] at h ⊢; exact h
      · simp [arg, ho, hv] at hn
  | .vptr .own _ _, _, _, _, h => h
  | .vptr .view _ _, _, _, _, h => h
  | .vptr (.dep i) c off, hn, w, v, h => by
    cases ho : o[i]? with
    | none => simp [arg, ho] at hn
    | some ob =>
      by_cases hv : ob.live = true
      · simp only [arg, ho, hs _ _ ho hv] at h ⊢; exact h
      · simp [arg, ho, hv] at hn
  | .undef, hn, _, _, _ => absurd rfl hn
theorem argc_app {o o2 : List AObj} (hs : Sub o o2) : ∀ (c : List AV) (w : World) (cs : List Value), Rc w (envAll w) (argc o2 c) cs [] → Rc w (envAll w) (argc o c) cs []
  | [], _, _, h => h
  | x :: xs, w, [], h => by simp [argc, Rc] at h
  | x :: xs, w, c :: cs, h => by
    simp only [argc, Rc] at h ⊢
    obtain ⟨f1, f2, h1, h2, e⟩ := h
    obtain ⟨rfl, rfl⟩ : f1 = [] ∧ f2 = [] := by simpa using e
    refine ⟨[], [], ?_, argc_app hs xs w cs h2, rfl⟩
    by_cases hn : arg o x = .undef
    · rw [hn]; simp [R]
    · exact arg_app hs x hn w c h1
end
theorem argc_wk {o:List AObj}:∀{a2 a:List AV},wk a2 a→wk (argc o a2) (argc o a)
 |[],[],_=>trivial
 |[],_::_,h=>h.elim
 |_::_,[],h=>h.elim
 |x::xs,y::ys,h=>by
  refine ⟨?_,argc_wk h.2⟩
  rcases h.1 with rfl|rfl
  ·exact .inl rfl
  ·exact .inr rfl
theorem args_wk {t t2:List AV} {o o2:List AObj} (hw:wk t2 t) (l:List Operand) (cap:List AV):wk (l.map (AS.ev ⟨t2,o2⟩)++cap) (l.map (AS.ev ⟨t,o⟩)++cap):=by
 induction l with
 |nil=>
  simp only [List.map_nil,List.nil_append]
  induction cap with
  |nil=>trivial
  |cons x xs ih=>exact ⟨.inl rfl,ih⟩
 |cons x xs ih=>exact ⟨ev_wk hw x,ih⟩
theorem Ok.mono {P:Program} [Tabs P] {f:FuncId} {a a2:List AV} {r:AV} (h:Ok P f a r) (hs:∀w vs,Rc w (envAll w) a2 vs []→Rc w (envAll w) a vs []):Ok P f a2 r:=
 fun w vs hg hr=>h w vs hg (hs w vs hr)
theorem absorb_none:∀(q k k':Nat) (x:AV),(absorb q k x).2=[]→absorb q k' x=absorb q k x:=by
 intro q k k' x h
 exact (go q k k').1 x h
where
 go (q k k':Nat):(∀x:AV,(absorb q k x).2=[]→absorb q k' x=absorb q k x)∧(∀c:List AV,(absorbc q k c).2=[]→absorbc q k' c=absorbc q k c):=
  ⟨fun x=>one x,fun c=>all c⟩
 one {q k k':Nat}:∀x:AV,(absorb q k x).2=[]→absorb q k' x=absorb q k x
  | .sl .own n l,h=>by simp [absorb] at h
  | .agg c,h=>by simp only [absorb] at h⊢;rw [all c h]
  | .tup c,h=>by simp only [absorb] at h⊢;rw [all c h]
  | .sl .view _ _,_=>rfl
  | .sl (.dep _) _ _,_=>rfl
  | .int _ _,_=>rfl
  | .bool _,_=>rfl
  | .str _,_=>rfl
  | .vptr _ _ _,_=>rfl
  | .obj _ _,_=>rfl
  | .ptr _ _ _ _,_=>rfl
  | .fn _ _,_=>rfl
  | .undef,_=>rfl
 all {q k k':Nat}:∀c:List AV,(absorbc q k c).2=[]→absorbc q k' c=absorbc q k c
  |[],_=>rfl
  |x::xs,h=>by
   simp only [absorbc,List.append_eq_nil_iff] at h⊢
   have h1:=one (k':=k') x h.1
   rw [h1]
   have h2:(absorb q k x).2.length=0:=by rw [h.1];rfl
   rw [h2] at h⊢
   have h3:=all (k:=k+0) (k':=k'+0) xs h.2
   rw [h3]
theorem bound_mono {t2 t:List AV} {o o2:List AObj} (hw:wk t2 t) {d n:Nat} {x:Option Operand} (h:AS.bound ⟨t,o⟩ d x=some n):AS.bound ⟨t2,o2⟩ d x=some n:=by
 cases x with
 |none=>exact h
 |some x=>
  simp only [AS.bound] at h⊢
  split at h
  ·rename_i hx
   rw [ev_mono (o2:=o2) hw hx (by simp)];exact h
  ·cases h
theorem aop_mono {P:Program} [Tabs P] {op:Oper} {t t2:List AV} {o o2:List AObj} {K:AS→Prop} (q:quietA op.op ⟨t,o⟩=true) (hw:wk t2 t) (h:aop P op ⟨t,o⟩ K) (hs:Sub o o2) (hext:o2.length=o.length∨∀s',K s'→s'.o.length=o.length):
  ∃x new x2,K ⟨setO t op.dst x,o++new⟩∧(x=x2∨x= .undef)∧(o2.length=o.length∨new=[])∧∀K2:AS→Prop,K2 ⟨setO t2 op.dst x2,o2++new⟩→aop P op ⟨t2,o2⟩ K2:=by
 have same:∀{x:AV},K (AS.put ⟨t,o⟩ op.dst x)→(∀K2:AS→Prop,K2 (AS.put ⟨t2,o2⟩ op.dst x)→aop P op ⟨t2,o2⟩ K2)→
   ∃x new x2,K ⟨setO t op.dst x,o++new⟩∧(x=x2∨x= .undef)∧(o2.length=o.length∨new=[])∧∀K2:AS→Prop,K2 ⟨setO t2 op.dst x2,o2++new⟩→aop P op ⟨t2,o2⟩ K2:=by
  intro x h1 h2
  refine ⟨x,[],x,by rw [List.append_nil,←put_eq];exact h1,.inl rfl,.inr rfl,fun K2 hK=>h2 K2 ?_⟩
  rw [put_eq];rw [List.append_nil] at hK;exact hK
 obtain ⟨dst,op,ty,pos,after,gd⟩:=op
 have E:∀{x:Operand} {y:AV},AS.ev ⟨t,o⟩ x=y→y≠ .undef→AS.ev ⟨t2,o2⟩ x=y:=fun h hy=>ev_mono hw h hy
 unfold aop at h
 dsimp only at h q same⊢
 split at h
 case h_1=>
  rename_i X
  refine ⟨_,[],AS.ev ⟨t2,o2⟩ X,by rw [put_eq] at h;rw [List.append_nil];exact h,ev_wk hw X,.inr rfl,fun K2 hK=> ?_⟩
  unfold aop;dsimp only;rw [put_eq];rw [List.append_nil] at hK;exact hK
 case h_2=>
  rename_i X
  refine ⟨_,[],AS.ev ⟨t2,o2⟩ X,by rw [put_eq] at h;rw [List.append_nil];exact h,ev_wk hw X,.inr rfl,fun K2 hK=> ?_⟩
  unfold aop;dsimp only;rw [put_eq];rw [List.append_nil] at hK;exact hK
 case h_3=>
  split at h
  ·rename_i b hc
   rename_i X Y _
   refine ⟨if b then AS.ev ⟨t,o⟩ X else AS.ev ⟨t,o⟩ Y,[],if b then AS.ev ⟨t2,o2⟩ X else AS.ev ⟨t2,o2⟩ Y,by rw [put_eq] at h;rw [List.append_nil];exact h,?_,.inr rfl,fun K2 hK=> ?_⟩
   ·cases b
    ·exact ev_wk hw Y
    ·exact ev_wk hw X
   ·unfold aop;dsimp only;rw [E hc (by simp)];dsimp only;rw [put_eq];rw [List.append_nil] at hK;exact hK
  ·exact h.elim
 case h_4=>
  split at h
  ·rename_i z hz
   rcases hext with hlen|hext
   ·refine ⟨.ptr o.length 0 0 0,[⟨true,true,z.length,0,[z]⟩],.ptr o.length 0 0 0,by rw [box_eq] at h;exact h,.inl rfl,.inl hlen,fun K2 hK=> ?_⟩
    unfold aop;dsimp only;rw [hz];dsimp only;rw [box_eq,hlen];exact hK
   ·have:=hext _ h
    rw [box_eq] at this;simp at this
  ·exact h.elim
 case h_5=>
  rename_i X
  obtain ⟨h1,h2⟩:=h
  have hX:=E (x:=X) rfl (fit_ne h1)
  rcases hext with hlen|hext
  ·refine ⟨.ptr o.length 0 0 0,[⟨true,true,(AS.ev ⟨t,o⟩ X).cells.length,0,[(AS.ev ⟨t,o⟩ X).cells]⟩],.ptr o.length 0 0 0,by rw [box_eq] at h2;exact h2,.inl rfl,.inl hlen,fun K2 hK=> ?_⟩
   unfold aop;dsimp only;rw [hX];refine ⟨fit_app hs h1,?_⟩;rw [box_eq,hlen];exact hK
  ·have:=hext _ h2
   rw [box_eq] at this;simp at this
 case h_6=>
  rename_i T parts
  split at h
  ·rename_i pl hp
   split at h
   ·rename_i z0 hz
    obtain ⟨h1,h⟩:=h
    split at h
    ·rename_i z hf
     have hparts:(parts.toList.map fun p=>(p.1,AS.ev ⟨t2,o2⟩ p.2))=parts.toList.map fun p=>(p.1,AS.ev ⟨t,o⟩ p.2):=
      List.map_congr_left fun p hp=>by rw [E (x:=p.2) rfl (fit_ne (h1 p hp))]
     refine same h fun K2 hK=> ?_
     unfold aop;dsimp only;rw [hp];dsimp only;rw [hz];dsimp only
     refine ⟨fun p hp=>by rw [E (x:=p.2) rfl (fit_ne (h1 p hp))];exact fit_app hs (h1 p hp),?_⟩
     rw [hparts,hf];exact hK
    ·exact h.elim
   ·exact h.elim
  ·exact h.elim
 case h_7=>
  rename_i T len parts
  split at h
  ·rename_i e n by' he
   obtain ⟨k1,k2,k3,k4,k5,k6,k7,k8,h⟩:=h
   have hu:usesc ((parts.toList.map (·.2)).map (AS.ev ⟨t,o⟩))=[]:=by simpa [quietA] using q
   have hL:(parts.toList.map (·.2)).map (AS.ev ⟨t2,o2⟩)=(parts.toList.map (·.2)).map (AS.ev ⟨t,o⟩):=
    List.map_congr_left fun x hx=>E rfl (good_ne (fun y hy=>(k8 y hy).1) _ (List.mem_map.2 ⟨x,hx,rfl⟩))
   have hkill:∀os:List AObj,kills [] os=os:=fun _=>rfl
   rcases hext with hlen|hext
   ·refine ⟨.obj o.length 1,[⟨true,false,n,1,(resc o ((parts.toList.map (·.2)).map (AS.ev ⟨t,o⟩))).map AV.cells⟩],.obj o.length 1,?_,.inl rfl,.inl hlen,fun K2 hK=> ?_⟩
    ·unfold AS.built at h
     rw [hu,hkill,put_eq] at h
     simpa using h
    ·unfold aop;dsimp only;rw [he];dsimp only
     refine ⟨k1,k2,k3,k4,k5,?_⟩
     rw [hL]
     have hfree:=resc_free (o:=o) (o':=o2) _ hu
     refine ⟨by rw [←hfree.2];exact k6,k7,by rw [←hfree.1];exact k8,?_⟩
     unfold AS.built
     dsimp only
     rw [hL,hu,hkill,put_eq,hlen,←hfree.1]
     simpa [hlen] using hK
   ·have:=hext _ h
    unfold AS.built at this
    rw [hu,hkill,put_eq] at this;simp at this
  ·exact h.elim
 case h_8=>
  rename_i T X
  split at h
  ·rename_i hx
   split at h
   ·rename_i ob e ha
    unfold loadA at h
    split at h
    ·rename_i n hn
     refine same h.2 fun K2 hK=> ?_
     unfold aop;dsimp only;rw [E hx (by simp)];dsimp only;rw [at_app hs ha];dsimp only;unfold loadA;rw [hn];exact ⟨h.1,hK⟩
    ·rename_i hn
     obtain ⟨h1,h⟩:=h
     split at h
     ·rename_i y hy
      refine same h fun K2 hK=> ?_
      unfold aop;dsimp only;rw [E hx (by simp)];dsimp only;rw [at_app hs ha];dsimp only;unfold loadA;rw [hn];dsimp only;rw [hy];exact ⟨h1,hK⟩
     ·exact h.elim
   ·exact h.elim
  ·rename_i hx
   obtain ⟨hf,h⟩:=h
   unfold loadA at h
   split at h
   ·rename_i n hn
    refine same h.2 fun K2 hK=> ?_
    unfold aop;dsimp only;rw [E hx (by simp)];dsimp only;unfold loadA;rw [hn];exact ⟨fit_app hs hf,h.1,hK⟩
   ·rename_i hn
    obtain ⟨h1,h⟩:=h
    split at h
    ·rename_i y hy
     refine same h fun K2 hK=> ?_
     unfold aop;dsimp only;rw [E hx (by simp)];dsimp only;unfold loadA;rw [hn];dsimp only;rw [hy];exact ⟨fit_app hs hf,h1,hK⟩
    ·exact h.elim
  ·exact h.elim
 case h_9=>cases q
 case h_10=>
  split at h
  ·rename_i fo hf
   split at h
   ·rename_i hx
    refine same h.2 fun K2 hK=> ?_
    unfold aop;dsimp only;rw [hf];dsimp only;rw [E hx (by simp)];exact ⟨isSome_app hs h.1,hK⟩
   ·rename_i hx
    refine same h.2 fun K2 hK=> ?_
    unfold aop;dsimp only;rw [hf];dsimp only;rw [E hx (by simp)];exact ⟨fit_app hs h.1,hK⟩
   ·exact h.elim
  ·exact h.elim
 case h_11=>
  split at h
  ·rename_i hi
   obtain ⟨h0,h⟩:=h
   split at h
   ·rename_i hx
    split at h
    ·rename_i ob ho
     split at h
     ·rename_i he
      refine same h.2.2.2 fun K2 hK=> ?_
      unfold aop;dsimp only;rw [E hi (by simp)];dsimp only;rw [E hx (by simp)];dsimp only;rw [isObj_app hs ho];dsimp only;rw [he];exact ⟨h0,h.1,h.2.1,h.2.2.1,hK⟩
     ·exact h.elim
    ·exact h.elim
   ·rename_i hx
    obtain ⟨hf,h⟩:=h
    split at h
    ·rename_i he
     obtain ⟨hm,h⟩:=h
     split at h
     ·rename_i hc
      refine same h fun K2 hK=> ?_
      unfold aop;dsimp only;rw [E hi (by simp)];dsimp only;rw [E hx (by simp)];dsimp only;rw [he];dsimp only;rw [hc];exact ⟨h0,fit_app hs hf,hm,hK⟩
     ·exact h.elim
    ·exact h.elim
   ·rename_i hx
    obtain ⟨hso,h⟩:=h
    split at h
    ·rename_i ha
     refine same h.2 fun K2 hK=> ?_
     unfold aop;dsimp only;rw [E hi (by simp)];dsimp only;rw [E hx (by simp)];dsimp only;rw [ha];exact ⟨h0,isSome_app hs hso,h.1,hK⟩
    ·exact h.elim
   ·exact h.elim
  ·exact h.elim
 case h_12=>
  split at h
  ·rename_i hx
   split at h
   ·rename_i hi
    obtain ⟨ht,h0,h⟩:=h
    split at h
    ·rename_i hu
     refine same h fun K2 hK=> ?_
     unfold aop;dsimp only;rw [E hx (by simp)];dsimp only;rw [E hi (by simp)];dsimp only;rw [hu];exact ⟨ht,h0,hK⟩
    ·exact h.elim
   ·exact h.elim
  ·exact h.elim
 case h_13=>
  split at h
  ·rename_i hx
   split at h
   ·rename_i hy
    refine same h fun K2 hK=> ?_
    unfold aop;dsimp only;rw [E hx (by simp)];dsimp only;rw [hy];exact hK
   ·exact h.elim
  ·exact h.elim
 case h_14=>cases q
 case h_15=>cases q
 case h_16=>
  split at h
  ·rename_i hx
   split at h
   ·rename_i ha
    split at h
    ·rename_i hb
     obtain ⟨h1,h2,h3,h⟩:=h
     refine same h fun K2 hK=> ?_
     unfold aop;dsimp only;rw [E hx (by simp)];dsimp only;rw [bound_mono hw ha];dsimp only;rw [bound_mono hw hb];exact ⟨h1,h2,h3,hK⟩
    ·exact h.elim
   ·exact h.elim
  ·rename_i hx
   split at h
   ·rename_i ha
    split at h
    ·rename_i hb
     split at h
     ·rename_i he
      obtain ⟨h1,h2,h3,h4,h⟩:=h
      refine same h fun K2 hK=> ?_
      unfold aop;dsimp only;rw [E hx (by simp)];dsimp only;rw [bound_mono hw ha];dsimp only;rw [bound_mono hw hb];dsimp only;rw [he];exact ⟨h1,fit_app hs h2,h3,h4,hK⟩
     ·exact h.elim
    ·exact h.elim
   ·exact h.elim
  ·rename_i hx
   simp only [quietA,hx] at q
   cases q
  ·exact h.elim
 case h_17=>
  split at h
  ·rename_i hx
   refine same h fun K2 hK=> ?_
   unfold aop;dsimp only;rw [E hx (by simp)];exact hK
  ·exact h.elim
 case h_18=>
  split at h
  ·rename_i hx
   refine same h fun K2 hK=> ?_
   unfold aop;dsimp only;rw [E hx (by simp)];exact hK
  ·exact h.elim
 case h_19=>
  split at h
  ·rename_i hx
   split at h
   ·rename_i hy
    obtain ⟨hk,h⟩:=h
    split at h
    ·rename_i hz
     refine same h fun K2 hK=> ?_
     unfold aop;dsimp only;rw [E hx (by simp)];dsimp only;rw [E hy (by simp)];dsimp only;rw [hz];exact ⟨hk,hK⟩
    ·exact h.elim
   ·exact h.elim
  ·rename_i hx
   split at h
   ·rename_i hy
    obtain ⟨hk,h⟩:=h
    split at h
    ·rename_i hz
     refine same h fun K2 hK=> ?_
     unfold aop;dsimp only;rw [E hx (by simp)];dsimp only;rw [E hy (by simp)];dsimp only;rw [hz];exact ⟨hk,hK⟩
    ·exact h.elim
   ·exact h.elim
  ·rename_i hx
   split at h
   ·rename_i hy
    refine same h.2.2 fun K2 hK=> ?_
    unfold aop;dsimp only;rw [E hx (by simp)];dsimp only;rw [E hy (by simp)];exact ⟨h.1,h.2.1,hK⟩
   ·exact h.elim
  ·rename_i hx
   split at h
   ·rename_i hy
    obtain ⟨h1,h2,h3,b,h4,h5⟩:=h
    refine same h5 fun K2 hK=> ?_
    unfold aop;dsimp only;rw [E hx (by simp)];dsimp only;rw [E hy (by simp)];exact ⟨h1,h2,h3,b,h4,hK⟩
   ·exact h.elim
  ·exact h.elim
 case h_20=>
  split at h
  ·rename_i hx
   split at h
   ·rename_i hk
    refine same h.2 fun K2 hK=> ?_
    unfold aop;dsimp only;rw [E hx (by simp)];dsimp only;rw [hk];exact ⟨h.1,hK⟩
   ·exact h.elim
  ·rename_i hx
   refine same h.2.2 fun K2 hK=> ?_
   unfold aop;dsimp only;rw [E hx (by simp)];exact ⟨h.1,h.2.1,hK⟩
  ·rename_i hx
   split at h
   ·rename_i he
    obtain ⟨h1,h2,h3,h4,h5,bs,h6,h7⟩:=h
    refine same h7 fun K2 hK=> ?_
    unfold aop;dsimp only;rw [E hx (by simp)];dsimp only;rw [he];exact ⟨h1,h2,fit_app hs h3,h4,h5,bs,h6,hK⟩
   ·exact h.elim
  ·rename_i hx
   split at h
   ·rename_i ho
    split at h
    ·rename_i he
     obtain ⟨h1,h2,h3,h4,bs,h6,h7⟩:=h
     refine same h7 fun K2 hK=> ?_
     unfold aop;dsimp only;rw [E hx (by simp)];dsimp only;rw [isObj_app hs ho];dsimp only;rw [he];exact ⟨h1,h2,h3,h4,bs,h6,hK⟩
    ·exact h.elim
   ·exact h.elim
  ·exact h.elim
 case h_21=>
  split at h
  ·rename_i hx
   refine same h.2 fun K2 hK=> ?_
   unfold aop;dsimp only;rw [E hx (by simp)];exact ⟨h.1,hK⟩
  ·rename_i hx
   refine same h.2.2 fun K2 hK=> ?_
   unfold aop;dsimp only;rw [E hx (by simp)];exact ⟨fit_app hs h.1,h.2.1,hK⟩
  ·rename_i hx
   split at h
   ·rename_i ho
    refine same h.2 fun K2 hK=> ?_
    unfold aop;dsimp only;rw [E hx (by simp)];dsimp only;rw [isObj_app hs ho];exact ⟨h.1,hK⟩
   ·exact h.elim
  ·exact h.elim
 case h_22=>
  rename_i X Y tS xT
  simp only [quietA,Bool.and_eq_true] at q
  obtain ⟨qx,qy⟩:=q
  split at h
  ·rename_i e n by' he
   obtain ⟨k1,k2,h⟩:=h
   split at qx
   ·rename_i m hx
    have hx2:=E hx (by simp)
    rw [hx] at h
    simp only [AS.target] at h
    have hsrc:∀(y:AV),AS.ev ⟨t,o⟩ Y=y→y≠ .undef→(match y with| .sl .own _ []=>true| .sl .view _ _=>true| .str _=>true|_=>false)=true→∀l2 o',AS.source ⟨t,o++[⟨true,false,n,0,[]⟩]⟩ o.length n y=some (l2,o')→
      o'=o++[⟨true,false,n,0,[]⟩]∧AS.source ⟨t2,o2++[⟨true,false,n,0,[]⟩]⟩ o2.length n (AS.ev ⟨t2,o2⟩ Y)=some (l2,o2++[⟨true,false,n,0,[]⟩]):=by
     intro y hy hne hk l2 o' hs'
     rw [E hy hne]
     split at hk
     ·simp only [AS.source,Option.some.injEq,Prod.mk.injEq] at hs'⊢;exact ⟨hs'.2.symm,hs'.1,trivial⟩
     ·simp only [AS.source] at hs'⊢
      split at hs'
      ·rename_i hm
       simp only [Option.some.injEq,Prod.mk.injEq] at hs'
       rw [if_pos hm]
       exact ⟨hs'.2.symm,by rw [hs'.1]⟩
      ·cases hs'
     ·simp only [AS.source] at hs'⊢
      split at hs'
      ·rename_i hm
       simp only [Option.some.injEq,Prod.mk.injEq] at hs'
       rw [if_pos hm]
       exact ⟨hs'.2.symm,by rw [hs'.1]⟩
      ·cases hs'
     ·cases hk
    split at h
    ·rename_i l2 o' hs'
     obtain ⟨h1,h2,h⟩:=h
     obtain ⟨rfl,hs2⟩:=hsrc _ rfl (by rintro hu;rw [hu] at qy;simp at qy) qy _ _ hs'
     have e1:(o++[(⟨true,false,n,0,[]⟩:AObj)]).set o.length ⟨true,false,n,0+1,[]++l2⟩=o++[⟨true,false,n,0+1,[]++l2⟩]:=by
      rw [List.set_append_right _ _ (Nat.le_refl _)];simp
     have e2:(o2++[(⟨true,false,n,0,[]⟩:AObj)]).set o2.length ⟨true,false,n,0+1,[]++l2⟩=o2++[⟨true,false,n,0+1,[]++l2⟩]:=by
      rw [List.set_append_right _ _ (Nat.le_refl _)];simp
     unfold AS.appended at h
     dsimp only at h
     rw [e1,put_eq] at h
     rcases hext with hlen|hext
     ·refine ⟨.obj o.length (0+1),[⟨true,false,n,0+1,[]++l2⟩],.obj o.length (0+1),h,.inl rfl,.inl hlen,fun K2 hK=> ?_⟩
      unfold aop;dsimp only;rw [he];dsimp only
      refine ⟨k1,k2,?_⟩
      rw [hx2]
      simp only [AS.target]
      rw [hs2]
      dsimp only
      refine ⟨h1,h2,?_⟩
      unfold AS.appended
      dsimp only
      rw [e2,put_eq,hlen]
      exact hK
     ·have:=hext _ h
      simp at this
    ·exact h.elim
   ·cases qx
  ·exact h.elim
 case h_23=>
  rename_i F args tys
  split at h
  ·rename_i g cap hf
   split at h
   ·rename_i h1
    obtain ⟨r,h2,h3⟩:=h
    have hok:Ok P g (argc o2 (AS.args ⟨t2,o2⟩ args++cap)) r:=h2.mono fun w vs hr=>
     Rc_wk (argc_wk (args_wk (o:=o) (o2:=o2) hw args.toList cap)) (argc_app hs _ w vs hr)
    rcases hext with hlen|hext
    ·refine ⟨(absorb 1 o.length r).1,(absorb 1 o.length r).2,(absorb 1 o.length r).1,by rw [called_eq] at h3;exact h3,.inl rfl,.inl hlen,fun K2 hK=> ?_⟩
     unfold aop;dsimp only;rw [E hf (by simp)];dsimp only;rw [if_pos h1];refine ⟨r,hok,?_⟩;rw [called_eq,hlen];exact hK
    ·have hn:=hext _ h3
     simp only [called_eq,List.length_append] at hn
     have hn':(absorb 1 o.length r).2=[]:=List.eq_nil_of_length_eq_zero (by omega)
     have ha:=absorb_none 1 o.length o2.length r hn'
     refine ⟨(absorb 1 o.length r).1,[],(absorb 1 o.length r).1,?_,.inl rfl,.inr rfl,fun K2 hK=> ?_⟩
     ·rw [called_eq,hn'] at h3;exact h3
     ·unfold aop;dsimp only;rw [E hf (by simp)];dsimp only;rw [if_pos h1]
      refine ⟨r,hok,?_⟩
      unfold AS.called;rw [ha,hn',put_eq];simpa using hK
   ·rename_i h1
    obtain ⟨r,h2,h3⟩:=h
    refine same h3 fun K2 hK=> ?_
    unfold aop;dsimp only;rw [E hf (by simp)];dsimp only;rw [if_neg h1]
    exact ⟨r,fun w vs hr=>h2 w vs (Rc_wk (argc_wk (args_wk (o:=o) (o2:=o2) hw args.toList cap)) (argc_app hs _ w vs hr)),hK⟩
  ·exact h.elim
 case h_24=>
  split at h
  ·rename_i hx
   refine same h.2 fun K2 hK=> ?_
   unfold aop;dsimp only;rw [E hx (by simp)];exact ⟨isSome_app hs h.1,hK⟩
  ·rename_i hx
   refine same h.2 fun K2 hK=> ?_
   unfold aop;dsimp only;rw [E hx (by simp)];exact ⟨fit_app hs h.1,hK⟩
  ·exact h.elim
 case h_25=>exact h.elim
end Go.Aw
