/- Proved here: steps towards the statement of this claim. No condition. -/
import Derived.Test.YtlnblmmohpcceaaGreatDoorZF9
set_option linter.all false
namespace Go.Aw
open List
def lS (s s':AS):Prop:=∀⦃P:Program⦄ [aD P] (B:fG P) a w,Rel B s a w->Rel B s' a w
def AY (K:AS->Prop) (Q:Exit->AS->Prop):Exit->AS->Prop
 | .normal,s=>K s
 |e,s=>Q e s
def df (id:Nat) (Q:Exit->AS->Prop):Exit->AS->Prop
 | .exit id',s=>if id'=id then Q .normal s else Q (.exit id') s
 |e,s=>Q e s
def lift {P:Program} [aD P] (B:fG P) (Q:Exit->AS->Prop):Exit->Act->World->Prop:=fun e a w=>∃s,Q e s/\Rel B s a w
def Uz (want:Bool):AV->AV
 | .gV []=> .bool (!want)
 |x=>x
@[simp] theorem aF8 (w b:Bool):Uz w (.bool b)= .bool b:=rfl
@[simp] theorem aH9 (w:Bool):Uz w (.gV [])= .bool (!w):=rfl
theorem yc {w b:Bool} {x:AV} (h:Uz w x= .bool b):(x= .gV []/\b= !w)\/x= .bool b:=by
 unfold Uz at h
 split at h
 ·exact .inl ⟨rfl,(AV.bool.inj h).symm⟩
 ·exact .inr h
theorem XC (w:World) (E:Env):R w E (.gV []) undef []:=by
 simp only [R];exact ⟨[],rfl,by simp [Rc]⟩
def oG (all:List Oper) (s:AS) (j:Nat) (want:Bool):AV:=match all[j]? with
 |some o=>match o.dst with
  |some d=>Uz want (s.t.getD d .undef)
  |none=> .undef
 |none=> .undef
def Gm (P:Program) [aD P] (o:Oper) (s:AS) (K:AS->Prop):Prop:=
 match o.op with
 | .call ⟨.value f,⟨x::ys⟩,_⟩=>match s.ev f with
  | .fn g []=>aC P g=true/\(ys.all fun y=>(s.ev y).gQ)=true/\iT s.o (s.ev x)=true/\(lI (s.ev x)).Nodup/\∃x' r,Xu P g (res s.o (s.ev x)) x' (ys.map s.ev) r/\(r.gQ=true\/r= .gV [])/\mt s.o (s.ev x) x'=true/\K (s.Lm o.dst (s.ev x) x' r)
  |_=>False
 | .convert src d x=>match s.ev x with
  | .str l=>match gD P d with
   |some (e,m,_)=>isString P src=true/\m=1/\intType P e=some .u8/\l.length<=9223372036854775807/\K (s.made o.dst 1 (fC l))
   |none=>False
  |_=>False
 |_=>False
theorem UA {P:Program} [aD P] {B:fG P} {o:Oper} {s:AS} {K:AS->Prop} (h:Gm P o s K):∃s',K s'/\Step P B o s s':=by
 obtain ⟨dst,op,ty,pos,after,gd⟩:=o
 unfold Gm at h
 dsimp only at h
 split at h
 ·split at h
  ·rename_i hf
   obtain ⟨h1,h2,h3,h4,x',r,h5,h6,h7,h8⟩:=h
   exact ⟨_,h8,xc _ _ _ _ hf h1 h2 h6 h3 h4 h7 h5⟩
  ·exact h.elim
 ·split at h
  ·rename_i hx
   split at h
   ·rename_i he
    obtain ⟨h1,rfl,h2,h3,h4⟩:=h
    exact ⟨_,h4,XB _ _ _ hx h1 he h2 h3⟩
   ·exact h.elim
  ·exact h.elim
 ·exact h.elim
def UB (P:Program) [aD P] (o:Oper) (s:AS) (K:AS->Prop):Prop:=
 match o.op with
 | .call ⟨.value f,args,_⟩=>match s.ev f with
  | .fn g []=>aC P g=true/\∃gs r,IJ P g gs r/\(takes s.o (s.args args) gs).Nodup/\handed s.o (takes s.o (s.args args) gs) (s.args args) gs/\K (s.given o.dst (s.args args) gs r)
  |_=>False
 |_=>False
theorem XD {P:Program} [aD P] {B:fG P} {o:Oper} {s:AS} {K:AS->Prop} (h:UB P o s K):∃s',K s'/\Step P B o s s':=by
 obtain ⟨dst,op,ty,pos,after,gd⟩:=o
 unfold UB at h
 dsimp only at h
 split at h
 ·split at h
  ·rename_i hf
   obtain ⟨h1,gs,r,h2,h3,h4,h5⟩:=h
   exact ⟨_,h5,cz _ _ _ hf h1 h3 h4 h2⟩
  ·exact h.elim
 ·exact h.elim
theorem lS.refl (s:AS):lS s s:=fun _ _ _ _ _ h=>h
theorem lS.trans {a b c:AS} (h:lS a b) (k:lS b c):lS a c:=fun _ _ B x w r=>k B x w (h B x w r)
def IL (P:Program) [aD P] (o:Oper) (s:AS) (K:AS->Prop):Prop:=∃s1,lS s s1/\(nZ P o s1 K\/Gm P o s1 K\/UB P o s1 K)
theorem Mx {P:Program} [aD P] {B:fG P} {o:Oper} {s:AS} {K:AS->Prop} (h:IL P o s K):∃s',K s'/\Step P B o s s':=by
 obtain ⟨s1,hw,h⟩:=h
 obtain ⟨s',hK,hst⟩:∃s',K s'/\Step P B o s1 s':=by
  rcases h with h|h|h
  ·exact vD h
  ·exact UA h
  ·exact XD h
 exact ⟨s',hK,fun a w next Q hr hn=>hst a w next Q (hw B a w hr) hn⟩
theorem yf {P:Program} [aD P] {o:Oper} {s:AS} {K:AS->Prop} (h:Gm P o s K):IL P o s K:=⟨s,lS.refl s,.inr (.inl h)⟩
theorem aF9 {P:Program} [aD P] {o:Oper} {s:AS} {K:AS->Prop} (h:UB P o s K):IL P o s K:=⟨s,lS.refl s,.inr (.inr h)⟩
theorem aGa {P:Program} [aD P] {o:Oper} {s:AS} {K:AS->Prop} (h:aF6 P o s K):IL P o s K:=by
 unfold aF6 at h
 split at h
 ·split at h
  ·split at h
   ·rename_i ob uW
    exact ⟨_,fun _ _ B a w hr=>aB3 uW h.1 hr,.inl h.2⟩
   ·exact h.elim
  ·exact h.elim
 ·exact h.elim
def kW (P:Program) [aD P] (all:List Oper):List Oper->AS->(AS->Prop)->Prop
 |[],s,K=>K s
 |o::r,s,K=>match o.guard with
  |none=>(nZ P o s fun s'=>kW P all r s' K)\/(IL P o s fun s'=>kW P all r s' K)
  |some (j,want)=>match oG all s j want with
   | .bool b=>(b=want->nZ P o s fun s'=>kW P all r s' K)/\(b≠want->kW P all r (s.put o.dst (.gV [])) K)
   |_=>False
def XE (P:Program) [aD P] (ops:Array Oper) (s:AS) (K:AS->Prop):Prop:=
 ∀(B:fG P) a w (Q:Exit->Act->World->Prop),Rel B s a w->(∀a' w' s',K s'->Rel B s' a' w'->Q .normal a' w')->
  wpAny P .any ops Q ops.size (Array.replicate ops.size false) a {w with drawn:=w.drawn+1}
def qU (P:Program) [aD P]:Code->AS->(Exit->AS->Prop)->Prop
 | .skip,s,Q=>Q .normal s
 | .region _ ops false,s,Q=>∃s2,lS s s2/\kW P ops.toList ops.toList s2 (Q .normal)
 | .region _ ops true,s,Q=>XE P ops s (Q .normal)
 | .seq x y,s,Q=>qU P x s (AY (fun s'=>qU P y s' Q) Q)
 | .cond c x y,s,Q=>match s.ev c with
  | .bool b=>(b=true->qU P x s Q)/\(b=false->qU P y s Q)
  |_=>False
 | .block id c,s,Q=>qU P c s (df id Q)
 | .loop c,s,Q=>∃(ι:Type) (inv:ι->AS) (μ:ι->Nat) (i:ι),lS s (inv i)/\∀i,qU P c (inv i) (AY (fun s'=>∃j,lS s' (inv j)/\μ j < μ i) Q)
 | .exit id,s,Q=>Q (.exit id) s
 | .ret,s,Q=>Q .ret s
 |_,_,_=>False
theorem MB {P:Program} [aD P] {B:fG P} {s:AS} {G:List CO} {a:Act} {w:World} (r:dN B s G a w) {all:List Oper} {j:Nat} {b want:Bool} (h:oG all s j want= .bool b):(yielded all.toArray a.tmps j == some want)=(b == want):=by
 unfold oG at h
 split at h
 ·rename_i o ho
  split at h
  ·rename_i d hd
   have h1:=r.ev (.tmp d)
   simp only [AS.ev] at h1
   rcases yc h with ⟨h0,rfl⟩|h0
   ·rw [h0] at h1
    simp only [R] at h1
    obtain ⟨cs,h2,h3⟩:=h1
    cases cs with
    |cons=>simp [Rc] at h3
    |nil=>
     simp only [Act.eval] at h2
     rw [Array.getD_eq_getD_getElem?] at h2
     cases hg:a.tmps[d]? with
     |none=>simp [yielded,ho,hd,hg]
     |some v=>
      simp [hg] at h2
      subst h2
      simp [yielded,ho,hd,hg]
   ·rw [h0] at h1
    simp only [R] at h1
    have h2:=h1.1
    simp only [Act.eval] at h2
    rw [Array.getD_eq_getD_getElem?] at h2
    cases hg:a.tmps[d]? with
    |none=>simp [hg] at h2;cases h2
    |some v=>simp [hg] at h2;subst h2;simp [yielded,ho,hd,hg]
  ·cases h
 ·cases h
theorem Fj {P:Program} [aD P] {B:fG P} {all:List Oper} {Q:Exit->Act->World->Prop}:∀(l:List Oper) (s:AS) (K:AS->Prop),kW P all l s K->∀a w,Rel B s a w->(∀a' w' s',K s'->Rel B s' a' w'->Q .normal a' w')->wpList P all.toArray Q l a w
 |[],s,K,h,a,w,r,hk=>hk _ _ _ h r
 |o::l,s,K,h,a,w,r,hk=>by
  simp only [kW] at h
  have Zo:((nZ P o s fun s'=>kW P all l s' K)\/(IL P o s fun s'=>kW P all l s' K))->Region.wanted o (yielded all.toArray a.tmps)=true->wpList P all.toArray Q (o::l) a w:=by
   intro h hw
   obtain ⟨s',h',hst⟩:∃s',kW P all l s' K/\Step P B o s s':=by
    rcases h with h|h
    ·exact vD (B:=B) h
    ·exact Mx (B:=B) h
   simp only [wpList,hw,if_true]
   exact .inl (hst a w _ Q r fun a' w' r'=>Fj l s' K h' a' w' r' hk)
  split at h
  ·rename_i hg
   exact Zo h (by simp [Region.wanted,hg])
  ·rename_i j want hg
   split at h
   ·rename_i b hb
    obtain ⟨G,r'⟩:=r
    have hy:=MB r' hb
    by_cases hbw:b=want
    ·exact Zo (.inl (h.1 hbw)) (by simp [Region.wanted,hg,hy,hbw])
    ·have hw:Region.wanted o (yielded all.toArray a.tmps)=false:=by simp [Region.wanted,hg,hy,hbw]
     simp only [wpList,hw,Bool.false_eq_true,if_false]
     exact Fj l _ K (h.2 hbw) _ _ ⟨G,r'.put o.dst (XC _ _)⟩ hk
   ·exact h.elim
theorem Sr {ι:Type} (p:ι->Prop) (μ:ι->Nat) (h:∃i,p i):∃i,p i/\∀j,p j->μ i<=μ j:=by
 obtain ⟨i,hi⟩:=h
 generalize hn:μ i=n
 induction n using Nat.strongRecOn generalizing i with
 |_ n ih=>
  by_cases hex:∃j,p j/\μ j < n
  ·obtain ⟨j,hj,hlt⟩:=hex
   exact ih (μ j) hlt j hj rfl
  ·refine ⟨i,hi,fun j hj=> ?_⟩
   rw [hn]
   exact Nat.le_of_not_lt fun hlt=>hex ⟨j,hj,hlt⟩
open Classical in
noncomputable def least {ι : Type} (p : ι -> Prop) (μ : ι -> Nat) : Nat := if h : ∃ i, p i then μ (Sr p μ h).choose else 0
theorem least_le {ι:Type} {p:ι->Prop} {μ:ι->Nat} {j:ι} (h:p j):least p μ<=μ j:=by
 have hex:∃i,p i:=⟨j,h⟩
 unfold least
 rw [dif_pos hex]
 exact (Sr p μ hex).choose_spec.2 j h
theorem yg {ι:Type} {p:ι->Prop} {μ:ι->Nat} (h:∃i,p i):∃i,p i/\least p μ=μ i:=by
 refine ⟨(Sr p μ h).choose,(Sr p μ h).choose_spec.1,?_⟩
 unfold least
 rw [dif_pos h]
theorem qD {P:Program} [aD P] (hm:P.follows .mixedOrders=true) {B:fG P}:∀(c:Code) (s:AS) (Q:Exit->AS->Prop),qU P c s Q->∀a w,Rel B s a w->c.wp P (lift B Q) a w
 | .skip,s,Q,h,a,w,r=>wp_skip ⟨s,h,r⟩
 | .region id ops false,s,Q,⟨s2,hw,h⟩,a,w,r=>wp_region_list (by
   have:=Fj (Q:=lift B Q) ops.toList s2 (Q .normal) h a w (hw B a w r) (fun a' w' s' h' r'=>⟨s',h',r'⟩)
   simpa using this)
 | .region id ops true,s,Q,h,a,w,r=>wp_region_any hm (h B a w (lift B Q) r fun a' w' s' h' r'=>⟨s',h',r'⟩)
 | .seq x y,s,Q,h,a,w,r=>wp_seq (wp_mono (qD hm x s _ h a w r) fun e a' w' he=>by
   obtain ⟨s',h',r'⟩:=he
   cases e with
   |normal=>exact qD hm y s' Q h' a' w' r'
   |_=>exact ⟨s',h',r'⟩)
 | .cond c x y,s,Q,h,a,w,r=>by
  simp only [qU] at h
  split at h
  ·rename_i b hb
   obtain ⟨G,r'⟩:=r
   exact wp_cond_split (r'.Ui hb) (fun hb=>qD hm x s Q (h.1 hb) a w ⟨G,r'⟩) (fun hb=>qD hm y s Q (h.2 hb) a w ⟨G,r'⟩)
  ·exact h.elim
 | .block id c,s,Q,h,a,w,r=>wp_block (wp_mono (qD hm c s _ h a w r) fun e a' w' he=>by
   obtain ⟨s',h',r'⟩:=he
   cases e with
   |exit id'=>
    simp only [df] at h'
    simp only [Exit.inBlock]
    split at h'
    ·rename_i hid;rw [if_pos hid];exact ⟨s',h',r'⟩
    ·rename_i hid;rw [if_neg hid];exact ⟨s',h',r'⟩
   |_=>exact ⟨s',h',r'⟩)
 | .loop c,s,Q,h,a,w,r=>by
  obtain ⟨ι,inv,μ,i,h0,hr⟩:=h
  refine wp_loop (fun a w=>∃i,Rel B (inv i) a w) (fun a w=>least (fun i=>Rel B (inv i) a w) μ) ⟨i,h0 B a w r⟩ fun a w hex=> ?_
  obtain ⟨i,hi,aOg⟩:=yg (μ:=μ) hex
  refine wp_mono (qD hm c (inv i) _ (hr i) a w hi) fun e a' w' he=> ?_
  obtain ⟨s',h',r'⟩:=he
  cases e with
  |normal=>
   obtain ⟨j,hw,hlt⟩:=h'
   have hj:=hw B a' w' r'
   refine ⟨⟨j,hj⟩,?_⟩
   rw [aOg]
   exact Nat.lt_of_le_of_lt (least_le hj) hlt
  |_=>exact ⟨s',h',r'⟩
 | .exit id,s,Q,h,a,w,r=>wp_exit ⟨s,h,r⟩
 | .ret,s,Q,h,a,w,r=>wp_ret ⟨s,h,r⟩
 | .rangeFunc _ _ _ _,_,_,h,_,_,_=>by simp [qU] at h
 | .scope _,_,_,h,_,_,_=>by simp [qU] at h
 | .label _,_,_,h,_,_,_=>by simp [qU] at h
 | .goto _,_,_,h,_,_,_=>by simp [qU] at h
 | .refuse _,_,_,h,_,_,_=>by simp [qU] at h
def AS.rv (P:Program) (s:AS):ResultVar->Option AV
 | .tmp t=>some (s.t.getD t .undef)
 | .cell t ty=>match s.t.getD t .undef with
  | .ptr i bN idx off=>match s.at i bN idx with
   |some (_,e)=>match bI P ty with
    |some n=>if off+n<=e.length then some (.agg (((wT (Bt i) true e).drop off).take n)) else none
    |none=>if fA P ty then (wT (Bt i) true e)[off]? else none
   |none=>none
  |_=>none
def Gn (a:Act):ResultVar->Sem Value
 | .tmp t=>pure (a.tmps.getD t Go.undef)
 | .cell t ty=>do loadVar ty (<-asAddr (a.tmps.getD t Go.undef))
theorem MC (fn:Func) (a:Act):results fn a.tmps=(do let vs<-fn.results.mapM (Gn a);pure (if h:vs.size=1 then vs[0] else .tuple vs)):=by
 unfold results
 congr 1
 all_goals (congr 1;all_goals (funext x;cases x<;>rfl))
theorem aGb {P:Program} [aD P] {B:fG P} {s:AS} {G:List CO} {a:Act} {w:World} (r:dN B s G a w) {rv:ResultVar} {x:AV} (h:s.rv P rv=some x):
  ∃v,(Gn a rv).run P w= .ok v w/\R w (env B s.o G w) x v []:=by
 cases rv with
 |tmp t=>
  simp only [AS.rv,Option.some.injEq] at h
  subst h
  exact ⟨a.tmps.getD t Go.undef,rfl,r.ev (.tmp t)⟩
 |cell t ty=>
  simp only [AS.rv] at h
  split at h
  ·rename_i i bN idx off hx
   split at h
   ·rename_i ob e ha
    obtain ⟨ho,he⟩:=zU ha
    obtain ⟨g,b,f,hl,hlive,hga,hv⟩:=r.ptr (x:= .tmp t) hx ho
    obtain ⟨b',f',cs,tZ,hcn,hc,hone,rW⟩:=r.elem hl hlive he
    rw [hga] at tZ
    simp only [Option.some.injEq,Addr.mk.injEq,and_true] at tZ
    obtain ⟨rfl,rfl⟩:=tZ
    have hle:=fB rW
    rw [Bu] at hle
    simp only [Act.eval] at hv
    split at h
    ·rename_i n hn
     split at h
     ·rename_i hfit
      obtain rfl:=Option.some.inj h
      refine ⟨.agg ((cs.drop off).take n).toArray,?_,by simp only [R];exact ⟨_,rfl,DL hone,LW off n rW⟩⟩
      have:=qK (P:=P) (t:=ty) (k:=off) (n:=n) (cs:=cs) hn (by omega) hc
      simp only [Instr.loadAt,Instr.sureAddr,pure_bind] at this
      simp [Gn,hv,asAddr,<-Nat.add_assoc,this]
     ·cases h
    ·split at h
     ·rename_i aJ3
      obtain ⟨v,hv',hR⟩:=EP rW h
      refine ⟨v,?_,hR⟩
      have:=uD (P:=P) (t:=ty) aJ3 hv' hc
      simp only [Instr.loadAt,Instr.sureAddr,pure_bind] at this
      simp [Gn,hv,asAddr,<-Nat.add_assoc,this]
     ·cases h
   ·cases h
  ·cases h
def AS.Cy (P:Program) (s:AS):List ResultVar->Option (List AV)
 |[]=>some []
 |x::xs=>match s.rv P x with
  |some y=>match AS.Cy P s xs with
   |some ys=>some (y::ys)
   |none=>none
  |none=>none
def single:List AV->AV
 |[x]=>x
 |xs=> .gV xs
def aB (P:Program) (fn:Func) (s:AS) (r:AV):Prop:=
 ∃ys,s.Cy P fn.results.toList=some ys/\iT s.o (single ys)=true/\(lI (single ys)).Nodup/\res s.o (single ys)=r/\clean r=true
theorem Su {P:Program} [aD P] {B:fG P} {s:AS} {G:List CO} {a:Act} {w:World} (r:dN B s G a w):∀{l:List ResultVar} {ys:List AV},s.Cy P l=some ys->
  ∃vs,(l.mapM (m:=Sem) (Gn a)).run P w= .ok vs w/\Rc w (env B s.o G w) ys vs []
 |[],ys,h=>by
  simp only [AS.Cy,Option.some.injEq] at h
  subst h
  exact ⟨[],by simp,by simp [Rc]⟩
 |x::xs,ys,h=>by
  simp only [AS.Cy] at h
  split at h
  ·rename_i y hy
   split at h
   ·rename_i ys' yh
    obtain rfl:=Option.some.inj h
    obtain ⟨v,h1,h2⟩:=aGb r hy
    obtain ⟨vs,h3,h4⟩:=Su r yh
    refine ⟨v::vs,?_,by simp only [Rc];exact ⟨[],[],h2,h4,rfl⟩⟩
    simp only [mapM_cons,Sem.run_bind]
    rw [h1]
    simp only [Result.andThen_ok]
    rw [h3]
    simp
   ·cases h
  ·cases h
theorem zY {P:Program} [aD P] {B:fG P} {s:AS} {G:List CO} {a:Act} {w:World} (r:dN B s G a w) {fn:Func} {ys:List AV} (h:s.Cy P fn.results.toList=some ys):
  ∃v,(results fn a.tmps).run P w= .ok v w/\R w (env B s.o G w) (single ys) v []:=by
 obtain ⟨vs,h1,h2⟩:=Su r h
 have hl:=fB h2
 have hm:(fn.results.mapM (m:=Sem) (Gn a)).run P w= .ok vs.toArray w:=by
  rw [Array.mapM_eq_mapM_toList]
  simp only [Sem.run_map]
  rw [h1]
  rfl
 rw [MC]
 simp only [Sem.run_bind]
 rw [hm]
 simp only [Result.andThen_ok,Sem.run_pure]
 match ys,vs,hl,h2 with
 |[y],[v],_,h2=>
  refine ⟨v,by simp,?_⟩
  simp only [Rc] at h2
  obtain ⟨f1,f2,h3,_,e⟩:=h2
  obtain ⟨rfl,_⟩:f1=[]/\f2=[]:=by simpa using e
  exact h3
 |[],[],_,h2=>exact ⟨.tuple #[],by simp,by simp only [single,R];exact ⟨[],rfl,h2⟩⟩
 |y1::y2::ys,v1::v2::vs,_,h2=>exact ⟨.tuple (v1::v2::vs).toArray,by simp,by simp only [single,R];exact ⟨_,rfl,h2⟩⟩
theorem QD {P:Program} [aD P] (hm:P.follows .mixedOrders=true) {f:FuncId} {fn:Func} {c:Code} (hf:P.funcs[f]? =some fn) (hb:fn.body=some c) {args:List AV} {rr:AV}
  (h:qU P c ⟨args++replicate (fn.ntmps - args.length) .undef,[]⟩ (fun e s=>(e= .normal\/e= .ret)/\aB P fn s rr)):Ok P f args rr:=by
 intro w vs hg hargs
 have hl:=fB hargs
 have r0:dN ⟨w,fun b=>b < w.heap.size,fun _=>False,fun _=>none,fun _=>none,hg,fun _ h=>h.elim,fun _ h=>h.elim⟩ ⟨args++replicate (fn.ntmps - args.length) .undef,[]⟩ [] {tmps:=vs.toArray++Array.replicate (fn.ntmps - vs.toArray.size) Go.undef,defers:=[]} w:=by
  refine ⟨rfl,rfl,fun i ob g hl=>by simp [look] at hl,fun i j oi oj gi gj b hl=>by simp [look] at hl,fun i ob g b hl=>by simp [look] at hl,?_,Nat.le_refl _,fun _ _ _=>rfl,fun b hb=>hb,lU.rfl⟩
  have h1:Rc w (env ⟨w,fun b=>b < w.heap.size,fun _=>False,fun _=>none,fun _=>none,hg,fun _ h=>h.elim,fun _ h=>h.elim⟩ [] [] w) args vs []:=dF (w:=w) (w':=w) (E:=lV w) (E':=env ⟨w,fun b=>b < w.heap.size,fun _=>False,fun _=>none,fun _=>none,hg,fun _ h=>h.elim,fun _ h=>h.elim⟩ [] [] w) ⟨fun b hb=>⟨⟨.inl hb,fun i ob g hl=>by simp [look] at hl⟩,rfl⟩,fun _ _=>trivial,fun _ _ _ h=>by exact h.elim,fun _ _ _ h=>by exact h.elim,fun _ _ _ _ _ h=>by exact h.elim⟩ _ _ _ (by simp) hargs
  have h2:∀n,Rc w (env ⟨w,fun b=>b < w.heap.size,fun _=>False,fun _=>none,fun _=>none,hg,fun _ h=>h.elim,fun _ h=>h.elim⟩ [] [] w) (replicate n .undef) (replicate n Go.undef) []:=by
   intro n
   induction n with
   |zero=>simp [Rc]
   |succ n ih=>simp only [replicate_succ,Rc];exact ⟨[],[],by simp [R],ih,rfl⟩
  have:=kU h1 (h2 (fn.ntmps - args.length))
  simpa [hl] using this
 refine calls_of_wp hf hb (wp_mono (qD hm c _ _ h _ _ ⟨_,r0⟩) fun e a w' he=> ?_)
 obtain ⟨s,⟨he,ys,yh,uX,hu,jD,wU⟩,G,r⟩:=he
 obtain ⟨v,hrun,hR⟩:=zY r yh
 obtain ⟨fp,h1,h2,h3⟩:=JO r _ v uX hu hR
 rw [jD] at h1
 have hfin:∃v' fp,Ending.returned v= .returned v'/\R w' (EY w.heap.size w' fp) rr v' fp/\fp.Nodup/\(∀b∈fp,w.heap.size<=b/\b < w'.heap.size)/\w.heap.size<=w'.heap.size/\(∀b,b < w.heap.size->w'.heap[b]? =w.heap[b]?)/\lU w w':=by
  refine ⟨v,fp,rfl,aEn <| Gc (E:=(env _ s.o G w').plain) (fun _ _=>trivial) rfl rfl rfl _ _ _ wU h1,h2,fun b hb=> ?_,r.size,fun b hb=>r.frame b hb (fun h=>h),r.same⟩
  obtain ⟨i,ob,g,_,hl,hlive,hF⟩:=h3 b hb
  have:=r.fresh _ _ _ b hl hlive hF
  exact ⟨this.1.resolve_left (fun h=>h),this.2⟩
 rcases he with rfl|rfl
 ·exact ⟨r.defs,v,hrun,hfin⟩
 ·exact ⟨r.defs,v,hrun,hfin⟩
theorem UC {P:Program} [aD P] {all:List Oper} {s:AS} {K:AS->Prop} (h:K s):kW P all [] s K:=h
theorem ME {P:Program} [aD P] {id:Nat} {l:List Oper} {s:AS} {Q:Exit->AS->Prop} (h:kW P l l s (Q .normal)):qU P (.region id l.toArray false) s Q:=by
 simp only [qU];exact ⟨s,lS.refl s,h⟩
theorem XF {P:Program} [aD P] {id:Nat} {ops:Array Oper} {s s2:AS} {Q:Exit->AS->Prop} (hw:lS s s2) (h:qU P (.region id ops false) s2 Q):qU P (.region id ops false) s Q:=by
 simp only [qU] at h⊢
 obtain ⟨s3,h1,h2⟩:=h
 exact ⟨s3,hw.trans h1,h2⟩
theorem MF {P:Program} [aD P] {c:Operand} {x y:Code} {s:AS} {Q:Exit->AS->Prop} {b:Bool} (hc:s.ev c= .bool b) (h1:b=true->qU P x s Q) (h2:b=false->qU P y s Q):qU P (.cond c x y) s Q:=by
 simp only [qU,hc]
 exact ⟨h1,h2⟩
theorem QE {P:Program} [aD P] {id:Nat} {c:Code} {s:AS} {Q:Exit->AS->Prop} (h:qU P c s (df id Q)):qU P (.block id c) s Q:=h
theorem UD {P:Program} [aD P] {id:Nat} {s:AS} {Q:Exit->AS->Prop} (h:Q (.exit id) s):qU P (.exit id) s Q:=h
theorem Zp {P:Program} [aD P] {s:AS} {Q:Exit->AS->Prop} (h:Q .ret s):qU P .ret s Q:=h
theorem UE {P:Program} [aD P] {s:AS} {Q:Exit->AS->Prop} (h:Q .normal s):qU P .skip s Q:=h
theorem yj {P:Program} [aD P] {c:Code} {s:AS} {Q:Exit->AS->Prop} {ι:Type} (inv:ι->AS) (μ:ι->Nat) (i:ι) (h0:lS s (inv i)) (h:∀i,∀K:AS->Prop,(∀s' j,lS s' (inv j)->μ j < μ i->K s')->qU P c (inv i) (AY K Q)):qU P (.loop c) s Q:=
 ⟨ι,inv,μ,i,h0,fun i=>h i _ fun _ j h1 h2=>⟨j,h1,h2⟩⟩
theorem Gp {K:AS->Prop} {Q:Exit->AS->Prop} {s:AS} (h:Q .ret s):AY K Q .ret s:=h
theorem Ev {K:AS->Prop} {Q:Exit->AS->Prop} {s:AS} {id:Nat} (h:Q (.exit id) s):AY K Q (.exit id) s:=h
theorem Ew {Q:Exit->AS->Prop} {s:AS} {id:Nat} (h:Q .normal s):df id Q .normal s:=h
theorem MG {Q:Exit->AS->Prop} {s:AS} {id:Nat} (h:Q .ret s):df id Q .ret s:=h
theorem QF {Q:Exit->AS->Prop} {s:AS} {id:Nat} (h:Q .normal s):df id Q (.exit id) s:=by simpa [df] using h
theorem QG {Q:Exit->AS->Prop} {s:AS} {id id':Nat} (hne:id'≠id) (h:Q (.exit id') s):df id Q (.exit id') s:=by simpa [df,hne] using h
def wk:List AV->List AV->Prop
 |[],[]=>True
 |x::xs,y::ys=>(y=x\/y= .undef)/\wk xs ys
 |_,_=>False
theorem CR {w:World} {E:Env}:∀{t t':List AV} {vs:List Value},wk t t'->Rc w E t vs []->Rc w E t' vs []
 |[],[],_,_,h=>h
 |[],_::_,_,h,_=>h.elim
 |_::_,[],_,h,_=>h.elim
 |_::_,_::_,[],_,h=>by simp [Rc] at h
 |x::xs,y::ys,v::vs,h,hr=>by
  simp only [Rc] at hr⊢
  obtain ⟨f1,f2,h1,h2,e⟩:=hr
  obtain ⟨rfl,rfl⟩:f1=[]/\f2=[]:=by simpa using e
  refine ⟨[],[],?_,CR h.2 h2,rfl⟩
  rcases h.1 with rfl|rfl
  ·exact h1
  ·simp [R]
theorem wZ {t t':List AV} {o:List aG} (h:wk t t'):lS ⟨t,o⟩ ⟨t',o⟩:=by
 rintro P _ B a w ⟨G,r⟩
 exact ⟨G,{r with tmps:=CR h r.tmps}⟩
theorem wrap64 (n:Int) (h1: -9223372036854775808<=n) (h2:n<=9223372036854775807):IntKind.i64.wrap n=n:=by rw [IntKind.wrap_i64];omega
mutual
def Gq:AV->Nat
 | .sl .own _ _=>1
 | .agg c=>xJ c
 | .gV c=>xJ c
 |_=>0
def xJ:List AV->Nat
 |[]=>0
 |x::xs=>Gq x+xJ xs
end
mutual
def Fp (q k:Nat):AV->AV
 | .sl .own _ _=> .obj k q
 | .agg c=> .agg (xK q k c)
 | .gV c=> .gV (xK q k c)
 | .int a b=> .int a b
 | .bool b=> .bool b
 | .str s=> .str s
 | .sl g n l=> .sl g n l
 | .eH g c off=> .eH g c off
 | .obj i v=> .obj i v
 | .ptr i v j o=> .ptr i v j o
 | .fn f c=> .fn f c
 | .undef=> .undef
def xK (q k:Nat):List AV->List AV
 |[]=>[]
 |x::xs=>Fp q k x::xK q (k+Gq x) xs
end
mutual
def El (q:Nat):AV->List aG
 | .sl .own n l=>[⟨true,false,n,q,l⟩]
 | .agg c=>vB q c
 | .gV c=>vB q c
 | .int _ _=>[]
 | .bool _=>[]
 | .str _=>[]
 | .sl _ _ _=>[]
 | .eH _ _ _=>[]
 | .obj _ _=>[]
 | .ptr _ _ _ _=>[]
 | .fn _ _=>[]
 | .undef=>[]
def vB (q:Nat):List AV->List aG
 |[]=>[]
 |x::xs=>El q x++vB q xs
end
mutual
theorem JX (q:Nat):∀x:AV,(El q x).length=Gq x
 | .sl .own _ _=>rfl
 | .sl .view _ _=>rfl
 | .sl (.iQ _) _ _=>rfl
 | .agg c=>BF q c
 | .gV c=>BF q c
 | .int _ _=>rfl
 | .bool _=>rfl
 | .str _=>rfl
 | .eH _ _ _=>rfl
 | .obj _ _=>rfl
 | .ptr _ _ _ _=>rfl
 | .fn _ _=>rfl
 | .undef=>rfl
theorem BF (q:Nat):∀c:List AV,(vB q c).length=xJ c
 |[]=>rfl
 |x::xs=>by simp only [vB,xJ,length_append,JX q x,BF q xs]
end
mutual
theorem nE (q k:Nat):∀x:AV,bW q k x=(Fp q k x,El q x)
 | .sl .own _ _=>rfl
 | .sl .view _ _=>rfl
 | .sl (.iQ _) _ _=>rfl
 | .agg c=>by simp only [bW,Fp,El,jV q k c]
 | .gV c=>by simp only [bW,Fp,El,jV q k c]
 | .int _ _=>rfl
 | .bool _=>rfl
 | .str _=>rfl
 | .eH _ _ _=>rfl
 | .obj _ _=>rfl
 | .ptr _ _ _ _=>rfl
 | .fn _ _=>rfl
 | .undef=>rfl
theorem jV (q k:Nat):∀c:List AV,dX q k c=(xK q k c,vB q c)
 |[]=>rfl
 |x::xs=>by simp only [dX,xK,vB,nE q k x,jV q _ xs,JX]
end
attribute [simp] wk AS.ev AS.put AS.box AS.shut AV.fit AV.cells AV.isObj AS.at AS.stored xI ui rt wT lD AV.kept Bt EZ AS.args arg zP AS.called Fp xK El vB Gq xJ nE jV AS.target AS.source AS.wF AS.Mi AS.bound AS.made Sc Si aG.kill
  AV.JP AV.Au AV.known AV.scalar sM sM.go AS.built CJ Zj iR lI qQ res iT kV JV clean Av gF single AS.rv AS.Cy oG AY df AV.nd Xv Ur Xw gM AV.gQ
attribute [irreducible] qU kW AY df
end Go.Aw

namespace Go.Aw
open List
theorem QN {P:Program} [aD P] {t:TypeId} {c:List AV} {off:Nat} {K1 K2:AV->Prop} (hk:∀y,K1 y->K2 y) (h:xI P t c off K1):xI P t c off K2:=by
 unfold xI at *
 split at h
 ·exact ⟨h.1,hk _ h.2⟩
 ·refine ⟨h.1,?_⟩
  have:=h.2
  split at this
  ·exact hk _ this
  ·exact this.elim
theorem SE {P:Program} [aD P] {o:Oper} {s:AS} {K1 K2:AS->Prop} (hk:∀s',K1 s'->K2 s') (h:nZ P o s K1):nZ P o s K2:=by
 obtain ⟨dst,op,ty,pos,after,gd⟩:=o
 unfold nZ at h⊢
 dsimp only at h⊢
 split at h
 all_goals (repeat' (split at h))
 all_goals (first
  |exact h.elim
  |exact hk _ h
  |exact ⟨h.1,hk _ h.2⟩
  |((repeat (refine ⟨h.1,?_⟩;replace h:=h.2));exact hk _ h)
  |exact QN (fun y=>hk _) h
  |exact ⟨h.1,QN (fun y=>hk _) h.2⟩
  |(obtain ⟨r,h1,h2⟩:=h;exact ⟨r,h1,hk _ h2⟩)
  |((repeat (refine ⟨h.1,?_⟩;replace h:=h.2));obtain ⟨r,h1,h2⟩:=h;exact ⟨r,h1,hk _ h2⟩)
  |((repeat (refine ⟨h.1,?_⟩;replace h:=h.2));split at h<;>first|exact hk _ h|((repeat (refine ⟨h.1,?_⟩;replace h:=h.2));exact hk _ h)|exact h.elim)
  |((repeat (refine ⟨h.1,?_⟩;replace h:=h.2));(repeat' (split at h))<;>first|exact h.elim|((repeat (refine ⟨h.1,?_⟩;replace h:=h.2));exact hk _ h)|((repeat (refine ⟨h.1,?_⟩;replace h:=h.2));obtain ⟨r,h1,h2⟩:=h;exact ⟨r,h1,hk _ h2⟩))
  |(have h9:=hk _ h;simp_all;done)
  |((first|rw [if_pos (by assumption)]|rw [if_neg (by assumption)]);((repeat (refine ⟨h.1,?_⟩;replace h:=h.2));exact hk _ h))
  |((first|rw [if_pos (by assumption)]|rw [if_neg (by assumption)]);((repeat (refine ⟨h.1,?_⟩;replace h:=h.2));obtain ⟨r,h1,h2⟩:=h;exact ⟨r,h1,hk _ h2⟩))
  |((repeat (refine ⟨h.1,?_⟩;replace h:=h.2));obtain ⟨r,h1,h2⟩:=h;refine ⟨r,h1,?_⟩;(first|rw [if_pos (by assumption)]|rw [if_neg (by assumption)]);exact hk _ h2))
theorem gu {P:Program} [aD P] {o:Oper} {s:AS} {K1 K2:AS->Prop} (hk:∀s',K1 s'->K2 s') (h:Gm P o s K1):Gm P o s K2:=by
 obtain ⟨dst,op,ty,pos,after,gd⟩:=o
 unfold Gm at h⊢
 dsimp only at h⊢
 split at h
 ·split at h
  ·obtain ⟨h1,h2,h3,h4,x',r,h5,h6,h7,h8⟩:=h
   exact ⟨h1,h2,h3,h4,x',r,h5,h6,h7,hk _ h8⟩
  ·exact h.elim
 ·split at h
  ·split at h
   ·obtain ⟨h1,h2,h3,h4,h5⟩:=h
    exact ⟨h1,h2,h3,h4,hk _ h5⟩
   ·exact h.elim
  ·exact h.elim
 ·exact h.elim
theorem F5 {P:Program} [aD P] {o:Oper} {s:AS} {K1 K2:AS->Prop} (hk:∀s',K1 s'->K2 s') (h:UB P o s K1):UB P o s K2:=by
 obtain ⟨dst,op,ty,pos,after,gd⟩:=o
 unfold UB at h⊢
 dsimp only at h⊢
 split at h
 ·split at h
  ·obtain ⟨h1,gs,r,h2,h3,h4,h5⟩:=h
   exact ⟨h1,gs,r,h2,h3,h4,hk _ h5⟩
  ·exact h.elim
 ·exact h.elim
theorem F6 {P:Program} [aD P] {o:Oper} {s:AS} {K1 K2:AS->Prop} (hk:∀s',K1 s'->K2 s') (h:IL P o s K1):IL P o s K2:=by
 obtain ⟨s1,hw,h⟩:=h
 exact ⟨s1,hw,h.imp (SE hk) (Or.imp (gu hk) (F5 hk))⟩
end Go.Aw

namespace Go.Aw
open List
abbrev bC:=List UInt8
def aO {α:Type} (f:α->Nat):List α->Nat
 |[]=>0
 |x::xs=>f x+aO f xs
def bP {α:Type} (f:α->Nat) (l:List α):Nat:=l.length+aO f l
def sub (n:Int) (k:Nat):Int:=if n < k then -1 else n - k
theorem sub_neg {n:Int} {k:Nat} (h:n < k):sub n k= -1:=by simp [sub,h]
theorem sub_pos {n:Int} {k:Nat} (h:¬n < k):sub n k=n - k:=by simp [sub,h]
theorem bT {α:Type} (f:α->Nat):∀(l:List α) (k:Nat) (h:k < l.length),aO f (l.take (k+1))=aO f (l.take k)+f l[k]
 |x::xs,0,_=>by simp [aO]
 |x::xs,k+1,h=>by
  simp only [take_succ_cons,aO,getElem_cons_succ]
  rw [bT f xs k (by simpa using h)];omega
theorem dC {α:Type} (f:α->Nat):∀(l:List α) (k:Nat),aO f (l.take k)<=aO f l
 |[],k=>by simp
 |x::xs,0=>by simp [aO]
 |x::xs,k+1=>by simp only [take_succ_cons,aO];have:=dC f xs k;omega
def uE (z:List AV) (xs:List (List AV)) (k:Nat):List (List AV):=xs.take k++replicate (xs.length - k) z
@[simp] theorem aB4 (z:List AV) (xs:List (List AV)) (k:Nat):(uE z xs k).length=xs.length:=by simp [uE];omega
theorem qV (z:List AV) (xs:List (List AV)):replicate xs.length z=uE z xs 0:=by simp [uE]
theorem tH (z:List AV) (xs:List (List AV)) (k:Nat) (h:xs.length<=k):uE z xs k=xs:=by
 have:xs.length - k=0:=by omega
 simp [uE,this,take_of_length_le h]
theorem tJ (z:List AV) (xs:List (List AV)) (k:Nat) (h:k < xs.length):(uE z xs k)[k]? =some z:=by
 have h1:(xs.take k).length=k:=by simp;omega
 rw [uE,getElem?_append_right (by omega),h1,Nat.sub_self]
 have:0 < xs.length - k:=by omega
 simp [this]
theorem tK (z:List AV) (xs:List (List AV)) (k:Nat) (h:k < xs.length):(uE z xs k).set k xs[k]=uE z xs (k+1):=by
 have h1:(xs.take k).length=k:=by simp;omega
 have h2:xs.length - k=(xs.length - (k+1))+1:=by omega
 have h3:xs.take (k+1)=xs.take k++[xs[k]]:=by rw [take_succ_eq_append_getElem h]
 unfold uE
 rw [h2,replicate_succ,set_append_right _ _ (by omega),h1,Nat.sub_self,set_cons_zero,h3,append_assoc]
 rfl
@[simp] theorem dQ {α:Type} (f:α->List AV) (h:∀x,Av (f x)=true):∀l:List α,gF (l.map f)=true
 |[]=>rfl
 |x::xs=>by simp only [map_cons,gF,h x,Bool.true_and];exact dQ f h xs
theorem bK {α:Type} {f g:α->List AV} {t:Tg->Option Tg} {b:Bool} (h:∀x,wT t b (f x)=g x):∀l:List α,lD t b (l.map f)=l.map g
 |[]=>rfl
 |x::xs=>by simp only [map_cons,lD,h x,bK h xs]
theorem dV {α:Type} (f:α->Nat) (l:List α) (k:Nat) (h:k < l.length):f l[k]<=aO f l:=by
 have h1:=bT f l k h
 have h2:=dC f l (k+1)
 omega
theorem bU {α:Type} (f:α->Nat) {l:List α} {x:α} (h:x∈l):f x<=aO f l:=by
 obtain ⟨k,hk,rfl⟩:=getElem_of_mem h
 exact dV f l k hk
end Go.Aw

namespace Go.Aw
open List
@[simp] def iX (n:Int):List AV:=[.int .i64 n]
@[simp] def aRp (n:Bool):List AV:=[.bool n]
@[simp] def fF (s:bC):List AV:=[.str s]
def gT (s:bC):Nat:=s.length
@[simp] theorem aJ9 (t:Tg->Option Tg) (b:Bool) (l:List Int):lD t b (l.map iX)=l.map iX:=bK (by intro x;rfl) l
@[simp] theorem aKa (t:Tg->Option Tg) (b:Bool) (l:List bC):lD t b (l.map fF)=l.map fF:=bK (by intro x;rfl) l
@[simp] theorem MI (l:List Int):gF (l.map iX)=true:=dQ _ (by intro x;rfl) l
@[simp] theorem aGf (l:List bC):gF (l.map fF)=true:=dQ _ (by intro x;rfl) l
structure aT where
  host : bC
  path : bC
deriving DecidableEq
@[simp] def aK (x:aT):List AV:=[.str x.host,.str x.path]
def aV (x:aT):Nat:=x.host.length+x.path.length
def BH (x:aT):Prop:=x.host.length<=9223372036854775807/\x.path.length<=9223372036854775807
@[simp] theorem aIb (t:Tg->Option Tg) (b:Bool) (l:List aT):lD t b (l.map aK)=l.map aK:=bK (by intro x;rfl) l
@[simp] theorem aE1 (l:List aT):gF (l.map aK)=true:=dQ _ (by intro x;rfl) l
structure iU where
  name : bC
  value : bC
deriving DecidableEq
@[simp] def fQ (x:iU):List AV:=[.str x.name,.str x.value]
def fI (x:iU):Nat:=x.name.length+x.value.length
def IU (x:iU):Prop:=x.name.length<=9223372036854775807/\x.value.length<=9223372036854775807
@[simp] theorem aIc (t:Tg->Option Tg) (b:Bool) (l:List iU):lD t b (l.map fQ)=l.map fQ:=bK (by intro x;rfl) l
@[simp] theorem aE2 (l:List iU):gF (l.map fQ)=true:=dQ _ (by intro x;rfl) l
structure bH where
  kind : Int
  name : bC
  attrs : List iU
  text : bC
deriving DecidableEq
@[simp] def bB (g:Tg) (x:bH):List AV:=[.int .i64 x.kind,.str x.name,.sl g 2 (x.attrs.map fQ),.str x.text]
def bF (x:bH):Nat:=x.name.length+(bP fI x.attrs)+x.text.length
def Gw (x:bH):Prop:=x.name.length<=9223372036854775807/\(x.attrs.length<=9223372036854775807/\∀y∈x.attrs,IU y)/\x.text.length<=9223372036854775807
@[simp] theorem aAk (g:Tg) (b:Bool) (l:List bH):lD (fun _=>some .view) b (l.map (bB g))=l.map (bB .view):=bK (by intro x;simp) l
@[simp] theorem zb (i:Nat) (b:Bool) (l:List bH):lD (Bt i) b (l.map (bB .own))=l.map (bB (.iQ i)):=bK (by intro x;simp) l
@[simp] theorem ze (i:Nat) (b:Bool) (l:List bH):lD (Bt i) b (l.map (bB .view))=l.map (bB .view):=bK (by intro x;simp) l
@[simp] theorem zf (i j:Nat) (b:Bool) (l:List bH):lD (Bt i) b (l.map (bB (.iQ j)))=l.map (bB (.iQ j)):=bK (by intro x;simp) l
@[simp] theorem zg (b:Bool) (l:List bH):lD EZ b (l.map (bB .own))=l.map (bB .view):=bK (by intro x;simp) l
@[simp] theorem zh (b:Bool) (l:List bH):lD EZ b (l.map (bB .view))=l.map (bB .view):=bK (by intro x;simp) l
@[simp] theorem uG (l:List bH):gF (l.map (bB .own))=true:=dQ _ (by intro x;simp) l
structure jH where
  rest : bC
deriving DecidableEq
@[simp] def dB (x:jH):List AV:=[.str x.rest]
def oW (x:jH):Nat:=x.rest.length
def CU (x:jH):Prop:=x.rest.length<=9223372036854775807
@[simp] theorem zi (t:Tg->Option Tg) (b:Bool) (l:List jH):lD t b (l.map dB)=l.map dB:=bK (by intro x;rfl) l
@[simp] theorem dw (l:List jH):gF (l.map dB)=true:=dQ _ (by intro x;rfl) l
structure eY where
  name : bC
  text : bC
  parent : Int
  attrs : List iU
deriving DecidableEq
@[simp] def bX (g:Tg) (x:eY):List AV:=[.str x.name,.str x.text,.int .i64 x.parent,.sl g 2 (x.attrs.map fQ)]
def fU (x:eY):Nat:=x.name.length+x.text.length+(bP fI x.attrs)
def MJ (x:eY):Prop:=x.name.length<=9223372036854775807/\x.text.length<=9223372036854775807/\(x.attrs.length<=9223372036854775807/\∀y∈x.attrs,IU y)
@[simp] theorem aB8 (g:Tg) (b:Bool) (l:List eY):lD (fun _=>some .view) b (l.map (bX g))=l.map (bX .view):=bK (by intro x;simp) l
@[simp] theorem aAl (i:Nat) (b:Bool) (l:List eY):lD (Bt i) b (l.map (bX .own))=l.map (bX (.iQ i)):=bK (by intro x;simp) l
@[simp] theorem aAm (i:Nat) (b:Bool) (l:List eY):lD (Bt i) b (l.map (bX .view))=l.map (bX .view):=bK (by intro x;simp) l
@[simp] theorem aAn (i j:Nat) (b:Bool) (l:List eY):lD (Bt i) b (l.map (bX (.iQ j)))=l.map (bX (.iQ j)):=bK (by intro x;simp) l
@[simp] theorem aAo (b:Bool) (l:List eY):lD EZ b (l.map (bX .own))=l.map (bX .view):=bK (by intro x;simp) l
@[simp] theorem aAp (b:Bool) (l:List eY):lD EZ b (l.map (bX .view))=l.map (bX .view):=bK (by intro x;simp) l
@[simp] theorem aE3 (l:List eY):gF (l.map (bX .own))=true:=dQ _ (by intro x;simp) l
structure aW where
  nodes : List eY
  opens : List Int
deriving DecidableEq
@[simp] def aN (g:Tg) (x:aW):List AV:=[.sl g 4 (x.nodes.map (bX g)),.sl g 1 (x.opens.map iX)]
def aH (x:aW):Nat:=(bP fU x.nodes)+x.opens.length
def IV (x:aW):Prop:=(x.nodes.length<=9223372036854775807/\∀y∈x.nodes,MJ y)/\x.opens.length<=9223372036854775807
@[simp] theorem qd (g:Tg) (b:Bool) (l:List aW):lD (fun _=>some .view) b (l.map (aN g))=l.map (aN .view):=bK (by intro x;simp) l
@[simp] theorem dx (i:Nat) (b:Bool) (l:List aW):lD (Bt i) b (l.map (aN .own))=l.map (aN (.iQ i)):=bK (by intro x;simp) l
@[simp] theorem dz (i:Nat) (b:Bool) (l:List aW):lD (Bt i) b (l.map (aN .view))=l.map (aN .view):=bK (by intro x;simp) l
@[simp] theorem ek (i j:Nat) (b:Bool) (l:List aW):lD (Bt i) b (l.map (aN (.iQ j)))=l.map (aN (.iQ j)):=bK (by intro x;simp) l
@[simp] theorem eu (b:Bool) (l:List aW):lD EZ b (l.map (aN .own))=l.map (aN .view):=bK (by intro x;simp) l
@[simp] theorem fe (b:Bool) (l:List aW):lD EZ b (l.map (aN .view))=l.map (aN .view):=bK (by intro x;simp) l
@[simp] theorem zk (l:List aW):gF (l.map (aN .own))=true:=dQ _ (by intro x;simp) l
structure Cm where
  name : bC
  color : Int
deriving DecidableEq
@[simp] def wI (x:Cm):List AV:=[.str x.name,.int .i64 x.color]
@[simp] theorem aId (t:Tg->Option Tg) (b:Bool) (l:List Cm):lD t b (l.map wI)=l.map wI:=bK (by intro x;rfl) l
@[simp] theorem aE4 (l:List Cm):gF (l.map wI)=true:=dQ _ (by intro x;rfl) l
structure fE where
  rules : List Cm
deriving DecidableEq
@[simp] def dI (g:Tg) (x:fE):List AV:=[.sl g 2 (x.rules.map wI)]
@[simp] theorem aAq (g:Tg) (b:Bool) (l:List fE):lD (fun _=>some .view) b (l.map (dI g))=l.map (dI .view):=bK (by intro x;simp) l
@[simp] theorem zl (i:Nat) (b:Bool) (l:List fE):lD (Bt i) b (l.map (dI .own))=l.map (dI (.iQ i)):=bK (by intro x;simp) l
@[simp] theorem zm (i:Nat) (b:Bool) (l:List fE):lD (Bt i) b (l.map (dI .view))=l.map (dI .view):=bK (by intro x;simp) l
@[simp] theorem zn (i j:Nat) (b:Bool) (l:List fE):lD (Bt i) b (l.map (dI (.iQ j)))=l.map (dI (.iQ j)):=bK (by intro x;simp) l
@[simp] theorem zo (b:Bool) (l:List fE):lD EZ b (l.map (dI .own))=l.map (dI .view):=bK (by intro x;simp) l
@[simp] theorem zq (b:Bool) (l:List fE):lD EZ b (l.map (dI .view))=l.map (dI .view):=bK (by intro x;simp) l
@[simp] theorem aB9 (l:List fE):gF (l.map (dI .own))=true:=dQ _ (by intro x;simp) l
structure iG where
  op : Int
  text : bC
deriving DecidableEq
@[simp] def jL (x:iG):List AV:=[.int .i64 x.op,.str x.text]
@[simp] theorem aIe (t:Tg->Option Tg) (b:Bool) (l:List iG):lD t b (l.map jL)=l.map jL:=bK (by intro x;rfl) l
@[simp] theorem aE5 (l:List iG):gF (l.map jL)=true:=dQ _ (by intro x;rfl) l
structure gN where
  isSet : Bool
  jQ : List bC
  mO : List bC
  nD : List bC
  Gx : bC
deriving DecidableEq
@[simp] def bV (g:Tg) (x:gN):List AV:=[.bool x.isSet,.sl g 1 (x.jQ.map fF),.sl g 1 (x.mO.map fF),.sl g 1 (x.nD.map fF),.str x.Gx]
def iC (x:gN):Nat:=(bP gT x.jQ)+(bP gT x.mO)+(bP gT x.nD)+x.Gx.length
def MK (x:gN):Prop:=(x.jQ.length<=9223372036854775807/\∀y∈x.jQ,y.length<=9223372036854775807)/\(x.mO.length<=9223372036854775807/\∀y∈x.mO,y.length<=9223372036854775807)/\(x.nD.length<=9223372036854775807/\∀y∈x.nD,y.length<=9223372036854775807)/\x.Gx.length<=9223372036854775807
@[simp] theorem aFt (g:Tg) (b:Bool) (l:List gN):lD (fun _=>some .view) b (l.map (bV g))=l.map (bV .view):=bK (by intro x;simp) l
@[simp] theorem qf (i:Nat) (b:Bool) (l:List gN):lD (Bt i) b (l.map (bV .own))=l.map (bV (.iQ i)):=bK (by intro x;simp) l
@[simp] theorem qg (i:Nat) (b:Bool) (l:List gN):lD (Bt i) b (l.map (bV .view))=l.map (bV .view):=bK (by intro x;simp) l
@[simp] theorem qh (i j:Nat) (b:Bool) (l:List gN):lD (Bt i) b (l.map (bV (.iQ j)))=l.map (bV (.iQ j)):=bK (by intro x;simp) l
@[simp] theorem qi (b:Bool) (l:List gN):lD EZ b (l.map (bV .own))=l.map (bV .view):=bK (by intro x;simp) l
@[simp] theorem qj (b:Bool) (l:List gN):lD EZ b (l.map (bV .view))=l.map (bV .view):=bK (by intro x;simp) l
@[simp] theorem aAr (l:List gN):gF (l.map (bV .own))=true:=dQ _ (by intro x;simp) l
structure yI where
  status : Int
  kind : Int
  body : bC
  age : Int
  shares : Bool
  cB : bC
deriving DecidableEq
@[simp] def IW (x:yI):List AV:=[.int .i64 x.status,.int .i64 x.kind,.str x.body,.int .i64 x.age,.bool x.shares,.str x.cB]
@[simp] theorem aAs (t:Tg->Option Tg) (b:Bool) (l:List yI):lD t b (l.map IW)=l.map IW:=bK (by intro x;rfl) l
@[simp] theorem qm (l:List yI):gF (l.map IW)=true:=dQ _ (by intro x;rfl) l
structure jA where
  kind : Int
  to : aT
  frm : bC
  digest : bC
deriving DecidableEq
@[simp] def jM (x:jA):List AV:=[.int .i64 x.kind,.str x.to.host,.str x.to.path,.str x.frm,.str x.digest]
def qE (x:jA):Nat:=(aV x.to)+x.frm.length+x.digest.length
@[simp] theorem aCa (t:Tg->Option Tg) (b:Bool) (l:List jA):lD t b (l.map jM)=l.map jM:=bK (by intro x;rfl) l
@[simp] theorem zu (l:List jA):gF (l.map jM)=true:=dQ _ (by intro x;rfl) l
structure Zx where
  path : bC
  response : yI
deriving DecidableEq
@[simp] def Zy (x:Zx):List AV:=[.str x.path,.int .i64 x.response.status,.int .i64 x.response.kind,.str x.response.body,.int .i64 x.response.age,.bool x.response.shares,.str x.response.cB]
@[simp] theorem aIf (t:Tg->Option Tg) (b:Bool) (l:List Zx):lD t b (l.map Zy)=l.map Zy:=bK (by intro x;rfl) l
@[simp] theorem aE6 (l:List Zx):gF (l.map Zy)=true:=dQ _ (by intro x;rfl) l
structure xU where
  host : bC
  files : List Zx
deriving DecidableEq
@[simp] def qM (g:Tg) (x:xU):List AV:=[.str x.host,.sl g 7 (x.files.map Zy)]
@[simp] theorem zw (g:Tg) (b:Bool) (l:List xU):lD (fun _=>some .view) b (l.map (qM g))=l.map (qM .view):=bK (by intro x;simp) l
@[simp] theorem qo (i:Nat) (b:Bool) (l:List xU):lD (Bt i) b (l.map (qM .own))=l.map (qM (.iQ i)):=bK (by intro x;simp) l
@[simp] theorem qw (i:Nat) (b:Bool) (l:List xU):lD (Bt i) b (l.map (qM .view))=l.map (qM .view):=bK (by intro x;simp) l
@[simp] theorem qz (i j:Nat) (b:Bool) (l:List xU):lD (Bt i) b (l.map (qM (.iQ j)))=l.map (qM (.iQ j)):=bK (by intro x;simp) l
@[simp] theorem rf (b:Bool) (l:List xU):lD EZ b (l.map (qM .own))=l.map (qM .view):=bK (by intro x;simp) l
@[simp] theorem rq (b:Bool) (l:List xU):lD EZ b (l.map (qM .view))=l.map (qM .view):=bK (by intro x;simp) l
@[simp] theorem aAt (l:List xU):gF (l.map (qM .own))=true:=dQ _ (by intro x;simp) l
structure Sw where
  top : bC
  to : aT
  response : yI
  til : Int
deriving DecidableEq
@[simp] def ML (x:Sw):List AV:=[.str x.top,.str x.to.host,.str x.to.path,.int .i64 x.response.status,.int .i64 x.response.kind,.str x.response.body,.int .i64 x.response.age,.bool x.response.shares,.str x.response.cB,.int .i64 x.til]
@[simp] theorem aGh (t:Tg->Option Tg) (b:Bool) (l:List Sw):lD t b (l.map ML)=l.map ML:=bK (by intro x;rfl) l
@[simp] theorem aCb (l:List Sw):gF (l.map ML)=true:=dQ _ (by intro x;rfl) l
structure BI where
  entries : List Sw
deriving DecidableEq
@[simp] def vF (g:Tg) (x:BI):List AV:=[.sl g 10 (x.entries.map ML)]
@[simp] theorem aAu (g:Tg) (b:Bool) (l:List BI):lD (fun _=>some .view) b (l.map (vF g))=l.map (vF .view):=bK (by intro x;simp) l
@[simp] theorem zx (i:Nat) (b:Bool) (l:List BI):lD (Bt i) b (l.map (vF .own))=l.map (vF (.iQ i)):=bK (by intro x;simp) l
@[simp] theorem zy (i:Nat) (b:Bool) (l:List BI):lD (Bt i) b (l.map (vF .view))=l.map (vF .view):=bK (by intro x;simp) l
@[simp] theorem zz (i j:Nat) (b:Bool) (l:List BI):lD (Bt i) b (l.map (vF (.iQ j)))=l.map (vF (.iQ j)):=bK (by intro x;simp) l
@[simp] theorem A7 (b:Bool) (l:List BI):lD EZ b (l.map (vF .own))=l.map (vF .view):=bK (by intro x;simp) l
@[simp] theorem A8 (b:Bool) (l:List BI):lD EZ b (l.map (vF .view))=l.map (vF .view):=bK (by intro x;simp) l
@[simp] theorem aCc (l:List BI):gF (l.map (vF .own))=true:=dQ _ (by intro x;simp) l
structure Zz where
  top : bC
  to : aT
  aKb : Bool
deriving DecidableEq
@[simp] def ZA (x:Zz):List AV:=[.str x.top,.str x.to.host,.str x.to.path,.bool x.aKb]
@[simp] theorem aIg (t:Tg->Option Tg) (b:Bool) (l:List Zz):lD t b (l.map ZA)=l.map ZA:=bK (by intro x;rfl) l
@[simp] theorem aE7 (l:List Zz):gF (l.map ZA)=true:=dQ _ (by intro x;rfl) l
structure UJ where
  aCd : List xU
  cache : BI
  log : List Zz
  now : Int
deriving DecidableEq
@[simp] def IX (g:Tg) (x:UJ):List AV:=[.sl g 2 (x.aCd.map (qM g)),.sl g 10 (x.cache.entries.map ML),.sl g 4 (x.log.map ZA),.int .i64 x.now]
@[simp] theorem aE8 (g:Tg) (b:Bool) (l:List UJ):lD (fun _=>some .view) b (l.map (IX g))=l.map (IX .view):=bK (by intro x;simp) l
@[simp] theorem aCe (i:Nat) (b:Bool) (l:List UJ):lD (Bt i) b (l.map (IX .own))=l.map (IX (.iQ i)):=bK (by intro x;simp) l
@[simp] theorem aCf (i:Nat) (b:Bool) (l:List UJ):lD (Bt i) b (l.map (IX .view))=l.map (IX .view):=bK (by intro x;simp) l
@[simp] theorem aCg (i j:Nat) (b:Bool) (l:List UJ):lD (Bt i) b (l.map (IX (.iQ j)))=l.map (IX (.iQ j)):=bK (by intro x;simp) l
@[simp] theorem aCh (b:Bool) (l:List UJ):lD EZ b (l.map (IX .own))=l.map (IX .view):=bK (by intro x;simp) l
@[simp] theorem aCi (b:Bool) (l:List UJ):lD EZ b (l.map (IX .view))=l.map (IX .view):=bK (by intro x;simp) l
@[simp] theorem aGi (l:List UJ):gF (l.map (IX .own))=true:=dQ _ (by intro x;simp) l
structure lF where
  mode : Int
  to : aT
  digest : bC
  node : Int
  done : Bool
  code : Int
  body : bC
deriving DecidableEq
@[simp] def iO (x:lF):List AV:=[.int .i64 x.mode,.str x.to.host,.str x.to.path,.str x.digest,.int .i64 x.node,.bool x.done,.int .i64 x.code,.str x.body]
def gZ (x:lF):Nat:=(aV x.to)+x.digest.length+x.body.length
def MM (x:lF):Prop:=BH x.to/\x.digest.length<=9223372036854775807/\x.body.length<=9223372036854775807
@[simp] theorem aIh (t:Tg->Option Tg) (b:Bool) (l:List lF):lD t b (l.map iO)=l.map iO:=bK (by intro x;rfl) l
@[simp] theorem aE9 (l:List lF):gF (l.map iO)=true:=dQ _ (by intro x;rfl) l
structure dD where
  to : aT
  done : Bool
  code : Int
  body : bC
deriving DecidableEq
@[simp] def bO (x:dD):List AV:=[.str x.to.host,.str x.to.path,.bool x.done,.int .i64 x.code,.str x.body]
def bE (x:dD):Nat:=(aV x.to)+x.body.length
def CV (x:dD):Prop:=BH x.to/\x.body.length<=9223372036854775807
@[simp] theorem aFa (t:Tg->Option Tg) (b:Bool) (l:List dD):lD t b (l.map bO)=l.map bO:=bK (by intro x;rfl) l
@[simp] theorem Pt (l:List dD):gF (l.map bO)=true:=dQ _ (by intro x;rfl) l
structure aP where
  addr : aT
  cB : gN
  tok : jH
  queue : List bH
  ended : Bool
  builder : aW
  aF : List lF
  aX : List dD
  entries : List aT
  block : Int
  inline : Int
  deferred : Int
  fO : Int
  nY : List aT
  log : List bC
  mP : Bool
deriving DecidableEq
@[simp] def aM (g:Tg) (x:aP):List AV:=[.str x.addr.host,.str x.addr.path,.bool x.cB.isSet,.sl g 1 (x.cB.jQ.map fF),.sl g 1 (x.cB.mO.map fF),.sl g 1 (x.cB.nD.map fF),.str x.cB.Gx,.str x.tok.rest,.sl g 4 (x.queue.map (bB g)),.bool x.ended,.sl g 4 (x.builder.nodes.map (bX g)),.sl g 1 (x.builder.opens.map iX),.sl g 8 (x.aF.map iO),.sl g 5 (x.aX.map bO),.sl g 2 (x.entries.map aK),.int .i64 x.block,.int .i64 x.inline,.int .i64 x.deferred,.int .i64 x.fO,.sl g 2 (x.nY.map aK),.sl g 1 (x.log.map fF),.bool x.mP]
def aL (x:aP):Nat:=(aV x.addr)+(iC x.cB)+(oW x.tok)+(bP bF x.queue)+(aH x.builder)+(bP gZ x.aF)+(bP bE x.aX)+(bP aV x.entries)+(bP aV x.nY)+(bP gT x.log)
def Sy (x:aP):Prop:=BH x.addr/\MK x.cB/\CU x.tok/\(x.queue.length<=9223372036854775807/\∀y∈x.queue,Gw y)/\IV x.builder/\(x.aF.length<=9223372036854775807/\∀y∈x.aF,MM y)/\(x.aX.length<=9223372036854775807/\∀y∈x.aX,CV y)/\(x.entries.length<=9223372036854775807/\∀y∈x.entries,BH y)/\(x.nY.length<=9223372036854775807/\∀y∈x.nY,BH y)/\(x.log.length<=9223372036854775807/\∀y∈x.log,y.length<=9223372036854775807)
@[simp] theorem aCj (g:Tg) (b:Bool) (l:List aP):lD (fun _=>some .view) b (l.map (aM g))=l.map (aM .view):=bK (by intro x;simp) l
@[simp] theorem aAv (i:Nat) (b:Bool) (l:List aP):lD (Bt i) b (l.map (aM .own))=l.map (aM (.iQ i)):=bK (by intro x;simp) l
@[simp] theorem aAw (i:Nat) (b:Bool) (l:List aP):lD (Bt i) b (l.map (aM .view))=l.map (aM .view):=bK (by intro x;simp) l
@[simp] theorem aAx (i j:Nat) (b:Bool) (l:List aP):lD (Bt i) b (l.map (aM (.iQ j)))=l.map (aM (.iQ j)):=bK (by intro x;simp) l
@[simp] theorem aAy (b:Bool) (l:List aP):lD EZ b (l.map (aM .own))=l.map (aM .view):=bK (by intro x;simp) l
@[simp] theorem aAz (b:Bool) (l:List aP):lD EZ b (l.map (aM .view))=l.map (aM .view):=bK (by intro x;simp) l
@[simp] theorem aFb (l:List aP):gF (l.map (aM .own))=true:=dQ _ (by intro x;simp) l
structure zZ where
  builder : aW
  log : List bC
  A9 : List bC
  aKc : fE
  mP : Bool
deriving DecidableEq
@[simp] def rJ (g:Tg) (x:zZ):List AV:=[.sl g 4 (x.builder.nodes.map (bX g)),.sl g 1 (x.builder.opens.map iX),.sl g 1 (x.log.map fF),.sl g 1 (x.A9.map fF),.sl g 2 (x.aKc.rules.map wI),.bool x.mP]
@[simp] theorem C8 (g:Tg) (b:Bool) (l:List zZ):lD (fun _=>some .view) b (l.map (rJ g))=l.map (rJ .view):=bK (by intro x;simp) l
@[simp] theorem ry (i:Nat) (b:Bool) (l:List zZ):lD (Bt i) b (l.map (rJ .own))=l.map (rJ (.iQ i)):=bK (by intro x;simp) l
@[simp] theorem rz (i:Nat) (b:Bool) (l:List zZ):lD (Bt i) b (l.map (rJ .view))=l.map (rJ .view):=bK (by intro x;simp) l
@[simp] theorem si (i j:Nat) (b:Bool) (l:List zZ):lD (Bt i) b (l.map (rJ (.iQ j)))=l.map (rJ (.iQ j)):=bK (by intro x;simp) l
@[simp] theorem sj (b:Bool) (l:List zZ):lD EZ b (l.map (rJ .own))=l.map (rJ .view):=bK (by intro x;simp) l
@[simp] theorem su (b:Bool) (l:List zZ):lD EZ b (l.map (rJ .view))=l.map (rJ .view):=bK (by intro x;simp) l
@[simp] theorem aA0 (l:List zZ):gF (l.map (rJ .own))=true:=dQ _ (by intro x;simp) l
structure XI where
  to : aT
  response : yI
  used : Bool
deriving DecidableEq
@[simp] def XJ (x:XI):List AV:=[.str x.to.host,.str x.to.path,.int .i64 x.response.status,.int .i64 x.response.kind,.str x.response.body,.int .i64 x.response.age,.bool x.response.shares,.str x.response.cB,.bool x.used]
@[simp] theorem aGj (t:Tg->Option Tg) (b:Bool) (l:List XI):lD t b (l.map XJ)=l.map XJ:=bK (by intro x;rfl) l
@[simp] theorem aCk (l:List XI):gF (l.map XJ)=true:=dQ _ (by intro x;rfl) l
end Go.Aw

namespace Go.Aw
open List
mutual
def closed (m:Nat):AV->Bool
 | .obj i _=>decide (i < m)
 | .ptr i _ _ _=>decide (i < m)
 | .sl (.iQ i) _ _=>decide (i < m)
 | .eH (.iQ i) _ _=>decide (i < m)
 | .agg c=>fM m c
 | .gV c=>fM m c
 | .fn _ c=>fM m c
 |_=>true
def fM (m:Nat):List AV->Bool
 |[]=>true
 |x::xs=>closed m x&&fM m xs
end
theorem tL {o:List aG} {G:List CO} {m i:Nat} {ob:aG} {g:CO}:look (o.take m) (G.take m) i ob g↔i < m/\look o G i ob g:=by
 unfold look
 rw [getElem?_take,getElem?_take]
 by_cases h:i < m<;>simp [h]
theorem wH {P:Program} [aD P] {B:fG P} {o:List aG} {G:List CO} {w:World} (m:Nat):(∀b,(env B o G w).A b->(env B (o.take m) (G.take m) w).A b)/\
  (∀i,i < m->((env B (o.take m) (G.take m) w).V i↔(env B o G w).V i))/\(∀i b,i < m->(env B o G w).D i b->(env B (o.take m) (G.take m) w).D i b):=by
 refine ⟨fun b h=>⟨h.1,fun i ob g hl=>h.2 i ob g (tL.1 hl).2⟩,fun i hi=> ?_,fun i b hi h=> ?_⟩
 ·simp only [env,getElem?_take,hi,if_true]
 ·obtain ⟨ob,g,hl,h⟩:=h
  exact ⟨ob,g,tL.2 ⟨hi,hl⟩,h⟩
theorem CS {P:Program} [aD P] {B:fG P} {o:List aG} {G:List CO} {w:World} {m i:Nat} (hi:i < m):dU w ((env B o G w).sub (.iQ i)) w ((env B (o.take m) (G.take m) w).sub (.iQ i)):=by
 have h:=wH (B:=B) (o:=o) (G:=G) (w:=w) m
 exact ⟨fun b hb=>⟨h.1 b hb,rfl⟩,fun _ _=>trivial,fun j b _ hd=>⟨⟨hd.1,h.2.2 i b hi hd.2⟩,rfl⟩,fun _ _ _ h=>h.elim,fun _ _ _ _ _ h=>h.elim⟩
theorem rH {P:Program} [aD P] {B:fG P} {o:List aG} {G:List CO} {w:World} (m:Nat):dU w (env B o G w).plain w (env B (o.take m) (G.take m) w).plain:=by
 have h:=wH (B:=B) (o:=o) (G:=G) (w:=w) m
 exact ⟨fun b hb=>⟨h.1 b hb,rfl⟩,fun _ _=>trivial,fun _ _ _ h=>h.elim,fun _ _ _ h=>h.elim,fun _ _ _ _ _ h=>h.elim⟩
mutual
theorem yu {P:Program} [aD P] {B:fG P} {o:List aG} {G:List CO} {w:World} {m:Nat}:∀(x:AV) (v:Value) (fp:List Nat),closed m x=true->R w (env B o G w) x v fp->R w (env B (o.take m) (G.take m) w) x v fp
 | .int _ _,_,_,_,h=>by simpa [R] using h
 | .bool _,_,_,_,h=>by simpa [R] using h
 | .str _,_,_,_,h=>by simpa [R] using h
 | .sl .own n l,v,fp,_,h=>by
  obtain ⟨a,cap,hv,hown⟩:=oV.1 h
  exact oV.2 ⟨a,cap,hv,hown.keeps (rH m) (fun _ _=>rfl)⟩
 | .sl .view n l,v,fp,_,h=>by
  simp only [R] at h⊢
  rcases h with h|⟨a,cap,hv,hl,h⟩
  ·exact h.1.elim
  ·refine .inr ⟨a,cap,hv,hl,?_⟩
   rcases h with h|h|⟨hg,hf,h⟩
   ·exact absurd h.1 (by simp)
   ·exact absurd h.1 (by simp)
   ·refine .inr (.inr ⟨hg,hf,?_⟩)
    rcases h with h|⟨b,off,ha,ht,hr⟩
    ·exact .inl h
    ·exact .inr ⟨b,off,ha,(wH m).1 b ht,kQ (rH m) _ _ _ _ _ rfl (by simp) hr⟩
 | .sl (.iQ i) n l,v,fp,hc,h=>by
  have hi:i < m:=by simpa [closed] using hc
  simp only [R] at h⊢
  rcases h with h|⟨a,cap,hv,hl,h⟩
  ·exact .inl ⟨fun hV=>h.1 (((wH m).2.1 i hi).1 hV),h.2⟩
  ·refine .inr ⟨a,cap,hv,hl,?_⟩
   rcases h with h|h|⟨hg,hf,h⟩
   ·exact absurd h.1 (by simp)
   ·exact absurd h.1 (by simp)
   ·refine .inr (.inr ⟨hg,hf,?_⟩)
    rcases h with h|⟨b,off,ha,ht,hr⟩
    ·exact .inl h
    ·exact .inr ⟨b,off,ha,(wH m).2.2 i b hi ht,kQ (CS hi) _ _ _ _ _ rfl (by simp) hr⟩
 | .eH .own c off,v,fp,_,h=>by
  simp only [R] at h⊢
  rcases h with h|⟨_,_,_,_,_,ht,_⟩
  ·exact h.1.elim
  ·exact ht.elim
 | .eH .view c off,v,fp,_,h=>by
  simp only [R] at h⊢
  rcases h with h|⟨hf,b,o',cs,hv,ht,hcs,hone,hr⟩
  ·exact h.1.elim
  ·exact .inr ⟨hf,b,o',cs,hv,(wH m).1 b ht,hcs,hone,dF (rH m) _ _ _ (by simp) hr⟩
 | .eH (.iQ i) c off,v,fp,hc,h=>by
  have hi:i < m:=by simpa [closed] using hc
  simp only [R] at h⊢
  rcases h with h|⟨hf,b,o',cs,hv,ht,hcs,hone,hr⟩
  ·exact .inl ⟨fun hV=>h.1 (((wH m).2.1 i hi).1 hV),h.2⟩
  ·exact .inr ⟨hf,b,o',cs,hv,(wH m).2.2 i b hi ht,hcs,hone,dF (CS hi) _ _ _ (by simp) hr⟩
 | .obj i bN,v,fp,hc,h=>by
  have hi:i < m:=by simpa [closed] using hc
  simp only [R] at h⊢
  obtain ⟨hf,ob,g,hl,h⟩:=h
  exact ⟨hf,ob,g,tL.2 ⟨hi,hl⟩,h⟩
 | .ptr i bN idx off,v,fp,hc,h=>by
  have hi:i < m:=by simpa [closed] using hc
  simp only [R] at h⊢
  obtain ⟨hf,ob,g,hl,h⟩:=h
  exact ⟨hf,ob,g,tL.2 ⟨hi,hl⟩,h⟩
 | .agg c,v,fp,hc,h=>by
  simp only [R] at h⊢
  obtain ⟨cs,h1,h2,h3⟩:=h
  exact ⟨cs,h1,h2,yH c cs fp (by simpa [closed] using hc) h3⟩
 | .gV c,v,fp,hc,h=>by
  simp only [R] at h⊢
  obtain ⟨cs,h1,h3⟩:=h
  exact ⟨cs,h1,yH c cs fp (by simpa [closed] using hc) h3⟩
 | .fn f c,v,fp,hc,h=>by
  simp only [R] at h⊢
  obtain ⟨h0,cs,h1,h3⟩:=h
  exact ⟨h0,cs,h1,yH c cs [] (by simpa [closed] using hc) h3⟩
 | .undef,_,_,_,h=>by simpa [R] using h
theorem yH {P:Program} [aD P] {B:fG P} {o:List aG} {G:List CO} {w:World} {m:Nat}:∀(c:List AV) (cs:List Value) (fp:List Nat),fM m c=true->Rc w (env B o G w) c cs fp->Rc w (env B (o.take m) (G.take m) w) c cs fp
 |[],[],_,_,h=>by simpa [Rc] using h
 |[],_::_,_,_,h=>by simp [Rc] at h
 |_::_,[],_,_,h=>by simp [Rc] at h
 |x::xs,c::cs,fp,hc,h=>by
  simp only [Rc] at h⊢
  simp only [fM,Bool.and_eq_true] at hc
  obtain ⟨f1,f2,h1,h2,h3⟩:=h
  exact ⟨f1,f2,yu x c f1 hc.1 h1,yH xs cs f2 hc.2 h2,h3⟩
end
def dL (m:Nat):List aG->Bool
 |[]=>true
 |ob::r=>(!ob.box || match ob.dK with
  |[e]=>fM m e
  |_=>false)&&dL m r
theorem JZ {m:Nat}:∀{o:List aG},dL m o=true->∀ob∈o,ob.box=true->∃e,ob.dK=[e]/\fM m e=true
 |ob::r,h,x,hx,hb=>by
  simp only [dL,Bool.and_eq_true] at h
  rcases mem_cons.1 hx with rfl|hx
  ·have h1:=h.1
   rw [hb] at h1
   simp only [Bool.not_true,Bool.false_or] at h1
   split at h1
   ·rename_i e he;exact ⟨e,he,h1⟩
   ·cases h1
  ·exact JZ h.2 x hx hb
theorem aS {t t':List AV} {o o':List aG} (m:Nat) (ho:o.take m=o') (h:wk t t') (hc:fM m t'=true) (hb:dL m o'=true):lS ⟨t,o⟩ ⟨t',o'⟩:=by
 subst ho
 rintro P _ B a w ⟨G,r⟩
 refine ⟨G.take m,?_⟩
 exact
  {len:=by simp [r.len]
   defs:=r.defs
   ok:=fun i ob g hl hlive=>by
    have zS:=(tL.1 hl).2
    obtain ⟨fp,hown,hnd,hF⟩:=r.ok i ob g zS hlive
    refine ⟨fp,?_,hnd,hF⟩
    cases Et:ob.box with
    |false=>
     rw [Et] at hown
     exact hown.keeps (rH m) (fun _ _=>rfl)
    |true=>
     rw [Et] at hown
     obtain ⟨e,he,hce⟩:=JZ hb ob (mem_of_getElem? hl.1) Et
     rw [he] at hown⊢
     obtain ⟨hlen,hown⟩:=hown
     refine ⟨hlen,?_⟩
     rcases hown with h|⟨b,off,C,EF,fz,nQ,ha,hbk,hz,h1,h2,h3,rfl,hr⟩
     ·exact .inl h
     ·refine .inr ⟨b,off,C,EF,fz,nQ,ha,hbk,hz,h1,h2,h3,rfl,?_⟩
      simp only [Rr] at hr⊢
      obtain ⟨cs,f1,f2,k1,k2,k3,k4,k5,k6⟩:=hr
      exact ⟨cs,f1,f2,k1,k2,k3,yH e cs f1 hce k4,k5,k6⟩
   apart:=fun i j oi oj gi gj b hi hj h1 h2 h3 h4=>r.apart i j _ _ _ _ b (tL.1 hi).2 (tL.1 hj).2 h1 h2 h3 h4
   fresh:=fun i ob g b hl h1 h2=>r.fresh i ob g b (tL.1 hl).2 h1 h2
   tmps:=yH _ _ _ hc (CR h r.tmps)
   size:=r.size
   frame:=r.frame
   base:=r.base
   same:=r.same}
theorem aI {t t':List AV} {o o':List aG} (ho:o=o') (h:wk t t'):lS ⟨t,o⟩ ⟨t',o'⟩:=ho▸wZ h
attribute [simp] closed fM dL
end Go.Aw

namespace Go.Aw
open List
def qL (J:Nat->Bool) (i:Nat):Nat->Bool:=fun j=>if j=i then true else J j
def dv (J:Nat->Bool) (i:Nat) (v:AV):AV:=if J i=true then v else .undef
@[simp] theorem aOi (J:Nat->Bool) (i:Nat) (v:AV):dv (qL J i) i v=v:=by simp [dv,qL]
def tN (P:Program) [aD P] (S:(Nat->Bool)->AS):Nat->List Oper->Prop
 |_,[]=>True
 |i,o::r=>(o.guard=none/\∀J:Nat->Bool,J i=false->(∀e∈o.after.toList,Region.binds .any e=true->J e.on=true)->nZ P o (S J) fun s'=>lS s' (S (qL J i)))/\tN P S (i+1) r
def fwd:Nat->List Oper->Bool
 |_,[]=>true
 |i,o::r=>(o.after.toList.all fun e=> !Region.binds .any e || decide (e.on < i))&&fwd (i+1) r
theorem Ey {P:Program} [aD P] {S:(Nat->Bool)->AS}:∀{l:List Oper} {k i:Nat} {o:Oper},tN P S k l->l[i]? =some o->
  o.guard=none/\∀J:Nat->Bool,J (k+i)=false->(∀e∈o.after.toList,Region.binds .any e=true->J e.on=true)->nZ P o (S J) fun s'=>lS s' (S (qL J (k+i)))
 |[],_,_,_,_,h=>by simp at h
 |x::xs,k,0,o,hd,h=>by
  simp at h;subst h;exact hd.1
 |x::xs,k,i+1,o,hd,h=>by
  have:=Ey (k:=k+1) (i:=i) hd.2 (by simpa using h)
  rwa [show k+1+i=k+(i+1) by omega] at this
theorem Zu:∀{l:List Oper} {k i:Nat} {o:Oper},fwd k l=true->l[i]? =some o->∀e∈o.after.toList,Region.binds .any e=true->e.on < k+i
 |[],_,_,_,_,h=>by simp at h
 |x::xs,k,0,o,hf,h=>by
  simp at h;subst h
  simp only [fwd,Bool.and_eq_true,all_eq_true] at hf
  intro e he hb
  have:=hf.1 e he
  simpa [hb] using this
 |x::xs,k,i+1,o,hf,h=>by
  simp only [fwd,Bool.and_eq_true] at hf
  have:=Zu (k:=k+1) (i:=i) hf.2 (by simpa using h)
  rwa [show k+1+i=k+(i+1) by omega] at this
def left (l:List Bool):Nat:=(l.filter fun b=> !b).length
theorem AZ (b:Bool) (l:List Bool):left (b::l)=(if b=true then 0 else 1)+left l:=by
 cases b<;>simp [left]<;>omega
theorem Gu:∀{l:List Bool} {i:Nat},l[i]? =some false->left (l.set i true)+1=left l
 |[],_,h=>by simp at h
 |b::l,0,h=>by simp at h;subst h;simp [AZ];omega
 |b::l,i+1,h=>by
  have:=Gu (l:=l) (i:=i) (by simpa using h)
  rw [set_cons_succ,AZ,AZ]
  omega
theorem IP {l:List Bool} (h:left l=0):∀{i:Nat} {b:Bool},l[i]? =some b->b=true:=by
 intro i b hb
 have hm:=mem_of_getElem? hb
 cases b with
 |true=>rfl
 |false=>
  have:false∈l.filter (fun b=> !b):=mem_filter.2 ⟨hm,rfl⟩
  rw [eq_nil_of_length_eq_zero h] at this
  simp at this
theorem MH {l:List Bool} (h:left l≠0):∃i:Nat,l[i]? =some false/\∀j:Nat,j < i->l[j]? =some true:=by
 induction l with
 |nil=>simp [left] at h
 |cons b l ih=>
  cases b with
  |false=>exact ⟨0,rfl,fun j hj=>by omega⟩
  |true=>
   have:left l≠0:=by rw [AZ] at h;simpa using h
   obtain ⟨i,h1,h2⟩:=ih this
   refine ⟨i+1,by simpa using h1,fun j hj=> ?_⟩
   cases j with
   |zero=>rfl
   |succ j=>simpa using h2 j (by omega)
theorem aB6 {P:Program} [aD P] {ops:Array Oper} {s:AS} {K:AS->Prop} (S:(Nat->Bool)->AS) (h0:lS s (S fun _=>false)) (hf:fwd 0 ops.toList=true) (hs:tN P S 0 ops.toList)
  (he:∀J:Nat->Bool,(∀i,i < ops.size->J i=true)->K (S J)):XE P ops s K:=by
 intro B a w Q hr hk
 have key:∀(fuel:Nat) (listed:Array Bool) (a:Act) (w:World),listed.size=ops.size->left listed.toList=fuel->Rel B (S fun i=>listed.getD i false) a w->wpAny P .any ops Q fuel listed a w:=by
  intro fuel
  induction fuel with
  |zero=>
   intro listed a w hl hz r
   have hall:∀i,i < ops.size->listed.getD i false=true:=by
    intro i hi
    have hi':i < listed.size:=by omega
    have:=IP hz (i:=i) (b:=listed[i]) (by simp [hi'])
    simp [Array.getD,hi',this]
   refine ⟨?_,hk _ _ _ (he _ hall) r⟩
   unfold Region.ready
   rw [filter_eq_nil_iff]
   intro i hi
   have hi2:i < ops.size:=by simpa using hi
   have h1:=hall i hi2
   have hi':i < listed.size:=by omega
   have h2:listed.getD i true=true:=by
    rw [Array.getD_eq_getD_getElem?] at h1⊢
    rw [Array.getElem?_eq_getElem hi'] at h1⊢
    exact h1
   rw [h2]
   simp
  |succ fuel ih=>
   intro listed a w hl hz r
   constructor
   ·intro hnil
    exfalso
    obtain ⟨i,h1,h2⟩:=MH (l:=listed.toList) (by omega)
    have hi:i < listed.size:=by have:=(List.getElem?_eq_some_iff.1 h1).1;simpa using this
    have CF:i < ops.size:=by omega
    have:i∈Region.ready .any ops listed:=by
     unfold Region.ready
     rw [mem_filter]
     refine ⟨by simpa using CF,?_⟩
     have h1':listed[i]? =some false:=by simpa using h1
     have hop:ops[i]? =some ops[i]:=by simp [CF]
     simp only [Array.getD_eq_getD_getElem?,h1',Option.getD_some,Bool.not_false,Bool.true_and,hop,Option.map_some]
     rw [Array.all_eq_true']
     intro e he
     cases hb:Region.binds .any e with
     |false=>simp
     |true=>
      have:=Zu hf (i:=i) (o:=ops[i]) (by simp [CF]) e (by simpa using he) hb
      have h3:=h2 e.on (by omega)
      have h3':listed[e.on]? =some true:=by simpa using h3
      simp [h3']
    rw [hnil] at this
    simp at this
   ·intro i hi
    unfold Region.ready at hi
    rw [mem_filter] at hi
    obtain ⟨hi1,hi2⟩:=hi
    have CF:i < ops.size:=by simpa using hi1
    have hil:i < listed.size:=by omega
    have hop:ops[i]? =some ops[i]:=by simp [CF]
    simp only [Bool.and_eq_true,hop,Option.map_some,Option.getD_some] at hi2
    obtain ⟨h1,h2⟩:=hi2
    have h1':listed[i]? =some false:=by
     simp only [Array.getD_eq_getD_getElem?] at h1
     rw [Array.getElem?_eq_getElem hil] at h1⊢
     simpa using h1
    rw [Array.all_eq_true'] at h2
    obtain ⟨hg,hst⟩:=Ey hs (i:=i) (o:=ops[i]) (by simp [CF])
    rw [Nat.zero_add] at hst
    have aOj:=hst (fun j=>listed.getD j false) (by simp [h1']) (fun e he hb=>by
     have:=h2 e (by simpa using he)
     simpa [hb] using this)
    obtain ⟨s',hw,UF⟩:=vD (B:=B) aOj
    unfold wpOp
    rw [hop]
    simp only [Region.wanted,hg,if_true]
    refine .inl (UF a w _ Q r fun a' w' r'=>ih _ _ _ (by simpa using hl) ?_ ?_)
    ·have:=Gu (l:=listed.toList) (i:=i) (by simpa using h1')
     rw [Array.toList_setIfInBounds]
     omega
    ·have hu:qL (fun j=>listed.getD j false) i=fun j=>(listed.setIfInBounds i true).getD j false:=by
      funext j
      unfold qL
      simp only [Array.getD_eq_getD_getElem?,Array.getElem?_setIfInBounds]
      by_cases hj:j=i
      ·subst hj;simp [hil]
      ·simp [hj,Ne.symm hj]
     rw [<-hu]
     exact hw B a' w' r'
 obtain ⟨G,r⟩:=hr
 have r2:Rel B s a {w with drawn:=w.drawn+1}:=⟨G,{len:=r.len,defs:=r.defs,ok:=fun i ob g hl hlive=>(r.ok i ob g hl hlive).keeps (w':={w with drawn:=w.drawn+1}) ⟨fun b h=>⟨h,rfl⟩,fun _ h=>h,fun _ _ _ h=>⟨h,rfl⟩,fun _ _ _ h=>h,fun _ _ _ _ _ h=>h⟩ (fun _ _=>rfl),apart:=r.apart,fresh:=r.fresh,tmps:=dF (w:=w) (E:=env B s.o G w) (w':={w with drawn:=w.drawn+1}) (E':=env B s.o G {w with drawn:=w.drawn+1}) ⟨fun b h=>⟨h,rfl⟩,fun _ h=>h,fun _ _ _ h=>⟨h,rfl⟩,fun _ _ _ h=>h,fun _ _ _ _ _ h=>h⟩ _ _ _ (by simp) r.tmps,size:=r.size,frame:=r.frame,base:=r.base,same:=r.same.trans ⟨rfl,rfl,rfl⟩}⟩
 refine key _ _ _ _ (by simp) (by simp [left]) ?_
 have hJ:(fun i=>(Array.replicate ops.size false).getD i false)=fun _=>false:=by
  funext i
  simp only [Array.getD_eq_getD_getElem?,Array.getElem?_replicate]
  split<;>rfl
 rw [hJ]
 exact h0 _ _ _ r2
theorem Gv {P:Program} [aD P] {id:Nat} {l:List Oper} {s:AS} {Q:Exit->AS->Prop} (S:(Nat->Bool)->AS) (h0:lS s (S fun _=>false)) (hf:fwd 0 l=true) (hs:tN P S 0 l)
  (he:∀J:Nat->Bool,(∀i,i < l.length->J i=true)->Q .normal (S J)):qU P (.region id l.toArray true) s Q:=by
 unfold qU;exact aB6 (ops:=l.toArray) S h0 (by simpa using hf) (by simpa using hs) (by simpa using he)
theorem gB {P:Program} [aD P] {o:Oper} {s:AS} {K:AS->Prop} (h:∀K':AS->Prop,(∀s',K s'->K' s')->nZ P o s K'):nZ P o s K:=h K fun _ h=>h
end Go.Aw

namespace Go.Aw
open List
mutual
def Bb (m:Nat):AV->Bool
 | .int _ _=>true
 | .bool _=>true
 | .str _=>true
 | .obj i bN=>decide (i < m)&&bN == 0
 | .agg c=>Ja m c
 | .gV c=>Ja m c
 |_=>false
def Ja (m:Nat):List AV->Bool
 |[]=>true
 |x::xs=>Bb m x&&Ja m xs
end
mutual
theorem ZE {w1 w2:World} {E1 E2:Env} {m:Nat} {hv:Nat->Option Value} (h1:∀i v,i < m->E1.H i 0 v->hv i=some v) (h2:∀i v,i < m->E2.H i 0 v->hv i=some v):
  ∀(x:AV) (v1 v2:Value),Bb m x=true->R w1 E1 x v1 []->R w2 E2 x v2 []->v1=v2
 | .int _ _,_,_,_,a,b=>by simp only [R] at a b;rw [a.1,b.1]
 | .bool _,_,_,_,a,b=>by simp only [R] at a b;rw [a.1,b.1]
 | .str _,_,_,_,a,b=>by simp only [R] at a b;rw [a.1,b.1]
 | .obj i bN,v1,v2,hr,a,b=>by
  simp only [Bb,Bool.and_eq_true,decide_eq_true_eq,beq_iff_eq] at hr
  obtain ⟨hi,rfl⟩:=hr
  simp only [R] at a b
  have e1:=h1 i v1 hi a.2
  have e2:=h2 i v2 hi b.2
  rw [e1] at e2
  exact Option.some.inj e2
 | .agg c,_,_,hr,a,b=>by
  simp only [R] at a b
  obtain ⟨c1,rfl,_,a⟩:=a
  obtain ⟨c2,rfl,_,b⟩:=b
  rw [MV h1 h2 c c1 c2 (by simpa [Bb] using hr) a b]
 | .gV c,_,_,hr,a,b=>by
  simp only [R] at a b
  obtain ⟨c1,rfl,a⟩:=a
  obtain ⟨c2,rfl,b⟩:=b
  rw [MV h1 h2 c c1 c2 (by simpa [Bb] using hr) a b]
 | .sl _ _ _,_,_,hr,_,_=>by simp [Bb] at hr
 | .eH _ _ _,_,_,hr,_,_=>by simp [Bb] at hr
 | .ptr _ _ _ _,_,_,hr,_,_=>by simp [Bb] at hr
 | .fn _ _,_,_,hr,_,_=>by simp [Bb] at hr
 | .undef,_,_,hr,_,_=>by simp [Bb] at hr
theorem MV {w1 w2:World} {E1 E2:Env} {m:Nat} {hv:Nat->Option Value} (h1:∀i v,i < m->E1.H i 0 v->hv i=some v) (h2:∀i v,i < m->E2.H i 0 v->hv i=some v):
  ∀(x:List AV) (v1 v2:List Value),Ja m x=true->Rc w1 E1 x v1 []->Rc w2 E2 x v2 []->v1=v2
 |[],[],[],_,_,_=>rfl
 |[],_::_,_,_,a,_=>by simp [Rc] at a
 |[],[],_::_,_,_,b=>by simp [Rc] at b
 |_::_,[],_,_,a,_=>by simp [Rc] at a
 |_::_,_::_,[],_,_,b=>by simp [Rc] at b
 |x::xs,c1::r1,c2::r2,hr,a,b=>by
  simp only [Rc] at a b
  simp only [Ja,Bool.and_eq_true] at hr
  obtain ⟨f1,f2,a1,a2,e⟩:=a
  obtain ⟨rfl,rfl⟩:f1=[]/\f2=[]:=by simpa using e
  obtain ⟨f1,f2,b1,b2,e⟩:=b
  obtain ⟨rfl,rfl⟩:f1=[]/\f2=[]:=by simpa using e
  rw [ZE h1 h2 x c1 c2 hr.1 a1 b1,MV h1 h2 xs r1 r2 hr.2 a2 b2]
end
def vG (P:Program) (fn:Func) (s:AS) (p x' r:AV):Prop:=
 (∃ys,s.Cy P fn.results.toList=some ys/\single ys=r/\r.scalar=true)/\s.t[0]? =some p/\iT s.o p=true/\(lI p).Nodup/\res s.o p=x'/\clean x'=true
theorem XT {P:Program} [aD P] (hm:P.follows .mixedOrders=true) {f:FuncId} {fn:Func} {c:Code} (hf:P.funcs[f]? =some fn) (hb:fn.body=some c) {x x':AV} {rest:List AV} {rr:AV}
  (aGo:Bb (bW 0 0 x).2.length (bW 0 0 x).1=true)
  (h:qU P c ⟨((bW 0 0 x).1::rest)++replicate (fn.ntmps - (rest.length+1)) .undef,(bW 0 0 x).2⟩ (fun e s=>(e= .normal\/e= .ret)/\vG P fn s (bW 0 0 x).1 x' rr)):Xu P f x x' rest rr:=by
 intro w v vs fp hg xe hx hnd hlt hrest
 have hl:=fB hrest
 obtain ⟨Gs,hlen,zQ,hap,nL⟩:=CE (q:=0) x v fp 0 hx hnd
 generalize hB:(⟨w,fun b=>b < w.heap.size,(· ∈fp),fun i=>match (bW 0 0 x).2[i]?,Gs[i]? with
  |some ob,some g=>some (.slice g.a ob.dK.length g.cap)
  |_,_=>none,fun _=>none,hg,xe,hlt⟩:fG P)=B
 have MW:B.w0=w:=by rw [<-hB]
 have hA0:∀b,B.A0 b↔b < w.heap.size:=by intro b;rw [<-hB]
 have hO0:∀b,B.O0 b↔b∈fp:=by intro b;rw [<-hB]
 have hh0:∀i ob g,look (bW 0 0 x).2 Gs i ob g->B.h0 i=some (.slice g.a ob.dK.length g.cap):=by
  intro i ob g hl
  rw [<-hB]
  simp only [hl.1,hl.2]
 have kE:dU w (oD w (· ∈fp)) w (env B (bW 0 0 x).2 Gs w):=by
  refine ⟨fun b hb=>⟨⟨.inl ((hA0 b).2 hb.1),fun i ob g hl _ hF=> ?_⟩,rfl⟩,fun _ _=>trivial,fun _ _ _ h=>h.elim,fun _ _ _ h=>h.elim,fun _ _ _ _ _ h=>h.elim⟩
  obtain ⟨_,_,_,f',_,_,h3,h4⟩:=zQ _ _ _ hl
  exact hb.2 (h4 _ ((h3 _).1 hF))
 have r0:dN B ⟨((bW 0 0 x).1::rest)++replicate (fn.ntmps - (rest.length+1)) .undef,(bW 0 0 x).2⟩ Gs {tmps:=(v::vs).toArray++Array.replicate (fn.ntmps - (v::vs).toArray.size) Go.undef,defers:=[]} w:=by
  refine {len:=hlen,defs:=rfl,ok:= ?_,apart:= ?_,fresh:= ?_,tmps:= ?_,size:=by rw [MW];exact Nat.le_refl _,frame:=by rw [MW];exact fun _ _ _=>rfl,base:= ?_,same:=by rw [MW];exact lU.rfl}
  ·intro i ob g hl _
   obtain ⟨_,h2,_,f',hown,h3,h4,h5⟩:=zQ _ _ _ hl
   refine ⟨f',?_,h3,fun b hb=>(h4 b).2 hb⟩
   rw [h2]
   exact hown.keeps kE.plain (fun _ _=>rfl)
  ·intro i j oi oj gi gj b hi hj _ _ Fa Iz
   exact hap _ _ _ _ _ _ b hi hj Fa Iz
  ·intro i ob g b hl _ hF
   obtain ⟨_,_,_,f',_,_,h3,h4⟩:=zQ _ _ _ hl
   have:=h4 _ ((h3 _).1 hF)
   exact ⟨.inl ((hO0 b).2 this),hlt b this⟩
  ·have h0:R w (env B (bW 0 0 x).2 Gs w) (bW 0 0 x).1 v []:=nL _ kE fun j ob g hl=>by
    obtain ⟨_,_,h3,_⟩:=zQ _ _ _ hl
    rw [Nat.zero_add]
    exact ⟨ob,g,hl,Nat.zero_le _,fun _ _=>rfl,fun _ y hy=>by rw [hh0 _ _ _ hl] at hy;exact Option.some.inj hy⟩
   have h1:Rc w (env B (bW 0 0 x).2 Gs w) ((bW 0 0 x).1::rest) (v::vs) []:=by
    simp only [Rc]
    exact ⟨[],[],h0,dF kE _ _ _ (by simp) hrest,rfl⟩
   have h2:∀n,Rc w (env B (bW 0 0 x).2 Gs w) (replicate n .undef) (replicate n Go.undef) []:=by
    intro n
    induction n with
    |zero=>simp [Rc]
    |succ n ih=>simp only [replicate_succ,Rc];exact ⟨[],[],by simp [R],ih,rfl⟩
   have:=kU h1 (h2 (fn.ntmps - (rest.length+1)))
   simpa [hl] using this
  ·intro b hb
   rw [MW];exact (hA0 b).1 hb
 have jr:R w (env B (bW 0 0 x).2 Gs w) (bW 0 0 x).1 v []:=nL _ kE fun j ob g hl=>by
  rw [Nat.zero_add]
  exact ⟨ob,g,hl,Nat.zero_le _,fun _ _=>rfl,fun _ y hy=>by rw [hh0 _ _ _ hl] at hy;exact Option.some.inj hy⟩
 refine calls_of_wp hf hb (wp_mono (qD hm c _ _ h _ _ ⟨_,r0⟩) fun e a w' he=> ?_)
 obtain ⟨s,⟨he,⟨ys,yh,hyr,hsc⟩,ht0,uX,hu,jD,wU⟩,G,r⟩:=he
 obtain ⟨u,hrun,hR⟩:=zY r yh
 have hhv:∀(o:List aG) (G':List CO) (w'':World) i y,i < (bW 0 0 x).2.length->(env B o G' w'').H i 0 y->B.h0 i=some y:=by
  intro o G' w'' i y hi hH
  obtain ⟨_,_,_,_,_,hz⟩:=hH
  have hg:∃ob g,look (bW 0 0 x).2 Gs i ob g:=⟨_,_,getElem?_eq_getElem hi,getElem?_eq_getElem (by omega)⟩
  obtain ⟨ob,g,hl⟩:=hg
  have e:=hh0 _ _ _ hl
  rw [hz rfl _ e]
  exact e
 obtain ⟨v1,hv1,hr1⟩:=EP r.tmps ht0
 have hvv:v=v1:=ZE (hv:=B.h0) (hhv _ _ _) (hhv _ _ _) _ _ _ aGo jr hr1
 subst hvv
 obtain ⟨wV,k1,k2,k3⟩:=JO r _ v uX hu hr1
 rw [jD] at k1
 have hfin:∃u' wV,Ending.returned u= .returned u'/\R w' jU rr u' []/\R w' jU x' v wV/\wV.Nodup/\
   (∀b∈wV,(b∈fp\/w.heap.size<=b)/\b < w'.heap.size)/\w.heap.size<=w'.heap.size/\(∀b,b < w.heap.size->b∉fp->w'.heap[b]? =w.heap[b]?)/\lU w w':=by
  refine ⟨u,wV,rfl,?_,Gc (E:=(env _ s.o G w').plain) (fun _ _=>trivial) rfl rfl rfl _ _ _ wU k1,k2,fun b hb=> ?_,by have:=r.size;rwa [MW] at this,fun b hb hn=>by have:=r.frame b (by rw [MW];exact hb) (fun h=>hn ((hO0 b).1 h));rwa [MW] at this,by have:=r.same;rwa [MW] at this⟩
  ·rw [hyr] at hR
   cases rr<;>simp only [AV.scalar] at hsc<;>first|(cases hsc;done)|(simp only [R] at hR⊢;exact hR)
  ·obtain ⟨i,ob,g,_,hl,hlive,hF⟩:=k3 b hb
   have:=r.fresh _ _ _ b hl hlive hF
   rw [MW,hO0] at this
   exact this
 rcases he with rfl|rfl
 ·exact ⟨r.defs,u,hrun,hfin⟩
 ·exact ⟨r.defs,u,hrun,hfin⟩
end Go.Aw

namespace Go.Aw
open List
theorem G9 {w:World} {E:Env} {e:List AV} {cs:List Value} {fp:List Nat} {c:Nat} {x:AV} (h:Rc w E e cs fp) (hx:e[c]? =some x):
  ∃a1 a2 a3 v,fp=a1++a2++a3/\cs[c]? =some v/\Rc w E (e.take c) (cs.take c) a1/\R w E x v a2/\Rc w E (e.drop (c+1)) (cs.drop (c+1)) a3:=by
 obtain ⟨a1,r1,rfl,h1,h2⟩:=pV c h
 have hlt:=(List.getElem?_eq_some_iff.1 hx).1
 have hl:=fB h
 have hd:e.drop c=x::e.drop (c+1):=by
  rw [drop_eq_getElem_cons hlt,(List.getElem?_eq_some_iff.1 hx).2]
 have hcs:cs.drop c=cs[c]'(by omega)::cs.drop (c+1):=drop_eq_getElem_cons (by omega)
 rw [hd,hcs] at h2
 simp only [Rc] at h2
 obtain ⟨a2,a3,h3,h4,rfl⟩:=h2
 exact ⟨a1,a2,a3,_,by simp,getElem?_eq_getElem (by omega),h1,h3,h4⟩
theorem Yj {w:World} {E:Env} {e:List AV} {cs:List Value} {a1 a2 a3:List Nat} {c:Nat} {x:AV} {v:Value} (hc:c < e.length) (hv:cs[c]? =some v) (h1:Rc w E (e.take c) (cs.take c) a1) (h2:R w E x v a2) (h3:Rc w E (e.drop (c+1)) (cs.drop (c+1)) a3):
  Rc w E (e.set c x) cs (a1++a2++a3):=by
 have e1:e.set c x=e.take c++x::e.drop (c+1):=by rw [set_eq_take_append_cons_drop];simp [hc]
 obtain ⟨hlt,rfl⟩:=List.getElem?_eq_some_iff.1 hv
 have e2:cs=cs.take c++cs[c]::cs.drop (c+1):=by simp
 rw [e1]
 conv=>arg 4;rw [e2]
 have:=kU h1 (show Rc w E (x::e.drop (c+1)) (cs[c]::cs.drop (c+1)) (a2++a3) by simp only [Rc];exact ⟨a2,a3,h2,h3,rfl⟩)
 simpa using this
theorem Ra {t t':List AV} {o o':List aG} (i k c:Nat) {ob:aG} {e:List AV} {m:Nat} {rows:List (List AV)} (ho:o[i]? =some ob) (hl:ob.live=true) (hall:(o.all fun x=> !x.box)=true) (he:ob.dK[k]? =some e)
  (hc:e[c]? =some (.sl .own m rows)) (ho':o.set i {ob with box:=true,dK:=ob.dK.set k (e.set c (.obj o.length 1))}++[⟨true,false,m,1,rows⟩]=o') (hw:wk (wT (gM [i]) true t) t') (PT:ob.bN < 2:=by first|decide|simp):lS ⟨t,o⟩ ⟨t',o'⟩:=by
 subst ho'
 rintro P _ B a w ⟨G,r⟩
 have nb:∀{j x g},look o G j x g->x.box=false:=fun h=>by
  have:=all_eq_true.1 hall _ (mem_of_getElem? h.1)
  simpa using this
 obtain ⟨g,hlk⟩:=r.look ho
 have hb:=nb hlk
 obtain ⟨fp,hown,hnd,hF⟩:=r.ok i ob g hlk hl
 simp only [hb,Env.of,Bool.false_eq_true,if_false] at hown
 obtain ⟨hlen,⟨h,_⟩|⟨b,off,C,ty,fz,nQ,ha,hbk,hz,h1,h2,h3,rfl,hr⟩⟩:=hown
 ·rw [h] at he;simp at he
 have hk:k < ob.dK.length:=(List.getElem?_eq_some_iff.1 he).1
 have wU:c < e.length:=(List.getElem?_eq_some_iff.1 hc).1
 obtain ⟨f1,f2,f3,cs,rfl,hn,hcs,hone,hre,hr1,hr3⟩:=wX hr he
 obtain ⟨a1,a2,a3,v,rfl,hv,k1,k2,k3⟩:=G9 hre hc
 obtain ⟨ad,cap',J5,Um⟩:=oV.1 k2
 have hlo:i < o.length:=(List.getElem?_eq_some_iff.1 ho).1
 have hsub2:∀x∈a2,g.F x:=fun x hx=>hF x (by simp [hx])
 generalize tY:({ob with box:=true,dK:=ob.dK.set k (e.set c (.obj o.length 1))}:aG)=dY
 generalize hg':({g with F:=fun x=>g.F x/\x∉a2}:CO)=g'
 generalize hO:o.set i dY++[⟨true,false,m,1,rows⟩]=o'
 generalize Xi:G.set i g'++[⟨ad,cap',fun x=>x∈a2⟩]=G'
 have Vr:(G.set i g').length=(o.set i dY).length:=by simp [r.len]
 have back:∀{j x y},look o' G' j x y->(j=i/\x=dY/\y=g')\/(j=o.length/\x=⟨true,false,m,1,rows⟩/\y=⟨ad,cap',fun x=>x∈a2⟩)\/(j≠i/\look o G j x y):=by
  intro j x y h
  rw [<-hO,<-Xi] at h
  rcases mK Vr h with ⟨_,h⟩|⟨hj,h⟩
  ·rcases wD h with ⟨h1,h2,h3⟩|⟨h1,h2⟩
   ·exact .inl ⟨h1,h2,h3⟩
   ·exact .inr (.inr ⟨h1,h2⟩)
  ·right;left
   obtain ⟨h1,h2⟩:=h
   cases hd:j - (o.set i dY).length with
   |zero=>
    rw [hd] at h1 h2
    simp at h1 h2 hj hd
    exact ⟨by omega,h1.symm,h2.symm⟩
   |succ n=>rw [hd] at h1;simp at h1
 have fi:look o' G' i dY g':=by rw [<-hO,<-Xi];exact lH (nR hlk)
 have fJ:look o' G' o.length ⟨true,false,m,1,rows⟩ ⟨ad,cap',fun x=>x∈a2⟩:=by
  rw [<-hO,<-Xi]
  have:=mM (o:=o.set i dY) (o2:=[⟨true,false,m,1,rows⟩]) (G:=G.set i g') (G2:=[⟨ad,cap',fun x=>x∈a2⟩]) Vr (i:=0) (x:=⟨true,false,m,1,rows⟩) (y:=⟨ad,cap',fun x=>x∈a2⟩) ⟨rfl,rfl⟩
  simpa using this
 have fo:∀{j x y},j≠i->look o G j x y->look o' G' j x y:=fun hj h=>by rw [<-hO,<-Xi];exact lH (zT h hj)
 have aK3:dY.live=true:=by rw [<-tY];exact hl
 have H5:dY.n=ob.n:=by rw [<-tY]
 have aK4:dY.bN=ob.bN:=by rw [<-tY]
 have H6:dY.dK.length=ob.dK.length:=by rw [<-tY];simp
 have hga:g'.a=g.a:=by rw [<-hg']
 have hgc:g'.cap=g.cap:=by rw [<-hg']
 have Pd:∀x,g'.F x↔g.F x/\x∉a2:=fun x=>by rw [<-hg']
 let Er:Env:={env B o G w with D:=fun j x=>j∉[i]/\(env B o G w).D j x}
 have xh:lL (gM [i]) true (env B o G w) Er (fun _=>True):=by
  refine ⟨fun t e=>by simp [gM] at e,fun t e=>by simp only [gM,Option.some.injEq] at e;exact ⟨e.symm,fun b hb=>hb⟩,fun j t e=> ?_,fun _ _ _ _ h=>h,fun _ _ _ _ _ _ h=>h⟩
  simp only [gM] at e
  split at e
  ·cases e
  ·rename_i hiu
   obtain rfl:=Option.some.inj e
   refine ⟨by simp,?_,fun b hb=>⟨hiu,hb⟩⟩
   by_cases hV:(env B o G w).V j
   ·exact .inl hV
   ·exact .inr hV
 have kA:∀x,(env B o G w).A x->(env B o' G' w).A x:=fun x hx=>⟨hx.1,fun j y z hlj hjl hf=>by
  rcases back hlj with ⟨rfl,rfl,rfl⟩|⟨rfl,rfl,rfl⟩|⟨_,h⟩
  ·exact hx.2 _ _ _ hlk hl ((Pd x).1 hf).1
  ·exact hx.2 _ _ _ hlk hl (hsub2 x hf)
  ·exact hx.2 _ _ _ h hjl hf⟩
 have k2':dU w Er w (env B o' G' w):=by
  refine ⟨fun x hx=>⟨kA x hx,rfl⟩,fun j h x hx=> ?_,fun j x hV h=> ?_,fun j bN x h=> ?_,fun j bN p q x h=> ?_⟩
  ·obtain ⟨y,hy⟩:=r.look hx
   by_cases hj:j=i
   ·subst hj
    rw [ho] at hx
    obtain rfl:=Option.some.inj hx;exact hl
   ·exact h x (fo hj hy).1
  ·obtain ⟨hji,x',y,hlj,hjl,hf,hne⟩:=h
   exact ⟨⟨x',y,fo (by simpa using hji) hlj,hjl,hf,hne⟩,rfl⟩
  ·obtain ⟨x',y,hlj,wW,hh,hz⟩:=h
   by_cases hj:j=i
   ·subst hj
    obtain ⟨rfl,rfl⟩:=jI hlk hlj
    exact ⟨dY,g',fi,by omega,fun _ Pf=>by rw [hga,hgc,H6];exact hh hl (by omega),hz⟩
   ·exact ⟨x',y,fo hj hlj,wW,hh,hz⟩
  ·obtain ⟨x',y,hlj,wW,hh,hz⟩:=h
   by_cases hj:j=i
   ·subst hj
    obtain ⟨rfl,rfl⟩:=jI hlk hlj
    exact ⟨dY,g',fi,by omega,fun _ Pf=>by rw [hga,H5];exact hh hl (by omega),fun _ e=>by omega⟩
   ·exact ⟨x',y,fo hj hlj,wW,hh,hz⟩
 have kp:dU w (env B o G w).plain w (env B o' G' w).plain:=⟨fun x hx=>⟨kA x hx,rfl⟩,fun _ _=>trivial,fun _ _ _ h=>h.elim,fun _ _ _ h=>h.elim,fun _ _ _ _ _ h=>h.elim⟩
 have kf:dU w (env B o G w).plain w (env B o' G' w):=kp.trans (JL w _)
 have hnd':=hnd
 simp only [nodup_cons] at hnd'
 refine ⟨G',{len:=by rw [<-hO,<-Xi];simp [r.len],defs:=r.defs,ok:= ?_,apart:= ?_,fresh:= ?_,tmps:=CR hw (dF k2' _ _ _ (by simp) (uB xh _ _ _ (by simp) r.tmps)),size:=r.size,frame:=r.frame,base:=r.base,same:=r.same}⟩
 ·intro j x y hlj hjl
  rcases back hlj with ⟨rfl,rfl,rfl⟩|⟨rfl,rfl,rfl⟩|⟨hj,h⟩
  ·refine ⟨b::(f1++(a1++[]++a3)++f3),?_,?_,?_⟩
   ·rw [<-tY,<-hg']
    simp only [Env.of,if_true]
    refine ⟨by simpa using hlen,.inr ⟨b,off,C,ty,fz,_,ha,hbk,hz,h1,by simpa using h2,h3,rfl,?_⟩⟩
    refine Qq hk hn hcs hone (Yj wU hv (dF kf _ _ _ (fun _ _=>rfl) k1) ?_ (dF kf _ _ _ (fun _ _=>rfl) k3)) (kQ kf _ _ _ _ _ rfl (fun _ _=>rfl) hr1) (kQ kf _ _ _ _ _ rfl (fun _ _=>rfl) hr3)
    simp only [R]
    exact ⟨trivial,_,_,fJ,Nat.le_refl _,fun _ _=>J5,fun h=>by omega⟩
   ·have hs:(f1++(a1++[]++a3)++f3).Sublist (f1++(a1++a2++a3)++f3):=((Sublist.refl f1).append (((Sublist.refl a1).append (nil_sublist a2)).append (Sublist.refl a3))).append (Sublist.refl f3)
    exact nodup_cons.2 ⟨fun h=>hnd'.1 (hs.subset h),hs.nodup hnd'.2⟩
   ·intro x hx
    rw [Pd]
    have hin:x∈b::(f1++(a1++a2++a3)++f3):=by
     simp only [mem_cons,mem_append,not_mem_nil,or_false] at hx⊢
     grind
    refine ⟨hF x hin,fun hx2=> ?_⟩
    have hd:=hnd'.2
    simp only [nodup_append,mem_append] at hd
    simp only [mem_cons,mem_append,not_mem_nil,or_false] at hx
    rcases hx with rfl|(hx|hx|hx)|hx
    ·exact hnd'.1 (by simp [hx2])
    ·exact hd.1.2.2 x hx x (.inl (.inr hx2)) rfl
    ·exact hd.1.2.1.1.2.2 x hx x hx2 rfl
    ·exact hd.1.2.1.2.2 x (.inr hx2) x hx rfl
    ·exact hd.2.2 x (.inr (.inl (.inr hx2))) x hx rfl
  ·refine ⟨a2,?_,?_,fun x hx=>hx⟩
   ·simp only [Env.of,Bool.false_eq_true,if_false]
    exact Um.keeps kp (fun _ _=>rfl)
   ·have hd:=hnd'.2
    simp only [nodup_append] at hd
    exact hd.1.2.1.1.2.1
  ·have hbj:=nb h
   obtain ⟨fq,q1,q2,q3⟩:=r.ok j x y h hjl
   simp only [hbj,Env.of,Bool.false_eq_true,if_false] at q1
   refine ⟨fq,?_,q2,q3⟩
   simp only [hbj,Env.of,Bool.false_eq_true,if_false]
   exact q1.keeps kp (fun _ _=>rfl)
 ·intro j1 j2 x1 x2 y1 y2 z hl1 hl2 v1 v2 hf1 hf2
  rcases back hl1 with ⟨rfl,rfl,rfl⟩|⟨rfl,rfl,rfl⟩|⟨hj1,h1⟩<;>rcases back hl2 with ⟨rfl,rfl,rfl⟩|⟨rfl,rfl,rfl⟩|⟨hj2,h2⟩
  ·rfl
  ·exact absurd hf2 ((Pd z).1 hf1).2
  ·exact absurd (r.apart _ _ _ _ _ _ z hlk h2 hl v2 ((Pd z).1 hf1).1 hf2).symm hj2
  ·exact absurd hf1 ((Pd z).1 hf2).2
  ·rfl
  ·exact absurd (r.apart _ _ _ _ _ _ z hlk h2 hl v2 (hsub2 z hf1) hf2).symm hj2
  ·exact absurd (r.apart _ _ _ _ _ _ z h1 hlk v1 hl hf1 ((Pd z).1 hf2).1) hj1
  ·exact absurd (r.apart _ _ _ _ _ _ z h1 hlk v1 hl hf1 (hsub2 z hf2)) hj1
  ·exact r.apart _ _ _ _ _ _ z h1 h2 v1 v2 hf1 hf2
 ·intro j x y z hlj hjl hf
  rcases back hlj with ⟨rfl,rfl,rfl⟩|⟨rfl,rfl,rfl⟩|⟨_,h⟩
  ·exact r.fresh _ _ _ z hlk hl ((Pd z).1 hf).1
  ·exact r.fresh _ _ _ z hlk hl (hsub2 z hf)
  ·exact r.fresh _ _ _ z h hjl hf
end Go.Aw

namespace Go.Aw
open List
def AV.wK:AV->Bool
 | .int _ _=>true
 | .bool _=>true
 | .str _=>true
 | .sl .own _ _=>true
 |_=>false
theorem aG3 {w:World} {E E':Env} (hA:∀b,E.A b->E'.A b) {x:AV} {v:Value} {fp:List Nat} (hx:x.wK=true) (h:R w E x v fp):R w E' x v fp:=by
 cases x with
 |int _ _=>simpa [R] using h
 |bool _=>simpa [R] using h
 |str _=>simpa [R] using h
 |sl g n l=>
  cases g with
  |own=>
   obtain ⟨a,cap,hv,hown⟩:=oV.1 h
   exact oV.2 ⟨a,cap,hv,hown.keeps ⟨fun b hb=>⟨hA b hb,rfl⟩,fun _ _=>trivial,fun _ _ _ h=>h.elim,fun _ _ _ h=>h.elim,fun _ _ _ _ _ h=>h.elim⟩ (fun _ _=>rfl)⟩
  |_=>cases hx
 |_=>cases hx
theorem Lv {w:World} {E E':Env} (hA:∀b,E.A b->E'.A b):∀{c:List AV} {cs:List Value} {fp:List Nat},c.all AV.wK=true->Rc w E c cs fp->Rc w E' c cs fp
 |[],[],_,_,h=>h
 |[],_::_,_,_,h=>by simp [Rc] at h
 |_::_,[],_,_,h=>by simp [Rc] at h
 |x::xs,c::cs,fp,hp,h=>by
  simp only [Rc] at h⊢
  simp only [all_cons,Bool.and_eq_true] at hp
  obtain ⟨f1,f2,h1,h2,h3⟩:=h
  exact ⟨f1,f2,aG3 hA hp.1 h1,Lv hA hp.2 h2,h3⟩
theorem Ta {w:World} {E E':Env} (hA:∀b,E.A b->E'.A b):∀{l:List (List AV)} {b off n:Nat} {fp:List Nat},(l.all fun r=>r.all AV.wK)=true->Rr w E l b off n fp->Rr w E' l b off n fp
 |[],_,_,_,_,_,h=>h
 |e::es,b,off,n,fp,hp,h=>by
  simp only [Rr] at h⊢
  simp only [all_cons,Bool.and_eq_true] at hp
  obtain ⟨cs,f1,f2,h1,h2,h3,h4,h5,h6⟩:=h
  exact ⟨cs,f1,f2,h1,h2,h3,Lv hA hp.1 h4,Ta hA hp.2 h5,h6⟩
theorem Ns {α:Type} {p:α->Bool} {l:List α} (k:Nat) (h:l.all p=true):(l.take k).all p=true:=by
 rw [all_eq_true] at h⊢;exact fun x hx=>h x (mem_of_mem_take hx)
theorem Nt {α:Type} {p:α->Bool} {l:List α} (k:Nat) (h:l.all p=true):(l.drop k).all p=true:=by
 rw [all_eq_true] at h⊢;exact fun x hx=>h x (mem_of_mem_drop hx)
theorem ED {α:Type} (l:List α) (k:Nat) (x:α):(l.set k x).take k=l.take k:=by
 rw [take_set];exact set_eq_of_length_le (by simp;omega)
theorem EE {α:Type} (l:List α) (k:Nat) (x:α):(l.set k x).drop (k+1)=l.drop (k+1):=by
 rw [drop_set];simp
theorem Nu {t t':List AV} {o o':List aG} (i J k c:Nat) {ob oj:aG} {e:List AV} {bN:Nat} (ho:o[i]? =some ob) (hj:o[J]? =some oj) (hij:i≠J) (hl:ob.live=true) (hlj:oj.live=true) (hbj:oj.box=false)
  (he:ob.dK[k]? =some e) (hc:e[c]? =some (.obj J bN)) (wW:oj.bN=bN) (hp:((ob.dK.set k (e.set c (.int .i64 0))).all fun r=>r.all AV.wK)=true) (Et:ob.box=true)
  (ho':(o.set J oj.kill).set i {ob with box:=false,dK:=ob.dK.set k (e.set c (.sl .own oj.n oj.dK))}=o') (hw:wk t t'):lS ⟨t,o⟩ ⟨t',o'⟩:=by
 subst ho'
 rintro P _ B a w ⟨G,r⟩
 obtain ⟨g,hlk⟩:=r.look ho
 obtain ⟨gj,aC2⟩:=r.look hj
 obtain ⟨fp,hown,hnd,hF⟩:=r.ok i ob g hlk hl
 obtain ⟨fj,JR,aBv,OX⟩:=r.ok J oj gj aC2 hlj
 simp only [Et,Env.of,if_true] at hown
 simp only [hbj,Env.of,Bool.false_eq_true,if_false] at JR
 obtain ⟨hlen,⟨h,_⟩|⟨b,off,C,ty,fz,nQ,ha,hbk,hz,h1,h2,h3,rfl,hr⟩⟩:=hown
 ·rw [h] at he;simp at he
 have hk:k < ob.dK.length:=(List.getElem?_eq_some_iff.1 he).1
 have wU:c < e.length:=(List.getElem?_eq_some_iff.1 hc).1
 obtain ⟨f1,f2,f3,cs,rfl,hn,hcs,hone,hre,hr1,hr3⟩:=wX hr he
 obtain ⟨a1,a2,a3,v,rfl,hv,k1,k2,k3⟩:=G9 hre hc
 simp only [R] at k2
 obtain ⟨rfl,ob2,g2,hl2,_,hh,_⟩:=k2
 obtain ⟨rfl,rfl⟩:=jI aC2 hl2
 have J5:=hh hlj wW
 obtain ⟨r2,kk⟩:=r.LZ hij hlk aC2 hl hlj
 generalize hgt:({g with F:=fun b=>g.F b\/gj.F b}:CO)=gt at r2 kk
 have aP7:gt.a=g.a:=by rw [<-hgt]
 have aG4:gt.cap=g.cap:=by rw [<-hgt]
 have aP8:∀x,gt.F x↔g.F x\/gj.F x:=fun x=>by rw [<-hgt]
 have Sj:look (o.set J oj.kill) (G.set i gt) i ob gt:=by
  refine ⟨by rw [getElem?_set_ne (Ne.symm hij)];exact hlk.1,?_⟩
  have:=(List.getElem?_eq_some_iff.1 hlk.2).1
  simp [this]
 have hpe:(e.set c (.int .i64 0)).all AV.wK=true:=by
  rw [all_eq_true] at hp
  exact hp _ (mem_iff_getElem?.2 ⟨k,by rw [getElem?_set_self hk]⟩)
 have hm:=r2.modify Sj hl {ob with box:=false,dK:=ob.dK.set k (e.set c (.sl .own oj.n oj.dK))} gt w (Nat.le_refl _) rfl (fun _=>⟨rfl,rfl,by simp⟩) (fun b hb=> .inl hb) (fun b hb hne=>⟨hb,hne⟩) (fun _ _ _=>rfl) (Nat.le_refl _) (fun km _=>by
  generalize hE:env B ((o.set J oj.kill).set i {ob with box:=false,dK:=ob.dK.set k (e.set c (.sl .own oj.n oj.dK))}) ((G.set i gt).set i gt) w=E'
  replace km:dU w (env B (o.set J oj.kill) (G.set i gt) w) w E':=by rw [<-hE];exact km
  have kA:∀x,(env B o G w).A x->E'.A x:=fun x hx=>(km.a x (kk.a x hx).1).1
  have kp:dU w (env B o G w).plain w E'.plain:=⟨fun x hx=>⟨kA x hx,rfl⟩,fun _ _=>trivial,fun _ _ _ h=>h.elim,fun _ _ _ h=>h.elim,fun _ _ _ _ _ h=>h.elim⟩
  refine ⟨b::(f1++(a1++fj++a3)++f3),?_,?_,?_⟩
  ·simp only [Env.of,Bool.false_eq_true,if_false]
   refine ⟨by simpa using hlen,.inr ⟨b,off,C,ty,fz,_,by rw [aP7];exact ha,hbk,hz,by rw [aG4];exact h1,by rw [aG4];simpa using h2,by rw [aG4];exact h3,rfl,?_⟩⟩
   refine Qq hk hn hcs hone (Yj wU hv ?_ ?_ ?_) ?_ ?_
   ·exact Lv (E:=env B o G w) (E':=E'.plain) kA (by have:=Ns c hpe;rwa [ED] at this) k1
   ·exact oV.2 ⟨gj.a,gj.cap,J5,JR.keeps kp (fun _ _=>rfl)⟩
   ·exact Lv (E:=env B o G w) (E':=E'.plain) kA (by have:=Nt (c+1) hpe;rwa [EE] at this) k3
   ·exact Ta (E:=env B o G w) (E':=E'.plain) kA (by have:=Ns k hp;rwa [ED] at this) hr1
   ·exact Ta (E:=env B o G w) (E':=E'.plain) kA (by have:=Nt (k+1) hp;rwa [EE] at this) hr3
  ·have hdj:∀x∈fj,x∉b::(f1++(a1++[]++a3)++f3):=fun x hx hx2=>hij (r.apart _ _ _ _ _ _ x hlk aC2 hl hlj (hF x hx2) (OX x hx))
   have QM:(b::(f1++(a1++fj++a3)++f3)).Perm ((b::(f1++(a1++[]++a3)++f3))++fj):=by
    rw [cons_append]
    refine Perm.cons b ?_
    simp only [append_assoc,nil_append]
    refine Perm.append_left f1 (Perm.append_left a1 ?_)
    rw [<-append_assoc a3]
    exact perm_append_comm
   refine QM.nodup_iff.2 (nodup_append.2 ⟨hnd,aBv,fun x hx y hy e=> ?_⟩)
   subst e
   exact hdj x hy hx
  ·intro x hx
   rw [aP8]
   have:x∈b::(f1++(a1++[]++a3)++f3)\/x∈fj:=by
    simp only [mem_cons,mem_append,not_mem_nil,or_false] at hx⊢
    grind
   rcases this with h|h
   ·exact .inl (hF x h)
   ·exact .inr (OX x h))
 refine ⟨(G.set i gt).set i gt,{hm.1 with tmps:= ?_}⟩
 exact CR hw hm.1.tmps
end Go.Aw

namespace Go.Aw
open List
mutual
def Cq (i:Nat):AV->Bool
 | .sl (.iQ j) _ _=>decide (j≠i)
 | .eH (.iQ j) _ _=>decide (j≠i)
 | .agg c=>sU i c
 | .gV c=>sU i c
 | .fn _ c=>sU i c
 |_=>true
def sU (i:Nat):List AV->Bool
 |[]=>true
 |x::xs=>Cq i x&&sU i xs
end
def Env.no (E:Env) (i:Nat):Env:={E with D:=fun j x=>j∉[i]/\E.D j x}
theorem Vs {w:World} {E:Env} {i j:Nat} (h:j≠i):dU w (E.sub (.iQ j)) w ((E.no i).sub (.iQ j)):=
 ⟨fun b h=>⟨h,rfl⟩,fun _ _=>trivial,fun k b _ hd=>⟨⟨hd.1,by simpa using h,hd.2⟩,rfl⟩,fun _ _ _ h=>h.elim,fun _ _ _ _ _ h=>h.elim⟩
mutual
theorem aC3 {w:World} {E:Env} {i:Nat}:∀(x:AV) (v:Value) (fp:List Nat),Cq i x=true->R w E x v fp->R w (E.no i) x v fp
 | .int _ _,_,_,_,h=>by simpa [R] using h
 | .bool _,_,_,_,h=>by simpa [R] using h
 | .str _,_,_,_,h=>by simpa [R] using h
 | .sl .own n l,v,fp,_,h=>oV.2 (oV.1 h)
 | .sl .view n l,v,fp,_,h=>by
  simp only [R] at h⊢
  rcases h with h|⟨a,cap,hv,hl,h⟩
  ·exact h.1.elim
  ·refine .inr ⟨a,cap,hv,hl,?_⟩
   rcases h with h|h|⟨hg,hf,h⟩
   ·exact absurd h.1 (by simp)
   ·exact absurd h.1 (by simp)
   ·exact .inr (.inr ⟨hg,hf,h⟩)
 | .sl (.iQ j) n l,v,fp,hc,h=>by
  have hi:j≠i:=by simpa [Cq] using hc
  simp only [R] at h⊢
  rcases h with h|⟨a,cap,hv,hl,h⟩
  ·exact .inl h
  ·refine .inr ⟨a,cap,hv,hl,?_⟩
   rcases h with h|h|⟨hg,hf,h⟩
   ·exact absurd h.1 (by simp)
   ·exact absurd h.1 (by simp)
   ·refine .inr (.inr ⟨hg,hf,?_⟩)
    rcases h with h|⟨b,off,ha,ht,hr⟩
    ·exact .inl h
    ·exact .inr ⟨b,off,ha,⟨by simpa using hi,ht⟩,kQ (Vs hi) _ _ _ _ _ rfl (by simp) hr⟩
 | .eH .own c off,v,fp,_,h=>by
  simp only [R] at h⊢
  rcases h with h|⟨_,_,_,_,_,ht,_⟩
  ·exact h.1.elim
  ·exact ht.elim
 | .eH .view c off,v,fp,_,h=>by
  simp only [R] at h⊢
  rcases h with h|⟨hf,b,o',cs,hv,ht,hcs,hone,hr⟩
  ·exact h.1.elim
  ·exact .inr ⟨hf,b,o',cs,hv,ht,hcs,hone,hr⟩
 | .eH (.iQ j) c off,v,fp,hc,h=>by
  have hi:j≠i:=by simpa [Cq] using hc
  simp only [R] at h⊢
  rcases h with h|⟨hf,b,o',cs,hv,ht,hcs,hone,hr⟩
  ·exact .inl h
  ·exact .inr ⟨hf,b,o',cs,hv,⟨by simpa using hi,ht⟩,hcs,hone,dF (Vs hi) _ _ _ (by simp) hr⟩
 | .obj _ _,v,fp,_,h=>by simp only [R] at h⊢;exact h
 | .ptr _ _ _ _,v,fp,_,h=>by simp only [R] at h⊢;exact h
 | .agg c,v,fp,hc,h=>by
  simp only [R] at h⊢
  obtain ⟨cs,h1,h2,h3⟩:=h
  exact ⟨cs,h1,h2,Df c cs fp (by simpa [Cq] using hc) h3⟩
 | .gV c,v,fp,hc,h=>by
  simp only [R] at h⊢
  obtain ⟨cs,h1,h3⟩:=h
  exact ⟨cs,h1,Df c cs fp (by simpa [Cq] using hc) h3⟩
 | .fn f c,v,fp,hc,h=>by
  simp only [R] at h⊢
  obtain ⟨h0,cs,h1,h3⟩:=h
  exact ⟨h0,cs,h1,Df c cs [] (by simpa [Cq] using hc) h3⟩
 | .undef,_,_,_,h=>by simpa [R] using h
theorem Df {w:World} {E:Env} {i:Nat}:∀(c:List AV) (cs:List Value) (fp:List Nat),sU i c=true->Rc w E c cs fp->Rc w (E.no i) c cs fp
 |[],[],_,_,h=>by simpa [Rc] using h
 |[],_::_,_,_,h=>by simp [Rc] at h
 |_::_,[],_,_,h=>by simp [Rc] at h
 |x::xs,c::cs,fp,hc,h=>by
  simp only [Rc] at h⊢
  simp only [sU,Bool.and_eq_true] at hc
  obtain ⟨f1,f2,h1,h2,h3⟩:=h
  exact ⟨f1,f2,aC3 x c f1 hc.1 h1,Df xs cs f2 hc.2 h2,h3⟩
end
theorem Vt {w:World} {E:Env} {i:Nat}:∀(l:List (List AV)) (b off n:Nat) (fp:List Nat),(l.all fun c=>sU i c)=true->Rr w E l b off n fp->Rr w (E.no i) l b off n fp
 |[],_,_,_,_,_,h=>by simpa [Rr] using h
 |e::es,b,off,n,fp,hc,h=>by
  simp only [Rr] at h⊢
  simp only [all_cons,Bool.and_eq_true] at hc
  obtain ⟨cs,f1,f2,h1,h2,h3,h4,h5,h6⟩:=h
  exact ⟨cs,f1,f2,h1,h2,h3,Df e cs f1 hc.1 h4,Vt es b _ n f2 hc.2 h5,h6⟩
theorem rV.Cq {w:World} {E:Env} {n:Nat} {l:List (List AV)} {a:Option Addr} {cap:Nat} {fp:List Nat} {i:Nat} (hc:(l.all fun c=>sU i c)=true) (h:rV w E n l a cap fp):rV w (E.no i) n l a cap fp:=by
 obtain ⟨h1,h|⟨b,off,C,e,fz,nQ,k1,k2,k3,k4,k5,k6,k7,k8⟩⟩:=h
 ·exact ⟨h1,.inl h⟩
 ·exact ⟨h1,.inr ⟨b,off,C,e,fz,nQ,k1,k2,k3,k4,k5,k6,k7,Vt l b off n nQ hc k8⟩⟩
theorem qX {t t':List AV} {o o':List aG} (i k c:Nat) {ob:aG} {e:List AV} {m:Nat} {rows:List (List AV)} (ho:o[i]? =some ob) (hl:ob.live=true) (hb:ob.box=true) (hall:(o.all fun x=> !x.box || x.dK.all fun c=>sU i c)=true) (he:ob.dK[k]? =some e)
  (hc:e[c]? =some (.sl .own m rows)) (ho':o.set i {ob with dK:=ob.dK.set k (e.set c (.obj o.length 1))}++[⟨true,false,m,1,rows⟩]=o') (hw:wk (wT (gM [i]) true t) t'):lS ⟨t,o⟩ ⟨t',o'⟩:=by
 subst ho'
 rintro P _ B a w ⟨G,r⟩
 have nb:∀{j x g},look o G j x g->x.box=true->(x.dK.all fun c=>sU i c)=true:=fun h hb=>by
  have:=all_eq_true.1 hall _ (mem_of_getElem? h.1)
  simpa only [hb,Bool.not_true,Bool.false_or] using this
 obtain ⟨g,hlk⟩:=r.look ho
 obtain ⟨fp,hown,hnd,hF⟩:=r.ok i ob g hlk hl
 simp only [hb,Env.of,if_true] at hown
 replace hown:=hown.Cq (nb hlk hb)
 obtain ⟨hlen,⟨h,_⟩|⟨b,off,C,ty,fz,nQ,ha,hbk,hz,h1,h2,h3,rfl,hr⟩⟩:=hown
 ·rw [h] at he;simp at he
 have hk:k < ob.dK.length:=(List.getElem?_eq_some_iff.1 he).1
 have wU:c < e.length:=(List.getElem?_eq_some_iff.1 hc).1
 obtain ⟨f1,f2,f3,cs,rfl,hn,hcs,hone,hre,hr1,hr3⟩:=wX hr he
 obtain ⟨a1,a2,a3,v,rfl,hv,k1,k2,k3⟩:=G9 hre hc
 obtain ⟨ad,cap',J5,Um⟩:=oV.1 k2
 have hlo:i < o.length:=(List.getElem?_eq_some_iff.1 ho).1
 have hsub2:∀x∈a2,g.F x:=fun x hx=>hF x (by simp [hx])
 generalize tY:({ob with dK:=ob.dK.set k (e.set c (.obj o.length 1))}:aG)=dY
 generalize hg':({g with F:=fun x=>g.F x/\x∉a2}:CO)=g'
 generalize hO:o.set i dY++[⟨true,false,m,1,rows⟩]=o'
 generalize Xi:G.set i g'++[⟨ad,cap',fun x=>x∈a2⟩]=G'
 have Vr:(G.set i g').length=(o.set i dY).length:=by simp [r.len]
 have back:∀{j x y},look o' G' j x y->(j=i/\x=dY/\y=g')\/(j=o.length/\x=⟨true,false,m,1,rows⟩/\y=⟨ad,cap',fun x=>x∈a2⟩)\/(j≠i/\look o G j x y):=by
  intro j x y h
  rw [<-hO,<-Xi] at h
  rcases mK Vr h with ⟨_,h⟩|⟨hj,h⟩
  ·rcases wD h with ⟨h1,h2,h3⟩|⟨h1,h2⟩
   ·exact .inl ⟨h1,h2,h3⟩
   ·exact .inr (.inr ⟨h1,h2⟩)
  ·right;left
   obtain ⟨h1,h2⟩:=h
   cases hd:j - (o.set i dY).length with
   |zero=>
    rw [hd] at h1 h2
    simp at h1 h2 hj hd
    exact ⟨by omega,h1.symm,h2.symm⟩
   |succ n=>rw [hd] at h1;simp at h1
 have fi:look o' G' i dY g':=by rw [<-hO,<-Xi];exact lH (nR hlk)
 have fJ:look o' G' o.length ⟨true,false,m,1,rows⟩ ⟨ad,cap',fun x=>x∈a2⟩:=by
  rw [<-hO,<-Xi]
  have:=mM (o:=o.set i dY) (o2:=[⟨true,false,m,1,rows⟩]) (G:=G.set i g') (G2:=[⟨ad,cap',fun x=>x∈a2⟩]) Vr (i:=0) (x:=⟨true,false,m,1,rows⟩) (y:=⟨ad,cap',fun x=>x∈a2⟩) ⟨rfl,rfl⟩
  simpa using this
 have fo:∀{j x y},j≠i->look o G j x y->look o' G' j x y:=fun hj h=>by rw [<-hO,<-Xi];exact lH (zT h hj)
 have aK3:dY.live=true:=by rw [<-tY];exact hl
 have H5:dY.n=ob.n:=by rw [<-tY]
 have aK4:dY.bN=ob.bN:=by rw [<-tY]
 have H6:dY.dK.length=ob.dK.length:=by rw [<-tY];simp
 have hga:g'.a=g.a:=by rw [<-hg']
 have hgc:g'.cap=g.cap:=by rw [<-hg']
 have Pd:∀x,g'.F x↔g.F x/\x∉a2:=fun x=>by rw [<-hg']
 let Er:Env:=(env B o G w).no i
 have xh:lL (gM [i]) true (env B o G w) Er (fun _=>True):=by
  refine ⟨fun t e=>by simp [gM] at e,fun t e=>by simp only [gM,Option.some.injEq] at e;exact ⟨e.symm,fun b hb=>hb⟩,fun j t e=> ?_,fun _ _ _ _ h=>h,fun _ _ _ _ _ _ h=>h⟩
  simp only [gM] at e
  split at e
  ·cases e
  ·rename_i hiu
   obtain rfl:=Option.some.inj e
   refine ⟨by simp,?_,fun b hb=>⟨hiu,hb⟩⟩
   by_cases hV:(env B o G w).V j
   ·exact .inl hV
   ·exact .inr hV
 have kA:∀x,(env B o G w).A x->(env B o' G' w).A x:=fun x hx=>⟨hx.1,fun j y z hlj hjl hf=>by
  rcases back hlj with ⟨rfl,rfl,rfl⟩|⟨rfl,rfl,rfl⟩|⟨_,h⟩
  ·exact hx.2 _ _ _ hlk hl ((Pd x).1 hf).1
  ·exact hx.2 _ _ _ hlk hl (hsub2 x hf)
  ·exact hx.2 _ _ _ h hjl hf⟩
 have k2':dU w Er w (env B o' G' w):=by
  refine ⟨fun x hx=>⟨kA x hx,rfl⟩,fun j h x hx=> ?_,fun j x hV h=> ?_,fun j bN x h=> ?_,fun j bN p q x h=> ?_⟩
  ·obtain ⟨y,hy⟩:=r.look hx
   by_cases hj:j=i
   ·subst hj
    rw [ho] at hx
    obtain rfl:=Option.some.inj hx;exact hl
   ·exact h x (fo hj hy).1
  ·obtain ⟨hji,x',y,hlj,hjl,hf,hne⟩:=h
   exact ⟨⟨x',y,fo (by simpa using hji) hlj,hjl,hf,hne⟩,rfl⟩
  ·obtain ⟨x',y,hlj,wW,hh,hz⟩:=h
   by_cases hj:j=i
   ·subst hj
    obtain ⟨rfl,rfl⟩:=jI hlk hlj
    exact ⟨dY,g',fi,by omega,fun _ Pf=>by rw [hga,hgc,H6];exact hh hl (by omega),hz⟩
   ·exact ⟨x',y,fo hj hlj,wW,hh,hz⟩
  ·obtain ⟨x',y,hlj,wW,hh,hz⟩:=h
   by_cases hj:j=i
   ·subst hj
    obtain ⟨rfl,rfl⟩:=jI hlk hlj
    exact ⟨dY,g',fi,by omega,fun _ Pf=>by rw [hga,H5];exact hh hl (by omega),fun _ e2 e3 e4 y hy=>⟨(hz hb e2 e3 e4 y hy).1,fun _ Pf=>by rw [hgc];exact (hz hb e2 e3 e4 y hy).2 hl (by omega)⟩⟩
   ·exact ⟨x',y,fo hj hlj,wW,hh,hz⟩
 have kp:dU w (env B o G w).plain w (env B o' G' w).plain:=⟨fun x hx=>⟨kA x hx,rfl⟩,fun _ _=>trivial,fun _ _ _ h=>h.elim,fun _ _ _ h=>h.elim,fun _ _ _ _ _ h=>h.elim⟩
 have kf:dU w (env B o G w).plain w (env B o' G' w):=kp.trans (JL w _)
 have hnd':=hnd
 simp only [nodup_cons] at hnd'
 refine ⟨G',{len:=by rw [<-hO,<-Xi];simp [r.len],defs:=r.defs,ok:= ?_,apart:= ?_,fresh:= ?_,tmps:=CR hw (dF k2' _ _ _ (by simp) (uB xh _ _ _ (by simp) r.tmps)),size:=r.size,frame:=r.frame,base:=r.base,same:=r.same}⟩
 ·intro j x y hlj hjl
  rcases back hlj with ⟨rfl,rfl,rfl⟩|⟨rfl,rfl,rfl⟩|⟨hj,h⟩
  ·refine ⟨b::(f1++(a1++[]++a3)++f3),?_,?_,?_⟩
   ·rw [<-tY,<-hg']
    simp only [hb,Env.of,if_true]
    refine ⟨by simpa using hlen,.inr ⟨b,off,C,ty,fz,_,ha,hbk,hz,h1,by simpa using h2,h3,rfl,?_⟩⟩
    refine Qq hk hn hcs hone (Yj wU hv (dF k2' _ _ _ (fun _ _=>rfl) k1) ?_ (dF k2' _ _ _ (fun _ _=>rfl) k3)) (kQ k2' _ _ _ _ _ rfl (fun _ _=>rfl) hr1) (kQ k2' _ _ _ _ _ rfl (fun _ _=>rfl) hr3)
    simp only [R]
    exact ⟨trivial,_,_,fJ,Nat.le_refl _,fun _ _=>J5,fun h=>by omega⟩
   ·have hs:(f1++(a1++[]++a3)++f3).Sublist (f1++(a1++a2++a3)++f3):=((Sublist.refl f1).append (((Sublist.refl a1).append (nil_sublist a2)).append (Sublist.refl a3))).append (Sublist.refl f3)
    exact nodup_cons.2 ⟨fun h=>hnd'.1 (hs.subset h),hs.nodup hnd'.2⟩
   ·intro x hx
    rw [Pd]
    have hin:x∈b::(f1++(a1++a2++a3)++f3):=by
     simp only [mem_cons,mem_append,not_mem_nil,or_false] at hx⊢
     grind
    refine ⟨hF x hin,fun hx2=> ?_⟩
    have hd:=hnd'.2
    simp only [nodup_append,mem_append] at hd
    simp only [mem_cons,mem_append,not_mem_nil,or_false] at hx
    rcases hx with rfl|(hx|hx|hx)|hx
    ·exact hnd'.1 (by simp [hx2])
    ·exact hd.1.2.2 x hx x (.inl (.inr hx2)) rfl
    ·exact hd.1.2.1.1.2.2 x hx x hx2 rfl
    ·exact hd.1.2.1.2.2 x (.inr hx2) x hx rfl
    ·exact hd.2.2 x (.inr (.inl (.inr hx2))) x hx rfl
  ·refine ⟨a2,?_,?_,fun x hx=>hx⟩
   ·simp only [Env.of,Bool.false_eq_true,if_false]
    exact Um.keeps kp (fun _ _=>rfl)
   ·have hd:=hnd'.2
    simp only [nodup_append] at hd
    exact hd.1.2.1.1.2.1
  ·obtain ⟨fq,q1,q2,q3⟩:=r.ok j x y h hjl
   refine ⟨fq,?_,q2,q3⟩
   cases hbj:x.box with
   |false=>
    simp only [hbj,Env.of,Bool.false_eq_true,if_false] at q1⊢
    exact q1.keeps kp (fun _ _=>rfl)
   |true=>
    simp only [hbj,Env.of,if_true] at q1⊢
    exact (q1.Cq (nb h hbj)).keeps k2' (fun _ _=>rfl)
 ·intro j1 j2 x1 x2 y1 y2 z hl1 hl2 v1 v2 hf1 hf2
  rcases back hl1 with ⟨rfl,rfl,rfl⟩|⟨rfl,rfl,rfl⟩|⟨hj1,h1⟩<;>rcases back hl2 with ⟨rfl,rfl,rfl⟩|⟨rfl,rfl,rfl⟩|⟨hj2,h2⟩
  ·rfl
  ·exact absurd hf2 ((Pd z).1 hf1).2
  ·exact absurd (r.apart _ _ _ _ _ _ z hlk h2 hl v2 ((Pd z).1 hf1).1 hf2).symm hj2
  ·exact absurd hf1 ((Pd z).1 hf2).2
  ·rfl
  ·exact absurd (r.apart _ _ _ _ _ _ z hlk h2 hl v2 (hsub2 z hf1) hf2).symm hj2
  ·exact absurd (r.apart _ _ _ _ _ _ z h1 hlk v1 hl hf1 ((Pd z).1 hf2).1) hj1
  ·exact absurd (r.apart _ _ _ _ _ _ z h1 hlk v1 hl hf1 (hsub2 z hf2)) hj1
  ·exact r.apart _ _ _ _ _ _ z h1 h2 v1 v2 hf1 hf2
 ·intro j x y z hlj hjl hf
  rcases back hlj with ⟨rfl,rfl,rfl⟩|⟨rfl,rfl,rfl⟩|⟨_,h⟩
  ·exact r.fresh _ _ _ z hlk hl ((Pd z).1 hf).1
  ·exact r.fresh _ _ _ z hlk hl (hsub2 z hf)
  ·exact r.fresh _ _ _ z h hjl hf
attribute [simp] Cq sU
end Go.Aw

namespace Go.Aw
open List
def quiet:Op->Bool
 | .move _| .assign _| .load _ _| .fieldAddr _ _ _| .indexAddr _ _ _| .index _ _ _| .extract _ _| .unOp _ _ _| .binOp _ _ _ _ _| .convert _ _ _| .pick _ _ _| .alloc _| .box _ _| .build _ _| .nilCheck _=>true
 | .call ⟨.builtin .len,⟨[_]⟩,⟨[_]⟩⟩=>true
 | .call ⟨.value _,_,_⟩=>true
 |_=>false
def lY (op:Op) (s:AS):Bool:=match op with
 | .buildSlice _ _ parts=>(iR ((parts.toList.map (·.2)).map s.ev)).isEmpty
 | .slice _ x _ _ none=>match s.ev x with
  | .str _=>true
  | .sl _ _ _=>true
  |_=>false
 | .call ⟨.builtin .append,⟨[x,y]⟩,_⟩=>(match s.ev x with| .sl .own _ []=>true|_=>false)&&(match s.ev y with| .sl .own _ []=>true| .sl .view _ _=>true| .str _=>true|_=>false)
 |o=>quiet o
mutual
theorem yw {o o':List aG}:∀x:AV,lI x=[]->res o x=res o' x/\iT o x=iT o' x
 | .obj i v,h=>by simp [lI] at h
 | .agg c,h=>by have:=DR (o:=o) (o':=o') c (by simpa [lI] using h);simp only [res,iT,this,and_self]
 | .gV c,h=>by have:=DR (o:=o) (o':=o') c (by simpa [lI] using h);simp only [res,iT,this,and_self]
 | .int _ _,_=>⟨rfl,rfl⟩
 | .bool _,_=>⟨rfl,rfl⟩
 | .str _,_=>⟨rfl,rfl⟩
 | .sl .own _ _,_=>⟨rfl,rfl⟩
 | .sl .view _ _,_=>⟨rfl,rfl⟩
 | .sl (.iQ _) _ _,_=>⟨rfl,rfl⟩
 | .eH .own _ _,_=>⟨rfl,rfl⟩
 | .eH .view _ _,_=>⟨rfl,rfl⟩
 | .eH (.iQ _) _ _,_=>⟨rfl,rfl⟩
 | .ptr _ _ _ _,_=>⟨rfl,rfl⟩
 | .fn _ [],_=>⟨rfl,rfl⟩
 | .fn _ (_::_),_=>⟨rfl,rfl⟩
 | .undef,_=>⟨rfl,rfl⟩
theorem DR {o o':List aG}:∀c:List AV,iR c=[]->qQ o c=qQ o' c/\kV o c=kV o' c
 |[],_=>⟨rfl,rfl⟩
 |x::xs,h=>by
  simp only [iR,append_eq_nil_iff] at h
  have h1:=yw (o:=o) (o':=o') x h.1
  have h2:=DR (o:=o) (o':=o') xs h.2
  simp only [qQ,kV,h1,h2,and_self]
end
theorem Zv {o:List aG}:∀{c:List AV},(∀x∈qQ o c,x.Au=true)->∀x∈c,x≠ .undef
 |[],_,x,hx=>by cases hx
 |y::ys,h,x,hx=>by
  rcases mem_cons.1 hx with rfl|hx
  ·rintro rfl
   have:=h .undef (by simp [qQ,res])
   simp [AV.Au,AV.JP] at this
  ·exact Zv (o:=o) (c:=ys) (fun z hz=>h z (by simp [qQ,hz])) x hx
def pY (t:List AV):Option Tmp->AV->List AV
 |some d,x=>t.set d x
 |none,_=>t
theorem put_eq (t:List AV) (o:List aG) (d:Option Tmp) (x:AV):AS.put ⟨t,o⟩ d x=⟨pY t d x,o⟩:=by cases d<;>rfl
theorem XG:∀{t2 t:List AV} (i:Nat),wk t2 t->t.getD i .undef=t2.getD i .undef\/t.getD i .undef= .undef
 |[],[],_,_=> .inl rfl
 |[],_::_,_,h=>h.elim
 |_::_,[],_,h=>h.elim
 |x::xs,y::ys,0,h=>by simpa [getD] using h.1
 |x::xs,y::ys,i+1,h=>by simpa [getD] using XG i h.2
theorem IQ (t:List AV) (o:List aG) (d:Option Tmp) (c:List AV):AS.box ⟨t,o⟩ d c=⟨pY t d (.ptr o.length 0 0 0),o++[⟨true,true,c.length,0,[c]⟩]⟩:=put_eq _ _ _ _
theorem DT (t:List AV) (o:List aG) (d:Option Tmp) (r:AV):AS.called ⟨t,o⟩ d r=⟨pY t d (bW 1 o.length r).1,o++(bW 1 o.length r).2⟩:=put_eq _ _ _ _
section
variable {t t2 : List AV} {o o2 : List aG}
theorem QI (hw:wk t2 t) (x:Operand):(AS.ev ⟨t,o⟩ x)=(AS.ev ⟨t2,o2⟩ x)\/(AS.ev ⟨t,o⟩ x)= .undef:=by
 cases x with
 |tmp i=>exact XG i hw
 |const v=>exact .inl rfl
 |func f=>exact .inl rfl
 |global g=>exact .inl rfl
theorem DU (hw:wk t2 t) {x:Operand} {y:AV} (h:AS.ev ⟨t,o⟩ x=y) (hy:y≠ .undef):AS.ev ⟨t2,o2⟩ x=y:=by
 rcases QI (o:=o) (o2:=o2) hw x with h'|h'
 ·rw [<-h',h]
 ·rw [h] at h';exact absurd h' hy
def Sub (o o2:List aG):Prop:=∀(i:Nat) (ob:aG),o[i]? =some ob->ob.live=true->o2[i]? =some ob
theorem vE (hs:Sub o o2) {i bN:Nat} {ob:aG} (h:AV.isObj o i bN=some ob):AV.isObj o2 i bN=some ob:=by
 unfold AV.isObj at h⊢
 split at h
 ·rename_i x hx
  split at h
  ·rename_i hc
   rw [hs _ _ hx hc.1]
   simp only [hc,and_self,if_true]
   exact h
  ·cases h
 ·cases h
theorem yx (hs:Sub o o2) {i bN idx:Nat} {p:aG×List AV} (h:AS.at ⟨t,o⟩ i bN idx=some p):AS.at ⟨t2,o2⟩ i bN idx=some p:=by
 unfold AS.at at h⊢
 split at h
 ·rename_i ob h1
  simp only [vE hs h1];exact h
 ·cases h
theorem yN (hs:Sub o o2) {i bN:Nat} (h:(AV.isObj o i bN).isSome=true):(AV.isObj o2 i bN).isSome=true:=by
 obtain ⟨ob,h⟩:=Option.isSome_iff_exists.1 h
 rw [vE hs h];rfl
theorem vT (hs:Sub o o2) {x:AV} (h:x.fit o=true):x.fit o2=true:=by
 cases x with
 |sl g n l=>
  cases g with
  |iQ i=>
   simp only [AV.fit] at h⊢
   split at h
   ·rename_i ob uW;rw [hs _ _ uW h];exact h
   ·cases h
  |_=>rfl
 |eH g c off=>
  cases g with
  |iQ i=>
   simp only [AV.fit] at h⊢
   split at h
   ·rename_i ob uW;rw [hs _ _ uW h];exact h
   ·cases h
  |_=>rfl
 |obj i bN=>simp only [AV.fit] at h⊢;exact yN hs h
 |ptr i bN _ _=>simp only [AV.fit] at h⊢;exact yN hs h
 |undef=>cases h
 |gV _=>cases h
 |_=>rfl
theorem XH {x:AV} (h:x.fit o=true):x≠ .undef:=by rintro rfl;cases h
end
mutual
theorem aB7 {o o2:List aG} (hs:Sub o o2):∀(x:AV),arg o x≠ .undef->∀(w:World) (v:Value),R w (lV w) (arg o2 x) v []->R w (lV w) (arg o x) v []
 | .obj i bN,hn,w,v,h=>by
  cases ho:AV.isObj o i bN with
  |none=>exact absurd (by simp only [arg,ho]) hn
  |some ob=>simp only [arg,ho,vE hs ho] at h⊢;exact h
 | .ptr i bN idx off,hn,w,v,h=>by
  cases ho:AV.isObj o i bN with
  |none=>exact absurd (by simp only [arg,ho]) hn
  |some ob=>simp only [arg,ho,vE hs ho] at h⊢;exact h
 | .agg c,_,w,v,h=>by
  simp only [arg,R] at h⊢
  obtain ⟨cs,h1,h2,h3⟩:=h
  exact ⟨cs,h1,h2,Ba hs c w cs h3⟩
 | .gV c,_,w,v,h=>by
  simp only [arg,R] at h⊢
  obtain ⟨cs,h1,h3⟩:=h
  exact ⟨cs,h1,Ba hs c w cs h3⟩
 | .fn f c,_,w,v,h=>by
  simp only [arg,R] at h⊢
  obtain ⟨h0,cs,h1,h3⟩:=h
  exact ⟨h0,cs,h1,Ba hs c w cs h3⟩
 | .int _ _,_,_,_,h=>h
 | .bool _,_,_,_,h=>h
 | .str _,_,_,_,h=>h
 | .sl .own _ _,_,_,_,h=>h
 | .sl .view _ _,_,_,_,h=>h
 | .sl (.iQ i) n l,hn,w,v,h=>by
  cases ho:o[i]? with
  |none=>simp [arg,ho] at hn
  |some ob=>
   by_cases hv:ob.live=true
   ·simp only [arg,ho,hs _ _ ho hv] at h⊢;exact h
   ·simp [arg,ho,hv] at hn
 | .eH .own _ _,_,_,_,h=>h
 | .eH .view _ _,_,_,_,h=>h
 | .eH (.iQ i) c off,hn,w,v,h=>by
  cases ho:o[i]? with
  |none=>simp [arg,ho] at hn
  |some ob=>
   by_cases hv:ob.live=true
   ·simp only [arg,ho,hs _ _ ho hv] at h⊢;exact h
   ·simp [arg,ho,hv] at hn
 | .undef,hn,_,_,_=>absurd rfl hn
theorem Ba {o o2:List aG} (hs:Sub o o2):∀(c:List AV) (w:World) (cs:List Value),Rc w (lV w) (zP o2 c) cs []->Rc w (lV w) (zP o c) cs []
 |[],_,_,h=>h
 |x::xs,w,[],h=>by simp [zP,Rc] at h
 |x::xs,w,c::cs,h=>by
  simp only [zP,Rc] at h⊢
  obtain ⟨f1,f2,h1,h2,e⟩:=h
  obtain ⟨rfl,rfl⟩:f1=[]/\f2=[]:=by simpa using e
  refine ⟨[],[],?_,Ba hs xs w cs h2,rfl⟩
  by_cases hn:arg o x= .undef
  ·rw [hn];simp [R]
  ·exact aB7 hs x hn w c h1
end
theorem Sv {o:List aG}:∀{a2 a:List AV},wk a2 a->wk (zP o a2) (zP o a)
 |[],[],_=>trivial
 |[],_::_,h=>h.elim
 |_::_,[],h=>h.elim
 |x::xs,y::ys,h=>by
  refine ⟨?_,Sv h.2⟩
  rcases h.1 with rfl|rfl
  ·exact .inl rfl
  ·exact .inr rfl
theorem Zw {t t2:List AV} {o o2:List aG} (hw:wk t2 t) (l:List Operand) (cap:List AV):wk (l.map (AS.ev ⟨t2,o2⟩)++cap) (l.map (AS.ev ⟨t,o⟩)++cap):=by
 induction l with
 |nil=>
  simp only [map_nil,nil_append]
  induction cap with
  |nil=>trivial
  |cons x xs ih=>exact ⟨.inl rfl,ih⟩
 |cons x xs ih=>exact ⟨QI hw x,ih⟩
theorem Ok.mono {P:Program} [aD P] {f:FuncId} {a a2:List AV} {r:AV} (h:Ok P f a r) (hs:∀w vs,Rc w (lV w) a2 vs []->Rc w (lV w) a vs []):Ok P f a2 r:=
 fun w vs hg hr=>h w vs hg (hs w vs hr)
theorem UG:∀(q k k':Nat) (x:AV),(bW q k x).2=[]->bW q k' x=bW q k x:=by
 intro q k k' x h
 exact (go q k k').1 x h
where
 go (q k k':Nat):(∀x:AV,(bW q k x).2=[]->bW q k' x=bW q k x)/\(∀c:List AV,(dX q k c).2=[]->dX q k' c=dX q k c):=
  ⟨fun x=>one x,fun c=>all c⟩
 one {q k k':Nat}:∀x:AV,(bW q k x).2=[]->bW q k' x=bW q k x
  | .sl .own n l,h=>by simp [bW] at h
  | .agg c,h=>by simp only [bW] at h⊢;rw [all c h]
  | .gV c,h=>by simp only [bW] at h⊢;rw [all c h]
  | .sl .view _ _,_=>rfl
  | .sl (.iQ _) _ _,_=>rfl
  | .int _ _,_=>rfl
  | .bool _,_=>rfl
  | .str _,_=>rfl
  | .eH _ _ _,_=>rfl
  | .obj _ _,_=>rfl
  | .ptr _ _ _ _,_=>rfl
  | .fn _ _,_=>rfl
  | .undef,_=>rfl
 all {q k k':Nat}:∀c:List AV,(dX q k c).2=[]->dX q k' c=dX q k c
  |[],_=>rfl
  |x::xs,h=>by
   simp only [dX,append_eq_nil_iff] at h⊢
   have h1:=one (k':=k') x h.1
   rw [h1]
   have h2:(bW q k x).2.length=0:=by rw [h.1];rfl
   rw [h2] at h⊢
   have h3:=all (k:=k+0) (k':=k'+0) xs h.2
   rw [h3]
theorem BG {t2 t:List AV} {o o2:List aG} (hw:wk t2 t) {d n:Nat} {x:Option Operand} (h:AS.bound ⟨t,o⟩ d x=some n):AS.bound ⟨t2,o2⟩ d x=some n:=by
 cases x with
 |none=>exact h
 |some x=>
  simp only [AS.bound] at h⊢
  split at h
  ·rename_i hx
   rw [DU (o2:=o2) hw hx (by simp)];exact h
  ·cases h
theorem UH {P:Program} [aD P] {op:Oper} {t t2:List AV} {o o2:List aG} {K:AS->Prop} (q:lY op.op ⟨t,o⟩=true) (hw:wk t2 t) (h:nZ P op ⟨t,o⟩ K) (hs:Sub o o2) (xA:o2.length=o.length\/∀s',K s'->s'.o.length=o.length):
  ∃x new x2,K ⟨pY t op.dst x,o++new⟩/\(x=x2\/x= .undef)/\(o2.length=o.length\/new=[])/\∀K2:AS->Prop,K2 ⟨pY t2 op.dst x2,o2++new⟩->nZ P op ⟨t2,o2⟩ K2:=by
 have same:∀{x:AV},K (AS.put ⟨t,o⟩ op.dst x)->(∀K2:AS->Prop,K2 (AS.put ⟨t2,o2⟩ op.dst x)->nZ P op ⟨t2,o2⟩ K2)->
   ∃x new x2,K ⟨pY t op.dst x,o++new⟩/\(x=x2\/x= .undef)/\(o2.length=o.length\/new=[])/\∀K2:AS->Prop,K2 ⟨pY t2 op.dst x2,o2++new⟩->nZ P op ⟨t2,o2⟩ K2:=by
  intro x h1 h2
  refine ⟨x,[],x,by rw [append_nil,<-put_eq];exact h1,.inl rfl,.inr rfl,fun K2 hK=>h2 K2 ?_⟩
  rw [put_eq];rw [append_nil] at hK;exact hK
 obtain ⟨dst,op,ty,pos,after,gd⟩:=op
 have E:∀{x:Operand} {y:AV},AS.ev ⟨t,o⟩ x=y->y≠ .undef->AS.ev ⟨t2,o2⟩ x=y:=fun h hy=>DU hw h hy
 unfold nZ at h
 dsimp only at h q same⊢
 split at h
 case h_1=>
  rename_i X
  refine ⟨_,[],AS.ev ⟨t2,o2⟩ X,by rw [put_eq] at h;rw [append_nil];exact h,QI hw X,.inr rfl,fun K2 hK=> ?_⟩
  unfold nZ;dsimp only;rw [put_eq];rw [append_nil] at hK;exact hK
 case h_2=>
  rename_i X
  refine ⟨_,[],AS.ev ⟨t2,o2⟩ X,by rw [put_eq] at h;rw [append_nil];exact h,QI hw X,.inr rfl,fun K2 hK=> ?_⟩
  unfold nZ;dsimp only;rw [put_eq];rw [append_nil] at hK;exact hK
 case h_3=>
  split at h
  ·rename_i b hc
   rename_i X Y _
   refine ⟨if b then AS.ev ⟨t,o⟩ X else AS.ev ⟨t,o⟩ Y,[],if b then AS.ev ⟨t2,o2⟩ X else AS.ev ⟨t2,o2⟩ Y,by rw [put_eq] at h;rw [append_nil];exact h,?_,.inr rfl,fun K2 hK=> ?_⟩
   ·cases b
    ·exact QI hw Y
    ·exact QI hw X
   ·unfold nZ;dsimp only;rw [E hc (by simp)];dsimp only;rw [put_eq];rw [append_nil] at hK;exact hK
  ·exact h.elim
 case h_4=>
  split at h
  ·rename_i z hz
   rcases xA with hlen|xA
   ·refine ⟨.ptr o.length 0 0 0,[⟨true,true,z.length,0,[z]⟩],.ptr o.length 0 0 0,by rw [IQ] at h;exact h,.inl rfl,.inl hlen,fun K2 hK=> ?_⟩
    unfold nZ;dsimp only;rw [hz];dsimp only;rw [IQ,hlen];exact hK
   ·have:=xA _ h
    rw [IQ] at this;simp at this
  ·exact h.elim
 case h_5=>
  rename_i X
  obtain ⟨h1,h2⟩:=h
  have hX:=E (x:=X) rfl (XH h1)
  rcases xA with hlen|xA
  ·refine ⟨.ptr o.length 0 0 0,[⟨true,true,(AS.ev ⟨t,o⟩ X).cells.length,0,[(AS.ev ⟨t,o⟩ X).cells]⟩],.ptr o.length 0 0 0,by rw [IQ] at h2;exact h2,.inl rfl,.inl hlen,fun K2 hK=> ?_⟩
   unfold nZ;dsimp only;rw [hX];refine ⟨vT hs h1,?_⟩;rw [IQ,hlen];exact hK
  ·have:=xA _ h2
   rw [IQ] at this;simp at this
 case h_6=>
  rename_i T parts
  split at h
  ·rename_i pl hp
   split at h
   ·rename_i z0 hz
    obtain ⟨h1,h⟩:=h
    split at h
    ·rename_i z hf
     have wY:(parts.toList.map fun p=>(p.1,AS.ev ⟨t2,o2⟩ p.2))=parts.toList.map fun p=>(p.1,AS.ev ⟨t,o⟩ p.2):=
      map_congr_left fun p hp=>by rw [E (x:=p.2) rfl (XH (h1 p hp))]
     refine same h fun K2 hK=> ?_
     unfold nZ;dsimp only;rw [hp];dsimp only;rw [hz];dsimp only
     refine ⟨fun p hp=>by rw [E (x:=p.2) rfl (XH (h1 p hp))];exact vT hs (h1 p hp),?_⟩
     rw [wY,hf];exact hK
    ·exact h.elim
   ·exact h.elim
  ·exact h.elim
 case h_7=>
  rename_i T len parts
  split at h
  ·rename_i e n by' he
   obtain ⟨k1,k2,k3,k4,k5,k6,k7,k8,h⟩:=h
   have hu:iR ((parts.toList.map (·.2)).map (AS.ev ⟨t,o⟩))=[]:=by simpa [lY] using q
   have hL:(parts.toList.map (·.2)).map (AS.ev ⟨t2,o2⟩)=(parts.toList.map (·.2)).map (AS.ev ⟨t,o⟩):=
    map_congr_left fun x hx=>E rfl (Zv (fun y hy=>(k8 y hy).1) _ (mem_map.2 ⟨x,hx,rfl⟩))
   have yz:∀os:List aG,CJ [] os=os:=fun _=>rfl
   rcases xA with hlen|xA
   ·refine ⟨.obj o.length 1,[⟨true,false,n,1,(qQ o ((parts.toList.map (·.2)).map (AS.ev ⟨t,o⟩))).map AV.cells⟩],.obj o.length 1,?_,.inl rfl,.inl hlen,fun K2 hK=> ?_⟩
    ·unfold AS.built at h
     rw [hu,yz,put_eq] at h
     simpa using h
    ·unfold nZ;dsimp only;rw [he];dsimp only
     refine ⟨k1,k2,k3,k4,k5,?_⟩
     rw [hL]
     have za:=DR (o:=o) (o':=o2) _ hu
     refine ⟨by rw [<-za.2];exact k6,k7,by rw [<-za.1];exact k8,?_⟩
     unfold AS.built
     dsimp only
     rw [hL,hu,yz,put_eq,hlen,<-za.1]
     simpa [hlen] using hK
   ·have:=xA _ h
    unfold AS.built at this
    rw [hu,yz,put_eq] at this;simp at this
  ·exact h.elim
 case h_8=>
  rename_i T X
  split at h
  ·rename_i hx
   split at h
   ·rename_i ob e ha
    unfold xI at h
    split at h
    ·rename_i n hn
     refine same h.2 fun K2 hK=> ?_
     unfold nZ;dsimp only;rw [E hx (by simp)];dsimp only;rw [yx hs ha];dsimp only;unfold xI;rw [hn];exact ⟨h.1,hK⟩
    ·rename_i hn
     obtain ⟨h1,h⟩:=h
     split at h
     ·rename_i y hy
      refine same h fun K2 hK=> ?_
      unfold nZ;dsimp only;rw [E hx (by simp)];dsimp only;rw [yx hs ha];dsimp only;unfold xI;rw [hn];dsimp only;rw [hy];exact ⟨h1,hK⟩
     ·exact h.elim
   ·exact h.elim
  ·rename_i hx
   obtain ⟨hf,h⟩:=h
   unfold xI at h
   split at h
   ·rename_i n hn
    refine same h.2 fun K2 hK=> ?_
    unfold nZ;dsimp only;rw [E hx (by simp)];dsimp only;unfold xI;rw [hn];exact ⟨vT hs hf,h.1,hK⟩
   ·rename_i hn
    obtain ⟨h1,h⟩:=h
    split at h
    ·rename_i y hy
     refine same h fun K2 hK=> ?_
     unfold nZ;dsimp only;rw [E hx (by simp)];dsimp only;unfold xI;rw [hn];dsimp only;rw [hy];exact ⟨vT hs hf,h1,hK⟩
    ·exact h.elim
  ·exact h.elim
 case h_9=>cases q
 case h_10=>
  split at h
  ·rename_i fo hf
   split at h
   ·rename_i hx
    refine same h.2 fun K2 hK=> ?_
    unfold nZ;dsimp only;rw [hf];dsimp only;rw [E hx (by simp)];exact ⟨yN hs h.1,hK⟩
   ·rename_i hx
    refine same h.2 fun K2 hK=> ?_
    unfold nZ;dsimp only;rw [hf];dsimp only;rw [E hx (by simp)];exact ⟨vT hs h.1,hK⟩
   ·exact h.elim
  ·exact h.elim
 case h_11=>
  split at h
  ·rename_i hi
   obtain ⟨h0,h⟩:=h
   split at h
   ·rename_i hx
    split at h
    ·rename_i ob ho
     split at h
     ·rename_i he
      refine same h.2.2.2 fun K2 hK=> ?_
      unfold nZ;dsimp only;rw [E hi (by simp)];dsimp only;rw [E hx (by simp)];dsimp only;rw [vE hs ho];dsimp only;rw [he];exact ⟨h0,h.1,h.2.1,h.2.2.1,hK⟩
     ·exact h.elim
    ·exact h.elim
   ·rename_i hx
    obtain ⟨hf,h⟩:=h
    split at h
    ·rename_i he
     obtain ⟨hm,h⟩:=h
     split at h
     ·rename_i hc
      refine same h fun K2 hK=> ?_
      unfold nZ;dsimp only;rw [E hi (by simp)];dsimp only;rw [E hx (by simp)];dsimp only;rw [he];dsimp only;rw [hc];exact ⟨h0,vT hs hf,hm,hK⟩
     ·exact h.elim
    ·exact h.elim
   ·rename_i hx
    obtain ⟨hso,h⟩:=h
    split at h
    ·rename_i ha
     refine same h.2 fun K2 hK=> ?_
     unfold nZ;dsimp only;rw [E hi (by simp)];dsimp only;rw [E hx (by simp)];dsimp only;rw [ha];exact ⟨h0,yN hs hso,h.1,hK⟩
    ·exact h.elim
   ·exact h.elim
  ·exact h.elim
 case h_12=>
  split at h
  ·rename_i hx
   split at h
   ·rename_i hi
    obtain ⟨ht,h0,h⟩:=h
    split at h
    ·rename_i hu
     refine same h fun K2 hK=> ?_
     unfold nZ;dsimp only;rw [E hx (by simp)];dsimp only;rw [E hi (by simp)];dsimp only;rw [hu];exact ⟨ht,h0,hK⟩
    ·exact h.elim
   ·exact h.elim
  ·exact h.elim
 case h_13=>
  split at h
  ·rename_i hx
   split at h
   ·rename_i hy
    refine same h fun K2 hK=> ?_
    unfold nZ;dsimp only;rw [E hx (by simp)];dsimp only;rw [hy];exact hK
   ·exact h.elim
  ·exact h.elim
 case h_14=>cases q
 case h_15=>cases q
 case h_16=>
  split at h
  ·rename_i hx
   split at h
   ·rename_i ha
    split at h
    ·rename_i hb
     obtain ⟨h1,h2,h3,h⟩:=h
     refine same h fun K2 hK=> ?_
     unfold nZ;dsimp only;rw [E hx (by simp)];dsimp only;rw [BG hw ha];dsimp only;rw [BG hw hb];exact ⟨h1,h2,h3,hK⟩
    ·exact h.elim
   ·exact h.elim
  ·rename_i hx
   split at h
   ·rename_i ha
    split at h
    ·rename_i hb
     split at h
     ·rename_i he
      obtain ⟨h1,h2,h3,h4,h⟩:=h
      refine same h fun K2 hK=> ?_
      unfold nZ;dsimp only;rw [E hx (by simp)];dsimp only;rw [BG hw ha];dsimp only;rw [BG hw hb];dsimp only;rw [he];exact ⟨h1,vT hs h2,h3,h4,hK⟩
     ·exact h.elim
    ·exact h.elim
   ·exact h.elim
  ·rename_i hx
   simp only [lY,hx] at q
   cases q
  ·exact h.elim
 case h_17=>
  split at h
  ·rename_i hx
   refine same h fun K2 hK=> ?_
   unfold nZ;dsimp only;rw [E hx (by simp)];exact hK
  ·exact h.elim
 case h_18=>
  split at h
  ·rename_i hx
   refine same h fun K2 hK=> ?_
   unfold nZ;dsimp only;rw [E hx (by simp)];exact hK
  ·exact h.elim
 case h_19=>
  split at h
  ·rename_i hx
   split at h
   ·rename_i hy
    obtain ⟨hk,h⟩:=h
    split at h
    ·rename_i hz
     refine same h fun K2 hK=> ?_
     unfold nZ;dsimp only;rw [E hx (by simp)];dsimp only;rw [E hy (by simp)];dsimp only;rw [hz];exact ⟨hk,hK⟩
    ·exact h.elim
   ·exact h.elim
  ·rename_i hx
   split at h
   ·rename_i hy
    obtain ⟨hk,h⟩:=h
    split at h
    ·rename_i hz
     refine same h fun K2 hK=> ?_
     unfold nZ;dsimp only;rw [E hx (by simp)];dsimp only;rw [E hy (by simp)];dsimp only;rw [hz];exact ⟨hk,hK⟩
    ·exact h.elim
   ·exact h.elim
  ·rename_i hx
   split at h
   ·rename_i hy
    refine same h.2.2 fun K2 hK=> ?_
    unfold nZ;dsimp only;rw [E hx (by simp)];dsimp only;rw [E hy (by simp)];exact ⟨h.1,h.2.1,hK⟩
   ·exact h.elim
  ·rename_i hx
   split at h
   ·rename_i hy
    obtain ⟨h1,h2,h3,b,h4,h5⟩:=h
    refine same h5 fun K2 hK=> ?_
    unfold nZ;dsimp only;rw [E hx (by simp)];dsimp only;rw [E hy (by simp)];exact ⟨h1,h2,h3,b,h4,hK⟩
   ·exact h.elim
  ·exact h.elim
 case h_20=>
  split at h
  ·rename_i hx
   split at h
   ·rename_i hk
    refine same h.2 fun K2 hK=> ?_
    unfold nZ;dsimp only;rw [E hx (by simp)];dsimp only;rw [hk];exact ⟨h.1,hK⟩
   ·exact h.elim
  ·rename_i hx
   refine same h.2.2 fun K2 hK=> ?_
   unfold nZ;dsimp only;rw [E hx (by simp)];exact ⟨h.1,h.2.1,hK⟩
  ·rename_i hx
   split at h
   ·rename_i he
    obtain ⟨h1,h2,h3,h4,h5,bs,h6,h7⟩:=h
    refine same h7 fun K2 hK=> ?_
    unfold nZ;dsimp only;rw [E hx (by simp)];dsimp only;rw [he];exact ⟨h1,h2,vT hs h3,h4,h5,bs,h6,hK⟩
   ·exact h.elim
  ·rename_i hx
   split at h
   ·rename_i ho
    split at h
    ·rename_i he
     obtain ⟨h1,h2,h3,h4,bs,h6,h7⟩:=h
     refine same h7 fun K2 hK=> ?_
     unfold nZ;dsimp only;rw [E hx (by simp)];dsimp only;rw [vE hs ho];dsimp only;rw [he];exact ⟨h1,h2,h3,h4,bs,h6,hK⟩
    ·exact h.elim
   ·exact h.elim
  ·exact h.elim
 case h_21=>
  split at h
  ·rename_i hx
   refine same h.2 fun K2 hK=> ?_
   unfold nZ;dsimp only;rw [E hx (by simp)];exact ⟨h.1,hK⟩
  ·rename_i hx
   refine same h.2.2 fun K2 hK=> ?_
   unfold nZ;dsimp only;rw [E hx (by simp)];exact ⟨vT hs h.1,h.2.1,hK⟩
  ·rename_i hx
   split at h
   ·rename_i ho
    refine same h.2 fun K2 hK=> ?_
    unfold nZ;dsimp only;rw [E hx (by simp)];dsimp only;rw [vE hs ho];exact ⟨h.1,hK⟩
   ·exact h.elim
  ·exact h.elim
 case h_22=>
  rename_i X Y tS xT
  simp only [lY,Bool.and_eq_true] at q
  obtain ⟨qx,qy⟩:=q
  split at h
  ·rename_i e n by' he
   obtain ⟨k1,k2,h⟩:=h
   split at qx
   ·rename_i m hx
    have hx2:=E hx (by simp)
    rw [hx] at h
    simp only [AS.target] at h
    have aGe:∀(y:AV),AS.ev ⟨t,o⟩ Y=y->y≠ .undef->(match y with| .sl .own _ []=>true| .sl .view _ _=>true| .str _=>true|_=>false)=true->∀l2 o',AS.source ⟨t,o++[⟨true,false,n,0,[]⟩]⟩ o.length n y=some (l2,o')->
      o'=o++[⟨true,false,n,0,[]⟩]/\AS.source ⟨t2,o2++[⟨true,false,n,0,[]⟩]⟩ o2.length n (AS.ev ⟨t2,o2⟩ Y)=some (l2,o2++[⟨true,false,n,0,[]⟩]):=by
     intro y hy hne hk l2 o' UI
     rw [E hy hne]
     split at hk
     ·simp only [AS.source,Option.some.injEq,Prod.mk.injEq] at UI⊢;exact ⟨UI.2.symm,UI.1,trivial⟩
     ·simp only [AS.source] at UI⊢
      split at UI
      ·rename_i hm
       simp only [Option.some.injEq,Prod.mk.injEq] at UI
       rw [if_pos hm]
       exact ⟨UI.2.symm,by rw [UI.1]⟩
      ·cases UI
     ·simp only [AS.source] at UI⊢
      split at UI
      ·rename_i hm
       simp only [Option.some.injEq,Prod.mk.injEq] at UI
       rw [if_pos hm]
       exact ⟨UI.2.symm,by rw [UI.1]⟩
      ·cases UI
     ·cases hk
    split at h
    ·rename_i l2 o' UI
     obtain ⟨h1,h2,h⟩:=h
     obtain ⟨rfl,hs2⟩:=aGe _ rfl (by rintro hu;rw [hu] at qy;simp at qy) qy _ _ UI
     have e1:(o++[(⟨true,false,n,0,[]⟩:aG)]).set o.length ⟨true,false,n,0+1,[]++l2⟩=o++[⟨true,false,n,0+1,[]++l2⟩]:=by
      rw [set_append_right _ _ (Nat.le_refl _)];simp
     have e2:(o2++[(⟨true,false,n,0,[]⟩:aG)]).set o2.length ⟨true,false,n,0+1,[]++l2⟩=o2++[⟨true,false,n,0+1,[]++l2⟩]:=by
      rw [set_append_right _ _ (Nat.le_refl _)];simp
     unfold AS.wF at h
     dsimp only at h
     rw [e1,put_eq] at h
     rcases xA with hlen|xA
     ·refine ⟨.obj o.length (0+1),[⟨true,false,n,0+1,[]++l2⟩],.obj o.length (0+1),h,.inl rfl,.inl hlen,fun K2 hK=> ?_⟩
      unfold nZ;dsimp only;rw [he];dsimp only
      refine ⟨k1,k2,?_⟩
      rw [hx2]
      simp only [AS.target]
      rw [hs2]
      dsimp only
      refine ⟨h1,h2,?_⟩
      unfold AS.wF
      dsimp only
      rw [e2,put_eq,hlen]
      exact hK
     ·have:=xA _ h
      simp at this
    ·exact h.elim
   ·cases qx
  ·exact h.elim
 case h_23=>
  rename_i F args qc
  split at h
  ·rename_i g cap hf
   split at h
   ·rename_i h1
    obtain ⟨r,h2,h3⟩:=h
    have uX:Ok P g (zP o2 (AS.args ⟨t2,o2⟩ args++cap)) r:=h2.mono fun w vs hr=>
     CR (Sv (Zw (o:=o) (o2:=o2) hw args.toList cap)) (Ba hs _ w vs hr)
    rcases xA with hlen|xA
    ·refine ⟨(bW 1 o.length r).1,(bW 1 o.length r).2,(bW 1 o.length r).1,by rw [DT] at h3;exact h3,.inl rfl,.inl hlen,fun K2 hK=> ?_⟩
     unfold nZ;dsimp only;rw [E hf (by simp)];dsimp only;rw [if_pos h1];refine ⟨r,uX,?_⟩;rw [DT,hlen];exact hK
    ·have hn:=xA _ h3
     simp only [DT,length_append] at hn
     have bz:(bW 1 o.length r).2=[]:=eq_nil_of_length_eq_zero (by omega)
     have ha:=UG 1 o.length o2.length r bz
     refine ⟨(bW 1 o.length r).1,[],(bW 1 o.length r).1,?_,.inl rfl,.inr rfl,fun K2 hK=> ?_⟩
     ·rw [DT,bz] at h3;exact h3
     ·unfold nZ;dsimp only;rw [E hf (by simp)];dsimp only;rw [if_pos h1]
      refine ⟨r,uX,?_⟩
      unfold AS.called;rw [ha,bz,put_eq];simpa using hK
   ·rename_i h1
    obtain ⟨r,h2,h3⟩:=h
    refine same h3 fun K2 hK=> ?_
    unfold nZ;dsimp only;rw [E hf (by simp)];dsimp only;rw [if_neg h1]
    exact ⟨r,fun w vs hr=>h2 w vs (CR (Sv (Zw (o:=o) (o2:=o2) hw args.toList cap)) (Ba hs _ w vs hr)),hK⟩
  ·exact h.elim
 case h_24=>
  split at h
  ·rename_i hx
   refine same h.2 fun K2 hK=> ?_
   unfold nZ;dsimp only;rw [E hx (by simp)];exact ⟨yN hs h.1,hK⟩
  ·rename_i hx
   refine same h.2 fun K2 hK=> ?_
   unfold nZ;dsimp only;rw [E hx (by simp)];exact ⟨vT hs h.1,hK⟩
  ·exact h.elim
 case h_25=>exact h.elim
end Go.Aw
