/- Proved here: steps towards the statement of this claim. No condition. -/
import Derived.Test.YtjmpjmilndkgfaaGreatDoorZF9
set_option linter.all false
namespace Go.Aw
open List
def mK (s s':AS):Prop:=∀⦃P:Program⦄ [aC P] (B:gN P) a w,Rel B s a w->Rel B s' a w
def CU (K:AS->Prop) (Q:Exit->AS->Prop):Exit->AS->Prop
 | .normal,s=>K s
 |e,s=>Q e s
def C9 (id:Nat) (Q:Exit->AS->Prop):Exit->AS->Prop
 | .exit id',s=>if id'=id then Q .normal s else Q (.exit id') s
 |e,s=>Q e s
def lift {P:Program} [aC P] (B:gN P) (Q:Exit->AS->Prop):Exit->Act->World->Prop:=λe a w=>∃s,Q e s/\Rel B s a w
def Ye (want:Bool):AV->AV
 | .iJ []=> .bool (!want)
 |x=>x
@[simp] theorem aJ8 (w b:Bool):Ye w (.bool b)= .bool b:=rfl
@[simp] theorem aMf (w:Bool):Ye w (.iJ [])= .bool (!w):=rfl
theorem aBe {w b:Bool} {x:AV} (h:Ye w x= .bool b):(x= .iJ []/\b= !w)\/x= .bool b:=by
 unfold Ye at h;split at h
 .exact .inl ⟨rfl,(AV.bool.inj h).symm⟩
 .exact .inr h
theorem ig (w:World) (E:Env):R w E (.iJ []) undef []:=by simp only [R];exact ⟨[],rfl,by simp [Rc]⟩
def qO (all:List Oper) (s:AS) (j:Nat) (want:Bool):AV:=match all[j]? with
 |some o=>match o.dst with
  |some d=>Ye want (s.t.getD d .undef)
  |none=> .undef
 |none=> .undef
def Ju (P:Program) [aC P] (o:Oper) (s:AS) (K:AS->Prop):Prop:=
 match o.op with
 | .call ⟨.value f,⟨x::ys⟩,_⟩=>match s.ev f with
  | .fn g []=>aY P g=true/\(ys.all λy=>(s.ev y).PM)=true/\jM s.o (s.ev x)=true/\(lU (s.ev x)).Nodup/\∃x' r,ek P g (res s.o (s.ev x)) x' (ys.map s.ev) r/\(r.iE=true\/r= .iJ [])/\mt s.o (s.ev x) x'=true/\K (s.OA o.dst (s.ev x) x' r)
  |_=>False
 | .convert src d x=>match s.ev x with
  | .str l=>match iC P d with
   |some (e,m,_)=>isString P src=true/\m=1/\intType P e=some .u8/\l.length<=9223372036854775807/\K (s.made o.dst 1 (dP l))
   |none=>False
  |_=>False
 |_=>False
theorem Yf {P:Program} [aC P] {B:gN P} {o:Oper} {s:AS} {K:AS->Prop} (h:Ju P o s K):∃s',K s'/\Step P B o s s':=by
 obtain ⟨dst,op,ty,pos,after,gd⟩:=o;unfold Ju at h;dsimp only at h;split at h
 .split at h
  .rename_i hf;obtain ⟨h1,h2,h3,h4,x',r,h5,h6,h7,h8⟩:=h;exact ⟨_,h8,aA3 _ _ _ _ hf h1 h2 h6 h3 h4 h7 h5⟩
  .exact h.elim
 .split at h
  .rename_i hx;split at h
   .rename_i he;obtain ⟨h1,rfl,h2,h3,h4⟩:=h;exact ⟨_,h4,ib _ _ _ hx h1 he h2 h3⟩
   .exact h.elim
  .exact h.elim
 .exact h.elim
def Yg (P:Program) [aC P] (o:Oper) (s:AS) (K:AS->Prop):Prop:=
 match o.op with
 | .call ⟨.value f,args,_⟩=>match s.ev f with
  | .fn g []=>aY P g=true/\∃gs r,Lf P g gs r/\(uS s.o (s.args args) gs).Nodup/\handed s.o (uS s.o (s.args args) gs) (s.args args) gs/\K (s.given o.dst (s.args args) gs r)
  |_=>False
 |_=>False
theorem ik {P:Program} [aC P] {B:gN P} {o:Oper} {s:AS} {K:AS->Prop} (h:Yg P o s K):∃s',K s'/\Step P B o s s':=by
 obtain ⟨dst,op,ty,pos,after,gd⟩:=o;unfold Yg at h;dsimp only at h;split at h
 .split at h
  .rename_i hf;obtain ⟨h1,gs,r,h2,h3,h4,h5⟩:=h;exact ⟨_,h5,A9 _ _ _ hf h1 h3 h4 h2⟩
  .exact h.elim
 .exact h.elim
theorem mK.refl (s:AS):mK s s:=λ_ _ _ _ _ h=>h
theorem mK.trans {a b c:AS} (h:mK a b) (k:mK b c):mK a c:=λ_ _ B x w r=>k B x w (h B x w r)
def Ih (P:Program) [aC P] (o:Oper) (s:AS) (K:AS->Prop):Prop:=∃s1,mK s s1/\(qJ P o s1 K\/Ju P o s1 K\/Yg P o s1 K)
theorem PS {P:Program} [aC P] {B:gN P} {o:Oper} {s:AS} {K:AS->Prop} (h:Ih P o s K):∃s',K s'/\Step P B o s s':=by
 obtain ⟨s1,hw,h⟩:=h;obtain ⟨s',hK,hst⟩:∃s',K s'/\Step P B o s1 s':=by
  rcases h with h|h|h
  .exact AP h
  .exact Yf h
  .exact ik h
 exact ⟨s',hK,λa w next Q hr hn=>hst a w next Q (hw B a w hr) hn⟩
theorem aBf {P:Program} [aC P] {o:Oper} {s:AS} {K:AS->Prop} (h:Ju P o s K):Ih P o s K:=⟨s,mK.refl s,.inr (.inl h)⟩
theorem aJ9 {P:Program} [aC P] {o:Oper} {s:AS} {K:AS->Prop} (h:Yg P o s K):Ih P o s K:=⟨s,mK.refl s,.inr (.inr h)⟩
theorem aKa {P:Program} [aC P] {o:Oper} {s:AS} {K:AS->Prop} (h:aJ5 P o s K):Ih P o s K:=by
 unfold aJ5 at h;split at h
 .split at h
  .split at h
   .rename_i ob uX;exact ⟨_,λ_ _ B a w hr=>aGc uX h.1 hr,.inl h.2⟩
   .exact h.elim
  .exact h.elim
 .exact h.elim
def GH (P:Program) [aC P] (o:Oper) (s:AS) (K:AS->Prop):Prop:=∃s1,mK s s1/\aGd P o s1 K
theorem MK {P:Program} [aC P] {B:gN P} {o:Oper} {s:AS} {K:AS->Prop} (h:GH P o s K) (a:Act) (w:World) (next:Act->World->Prop) (X:Exit->Act->World->Prop) (hr:Rel B s a w)
  (hn:∀a' w' s',K s'->Rel B s' a' w'->next a' w'):o.wp P a w next X:=by
 obtain ⟨s1,hw,h⟩:=h;exact ic h a w next X (hw B a w hr) hn
def kV (P:Program) [aC P] (all:List Oper):List Oper->AS->(AS->Prop)->Prop
 |[],s,K=>K s
 |o::r,s,K=>match o.guard with
  |none=>(qJ P o s λs'=>kV P all r s' K)\/(Ih P o s λs'=>kV P all r s' K)\/(GH P o s λs'=>kV P all r s' K)
  |some (j,want)=>match qO all s j want with
   | .bool b=>(b=want->(qJ P o s λs'=>kV P all r s' K)\/(Ih P o s λs'=>kV P all r s' K)\/(GH P o s λs'=>kV P all r s' K))/\(b≠want->kV P all r (s.put o.dst (.iJ [])) K)
   |_=>False
def il (P:Program) [aC P] (ops:Array Oper) (s:AS) (K:AS->Prop):Prop:=
 ∀(B:gN P) a w (Q:Exit->Act->World->Prop),Rel B s a w->(∀a' w' s',K s'->Rel B s' a' w'->Q .normal a' w')->
  wpAny P .any ops Q ops.size (Array.replicate ops.size false) a {w with drawn:=w.drawn+1}
def tF (P:Program) [aC P]:Code->AS->(Exit->AS->Prop)->Prop
 | .skip,s,Q=>Q .normal s
 | .region _ ops false,s,Q=>∃s2,mK s s2/\kV P ops.toList ops.toList s2 (Q .normal)
 | .region _ ops true,s,Q=>il P ops s (Q .normal)
 | .seq x y,s,Q=>tF P x s (CU (λs'=>tF P y s' Q) Q)
 | .cond c x y,s,Q=>match s.ev c with
  | .bool b=>(b=true->tF P x s Q)/\(b=false->tF P y s Q)
  |_=>False
 | .block id c,s,Q=>tF P c s (C9 id Q)
 | .loop c,s,Q=>∃(ι:Type) (inv:ι->AS) (μ:ι->Nat) (i:ι),mK s (inv i)/\∀i,tF P c (inv i) (CU (λs'=>∃j,mK s' (inv j)/\μ j < μ i) Q)
 | .exit id,s,Q=>Q (.exit id) s
 | .ret,s,Q=>Q .ret s
 |_,_,_=>False
theorem PT {P:Program} [aC P] {B:gN P} {s:AS} {G:List CO} {a:Act} {w:World} (r:eP B s G a w) {all:List Oper} {j:Nat} {b want:Bool} (h:qO all s j want= .bool b):(yielded all.toArray a.tmps j == some want)=(b == want):=by
 unfold qO at h;split at h
 .rename_i o ho;split at h
  .rename_i d hd;have h1:=r.ev (.tmp d);simp only [AS.ev] at h1;rcases aBe h with ⟨h0,rfl⟩|h0
   .rw [h0] at h1;simp only [R] at h1;obtain ⟨cs,h2,h3⟩:=h1;cases cs with
    |cons=>simp [Rc] at h3
    |nil=>
     simp only [Act.eval] at h2;rw [fW] at h2;cases hg:a.tmps[d]? with
     |none=>simp [yielded,ho,hd,hg]
     |some v=>simp [hg] at h2;subst h2;simp [yielded,ho,hd,hg]
   .rw [h0] at h1;simp only [R] at h1;have h2:=h1.1;simp only [Act.eval] at h2;rw [fW] at h2;cases hg:a.tmps[d]? with
    |none=>simp [hg] at h2;cases h2
    |some v=>simp [hg] at h2;subst h2;simp [yielded,ho,hd,hg]
  .cases h
 .cases h
theorem DJ {P:Program} [aC P] {B:gN P} {all:List Oper} {Q:Exit->Act->World->Prop}:∀(l:List Oper) (s:AS) (K:AS->Prop),kV P all l s K->∀a w,Rel B s a w->(∀a' w' s',K s'->Rel B s' a' w'->Q .normal a' w')->wpList P all.toArray Q l a w
 |[],s,K,h,a,w,r,hk=>hk _ _ _ h r
 |o::l,s,K,h,a,w,r,hk=>by
  simp only [kV] at h;have stepped:((qJ P o s λs'=>kV P all l s' K)\/(Ih P o s λs'=>kV P all l s' K)\/(GH P o s λs'=>kV P all l s' K))->Region.wanted o (yielded all.toArray a.tmps)=true->wpList P all.toArray Q (o::l) a w:=by
   intro h hw;simp only [wpList,hw,gE];by_cases hcu:GH P o s λs'=>kV P all l s' K
   .exact .inl (MK hcu a w _ Q r λa' w' s' h' r'=>DJ l s' K h' a' w' r' hk)
   obtain ⟨s',h',hst⟩:∃s',kV P all l s' K/\Step P B o s s':=by
    rcases h with h|h|h
    .exact AP (B:=B) h
    .exact PS (B:=B) h
    .exact (hcu h).elim
   exact .inl (hst a w _ Q r λa' w' r'=>DJ l s' K h' a' w' r' hk)
  split at h
  .rename_i hg;exact stepped h (by simp [Region.wanted,hg])
  .rename_i j want hg;split at h
   .rename_i b hb;obtain ⟨G,r'⟩:=r;have hy:=PT r' hb;by_cases hbw:b=want
    .exact stepped (h.1 hbw) (by simp [Region.wanted,hg,hy,hbw])
    .have hw:Region.wanted o (yielded all.toArray a.tmps)=false:=by simp [Region.wanted,hg,hy,hbw]
     simp only [wpList,hw,eS,gS];exact DJ l _ K (h.2 hbw) _ _ ⟨G,r'.put o.dst (ig _ _)⟩ hk
   .exact h.elim
theorem Wu {ι:Type} (p:ι->Prop) (μ:ι->Nat) (h:∃i,p i):∃i,p i/\∀j,p j->μ i<=μ j:=by
 obtain ⟨i,hi⟩:=h;generalize hn:μ i=n;induction n using Nat.strongRecOn generalizing i with
 |_ n ih=>
  by_cases hex:∃j,p j/\μ j < n
  .obtain ⟨j,hj,hlt⟩:=hex;exact ih (μ j) hlt j hj rfl
  .refine ⟨i,hi,λj hj=> ?_⟩
   rw [hn];exact Nat.le_of_not_lt λhlt=>hex ⟨j,hj,hlt⟩
open Classical in
noncomputable def least {ι : Type} (p : ι -> Prop) (μ : ι -> Nat) : Nat := if h : ∃ i, p i then μ (Wu p μ h).choose else 0
theorem least_le {ι:Type} {p:ι->Prop} {μ:ι->Nat} {j:ι} (h:p j):least p μ<=μ j:=by have hex:∃i,p i:=⟨j,h⟩;unfold least;rw [dif_pos hex];exact (Wu p μ hex).choose_spec.2 j h
theorem aBg {ι:Type} {p:ι->Prop} {μ:ι->Nat} (h:∃i,p i):∃i,p i/\least p μ=μ i:=by refine ⟨(Wu p μ h).choose,(Wu p μ h).choose_spec.1,?_⟩;unfold least;rw [dif_pos h]
theorem qP {P:Program} [aC P] (hm:P.follows .mixedOrders=true) {B:gN P}:∀(c:Code) (s:AS) (Q:Exit->AS->Prop),tF P c s Q->∀a w,Rel B s a w->c.wp P (lift B Q) a w
 | .skip,s,Q,h,a,w,r=>wp_skip ⟨s,h,r⟩
 | .region id ops false,s,Q,⟨s2,hw,h⟩,a,w,r=>wp_region_list (by
   have:=DJ (Q:=lift B Q) ops.toList s2 (Q .normal) h a w (hw B a w r) (λa' w' s' h' r'=>⟨s',h',r'⟩);simpa using this)
 | .region id ops true,s,Q,h,a,w,r=>wp_region_any hm (h B a w (lift B Q) r λa' w' s' h' r'=>⟨s',h',r'⟩)
 | .seq x y,s,Q,h,a,w,r=>wp_seq (wp_mono (qP hm x s _ h a w r) λe a' w' he=>by
   obtain ⟨s',h',r'⟩:=he;cases e with
   |normal=>exact qP hm y s' Q h' a' w' r'
   |_=>exact ⟨s',h',r'⟩)
 | .cond c x y,s,Q,h,a,w,r=>by
  simp only [tF] at h;split at h
  .rename_i b hb;obtain ⟨G,r'⟩:=r;exact wp_cond_split (r'.XN hb) (λhb=>qP hm x s Q (h.1 hb) a w ⟨G,r'⟩) (λhb=>qP hm y s Q (h.2 hb) a w ⟨G,r'⟩)
  .exact h.elim
 | .block id c,s,Q,h,a,w,r=>wp_block (wp_mono (qP hm c s _ h a w r) λe a' w' he=>by
   obtain ⟨s',h',r'⟩:=he;cases e with
   |exit id'=>
    simp only [C9] at h';simp only [Exit.inBlock];split at h'
    .rename_i hid;rw [eK hid];exact ⟨s',h',r'⟩
    .rename_i hid;rw [cY hid];exact ⟨s',h',r'⟩
   |_=>exact ⟨s',h',r'⟩)
 | .loop c,s,Q,h,a,w,r=>by
  obtain ⟨ι,inv,μ,i,h0,hr⟩:=h;refine wp_loop (λa w=>∃i,Rel B (inv i) a w) (λa w=>least (λi=>Rel B (inv i) a w) μ) ⟨i,h0 B a w r⟩ λa w hex=> ?_
  obtain ⟨i,hi,aRa⟩:=aBg (μ:=μ) hex;refine wp_mono (qP hm c (inv i) _ (hr i) a w hi) λe a' w' he=> ?_
  obtain ⟨s',h',r'⟩:=he;cases e with
  |normal=>obtain ⟨j,hw,hlt⟩:=h';have hj:=hw B a' w' r';refine ⟨⟨j,hj⟩,?_⟩;rw [aRa];exact Nat.lt_of_le_of_lt (least_le hj) hlt
  |_=>exact ⟨s',h',r'⟩
 | .exit id,s,Q,h,a,w,r=>wp_exit ⟨s,h,r⟩
 | .ret,s,Q,h,a,w,r=>wp_ret ⟨s,h,r⟩
 | .rangeFunc _ _ _ _,_,_,h,_,_,_=>by simp [tF] at h
 | .scope _,_,_,h,_,_,_=>by simp [tF] at h
 | .label _,_,_,h,_,_,_=>by simp [tF] at h
 | .goto _,_,_,h,_,_,_=>by simp [tF] at h
 | .refuse _,_,_,h,_,_,_=>by simp [tF] at h
def AS.rv (P:Program) (s:AS):ResultVar->Option AV
 | .tmp t=>some (s.t.getD t .undef)
 | .cell t ty=>match s.t.getD t .undef with
  | .ptr i bY idx off=>match s.at i bY idx with
   |some (_,e)=>match bQ P ty with
    |some n=>if off+n<=e.length then some (.agg (((xS (Dw i) true e).drop off).take n)) else none
    |none=>if gL P ty then (xS (Dw i) true e)[off]? else none
   |none=>none
  |_=>none
def Ev (a:Act):ResultVar->Sem Value
 | .tmp t=>pure (a.tmps.getD t Go.undef)
 | .cell t ty=>do loadVar ty (<-asAddr (a.tmps.getD t Go.undef))
theorem Ii (fn:Func) (a:Act):results fn a.tmps=(do let vs<-fn.results.mapM (Ev a);pure (if h:vs.size=1 then vs[0] else .tuple vs)):=by unfold results;congr 1;all_goals (congr 1;all_goals (funext x;cases x<;>rfl))
theorem aKb {P:Program} [aC P] {B:gN P} {s:AS} {G:List CO} {a:Act} {w:World} (r:eP B s G a w) {rv:ResultVar} {x:AV} (h:s.rv P rv=some x):
  ∃v,(Ev a rv).run P w= .ok v w/\R w (env B s.o G w) x v []:=by
 cases rv with
 |tmp t=>simp only [AS.rv,eC] at h;subst h;exact ⟨a.tmps.getD t Go.undef,rfl,r.ev (.tmp t)⟩
 |cell t ty=>
  simp only [AS.rv] at h;split at h
  .rename_i i bY idx off hx;split at h
   .rename_i ob e ha;obtain ⟨ho,he⟩:=Ao ha;obtain ⟨g,b,f,hl,hlive,hga,hv⟩:=r.ptr (x:= .tmp t) hx ho;obtain ⟨b',f',cs,vK,hcn,hc,hone,uY⟩:=r.elem hl hlive he;rw [hga] at vK;simp only [eC,pA,rS] at vK;obtain ⟨rfl,rfl⟩:=vK;have hle:=gG uY;rw [Dx] at hle;simp only [Act.eval] at hv;split at h
    .rename_i n hn;split at h
     .rename_i hfit;obtain rfl:=cQ h;refine ⟨.agg ((cs.drop off).take n).toArray,?_,by simp only [R];exact ⟨_,rfl,FT hone,Pj off n uY⟩⟩;have:=sQ (P:=P) (t:=ty) (k:=off) (n:=n) (cs:=cs) hn (by omega) hc;simp only [Instr.loadAt,Instr.sureAddr,pure_bind] at this;simp [Ev,hv,asAddr,<-oR,this]
     .cases h
    .split at h
     .rename_i aNv;obtain ⟨v,hv',hR⟩:=Ho uY h;refine ⟨v,?_,hR⟩;have:=wS (P:=P) (t:=ty) aNv hv' hc;simp only [Instr.loadAt,Instr.sureAddr,pure_bind] at this;simp [Ev,hv,asAddr,<-oR,this]
     .cases h
   .cases h
  .cases h
def AS.zC (P:Program) (s:AS):List ResultVar->Option (List AV)
 |[]=>some []
 |x::xs=>match s.rv P x with
  |some y=>match AS.zC P s xs with
   |some ys=>some (y::ys)
   |none=>none
  |none=>none
def single:List AV->AV
 |[x]=>x
 |xs=> .iJ xs
def aG (P:Program) (fn:Func) (s:AS) (r:AV):Prop:=
 ∃ys,s.zC P fn.results.toList=some ys/\jM s.o (single ys)=true/\(lU (single ys)).Nodup/\res s.o (single ys)=r/\clean r=true
theorem Jv {P:Program} [aC P] {B:gN P} {s:AS} {G:List CO} {a:Act} {w:World} (r:eP B s G a w):∀{l:List ResultVar} {ys:List AV},s.zC P l=some ys->
  ∃vs,(l.mapM (m:=Sem) (Ev a)).run P w= .ok vs w/\Rc w (env B s.o G w) ys vs []
 |[],ys,h=>by simp only [AS.zC,eC] at h;subst h;exact ⟨[],by simp,by simp [Rc]⟩
 |x::xs,ys,h=>by
  simp only [AS.zC] at h;split at h
  .rename_i y hy;split at h
   .rename_i ys' iq;obtain rfl:=cQ h;obtain ⟨v,h1,h2⟩:=aKb r hy;obtain ⟨vs,h3,h4⟩:=Jv r iq;refine ⟨v::vs,?_,by simp only [Rc];exact ⟨[],[],h2,h4,rfl⟩⟩;simp only [mapM_cons,nF];rw [h1];simp only [lP];rw [h3];simp
   .cases h
  .cases h
theorem zD {P:Program} [aC P] {B:gN P} {s:AS} {G:List CO} {a:Act} {w:World} (r:eP B s G a w) {fn:Func} {ys:List AV} (h:s.zC P fn.results.toList=some ys):
  ∃v,(results fn a.tmps).run P w= .ok v w/\R w (env B s.o G w) (single ys) v []:=by
 obtain ⟨vs,h1,h2⟩:=Jv r h;have hl:=gG h2;have hm:(fn.results.mapM (m:=Sem) (Ev a)).run P w= .ok vs.toArray w:=by rw [CN];simp only [Sem.run_map];rw [h1];rfl
 rw [Ii];simp only [nF];rw [hm];simp only [lP,sE];match ys,vs,hl,h2 with
 |[y],[v],_,h2=>
  refine ⟨v,by simp,?_⟩;simp only [Rc] at h2;obtain ⟨f1,f2,h3,_,e⟩:=h2;obtain ⟨rfl,_⟩:f1=[]/\f2=[]:=by simpa using e
  exact h3
 |[],[],_,h2=>exact ⟨.tuple #[],by simp,by simp only [single,R];exact ⟨[],rfl,h2⟩⟩
 |y1::y2::ys,v1::v2::vs,_,h2=>exact ⟨.tuple (v1::v2::vs).toArray,by simp,by simp only [single,R];exact ⟨_,rfl,h2⟩⟩
theorem UL {P:Program} [aC P] (hm:P.follows .mixedOrders=true) {f:FuncId} {fn:Func} {c:Code} (hf:P.funcs[f]? =some fn) (hb:fn.body=some c) {args:List AV} {rr:AV}
  (h:tF P c ⟨args++replicate (fn.ntmps - args.length) .undef,[]⟩ (λe s=>(e= .normal\/e= .ret)/\aG P fn s rr)):Ok P f args rr:=by
 intro w vs hg hargs;have hl:=gG hargs;have r0:eP ⟨w,λb=>b < w.heap.size,λ_=>False,λ_=>none,λ_=>none,hg,λ_ h=>h.elim,λ_ h=>h.elim⟩ ⟨args++replicate (fn.ntmps - args.length) .undef,[]⟩ [] {tmps:=vs.toArray++Array.replicate (fn.ntmps - vs.toArray.size) Go.undef,defers:=[]} w:=by
  refine ⟨rfl,rfl,λi ob g hl=>by simp [look] at hl,λi j oi oj gi gj b hl=>by simp [look] at hl,λi ob g b hl=>by simp [look] at hl,?_,eE _,λ_ _ _=>rfl,λb hb=>hb,nG.rfl⟩;have h1:Rc w (env ⟨w,λb=>b < w.heap.size,λ_=>False,λ_=>none,λ_=>none,hg,λ_ h=>h.elim,λ_ h=>h.elim⟩ [] [] w) args vs []:=dX (w:=w) (w':=w) (E:=nP w) (E':=env ⟨w,λb=>b < w.heap.size,λ_=>False,λ_=>none,λ_=>none,hg,λ_ h=>h.elim,λ_ h=>h.elim⟩ [] [] w) ⟨λb hb=>⟨⟨.inl hb,λi ob g hl=>by simp [look] at hl⟩,rfl⟩,λ_ _=>trivial,λ_ _ _ h=>by exact h.elim,λ_ _ _ h=>by exact h.elim,λ_ _ _ _ _ h=>by exact h.elim⟩ _ _ _ (by simp) hargs;have h2:∀n,Rc w (env ⟨w,λb=>b < w.heap.size,λ_=>False,λ_=>none,λ_=>none,hg,λ_ h=>h.elim,λ_ h=>h.elim⟩ [] [] w) (replicate n .undef) (replicate n Go.undef) []:=by
   intro n;induction n with
   |zero=>simp [Rc]
   |succ n ih=>simp only [pD,Rc];exact ⟨[],[],by simp [R],ih,rfl⟩
  have:=mF h1 (h2 (fn.ntmps - args.length));simpa [hl] using this
 refine calls_of_wp hf hb (wp_mono (qP hm c _ _ h _ _ ⟨_,r0⟩) λe a w' he=> ?_);obtain ⟨s,⟨he,ys,iq,wC,hu,jK,zT⟩,G,r⟩:=he;obtain ⟨v,hrun,hR⟩:=zD r iq;obtain ⟨fp,h1,h2,h3⟩:=Jl r _ v wC hu hR;rw [jK] at h1;have hfin:∃v' fp,Ending.returned v= .returned v'/\R w' (Ba w.heap.size w' fp) rr v' fp/\fp.Nodup/\(∀b∈fp,w.heap.size<=b/\b < w'.heap.size)/\w.heap.size<=w'.heap.size/\(∀b,b < w.heap.size->w'.heap[b]? =w.heap[b]?)/\nG w w':=by refine ⟨v,fp,rfl,aIi <| Jm (E:=(env _ s.o G w').plain) (λ_ _=>trivial) rfl rfl rfl _ _ _ zT h1,h2,λb hb=> ?_,r.size,λb hb=>r.frame b hb (λh=>h),r.same⟩;obtain ⟨i,ob,g,_,hl,hlive,hF⟩:=h3 b hb;have:=r.fresh _ _ _ b hl hlive hF;exact ⟨this.1.resolve_left (λh=>h),this.2⟩
 rcases he with rfl|rfl
 .exact ⟨r.defs,v,hrun,hfin⟩
 .exact ⟨r.defs,v,hrun,hfin⟩
theorem Yh {P:Program} [aC P] {all:List Oper} {s:AS} {K:AS->Prop} (h:K s):kV P all [] s K:=h
theorem PU {P:Program} [aC P] {id:Nat} {l:List Oper} {s:AS} {Q:Exit->AS->Prop} (h:kV P l l s (Q .normal)):tF P (.region id l.toArray false) s Q:=by simp only [tF];exact ⟨s,mK.refl s,h⟩
theorem iw {P:Program} [aC P] {id:Nat} {ops:Array Oper} {s s2:AS} {Q:Exit->AS->Prop} (hw:mK s s2) (h:tF P (.region id ops false) s2 Q):tF P (.region id ops false) s Q:=by simp only [tF] at h⊢;obtain ⟨s3,h1,h2⟩:=h;exact ⟨s3,hw.trans h1,h2⟩
theorem PV {P:Program} [aC P] {c:Operand} {x y:Code} {s:AS} {Q:Exit->AS->Prop} {b:Bool} (hc:s.ev c= .bool b) (h1:b=true->tF P x s Q) (h2:b=false->tF P y s Q):tF P (.cond c x y) s Q:=by simp only [tF,hc];exact ⟨h1,h2⟩
theorem UM {P:Program} [aC P] {id:Nat} {c:Code} {s:AS} {Q:Exit->AS->Prop} (h:tF P c s (C9 id Q)):tF P (.block id c) s Q:=h
theorem Yi {P:Program} [aC P] {id:Nat} {s:AS} {Q:Exit->AS->Prop} (h:Q (.exit id) s):tF P (.exit id) s Q:=h
theorem vo {P:Program} [aC P] {s:AS} {Q:Exit->AS->Prop} (h:Q .ret s):tF P .ret s Q:=h
theorem Yj {P:Program} [aC P] {s:AS} {Q:Exit->AS->Prop} (h:Q .normal s):tF P .skip s Q:=h
theorem aBh {P:Program} [aC P] {c:Code} {s:AS} {Q:Exit->AS->Prop} {ι:Type} (inv:ι->AS) (μ:ι->Nat) (i:ι) (h0:mK s (inv i)) (h:∀i,∀K:AS->Prop,(∀s' j,mK s' (inv j)->μ j < μ i->K s')->tF P c (inv i) (CU K Q)):tF P (.loop c) s Q:=
 ⟨ι,inv,μ,i,h0,λi=>h i _ λ_ j h1 h2=>⟨j,h1,h2⟩⟩
theorem Jw {K:AS->Prop} {Q:Exit->AS->Prop} {s:AS} (h:Q .ret s):CU K Q .ret s:=h
theorem GI {K:AS->Prop} {Q:Exit->AS->Prop} {s:AS} {id:Nat} (h:Q (.exit id) s):CU K Q (.exit id) s:=h
theorem GJ {Q:Exit->AS->Prop} {s:AS} {id:Nat} (h:Q .normal s):C9 id Q .normal s:=h
theorem PW {Q:Exit->AS->Prop} {s:AS} {id:Nat} (h:Q .ret s):C9 id Q .ret s:=h
theorem UN {Q:Exit->AS->Prop} {s:AS} {id:Nat} (h:Q .normal s):C9 id Q (.exit id) s:=by simpa [C9] using h
theorem UO {Q:Exit->AS->Prop} {s:AS} {id id':Nat} (hne:id'≠id) (h:Q (.exit id') s):C9 id Q (.exit id') s:=by simpa [C9,hne] using h
def wk:List AV->List AV->Prop
 |[],[]=>True
 |x::xs,y::ys=>(y=x\/y= .undef)/\wk xs ys
 |_,_=>False
theorem ER {w:World} {E:Env}:∀{t t':List AV} {vs:List Value},wk t t'->Rc w E t vs []->Rc w E t' vs []
 |[],[],_,_,h=>h
 |[],_::_,_,h,_=>h.elim
 |_::_,[],_,h,_=>h.elim
 |_::_,_::_,[],_,h=>by simp [Rc] at h
 |x::xs,y::ys,v::vs,h,hr=>by
  simp only [Rc] at hr⊢;obtain ⟨f1,f2,h1,h2,e⟩:=hr;obtain ⟨rfl,rfl⟩:f1=[]/\f2=[]:=by simpa using e
  refine ⟨[],[],?_,ER h.2 h2,rfl⟩;rcases h.1 with rfl|rfl
  .exact h1
  .simp [R]
theorem vQ {t t':List AV} {o:List aM} (h:wk t t'):mK ⟨t,o⟩ ⟨t',o⟩:=by rintro P _ B a w ⟨G,r⟩;exact ⟨G,{r with tmps:=ER h r.tmps}⟩
theorem wrap64 (n:Int) (h1: -9223372036854775808<=n) (h2:n<=9223372036854775807):IntKind.i64.wrap n=n:=by rw [AG];omega
theorem oW {k:Nat} (h:(k:Int)<=9223372036854775806:=by omega):IntKind.i64.wrap ((k:Int)+1)=((k+1:Nat):Int):=by rw [wrap64]<;>omega
mutual
def Jy:AV->Nat
 | .sl .own _ _=>1
 | .agg c=>Ah c
 | .iJ c=>Ah c
 |_=>0
def Ah:List AV->Nat
 |[]=>0
 |x::xs=>Jy x+Ah xs
end
mutual
def Ij (q k:Nat):AV->AV
 | .sl .own _ _=> .obj k q
 | .agg c=> .agg (Ai q k c)
 | .iJ c=> .iJ (Ai q k c)
 | .int a b=> .int a b
 | .bool b=> .bool b
 | .str s=> .str s
 | .sl g n l=> .sl g n l
 | .gD g c off=> .gD g c off
 | .obj i v=> .obj i v
 | .ptr i v j o=> .ptr i v j o
 | .fn f c=> .fn f c
 | .undef=> .undef
def Ai (q k:Nat):List AV->List AV
 |[]=>[]
 |x::xs=>Ij q k x::Ai q (k+Jy x) xs
end
mutual
def Gq (q:Nat):AV->List aM
 | .sl .own n l=>[⟨true,false,n,q,l⟩]
 | .agg c=>xW q c
 | .iJ c=>xW q c
 | .int _ _=>[]
 | .bool _=>[]
 | .str _=>[]
 | .sl _ _ _=>[]
 | .gD _ _ _=>[]
 | .obj _ _=>[]
 | .ptr _ _ _ _=>[]
 | .fn _ _=>[]
 | .undef=>[]
def xW (q:Nat):List AV->List aM
 |[]=>[]
 |x::xs=>Gq q x++xW q xs
end
mutual
theorem ML (q:Nat):∀x:AV,(Gq q x).length=Jy x
 | .sl .own _ _=>rfl
 | .sl .view _ _=>rfl
 | .sl (.jZ _) _ _=>rfl
 | .agg c=>DK q c
 | .iJ c=>DK q c
 | .int _ _=>rfl
 | .bool _=>rfl
 | .str _=>rfl
 | .gD _ _ _=>rfl
 | .obj _ _=>rfl
 | .ptr _ _ _ _=>rfl
 | .fn _ _=>rfl
 | .undef=>rfl
theorem DK (q:Nat):∀c:List AV,(xW q c).length=Ah c
 |[]=>rfl
 |x::xs=>by simp only [xW,Ah,eR,ML q x,DK q xs]
end
mutual
theorem oZ (q k:Nat):∀x:AV,dH q k x=(Ij q k x,Gq q x)
 | .sl .own _ _=>rfl
 | .sl .view _ _=>rfl
 | .sl (.jZ _) _ _=>rfl
 | .agg c=>by simp only [dH,Ij,Gq,lW q k c]
 | .iJ c=>by simp only [dH,Ij,Gq,lW q k c]
 | .int _ _=>rfl
 | .bool _=>rfl
 | .str _=>rfl
 | .gD _ _ _=>rfl
 | .obj _ _=>rfl
 | .ptr _ _ _ _=>rfl
 | .fn _ _=>rfl
 | .undef=>rfl
theorem lW (q k:Nat):∀c:List AV,fG q k c=(Ai q k c,xW q c)
 |[]=>rfl
 |x::xs=>by simp only [fG,Ai,xW,oZ q k x,lW q _ xs,ML]
end
attribute [simp] wk AS.ev AS.put AS.box AS.shut AV.fit AV.cells AV.isObj AS.at AS.stored Ag ofV rt xS mU AV.kept Dw Hz AS.args arg BM AS.called Ij Ai Gq xW Jy Ah oZ lW AS.target AS.source AS.wT AS.Py AS.bound AS.made Pv Wm aM.kill
  AV.MC AV.yA AV.known AV.scalar vL vL.go AS.built EL uy kH lU tC res jM mW MI clean Cx iK single AS.rv AS.zC qO CU C9 AV.nd eu XW fe iU AV.iE
attribute [irreducible] tF kV CU C9
theorem UZ {P:Program} [aC P] {t:TypeId} {c:List AV} {off:Nat} {K1 K2:AV->Prop} (hk:∀y,K1 y->K2 y) (h:Ag P t c off K1):Ag P t c off K2:=by
 unfold Ag at *;split at h
 .exact ⟨h.1,hk _ h.2⟩
 .refine ⟨h.1,?_⟩;have:=h.2;split at this
  .exact hk _ this
  .exact this.elim
theorem WC {P:Program} [aC P] {o:Oper} {s:AS} {K1 K2:AS->Prop} (hk:∀s',K1 s'->K2 s') (h:qJ P o s K1):qJ P o s K2:=by
 obtain ⟨dst,op,ty,pos,after,gd⟩:=o;unfold qJ at h⊢;dsimp only at h⊢;split at h;all_goals (repeat' (split at h))
 all_goals (first
  |exact h.elim
  |exact hk _ h
  |exact ⟨h.1,hk _ h.2⟩
  |((repeat (refine ⟨h.1,?_⟩;replace h:=h.2));exact hk _ h)
  |exact UZ (λy=>hk _) h
  |exact ⟨h.1,UZ (λy=>hk _) h.2⟩
  |(obtain ⟨r,h1,h2⟩:=h;exact ⟨r,h1,hk _ h2⟩)
  |((repeat (refine ⟨h.1,?_⟩;replace h:=h.2));obtain ⟨r,h1,h2⟩:=h;exact ⟨r,h1,hk _ h2⟩)
  |((repeat (refine ⟨h.1,?_⟩;replace h:=h.2));split at h<;>first|exact hk _ h|((repeat (refine ⟨h.1,?_⟩;replace h:=h.2));exact hk _ h)|exact h.elim)
  |((repeat (refine ⟨h.1,?_⟩;replace h:=h.2));(repeat' (split at h))<;>first|exact h.elim|((repeat (refine ⟨h.1,?_⟩;replace h:=h.2));exact hk _ h)|((repeat (refine ⟨h.1,?_⟩;replace h:=h.2));obtain ⟨r,h1,h2⟩:=h;exact ⟨r,h1,hk _ h2⟩))
  |(have h9:=hk _ h;simp_all;done)
  |((first|rw [eK (by assumption)]|rw [cY (by assumption)]);((repeat (refine ⟨h.1,?_⟩;replace h:=h.2));exact hk _ h))
  |((first|rw [eK (by assumption)]|rw [cY (by assumption)]);((repeat (refine ⟨h.1,?_⟩;replace h:=h.2));obtain ⟨r,h1,h2⟩:=h;exact ⟨r,h1,hk _ h2⟩))
  |((repeat (refine ⟨h.1,?_⟩;replace h:=h.2));obtain ⟨r,h1,h2⟩:=h;refine ⟨r,h1,?_⟩;(first|rw [eK (by assumption)]|rw [cY (by assumption)]);exact hk _ h2))
theorem F8 {P:Program} [aC P] {o:Oper} {s:AS} {K1 K2:AS->Prop} (hk:∀s',K1 s'->K2 s') (h:Ju P o s K1):Ju P o s K2:=by
 obtain ⟨dst,op,ty,pos,after,gd⟩:=o;unfold Ju at h⊢;dsimp only at h⊢;split at h
 .split at h
  .obtain ⟨h1,h2,h3,h4,x',r,h5,h6,h7,h8⟩:=h;exact ⟨h1,h2,h3,h4,x',r,h5,h6,h7,hk _ h8⟩
  .exact h.elim
 .split at h
  .split at h
   .obtain ⟨h1,h2,h3,h4,h5⟩:=h;exact ⟨h1,h2,h3,h4,hk _ h5⟩
   .exact h.elim
  .exact h.elim
 .exact h.elim
theorem aCp {P:Program} [aC P] {o:Oper} {s:AS} {K1 K2:AS->Prop} (hk:∀s',K1 s'->K2 s') (h:Yg P o s K1):Yg P o s K2:=by
 obtain ⟨dst,op,ty,pos,after,gd⟩:=o;unfold Yg at h⊢;dsimp only at h⊢;split at h
 .split at h
  .obtain ⟨h1,gs,r,h2,h3,h4,h5⟩:=h;exact ⟨h1,gs,r,h2,h3,h4,hk _ h5⟩
  .exact h.elim
 .exact h.elim
theorem YA {P:Program} [aC P] {o:Oper} {s:AS} {K1 K2:AS->Prop} (hk:∀s',K1 s'->K2 s') (h:Ih P o s K1):Ih P o s K2:=by obtain ⟨s1,hw,h⟩:=h;exact ⟨s1,hw,h.imp (WC hk) (Or.imp (F8 hk) (aCp hk))⟩
theorem aCq {P:Program} [aC P] {o:Oper} {s:AS} {K1 K2:AS->Prop} (hk:∀s',K1 s'->K2 s') (h:aGd P o s K1):aGd P o s K2:=False.elim h
theorem Va {P:Program} [aC P] {o:Oper} {s:AS} {K1 K2:AS->Prop} (hk:∀s',K1 s'->K2 s') (h:GH P o s K1):GH P o s K2:=by obtain ⟨s1,hw,h⟩:=h;exact ⟨s1,hw,aCq hk h⟩
abbrev bF:=List UInt8
def aQ {α:Type} (f:α->Nat):List α->Nat
 |[]=>0
 |x::xs=>f x+aQ f xs
def bV {α:Type} (f:α->Nat) (l:List α):Nat:=l.length+aQ f l
def sub (n:Int) (k:Nat):Int:=if n < k then -1 else n - k
theorem sub_neg {n:Int} {k:Nat} (h:n < k):sub n k= -1:=by simp [sub,h]
theorem sub_pos {n:Int} {k:Nat} (h:¬n < k):sub n k=n - k:=by simp [sub,h]
theorem dC {α:Type} (f:α->Nat):∀(l:List α) (k:Nat) (h:k < l.length),aQ f (l.take (k+1))=aQ f (l.take k)+f l[k]
 |x::xs,0,_=>by simp [aQ]
 |x::xs,k+1,h=>by simp only [eM,aQ,getElem_cons_succ];rw [dC f xs k (by simpa using h)];omega
theorem dK {α:Type} (f:α->Nat):∀(l:List α) (k:Nat),aQ f (l.take k)<=aQ f l
 |[],k=>by simp
 |x::xs,0=>by simp [aQ]
 |x::xs,k+1=>by simp only [eM,aQ];have:=dK f xs k;omega
def wU (z:List AV) (xs:List (List AV)) (k:Nat):List (List AV):=xs.take k++replicate (xs.length - k) z
@[simp] theorem aGe (z:List AV) (xs:List (List AV)) (k:Nat):(wU z xs k).length=xs.length:=by simp [wU];omega
theorem tK (z:List AV) (xs:List (List AV)):replicate xs.length z=wU z xs 0:=by simp [wU]
theorem wD (z:List AV) (xs:List (List AV)) (k:Nat) (h:xs.length<=k):wU z xs k=xs:=by
 have:xs.length - k=0:=by omega
 simp [wU,this,cX h]
theorem wE (z:List AV) (xs:List (List AV)) (k:Nat) (h:k < xs.length):(wU z xs k)[k]? =some z:=by
 have h1:(xs.take k).length=k:=by simp;omega
 rw [wU,hY (by omega),h1,xF];have:0 < xs.length - k:=by omega
 simp [this]
theorem wF (z:List AV) (xs:List (List AV)) (k:Nat) (h:k < xs.length):(wU z xs k).set k xs[k]=wU z xs (k+1):=by
 have h1:(xs.take k).length=k:=by simp;omega
 have h2:xs.length - k=(xs.length - (k+1))+1:=by omega
 have h3:xs.take (k+1)=xs.take k++[xs[k]]:=by rw [eA h]
 unfold wU;rw [h2,pD,sX _ _ (by omega),h1,xF,cU,h3,rL];rfl
@[simp] theorem eY {α:Type} (f:α->List AV) (h:∀x,Cx (f x)=true):∀l:List α,iK (l.map f)=true
 |[]=>rfl
 |x::xs=>by simp only [mT,iK,h x,Cl];exact eY f h xs
theorem bS {α:Type} {f g:α->List AV} {t:Tg->Option Tg} {b:Bool} (h:∀x,xS t b (f x)=g x):∀l:List α,mU t b (l.map f)=l.map g
 |[]=>rfl
 |x::xs=>by simp only [mT,mU,h x,bS h xs]
theorem dZ {α:Type} (f:α->Nat) (l:List α) (k:Nat) (h:k < l.length):f l[k]<=aQ f l:=by have h1:=dC f l k h;have h2:=dK f l (k+1);omega
theorem cB {α:Type} (f:α->Nat) {l:List α} {x:α} (h:x∈l):f x<=aQ f l:=by obtain ⟨k,hk,rfl⟩:=getElem_of_mem h;exact dZ f l k hk
@[simp] def jE (n:Int):List AV:=[.int .i64 n]
@[simp] def aTo (n:Bool):List AV:=[.bool n]
@[simp] def bW (s:bF):List AV:=[.str s]
def eX (s:bF):Nat:=s.length
@[simp] theorem aN1 (t:Tg->Option Tg) (b:Bool) (l:List Int):mU t b (l.map jE)=l.map jE:=bS (by intro x;rfl) l
@[simp] theorem aN2 (t:Tg->Option Tg) (b:Bool) (l:List bF):mU t b (l.map bW)=l.map bW:=bS (by intro x;rfl) l
@[simp] theorem PY (l:List Int):iK (l.map jE)=true:=eY _ (by intro x;rfl) l
@[simp] theorem aKf (l:List bF):iK (l.map bW)=true:=eY _ (by intro x;rfl) l
structure aT where
  host : bF
  path : bF
deriving DecidableEq
@[simp] def aO (x:aT):List AV:=[.str x.host,.str x.path]
def aU (x:aT):Nat:=x.host.length+x.path.length
def Cz (x:aT):Prop:=x.host.length<=9223372036854775807/\x.path.length<=9223372036854775807
@[simp] theorem aMh (t:Tg->Option Tg) (b:Bool) (l:List aT):mU t b (l.map aO)=l.map aO:=bS (by intro x;rfl) l
@[simp] theorem aIv (l:List aT):iK (l.map aO)=true:=eY _ (by intro x;rfl) l
structure jY where
  name : bF
  value : bF
deriving DecidableEq
@[simp] def gU (x:jY):List AV:=[.str x.name,.str x.value]
def gY (x:jY):Nat:=x.name.length+x.value.length
def Lm (x:jY):Prop:=x.name.length<=9223372036854775807/\x.value.length<=9223372036854775807
@[simp] theorem aMi (t:Tg->Option Tg) (b:Bool) (l:List jY):mU t b (l.map gU)=l.map gU:=bS (by intro x;rfl) l
@[simp] theorem aIw (l:List jY):iK (l.map gU)=true:=eY _ (by intro x;rfl) l
structure bP where
  kind : Int
  name : bF
  attrs : List jY
  text : bF
deriving DecidableEq
@[simp] def bK (g:Tg) (x:bP):List AV:=[.int .i64 x.kind,.str x.name,.sl g 2 (x.attrs.map gU),.str x.text]
def bO (x:bP):Nat:=x.name.length+(bV gY x.attrs)+x.text.length
def JD (x:bP):Prop:=x.name.length<=9223372036854775807/\(x.attrs.length<=9223372036854775807/\∀y∈x.attrs,Lm y)/\x.text.length<=9223372036854775807
@[simp] theorem aE7 (g:Tg) (b:Bool) (l:List bP):mU (λ_=>some .view) b (l.map (bK g))=l.map (bK .view):=bS (by intro x;simp) l
@[simp] theorem aBs (i:Nat) (b:Bool) (l:List bP):mU (Dw i) b (l.map (bK .own))=l.map (bK (.jZ i)):=bS (by intro x;simp) l
@[simp] theorem aBt (i:Nat) (b:Bool) (l:List bP):mU (Dw i) b (l.map (bK .view))=l.map (bK .view):=bS (by intro x;simp) l
@[simp] theorem aBu (i j:Nat) (b:Bool) (l:List bP):mU (Dw i) b (l.map (bK (.jZ j)))=l.map (bK (.jZ j)):=bS (by intro x;simp) l
@[simp] theorem aBv (b:Bool) (l:List bP):mU Hz b (l.map (bK .own))=l.map (bK .view):=bS (by intro x;simp) l
@[simp] theorem aBw (b:Bool) (l:List bP):mU Hz b (l.map (bK .view))=l.map (bK .view):=bS (by intro x;simp) l
@[simp] theorem wV (l:List bP):iK (l.map (bK .own))=true:=eY _ (by intro x;simp) l
structure kZ where
  rest : bF
deriving DecidableEq
@[simp] def dO (x:kZ):List AV:=[.str x.rest]
def rJ (x:kZ):Nat:=x.rest.length
def ET (x:kZ):Prop:=x.rest.length<=9223372036854775807
@[simp] theorem aBx (t:Tg->Option Tg) (b:Bool) (l:List kZ):mU t b (l.map dO)=l.map dO:=bS (by intro x;rfl) l
@[simp] theorem D8 (l:List kZ):iK (l.map dO)=true:=eY _ (by intro x;rfl) l
structure gF where
  name : bF
  text : bF
  parent : Int
  attrs : List jY
deriving DecidableEq
@[simp] def dE (g:Tg) (x:gF):List AV:=[.str x.name,.str x.text,.int .i64 x.parent,.sl g 2 (x.attrs.map gU)]
def iF (x:gF):Nat:=x.name.length+x.text.length+(bV gY x.attrs)
def PZ (x:gF):Prop:=x.name.length<=9223372036854775807/\x.text.length<=9223372036854775807/\(x.attrs.length<=9223372036854775807/\∀y∈x.attrs,Lm y)
@[simp] theorem aGi (g:Tg) (b:Bool) (l:List gF):mU (λ_=>some .view) b (l.map (dE g))=l.map (dE .view):=bS (by intro x;simp) l
@[simp] theorem aE8 (i:Nat) (b:Bool) (l:List gF):mU (Dw i) b (l.map (dE .own))=l.map (dE (.jZ i)):=bS (by intro x;simp) l
@[simp] theorem aE9 (i:Nat) (b:Bool) (l:List gF):mU (Dw i) b (l.map (dE .view))=l.map (dE .view):=bS (by intro x;simp) l
@[simp] theorem aFa (i j:Nat) (b:Bool) (l:List gF):mU (Dw i) b (l.map (dE (.jZ j)))=l.map (dE (.jZ j)):=bS (by intro x;simp) l
@[simp] theorem aFb (b:Bool) (l:List gF):mU Hz b (l.map (dE .own))=l.map (dE .view):=bS (by intro x;simp) l
@[simp] theorem aFc (b:Bool) (l:List gF):mU Hz b (l.map (dE .view))=l.map (dE .view):=bS (by intro x;simp) l
@[simp] theorem aIx (l:List gF):iK (l.map (dE .own))=true:=eY _ (by intro x;simp) l
structure bC where
  nodes : List gF
  opens : List Int
deriving DecidableEq
@[simp] def aS (g:Tg) (x:bC):List AV:=[.sl g 4 (x.nodes.map (dE g)),.sl g 1 (x.opens.map jE)]
def aP (x:bC):Nat:=(bV iF x.nodes)+x.opens.length
def Lp (x:bC):Prop:=(x.nodes.length<=9223372036854775807/\∀y∈x.nodes,PZ y)/\x.opens.length<=9223372036854775807
@[simp] theorem W9 (g:Tg) (b:Bool) (l:List bC):mU (λ_=>some .view) b (l.map (aS g))=l.map (aS .view):=bS (by intro x;simp) l
@[simp] theorem D9 (i:Nat) (b:Bool) (l:List bC):mU (Dw i) b (l.map (aS .own))=l.map (aS (.jZ i)):=bS (by intro x;simp) l
@[simp] theorem E5 (i:Nat) (b:Bool) (l:List bC):mU (Dw i) b (l.map (aS .view))=l.map (aS .view):=bS (by intro x;simp) l
@[simp] theorem E8 (i j:Nat) (b:Bool) (l:List bC):mU (Dw i) b (l.map (aS (.jZ j)))=l.map (aS (.jZ j)):=bS (by intro x;simp) l
@[simp] theorem E9 (b:Bool) (l:List bC):mU Hz b (l.map (aS .own))=l.map (aS .view):=bS (by intro x;simp) l
@[simp] theorem F3 (b:Bool) (l:List bC):mU Hz b (l.map (aS .view))=l.map (aS .view):=bS (by intro x;simp) l
@[simp] theorem aBy (l:List bC):iK (l.map (aS .own))=true:=eY _ (by intro x;simp) l
structure Ew where
  name : bF
  color : Int
deriving DecidableEq
@[simp] def zG (x:Ew):List AV:=[.str x.name,.int .i64 x.color]
@[simp] theorem aMj (t:Tg->Option Tg) (b:Bool) (l:List Ew):mU t b (l.map zG)=l.map zG:=bS (by intro x;rfl) l
@[simp] theorem aIy (l:List Ew):iK (l.map zG)=true:=eY _ (by intro x;rfl) l
structure gP where
  rules : List Ew
deriving DecidableEq
@[simp] def eG (g:Tg) (x:gP):List AV:=[.sl g 2 (x.rules.map zG)]
@[simp] theorem aFd (g:Tg) (b:Bool) (l:List gP):mU (λ_=>some .view) b (l.map (eG g))=l.map (eG .view):=bS (by intro x;simp) l
@[simp] theorem aBz (i:Nat) (b:Bool) (l:List gP):mU (Dw i) b (l.map (eG .own))=l.map (eG (.jZ i)):=bS (by intro x;simp) l
@[simp] theorem aB0 (i:Nat) (b:Bool) (l:List gP):mU (Dw i) b (l.map (eG .view))=l.map (eG .view):=bS (by intro x;simp) l
@[simp] theorem aB1 (i j:Nat) (b:Bool) (l:List gP):mU (Dw i) b (l.map (eG (.jZ j)))=l.map (eG (.jZ j)):=bS (by intro x;simp) l
@[simp] theorem aB2 (b:Bool) (l:List gP):mU Hz b (l.map (eG .own))=l.map (eG .view):=bS (by intro x;simp) l
@[simp] theorem aB3 (b:Bool) (l:List gP):mU Hz b (l.map (eG .view))=l.map (eG .view):=bS (by intro x;simp) l
@[simp] theorem aGj (l:List gP):iK (l.map (eG .own))=true:=eY _ (by intro x;simp) l
structure jP where
  op : Int
  text : bF
deriving DecidableEq
@[simp] def lJ (x:jP):List AV:=[.int .i64 x.op,.str x.text]
@[simp] theorem aMk (t:Tg->Option Tg) (b:Bool) (l:List jP):mU t b (l.map lJ)=l.map lJ:=bS (by intro x;rfl) l
@[simp] theorem aIz (l:List jP):iK (l.map lJ)=true:=eY _ (by intro x;rfl) l
structure dL where
  isSet : Bool
  dG : List bF
  eZ : List bF
  fD : List bF
  rM : bF
deriving DecidableEq
@[simp] def bM (g:Tg) (x:dL):List AV:=[.bool x.isSet,.sl g 1 (x.dG.map bW),.sl g 1 (x.eZ.map bW),.sl g 1 (x.fD.map bW),.str x.rM]
def eB (x:dL):Nat:=(bV eX x.dG)+(bV eX x.eZ)+(bV eX x.fD)+x.rM.length
def Qa (x:dL):Prop:=(x.dG.length<=9223372036854775807/\∀y∈x.dG,y.length<=9223372036854775807)/\(x.eZ.length<=9223372036854775807/\∀y∈x.eZ,y.length<=9223372036854775807)/\(x.fD.length<=9223372036854775807/\∀y∈x.fD,y.length<=9223372036854775807)/\x.rM.length<=9223372036854775807
@[simp] theorem aB4 (g:Tg) (b:Bool) (l:List dL):mU (λ_=>some .view) b (l.map (bM g))=l.map (bM .view):=bS (by intro x;simp) l
@[simp] theorem X0 (i:Nat) (b:Bool) (l:List dL):mU (Dw i) b (l.map (bM .own))=l.map (bM (.jZ i)):=bS (by intro x;simp) l
@[simp] theorem X3 (i:Nat) (b:Bool) (l:List dL):mU (Dw i) b (l.map (bM .view))=l.map (bM .view):=bS (by intro x;simp) l
@[simp] theorem X4 (i j:Nat) (b:Bool) (l:List dL):mU (Dw i) b (l.map (bM (.jZ j)))=l.map (bM (.jZ j)):=bS (by intro x;simp) l
@[simp] theorem X5 (b:Bool) (l:List dL):mU Hz b (l.map (bM .own))=l.map (bM .view):=bS (by intro x;simp) l
@[simp] theorem X6 (b:Bool) (l:List dL):mU Hz b (l.map (bM .view))=l.map (bM .view):=bS (by intro x;simp) l
@[simp] theorem aFe (l:List dL):iK (l.map (bM .own))=true:=eY _ (by intro x;simp) l
structure bL where
  status : Int
  kind : Int
  body : bF
  F4 : Int
  shares : Bool
  bG : bF
deriving DecidableEq
@[simp] def dQ (x:bL):List AV:=[.int .i64 x.status,.int .i64 x.kind,.str x.body,.int .i64 x.F4,.bool x.shares,.str x.bG]
def fK (x:bL):Nat:=x.body.length+x.bG.length
def DN (x:bL):Prop:=x.body.length<=9223372036854775807/\x.bG.length<=9223372036854775807
@[simp] theorem aFf (t:Tg->Option Tg) (b:Bool) (l:List bL):mU t b (l.map dQ)=l.map dQ:=bS (by intro x;rfl) l
@[simp] theorem X7 (l:List bL):iK (l.map dQ)=true:=eY _ (by intro x;rfl) l
structure gV where
  kind : Int
  to : aT
  frm : bF
  digest : bF
deriving DecidableEq
@[simp] def fE (x:gV):List AV:=[.int .i64 x.kind,.str x.to.host,.str x.to.path,.str x.frm,.str x.digest]
def jJ (x:gV):Nat:=(aU x.to)+x.frm.length+x.digest.length
@[simp] theorem aGk (t:Tg->Option Tg) (b:Bool) (l:List gV):mU t b (l.map fE)=l.map fE:=bS (by intro x;rfl) l
@[simp] theorem aB5 (l:List gV):iK (l.map fE)=true:=eY _ (by intro x;rfl) l
structure wz where
  path : bF
  response : bL
deriving DecidableEq
@[simp] def xc (x:wz):List AV:=[.str x.path,.int .i64 x.response.status,.int .i64 x.response.kind,.str x.response.body,.int .i64 x.response.F4,.bool x.response.shares,.str x.response.bG]
@[simp] theorem aMl (t:Tg->Option Tg) (b:Bool) (l:List wz):mU t b (l.map xc)=l.map xc:=bS (by intro x;rfl) l
@[simp] theorem aI1 (l:List wz):iK (l.map xc)=true:=eY _ (by intro x;rfl) l
structure Ar where
  host : bF
  files : List wz
deriving DecidableEq
@[simp] def sU (g:Tg) (x:Ar):List AV:=[.str x.host,.sl g 7 (x.files.map xc)]
@[simp] theorem aB6 (g:Tg) (b:Bool) (l:List Ar):mU (λ_=>some .view) b (l.map (sU g))=l.map (sU .view):=bS (by intro x;simp) l
@[simp] theorem X8 (i:Nat) (b:Bool) (l:List Ar):mU (Dw i) b (l.map (sU .own))=l.map (sU (.jZ i)):=bS (by intro x;simp) l
@[simp] theorem X9 (i:Nat) (b:Bool) (l:List Ar):mU (Dw i) b (l.map (sU .view))=l.map (sU .view):=bS (by intro x;simp) l
@[simp] theorem Y0 (i j:Nat) (b:Bool) (l:List Ar):mU (Dw i) b (l.map (sU (.jZ j)))=l.map (sU (.jZ j)):=bS (by intro x;simp) l
@[simp] theorem Y5 (b:Bool) (l:List Ar):mU Hz b (l.map (sU .own))=l.map (sU .view):=bS (by intro x;simp) l
@[simp] theorem Y6 (b:Bool) (l:List Ar):mU Hz b (l.map (sU .view))=l.map (sU .view):=bS (by intro x;simp) l
@[simp] theorem aFg (l:List Ar):iK (l.map (sU .own))=true:=eY _ (by intro x;simp) l
structure Ww where
  top : bF
  to : aT
  response : bL
  til : Int
deriving DecidableEq
@[simp] def Qb (x:Ww):List AV:=[.str x.top,.str x.to.host,.str x.to.path,.int .i64 x.response.status,.int .i64 x.response.kind,.str x.response.body,.int .i64 x.response.F4,.bool x.response.shares,.str x.response.bG,.int .i64 x.til]
@[simp] theorem aKg (t:Tg->Option Tg) (b:Bool) (l:List Ww):mU t b (l.map Qb)=l.map Qb:=bS (by intro x;rfl) l
@[simp] theorem aGl (l:List Ww):iK (l.map Qb)=true:=eY _ (by intro x;rfl) l
structure DR where
  entries : List Ww
deriving DecidableEq
@[simp] def yC (g:Tg) (x:DR):List AV:=[.sl g 10 (x.entries.map Qb)]
@[simp] theorem aFh (g:Tg) (b:Bool) (l:List DR):mU (λ_=>some .view) b (l.map (yC g))=l.map (yC .view):=bS (by intro x;simp) l
@[simp] theorem aB7 (i:Nat) (b:Bool) (l:List DR):mU (Dw i) b (l.map (yC .own))=l.map (yC (.jZ i)):=bS (by intro x;simp) l
@[simp] theorem aB8 (i:Nat) (b:Bool) (l:List DR):mU (Dw i) b (l.map (yC .view))=l.map (yC .view):=bS (by intro x;simp) l
@[simp] theorem aB9 (i j:Nat) (b:Bool) (l:List DR):mU (Dw i) b (l.map (yC (.jZ j)))=l.map (yC (.jZ j)):=bS (by intro x;simp) l
@[simp] theorem aCa (b:Bool) (l:List DR):mU Hz b (l.map (yC .own))=l.map (yC .view):=bS (by intro x;simp) l
@[simp] theorem aCb (b:Bool) (l:List DR):mU Hz b (l.map (yC .view))=l.map (yC .view):=bS (by intro x;simp) l
@[simp] theorem aGm (l:List DR):iK (l.map (yC .own))=true:=eY _ (by intro x;simp) l
structure xe where
  top : bF
  to : aT
  aN3 : Bool
deriving DecidableEq
@[simp] def xg (x:xe):List AV:=[.str x.top,.str x.to.host,.str x.to.path,.bool x.aN3]
@[simp] theorem aMm (t:Tg->Option Tg) (b:Bool) (l:List xe):mU t b (l.map xg)=l.map xg:=bS (by intro x;rfl) l
@[simp] theorem aI2 (l:List xe):iK (l.map xg)=true:=eY _ (by intro x;rfl) l
structure Yo where
  aGn : List Ar
  cache : DR
  log : List xe
  now : Int
deriving DecidableEq
@[simp] def Lr (g:Tg) (x:Yo):List AV:=[.sl g 2 (x.aGn.map (sU g)),.sl g 10 (x.cache.entries.map Qb),.sl g 4 (x.log.map xg),.int .i64 x.now]
@[simp] theorem aI3 (g:Tg) (b:Bool) (l:List Yo):mU (λ_=>some .view) b (l.map (Lr g))=l.map (Lr .view):=bS (by intro x;simp) l
@[simp] theorem aGo (i:Nat) (b:Bool) (l:List Yo):mU (Dw i) b (l.map (Lr .own))=l.map (Lr (.jZ i)):=bS (by intro x;simp) l
@[simp] theorem aGp (i:Nat) (b:Bool) (l:List Yo):mU (Dw i) b (l.map (Lr .view))=l.map (Lr .view):=bS (by intro x;simp) l
@[simp] theorem aGq (i j:Nat) (b:Bool) (l:List Yo):mU (Dw i) b (l.map (Lr (.jZ j)))=l.map (Lr (.jZ j)):=bS (by intro x;simp) l
@[simp] theorem aGr (b:Bool) (l:List Yo):mU Hz b (l.map (Lr .own))=l.map (Lr .view):=bS (by intro x;simp) l
@[simp] theorem aGs (b:Bool) (l:List Yo):mU Hz b (l.map (Lr .view))=l.map (Lr .view):=bS (by intro x;simp) l
@[simp] theorem aKh (l:List Yo):iK (l.map (Lr .own))=true:=eY _ (by intro x;simp) l
structure kJ where
  mode : Int
  to : aT
  digest : bF
  node : Int
  done : Bool
  code : Int
  body : bF
deriving DecidableEq
@[simp] def iY (x:kJ):List AV:=[.int .i64 x.mode,.str x.to.host,.str x.to.path,.str x.digest,.int .i64 x.node,.bool x.done,.int .i64 x.code,.str x.body]
def gQ (x:kJ):Nat:=(aU x.to)+x.digest.length+x.body.length
def Qc (x:kJ):Prop:=Cz x.to/\x.digest.length<=9223372036854775807/\x.body.length<=9223372036854775807
@[simp] theorem aMn (t:Tg->Option Tg) (b:Bool) (l:List kJ):mU t b (l.map iY)=l.map iY:=bS (by intro x;rfl) l
@[simp] theorem aI4 (l:List kJ):iK (l.map iY)=true:=eY _ (by intro x;rfl) l
structure dB where
  to : aT
  done : Bool
  code : Int
  body : bF
deriving DecidableEq
@[simp] def bU (x:dB):List AV:=[.str x.to.host,.str x.to.path,.bool x.done,.int .i64 x.code,.str x.body]
def bE (x:dB):Nat:=(aU x.to)+x.body.length
def EU (x:dB):Prop:=Cz x.to/\x.body.length<=9223372036854775807
@[simp] theorem aI5 (t:Tg->Option Tg) (b:Bool) (l:List dB):mU t b (l.map bU)=l.map bU:=bS (by intro x;rfl) l
@[simp] theorem TD (l:List dB):iK (l.map bU)=true:=eY _ (by intro x;rfl) l
structure aI where
  addr : aT
  bG : dL
  tok : kZ
  queue : List bP
  ended : Bool
  builder : bC
  aB : List kJ
  aN : List dB
  entries : List aT
  block : Int
  inline : Int
  deferred : Int
  gW : Int
  oD : List aT
  log : List bF
  nS : Bool
deriving DecidableEq
@[simp] def aJ (g:Tg) (x:aI):List AV:=[.str x.addr.host,.str x.addr.path,.bool x.bG.isSet,.sl g 1 (x.bG.dG.map bW),.sl g 1 (x.bG.eZ.map bW),.sl g 1 (x.bG.fD.map bW),.str x.bG.rM,.str x.tok.rest,.sl g 4 (x.queue.map (bK g)),.bool x.ended,.sl g 4 (x.builder.nodes.map (dE g)),.sl g 1 (x.builder.opens.map jE),.sl g 8 (x.aB.map iY),.sl g 5 (x.aN.map bU),.sl g 2 (x.entries.map aO),.int .i64 x.block,.int .i64 x.inline,.int .i64 x.deferred,.int .i64 x.gW,.sl g 2 (x.oD.map aO),.sl g 1 (x.log.map bW),.bool x.nS]
def aF (x:aI):Nat:=(aU x.addr)+(eB x.bG)+(rJ x.tok)+(bV bO x.queue)+(aP x.builder)+(bV gQ x.aB)+(bV bE x.aN)+(bV aU x.entries)+(bV aU x.oD)+(bV eX x.log)
def Wx (x:aI):Prop:=Cz x.addr/\Qa x.bG/\ET x.tok/\(x.queue.length<=9223372036854775807/\∀y∈x.queue,JD y)/\Lp x.builder/\(x.aB.length<=9223372036854775807/\∀y∈x.aB,Qc y)/\(x.aN.length<=9223372036854775807/\∀y∈x.aN,EU y)/\(x.entries.length<=9223372036854775807/\∀y∈x.entries,Cz y)/\(x.oD.length<=9223372036854775807/\∀y∈x.oD,Cz y)/\(x.log.length<=9223372036854775807/\∀y∈x.log,y.length<=9223372036854775807)
@[simp] theorem aGt (g:Tg) (b:Bool) (l:List aI):mU (λ_=>some .view) b (l.map (aJ g))=l.map (aJ .view):=bS (by intro x;simp) l
@[simp] theorem aFi (i:Nat) (b:Bool) (l:List aI):mU (Dw i) b (l.map (aJ .own))=l.map (aJ (.jZ i)):=bS (by intro x;simp) l
@[simp] theorem aFj (i:Nat) (b:Bool) (l:List aI):mU (Dw i) b (l.map (aJ .view))=l.map (aJ .view):=bS (by intro x;simp) l
@[simp] theorem aFk (i j:Nat) (b:Bool) (l:List aI):mU (Dw i) b (l.map (aJ (.jZ j)))=l.map (aJ (.jZ j)):=bS (by intro x;simp) l
@[simp] theorem aFl (b:Bool) (l:List aI):mU Hz b (l.map (aJ .own))=l.map (aJ .view):=bS (by intro x;simp) l
@[simp] theorem aFm (b:Bool) (l:List aI):mU Hz b (l.map (aJ .view))=l.map (aJ .view):=bS (by intro x;simp) l
@[simp] theorem aI6 (l:List aI):iK (l.map (aJ .own))=true:=eY _ (by intro x;simp) l
structure BX where
  builder : bC
  log : List bF
  aCc : List bF
  aN4 : gP
  nS : Bool
deriving DecidableEq
@[simp] def uL (g:Tg) (x:BX):List AV:=[.sl g 4 (x.builder.nodes.map (dE g)),.sl g 1 (x.builder.opens.map jE),.sl g 1 (x.log.map bW),.sl g 1 (x.aCc.map bW),.sl g 2 (x.aN4.rules.map zG),.bool x.nS]
@[simp] theorem aCd (g:Tg) (b:Bool) (l:List BX):mU (λ_=>some .view) b (l.map (uL g))=l.map (uL .view):=bS (by intro x;simp) l
@[simp] theorem Y7 (i:Nat) (b:Bool) (l:List BX):mU (Dw i) b (l.map (uL .own))=l.map (uL (.jZ i)):=bS (by intro x;simp) l
@[simp] theorem Y8 (i:Nat) (b:Bool) (l:List BX):mU (Dw i) b (l.map (uL .view))=l.map (uL .view):=bS (by intro x;simp) l
@[simp] theorem Y9 (i j:Nat) (b:Bool) (l:List BX):mU (Dw i) b (l.map (uL (.jZ j)))=l.map (uL (.jZ j)):=bS (by intro x;simp) l
@[simp] theorem Z0 (b:Bool) (l:List BX):mU Hz b (l.map (uL .own))=l.map (uL .view):=bS (by intro x;simp) l
@[simp] theorem aAa (b:Bool) (l:List BX):mU Hz b (l.map (uL .view))=l.map (uL .view):=bS (by intro x;simp) l
@[simp] theorem aFn (l:List BX):iK (l.map (uL .own))=true:=eY _ (by intro x;simp) l
structure jb where
  to : aT
  response : bL
  used : Bool
deriving DecidableEq
@[simp] def jc (x:jb):List AV:=[.str x.to.host,.str x.to.path,.int .i64 x.response.status,.int .i64 x.response.kind,.str x.response.body,.int .i64 x.response.F4,.bool x.response.shares,.str x.response.bG,.bool x.used]
@[simp] theorem aKi (t:Tg->Option Tg) (b:Bool) (l:List jb):mU t b (l.map jc)=l.map jc:=bS (by intro x;rfl) l
@[simp] theorem aGu (l:List jb):iK (l.map jc)=true:=eY _ (by intro x;rfl) l
mutual
def closed (m:Nat):AV->Bool
 | .obj i _=>decide (i < m)
 | .ptr i _ _ _=>decide (i < m)
 | .sl (.jZ i) _ _=>decide (i < m)
 | .gD (.jZ i) _ _=>decide (i < m)
 | .agg c=>fP m c
 | .iJ c=>fP m c
 | .fn _ c=>fP m c
 |_=>true
def fP (m:Nat):List AV->Bool
 |[]=>true
 |x::xs=>closed m x&&fP m xs
end
theorem wG {o:List aM} {G:List CO} {m i:Nat} {ob:aM} {g:CO}:look (o.take m) (G.take m) i ob g↔i < m/\look o G i ob g:=by unfold look;rw [AT,AT];by_cases h:i < m<;>simp [h]
theorem zF {P:Program} [aC P] {B:gN P} {o:List aM} {G:List CO} {w:World} (m:Nat):(∀b,(env B o G w).A b->(env B (o.take m) (G.take m) w).A b)/\
  (∀i,i < m->((env B (o.take m) (G.take m) w).V i↔(env B o G w).V i))/\(∀i b,i < m->(env B o G w).D i b->(env B (o.take m) (G.take m) w).D i b):=by
 refine ⟨λb h=>⟨h.1,λi ob g hl=>h.2 i ob g (wG.1 hl).2⟩,λi hi=> ?_,λi b hi h=> ?_⟩
 .simp only [env,AT,hi,gE]
 .obtain ⟨ob,g,hl,h⟩:=h;exact ⟨ob,g,wG.2 ⟨hi,hl⟩,h⟩
theorem ES {P:Program} [aC P] {B:gN P} {o:List aM} {G:List CO} {w:World} {m i:Nat} (hi:i < m):fA w ((env B o G w).sub (.jZ i)) w ((env B (o.take m) (G.take m) w).sub (.jZ i)):=by have h:=zF (B:=B) (o:=o) (G:=G) (w:=w) m;exact ⟨λb hb=>⟨h.1 b hb,rfl⟩,λ_ _=>trivial,λj b _ hd=>⟨⟨hd.1,h.2.2 i b hi hd.2⟩,rfl⟩,λ_ _ _ h=>h.elim,λ_ _ _ _ _ h=>h.elim⟩
theorem uK {P:Program} [aC P] {B:gN P} {o:List aM} {G:List CO} {w:World} (m:Nat):fA w (env B o G w).plain w (env B (o.take m) (G.take m) w).plain:=by have h:=zF (B:=B) (o:=o) (G:=G) (w:=w) m;exact ⟨λb hb=>⟨h.1 b hb,rfl⟩,λ_ _=>trivial,λ_ _ _ h=>h.elim,λ_ _ _ h=>h.elim,λ_ _ _ _ _ h=>h.elim⟩
mutual
theorem aBn {P:Program} [aC P] {B:gN P} {o:List aM} {G:List CO} {w:World} {m:Nat}:∀(x:AV) (v:Value) (fp:List Nat),closed m x=true->R w (env B o G w) x v fp->R w (env B (o.take m) (G.take m) w) x v fp
 | .int _ _,_,_,_,h=>by simpa [R] using h
 | .bool _,_,_,_,h=>by simpa [R] using h
 | .str _,_,_,_,h=>by simpa [R] using h
 | .sl .own n l,v,fp,_,h=>by obtain ⟨a,cap,hv,hown⟩:=rH.1 h;exact rH.2 ⟨a,cap,hv,hown.keeps (uK m) (λ_ _=>rfl)⟩
 | .sl .view n l,v,fp,_,h=>by
  simp only [R] at h⊢;rcases h with h|⟨a,cap,hv,hl,h⟩
  .exact h.1.elim
  .refine .inr ⟨a,cap,hv,hl,?_⟩;rcases h with h|h|⟨hg,hf,h⟩
   .exact absurd h.1 (by simp)
   .exact absurd h.1 (by simp)
   .refine .inr (.inr ⟨hg,hf,?_⟩);rcases h with h|⟨b,off,ha,ht,hr⟩
    .exact .inl h
    .exact .inr ⟨b,off,ha,(zF m).1 b ht,mO (uK m) _ _ _ _ _ rfl (by simp) hr⟩
 | .sl (.jZ i) n l,v,fp,hc,h=>by
  have hi:i < m:=by simpa [closed] using hc
  simp only [R] at h⊢;rcases h with h|⟨a,cap,hv,hl,h⟩
  .exact .inl ⟨λhV=>h.1 (((zF m).2.1 i hi).1 hV),h.2⟩
  .refine .inr ⟨a,cap,hv,hl,?_⟩;rcases h with h|h|⟨hg,hf,h⟩
   .exact absurd h.1 (by simp)
   .exact absurd h.1 (by simp)
   .refine .inr (.inr ⟨hg,hf,?_⟩);rcases h with h|⟨b,off,ha,ht,hr⟩
    .exact .inl h
    .exact .inr ⟨b,off,ha,(zF m).2.2 i b hi ht,mO (ES hi) _ _ _ _ _ rfl (by simp) hr⟩
 | .gD .own c off,v,fp,_,h=>by
  simp only [R] at h⊢;rcases h with h|⟨_,_,_,_,_,ht,_⟩
  .exact h.1.elim
  .exact ht.elim
 | .gD .view c off,v,fp,_,h=>by
  simp only [R] at h⊢;rcases h with h|⟨hf,b,o',cs,hv,ht,hcs,hone,hr⟩
  .exact h.1.elim
  .exact .inr ⟨hf,b,o',cs,hv,(zF m).1 b ht,hcs,hone,dX (uK m) _ _ _ (by simp) hr⟩
 | .gD (.jZ i) c off,v,fp,hc,h=>by
  have hi:i < m:=by simpa [closed] using hc
  simp only [R] at h⊢;rcases h with h|⟨hf,b,o',cs,hv,ht,hcs,hone,hr⟩
  .exact .inl ⟨λhV=>h.1 (((zF m).2.1 i hi).1 hV),h.2⟩
  .exact .inr ⟨hf,b,o',cs,hv,(zF m).2.2 i b hi ht,hcs,hone,dX (ES hi) _ _ _ (by simp) hr⟩
 | .obj i bY,v,fp,hc,h=>by
  have hi:i < m:=by simpa [closed] using hc
  simp only [R] at h⊢;obtain ⟨hf,ob,g,hl,h⟩:=h;exact ⟨hf,ob,g,wG.2 ⟨hi,hl⟩,h⟩
 | .ptr i bY idx off,v,fp,hc,h=>by
  have hi:i < m:=by simpa [closed] using hc
  simp only [R] at h⊢;obtain ⟨hf,ob,g,hl,h⟩:=h;exact ⟨hf,ob,g,wG.2 ⟨hi,hl⟩,h⟩
 | .agg c,v,fp,hc,h=>by simp only [R] at h⊢;obtain ⟨cs,h1,h2,h3⟩:=h;exact ⟨cs,h1,h2,AQ c cs fp (by simpa [closed] using hc) h3⟩
 | .iJ c,v,fp,hc,h=>by simp only [R] at h⊢;obtain ⟨cs,h1,h3⟩:=h;exact ⟨cs,h1,AQ c cs fp (by simpa [closed] using hc) h3⟩
 | .fn f c,v,fp,hc,h=>by simp only [R] at h⊢;obtain ⟨h0,cs,h1,h3⟩:=h;exact ⟨h0,cs,h1,AQ c cs [] (by simpa [closed] using hc) h3⟩
 | .undef,_,_,_,h=>by simpa [R] using h
theorem AQ {P:Program} [aC P] {B:gN P} {o:List aM} {G:List CO} {w:World} {m:Nat}:∀(c:List AV) (cs:List Value) (fp:List Nat),fP m c=true->Rc w (env B o G w) c cs fp->Rc w (env B (o.take m) (G.take m) w) c cs fp
 |[],[],_,_,h=>by simpa [Rc] using h
 |[],_::_,_,_,h=>by simp [Rc] at h
 |_::_,[],_,_,h=>by simp [Rc] at h
 |x::xs,c::cs,fp,hc,h=>by simp only [Rc] at h⊢;simp only [fP,eJ] at hc;obtain ⟨f1,f2,h1,h2,h3⟩:=h;exact ⟨f1,f2,aBn x c f1 hc.1 h1,AQ xs cs f2 hc.2 h2,h3⟩
end
def dJ (m:Nat):List aM->Bool
 |[]=>true
 |ob::r=>(!ob.box || match ob.dR with
  |[e]=>fP m e
  |_=>false)&&dJ m r
theorem MN {m:Nat}:∀{o:List aM},dJ m o=true->∀ob∈o,ob.box=true->∃e,ob.dR=[e]/\fP m e=true
 |ob::r,h,x,hx,hb=>by
  simp only [dJ,eJ] at h;rcases lB.1 hx with rfl|hx
  .have h1:=h.1;rw [hb] at h1;simp only [Fi,Bool.false_or] at h1;split at h1
   .rename_i e he;exact ⟨e,he,h1⟩
   .cases h1
  .exact MN h.2 x hx hb
theorem aW {t t':List AV} {o o':List aM} (m:Nat) (ho:o.take m=o':=by simp) (h:wk t t':=by simp) (hc:fP m t'=true:=by simp) (hb:dJ m o'=true:=by simp):mK ⟨t,o⟩ ⟨t',o'⟩:=by
 subst ho;rintro P _ B a w ⟨G,r⟩;refine ⟨G.take m,?_⟩;exact
  {len:=by simp [r.len]
   defs:=r.defs
   ok:=λi ob g hl hlive=>by
    have BP:=(wG.1 hl).2;obtain ⟨fp,hown,hnd,hF⟩:=r.ok i ob g BP hlive;refine ⟨fp,?_,hnd,hF⟩;cases GD:ob.box with
    |false=>rw [GD] at hown;exact hown.keeps (uK m) (λ_ _=>rfl)
    |true=>
     rw [GD] at hown;obtain ⟨e,he,hce⟩:=MN hb ob (oE hl.1) GD;rw [he] at hown⊢;obtain ⟨hlen,hown⟩:=hown;refine ⟨hlen,?_⟩;rcases hown with h|⟨b,off,C,ety,fz,pX,ha,hbk,hz,h1,h2,h3,rfl,hr⟩
     .exact .inl h
     .refine .inr ⟨b,off,C,ety,fz,pX,ha,hbk,hz,h1,h2,h3,rfl,?_⟩;simp only [Rr] at hr⊢;obtain ⟨cs,f1,f2,k1,k2,k3,k4,k5,k6⟩:=hr;exact ⟨cs,f1,f2,k1,k2,k3,AQ e cs f1 hce k4,k5,k6⟩
   apart:=λi j oi oj gi gj b hi hj h1 h2 h3 h4=>r.apart i j _ _ _ _ b (wG.1 hi).2 (wG.1 hj).2 h1 h2 h3 h4
   fresh:=λi ob g b hl h1 h2=>r.fresh i ob g b (wG.1 hl).2 h1 h2
   tmps:=AQ _ _ _ hc (ER h r.tmps)
   size:=r.size
   frame:=r.frame
   base:=r.base
   same:=r.same}
theorem aH {t t':List AV} {o o':List aM} (ho:o=o':=by simp) (h:wk t t':=by simp):mK ⟨t,o⟩ ⟨t',o'⟩:=ho▸vQ h
attribute [simp] closed fP dJ
def sS (J:Nat->Bool) (i:Nat):Nat->Bool:=λj=>if j=i then true else J j
def dv (J:Nat->Bool) (i:Nat) (v:AV):AV:=if J i=true then v else .undef
@[simp] theorem aRc (J:Nat->Bool) (i:Nat) (v:AV):dv (sS J i) i v=v:=by simp [dv,sS]
def wH (P:Program) [aC P] (S:(Nat->Bool)->AS):Nat->List Oper->Prop
 |_,[]=>True
 |i,o::r=>(o.guard=none/\∀J:Nat->Bool,J i=false->(∀e∈o.after.toList,Region.binds .any e=true->J e.on=true)->qJ P o (S J) λs'=>mK s' (S (sS J i)))/\wH P S (i+1) r
def fwd:Nat->List Oper->Bool
 |_,[]=>true
 |i,o::r=>(o.after.toList.all λe=> !Region.binds .any e || decide (e.on < i))&&fwd (i+1) r
theorem GL {P:Program} [aC P] {S:(Nat->Bool)->AS}:∀{l:List Oper} {k i:Nat} {o:Oper},wH P S k l->l[i]? =some o->
  o.guard=none/\∀J:Nat->Bool,J (k+i)=false->(∀e∈o.after.toList,Region.binds .any e=true->J e.on=true)->qJ P o (S J) λs'=>mK s' (S (sS J (k+i)))
 |[],_,_,_,_,h=>by simp at h
 |x::xs,k,0,o,hd,h=>by simp at h;subst h;exact hd.1
 |x::xs,k,i+1,o,hd,h=>by
  have:=GL (k:=k+1) (i:=i) hd.2 (by simpa using h)
  rwa [show k+1+i=k+(i+1) by omega] at this
theorem wo:∀{l:List Oper} {k i:Nat} {o:Oper},fwd k l=true->l[i]? =some o->∀e∈o.after.toList,Region.binds .any e=true->e.on < k+i
 |[],_,_,_,_,h=>by simp at h
 |x::xs,k,0,o,hf,h=>by simp at h;subst h;simp only [fwd,eJ,fS] at hf;intro e he hb;have:=hf.1 e he;simpa [hb] using this
 |x::xs,k,i+1,o,hf,h=>by
  simp only [fwd,eJ] at hf;have:=wo (k:=k+1) (i:=i) hf.2 (by simpa using h)
  rwa [show k+1+i=k+(i+1) by omega] at this
def left (l:List Bool):Nat:=(l.filter λb=> !b).length
theorem CV (b:Bool) (l:List Bool):left (b::l)=(if b=true then 0 else 1)+left l:=by cases b<;>simp [left]<;>omega
theorem JB:∀{l:List Bool} {i:Nat},l[i]? =some false->left (l.set i true)+1=left l
 |[],_,h=>by simp at h
 |b::l,0,h=>by simp at h;subst h;simp [CV];omega
 |b::l,i+1,h=>by have:=JB (l:=l) (i:=i) (by simpa using h);rw [cW,CV,CV];omega
theorem Lj {l:List Bool} (h:left l=0):∀{i:Nat} {b:Bool},l[i]? =some b->b=true:=by
 intro i b hb;have hm:=oE hb;cases b with
 |true=>rfl
 |false=>have:false∈l.filter (λb=> !b):=DH.2 ⟨hm,rfl⟩;rw [lE h] at this;simp at this
theorem PX {l:List Bool} (h:left l≠0):∃i:Nat,l[i]? =some false/\∀j:Nat,j < i->l[j]? =some true:=by
 induction l with
 |nil=>simp [left] at h
 |cons b l ih=>
  cases b with
  |false=>exact ⟨0,rfl,λj hj=>by omega⟩
  |true=>
   have:left l≠0:=by rw [CV] at h;simpa using h
   obtain ⟨i,h1,h2⟩:=ih this;refine ⟨i+1,by simpa using h1,λj hj=> ?_⟩;cases j with
   |zero=>rfl
   |succ j=>simpa using h2 j (by omega)
theorem aGg {P:Program} [aC P] {ops:Array Oper} {s:AS} {K:AS->Prop} (S:(Nat->Bool)->AS) (h0:mK s (S λ_=>false)) (hf:fwd 0 ops.toList=true) (hs:wH P S 0 ops.toList)
  (he:∀J:Nat->Bool,(∀i,i < ops.size->J i=true)->K (S J)):il P ops s K:=by
 intro B a w Q hr hk;have key:∀(fuel:Nat) (listed:Array Bool) (a:Act) (w:World),listed.size=ops.size->left listed.toList=fuel->Rel B (S λi=>listed.getD i false) a w->wpAny P .any ops Q fuel listed a w:=by
  intro fuel;induction fuel with
  |zero=>
   intro listed a w hl hz r;have hall:∀i,i < ops.size->listed.getD i false=true:=by
    intro i hi;have hi':i < listed.size:=by omega
    have:=Lj hz (i:=i) (b:=listed[i]) (by simp [hi']);simp [Array.getD,hi',this]
   refine ⟨?_,hk _ _ _ (he _ hall) r⟩;unfold Region.ready;rw [filter_eq_nil_iff];intro i hi;have hi2:i < ops.size:=by simpa using hi
   have h1:=hall i hi2;have hi':i < listed.size:=by omega
   have h2:listed.getD i true=true:=by rw [fW] at h1⊢;rw [tG hi'] at h1⊢;exact h1
   rw [h2];simp
  |succ fuel ih=>
   intro listed a w hl hz r;constructor
   .intro hnil;exfalso;obtain ⟨i,h1,h2⟩:=PX (l:=listed.toList) (by omega);have hi:i < listed.size:=by have:=(cH.1 h1).1;simpa using this
    have EF:i < ops.size:=by omega
    have:i∈Region.ready .any ops listed:=by
     unfold Region.ready;rw [DH];refine ⟨by simpa using EF,?_⟩;have h1':listed[i]? =some false:=by simpa using h1
     have hop:ops[i]? =some ops[i]:=by simp [EF]
     simp only [fW,h1',rK,Fm,Cl,hop,mS];rw [DM];intro e he;cases hb:Region.binds .any e with
     |false=>simp
     |true=>
      have:=wo hf (i:=i) (o:=ops[i]) (by simp [EF]) e (by simpa using he) hb;have h3:=h2 e.on (by omega);have h3':listed[e.on]? =some true:=by simpa using h3
      simp [h3']
    rw [hnil] at this;simp at this
   .intro i hi;unfold Region.ready at hi;rw [DH] at hi;obtain ⟨hi1,hi2⟩:=hi;have EF:i < ops.size:=by simpa using hi1
    have hil:i < listed.size:=by omega
    have hop:ops[i]? =some ops[i]:=by simp [EF]
    simp only [eJ,hop,mS,rK] at hi2;obtain ⟨h1,h2⟩:=hi2;have h1':listed[i]? =some false:=by simp only [fW] at h1;rw [tG hil] at h1⊢;simpa using h1
    rw [DM] at h2;obtain ⟨hg,hst⟩:=GL hs (i:=i) (o:=ops[i]) (by simp [EF]);rw [hM] at hst;have aRd:=hst (λj=>listed.getD j false) (by simp [h1']) (λe he hb=>by
     have:=h2 e (by simpa using he);simpa [hb] using this)
    obtain ⟨s',hw,Yk⟩:=AP (B:=B) aRd;unfold wpOp;rw [hop];simp only [Region.wanted,hg,gE];refine .inl (Yk a w _ Q r λa' w' r'=>ih _ _ _ (by simpa using hl) ?_ ?_)
    .have:=JB (l:=listed.toList) (i:=i) (by simpa using h1');rw [Cp];omega
    .have hu:sS (λj=>listed.getD j false) i=λj=>(listed.setIfInBounds i true).getD j false:=by
      funext j;unfold sS;simp only [fW,Array.getElem?_setIfInBounds];by_cases hj:j=i
      .subst hj;simp [hil]
      .simp [hj,As hj]
     rw [<-hu];exact hw B a' w' r'
 obtain ⟨G,r⟩:=hr;have r2:Rel B s a {w with drawn:=w.drawn+1}:=⟨G,{len:=r.len,defs:=r.defs,ok:=λi ob g hl hlive=>(r.ok i ob g hl hlive).keeps (w':={w with drawn:=w.drawn+1}) ⟨λb h=>⟨h,rfl⟩,λ_ h=>h,λ_ _ _ h=>⟨h,rfl⟩,λ_ _ _ h=>h,λ_ _ _ _ _ h=>h⟩ (λ_ _=>rfl),apart:=r.apart,fresh:=r.fresh,tmps:=dX (w:=w) (E:=env B s.o G w) (w':={w with drawn:=w.drawn+1}) (E':=env B s.o G {w with drawn:=w.drawn+1}) ⟨λb h=>⟨h,rfl⟩,λ_ h=>h,λ_ _ _ h=>⟨h,rfl⟩,λ_ _ _ h=>h,λ_ _ _ _ _ h=>h⟩ _ _ _ (by simp) r.tmps,size:=r.size,frame:=r.frame,base:=r.base,same:=r.same.trans ⟨rfl,rfl,rfl⟩}⟩;refine key _ _ _ _ (by simp) (by simp [left]) ?_;have hJ:(λi=>(Array.replicate ops.size false).getD i false)=λ_=>false:=by funext i;simp only [fW,Array.getElem?_replicate];split<;>rfl
 rw [hJ];exact h0 _ _ _ r2
theorem JC {P:Program} [aC P] {id:Nat} {l:List Oper} {s:AS} {Q:Exit->AS->Prop} (S:(Nat->Bool)->AS) (h0:mK s (S λ_=>false)) (hf:fwd 0 l=true) (hs:wH P S 0 l)
  (he:∀J:Nat->Bool,(∀i,i < l.length->J i=true)->Q .normal (S J)):tF P (.region id l.toArray true) s Q:=by
 unfold tF;exact aGg (ops:=l.toArray) S h0 (by simpa using hf) (by simpa using hs) (by simpa using he)
theorem iH {P:Program} [aC P] {o:Oper} {s:AS} {K:AS->Prop} (h:∀K':AS->Prop,(∀s',K s'->K' s')->qJ P o s K'):qJ P o s K:=h K λ_ h=>h
mutual
def CY (m:Nat):AV->Bool
 | .int _ _=>true
 | .bool _=>true
 | .str _=>true
 | .obj i bY=>decide (i < m)&&bY == 0
 | .agg c=>Lu m c
 | .iJ c=>Lu m c
 |_=>false
def Lu (m:Nat):List AV->Bool
 |[]=>true
 |x::xs=>CY m x&&Lu m xs
end
mutual
theorem xn {w1 w2:World} {E1 E2:Env} {m:Nat} {hv:Nat->Option Value} (h1:∀i v,i < m->E1.H i 0 v->hv i=some v) (h2:∀i v,i < m->E2.H i 0 v->hv i=some v):
  ∀(x:AV) (v1 v2:Value),CY m x=true->R w1 E1 x v1 []->R w2 E2 x v2 []->v1=v2
 | .int _ _,_,_,_,a,b=>by simp only [R] at a b;rw [a.1,b.1]
 | .bool _,_,_,_,a,b=>by simp only [R] at a b;rw [a.1,b.1]
 | .str _,_,_,_,a,b=>by simp only [R] at a b;rw [a.1,b.1]
 | .obj i bY,v1,v2,hr,a,b=>by simp only [CY,eJ,fN,Bm] at hr;obtain ⟨hi,rfl⟩:=hr;simp only [R] at a b;have e1:=h1 i v1 hi a.2;have e2:=h2 i v2 hi b.2;rw [e1] at e2;exact cQ e2
 | .agg c,_,_,hr,a,b=>by simp only [R] at a b;obtain ⟨c1,rfl,_,a⟩:=a;obtain ⟨c2,rfl,_,b⟩:=b;rw [Qk h1 h2 c c1 c2 (by simpa [CY] using hr) a b]
 | .iJ c,_,_,hr,a,b=>by simp only [R] at a b;obtain ⟨c1,rfl,a⟩:=a;obtain ⟨c2,rfl,b⟩:=b;rw [Qk h1 h2 c c1 c2 (by simpa [CY] using hr) a b]
 | .sl _ _ _,_,_,hr,_,_=>by simp [CY] at hr
 | .gD _ _ _,_,_,hr,_,_=>by simp [CY] at hr
 | .ptr _ _ _ _,_,_,hr,_,_=>by simp [CY] at hr
 | .fn _ _,_,_,hr,_,_=>by simp [CY] at hr
 | .undef,_,_,hr,_,_=>by simp [CY] at hr
theorem Qk {w1 w2:World} {E1 E2:Env} {m:Nat} {hv:Nat->Option Value} (h1:∀i v,i < m->E1.H i 0 v->hv i=some v) (h2:∀i v,i < m->E2.H i 0 v->hv i=some v):
  ∀(x:List AV) (v1 v2:List Value),Lu m x=true->Rc w1 E1 x v1 []->Rc w2 E2 x v2 []->v1=v2
 |[],[],[],_,_,_=>rfl
 |[],_::_,_,_,a,_=>by simp [Rc] at a
 |[],[],_::_,_,_,b=>by simp [Rc] at b
 |_::_,[],_,_,a,_=>by simp [Rc] at a
 |_::_,_::_,[],_,_,b=>by simp [Rc] at b
 |x::xs,c1::r1,c2::r2,hr,a,b=>by
  simp only [Rc] at a b;simp only [Lu,eJ] at hr;obtain ⟨f1,f2,a1,a2,e⟩:=a;obtain ⟨rfl,rfl⟩:f1=[]/\f2=[]:=by simpa using e
  obtain ⟨f1,f2,b1,b2,e⟩:=b;obtain ⟨rfl,rfl⟩:f1=[]/\f2=[]:=by simpa using e
  rw [xn h1 h2 x c1 c2 hr.1 a1 b1,Qk h1 h2 xs r1 r2 hr.2 a2 b2]
end
def yD (P:Program) (fn:Func) (s:AS) (p x' r:AV):Prop:=
 (∃ys,s.zC P fn.results.toList=some ys/\single ys=r/\r.scalar=true)/\s.t[0]? =some p/\jM s.o p=true/\(lU p).Nodup/\res s.o p=x'/\clean x'=true
theorem jm {P:Program} [aC P] (hm:P.follows .mixedOrders=true) {f:FuncId} {fn:Func} {c:Code} (hf:P.funcs[f]? =some fn) (hb:fn.body=some c) {x x':AV} {rest:List AV} {rr:AV}
  (aKm:CY (dH 0 0 x).2.length (dH 0 0 x).1=true)
  (h:tF P c ⟨((dH 0 0 x).1::rest)++replicate (fn.ntmps - (rest.length+1)) .undef,(dH 0 0 x).2⟩ (λe s=>(e= .normal\/e= .ret)/\yD P fn s (dH 0 0 x).1 x' rr)):ek P f x x' rest rr:=by
 intro w v vs fp hg hab hx hnd hlt hrest;have hl:=gG hrest;obtain ⟨Gs,hlen,BN,hap,pM⟩:=EJ (q:=0) x v fp 0 hx hnd;generalize hB:(⟨w,λb=>b < w.heap.size,(· ∈fp),λi=>match (dH 0 0 x).2[i]?,Gs[i]? with
  |some ob,some g=>some (.slice g.a ob.dR.length g.cap)
  |_,_=>none,λ_=>none,hg,hab,hlt⟩:gN P)=B
 have Ql:B.w0=w:=by rw [<-hB]
 have hA0:∀b,B.A0 b↔b < w.heap.size:=by intro b;rw [<-hB]
 have hO0:∀b,B.O0 b↔b∈fp:=by intro b;rw [<-hB]
 have hh0:∀i ob g,look (dH 0 0 x).2 Gs i ob g->B.h0 i=some (.slice g.a ob.dR.length g.cap):=by intro i ob g hl;rw [<-hB];simp only [hl.1,hl.2]
 have kE:fA w (qN w (· ∈fp)) w (env B (dH 0 0 x).2 Gs w):=by refine ⟨λb hb=>⟨⟨.inl ((hA0 b).2 hb.1),λi ob g hl _ hF=> ?_⟩,rfl⟩,λ_ _=>trivial,λ_ _ _ h=>h.elim,λ_ _ _ h=>h.elim,λ_ _ _ _ _ h=>h.elim⟩;obtain ⟨_,_,_,f',_,_,h3,h4⟩:=BN _ _ _ hl;exact hb.2 (h4 _ ((h3 _).1 hF))
 have r0:eP B ⟨((dH 0 0 x).1::rest)++replicate (fn.ntmps - (rest.length+1)) .undef,(dH 0 0 x).2⟩ Gs {tmps:=(v::vs).toArray++Array.replicate (fn.ntmps - (v::vs).toArray.size) Go.undef,defers:=[]} w:=by
  refine {len:=hlen,defs:=rfl,ok:= ?_,apart:= ?_,fresh:= ?_,tmps:= ?_,size:=by rw [Ql];exact eE _,frame:=by rw [Ql];exact λ_ _ _=>rfl,base:= ?_,same:=by rw [Ql];exact nG.rfl}
  .intro i ob g hl _;obtain ⟨_,h2,_,f',hown,h3,h4,h5⟩:=BN _ _ _ hl;refine ⟨f',?_,h3,λb hb=>(h4 b).2 hb⟩;rw [h2];exact hown.keeps kE.plain (λ_ _=>rfl)
  .intro i j oi oj gi gj b hi hj _ _ Es KY;exact hap _ _ _ _ _ _ b hi hj Es KY
  .intro i ob g b hl _ hF;obtain ⟨_,_,_,f',_,_,h3,h4⟩:=BN _ _ _ hl;have:=h4 _ ((h3 _).1 hF);exact ⟨.inl ((hO0 b).2 this),hlt b this⟩
  .have h0:R w (env B (dH 0 0 x).2 Gs w) (dH 0 0 x).1 v []:=pM _ kE λj ob g hl=>by
    obtain ⟨_,_,h3,_⟩:=BN _ _ _ hl;rw [hM];exact ⟨ob,g,hl,Nat.zero_le _,λ_ _=>rfl,λ_ y hy=>by rw [hh0 _ _ _ hl] at hy;exact cQ hy⟩
   have h1:Rc w (env B (dH 0 0 x).2 Gs w) ((dH 0 0 x).1::rest) (v::vs) []:=by simp only [Rc];exact ⟨[],[],h0,dX kE _ _ _ (by simp) hrest,rfl⟩
   have h2:∀n,Rc w (env B (dH 0 0 x).2 Gs w) (replicate n .undef) (replicate n Go.undef) []:=by
    intro n;induction n with
    |zero=>simp [Rc]
    |succ n ih=>simp only [pD,Rc];exact ⟨[],[],by simp [R],ih,rfl⟩
   have:=mF h1 (h2 (fn.ntmps - (rest.length+1)));simpa [hl] using this
  .intro b hb;rw [Ql];exact (hA0 b).1 hb
 have hv0:R w (env B (dH 0 0 x).2 Gs w) (dH 0 0 x).1 v []:=pM _ kE λj ob g hl=>by rw [hM];exact ⟨ob,g,hl,Nat.zero_le _,λ_ _=>rfl,λ_ y hy=>by rw [hh0 _ _ _ hl] at hy;exact cQ hy⟩
 refine calls_of_wp hf hb (wp_mono (qP hm c _ _ h _ _ ⟨_,r0⟩) λe a w' he=> ?_);obtain ⟨s,⟨he,⟨ys,iq,hyr,hsc⟩,ht0,wC,hu,jK,zT⟩,G,r⟩:=he;obtain ⟨u,hrun,hR⟩:=zD r iq;have hhv:∀(o:List aM) (G':List CO) (w'':World) i y,i < (dH 0 0 x).2.length->(env B o G' w'').H i 0 y->B.h0 i=some y:=by intro o G' w'' i y hi hH;obtain ⟨_,_,_,_,_,hz⟩:=hH;have hg:∃ob g,look (dH 0 0 x).2 Gs i ob g:=⟨_,_,aE hi,aE (by omega)⟩;obtain ⟨ob,g,hl⟩:=hg;have e:=hh0 _ _ _ hl;rw [hz rfl _ e];exact e
 obtain ⟨v1,hv1,hr1⟩:=Ho r.tmps ht0;have hvv:v=v1:=xn (hv:=B.h0) (hhv _ _ _) (hhv _ _ _) _ _ _ aKm hv0 hr1;subst hvv;obtain ⟨zU,k1,k2,k3⟩:=Jl r _ v wC hu hr1;rw [jK] at k1;have hfin:∃u' zU,Ending.returned u= .returned u'/\R w' lV rr u' []/\R w' lV x' v zU/\zU.Nodup/\
   (∀b∈zU,(b∈fp\/w.heap.size<=b)/\b < w'.heap.size)/\w.heap.size<=w'.heap.size/\(∀b,b < w.heap.size->b∉fp->w'.heap[b]? =w.heap[b]?)/\nG w w':=by
  refine ⟨u,zU,rfl,?_,Jm (E:=(env _ s.o G w').plain) (λ_ _=>trivial) rfl rfl rfl _ _ _ zT k1,k2,λb hb=> ?_,by have:=r.size;rwa [Ql] at this,λb hb hn=>by have:=r.frame b (by rw [Ql];exact hb) (λh=>hn ((hO0 b).1 h));rwa [Ql] at this,by have:=r.same;rwa [Ql] at this⟩
  .rw [hyr] at hR;cases rr<;>simp only [AV.scalar] at hsc<;>first|(cases hsc;done)|(simp only [R] at hR⊢;exact hR)
  .obtain ⟨i,ob,g,_,hl,hlive,hF⟩:=k3 b hb;have:=r.fresh _ _ _ b hl hlive hF;rw [Ql,hO0] at this;exact this
 rcases he with rfl|rfl
 .exact ⟨r.defs,u,hrun,hfin⟩
 .exact ⟨r.defs,u,hrun,hfin⟩
theorem aCy {w:World} {E:Env} {e:List AV} {cs:List Value} {fp:List Nat} {c:Nat} {x:AV} (h:Rc w E e cs fp) (hx:e[c]? =some x):
  ∃a1 a2 a3 v,fp=a1++a2++a3/\cs[c]? =some v/\Rc w E (e.take c) (cs.take c) a1/\R w E x v a2/\Rc w E (e.drop (c+1)) (cs.drop (c+1)) a3:=by
 obtain ⟨a1,r1,rfl,h1,h2⟩:=sD c h;have hlt:=(cH.1 hx).1;have hl:=gG h;have hd:e.drop c=x::e.drop (c+1):=by rw [mL hlt,(cH.1 hx).2]
 have hcs:cs.drop c=cs[c]'(by omega)::cs.drop (c+1):=mL (by omega);rw [hd,hcs] at h2;simp only [Rc] at h2;obtain ⟨a2,a3,h3,h4,rfl⟩:=h2;exact ⟨a1,a2,a3,_,by simp,aE (by omega),h1,h3,h4⟩
theorem mf {w:World} {E:Env} {e:List AV} {cs:List Value} {a1 a2 a3:List Nat} {c:Nat} {x:AV} {v:Value} (hc:c < e.length) (hv:cs[c]? =some v) (h1:Rc w E (e.take c) (cs.take c) a1) (h2:R w E x v a2) (h3:Rc w E (e.drop (c+1)) (cs.drop (c+1)) a3):
  Rc w E (e.set c x) cs (a1++a2++a3):=by
 have e1:e.set c x=e.take c++x::e.drop (c+1):=by rw [set_eq_take_append_cons_drop];simp [hc]
 obtain ⟨hlt,rfl⟩:=cH.1 hv;have e2:cs=cs.take c++cs[c]::cs.drop (c+1):=by simp
 rw [e1];conv=>arg 4;rw [e2]
 have:=mF h1 (show Rc w E (x::e.drop (c+1)) (cs[c]::cs.drop (c+1)) (a2++a3) by simp only [Rc];exact ⟨a2,a3,h2,h3,rfl⟩);simpa using this
theorem Vo {t t':List AV} {o o':List aM} (i k c:Nat) {ob:aM} {e:List AV} {m:Nat} {rows:List (List AV)} (ho:o[i]? =some ob) (hl:ob.live=true) (hall:(o.all λx=> !x.box)=true) (he:ob.dR[k]? =some e)
  (hc:e[c]? =some (.sl .own m rows)) (ho':o.set i {ob with box:=true,dR:=ob.dR.set k (e.set c (.obj o.length 1))}++[⟨true,false,m,1,rows⟩]=o') (hw:wk (xS (iU [i]) true t) t') (zt:ob.bY < 2:=by first|decide|simp):mK ⟨t,o⟩ ⟨t',o'⟩:=by
 subst ho';rintro P _ B a w ⟨G,r⟩;have nb:∀{j x g},look o G j x g->x.box=false:=λh=>by have:=fS.1 hall _ (oE h.1);simpa using this
 obtain ⟨g,hlk⟩:=r.look ho;have hb:=nb hlk;obtain ⟨fp,hown,hnd,hF⟩:=r.ok i ob g hlk hl;simp only [hb,Env.of,eS,gS] at hown;obtain ⟨hlen,⟨h,_⟩|⟨b,off,C,ty,fz,pX,ha,hbk,hz,h1,h2,h3,rfl,hr⟩⟩:=hown
 .rw [h] at he;simp at he
 have hk:k < ob.dR.length:=(cH.1 he).1;have zT:c < e.length:=(cH.1 hc).1;obtain ⟨f1,f2,f3,cs,rfl,hn,hcs,hone,hre,hr1,hr3⟩:=zW hr he;obtain ⟨a1,a2,a3,v,rfl,hv,k1,k2,k3⟩:=aCy hre hc;obtain ⟨ad,cap',hvs,XR⟩:=rH.1 k2;have hlo:i < o.length:=(cH.1 ho).1;have hsub2:∀x∈a2,g.F x:=λx hx=>hF x (by simp [hx])
 generalize wO:({ob with box:=true,dR:=ob.dR.set k (e.set c (.obj o.length 1))}:aM)=fI;generalize hg':({g with F:=λx=>g.F x/\x∉a2}:CO)=g';generalize hO:o.set i fI++[⟨true,false,m,1,rows⟩]=o';generalize bq:G.set i g'++[⟨ad,cap',λx=>x∈a2⟩]=G';have YS:(G.set i g').length=(o.set i fI).length:=by simp [r.len]
 have back:∀{j x y},look o' G' j x y->(j=i/\x=fI/\y=g')\/(j=o.length/\x=⟨true,false,m,1,rows⟩/\y=⟨ad,cap',λx=>x∈a2⟩)\/(j≠i/\look o G j x y):=by
  intro j x y h;rw [<-hO,<-bq] at h;rcases oF YS h with ⟨_,h⟩|⟨hj,h⟩
  .rcases yZ h with ⟨h1,h2,h3⟩|⟨h1,h2⟩
   .exact .inl ⟨h1,h2,h3⟩
   .exact .inr (.inr ⟨h1,h2⟩)
  .right;left;obtain ⟨h1,h2⟩:=h;cases hd:j - (o.set i fI).length with
   |zero=>rw [hd] at h1 h2;simp at h1 h2 hj hd;exact ⟨by omega,h1.symm,h2.symm⟩
   |succ n=>rw [hd] at h1;simp at h1
 have fi:look o' G' i fI g':=by rw [<-hO,<-bq];exact nC (pY hlk)
 have fJ:look o' G' o.length ⟨true,false,m,1,rows⟩ ⟨ad,cap',λx=>x∈a2⟩:=by rw [<-hO,<-bq];have:=oG (o:=o.set i fI) (o2:=[⟨true,false,m,1,rows⟩]) (G:=G.set i g') (G2:=[⟨ad,cap',λx=>x∈a2⟩]) YS (i:=0) (x:=⟨true,false,m,1,rows⟩) (y:=⟨ad,cap',λx=>x∈a2⟩) ⟨rfl,rfl⟩;simpa using this
 have fo:∀{j x y},j≠i->look o G j x y->look o' G' j x y:=λhj h=>by rw [<-hO,<-bq];exact nC (BQ h hj)
 have aOn:fI.live=true:=by rw [<-wO];exact hl
 have aCz:fI.n=ob.n:=by rw [<-wO]
 have aOo:fI.bY=ob.bY:=by rw [<-wO]
 have aC0:fI.dR.length=ob.dR.length:=by rw [<-wO];simp
 have hga:g'.a=g.a:=by rw [<-hg']
 have hgc:g'.cap=g.cap:=by rw [<-hg']
 have Tk:∀x,g'.F x↔g.F x/\x∉a2:=λx=>by rw [<-hg']
 let Er:Env:={env B o G w with D:=λj x=>j∉[i]/\(env B o G w).D j x}
 have rt1:mV (iU [i]) true (env B o G w) Er (λ_=>True):=by
  refine ⟨λt e=>by simp [iU] at e,λt e=>by simp only [iU,eC] at e;exact ⟨e.symm,λb hb=>hb⟩,λj t e=> ?_,λ_ _ _ _ h=>h,λ_ _ _ _ _ _ h=>h⟩;simp only [iU] at e;split at e
  .cases e
  .rename_i hiu;obtain rfl:=cQ e;refine ⟨by simp,?_,λb hb=>⟨hiu,hb⟩⟩;by_cases hV:(env B o G w).V j
   .exact .inl hV
   .exact .inr hV
 have kA:∀x,(env B o G w).A x->(env B o' G' w).A x:=λx hx=>⟨hx.1,λj y z hlj hjl hf=>by
  rcases back hlj with ⟨rfl,rfl,rfl⟩|⟨rfl,rfl,rfl⟩|⟨_,h⟩
  .exact hx.2 _ _ _ hlk hl ((Tk x).1 hf).1
  .exact hx.2 _ _ _ hlk hl (hsub2 x hf)
  .exact hx.2 _ _ _ h hjl hf⟩
 have k2':fA w Er w (env B o' G' w):=by
  refine ⟨λx hx=>⟨kA x hx,rfl⟩,λj h x hx=> ?_,λj x hV h=> ?_,λj bY x h=> ?_,λj bY p q x h=> ?_⟩
  .obtain ⟨y,hy⟩:=r.look hx;by_cases hj:j=i
   .subst hj;rw [ho] at hx;obtain rfl:=cQ hx;exact hl
   .exact h x (fo hj hy).1
  .obtain ⟨hji,x',y,hlj,hjl,hf,hne⟩:=h;exact ⟨⟨x',y,fo (by simpa using hji) hlj,hjl,hf,hne⟩,rfl⟩
  .obtain ⟨x',y,hlj,zV,hh,hz⟩:=h;by_cases hj:j=i
   .subst hj;obtain ⟨rfl,rfl⟩:=lG hlk hlj;exact ⟨fI,g',fi,by omega,λ_ Tq=>by rw [hga,hgc,aC0];exact hh hl (by omega),hz⟩
   .exact ⟨x',y,fo hj hlj,zV,hh,hz⟩
  .obtain ⟨x',y,hlj,zV,hh,hz⟩:=h;by_cases hj:j=i
   .subst hj;obtain ⟨rfl,rfl⟩:=lG hlk hlj;exact ⟨fI,g',fi,by omega,λ_ Tq=>by rw [hga,aCz];exact hh hl (by omega),λ_ e=>by omega⟩
   .exact ⟨x',y,fo hj hlj,zV,hh,hz⟩
 have kp:fA w (env B o G w).plain w (env B o' G' w).plain:=⟨λx hx=>⟨kA x hx,rfl⟩,λ_ _=>trivial,λ_ _ _ h=>h.elim,λ_ _ _ h=>h.elim,λ_ _ _ _ _ h=>h.elim⟩;have kf:fA w (env B o G w).plain w (env B o' G' w):=kp.trans (Mw w _);have hnd':=hnd;simp only [mA] at hnd';refine ⟨G',{len:=by rw [<-hO,<-bq];simp [r.len],defs:=r.defs,ok:= ?_,apart:= ?_,fresh:= ?_,tmps:=ER hw (dX k2' _ _ _ (by simp) (wQ rt1 _ _ _ (by simp) r.tmps)),size:=r.size,frame:=r.frame,base:=r.base,same:=r.same}⟩
 .intro j x y hlj hjl;rcases back hlj with ⟨rfl,rfl,rfl⟩|⟨rfl,rfl,rfl⟩|⟨hj,h⟩
  .refine ⟨b::(f1++(a1++[]++a3)++f3),?_,?_,?_⟩
   .rw [<-wO,<-hg'];simp only [Env.of,gE];refine ⟨by simpa using hlen,.inr ⟨b,off,C,ty,fz,_,ha,hbk,hz,h1,by simpa using h2,h3,rfl,?_⟩⟩;refine Uy hk hn hcs hone (mf zT hv (dX kf _ _ _ (λ_ _=>rfl) k1) ?_ (dX kf _ _ _ (λ_ _=>rfl) k3)) (mO kf _ _ _ _ _ rfl (λ_ _=>rfl) hr1) (mO kf _ _ _ _ _ rfl (λ_ _=>rfl) hr3);simp only [R];exact ⟨trivial,_,_,fJ,eE _,λ_ _=>hvs,λh=>by omega⟩
   .have hs:(f1++(a1++[]++a3)++f3).Sublist (f1++(a1++a2++a3)++f3):=((pS f1).append (((pS a1).append (nil_sublist a2)).append (pS a3))).append (pS f3);exact mA.2 ⟨λh=>hnd'.1 (hs.subset h),hs.nodup hnd'.2⟩
   .intro x hx;rw [Tk];have hin:x∈b::(f1++(a1++a2++a3)++f3):=by simp only [lB,fL,CC,Ft] at hx⊢;grind
    refine ⟨hF x hin,λhx2=> ?_⟩;have hd:=hnd'.2;simp only [gC,fL] at hd;simp only [lB,fL,CC,Ft] at hx;rcases hx with rfl|(hx|hx|hx)|hx
    .exact hnd'.1 (by simp [hx2])
    .exact hd.1.2.2 x hx x (.inl (.inr hx2)) rfl
    .exact hd.1.2.1.1.2.2 x hx x hx2 rfl
    .exact hd.1.2.1.2.2 x (.inr hx2) x hx rfl
    .exact hd.2.2 x (.inr (.inl (.inr hx2))) x hx rfl
  .refine ⟨a2,?_,?_,λx hx=>hx⟩
   .simp only [Env.of,eS,gS];exact XR.keeps kp (λ_ _=>rfl)
   .have hd:=hnd'.2;simp only [gC] at hd;exact hd.1.2.1.1.2.1
  .have hbj:=nb h;obtain ⟨fq,q1,q2,q3⟩:=r.ok j x y h hjl;simp only [hbj,Env.of,eS,gS] at q1;refine ⟨fq,?_,q2,q3⟩;simp only [hbj,Env.of,eS,gS];exact q1.keeps kp (λ_ _=>rfl)
 .intro j1 j2 x1 x2 y1 y2 z hl1 hl2 v1 v2 hf1 hf2;rcases back hl1 with ⟨rfl,rfl,rfl⟩|⟨rfl,rfl,rfl⟩|⟨hj1,h1⟩<;>rcases back hl2 with ⟨rfl,rfl,rfl⟩|⟨rfl,rfl,rfl⟩|⟨hj2,h2⟩
  .rfl
  .exact absurd hf2 ((Tk z).1 hf1).2
  .exact absurd (r.apart _ _ _ _ _ _ z hlk h2 hl v2 ((Tk z).1 hf1).1 hf2).symm hj2
  .exact absurd hf1 ((Tk z).1 hf2).2
  .rfl
  .exact absurd (r.apart _ _ _ _ _ _ z hlk h2 hl v2 (hsub2 z hf1) hf2).symm hj2
  .exact absurd (r.apart _ _ _ _ _ _ z h1 hlk v1 hl hf1 ((Tk z).1 hf2).1) hj1
  .exact absurd (r.apart _ _ _ _ _ _ z h1 hlk v1 hl hf1 (hsub2 z hf2)) hj1
  .exact r.apart _ _ _ _ _ _ z h1 h2 v1 v2 hf1 hf2
 .intro j x y z hlj hjl hf;rcases back hlj with ⟨rfl,rfl,rfl⟩|⟨rfl,rfl,rfl⟩|⟨_,h⟩
  .exact r.fresh _ _ _ z hlk hl ((Tk z).1 hf).1
  .exact r.fresh _ _ _ z hlk hl (hsub2 z hf)
  .exact r.fresh _ _ _ z h hjl hf
def AV.zJ:AV->Bool
 | .int _ _=>true
 | .bool _=>true
 | .str _=>true
 | .sl .own _ _=>true
 |_=>false
theorem aK1 {w:World} {E E':Env} (hA:∀b,E.A b->E'.A b) {x:AV} {v:Value} {fp:List Nat} (hx:x.zJ=true) (h:R w E x v fp):R w E' x v fp:=by
 cases x with
 |int _ _=>simpa [R] using h
 |bool _=>simpa [R] using h
 |str _=>simpa [R] using h
 |sl g n l=>
  cases g with
  |own=>obtain ⟨a,cap,hv,hown⟩:=rH.1 h;exact rH.2 ⟨a,cap,hv,hown.keeps ⟨λb hb=>⟨hA b hb,rfl⟩,λ_ _=>trivial,λ_ _ _ h=>h.elim,λ_ _ _ h=>h.elim,λ_ _ _ _ _ h=>h.elim⟩ (λ_ _=>rfl)⟩
  |_=>cases hx
 |_=>cases hx
theorem OH {w:World} {E E':Env} (hA:∀b,E.A b->E'.A b):∀{c:List AV} {cs:List Value} {fp:List Nat},c.all AV.zJ=true->Rc w E c cs fp->Rc w E' c cs fp
 |[],[],_,_,h=>h
 |[],_::_,_,_,h=>by simp [Rc] at h
 |_::_,[],_,_,h=>by simp [Rc] at h
 |x::xs,c::cs,fp,hp,h=>by simp only [Rc] at h⊢;simp only [BY,eJ] at hp;obtain ⟨f1,f2,h1,h2,h3⟩:=h;exact ⟨f1,f2,aK1 hA hp.1 h1,OH hA hp.2 h2,h3⟩
theorem WS {w:World} {E E':Env} (hA:∀b,E.A b->E'.A b):∀{l:List (List AV)} {b off n:Nat} {fp:List Nat},(l.all λr=>r.all AV.zJ)=true->Rr w E l b off n fp->Rr w E' l b off n fp
 |[],_,_,_,_,_,h=>h
 |e::es,b,off,n,fp,hp,h=>by simp only [Rr] at h⊢;simp only [BY,eJ] at hp;obtain ⟨cs,f1,f2,h1,h2,h3,h4,h5,h6⟩:=h;exact ⟨cs,f1,f2,h1,h2,h3,OH hA hp.1 h4,WS hA hp.2 h5,h6⟩
theorem QC {α:Type} {p:α->Bool} {l:List α} (k:Nat) (h:l.all p=true):(l.take k).all p=true:=by rw [fS] at h⊢;exact λx hx=>h x (sC hx)
theorem QD {α:Type} {p:α->Bool} {l:List α} (k:Nat) (h:l.all p=true):(l.drop k).all p=true:=by rw [fS] at h⊢;exact λx hx=>h x (AK hx)
theorem GU {α:Type} (l:List α) (k:Nat) (x:α):(l.set k x).take k=l.take k:=by rw [take_set];exact By (by simp;omega)
theorem GV {α:Type} (l:List α) (k:Nat) (x:α):(l.set k x).drop (k+1)=l.drop (k+1):=by rw [drop_set];simp
theorem QE {t t':List AV} {o o':List aM} (i J k c:Nat) {ob oj:aM} {e:List AV} {bY:Nat} (ho:o[i]? =some ob) (hj:o[J]? =some oj) (hij:i≠J) (hl:ob.live=true) (hlj:oj.live=true) (hbj:oj.box=false)
  (he:ob.dR[k]? =some e) (hc:e[c]? =some (.obj J bY)) (zV:oj.bY=bY) (hp:((ob.dR.set k (e.set c (.int .i64 0))).all λr=>r.all AV.zJ)=true) (GD:ob.box=true)
  (ho':(o.set J oj.kill).set i {ob with box:=false,dR:=ob.dR.set k (e.set c (.sl .own oj.n oj.dR))}=o') (hw:wk t t'):mK ⟨t,o⟩ ⟨t',o'⟩:=by
 subst ho';rintro P _ B a w ⟨G,r⟩;obtain ⟨g,hlk⟩:=r.look ho;obtain ⟨gj,aHb⟩:=r.look hj;obtain ⟨fp,hown,hnd,hF⟩:=r.ok i ob g hlk hl;obtain ⟨fj,MF,aF3,Te⟩:=r.ok J oj gj aHb hlj;simp only [GD,Env.of,gE] at hown;simp only [hbj,Env.of,eS,gS] at MF;obtain ⟨hlen,⟨h,_⟩|⟨b,off,C,ty,fz,pX,ha,hbk,hz,h1,h2,h3,rfl,hr⟩⟩:=hown
 .rw [h] at he;simp at he
 have hk:k < ob.dR.length:=(cH.1 he).1;have zT:c < e.length:=(cH.1 hc).1;obtain ⟨f1,f2,f3,cs,rfl,hn,hcs,hone,hre,hr1,hr3⟩:=zW hr he;obtain ⟨a1,a2,a3,v,rfl,hv,k1,k2,k3⟩:=aCy hre hc;simp only [R] at k2;obtain ⟨rfl,ob2,g2,hl2,_,hh,_⟩:=k2;obtain ⟨rfl,rfl⟩:=lG aHb hl2;have hvs:=hh hlj zV;obtain ⟨r2,kk⟩:=r.Pn hij hlk aHb hl hlj;generalize hgt:({g with F:=λb=>g.F b\/gj.F b}:CO)=gt at r2 kk;have aR2:gt.a=g.a:=by rw [<-hgt]
 have aK2:gt.cap=g.cap:=by rw [<-hgt]
 have aR3:∀x,gt.F x↔g.F x\/gj.F x:=λx=>by rw [<-hgt]
 have Wn:look (o.set J oj.kill) (G.set i gt) i ob gt:=by refine ⟨by rw [lA (As hij)];exact hlk.1,?_⟩;have:=(cH.1 hlk.2).1;simp [this]
 have hpe:(e.set c (.int .i64 0)).all AV.zJ=true:=by rw [fS] at hp;exact hp _ (mem_iff_getElem?.2 ⟨k,by rw [mB hk]⟩)
 have hm:=r2.modify Wn hl {ob with box:=false,dR:=ob.dR.set k (e.set c (.sl .own oj.n oj.dR))} gt w (eE _) rfl (λ_=>⟨rfl,rfl,by simp⟩) (λb hb=> .inl hb) (λb hb hne=>⟨hb,hne⟩) (λ_ _ _=>rfl) (eE _) (λkm _=>by
  generalize hE:env B ((o.set J oj.kill).set i {ob with box:=false,dR:=ob.dR.set k (e.set c (.sl .own oj.n oj.dR))}) ((G.set i gt).set i gt) w=E';replace km:fA w (env B (o.set J oj.kill) (G.set i gt) w) w E':=by rw [<-hE];exact km
  have kA:∀x,(env B o G w).A x->E'.A x:=λx hx=>(km.a x (kk.a x hx).1).1
  have kp:fA w (env B o G w).plain w E'.plain:=⟨λx hx=>⟨kA x hx,rfl⟩,λ_ _=>trivial,λ_ _ _ h=>h.elim,λ_ _ _ h=>h.elim,λ_ _ _ _ _ h=>h.elim⟩;refine ⟨b::(f1++(a1++fj++a3)++f3),?_,?_,?_⟩
  .simp only [Env.of,eS,gS];refine ⟨by simpa using hlen,.inr ⟨b,off,C,ty,fz,_,by rw [aR2];exact ha,hbk,hz,by rw [aK2];exact h1,by rw [aK2];simpa using h2,by rw [aK2];exact h3,rfl,?_⟩⟩;refine Uy hk hn hcs hone (mf zT hv ?_ ?_ ?_) ?_ ?_
   .exact OH (E:=env B o G w) (E':=E'.plain) kA (by have:=QC c hpe;rwa [GU] at this) k1
   .exact rH.2 ⟨gj.a,gj.cap,hvs,MF.keeps kp (λ_ _=>rfl)⟩
   .exact OH (E:=env B o G w) (E':=E'.plain) kA (by have:=QD (c+1) hpe;rwa [GV] at this) k3
   .exact WS (E:=env B o G w) (E':=E'.plain) kA (by have:=QC k hp;rwa [GU] at this) hr1
   .exact WS (E:=env B o G w) (E':=E'.plain) kA (by have:=QD (k+1) hp;rwa [GV] at this) hr3
  .have hdj:∀x∈fj,x∉b::(f1++(a1++[]++a3)++f3):=λx hx hx2=>hij (r.apart _ _ _ _ _ _ x hlk aHb hl hlj (hF x hx2) (Te x hx))
   have UY:(b::(f1++(a1++fj++a3)++f3)).Perm ((b::(f1++(a1++[]++a3)++f3))++fj):=by rw [eI];refine Perm.cons b ?_;simp only [rL,eN];refine DS f1 (DS a1 ?_);rw [<-rL a3];exact perm_append_comm
   refine UY.nodup_iff.2 (gC.2 ⟨hnd,aF3,λx hx y hy e=> ?_⟩);subst e;exact hdj x hy hx
  .intro x hx;rw [aR3];have:x∈b::(f1++(a1++[]++a3)++f3)\/x∈fj:=by simp only [lB,fL,CC,Ft] at hx⊢;grind
   rcases this with h|h
   .exact .inl (hF x h)
   .exact .inr (Te x h))
 refine ⟨(G.set i gt).set i gt,{hm.1 with tmps:= ?_}⟩;exact ER hw hm.1.tmps
mutual
def Ez (i:Nat):AV->Bool
 | .sl (.jZ j) _ _=>decide (j≠i)
 | .gD (.jZ j) _ _=>decide (j≠i)
 | .agg c=>vU i c
 | .iJ c=>vU i c
 | .fn _ c=>vU i c
 |_=>true
def vU (i:Nat):List AV->Bool
 |[]=>true
 |x::xs=>Ez i x&&vU i xs
end
def Env.no (E:Env) (i:Nat):Env:={E with D:=λj x=>j∉[i]/\E.D j x}
theorem YT {w:World} {E:Env} {i j:Nat} (h:j≠i):fA w (E.sub (.jZ j)) w ((E.no i).sub (.jZ j)):=
 ⟨λb h=>⟨h,rfl⟩,λ_ _=>trivial,λk b _ hd=>⟨⟨hd.1,by simpa using h,hd.2⟩,rfl⟩,λ_ _ _ h=>h.elim,λ_ _ _ _ _ h=>h.elim⟩
mutual
theorem aHc {w:World} {E:Env} {i:Nat}:∀(x:AV) (v:Value) (fp:List Nat),Ez i x=true->R w E x v fp->R w (E.no i) x v fp
 | .int _ _,_,_,_,h=>by simpa [R] using h
 | .bool _,_,_,_,h=>by simpa [R] using h
 | .str _,_,_,_,h=>by simpa [R] using h
 | .sl .own n l,v,fp,_,h=>rH.2 (rH.1 h)
 | .sl .view n l,v,fp,_,h=>by
  simp only [R] at h⊢;rcases h with h|⟨a,cap,hv,hl,h⟩
  .exact h.1.elim
  .refine .inr ⟨a,cap,hv,hl,?_⟩;rcases h with h|h|⟨hg,hf,h⟩
   .exact absurd h.1 (by simp)
   .exact absurd h.1 (by simp)
   .exact .inr (.inr ⟨hg,hf,h⟩)
 | .sl (.jZ j) n l,v,fp,hc,h=>by
  have hi:j≠i:=by simpa [Ez] using hc
  simp only [R] at h⊢;rcases h with h|⟨a,cap,hv,hl,h⟩
  .exact .inl h
  .refine .inr ⟨a,cap,hv,hl,?_⟩;rcases h with h|h|⟨hg,hf,h⟩
   .exact absurd h.1 (by simp)
   .exact absurd h.1 (by simp)
   .refine .inr (.inr ⟨hg,hf,?_⟩);rcases h with h|⟨b,off,ha,ht,hr⟩
    .exact .inl h
    .exact .inr ⟨b,off,ha,⟨by simpa using hi,ht⟩,mO (YT hi) _ _ _ _ _ rfl (by simp) hr⟩
 | .gD .own c off,v,fp,_,h=>by
  simp only [R] at h⊢;rcases h with h|⟨_,_,_,_,_,ht,_⟩
  .exact h.1.elim
  .exact ht.elim
 | .gD .view c off,v,fp,_,h=>by
  simp only [R] at h⊢;rcases h with h|⟨hf,b,o',cs,hv,ht,hcs,hone,hr⟩
  .exact h.1.elim
  .exact .inr ⟨hf,b,o',cs,hv,ht,hcs,hone,hr⟩
 | .gD (.jZ j) c off,v,fp,hc,h=>by
  have hi:j≠i:=by simpa [Ez] using hc
  simp only [R] at h⊢;rcases h with h|⟨hf,b,o',cs,hv,ht,hcs,hone,hr⟩
  .exact .inl h
  .exact .inr ⟨hf,b,o',cs,hv,⟨by simpa using hi,ht⟩,hcs,hone,dX (YT hi) _ _ _ (by simp) hr⟩
 | .obj _ _,v,fp,_,h=>by simp only [R] at h⊢;exact h
 | .ptr _ _ _ _,v,fp,_,h=>by simp only [R] at h⊢;exact h
 | .agg c,v,fp,hc,h=>by simp only [R] at h⊢;obtain ⟨cs,h1,h2,h3⟩:=h;exact ⟨cs,h1,h2,Ff c cs fp (by simpa [Ez] using hc) h3⟩
 | .iJ c,v,fp,hc,h=>by simp only [R] at h⊢;obtain ⟨cs,h1,h3⟩:=h;exact ⟨cs,h1,Ff c cs fp (by simpa [Ez] using hc) h3⟩
 | .fn f c,v,fp,hc,h=>by simp only [R] at h⊢;obtain ⟨h0,cs,h1,h3⟩:=h;exact ⟨h0,cs,h1,Ff c cs [] (by simpa [Ez] using hc) h3⟩
 | .undef,_,_,_,h=>by simpa [R] using h
theorem Ff {w:World} {E:Env} {i:Nat}:∀(c:List AV) (cs:List Value) (fp:List Nat),vU i c=true->Rc w E c cs fp->Rc w (E.no i) c cs fp
 |[],[],_,_,h=>by simpa [Rc] using h
 |[],_::_,_,_,h=>by simp [Rc] at h
 |_::_,[],_,_,h=>by simp [Rc] at h
 |x::xs,c::cs,fp,hc,h=>by simp only [Rc] at h⊢;simp only [vU,eJ] at hc;obtain ⟨f1,f2,h1,h2,h3⟩:=h;exact ⟨f1,f2,aHc x c f1 hc.1 h1,Ff xs cs f2 hc.2 h2,h3⟩
end
theorem YU {w:World} {E:Env} {i:Nat}:∀(l:List (List AV)) (b off n:Nat) (fp:List Nat),(l.all λc=>vU i c)=true->Rr w E l b off n fp->Rr w (E.no i) l b off n fp
 |[],_,_,_,_,_,h=>by simpa [Rr] using h
 |e::es,b,off,n,fp,hc,h=>by simp only [Rr] at h⊢;simp only [BY,eJ] at hc;obtain ⟨cs,f1,f2,h1,h2,h3,h4,h5,h6⟩:=h;exact ⟨cs,f1,f2,h1,h2,h3,Ff e cs f1 hc.1 h4,YU es b _ n f2 hc.2 h5,h6⟩
theorem uW.Ez {w:World} {E:Env} {n:Nat} {l:List (List AV)} {a:Option Addr} {cap:Nat} {fp:List Nat} {i:Nat} (hc:(l.all λc=>vU i c)=true) (h:uW w E n l a cap fp):uW w (E.no i) n l a cap fp:=by
 obtain ⟨h1,h|⟨b,off,C,e,fz,pX,k1,k2,k3,k4,k5,k6,k7,k8⟩⟩:=h
 .exact ⟨h1,.inl h⟩
 .exact ⟨h1,.inr ⟨b,off,C,e,fz,pX,k1,k2,k3,k4,k5,k6,k7,YU l b off n pX hc k8⟩⟩
theorem tN {t t':List AV} {o o':List aM} (i k c:Nat) {ob:aM} {e:List AV} {m:Nat} {rows:List (List AV)} (ho:o[i]? =some ob) (hl:ob.live=true) (hb:ob.box=true) (hall:(o.all λx=> !x.box || x.dR.all λc=>vU i c)=true) (he:ob.dR[k]? =some e)
  (hc:e[c]? =some (.sl .own m rows)) (ho':o.set i {ob with dR:=ob.dR.set k (e.set c (.obj o.length 1))}++[⟨true,false,m,1,rows⟩]=o') (hw:wk (xS (iU [i]) true t) t'):mK ⟨t,o⟩ ⟨t',o'⟩:=by
 subst ho';rintro P _ B a w ⟨G,r⟩;have nb:∀{j x g},look o G j x g->x.box=true->(x.dR.all λc=>vU i c)=true:=λh hb=>by have:=fS.1 hall _ (oE h.1);simpa only [hb,Fi,Bool.false_or] using this
 obtain ⟨g,hlk⟩:=r.look ho;obtain ⟨fp,hown,hnd,hF⟩:=r.ok i ob g hlk hl;simp only [hb,Env.of,gE] at hown;replace hown:=hown.Ez (nb hlk hb);obtain ⟨hlen,⟨h,_⟩|⟨b,off,C,ty,fz,pX,ha,hbk,hz,h1,h2,h3,rfl,hr⟩⟩:=hown
 .rw [h] at he;simp at he
 have hk:k < ob.dR.length:=(cH.1 he).1;have zT:c < e.length:=(cH.1 hc).1;obtain ⟨f1,f2,f3,cs,rfl,hn,hcs,hone,hre,hr1,hr3⟩:=zW hr he;obtain ⟨a1,a2,a3,v,rfl,hv,k1,k2,k3⟩:=aCy hre hc;obtain ⟨ad,cap',hvs,XR⟩:=rH.1 k2;have hlo:i < o.length:=(cH.1 ho).1;have hsub2:∀x∈a2,g.F x:=λx hx=>hF x (by simp [hx])
 generalize wO:({ob with dR:=ob.dR.set k (e.set c (.obj o.length 1))}:aM)=fI;generalize hg':({g with F:=λx=>g.F x/\x∉a2}:CO)=g';generalize hO:o.set i fI++[⟨true,false,m,1,rows⟩]=o';generalize bq:G.set i g'++[⟨ad,cap',λx=>x∈a2⟩]=G';have YS:(G.set i g').length=(o.set i fI).length:=by simp [r.len]
 have back:∀{j x y},look o' G' j x y->(j=i/\x=fI/\y=g')\/(j=o.length/\x=⟨true,false,m,1,rows⟩/\y=⟨ad,cap',λx=>x∈a2⟩)\/(j≠i/\look o G j x y):=by
  intro j x y h;rw [<-hO,<-bq] at h;rcases oF YS h with ⟨_,h⟩|⟨hj,h⟩
  .rcases yZ h with ⟨h1,h2,h3⟩|⟨h1,h2⟩
   .exact .inl ⟨h1,h2,h3⟩
   .exact .inr (.inr ⟨h1,h2⟩)
  .right;left;obtain ⟨h1,h2⟩:=h;cases hd:j - (o.set i fI).length with
   |zero=>rw [hd] at h1 h2;simp at h1 h2 hj hd;exact ⟨by omega,h1.symm,h2.symm⟩
   |succ n=>rw [hd] at h1;simp at h1
 have fi:look o' G' i fI g':=by rw [<-hO,<-bq];exact nC (pY hlk)
 have fJ:look o' G' o.length ⟨true,false,m,1,rows⟩ ⟨ad,cap',λx=>x∈a2⟩:=by rw [<-hO,<-bq];have:=oG (o:=o.set i fI) (o2:=[⟨true,false,m,1,rows⟩]) (G:=G.set i g') (G2:=[⟨ad,cap',λx=>x∈a2⟩]) YS (i:=0) (x:=⟨true,false,m,1,rows⟩) (y:=⟨ad,cap',λx=>x∈a2⟩) ⟨rfl,rfl⟩;simpa using this
 have fo:∀{j x y},j≠i->look o G j x y->look o' G' j x y:=λhj h=>by rw [<-hO,<-bq];exact nC (BQ h hj)
 have aOn:fI.live=true:=by rw [<-wO];exact hl
 have aCz:fI.n=ob.n:=by rw [<-wO]
 have aOo:fI.bY=ob.bY:=by rw [<-wO]
 have aC0:fI.dR.length=ob.dR.length:=by rw [<-wO];simp
 have hga:g'.a=g.a:=by rw [<-hg']
 have hgc:g'.cap=g.cap:=by rw [<-hg']
 have Tk:∀x,g'.F x↔g.F x/\x∉a2:=λx=>by rw [<-hg']
 let Er:Env:=(env B o G w).no i
 have rt1:mV (iU [i]) true (env B o G w) Er (λ_=>True):=by
  refine ⟨λt e=>by simp [iU] at e,λt e=>by simp only [iU,eC] at e;exact ⟨e.symm,λb hb=>hb⟩,λj t e=> ?_,λ_ _ _ _ h=>h,λ_ _ _ _ _ _ h=>h⟩;simp only [iU] at e;split at e
  .cases e
  .rename_i hiu;obtain rfl:=cQ e;refine ⟨by simp,?_,λb hb=>⟨hiu,hb⟩⟩;by_cases hV:(env B o G w).V j
   .exact .inl hV
   .exact .inr hV
 have kA:∀x,(env B o G w).A x->(env B o' G' w).A x:=λx hx=>⟨hx.1,λj y z hlj hjl hf=>by
  rcases back hlj with ⟨rfl,rfl,rfl⟩|⟨rfl,rfl,rfl⟩|⟨_,h⟩
  .exact hx.2 _ _ _ hlk hl ((Tk x).1 hf).1
  .exact hx.2 _ _ _ hlk hl (hsub2 x hf)
  .exact hx.2 _ _ _ h hjl hf⟩
 have k2':fA w Er w (env B o' G' w):=by
  refine ⟨λx hx=>⟨kA x hx,rfl⟩,λj h x hx=> ?_,λj x hV h=> ?_,λj bY x h=> ?_,λj bY p q x h=> ?_⟩
  .obtain ⟨y,hy⟩:=r.look hx;by_cases hj:j=i
   .subst hj;rw [ho] at hx;obtain rfl:=cQ hx;exact hl
   .exact h x (fo hj hy).1
  .obtain ⟨hji,x',y,hlj,hjl,hf,hne⟩:=h;exact ⟨⟨x',y,fo (by simpa using hji) hlj,hjl,hf,hne⟩,rfl⟩
  .obtain ⟨x',y,hlj,zV,hh,hz⟩:=h;by_cases hj:j=i
   .subst hj;obtain ⟨rfl,rfl⟩:=lG hlk hlj;exact ⟨fI,g',fi,by omega,λ_ Tq=>by rw [hga,hgc,aC0];exact hh hl (by omega),hz⟩
   .exact ⟨x',y,fo hj hlj,zV,hh,hz⟩
  .obtain ⟨x',y,hlj,zV,hh,hz⟩:=h;by_cases hj:j=i
   .subst hj;obtain ⟨rfl,rfl⟩:=lG hlk hlj;exact ⟨fI,g',fi,by omega,λ_ Tq=>by rw [hga,aCz];exact hh hl (by omega),λ_ e2 e3 e4 y hy=>⟨(hz hb e2 e3 e4 y hy).1,λ_ Tq=>by rw [hgc];exact (hz hb e2 e3 e4 y hy).2 hl (by omega)⟩⟩
   .exact ⟨x',y,fo hj hlj,zV,hh,hz⟩
 have kp:fA w (env B o G w).plain w (env B o' G' w).plain:=⟨λx hx=>⟨kA x hx,rfl⟩,λ_ _=>trivial,λ_ _ _ h=>h.elim,λ_ _ _ h=>h.elim,λ_ _ _ _ _ h=>h.elim⟩;have kf:fA w (env B o G w).plain w (env B o' G' w):=kp.trans (Mw w _);have hnd':=hnd;simp only [mA] at hnd';refine ⟨G',{len:=by rw [<-hO,<-bq];simp [r.len],defs:=r.defs,ok:= ?_,apart:= ?_,fresh:= ?_,tmps:=ER hw (dX k2' _ _ _ (by simp) (wQ rt1 _ _ _ (by simp) r.tmps)),size:=r.size,frame:=r.frame,base:=r.base,same:=r.same}⟩
 .intro j x y hlj hjl;rcases back hlj with ⟨rfl,rfl,rfl⟩|⟨rfl,rfl,rfl⟩|⟨hj,h⟩
  .refine ⟨b::(f1++(a1++[]++a3)++f3),?_,?_,?_⟩
   .rw [<-wO,<-hg'];simp only [hb,Env.of,gE];refine ⟨by simpa using hlen,.inr ⟨b,off,C,ty,fz,_,ha,hbk,hz,h1,by simpa using h2,h3,rfl,?_⟩⟩;refine Uy hk hn hcs hone (mf zT hv (dX k2' _ _ _ (λ_ _=>rfl) k1) ?_ (dX k2' _ _ _ (λ_ _=>rfl) k3)) (mO k2' _ _ _ _ _ rfl (λ_ _=>rfl) hr1) (mO k2' _ _ _ _ _ rfl (λ_ _=>rfl) hr3);simp only [R];exact ⟨trivial,_,_,fJ,eE _,λ_ _=>hvs,λh=>by omega⟩
   .have hs:(f1++(a1++[]++a3)++f3).Sublist (f1++(a1++a2++a3)++f3):=((pS f1).append (((pS a1).append (nil_sublist a2)).append (pS a3))).append (pS f3);exact mA.2 ⟨λh=>hnd'.1 (hs.subset h),hs.nodup hnd'.2⟩
   .intro x hx;rw [Tk];have hin:x∈b::(f1++(a1++a2++a3)++f3):=by simp only [lB,fL,CC,Ft] at hx⊢;grind
    refine ⟨hF x hin,λhx2=> ?_⟩;have hd:=hnd'.2;simp only [gC,fL] at hd;simp only [lB,fL,CC,Ft] at hx;rcases hx with rfl|(hx|hx|hx)|hx
    .exact hnd'.1 (by simp [hx2])
    .exact hd.1.2.2 x hx x (.inl (.inr hx2)) rfl
    .exact hd.1.2.1.1.2.2 x hx x hx2 rfl
    .exact hd.1.2.1.2.2 x (.inr hx2) x hx rfl
    .exact hd.2.2 x (.inr (.inl (.inr hx2))) x hx rfl
  .refine ⟨a2,?_,?_,λx hx=>hx⟩
   .simp only [Env.of,eS,gS];exact XR.keeps kp (λ_ _=>rfl)
   .have hd:=hnd'.2;simp only [gC] at hd;exact hd.1.2.1.1.2.1
  .obtain ⟨fq,q1,q2,q3⟩:=r.ok j x y h hjl;refine ⟨fq,?_,q2,q3⟩;cases hbj:x.box with
   |false=>simp only [hbj,Env.of,eS,gS] at q1⊢;exact q1.keeps kp (λ_ _=>rfl)
   |true=>simp only [hbj,Env.of,gE] at q1⊢;exact (q1.Ez (nb h hbj)).keeps k2' (λ_ _=>rfl)
 .intro j1 j2 x1 x2 y1 y2 z hl1 hl2 v1 v2 hf1 hf2;rcases back hl1 with ⟨rfl,rfl,rfl⟩|⟨rfl,rfl,rfl⟩|⟨hj1,h1⟩<;>rcases back hl2 with ⟨rfl,rfl,rfl⟩|⟨rfl,rfl,rfl⟩|⟨hj2,h2⟩
  .rfl
  .exact absurd hf2 ((Tk z).1 hf1).2
  .exact absurd (r.apart _ _ _ _ _ _ z hlk h2 hl v2 ((Tk z).1 hf1).1 hf2).symm hj2
  .exact absurd hf1 ((Tk z).1 hf2).2
  .rfl
  .exact absurd (r.apart _ _ _ _ _ _ z hlk h2 hl v2 (hsub2 z hf1) hf2).symm hj2
  .exact absurd (r.apart _ _ _ _ _ _ z h1 hlk v1 hl hf1 ((Tk z).1 hf2).1) hj1
  .exact absurd (r.apart _ _ _ _ _ _ z h1 hlk v1 hl hf1 (hsub2 z hf2)) hj1
  .exact r.apart _ _ _ _ _ _ z h1 h2 v1 v2 hf1 hf2
 .intro j x y z hlj hjl hf;rcases back hlj with ⟨rfl,rfl,rfl⟩|⟨rfl,rfl,rfl⟩|⟨_,h⟩
  .exact r.fresh _ _ _ z hlk hl ((Tk z).1 hf).1
  .exact r.fresh _ _ _ z hlk hl (hsub2 z hf)
  .exact r.fresh _ _ _ z h hjl hf
attribute [simp] Ez vU
def quiet:Op->Bool
 | .move _| .assign _| .load _ _| .fieldAddr _ _ _| .indexAddr _ _ _| .index _ _ _| .extract _ _| .unOp _ _ _| .binOp _ _ _ _ _| .convert _ _ _| .pick _ _ _| .alloc _| .box _ _| .build _ _| .nilCheck _=>true
 | .call ⟨.builtin .len,⟨[_]⟩,⟨[_]⟩⟩=>true
 | .call ⟨.value _,_,_⟩=>true
 |_=>false
def nI (op:Op) (s:AS):Bool:=match op with
 | .buildSlice _ _ parts=>(kH ((parts.toList.map (·.2)).map s.ev)).isEmpty
 | .slice _ x _ _ none=>match s.ev x with
  | .str _=>true
  | .sl _ _ _=>true
  |_=>false
 | .call ⟨.builtin .append,⟨[x,y]⟩,_⟩=>(match s.ev x with| .sl .own _ []=>true|_=>false)&&(match s.ev y with| .sl .own _ []=>true| .sl .view _ _=>true| .str _=>true|_=>false)
 |o=>quiet o
mutual
theorem aBo {o o':List aM}:∀x:AV,lU x=[]->res o x=res o' x/\jM o x=jM o' x
 | .obj i v,h=>by simp [lU] at h
 | .agg c,h=>by have:=FV (o:=o) (o':=o') c (by simpa [lU] using h);simp only [res,jM,this,Fo]
 | .iJ c,h=>by have:=FV (o:=o) (o':=o') c (by simpa [lU] using h);simp only [res,jM,this,Fo]
 | .int _ _,_=>⟨rfl,rfl⟩
 | .bool _,_=>⟨rfl,rfl⟩
 | .str _,_=>⟨rfl,rfl⟩
 | .sl .own _ _,_=>⟨rfl,rfl⟩
 | .sl .view _ _,_=>⟨rfl,rfl⟩
 | .sl (.jZ _) _ _,_=>⟨rfl,rfl⟩
 | .gD .own _ _,_=>⟨rfl,rfl⟩
 | .gD .view _ _,_=>⟨rfl,rfl⟩
 | .gD (.jZ _) _ _,_=>⟨rfl,rfl⟩
 | .ptr _ _ _ _,_=>⟨rfl,rfl⟩
 | .fn _ [],_=>⟨rfl,rfl⟩
 | .fn _ (_::_),_=>⟨rfl,rfl⟩
 | .undef,_=>⟨rfl,rfl⟩
theorem FV {o o':List aM}:∀c:List AV,kH c=[]->tC o c=tC o' c/\mW o c=mW o' c
 |[],_=>⟨rfl,rfl⟩
 |x::xs,h=>by simp only [kH,append_eq_nil_iff] at h;have h1:=aBo (o:=o) (o':=o') x h.1;have h2:=FV (o:=o) (o':=o') xs h.2;simp only [tC,mW,h1,h2,Fo]
end
theorem wu {o:List aM}:∀{c:List AV},(∀x∈tC o c,x.yA=true)->∀x∈c,x≠ .undef
 |[],_,x,hx=>by cases hx
 |y::ys,h,x,hx=>by
  rcases lB.1 hx with rfl|hx
  .rintro rfl;have:=h .undef (by simp [tC,res]);simp [AV.yA,AV.MC] at this
  .exact wu (o:=o) (c:=ys) (λz hz=>h z (by simp [tC,hz])) x hx
def sI (t:List AV):Option Tmp->AV->List AV
 |some d,x=>t.set d x
 |none,_=>t
theorem put_eq (t:List AV) (o:List aM) (d:Option Tmp) (x:AV):AS.put ⟨t,o⟩ d x=⟨sI t d x,o⟩:=by cases d<;>rfl
theorem iy:∀{t2 t:List AV} (i:Nat),wk t2 t->t.getD i .undef=t2.getD i .undef\/t.getD i .undef= .undef
 |[],[],_,_=> .inl rfl
 |[],_::_,_,h=>h.elim
 |_::_,[],_,h=>h.elim
 |x::xs,y::ys,0,h=>by simpa [getD] using h.1
 |x::xs,y::ys,i+1,h=>by simpa [getD] using iy i h.2
theorem Ll (t:List AV) (o:List aM) (d:Option Tmp) (c:List AV):AS.box ⟨t,o⟩ d c=⟨sI t d (.ptr o.length 0 0 0),o++[⟨true,true,c.length,0,[c]⟩]⟩:=put_eq _ _ _ _
theorem FW (t:List AV) (o:List aM) (d:Option Tmp) (r:AV):AS.called ⟨t,o⟩ d r=⟨sI t d (dH 1 o.length r).1,o++(dH 1 o.length r).2⟩:=put_eq _ _ _ _
section
variable {t t2 : List AV} {o o2 : List aM}
theorem UR (hw:wk t2 t) (x:Operand):(AS.ev ⟨t,o⟩ x)=(AS.ev ⟨t2,o2⟩ x)\/(AS.ev ⟨t,o⟩ x)= .undef:=by
 cases x with
 |tmp i=>exact iy i hw
 |const v=>exact .inl rfl
 |func f=>exact .inl rfl
 |global g=>exact .inl rfl
theorem BV (hw:wk t2 t) {x:Operand} {y:AV} (h:AS.ev ⟨t,o⟩ x=y) (hy:y≠ .undef):AS.ev ⟨t2,o2⟩ x=y:=by
 rcases UR (o:=o) (o2:=o2) hw x with h'|h'
 .rw [<-h',h]
 .rw [h] at h';exact absurd h' hy
def Sub (o o2:List aM):Prop:=∀(i:Nat) (ob:aM),o[i]? =some ob->ob.live=true->o2[i]? =some ob
theorem yB (hs:Sub o o2) {i bY:Nat} {ob:aM} (h:AV.isObj o i bY=some ob):AV.isObj o2 i bY=some ob:=by
 unfold AV.isObj at h⊢;split at h
 .rename_i x hx;split at h
  .rename_i hc;rw [hs _ _ hx hc.1];simp only [hc,Fo,gE];exact h
  .cases h
 .cases h
theorem aBp (hs:Sub o o2) {i bY idx:Nat} {p:aM×List AV} (h:AS.at ⟨t,o⟩ i bY idx=some p):AS.at ⟨t2,o2⟩ i bY idx=some p:=by
 unfold AS.at at h⊢;split at h
 .rename_i ob h1;simp only [yB hs h1];exact h
 .cases h
theorem Bc (hs:Sub o o2) {i bY:Nat} (h:(AV.isObj o i bY).isSome=true):(AV.isObj o2 i bY).isSome=true:=by obtain ⟨ob,h⟩:=Bk.1 h;rw [yB hs h];rfl
theorem yQ (hs:Sub o o2) {x:AV} (h:x.fit o=true):x.fit o2=true:=by
 cases x with
 |sl g n l=>
  cases g with
  |jZ i=>
   simp only [AV.fit] at h⊢;split at h
   .rename_i ob uX;rw [hs _ _ uX h];exact h
   .cases h
  |_=>rfl
 |gD g c off=>
  cases g with
  |jZ i=>
   simp only [AV.fit] at h⊢;split at h
   .rename_i ob uX;rw [hs _ _ uX h];exact h
   .cases h
  |_=>rfl
 |obj i bY=>simp only [AV.fit] at h⊢;exact Bc hs h
 |ptr i bY _ _=>simp only [AV.fit] at h⊢;exact Bc hs h
 |undef=>cases h
 |iJ _=>cases h
 |_=>rfl
theorem ja {x:AV} (h:x.fit o=true):x≠ .undef:=by rintro rfl;cases h
end
mutual
theorem aGh {o o2:List aM} (hs:Sub o o2):∀(x:AV),arg o x≠ .undef->∀(w:World) (v:Value),R w (nP w) (arg o2 x) v []->R w (nP w) (arg o x) v []
 | .obj i bY,hn,w,v,h=>by
  cases ho:AV.isObj o i bY with
  |none=>exact absurd (by simp only [arg,ho]) hn
  |some ob=>simp only [arg,ho,yB hs ho] at h⊢;exact h
 | .ptr i bY idx off,hn,w,v,h=>by
  cases ho:AV.isObj o i bY with
  |none=>exact absurd (by simp only [arg,ho]) hn
  |some ob=>simp only [arg,ho,yB hs ho] at h⊢;exact h
 | .agg c,_,w,v,h=>by simp only [arg,R] at h⊢;obtain ⟨cs,h1,h2,h3⟩:=h;exact ⟨cs,h1,h2,CW hs c w cs h3⟩
 | .iJ c,_,w,v,h=>by simp only [arg,R] at h⊢;obtain ⟨cs,h1,h3⟩:=h;exact ⟨cs,h1,CW hs c w cs h3⟩
 | .fn f c,_,w,v,h=>by simp only [arg,R] at h⊢;obtain ⟨h0,cs,h1,h3⟩:=h;exact ⟨h0,cs,h1,CW hs c w cs h3⟩
 | .int _ _,_,_,_,h=>h
 | .bool _,_,_,_,h=>h
 | .str _,_,_,_,h=>h
 | .sl .own _ _,_,_,_,h=>h
 | .sl .view _ _,_,_,_,h=>h
 | .sl (.jZ i) n l,hn,w,v,h=>by
  cases ho:o[i]? with
  |none=>simp [arg,ho] at hn
  |some ob=>
   by_cases hv:ob.live=true
   .simp only [arg,ho,hs _ _ ho hv] at h⊢;exact h
   .simp [arg,ho,hv] at hn
 | .gD .own _ _,_,_,_,h=>h
 | .gD .view _ _,_,_,_,h=>h
 | .gD (.jZ i) c off,hn,w,v,h=>by
  cases ho:o[i]? with
  |none=>simp [arg,ho] at hn
  |some ob=>
   by_cases hv:ob.live=true
   .simp only [arg,ho,hs _ _ ho hv] at h⊢;exact h
   .simp [arg,ho,hv] at hn
 | .undef,hn,_,_,_=>absurd rfl hn
theorem CW {o o2:List aM} (hs:Sub o o2):∀(c:List AV) (w:World) (cs:List Value),Rc w (nP w) (BM o2 c) cs []->Rc w (nP w) (BM o c) cs []
 |[],_,_,h=>h
 |x::xs,w,[],h=>by simp [BM,Rc] at h
 |x::xs,w,c::cs,h=>by
  simp only [BM,Rc] at h⊢;obtain ⟨f1,f2,h1,h2,e⟩:=h;obtain ⟨rfl,rfl⟩:f1=[]/\f2=[]:=by simpa using e
  refine ⟨[],[],?_,CW hs xs w cs h2,rfl⟩;by_cases hn:arg o x= .undef
  .rw [hn];simp [R]
  .exact aGh hs x hn w c h1
end
theorem Wv {o:List aM}:∀{a2 a:List AV},wk a2 a->wk (BM o a2) (BM o a)
 |[],[],_=>trivial
 |[],_::_,h=>h.elim
 |_::_,[],h=>h.elim
 |x::xs,y::ys,h=>by
  refine ⟨?_,Wv h.2⟩;rcases h.1 with rfl|rfl
  .exact .inl rfl
  .exact .inr rfl
theorem wy {t t2:List AV} {o o2:List aM} (hw:wk t2 t) (l:List Operand) (cap:List AV):wk (l.map (AS.ev ⟨t2,o2⟩)++cap) (l.map (AS.ev ⟨t,o⟩)++cap):=by
 induction l with
 |nil=>
  simp only [EV,eN];induction cap with
  |nil=>trivial
  |cons x xs ih=>exact ⟨.inl rfl,ih⟩
 |cons x xs ih=>exact ⟨UR hw x,ih⟩
theorem Ok.mono {P:Program} [aC P] {f:FuncId} {a a2:List AV} {r:AV} (h:Ok P f a r) (hs:∀w vs,Rc w (nP w) a2 vs []->Rc w (nP w) a vs []):Ok P f a2 r:=
 λw vs hg hr=>h w vs hg (hs w vs hr)
theorem Yl:∀(q k k':Nat) (x:AV),(dH q k x).2=[]->dH q k' x=dH q k x:=by intro q k k' x h;exact (go q k k').1 x h
where
 go (q k k':Nat):(∀x:AV,(dH q k x).2=[]->dH q k' x=dH q k x)/\(∀c:List AV,(fG q k c).2=[]->fG q k' c=fG q k c):=
  ⟨λx=>one x,λc=>all c⟩
 one {q k k':Nat}:∀x:AV,(dH q k x).2=[]->dH q k' x=dH q k x
  | .sl .own n l,h=>by simp [dH] at h
  | .agg c,h=>by simp only [dH] at h⊢;rw [all c h]
  | .iJ c,h=>by simp only [dH] at h⊢;rw [all c h]
  | .sl .view _ _,_=>rfl
  | .sl (.jZ _) _ _,_=>rfl
  | .int _ _,_=>rfl
  | .bool _,_=>rfl
  | .str _,_=>rfl
  | .gD _ _ _,_=>rfl
  | .obj _ _,_=>rfl
  | .ptr _ _ _ _,_=>rfl
  | .fn _ _,_=>rfl
  | .undef,_=>rfl
 all {q k k':Nat}:∀c:List AV,(fG q k c).2=[]->fG q k' c=fG q k c
  |[],_=>rfl
  |x::xs,h=>by
   simp only [fG,append_eq_nil_iff] at h⊢;have h1:=one (k':=k') x h.1;rw [h1];have h2:(dH q k x).2.length=0:=by rw [h.1];rfl
   rw [h2] at h⊢;have h3:=all (k:=k+0) (k':=k'+0) xs h.2;rw [h3]
theorem DL {t2 t:List AV} {o o2:List aM} (hw:wk t2 t) {d n:Nat} {x:Option Operand} (h:AS.bound ⟨t,o⟩ d x=some n):AS.bound ⟨t2,o2⟩ d x=some n:=by
 cases x with
 |none=>exact h
 |some x=>
  simp only [AS.bound] at h⊢;split at h
  .rename_i hx;rw [BV (o2:=o2) hw hx (by simp)];exact h
  .cases h
theorem Ym {P:Program} [aC P] {op:Oper} {t t2:List AV} {o o2:List aM} {K:AS->Prop} (q:nI op.op ⟨t,o⟩=true) (hw:wk t2 t) (h:qJ P op ⟨t,o⟩ K) (hs:Sub o o2) (zY:o2.length=o.length\/∀s',K s'->s'.o.length=o.length):
  ∃x new x2,K ⟨sI t op.dst x,o++new⟩/\(x=x2\/x= .undef)/\(o2.length=o.length\/new=[])/\∀K2:AS->Prop,K2 ⟨sI t2 op.dst x2,o2++new⟩->qJ P op ⟨t2,o2⟩ K2:=by
 have same:∀{x:AV},K (AS.put ⟨t,o⟩ op.dst x)->(∀K2:AS->Prop,K2 (AS.put ⟨t2,o2⟩ op.dst x)->qJ P op ⟨t2,o2⟩ K2)->
   ∃x new x2,K ⟨sI t op.dst x,o++new⟩/\(x=x2\/x= .undef)/\(o2.length=o.length\/new=[])/\∀K2:AS->Prop,K2 ⟨sI t2 op.dst x2,o2++new⟩->qJ P op ⟨t2,o2⟩ K2:=by
  intro x h1 h2;refine ⟨x,[],x,by rw [fX,<-put_eq];exact h1,.inl rfl,.inr rfl,λK2 hK=>h2 K2 ?_⟩;rw [put_eq];rw [fX] at hK;exact hK
 obtain ⟨dst,op,ty,pos,after,gd⟩:=op;have E:∀{x:Operand} {y:AV},AS.ev ⟨t,o⟩ x=y->y≠ .undef->AS.ev ⟨t2,o2⟩ x=y:=λh hy=>BV hw h hy
 unfold qJ at h;dsimp only at h q same⊢;split at h;case h_1=>
  rename_i X;refine ⟨_,[],AS.ev ⟨t2,o2⟩ X,by rw [put_eq] at h;rw [fX];exact h,UR hw X,.inr rfl,λK2 hK=> ?_⟩;unfold qJ;dsimp only;rw [put_eq];rw [fX] at hK;exact hK
 case h_2=>
  rename_i X;refine ⟨_,[],AS.ev ⟨t2,o2⟩ X,by rw [put_eq] at h;rw [fX];exact h,UR hw X,.inr rfl,λK2 hK=> ?_⟩;unfold qJ;dsimp only;rw [put_eq];rw [fX] at hK;exact hK
 case h_3=>
  split at h
  .rename_i b hc;rename_i X Y _;refine ⟨if b then AS.ev ⟨t,o⟩ X else AS.ev ⟨t,o⟩ Y,[],if b then AS.ev ⟨t2,o2⟩ X else AS.ev ⟨t2,o2⟩ Y,by rw [put_eq] at h;rw [fX];exact h,?_,.inr rfl,λK2 hK=> ?_⟩
   .cases b
    .exact UR hw Y
    .exact UR hw X
   .unfold qJ;dsimp only;rw [E hc (by simp)];dsimp only;rw [put_eq];rw [fX] at hK;exact hK
  .exact h.elim
 case h_4=>
  split at h
  .rename_i z hz;rcases zY with hlen|zY
   .refine ⟨.ptr o.length 0 0 0,[⟨true,true,z.length,0,[z]⟩],.ptr o.length 0 0 0,by rw [Ll] at h;exact h,.inl rfl,.inl hlen,λK2 hK=> ?_⟩
    unfold qJ;dsimp only;rw [hz];dsimp only;rw [Ll,hlen];exact hK
   .have:=zY _ h;rw [Ll] at this;simp at this
  .exact h.elim
 case h_5=>
  rename_i X;obtain ⟨h1,h2⟩:=h;have hX:=E (x:=X) rfl (ja h1);rcases zY with hlen|zY
  .refine ⟨.ptr o.length 0 0 0,[⟨true,true,(AS.ev ⟨t,o⟩ X).cells.length,0,[(AS.ev ⟨t,o⟩ X).cells]⟩],.ptr o.length 0 0 0,by rw [Ll] at h2;exact h2,.inl rfl,.inl hlen,λK2 hK=> ?_⟩
   unfold qJ;dsimp only;rw [hX];refine ⟨yQ hs h1,?_⟩;rw [Ll,hlen];exact hK
  .have:=zY _ h2;rw [Ll] at this;simp at this
 case h_6=>
  rename_i T parts;split at h
  .rename_i pl hp;split at h
   .rename_i z0 hz;obtain ⟨h1,h⟩:=h;split at h
    .rename_i z hf;have zX:(parts.toList.map λp=>(p.1,AS.ev ⟨t2,o2⟩ p.2))=parts.toList.map λp=>(p.1,AS.ev ⟨t,o⟩ p.2):=
      map_congr_left λp hp=>by rw [E (x:=p.2) rfl (ja (h1 p hp))]
     refine same h λK2 hK=> ?_
     unfold qJ;dsimp only;rw [hp];dsimp only;rw [hz];dsimp only;refine ⟨λp hp=>by rw [E (x:=p.2) rfl (ja (h1 p hp))];exact yQ hs (h1 p hp),?_⟩;rw [zX,hf];exact hK
    .exact h.elim
   .exact h.elim
  .exact h.elim
 case h_7=>
  rename_i T len parts;split at h
  .rename_i e n by' he;obtain ⟨k1,k2,k3,k4,k5,k6,k7,k8,h⟩:=h;have hu:kH ((parts.toList.map (·.2)).map (AS.ev ⟨t,o⟩))=[]:=by simpa [nI] using q
   have hL:(parts.toList.map (·.2)).map (AS.ev ⟨t2,o2⟩)=(parts.toList.map (·.2)).map (AS.ev ⟨t,o⟩):=
    map_congr_left λx hx=>E rfl (wu (λy hy=>(k8 y hy).1) _ (Bx.2 ⟨x,hx,rfl⟩))
   have aBq:∀os:List aM,EL [] os=os:=λ_=>rfl
   rcases zY with hlen|zY
   .refine ⟨.obj o.length 1,[⟨true,false,n,1,(tC o ((parts.toList.map (·.2)).map (AS.ev ⟨t,o⟩))).map AV.cells⟩],.obj o.length 1,?_,.inl rfl,.inl hlen,λK2 hK=> ?_⟩
    .unfold AS.built at h;rw [hu,aBq,put_eq] at h;simpa using h
    .unfold qJ;dsimp only;rw [he];dsimp only;refine ⟨k1,k2,k3,k4,k5,?_⟩;rw [hL];have aBr:=FV (o:=o) (o':=o2) _ hu;refine ⟨by rw [<-aBr.2];exact k6,k7,by rw [<-aBr.1];exact k8,?_⟩;unfold AS.built;dsimp only;rw [hL,hu,aBq,put_eq,hlen,<-aBr.1];simpa [hlen] using hK
   .have:=zY _ h;unfold AS.built at this;rw [hu,aBq,put_eq] at this;simp at this
  .exact h.elim
 case h_8=>
  rename_i T X;split at h
  .rename_i hx;split at h
   .rename_i ob e ha;unfold Ag at h;split at h
    .rename_i n hn;refine same h.2 λK2 hK=> ?_
     unfold qJ;dsimp only;rw [E hx (by simp)];dsimp only;rw [aBp hs ha];dsimp only;unfold Ag;rw [hn];exact ⟨h.1,hK⟩
    .rename_i hn;obtain ⟨h1,h⟩:=h;split at h
     .rename_i y hy;refine same h λK2 hK=> ?_
      unfold qJ;dsimp only;rw [E hx (by simp)];dsimp only;rw [aBp hs ha];dsimp only;unfold Ag;rw [hn];dsimp only;rw [hy];exact ⟨h1,hK⟩
     .exact h.elim
   .exact h.elim
  .rename_i hx;obtain ⟨hf,h⟩:=h;unfold Ag at h;split at h
   .rename_i n hn;refine same h.2 λK2 hK=> ?_
    unfold qJ;dsimp only;rw [E hx (by simp)];dsimp only;unfold Ag;rw [hn];exact ⟨yQ hs hf,h.1,hK⟩
   .rename_i hn;obtain ⟨h1,h⟩:=h;split at h
    .rename_i y hy;refine same h λK2 hK=> ?_
     unfold qJ;dsimp only;rw [E hx (by simp)];dsimp only;unfold Ag;rw [hn];dsimp only;rw [hy];exact ⟨yQ hs hf,h1,hK⟩
    .exact h.elim
  .exact h.elim
 case h_9=>cases q
 case h_10=>
  split at h
  .rename_i fo hf;split at h
   .rename_i hx;refine same h.2 λK2 hK=> ?_
    unfold qJ;dsimp only;rw [hf];dsimp only;rw [E hx (by simp)];exact ⟨Bc hs h.1,hK⟩
   .rename_i hx;refine same h.2 λK2 hK=> ?_
    unfold qJ;dsimp only;rw [hf];dsimp only;rw [E hx (by simp)];exact ⟨yQ hs h.1,hK⟩
   .exact h.elim
  .exact h.elim
 case h_11=>
  split at h
  .rename_i hi;obtain ⟨h0,h⟩:=h;split at h
   .rename_i hx;split at h
    .rename_i ob ho;split at h
     .rename_i he;refine same h.2.2.2 λK2 hK=> ?_
      unfold qJ;dsimp only;rw [E hi (by simp)];dsimp only;rw [E hx (by simp)];dsimp only;rw [yB hs ho];dsimp only;rw [he];exact ⟨h0,h.1,h.2.1,h.2.2.1,hK⟩
     .exact h.elim
    .exact h.elim
   .rename_i hx;obtain ⟨hf,h⟩:=h;split at h
    .rename_i he;obtain ⟨hm,h⟩:=h;split at h
     .rename_i hc;refine same h λK2 hK=> ?_
      unfold qJ;dsimp only;rw [E hi (by simp)];dsimp only;rw [E hx (by simp)];dsimp only;rw [he];dsimp only;rw [hc];exact ⟨h0,yQ hs hf,hm,hK⟩
     .exact h.elim
    .exact h.elim
   .rename_i hx;obtain ⟨hso,h⟩:=h;split at h
    .rename_i ha;refine same h.2 λK2 hK=> ?_
     unfold qJ;dsimp only;rw [E hi (by simp)];dsimp only;rw [E hx (by simp)];dsimp only;rw [ha];exact ⟨h0,Bc hs hso,h.1,hK⟩
    .exact h.elim
   .exact h.elim
  .exact h.elim
 case h_12=>
  split at h
  .rename_i hx;split at h
   .rename_i hi;obtain ⟨ht,h0,h⟩:=h;split at h
    .rename_i hu;refine same h λK2 hK=> ?_
     unfold qJ;dsimp only;rw [E hx (by simp)];dsimp only;rw [E hi (by simp)];dsimp only;rw [hu];exact ⟨ht,h0,hK⟩
    .exact h.elim
   .exact h.elim
  .exact h.elim
 case h_13=>
  split at h
  .rename_i hx;split at h
   .rename_i hy;refine same h λK2 hK=> ?_
    unfold qJ;dsimp only;rw [E hx (by simp)];dsimp only;rw [hy];exact hK
   .exact h.elim
  .exact h.elim
 case h_14=>cases q
 case h_15=>cases q
 case h_16=>
  split at h
  .rename_i hx;split at h
   .rename_i ha;split at h
    .rename_i hb;obtain ⟨h1,h2,h3,h⟩:=h;refine same h λK2 hK=> ?_
     unfold qJ;dsimp only;rw [E hx (by simp)];dsimp only;rw [DL hw ha];dsimp only;rw [DL hw hb];exact ⟨h1,h2,h3,hK⟩
    .exact h.elim
   .exact h.elim
  .rename_i hx;split at h
   .rename_i ha;split at h
    .rename_i hb;split at h
     .rename_i he;obtain ⟨h1,h2,h3,h4,h⟩:=h;refine same h λK2 hK=> ?_
      unfold qJ;dsimp only;rw [E hx (by simp)];dsimp only;rw [DL hw ha];dsimp only;rw [DL hw hb];dsimp only;rw [he];exact ⟨h1,yQ hs h2,h3,h4,hK⟩
     .exact h.elim
    .exact h.elim
   .exact h.elim
  .rename_i hx;simp only [nI,hx] at q;cases q
  .exact h.elim
 case h_17=>
  split at h
  .rename_i hx;refine same h λK2 hK=> ?_
   unfold qJ;dsimp only;rw [E hx (by simp)];exact hK
  .exact h.elim
 case h_18=>
  split at h
  .rename_i hx;refine same h λK2 hK=> ?_
   unfold qJ;dsimp only;rw [E hx (by simp)];exact hK
  .exact h.elim
 case h_19=>
  split at h
  .rename_i hx;split at h
   .rename_i hy;obtain ⟨hk,h⟩:=h;split at h
    .rename_i hz;refine same h λK2 hK=> ?_
     unfold qJ;dsimp only;rw [E hx (by simp)];dsimp only;rw [E hy (by simp)];dsimp only;rw [hz];exact ⟨hk,hK⟩
    .exact h.elim
   .exact h.elim
  .rename_i hx;split at h
   .rename_i hy;obtain ⟨hk,h⟩:=h;split at h
    .rename_i hz;refine same h λK2 hK=> ?_
     unfold qJ;dsimp only;rw [E hx (by simp)];dsimp only;rw [E hy (by simp)];dsimp only;rw [hz];exact ⟨hk,hK⟩
    .exact h.elim
   .exact h.elim
  .rename_i hx;split at h
   .rename_i hy;refine same h.2.2 λK2 hK=> ?_
    unfold qJ;dsimp only;rw [E hx (by simp)];dsimp only;rw [E hy (by simp)];exact ⟨h.1,h.2.1,hK⟩
   .exact h.elim
  .rename_i hx;split at h
   .rename_i hy;obtain ⟨h1,h2,h3,b,h4,h5⟩:=h;refine same h5 λK2 hK=> ?_
    unfold qJ;dsimp only;rw [E hx (by simp)];dsimp only;rw [E hy (by simp)];exact ⟨h1,h2,h3,b,h4,hK⟩
   .exact h.elim
  .exact h.elim
 case h_20=>
  split at h
  .rename_i hx;split at h
   .rename_i hk;refine same h.2 λK2 hK=> ?_
    unfold qJ;dsimp only;rw [E hx (by simp)];dsimp only;rw [hk];exact ⟨h.1,hK⟩
   .exact h.elim
  .rename_i hx;refine same h.2.2 λK2 hK=> ?_
   unfold qJ;dsimp only;rw [E hx (by simp)];exact ⟨h.1,h.2.1,hK⟩
  .rename_i hx;split at h
   .rename_i he;obtain ⟨h1,h2,h3,h4,h5,bs,h6,h7⟩:=h;refine same h7 λK2 hK=> ?_
    unfold qJ;dsimp only;rw [E hx (by simp)];dsimp only;rw [he];exact ⟨h1,h2,yQ hs h3,h4,h5,bs,h6,hK⟩
   .exact h.elim
  .rename_i hx;split at h
   .rename_i ho;split at h
    .rename_i he;obtain ⟨h1,h2,h3,h4,bs,h6,h7⟩:=h;refine same h7 λK2 hK=> ?_
     unfold qJ;dsimp only;rw [E hx (by simp)];dsimp only;rw [yB hs ho];dsimp only;rw [he];exact ⟨h1,h2,h3,h4,bs,h6,hK⟩
    .exact h.elim
   .exact h.elim
  .exact h.elim
 case h_21=>
  split at h
  .rename_i hx;refine same h.2 λK2 hK=> ?_
   unfold qJ;dsimp only;rw [E hx (by simp)];exact ⟨h.1,hK⟩
  .rename_i hx;refine same h.2.2 λK2 hK=> ?_
   unfold qJ;dsimp only;rw [E hx (by simp)];exact ⟨yQ hs h.1,h.2.1,hK⟩
  .rename_i hx;split at h
   .rename_i ho;refine same h.2 λK2 hK=> ?_
    unfold qJ;dsimp only;rw [E hx (by simp)];dsimp only;rw [yB hs ho];exact ⟨h.1,hK⟩
   .exact h.elim
  .exact h.elim
 case h_22=>
  rename_i X Y tS xT;simp only [nI,eJ] at q;obtain ⟨qx,qy⟩:=q;split at h
  .rename_i e n by' he;obtain ⟨k1,k2,h⟩:=h;split at qx
   .rename_i m hx;have hx2:=E hx (by simp);rw [hx] at h;simp only [AS.target] at h;have aKe:∀(y:AV),AS.ev ⟨t,o⟩ Y=y->y≠ .undef->(match y with| .sl .own _ []=>true| .sl .view _ _=>true| .str _=>true|_=>false)=true->∀l2 o',AS.source ⟨t,o++[⟨true,false,n,0,[]⟩]⟩ o.length n y=some (l2,o')->
      o'=o++[⟨true,false,n,0,[]⟩]/\AS.source ⟨t2,o2++[⟨true,false,n,0,[]⟩]⟩ o2.length n (AS.ev ⟨t2,o2⟩ Y)=some (l2,o2++[⟨true,false,n,0,[]⟩]):=by
     intro y hy hne hk l2 o' Yn;rw [E hy hne];split at hk
     .simp only [AS.source,eC,oS] at Yn⊢;exact ⟨Yn.2.symm,Yn.1,trivial⟩
     .simp only [AS.source] at Yn⊢;split at Yn
      .rename_i hm;simp only [eC,oS] at Yn;rw [eK hm];exact ⟨Yn.2.symm,by rw [Yn.1]⟩
      .cases Yn
     .simp only [AS.source] at Yn⊢;split at Yn
      .rename_i hm;simp only [eC,oS] at Yn;rw [eK hm];exact ⟨Yn.2.symm,by rw [Yn.1]⟩
      .cases Yn
     .cases hk
    split at h
    .rename_i l2 o' Yn;obtain ⟨h1,h2,h⟩:=h;obtain ⟨rfl,hs2⟩:=aKe _ rfl (by rintro hu;rw [hu] at qy;simp at qy) qy _ _ Yn;have e1:(o++[(⟨true,false,n,0,[]⟩:aM)]).set o.length ⟨true,false,n,0+1,[]++l2⟩=o++[⟨true,false,n,0+1,[]++l2⟩]:=by rw [sX _ _ (eE _)];simp
     have e2:(o2++[(⟨true,false,n,0,[]⟩:aM)]).set o2.length ⟨true,false,n,0+1,[]++l2⟩=o2++[⟨true,false,n,0+1,[]++l2⟩]:=by rw [sX _ _ (eE _)];simp
     unfold AS.wT at h;dsimp only at h;rw [e1,put_eq] at h;rcases zY with hlen|zY
     .refine ⟨.obj o.length (0+1),[⟨true,false,n,0+1,[]++l2⟩],.obj o.length (0+1),h,.inl rfl,.inl hlen,λK2 hK=> ?_⟩
      unfold qJ;dsimp only;rw [he];dsimp only;refine ⟨k1,k2,?_⟩;rw [hx2];simp only [AS.target];rw [hs2];dsimp only;refine ⟨h1,h2,?_⟩;unfold AS.wT;dsimp only;rw [e2,put_eq,hlen];exact hK
     .have:=zY _ h;simp at this
    .exact h.elim
   .cases qx
  .exact h.elim
 case h_23=>
  rename_i F args V9;split at h
  .rename_i g cap hf;split at h
   .rename_i h1;obtain ⟨r,h2,h3⟩:=h;have wC:Ok P g (BM o2 (AS.args ⟨t2,o2⟩ args++cap)) r:=h2.mono λw vs hr=>
     ER (Wv (wy (o:=o) (o2:=o2) hw args.toList cap)) (CW hs _ w vs hr)
    rcases zY with hlen|zY
    .refine ⟨(dH 1 o.length r).1,(dH 1 o.length r).2,(dH 1 o.length r).1,by rw [FW] at h3;exact h3,.inl rfl,.inl hlen,λK2 hK=> ?_⟩
     unfold qJ;dsimp only;rw [E hf (by simp)];dsimp only;rw [eK h1];refine ⟨r,wC,?_⟩;rw [FW,hlen];exact hK
    .have hn:=zY _ h3;simp only [FW,eR] at hn;have hn':(dH 1 o.length r).2=[]:=lE (by omega);have ha:=Yl 1 o.length o2.length r hn';refine ⟨(dH 1 o.length r).1,[],(dH 1 o.length r).1,?_,.inl rfl,.inr rfl,λK2 hK=> ?_⟩
     .rw [FW,hn'] at h3;exact h3
     .unfold qJ;dsimp only;rw [E hf (by simp)];dsimp only;rw [eK h1];refine ⟨r,wC,?_⟩;unfold AS.called;rw [ha,hn',put_eq];simpa using hK
   .rename_i h1;obtain ⟨r,h2,h3⟩:=h;refine same h3 λK2 hK=> ?_
    unfold qJ;dsimp only;rw [E hf (by simp)];dsimp only;rw [cY h1];exact ⟨r,λw vs hr=>h2 w vs (ER (Wv (wy (o:=o) (o2:=o2) hw args.toList cap)) (CW hs _ w vs hr)),hK⟩
  .exact h.elim
 case h_24=>
  split at h
  .rename_i hx;refine same h.2 λK2 hK=> ?_
   unfold qJ;dsimp only;rw [E hx (by simp)];exact ⟨Bc hs h.1,hK⟩
  .rename_i hx;refine same h.2 λK2 hK=> ?_
   unfold qJ;dsimp only;rw [E hx (by simp)];exact ⟨yQ hs h.1,hK⟩
  .exact h.elim
 case h_25=>exact h.elim
end Go.Aw
