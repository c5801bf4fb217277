/- Proved here: steps towards the statement of this claim. No condition. -/
import Derived.Test.YtdcpobkemdacnaaGreatDoorZF9
set_option linter.all false
namespace Go.Aw
open List
def mX (s s':AS):Prop:=∀⦃P:Program⦄ [aC P] (B:gV P) a w,Rel B s a w->Rel B s' a w
def Dj (K:AS->Prop) (Q:Exit->AS->Prop):Exit->AS->Prop
 | .normal,s=>K s
 |e,s=>Q e s
def G7 (id:Nat) (Q:Exit->AS->Prop):Exit->AS->Prop
 | .exit id',s=>if id'=id then Q .normal s else Q (.exit id') s
 |e,s=>Q e s
def lift {P:Program} [aC P] (B:gV P) (Q:Exit->AS->Prop):Exit->Act->World->Prop:=λe a w=>∃s,Q e s/\Rel B s a w
def YD (want:Bool):AV->AV
 | .gZ []=> .bool (!want)
 |x=>x
@[simp] theorem aJ8 (w b:Bool):YD w (.bool b)= .bool b:=rfl
@[simp] theorem aMk (w:Bool):YD w (.gZ [])= .bool (!w):=rfl
theorem aBl {w b:Bool} {x:AV} (h:YD w x= .bool b):(x= .gZ []/\b= !w)\/x= .bool b:=by
 unfold YD at h;split at h
 .exact .inl ⟨rfl,(AV.bool.inj h).symm⟩
 .exact .inr h
theorem jv (w:World) (E:Env):R w E (.gZ []) undef []:=by simp only [R];exact ⟨[],rfl,by simp [Rc]⟩
def rR (all:List Oper) (s:AS) (j:Nat) (want:Bool):AV:=match all[j]? with
 |some o=>match o.dst with
  |some d=>YD want (s.t.getD d .undef)
  |none=> .undef
 |none=> .undef
def NI (P:Program) [aC P] (o:Oper) (s:AS) (K:AS->Prop):Prop:=
 match o.op with
 | .call ⟨.value f,⟨x::ys⟩,_⟩=>match s.ev f with
  | .fn g []=>aT P g=true/\(ys.all λy=>(s.ev y).QA)=true/\jR s.o (s.ev x)=true/\(lT (s.ev x)).Nodup/\∃x' r,OkM P g (res s.o (s.ev x)) x' (ys.map s.ev) r/\(r.iG=true\/r= .gZ [])/\mt s.o (s.ev x) x'=true/\K (s.WU o.dst (s.ev x) x' r)
  |_=>False
 | .convert src d x=>match s.ev x with
  | .str l=>match gX P d with
   |some (e,m,_)=>isString P src=true/\m=1/\intType P e=some .u8/\l.length<=9223372036854775807/\K (s.made o.dst 1 (dQ l))
   |none=>False
  |_=>False
 |_=>False
theorem YE {P:Program} [aC P] {B:gV P} {o:Oper} {s:AS} {K:AS->Prop} (h:NI P o s K):∃s',K s'/\Step P B o s s':=by
 obtain ⟨dst,op,ty,pos,after,gd⟩:=o;unfold NI at h;dsimp only at h;split at h
 .split at h
  .rename_i hf;obtain ⟨h1,h2,h3,h4,x',r,h5,h6,h7,h8⟩:=h;exact ⟨_,h8,aBd _ _ _ _ hf h1 h2 h6 h3 h4 h7 h5⟩
  .exact h.elim
 .split at h
  .rename_i hx;split at h
   .rename_i he;obtain ⟨h1,rfl,h2,h3,h4⟩:=h;exact ⟨_,h4,jq _ _ _ hx h1 he h2 h3⟩
   .exact h.elim
  .exact h.elim
 .exact h.elim
def YF (P:Program) [aC P] (o:Oper) (s:AS) (K:AS->Prop):Prop:=
 match o.op with
 | .call ⟨.value f,args,_⟩=>match s.ev f with
  | .fn g []=>aT P g=true/\∃gs r,Ma P g gs r/\(takes s.o (s.args args) gs).Nodup/\handed s.o (takes s.o (s.args args) gs) (s.args args) gs/\K (s.given o.dst (s.args args) gs r)
  |_=>False
 |_=>False
theorem jw {P:Program} [aC P] {B:gV P} {o:Oper} {s:AS} {K:AS->Prop} (h:YF P o s K):∃s',K s'/\Step P B o s s':=by
 obtain ⟨dst,op,ty,pos,after,gd⟩:=o;unfold YF at h;dsimp only at h;split at h
 .split at h
  .rename_i hf;obtain ⟨h1,gs,r,h2,h3,h4,h5⟩:=h;exact ⟨_,h5,G5 _ _ _ hf h1 h3 h4 h2⟩
  .exact h.elim
 .exact h.elim
theorem mX.refl (s:AS):mX s s:=λ_ _ _ _ _ h=>h
theorem mX.trans {a b c:AS} (h:mX a b) (k:mX b c):mX a c:=λ_ _ B x w r=>k B x w (h B x w r)
def Kh (P:Program) [aC P] (o:Oper) (s:AS) (K:AS->Prop):Prop:=∃s1,mX s s1/\(rM P o s1 K\/NI P o s1 K\/YF P o s1 K)
theorem QF {P:Program} [aC P] {B:gV P} {o:Oper} {s:AS} {K:AS->Prop} (h:Kh P o s K):∃s',K s'/\Step P B o s s':=by
 obtain ⟨s1,hw,h⟩:=h;obtain ⟨s',hK,hst⟩:∃s',K s'/\Step P B o s1 s':=by
  rcases h with h|h|h
  .exact AY h
  .exact YE h
  .exact jw h
 exact ⟨s',hK,λa w next Q hr hn=>hst a w next Q (hw B a w hr) hn⟩
theorem aJ9 {P:Program} [aC P] {o:Oper} {s:AS} {K:AS->Prop} (h:NI P o s K):Kh P o s K:=⟨s,mX.refl s,.inr (.inl h)⟩
theorem aKa {P:Program} [aC P] {o:Oper} {s:AS} {K:AS->Prop} (h:YF P o s K):Kh P o s K:=⟨s,mX.refl s,.inr (.inr h)⟩
theorem aKb {P:Program} [aC P] {o:Oper} {s:AS} {K:AS->Prop} (h:aJ5 P o s K):Kh P o s K:=by
 unfold aJ5 at h;split at h
 .split at h
  .split at h
   .rename_i ob wG;exact ⟨_,λ_ _ B a w hr=>aGh wG h.1 hr,.inl h.2⟩
   .exact h.elim
  .exact h.elim
 .exact h.elim
def HZ (P:Program) [aC P] (o:Oper) (s:AS) (K:AS->Prop):Prop:=∃s1,mX s s1/\aGi P o s1 K
theorem NJ {P:Program} [aC P] {B:gV P} {o:Oper} {s:AS} {K:AS->Prop} (h:HZ P o s K) (a:Act) (w:World) (next:Act->World->Prop) (X:Exit->Act->World->Prop) (hr:Rel B s a w)
  (hn:∀a' w' s',K s'->Rel B s' a' w'->next a' w'):o.wp P a w next X:=by
 obtain ⟨s1,hw,h⟩:=h;exact jr h a w next X (hw B a w hr) hn
def kW (P:Program) [aC P] (all:List Oper):List Oper->AS->(AS->Prop)->Prop
 |[],s,K=>K s
 |o::r,s,K=>match o.guard with
  |none=>(rM P o s λs'=>kW P all r s' K)\/(Kh P o s λs'=>kW P all r s' K)\/(HZ P o s λs'=>kW P all r s' K)
  |some (j,want)=>match rR all s j want with
   | .bool b=>(b=want->(rM P o s λs'=>kW P all r s' K)\/(Kh P o s λs'=>kW P all r s' K)\/(HZ P o s λs'=>kW P all r s' K))/\(b≠want->kW P all r (s.put o.dst (.gZ [])) K)
   |_=>False
def jy (P:Program) [aC P] (ops:Array Oper) (s:AS) (K:AS->Prop):Prop:=
 ∀(B:gV P) a w (Q:Exit->Act->World->Prop),Rel B s a w->(∀a' w' s',K s'->Rel B s' a' w'->Q .normal a' w')->
  wpAny P .any ops Q ops.size (Array.replicate ops.size false) a {w with drawn:=w.drawn+1}
def uV (P:Program) [aC P]:Code->AS->(Exit->AS->Prop)->Prop
 | .skip,s,Q=>Q .normal s
 | .region _ ops false,s,Q=>∃s2,mX s s2/\kW P ops.toList ops.toList s2 (Q .normal)
 | .region _ ops true,s,Q=>jy P ops s (Q .normal)
 | .seq x y,s,Q=>uV P x s (Dj (λs'=>uV P y s' Q) Q)
 | .cond c x y,s,Q=>match s.ev c with
  | .bool b=>(b=true->uV P x s Q)/\(b=false->uV P y s Q)
  |_=>False
 | .block id c,s,Q=>uV P c s (G7 id Q)
 | .loop c,s,Q=>∃(ι:Type) (inv:ι->AS) (μ:ι->Nat) (i:ι),mX s (inv i)/\∀i,uV P c (inv i) (Dj (λs'=>∃j,mX s' (inv j)/\μ j < μ i) Q)
 | .exit id,s,Q=>Q (.exit id) s
 | .ret,s,Q=>Q .ret s
 |_,_,_=>False
theorem QG {P:Program} [aC P] {B:gV P} {s:AS} {G:List CO} {a:Act} {w:World} (r:eF B s G a w) {all:List Oper} {j:Nat} {b want:Bool} (h:rR all s j want= .bool b):(yielded all.toArray a.tmps j == some want)=(b == want):=by
 unfold rR at h;split at h
 .rename_i o ho;split at h
  .rename_i d hd;have h1:=r.ev (.tmp d);simp only [AS.ev] at h1;rcases aBl h with ⟨h0,rfl⟩|h0
   .rw [h0] at h1;simp only [R] at h1;obtain ⟨cs,h2,h3⟩:=h1;cases cs with
    |cons=>simp [Rc] at h3
    |nil=>
     simp only [Act.eval] at h2;rw [fX] at h2;cases hg:a.tmps[d]? with
     |none=>simp [yielded,ho,hd,hg]
     |some v=>simp [hg] at h2;subst h2;simp [yielded,ho,hd,hg]
   .rw [h0] at h1;simp only [R] at h1;have h2:=h1.1;simp only [Act.eval] at h2;rw [fX] at h2;cases hg:a.tmps[d]? with
    |none=>simp [hg] at h2;cases h2
    |some v=>simp [hg] at h2;subst h2;simp [yielded,ho,hd,hg]
  .cases h
 .cases h
theorem Ef {P:Program} [aC P] {B:gV P} {all:List Oper} {Q:Exit->Act->World->Prop}:∀(l:List Oper) (s:AS) (K:AS->Prop),kW P all l s K->∀a w,Rel B s a w->(∀a' w' s',K s'->Rel B s' a' w'->Q .normal a' w')->wpList P all.toArray Q l a w
 |[],s,K,h,a,w,r,hk=>hk _ _ _ h r
 |o::l,s,K,h,a,w,r,hk=>by
  simp only [kW] at h;have stepped:((rM P o s λs'=>kW P all l s' K)\/(Kh P o s λs'=>kW P all l s' K)\/(HZ P o s λs'=>kW P all l s' K))->Region.wanted o (yielded all.toArray a.tmps)=true->wpList P all.toArray Q (o::l) a w:=by
   intro h hw;simp only [wpList,hw,gO];by_cases hcu:HZ P o s λs'=>kW P all l s' K
   .exact .inl (NJ hcu a w _ Q r λa' w' s' h' r'=>Ef l s' K h' a' w' r' hk)
   obtain ⟨s',h',hst⟩:∃s',kW P all l s' K/\Step P B o s s':=by
    rcases h with h|h|h
    .exact AY (B:=B) h
    .exact QF (B:=B) h
    .exact (hcu h).elim
   exact .inl (hst a w _ Q r λa' w' r'=>Ef l s' K h' a' w' r' hk)
  split at h
  .rename_i hg;exact stepped h (by simp [Region.wanted,hg])
  .rename_i j want hg;split at h
   .rename_i b hb;obtain ⟨G,r'⟩:=r;have hy:=QG r' hb;by_cases hbw:b=want
    .exact stepped (h.1 hbw) (by simp [Region.wanted,hg,hy,hbw])
    .have hw:Region.wanted o (yielded all.toArray a.tmps)=false:=by simp [Region.wanted,hg,hy,hbw]
     simp only [wpList,hw,eS,hH];exact Ef l _ K (h.2 hbw) _ _ ⟨G,r'.put o.dst (jv _ _)⟩ hk
   .exact h.elim
theorem WY {ι:Type} (p:ι->Prop) (μ:ι->Nat) (h:∃i,p i):∃i,p i/\∀j,p j->μ i<=μ j:=by
 obtain ⟨i,hi⟩:=h;generalize hn:μ i=n;induction n using Nat.strongRecOn generalizing i with
 |_ n ih=>
  by_cases hex:∃j,p j/\μ j < n
  .obtain ⟨j,hj,hlt⟩:=hex;exact ih (μ j) hlt j hj rfl
  .refine ⟨i,hi,λj hj=> ?_⟩
   rw [hn];exact Nat.le_of_not_lt λhlt=>hex ⟨j,hj,hlt⟩
open Classical in
noncomputable def least {ι : Type} (p : ι -> Prop) (μ : ι -> Nat) : Nat := if h : ∃ i, p i then μ (WY p μ h).choose else 0
theorem least_le {ι:Type} {p:ι->Prop} {μ:ι->Nat} {j:ι} (h:p j):least p μ<=μ j:=by have hex:∃i,p i:=⟨j,h⟩;unfold least;rw [dif_pos hex];exact (WY p μ hex).choose_spec.2 j h
theorem aBm {ι:Type} {p:ι->Prop} {μ:ι->Nat} (h:∃i,p i):∃i,p i/\least p μ=μ i:=by refine ⟨(WY p μ h).choose,(WY p μ h).choose_spec.1,?_⟩;unfold least;rw [dif_pos h]
theorem uG {P:Program} [aC P] (hm:P.follows .mixedOrders=true) {B:gV P}:∀(c:Code) (s:AS) (Q:Exit->AS->Prop),uV P c s Q->∀a w,Rel B s a w->c.wp P (lift B Q) a w
 | .skip,s,Q,h,a,w,r=>wp_skip ⟨s,h,r⟩
 | .region id ops false,s,Q,⟨s2,hw,h⟩,a,w,r=>wp_region_list (by
   have:=Ef (Q:=lift B Q) ops.toList s2 (Q .normal) h a w (hw B a w r) (λa' w' s' h' r'=>⟨s',h',r'⟩);simpa using this)
 | .region id ops true,s,Q,h,a,w,r=>wp_region_any hm (h B a w (lift B Q) r λa' w' s' h' r'=>⟨s',h',r'⟩)
 | .seq x y,s,Q,h,a,w,r=>wp_seq (wp_mono (uG hm x s _ h a w r) λe a' w' he=>by
   obtain ⟨s',h',r'⟩:=he;cases e with
   |normal=>exact uG hm y s' Q h' a' w' r'
   |_=>exact ⟨s',h',r'⟩)
 | .cond c x y,s,Q,h,a,w,r=>by
  simp only [uV] at h;split at h
  .rename_i b hb;obtain ⟨G,r'⟩:=r;exact wp_cond_split (r'.Ym hb) (λhb=>uG hm x s Q (h.1 hb) a w ⟨G,r'⟩) (λhb=>uG hm y s Q (h.2 hb) a w ⟨G,r'⟩)
  .exact h.elim
 | .block id c,s,Q,h,a,w,r=>wp_block (wp_mono (uG hm c s _ h a w r) λe a' w' he=>by
   obtain ⟨s',h',r'⟩:=he;cases e with
   |exit id'=>
    simp only [G7] at h';simp only [Exit.inBlock];split at h'
    .rename_i hid;rw [eI hid];exact ⟨s',h',r'⟩
    .rename_i hid;rw [cX hid];exact ⟨s',h',r'⟩
   |_=>exact ⟨s',h',r'⟩)
 | .loop c,s,Q,h,a,w,r=>by
  obtain ⟨ι,inv,μ,i,h0,hr⟩:=h;refine wp_loop (λa w=>∃i,Rel B (inv i) a w) (λa w=>least (λi=>Rel B (inv i) a w) μ) ⟨i,h0 B a w r⟩ λa w hex=> ?_
  obtain ⟨i,hi,aQ9⟩:=aBm (μ:=μ) hex;refine wp_mono (uG hm c (inv i) _ (hr i) a w hi) λe a' w' he=> ?_
  obtain ⟨s',h',r'⟩:=he;cases e with
  |normal=>obtain ⟨j,hw,hlt⟩:=h';have hj:=hw B a' w' r';refine ⟨⟨j,hj⟩,?_⟩;rw [aQ9];exact Nat.lt_of_le_of_lt (least_le hj) hlt
  |_=>exact ⟨s',h',r'⟩
 | .exit id,s,Q,h,a,w,r=>wp_exit ⟨s,h,r⟩
 | .ret,s,Q,h,a,w,r=>wp_ret ⟨s,h,r⟩
 | .rangeFunc _ _ _ _,_,_,h,_,_,_=>by simp [uV] at h
 | .scope _,_,_,h,_,_,_=>by simp [uV] at h
 | .label _,_,_,h,_,_,_=>by simp [uV] at h
 | .goto _,_,_,h,_,_,_=>by simp [uV] at h
 | .refuse _,_,_,h,_,_,_=>by simp [uV] at h
def AS.rv (P:Program) (s:AS):ResultVar->Option AV
 | .tmp t=>some (s.t.getD t .undef)
 | .cell t ty=>match s.t.getD t .undef with
  | .ptr i cZ idx off=>match s.at i cZ idx with
   |some (_,e)=>match bM P ty with
    |some n=>if off+n<=e.length then some (.agg (((xM (DV i) true e).drop off).take n)) else none
    |none=>if gB P ty then (xM (DV i) true e)[off]? else none
   |none=>none
  |_=>none
def EM (a:Act):ResultVar->Sem Value
 | .tmp t=>pure (a.tmps.getD t Go.undef)
 | .cell t ty=>do loadVar ty (<-asAddr (a.tmps.getD t Go.undef))
theorem Je (fn:Func) (a:Act):results fn a.tmps=(do let vs<-fn.results.mapM (EM a);pure (if h:vs.size=1 then vs[0] else .tuple vs)):=by unfold results;congr 1;all_goals (congr 1;all_goals (funext x;cases x<;>rfl))
theorem aKc {P:Program} [aC P] {B:gV P} {s:AS} {G:List CO} {a:Act} {w:World} (r:eF B s G a w) {rv:ResultVar} {x:AV} (h:s.rv P rv=some x):
  ∃v,(EM a rv).run P w= .ok v w/\R w (env B s.o G w) x v []:=by
 cases rv with
 |tmp t=>simp only [AS.rv,eC] at h;subst h;exact ⟨a.tmps.getD t Go.undef,rfl,r.ev (.tmp t)⟩
 |cell t ty=>
  simp only [AS.rv] at h;split at h
  .rename_i i cZ idx off hx;split at h
   .rename_i ob e ha;obtain ⟨ho,he⟩:=Az ha;obtain ⟨g,b,f,hl,hlive,hga,hv⟩:=r.ptr (x:= .tmp t) hx ho;obtain ⟨b',f',cs,wN,hcn,hc,hone,wH⟩:=r.elem hl hlive he;rw [hga] at wN;simp only [eC,pC,rK] at wN;obtain ⟨rfl,rfl⟩:=wN;have hle:=gN wH;rw [DW] at hle;simp only [Act.eval] at hv;split at h
    .rename_i n hn;split at h
     .rename_i hfit;obtain rfl:=cQ h;refine ⟨.agg ((cs.drop off).take n).toArray,?_,by simp only [R];exact ⟨_,rfl,Gz hone,Qf off n wH⟩⟩;have:=uJ (P:=P) (t:=ty) (k:=off) (n:=n) (cs:=cs) hn (by omega) hc;simp only [Instr.loadAt,Instr.sureAddr,pure_bind] at this;simp [EM,hv,asAddr,<-oB,this]
     .cases h
    .split at h
     .rename_i aN2;obtain ⟨v,hv',hR⟩:=Md wH h;refine ⟨v,?_,hR⟩;have:=xQ (P:=P) (t:=ty) aN2 hv' hc;simp only [Instr.loadAt,Instr.sureAddr,pure_bind] at this;simp [EM,hv,asAddr,<-oB,this]
     .cases h
   .cases h
  .cases h
def AS.uS (P:Program) (s:AS):List ResultVar->Option (List AV)
 |[]=>some []
 |x::xs=>match s.rv P x with
  |some y=>match AS.uS P s xs with
   |some ys=>some (y::ys)
   |none=>none
  |none=>none
def single:List AV->AV
 |[x]=>x
 |xs=> .gZ xs
def aH (P:Program) (fn:Func) (s:AS) (r:AV):Prop:=
 ∃ys,s.uS P fn.results.toList=some ys/\jR s.o (single ys)=true/\(lT (single ys)).Nodup/\res s.o (single ys)=r/\clean r=true
theorem Ki {P:Program} [aC P] {B:gV P} {s:AS} {G:List CO} {a:Act} {w:World} (r:eF B s G a w):∀{l:List ResultVar} {ys:List AV},s.uS P l=some ys->
  ∃vs,(l.mapM (m:=Sem) (EM a)).run P w= .ok vs w/\Rc w (env B s.o G w) ys vs []
 |[],ys,h=>by simp only [AS.uS,eC] at h;subst h;exact ⟨[],by simp,by simp [Rc]⟩
 |x::xs,ys,h=>by
  simp only [AS.uS] at h;split at h
  .rename_i y hy;split at h
   .rename_i ys' G8;obtain rfl:=cQ h;obtain ⟨v,h1,h2⟩:=aKc r hy;obtain ⟨vs,h3,h4⟩:=Ki r G8;refine ⟨v::vs,?_,by simp only [Rc];exact ⟨[],[],h2,h4,rfl⟩⟩;simp only [mapM_cons,mT];rw [h1];simp only [lO];rw [h3];simp
   .cases h
  .cases h
theorem Cc {P:Program} [aC P] {B:gV P} {s:AS} {G:List CO} {a:Act} {w:World} (r:eF B s G a w) {fn:Func} {ys:List AV} (h:s.uS P fn.results.toList=some ys):
  ∃v,(results fn a.tmps).run P w= .ok v w/\R w (env B s.o G w) (single ys) v []:=by
 obtain ⟨vs,h1,h2⟩:=Ki r h;have hl:=gN h2;have hm:(fn.results.mapM (m:=Sem) (EM a)).run P w= .ok vs.toArray w:=by rw [CD];simp only [Sem.run_map];rw [h1];rfl
 rw [Je];simp only [mT];rw [hm];simp only [lO,sA];match ys,vs,hl,h2 with
 |[y],[v],_,h2=>
  refine ⟨v,by simp,?_⟩;simp only [Rc] at h2;obtain ⟨f1,f2,h3,_,e⟩:=h2;obtain ⟨rfl,_⟩:f1=[]/\f2=[]:=by simpa using e
  exact h3
 |[],[],_,h2=>exact ⟨.tuple #[],by simp,by simp only [single,R];exact ⟨[],rfl,h2⟩⟩
 |y1::y2::ys,v1::v2::vs,_,h2=>exact ⟨.tuple (v1::v2::vs).toArray,by simp,by simp only [single,R];exact ⟨_,rfl,h2⟩⟩
theorem Vl {P:Program} [aC P] (hm:P.follows .mixedOrders=true) {f:FuncId} {fn:Func} {c:Code} (hf:P.funcs[f]? =some fn) (hb:fn.body=some c) {args:List AV} {rr:AV}
  (h:uV P c ⟨args++replicate (fn.ntmps - args.length) .undef,[]⟩ (λe s=>(e= .normal\/e= .ret)/\aH P fn s rr)):Ok P f args rr:=by
 intro w vs hg hargs;have hl:=gN hargs;have r0:eF ⟨w,λb=>b < w.heap.size,λ_=>False,λ_=>none,λ_=>none,hg,λ_ h=>h.elim,λ_ h=>h.elim⟩ ⟨args++replicate (fn.ntmps - args.length) .undef,[]⟩ [] {tmps:=vs.toArray++Array.replicate (fn.ntmps - vs.toArray.size) Go.undef,defers:=[]} w:=by
  refine ⟨rfl,rfl,λi ob g hl=>by simp [look] at hl,λi j oi oj gi gj b hl=>by simp [look] at hl,λi ob g b hl=>by simp [look] at hl,?_,eE _,λ_ _ _=>rfl,λb hb=>hb,oD.rfl⟩;have h1:Rc w (env ⟨w,λb=>b < w.heap.size,λ_=>False,λ_=>none,λ_=>none,hg,λ_ h=>h.elim,λ_ h=>h.elim⟩ [] [] w) args vs []:=fB (w:=w) (w':=w) (E:=oF w) (E':=env ⟨w,λb=>b < w.heap.size,λ_=>False,λ_=>none,λ_=>none,hg,λ_ h=>h.elim,λ_ h=>h.elim⟩ [] [] w) ⟨λb hb=>⟨⟨.inl hb,λi ob g hl=>by simp [look] at hl⟩,rfl⟩,λ_ _=>trivial,λ_ _ _ h=>by exact h.elim,λ_ _ _ h=>by exact h.elim,λ_ _ _ _ _ h=>by exact h.elim⟩ _ _ _ (by simp) hargs;have h2:∀n,Rc w (env ⟨w,λb=>b < w.heap.size,λ_=>False,λ_=>none,λ_=>none,hg,λ_ h=>h.elim,λ_ h=>h.elim⟩ [] [] w) (replicate n .undef) (replicate n Go.undef) []:=by
   intro n;induction n with
   |zero=>simp [Rc]
   |succ n ih=>simp only [qS,Rc];exact ⟨[],[],by simp [R],ih,rfl⟩
  have:=mU h1 (h2 (fn.ntmps - args.length));simpa [hl] using this
 refine calls_of_wp hf hb (wp_mono (uG hm c _ _ h _ _ ⟨_,r0⟩) λe a w' he=> ?_);obtain ⟨s,⟨he,ys,G8,nT,hu,jU,hcl⟩,G,r⟩:=he;obtain ⟨v,hrun,hR⟩:=Cc r G8;obtain ⟨fp,h1,h2,h3⟩:=Nz r _ v nT hu hR;rw [jU] at h1;have hfin:∃v' fp,Ending.returned v= .returned v'/\R w' (Bg w.heap.size w' fp) rr v' fp/\fp.Nodup/\(∀b∈fp,w.heap.size<=b/\b < w'.heap.size)/\w.heap.size<=w'.heap.size/\(∀b,b < w.heap.size->w'.heap[b]? =w.heap[b]?)/\oD w w':=by refine ⟨v,fp,rfl,aIh <| PI (E:=(env _ s.o G w').plain) (λ_ _=>trivial) rfl rfl rfl _ _ _ hcl h1,h2,λb hb=> ?_,r.size,λb hb=>r.frame b hb (λh=>h),r.same⟩;obtain ⟨i,ob,g,_,hl,hlive,hF⟩:=h3 b hb;have:=r.fresh _ _ _ b hl hlive hF;exact ⟨this.1.resolve_left (λh=>h),this.2⟩
 rcases he with rfl|rfl
 .exact ⟨r.defs,v,hrun,hfin⟩
 .exact ⟨r.defs,v,hrun,hfin⟩
theorem YG {P:Program} [aC P] {all:List Oper} {s:AS} {K:AS->Prop} (h:K s):kW P all [] s K:=h
theorem QH {P:Program} [aC P] {id:Nat} {l:List Oper} {s:AS} {Q:Exit->AS->Prop} (h:kW P l l s (Q .normal)):uV P (.region id l.toArray false) s Q:=by simp only [uV];exact ⟨s,mX.refl s,h⟩
theorem kg {P:Program} [aC P] {id:Nat} {ops:Array Oper} {s s2:AS} {Q:Exit->AS->Prop} (hw:mX s s2) (h:uV P (.region id ops false) s2 Q):uV P (.region id ops false) s Q:=by simp only [uV] at h⊢;obtain ⟨s3,h1,h2⟩:=h;exact ⟨s3,hw.trans h1,h2⟩
theorem QI {P:Program} [aC P] {c:Operand} {x y:Code} {s:AS} {Q:Exit->AS->Prop} {b:Bool} (hc:s.ev c= .bool b) (h1:b=true->uV P x s Q) (h2:b=false->uV P y s Q):uV P (.cond c x y) s Q:=by simp only [uV,hc];exact ⟨h1,h2⟩
theorem Vm {P:Program} [aC P] {id:Nat} {c:Code} {s:AS} {Q:Exit->AS->Prop} (h:uV P c s (G7 id Q)):uV P (.block id c) s Q:=h
theorem YH {P:Program} [aC P] {id:Nat} {s:AS} {Q:Exit->AS->Prop} (h:Q (.exit id) s):uV P (.exit id) s Q:=h
theorem xu {P:Program} [aC P] {s:AS} {Q:Exit->AS->Prop} (h:Q .ret s):uV P .ret s Q:=h
theorem YI {P:Program} [aC P] {s:AS} {Q:Exit->AS->Prop} (h:Q .normal s):uV P .skip s Q:=h
theorem aBn {P:Program} [aC P] {c:Code} {s:AS} {Q:Exit->AS->Prop} {ι:Type} (inv:ι->AS) (μ:ι->Nat) (i:ι) (h0:mX s (inv i)) (h:∀i,∀K:AS->Prop,(∀s' j,mX s' (inv j)->μ j < μ i->K s')->uV P c (inv i) (Dj K Q)):uV P (.loop c) s Q:=
 ⟨ι,inv,μ,i,h0,λi=>h i _ λ_ j h1 h2=>⟨j,h1,h2⟩⟩
theorem Kj {K:AS->Prop} {Q:Exit->AS->Prop} {s:AS} (h:Q .ret s):Dj K Q .ret s:=h
theorem Ia {K:AS->Prop} {Q:Exit->AS->Prop} {s:AS} {id:Nat} (h:Q (.exit id) s):Dj K Q (.exit id) s:=h
theorem Ib {Q:Exit->AS->Prop} {s:AS} {id:Nat} (h:Q .normal s):G7 id Q .normal s:=h
theorem QJ {Q:Exit->AS->Prop} {s:AS} {id:Nat} (h:Q .ret s):G7 id Q .ret s:=h
theorem Vn {Q:Exit->AS->Prop} {s:AS} {id:Nat} (h:Q .normal s):G7 id Q (.exit id) s:=by simpa [G7] using h
theorem Vo {Q:Exit->AS->Prop} {s:AS} {id id':Nat} (hne:id'≠id) (h:Q (.exit id') s):G7 id Q (.exit id') s:=by simpa [G7,hne] using h
def wk:List AV->List AV->Prop
 |[],[]=>True
 |x::xs,y::ys=>(y=x\/y= .undef)/\wk xs ys
 |_,_=>False
theorem Kk {w:World} {E:Env}:∀{t t':List AV} {vs:List Value},wk t t'->Rc w E t vs []->Rc w E t' vs []
 |[],[],_,_,h=>h
 |[],_::_,_,h,_=>h.elim
 |_::_,[],_,h,_=>h.elim
 |_::_,_::_,[],_,h=>by simp [Rc] at h
 |x::xs,y::ys,v::vs,h,hr=>by
  simp only [Rc] at hr⊢;obtain ⟨f1,f2,h1,h2,e⟩:=hr;obtain ⟨rfl,rfl⟩:f1=[]/\f2=[]:=by simpa using e
  refine ⟨[],[],?_,Kk h.2 h2,rfl⟩;rcases h.1 with rfl|rfl
  .exact h1
  .simp [R]
theorem wT {t t':List AV} {o:List aN} (h:wk t t'):mX ⟨t,o⟩ ⟨t',o⟩:=by rintro P _ B a w ⟨G,r⟩;exact ⟨G,{r with tmps:=Kk h r.tmps}⟩
theorem wrap64 (n:Int) (h1: -9223372036854775808<=n) (h2:n<=9223372036854775807):IntKind.i64.wrap n=n:=by rw [Bm];omega
theorem oW {k:Nat} (h:(k:Int)<=9223372036854775806:=by omega):IntKind.i64.wrap ((k:Int)+1)=((k+1:Nat):Int):=by rw [wrap64]<;>omega
mutual
def OI:AV->Nat
 | .sl .own _ _=>1
 | .agg c=>Ce c
 | .gZ c=>Ce c
 |_=>0
def Ce:List AV->Nat
 |[]=>0
 |x::xs=>OI x+Ce xs
end
mutual
def Mo (q k:Nat):AV->AV
 | .sl .own _ _=> .obj k q
 | .agg c=> .agg (Cf q k c)
 | .gZ c=> .gZ (Cf q k c)
 | .int a b=> .int a b
 | .bool b=> .bool b
 | .str s=> .str s
 | .sl g n l=> .sl g n l
 | .fA g c off=> .fA g c off
 | .obj i v=> .obj i v
 | .ptr i v j o=> .ptr i v j o
 | .fn f c=> .fn f c
 | .undef=> .undef
def Cf (q k:Nat):List AV->List AV
 |[]=>[]
 |x::xs=>Mo q k x::Cf q (k+OI x) xs
end
mutual
def Kl (q:Nat):AV->List aN
 | .sl .own n l=>[⟨true,false,n,q,l⟩]
 | .agg c=>Ao q c
 | .gZ c=>Ao q c
 | .int _ _=>[]
 | .bool _=>[]
 | .str _=>[]
 | .sl _ _ _=>[]
 | .fA _ _ _=>[]
 | .obj _ _=>[]
 | .ptr _ _ _ _=>[]
 | .fn _ _=>[]
 | .undef=>[]
def Ao (q:Nat):List AV->List aN
 |[]=>[]
 |x::xs=>Kl q x++Ao q xs
end
mutual
theorem NK (q:Nat):∀x:AV,(Kl q x).length=OI x
 | .sl .own _ _=>rfl
 | .sl .view _ _=>rfl
 | .sl (.kG _) _ _=>rfl
 | .agg c=>Eg q c
 | .gZ c=>Eg q c
 | .int _ _=>rfl
 | .bool _=>rfl
 | .str _=>rfl
 | .fA _ _ _=>rfl
 | .obj _ _=>rfl
 | .ptr _ _ _ _=>rfl
 | .fn _ _=>rfl
 | .undef=>rfl
theorem Eg (q:Nat):∀c:List AV,(Ao q c).length=Ce c
 |[]=>rfl
 |x::xs=>by simp only [Ao,Ce,eR,NK q x,Eg q xs]
end
mutual
theorem uH (q k:Nat):∀x:AV,gH q k x=(Mo q k x,Kl q x)
 | .sl .own _ _=>rfl
 | .sl .view _ _=>rfl
 | .sl (.kG _) _ _=>rfl
 | .agg c=>by simp only [gH,Mo,Kl,oG q k c]
 | .gZ c=>by simp only [gH,Mo,Kl,oG q k c]
 | .int _ _=>rfl
 | .bool _=>rfl
 | .str _=>rfl
 | .fA _ _ _=>rfl
 | .obj _ _=>rfl
 | .ptr _ _ _ _=>rfl
 | .fn _ _=>rfl
 | .undef=>rfl
theorem oG (q k:Nat):∀c:List AV,fE q k c=(Cf q k c,Ao q c)
 |[]=>rfl
 |x::xs=>by simp only [fE,Cf,Ao,uH q k x,oG q _ xs,NK]
end
attribute [simp] wk AS.ev AS.put AS.box AS.shut AV.fit AV.cells AV.isObj AS.at AS.stored Am ofV rt xM mM AV.kept DV IV AS.args arg BV AS.called Mo Cf Kl Ao OI Ce uH oG AS.target AS.source AS.xR AS.Qr AS.bound AS.made Qn WS aN.kill
  AV.NA AV.xO AV.known AV.scalar wO wO.go AS.built Fw xh kJ lT uR res jR mV NG clean CU kH single AS.rv AS.uS rR Dj G7 AV.nd jf Yv jg jV AV.iG
attribute [irreducible] uV kW Dj G7
theorem Vu {P:Program} [aC P] {t:TypeId} {c:List AV} {off:Nat} {K1 K2:AV->Prop} (hk:∀y,K1 y->K2 y) (h:Am P t c off K1):Am P t c off K2:=by
 unfold Am at *;split at h
 .exact ⟨h.1,hk _ h.2⟩
 .refine ⟨h.1,?_⟩;have:=h.2;split at this
  .exact hk _ this
  .exact this.elim
theorem Xd {P:Program} [aC P] {o:Oper} {s:AS} {K1 K2:AS->Prop} (hk:∀s',K1 s'->K2 s') (h:rM P o s K1):rM P o s K2:=by
 obtain ⟨dst,op,ty,pos,after,gd⟩:=o;unfold rM at h⊢;dsimp only at h⊢;split at h;all_goals (repeat' (split at h))
 all_goals (first
  |exact h.elim
  |exact hk _ h
  |exact ⟨h.1,hk _ h.2⟩
  |((repeat (refine ⟨h.1,?_⟩;replace h:=h.2));exact hk _ h)
  |exact Vu (λy=>hk _) h
  |exact ⟨h.1,Vu (λy=>hk _) h.2⟩
  |(obtain ⟨r,h1,h2⟩:=h;exact ⟨r,h1,hk _ h2⟩)
  |((repeat (refine ⟨h.1,?_⟩;replace h:=h.2));obtain ⟨r,h1,h2⟩:=h;exact ⟨r,h1,hk _ h2⟩)
  |((repeat (refine ⟨h.1,?_⟩;replace h:=h.2));split at h<;>first|exact hk _ h|((repeat (refine ⟨h.1,?_⟩;replace h:=h.2));exact hk _ h)|exact h.elim)
  |((repeat (refine ⟨h.1,?_⟩;replace h:=h.2));(repeat' (split at h))<;>first|exact h.elim|((repeat (refine ⟨h.1,?_⟩;replace h:=h.2));exact hk _ h)|((repeat (refine ⟨h.1,?_⟩;replace h:=h.2));obtain ⟨r,h1,h2⟩:=h;exact ⟨r,h1,hk _ h2⟩))
  |(have h9:=hk _ h;simp_all;done)
  |((first|rw [eI (by assumption)]|rw [cX (by assumption)]);((repeat (refine ⟨h.1,?_⟩;replace h:=h.2));exact hk _ h))
  |((first|rw [eI (by assumption)]|rw [cX (by assumption)]);((repeat (refine ⟨h.1,?_⟩;replace h:=h.2));obtain ⟨r,h1,h2⟩:=h;exact ⟨r,h1,hk _ h2⟩))
  |((repeat (refine ⟨h.1,?_⟩;replace h:=h.2));obtain ⟨r,h1,h2⟩:=h;refine ⟨r,h1,?_⟩;(first|rw [eI (by assumption)]|rw [cX (by assumption)]);exact hk _ h2))
theorem K7 {P:Program} [aC P] {o:Oper} {s:AS} {K1 K2:AS->Prop} (hk:∀s',K1 s'->K2 s') (h:NI P o s K1):NI P o s K2:=by
 obtain ⟨dst,op,ty,pos,after,gd⟩:=o;unfold NI at h⊢;dsimp only at h⊢;split at h
 .split at h
  .obtain ⟨h1,h2,h3,h4,x',r,h5,h6,h7,h8⟩:=h;exact ⟨h1,h2,h3,h4,x',r,h5,h6,h7,hk _ h8⟩
  .exact h.elim
 .split at h
  .split at h
   .obtain ⟨h1,h2,h3,h4,h5⟩:=h;exact ⟨h1,h2,h3,h4,hk _ h5⟩
   .exact h.elim
  .exact h.elim
 .exact h.elim
theorem aCr {P:Program} [aC P] {o:Oper} {s:AS} {K1 K2:AS->Prop} (hk:∀s',K1 s'->K2 s') (h:YF P o s K1):YF P o s K2:=by
 obtain ⟨dst,op,ty,pos,after,gd⟩:=o;unfold YF at h⊢;dsimp only at h⊢;split at h
 .split at h
  .obtain ⟨h1,gs,r,h2,h3,h4,h5⟩:=h;exact ⟨h1,gs,r,h2,h3,h4,hk _ h5⟩
  .exact h.elim
 .exact h.elim
theorem YX {P:Program} [aC P] {o:Oper} {s:AS} {K1 K2:AS->Prop} (hk:∀s',K1 s'->K2 s') (h:Kh P o s K1):Kh P o s K2:=by obtain ⟨s1,hw,h⟩:=h;exact ⟨s1,hw,h.imp (Xd hk) (Or.imp (K7 hk) (aCr hk))⟩
theorem aCs {P:Program} [aC P] {o:Oper} {s:AS} {K1 K2:AS->Prop} (hk:∀s',K1 s'->K2 s') (h:aGi P o s K1):aGi P o s K2:=False.elim h
theorem Vv {P:Program} [aC P] {o:Oper} {s:AS} {K1 K2:AS->Prop} (hk:∀s',K1 s'->K2 s') (h:HZ P o s K1):HZ P o s K2:=by obtain ⟨s1,hw,h⟩:=h;exact ⟨s1,hw,aCs hk h⟩
abbrev bB:=List UInt8
def bH {α:Type} (f:α->Nat):List α->Nat
 |[]=>0
 |x::xs=>f x+bH f xs
def bT {α:Type} (f:α->Nat) (l:List α):Nat:=l.length+bH f l
def sub (n:Int) (k:Nat):Int:=if n < k then -1 else n - k
theorem sub_neg {n:Int} {k:Nat} (h:n < k):sub n k= -1:=by simp [sub,h]
theorem sub_pos {n:Int} {k:Nat} (h:¬n < k):sub n k=n - k:=by simp [sub,h]
theorem rT {α:Type} (f:α->Nat):∀(l:List α) (k:Nat) (h:k < l.length),bH f (l.take (k+1))=bH f (l.take k)+f l[k]
 |x::xs,0,_=>by simp [bH]
 |x::xs,k+1,h=>by simp only [eL,bH,getElem_cons_succ];rw [rT f xs k (by simpa using h)];omega
theorem sZ {α:Type} (f:α->Nat):∀(l:List α) (k:Nat),bH f (l.take k)<=bH f l
 |[],k=>by simp
 |x::xs,0=>by simp [bH]
 |x::xs,k+1=>by simp only [eL,bH];have:=sZ f xs k;omega
def Bh (z:List AV) (xs:List (List AV)) (k:Nat):List (List AV):=xs.take k++replicate (xs.length - k) z
@[simp] theorem aGj (z:List AV) (xs:List (List AV)) (k:Nat):(Bh z xs k).length=xs.length:=by simp [Bh];omega
theorem Eh (z:List AV) (xs:List (List AV)):replicate xs.length z=Bh z xs 0:=by simp [Bh]
theorem GG (z:List AV) (xs:List (List AV)) (k:Nat) (h:xs.length<=k):Bh z xs k=xs:=by
 have:xs.length - k=0:=by omega
 simp [Bh,this,cY h]
theorem GH (z:List AV) (xs:List (List AV)) (k:Nat) (h:k < xs.length):(Bh z xs k)[k]? =some z:=by
 have h1:(xs.take k).length=k:=by simp;omega
 rw [Bh,hS (by omega),h1,yW];have:0 < xs.length - k:=by omega
 simp [this]
theorem GI (z:List AV) (xs:List (List AV)) (k:Nat) (h:k < xs.length):(Bh z xs k).set k xs[k]=Bh z xs (k+1):=by
 have h1:(xs.take k).length=k:=by simp;omega
 have h2:xs.length - k=(xs.length - (k+1))+1:=by omega
 have h3:xs.take (k+1)=xs.take k++[xs[k]]:=by rw [eK h]
 unfold Bh;rw [h2,qS,tW _ _ (by omega),h1,yW,cU,h3,xF];rfl
@[simp] theorem eT {α:Type} (f:α->List AV) (h:∀x,CU (f x)=true):∀l:List α,kH (l.map f)=true
 |[]=>rfl
 |x::xs=>by simp only [mA,kH,h x,BT];exact eT f h xs
theorem bS {α:Type} {f g:α->List AV} {t:Tg->Option Tg} {b:Bool} (h:∀x,xM t b (f x)=g x):∀l:List α,mM t b (l.map f)=l.map g
 |[]=>rfl
 |x::xs=>by simp only [mA,mM,h x,bS h xs]
theorem dO {α:Type} (f:α->Nat) (l:List α) (k:Nat) (h:k < l.length):f l[k]<=bH f l:=by have h1:=rT f l k h;have h2:=sZ f l (k+1);omega
theorem bU {α:Type} (f:α->Nat) {l:List α} {x:α} (h:x∈l):f x<=bH f l:=by obtain ⟨k,hk,rfl⟩:=getElem_of_mem h;exact dO f l k hk
@[simp] def lW (n:Int):List AV:=[.int .i64 n]
@[simp] def aTn (n:Bool):List AV:=[.bool n]
@[simp] def dD (s:bB):List AV:=[.str s]
def gM (s:bB):Nat:=s.length
@[simp] theorem aN8 (t:Tg->Option Tg) (b:Bool) (l:List Int):mM t b (l.map lW)=l.map lW:=bS (by intro x;rfl) l
@[simp] theorem aN9 (t:Tg->Option Tg) (b:Bool) (l:List bB):mM t b (l.map dD)=l.map dD:=bS (by intro x;rfl) l
@[simp] theorem QL (l:List Int):kH (l.map lW)=true:=eT _ (by intro x;rfl) l
@[simp] theorem aKg (l:List bB):kH (l.map dD)=true:=eT _ (by intro x;rfl) l
structure aK where
  host : bB
  path : bB
deriving DecidableEq
@[simp] def aL (x:aK):List AV:=[.str x.host,.str x.path]
def aQ (x:aK):Nat:=x.host.length+x.path.length
def Mt (x:aK):Prop:=x.host.length<=9223372036854775807/\x.path.length<=9223372036854775807
@[simp] theorem aMm (t:Tg->Option Tg) (b:Bool) (l:List aK):mM t b (l.map aL)=l.map aL:=bS (by intro x;rfl) l
@[simp] theorem aIt (l:List aK):kH (l.map aL)=true:=eT _ (by intro x;rfl) l
structure oL where
  name : bB
  value : bB
deriving DecidableEq
@[simp] def uL (x:oL):List AV:=[.str x.name,.str x.value]
def oO (x:oL):Nat:=x.name.length+x.value.length
@[simp] theorem aMn (t:Tg->Option Tg) (b:Bool) (l:List oL):mM t b (l.map uL)=l.map uL:=bS (by intro x;rfl) l
@[simp] theorem aIu (l:List oL):kH (l.map uL)=true:=eT _ (by intro x;rfl) l
structure bV where
  kind : Int
  name : bB
  attrs : List oL
  text : bB
deriving DecidableEq
@[simp] def cB (g:Tg) (x:bV):List AV:=[.int .i64 x.kind,.str x.name,.sl g 2 (x.attrs.map uL),.str x.text]
def bX (x:bV):Nat:=x.name.length+(bT oO x.attrs)+x.text.length
@[simp] theorem aFb (g:Tg) (b:Bool) (l:List bV):mM (λ_=>some .view) b (l.map (cB g))=l.map (cB .view):=bS (by intro x;simp) l
@[simp] theorem aBy (i:Nat) (b:Bool) (l:List bV):mM (DV i) b (l.map (cB .own))=l.map (cB (.kG i)):=bS (by intro x;simp) l
@[simp] theorem aBz (i:Nat) (b:Bool) (l:List bV):mM (DV i) b (l.map (cB .view))=l.map (cB .view):=bS (by intro x;simp) l
@[simp] theorem aB0 (i j:Nat) (b:Bool) (l:List bV):mM (DV i) b (l.map (cB (.kG j)))=l.map (cB (.kG j)):=bS (by intro x;simp) l
@[simp] theorem aB1 (b:Bool) (l:List bV):mM IV b (l.map (cB .own))=l.map (cB .view):=bS (by intro x;simp) l
@[simp] theorem aB2 (b:Bool) (l:List bV):mM IV b (l.map (cB .view))=l.map (cB .view):=bS (by intro x;simp) l
@[simp] theorem lX (l:List bV):kH (l.map (cB .own))=true:=eT _ (by intro x;simp) l
structure mY where
  rest : bB
deriving DecidableEq
@[simp] def dR (x:mY):List AV:=[.str x.rest]
def mI (x:mY):Nat:=x.rest.length
@[simp] theorem aB3 (t:Tg->Option Tg) (b:Bool) (l:List mY):mM t b (l.map dR)=l.map dR:=bS (by intro x;rfl) l
@[simp] theorem H6 (l:List mY):kH (l.map dR)=true:=eT _ (by intro x;rfl) l
structure jL where
  name : bB
  text : bB
  parent : Int
  attrs : List oL
deriving DecidableEq
@[simp] def fD (g:Tg) (x:jL):List AV:=[.str x.name,.str x.text,.int .i64 x.parent,.sl g 2 (x.attrs.map uL)]
def rU (x:jL):Nat:=x.name.length+x.text.length+(bT oO x.attrs)
@[simp] theorem aGn (g:Tg) (b:Bool) (l:List jL):mM (λ_=>some .view) b (l.map (fD g))=l.map (fD .view):=bS (by intro x;simp) l
@[simp] theorem aFc (i:Nat) (b:Bool) (l:List jL):mM (DV i) b (l.map (fD .own))=l.map (fD (.kG i)):=bS (by intro x;simp) l
@[simp] theorem aFd (i:Nat) (b:Bool) (l:List jL):mM (DV i) b (l.map (fD .view))=l.map (fD .view):=bS (by intro x;simp) l
@[simp] theorem aFe (i j:Nat) (b:Bool) (l:List jL):mM (DV i) b (l.map (fD (.kG j)))=l.map (fD (.kG j)):=bS (by intro x;simp) l
@[simp] theorem aFf (b:Bool) (l:List jL):mM IV b (l.map (fD .own))=l.map (fD .view):=bS (by intro x;simp) l
@[simp] theorem aFg (b:Bool) (l:List jL):mM IV b (l.map (fD .view))=l.map (fD .view):=bS (by intro x;simp) l
@[simp] theorem aIv (l:List jL):kH (l.map (fD .own))=true:=eT _ (by intro x;simp) l
structure bF where
  nodes : List jL
  opens : List Int
deriving DecidableEq
@[simp] def aU (g:Tg) (x:bF):List AV:=[.sl g 4 (x.nodes.map (fD g)),.sl g 1 (x.opens.map lW)]
def aS (x:bF):Nat:=(bT rU x.nodes)+x.opens.length
@[simp] theorem X9 (g:Tg) (b:Bool) (l:List bF):mM (λ_=>some .view) b (l.map (aU g))=l.map (aU .view):=bS (by intro x;simp) l
@[simp] theorem H7 (i:Nat) (b:Bool) (l:List bF):mM (DV i) b (l.map (aU .own))=l.map (aU (.kG i)):=bS (by intro x;simp) l
@[simp] theorem H8 (i:Nat) (b:Bool) (l:List bF):mM (DV i) b (l.map (aU .view))=l.map (aU .view):=bS (by intro x;simp) l
@[simp] theorem H9 (i j:Nat) (b:Bool) (l:List bF):mM (DV i) b (l.map (aU (.kG j)))=l.map (aU (.kG j)):=bS (by intro x;simp) l
@[simp] theorem K3 (b:Bool) (l:List bF):mM IV b (l.map (aU .own))=l.map (aU .view):=bS (by intro x;simp) l
@[simp] theorem K4 (b:Bool) (l:List bF):mM IV b (l.map (aU .view))=l.map (aU .view):=bS (by intro x;simp) l
@[simp] theorem aB4 (l:List bF):kH (l.map (aU .own))=true:=eT _ (by intro x;simp) l
structure EN where
  name : bB
  color : Int
deriving DecidableEq
@[simp] def zR (x:EN):List AV:=[.str x.name,.int .i64 x.color]
@[simp] theorem aMo (t:Tg->Option Tg) (b:Bool) (l:List EN):mM t b (l.map zR)=l.map zR:=bS (by intro x;rfl) l
@[simp] theorem aIw (l:List EN):kH (l.map zR)=true:=eT _ (by intro x;rfl) l
structure gW where
  rules : List EN
deriving DecidableEq
@[simp] def eD (g:Tg) (x:gW):List AV:=[.sl g 2 (x.rules.map zR)]
@[simp] theorem aFh (g:Tg) (b:Bool) (l:List gW):mM (λ_=>some .view) b (l.map (eD g))=l.map (eD .view):=bS (by intro x;simp) l
@[simp] theorem aB5 (i:Nat) (b:Bool) (l:List gW):mM (DV i) b (l.map (eD .own))=l.map (eD (.kG i)):=bS (by intro x;simp) l
@[simp] theorem aB6 (i:Nat) (b:Bool) (l:List gW):mM (DV i) b (l.map (eD .view))=l.map (eD .view):=bS (by intro x;simp) l
@[simp] theorem aB7 (i j:Nat) (b:Bool) (l:List gW):mM (DV i) b (l.map (eD (.kG j)))=l.map (eD (.kG j)):=bS (by intro x;simp) l
@[simp] theorem aB8 (b:Bool) (l:List gW):mM IV b (l.map (eD .own))=l.map (eD .view):=bS (by intro x;simp) l
@[simp] theorem aB9 (b:Bool) (l:List gW):mM IV b (l.map (eD .view))=l.map (eD .view):=bS (by intro x;simp) l
@[simp] theorem aGo (l:List gW):kH (l.map (eD .own))=true:=eT _ (by intro x;simp) l
structure jW where
  op : Int
  text : bB
deriving DecidableEq
@[simp] def lH (x:jW):List AV:=[.int .i64 x.op,.str x.text]
@[simp] theorem aMp (t:Tg->Option Tg) (b:Bool) (l:List jW):mM t b (l.map lH)=l.map lH:=bS (by intro x;rfl) l
@[simp] theorem aIx (l:List jW):kH (l.map lH)=true:=eT _ (by intro x;rfl) l
structure eY where
  isSet : Bool
  fF : List bB
  iB : List bB
  iC : List bB
  sP : bB
deriving DecidableEq
@[simp] def bP (g:Tg) (x:eY):List AV:=[.bool x.isSet,.sl g 1 (x.fF.map dD),.sl g 1 (x.iB.map dD),.sl g 1 (x.iC.map dD),.str x.sP]
def eO (x:eY):Nat:=(bT gM x.fF)+(bT gM x.iB)+(bT gM x.iC)+x.sP.length
@[simp] theorem aCa (g:Tg) (b:Bool) (l:List eY):mM (λ_=>some .view) b (l.map (bP g))=l.map (bP .view):=bS (by intro x;simp) l
@[simp] theorem Y0 (i:Nat) (b:Bool) (l:List eY):mM (DV i) b (l.map (bP .own))=l.map (bP (.kG i)):=bS (by intro x;simp) l
@[simp] theorem Y6 (i:Nat) (b:Bool) (l:List eY):mM (DV i) b (l.map (bP .view))=l.map (bP .view):=bS (by intro x;simp) l
@[simp] theorem Y7 (i j:Nat) (b:Bool) (l:List eY):mM (DV i) b (l.map (bP (.kG j)))=l.map (bP (.kG j)):=bS (by intro x;simp) l
@[simp] theorem Y8 (b:Bool) (l:List eY):mM IV b (l.map (bP .own))=l.map (bP .view):=bS (by intro x;simp) l
@[simp] theorem Y9 (b:Bool) (l:List eY):mM IV b (l.map (bP .view))=l.map (bP .view):=bS (by intro x;simp) l
@[simp] theorem aFi (l:List eY):kH (l.map (bP .own))=true:=eT _ (by intro x;simp) l
structure bA where
  status : Int
  kind : Int
  body : bB
  Hm : Int
  shares : Bool
  bD : bB
deriving DecidableEq
@[simp] def bG (x:bA):List AV:=[.int .i64 x.status,.int .i64 x.kind,.str x.body,.int .i64 x.Hm,.bool x.shares,.str x.bD]
def bI (x:bA):Nat:=x.body.length+x.bD.length
def Ej (x:bA):Prop:=x.body.length<=9223372036854775807/\x.bD.length<=9223372036854775807
@[simp] theorem aFj (t:Tg->Option Tg) (b:Bool) (l:List bA):mM t b (l.map bG)=l.map bG:=bS (by intro x;rfl) l
@[simp] theorem Z0 (l:List bA):kH (l.map bG)=true:=eT _ (by intro x;rfl) l
structure gD where
  kind : Int
  to : aK
  frm : bB
  digest : bB
deriving DecidableEq
@[simp] def dF (x:gD):List AV:=[.int .i64 x.kind,.str x.to.host,.str x.to.path,.str x.frm,.str x.digest]
def jM (x:gD):Nat:=(aQ x.to)+x.frm.length+x.digest.length
@[simp] theorem aGp (t:Tg->Option Tg) (b:Bool) (l:List gD):mM t b (l.map dF)=l.map dF:=bS (by intro x;rfl) l
@[simp] theorem xS (l:List gD):kH (l.map dF)=true:=eT _ (by intro x;rfl) l
structure zS where
  path : bB
  response : bA
deriving DecidableEq
@[simp] def uA (x:zS):List AV:=[.str x.path,.int .i64 x.response.status,.int .i64 x.response.kind,.str x.response.body,.int .i64 x.response.Hm,.bool x.response.shares,.str x.response.bD]
def tC (x:zS):Nat:=x.path.length+(bI x.response)
def QM (x:zS):Prop:=x.path.length<=9223372036854775807/\Ej x.response
@[simp] theorem aMq (t:Tg->Option Tg) (b:Bool) (l:List zS):mM t b (l.map uA)=l.map uA:=bS (by intro x;rfl) l
@[simp] theorem aIz (l:List zS):kH (l.map uA)=true:=eT _ (by intro x;rfl) l
structure iQ where
  host : bB
  files : List zS
deriving DecidableEq
@[simp] def dH (g:Tg) (x:iQ):List AV:=[.str x.host,.sl g 7 (x.files.map uA)]
def gF (x:iQ):Nat:=x.host.length+(bT tC x.files)
def FH (x:iQ):Prop:=x.host.length<=9223372036854775807/\(x.files.length<=9223372036854775807/\∀y∈x.files,QM y)
@[simp] theorem aCb (g:Tg) (b:Bool) (l:List iQ):mM (λ_=>some .view) b (l.map (dH g))=l.map (dH .view):=bS (by intro x;simp) l
@[simp] theorem aAa (i:Nat) (b:Bool) (l:List iQ):mM (DV i) b (l.map (dH .own))=l.map (dH (.kG i)):=bS (by intro x;simp) l
@[simp] theorem aAb (i:Nat) (b:Bool) (l:List iQ):mM (DV i) b (l.map (dH .view))=l.map (dH .view):=bS (by intro x;simp) l
@[simp] theorem aAc (i j:Nat) (b:Bool) (l:List iQ):mM (DV i) b (l.map (dH (.kG j)))=l.map (dH (.kG j)):=bS (by intro x;simp) l
@[simp] theorem aAd (b:Bool) (l:List iQ):mM IV b (l.map (dH .own))=l.map (dH .view):=bS (by intro x;simp) l
@[simp] theorem aAe (b:Bool) (l:List iQ):mM IV b (l.map (dH .view))=l.map (dH .view):=bS (by intro x;simp) l
@[simp] theorem aFk (l:List iQ):kH (l.map (dH .own))=true:=eT _ (by intro x;simp) l
structure gI where
  top : bB
  to : aK
  response : bA
  til : Int
deriving DecidableEq
@[simp] def iU (x:gI):List AV:=[.str x.top,.str x.to.host,.str x.to.path,.int .i64 x.response.status,.int .i64 x.response.kind,.str x.response.body,.int .i64 x.response.Hm,.bool x.response.shares,.str x.response.bD,.int .i64 x.til]
def gT (x:gI):Nat:=x.top.length+(aQ x.to)+(bI x.response)
def Kr (x:gI):Prop:=x.top.length<=9223372036854775807/\Mt x.to/\Ej x.response
@[simp] theorem aKh (t:Tg->Option Tg) (b:Bool) (l:List gI):mM t b (l.map iU)=l.map iU:=bS (by intro x;rfl) l
@[simp] theorem AJ (l:List gI):kH (l.map iU)=true:=eT _ (by intro x;rfl) l
structure rV where
  entries : List gI
deriving DecidableEq
@[simp] def iH (g:Tg) (x:rV):List AV:=[.sl g 10 (x.entries.map iU)]
def nV (x:rV):Nat:=(bT gT x.entries)
def Xa (x:rV):Prop:=(x.entries.length<=9223372036854775807/\∀y∈x.entries,Kr y)
@[simp] theorem aFl (g:Tg) (b:Bool) (l:List rV):mM (λ_=>some .view) b (l.map (iH g))=l.map (iH .view):=bS (by intro x;simp) l
@[simp] theorem aCc (i:Nat) (b:Bool) (l:List rV):mM (DV i) b (l.map (iH .own))=l.map (iH (.kG i)):=bS (by intro x;simp) l
@[simp] theorem aCd (i:Nat) (b:Bool) (l:List rV):mM (DV i) b (l.map (iH .view))=l.map (iH .view):=bS (by intro x;simp) l
@[simp] theorem aCe (i j:Nat) (b:Bool) (l:List rV):mM (DV i) b (l.map (iH (.kG j)))=l.map (iH (.kG j)):=bS (by intro x;simp) l
@[simp] theorem aCf (b:Bool) (l:List rV):mM IV b (l.map (iH .own))=l.map (iH .view):=bS (by intro x;simp) l
@[simp] theorem aCg (b:Bool) (l:List rV):mM IV b (l.map (iH .view))=l.map (iH .view):=bS (by intro x;simp) l
@[simp] theorem aGq (l:List rV):kH (l.map (iH .own))=true:=eT _ (by intro x;simp) l
structure Ap where
  top : bB
  to : aK
  aOa : Bool
deriving DecidableEq
@[simp] def rE (x:Ap):List AV:=[.str x.top,.str x.to.host,.str x.to.path,.bool x.aOa]
def tF (x:Ap):Nat:=x.top.length+(aQ x.to)
def QN (x:Ap):Prop:=x.top.length<=9223372036854775807/\Mt x.to
@[simp] theorem aMr (t:Tg->Option Tg) (b:Bool) (l:List Ap):mM t b (l.map rE)=l.map rE:=bS (by intro x;rfl) l
@[simp] theorem aI0 (l:List Ap):kH (l.map rE)=true:=eT _ (by intro x;rfl) l
structure nN where
  jO : List iQ
  cache : rV
  log : List Ap
  now : Int
deriving DecidableEq
@[simp] def mP (g:Tg) (x:nN):List AV:=[.sl g 2 (x.jO.map (dH g)),.sl g 10 (x.cache.entries.map iU),.sl g 4 (x.log.map rE),.int .i64 x.now]
def nO (x:nN):Nat:=(bT gF x.jO)+(nV x.cache)+(bT tF x.log)
def yg (x:nN):Prop:=(x.jO.length<=9223372036854775807/\∀y∈x.jO,FH y)/\Xa x.cache/\(x.log.length<=9223372036854775807/\∀y∈x.log,QN y)
@[simp] theorem aI1 (g:Tg) (b:Bool) (l:List nN):mM (λ_=>some .view) b (l.map (mP g))=l.map (mP .view):=bS (by intro x;simp) l
@[simp] theorem aGr (i:Nat) (b:Bool) (l:List nN):mM (DV i) b (l.map (mP .own))=l.map (mP (.kG i)):=bS (by intro x;simp) l
@[simp] theorem aGs (i:Nat) (b:Bool) (l:List nN):mM (DV i) b (l.map (mP .view))=l.map (mP .view):=bS (by intro x;simp) l
@[simp] theorem aGt (i j:Nat) (b:Bool) (l:List nN):mM (DV i) b (l.map (mP (.kG j)))=l.map (mP (.kG j)):=bS (by intro x;simp) l
@[simp] theorem aGu (b:Bool) (l:List nN):mM IV b (l.map (mP .own))=l.map (mP .view):=bS (by intro x;simp) l
@[simp] theorem aGv (b:Bool) (l:List nN):mM IV b (l.map (mP .view))=l.map (mP .view):=bS (by intro x;simp) l
@[simp] theorem aKi (l:List nN):kH (l.map (mP .own))=true:=eT _ (by intro x;simp) l
structure oZ where
  mode : Int
  to : aK
  digest : bB
  node : Int
  done : Bool
  code : Int
  body : bB
deriving DecidableEq
@[simp] def uW (x:oZ):List AV:=[.int .i64 x.mode,.str x.to.host,.str x.to.path,.str x.digest,.int .i64 x.node,.bool x.done,.int .i64 x.code,.str x.body]
def lD (x:oZ):Nat:=(aQ x.to)+x.digest.length+x.body.length
@[simp] theorem aMs (t:Tg->Option Tg) (b:Bool) (l:List oZ):mM t b (l.map uW)=l.map uW:=bS (by intro x;rfl) l
@[simp] theorem aI2 (l:List oZ):kH (l.map uW)=true:=eT _ (by intro x;rfl) l
structure dY where
  to : aK
  done : Bool
  code : Int
  body : bB
deriving DecidableEq
@[simp] def eZ (x:dY):List AV:=[.str x.to.host,.str x.to.path,.bool x.done,.int .i64 x.code,.str x.body]
def bL (x:dY):Nat:=(aQ x.to)+x.body.length
@[simp] theorem aI3 (t:Tg->Option Tg) (b:Bool) (l:List dY):mM t b (l.map eZ)=l.map eZ:=bS (by intro x;rfl) l
@[simp] theorem Ug (l:List dY):kH (l.map eZ)=true:=eT _ (by intro x;rfl) l
structure aG where
  addr : aK
  bD : eY
  tok : mY
  queue : List bV
  ended : Bool
  builder : bF
  aB : List oZ
  aM : List dY
  entries : List aK
  block : Int
  inline : Int
  deferred : Int
  iE : Int
  tH : List aK
  log : List bB
  lY : Bool
deriving DecidableEq
@[simp] def aI (g:Tg) (x:aG):List AV:=[.str x.addr.host,.str x.addr.path,.bool x.bD.isSet,.sl g 1 (x.bD.fF.map dD),.sl g 1 (x.bD.iB.map dD),.sl g 1 (x.bD.iC.map dD),.str x.bD.sP,.str x.tok.rest,.sl g 4 (x.queue.map (cB g)),.bool x.ended,.sl g 4 (x.builder.nodes.map (fD g)),.sl g 1 (x.builder.opens.map lW),.sl g 8 (x.aB.map uW),.sl g 5 (x.aM.map eZ),.sl g 2 (x.entries.map aL),.int .i64 x.block,.int .i64 x.inline,.int .i64 x.deferred,.int .i64 x.iE,.sl g 2 (x.tH.map aL),.sl g 1 (x.log.map dD),.bool x.lY]
def aJ (x:aG):Nat:=(aQ x.addr)+(eO x.bD)+(mI x.tok)+(bT bX x.queue)+(aS x.builder)+(bT lD x.aB)+(bT bL x.aM)+(bT aQ x.entries)+(bT aQ x.tH)+(bT gM x.log)
@[simp] theorem aGw (g:Tg) (b:Bool) (l:List aG):mM (λ_=>some .view) b (l.map (aI g))=l.map (aI .view):=bS (by intro x;simp) l
@[simp] theorem aFm (i:Nat) (b:Bool) (l:List aG):mM (DV i) b (l.map (aI .own))=l.map (aI (.kG i)):=bS (by intro x;simp) l
@[simp] theorem aFn (i:Nat) (b:Bool) (l:List aG):mM (DV i) b (l.map (aI .view))=l.map (aI .view):=bS (by intro x;simp) l
@[simp] theorem aFo (i j:Nat) (b:Bool) (l:List aG):mM (DV i) b (l.map (aI (.kG j)))=l.map (aI (.kG j)):=bS (by intro x;simp) l
@[simp] theorem aFp (b:Bool) (l:List aG):mM IV b (l.map (aI .own))=l.map (aI .view):=bS (by intro x;simp) l
@[simp] theorem aFq (b:Bool) (l:List aG):mM IV b (l.map (aI .view))=l.map (aI .view):=bS (by intro x;simp) l
@[simp] theorem aI4 (l:List aG):kH (l.map (aI .own))=true:=eT _ (by intro x;simp) l
structure Ch where
  builder : bF
  log : List bB
  aCh : List bB
  aOb : gW
  lY : Bool
deriving DecidableEq
@[simp] def vR (g:Tg) (x:Ch):List AV:=[.sl g 4 (x.builder.nodes.map (fD g)),.sl g 1 (x.builder.opens.map lW),.sl g 1 (x.log.map dD),.sl g 1 (x.aCh.map dD),.sl g 2 (x.aOb.rules.map zR),.bool x.lY]
@[simp] theorem aCi (g:Tg) (b:Bool) (l:List Ch):mM (λ_=>some .view) b (l.map (vR g))=l.map (vR .view):=bS (by intro x;simp) l
@[simp] theorem aAf (i:Nat) (b:Bool) (l:List Ch):mM (DV i) b (l.map (vR .own))=l.map (vR (.kG i)):=bS (by intro x;simp) l
@[simp] theorem aAg (i:Nat) (b:Bool) (l:List Ch):mM (DV i) b (l.map (vR .view))=l.map (vR .view):=bS (by intro x;simp) l
@[simp] theorem aAh (i j:Nat) (b:Bool) (l:List Ch):mM (DV i) b (l.map (vR (.kG j)))=l.map (vR (.kG j)):=bS (by intro x;simp) l
@[simp] theorem aAi (b:Bool) (l:List Ch):mM IV b (l.map (vR .own))=l.map (vR .view):=bS (by intro x;simp) l
@[simp] theorem aAj (b:Bool) (l:List Ch):mM IV b (l.map (vR .view))=l.map (vR .view):=bS (by intro x;simp) l
@[simp] theorem aFr (l:List Ch):kH (l.map (vR .own))=true:=eT _ (by intro x;simp) l
structure ku where
  to : aK
  response : bA
  used : Bool
deriving DecidableEq
@[simp] def kz (x:ku):List AV:=[.str x.to.host,.str x.to.path,.int .i64 x.response.status,.int .i64 x.response.kind,.str x.response.body,.int .i64 x.response.Hm,.bool x.response.shares,.str x.response.bD,.bool x.used]
@[simp] theorem aKj (t:Tg->Option Tg) (b:Bool) (l:List ku):mM t b (l.map kz)=l.map kz:=bS (by intro x;rfl) l
@[simp] theorem aGx (l:List ku):kH (l.map kz)=true:=eT _ (by intro x;rfl) l
mutual
def closed (m:Nat):AV->Bool
 | .obj i _=>decide (i < m)
 | .ptr i _ _ _=>decide (i < m)
 | .sl (.kG i) _ _=>decide (i < m)
 | .fA (.kG i) _ _=>decide (i < m)
 | .agg c=>eX m c
 | .gZ c=>eX m c
 | .fn _ c=>eX m c
 |_=>true
def eX (m:Nat):List AV->Bool
 |[]=>true
 |x::xs=>closed m x&&eX m xs
end
theorem xG {o:List aN} {G:List CO} {m i:Nat} {ob:aN} {g:CO}:look (o.take m) (G.take m) i ob g↔i < m/\look o G i ob g:=by unfold look;rw [AM,AM];by_cases h:i < m<;>simp [h]
theorem zQ {P:Program} [aC P] {B:gV P} {o:List aN} {G:List CO} {w:World} (m:Nat):(∀b,(env B o G w).A b->(env B (o.take m) (G.take m) w).A b)/\
  (∀i,i < m->((env B (o.take m) (G.take m) w).V i↔(env B o G w).V i))/\(∀i b,i < m->(env B o G w).D i b->(env B (o.take m) (G.take m) w).D i b):=by
 refine ⟨λb h=>⟨h.1,λi ob g hl=>h.2 i ob g (xG.1 hl).2⟩,λi hi=> ?_,λi b hi h=> ?_⟩
 .simp only [env,AM,hi,gO]
 .obtain ⟨ob,g,hl,h⟩:=h;exact ⟨ob,g,xG.2 ⟨hi,hl⟩,h⟩
theorem FE {P:Program} [aC P] {B:gV P} {o:List aN} {G:List CO} {w:World} {m i:Nat} (hi:i < m):fK w ((env B o G w).sub (.kG i)) w ((env B (o.take m) (G.take m) w).sub (.kG i)):=by have h:=zQ (B:=B) (o:=o) (G:=G) (w:=w) m;exact ⟨λb hb=>⟨h.1 b hb,rfl⟩,λ_ _=>trivial,λj b _ hd=>⟨⟨hd.1,h.2.2 i b hi hd.2⟩,rfl⟩,λ_ _ _ h=>h.elim,λ_ _ _ _ _ h=>h.elim⟩
theorem vQ {P:Program} [aC P] {B:gV P} {o:List aN} {G:List CO} {w:World} (m:Nat):fK w (env B o G w).plain w (env B (o.take m) (G.take m) w).plain:=by have h:=zQ (B:=B) (o:=o) (G:=G) (w:=w) m;exact ⟨λb hb=>⟨h.1 b hb,rfl⟩,λ_ _=>trivial,λ_ _ _ h=>h.elim,λ_ _ _ h=>h.elim,λ_ _ _ _ _ h=>h.elim⟩
mutual
theorem aBt {P:Program} [aC P] {B:gV P} {o:List aN} {G:List CO} {w:World} {m:Nat}:∀(x:AV) (v:Value) (fp:List Nat),closed m x=true->R w (env B o G w) x v fp->R w (env B (o.take m) (G.take m) w) x v fp
 | .int _ _,_,_,_,h=>by simpa [R] using h
 | .bool _,_,_,_,h=>by simpa [R] using h
 | .str _,_,_,_,h=>by simpa [R] using h
 | .sl .own n l,v,fp,_,h=>by obtain ⟨a,cap,hv,hown⟩:=wB.1 h;exact wB.2 ⟨a,cap,hv,hown.keeps (vQ m) (λ_ _=>rfl)⟩
 | .sl .view n l,v,fp,_,h=>by
  simp only [R] at h⊢;rcases h with h|⟨a,cap,hv,hl,h⟩
  .exact h.1.elim
  .refine .inr ⟨a,cap,hv,hl,?_⟩;rcases h with h|h|⟨hg,hf,h⟩
   .exact absurd h.1 (by simp)
   .exact absurd h.1 (by simp)
   .refine .inr (.inr ⟨hg,hf,?_⟩);rcases h with h|⟨b,off,ha,ht,hr⟩
    .exact .inl h
    .exact .inr ⟨b,off,ha,(zQ m).1 b ht,oI (vQ m) _ _ _ _ _ rfl (by simp) hr⟩
 | .sl (.kG i) n l,v,fp,hc,h=>by
  have hi:i < m:=by simpa [closed] using hc
  simp only [R] at h⊢;rcases h with h|⟨a,cap,hv,hl,h⟩
  .exact .inl ⟨λhV=>h.1 (((zQ m).2.1 i hi).1 hV),h.2⟩
  .refine .inr ⟨a,cap,hv,hl,?_⟩;rcases h with h|h|⟨hg,hf,h⟩
   .exact absurd h.1 (by simp)
   .exact absurd h.1 (by simp)
   .refine .inr (.inr ⟨hg,hf,?_⟩);rcases h with h|⟨b,off,ha,ht,hr⟩
    .exact .inl h
    .exact .inr ⟨b,off,ha,(zQ m).2.2 i b hi ht,oI (FE hi) _ _ _ _ _ rfl (by simp) hr⟩
 | .fA .own c off,v,fp,_,h=>by
  simp only [R] at h⊢;rcases h with h|⟨_,_,_,_,_,ht,_⟩
  .exact h.1.elim
  .exact ht.elim
 | .fA .view c off,v,fp,_,h=>by
  simp only [R] at h⊢;rcases h with h|⟨hf,b,o',cs,hv,ht,hcs,hone,hr⟩
  .exact h.1.elim
  .exact .inr ⟨hf,b,o',cs,hv,(zQ m).1 b ht,hcs,hone,fB (vQ m) _ _ _ (by simp) hr⟩
 | .fA (.kG i) c off,v,fp,hc,h=>by
  have hi:i < m:=by simpa [closed] using hc
  simp only [R] at h⊢;rcases h with h|⟨hf,b,o',cs,hv,ht,hcs,hone,hr⟩
  .exact .inl ⟨λhV=>h.1 (((zQ m).2.1 i hi).1 hV),h.2⟩
  .exact .inr ⟨hf,b,o',cs,hv,(zQ m).2.2 i b hi ht,hcs,hone,fB (FE hi) _ _ _ (by simp) hr⟩
 | .obj i cZ,v,fp,hc,h=>by
  have hi:i < m:=by simpa [closed] using hc
  simp only [R] at h⊢;obtain ⟨hf,ob,g,hl,h⟩:=h;exact ⟨hf,ob,g,xG.2 ⟨hi,hl⟩,h⟩
 | .ptr i cZ idx off,v,fp,hc,h=>by
  have hi:i < m:=by simpa [closed] using hc
  simp only [R] at h⊢;obtain ⟨hf,ob,g,hl,h⟩:=h;exact ⟨hf,ob,g,xG.2 ⟨hi,hl⟩,h⟩
 | .agg c,v,fp,hc,h=>by simp only [R] at h⊢;obtain ⟨cs,h1,h2,h3⟩:=h;exact ⟨cs,h1,h2,AZ c cs fp (by simpa [closed] using hc) h3⟩
 | .gZ c,v,fp,hc,h=>by simp only [R] at h⊢;obtain ⟨cs,h1,h3⟩:=h;exact ⟨cs,h1,AZ c cs fp (by simpa [closed] using hc) h3⟩
 | .fn f c,v,fp,hc,h=>by simp only [R] at h⊢;obtain ⟨h0,cs,h1,h3⟩:=h;exact ⟨h0,cs,h1,AZ c cs [] (by simpa [closed] using hc) h3⟩
 | .undef,_,_,_,h=>by simpa [R] using h
theorem AZ {P:Program} [aC P] {B:gV P} {o:List aN} {G:List CO} {w:World} {m:Nat}:∀(c:List AV) (cs:List Value) (fp:List Nat),eX m c=true->Rc w (env B o G w) c cs fp->Rc w (env B (o.take m) (G.take m) w) c cs fp
 |[],[],_,_,h=>by simpa [Rc] using h
 |[],_::_,_,_,h=>by simp [Rc] at h
 |_::_,[],_,_,h=>by simp [Rc] at h
 |x::xs,c::cs,fp,hc,h=>by simp only [Rc] at h⊢;simp only [eX,eJ] at hc;obtain ⟨f1,f2,h1,h2,h3⟩:=h;exact ⟨f1,f2,aBt x c f1 hc.1 h1,AZ xs cs f2 hc.2 h2,h3⟩
end
def dE (m:Nat):List aN->Bool
 |[]=>true
 |ob::r=>(!ob.box || match ob.eQ with
  |[e]=>eX m e
  |_=>false)&&dE m r
theorem NM {m:Nat}:∀{o:List aN},dE m o=true->∀ob∈o,ob.box=true->∃e,ob.eQ=[e]/\eX m e=true
 |ob::r,h,x,hx,hb=>by
  simp only [dE,eJ] at h;rcases lE.1 hx with rfl|hx
  .have h1:=h.1;rw [hb] at h1;simp only [Dd,Bool.false_or] at h1;split at h1
   .rename_i e he;exact ⟨e,he,h1⟩
   .cases h1
  .exact NM h.2 x hx hb
theorem aX {t t':List AV} {o o':List aN} (m:Nat) (ho:o.take m=o':=by simp) (h:wk t t':=by simp) (hc:eX m t'=true:=by simp) (hb:dE m o'=true:=by simp):mX ⟨t,o⟩ ⟨t',o'⟩:=by
 subst ho;rintro P _ B a w ⟨G,r⟩;refine ⟨G.take m,?_⟩;exact
  {len:=by simp [r.len]
   defs:=r.defs
   ok:=λi ob g hl hlive=>by
    have BZ:=(xG.1 hl).2;obtain ⟨fp,hown,hnd,hF⟩:=r.ok i ob g BZ hlive;refine ⟨fp,?_,hnd,hF⟩;cases JN:ob.box with
    |false=>rw [JN] at hown;exact hown.keeps (vQ m) (λ_ _=>rfl)
    |true=>
     rw [JN] at hown;obtain ⟨e,he,hce⟩:=NM hb ob (mS hl.1) JN;rw [he] at hown⊢;obtain ⟨hlen,hown⟩:=hown;refine ⟨hlen,?_⟩;rcases hown with h|⟨b,off,C,ety,fz,rD,ha,hbk,hz,h1,h2,h3,rfl,hr⟩
     .exact .inl h
     .refine .inr ⟨b,off,C,ety,fz,rD,ha,hbk,hz,h1,h2,h3,rfl,?_⟩;simp only [Rr] at hr⊢;obtain ⟨cs,f1,f2,k1,k2,k3,k4,k5,k6⟩:=hr;exact ⟨cs,f1,f2,k1,k2,k3,AZ e cs f1 hce k4,k5,k6⟩
   apart:=λi j oi oj gi gj b hi hj h1 h2 h3 h4=>r.apart i j _ _ _ _ b (xG.1 hi).2 (xG.1 hj).2 h1 h2 h3 h4
   fresh:=λi ob g b hl h1 h2=>r.fresh i ob g b (xG.1 hl).2 h1 h2
   tmps:=AZ _ _ _ hc (Kk h r.tmps)
   size:=r.size
   frame:=r.frame
   base:=r.base
   same:=r.same}
theorem aO {t t':List AV} {o o':List aN} (ho:o=o':=by simp) (h:wk t t':=by simp):mX ⟨t,o⟩ ⟨t',o'⟩:=ho▸wT h
attribute [simp] closed eX dE
def uK (J:Nat->Bool) (i:Nat):Nat->Bool:=λj=>if j=i then true else J j
def dv (J:Nat->Bool) (i:Nat) (v:AV):AV:=if J i=true then v else .undef
@[simp] theorem aRb (J:Nat->Bool) (i:Nat) (v:AV):dv (uK J i) i v=v:=by simp [dv,uK]
def xH (P:Program) [aC P] (S:(Nat->Bool)->AS):Nat->List Oper->Prop
 |_,[]=>True
 |i,o::r=>(o.guard=none/\∀J:Nat->Bool,J i=false->(∀e∈o.after.toList,Region.binds .any e=true->J e.on=true)->rM P o (S J) λs'=>mX s' (S (uK J i)))/\xH P S (i+1) r
def fwd:Nat->List Oper->Bool
 |_,[]=>true
 |i,o::r=>(o.after.toList.all λe=> !Region.binds .any e || decide (e.on < i))&&fwd (i+1) r
theorem Ie {P:Program} [aC P] {S:(Nat->Bool)->AS}:∀{l:List Oper} {k i:Nat} {o:Oper},xH P S k l->l[i]? =some o->
  o.guard=none/\∀J:Nat->Bool,J (k+i)=false->(∀e∈o.after.toList,Region.binds .any e=true->J e.on=true)->rM P o (S J) λs'=>mX s' (S (uK J (k+i)))
 |[],_,_,_,_,h=>by simp at h
 |x::xs,k,0,o,hd,h=>by simp at h;subst h;exact hd.1
 |x::xs,k,i+1,o,hd,h=>by
  have:=Ie (k:=k+1) (i:=i) hd.2 (by simpa using h)
  rwa [show k+1+i=k+(i+1) by omega] at this
theorem xz:∀{l:List Oper} {k i:Nat} {o:Oper},fwd k l=true->l[i]? =some o->∀e∈o.after.toList,Region.binds .any e=true->e.on < k+i
 |[],_,_,_,_,h=>by simp at h
 |x::xs,k,0,o,hf,h=>by simp at h;subst h;simp only [fwd,eJ,fW] at hf;intro e he hb;have:=hf.1 e he;simpa [hb] using this
 |x::xs,k,i+1,o,hf,h=>by
  simp only [fwd,eJ] at hf;have:=xz (k:=k+1) (i:=i) hf.2 (by simpa using h)
  rwa [show k+1+i=k+(i+1) by omega] at this
def left (l:List Bool):Nat:=(l.filter λb=> !b).length
theorem Dl (b:Bool) (l:List Bool):left (b::l)=(if b=true then 0 else 1)+left l:=by cases b<;>simp [left]<;>omega
theorem Ko:∀{l:List Bool} {i:Nat},l[i]? =some false->left (l.set i true)+1=left l
 |[],_,h=>by simp at h
 |b::l,0,h=>by simp at h;subst h;simp [Dl];omega
 |b::l,i+1,h=>by have:=Ko (l:=l) (i:=i) (by simpa using h);rw [cW,Dl,Dl];omega
theorem Mr {l:List Bool} (h:left l=0):∀{i:Nat} {b:Bool},l[i]? =some b->b=true:=by
 intro i b hb;have hm:=mS hb;cases b with
 |true=>rfl
 |false=>have:false∈l.filter (λb=> !b):=DH.2 ⟨hm,rfl⟩;rw [kO h] at this;simp at this
theorem QK {l:List Bool} (h:left l≠0):∃i:Nat,l[i]? =some false/\∀j:Nat,j < i->l[j]? =some true:=by
 induction l with
 |nil=>simp [left] at h
 |cons b l ih=>
  cases b with
  |false=>exact ⟨0,rfl,λj hj=>by omega⟩
  |true=>
   have:left l≠0:=by rw [Dl] at h;simpa using h
   obtain ⟨i,h1,h2⟩:=ih this;refine ⟨i+1,by simpa using h1,λj hj=> ?_⟩;cases j with
   |zero=>rfl
   |succ j=>simpa using h2 j (by omega)
theorem aGl {P:Program} [aC P] {ops:Array Oper} {s:AS} {K:AS->Prop} (S:(Nat->Bool)->AS) (h0:mX s (S λ_=>false)) (hf:fwd 0 ops.toList=true) (hs:xH P S 0 ops.toList)
  (he:∀J:Nat->Bool,(∀i,i < ops.size->J i=true)->K (S J)):jy P ops s K:=by
 intro B a w Q hr hk;have key:∀(fuel:Nat) (listed:Array Bool) (a:Act) (w:World),listed.size=ops.size->left listed.toList=fuel->Rel B (S λi=>listed.getD i false) a w->wpAny P .any ops Q fuel listed a w:=by
  intro fuel;induction fuel with
  |zero=>
   intro listed a w hl hz r;have hall:∀i,i < ops.size->listed.getD i false=true:=by
    intro i hi;have hi':i < listed.size:=by omega
    have:=Mr hz (i:=i) (b:=listed[i]) (by simp [hi']);simp [Array.getD,hi',this]
   refine ⟨?_,hk _ _ _ (he _ hall) r⟩;unfold Region.ready;rw [filter_eq_nil_iff];intro i hi;have hi2:i < ops.size:=by simpa using hi
   have h1:=hall i hi2;have hi':i < listed.size:=by omega
   have h2:listed.getD i true=true:=by rw [fX] at h1⊢;rw [tE hi'] at h1⊢;exact h1
   rw [h2];simp
  |succ fuel ih=>
   intro listed a w hl hz r;constructor
   .intro hnil;exfalso;obtain ⟨i,h1,h2⟩:=QK (l:=listed.toList) (by omega);have hi:i < listed.size:=by have:=(cH.1 h1).1;simpa using this
    have Fg:i < ops.size:=by omega
    have:i∈Region.ready .any ops listed:=by
     unfold Region.ready;rw [DH];refine ⟨by simpa using Fg,?_⟩;have h1':listed[i]? =some false:=by simpa using h1
     have hop:ops[i]? =some ops[i]:=by simp [Fg]
     simp only [fX,h1',rB,DQ,BT,hop,mC];rw [DM];intro e he;cases hb:Region.binds .any e with
     |false=>simp
     |true=>
      have:=xz hf (i:=i) (o:=ops[i]) (by simp [Fg]) e (by simpa using he) hb;have h3:=h2 e.on (by omega);have h3':listed[e.on]? =some true:=by simpa using h3
      simp [h3']
    rw [hnil] at this;simp at this
   .intro i hi;unfold Region.ready at hi;rw [DH] at hi;obtain ⟨hi1,hi2⟩:=hi;have Fg:i < ops.size:=by simpa using hi1
    have hil:i < listed.size:=by omega
    have hop:ops[i]? =some ops[i]:=by simp [Fg]
    simp only [eJ,hop,mC,rB] at hi2;obtain ⟨h1,h2⟩:=hi2;have h1':listed[i]? =some false:=by simp only [fX] at h1;rw [tE hil] at h1⊢;simpa using h1
    rw [DM] at h2;obtain ⟨hg,hst⟩:=Ie hs (i:=i) (o:=ops[i]) (by simp [Fg]);rw [lA] at hst;have aRc:=hst (λj=>listed.getD j false) (by simp [h1']) (λe he hb=>by
     have:=h2 e (by simpa using he);simpa [hb] using this)
    obtain ⟨s',hw,YJ⟩:=AY (B:=B) aRc;unfold wpOp;rw [hop];simp only [Region.wanted,hg,gO];refine .inl (YJ a w _ Q r λa' w' r'=>ih _ _ _ (by simpa using hl) ?_ ?_)
    .have:=Ko (l:=listed.toList) (i:=i) (by simpa using h1');rw [BW];omega
    .have hu:uK (λj=>listed.getD j false) i=λj=>(listed.setIfInBounds i true).getD j false:=by
      funext j;unfold uK;simp only [fX,Array.getElem?_setIfInBounds];by_cases hj:j=i
      .subst hj;simp [hil]
      .simp [hj,AD hj]
     rw [<-hu];exact hw B a' w' r'
 obtain ⟨G,r⟩:=hr;have r2:Rel B s a {w with drawn:=w.drawn+1}:=⟨G,{len:=r.len,defs:=r.defs,ok:=λi ob g hl hlive=>(r.ok i ob g hl hlive).keeps (w':={w with drawn:=w.drawn+1}) ⟨λb h=>⟨h,rfl⟩,λ_ h=>h,λ_ _ _ h=>⟨h,rfl⟩,λ_ _ _ h=>h,λ_ _ _ _ _ h=>h⟩ (λ_ _=>rfl),apart:=r.apart,fresh:=r.fresh,tmps:=fB (w:=w) (E:=env B s.o G w) (w':={w with drawn:=w.drawn+1}) (E':=env B s.o G {w with drawn:=w.drawn+1}) ⟨λb h=>⟨h,rfl⟩,λ_ h=>h,λ_ _ _ h=>⟨h,rfl⟩,λ_ _ _ h=>h,λ_ _ _ _ _ h=>h⟩ _ _ _ (by simp) r.tmps,size:=r.size,frame:=r.frame,base:=r.base,same:=r.same.trans ⟨rfl,rfl,rfl⟩}⟩;refine key _ _ _ _ (by simp) (by simp [left]) ?_;have hJ:(λi=>(Array.replicate ops.size false).getD i false)=λ_=>false:=by funext i;simp only [fX,Array.getElem?_replicate];split<;>rfl
 rw [hJ];exact h0 _ _ _ r2
theorem Kq {P:Program} [aC P] {id:Nat} {l:List Oper} {s:AS} {Q:Exit->AS->Prop} (S:(Nat->Bool)->AS) (h0:mX s (S λ_=>false)) (hf:fwd 0 l=true) (hs:xH P S 0 l)
  (he:∀J:Nat->Bool,(∀i,i < l.length->J i=true)->Q .normal (S J)):uV P (.region id l.toArray true) s Q:=by
 unfold uV;exact aGl (ops:=l.toArray) S h0 (by simpa using hf) (by simpa using hs) (by simpa using he)
theorem iJ {P:Program} [aC P] {o:Oper} {s:AS} {K:AS->Prop} (h:∀K':AS->Prop,(∀s',K s'->K' s')->rM P o s K'):rM P o s K:=h K λ_ h=>h
theorem aOw {w:World} {E:Env} {e:List AV} {cs:List Value} {fp:List Nat} {c:Nat} {x:AV} (h:Rc w E e cs fp) (hx:e[c]? =some x):
  ∃a1 a2 a3 v,fp=a1++a2++a3/\cs[c]? =some v/\Rc w E (e.take c) (cs.take c) a1/\R w E x v a2/\Rc w E (e.drop (c+1)) (cs.drop (c+1)) a3:=by
 obtain ⟨a1,r1,rfl,h1,h2⟩:=tV c h;have hlt:=(cH.1 hx).1;have hl:=gN h;have hd:e.drop c=x::e.drop (c+1):=by rw [mL hlt,(cH.1 hx).2]
 have hcs:cs.drop c=cs[c]'(by omega)::cs.drop (c+1):=mL (by omega);rw [hd,hcs] at h2;simp only [Rc] at h2;obtain ⟨a2,a3,h3,h4,rfl⟩:=h2;exact ⟨a1,a2,a3,_,by simp,aE (by omega),h1,h3,h4⟩
theorem aLh {w:World} {E:Env} {e:List AV} {cs:List Value} {a1 a2 a3:List Nat} {c:Nat} {x:AV} {v:Value} (hc:c < e.length) (hv:cs[c]? =some v) (h1:Rc w E (e.take c) (cs.take c) a1) (h2:R w E x v a2) (h3:Rc w E (e.drop (c+1)) (cs.drop (c+1)) a3):
  Rc w E (e.set c x) cs (a1++a2++a3):=by
 have e1:e.set c x=e.take c++x::e.drop (c+1):=by rw [set_eq_take_append_cons_drop];simp [hc]
 obtain ⟨hlt,rfl⟩:=cH.1 hv;have e2:cs=cs.take c++cs[c]::cs.drop (c+1):=by simp
 rw [e1];conv=>arg 4;rw [e2]
 have:=mU h1 (show Rc w E (x::e.drop (c+1)) (cs[c]::cs.drop (c+1)) (a2++a3) by simp only [Rc];exact ⟨a2,a3,h2,h3,rfl⟩);simpa using this
mutual
def ES (i:Nat):AV->Bool
 | .sl (.kG j) _ _=>decide (j≠i)
 | .fA (.kG j) _ _=>decide (j≠i)
 | .agg c=>wY i c
 | .gZ c=>wY i c
 | .fn _ c=>wY i c
 |_=>true
def wY (i:Nat):List AV->Bool
 |[]=>true
 |x::xs=>ES i x&&wY i xs
end
def Env.no (E:Env) (i:Nat):Env:={E with D:=λj x=>j∉[i]/\E.D j x}
theorem ZH {w:World} {E:Env} {i j:Nat} (h:j≠i):fK w (E.sub (.kG j)) w ((E.no i).sub (.kG j)):=
 ⟨λb h=>⟨h,rfl⟩,λ_ _=>trivial,λk b _ hd=>⟨⟨hd.1,by simpa using h,hd.2⟩,rfl⟩,λ_ _ _ h=>h.elim,λ_ _ _ _ _ h=>h.elim⟩
mutual
theorem aHp {w:World} {E:Env} {i:Nat}:∀(x:AV) (v:Value) (fp:List Nat),ES i x=true->R w E x v fp->R w (E.no i) x v fp
 | .int _ _,_,_,_,h=>by simpa [R] using h
 | .bool _,_,_,_,h=>by simpa [R] using h
 | .str _,_,_,_,h=>by simpa [R] using h
 | .sl .own n l,v,fp,_,h=>wB.2 (wB.1 h)
 | .sl .view n l,v,fp,_,h=>by
  simp only [R] at h⊢;rcases h with h|⟨a,cap,hv,hl,h⟩
  .exact h.1.elim
  .refine .inr ⟨a,cap,hv,hl,?_⟩;rcases h with h|h|⟨hg,hf,h⟩
   .exact absurd h.1 (by simp)
   .exact absurd h.1 (by simp)
   .exact .inr (.inr ⟨hg,hf,h⟩)
 | .sl (.kG j) n l,v,fp,hc,h=>by
  have hi:j≠i:=by simpa [ES] using hc
  simp only [R] at h⊢;rcases h with h|⟨a,cap,hv,hl,h⟩
  .exact .inl h
  .refine .inr ⟨a,cap,hv,hl,?_⟩;rcases h with h|h|⟨hg,hf,h⟩
   .exact absurd h.1 (by simp)
   .exact absurd h.1 (by simp)
   .refine .inr (.inr ⟨hg,hf,?_⟩);rcases h with h|⟨b,off,ha,ht,hr⟩
    .exact .inl h
    .exact .inr ⟨b,off,ha,⟨by simpa using hi,ht⟩,oI (ZH hi) _ _ _ _ _ rfl (by simp) hr⟩
 | .fA .own c off,v,fp,_,h=>by
  simp only [R] at h⊢;rcases h with h|⟨_,_,_,_,_,ht,_⟩
  .exact h.1.elim
  .exact ht.elim
 | .fA .view c off,v,fp,_,h=>by
  simp only [R] at h⊢;rcases h with h|⟨hf,b,o',cs,hv,ht,hcs,hone,hr⟩
  .exact h.1.elim
  .exact .inr ⟨hf,b,o',cs,hv,ht,hcs,hone,hr⟩
 | .fA (.kG j) c off,v,fp,hc,h=>by
  have hi:j≠i:=by simpa [ES] using hc
  simp only [R] at h⊢;rcases h with h|⟨hf,b,o',cs,hv,ht,hcs,hone,hr⟩
  .exact .inl h
  .exact .inr ⟨hf,b,o',cs,hv,⟨by simpa using hi,ht⟩,hcs,hone,fB (ZH hi) _ _ _ (by simp) hr⟩
 | .obj _ _,v,fp,_,h=>by simp only [R] at h⊢;exact h
 | .ptr _ _ _ _,v,fp,_,h=>by simp only [R] at h⊢;exact h
 | .agg c,v,fp,hc,h=>by simp only [R] at h⊢;obtain ⟨cs,h1,h2,h3⟩:=h;exact ⟨cs,h1,h2,FW c cs fp (by simpa [ES] using hc) h3⟩
 | .gZ c,v,fp,hc,h=>by simp only [R] at h⊢;obtain ⟨cs,h1,h3⟩:=h;exact ⟨cs,h1,FW c cs fp (by simpa [ES] using hc) h3⟩
 | .fn f c,v,fp,hc,h=>by simp only [R] at h⊢;obtain ⟨h0,cs,h1,h3⟩:=h;exact ⟨h0,cs,h1,FW c cs [] (by simpa [ES] using hc) h3⟩
 | .undef,_,_,_,h=>by simpa [R] using h
theorem FW {w:World} {E:Env} {i:Nat}:∀(c:List AV) (cs:List Value) (fp:List Nat),wY i c=true->Rc w E c cs fp->Rc w (E.no i) c cs fp
 |[],[],_,_,h=>by simpa [Rc] using h
 |[],_::_,_,_,h=>by simp [Rc] at h
 |_::_,[],_,_,h=>by simp [Rc] at h
 |x::xs,c::cs,fp,hc,h=>by simp only [Rc] at h⊢;simp only [wY,eJ] at hc;obtain ⟨f1,f2,h1,h2,h3⟩:=h;exact ⟨f1,f2,aHp x c f1 hc.1 h1,FW xs cs f2 hc.2 h2,h3⟩
end
theorem ZI {w:World} {E:Env} {i:Nat}:∀(l:List (List AV)) (b off n:Nat) (fp:List Nat),(l.all λc=>wY i c)=true->Rr w E l b off n fp->Rr w (E.no i) l b off n fp
 |[],_,_,_,_,_,h=>by simpa [Rr] using h
 |e::es,b,off,n,fp,hc,h=>by simp only [Rr] at h⊢;simp only [CN,eJ] at hc;obtain ⟨cs,f1,f2,h1,h2,h3,h4,h5,h6⟩:=h;exact ⟨cs,f1,f2,h1,h2,h3,FW e cs f1 hc.1 h4,ZI es b _ n f2 hc.2 h5,h6⟩
theorem wF.ES {w:World} {E:Env} {n:Nat} {l:List (List AV)} {a:Option Addr} {cap:Nat} {fp:List Nat} {i:Nat} (hc:(l.all λc=>wY i c)=true) (h:wF w E n l a cap fp):wF w (E.no i) n l a cap fp:=by
 obtain ⟨h1,h|⟨b,off,C,e,fz,rD,k1,k2,k3,k4,k5,k6,k7,k8⟩⟩:=h
 .exact ⟨h1,.inl h⟩
 .exact ⟨h1,.inr ⟨b,off,C,e,fz,rD,k1,k2,k3,k4,k5,k6,k7,ZI l b off n rD hc k8⟩⟩
theorem vD {t t':List AV} {o o':List aN} (i k c:Nat) {ob:aN} {e:List AV} {m:Nat} {rows:List (List AV)} (ho:o[i]? =some ob) (hl:ob.live=true) (hb:ob.box=true) (hall:(o.all λx=> !x.box || x.eQ.all λc=>wY i c)=true) (he:ob.eQ[k]? =some e)
  (hc:e[c]? =some (.sl .own m rows)) (ho':o.set i {ob with eQ:=ob.eQ.set k (e.set c (.obj o.length 1))}++[⟨true,false,m,1,rows⟩]=o') (hw:wk (xM (jV [i]) true t) t'):mX ⟨t,o⟩ ⟨t',o'⟩:=by
 subst ho';rintro P _ B a w ⟨G,r⟩;have nb:∀{j x g},look o G j x g->x.box=true->(x.eQ.all λc=>wY i c)=true:=λh hb=>by have:=fW.1 hall _ (mS h.1);simpa only [hb,Dd,Bool.false_or] using this
 obtain ⟨g,hlk⟩:=r.look ho;obtain ⟨fp,hown,hnd,hF⟩:=r.ok i ob g hlk hl;simp only [hb,Env.of,gO] at hown;replace hown:=hown.ES (nb hlk hb);obtain ⟨hlen,⟨h,_⟩|⟨b,off,C,ty,fz,rD,ha,hbk,hz,h1,h2,h3,rfl,hr⟩⟩:=hown
 .rw [h] at he;simp at he
 have hk:k < ob.eQ.length:=(cH.1 he).1;have hcl:c < e.length:=(cH.1 hc).1;obtain ⟨f1,f2,f3,cs,rfl,hn,hcs,hone,hre,hr1,hr3⟩:=CS hr he;obtain ⟨a1,a2,a3,v,rfl,hv,k1,k2,k3⟩:=aOw hre hc;obtain ⟨ad,cap',hvs,aA1⟩:=wB.1 k2;have hlo:i < o.length:=(cH.1 ho).1;have hsub2:∀x∈a2,g.F x:=λx hx=>hF x (by simp [hx])
 generalize Ay:({ob with eQ:=ob.eQ.set k (e.set c (.obj o.length 1))}:aN)=fZ;generalize hg':({g with F:=λx=>g.F x/\x∉a2}:CO)=g';generalize hO:o.set i fZ++[⟨true,false,m,1,rows⟩]=o';generalize hGG:G.set i g'++[⟨ad,cap',λx=>x∈a2⟩]=G';have aJc:(G.set i g').length=(o.set i fZ).length:=by simp [r.len]
 have back:∀{j x y},look o' G' j x y->(j=i/\x=fZ/\y=g')\/(j=o.length/\x=⟨true,false,m,1,rows⟩/\y=⟨ad,cap',λx=>x∈a2⟩)\/(j≠i/\look o G j x y):=by
  intro j x y h;rw [<-hO,<-hGG] at h;rcases qJ aJc h with ⟨_,h⟩|⟨hj,h⟩
  .rcases Bf h with ⟨h1,h2,h3⟩|⟨h1,h2⟩
   .exact .inl ⟨h1,h2,h3⟩
   .exact .inr (.inr ⟨h1,h2⟩)
  .right;left;obtain ⟨h1,h2⟩:=h;cases hd:j - (o.set i fZ).length with
   |zero=>rw [hd] at h1 h2;simp at h1 h2 hj hd;exact ⟨by omega,h1.symm,h2.symm⟩
   |succ n=>rw [hd] at h1;simp at h1
 have fi:look o' G' i fZ g':=by rw [<-hO,<-hGG];exact qQ (uE hlk)
 have fJ:look o' G' o.length ⟨true,false,m,1,rows⟩ ⟨ad,cap',λx=>x∈a2⟩:=by rw [<-hO,<-hGG];have:=rP (o:=o.set i fZ) (o2:=[⟨true,false,m,1,rows⟩]) (G:=G.set i g') (G2:=[⟨ad,cap',λx=>x∈a2⟩]) aJc (i:=0) (x:=⟨true,false,m,1,rows⟩) (y:=⟨ad,cap',λx=>x∈a2⟩) ⟨rfl,rfl⟩;simpa using this
 have fo:∀{j x y},j≠i->look o G j x y->look o' G' j x y:=λhj h=>by rw [<-hO,<-hGG];exact qQ (Fq h hj)
 have aR4:fZ.live=true:=by rw [<-Ay];exact hl
 have aLi:fZ.n=ob.n:=by rw [<-Ay]
 have aR5:fZ.cZ=ob.cZ:=by rw [<-Ay]
 have aLj:fZ.eQ.length=ob.eQ.length:=by rw [<-Ay];simp
 have hga:g'.a=g.a:=by rw [<-hg']
 have hgc:g'.cap=g.cap:=by rw [<-hg']
 have zm:∀x,g'.F x↔g.F x/\x∉a2:=λx=>by rw [<-hg']
 let Er:Env:=(env B o G w).no i
 have rt1:nJ (jV [i]) true (env B o G w) Er (λ_=>True):=by
  refine ⟨λt e=>by simp [jV] at e,λt e=>by simp only [jV,eC] at e;exact ⟨e.symm,λb hb=>hb⟩,λj t e=> ?_,λ_ _ _ _ h=>h,λ_ _ _ _ _ _ h=>h⟩;simp only [jV] at e;split at e
  .cases e
  .rename_i hiu;obtain rfl:=cQ e;refine ⟨by simp,?_,λb hb=>⟨hiu,hb⟩⟩;by_cases hV:(env B o G w).V j
   .exact .inl hV
   .exact .inr hV
 have kA:∀x,(env B o G w).A x->(env B o' G' w).A x:=λx hx=>⟨hx.1,λj y z hlj hjl hf=>by
  rcases back hlj with ⟨rfl,rfl,rfl⟩|⟨rfl,rfl,rfl⟩|⟨_,h⟩
  .exact hx.2 _ _ _ hlk hl ((zm x).1 hf).1
  .exact hx.2 _ _ _ hlk hl (hsub2 x hf)
  .exact hx.2 _ _ _ h hjl hf⟩
 have k2':fK w Er w (env B o' G' w):=by
  refine ⟨λx hx=>⟨kA x hx,rfl⟩,λj h x hx=> ?_,λj x hV h=> ?_,λj cZ x h=> ?_,λj cZ p q x h=> ?_⟩
  .obtain ⟨y,hy⟩:=r.look hx;by_cases hj:j=i
   .subst hj;rw [ho] at hx;obtain rfl:=cQ hx;exact hl
   .exact h x (fo hj hy).1
  .obtain ⟨hji,x',y,hlj,hjl,hf,hne⟩:=h;exact ⟨⟨x',y,fo (by simpa using hji) hlj,hjl,hf,hne⟩,rfl⟩
  .obtain ⟨x',y,hlj,DU,hh,hz⟩:=h;by_cases hj:j=i
   .subst hj;obtain ⟨rfl,rfl⟩:=nK hlk hlj;exact ⟨fZ,g',fi,by omega,λ_ WC=>by rw [hga,hgc,aLj];exact hh hl (by omega),hz⟩
   .exact ⟨x',y,fo hj hlj,DU,hh,hz⟩
  .obtain ⟨x',y,hlj,DU,hh,hz⟩:=h;by_cases hj:j=i
   .subst hj;obtain ⟨rfl,rfl⟩:=nK hlk hlj;exact ⟨fZ,g',fi,by omega,λ_ WC=>by rw [hga,aLi];exact hh hl (by omega),λ_ e2 e3 e4 y hy=>⟨(hz hb e2 e3 e4 y hy).1,λ_ WC=>by rw [hgc];exact (hz hb e2 e3 e4 y hy).2 hl (by omega)⟩⟩
   .exact ⟨x',y,fo hj hlj,DU,hh,hz⟩
 have kp:fK w (env B o G w).plain w (env B o' G' w).plain:=⟨λx hx=>⟨kA x hx,rfl⟩,λ_ _=>trivial,λ_ _ _ h=>h.elim,λ_ _ _ h=>h.elim,λ_ _ _ _ _ h=>h.elim⟩;have kf:fK w (env B o G w).plain w (env B o' G' w):=kp.trans (Yd w _);have hnd':=hnd;simp only [lR] at hnd';refine ⟨G',{len:=by rw [<-hO,<-hGG];simp [r.len],defs:=r.defs,ok:= ?_,apart:= ?_,fresh:= ?_,tmps:=Kk hw (fB k2' _ _ _ (by simp) (yN rt1 _ _ _ (by simp) r.tmps)),size:=r.size,frame:=r.frame,base:=r.base,same:=r.same}⟩
 .intro j x y hlj hjl;rcases back hlj with ⟨rfl,rfl,rfl⟩|⟨rfl,rfl,rfl⟩|⟨hj,h⟩
  .refine ⟨b::(f1++(a1++[]++a3)++f3),?_,?_,?_⟩
   .rw [<-Ay,<-hg'];simp only [hb,Env.of,gO];refine ⟨by simpa using hlen,.inr ⟨b,off,C,ty,fz,_,ha,hbk,hz,h1,by simpa using h2,h3,rfl,?_⟩⟩;refine wy hk hn hcs hone (aLh hcl hv (fB k2' _ _ _ (λ_ _=>rfl) k1) ?_ (fB k2' _ _ _ (λ_ _=>rfl) k3)) (oI k2' _ _ _ _ _ rfl (λ_ _=>rfl) hr1) (oI k2' _ _ _ _ _ rfl (λ_ _=>rfl) hr3);simp only [R];exact ⟨trivial,_,_,fJ,eE _,λ_ _=>hvs,λh=>by omega⟩
   .have hs:(f1++(a1++[]++a3)++f3).Sublist (f1++(a1++a2++a3)++f3):=((rS f1).append (((rS a1).append (nil_sublist a2)).append (rS a3))).append (rS f3);exact lR.2 ⟨λh=>hnd'.1 (hs.subset h),hs.nodup hnd'.2⟩
   .intro x hx;rw [zm];have hin:x∈b::(f1++(a1++a2++a3)++f3):=by simp only [lE,fL,not_mem_nil,or_false] at hx⊢;grind
    refine ⟨hF x hin,λhx2=> ?_⟩;have hd:=hnd'.2;simp only [gR,fL] at hd;simp only [lE,fL,not_mem_nil,or_false] at hx;rcases hx with rfl|(hx|hx|hx)|hx
    .exact hnd'.1 (by simp [hx2])
    .exact hd.1.2.2 x hx x (.inl (.inr hx2)) rfl
    .exact hd.1.2.1.1.2.2 x hx x hx2 rfl
    .exact hd.1.2.1.2.2 x (.inr hx2) x hx rfl
    .exact hd.2.2 x (.inr (.inl (.inr hx2))) x hx rfl
  .refine ⟨a2,?_,?_,λx hx=>hx⟩
   .simp only [Env.of,eS,hH];exact aA1.keeps kp (λ_ _=>rfl)
   .have hd:=hnd'.2;simp only [gR] at hd;exact hd.1.2.1.1.2.1
  .obtain ⟨fq,q1,q2,q3⟩:=r.ok j x y h hjl;refine ⟨fq,?_,q2,q3⟩;cases hbj:x.box with
   |false=>simp only [hbj,Env.of,eS,hH] at q1⊢;exact q1.keeps kp (λ_ _=>rfl)
   |true=>simp only [hbj,Env.of,gO] at q1⊢;exact (q1.ES (nb h hbj)).keeps k2' (λ_ _=>rfl)
 .intro j1 j2 x1 x2 y1 y2 z hl1 hl2 v1 v2 hf1 hf2;rcases back hl1 with ⟨rfl,rfl,rfl⟩|⟨rfl,rfl,rfl⟩|⟨hj1,h1⟩<;>rcases back hl2 with ⟨rfl,rfl,rfl⟩|⟨rfl,rfl,rfl⟩|⟨hj2,h2⟩
  .rfl
  .exact absurd hf2 ((zm z).1 hf1).2
  .exact absurd (r.apart _ _ _ _ _ _ z hlk h2 hl v2 ((zm z).1 hf1).1 hf2).symm hj2
  .exact absurd hf1 ((zm z).1 hf2).2
  .rfl
  .exact absurd (r.apart _ _ _ _ _ _ z hlk h2 hl v2 (hsub2 z hf1) hf2).symm hj2
  .exact absurd (r.apart _ _ _ _ _ _ z h1 hlk v1 hl hf1 ((zm z).1 hf2).1) hj1
  .exact absurd (r.apart _ _ _ _ _ _ z h1 hlk v1 hl hf1 (hsub2 z hf2)) hj1
  .exact r.apart _ _ _ _ _ _ z h1 h2 v1 v2 hf1 hf2
 .intro j x y z hlj hjl hf;rcases back hlj with ⟨rfl,rfl,rfl⟩|⟨rfl,rfl,rfl⟩|⟨_,h⟩
  .exact r.fresh _ _ _ z hlk hl ((zm z).1 hf).1
  .exact r.fresh _ _ _ z hlk hl (hsub2 z hf)
  .exact r.fresh _ _ _ z h hjl hf
attribute [simp] ES wY
def quiet:Op->Bool
 | .move _| .assign _| .load _ _| .fieldAddr _ _ _| .indexAddr _ _ _| .index _ _ _| .extract _ _| .unOp _ _ _| .binOp _ _ _ _ _| .convert _ _ _| .pick _ _ _| .alloc _| .box _ _| .build _ _| .nilCheck _=>true
 | .call ⟨.builtin .len,⟨[_]⟩,⟨[_]⟩⟩=>true
 | .call ⟨.value _,_,_⟩=>true
 |_=>false
def nM (op:Op) (s:AS):Bool:=match op with
 | .buildSlice _ _ parts=>(kJ ((parts.toList.map (·.2)).map s.ev)).isEmpty
 | .slice _ x _ _ none=>match s.ev x with
  | .str _=>true
  | .sl _ _ _=>true
  |_=>false
 | .call ⟨.builtin .append,⟨[x,y]⟩,_⟩=>(match s.ev x with| .sl .own _ []=>true|_=>false)&&(match s.ev y with| .sl .own _ []=>true| .sl .view _ _=>true| .str _=>true|_=>false)
 |o=>quiet o
mutual
theorem aBu {o o':List aN}:∀x:AV,lT x=[]->res o x=res o' x/\jR o x=jR o' x
 | .obj i v,h=>by simp [lT] at h
 | .agg c,h=>by have:=GJ (o:=o) (o':=o') c (by simpa [lT] using h);simp only [res,jR,this,Fm]
 | .gZ c,h=>by have:=GJ (o:=o) (o':=o') c (by simpa [lT] using h);simp only [res,jR,this,Fm]
 | .int _ _,_=>⟨rfl,rfl⟩
 | .bool _,_=>⟨rfl,rfl⟩
 | .str _,_=>⟨rfl,rfl⟩
 | .sl .own _ _,_=>⟨rfl,rfl⟩
 | .sl .view _ _,_=>⟨rfl,rfl⟩
 | .sl (.kG _) _ _,_=>⟨rfl,rfl⟩
 | .fA .own _ _,_=>⟨rfl,rfl⟩
 | .fA .view _ _,_=>⟨rfl,rfl⟩
 | .fA (.kG _) _ _,_=>⟨rfl,rfl⟩
 | .ptr _ _ _ _,_=>⟨rfl,rfl⟩
 | .fn _ [],_=>⟨rfl,rfl⟩
 | .fn _ (_::_),_=>⟨rfl,rfl⟩
 | .undef,_=>⟨rfl,rfl⟩
theorem GJ {o o':List aN}:∀c:List AV,kJ c=[]->uR o c=uR o' c/\mV o c=mV o' c
 |[],_=>⟨rfl,rfl⟩
 |x::xs,h=>by simp only [kJ,append_eq_nil_iff] at h;have h1:=aBu (o:=o) (o':=o') x h.1;have h2:=GJ (o:=o) (o':=o') xs h.2;simp only [uR,mV,h1,h2,Fm]
end
theorem yc {o:List aN}:∀{c:List AV},(∀x∈uR o c,x.xO=true)->∀x∈c,x≠ .undef
 |[],_,x,hx=>by cases hx
 |y::ys,h,x,hx=>by
  rcases lE.1 hx with rfl|hx
  .rintro rfl;have:=h .undef (by simp [uR,res]);simp [AV.xO,AV.NA] at this
  .exact yc (o:=o) (c:=ys) (λz hz=>h z (by simp [uR,hz])) x hx
def tZ (t:List AV):Option Tmp->AV->List AV
 |some d,x=>t.set d x
 |none,_=>t
theorem put_eq (t:List AV) (o:List aN) (d:Option Tmp) (x:AV):AS.put ⟨t,o⟩ d x=⟨tZ t d x,o⟩:=by cases d<;>rfl
theorem ko:∀{t2 t:List AV} (i:Nat),wk t2 t->t.getD i .undef=t2.getD i .undef\/t.getD i .undef= .undef
 |[],[],_,_=> .inl rfl
 |[],_::_,_,h=>h.elim
 |_::_,[],_,h=>h.elim
 |x::xs,y::ys,0,h=>by simpa [getD] using h.1
 |x::xs,y::ys,i+1,h=>by simpa [getD] using ko i h.2
theorem Ms (t:List AV) (o:List aN) (d:Option Tmp) (c:List AV):AS.box ⟨t,o⟩ d c=⟨tZ t d (.ptr o.length 0 0 0),o++[⟨true,true,c.length,0,[c]⟩]⟩:=put_eq _ _ _ _
theorem GK (t:List AV) (o:List aN) (d:Option Tmp) (r:AV):AS.called ⟨t,o⟩ d r=⟨tZ t d (gH 1 o.length r).1,o++(gH 1 o.length r).2⟩:=put_eq _ _ _ _
section
variable {t t2 : List AV} {o o2 : List aN}
theorem Vr (hw:wk t2 t) (x:Operand):(AS.ev ⟨t,o⟩ x)=(AS.ev ⟨t2,o2⟩ x)\/(AS.ev ⟨t,o⟩ x)= .undef:=by
 cases x with
 |tmp i=>exact ko i hw
 |const v=>exact .inl rfl
 |func f=>exact .inl rfl
 |global g=>exact .inl rfl
theorem Cg (hw:wk t2 t) {x:Operand} {y:AV} (h:AS.ev ⟨t,o⟩ x=y) (hy:y≠ .undef):AS.ev ⟨t2,o2⟩ x=y:=by
 rcases Vr (o:=o) (o2:=o2) hw x with h'|h'
 .rw [<-h',h]
 .rw [h] at h';exact absurd h' hy
def Sub (o o2:List aN):Prop:=∀(i:Nat) (ob:aN),o[i]? =some ob->ob.live=true->o2[i]? =some ob
theorem yS (hs:Sub o o2) {i cZ:Nat} {ob:aN} (h:AV.isObj o i cZ=some ob):AV.isObj o2 i cZ=some ob:=by
 unfold AV.isObj at h⊢;split at h
 .rename_i x hx;split at h
  .rename_i hc;rw [hs _ _ hx hc.1];simp only [hc,Fm,gO];exact h
  .cases h
 .cases h
theorem aBv (hs:Sub o o2) {i cZ idx:Nat} {p:aN×List AV} (h:AS.at ⟨t,o⟩ i cZ idx=some p):AS.at ⟨t2,o2⟩ i cZ idx=some p:=by
 unfold AS.at at h⊢;split at h
 .rename_i ob h1;simp only [yS hs h1];exact h
 .cases h
theorem Bi (hs:Sub o o2) {i cZ:Nat} (h:(AV.isObj o i cZ).isSome=true):(AV.isObj o2 i cZ).isSome=true:=by obtain ⟨ob,h⟩:=AT.1 h;rw [yS hs h];rfl
theorem zJ (hs:Sub o o2) {x:AV} (h:x.fit o=true):x.fit o2=true:=by
 cases x with
 |sl g n l=>
  cases g with
  |kG i=>
   simp only [AV.fit] at h⊢;split at h
   .rename_i ob wG;rw [hs _ _ wG h];exact h
   .cases h
  |_=>rfl
 |fA g c off=>
  cases g with
  |kG i=>
   simp only [AV.fit] at h⊢;split at h
   .rename_i ob wG;rw [hs _ _ wG h];exact h
   .cases h
  |_=>rfl
 |obj i cZ=>simp only [AV.fit] at h⊢;exact Bi hs h
 |ptr i cZ _ _=>simp only [AV.fit] at h⊢;exact Bi hs h
 |undef=>cases h
 |gZ _=>cases h
 |_=>rfl
theorem kr {x:AV} (h:x.fit o=true):x≠ .undef:=by rintro rfl;cases h
end
mutual
theorem aGm {o o2:List aN} (hs:Sub o o2):∀(x:AV),arg o x≠ .undef->∀(w:World) (v:Value),R w (oF w) (arg o2 x) v []->R w (oF w) (arg o x) v []
 | .obj i cZ,hn,w,v,h=>by
  cases ho:AV.isObj o i cZ with
  |none=>exact absurd (by simp only [arg,ho]) hn
  |some ob=>simp only [arg,ho,yS hs ho] at h⊢;exact h
 | .ptr i cZ idx off,hn,w,v,h=>by
  cases ho:AV.isObj o i cZ with
  |none=>exact absurd (by simp only [arg,ho]) hn
  |some ob=>simp only [arg,ho,yS hs ho] at h⊢;exact h
 | .agg c,_,w,v,h=>by simp only [arg,R] at h⊢;obtain ⟨cs,h1,h2,h3⟩:=h;exact ⟨cs,h1,h2,Dm hs c w cs h3⟩
 | .gZ c,_,w,v,h=>by simp only [arg,R] at h⊢;obtain ⟨cs,h1,h3⟩:=h;exact ⟨cs,h1,Dm hs c w cs h3⟩
 | .fn f c,_,w,v,h=>by simp only [arg,R] at h⊢;obtain ⟨h0,cs,h1,h3⟩:=h;exact ⟨h0,cs,h1,Dm hs c w cs h3⟩
 | .int _ _,_,_,_,h=>h
 | .bool _,_,_,_,h=>h
 | .str _,_,_,_,h=>h
 | .sl .own _ _,_,_,_,h=>h
 | .sl .view _ _,_,_,_,h=>h
 | .sl (.kG i) n l,hn,w,v,h=>by
  cases ho:o[i]? with
  |none=>simp [arg,ho] at hn
  |some ob=>
   by_cases hv:ob.live=true
   .simp only [arg,ho,hs _ _ ho hv] at h⊢;exact h
   .simp [arg,ho,hv] at hn
 | .fA .own _ _,_,_,_,h=>h
 | .fA .view _ _,_,_,_,h=>h
 | .fA (.kG i) c off,hn,w,v,h=>by
  cases ho:o[i]? with
  |none=>simp [arg,ho] at hn
  |some ob=>
   by_cases hv:ob.live=true
   .simp only [arg,ho,hs _ _ ho hv] at h⊢;exact h
   .simp [arg,ho,hv] at hn
 | .undef,hn,_,_,_=>absurd rfl hn
theorem Dm {o o2:List aN} (hs:Sub o o2):∀(c:List AV) (w:World) (cs:List Value),Rc w (oF w) (BV o2 c) cs []->Rc w (oF w) (BV o c) cs []
 |[],_,_,h=>h
 |x::xs,w,[],h=>by simp [BV,Rc] at h
 |x::xs,w,c::cs,h=>by
  simp only [BV,Rc] at h⊢;obtain ⟨f1,f2,h1,h2,e⟩:=h;obtain ⟨rfl,rfl⟩:f1=[]/\f2=[]:=by simpa using e
  refine ⟨[],[],?_,Dm hs xs w cs h2,rfl⟩;by_cases hn:arg o x= .undef
  .rw [hn];simp [R]
  .exact aGm hs x hn w c h1
end
theorem WZ {o:List aN}:∀{a2 a:List AV},wk a2 a->wk (BV o a2) (BV o a)
 |[],[],_=>trivial
 |[],_::_,h=>h.elim
 |_::_,[],h=>h.elim
 |x::xs,y::ys,h=>by
  refine ⟨?_,WZ h.2⟩;rcases h.1 with rfl|rfl
  .exact .inl rfl
  .exact .inr rfl
theorem yf {t t2:List AV} {o o2:List aN} (hw:wk t2 t) (l:List Operand) (cap:List AV):wk (l.map (AS.ev ⟨t2,o2⟩)++cap) (l.map (AS.ev ⟨t,o⟩)++cap):=by
 induction l with
 |nil=>
  simp only [Dg,eM];induction cap with
  |nil=>trivial
  |cons x xs ih=>exact ⟨.inl rfl,ih⟩
 |cons x xs ih=>exact ⟨Vr hw x,ih⟩
theorem Ok.mono {P:Program} [aC P] {f:FuncId} {a a2:List AV} {r:AV} (h:Ok P f a r) (hs:∀w vs,Rc w (oF w) a2 vs []->Rc w (oF w) a vs []):Ok P f a2 r:=
 λw vs hg hr=>h w vs hg (hs w vs hr)
theorem YK:∀(q k k':Nat) (x:AV),(gH q k x).2=[]->gH q k' x=gH q k x:=by intro q k k' x h;exact (go q k k').1 x h
where
 go (q k k':Nat):(∀x:AV,(gH q k x).2=[]->gH q k' x=gH q k x)/\(∀c:List AV,(fE q k c).2=[]->fE q k' c=fE q k c):=
  ⟨λx=>one x,λc=>all c⟩
 one {q k k':Nat}:∀x:AV,(gH q k x).2=[]->gH q k' x=gH q k x
  | .sl .own n l,h=>by simp [gH] at h
  | .agg c,h=>by simp only [gH] at h⊢;rw [all c h]
  | .gZ c,h=>by simp only [gH] at h⊢;rw [all c h]
  | .sl .view _ _,_=>rfl
  | .sl (.kG _) _ _,_=>rfl
  | .int _ _,_=>rfl
  | .bool _,_=>rfl
  | .str _,_=>rfl
  | .fA _ _ _,_=>rfl
  | .obj _ _,_=>rfl
  | .ptr _ _ _ _,_=>rfl
  | .fn _ _,_=>rfl
  | .undef,_=>rfl
 all {q k k':Nat}:∀c:List AV,(fE q k c).2=[]->fE q k' c=fE q k c
  |[],_=>rfl
  |x::xs,h=>by
   simp only [fE,append_eq_nil_iff] at h⊢;have h1:=one (k':=k') x h.1;rw [h1];have h2:(gH q k x).2.length=0:=by rw [h.1];rfl
   rw [h2] at h⊢;have h3:=all (k:=k+0) (k':=k'+0) xs h.2;rw [h3]
theorem Ei {t2 t:List AV} {o o2:List aN} (hw:wk t2 t) {d n:Nat} {x:Option Operand} (h:AS.bound ⟨t,o⟩ d x=some n):AS.bound ⟨t2,o2⟩ d x=some n:=by
 cases x with
 |none=>exact h
 |some x=>
  simp only [AS.bound] at h⊢;split at h
  .rename_i hx;rw [Cg (o2:=o2) hw hx (by simp)];exact h
  .cases h
theorem YL {P:Program} [aC P] {op:Oper} {t t2:List AV} {o o2:List aN} {K:AS->Prop} (q:nM op.op ⟨t,o⟩=true) (hw:wk t2 t) (h:rM P op ⟨t,o⟩ K) (hs:Sub o o2) (Ae:o2.length=o.length\/∀s',K s'->s'.o.length=o.length):
  ∃x new x2,K ⟨tZ t op.dst x,o++new⟩/\(x=x2\/x= .undef)/\(o2.length=o.length\/new=[])/\∀K2:AS->Prop,K2 ⟨tZ t2 op.dst x2,o2++new⟩->rM P op ⟨t2,o2⟩ K2:=by
 have same:∀{x:AV},K (AS.put ⟨t,o⟩ op.dst x)->(∀K2:AS->Prop,K2 (AS.put ⟨t2,o2⟩ op.dst x)->rM P op ⟨t2,o2⟩ K2)->
   ∃x new x2,K ⟨tZ t op.dst x,o++new⟩/\(x=x2\/x= .undef)/\(o2.length=o.length\/new=[])/\∀K2:AS->Prop,K2 ⟨tZ t2 op.dst x2,o2++new⟩->rM P op ⟨t2,o2⟩ K2:=by
  intro x h1 h2;refine ⟨x,[],x,by rw [fY,<-put_eq];exact h1,.inl rfl,.inr rfl,λK2 hK=>h2 K2 ?_⟩;rw [put_eq];rw [fY] at hK;exact hK
 obtain ⟨dst,op,ty,pos,after,gd⟩:=op;have E:∀{x:Operand} {y:AV},AS.ev ⟨t,o⟩ x=y->y≠ .undef->AS.ev ⟨t2,o2⟩ x=y:=λh hy=>Cg hw h hy
 unfold rM at h;dsimp only at h q same⊢;split at h;case h_1=>
  rename_i X;refine ⟨_,[],AS.ev ⟨t2,o2⟩ X,by rw [put_eq] at h;rw [fY];exact h,Vr hw X,.inr rfl,λK2 hK=> ?_⟩;unfold rM;dsimp only;rw [put_eq];rw [fY] at hK;exact hK
 case h_2=>
  rename_i X;refine ⟨_,[],AS.ev ⟨t2,o2⟩ X,by rw [put_eq] at h;rw [fY];exact h,Vr hw X,.inr rfl,λK2 hK=> ?_⟩;unfold rM;dsimp only;rw [put_eq];rw [fY] at hK;exact hK
 case h_3=>
  split at h
  .rename_i b hc;rename_i X Y _;refine ⟨if b then AS.ev ⟨t,o⟩ X else AS.ev ⟨t,o⟩ Y,[],if b then AS.ev ⟨t2,o2⟩ X else AS.ev ⟨t2,o2⟩ Y,by rw [put_eq] at h;rw [fY];exact h,?_,.inr rfl,λK2 hK=> ?_⟩
   .cases b
    .exact Vr hw Y
    .exact Vr hw X
   .unfold rM;dsimp only;rw [E hc (by simp)];dsimp only;rw [put_eq];rw [fY] at hK;exact hK
  .exact h.elim
 case h_4=>
  split at h
  .rename_i z hz;rcases Ae with hlen|Ae
   .refine ⟨.ptr o.length 0 0 0,[⟨true,true,z.length,0,[z]⟩],.ptr o.length 0 0 0,by rw [Ms] at h;exact h,.inl rfl,.inl hlen,λK2 hK=> ?_⟩
    unfold rM;dsimp only;rw [hz];dsimp only;rw [Ms,hlen];exact hK
   .have:=Ae _ h;rw [Ms] at this;simp at this
  .exact h.elim
 case h_5=>
  rename_i X;obtain ⟨h1,h2⟩:=h;have hX:=E (x:=X) rfl (kr h1);rcases Ae with hlen|Ae
  .refine ⟨.ptr o.length 0 0 0,[⟨true,true,(AS.ev ⟨t,o⟩ X).cells.length,0,[(AS.ev ⟨t,o⟩ X).cells]⟩],.ptr o.length 0 0 0,by rw [Ms] at h2;exact h2,.inl rfl,.inl hlen,λK2 hK=> ?_⟩
   unfold rM;dsimp only;rw [hX];refine ⟨zJ hs h1,?_⟩;rw [Ms,hlen];exact hK
  .have:=Ae _ h2;rw [Ms] at this;simp at this
 case h_6=>
  rename_i T parts;split at h
  .rename_i pl hp;split at h
   .rename_i z0 hz;obtain ⟨h1,h⟩:=h;split at h
    .rename_i z hf;have Ad:(parts.toList.map λp=>(p.1,AS.ev ⟨t2,o2⟩ p.2))=parts.toList.map λp=>(p.1,AS.ev ⟨t,o⟩ p.2):=
      map_congr_left λp hp=>by rw [E (x:=p.2) rfl (kr (h1 p hp))]
     refine same h λK2 hK=> ?_
     unfold rM;dsimp only;rw [hp];dsimp only;rw [hz];dsimp only;refine ⟨λp hp=>by rw [E (x:=p.2) rfl (kr (h1 p hp))];exact zJ hs (h1 p hp),?_⟩;rw [Ad,hf];exact hK
    .exact h.elim
   .exact h.elim
  .exact h.elim
 case h_7=>
  rename_i T len parts;split at h
  .rename_i e n by' he;obtain ⟨k1,k2,k3,k4,k5,k6,k7,k8,h⟩:=h;have hu:kJ ((parts.toList.map (·.2)).map (AS.ev ⟨t,o⟩))=[]:=by simpa [nM] using q
   have hL:(parts.toList.map (·.2)).map (AS.ev ⟨t2,o2⟩)=(parts.toList.map (·.2)).map (AS.ev ⟨t,o⟩):=
    map_congr_left λx hx=>E rfl (yc (λy hy=>(k8 y hy).1) _ (AH.2 ⟨x,hx,rfl⟩))
   have aBw:∀os:List aN,Fw [] os=os:=λ_=>rfl
   rcases Ae with hlen|Ae
   .refine ⟨.obj o.length 1,[⟨true,false,n,1,(uR o ((parts.toList.map (·.2)).map (AS.ev ⟨t,o⟩))).map AV.cells⟩],.obj o.length 1,?_,.inl rfl,.inl hlen,λK2 hK=> ?_⟩
    .unfold AS.built at h;rw [hu,aBw,put_eq] at h;simpa using h
    .unfold rM;dsimp only;rw [he];dsimp only;refine ⟨k1,k2,k3,k4,k5,?_⟩;rw [hL];have aBx:=GJ (o:=o) (o':=o2) _ hu;refine ⟨by rw [<-aBx.2];exact k6,k7,by rw [<-aBx.1];exact k8,?_⟩;unfold AS.built;dsimp only;rw [hL,hu,aBw,put_eq,hlen,<-aBx.1];simpa [hlen] using hK
   .have:=Ae _ h;unfold AS.built at this;rw [hu,aBw,put_eq] at this;simp at this
  .exact h.elim
 case h_8=>
  rename_i T X;split at h
  .rename_i hx;split at h
   .rename_i ob e ha;unfold Am at h;split at h
    .rename_i n hn;refine same h.2 λK2 hK=> ?_
     unfold rM;dsimp only;rw [E hx (by simp)];dsimp only;rw [aBv hs ha];dsimp only;unfold Am;rw [hn];exact ⟨h.1,hK⟩
    .rename_i hn;obtain ⟨h1,h⟩:=h;split at h
     .rename_i y hy;refine same h λK2 hK=> ?_
      unfold rM;dsimp only;rw [E hx (by simp)];dsimp only;rw [aBv hs ha];dsimp only;unfold Am;rw [hn];dsimp only;rw [hy];exact ⟨h1,hK⟩
     .exact h.elim
   .exact h.elim
  .rename_i hx;obtain ⟨hf,h⟩:=h;unfold Am at h;split at h
   .rename_i n hn;refine same h.2 λK2 hK=> ?_
    unfold rM;dsimp only;rw [E hx (by simp)];dsimp only;unfold Am;rw [hn];exact ⟨zJ hs hf,h.1,hK⟩
   .rename_i hn;obtain ⟨h1,h⟩:=h;split at h
    .rename_i y hy;refine same h λK2 hK=> ?_
     unfold rM;dsimp only;rw [E hx (by simp)];dsimp only;unfold Am;rw [hn];dsimp only;rw [hy];exact ⟨zJ hs hf,h1,hK⟩
    .exact h.elim
  .exact h.elim
 case h_9=>cases q
 case h_10=>
  split at h
  .rename_i fo hf;split at h
   .rename_i hx;refine same h.2 λK2 hK=> ?_
    unfold rM;dsimp only;rw [hf];dsimp only;rw [E hx (by simp)];exact ⟨Bi hs h.1,hK⟩
   .rename_i hx;refine same h.2 λK2 hK=> ?_
    unfold rM;dsimp only;rw [hf];dsimp only;rw [E hx (by simp)];exact ⟨zJ hs h.1,hK⟩
   .exact h.elim
  .exact h.elim
 case h_11=>
  split at h
  .rename_i hi;obtain ⟨h0,h⟩:=h;split at h
   .rename_i hx;split at h
    .rename_i ob ho;split at h
     .rename_i he;refine same h.2.2.2 λK2 hK=> ?_
      unfold rM;dsimp only;rw [E hi (by simp)];dsimp only;rw [E hx (by simp)];dsimp only;rw [yS hs ho];dsimp only;rw [he];exact ⟨h0,h.1,h.2.1,h.2.2.1,hK⟩
     .exact h.elim
    .exact h.elim
   .rename_i hx;obtain ⟨hf,h⟩:=h;split at h
    .rename_i he;obtain ⟨hm,h⟩:=h;split at h
     .rename_i hc;refine same h λK2 hK=> ?_
      unfold rM;dsimp only;rw [E hi (by simp)];dsimp only;rw [E hx (by simp)];dsimp only;rw [he];dsimp only;rw [hc];exact ⟨h0,zJ hs hf,hm,hK⟩
     .exact h.elim
    .exact h.elim
   .rename_i hx;obtain ⟨hso,h⟩:=h;split at h
    .rename_i ha;refine same h.2 λK2 hK=> ?_
     unfold rM;dsimp only;rw [E hi (by simp)];dsimp only;rw [E hx (by simp)];dsimp only;rw [ha];exact ⟨h0,Bi hs hso,h.1,hK⟩
    .exact h.elim
   .exact h.elim
  .exact h.elim
 case h_12=>
  split at h
  .rename_i hx;split at h
   .rename_i hi;obtain ⟨ht,h0,h⟩:=h;split at h
    .rename_i hu;refine same h λK2 hK=> ?_
     unfold rM;dsimp only;rw [E hx (by simp)];dsimp only;rw [E hi (by simp)];dsimp only;rw [hu];exact ⟨ht,h0,hK⟩
    .exact h.elim
   .exact h.elim
  .exact h.elim
 case h_13=>
  split at h
  .rename_i hx;split at h
   .rename_i hy;refine same h λK2 hK=> ?_
    unfold rM;dsimp only;rw [E hx (by simp)];dsimp only;rw [hy];exact hK
   .exact h.elim
  .exact h.elim
 case h_14=>cases q
 case h_15=>cases q
 case h_16=>
  split at h
  .rename_i hx;split at h
   .rename_i ha;split at h
    .rename_i hb;obtain ⟨h1,h2,h3,h⟩:=h;refine same h λK2 hK=> ?_
     unfold rM;dsimp only;rw [E hx (by simp)];dsimp only;rw [Ei hw ha];dsimp only;rw [Ei hw hb];exact ⟨h1,h2,h3,hK⟩
    .exact h.elim
   .exact h.elim
  .rename_i hx;split at h
   .rename_i ha;split at h
    .rename_i hb;split at h
     .rename_i he;obtain ⟨h1,h2,h3,h4,h⟩:=h;refine same h λK2 hK=> ?_
      unfold rM;dsimp only;rw [E hx (by simp)];dsimp only;rw [Ei hw ha];dsimp only;rw [Ei hw hb];dsimp only;rw [he];exact ⟨h1,zJ hs h2,h3,h4,hK⟩
     .exact h.elim
    .exact h.elim
   .exact h.elim
  .rename_i hx;simp only [nM,hx] at q;cases q
  .exact h.elim
 case h_17=>
  split at h
  .rename_i hx;refine same h λK2 hK=> ?_
   unfold rM;dsimp only;rw [E hx (by simp)];exact hK
  .exact h.elim
 case h_18=>
  split at h
  .rename_i hx;refine same h λK2 hK=> ?_
   unfold rM;dsimp only;rw [E hx (by simp)];exact hK
  .exact h.elim
 case h_19=>
  split at h
  .rename_i hx;split at h
   .rename_i hy;obtain ⟨hk,h⟩:=h;split at h
    .rename_i hz;refine same h λK2 hK=> ?_
     unfold rM;dsimp only;rw [E hx (by simp)];dsimp only;rw [E hy (by simp)];dsimp only;rw [hz];exact ⟨hk,hK⟩
    .exact h.elim
   .exact h.elim
  .rename_i hx;split at h
   .rename_i hy;obtain ⟨hk,h⟩:=h;split at h
    .rename_i hz;refine same h λK2 hK=> ?_
     unfold rM;dsimp only;rw [E hx (by simp)];dsimp only;rw [E hy (by simp)];dsimp only;rw [hz];exact ⟨hk,hK⟩
    .exact h.elim
   .exact h.elim
  .rename_i hx;split at h
   .rename_i hy;refine same h.2.2 λK2 hK=> ?_
    unfold rM;dsimp only;rw [E hx (by simp)];dsimp only;rw [E hy (by simp)];exact ⟨h.1,h.2.1,hK⟩
   .exact h.elim
  .rename_i hx;split at h
   .rename_i hy;obtain ⟨h1,h2,h3,b,h4,h5⟩:=h;refine same h5 λK2 hK=> ?_
    unfold rM;dsimp only;rw [E hx (by simp)];dsimp only;rw [E hy (by simp)];exact ⟨h1,h2,h3,b,h4,hK⟩
   .exact h.elim
  .exact h.elim
 case h_20=>
  split at h
  .rename_i hx;split at h
   .rename_i hk;refine same h.2 λK2 hK=> ?_
    unfold rM;dsimp only;rw [E hx (by simp)];dsimp only;rw [hk];exact ⟨h.1,hK⟩
   .exact h.elim
  .rename_i hx;refine same h.2.2 λK2 hK=> ?_
   unfold rM;dsimp only;rw [E hx (by simp)];exact ⟨h.1,h.2.1,hK⟩
  .rename_i hx;split at h
   .rename_i he;obtain ⟨h1,h2,h3,h4,h5,bs,h6,h7⟩:=h;refine same h7 λK2 hK=> ?_
    unfold rM;dsimp only;rw [E hx (by simp)];dsimp only;rw [he];exact ⟨h1,h2,zJ hs h3,h4,h5,bs,h6,hK⟩
   .exact h.elim
  .rename_i hx;split at h
   .rename_i ho;split at h
    .rename_i he;obtain ⟨h1,h2,h3,h4,bs,h6,h7⟩:=h;refine same h7 λK2 hK=> ?_
     unfold rM;dsimp only;rw [E hx (by simp)];dsimp only;rw [yS hs ho];dsimp only;rw [he];exact ⟨h1,h2,h3,h4,bs,h6,hK⟩
    .exact h.elim
   .exact h.elim
  .exact h.elim
 case h_21=>
  split at h
  .rename_i hx;refine same h.2 λK2 hK=> ?_
   unfold rM;dsimp only;rw [E hx (by simp)];exact ⟨h.1,hK⟩
  .rename_i hx;refine same h.2.2 λK2 hK=> ?_
   unfold rM;dsimp only;rw [E hx (by simp)];exact ⟨zJ hs h.1,h.2.1,hK⟩
  .rename_i hx;split at h
   .rename_i ho;refine same h.2 λK2 hK=> ?_
    unfold rM;dsimp only;rw [E hx (by simp)];dsimp only;rw [yS hs ho];exact ⟨h.1,hK⟩
   .exact h.elim
  .exact h.elim
 case h_22=>
  rename_i X Y tS xT;simp only [nM,eJ] at q;obtain ⟨qx,qy⟩:=q;split at h
  .rename_i e n by' he;obtain ⟨k1,k2,h⟩:=h;split at qx
   .rename_i m hx;have hx2:=E hx (by simp);rw [hx] at h;simp only [AS.target] at h;have aKf:∀(y:AV),AS.ev ⟨t,o⟩ Y=y->y≠ .undef->(match y with| .sl .own _ []=>true| .sl .view _ _=>true| .str _=>true|_=>false)=true->∀l2 o',AS.source ⟨t,o++[⟨true,false,n,0,[]⟩]⟩ o.length n y=some (l2,o')->
      o'=o++[⟨true,false,n,0,[]⟩]/\AS.source ⟨t2,o2++[⟨true,false,n,0,[]⟩]⟩ o2.length n (AS.ev ⟨t2,o2⟩ Y)=some (l2,o2++[⟨true,false,n,0,[]⟩]):=by
     intro y hy hne hk l2 o' YM;rw [E hy hne];split at hk
     .simp only [AS.source,eC,oE] at YM⊢;exact ⟨YM.2.symm,YM.1,trivial⟩
     .simp only [AS.source] at YM⊢;split at YM
      .rename_i hm;simp only [eC,oE] at YM;rw [eI hm];exact ⟨YM.2.symm,by rw [YM.1]⟩
      .cases YM
     .simp only [AS.source] at YM⊢;split at YM
      .rename_i hm;simp only [eC,oE] at YM;rw [eI hm];exact ⟨YM.2.symm,by rw [YM.1]⟩
      .cases YM
     .cases hk
    split at h
    .rename_i l2 o' YM;obtain ⟨h1,h2,h⟩:=h;obtain ⟨rfl,hs2⟩:=aKf _ rfl (by rintro hu;rw [hu] at qy;simp at qy) qy _ _ YM;have e1:(o++[(⟨true,false,n,0,[]⟩:aN)]).set o.length ⟨true,false,n,0+1,[]++l2⟩=o++[⟨true,false,n,0+1,[]++l2⟩]:=by rw [tW _ _ (eE _)];simp
     have e2:(o2++[(⟨true,false,n,0,[]⟩:aN)]).set o2.length ⟨true,false,n,0+1,[]++l2⟩=o2++[⟨true,false,n,0+1,[]++l2⟩]:=by rw [tW _ _ (eE _)];simp
     unfold AS.xR at h;dsimp only at h;rw [e1,put_eq] at h;rcases Ae with hlen|Ae
     .refine ⟨.obj o.length (0+1),[⟨true,false,n,0+1,[]++l2⟩],.obj o.length (0+1),h,.inl rfl,.inl hlen,λK2 hK=> ?_⟩
      unfold rM;dsimp only;rw [he];dsimp only;refine ⟨k1,k2,?_⟩;rw [hx2];simp only [AS.target];rw [hs2];dsimp only;refine ⟨h1,h2,?_⟩;unfold AS.xR;dsimp only;rw [e2,put_eq,hlen];exact hK
     .have:=Ae _ h;simp at this
    .exact h.elim
   .cases qx
  .exact h.elim
 case h_23=>
  rename_i F args X7;split at h
  .rename_i g cap hf;split at h
   .rename_i h1;obtain ⟨r,h2,h3⟩:=h;have nT:Ok P g (BV o2 (AS.args ⟨t2,o2⟩ args++cap)) r:=h2.mono λw vs hr=>
     Kk (WZ (yf (o:=o) (o2:=o2) hw args.toList cap)) (Dm hs _ w vs hr)
    rcases Ae with hlen|Ae
    .refine ⟨(gH 1 o.length r).1,(gH 1 o.length r).2,(gH 1 o.length r).1,by rw [GK] at h3;exact h3,.inl rfl,.inl hlen,λK2 hK=> ?_⟩
     unfold rM;dsimp only;rw [E hf (by simp)];dsimp only;rw [eI h1];refine ⟨r,nT,?_⟩;rw [GK,hlen];exact hK
    .have hn:=Ae _ h3;simp only [GK,eR] at hn;have hn':(gH 1 o.length r).2=[]:=kO (by omega);have ha:=YK 1 o.length o2.length r hn';refine ⟨(gH 1 o.length r).1,[],(gH 1 o.length r).1,?_,.inl rfl,.inr rfl,λK2 hK=> ?_⟩
     .rw [GK,hn'] at h3;exact h3
     .unfold rM;dsimp only;rw [E hf (by simp)];dsimp only;rw [eI h1];refine ⟨r,nT,?_⟩;unfold AS.called;rw [ha,hn',put_eq];simpa using hK
   .rename_i h1;obtain ⟨r,h2,h3⟩:=h;refine same h3 λK2 hK=> ?_
    unfold rM;dsimp only;rw [E hf (by simp)];dsimp only;rw [cX h1];exact ⟨r,λw vs hr=>h2 w vs (Kk (WZ (yf (o:=o) (o2:=o2) hw args.toList cap)) (Dm hs _ w vs hr)),hK⟩
  .exact h.elim
 case h_24=>
  split at h
  .rename_i hx;refine same h.2 λK2 hK=> ?_
   unfold rM;dsimp only;rw [E hx (by simp)];exact ⟨Bi hs h.1,hK⟩
  .rename_i hx;refine same h.2 λK2 hK=> ?_
   unfold rM;dsimp only;rw [E hx (by simp)];exact ⟨zJ hs h.1,hK⟩
  .exact h.elim
 case h_25=>exact h.elim
end Go.Aw
