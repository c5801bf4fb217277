/- Proved here: steps towards the statement of this claim. No condition. -/
import Derived.Test.YthddijamfbfibaaGreatDoorZF9
set_option linter.all false
namespace Go.Aw
open List
def lC(s s':AS):Prop:=∀⦃P:Program⦄ [aB P] (B:gN P) a w,Rel B s a w->Rel B s' a w
def DZ(K:AS->Prop)(Q:Exit->AS->Prop):Exit->AS->Prop
 | .normal,s=>K s
 |e,s=>Q e s
def AIn(id:Nat)(Q:Exit->AS->Prop):Exit->AS->Prop
 | .exit id',s=>if id'=id then Q .normal s else Q (.exit id') s
 |e,s=>Q e s
def lift{P:Program}[aB P](B:gN P)(Q:Exit->AS->Prop):Exit->Act->World->Prop:=λe a w=>∃s,Q e s/\Rel B s a w
def dm(want:Bool):AV->AV
 | .gM []=> .bool (!want)
 |x=>x
@[simp] theorem aOh(w b:Bool):dm w (.bool b)= .bool b:=rfl
@[simp] theorem aQt(w:Bool):dm w (.gM [])= .bool (!w):=rfl
theorem aE0{w b:Bool}{x:AV}(h:dm w x= .bool b):(x= .gM []/\b= !w)\/x= .bool b:=by
 unfold dm at h;split at h
 .exact .inl ⟨rfl,(AV.bool.inj h).symm⟩
 .exact .inr h
theorem za(w:World)(E:Env):R w E (.gM []) undef []:=by simp only[R];exact⟨[],rfl,by simp[Rc]⟩
def sQ(all:List Oper)(s:AS)(j:Nat)(want:Bool):AV:=match all[j]? with
 |some o=>match o.dst with
  |some d=>dm want (s.t.getD d .undef)
  |none=> .undef
 |none=> .undef
def Ll(P:Program)[aB P](o:Oper)(s:AS)(K:AS->Prop):Prop:=
 match o.op with
 | .call ⟨.value f,⟨x::ys⟩,_⟩=>match s.ev f with
  | .fn g []=>bR P g=true/\(ys.all λy=>(s.ev y).Sd)=true/\jO s.o (s.ev x)=true/\(mE (s.ev x)).Nodup/\∃x' r,OkM P g (res s.o (s.ev x)) x' (ys.map s.ev) r/\(r.iF=true\/r= .gM [])/\mt s.o (s.ev x) x'=true/\K (s.QW o.dst (s.ev x) x' r)
  |_=>False
 | .convert src d x=>match s.ev x with
  | .str l=>match nC P d with
   |some (e,m,_)=>isString P src=true/\m=1/\intType P e=some .u8/\l.length<=9223372036854775807/\K (s.made o.dst 1 (dK l))
   |none=>False
  |_=>False
 |_=>False
theorem dw{P:Program}[aB P]{B:gN P}{o:Oper}{s:AS}{K:AS->Prop}(h:Ll P o s K):∃s',K s'/\Step P B o s s':=by
 obtain⟨dst,op,ty,pos,after,gd⟩:=o;unfold Ll at h;dsimp only at h;split at h
 .split at h
  .rename_i hf;obtain⟨h1,h2,h3,h4,x',r,h5,h6,h7,h8⟩:=h;exact⟨_,h8,aEp _ _ _ _ hf h1 h2 h6 h3 h4 h7 h5⟩
  .exact h.elim
 .split at h
  .rename_i hx;split at h
   .rename_i he;obtain⟨h1,rfl,h2,h3,h4⟩:=h;exact⟨_,h4,yw _ _ _ hx h1 he h2 h3⟩
   .exact h.elim
  .exact h.elim
 .exact h.elim
def dx(P:Program)[aB P](o:Oper)(s:AS)(K:AS->Prop):Prop:=
 match o.op with
 | .call ⟨.value f,args,_⟩=>match s.ev f with
  | .fn g []=>bR P g=true/\∃gs r,Lf P g gs r/\(takes s.o (s.args args) gs).Nodup/\handed s.o (takes s.o (s.args args) gs) (s.args args) gs/\K (s.given o.dst (s.args args) gs r)
  |_=>False
 |_=>False
theorem zb{P:Program}[aB P]{B:gN P}{o:Oper}{s:AS}{K:AS->Prop}(h:dx P o s K):∃s',K s'/\Step P B o s s':=by
 obtain⟨dst,op,ty,pos,after,gd⟩:=o;unfold dx at h;dsimp only at h;split at h
 .split at h
  .rename_i hf;obtain⟨h1,gs,r,h2,h3,h4,h5⟩:=h;exact⟨_,h5,aBm _ _ _ hf h1 h3 h4 h2⟩
  .exact h.elim
 .exact h.elim
theorem lC.refl(s:AS):lC s s:=λ_ _ _ _ _ h=>h
theorem lC.trans{a b c:AS}(h:lC a b)(k:lC b c):lC a c:=λ_ _ B x w r=>k B x w (h B x w r)
def Kb(P:Program)[aB P](o:Oper)(s:AS)(K:AS->Prop):Prop:=∃s1,lC s s1/\(sM P o s1 K\/Ll P o s1 K\/dx P o s1 K)
theorem Sq{P:Program}[aB P]{B:gN P}{o:Oper}{s:AS}{K:AS->Prop}(h:Kb P o s K):∃s',K s'/\Step P B o s s':=by
 obtain⟨s1,hw,h⟩:=h;obtain⟨s',hK,hst⟩:∃s',K s'/\Step P B o s1 s':=by
  rcases h with h|h|h
  .exact BG h
  .exact dw h
  .exact zb h
 exact⟨s',hK,λa w next Q hr hn=>hst a w next Q (hw B a w hr) hn⟩
theorem aE1{P:Program}[aB P]{o:Oper}{s:AS}{K:AS->Prop}(h:Ll P o s K):Kb P o s K:=⟨s,lC.refl s,.inr (.inl h)⟩
theorem aOi{P:Program}[aB P]{o:Oper}{s:AS}{K:AS->Prop}(h:dx P o s K):Kb P o s K:=⟨s,lC.refl s,.inr (.inr h)⟩
theorem aOj{P:Program}[aB P]{o:Oper}{s:AS}{K:AS->Prop}(h:aOe P o s K):Kb P o s K:=by
 unfold aOe at h;split at h
 .split at h
  .split at h
   .rename_i ob vZ;exact⟨_,λ_ _ B a w hr=>X4 vZ h.1 hr,.inl h.2⟩
   .exact h.elim
  .exact h.elim
 .exact h.elim
def Je(P:Program)[aB P](o:Oper)(s:AS)(K:AS->Prop):Prop:=∃s1,lC s s1/\yx P o s1 K
theorem Ph{P:Program}[aB P]{B:gN P}{o:Oper}{s:AS}{K:AS->Prop}(h:Je P o s K)(a:Act)(w:World)(next:Act->World->Prop)(X:Exit->Act->World->Prop)(hr:Rel B s a w)
  (hn:∀a' w' s',K s'->Rel B s' a' w'->next a' w'):o.wp P a w next X:=by
 obtain⟨s1,hw,h⟩:=h;exact yz h a w next X (hw B a w hr) hn
def lD(P:Program)[aB P](all:List Oper):List Oper->AS->(AS->Prop)->Prop
 |[],s,K=>K s
 |o::r,s,K=>match o.guard with
  |none=>(sM P o s λs'=>lD P all r s' K)\/(Kb P o s λs'=>lD P all r s' K)\/(Je P o s λs'=>lD P all r s' K)
  |some (j,want)=>match sQ all s j want with
   | .bool b=>(b=want->(sM P o s λs'=>lD P all r s' K)\/(Kb P o s λs'=>lD P all r s' K)\/(Je P o s λs'=>lD P all r s' K))/\(b≠want->lD P all r (s.put o.dst (.gM [])) K)
   |_=>False
def ze(P:Program)[aB P](ops:Array Oper)(s:AS)(K:AS->Prop):Prop:=
 ∀(B:gN P) a w (Q:Exit->Act->World->Prop),Rel B s a w->(∀a' w' s',K s'->Rel B s' a' w'->Q .normal a' w')->
  wpAny P .any ops Q ops.size (Array.replicate ops.size false) a {w with drawn:=w.drawn+1}
def vE(P:Program)[aB P]:Code->AS->(Exit->AS->Prop)->Prop
 | .skip,s,Q=>Q .normal s
 | .region _ ops false,s,Q=>∃s2,lC s s2/\lD P ops.toList ops.toList s2 (Q .normal)
 | .region _ ops true,s,Q=>ze P ops s (Q .normal)
 | .seq x y,s,Q=>vE P x s (DZ (λs'=>vE P y s' Q) Q)
 | .cond c x y,s,Q=>match s.ev c with
  | .bool b=>(b=true->vE P x s Q)/\(b=false->vE P y s Q)
  |_=>False
 | .block id c,s,Q=>vE P c s (AIn id Q)
 | .loop c,s,Q=>∃(ι:Type) (inv:ι->AS) (μ:ι->Nat) (i:ι),lC s (inv i)/\∀i,vE P c (inv i) (DZ (λs'=>∃j,lC s' (inv j)/\μ j<μ i) Q)
 | .exit id,s,Q=>Q (.exit id) s
 | .ret,s,Q=>Q .ret s
 |_,_,_=>False
theorem Sr{P:Program}[aB P]{B:gN P}{s:AS}{G:List CO}{a:Act}{w:World}(r:eB B s G a w){all:List Oper}{j:Nat}{b want:Bool}(h:sQ all s j want= .bool b):(yielded all.toArray a.tmps j == some want)=(b == want):=by
 unfold sQ at h;split at h
 .rename_i o ho;split at h
  .rename_i d hd;have h1:=r.ev (.tmp d);simp only[AS.ev]at h1;rcases aE0 h with⟨h0,rfl⟩|h0
   .rw [h0]at h1;simp only[R]at h1;obtain⟨cs,h2,h3⟩:=h1;cases cs with
    |cons=>simp[Rc]at h3
    |nil=>
     simp only[Act.eval]at h2;rw[fY]at h2;cases hg:a.tmps[d]? with
     |none=>simp[yielded,ho,hd,hg]
     |some v=>simp[hg]at h2;subst h2;simp[yielded,ho,hd,hg]
   .rw [h0]at h1;simp only[R]at h1;have h2:=h1.1;simp only[Act.eval]at h2;rw[fY]at h2;cases hg:a.tmps[d]? with
    |none=>simp[hg]at h2;cases h2
    |some v=>simp[hg]at h2;subst h2;simp[yielded,ho,hd,hg]
  .cases h
 .cases h
theorem EM{P:Program}[aB P]{B:gN P}{all:List Oper}{Q:Exit->Act->World->Prop}:∀(l:List Oper) (s:AS) (K:AS->Prop),lD P all l s K->∀a w,Rel B s a w->(∀a' w' s',K s'->Rel B s' a' w'->Q .normal a' w')->wpList P all.toArray Q l a w
 |[],s,K,h,a,w,r,hk=>hk _ _ _ h r
 |o::l,s,K,h,a,w,r,hk=>by
  simp only[lD]at h;have stepped:((sM P o s λs'=>lD P all l s' K)\/(Kb P o s λs'=>lD P all l s' K)\/(Je P o s λs'=>lD P all l s' K))->Region.wanted o (yielded all.toArray a.tmps)=true->wpList P all.toArray Q (o::l) a w:=by
   intro h hw;simp only[wpList,hw,gE];by_cases hcu:Je P o s λs'=>lD P all l s' K
   .exact .inl (Ph hcu a w _ Q r λa' w' s' h' r'=>EM l s' K h' a' w' r' hk)
   obtain⟨s',h',hst⟩:∃s',lD P all l s' K/\Step P B o s s':=by
    rcases h with h|h|h
    .exact BG (B:=B) h
    .exact Sq (B:=B) h
    .exact (hcu h).elim
   exact .inl (hst a w _ Q r λa' w' r'=>EM l s' K h' a' w' r' hk)
  split at h
  .rename_i hg;exact stepped h (by simp[Region.wanted,hg])
  .rename_i j want hg;split at h
   .rename_i b hb;obtain⟨G,r'⟩:=r;have hy:=Sr r' hb;by_cases hbw:b=want
    .exact stepped (h.1 hbw) (by simp[Region.wanted,hg,hy,hbw])
    .have hw:Region.wanted o (yielded all.toArray a.tmps)=false:=by simp[Region.wanted,hg,hy,hbw]
     simp only[wpList,hw,eS,hM];exact EM l _ K (h.2 hbw) _ _ ⟨G,r'.put o.dst (za _ _)⟩ hk
   .exact h.elim
theorem YJ{ι:Type}(p:ι->Prop)(μ:ι->Nat)(h:∃i,p i):∃i,p i/\∀j,p j->μ i<=μ j:=by
 obtain⟨i,hi⟩:=h;generalize hn:μ i=n;induction n using Nat.strongRecOn generalizing i with
 |_ n ih=>
  by_cases hex:∃j,p j/\μ j<n
  .obtain ⟨j,hj,hlt⟩:=hex;exact ih (μ j) hlt j hj rfl
  .refine ⟨i,hi,λj hj=> ?_⟩
   rw[hn];exact Nat.le_of_not_lt λhlt=>hex ⟨j,hj,hlt⟩
open Classical in
noncomputable def least{ι:Type}(p:ι -> Prop)(μ:ι -> Nat): Nat := if h:∃ i, p i then μ (YJ p μ h).choose else 0
theorem least_le{ι:Type}{p:ι->Prop}{μ:ι->Nat}{j:ι}(h:p j):least p μ<=μ j:=by have hex:∃i,p i:=⟨j,h⟩;unfold least;rw[dif_pos hex];exact(YJ p μ hex).choose_spec.2 j h
theorem aE2{ι:Type}{p:ι->Prop}{μ:ι->Nat}(h:∃i,p i):∃i,p i/\least p μ=μ i:=by refine⟨(YJ p μ h).choose,(YJ p μ h).choose_spec.1,?_⟩;unfold least;rw[dif_pos h]
theorem sS{P:Program}[aB P](hm:P.follows .mixedOrders=true){B:gN P}:∀(c:Code) (s:AS) (Q:Exit->AS->Prop),vE P c s Q->∀a w,Rel B s a w->c.wp P (lift B Q) a w
 | .skip,s,Q,h,a,w,r=>wp_skip ⟨s,h,r⟩
 | .region id ops false,s,Q,⟨s2,hw,h⟩,a,w,r=>wp_region_list (by
   have:=EM (Q:=lift B Q) ops.toList s2 (Q .normal) h a w (hw B a w r) (λa' w' s' h' r'=>⟨s',h',r'⟩);simpa using this)
 | .region id ops true,s,Q,h,a,w,r=>wp_region_any hm (h B a w (lift B Q) r λa' w' s' h' r'=>⟨s',h',r'⟩)
 | .seq x y,s,Q,h,a,w,r=>wp_seq (wp_mono (sS hm x s _ h a w r) λe a' w' he=>by
   obtain⟨s',h',r'⟩:=he;cases e with
   |normal=>exact sS hm y s' Q h' a' w' r'
   |_=>exact⟨s',h',r'⟩)
 | .cond c x y,s,Q,h,a,w,r=>by
  simp only[vE]at h;split at h
  .rename_i b hb;obtain⟨G,r'⟩:=r;exact wp_cond_split (r'.ak hb) (λhb=>sS hm x s Q (h.1 hb) a w ⟨G,r'⟩) (λhb=>sS hm y s Q (h.2 hb) a w ⟨G,r'⟩)
  .exact h.elim
 | .block id c,s,Q,h,a,w,r=>wp_block (wp_mono (sS hm c s _ h a w r) λe a' w' he=>by
   obtain⟨s',h',r'⟩:=he;cases e with
   |exit id'=>
    simp only[AIn]at h';simp only[Exit.inBlock];split at h'
    .rename_i hid;rw[eK hid];exact⟨s',h',r'⟩
    .rename_i hid;rw[cY hid];exact⟨s',h',r'⟩
   |_=>exact⟨s',h',r'⟩)
 | .loop c,s,Q,h,a,w,r=>by
  obtain⟨ι,inv,μ,i,h0,hr⟩:=h;refine wp_loop (λa w=>∃i,Rel B (inv i) a w) (λa w=>least (λi=>Rel B (inv i) a w) μ) ⟨i,h0 B a w r⟩ λa w hex=> ?_
  obtain⟨i,hi,aVq⟩:=aE2 (μ:=μ) hex;refine wp_mono (sS hm c (inv i) _ (hr i) a w hi) λe a' w' he=> ?_
  obtain⟨s',h',r'⟩:=he;cases e with
  |normal=>obtain⟨j,hw,hlt⟩:=h';have hj:=hw B a' w' r';refine⟨⟨j,hj⟩,?_⟩;rw[aVq];exact Nat.lt_of_le_of_lt (least_le hj) hlt
  |_=>exact⟨s',h',r'⟩
 | .exit id,s,Q,h,a,w,r=>wp_exit ⟨s,h,r⟩
 | .ret,s,Q,h,a,w,r=>wp_ret ⟨s,h,r⟩
 | .rangeFunc _ _ _ _,_,_,h,_,_,_=>by simp[vE]at h
 | .scope _,_,_,h,_,_,_=>by simp[vE]at h
 | .label _,_,_,h,_,_,_=>by simp[vE]at h
 | .goto _,_,_,h,_,_,_=>by simp[vE]at h
 | .refuse _,_,_,h,_,_,_=>by simp[vE]at h
def AS.rv(P:Program)(s:AS):ResultVar->Option AV
 | .tmp t=>some (s.t.getD t .undef)
 | .cell t ty=>match s.t.getD t .undef with
  | .ptr i bU idx off=>match s.at i bU idx with
   |some (_,e)=>match kJ P ty with
    |some n=>if off+n<=e.length then some (.agg (((xO (EE i) true e).drop off).take n))else none
    |none=>if oD P ty then(xO (EE i) true e)[off]? else none
   |none=>none
  |_=>none
def FL(a:Act):ResultVar->Sem Value
 | .tmp t=>pure (a.tmps.getD t Go.undef)
 | .cell t ty=>do loadVar ty (<-asAddr (a.tmps.getD t Go.undef))
theorem Ke(fn:Func)(a:Act):results fn a.tmps=(do let vs<-fn.results.mapM (FL a);pure (if h:vs.size=1 then vs[0]else .tuple vs)):=by unfold results;congr 1;all_goals (congr 1;all_goals (funext x;cases x<;>rfl))
theorem aOk{P:Program}[aB P]{B:gN P}{s:AS}{G:List CO}{a:Act}{w:World}(r:eB B s G a w){rv:ResultVar}{x:AV}(h:s.rv P rv=some x):
  ∃v,(FL a rv).run P w= .ok v w/\R w (env B s.o G w) x v []:=by
 cases rv with
 |tmp t=>simp only[AS.rv,eE]at h;subst h;exact⟨a.tmps.getD t Go.undef,rfl,r.ev (.tmp t)⟩
 |cell t ty=>
  simp only[AS.rv]at h;split at h
  .rename_i i bU idx off hx;split at h
   .rename_i ob e ha;obtain⟨ho,he⟩:=Br ha;obtain⟨g,b,f,hl,hlive,hga,hv⟩:=r.ptr (x:= .tmp t) hx ho;obtain⟨b',f',cs,wW,hcn,hc,hone,wL⟩:=r.elem hl hlive he;rw[hga]at wW;simp only[eE,pN,sY]at wW;obtain⟨rfl,rfl⟩:=wW;have hle:=gG wL;rw[EF]at hle;simp only[Act.eval]at hv;split at h
    .rename_i n hn;split at h
     .rename_i hfit;obtain rfl:=cQ h;refine⟨.agg ((cs.drop off).take n).toArray,?_,by simp only[R];exact⟨_,rfl,Ii hone,Rz off n wL⟩⟩;have:=uV (P:=P) (t:=ty) (k:=off) (n:=n) (cs:=cs) hn (by omega) hc;simp only[Instr.loadAt,Instr.sureAddr,pure_bind]at this;simp[FL,hv,asAddr,<-oR,this]
     .cases h
    .split at h
     .rename_i aSa;obtain⟨v,hv',hR⟩:=JJ wL h;refine⟨v,?_,hR⟩;have:=yE (P:=P) (t:=ty) aSa hv' hc;simp only[Instr.loadAt,Instr.sureAddr,pure_bind]at this;simp[FL,hv,asAddr,<-oR,this]
     .cases h
   .cases h
  .cases h
def AS.wY(P:Program)(s:AS):List ResultVar->Option (List AV)
 |[]=>some []
 |x::xs=>match s.rv P x with
  |some y=>match AS.wY P s xs with
   |some ys=>some (y::ys)
   |none=>none
  |none=>none
def single:List AV->AV
 |[x]=>x
 |xs=> .gM xs
def aP(P:Program)(fn:Func)(s:AS)(r:AV):Prop:=
 ∃ys,s.wY P fn.results.toList=some ys/\jO s.o (single ys)=true/\(mE (single ys)).Nodup/\res s.o (single ys)=r/\clean r=true
theorem Lm{P:Program}[aB P]{B:gN P}{s:AS}{G:List CO}{a:Act}{w:World}(r:eB B s G a w):∀{l:List ResultVar} {ys:List AV},s.wY P l=some ys->
  ∃vs,(l.mapM (m:=Sem) (FL a)).run P w= .ok vs w/\Rc w (env B s.o G w) ys vs []
 |[],ys,h=>by simp only[AS.wY,eE]at h;subst h;exact⟨[],by simp,by simp[Rc]⟩
 |x::xs,ys,h=>by
  simp only[AS.wY]at h;split at h
  .rename_i y hy;split at h
   .rename_i ys' zf;obtain rfl:=cQ h;obtain⟨v,h1,h2⟩:=aOk r hy;obtain⟨vs,h3,h4⟩:=Lm r zf;refine⟨v::vs,?_,by simp only[Rc];exact⟨[],[],h2,h4,rfl⟩⟩;simp only[mapM_cons,oS];rw[h1];simp only[lP];rw[h3];simp
   .cases h
  .cases h
theorem Al{P:Program}[aB P]{B:gN P}{s:AS}{G:List CO}{a:Act}{w:World}(r:eB B s G a w){fn:Func}{ys:List AV}(h:s.wY P fn.results.toList=some ys):
  ∃v,(results fn a.tmps).run P w= .ok v w/\R w (env B s.o G w) (single ys) v []:=by
 obtain⟨vs,h1,h2⟩:=Lm r h;have hl:=gG h2;have hm:(fn.results.mapM (m:=Sem) (FL a)).run P w= .ok vs.toArray w:=by rw[DM];simp only[Sem.run_map];rw[h1];rfl
 rw[Ke];simp only[oS];rw[hm];simp only[lP,tB];match ys,vs,hl,h2 with
 |[y],[v],_,h2=>
  refine⟨v,by simp,?_⟩;simp only[Rc]at h2;obtain⟨f1,f2,h3,_,e⟩:=h2;obtain⟨rfl,_⟩:f1=[]/\f2=[]:=by simpa using e
  exact h3
 |[],[],_,h2=>exact⟨.tuple #[],by simp,by simp only[single,R];exact⟨[],rfl,h2⟩⟩
 |y1::y2::ys,v1::v2::vs,_,h2=>exact⟨.tuple (v1::v2::vs).toArray,by simp,by simp only[single,R];exact⟨_,rfl,h2⟩⟩
theorem Xf{P:Program}[aB P](hm:P.follows .mixedOrders=true){f:FuncId}{fn:Func}{c:Code}(hf:P.funcs[f]? =some fn)(hb:fn.body=some c){args:List AV}{rr:AV}
  (h:vE P c ⟨args++replicate (fn.ntmps-args.length) .undef,[]⟩ (λe s=>(e= .normal\/e= .ret)/\aP P fn s rr)):Ok P f args rr:=by
 intro w vs hg hargs;have hl:=gG hargs;have r0:eB ⟨w,λb=>b<w.heap.size,λ_=>False,λ_=>none,λ_=>none,hg,λ_ h=>h.elim,λ_ h=>h.elim⟩ ⟨args++replicate (fn.ntmps-args.length) .undef,[]⟩ [] {tmps:=vs.toArray++Array.replicate (fn.ntmps-vs.toArray.size) Go.undef,defers:=[]} w:=by
  refine⟨rfl,rfl,λi ob g hl=>by simp[look]at hl,λi j oi oj gi gj b hl=>by simp[look]at hl,λi ob g b hl=>by simp[look]at hl,?_,eC _,λ_ _ _=>rfl,λb hb=>hb,mI.rfl⟩;have h1:Rc w (env ⟨w,λb=>b<w.heap.size,λ_=>False,λ_=>none,λ_=>none,hg,λ_ h=>h.elim,λ_ h=>h.elim⟩ [] [] w) args vs []:=dU (w:=w) (w':=w) (E:=oM w) (E':=env ⟨w,λb=>b<w.heap.size,λ_=>False,λ_=>none,λ_=>none,hg,λ_ h=>h.elim,λ_ h=>h.elim⟩ [] [] w) ⟨λb hb=>⟨⟨.inl hb,λi ob g hl=>by simp[look]at hl⟩,rfl⟩,λ_ _=>trivial,λ_ _ _ h=>by exact h.elim,λ_ _ _ h=>by exact h.elim,λ_ _ _ _ _ h=>by exact h.elim⟩ _ _ _ (by simp) hargs;have h2:∀n,Rc w (env ⟨w,λb=>b<w.heap.size,λ_=>False,λ_=>none,λ_=>none,hg,λ_ h=>h.elim,λ_ h=>h.elim⟩ [] [] w) (replicate n .undef) (replicate n Go.undef) []:=by
   intro n;induction n with
   |zero=>simp[Rc]
   |succ n ih=>simp only[pD,Rc];exact⟨[],[],by simp[R],ih,rfl⟩
  have:=mY h1 (h2 (fn.ntmps-args.length));simpa [hl]using this
 refine calls_of_wp hf hb (wp_mono (sS hm c _ _ h _ _ ⟨_,r0⟩) λe a w' he=> ?_);obtain⟨s,⟨he,ys,zf,nU,hu,jK,hcl⟩,G,r⟩:=he;obtain⟨v,hrun,hR⟩:=Al r zf;obtain⟨fp,h1,h2,h3⟩:=La r _ v nU hu hR;rw[jK]at h1;have hfin:∃v' fp,Ending.returned v= .returned v'/\R w' (BP w.heap.size w' fp) rr v' fp/\fp.Nodup/\(∀b∈fp,w.heap.size<=b/\b<w'.heap.size)/\w.heap.size<=w'.heap.size/\(∀b,b<w.heap.size->w'.heap[b]? =w.heap[b]?)/\mI w w':=by refine⟨v,fp,rfl,aMp <| Lb (E:=(env _ s.o G w').plain) (λ_ _=>trivial) rfl rfl rfl _ _ _ hcl h1,h2,λb hb=> ?_,r.size,λb hb=>r.frame b hb (λh=>h),r.same⟩;obtain⟨i,ob,g,_,hl,hlive,hF⟩:=h3 b hb;have:=r.fresh _ _ _ b hl hlive hF;exact⟨this.1.resolve_left (λh=>h),this.2⟩
 rcases he with rfl|rfl
 .exact ⟨r.defs,v,hrun,hfin⟩
 .exact ⟨r.defs,v,hrun,hfin⟩
theorem dz{P:Program}[aB P]{all:List Oper}{s:AS}{K:AS->Prop}(h:K s):lD P all [] s K:=h
theorem Su{P:Program}[aB P]{id:Nat}{l:List Oper}{s:AS}{Q:Exit->AS->Prop}(h:lD P l l s (Q .normal)):vE P (.region id l.toArray false) s Q:=by simp only[vE];exact⟨s,lC.refl s,h⟩
theorem zg{P:Program}[aB P]{id:Nat}{ops:Array Oper}{s s2:AS}{Q:Exit->AS->Prop}(hw:lC s s2)(h:vE P (.region id ops false) s2 Q):vE P (.region id ops false) s Q:=by simp only[vE]at h⊢;obtain⟨s3,h1,h2⟩:=h;exact⟨s3,hw.trans h1,h2⟩
theorem Sv{P:Program}[aB P]{c:Operand}{x y:Code}{s:AS}{Q:Exit->AS->Prop}{b:Bool}(hc:s.ev c= .bool b)(h1:b=true->vE P x s Q)(h2:b=false->vE P y s Q):vE P (.cond c x y) s Q:=by simp only[vE,hc];exact⟨h1,h2⟩
theorem Xg{P:Program}[aB P]{id:Nat}{c:Code}{s:AS}{Q:Exit->AS->Prop}(h:vE P c s (AIn id Q)):vE P (.block id c) s Q:=h
theorem ek{P:Program}[aB P]{id:Nat}{s:AS}{Q:Exit->AS->Prop}(h:Q (.exit id) s):vE P (.exit id) s Q:=h
theorem X5{P:Program}[aB P]{s:AS}{Q:Exit->AS->Prop}(h:Q .ret s):vE P .ret s Q:=h
theorem eu{P:Program}[aB P]{s:AS}{Q:Exit->AS->Prop}(h:Q .normal s):vE P .skip s Q:=h
theorem aE3{P:Program}[aB P]{c:Code}{s:AS}{Q:Exit->AS->Prop}{ι:Type}(inv:ι->AS)(μ:ι->Nat)(i:ι)(h0:lC s (inv i))(h:∀i,∀K:AS->Prop,(∀s' j,lC s' (inv j)->μ j<μ i->K s')->vE P c (inv i) (DZ K Q)):vE P (.loop c) s Q:=
 ⟨ι,inv,μ,i,h0,λi=>h i _ λ_ j h1 h2=>⟨j,h1,h2⟩⟩
theorem Lp{K:AS->Prop}{Q:Exit->AS->Prop}{s:AS}(h:Q .ret s):DZ K Q .ret s:=h
theorem Jf{K:AS->Prop}{Q:Exit->AS->Prop}{s:AS}{id:Nat}(h:Q (.exit id) s):DZ K Q (.exit id) s:=h
theorem Jg{Q:Exit->AS->Prop}{s:AS}{id:Nat}(h:Q .normal s):AIn id Q .normal s:=h
theorem Sw{Q:Exit->AS->Prop}{s:AS}{id:Nat}(h:Q .ret s):AIn id Q .ret s:=h
theorem Xh{Q:Exit->AS->Prop}{s:AS}{id:Nat}(h:Q .normal s):AIn id Q (.exit id) s:=by simpa [AIn]using h
theorem Xi{Q:Exit->AS->Prop}{s:AS}{id id':Nat}(hne:id'≠id)(h:Q (.exit id') s):AIn id Q (.exit id') s:=by simpa [AIn,hne]using h
def wk:List AV->List AV->Prop
 |[],[]=>True
 |x::xs,y::ys=>(y=x\/y= .undef)/\wk xs ys
 |_,_=>False
theorem Gt{w:World}{E:Env}:∀{t t':List AV} {vs:List Value},wk t t'->Rc w E t vs []->Rc w E t' vs []
 |[],[],_,_,h=>h
 |[],_::_,_,h,_=>h.elim
 |_::_,[],_,h,_=>h.elim
 |_::_,_::_,[],_,h=>by simp[Rc]at h
 |x::xs,y::ys,v::vs,h,hr=>by
  simp only[Rc]at hr⊢;obtain⟨f1,f2,h1,h2,e⟩:=hr;obtain⟨rfl,rfl⟩:f1=[]/\f2=[]:=by simpa using e
  refine⟨[],[],?_,Gt h.2 h2,rfl⟩;rcases h.1 with rfl|rfl
  .exact h1
  .simp [R]
theorem wN{t t':List AV}{o:List aN}(h:wk t t'):lC ⟨t,o⟩ ⟨t',o⟩:=by rintro P _ B a w ⟨G,r⟩;exact⟨G,{r with tmps:=Gt h r.tmps}⟩
theorem wrap64(n:Int)(h1: -9223372036854775808<=n)(h2:n<=9223372036854775807):IntKind.i64.wrap n=n:=by rw[Cp];omega
theorem oQ{k:Nat}(h:(k:Int)<=9223372036854775806:=by omega):IntKind.i64.wrap ((k:Int)+1)=((k+1:Nat):Int):=by rw[wrap64]<;>omega
mutual
def Lr:AV->Nat
 | .sl .own _ _=>1
 | .agg c=>Bi c
 | .gM c=>Bi c
 |_=>0
def Bi:List AV->Nat
 |[]=>0
 |x::xs=>Lr x+Bi xs
end
mutual
def Kg(q k:Nat):AV->AV
 | .sl .own _ _=> .obj k q
 | .agg c=> .agg (Bj q k c)
 | .gM c=> .gM (Bj q k c)
 | .int a b=> .int a b
 | .bool b=> .bool b
 | .str s=> .str s
 | .sl g n l=> .sl g n l
 | .eU g c off=> .eU g c off
 | .obj i v=> .obj i v
 | .ptr i v j o=> .ptr i v j o
 | .fn f c=> .fn f c
 | .undef=> .undef
def Bj(q k:Nat):List AV->List AV
 |[]=>[]
 |x::xs=>Kg q k x::Bj q (k+Lr x) xs
end
mutual
def IP(q:Nat):AV->List aN
 | .sl .own n l=>[⟨true,false,n,q,l⟩]
 | .agg c=>zI q c
 | .gM c=>zI q c
 | .int _ _=>[]
 | .bool _=>[]
 | .str _=>[]
 | .sl _ _ _=>[]
 | .eU _ _ _=>[]
 | .obj _ _=>[]
 | .ptr _ _ _ _=>[]
 | .fn _ _=>[]
 | .undef=>[]
def zI(q:Nat):List AV->List aN
 |[]=>[]
 |x::xs=>IP q x++zI q xs
end
mutual
theorem Pj(q:Nat):∀x:AV,(IP q x).length=Lr x
 | .sl .own _ _=>rfl
 | .sl .view _ _=>rfl
 | .sl (.kH _) _ _=>rfl
 | .agg c=>EN q c
 | .gM c=>EN q c
 | .int _ _=>rfl
 | .bool _=>rfl
 | .str _=>rfl
 | .eU _ _ _=>rfl
 | .obj _ _=>rfl
 | .ptr _ _ _ _=>rfl
 | .fn _ _=>rfl
 | .undef=>rfl
theorem EN(q:Nat):∀c:List AV,(zI q c).length=Bi c
 |[]=>rfl
 |x::xs=>by simp only[zI,Bi,eR,Pj q x,EN q xs]
end
mutual
theorem qW(q k:Nat):∀x:AV,dF q k x=(Kg q k x,IP q x)
 | .sl .own _ _=>rfl
 | .sl .view _ _=>rfl
 | .sl (.kH _) _ _=>rfl
 | .agg c=>by simp only[dF,Kg,IP,mK q k c]
 | .gM c=>by simp only[dF,Kg,IP,mK q k c]
 | .int _ _=>rfl
 | .bool _=>rfl
 | .str _=>rfl
 | .eU _ _ _=>rfl
 | .obj _ _=>rfl
 | .ptr _ _ _ _=>rfl
 | .fn _ _=>rfl
 | .undef=>rfl
theorem mK(q k:Nat):∀c:List AV,fB q k c=(Bj q k c,zI q c)
 |[]=>rfl
 |x::xs=>by simp only[fB,Bj,zI,qW q k x,mK q _ xs,Pj]
end
attribute [simp] wk AS.ev AS.put AS.box AS.shut AV.fit AV.cells AV.isObj AS.at AS.stored Bh ofV rt xO mX AV.kept EE JQ AS.args arg CK AS.called Kg Bj IP zI Lr Bi qW mK AS.target AS.source AS.yF AS.RU AS.bound AS.made RN YD aN.kill
  AV.OY AV.yC AV.known AV.scalar wX wX.go AS.built Gm V6 kK mE vD res jO nK Pf clean DC iY single AS.rv AS.wY sQ DZ AIn AV.nd yh bq yj iU AV.iF
attribute [irreducible] vE lD DZ AIn
theorem Xo{P:Program}[aB P]{t:TypeId}{c:List AV}{off:Nat}{K1 K2:AV->Prop}(hk:∀y,K1 y->K2 y)(h:Bh P t c off K1):Bh P t c off K2:=by
 unfold Bh at*;split at h
 .exact ⟨h.1,hk _ h.2⟩
 .refine ⟨h.1,?_⟩;have:=h.2;split at this
  .exact hk _ this
  .exact this.elim
theorem YO{P:Program}[aB P]{o:Oper}{s:AS}{K1 K2:AS->Prop}(hk:∀s',K1 s'->K2 s')(h:sM P o s K1):sM P o s K2:=by
 obtain⟨dst,op,ty,pos,after,gd⟩:=o;unfold sM at h⊢;dsimp only at h⊢;split at h;all_goals (repeat' (split at h))
 all_goals (first
  |exact h.elim
  |exact hk _ h
  |exact⟨h.1,hk _ h.2⟩
  |((repeat (refine⟨h.1,?_⟩;replace h:=h.2));exact hk _ h)
  |exact Xo (λy=>hk _) h
  |exact⟨h.1,Xo (λy=>hk _) h.2⟩
  |(obtain⟨r,h1,h2⟩:=h;exact⟨r,h1,hk _ h2⟩)
  |((repeat (refine⟨h.1,?_⟩;replace h:=h.2));obtain⟨r,h1,h2⟩:=h;exact⟨r,h1,hk _ h2⟩)
  |((repeat (refine⟨h.1,?_⟩;replace h:=h.2));split at h<;>first|exact hk _ h|((repeat (refine⟨h.1,?_⟩;replace h:=h.2));exact hk _ h)|exact h.elim)
  |((repeat (refine⟨h.1,?_⟩;replace h:=h.2));(repeat' (split at h))<;>first|exact h.elim|((repeat (refine⟨h.1,?_⟩;replace h:=h.2));exact hk _ h)|((repeat (refine⟨h.1,?_⟩;replace h:=h.2));obtain⟨r,h1,h2⟩:=h;exact⟨r,h1,hk _ h2⟩))
  |(have h9:=hk _ h;simp_all;done)
  |((first|rw[eK (by assumption)]|rw[cY (by assumption)]);((repeat (refine⟨h.1,?_⟩;replace h:=h.2));exact hk _ h))
  |((first|rw[eK (by assumption)]|rw[cY (by assumption)]);((repeat (refine⟨h.1,?_⟩;replace h:=h.2));obtain⟨r,h1,h2⟩:=h;exact⟨r,h1,hk _ h2⟩))
  |((repeat (refine⟨h.1,?_⟩;replace h:=h.2));obtain⟨r,h1,h2⟩:=h;refine⟨r,h1,?_⟩;(first|rw[eK (by assumption)]|rw[cY (by assumption)]);exact hk _ h2))
theorem aBy{P:Program}[aB P]{o:Oper}{s:AS}{K1 K2:AS->Prop}(hk:∀s',K1 s'->K2 s')(h:Ll P o s K1):Ll P o s K2:=by
 obtain⟨dst,op,ty,pos,after,gd⟩:=o;unfold Ll at h⊢;dsimp only at h⊢;split at h
 .split at h
  .obtain ⟨h1,h2,h3,h4,x',r,h5,h6,h7,h8⟩:=h;exact⟨h1,h2,h3,h4,x',r,h5,h6,h7,hk _ h8⟩
  .exact h.elim
 .split at h
  .split at h
   .obtain ⟨h1,h2,h3,h4,h5⟩:=h;exact⟨h1,h2,h3,h4,hk _ h5⟩
   .exact h.elim
  .exact h.elim
 .exact h.elim
theorem aF7{P:Program}[aB P]{o:Oper}{s:AS}{K1 K2:AS->Prop}(hk:∀s',K1 s'->K2 s')(h:dx P o s K1):dx P o s K2:=by
 obtain⟨dst,op,ty,pos,after,gd⟩:=o;unfold dx at h⊢;dsimp only at h⊢;split at h
 .split at h
  .obtain ⟨h1,gs,r,h2,h3,h4,h5⟩:=h;exact⟨h1,gs,r,h2,h3,h4,hk _ h5⟩
  .exact h.elim
 .exact h.elim
theorem iy{P:Program}[aB P]{o:Oper}{s:AS}{K1 K2:AS->Prop}(hk:∀s',K1 s'->K2 s')(h:Kb P o s K1):Kb P o s K2:=by obtain⟨s1,hw,h⟩:=h;exact⟨s1,hw,h.imp (YO hk) (Or.imp (aBy hk) (aF7 hk))⟩
theorem aF8{P:Program}[aB P]{o:Oper}{s:AS}{K1 K2:AS->Prop}(hk:∀s',K1 s'->K2 s')(h:yx P o s K1):yx P o s K2:=False.elim h
theorem Xp{P:Program}[aB P]{o:Oper}{s:AS}{K1 K2:AS->Prop}(hk:∀s',K1 s'->K2 s')(h:Je P o s K1):Je P o s K2:=by obtain⟨s1,hw,h⟩:=h;exact⟨s1,hw,aF8 hk h⟩
abbrev bB:=List UInt8
def aY{α:Type}(f:α->Nat):List α->Nat
 |[]=>0
 |x::xs=>f x+aY f xs
def bP{α:Type}(f:α->Nat)(l:List α):Nat:=l.length+aY f l
def sub(n:Int)(k:Nat):Int:=if n<k then -1 else n-k
theorem sub_neg{n:Int}{k:Nat}(h:n<k):sub n k= -1:=by simp[sub,h]
theorem sub_pos{n:Int}{k:Nat}(h:¬n<k):sub n k=n-k:=by simp[sub,h]
theorem jB{α:Type}(f:α->Nat):∀(l:List α) (k:Nat) (h:k<l.length),aY f (l.take (k+1))=aY f (l.take k)+f l[k]
 |x::xs,0,_=>by simp[aY]
 |x::xs,k+1,h=>by simp only[eL,aY,getElem_cons_succ];rw[jB f xs k (by simpa using h)];omega
theorem jY{α:Type}(f:α->Nat):∀(l:List α) (k:Nat),aY f (l.take k)<=aY f l
 |[],k=>by simp
 |x::xs,0=>by simp[aY]
 |x::xs,k+1=>by simp only[eL,aY];have:=jY f xs k;omega
def BQ(z:List AV)(xs:List (List AV))(k:Nat):List (List AV):=xs.take k++replicate (xs.length-k) z
@[simp] theorem aKj(z:List AV)(xs:List (List AV))(k:Nat):(BQ z xs k).length=xs.length:=by simp[BQ];omega
theorem EO(z:List AV)(xs:List (List AV)):replicate xs.length z=BQ z xs 0:=by simp[BQ]
theorem Ik(z:List AV)(xs:List (List AV))(k:Nat)(h:xs.length<=k):BQ z xs k=xs:=by
 have:xs.length-k=0:=by omega
 simp[BQ,this,cX h]
theorem Il(z:List AV)(xs:List (List AV))(k:Nat)(h:k<xs.length):(BQ z xs k)[k]? =some z:=by
 have h1:(xs.take k).length=k:=by simp;omega
 rw[BQ,kO (by omega),h1,tR];have:0<xs.length-k:=by omega
 simp[this]
theorem Im(z:List AV)(xs:List (List AV))(k:Nat)(h:k<xs.length):(BQ z xs k).set k xs[k]=BQ z xs (k+1):=by
 have h1:(xs.take k).length=k:=by simp;omega
 have h2:xs.length-k=(xs.length-(k+1))+1:=by omega
 have h3:xs.take (k+1)=xs.take k++[xs[k]]:=by rw[eJ h]
 unfold BQ;rw[h2,pD,tI _ _ (by omega),h1,tR,cU,h3,sB];rfl
@[simp] theorem eD{α:Type}(f:α->List AV)(h:∀x,DC (f x)=true):∀l:List α,iY (l.map f)=true
 |[]=>rfl
 |x::xs=>by simp only[mB,iY,h x,CH];exact eD f h xs
theorem bO{α:Type}{f g:α->List AV}{t:Tg->Option Tg}{b:Bool}(h:∀x,xO t b (f x)=g x):∀l:List α,mX t b (l.map f)=l.map g
 |[]=>rfl
 |x::xs=>by simp only[mB,mX,h x,bO h xs]
theorem dI{α:Type}(f:α->Nat)(l:List α)(k:Nat)(h:k<l.length):f l[k]<=aY f l:=by have h1:=jB f l k h;have h2:=jY f l (k+1);omega
theorem bS{α:Type}(f:α->Nat){l:List α}{x:α}(h:x∈l):f x<=aY f l:=by obtain⟨k,hk,rfl⟩:=FG h;exact dI f l k hk
@[simp] def mM(n:Int):List AV:=[.int .i64 n]
@[simp] def aX7(n:Bool):List AV:=[.bool n]
@[simp] def dC(s:bB):List AV:=[.str s]
def gJ(s:bB):Nat:=s.length
@[simp] theorem aSg(t:Tg->Option Tg)(b:Bool)(l:List Int):mX t b (l.map mM)=l.map mM:=bO (by intro x;rfl) l
@[simp] theorem aSh(t:Tg->Option Tg)(b:Bool)(l:List bB):mX t b (l.map dC)=l.map dC:=bO (by intro x;rfl) l
@[simp] theorem Sz(l:List Int):iY (l.map mM)=true:=eD _ (by intro x;rfl) l
@[simp] theorem aOo(l:List bB):iY (l.map dC)=true:=eD _ (by intro x;rfl) l
structure aD where
  host:bB
  path:bB
deriving DecidableEq
@[simp] def aH(x:aD):List AV:=[.str x.host,.str x.path]
def aQ(x:aD):Nat:=x.host.length+x.path.length
def NI(x:aD):Prop:=x.host.length<=9223372036854775807/\x.path.length<=9223372036854775807
@[simp] theorem aQv(t:Tg->Option Tg)(b:Bool)(l:List aD):mX t b (l.map aH)=l.map aH:=bO (by intro x;rfl) l
@[simp] theorem aM3(l:List aD):iY (l.map aH)=true:=eD _ (by intro x;rfl) l
structure oU where
  name:bB
  value:bB
deriving DecidableEq
@[simp] def uX(x:oU):List AV:=[.str x.name,.str x.value]
def oZ(x:oU):Nat:=x.name.length+x.value.length
@[simp] theorem aQw(t:Tg->Option Tg)(b:Bool)(l:List oU):mX t b (l.map uX)=l.map uX:=bO (by intro x;rfl) l
@[simp] theorem aM4(l:List oU):iY (l.map uX)=true:=eD _ (by intro x;rfl) l
structure bT where
  kind:Int
  name:bB
  attrs:List oU
  text:bB
deriving DecidableEq
@[simp] def cB(g:Tg)(x:bT):List AV:=[.int .i64 x.kind,.str x.name,.sl g 2 (x.attrs.map uX),.str x.text]
def bW(x:bT):Nat:=x.name.length+(bP oZ x.attrs)+x.text.length
@[simp] theorem aJb(g:Tg)(b:Bool)(l:List bT):mX (λ_=>some .view) b (l.map (cB g))=l.map (cB .view):=bO (by intro x;simp) l
@[simp] theorem aFe(i:Nat)(b:Bool)(l:List bT):mX (EE i) b (l.map (cB .own))=l.map (cB (.kH i)):=bO (by intro x;simp) l
@[simp] theorem aFf(i:Nat)(b:Bool)(l:List bT):mX (EE i) b (l.map (cB .view))=l.map (cB .view):=bO (by intro x;simp) l
@[simp] theorem aFg(i j:Nat)(b:Bool)(l:List bT):mX (EE i) b (l.map (cB (.kH j)))=l.map (cB (.kH j)):=bO (by intro x;simp) l
@[simp] theorem aFh(b:Bool)(l:List bT):mX JQ b (l.map (cB .own))=l.map (cB .view):=bO (by intro x;simp) l
@[simp] theorem aFi(b:Bool)(l:List bT):mX JQ b (l.map (cB .view))=l.map (cB .view):=bO (by intro x;simp) l
@[simp] theorem mO(l:List bT):iY (l.map (cB .own))=true:=eD _ (by intro x;simp) l
structure nM where
  rest:bB
deriving DecidableEq
@[simp] def dP(x:nM):List AV:=[.str x.rest]
def lQ(x:nM):Nat:=x.rest.length
@[simp] theorem aFj(t:Tg->Option Tg)(b:Bool)(l:List nM):mX t b (l.map dP)=l.map dP:=bO (by intro x;rfl) l
@[simp] theorem aBq(l:List nM):iY (l.map dP)=true:=eD _ (by intro x;rfl) l
structure jP where
  name:bB
  text:bB
  parent:Int
  attrs:List oU
deriving DecidableEq
@[simp] def fA(g:Tg)(x:jP):List AV:=[.str x.name,.str x.text,.int .i64 x.parent,.sl g 2 (x.attrs.map uX)]
def sU(x:jP):Nat:=x.name.length+x.text.length+(bP oZ x.attrs)
@[simp] theorem aKn(g:Tg)(b:Bool)(l:List jP):mX (λ_=>some .view) b (l.map (fA g))=l.map (fA .view):=bO (by intro x;simp) l
@[simp] theorem aJc(i:Nat)(b:Bool)(l:List jP):mX (EE i) b (l.map (fA .own))=l.map (fA (.kH i)):=bO (by intro x;simp) l
@[simp] theorem aJd(i:Nat)(b:Bool)(l:List jP):mX (EE i) b (l.map (fA .view))=l.map (fA .view):=bO (by intro x;simp) l
@[simp] theorem aJe(i j:Nat)(b:Bool)(l:List jP):mX (EE i) b (l.map (fA (.kH j)))=l.map (fA (.kH j)):=bO (by intro x;simp) l
@[simp] theorem aJf(b:Bool)(l:List jP):mX JQ b (l.map (fA .own))=l.map (fA .view):=bO (by intro x;simp) l
@[simp] theorem aJg(b:Bool)(l:List jP):mX JQ b (l.map (fA .view))=l.map (fA .view):=bO (by intro x;simp) l
@[simp] theorem aM5(l:List jP):iY (l.map (fA .own))=true:=eD _ (by intro x;simp) l
structure bE where
  nodes:List jP
  opens:List Int
deriving DecidableEq
@[simp] def aV(g:Tg)(x:bE):List AV:=[.sl g 4 (x.nodes.map (fA g)),.sl g 1 (x.opens.map mM)]
def aU(x:bE):Nat:=(bP sU x.nodes)+x.opens.length
@[simp] theorem aDf(g:Tg)(b:Bool)(l:List bE):mX (λ_=>some .view) b (l.map (aV g))=l.map (aV .view):=bO (by intro x;simp) l
@[simp] theorem aBr(i:Nat)(b:Bool)(l:List bE):mX (EE i) b (l.map (aV .own))=l.map (aV (.kH i)):=bO (by intro x;simp) l
@[simp] theorem aBs(i:Nat)(b:Bool)(l:List bE):mX (EE i) b (l.map (aV .view))=l.map (aV .view):=bO (by intro x;simp) l
@[simp] theorem aBt(i j:Nat)(b:Bool)(l:List bE):mX (EE i) b (l.map (aV (.kH j)))=l.map (aV (.kH j)):=bO (by intro x;simp) l
@[simp] theorem aBu(b:Bool)(l:List bE):mX JQ b (l.map (aV .own))=l.map (aV .view):=bO (by intro x;simp) l
@[simp] theorem aBv(b:Bool)(l:List bE):mX JQ b (l.map (aV .view))=l.map (aV .view):=bO (by intro x;simp) l
@[simp] theorem aFk(l:List bE):iY (l.map (aV .own))=true:=eD _ (by intro x;simp) l
structure FM where
  name:bB
  color:Int
deriving DecidableEq
@[simp] def Ao(x:FM):List AV:=[.str x.name,.int .i64 x.color]
@[simp] theorem aQx(t:Tg->Option Tg)(b:Bool)(l:List FM):mX t b (l.map Ao)=l.map Ao:=bO (by intro x;rfl) l
@[simp] theorem aM6(l:List FM):iY (l.map Ao)=true:=eD _ (by intro x;rfl) l
structure gT where
  rules:List FM
deriving DecidableEq
@[simp] def dZ(g:Tg)(x:gT):List AV:=[.sl g 2 (x.rules.map Ao)]
@[simp] theorem aJh(g:Tg)(b:Bool)(l:List gT):mX (λ_=>some .view) b (l.map (dZ g))=l.map (dZ .view):=bO (by intro x;simp) l
@[simp] theorem aFl(i:Nat)(b:Bool)(l:List gT):mX (EE i) b (l.map (dZ .own))=l.map (dZ (.kH i)):=bO (by intro x;simp) l
@[simp] theorem aFm(i:Nat)(b:Bool)(l:List gT):mX (EE i) b (l.map (dZ .view))=l.map (dZ .view):=bO (by intro x;simp) l
@[simp] theorem aFn(i j:Nat)(b:Bool)(l:List gT):mX (EE i) b (l.map (dZ (.kH j)))=l.map (dZ (.kH j)):=bO (by intro x;simp) l
@[simp] theorem aFo(b:Bool)(l:List gT):mX JQ b (l.map (dZ .own))=l.map (dZ .view):=bO (by intro x;simp) l
@[simp] theorem aFp(b:Bool)(l:List gT):mX JQ b (l.map (dZ .view))=l.map (dZ .view):=bO (by intro x;simp) l
@[simp] theorem aKo(l:List gT):iY (l.map (dZ .own))=true:=eD _ (by intro x;simp) l
structure jW where
  op:Int
  text:bB
deriving DecidableEq
@[simp] def lS(x:jW):List AV:=[.int .i64 x.op,.str x.text]
@[simp] theorem aQy(t:Tg->Option Tg)(b:Bool)(l:List jW):mX t b (l.map lS)=l.map lS:=bO (by intro x;rfl) l
@[simp] theorem aM7(l:List jW):iY (l.map lS)=true:=eD _ (by intro x;rfl) l
structure eX where
  isSet:Bool
  fC:List bB
  gY:List bB
  gZ:List bB
  tQ:bB
deriving DecidableEq
@[simp] def bN(g:Tg)(x:eX):List AV:=[.bool x.isSet,.sl g 1 (x.fC.map dC),.sl g 1 (x.gY.map dC),.sl g 1 (x.gZ.map dC),.str x.tQ]
def eF(x:eX):Nat:=(bP gJ x.fC)+(bP gJ x.gY)+(bP gJ x.gZ)+x.tQ.length
@[simp] theorem aFq(g:Tg)(b:Bool)(l:List eX):mX (λ_=>some .view) b (l.map (bN g))=l.map (bN .view):=bO (by intro x;simp) l
@[simp] theorem aDg(i:Nat)(b:Bool)(l:List eX):mX (EE i) b (l.map (bN .own))=l.map (bN (.kH i)):=bO (by intro x;simp) l
@[simp] theorem aDh(i:Nat)(b:Bool)(l:List eX):mX (EE i) b (l.map (bN .view))=l.map (bN .view):=bO (by intro x;simp) l
@[simp] theorem aDi(i j:Nat)(b:Bool)(l:List eX):mX (EE i) b (l.map (bN (.kH j)))=l.map (bN (.kH j)):=bO (by intro x;simp) l
@[simp] theorem aDj(b:Bool)(l:List eX):mX JQ b (l.map (bN .own))=l.map (bN .view):=bO (by intro x;simp) l
@[simp] theorem aDk(b:Bool)(l:List eX):mX JQ b (l.map (bN .view))=l.map (bN .view):=bO (by intro x;simp) l
@[simp] theorem aJi(l:List eX):iY (l.map (bN .own))=true:=eD _ (by intro x;simp) l
structure bA where
  status:Int
  kind:Int
  body:bB
  Gw:Int
  shares:Bool
  bD:bB
deriving DecidableEq
@[simp] def bF(x:bA):List AV:=[.int .i64 x.status,.int .i64 x.kind,.str x.body,.int .i64 x.Gw,.bool x.shares,.str x.bD]
def bG(x:bA):Nat:=x.body.length+x.bD.length
def ER(x:bA):Prop:=x.body.length<=9223372036854775807/\x.bD.length<=9223372036854775807
@[simp] theorem aJj(t:Tg->Option Tg)(b:Bool)(l:List bA):mX t b (l.map bF)=l.map bF:=bO (by intro x;rfl) l
@[simp] theorem aDl(l:List bA):iY (l.map bF)=true:=eD _ (by intro x;rfl) l
structure fV where
  kind:Int
  to:aD
  frm:bB
  digest:bB
deriving DecidableEq
@[simp] def dD(x:fV):List AV:=[.int .i64 x.kind,.str x.to.host,.str x.to.path,.str x.frm,.str x.digest]
def jQ(x:fV):Nat:=(aQ x.to)+x.frm.length+x.digest.length
@[simp] theorem aKp(t:Tg->Option Tg)(b:Bool)(l:List fV):mX t b (l.map dD)=l.map dD:=bO (by intro x;rfl) l
@[simp] theorem yG(l:List fV):iY (l.map dD)=true:=eD _ (by intro x;rfl) l
structure xS where
  path:bB
  response:bA
deriving DecidableEq
@[simp] def mP(x:xS):List AV:=[.str x.path,.int .i64 x.response.status,.int .i64 x.response.kind,.str x.response.body,.int .i64 x.response.Gw,.bool x.response.shares,.str x.response.bD]
def tZ(x:xS):Nat:=x.path.length+(bG x.response)
def SA(x:xS):Prop:=x.path.length<=9223372036854775807/\ER x.response
@[simp] theorem aQz(t:Tg->Option Tg)(b:Bool)(l:List xS):mX t b (l.map mP)=l.map mP:=bO (by intro x;rfl) l
@[simp] theorem aM9(l:List xS):iY (l.map mP)=true:=eD _ (by intro x;rfl) l
structure fU where
  host:bB
  files:List xS
deriving DecidableEq
@[simp] def bX(g:Tg)(x:fU):List AV:=[.str x.host,.sl g 7 (x.files.map mP)]
def eZ(x:fU):Nat:=x.host.length+(bP tZ x.files)
def Gx(x:fU):Prop:=x.host.length<=9223372036854775807/\(x.files.length<=9223372036854775807/\∀y∈x.files,SA y)
@[simp] theorem aFr(g:Tg)(b:Bool)(l:List fU):mX (λ_=>some .view) b (l.map (bX g))=l.map (bX .view):=bO (by intro x;simp) l
@[simp] theorem aDm(i:Nat)(b:Bool)(l:List fU):mX (EE i) b (l.map (bX .own))=l.map (bX (.kH i)):=bO (by intro x;simp) l
@[simp] theorem aDn(i:Nat)(b:Bool)(l:List fU):mX (EE i) b (l.map (bX .view))=l.map (bX .view):=bO (by intro x;simp) l
@[simp] theorem aDo(i j:Nat)(b:Bool)(l:List fU):mX (EE i) b (l.map (bX (.kH j)))=l.map (bX (.kH j)):=bO (by intro x;simp) l
@[simp] theorem aDp(b:Bool)(l:List fU):mX JQ b (l.map (bX .own))=l.map (bX .view):=bO (by intro x;simp) l
@[simp] theorem aDq(b:Bool)(l:List fU):mX JQ b (l.map (bX .view))=l.map (bX .view):=bO (by intro x;simp) l
@[simp] theorem aJk(l:List fU):iY (l.map (bX .own))=true:=eD _ (by intro x;simp) l
structure fH where
  top:bB
  to:aD
  response:bA
  til:Int
deriving DecidableEq
@[simp] def fP(x:fH):List AV:=[.str x.top,.str x.to.host,.str x.to.path,.int .i64 x.response.status,.int .i64 x.response.kind,.str x.response.body,.int .i64 x.response.Gw,.bool x.response.shares,.str x.response.bD,.int .i64 x.til]
def gP(x:fH):Nat:=x.top.length+(aQ x.to)+(bG x.response)
def Lx(x:fH):Prop:=x.top.length<=9223372036854775807/\NI x.to/\ER x.response
@[simp] theorem aOp(t:Tg->Option Tg)(b:Bool)(l:List fH):mX t b (l.map fP)=l.map fP:=bO (by intro x;rfl) l
@[simp] theorem Bv(l:List fH):iY (l.map fP)=true:=eD _ (by intro x;rfl) l
structure pE where
  entries:List fH
deriving DecidableEq
@[simp] def gU(g:Tg)(x:pE):List AV:=[.sl g 10 (x.entries.map fP)]
def nS(x:pE):Nat:=(bP gP x.entries)
def YL(x:pE):Prop:=(x.entries.length<=9223372036854775807/\∀y∈x.entries,Lx y)
@[simp] theorem aJl(g:Tg)(b:Bool)(l:List pE):mX (λ_=>some .view) b (l.map (gU g))=l.map (gU .view):=bO (by intro x;simp) l
@[simp] theorem aFs(i:Nat)(b:Bool)(l:List pE):mX (EE i) b (l.map (gU .own))=l.map (gU (.kH i)):=bO (by intro x;simp) l
@[simp] theorem aFt(i:Nat)(b:Bool)(l:List pE):mX (EE i) b (l.map (gU .view))=l.map (gU .view):=bO (by intro x;simp) l
@[simp] theorem aFu(i j:Nat)(b:Bool)(l:List pE):mX (EE i) b (l.map (gU (.kH j)))=l.map (gU (.kH j)):=bO (by intro x;simp) l
@[simp] theorem aFv(b:Bool)(l:List pE):mX JQ b (l.map (gU .own))=l.map (gU .view):=bO (by intro x;simp) l
@[simp] theorem aFw(b:Bool)(l:List pE):mX JQ b (l.map (gU .view))=l.map (gU .view):=bO (by intro x;simp) l
@[simp] theorem aKq(l:List pE):iY (l.map (gU .own))=true:=eD _ (by intro x;simp) l
structure tT where
  top:bB
  to:aD
  aNa:Bool
deriving DecidableEq
@[simp] def jL(x:tT):List AV:=[.str x.top,.str x.to.host,.str x.to.path,.bool x.aNa]
def qE(x:tT):Nat:=x.top.length+(aQ x.to)
def SB(x:tT):Prop:=x.top.length<=9223372036854775807/\NI x.to
@[simp] theorem aQ0(t:Tg->Option Tg)(b:Bool)(l:List tT):mX t b (l.map jL)=l.map jL:=bO (by intro x;rfl) l
@[simp] theorem aNb(l:List tT):iY (l.map jL)=true:=eD _ (by intro x;rfl) l
structure kU where
  gD:List fU
  cache:pE
  log:List tT
  now:Int
deriving DecidableEq
@[simp] def nA(g:Tg)(x:kU):List AV:=[.sl g 2 (x.gD.map (bX g)),.sl g 10 (x.cache.entries.map fP),.sl g 4 (x.log.map jL),.int .i64 x.now]
def kV(x:kU):Nat:=(bP eZ x.gD)+(nS x.cache)+(bP qE x.log)
def Y7(x:kU):Prop:=(x.gD.length<=9223372036854775807/\∀y∈x.gD,Gx y)/\YL x.cache/\(x.log.length<=9223372036854775807/\∀y∈x.log,SB y)
@[simp] theorem aNc(g:Tg)(b:Bool)(l:List kU):mX (λ_=>some .view) b (l.map (nA g))=l.map (nA .view):=bO (by intro x;simp) l
@[simp] theorem aKr(i:Nat)(b:Bool)(l:List kU):mX (EE i) b (l.map (nA .own))=l.map (nA (.kH i)):=bO (by intro x;simp) l
@[simp] theorem aKs(i:Nat)(b:Bool)(l:List kU):mX (EE i) b (l.map (nA .view))=l.map (nA .view):=bO (by intro x;simp) l
@[simp] theorem aKt(i j:Nat)(b:Bool)(l:List kU):mX (EE i) b (l.map (nA (.kH j)))=l.map (nA (.kH j)):=bO (by intro x;simp) l
@[simp] theorem aKu(b:Bool)(l:List kU):mX JQ b (l.map (nA .own))=l.map (nA .view):=bO (by intro x;simp) l
@[simp] theorem aKv(b:Bool)(l:List kU):mX JQ b (l.map (nA .view))=l.map (nA .view):=bO (by intro x;simp) l
@[simp] theorem aOq(l:List kU):iY (l.map (nA .own))=true:=eD _ (by intro x;simp) l
structure pR where
  mode:Int
  to:aD
  digest:bB
  node:Int
  done:Bool
  code:Int
  body:bB
deriving DecidableEq
@[simp] def vH(x:pR):List AV:=[.int .i64 x.mode,.str x.to.host,.str x.to.path,.str x.digest,.int .i64 x.node,.bool x.done,.int .i64 x.code,.str x.body]
def lJ(x:pR):Nat:=(aQ x.to)+x.digest.length+x.body.length
@[simp] theorem aQ1(t:Tg->Option Tg)(b:Bool)(l:List pR):mX t b (l.map vH)=l.map vH:=bO (by intro x;rfl) l
@[simp] theorem aNd(l:List pR):iY (l.map vH)=true:=eD _ (by intro x;rfl) l
structure dX where
  to:aD
  done:Bool
  code:Int
  body:bB
deriving DecidableEq
@[simp] def eY(x:dX):List AV:=[.str x.to.host,.str x.to.path,.bool x.done,.int .i64 x.code,.str x.body]
def bL(x:dX):Nat:=(aQ x.to)+x.body.length
@[simp] theorem aNe(t:Tg->Option Tg)(b:Bool)(l:List dX):mX t b (l.map eY)=l.map eY:=bO (by intro x;rfl) l
@[simp] theorem VS(l:List dX):iY (l.map eY)=true:=eD _ (by intro x;rfl) l
structure aI where
  addr:aD
  bD:eX
  tok:nM
  queue:List bT
  ended:Bool
  builder:bE
  aC:List pR
  aO:List dX
  entries:List aD
  block:Int
  inline:Int
  deferred:Int
  iC:Int
  uA:List aD
  log:List bB
  pF:Bool
deriving DecidableEq
@[simp] def aJ(g:Tg)(x:aI):List AV:=[.str x.addr.host,.str x.addr.path,.bool x.bD.isSet,.sl g 1 (x.bD.fC.map dC),.sl g 1 (x.bD.gY.map dC),.sl g 1 (x.bD.gZ.map dC),.str x.bD.tQ,.str x.tok.rest,.sl g 4 (x.queue.map (cB g)),.bool x.ended,.sl g 4 (x.builder.nodes.map (fA g)),.sl g 1 (x.builder.opens.map mM),.sl g 8 (x.aC.map vH),.sl g 5 (x.aO.map eY),.sl g 2 (x.entries.map aH),.int .i64 x.block,.int .i64 x.inline,.int .i64 x.deferred,.int .i64 x.iC,.sl g 2 (x.uA.map aH),.sl g 1 (x.log.map dC),.bool x.pF]
def aL(x:aI):Nat:=(aQ x.addr)+(eF x.bD)+(lQ x.tok)+(bP bW x.queue)+(aU x.builder)+(bP lJ x.aC)+(bP bL x.aO)+(bP aQ x.entries)+(bP aQ x.uA)+(bP gJ x.log)
@[simp] theorem aKw(g:Tg)(b:Bool)(l:List aI):mX (λ_=>some .view) b (l.map (aJ g))=l.map (aJ .view):=bO (by intro x;simp) l
@[simp] theorem aJm(i:Nat)(b:Bool)(l:List aI):mX (EE i) b (l.map (aJ .own))=l.map (aJ (.kH i)):=bO (by intro x;simp) l
@[simp] theorem aJn(i:Nat)(b:Bool)(l:List aI):mX (EE i) b (l.map (aJ .view))=l.map (aJ .view):=bO (by intro x;simp) l
@[simp] theorem aJo(i j:Nat)(b:Bool)(l:List aI):mX (EE i) b (l.map (aJ (.kH j)))=l.map (aJ (.kH j)):=bO (by intro x;simp) l
@[simp] theorem aJp(b:Bool)(l:List aI):mX JQ b (l.map (aJ .own))=l.map (aJ .view):=bO (by intro x;simp) l
@[simp] theorem aJq(b:Bool)(l:List aI):mX JQ b (l.map (aJ .view))=l.map (aJ .view):=bO (by intro x;simp) l
@[simp] theorem aNf(l:List aI):iY (l.map (aJ .own))=true:=eD _ (by intro x;simp) l
structure CX where
  builder:bE
  log:List bB
  aFx:List bB
  aSj:gT
  pF:Bool
deriving DecidableEq
@[simp] def wD(g:Tg)(x:CX):List AV:=[.sl g 4 (x.builder.nodes.map (fA g)),.sl g 1 (x.builder.opens.map mM),.sl g 1 (x.log.map dC),.sl g 1 (x.aFx.map dC),.sl g 2 (x.aSj.rules.map Ao),.bool x.pF]
@[simp] theorem aFy(g:Tg)(b:Bool)(l:List CX):mX (λ_=>some .view) b (l.map (wD g))=l.map (wD .view):=bO (by intro x;simp) l
@[simp] theorem aDr(i:Nat)(b:Bool)(l:List CX):mX (EE i) b (l.map (wD .own))=l.map (wD (.kH i)):=bO (by intro x;simp) l
@[simp] theorem aDs(i:Nat)(b:Bool)(l:List CX):mX (EE i) b (l.map (wD .view))=l.map (wD .view):=bO (by intro x;simp) l
@[simp] theorem aDt(i j:Nat)(b:Bool)(l:List CX):mX (EE i) b (l.map (wD (.kH j)))=l.map (wD (.kH j)):=bO (by intro x;simp) l
@[simp] theorem aDu(b:Bool)(l:List CX):mX JQ b (l.map (wD .own))=l.map (wD .view):=bO (by intro x;simp) l
@[simp] theorem aDv(b:Bool)(l:List CX):mX JQ b (l.map (wD .view))=l.map (wD .view):=bO (by intro x;simp) l
@[simp] theorem aJr(l:List CX):iY (l.map (wD .own))=true:=eD _ (by intro x;simp) l
structure zk where
  to:aD
  response:bA
  used:Bool
deriving DecidableEq
@[simp] def zl(x:zk):List AV:=[.str x.to.host,.str x.to.path,.int .i64 x.response.status,.int .i64 x.response.kind,.str x.response.body,.int .i64 x.response.Gw,.bool x.response.shares,.str x.response.bD,.bool x.used]
@[simp] theorem aOr(t:Tg->Option Tg)(b:Bool)(l:List zk):mX t b (l.map zl)=l.map zl:=bO (by intro x;rfl) l
@[simp] theorem aKx(l:List zk):iY (l.map zl)=true:=eD _ (by intro x;rfl) l
mutual
def closed(m:Nat):AV->Bool
 | .obj i _=>decide (i<m)
 | .ptr i _ _ _=>decide (i<m)
 | .sl (.kH i) _ _=>decide (i<m)
 | .eU (.kH i) _ _=>decide (i<m)
 | .agg c=>eP m c
 | .gM c=>eP m c
 | .fn _ c=>eP m c
 |_=>true
def eP(m:Nat):List AV->Bool
 |[]=>true
 |x::xs=>closed m x&&eP m xs
end
theorem xQ{o:List aN}{G:List CO}{m i:Nat}{ob:aN}{g:CO}:look (o.take m) (G.take m) i ob g↔i<m/\look o G i ob g:=by unfold look;rw[Bx,Bx];by_cases h:i<m<;>simp[h]
theorem Am{P:Program}[aB P]{B:gN P}{o:List aN}{G:List CO}{w:World}(m:Nat):(∀b,(env B o G w).A b->(env B (o.take m) (G.take m) w).A b)/\
  (∀i,i<m->((env B (o.take m) (G.take m) w).V i↔(env B o G w).V i))/\(∀i b,i<m->(env B o G w).D i b->(env B (o.take m) (G.take m) w).D i b):=by
 refine⟨λb h=>⟨h.1,λi ob g hl=>h.2 i ob g (xQ.1 hl).2⟩,λi hi=> ?_,λi b hi h=> ?_⟩
 .simp only[env,Bx,hi,gE]
 .obtain ⟨ob,g,hl,h⟩:=h;exact⟨ob,g,xQ.2 ⟨hi,hl⟩,h⟩
theorem Gv{P:Program}[aB P]{B:gN P}{o:List aN}{G:List CO}{w:World}{m i:Nat}(hi:i<m):eO w ((env B o G w).sub (.kH i)) w ((env B (o.take m) (G.take m) w).sub (.kH i)):=by have h:=Am (B:=B) (o:=o) (G:=G) (w:=w) m;exact⟨λb hb=>⟨h.1 b hb,rfl⟩,λ_ _=>trivial,λj b _ hd=>⟨⟨hd.1,h.2.2 i b hi hd.2⟩,rfl⟩,λ_ _ _ h=>h.elim,λ_ _ _ _ _ h=>h.elim⟩
theorem wC{P:Program}[aB P]{B:gN P}{o:List aN}{G:List CO}{w:World}(m:Nat):eO w (env B o G w).plain w (env B (o.take m) (G.take m) w).plain:=by have h:=Am (B:=B) (o:=o) (G:=G) (w:=w) m;exact⟨λb hb=>⟨h.1 b hb,rfl⟩,λ_ _=>trivial,λ_ _ _ h=>h.elim,λ_ _ _ h=>h.elim,λ_ _ _ _ _ h=>h.elim⟩
mutual
theorem aE9{P:Program}[aB P]{B:gN P}{o:List aN}{G:List CO}{w:World}{m:Nat}:∀(x:AV) (v:Value) (fp:List Nat),closed m x=true->R w (env B o G w) x v fp->R w (env B (o.take m) (G.take m) w) x v fp
 | .int _ _,_,_,_,h=>by simpa [R]using h
 | .bool _,_,_,_,h=>by simpa [R]using h
 | .str _,_,_,_,h=>by simpa [R]using h
 | .sl .own n l,v,fp,_,h=>by obtain⟨a,cap,hv,hown⟩:=pM.1 h;exact pM.2 ⟨a,cap,hv,hown.keeps (wC m) (λ_ _=>rfl)⟩
 | .sl .view n l,v,fp,_,h=>by
  simp only[R]at h⊢;rcases h with h|⟨a,cap,hv,hl,h⟩
  .exact h.1.elim
  .refine .inr ⟨a,cap,hv,hl,?_⟩;rcases h with h|h|⟨hg,hf,h⟩
   .exact absurd h.1 (by simp)
   .exact absurd h.1 (by simp)
   .refine .inr (.inr ⟨hg,hf,?_⟩);rcases h with h|⟨b,off,ha,ht,hr⟩
    .exact .inl h
    .exact .inr ⟨b,off,ha,(Am m).1 b ht,mG (wC m) _ _ _ _ _ rfl (by simp) hr⟩
 | .sl (.kH i) n l,v,fp,hc,h=>by
  have hi:i<m:=by simpa [closed]using hc
  simp only[R]at h⊢;rcases h with h|⟨a,cap,hv,hl,h⟩
  .exact .inl ⟨λhV=>h.1 (((Am m).2.1 i hi).1 hV),h.2⟩
  .refine .inr ⟨a,cap,hv,hl,?_⟩;rcases h with h|h|⟨hg,hf,h⟩
   .exact absurd h.1 (by simp)
   .exact absurd h.1 (by simp)
   .refine .inr (.inr ⟨hg,hf,?_⟩);rcases h with h|⟨b,off,ha,ht,hr⟩
    .exact .inl h
    .exact .inr ⟨b,off,ha,(Am m).2.2 i b hi ht,mG (Gv hi) _ _ _ _ _ rfl (by simp) hr⟩
 | .eU .own c off,v,fp,_,h=>by
  simp only[R]at h⊢;rcases h with h|⟨_,_,_,_,_,ht,_⟩
  .exact h.1.elim
  .exact ht.elim
 | .eU .view c off,v,fp,_,h=>by
  simp only[R]at h⊢;rcases h with h|⟨hf,b,o',cs,hv,ht,hcs,hone,hr⟩
  .exact h.1.elim
  .exact .inr ⟨hf,b,o',cs,hv,(Am m).1 b ht,hcs,hone,dU (wC m) _ _ _ (by simp) hr⟩
 | .eU (.kH i) c off,v,fp,hc,h=>by
  have hi:i<m:=by simpa [closed]using hc
  simp only[R]at h⊢;rcases h with h|⟨hf,b,o',cs,hv,ht,hcs,hone,hr⟩
  .exact .inl ⟨λhV=>h.1 (((Am m).2.1 i hi).1 hV),h.2⟩
  .exact .inr ⟨hf,b,o',cs,hv,(Am m).2.2 i b hi ht,hcs,hone,dU (Gv hi) _ _ _ (by simp) hr⟩
 | .obj i bU,v,fp,hc,h=>by
  have hi:i<m:=by simpa [closed]using hc
  simp only[R]at h⊢;obtain⟨hf,ob,g,hl,h⟩:=h;exact⟨hf,ob,g,xQ.2 ⟨hi,hl⟩,h⟩
 | .ptr i bU idx off,v,fp,hc,h=>by
  have hi:i<m:=by simpa [closed]using hc
  simp only[R]at h⊢;obtain⟨hf,ob,g,hl,h⟩:=h;exact⟨hf,ob,g,xQ.2 ⟨hi,hl⟩,h⟩
 | .agg c,v,fp,hc,h=>by simp only[R]at h⊢;obtain⟨cs,h1,h2,h3⟩:=h;exact⟨cs,h1,h2,BH c cs fp (by simpa [closed]using hc) h3⟩
 | .gM c,v,fp,hc,h=>by simp only[R]at h⊢;obtain⟨cs,h1,h3⟩:=h;exact⟨cs,h1,BH c cs fp (by simpa [closed]using hc) h3⟩
 | .fn f c,v,fp,hc,h=>by simp only[R]at h⊢;obtain⟨h0,cs,h1,h3⟩:=h;exact⟨h0,cs,h1,BH c cs [] (by simpa [closed]using hc) h3⟩
 | .undef,_,_,_,h=>by simpa [R]using h
theorem BH{P:Program}[aB P]{B:gN P}{o:List aN}{G:List CO}{w:World}{m:Nat}:∀(c:List AV) (cs:List Value) (fp:List Nat),eP m c=true->Rc w (env B o G w) c cs fp->Rc w (env B (o.take m) (G.take m) w) c cs fp
 |[],[],_,_,h=>by simpa [Rc]using h
 |[],_::_,_,_,h=>by simp[Rc]at h
 |_::_,[],_,_,h=>by simp[Rc]at h
 |x::xs,c::cs,fp,hc,h=>by simp only[Rc]at h⊢;simp only[eP,eI]at hc;obtain⟨f1,f2,h1,h2,h3⟩:=h;exact⟨f1,f2,aE9 x c f1 hc.1 h1,BH xs cs f2 hc.2 h2,h3⟩
end
def dB(m:Nat):List aN->Bool
 |[]=>true
 |ob::r=>(!ob.box || match ob.dO with
  |[e]=>eP m e
  |_=>false)&&dB m r
theorem Pm{m:Nat}:∀{o:List aN},dB m o=true->∀ob∈o,ob.box=true->∃e,ob.dO=[e]/\eP m e=true
 |ob::r,h,x,hx,hb=>by
  simp only[dB,eI]at h;rcases gS.1 hx with rfl|hx
  .have h1:=h.1;rw[hb]at h1;simp only[DQ,Bool.false_or]at h1;split at h1
   .rename_i e he;exact⟨e,he,h1⟩
   .cases h1
  .exact Pm h.2 x hx hb
theorem aT{t t':List AV}{o o':List aN}(m:Nat)(ho:o.take m=o':=by simp)(h:wk t t':=by simp)(hc:eP m t'=true:=by simp)(hb:dB m o'=true:=by simp):lC ⟨t,o⟩ ⟨t',o'⟩:=by
 subst ho;rintro P _ B a w ⟨G,r⟩;refine⟨G.take m,?_⟩;exact
  {len:=by simp[r.len]
   defs:=r.defs
   ok:=λi ob g hl hlive=>by
    have CQ:=(xQ.1 hl).2;obtain⟨fp,hown,hnd,hF⟩:=r.ok i ob g CQ hlive;refine⟨fp,?_,hnd,hF⟩;cases Gh:ob.box with
    |false=>rw[Gh]at hown;exact hown.keeps (wC m) (λ_ _=>rfl)
    |true=>
     rw[Gh]at hown;obtain⟨e,he,hce⟩:=Pm hb ob (nB hl.1) Gh;rw[he]at hown⊢;obtain⟨hlen,hown⟩:=hown;refine⟨hlen,?_⟩;rcases hown with h|⟨b,off,C,ety,fz,qN,ha,hbk,hz,h1,h2,h3,rfl,hr⟩
     .exact .inl h
     .refine .inr ⟨b,off,C,ety,fz,qN,ha,hbk,hz,h1,h2,h3,rfl,?_⟩;simp only[Rr]at hr⊢;obtain⟨cs,f1,f2,k1,k2,k3,k4,k5,k6⟩:=hr;exact⟨cs,f1,f2,k1,k2,k3,BH e cs f1 hce k4,k5,k6⟩
   apart:=λi j oi oj gi gj b hi hj h1 h2 h3 h4=>r.apart i j _ _ _ _ b (xQ.1 hi).2 (xQ.1 hj).2 h1 h2 h3 h4
   fresh:=λi ob g b hl h1 h2=>r.fresh i ob g b (xQ.1 hl).2 h1 h2
   tmps:=BH _ _ _ hc (Gt h r.tmps)
   size:=r.size
   frame:=r.frame
   base:=r.base
   same:=r.same}
theorem aK{t t':List AV}{o o':List aN}(ho:o=o':=by simp)(h:wk t t':=by simp):lC ⟨t,o⟩ ⟨t',o'⟩:=ho▸wN h
attribute [simp] closed eP dB
def uW(J:Nat->Bool)(i:Nat):Nat->Bool:=λj=>if j=i then true else J j
def dv(J:Nat->Bool)(i:Nat)(v:AV):AV:=if J i=true then v else .undef
@[simp] theorem aVs(J:Nat->Bool)(i:Nat)(v:AV):dv (uW J i) i v=v:=by simp[dv,uW]
def xR(P:Program)[aB P](S:(Nat->Bool)->AS):Nat->List Oper->Prop
 |_,[]=>True
 |i,o::r=>(o.guard=none/\∀J:Nat->Bool,J i=false->(∀e∈o.after.toList,Region.binds .any e=true->J e.on=true)->sM P o (S J) λs'=>lC s' (S (uW J i)))/\xR P S (i+1) r
def fwd:Nat->List Oper->Bool
 |_,[]=>true
 |i,o::r=>(o.after.toList.all λe=> !Region.binds .any e || decide (e.on<i))&&fwd (i+1) r
theorem Ji{P:Program}[aB P]{S:(Nat->Bool)->AS}:∀{l:List Oper} {k i:Nat} {o:Oper},xR P S k l->l[i]? =some o->
  o.guard=none/\∀J:Nat->Bool,J (k+i)=false->(∀e∈o.after.toList,Region.binds .any e=true->J e.on=true)->sM P o (S J) λs'=>lC s' (S (uW J (k+i)))
 |[],_,_,_,_,h=>by simp at h
 |x::xs,k,0,o,hd,h=>by simp at h;subst h;exact hd.1
 |x::xs,k,i+1,o,hd,h=>by
  have:=Ji (k:=k+1) (i:=i) hd.2 (by simpa using h)
  rwa[show k+1+i=k+(i+1)by omega]at this
theorem X9:∀{l:List Oper} {k i:Nat} {o:Oper},fwd k l=true->l[i]? =some o->∀e∈o.after.toList,Region.binds .any e=true->e.on<k+i
 |[],_,_,_,_,h=>by simp at h
 |x::xs,k,0,o,hf,h=>by simp at h;subst h;simp only[fwd,eI,fR]at hf;intro e he hb;have:=hf.1 e he;simpa [hb]using this
 |x::xs,k,i+1,o,hf,h=>by
  simp only[fwd,eI]at hf;have:=X9 (k:=k+1) (i:=i) hf.2 (by simpa using h)
  rwa[show k+1+i=k+(i+1)by omega]at this
def left(l:List Bool):Nat:=(l.filter λb=> !b).length
theorem Eb(b:Bool)(l:List Bool):left (b::l)=(if b=true then 0 else 1)+left l:=by cases b<;>simp[left]<;>omega
theorem Lu:∀{l:List Bool} {i:Nat},l[i]? =some false->left (l.set i true)+1=left l
 |[],_,h=>by simp at h
 |b::l,0,h=>by simp at h;subst h;simp[Eb];omega
 |b::l,i+1,h=>by have:=Lu (l:=l) (i:=i) (by simpa using h);rw[cW,Eb,Eb];omega
theorem NG{l:List Bool}(h:left l=0):∀{i:Nat} {b:Bool},l[i]? =some b->b=true:=by
 intro i b hb;have hm:=nB hb;cases b with
 |true=>rfl
 |false=>have:false∈l.filter (λb=> !b):=BT.2 ⟨hm,rfl⟩;rw[hS h]at this;simp at this
theorem Sy{l:List Bool}(h:left l≠0):∃i:Nat,l[i]? =some false/\∀j:Nat,j<i->l[j]? =some true:=by
 induction l with
 |nil=>simp[left]at h
 |cons b l ih=>
  cases b with
  |false=>exact⟨0,rfl,λj hj=>by omega⟩
  |true=>
   have:left l≠0:=by rw[Eb]at h;simpa using h
   obtain⟨i,h1,h2⟩:=ih this;refine⟨i+1,by simpa using h1,λj hj=> ?_⟩;cases j with
   |zero=>rfl
   |succ j=>simpa using h2 j (by omega)
theorem aKl{P:Program}[aB P]{ops:Array Oper}{s:AS}{K:AS->Prop}(S:(Nat->Bool)->AS)(h0:lC s (S λ_=>false))(hf:fwd 0 ops.toList=true)(hs:xR P S 0 ops.toList)
  (he:∀J:Nat->Bool,(∀i,i<ops.size->J i=true)->K (S J)):ze P ops s K:=by
 intro B a w Q hr hk;have key:∀(fuel:Nat) (listed:Array Bool) (a:Act) (w:World),listed.size=ops.size->left listed.toList=fuel->Rel B (S λi=>listed.getD i false) a w->wpAny P .any ops Q fuel listed a w:=by
  intro fuel;induction fuel with
  |zero=>
   intro listed a w hl hz r;have hall:∀i,i<ops.size->listed.getD i false=true:=by
    intro i hi;have hi':i<listed.size:=by omega
    have:=NG hz (i:=i) (b:=listed[i]) (by simp[hi']);simp[Array.getD,hi',this]
   refine⟨?_,hk _ _ _ (he _ hall) r⟩;unfold Region.ready;rw[filter_eq_nil_iff];intro i hi;have hi2:i<ops.size:=by simpa using hi
   have h1:=hall i hi2;have hi':i<listed.size:=by omega
   have h2:listed.getD i true=true:=by rw[fY]at h1⊢;rw[xF hi']at h1⊢;exact h1
   rw[h2];simp
  |succ fuel ih=>
   intro listed a w hl hz r;constructor
   .intro hnil;exfalso;obtain⟨i,h1,h2⟩:=Sy (l:=listed.toList) (by omega);have hi:i<listed.size:=by have:=(cH.1 h1).1;simpa using this
    have Gd:i<ops.size:=by omega
    have:i∈Region.ready .any ops listed:=by
     unfold Region.ready;rw[BT];refine⟨by simpa using Gd,?_⟩;have h1':listed[i]? =some false:=by simpa using h1
     have hop:ops[i]? =some ops[i]:=by simp[Gd]
     simp only[fY,h1',sL,Ge,CH,hop,mT];rw[Fl];intro e he;cases hb:Region.binds .any e with
     |false=>simp
     |true=>
      have:=X9 hf (i:=i) (o:=ops[i]) (by simp[Gd]) e (by simpa using he) hb;have h3:=h2 e.on (by omega);have h3':listed[e.on]? =some true:=by simpa using h3
      simp[h3']
    rw[hnil]at this;simp at this
   .intro i hi;unfold Region.ready at hi;rw[BT]at hi;obtain⟨hi1,hi2⟩:=hi;have Gd:i<ops.size:=by simpa using hi1
    have hil:i<listed.size:=by omega
    have hop:ops[i]? =some ops[i]:=by simp[Gd]
    simp only[eI,hop,mT,sL]at hi2;obtain⟨h1,h2⟩:=hi2;have h1':listed[i]? =some false:=by simp only[fY]at h1;rw[xF hil]at h1⊢;simpa using h1
    rw[Fl]at h2;obtain⟨hg,hst⟩:=Ji hs (i:=i) (o:=ops[i]) (by simp[Gd]);rw[hY]at hst;have aVt:=hst (λj=>listed.getD j false) (by simp[h1']) (λe he hb=>by
     have:=h2 e (by simpa using he);simpa [hb]using this)
    obtain⟨s',hw,fe⟩:=BG (B:=B) aVt;unfold wpOp;rw[hop];simp only[Region.wanted,hg,gE];refine .inl (fe a w _ Q r λa' w' r'=>ih _ _ _ (by simpa using hl) ?_ ?_)
    .have:=Lu (l:=listed.toList) (i:=i) (by simpa using h1');rw[CN];omega
    .have hu:uW (λj=>listed.getD j false) i=λj=>(listed.setIfInBounds i true).getD j false:=by
      funext j;unfold uW;simp only[fY,Array.getElem?_setIfInBounds];by_cases hj:j=i
      .subst hj;simp[hil]
      .simp [hj,wA hj]
     rw[<-hu];exact hw B a' w' r'
 obtain⟨G,r⟩:=hr;have r2:Rel B s a {w with drawn:=w.drawn+1}:=⟨G,{len:=r.len,defs:=r.defs,ok:=λi ob g hl hlive=>(r.ok i ob g hl hlive).keeps (w':={w with drawn:=w.drawn+1}) ⟨λb h=>⟨h,rfl⟩,λ_ h=>h,λ_ _ _ h=>⟨h,rfl⟩,λ_ _ _ h=>h,λ_ _ _ _ _ h=>h⟩ (λ_ _=>rfl),apart:=r.apart,fresh:=r.fresh,tmps:=dU (w:=w) (E:=env B s.o G w) (w':={w with drawn:=w.drawn+1}) (E':=env B s.o G {w with drawn:=w.drawn+1}) ⟨λb h=>⟨h,rfl⟩,λ_ h=>h,λ_ _ _ h=>⟨h,rfl⟩,λ_ _ _ h=>h,λ_ _ _ _ _ h=>h⟩ _ _ _ (by simp) r.tmps,size:=r.size,frame:=r.frame,base:=r.base,same:=r.same.trans ⟨rfl,rfl,rfl⟩}⟩;refine key _ _ _ _ (by simp) (by simp[left]) ?_;have hJ:(λi=>(Array.replicate ops.size false).getD i false)=λ_=>false:=by funext i;simp only[fY,Array.getElem?_replicate];split<;>rfl
 rw[hJ];exact h0 _ _ _ r2
theorem Lv{P:Program}[aB P]{id:Nat}{l:List Oper}{s:AS}{Q:Exit->AS->Prop}(S:(Nat->Bool)->AS)(h0:lC s (S λ_=>false))(hf:fwd 0 l=true)(hs:xR P S 0 l)
  (he:∀J:Nat->Bool,(∀i,i<l.length->J i=true)->Q .normal (S J)):vE P (.region id l.toArray true) s Q:=by
 unfold vE;exact aKl (ops:=l.toArray) S h0 (by simpa using hf) (by simpa using hs) (by simpa using he)
theorem iH{P:Program}[aB P]{o:Oper}{s:AS}{K:AS->Prop}(h:∀K':AS->Prop,(∀s',K s'->K' s')->sM P o s K'):sM P o s K:=h K λ_ h=>h
mutual
def Ef(m:Nat):AV->Bool
 | .int _ _=>true
 | .bool _=>true
 | .str _=>true
 | .obj i bU=>decide (i<m)&&bU == 0
 | .agg c=>NR m c
 | .gM c=>NR m c
 |_=>false
def NR(m:Nat):List AV->Bool
 |[]=>true
 |x::xs=>Ef m x&&NR m xs
end
mutual
theorem aAf{w1 w2:World}{E1 E2:Env}{m:Nat}{hv:Nat->Option Value}(h1:∀i v,i<m->E1.H i 0 v->hv i=some v)(h2:∀i v,i<m->E2.H i 0 v->hv i=some v):
  ∀(x:AV) (v1 v2:Value),Ef m x=true->R w1 E1 x v1 []->R w2 E2 x v2 []->v1=v2
 | .int _ _,_,_,_,a,b=>by simp only[R]at a b;rw[a.1,b.1]
 | .bool _,_,_,_,a,b=>by simp only[R]at a b;rw[a.1,b.1]
 | .str _,_,_,_,a,b=>by simp only[R]at a b;rw[a.1,b.1]
 | .obj i bU,v1,v2,hr,a,b=>by simp only[Ef,eI,fN,tP]at hr;obtain⟨hi,rfl⟩:=hr;simp only[R]at a b;have e1:=h1 i v1 hi a.2;have e2:=h2 i v2 hi b.2;rw[e1]at e2;exact cQ e2
 | .agg c,_,_,hr,a,b=>by simp only[R]at a b;obtain⟨c1,rfl,_,a⟩:=a;obtain⟨c2,rfl,_,b⟩:=b;rw[SY h1 h2 c c1 c2 (by simpa [Ef]using hr) a b]
 | .gM c,_,_,hr,a,b=>by simp only[R]at a b;obtain⟨c1,rfl,a⟩:=a;obtain⟨c2,rfl,b⟩:=b;rw[SY h1 h2 c c1 c2 (by simpa [Ef]using hr) a b]
 | .sl _ _ _,_,_,hr,_,_=>by simp[Ef]at hr
 | .eU _ _ _,_,_,hr,_,_=>by simp[Ef]at hr
 | .ptr _ _ _ _,_,_,hr,_,_=>by simp[Ef]at hr
 | .fn _ _,_,_,hr,_,_=>by simp[Ef]at hr
 | .undef,_,_,hr,_,_=>by simp[Ef]at hr
theorem SY{w1 w2:World}{E1 E2:Env}{m:Nat}{hv:Nat->Option Value}(h1:∀i v,i<m->E1.H i 0 v->hv i=some v)(h2:∀i v,i<m->E2.H i 0 v->hv i=some v):
  ∀(x:List AV) (v1 v2:List Value),NR m x=true->Rc w1 E1 x v1 []->Rc w2 E2 x v2 []->v1=v2
 |[],[],[],_,_,_=>rfl
 |[],_::_,_,_,a,_=>by simp[Rc]at a
 |[],[],_::_,_,_,b=>by simp[Rc]at b
 |_::_,[],_,_,a,_=>by simp[Rc]at a
 |_::_,_::_,[],_,_,b=>by simp[Rc]at b
 |x::xs,c1::r1,c2::r2,hr,a,b=>by
  simp only[Rc]at a b;simp only[NR,eI]at hr;obtain⟨f1,f2,a1,a2,e⟩:=a;obtain⟨rfl,rfl⟩:f1=[]/\f2=[]:=by simpa using e
  obtain⟨f1,f2,b1,b2,e⟩:=b;obtain⟨rfl,rfl⟩:f1=[]/\f2=[]:=by simpa using e
  rw[aAf h1 h2 x c1 c2 hr.1 a1 b1,SY h1 h2 xs r1 r2 hr.2 a2 b2]
end
def EW(P:Program)(fn:Func)(s:AS)(p x' r:AV):Prop:=
 (∃ys,s.wY P fn.results.toList=some ys/\single ys=r/\r.scalar=true)/\s.t[0]? =some p/\jO s.o p=true/\(mE p).Nodup/\res s.o p=x'/\clean x'=true
theorem zw{P:Program}[aB P](hm:P.follows .mixedOrders=true){f:FuncId}{fn:Func}{c:Code}(hf:P.funcs[f]? =some fn)(hb:fn.body=some c){x x':AV}{rest:List AV}{rr:AV}
  (aO0:Ef (dF 0 0 x).2.length (dF 0 0 x).1=true)
  (h:vE P c ⟨((dF 0 0 x).1::rest)++replicate (fn.ntmps-(rest.length+1)) .undef,(dF 0 0 x).2⟩ (λe s=>(e= .normal\/e= .ret)/\EW P fn s (dF 0 0 x).1 x' rr)):OkM P f x x' rest rr:=by
 intro w v vs fp hg hab hx hnd hlt hrest;have hl:=gG hrest;obtain⟨Gs,hlen,CL,hap,rF⟩:=Gj (q:=0) x v fp 0 hx hnd;generalize hB:(⟨w,λb=>b<w.heap.size,(· ∈fp),λi=>match (dF 0 0 x).2[i]?,Gs[i]? with
  |some ob,some g=>some (.slice g.a ob.dO.length g.cap)
  |_,_=>none,λ_=>none,hg,hab,hlt⟩:gN P)=B
 have Ta:B.w0=w:=by rw[<-hB]
 have hA0:∀b,B.A0 b↔b<w.heap.size:=by intro b;rw[<-hB]
 have hO0:∀b,B.O0 b↔b∈fp:=by intro b;rw[<-hB]
 have hh0:∀i ob g,look (dF 0 0 x).2 Gs i ob g->B.h0 i=some (.slice g.a ob.dO.length g.cap):=by intro i ob g hl;rw[<-hB];simp only[hl.1,hl.2]
 have kE:eO w (sP w (· ∈fp)) w (env B (dF 0 0 x).2 Gs w):=by refine⟨λb hb=>⟨⟨.inl ((hA0 b).2 hb.1),λi ob g hl _ hF=> ?_⟩,rfl⟩,λ_ _=>trivial,λ_ _ _ h=>h.elim,λ_ _ _ h=>h.elim,λ_ _ _ _ _ h=>h.elim⟩;obtain⟨_,_,_,f',_,_,h3,h4⟩:=CL _ _ _ hl;exact hb.2 (h4 _ ((h3 _).1 hF))
 have r0:eB B ⟨((dF 0 0 x).1::rest)++replicate (fn.ntmps-(rest.length+1)) .undef,(dF 0 0 x).2⟩ Gs {tmps:=(v::vs).toArray++Array.replicate (fn.ntmps-(v::vs).toArray.size) Go.undef,defers:=[]} w:=by
  refine {len:=hlen,defs:=rfl,ok:= ?_,apart:= ?_,fresh:= ?_,tmps:= ?_,size:=by rw[Ta];exact eC _,frame:=by rw[Ta];exact λ_ _ _=>rfl,base:= ?_,same:=by rw[Ta];exact mI.rfl}
  .intro i ob g hl _;obtain⟨_,h2,_,f',hown,h3,h4,h5⟩:=CL _ _ _ hl;refine⟨f',?_,h3,λb hb=>(h4 b).2 hb⟩;rw[h2];exact hown.keeps kE.plain (λ_ _=>rfl)
  .intro i j oi oj gi gj b hi hj _ _ FH Ns;exact hap _ _ _ _ _ _ b hi hj FH Ns
  .intro i ob g b hl _ hF;obtain⟨_,_,_,f',_,_,h3,h4⟩:=CL _ _ _ hl;have:=h4 _ ((h3 _).1 hF);exact⟨.inl ((hO0 b).2 this),hlt b this⟩
  .have h0:R w (env B (dF 0 0 x).2 Gs w) (dF 0 0 x).1 v []:=rF _ kE λj ob g hl=>by
    obtain⟨_,_,h3,_⟩:=CL _ _ _ hl;rw[hY];exact⟨ob,g,hl,Fo _,λ_ _=>rfl,λ_ y hy=>by rw[hh0 _ _ _ hl]at hy;exact cQ hy⟩
   have h1:Rc w (env B (dF 0 0 x).2 Gs w) ((dF 0 0 x).1::rest) (v::vs) []:=by simp only[Rc];exact⟨[],[],h0,dU kE _ _ _ (by simp) hrest,rfl⟩
   have h2:∀n,Rc w (env B (dF 0 0 x).2 Gs w) (replicate n .undef) (replicate n Go.undef) []:=by
    intro n;induction n with
    |zero=>simp[Rc]
    |succ n ih=>simp only[pD,Rc];exact⟨[],[],by simp[R],ih,rfl⟩
   have:=mY h1 (h2 (fn.ntmps-(rest.length+1)));simpa [hl]using this
  .intro b hb;rw[Ta];exact(hA0 b).1 hb
 have hv0:R w (env B (dF 0 0 x).2 Gs w) (dF 0 0 x).1 v []:=rF _ kE λj ob g hl=>by rw[hY];exact⟨ob,g,hl,Fo _,λ_ _=>rfl,λ_ y hy=>by rw[hh0 _ _ _ hl]at hy;exact cQ hy⟩
 refine calls_of_wp hf hb (wp_mono (sS hm c _ _ h _ _ ⟨_,r0⟩) λe a w' he=> ?_);obtain⟨s,⟨he,⟨ys,zf,hyr,hsc⟩,ht0,nU,hu,jK,hcl⟩,G,r⟩:=he;obtain⟨u,hrun,hR⟩:=Al r zf;have hhv:∀(o:List aN) (G':List CO) (w'':World) i y,i<(dF 0 0 x).2.length->(env B o G' w'').H i 0 y->B.h0 i=some y:=by intro o G' w'' i y hi hH;obtain⟨_,_,_,_,_,hz⟩:=hH;have hg:∃ob g,look (dF 0 0 x).2 Gs i ob g:=⟨_,_,aE hi,aE (by omega)⟩;obtain⟨ob,g,hl⟩:=hg;have e:=hh0 _ _ _ hl;rw[hz rfl _ e];exact e
 obtain⟨v1,hv1,hr1⟩:=JJ r.tmps ht0;have hvv:v=v1:=aAf (hv:=B.h0) (hhv _ _ _) (hhv _ _ _) _ _ _ aO0 hv0 hr1;subst hvv;obtain⟨AR,k1,k2,k3⟩:=La r _ v nU hu hr1;rw[jK]at k1;have hfin:∃u' AR,Ending.returned u= .returned u'/\R w' mJ rr u' []/\R w' mJ x' v AR/\AR.Nodup/\
   (∀b∈AR,(b∈fp\/w.heap.size<=b)/\b<w'.heap.size)/\w.heap.size<=w'.heap.size/\(∀b,b<w.heap.size->b∉fp->w'.heap[b]? =w.heap[b]?)/\mI w w':=by
  refine⟨u,AR,rfl,?_,Lb (E:=(env _ s.o G w').plain) (λ_ _=>trivial) rfl rfl rfl _ _ _ hcl k1,k2,λb hb=> ?_,by have:=r.size;rwa[Ta]at this,λb hb hn=>by have:=r.frame b (by rw[Ta];exact hb) (λh=>hn ((hO0 b).1 h));rwa[Ta]at this,by have:=r.same;rwa[Ta]at this⟩
  .rw [hyr]at hR;cases rr<;>simp only[AV.scalar]at hsc<;>first|(cases hsc;done)|(simp only[R]at hR⊢;exact hR)
  .obtain ⟨i,ob,g,_,hl,hlive,hF⟩:=k3 b hb;have:=r.fresh _ _ _ b hl hlive hF;rw[Ta,hO0]at this;exact this
 rcases he with rfl|rfl
 .exact ⟨r.defs,u,hrun,hfin⟩
 .exact ⟨r.defs,u,hrun,hfin⟩
theorem aG7{w:World}{E:Env}{e:List AV}{cs:List Value}{fp:List Nat}{c:Nat}{x:AV}(h:Rc w E e cs fp)(hx:e[c]? =some x):
  ∃a1 a2 a3 v,fp=a1++a2++a3/\cs[c]? =some v/\Rc w E (e.take c) (cs.take c) a1/\R w E x v a2/\Rc w E (e.drop (c+1)) (cs.drop (c+1)) a3:=by
 obtain⟨a1,r1,rfl,h1,h2⟩:=uL c h;have hlt:=(cH.1 hx).1;have hl:=gG h;have hd:e.drop c=x::e.drop (c+1):=by rw[mC hlt,(cH.1 hx).2]
 have hcs:cs.drop c=cs[c]'(by omega)::cs.drop (c+1):=mC (by omega);rw[hd,hcs]at h2;simp only[Rc]at h2;obtain⟨a2,a3,h3,h4,rfl⟩:=h2;exact⟨a1,a2,a3,_,by simp,aE (by omega),h1,h3,h4⟩
theorem K5{w:World}{E:Env}{e:List AV}{cs:List Value}{a1 a2 a3:List Nat}{c:Nat}{x:AV}{v:Value}(hc:c<e.length)(hv:cs[c]? =some v)(h1:Rc w E (e.take c) (cs.take c) a1)(h2:R w E x v a2)(h3:Rc w E (e.drop (c+1)) (cs.drop (c+1)) a3):
  Rc w E (e.set c x) cs (a1++a2++a3):=by
 have e1:e.set c x=e.take c++x::e.drop (c+1):=by rw[set_eq_take_append_cons_drop];simp[hc]
 obtain⟨hlt,rfl⟩:=cH.1 hv;have e2:cs=cs.take c++cs[c]::cs.drop (c+1):=by simp
 rw[e1];conv=>arg 4;rw[e2]
 have:=mY h1 (show Rc w E (x::e.drop (c+1)) (cs[c]::cs.drop (c+1)) (a2++a3)by simp only[Rc];exact⟨a2,a3,h2,h3,rfl⟩);simpa using this
theorem aCp{t t':List AV}{o o':List aN}(i k c:Nat){ob:aN}{e:List AV}{m:Nat}{rows:List (List AV)}(ho:o[i]? =some ob)(hl:ob.live=true)(hall:(o.all λx=> !x.box)=true)(he:ob.dO[k]? =some e)
  (hc:e[c]? =some (.sl .own m rows)) (ho':o.set i {ob with box:=true,dO:=ob.dO.set k (e.set c (.obj o.length 1))}++[⟨true,false,m,1,rows⟩]=o') (hw:wk (xO (iU [i]) true t) t') (hv2:ob.bU<2:=by first|decide|simp):lC ⟨t,o⟩ ⟨t',o'⟩:=by
 subst ho';rintro P _ B a w ⟨G,r⟩;have nb:∀{j x g},look o G j x g->x.box=false:=λh=>by have:=fR.1 hall _ (nB h.1);simpa using this
 obtain⟨g,hlk⟩:=r.look ho;have hb:=nb hlk;obtain⟨fp,hown,hnd,hF⟩:=r.ok i ob g hlk hl;simp only[hb,Env.of,eS,hM]at hown;obtain⟨hlen,⟨h,_⟩|⟨b,off,C,ty,fz,qN,ha,hbk,hz,h1,h2,h3,rfl,hr⟩⟩:=hown
 .rw [h]at he;simp at he
 have hk:k<ob.dO.length:=(cH.1 he).1;have hcl:c<e.length:=(cH.1 hc).1;obtain⟨f1,f2,f3,cs,rfl,hn,hcs,hone,hre,hr1,hr3⟩:=AX hr he;obtain⟨a1,a2,a3,v,rfl,hv,k1,k2,k3⟩:=aG7 hre hc;obtain⟨ad,cap',hvs,az⟩:=pM.1 k2;have hlo:i<o.length:=(cH.1 ho).1;have hsub2:∀x∈a2,g.F x:=λx hx=>hF x (by simp[hx])
 generalize xY:({ob with box:=true,dO:=ob.dO.set k (e.set c (.obj o.length 1))}:aN)=fF;generalize hg':({g with F:=λx=>g.F x/\x∉a2}:CO)=g';generalize hO:o.set i fF++[⟨true,false,m,1,rows⟩]=o';generalize xe:G.set i g'++[⟨ad,cap',λx=>x∈a2⟩]=G';have mq:(G.set i g').length=(o.set i fF).length:=by simp[r.len]
 have back:∀{j x y},look o' G' j x y->(j=i/\x=fF/\y=g')\/(j=o.length/\x=⟨true,false,m,1,rows⟩/\y=⟨ad,cap',λx=>x∈a2⟩)\/(j≠i/\look o G j x y):=by
  intro j x y h;rw[<-hO,<-xe]at h;rcases qA mq h with⟨_,h⟩|⟨hj,h⟩
  .rcases Ah h with⟨h1,h2,h3⟩|⟨h1,h2⟩
   .exact .inl ⟨h1,h2,h3⟩
   .exact .inr (.inr ⟨h1,h2⟩)
  .right;left;obtain⟨h1,h2⟩:=h;cases hd:j-(o.set i fF).length with
   |zero=>rw[hd]at h1 h2;simp at h1 h2 hj hd;exact⟨by omega,h1.symm,h2.symm⟩
   |succ n=>rw[hd]at h1;simp at h1
 have fi:look o' G' i fF g':=by rw[<-hO,<-xe];exact nR (rQ hlk)
 have fJ:look o' G' o.length ⟨true,false,m,1,rows⟩ ⟨ad,cap',λx=>x∈a2⟩:=by rw[<-hO,<-xe];have:=qB (o:=o.set i fF) (o2:=[⟨true,false,m,1,rows⟩]) (G:=G.set i g') (G2:=[⟨ad,cap',λx=>x∈a2⟩]) mq (i:=0) (x:=⟨true,false,m,1,rows⟩) (y:=⟨ad,cap',λx=>x∈a2⟩) ⟨rfl,rfl⟩;simpa using this
 have fo:∀{j x y},j≠i->look o G j x y->look o' G' j x y:=λhj h=>by rw[<-hO,<-xe];exact nR (CR h hj)
 have aS6:fF.live=true:=by rw[<-xY];exact hl
 have aG8:fF.n=ob.n:=by rw[<-xY]
 have aS7:fF.bU=ob.bU:=by rw[<-xY]
 have aG9:fF.dO.length=ob.dO.length:=by rw[<-xY];simp
 have hga:g'.a=g.a:=by rw[<-hg']
 have hgc:g'.cap=g.cap:=by rw[<-hg']
 have VG:∀x,g'.F x↔g.F x/\x∉a2:=λx=>by rw[<-hg']
 let Er:Env:={env B o G w with D:=λj x=>j∉[i]/\(env B o G w).D j x}
 have rt1:nG (iU [i]) true (env B o G w) Er (λ_=>True):=by
  refine⟨λt e=>by simp[iU]at e,λt e=>by simp only[iU,eE]at e;exact⟨e.symm,λb hb=>hb⟩,λj t e=> ?_,λ_ _ _ _ h=>h,λ_ _ _ _ _ _ h=>h⟩;simp only[iU]at e;split at e
  .cases e
  .rename_i hiu;obtain rfl:=cQ e;refine⟨by simp,?_,λb hb=>⟨hiu,hb⟩⟩;by_cases hV:(env B o G w).V j
   .exact .inl hV
   .exact .inr hV
 have kA:∀x,(env B o G w).A x->(env B o' G' w).A x:=λx hx=>⟨hx.1,λj y z hlj hjl hf=>by
  rcases back hlj with⟨rfl,rfl,rfl⟩|⟨rfl,rfl,rfl⟩|⟨_,h⟩
  .exact hx.2 _ _ _ hlk hl ((VG x).1 hf).1
  .exact hx.2 _ _ _ hlk hl (hsub2 x hf)
  .exact hx.2 _ _ _ h hjl hf⟩
 have k2':eO w Er w (env B o' G' w):=by
  refine⟨λx hx=>⟨kA x hx,rfl⟩,λj h x hx=> ?_,λj x hV h=> ?_,λj bU x h=> ?_,λj bU p q x h=> ?_⟩
  .obtain ⟨y,hy⟩:=r.look hx;by_cases hj:j=i
   .subst hj;rw[ho]at hx;obtain rfl:=cQ hx;exact hl
   .exact h x (fo hj hy).1
  .obtain ⟨hji,x',y,hlj,hjl,hf,hne⟩:=h;exact⟨⟨x',y,fo (by simpa using hji) hlj,hjl,hf,hne⟩,rfl⟩
  .obtain ⟨x',y,hlj,AU,hh,hz⟩:=h;by_cases hj:j=i
   .subst hj;obtain⟨rfl,rfl⟩:=lM hlk hlj;exact⟨fF,g',fi,by omega,λ_ VI=>by rw[hga,hgc,aG9];exact hh hl (by omega),hz⟩
   .exact ⟨x',y,fo hj hlj,AU,hh,hz⟩
  .obtain ⟨x',y,hlj,AU,hh,hz⟩:=h;by_cases hj:j=i
   .subst hj;obtain⟨rfl,rfl⟩:=lM hlk hlj;exact⟨fF,g',fi,by omega,λ_ VI=>by rw[hga,aG8];exact hh hl (by omega),λ_ e=>by omega⟩
   .exact ⟨x',y,fo hj hlj,AU,hh,hz⟩
 have kp:eO w (env B o G w).plain w (env B o' G' w).plain:=⟨λx hx=>⟨kA x hx,rfl⟩,λ_ _=>trivial,λ_ _ _ h=>h.elim,λ_ _ _ h=>h.elim,λ_ _ _ _ _ h=>h.elim⟩;have kf:eO w (env B o G w).plain w (env B o' G' w):=kp.trans (OV w _);have hnd':=hnd;simp only[lR]at hnd';refine⟨G',{len:=by rw[<-hO,<-xe];simp[r.len],defs:=r.defs,ok:= ?_,apart:= ?_,fresh:= ?_,tmps:=Gt hw (dU k2' _ _ _ (by simp) (yB rt1 _ _ _ (by simp) r.tmps)),size:=r.size,frame:=r.frame,base:=r.base,same:=r.same}⟩
 .intro j x y hlj hjl;rcases back hlj with⟨rfl,rfl,rfl⟩|⟨rfl,rfl,rfl⟩|⟨hj,h⟩
  .refine ⟨b::(f1++(a1++[]++a3)++f3),?_,?_,?_⟩
   .rw [<-xY,<-hg'];simp only[Env.of,gE];refine⟨by simpa using hlen,.inr ⟨b,off,C,ty,fz,_,ha,hbk,hz,h1,by simpa using h2,h3,rfl,?_⟩⟩;refine WT hk hn hcs hone (K5 hcl hv (dU kf _ _ _ (λ_ _=>rfl) k1) ?_ (dU kf _ _ _ (λ_ _=>rfl) k3)) (mG kf _ _ _ _ _ rfl (λ_ _=>rfl) hr1) (mG kf _ _ _ _ _ rfl (λ_ _=>rfl) hr3);simp only[R];exact⟨trivial,_,_,fJ,eC _,λ_ _=>hvs,λh=>by omega⟩
   .have hs:(f1++(a1++[]++a3)++f3).Sublist (f1++(a1++a2++a3)++f3):=((rI f1).append (((rI a1).append (nil_sublist a2)).append (rI a3))).append (rI f3);exact lR.2 ⟨λh=>hnd'.1 (hs.subset h),hs.nodup hnd'.2⟩
   .intro x hx;rw[VG];have hin:x∈b::(f1++(a1++a2++a3)++f3):=by simp only[gS,eW,Bs,Gk]at hx⊢;grind
    refine⟨hF x hin,λhx2=> ?_⟩;have hd:=hnd'.2;simp only[gO,eW]at hd;simp only[gS,eW,Bs,Gk]at hx;rcases hx with rfl|(hx|hx|hx)|hx
    .exact hnd'.1 (by simp[hx2])
    .exact hd.1.2.2 x hx x (.inl (.inr hx2)) rfl
    .exact hd.1.2.1.1.2.2 x hx x hx2 rfl
    .exact hd.1.2.1.2.2 x (.inr hx2) x hx rfl
    .exact hd.2.2 x (.inr (.inl (.inr hx2))) x hx rfl
  .refine ⟨a2,?_,?_,λx hx=>hx⟩
   .simp only[Env.of,eS,hM];exact az.keeps kp (λ_ _=>rfl)
   .have hd:=hnd'.2;simp only[gO]at hd;exact hd.1.2.1.1.2.1
  .have hbj:=nb h;obtain⟨fq,q1,q2,q3⟩:=r.ok j x y h hjl;simp only[hbj,Env.of,eS,hM]at q1;refine⟨fq,?_,q2,q3⟩;simp only[hbj,Env.of,eS,hM];exact q1.keeps kp (λ_ _=>rfl)
 .intro j1 j2 x1 x2 y1 y2 z hl1 hl2 v1 v2 hf1 hf2;rcases back hl1 with⟨rfl,rfl,rfl⟩|⟨rfl,rfl,rfl⟩|⟨hj1,h1⟩<;>rcases back hl2 with⟨rfl,rfl,rfl⟩|⟨rfl,rfl,rfl⟩|⟨hj2,h2⟩
  .rfl
  .exact absurd hf2 ((VG z).1 hf1).2
  .exact absurd (r.apart _ _ _ _ _ _ z hlk h2 hl v2 ((VG z).1 hf1).1 hf2).symm hj2
  .exact absurd hf1 ((VG z).1 hf2).2
  .rfl
  .exact absurd (r.apart _ _ _ _ _ _ z hlk h2 hl v2 (hsub2 z hf1) hf2).symm hj2
  .exact absurd (r.apart _ _ _ _ _ _ z h1 hlk v1 hl hf1 ((VG z).1 hf2).1) hj1
  .exact absurd (r.apart _ _ _ _ _ _ z h1 hlk v1 hl hf1 (hsub2 z hf2)) hj1
  .exact r.apart _ _ _ _ _ _ z h1 h2 v1 v2 hf1 hf2
 .intro j x y z hlj hjl hf;rcases back hlj with⟨rfl,rfl,rfl⟩|⟨rfl,rfl,rfl⟩|⟨_,h⟩
  .exact r.fresh _ _ _ z hlk hl ((VG z).1 hf).1
  .exact r.fresh _ _ _ z hlk hl (hsub2 z hf)
  .exact r.fresh _ _ _ z h hjl hf
def AV.GR:AV->Bool
 | .int _ _=>true
 | .bool _=>true
 | .str _=>true
 | .sl .own _ _=>true
 |_=>false
theorem aPn{w:World}{E E':Env}(hA:∀b,E.A b->E'.A b){x:AV}{v:Value}{fp:List Nat}(hx:x.GR=true)(h:R w E x v fp):R w E' x v fp:=by
 cases x with
 |int _ _=>simpa [R]using h
 |bool _=>simpa [R]using h
 |str _=>simpa [R]using h
 |sl g n l=>
  cases g with
  |own=>obtain⟨a,cap,hv,hown⟩:=pM.1 h;exact pM.2 ⟨a,cap,hv,hown.keeps ⟨λb hb=>⟨hA b hb,rfl⟩,λ_ _=>trivial,λ_ _ _ h=>h.elim,λ_ _ _ h=>h.elim,λ_ _ _ _ _ h=>h.elim⟩ (λ_ _=>rfl)⟩
  |_=>cases hx
 |_=>cases hx
theorem Rj{w:World}{E E':Env}(hA:∀b,E.A b->E'.A b):∀{c:List AV} {cs:List Value} {fp:List Nat},c.all AV.GR=true->Rc w E c cs fp->Rc w E' c cs fp
 |[],[],_,_,h=>h
 |[],_::_,_,_,h=>by simp[Rc]at h
 |_::_,[],_,_,h=>by simp[Rc]at h
 |x::xs,c::cs,fp,hp,h=>by simp only[Rc]at h⊢;simp only[CC,eI]at hp;obtain⟨f1,f2,h1,h2,h3⟩:=h;exact⟨f1,f2,aPn hA hp.1 h1,Rj hA hp.2 h2,h3⟩
theorem Zn{w:World}{E E':Env}(hA:∀b,E.A b->E'.A b):∀{l:List (List AV)} {b off n:Nat} {fp:List Nat},(l.all λr=>r.all AV.GR)=true->Rr w E l b off n fp->Rr w E' l b off n fp
 |[],_,_,_,_,_,h=>h
 |e::es,b,off,n,fp,hp,h=>by simp only[Rr]at h⊢;simp only[CC,eI]at hp;obtain⟨cs,f1,f2,h1,h2,h3,h4,h5,h6⟩:=h;exact⟨cs,f1,f2,h1,h2,h3,Rj hA hp.1 h4,Zn hA hp.2 h5,h6⟩
theorem TJ{α:Type}{p:α->Bool}{l:List α}(k:Nat)(h:l.all p=true):(l.take k).all p=true:=by rw[fR]at h⊢;exact λx hx=>h x (sE hx)
theorem TK{α:Type}{p:α->Bool}{l:List α}(k:Nat)(h:l.all p=true):(l.drop k).all p=true:=by rw[fR]at h⊢;exact λx hx=>h x (AI hx)
theorem Jr{α:Type}(l:List α)(k:Nat)(x:α):(l.set k x).take k=l.take k:=by rw[take_set];exact BY (by simp;omega)
theorem Js{α:Type}(l:List α)(k:Nat)(x:α):(l.set k x).drop (k+1)=l.drop (k+1):=by rw[drop_set];simp
theorem K6{t t':List AV}{o o':List aN}(i J k c:Nat){ob oj:aN}{e:List AV}{bU:Nat}(ho:o[i]? =some ob)(hj:o[J]? =some oj)(hij:i≠J)(hl:ob.live=true)(hlj:oj.live=true)(hbj:oj.box=false)
  (he:ob.dO[k]? =some e) (hc:e[c]? =some (.obj J bU)) (AU:oj.bU=bU) (hp:((ob.dO.set k (e.set c (.int .i64 0))).all λr=>r.all AV.GR)=true) (Gh:ob.box=true)
  (ho':(o.set J oj.kill).set i {ob with box:=false,dO:=ob.dO.set k (e.set c (.sl .own oj.n oj.dO))}=o') (hw:wk t t'):lC ⟨t,o⟩ ⟨t',o'⟩:=by
 subst ho';rintro P _ B a w ⟨G,r⟩;obtain⟨g,hlk⟩:=r.look ho;obtain⟨gj,aLq⟩:=r.look hj;obtain⟨fp,hown,hnd,hF⟩:=r.ok i ob g hlk hl;obtain⟨fj,Pb,aJ8,VC⟩:=r.ok J oj gj aLq hlj;simp only[Gh,Env.of,gE]at hown;simp only[hbj,Env.of,eS,hM]at Pb;obtain⟨hlen,⟨h,_⟩|⟨b,off,C,ty,fz,qN,ha,hbk,hz,h1,h2,h3,rfl,hr⟩⟩:=hown
 .rw [h]at he;simp at he
 have hk:k<ob.dO.length:=(cH.1 he).1;have hcl:c<e.length:=(cH.1 hc).1;obtain⟨f1,f2,f3,cs,rfl,hn,hcs,hone,hre,hr1,hr3⟩:=AX hr he;obtain⟨a1,a2,a3,v,rfl,hv,k1,k2,k3⟩:=aG7 hre hc;simp only[R]at k2;obtain⟨rfl,ob2,g2,hl2,_,hh,_⟩:=k2;obtain⟨rfl,rfl⟩:=lM aLq hl2;have hvs:=hh hlj AU;obtain⟨r2,kk⟩:=r.RD hij hlk aLq hl hlj;generalize hgt:({g with F:=λb=>g.F b\/gj.F b}:CO)=gt at r2 kk;have aWm:gt.a=g.a:=by rw[<-hgt]
 have aPo:gt.cap=g.cap:=by rw[<-hgt]
 have aWn:∀x,gt.F x↔g.F x\/gj.F x:=λx=>by rw[<-hgt]
 have YE:look (o.set J oj.kill) (G.set i gt) i ob gt:=by refine⟨by rw[lO (wA hij)];exact hlk.1,?_⟩;have:=(cH.1 hlk.2).1;simp[this]
 have hpe:(e.set c (.int .i64 0)).all AV.GR=true:=by rw[fR]at hp;exact hp _ (mem_iff_getElem?.2 ⟨k,by rw[mN hk]⟩)
 have hm:=r2.modify YE hl {ob with box:=false,dO:=ob.dO.set k (e.set c (.sl .own oj.n oj.dO))} gt w (eC _) rfl (λ_=>⟨rfl,rfl,by simp⟩) (λb hb=> .inl hb) (λb hb hne=>⟨hb,hne⟩) (λ_ _ _=>rfl) (eC _) (λkm _=>by
  generalize hE:env B ((o.set J oj.kill).set i {ob with box:=false,dO:=ob.dO.set k (e.set c (.sl .own oj.n oj.dO))}) ((G.set i gt).set i gt) w=E';replace km:eO w (env B (o.set J oj.kill) (G.set i gt) w) w E':=by rw[<-hE];exact km
  have kA:∀x,(env B o G w).A x->E'.A x:=λx hx=>(km.a x (kk.a x hx).1).1
  have kp:eO w (env B o G w).plain w E'.plain:=⟨λx hx=>⟨kA x hx,rfl⟩,λ_ _=>trivial,λ_ _ _ h=>h.elim,λ_ _ _ h=>h.elim,λ_ _ _ _ _ h=>h.elim⟩;refine⟨b::(f1++(a1++fj++a3)++f3),?_,?_,?_⟩
  .simp only[Env.of,eS,hM];refine⟨by simpa using hlen,.inr ⟨b,off,C,ty,fz,_,by rw[aWm];exact ha,hbk,hz,by rw[aPo];exact h1,by rw[aPo];simpa using h2,by rw[aPo];exact h3,rfl,?_⟩⟩;refine WT hk hn hcs hone (K5 hcl hv ?_ ?_ ?_) ?_ ?_
   .exact Rj (E:=env B o G w) (E':=E'.plain) kA (by have:=TJ c hpe;rwa[Jr]at this) k1
   .exact pM.2 ⟨gj.a,gj.cap,hvs,Pb.keeps kp (λ_ _=>rfl)⟩
   .exact Rj (E:=env B o G w) (E':=E'.plain) kA (by have:=TK (c+1) hpe;rwa[Js]at this) k3
   .exact Zn (E:=env B o G w) (E':=E'.plain) kA (by have:=TJ k hp;rwa[Jr]at this) hr1
   .exact Zn (E:=env B o G w) (E':=E'.plain) kA (by have:=TK (k+1) hp;rwa[Js]at this) hr3
  .have hdj:∀x∈fj,x∉b::(f1++(a1++[]++a3)++f3):=λx hx hx2=>hij (r.apart _ _ _ _ _ _ x hlk aLq hl hlj (hF x hx2) (VC x hx))
   have XH:(b::(f1++(a1++fj++a3)++f3)).Perm ((b::(f1++(a1++[]++a3)++f3))++fj):=by rw[eA];refine Perm.cons b ?_;simp only[sB,eM];refine GC f1 (GC a1 ?_);rw[<-sB a3];exact perm_append_comm
   refine XH.nodup_iff.2 (gO.2 ⟨hnd,aJ8,λx hx y hy e=> ?_⟩);subst e;exact hdj x hy hx
  .intro x hx;rw[aWn];have:x∈b::(f1++(a1++[]++a3)++f3)\/x∈fj:=by simp only[gS,eW,Bs,Gk]at hx⊢;grind
   rcases this with h|h
   .exact .inl (hF x h)
   .exact .inr (VC x h))
 refine⟨(G.set i gt).set i gt,{hm.1 with tmps:= ?_}⟩;exact Gt hw hm.1.tmps
mutual
def FQ(i:Nat):AV->Bool
 | .sl (.kH j) _ _=>decide (j≠i)
 | .eU (.kH j) _ _=>decide (j≠i)
 | .agg c=>xI i c
 | .gM c=>xI i c
 | .fn _ c=>xI i c
 |_=>true
def xI(i:Nat):List AV->Bool
 |[]=>true
 |x::xs=>FQ i x&&xI i xs
end
def Env.no(E:Env)(i:Nat):Env:={E with D:=λj x=>j∉[i]/\E.D j x}
theorem mr{w:World}{E:Env}{i j:Nat}(h:j≠i):eO w (E.sub (.kH j)) w ((E.no i).sub (.kH j)):=
 ⟨λb h=>⟨h,rfl⟩,λ_ _=>trivial,λk b _ hd=>⟨⟨hd.1,by simpa using h,hd.2⟩,rfl⟩,λ_ _ _ h=>h.elim,λ_ _ _ _ _ h=>h.elim⟩
mutual
theorem aLr{w:World}{E:Env}{i:Nat}:∀(x:AV) (v:Value) (fp:List Nat),FQ i x=true->R w E x v fp->R w (E.no i) x v fp
 | .int _ _,_,_,_,h=>by simpa [R]using h
 | .bool _,_,_,_,h=>by simpa [R]using h
 | .str _,_,_,_,h=>by simpa [R]using h
 | .sl .own n l,v,fp,_,h=>pM.2 (pM.1 h)
 | .sl .view n l,v,fp,_,h=>by
  simp only[R]at h⊢;rcases h with h|⟨a,cap,hv,hl,h⟩
  .exact h.1.elim
  .refine .inr ⟨a,cap,hv,hl,?_⟩;rcases h with h|h|⟨hg,hf,h⟩
   .exact absurd h.1 (by simp)
   .exact absurd h.1 (by simp)
   .exact .inr (.inr ⟨hg,hf,h⟩)
 | .sl (.kH j) n l,v,fp,hc,h=>by
  have hi:j≠i:=by simpa [FQ]using hc
  simp only[R]at h⊢;rcases h with h|⟨a,cap,hv,hl,h⟩
  .exact .inl h
  .refine .inr ⟨a,cap,hv,hl,?_⟩;rcases h with h|h|⟨hg,hf,h⟩
   .exact absurd h.1 (by simp)
   .exact absurd h.1 (by simp)
   .refine .inr (.inr ⟨hg,hf,?_⟩);rcases h with h|⟨b,off,ha,ht,hr⟩
    .exact .inl h
    .exact .inr ⟨b,off,ha,⟨by simpa using hi,ht⟩,mG (mr hi) _ _ _ _ _ rfl (by simp) hr⟩
 | .eU .own c off,v,fp,_,h=>by
  simp only[R]at h⊢;rcases h with h|⟨_,_,_,_,_,ht,_⟩
  .exact h.1.elim
  .exact ht.elim
 | .eU .view c off,v,fp,_,h=>by
  simp only[R]at h⊢;rcases h with h|⟨hf,b,o',cs,hv,ht,hcs,hone,hr⟩
  .exact h.1.elim
  .exact .inr ⟨hf,b,o',cs,hv,ht,hcs,hone,hr⟩
 | .eU (.kH j) c off,v,fp,hc,h=>by
  have hi:j≠i:=by simpa [FQ]using hc
  simp only[R]at h⊢;rcases h with h|⟨hf,b,o',cs,hv,ht,hcs,hone,hr⟩
  .exact .inl h
  .exact .inr ⟨hf,b,o',cs,hv,⟨by simpa using hi,ht⟩,hcs,hone,dU (mr hi) _ _ _ (by simp) hr⟩
 | .obj _ _,v,fp,_,h=>by simp only[R]at h⊢;exact h
 | .ptr _ _ _ _,v,fp,_,h=>by simp only[R]at h⊢;exact h
 | .agg c,v,fp,hc,h=>by simp only[R]at h⊢;obtain⟨cs,h1,h2,h3⟩:=h;exact⟨cs,h1,h2,GU c cs fp (by simpa [FQ]using hc) h3⟩
 | .gM c,v,fp,hc,h=>by simp only[R]at h⊢;obtain⟨cs,h1,h3⟩:=h;exact⟨cs,h1,GU c cs fp (by simpa [FQ]using hc) h3⟩
 | .fn f c,v,fp,hc,h=>by simp only[R]at h⊢;obtain⟨h0,cs,h1,h3⟩:=h;exact⟨h0,cs,h1,GU c cs [] (by simpa [FQ]using hc) h3⟩
 | .undef,_,_,_,h=>by simpa [R]using h
theorem GU{w:World}{E:Env}{i:Nat}:∀(c:List AV) (cs:List Value) (fp:List Nat),xI i c=true->Rc w E c cs fp->Rc w (E.no i) c cs fp
 |[],[],_,_,h=>by simpa [Rc]using h
 |[],_::_,_,_,h=>by simp[Rc]at h
 |_::_,[],_,_,h=>by simp[Rc]at h
 |x::xs,c::cs,fp,hc,h=>by simp only[Rc]at h⊢;simp only[xI,eI]at hc;obtain⟨f1,f2,h1,h2,h3⟩:=h;exact⟨f1,f2,aLr x c f1 hc.1 h1,GU xs cs f2 hc.2 h2,h3⟩
end
theorem ng{w:World}{E:Env}{i:Nat}:∀(l:List (List AV)) (b off n:Nat) (fp:List Nat),(l.all λc=>xI i c)=true->Rr w E l b off n fp->Rr w (E.no i) l b off n fp
 |[],_,_,_,_,_,h=>by simpa [Rr]using h
 |e::es,b,off,n,fp,hc,h=>by simp only[Rr]at h⊢;simp only[CC,eI]at hc;obtain⟨cs,f1,f2,h1,h2,h3,h4,h5,h6⟩:=h;exact⟨cs,f1,f2,h1,h2,h3,GU e cs f1 hc.1 h4,ng es b _ n f2 hc.2 h5,h6⟩
theorem uU.FQ{w:World}{E:Env}{n:Nat}{l:List (List AV)}{a:Option Addr}{cap:Nat}{fp:List Nat}{i:Nat}(hc:(l.all λc=>xI i c)=true)(h:uU w E n l a cap fp):uU w (E.no i) n l a cap fp:=by
 obtain⟨h1,h|⟨b,off,C,e,fz,qN,k1,k2,k3,k4,k5,k6,k7,k8⟩⟩:=h
 .exact ⟨h1,.inl h⟩
 .exact ⟨h1,.inr ⟨b,off,C,e,fz,qN,k1,k2,k3,k4,k5,k6,k7,ng l b off n qN hc k8⟩⟩
theorem vN{t t':List AV}{o o':List aN}(i k c:Nat){ob:aN}{e:List AV}{m:Nat}{rows:List (List AV)}(ho:o[i]? =some ob)(hl:ob.live=true)(hb:ob.box=true)(hall:(o.all λx=> !x.box || x.dO.all λc=>xI i c)=true)(he:ob.dO[k]? =some e)
  (hc:e[c]? =some (.sl .own m rows)) (ho':o.set i {ob with dO:=ob.dO.set k (e.set c (.obj o.length 1))}++[⟨true,false,m,1,rows⟩]=o') (hw:wk (xO (iU [i]) true t) t'):lC ⟨t,o⟩ ⟨t',o'⟩:=by
 subst ho';rintro P _ B a w ⟨G,r⟩;have nb:∀{j x g},look o G j x g->x.box=true->(x.dO.all λc=>xI i c)=true:=λh hb=>by have:=fR.1 hall _ (nB h.1);simpa only[hb,DQ,Bool.false_or]using this
 obtain⟨g,hlk⟩:=r.look ho;obtain⟨fp,hown,hnd,hF⟩:=r.ok i ob g hlk hl;simp only[hb,Env.of,gE]at hown;replace hown:=hown.FQ (nb hlk hb);obtain⟨hlen,⟨h,_⟩|⟨b,off,C,ty,fz,qN,ha,hbk,hz,h1,h2,h3,rfl,hr⟩⟩:=hown
 .rw [h]at he;simp at he
 have hk:k<ob.dO.length:=(cH.1 he).1;have hcl:c<e.length:=(cH.1 hc).1;obtain⟨f1,f2,f3,cs,rfl,hn,hcs,hone,hre,hr1,hr3⟩:=AX hr he;obtain⟨a1,a2,a3,v,rfl,hv,k1,k2,k3⟩:=aG7 hre hc;obtain⟨ad,cap',hvs,az⟩:=pM.1 k2;have hlo:i<o.length:=(cH.1 ho).1;have hsub2:∀x∈a2,g.F x:=λx hx=>hF x (by simp[hx])
 generalize xY:({ob with dO:=ob.dO.set k (e.set c (.obj o.length 1))}:aN)=fF;generalize hg':({g with F:=λx=>g.F x/\x∉a2}:CO)=g';generalize hO:o.set i fF++[⟨true,false,m,1,rows⟩]=o';generalize xe:G.set i g'++[⟨ad,cap',λx=>x∈a2⟩]=G';have mq:(G.set i g').length=(o.set i fF).length:=by simp[r.len]
 have back:∀{j x y},look o' G' j x y->(j=i/\x=fF/\y=g')\/(j=o.length/\x=⟨true,false,m,1,rows⟩/\y=⟨ad,cap',λx=>x∈a2⟩)\/(j≠i/\look o G j x y):=by
  intro j x y h;rw[<-hO,<-xe]at h;rcases qA mq h with⟨_,h⟩|⟨hj,h⟩
  .rcases Ah h with⟨h1,h2,h3⟩|⟨h1,h2⟩
   .exact .inl ⟨h1,h2,h3⟩
   .exact .inr (.inr ⟨h1,h2⟩)
  .right;left;obtain⟨h1,h2⟩:=h;cases hd:j-(o.set i fF).length with
   |zero=>rw[hd]at h1 h2;simp at h1 h2 hj hd;exact⟨by omega,h1.symm,h2.symm⟩
   |succ n=>rw[hd]at h1;simp at h1
 have fi:look o' G' i fF g':=by rw[<-hO,<-xe];exact nR (rQ hlk)
 have fJ:look o' G' o.length ⟨true,false,m,1,rows⟩ ⟨ad,cap',λx=>x∈a2⟩:=by rw[<-hO,<-xe];have:=qB (o:=o.set i fF) (o2:=[⟨true,false,m,1,rows⟩]) (G:=G.set i g') (G2:=[⟨ad,cap',λx=>x∈a2⟩]) mq (i:=0) (x:=⟨true,false,m,1,rows⟩) (y:=⟨ad,cap',λx=>x∈a2⟩) ⟨rfl,rfl⟩;simpa using this
 have fo:∀{j x y},j≠i->look o G j x y->look o' G' j x y:=λhj h=>by rw[<-hO,<-xe];exact nR (CR h hj)
 have aS6:fF.live=true:=by rw[<-xY];exact hl
 have aG8:fF.n=ob.n:=by rw[<-xY]
 have aS7:fF.bU=ob.bU:=by rw[<-xY]
 have aG9:fF.dO.length=ob.dO.length:=by rw[<-xY];simp
 have hga:g'.a=g.a:=by rw[<-hg']
 have hgc:g'.cap=g.cap:=by rw[<-hg']
 have VG:∀x,g'.F x↔g.F x/\x∉a2:=λx=>by rw[<-hg']
 let Er:Env:=(env B o G w).no i
 have rt1:nG (iU [i]) true (env B o G w) Er (λ_=>True):=by
  refine⟨λt e=>by simp[iU]at e,λt e=>by simp only[iU,eE]at e;exact⟨e.symm,λb hb=>hb⟩,λj t e=> ?_,λ_ _ _ _ h=>h,λ_ _ _ _ _ _ h=>h⟩;simp only[iU]at e;split at e
  .cases e
  .rename_i hiu;obtain rfl:=cQ e;refine⟨by simp,?_,λb hb=>⟨hiu,hb⟩⟩;by_cases hV:(env B o G w).V j
   .exact .inl hV
   .exact .inr hV
 have kA:∀x,(env B o G w).A x->(env B o' G' w).A x:=λx hx=>⟨hx.1,λj y z hlj hjl hf=>by
  rcases back hlj with⟨rfl,rfl,rfl⟩|⟨rfl,rfl,rfl⟩|⟨_,h⟩
  .exact hx.2 _ _ _ hlk hl ((VG x).1 hf).1
  .exact hx.2 _ _ _ hlk hl (hsub2 x hf)
  .exact hx.2 _ _ _ h hjl hf⟩
 have k2':eO w Er w (env B o' G' w):=by
  refine⟨λx hx=>⟨kA x hx,rfl⟩,λj h x hx=> ?_,λj x hV h=> ?_,λj bU x h=> ?_,λj bU p q x h=> ?_⟩
  .obtain ⟨y,hy⟩:=r.look hx;by_cases hj:j=i
   .subst hj;rw[ho]at hx;obtain rfl:=cQ hx;exact hl
   .exact h x (fo hj hy).1
  .obtain ⟨hji,x',y,hlj,hjl,hf,hne⟩:=h;exact⟨⟨x',y,fo (by simpa using hji) hlj,hjl,hf,hne⟩,rfl⟩
  .obtain ⟨x',y,hlj,AU,hh,hz⟩:=h;by_cases hj:j=i
   .subst hj;obtain⟨rfl,rfl⟩:=lM hlk hlj;exact⟨fF,g',fi,by omega,λ_ VI=>by rw[hga,hgc,aG9];exact hh hl (by omega),hz⟩
   .exact ⟨x',y,fo hj hlj,AU,hh,hz⟩
  .obtain ⟨x',y,hlj,AU,hh,hz⟩:=h;by_cases hj:j=i
   .subst hj;obtain⟨rfl,rfl⟩:=lM hlk hlj;exact⟨fF,g',fi,by omega,λ_ VI=>by rw[hga,aG8];exact hh hl (by omega),λ_ e2 e3 e4 y hy=>⟨(hz hb e2 e3 e4 y hy).1,λ_ VI=>by rw[hgc];exact(hz hb e2 e3 e4 y hy).2 hl (by omega)⟩⟩
   .exact ⟨x',y,fo hj hlj,AU,hh,hz⟩
 have kp:eO w (env B o G w).plain w (env B o' G' w).plain:=⟨λx hx=>⟨kA x hx,rfl⟩,λ_ _=>trivial,λ_ _ _ h=>h.elim,λ_ _ _ h=>h.elim,λ_ _ _ _ _ h=>h.elim⟩;have kf:eO w (env B o G w).plain w (env B o' G' w):=kp.trans (OV w _);have hnd':=hnd;simp only[lR]at hnd';refine⟨G',{len:=by rw[<-hO,<-xe];simp[r.len],defs:=r.defs,ok:= ?_,apart:= ?_,fresh:= ?_,tmps:=Gt hw (dU k2' _ _ _ (by simp) (yB rt1 _ _ _ (by simp) r.tmps)),size:=r.size,frame:=r.frame,base:=r.base,same:=r.same}⟩
 .intro j x y hlj hjl;rcases back hlj with⟨rfl,rfl,rfl⟩|⟨rfl,rfl,rfl⟩|⟨hj,h⟩
  .refine ⟨b::(f1++(a1++[]++a3)++f3),?_,?_,?_⟩
   .rw [<-xY,<-hg'];simp only[hb,Env.of,gE];refine⟨by simpa using hlen,.inr ⟨b,off,C,ty,fz,_,ha,hbk,hz,h1,by simpa using h2,h3,rfl,?_⟩⟩;refine WT hk hn hcs hone (K5 hcl hv (dU k2' _ _ _ (λ_ _=>rfl) k1) ?_ (dU k2' _ _ _ (λ_ _=>rfl) k3)) (mG k2' _ _ _ _ _ rfl (λ_ _=>rfl) hr1) (mG k2' _ _ _ _ _ rfl (λ_ _=>rfl) hr3);simp only[R];exact⟨trivial,_,_,fJ,eC _,λ_ _=>hvs,λh=>by omega⟩
   .have hs:(f1++(a1++[]++a3)++f3).Sublist (f1++(a1++a2++a3)++f3):=((rI f1).append (((rI a1).append (nil_sublist a2)).append (rI a3))).append (rI f3);exact lR.2 ⟨λh=>hnd'.1 (hs.subset h),hs.nodup hnd'.2⟩
   .intro x hx;rw[VG];have hin:x∈b::(f1++(a1++a2++a3)++f3):=by simp only[gS,eW,Bs,Gk]at hx⊢;grind
    refine⟨hF x hin,λhx2=> ?_⟩;have hd:=hnd'.2;simp only[gO,eW]at hd;simp only[gS,eW,Bs,Gk]at hx;rcases hx with rfl|(hx|hx|hx)|hx
    .exact hnd'.1 (by simp[hx2])
    .exact hd.1.2.2 x hx x (.inl (.inr hx2)) rfl
    .exact hd.1.2.1.1.2.2 x hx x hx2 rfl
    .exact hd.1.2.1.2.2 x (.inr hx2) x hx rfl
    .exact hd.2.2 x (.inr (.inl (.inr hx2))) x hx rfl
  .refine ⟨a2,?_,?_,λx hx=>hx⟩
   .simp only[Env.of,eS,hM];exact az.keeps kp (λ_ _=>rfl)
   .have hd:=hnd'.2;simp only[gO]at hd;exact hd.1.2.1.1.2.1
  .obtain ⟨fq,q1,q2,q3⟩:=r.ok j x y h hjl;refine⟨fq,?_,q2,q3⟩;cases hbj:x.box with
   |false=>simp only[hbj,Env.of,eS,hM]at q1⊢;exact q1.keeps kp (λ_ _=>rfl)
   |true=>simp only[hbj,Env.of,gE]at q1⊢;exact(q1.FQ (nb h hbj)).keeps k2' (λ_ _=>rfl)
 .intro j1 j2 x1 x2 y1 y2 z hl1 hl2 v1 v2 hf1 hf2;rcases back hl1 with⟨rfl,rfl,rfl⟩|⟨rfl,rfl,rfl⟩|⟨hj1,h1⟩<;>rcases back hl2 with⟨rfl,rfl,rfl⟩|⟨rfl,rfl,rfl⟩|⟨hj2,h2⟩
  .rfl
  .exact absurd hf2 ((VG z).1 hf1).2
  .exact absurd (r.apart _ _ _ _ _ _ z hlk h2 hl v2 ((VG z).1 hf1).1 hf2).symm hj2
  .exact absurd hf1 ((VG z).1 hf2).2
  .rfl
  .exact absurd (r.apart _ _ _ _ _ _ z hlk h2 hl v2 (hsub2 z hf1) hf2).symm hj2
  .exact absurd (r.apart _ _ _ _ _ _ z h1 hlk v1 hl hf1 ((VG z).1 hf2).1) hj1
  .exact absurd (r.apart _ _ _ _ _ _ z h1 hlk v1 hl hf1 (hsub2 z hf2)) hj1
  .exact r.apart _ _ _ _ _ _ z h1 h2 v1 v2 hf1 hf2
 .intro j x y z hlj hjl hf;rcases back hlj with⟨rfl,rfl,rfl⟩|⟨rfl,rfl,rfl⟩|⟨_,h⟩
  .exact r.fresh _ _ _ z hlk hl ((VG z).1 hf).1
  .exact r.fresh _ _ _ z hlk hl (hsub2 z hf)
  .exact r.fresh _ _ _ z h hjl hf
attribute [simp] FQ xI
def quiet:Op->Bool
 | .move _| .assign _| .load _ _| .fieldAddr _ _ _| .indexAddr _ _ _| .index _ _ _| .extract _ _| .unOp _ _ _| .binOp _ _ _ _ _| .convert _ _ _| .pick _ _ _| .alloc _| .box _ _| .build _ _| .nilCheck _=>true
 | .call ⟨.builtin .len,⟨[_]⟩,⟨[_]⟩⟩=>true
 | .call ⟨.value _,_,_⟩=>true
 |_=>false
def nW(op:Op)(s:AS):Bool:=match op with
 | .buildSlice _ _ parts=>(kK ((parts.toList.map (·.2)).map s.ev)).isEmpty
 | .slice _ x _ _ none=>match s.ev x with
  | .str _=>true
  | .sl _ _ _=>true
  |_=>false
 | .call ⟨.builtin .append,⟨[x,y]⟩,_⟩=>(match s.ev x with| .sl .own _ []=>true|_=>false)&&(match s.ev y with| .sl .own _ []=>true| .sl .view _ _=>true| .str _=>true|_=>false)
 |o=>quiet o
mutual
theorem aFa{o o':List aN}:∀x:AV,mE x=[]->res o x=res o' x/\jO o x=jO o' x
 | .obj i v,h=>by simp[mE]at h
 | .agg c,h=>by have:=Io (o:=o) (o':=o') c (by simpa [mE]using h);simp only[res,jO,this,GP]
 | .gM c,h=>by have:=Io (o:=o) (o':=o') c (by simpa [mE]using h);simp only[res,jO,this,GP]
 | .int _ _,_=>⟨rfl,rfl⟩
 | .bool _,_=>⟨rfl,rfl⟩
 | .str _,_=>⟨rfl,rfl⟩
 | .sl .own _ _,_=>⟨rfl,rfl⟩
 | .sl .view _ _,_=>⟨rfl,rfl⟩
 | .sl (.kH _) _ _,_=>⟨rfl,rfl⟩
 | .eU .own _ _,_=>⟨rfl,rfl⟩
 | .eU .view _ _,_=>⟨rfl,rfl⟩
 | .eU (.kH _) _ _,_=>⟨rfl,rfl⟩
 | .ptr _ _ _ _,_=>⟨rfl,rfl⟩
 | .fn _ [],_=>⟨rfl,rfl⟩
 | .fn _ (_::_),_=>⟨rfl,rfl⟩
 | .undef,_=>⟨rfl,rfl⟩
theorem Io{o o':List aN}:∀c:List AV,kK c=[]->vD o c=vD o' c/\nK o c=nK o' c
 |[],_=>⟨rfl,rfl⟩
 |x::xs,h=>by simp only[kK,append_eq_nil_iff]at h;have h1:=aFa (o:=o) (o':=o') x h.1;have h2:=Io (o:=o) (o':=o') xs h.2;simp only[vD,nK,h1,h2,GP]
end
theorem Y0{o:List aN}:∀{c:List AV},(∀x∈vD o c,x.yC=true)->∀x∈c,x≠ .undef
 |[],_,x,hx=>by cases hx
 |y::ys,h,x,hx=>by
  rcases gS.1 hx with rfl|hx
  .rintro rfl;have:=h .undef (by simp[vD,res]);simp[AV.yC,AV.OY]at this
  .exact Y0 (o:=o) (c:=ys) (λz hz=>h z (by simp[vD,hz])) x hx
def uO(t:List AV):Option Tmp->AV->List AV
 |some d,x=>t.set d x
 |none,_=>t
theorem put_eq(t:List AV)(o:List aN)(d:Option Tmp)(x:AV):AS.put ⟨t,o⟩ d x=⟨uO t d x,o⟩:=by cases d<;>rfl
theorem zh:∀{t2 t:List AV} (i:Nat),wk t2 t->t.getD i .undef=t2.getD i .undef\/t.getD i .undef= .undef
 |[],[],_,_=> .inl rfl
 |[],_::_,_,h=>h.elim
 |_::_,[],_,h=>h.elim
 |x::xs,y::ys,0,h=>by simpa [getD]using h.1
 |x::xs,y::ys,i+1,h=>by simpa [getD]using zh i h.2
theorem NH(t:List AV)(o:List aN)(d:Option Tmp)(c:List AV):AS.box ⟨t,o⟩ d c=⟨uO t d (.ptr o.length 0 0 0),o++[⟨true,true,c.length,0,[c]⟩]⟩:=put_eq _ _ _ _
theorem Ip(t:List AV)(o:List aN)(d:Option Tmp)(r:AV):AS.called ⟨t,o⟩ d r=⟨uO t d (dF 1 o.length r).1,o++(dF 1 o.length r).2⟩:=put_eq _ _ _ _
section
variable{t t2:List AV}{o o2:List aN}
theorem Xl(hw:wk t2 t)(x:Operand):(AS.ev ⟨t,o⟩ x)=(AS.ev ⟨t2,o2⟩ x)\/(AS.ev ⟨t,o⟩ x)= .undef:=by
 cases x with
 |tmp i=>exact zh i hw
 |const v=>exact .inl rfl
 |func f=>exact .inl rfl
 |global g=>exact .inl rfl
theorem CW(hw:wk t2 t){x:Operand}{y:AV}(h:AS.ev ⟨t,o⟩ x=y)(hy:y≠ .undef):AS.ev ⟨t2,o2⟩ x=y:=by
 rcases Xl (o:=o) (o2:=o2) hw x with h'|h'
 .rw [<-h',h]
 .rw [h]at h';exact absurd h' hy
def Sub(o o2:List aN):Prop:=∀(i:Nat) (ob:aN),o[i]? =some ob->ob.live=true->o2[i]? =some ob
theorem zL(hs:Sub o o2){i bU:Nat}{ob:aN}(h:AV.isObj o i bU=some ob):AV.isObj o2 i bU=some ob:=by
 unfold AV.isObj at h⊢;split at h
 .rename_i x hx;split at h
  .rename_i hc;rw[hs _ _ hx hc.1];simp only[hc,GP,gE];exact h
  .cases h
 .cases h
theorem aFb(hs:Sub o o2){i bU idx:Nat}{p:aN×List AV}(h:AS.at ⟨t,o⟩ i bU idx=some p):AS.at ⟨t2,o2⟩ i bU idx=some p:=by
 unfold AS.at at h⊢;split at h
 .rename_i ob h1;simp only[zL hs h1];exact h
 .cases h
theorem BR(hs:Sub o o2){i bU:Nat}(h:(AV.isObj o i bU).isSome=true):(AV.isObj o2 i bU).isSome=true:=by obtain⟨ob,h⟩:=BE.1 h;rw[zL hs h];rfl
theorem Aa(hs:Sub o o2){x:AV}(h:x.fit o=true):x.fit o2=true:=by
 cases x with
 |sl g n l=>
  cases g with
  |kH i=>
   simp only[AV.fit]at h⊢;split at h
   .rename_i ob vZ;rw[hs _ _ vZ h];exact h
   .cases h
  |_=>rfl
 |eU g c off=>
  cases g with
  |kH i=>
   simp only[AV.fit]at h⊢;split at h
   .rename_i ob vZ;rw[hs _ _ vZ h];exact h
   .cases h
  |_=>rfl
 |obj i bU=>simp only[AV.fit]at h⊢;exact BR hs h
 |ptr i bU _ _=>simp only[AV.fit]at h⊢;exact BR hs h
 |undef=>cases h
 |gM _=>cases h
 |_=>rfl
theorem zi{x:AV}(h:x.fit o=true):x≠ .undef:=by rintro rfl;cases h
end
mutual
theorem aKm{o o2:List aN}(hs:Sub o o2):∀(x:AV),arg o x≠ .undef->∀(w:World) (v:Value),R w (oM w) (arg o2 x) v []->R w (oM w) (arg o x) v []
 | .obj i bU,hn,w,v,h=>by
  cases ho:AV.isObj o i bU with
  |none=>exact absurd (by simp only[arg,ho]) hn
  |some ob=>simp only[arg,ho,zL hs ho]at h⊢;exact h
 | .ptr i bU idx off,hn,w,v,h=>by
  cases ho:AV.isObj o i bU with
  |none=>exact absurd (by simp only[arg,ho]) hn
  |some ob=>simp only[arg,ho,zL hs ho]at h⊢;exact h
 | .agg c,_,w,v,h=>by simp only[arg,R]at h⊢;obtain⟨cs,h1,h2,h3⟩:=h;exact⟨cs,h1,h2,Ec hs c w cs h3⟩
 | .gM c,_,w,v,h=>by simp only[arg,R]at h⊢;obtain⟨cs,h1,h3⟩:=h;exact⟨cs,h1,Ec hs c w cs h3⟩
 | .fn f c,_,w,v,h=>by simp only[arg,R]at h⊢;obtain⟨h0,cs,h1,h3⟩:=h;exact⟨h0,cs,h1,Ec hs c w cs h3⟩
 | .int _ _,_,_,_,h=>h
 | .bool _,_,_,_,h=>h
 | .str _,_,_,_,h=>h
 | .sl .own _ _,_,_,_,h=>h
 | .sl .view _ _,_,_,_,h=>h
 | .sl (.kH i) n l,hn,w,v,h=>by
  cases ho:o[i]? with
  |none=>simp[arg,ho]at hn
  |some ob=>
   by_cases hv:ob.live=true
   .simp only[arg,ho,hs _ _ ho hv]at h⊢;exact h
   .simp [arg,ho,hv]at hn
 | .eU .own _ _,_,_,_,h=>h
 | .eU .view _ _,_,_,_,h=>h
 | .eU (.kH i) c off,hn,w,v,h=>by
  cases ho:o[i]? with
  |none=>simp[arg,ho]at hn
  |some ob=>
   by_cases hv:ob.live=true
   .simp only[arg,ho,hs _ _ ho hv]at h⊢;exact h
   .simp [arg,ho,hv]at hn
 | .undef,hn,_,_,_=>absurd rfl hn
theorem Ec{o o2:List aN}(hs:Sub o o2):∀(c:List AV) (w:World) (cs:List Value),Rc w (oM w) (CK o2 c) cs []->Rc w (oM w) (CK o c) cs []
 |[],_,_,h=>h
 |x::xs,w,[],h=>by simp[CK,Rc]at h
 |x::xs,w,c::cs,h=>by
  simp only[CK,Rc]at h⊢;obtain⟨f1,f2,h1,h2,e⟩:=h;obtain⟨rfl,rfl⟩:f1=[]/\f2=[]:=by simpa using e
  refine⟨[],[],?_,Ec hs xs w cs h2,rfl⟩;by_cases hn:arg o x= .undef
  .rw [hn];simp[R]
  .exact aKm hs x hn w c h1
end
theorem YK{o:List aN}:∀{a2 a:List AV},wk a2 a->wk (CK o a2) (CK o a)
 |[],[],_=>trivial
 |[],_::_,h=>h.elim
 |_::_,[],h=>h.elim
 |x::xs,y::ys,h=>by
  refine⟨?_,YK h.2⟩;rcases h.1 with rfl|rfl
  .exact .inl rfl
  .exact .inr rfl
theorem Y6{t t2:List AV}{o o2:List aN}(hw:wk t2 t)(l:List Operand)(cap:List AV):wk (l.map (AS.ev ⟨t2,o2⟩)++cap) (l.map (AS.ev ⟨t,o⟩)++cap):=by
 induction l with
 |nil=>
  simp only[DG,eM];induction cap with
  |nil=>trivial
  |cons x xs ih=>exact⟨.inl rfl,ih⟩
 |cons x xs ih=>exact⟨Xl hw x,ih⟩
theorem Ok.mono{P:Program}[aB P]{f:FuncId}{a a2:List AV}{r:AV}(h:Ok P f a r)(hs:∀w vs,Rc w (oM w) a2 vs []->Rc w (oM w) a vs []):Ok P f a2 r:=
 λw vs hg hr=>h w vs hg (hs w vs hr)
theorem fu:∀(q k k':Nat) (x:AV),(dF q k x).2=[]->dF q k' x=dF q k x:=by intro q k k' x h;exact(go q k k').1 x h
where
 go (q k k':Nat):(∀x:AV,(dF q k x).2=[]->dF q k' x=dF q k x)/\(∀c:List AV,(fB q k c).2=[]->fB q k' c=fB q k c):=
  ⟨λx=>one x,λc=>all c⟩
 one {q k k':Nat}:∀x:AV,(dF q k x).2=[]->dF q k' x=dF q k x
  | .sl .own n l,h=>by simp[dF]at h
  | .agg c,h=>by simp only[dF]at h⊢;rw[all c h]
  | .gM c,h=>by simp only[dF]at h⊢;rw[all c h]
  | .sl .view _ _,_=>rfl
  | .sl (.kH _) _ _,_=>rfl
  | .int _ _,_=>rfl
  | .bool _,_=>rfl
  | .str _,_=>rfl
  | .eU _ _ _,_=>rfl
  | .obj _ _,_=>rfl
  | .ptr _ _ _ _,_=>rfl
  | .fn _ _,_=>rfl
  | .undef,_=>rfl
 all {q k k':Nat}:∀c:List AV,(fB q k c).2=[]->fB q k' c=fB q k c
  |[],_=>rfl
  |x::xs,h=>by
   simp only[fB,append_eq_nil_iff]at h⊢;have h1:=one (k':=k') x h.1;rw[h1];have h2:(dF q k x).2.length=0:=by rw[h.1];rfl
   rw[h2]at h⊢;have h3:=all (k:=k+0) (k':=k'+0) xs h.2;rw[h3]
theorem EP{t2 t:List AV}{o o2:List aN}(hw:wk t2 t){d n:Nat}{x:Option Operand}(h:AS.bound ⟨t,o⟩ d x=some n):AS.bound ⟨t2,o2⟩ d x=some n:=by
 cases x with
 |none=>exact h
 |some x=>
  simp only[AS.bound]at h⊢;split at h
  .rename_i hx;rw[CW (o2:=o2) hw hx (by simp)];exact h
  .cases h
theorem fw{P:Program}[aB P]{op:Oper}{t t2:List AV}{o o2:List aN}{K:AS->Prop}(q:nW op.op ⟨t,o⟩=true)(hw:wk t2 t)(h:sM P op ⟨t,o⟩ K)(hs:Sub o o2)(AZ:o2.length=o.length\/∀s',K s'->s'.o.length=o.length):
  ∃x new x2,K ⟨uO t op.dst x,o++new⟩/\(x=x2\/x= .undef)/\(o2.length=o.length\/new=[])/\∀K2:AS->Prop,K2 ⟨uO t2 op.dst x2,o2++new⟩->sM P op ⟨t2,o2⟩ K2:=by
 have same:∀{x:AV},K (AS.put ⟨t,o⟩ op.dst x)->(∀K2:AS->Prop,K2 (AS.put ⟨t2,o2⟩ op.dst x)->sM P op ⟨t2,o2⟩ K2)->
   ∃x new x2,K ⟨uO t op.dst x,o++new⟩/\(x=x2\/x= .undef)/\(o2.length=o.length\/new=[])/\∀K2:AS->Prop,K2 ⟨uO t2 op.dst x2,o2++new⟩->sM P op ⟨t2,o2⟩ K2:=by
  intro x h1 h2;refine⟨x,[],x,by rw[fX,<-put_eq];exact h1,.inl rfl,.inr rfl,λK2 hK=>h2 K2 ?_⟩;rw[put_eq];rw[fX]at hK;exact hK
 obtain⟨dst,op,ty,pos,after,gd⟩:=op;have E:∀{x:Operand} {y:AV},AS.ev ⟨t,o⟩ x=y->y≠ .undef->AS.ev ⟨t2,o2⟩ x=y:=λh hy=>CW hw h hy
 unfold sM at h;dsimp only at h q same⊢;split at h;case h_1=>
  rename_i X;refine⟨_,[],AS.ev ⟨t2,o2⟩ X,by rw[put_eq]at h;rw[fX];exact h,Xl hw X,.inr rfl,λK2 hK=> ?_⟩;unfold sM;dsimp only;rw[put_eq];rw[fX]at hK;exact hK
 case h_2=>
  rename_i X;refine⟨_,[],AS.ev ⟨t2,o2⟩ X,by rw[put_eq]at h;rw[fX];exact h,Xl hw X,.inr rfl,λK2 hK=> ?_⟩;unfold sM;dsimp only;rw[put_eq];rw[fX]at hK;exact hK
 case h_3=>
  split at h
  .rename_i b hc;rename_i X Y _;refine⟨if b then AS.ev ⟨t,o⟩ X else AS.ev ⟨t,o⟩ Y,[],if b then AS.ev ⟨t2,o2⟩ X else AS.ev ⟨t2,o2⟩ Y,by rw[put_eq]at h;rw[fX];exact h,?_,.inr rfl,λK2 hK=> ?_⟩
   .cases b
    .exact Xl hw Y
    .exact Xl hw X
   .unfold sM;dsimp only;rw[E hc (by simp)];dsimp only;rw[put_eq];rw[fX]at hK;exact hK
  .exact h.elim
 case h_4=>
  split at h
  .rename_i z hz;rcases AZ with hlen|AZ
   .refine ⟨.ptr o.length 0 0 0,[⟨true,true,z.length,0,[z]⟩],.ptr o.length 0 0 0,by rw[NH]at h;exact h,.inl rfl,.inl hlen,λK2 hK=> ?_⟩
    unfold sM;dsimp only;rw[hz];dsimp only;rw[NH,hlen];exact hK
   .have:=AZ _ h;rw[NH]at this;simp at this
  .exact h.elim
 case h_5=>
  rename_i X;obtain⟨h1,h2⟩:=h;have hX:=E (x:=X) rfl (zi h1);rcases AZ with hlen|AZ
  .refine ⟨.ptr o.length 0 0 0,[⟨true,true,(AS.ev ⟨t,o⟩ X).cells.length,0,[(AS.ev ⟨t,o⟩ X).cells]⟩],.ptr o.length 0 0 0,by rw[NH]at h2;exact h2,.inl rfl,.inl hlen,λK2 hK=> ?_⟩
   unfold sM;dsimp only;rw[hX];refine⟨Aa hs h1,?_⟩;rw[NH,hlen];exact hK
  .have:=AZ _ h2;rw[NH]at this;simp at this
 case h_6=>
  rename_i T parts;split at h
  .rename_i pl hp;split at h
   .rename_i z0 hz;obtain⟨h1,h⟩:=h;split at h
    .rename_i z hf;have AY:(parts.toList.map λp=>(p.1,AS.ev ⟨t2,o2⟩ p.2))=parts.toList.map λp=>(p.1,AS.ev ⟨t,o⟩ p.2):=
      map_congr_left λp hp=>by rw[E (x:=p.2) rfl (zi (h1 p hp))]
     refine same h λK2 hK=> ?_
     unfold sM;dsimp only;rw[hp];dsimp only;rw[hz];dsimp only;refine⟨λp hp=>by rw[E (x:=p.2) rfl (zi (h1 p hp))];exact Aa hs (h1 p hp),?_⟩;rw[AY,hf];exact hK
    .exact h.elim
   .exact h.elim
  .exact h.elim
 case h_7=>
  rename_i T len parts;split at h
  .rename_i e n by' he;obtain⟨k1,k2,k3,k4,k5,k6,k7,k8,h⟩:=h;have hu:kK ((parts.toList.map (·.2)).map (AS.ev ⟨t,o⟩))=[]:=by simpa [nW]using q
   have hL:(parts.toList.map (·.2)).map (AS.ev ⟨t2,o2⟩)=(parts.toList.map (·.2)).map (AS.ev ⟨t,o⟩):=
    map_congr_left λx hx=>E rfl (Y0 (λy hy=>(k8 y hy).1) _ (AG.2 ⟨x,hx,rfl⟩))
   have aFc:∀os:List aN,Gm [] os=os:=λ_=>rfl
   rcases AZ with hlen|AZ
   .refine ⟨.obj o.length 1,[⟨true,false,n,1,(vD o ((parts.toList.map (·.2)).map (AS.ev ⟨t,o⟩))).map AV.cells⟩],.obj o.length 1,?_,.inl rfl,.inl hlen,λK2 hK=> ?_⟩
    .unfold AS.built at h;rw[hu,aFc,put_eq]at h;simpa using h
    .unfold sM;dsimp only;rw[he];dsimp only;refine⟨k1,k2,k3,k4,k5,?_⟩;rw[hL];have aFd:=Io (o:=o) (o':=o2) _ hu;refine⟨by rw[<-aFd.2];exact k6,k7,by rw[<-aFd.1];exact k8,?_⟩;unfold AS.built;dsimp only;rw[hL,hu,aFc,put_eq,hlen,<-aFd.1];simpa [hlen]using hK
   .have:=AZ _ h;unfold AS.built at this;rw[hu,aFc,put_eq]at this;simp at this
  .exact h.elim
 case h_8=>
  rename_i T X;split at h
  .rename_i hx;split at h
   .rename_i ob e ha;unfold Bh at h;split at h
    .rename_i n hn;refine same h.2 λK2 hK=> ?_
     unfold sM;dsimp only;rw[E hx (by simp)];dsimp only;rw[aFb hs ha];dsimp only;unfold Bh;rw[hn];exact⟨h.1,hK⟩
    .rename_i hn;obtain⟨h1,h⟩:=h;split at h
     .rename_i y hy;refine same h λK2 hK=> ?_
      unfold sM;dsimp only;rw[E hx (by simp)];dsimp only;rw[aFb hs ha];dsimp only;unfold Bh;rw[hn];dsimp only;rw[hy];exact⟨h1,hK⟩
     .exact h.elim
   .exact h.elim
  .rename_i hx;obtain⟨hf,h⟩:=h;unfold Bh at h;split at h
   .rename_i n hn;refine same h.2 λK2 hK=> ?_
    unfold sM;dsimp only;rw[E hx (by simp)];dsimp only;unfold Bh;rw[hn];exact⟨Aa hs hf,h.1,hK⟩
   .rename_i hn;obtain⟨h1,h⟩:=h;split at h
    .rename_i y hy;refine same h λK2 hK=> ?_
     unfold sM;dsimp only;rw[E hx (by simp)];dsimp only;unfold Bh;rw[hn];dsimp only;rw[hy];exact⟨Aa hs hf,h1,hK⟩
    .exact h.elim
  .exact h.elim
 case h_9=>cases q
 case h_10=>
  split at h
  .rename_i fo hf;split at h
   .rename_i hx;refine same h.2 λK2 hK=> ?_
    unfold sM;dsimp only;rw[hf];dsimp only;rw[E hx (by simp)];exact⟨BR hs h.1,hK⟩
   .rename_i hx;refine same h.2 λK2 hK=> ?_
    unfold sM;dsimp only;rw[hf];dsimp only;rw[E hx (by simp)];exact⟨Aa hs h.1,hK⟩
   .exact h.elim
  .exact h.elim
 case h_11=>
  split at h
  .rename_i hi;obtain⟨h0,h⟩:=h;split at h
   .rename_i hx;split at h
    .rename_i ob ho;split at h
     .rename_i he;refine same h.2.2.2 λK2 hK=> ?_
      unfold sM;dsimp only;rw[E hi (by simp)];dsimp only;rw[E hx (by simp)];dsimp only;rw[zL hs ho];dsimp only;rw[he];exact⟨h0,h.1,h.2.1,h.2.2.1,hK⟩
     .exact h.elim
    .exact h.elim
   .rename_i hx;obtain⟨hf,h⟩:=h;split at h
    .rename_i he;obtain⟨hm,h⟩:=h;split at h
     .rename_i hc;refine same h λK2 hK=> ?_
      unfold sM;dsimp only;rw[E hi (by simp)];dsimp only;rw[E hx (by simp)];dsimp only;rw[he];dsimp only;rw[hc];exact⟨h0,Aa hs hf,hm,hK⟩
     .exact h.elim
    .exact h.elim
   .rename_i hx;obtain⟨hso,h⟩:=h;split at h
    .rename_i ha;refine same h.2 λK2 hK=> ?_
     unfold sM;dsimp only;rw[E hi (by simp)];dsimp only;rw[E hx (by simp)];dsimp only;rw[ha];exact⟨h0,BR hs hso,h.1,hK⟩
    .exact h.elim
   .exact h.elim
  .exact h.elim
 case h_12=>
  split at h
  .rename_i hx;split at h
   .rename_i hi;obtain⟨ht,h0,h⟩:=h;split at h
    .rename_i hu;refine same h λK2 hK=> ?_
     unfold sM;dsimp only;rw[E hx (by simp)];dsimp only;rw[E hi (by simp)];dsimp only;rw[hu];exact⟨ht,h0,hK⟩
    .exact h.elim
   .exact h.elim
  .exact h.elim
 case h_13=>
  split at h
  .rename_i hx;split at h
   .rename_i hy;refine same h λK2 hK=> ?_
    unfold sM;dsimp only;rw[E hx (by simp)];dsimp only;rw[hy];exact hK
   .exact h.elim
  .exact h.elim
 case h_14=>cases q
 case h_15=>cases q
 case h_16=>
  split at h
  .rename_i hx;split at h
   .rename_i ha;split at h
    .rename_i hb;obtain⟨h1,h2,h3,h⟩:=h;refine same h λK2 hK=> ?_
     unfold sM;dsimp only;rw[E hx (by simp)];dsimp only;rw[EP hw ha];dsimp only;rw[EP hw hb];exact⟨h1,h2,h3,hK⟩
    .exact h.elim
   .exact h.elim
  .rename_i hx;split at h
   .rename_i ha;split at h
    .rename_i hb;split at h
     .rename_i he;obtain⟨h1,h2,h3,h4,h⟩:=h;refine same h λK2 hK=> ?_
      unfold sM;dsimp only;rw[E hx (by simp)];dsimp only;rw[EP hw ha];dsimp only;rw[EP hw hb];dsimp only;rw[he];exact⟨h1,Aa hs h2,h3,h4,hK⟩
     .exact h.elim
    .exact h.elim
   .exact h.elim
  .rename_i hx;simp only[nW,hx]at q;cases q
  .exact h.elim
 case h_17=>
  split at h
  .rename_i hx;refine same h λK2 hK=> ?_
   unfold sM;dsimp only;rw[E hx (by simp)];exact hK
  .exact h.elim
 case h_18=>
  split at h
  .rename_i hx;refine same h λK2 hK=> ?_
   unfold sM;dsimp only;rw[E hx (by simp)];exact hK
  .exact h.elim
 case h_19=>
  split at h
  .rename_i hx;split at h
   .rename_i hy;obtain⟨hk,h⟩:=h;split at h
    .rename_i hz;refine same h λK2 hK=> ?_
     unfold sM;dsimp only;rw[E hx (by simp)];dsimp only;rw[E hy (by simp)];dsimp only;rw[hz];exact⟨hk,hK⟩
    .exact h.elim
   .exact h.elim
  .rename_i hx;split at h
   .rename_i hy;obtain⟨hk,h⟩:=h;split at h
    .rename_i hz;refine same h λK2 hK=> ?_
     unfold sM;dsimp only;rw[E hx (by simp)];dsimp only;rw[E hy (by simp)];dsimp only;rw[hz];exact⟨hk,hK⟩
    .exact h.elim
   .exact h.elim
  .rename_i hx;split at h
   .rename_i hy;refine same h.2.2 λK2 hK=> ?_
    unfold sM;dsimp only;rw[E hx (by simp)];dsimp only;rw[E hy (by simp)];exact⟨h.1,h.2.1,hK⟩
   .exact h.elim
  .rename_i hx;split at h
   .rename_i hy;obtain⟨h1,h2,h3,b,h4,h5⟩:=h;refine same h5 λK2 hK=> ?_
    unfold sM;dsimp only;rw[E hx (by simp)];dsimp only;rw[E hy (by simp)];exact⟨h1,h2,h3,b,h4,hK⟩
   .exact h.elim
  .exact h.elim
 case h_20=>
  split at h
  .rename_i hx;split at h
   .rename_i hk;refine same h.2 λK2 hK=> ?_
    unfold sM;dsimp only;rw[E hx (by simp)];dsimp only;rw[hk];exact⟨h.1,hK⟩
   .exact h.elim
  .rename_i hx;refine same h.2.2 λK2 hK=> ?_
   unfold sM;dsimp only;rw[E hx (by simp)];exact⟨h.1,h.2.1,hK⟩
  .rename_i hx;split at h
   .rename_i he;obtain⟨h1,h2,h3,h4,h5,bs,h6,h7⟩:=h;refine same h7 λK2 hK=> ?_
    unfold sM;dsimp only;rw[E hx (by simp)];dsimp only;rw[he];exact⟨h1,h2,Aa hs h3,h4,h5,bs,h6,hK⟩
   .exact h.elim
  .rename_i hx;split at h
   .rename_i ho;split at h
    .rename_i he;obtain⟨h1,h2,h3,h4,bs,h6,h7⟩:=h;refine same h7 λK2 hK=> ?_
     unfold sM;dsimp only;rw[E hx (by simp)];dsimp only;rw[zL hs ho];dsimp only;rw[he];exact⟨h1,h2,h3,h4,bs,h6,hK⟩
    .exact h.elim
   .exact h.elim
  .exact h.elim
 case h_21=>
  split at h
  .rename_i hx;refine same h.2 λK2 hK=> ?_
   unfold sM;dsimp only;rw[E hx (by simp)];exact⟨h.1,hK⟩
  .rename_i hx;refine same h.2.2 λK2 hK=> ?_
   unfold sM;dsimp only;rw[E hx (by simp)];exact⟨Aa hs h.1,h.2.1,hK⟩
  .rename_i hx;split at h
   .rename_i ho;refine same h.2 λK2 hK=> ?_
    unfold sM;dsimp only;rw[E hx (by simp)];dsimp only;rw[zL hs ho];exact⟨h.1,hK⟩
   .exact h.elim
  .exact h.elim
 case h_22=>
  rename_i X Y tS xT;simp only[nW,eI]at q;obtain⟨qx,qy⟩:=q;split at h
  .rename_i e n by' he;obtain⟨k1,k2,h⟩:=h;split at qx
   .rename_i m hx;have hx2:=E hx (by simp);rw[hx]at h;simp only[AS.target]at h;have aOn:∀(y:AV),AS.ev ⟨t,o⟩ Y=y->y≠ .undef->(match y with| .sl .own _ []=>true| .sl .view _ _=>true| .str _=>true|_=>false)=true->∀l2 o',AS.source ⟨t,o++[⟨true,false,n,0,[]⟩]⟩ o.length n y=some (l2,o')->
      o'=o++[⟨true,false,n,0,[]⟩]/\AS.source ⟨t2,o2++[⟨true,false,n,0,[]⟩]⟩ o2.length n (AS.ev ⟨t2,o2⟩ Y)=some (l2,o2++[⟨true,false,n,0,[]⟩]):=by
     intro y hy hne hk l2 o' gm;rw[E hy hne];split at hk
     .simp only[AS.source,eE,oX]at gm⊢;exact⟨gm.2.symm,gm.1,trivial⟩
     .simp only[AS.source]at gm⊢;split at gm
      .rename_i hm;simp only[eE,oX]at gm;rw[eK hm];exact⟨gm.2.symm,by rw[gm.1]⟩
      .cases gm
     .simp only[AS.source]at gm⊢;split at gm
      .rename_i hm;simp only[eE,oX]at gm;rw[eK hm];exact⟨gm.2.symm,by rw[gm.1]⟩
      .cases gm
     .cases hk
    split at h
    .rename_i l2 o' gm;obtain⟨h1,h2,h⟩:=h;obtain⟨rfl,hs2⟩:=aOn _ rfl (by rintro hu;rw[hu]at qy;simp at qy) qy _ _ gm;have e1:(o++[(⟨true,false,n,0,[]⟩:aN)]).set o.length ⟨true,false,n,0+1,[]++l2⟩=o++[⟨true,false,n,0+1,[]++l2⟩]:=by rw[tI _ _ (eC _)];simp
     have e2:(o2++[(⟨true,false,n,0,[]⟩:aN)]).set o2.length ⟨true,false,n,0+1,[]++l2⟩=o2++[⟨true,false,n,0+1,[]++l2⟩]:=by rw[tI _ _ (eC _)];simp
     unfold AS.yF at h;dsimp only at h;rw[e1,put_eq]at h;rcases AZ with hlen|AZ
     .refine ⟨.obj o.length (0+1),[⟨true,false,n,0+1,[]++l2⟩],.obj o.length (0+1),h,.inl rfl,.inl hlen,λK2 hK=> ?_⟩
      unfold sM;dsimp only;rw[he];dsimp only;refine⟨k1,k2,?_⟩;rw[hx2];simp only[AS.target];rw[hs2];dsimp only;refine⟨h1,h2,?_⟩;unfold AS.yF;dsimp only;rw[e2,put_eq,hlen];exact hK
     .have:=AZ _ h;simp at this
    .exact h.elim
   .cases qx
  .exact h.elim
 case h_23=>
  rename_i F args xx;split at h
  .rename_i g cap hf;split at h
   .rename_i h1;obtain⟨r,h2,h3⟩:=h;have nU:Ok P g (CK o2 (AS.args ⟨t2,o2⟩ args++cap)) r:=h2.mono λw vs hr=>
     Gt (YK (Y6 (o:=o) (o2:=o2) hw args.toList cap)) (Ec hs _ w vs hr)
    rcases AZ with hlen|AZ
    .refine ⟨(dF 1 o.length r).1,(dF 1 o.length r).2,(dF 1 o.length r).1,by rw[Ip]at h3;exact h3,.inl rfl,.inl hlen,λK2 hK=> ?_⟩
     unfold sM;dsimp only;rw[E hf (by simp)];dsimp only;rw[eK h1];refine⟨r,nU,?_⟩;rw[Ip,hlen];exact hK
    .have hn:=AZ _ h3;simp only[Ip,eR]at hn;have hn':(dF 1 o.length r).2=[]:=hS (by omega);have ha:=fu 1 o.length o2.length r hn';refine⟨(dF 1 o.length r).1,[],(dF 1 o.length r).1,?_,.inl rfl,.inr rfl,λK2 hK=> ?_⟩
     .rw [Ip,hn']at h3;exact h3
     .unfold sM;dsimp only;rw[E hf (by simp)];dsimp only;rw[eK h1];refine⟨r,nU,?_⟩;unfold AS.called;rw[ha,hn',put_eq];simpa using hK
   .rename_i h1;obtain⟨r,h2,h3⟩:=h;refine same h3 λK2 hK=> ?_
    unfold sM;dsimp only;rw[E hf (by simp)];dsimp only;rw[cY h1];exact⟨r,λw vs hr=>h2 w vs (Gt (YK (Y6 (o:=o) (o2:=o2) hw args.toList cap)) (Ec hs _ w vs hr)),hK⟩
  .exact h.elim
 case h_24=>
  split at h
  .rename_i hx;refine same h.2 λK2 hK=> ?_
   unfold sM;dsimp only;rw[E hx (by simp)];exact⟨BR hs h.1,hK⟩
  .rename_i hx;refine same h.2 λK2 hK=> ?_
   unfold sM;dsimp only;rw[E hx (by simp)];exact⟨Aa hs h.1,hK⟩
  .exact h.elim
 case h_25=>exact h.elim
end Go.Aw
