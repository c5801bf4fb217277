/- Steps. No condition. -/
import Derived.Test.YtanobkmhbpjnpaaGreatDoorZF9
set_option linter.all false
namespace Go.Aw
open List
def mZ(s s':AS):Prop:=∀⦃P:Program⦄ [aG P] (B:gL P) a w,Rel B s a w->Rel B s' a w
def zA(K:AS->Prop)(Q:Exit->AS->Prop):Exit->AS->Prop
 | .normal,s=>K s
 |e,s=>Q e s
def D9(id:Nat)(Q:Exit->AS->Prop):Exit->AS->Prop
 | .exit id',s=>if id'=id then Q .normal s else Q (.exit id') s
 |e,s=>Q e s
def lift{P:Program}[aG P](B:gL P)(Q:Exit->AS->Prop):Exit->Act->World->Prop:=λe a w=>∃s,Q e s/\Rel B s a w
def ay(want:Bool):AV->AV
 | .iL []=> .bool (!want)
 |x=>x
@[simp] def aPw(w b:Bool):ay w (.bool b)= .bool b:=rfl
@[simp] def aSf(w:Bool):ay w (.iL [])= .bool (!w):=rfl
def aFx{w b:Bool}{x:AV}(h:ay w x= .bool b):(x= .iL []/\b= !w)\/x= .bool b:=by
 unfold ay at h;split at h
 .exact .inl ⟨rfl,(AV.bool.inj h).symm⟩
 .exact .inr h
def E5(w:World)(E:Env):R w E (.iL []) undef []:=by simp only[R];exact⟨[],rfl,by simp[Rc]⟩
def qN(all:List Oper)(s:AS)(j:Nat)(want:Bool):AV:=match all[j]? with
 |some o=>match o.dst with
  |some d=>ay want (s.t.getD d .aB)
  |none=> .aB
 |none=> .aB
def PH(P:Program)[aG P](o:Oper)(s:AS)(K:AS->Prop):Prop:=
 match o.op with
 | .call ⟨.value f,⟨x::ys⟩,_⟩=>match s.ev f with
  | .fn g []=>bV P g=true/\(ys.all λy=>(s.ev y).SE)=true/\kV s.o (s.ev x)=true/\(mG (s.ev x)).Nodup/\∃x' r,OkM P g (res s.o (s.ev x)) x' (ys.map s.ev) r/\(r.lC=true\/r= .iL [])/\mt s.o (s.ev x) x'=true/\K (s.Yt o.dst (s.ev x) x' r)
  |_=>False
 | .convert src d x=>match s.ev x with
  | .str l=>match oO P d with
   |some (e,m,_)=>isString P src=true/\m=1/\intType P e=some .u8/\l.length<=9223372036854775807/\K (s.made o.dst 1 (bL l))
   |none=>False
  |_=>False
 |_=>False
def az{P:Program}[aG P]{B:gL P}{o:Oper}{s:AS}{K:AS->Prop}(h:PH P o s K):∃s',K s'/\Step P B o s s':=by
 obtain⟨dst,op,ty,pos,after,gd⟩:=o;unfold PH at h;dsimp only at h;split at h
 .split at h
  .rename_i hf;obtain⟨h1,h2,h3,h4,x',r,h5,h6,h7,h8⟩:=h;exact⟨_,h8,aFk _ _ _ _ hf h1 h2 h6 h3 h4 h7 h5⟩
  .exact h.elim
 .split at h
  .rename_i hx;split at h
   .rename_i he;obtain⟨h1,rfl,h2,h3,h4⟩:=h;exact⟨_,h4,D6 _ _ _ hx h1 he h2 h3⟩
   .exact h.elim
  .exact h.elim
 .exact h.elim
def bf(P:Program)[aG P](o:Oper)(s:AS)(K:AS->Prop):Prop:=
 match o.op with
 | .call ⟨.value f,args,_⟩=>match s.ev f with
  | .fn g []=>bV P g=true/\∃gs r,Ob P g gs r/\(takes s.o (s.args args) gs).Nodup/\handed s.o (takes s.o (s.args args) gs) (s.args args) gs/\K (s.given o.dst (s.args args) gs r)
  |_=>False
 |_=>False
def E8{P:Program}[aG P]{B:gL P}{o:Oper}{s:AS}{K:AS->Prop}(h:bf P o s K):∃s',K s'/\Step P B o s s':=by
 obtain⟨dst,op,ty,pos,after,gd⟩:=o;unfold bf at h;dsimp only at h;split at h
 .split at h
  .rename_i hf;obtain⟨h1,gs,r,h2,h3,h4,h5⟩:=h;exact⟨_,h5,aB8 _ _ _ hf h1 h3 h4 h2⟩
  .exact h.elim
 .exact h.elim
def mZ.refl(s:AS):mZ s s:=λ_ _ _ _ _ h=>h
def mZ.trans{a b c:AS}(h:mZ a b)(k:mZ b c):mZ a c:=λ_ _ B x w r=>k B x w (h B x w r)
def Jt(P:Program)[aG P](o:Oper)(s:AS)(K:AS->Prop):Prop:=∃s1,mZ s s1/\(uA P o s1 K\/PH P o s1 K\/bf P o s1 K)
def SS{P:Program}[aG P]{B:gL P}{o:Oper}{s:AS}{K:AS->Prop}(h:Jt P o s K):∃s',K s'/\Step P B o s s':=by
 obtain⟨s1,hw,h⟩:=h;obtain⟨s',hK,hst⟩:∃s',K s'/\Step P B o s1 s':=by
  rcases h with h|h|h
  .exact Cq h
  .exact az h
  .exact E8 h
 exact⟨s',hK,λa w next Q hr hn=>hst a w next Q (hw B a w hr) hn⟩
def aPx{P:Program}[aG P]{o:Oper}{s:AS}{K:AS->Prop}(h:PH P o s K):Jt P o s K:=⟨s,mZ.refl s,.inr (.inl h)⟩
def aPy{P:Program}[aG P]{o:Oper}{s:AS}{K:AS->Prop}(h:bf P o s K):Jt P o s K:=⟨s,mZ.refl s,.inr (.inr h)⟩
def aPz{P:Program}[aG P]{o:Oper}{s:AS}{K:AS->Prop}(h:aPt P o s K):Jt P o s K:=by
 unfold aPt at h;split at h
 .split at h
  .split at h
   .rename_i ob wF;exact⟨_,λ_ _ B a w hr=>Yv wF h.1 hr,.inl h.2⟩
   .exact h.elim
  .exact h.elim
 .exact h.elim
def aFy{P:Program}[aG P]{o:Oper}{s s1:AS}{K:AS->Prop}(hw:mZ s s1)(h:uA P o s1 K\/Jt P o s1 K):Jt P o s K:=by
 rcases h with h|⟨s2,hw2,h⟩
 .exact ⟨s1,hw,.inl h⟩
 .exact ⟨s2,hw.trans hw2,h⟩
def JG(P:Program)[aG P](o:Oper)(s:AS)(K:AS->Prop):Prop:=∃s1,mZ s s1/\VK P o s1 K
def PI{P:Program}[aG P]{B:gL P}{o:Oper}{s:AS}{K:AS->Prop}(h:JG P o s K)(a:Act)(w:World)(next:Act->World->Prop)(X:Exit->Act->World->Prop)(hr:Rel B s a w)
  (hn:∀a' w' s',K s'->Rel B s' a' w'->next a' w'):o.wp P a w next X:=by
 obtain⟨s1,hw,h⟩:=h;exact D8 h a w next X (hw B a w hr) hn
def mH(P:Program)[aG P](all:List Oper):List Oper->AS->(AS->Prop)->Prop
 |[],s,K=>K s
 |o::r,s,K=>match o.guard with
  |none=>(uA P o s λs'=>mH P all r s' K)\/(Jt P o s λs'=>mH P all r s' K)\/(JG P o s λs'=>mH P all r s' K)
  |some (j,want)=>match qN all s j want with
   | .bool b=>(b=want->(uA P o s λs'=>mH P all r s' K)\/(Jt P o s λs'=>mH P all r s' K)\/(JG P o s λs'=>mH P all r s' K))/\(b≠want->mH P all r (s.put o.dst (.iL [])) K)
   |_=>False
def SV(P:Program)[aG P](ops:Array Oper)(s:AS)(K:AS->Prop):Prop:=
 ∀(B:gL P) a w (Q:Exit->Act->World->Prop),Rel B s a w->(∀a' w' s',K s'->Rel B s' a' w'->Q .normal a' w')->
  wpAny P .any ops Q ops.size (Array.replicate ops.size false) a {w with drawn:=w.drawn+1}
def qA(P:Program)[aG P]:Code->AS->(Exit->AS->Prop)->Prop
 | .skip,s,Q=>Q .normal s
 | .region _ ops false,s,Q=>∃s2,mZ s s2/\mH P ops.toList ops.toList s2 (Q .normal)
 | .region _ ops true,s,Q=>SV P ops s (Q .normal)
 | .seq x y,s,Q=>qA P x s (zA (λs'=>qA P y s' Q) Q)
 | .cond c x y,s,Q=>match s.ev c with
  | .bool b=>(b=true->qA P x s Q)/\(b=false->qA P y s Q)
  |_=>False
 | .block id c,s,Q=>qA P c s (D9 id Q)
 | .loop c,s,Q=>∃(ι:Type) (inv:ι->AS) (μ:ι->Nat) (i:ι),mZ s (inv i)/\∀i,qA P c (inv i) (zA (λs'=>∃j,mZ s' (inv j)/\μ j<μ i) Q)
 | .exit id,s,Q=>Q (.exit id) s
 | .ret,s,Q=>Q .ret s
 |_,_,_=>False
def SX{P:Program}[aG P]{B:gL P}{s:AS}{G:List CO}{a:Act}{w:World}(r:fZ B s G a w){all:List Oper}{j:Nat}{b want:Bool}(h:qN all s j want= .bool b):(yielded all.toArray a.tmps j == some want)=(b == want):=by
 unfold qN at h;split at h
 .rename_i o ho;split at h
  .rename_i d hd;have h1:=r.ev (.tmp d);simp only[AS.ev]at h1;rcases aFx h with⟨h0,rfl⟩|h0
   .rw [h0]at h1;simp only[R]at h1;obtain⟨cs,h2,h3⟩:=h1;cases cs with
    |cons=>simp[Rc]at h3
    |nil=>
     simp only[Act.eval]at h2;rw[gC]at h2;cases hg:a.tmps[d]? with
     |none=>simp[yielded,ho,hd,hg]
     |some v=>simp[hg]at h2;subst h2;simp[yielded,ho,hd,hg]
   .rw [h0]at h1;simp only[R]at h1;have h2:=h1.1;simp only[Act.eval]at h2;rw[gC]at h2;cases hg:a.tmps[d]? with
    |none=>simp[hg]at h2;cases h2
    |some v=>simp[hg]at h2;subst h2;simp[yielded,ho,hd,hg]
  .cases h
 .cases h
def FD{P:Program}[aG P]{B:gL P}{all:List Oper}{Q:Exit->Act->World->Prop}:∀(l:List Oper) (s:AS) (K:AS->Prop),mH P all l s K->∀a w,Rel B s a w->(∀a' w' s',K s'->Rel B s' a' w'->Q .normal a' w')->wpList P all.toArray Q l a w
 |[],s,K,h,a,w,r,hk=>hk _ _ _ h r
 |o::l,s,K,h,a,w,r,hk=>by
  simp only[mH]at h;have stepped:((uA P o s λs'=>mH P all l s' K)\/(Jt P o s λs'=>mH P all l s' K)\/(JG P o s λs'=>mH P all l s' K))->Region.wanted o (yielded all.toArray a.tmps)=true->wpList P all.toArray Q (o::l) a w:=by
   intro h hw;simp only[wpList,hw,eS];by_cases hcu:JG P o s λs'=>mH P all l s' K
   .exact .inl (PI hcu a w _ Q r λa' w' s' h' r'=>FD l s' K h' a' w' r' hk)
   obtain⟨s',h',hst⟩:∃s',mH P all l s' K/\Step P B o s s':=by
    rcases h with h|h|h
    .exact Cq (B:=B) h
    .exact SS (B:=B) h
    .exact (hcu h).elim
   exact .inl (hst a w _ Q r λa' w' r'=>FD l s' K h' a' w' r' hk)
  split at h
  .rename_i hg;exact stepped h (by simp[Region.wanted,hg])
  .rename_i j want hg;split at h
   .rename_i b hb;obtain⟨G,r'⟩:=r;have hy:=SX r' hb;by_cases hbw:b=want
    .exact stepped (h.1 hbw) (by simp[Region.wanted,hg,hy,hbw])
    .have hw:Region.wanted o (yielded all.toArray a.tmps)=false:=by simp[Region.wanted,hg,hy,hbw]
     simp only[wpList,hw,cY,eW];exact FD l _ K (h.2 hbw) _ _ ⟨G,r'.put o.dst (E5 _ _)⟩ hk
   .exact h.elim
def Yw{ι:Type}(p:ι->Prop)(μ:ι->Nat)(h:∃i,p i):∃i,p i/\∀j,p j->μ i<=μ j:=by
 obtain⟨i,hi⟩:=h;generalize hn:μ i=n;induction n using Nat.strongRecOn generalizing i with
 |_ n ih=>
  by_cases hex:∃j,p j/\μ j<n
  .obtain ⟨j,hj,hlt⟩:=hex;exact ih (μ j) hlt j hj rfl
  .refine ⟨i,hi,λj hj=> ?_⟩
   rw[hn];exact Nat.le_of_not_lt λhlt=>hex ⟨j,hj,hlt⟩
open Classical in
noncomputable def least{ι:Type}(p:ι -> Prop)(μ:ι -> Nat): Nat := if h:∃ i, p i then μ (Yw p μ h).choose else 0
def least_le{ι:Type}{p:ι->Prop}{μ:ι->Nat}{j:ι}(h:p j):least p μ<=μ j:=by have hex:∃i,p i:=⟨j,h⟩;unfold least;rw[dif_pos hex];exact(Yw p μ hex).choose_spec.2 j h
def aFz{ι:Type}{p:ι->Prop}{μ:ι->Nat}(h:∃i,p i):∃i,p i/\least p μ=μ i:=by refine⟨(Yw p μ h).choose,(Yw p μ h).choose_spec.1,?_⟩;unfold least;rw[dif_pos h]
def rG{P:Program}[aG P](hm:P.follows .mixedOrders=true){B:gL P}:∀(c:Code) (s:AS) (Q:Exit->AS->Prop),qA P c s Q->∀a w,Rel B s a w->c.wp P (lift B Q) a w
 | .skip,s,Q,h,a,w,r=>wp_skip ⟨s,h,r⟩
 | .region id ops false,s,Q,⟨s2,hw,h⟩,a,w,r=>wp_region_list (by
   have:=FD (Q:=lift B Q) ops.toList s2 (Q .normal) h a w (hw B a w r) (λa' w' s' h' r'=>⟨s',h',r'⟩);simpa using this)
 | .region id ops true,s,Q,h,a,w,r=>wp_region_any hm (h B a w (lift B Q) r λa' w' s' h' r'=>⟨s',h',r'⟩)
 | .seq x y,s,Q,h,a,w,r=>wp_seq (Hj (rG hm x s _ h a w r) λe a' w' he=>by
   obtain⟨s',h',r'⟩:=he;cases e with
   |normal=>exact rG hm y s' Q h' a' w' r'
   |_=>exact⟨s',h',r'⟩)
 | .cond c x y,s,Q,h,a,w,r=>by
  simp only[qA]at h;split at h
  .rename_i b hb;obtain⟨G,r'⟩:=r;exact wp_cond_split (r'.ZT hb) (λhb=>rG hm x s Q (h.1 hb) a w ⟨G,r'⟩) (λhb=>rG hm y s Q (h.2 hb) a w ⟨G,r'⟩)
  .exact h.elim
 | .block id c,s,Q,h,a,w,r=>wp_block (Hj (rG hm c s _ h a w r) λe a' w' he=>by
   obtain⟨s',h',r'⟩:=he;cases e with
   |exit id'=>
    simp only[D9]at h';simp only[Exit.inBlock];split at h'
    .rename_i hid;rw[eM hid];exact⟨s',h',r'⟩
    .rename_i hid;rw[eC hid];exact⟨s',h',r'⟩
   |_=>exact⟨s',h',r'⟩)
 | .loop c,s,Q,h,a,w,r=>by
  obtain⟨ι,inv,μ,i,h0,hr⟩:=h;refine wp_loop (λa w=>∃i,Rel B (inv i) a w) (λa w=>least (λi=>Rel B (inv i) a w) μ) ⟨i,h0 B a w r⟩ λa w hex=> ?_
  obtain⟨i,hi,aX1⟩:=aFz (μ:=μ) hex;refine Hj (rG hm c (inv i) _ (hr i) a w hi) λe a' w' he=> ?_
  obtain⟨s',h',r'⟩:=he;cases e with
  |normal=>obtain⟨j,hw,hlt⟩:=h';have hj:=hw B a' w' r';refine⟨⟨j,hj⟩,?_⟩;rw[aX1];exact Nat.lt_of_le_of_lt (least_le hj) hlt
  |_=>exact⟨s',h',r'⟩
 | .exit id,s,Q,h,a,w,r=>wp_exit ⟨s,h,r⟩
 | .ret,s,Q,h,a,w,r=>wp_ret ⟨s,h,r⟩
 | .rangeFunc _ _ _ _,_,_,h,_,_,_=>by simp[qA]at h
 | .scope _,_,_,h,_,_,_=>by simp[qA]at h
 | .label _,_,_,h,_,_,_=>by simp[qA]at h
 | .goto _,_,_,h,_,_,_=>by simp[qA]at h
 | .refuse _,_,_,h,_,_,_=>by simp[qA]at h
def AS.rv(P:Program)(s:AS):ResultVar->Option AV
 | .tmp t=>some (s.t.getD t .aB)
 | .cell t ty=>match s.t.getD t .aB with
  | .ptr i bY idx off=>match s.at i bY idx with
   |some (_,e)=>match nH P ty with
    |some n=>if off+n<=e.length then some (.agg (((tJ (Fp i) true e).drop off).take n))else none
    |none=>if rY P ty then(tJ (Fp i) true e)[off]? else none
   |none=>none
  |_=>none
def Gq(a:Act):ResultVar->Sem Value
 | .tmp t=>pure (a.tmps.getD t Go.undef)
 | .cell t ty=>do loadVar ty (<-asAddr (a.tmps.getD t Go.undef))
def KD(fn:Func)(a:Act):results fn a.tmps=(do let vs<-fn.results.mapM (Gq a);pure (if h:vs.size=1 then vs[0]else .tuple vs)):=by unfold results;congr 1;all_goals (congr 1;all_goals (funext x;cases x<;>rfl))
def aP0{P:Program}[aG P]{B:gL P}{s:AS}{G:List CO}{a:Act}{w:World}(r:fZ B s G a w){rv:ResultVar}{x:AV}(h:s.rv P rv=some x):
  ∃v,(Gq a rv).run P w= .ok v w/\R w (env B s.o G w) x v []:=by
 cases rv with
 |tmp t=>simp only[AS.rv,eI]at h;subst h;exact⟨a.tmps.getD t Go.undef,rfl,r.ev (.tmp t)⟩
 |cell t ty=>
  simp only[AS.rv]at h;split at h
  .rename_i i bY idx off hx;split at h
   .rename_i ob e ha;obtain⟨ho,he⟩:=BU ha;obtain⟨g,b,f,hl,aY,hga,hv⟩:=r.ptr (x:= .tmp t) hx ho;obtain⟨b',f',cs,yM,hcn,hc,hone,wK⟩:=r.elem hl aY he;rw[hga]at yM;simp only[eI,oS,pS]at yM;obtain⟨rfl,rfl⟩:=yM;have hle:=iY wK;rw[Fq]at hle;simp only[Act.eval]at hv;split at h
    .rename_i n hn;split at h
     .rename_i hfit;obtain rfl:=cX h;refine⟨.agg ((cs.drop off).take n).toArray,?_,by simp only[R];exact⟨_,rfl,IQ hone,Sb off n wK⟩⟩;have:=wL (P:=P) (t:=ty) (k:=off) (n:=n) (cs:=cs) hn (by omega) hc;simp only[Instr.loadAt,Instr.sureAddr,pure_bind]at this;simp[Gq,hv,asAddr,<-pH,this]
     .cases h
    .split at h
     .rename_i aTy;obtain⟨v,hv',hR⟩:=NN wK h;refine⟨v,?_,hR⟩;have:=zQ (P:=P) (t:=ty) aTy hv' hc;simp only[Instr.loadAt,Instr.sureAddr,pure_bind]at this;simp[Gq,hv,asAddr,<-pH,this]
     .cases h
   .cases h
  .cases h
def AS.Az(P:Program)(s:AS):List ResultVar->Option (List AV)
 |[]=>some []
 |x::xs=>match s.rv P x with
  |some y=>match AS.Az P s xs with
   |some ys=>some (y::ys)
   |none=>none
  |none=>none
def bX:List AV->AV
 |[x]=>x
 |xs=> .iL xs
def bB(P:Program)(fn:Func)(s:AS)(r:AV):Prop:=
 ∃ys,s.Az P fn.results.toList=some ys/\kV s.o (bX ys)=true/\(mG (bX ys)).Nodup/\res s.o (bX ys)=r/\clean r=true
def Mc{P:Program}[aG P]{B:gL P}{s:AS}{G:List CO}{a:Act}{w:World}(r:fZ B s G a w):∀{l:List ResultVar} {ys:List AV},s.Az P l=some ys->
  ∃vs,(l.mapM (m:=Sem) (Gq a)).run P w= .ok vs w/\Rc w (env B s.o G w) ys vs []
 |[],ys,h=>by simp only[AS.Az,eI]at h;subst h;exact⟨[],by simp,by simp[Rc]⟩
 |x::xs,ys,h=>by
  simp only[AS.Az]at h;split at h
  .rename_i y hy;split at h
   .rename_i ys' Md;obtain rfl:=cX h;obtain⟨v,h1,h2⟩:=aP0 r hy;obtain⟨vs,h3,h4⟩:=Mc r Md;refine⟨v::vs,?_,by simp only[Rc];exact⟨[],[],h2,h4,rfl⟩⟩;simp only[mapM_cons,pB];rw[h1];simp only[mT];rw[h3];simp
   .cases h
  .cases h
def wU{P:Program}[aG P]{B:gL P}{s:AS}{G:List CO}{a:Act}{w:World}(r:fZ B s G a w){fn:Func}{ys:List AV}(h:s.Az P fn.results.toList=some ys):
  ∃v,(results fn a.tmps).run P w= .ok v w/\R w (env B s.o G w) (bX ys) v []:=by
 obtain⟨vs,h1,h2⟩:=Mc r h;have hl:=iY h2;have hm:(fn.results.mapM (m:=Sem) (Gq a)).run P w= .ok vs.toArray w:=by rw[DS];simp only[Sem.run_map];rw[h1];rfl
 rw[KD];simp only[pB];rw[hm];simp only[mT,tR];match ys,vs,hl,h2 with
 |[y],[v],_,h2=>
  refine⟨v,by simp,?_⟩;simp only[Rc]at h2;obtain⟨f1,f2,h3,_,e⟩:=h2;obtain⟨rfl,_⟩:f1=[]/\f2=[]:=by simpa using e
  exact h3
 |[],[],_,h2=>exact⟨.tuple #[],by simp,by simp only[bX,R];exact⟨[],rfl,h2⟩⟩
 |y1::y2::ys,v1::v2::vs,_,h2=>exact⟨.tuple (v1::v2::vs).toArray,by simp,by simp only[bX,R];exact⟨_,rfl,h2⟩⟩
def WR{P:Program}[aG P](hm:P.follows .mixedOrders=true){f:FuncId}{fn:Func}{c:Code}(hf:P.funcs[f]? =some fn)(hb:fn.body=some c){args:List AV}{rr:AV}
  (h:qA P c ⟨args++replicate (fn.ntmps-args.length) .aB,[]⟩ (λe s=>(e= .normal\/e= .ret)/\bB P fn s rr)):Ok P f args rr:=by
 intro w vs hg hargs;have hl:=iY hargs;have r0:fZ ⟨w,λb=>b<w.heap.size,λ_=>False,λ_=>none,λ_=>none,hg,λ_ h=>h.elim,λ_ h=>h.elim⟩ ⟨args++replicate (fn.ntmps-args.length) .aB,[]⟩ [] {tmps:=vs.toArray++Array.replicate (fn.ntmps-vs.toArray.size) Go.undef,defers:=[]} w:=by
  refine⟨rfl,rfl,λi ob g hl=>by simp[look]at hl,λi j oi oj gi gj b hl=>by simp[look]at hl,λi ob g b hl=>by simp[look]at hl,?_,eJ _,λ_ _ _=>rfl,λb hb=>hb,nZ.rfl⟩;have h1:Rc w (env ⟨w,λb=>b<w.heap.size,λ_=>False,λ_=>none,λ_=>none,hg,λ_ h=>h.elim,λ_ h=>h.elim⟩ [] [] w) args vs []:=gQ (w:=w) (w':=w) (E:=qM w) (E':=env ⟨w,λb=>b<w.heap.size,λ_=>False,λ_=>none,λ_=>none,hg,λ_ h=>h.elim,λ_ h=>h.elim⟩ [] [] w) ⟨λb hb=>⟨⟨.inl hb,λi ob g hl=>by simp[look]at hl⟩,rfl⟩,λ_ _=>trivial,λ_ _ _ h=>by exact h.elim,λ_ _ _ h=>by exact h.elim,λ_ _ _ _ _ h=>by exact h.elim⟩ _ _ _ (by simp) hargs;have h2:∀n,Rc w (env ⟨w,λb=>b<w.heap.size,λ_=>False,λ_=>none,λ_=>none,hg,λ_ h=>h.elim,λ_ h=>h.elim⟩ [] [] w) (replicate n .aB) (replicate n Go.undef) []:=by
   intro n;induction n with
   |zero=>simp[Rc]
   |succ n ih=>simp only[oX,Rc];exact⟨[],[],by simp[R],ih,rfl⟩
  have:=mJ h1 (h2 (fn.ntmps-args.length));simpa [hl]using this
 refine Ge hf hb (Hj (rG hm c _ _ h _ _ ⟨_,r0⟩) λe a w' he=> ?_);obtain⟨s,⟨he,ys,Md,rP,hu,lI,IU⟩,G,r⟩:=he;obtain⟨v,hrun,hR⟩:=wU r Md;obtain⟨fp,h1,h2,h3⟩:=GU r _ v rP hu hR;rw[lI]at h1;have hfin:∃v' fp,Ending.returned v= .returned v'/\R w' (CB w.heap.size w' fp) rr v' fp/\fp.Nodup/\(∀b∈fp,w.heap.size<=b/\b<w'.heap.size)/\w.heap.size<=w'.heap.size/\(∀b,b<w.heap.size->w'.heap[b]? =w.heap[b]?)/\nZ w w':=by refine⟨v,fp,rfl,aN1 <| Rs (E:=(env _ s.o G w').plain) (λ_ _=>trivial) rfl rfl rfl _ _ _ IU h1,h2,λb hb=> ?_,r.size,λb hb=>r.frame b hb (λh=>h),r.same⟩;obtain⟨i,ob,g,_,hl,aY,hF⟩:=h3 b hb;have:=r.eB _ _ _ b hl aY hF;exact⟨this.1.resolve_left (λh=>h),this.2⟩
 rcases he with rfl|rfl
 .exact ⟨r.defs,v,hrun,hfin⟩
 .exact ⟨r.defs,v,hrun,hfin⟩
def bg{P:Program}[aG P]{all:List Oper}{s:AS}{K:AS->Prop}(h:K s):mH P all [] s K:=h
def SY{P:Program}[aG P]{id:Nat}{l:List Oper}{s:AS}{Q:Exit->AS->Prop}(h:mH P l l s (Q .normal)):qA P (.region id l.toArray false) s Q:=by simp only[qA];exact⟨s,mZ.refl s,h⟩
def KE{P:Program}[aG P]{id:Nat}{ops:Array Oper}{s s2:AS}{Q:Exit->AS->Prop}(hw:mZ s s2)(h:qA P (.region id ops false) s2 Q):qA P (.region id ops false) s Q:=by simp only[qA]at h⊢;obtain⟨s3,h1,h2⟩:=h;exact⟨s3,hw.trans h1,h2⟩
def Ta{P:Program}[aG P]{c:Operand}{x y:Code}{s:AS}{Q:Exit->AS->Prop}{b:Bool}(hc:s.ev c= .bool b)(h1:b=true->qA P x s Q)(h2:b=false->qA P y s Q):qA P (.cond c x y) s Q:=by simp only[qA,hc];exact⟨h1,h2⟩
def WS{P:Program}[aG P]{id:Nat}{c:Code}{s:AS}{Q:Exit->AS->Prop}(h:qA P c s (D9 id Q)):qA P (.block id c) s Q:=h
def bn{P:Program}[aG P]{id:Nat}{s:AS}{Q:Exit->AS->Prop}(h:Q (.exit id) s):qA P (.exit id) s Q:=h
def aAo{P:Program}[aG P]{s:AS}{Q:Exit->AS->Prop}(h:Q .ret s):qA P .ret s Q:=h
def bq{P:Program}[aG P]{s:AS}{Q:Exit->AS->Prop}(h:Q .normal s):qA P .skip s Q:=h
def aF0{P:Program}[aG P]{c:Code}{s:AS}{Q:Exit->AS->Prop}{ι:Type}(inv:ι->AS)(μ:ι->Nat)(i:ι)(h0:mZ s (inv i))(h:∀i,∀K:AS->Prop,(∀s' j,mZ s' (inv j)->μ j<μ i->K s')->qA P c (inv i) (zA K Q)):qA P (.loop c) s Q:=
 ⟨ι,inv,μ,i,h0,λi=>h i _ λ_ j h1 h2=>⟨j,h1,h2⟩⟩
def Me{K:AS->Prop}{Q:Exit->AS->Prop}{s:AS}(h:Q .ret s):zA K Q .ret s:=h
def JH{K:AS->Prop}{Q:Exit->AS->Prop}{s:AS}{id:Nat}(h:Q (.exit id) s):zA K Q (.exit id) s:=h
def JI{Q:Exit->AS->Prop}{s:AS}{id:Nat}(h:Q .normal s):D9 id Q .normal s:=h
def Tc{Q:Exit->AS->Prop}{s:AS}{id:Nat}(h:Q .ret s):D9 id Q .ret s:=h
def WT{Q:Exit->AS->Prop}{s:AS}{id:Nat}(h:Q .normal s):D9 id Q (.exit id) s:=by simpa [D9]using h
def WU{Q:Exit->AS->Prop}{s:AS}{id id':Nat}(jE:id'≠id)(h:Q (.exit id') s):D9 id Q (.exit id') s:=by simpa [D9,jE]using h
def wk:List AV->List AV->Prop
 |[],[]=>True
 |x::xs,y::ys=>(y=x\/y= .aB)/\wk xs ys
 |_,_=>False
def JJ{w:World}{E:Env}:∀{t t':List AV} {vs:List Value},wk t t'->Rc w E t vs []->Rc w E t' vs []
 |[],[],_,_,h=>h
 |[],_::_,_,h,_=>h.elim
 |_::_,[],_,h,_=>h.elim
 |_::_,_::_,[],_,h=>by simp[Rc]at h
 |x::xs,y::ys,v::vs,h,hr=>by
  simp only[Rc]at hr⊢;obtain⟨f1,f2,h1,h2,e⟩:=hr;obtain⟨rfl,rfl⟩:f1=[]/\f2=[]:=by simpa using e
  refine⟨[],[],?_,JJ h.2 h2,rfl⟩;rcases h.1 with rfl|rfl
  .exact h1
  .simp [R]
def zS{t t':List AV}{o:List aI}(h:wk t t'):mZ ⟨t,o⟩ ⟨t',o⟩:=by rintro P _ B a w ⟨G,r⟩;exact⟨G,{r with tmps:=JJ h r.tmps}⟩
def wrap64(n:Int)(h1: -9223372036854775808<=n)(h2:n<=9223372036854775807):IntKind.i64.wrap n=n:=by rw[Dd];omega
def tQ{k:Nat}(h:(k:Int)<=9223372036854775806:=by omega):IntKind.i64.wrap ((k:Int)+1)=((k+1:Nat):Int):=by rw[wrap64]<;>omega
mutual
def gW:AV->Nat
 | .sl .own _ _=>1
 | .agg c=>dL c
 | .iL c=>dL c
 |_=>0
def dL:List AV->Nat
 |[]=>0
 |x::xs=>gW x+dL xs
end
mutual
def gT(q k:Nat):AV->AV
 | .sl .own _ _=> .obj k q
 | .agg c=> .agg (dM q k c)
 | .iL c=> .iL (dM q k c)
 | .int a b=> .int a b
 | .bool b=> .bool b
 | .str s=> .str s
 | .sl g n l=> .sl g n l
 | .iW g c off=> .iW g c off
 | .obj i v=> .obj i v
 | .ptr i v j o=> .ptr i v j o
 | .fn f c=> .fn f c
 | .aB=> .aB
def dM(q k:Nat):List AV->List AV
 |[]=>[]
 |x::xs=>gT q k x::dM q (k+gW x) xs
end
mutual
def gN(q:Nat):AV->List aI
 | .sl .own n l=>[⟨true,false,n,q,l⟩]
 | .agg c=>dI q c
 | .iL c=>dI q c
 | .int _ _=>[]
 | .bool _=>[]
 | .str _=>[]
 | .sl _ _ _=>[]
 | .iW _ _ _=>[]
 | .obj _ _=>[]
 | .ptr _ _ _ _=>[]
 | .fn _ _=>[]
 | .aB=>[]
def dI(q:Nat):List AV->List aI
 |[]=>[]
 |x::xs=>gN q x++dI q xs
end
mutual
theorem PK(q:Nat):∀x:AV,(gN q x).length=gW x
 | .sl .own _ _=>rfl
 | .sl .view _ _=>rfl
 | .sl (.mQ _) _ _=>rfl
 | .agg c=>FE q c
 | .iL c=>FE q c
 | .int _ _=>rfl
 | .bool _=>rfl
 | .str _=>rfl
 | .iW _ _ _=>rfl
 | .obj _ _=>rfl
 | .ptr _ _ _ _=>rfl
 | .fn _ _=>rfl
 | .aB=>rfl
theorem FE(q:Nat):∀c:List AV,(dI q c).length=dL c
 |[]=>rfl
 |x::xs=>by simp only[dI,dL,eR,PK q x,FE q xs]
end
mutual
theorem aU(q k:Nat):∀x:AV,iA q k x=(gT q k x,gN q x)
 | .sl .own _ _=>rfl
 | .sl .view _ _=>rfl
 | .sl (.mQ _) _ _=>rfl
 | .agg c=>by simp only[iA,gT,gN,aN q k c]
 | .iL c=>by simp only[iA,gT,gN,aN q k c]
 | .int _ _=>rfl
 | .bool _=>rfl
 | .str _=>rfl
 | .iW _ _ _=>rfl
 | .obj _ _=>rfl
 | .ptr _ _ _ _=>rfl
 | .fn _ _=>rfl
 | .aB=>rfl
theorem aN(q k:Nat):∀c:List AV,iE q k c=(dM q k c,dI q c)
 |[]=>rfl
 |x::xs=>by simp only[iE,dM,dI,aU q k x,aN q _ xs,PK]
end
attribute [simp] wk AS.ev AS.put AS.box AS.shut AV.fit AV.cells AV.gB AS.at AS.stored BP ofV rt tJ lW AV.kept Fp Km AS.args arg Du AS.bW gT dM gN dI gW dL aU aN AS.target AS.source AS.zR AS.Sr AS.bound AS.made Sm Yq aI.kill
  AV.Pv AV.Bn AV.known AV.scalar yN yN.go AS.built yC JE mX mG vH res kV pI PD clean Ev mW bX AS.rv AS.Az qN zA D9 AV.nd zy aa zz lV AV.lC
attribute [irreducible] qA mH zA D9
def Xb{P:Program}[aG P]{t:TypeId}{c:List AV}{off:Nat}{K1 K2:AV->Prop}(hk:∀y,K1 y->K2 y)(h:BP P t c off K1):BP P t c off K2:=by
 unfold BP at*;split at h
 .exact ⟨h.1,hk _ h.2⟩
 .refine ⟨h.1,?_⟩;have:=h.2;split at this
  .exact hk _ this
  .exact this.elim
def YD{P:Program}[aG P]{o:Oper}{s:AS}{K1 K2:AS->Prop}(hk:∀s',K1 s'->K2 s')(h:uA P o s K1):uA P o s K2:=by
 obtain⟨dst,op,ty,pos,after,gd⟩:=o;unfold uA at h⊢;dsimp only at h⊢;split at h;all_goals (repeat' (split at h))
 all_goals (first
  |exact h.elim
  |exact hk _ h
  |exact⟨h.1,hk _ h.2⟩
  |((repeat (refine⟨h.1,?_⟩;replace h:=h.2));exact hk _ h)
  |exact Xb (λy=>hk _) h
  |exact⟨h.1,Xb (λy=>hk _) h.2⟩
  |(obtain⟨r,h1,h2⟩:=h;exact⟨r,h1,hk _ h2⟩)
  |((repeat (refine⟨h.1,?_⟩;replace h:=h.2));obtain⟨r,h1,h2⟩:=h;exact⟨r,h1,hk _ h2⟩)
  |((repeat (refine⟨h.1,?_⟩;replace h:=h.2));split at h<;>first|exact hk _ h|((repeat (refine⟨h.1,?_⟩;replace h:=h.2));exact hk _ h)|exact h.elim)
  |((repeat (refine⟨h.1,?_⟩;replace h:=h.2));(repeat' (split at h))<;>first|exact h.elim|((repeat (refine⟨h.1,?_⟩;replace h:=h.2));exact hk _ h)|((repeat (refine⟨h.1,?_⟩;replace h:=h.2));obtain⟨r,h1,h2⟩:=h;exact⟨r,h1,hk _ h2⟩))
  |(have h9:=hk _ h;simp_all;done)
  |((first|rw[eM (by assumption)]|rw[eC (by assumption)]);((repeat (refine⟨h.1,?_⟩;replace h:=h.2));exact hk _ h))
  |((first|rw[eM (by assumption)]|rw[eC (by assumption)]);((repeat (refine⟨h.1,?_⟩;replace h:=h.2));obtain⟨r,h1,h2⟩:=h;exact⟨r,h1,hk _ h2⟩))
  |((repeat (refine⟨h.1,?_⟩;replace h:=h.2));obtain⟨r,h1,h2⟩:=h;refine⟨r,h1,?_⟩;(first|rw[eM (by assumption)]|rw[eC (by assumption)]);exact hk _ h2))
def aCp{P:Program}[aG P]{o:Oper}{s:AS}{K1 K2:AS->Prop}(hk:∀s',K1 s'->K2 s')(h:PH P o s K1):PH P o s K2:=by
 obtain⟨dst,op,ty,pos,after,gd⟩:=o;unfold PH at h⊢;dsimp only at h⊢;split at h
 .split at h
  .obtain ⟨h1,h2,h3,h4,x',r,h5,h6,h7,h8⟩:=h;exact⟨h1,h2,h3,h4,x',r,h5,h6,h7,hk _ h8⟩
  .exact h.elim
 .split at h
  .split at h
   .obtain ⟨h1,h2,h3,h4,h5⟩:=h;exact⟨h1,h2,h3,h4,hk _ h5⟩
   .exact h.elim
  .exact h.elim
 .exact h.elim
def aG8{P:Program}[aG P]{o:Oper}{s:AS}{K1 K2:AS->Prop}(hk:∀s',K1 s'->K2 s')(h:bf P o s K1):bf P o s K2:=by
 obtain⟨dst,op,ty,pos,after,gd⟩:=o;unfold bf at h⊢;dsimp only at h⊢;split at h
 .split at h
  .obtain ⟨h1,gs,r,h2,h3,h4,h5⟩:=h;exact⟨h1,gs,r,h2,h3,h4,hk _ h5⟩
  .exact h.elim
 .exact h.elim
def ib{P:Program}[aG P]{o:Oper}{s:AS}{K1 K2:AS->Prop}(hk:∀s',K1 s'->K2 s')(h:Jt P o s K1):Jt P o s K2:=by obtain⟨s1,hw,h⟩:=h;exact⟨s1,hw,h.imp (YD hk) (Or.imp (aCp hk) (aG8 hk))⟩
def aG9{P:Program}[aG P]{o:Oper}{s:AS}{K1 K2:AS->Prop}(hk:∀s',K1 s'->K2 s')(h:VK P o s K1):VK P o s K2:=by
 obtain⟨dst,op,ty,pos,after,gd⟩:=o;unfold VK at h⊢;dsimp only at h⊢;split at h
 .split at h
  .obtain ⟨hc,⟨x,zs,k,bY,code,i,h',Q,h0,h1,h2,h3,h4,h5,h6⟩|⟨x,code,h0,h1,h2,h3⟩|⟨Q,h1,h2⟩|⟨x,y,zs,k,bY,code,xv,i,h',Q,h0,h1,h2,h3,h7,h4,h5,h6⟩⟩:=h
   .exact ⟨hc,.inl ⟨x,zs,k,bY,code,i,h',Q,h0,h1,h2,h3,h4,h5,λr i' h' hq hi=>hk _ (h6 r i' h' hq hi)⟩⟩
   .exact ⟨hc,.inr (.inl ⟨x,code,h0,h1,h2,λi h hi=>hk _ (h3 i h hi)⟩)⟩
   .exact ⟨hc,.inr (.inr (.inl ⟨Q,h1,λr hq=>hk _ (h2 r hq)⟩))⟩
   .exact ⟨hc,.inr (.inr (.inr ⟨x,y,zs,k,bY,code,xv,i,h',Q,h0,h1,h2,h3,h7,h4,h5,λr i' h' hq hi=>hk _ (h6 r i' h' hq hi)⟩))⟩
  .exact h.elim
 .exact h.elim
def Xc{P:Program}[aG P]{o:Oper}{s:AS}{K1 K2:AS->Prop}(hk:∀s',K1 s'->K2 s')(h:JG P o s K1):JG P o s K2:=by obtain⟨s1,hw,h⟩:=h;exact⟨s1,hw,aG9 hk h⟩
abbrev bE:=List UInt8
def bU{α:Type}(f:α->Nat):List α->Nat
 |[]=>0
 |x::xs=>f x+bU f xs
def dS{α:Type}(f:α->Nat)(l:List α):Nat:=l.length+bU f l
def sub(n:Int)(k:Nat):Int:=if n<k then -1 else n-k
def Hg{α:Type}(f:α->Nat):∀(l:List α) (k:Nat) (h:k<l.length),bU f (l.take (k+1))=bU f (l.take k)+f l[k]
 |x::xs,0,_=>by simp[bU]
 |x::xs,k+1,h=>by simp only[eV,bU,getElem_cons_succ];rw[Hg f xs k (by simpa using h)];omega
def FH{α:Type}(f:α->Nat):∀(l:List α) (k:Nat),bU f (l.take k)<=bU f l
 |[],k=>by simp
 |x::xs,0=>by simp[bU]
 |x::xs,k+1=>by simp only[eV,bU];have:=FH f xs k;omega
def aOa(z:List AV)(xs:List (List AV))(k:Nat):List (List AV):=xs.take k++replicate (xs.length-k) z
@[simp] def aLe(z:List AV)(xs:List (List AV))(k:Nat):(aOa z xs k).length=xs.length:=by simp[aOa];omega
@[simp] def gX{α:Type}(f:α->List AV)(h:∀x,Ev (f x)=true):∀l:List α,mW (l.map f)=true
 |[]=>rfl
 |x::xs=>by simp only[oE,mW,h x,AK];exact gX f h xs
def dD{α:Type}{f g:α->List AV}{t:Tg->Option Tg}{b:Bool}(h:∀x,tJ t b (f x)=g x):∀l:List α,lW t b (l.map f)=l.map g
 |[]=>rfl
 |x::xs=>by simp only[oE,lW,h x,dD h xs]
def iU{α:Type}(f:α->Nat)(l:List α)(k:Nat)(h:k<l.length):f l[k]<=bU f l:=by have h1:=Hg f l k h;have h2:=FH f l (k+1);omega
def dJ{α:Type}(f:α->Nat){l:List α}{x:α}(h:x∈l):f x<=bU f l:=by obtain⟨k,hk,rfl⟩:=getElem_of_mem h;exact iU f l k hk
@[simp] def nM(n:Int):List AV:=[.int .i64 n]
@[simp] def bAk(n:Bool):List AV:=[.bool n]
@[simp] def eD(s:bE):List AV:=[.str s]
def iM(s:bE):Nat:=s.length
@[simp] def aT4(t:Tg->Option Tg)(b:Bool)(l:List Int):lW t b (l.map nM)=l.map nM:=dD (by intro x;rfl) l
@[simp] def aT5(t:Tg->Option Tg)(b:Bool)(l:List bE):lW t b (l.map eD)=l.map eD:=dD (by intro x;rfl) l
@[simp] def Td(l:List Int):mW (l.map nM)=true:=gX _ (by intro x;rfl) l
@[simp] def aP4(l:List bE):mW (l.map eD)=true:=gX _ (by intro x;rfl) l
structure aR where
  bN:bE
  iD:bE
deriving DecidableEq
@[simp] def aS(x:aR):List AV:=[.str x.bN,.str x.iD]
def aW(x:aR):Nat:=x.bN.length+x.iD.length
@[simp] def aSh(t:Tg->Option Tg)(b:Bool)(l:List aR):lW t b (l.map aS)=l.map aS:=dD (by intro x;rfl) l
@[simp] def aOg(l:List aR):mW (l.map aS)=true:=gX _ (by intro x;rfl) l
structure pV where
  name:bE
  value:bE
deriving DecidableEq
@[simp] def uB(x:pV):List AV:=[.str x.name,.str x.value]
def rR(x:pV):Nat:=x.name.length+x.value.length
@[simp] def aSi(t:Tg->Option Tg)(b:Bool)(l:List pV):lW t b (l.map uB)=l.map uB:=dD (by intro x;rfl) l
@[simp] def aOh(l:List pV):mW (l.map uB)=true:=gX _ (by intro x;rfl) l
structure bM where
  kind:Int
  name:bE
  iH:List pV
  text:bE
deriving DecidableEq
@[simp] def dK(g:Tg)(x:bM):List AV:=[.int .i64 x.kind,.str x.name,.sl g 2 (x.iH.map uB),.str x.text]
def dU(x:bM):Nat:=x.name.length+(dS rR x.iH)+x.text.length
@[simp] def aJ1(g:Tg)(b:Bool)(l:List bM):lW (λ_=>some .view) b (l.map (dK g))=l.map (dK .view):=dD (by intro x;simp) l
@[simp] def aGb(i:Nat)(b:Bool)(l:List bM):lW (Fp i) b (l.map (dK .own))=l.map (dK (.mQ i)):=dD (by intro x;simp) l
@[simp] def aGc(i:Nat)(b:Bool)(l:List bM):lW (Fp i) b (l.map (dK .view))=l.map (dK .view):=dD (by intro x;simp) l
@[simp] def aGd(i j:Nat)(b:Bool)(l:List bM):lW (Fp i) b (l.map (dK (.mQ j)))=l.map (dK (.mQ j)):=dD (by intro x;simp) l
@[simp] def aGe(b:Bool)(l:List bM):lW Km b (l.map (dK .own))=l.map (dK .view):=dD (by intro x;simp) l
@[simp] def aGf(b:Bool)(l:List bM):lW Km b (l.map (dK .view))=l.map (dK .view):=dD (by intro x;simp) l
@[simp] def sU(l:List bM):mW (l.map (dK .own))=true:=gX _ (by intro x;simp) l
structure nN where
  rest:bE
deriving DecidableEq
@[simp] def fU(x:nN):List AV:=[.str x.rest]
def sV(x:nN):Nat:=x.rest.length
@[simp] def aGg(t:Tg->Option Tg)(b:Bool)(l:List nN):lW t b (l.map fU)=l.map fU:=dD (by intro x;rfl) l
@[simp] def aCf(l:List nN):mW (l.map fU)=true:=gX _ (by intro x;rfl) l
structure kG where
  name:bE
  text:bE
  wV:Int
  iH:List pV
deriving DecidableEq
@[simp] def gU(g:Tg)(x:kG):List AV:=[.str x.name,.str x.text,.int .i64 x.wV,.sl g 2 (x.iH.map uB)]
def qP(x:kG):Nat:=x.name.length+x.text.length+(dS rR x.iH)
@[simp] def aLj(g:Tg)(b:Bool)(l:List kG):lW (λ_=>some .view) b (l.map (gU g))=l.map (gU .view):=dD (by intro x;simp) l
@[simp] def aJ2(i:Nat)(b:Bool)(l:List kG):lW (Fp i) b (l.map (gU .own))=l.map (gU (.mQ i)):=dD (by intro x;simp) l
@[simp] def aJ3(i:Nat)(b:Bool)(l:List kG):lW (Fp i) b (l.map (gU .view))=l.map (gU .view):=dD (by intro x;simp) l
@[simp] def aJ4(i j:Nat)(b:Bool)(l:List kG):lW (Fp i) b (l.map (gU (.mQ j)))=l.map (gU (.mQ j)):=dD (by intro x;simp) l
@[simp] def aJ5(b:Bool)(l:List kG):lW Km b (l.map (gU .own))=l.map (gU .view):=dD (by intro x;simp) l
@[simp] def aJ6(b:Bool)(l:List kG):lW Km b (l.map (gU .view))=l.map (gU .view):=dD (by intro x;simp) l
@[simp] def aOi(l:List kG):mW (l.map (gU .own))=true:=gX _ (by intro x;simp) l
structure bC where
  aJ:List kG
  bD:List Int
deriving DecidableEq
@[simp] def aZ(g:Tg)(x:bC):List AV:=[.sl g 4 (x.aJ.map (gU g)),.sl g 1 (x.bD.map nM)]
def aV(x:bC):Nat:=(dS qP x.aJ)+x.bD.length
@[simp] def aEc(g:Tg)(b:Bool)(l:List bC):lW (λ_=>some .view) b (l.map (aZ g))=l.map (aZ .view):=dD (by intro x;simp) l
@[simp] def aCg(i:Nat)(b:Bool)(l:List bC):lW (Fp i) b (l.map (aZ .own))=l.map (aZ (.mQ i)):=dD (by intro x;simp) l
@[simp] def aCh(i:Nat)(b:Bool)(l:List bC):lW (Fp i) b (l.map (aZ .view))=l.map (aZ .view):=dD (by intro x;simp) l
@[simp] def aCi(i j:Nat)(b:Bool)(l:List bC):lW (Fp i) b (l.map (aZ (.mQ j)))=l.map (aZ (.mQ j)):=dD (by intro x;simp) l
@[simp] def aCj(b:Bool)(l:List bC):lW Km b (l.map (aZ .own))=l.map (aZ .view):=dD (by intro x;simp) l
@[simp] def aCk(b:Bool)(l:List bC):lW Km b (l.map (aZ .view))=l.map (aZ .view):=dD (by intro x;simp) l
@[simp] def aGh(l:List bC):mW (l.map (aZ .own))=true:=gX _ (by intro x;simp) l
structure Gr where
  name:bE
  color:Int
deriving DecidableEq
@[simp] def Bt(x:Gr):List AV:=[.str x.name,.int .i64 x.color]
@[simp] def aSj(t:Tg->Option Tg)(b:Bool)(l:List Gr):lW t b (l.map Bt)=l.map Bt:=dD (by intro x;rfl) l
@[simp] def aOj(l:List Gr):mW (l.map Bt)=true:=gX _ (by intro x;rfl) l
structure iX where
  mF:List Gr
deriving DecidableEq
@[simp] def gK(g:Tg)(x:iX):List AV:=[.sl g 2 (x.mF.map Bt)]
@[simp] def aJ7(g:Tg)(b:Bool)(l:List iX):lW (λ_=>some .view) b (l.map (gK g))=l.map (gK .view):=dD (by intro x;simp) l
@[simp] def aGi(i:Nat)(b:Bool)(l:List iX):lW (Fp i) b (l.map (gK .own))=l.map (gK (.mQ i)):=dD (by intro x;simp) l
@[simp] def aGj(i:Nat)(b:Bool)(l:List iX):lW (Fp i) b (l.map (gK .view))=l.map (gK .view):=dD (by intro x;simp) l
@[simp] def aGk(i j:Nat)(b:Bool)(l:List iX):lW (Fp i) b (l.map (gK (.mQ j)))=l.map (gK (.mQ j)):=dD (by intro x;simp) l
@[simp] def aGl(b:Bool)(l:List iX):lW Km b (l.map (gK .own))=l.map (gK .view):=dD (by intro x;simp) l
@[simp] def aGm(b:Bool)(l:List iX):lW Km b (l.map (gK .view))=l.map (gK .view):=dD (by intro x;simp) l
@[simp] def aLk(l:List iX):mW (l.map (gK .own))=true:=gX _ (by intro x;simp) l
structure jV where
  op:Int
  text:bE
deriving DecidableEq
@[simp] def nR(x:jV):List AV:=[.int .i64 x.op,.str x.text]
@[simp] def aSk(t:Tg->Option Tg)(b:Bool)(l:List jV):lW t b (l.map nR)=l.map nR:=dD (by intro x;rfl) l
@[simp] def aOk(l:List jV):mW (l.map nR)=true:=gX _ (by intro x;rfl) l
structure gG where
  zD:Bool
  iN:List bE
  kH:List bE
  kJ:List bE
  uC:bE
deriving DecidableEq
@[simp] def dA(g:Tg)(x:gG):List AV:=[.bool x.zD,.sl g 1 (x.iN.map eD),.sl g 1 (x.kH.map eD),.sl g 1 (x.kJ.map eD),.str x.uC]
def eT(x:gG):Nat:=(dS iM x.iN)+(dS iM x.kH)+(dS iM x.kJ)+x.uC.length
@[simp] def aGn(g:Tg)(b:Bool)(l:List gG):lW (λ_=>some .view) b (l.map (dA g))=l.map (dA .view):=dD (by intro x;simp) l
@[simp] def aEd(i:Nat)(b:Bool)(l:List gG):lW (Fp i) b (l.map (dA .own))=l.map (dA (.mQ i)):=dD (by intro x;simp) l
@[simp] def aEe(i:Nat)(b:Bool)(l:List gG):lW (Fp i) b (l.map (dA .view))=l.map (dA .view):=dD (by intro x;simp) l
@[simp] def aEf(i j:Nat)(b:Bool)(l:List gG):lW (Fp i) b (l.map (dA (.mQ j)))=l.map (dA (.mQ j)):=dD (by intro x;simp) l
@[simp] def aEg(b:Bool)(l:List gG):lW Km b (l.map (dA .own))=l.map (dA .view):=dD (by intro x;simp) l
@[simp] def aEh(b:Bool)(l:List gG):lW Km b (l.map (dA .view))=l.map (dA .view):=dD (by intro x;simp) l
@[simp] def aJ8(l:List gG):mW (l.map (dA .own))=true:=gX _ (by intro x;simp) l
structure bG where
  qQ:Int
  kind:Int
  body:bE
  dm:Int
  shares:Bool
  bO:bE
deriving DecidableEq
@[simp] def bR(x:bG):List AV:=[.int .i64 x.qQ,.int .i64 x.kind,.str x.body,.int .i64 x.dm,.bool x.shares,.str x.bO]
def dC(x:bG):Nat:=x.body.length+x.bO.length
@[simp] def aJ9(t:Tg->Option Tg)(b:Bool)(l:List bG):lW t b (l.map bR)=l.map bR:=dD (by intro x;rfl) l
@[simp] def aEi(l:List bG):mW (l.map bR)=true:=gX _ (by intro x;rfl) l
structure iO where
  kind:Int
  to:aR
  frm:bE
  eZ:bE
deriving DecidableEq
@[simp] def eG(x:iO):List AV:=[.int .i64 x.kind,.str x.to.bN,.str x.to.iD,.str x.frm,.str x.eZ]
def lZ(x:iO):Nat:=(aW x.to)+x.frm.length+x.eZ.length
@[simp] def aLl(t:Tg->Option Tg)(b:Bool)(l:List iO):lW t b (l.map eG)=l.map eG:=dD (by intro x;rfl) l
@[simp] def zT(l:List iO):mW (l.map eG)=true:=gX _ (by intro x;rfl) l
structure WX where
  iD:bE
  jL:bG
deriving DecidableEq
@[simp] def BQ(x:WX):List AV:=[.str x.iD,.int .i64 x.jL.qQ,.int .i64 x.jL.kind,.str x.jL.body,.int .i64 x.jL.dm,.bool x.jL.shares,.str x.jL.bO]
def Ho(x:WX):Nat:=x.iD.length+(dC x.jL)
@[simp] def aSl(t:Tg->Option Tg)(b:Bool)(l:List WX):lW t b (l.map BQ)=l.map BQ:=dD (by intro x;rfl) l
@[simp] def aOm(l:List WX):mW (l.map BQ)=true:=gX _ (by intro x;rfl) l
structure gP where
  bN:bE
  eY:List WX
deriving DecidableEq
@[simp] def dP(g:Tg)(x:gP):List AV:=[.str x.bN,.sl g 7 (x.eY.map BQ)]
def eF(x:gP):Nat:=x.bN.length+(dS Ho x.eY)
@[simp] def aGo(g:Tg)(b:Bool)(l:List gP):lW (λ_=>some .view) b (l.map (dP g))=l.map (dP .view):=dD (by intro x;simp) l
@[simp] def aEj(i:Nat)(b:Bool)(l:List gP):lW (Fp i) b (l.map (dP .own))=l.map (dP (.mQ i)):=dD (by intro x;simp) l
@[simp] def aEk(i:Nat)(b:Bool)(l:List gP):lW (Fp i) b (l.map (dP .view))=l.map (dP .view):=dD (by intro x;simp) l
@[simp] def aEl(i j:Nat)(b:Bool)(l:List gP):lW (Fp i) b (l.map (dP (.mQ j)))=l.map (dP (.mQ j)):=dD (by intro x;simp) l
@[simp] def aEm(b:Bool)(l:List gP):lW Km b (l.map (dP .own))=l.map (dP .view):=dD (by intro x;simp) l
@[simp] def aEn(b:Bool)(l:List gP):lW Km b (l.map (dP .view))=l.map (dP .view):=dD (by intro x;simp) l
@[simp] def aKa(l:List gP):mW (l.map (dP .own))=true:=gX _ (by intro x;simp) l
structure Yy where
  top:bE
  to:aR
  jL:bG
  til:Int
deriving DecidableEq
@[simp] def Te(x:Yy):List AV:=[.str x.top,.str x.to.bN,.str x.to.iD,.int .i64 x.jL.qQ,.int .i64 x.jL.kind,.str x.jL.body,.int .i64 x.jL.dm,.bool x.jL.shares,.str x.jL.bO,.int .i64 x.til]
@[simp] def aP5(t:Tg->Option Tg)(b:Bool)(l:List Yy):lW t b (l.map Te)=l.map Te:=dD (by intro x;rfl) l
@[simp] def aLm(l:List Yy):mW (l.map Te)=true:=gX _ (by intro x;rfl) l
structure FK where
  bJ:List Yy
deriving DecidableEq
@[simp] def AB(g:Tg)(x:FK):List AV:=[.sl g 10 (x.bJ.map Te)]
@[simp] def aKb(g:Tg)(b:Bool)(l:List FK):lW (λ_=>some .view) b (l.map (AB g))=l.map (AB .view):=dD (by intro x;simp) l
@[simp] def aGp(i:Nat)(b:Bool)(l:List FK):lW (Fp i) b (l.map (AB .own))=l.map (AB (.mQ i)):=dD (by intro x;simp) l
@[simp] def aGq(i:Nat)(b:Bool)(l:List FK):lW (Fp i) b (l.map (AB .view))=l.map (AB .view):=dD (by intro x;simp) l
@[simp] def aGr(i j:Nat)(b:Bool)(l:List FK):lW (Fp i) b (l.map (AB (.mQ j)))=l.map (AB (.mQ j)):=dD (by intro x;simp) l
@[simp] def aGs(b:Bool)(l:List FK):lW Km b (l.map (AB .own))=l.map (AB .view):=dD (by intro x;simp) l
@[simp] def aGt(b:Bool)(l:List FK):lW Km b (l.map (AB .view))=l.map (AB .view):=dD (by intro x;simp) l
@[simp] def aLn(l:List FK):mW (l.map (AB .own))=true:=gX _ (by intro x;simp) l
structure aAv where
  top:bE
  to:aR
  aT6:Bool
deriving DecidableEq
@[simp] def aAw(x:aAv):List AV:=[.str x.top,.str x.to.bN,.str x.to.iD,.bool x.aT6]
@[simp] def aSm(t:Tg->Option Tg)(b:Bool)(l:List aAv):lW t b (l.map aAw)=l.map aAw:=dD (by intro x;rfl) l
@[simp] def aOn(l:List aAv):mW (l.map aAw)=true:=gX _ (by intro x;rfl) l
structure dw where
  aLo:List gP
  cache:FK
  log:List aAv
  now:Int
deriving DecidableEq
@[simp] def Oh(g:Tg)(x:dw):List AV:=[.sl g 2 (x.aLo.map (dP g)),.sl g 10 (x.cache.bJ.map Te),.sl g 4 (x.log.map aAw),.int .i64 x.now]
@[simp] def aOo(g:Tg)(b:Bool)(l:List dw):lW (λ_=>some .view) b (l.map (Oh g))=l.map (Oh .view):=dD (by intro x;simp) l
@[simp] def aLp(i:Nat)(b:Bool)(l:List dw):lW (Fp i) b (l.map (Oh .own))=l.map (Oh (.mQ i)):=dD (by intro x;simp) l
@[simp] def aLq(i:Nat)(b:Bool)(l:List dw):lW (Fp i) b (l.map (Oh .view))=l.map (Oh .view):=dD (by intro x;simp) l
@[simp] def aLr(i j:Nat)(b:Bool)(l:List dw):lW (Fp i) b (l.map (Oh (.mQ j)))=l.map (Oh (.mQ j)):=dD (by intro x;simp) l
@[simp] def aLs(b:Bool)(l:List dw):lW Km b (l.map (Oh .own))=l.map (Oh .view):=dD (by intro x;simp) l
@[simp] def aLt(b:Bool)(l:List dw):lW Km b (l.map (Oh .view))=l.map (Oh .view):=dD (by intro x;simp) l
@[simp] def aP6(l:List dw):mW (l.map (Oh .own))=true:=gX _ (by intro x;simp) l
structure qF where
  nI:Int
  to:aR
  eZ:bE
  node:Int
  done:Bool
  code:Int
  body:bE
deriving DecidableEq
@[simp] def uL(x:qF):List AV:=[.int .i64 x.nI,.str x.to.bN,.str x.to.iD,.str x.eZ,.int .i64 x.node,.bool x.done,.int .i64 x.code,.str x.body]
def nO(x:qF):Nat:=(aW x.to)+x.eZ.length+x.body.length
@[simp] def aSn(t:Tg->Option Tg)(b:Bool)(l:List qF):lW t b (l.map uL)=l.map uL:=dD (by intro x;rfl) l
@[simp] def aOp(l:List qF):mW (l.map uL)=true:=gX _ (by intro x;rfl) l
structure fO where
  to:aR
  done:Bool
  code:Int
  body:bE
deriving DecidableEq
@[simp] def gH(x:fO):List AV:=[.str x.to.bN,.str x.to.iD,.bool x.done,.int .i64 x.code,.str x.body]
def cB(x:fO):Nat:=(aW x.to)+x.body.length
@[simp] def aOq(t:Tg->Option Tg)(b:Bool)(l:List fO):lW t b (l.map gH)=l.map gH:=dD (by intro x;rfl) l
@[simp] def VL(l:List fO):mW (l.map gH)=true:=gX _ (by intro x;rfl) l
structure aF where
  gZ:aR
  bO:gG
  tok:nN
  bT:List bM
  uM:Bool
  aC:bC
  aD:List qF
  aL:List fO
  bJ:List aR
  block:Int
  dZ:Int
  eH:Int
  fA:Int
  uN:List aR
  log:List bE
  dX:Bool
deriving DecidableEq
@[simp] def aH(g:Tg)(x:aF):List AV:=[.str x.gZ.bN,.str x.gZ.iD,.bool x.bO.zD,.sl g 1 (x.bO.iN.map eD),.sl g 1 (x.bO.kH.map eD),.sl g 1 (x.bO.kJ.map eD),.str x.bO.uC,.str x.tok.rest,.sl g 4 (x.bT.map (dK g)),.bool x.uM,.sl g 4 (x.aC.aJ.map (gU g)),.sl g 1 (x.aC.bD.map nM),.sl g 8 (x.aD.map uL),.sl g 5 (x.aL.map gH),.sl g 2 (x.bJ.map aS),.int .i64 x.block,.int .i64 x.dZ,.int .i64 x.eH,.int .i64 x.fA,.sl g 2 (x.uN.map aS),.sl g 1 (x.log.map eD),.bool x.dX]
def aM(x:aF):Nat:=(aW x.gZ)+(eT x.bO)+(sV x.tok)+(dS dU x.bT)+(aV x.aC)+(dS nO x.aD)+(dS cB x.aL)+(dS aW x.bJ)+(dS aW x.uN)+(dS iM x.log)
@[simp] def aLu(g:Tg)(b:Bool)(l:List aF):lW (λ_=>some .view) b (l.map (aH g))=l.map (aH .view):=dD (by intro x;simp) l
@[simp] def aKc(i:Nat)(b:Bool)(l:List aF):lW (Fp i) b (l.map (aH .own))=l.map (aH (.mQ i)):=dD (by intro x;simp) l
@[simp] def aKd(i:Nat)(b:Bool)(l:List aF):lW (Fp i) b (l.map (aH .view))=l.map (aH .view):=dD (by intro x;simp) l
@[simp] def aKe(i j:Nat)(b:Bool)(l:List aF):lW (Fp i) b (l.map (aH (.mQ j)))=l.map (aH (.mQ j)):=dD (by intro x;simp) l
@[simp] def aKf(b:Bool)(l:List aF):lW Km b (l.map (aH .own))=l.map (aH .view):=dD (by intro x;simp) l
@[simp] def aKg(b:Bool)(l:List aF):lW Km b (l.map (aH .view))=l.map (aH .view):=dD (by intro x;simp) l
@[simp] def aOr(l:List aF):mW (l.map (aH .own))=true:=gX _ (by intro x;simp) l
structure DD where
  aC:bC
  log:List bE
  aGu:List bE
  aT7:iX
  dX:Bool
deriving DecidableEq
@[simp] def xN(g:Tg)(x:DD):List AV:=[.sl g 4 (x.aC.aJ.map (gU g)),.sl g 1 (x.aC.bD.map nM),.sl g 1 (x.log.map eD),.sl g 1 (x.aGu.map eD),.sl g 2 (x.aT7.mF.map Bt),.bool x.dX]
@[simp] def aGv(g:Tg)(b:Bool)(l:List DD):lW (λ_=>some .view) b (l.map (xN g))=l.map (xN .view):=dD (by intro x;simp) l
@[simp] def aEo(i:Nat)(b:Bool)(l:List DD):lW (Fp i) b (l.map (xN .own))=l.map (xN (.mQ i)):=dD (by intro x;simp) l
@[simp] def aEp(i:Nat)(b:Bool)(l:List DD):lW (Fp i) b (l.map (xN .view))=l.map (xN .view):=dD (by intro x;simp) l
@[simp] def aEq(i j:Nat)(b:Bool)(l:List DD):lW (Fp i) b (l.map (xN (.mQ j)))=l.map (xN (.mQ j)):=dD (by intro x;simp) l
@[simp] def aEr(b:Bool)(l:List DD):lW Km b (l.map (xN .own))=l.map (xN .view):=dD (by intro x;simp) l
@[simp] def aEs(b:Bool)(l:List DD):lW Km b (l.map (xN .view))=l.map (xN .view):=dD (by intro x;simp) l
@[simp] def aKh(l:List DD):mW (l.map (xN .own))=true:=gX _ (by intro x;simp) l
structure F4 where
  to:aR
  jL:bG
  used:Bool
deriving DecidableEq
@[simp] def F5(x:F4):List AV:=[.str x.to.bN,.str x.to.iD,.int .i64 x.jL.qQ,.int .i64 x.jL.kind,.str x.jL.body,.int .i64 x.jL.dm,.bool x.jL.shares,.str x.jL.bO,.bool x.used]
@[simp] def aP7(t:Tg->Option Tg)(b:Bool)(l:List F4):lW t b (l.map F5)=l.map F5:=dD (by intro x;rfl) l
@[simp] def aLv(l:List F4):mW (l.map F5)=true:=gX _ (by intro x;rfl) l
mutual
def closed(m:Nat):AV->Bool
 | .obj i _=>decide (i<m)
 | .ptr i _ _ _=>decide (i<m)
 | .sl (.mQ i) _ _=>decide (i<m)
 | .iW (.mQ i) _ _=>decide (i<m)
 | .agg c=>iK m c
 | .iL c=>iK m c
 | .fn _ c=>iK m c
 |_=>true
def iK(m:Nat):List AV->Bool
 |[]=>true
 |x::xs=>closed m x&&iK m xs
end
def zB{o:List aI}{G:List CO}{m i:Nat}{ob:aI}{g:CO}:look (o.take m) (G.take m) i ob g↔i<m/\look o G i ob g:=by unfold look;rw[CC,CC];by_cases h:i<m<;>simp[h]
def Br{P:Program}[aG P]{B:gL P}{o:List aI}{G:List CO}{w:World}(m:Nat):(∀b,(env B o G w).A b->(env B (o.take m) (G.take m) w).A b)/\
  (∀i,i<m->((env B (o.take m) (G.take m) w).V i↔(env B o G w).V i))/\(∀i b,i<m->(env B o G w).D i b->(env B (o.take m) (G.take m) w).D i b):=by
 refine⟨λb h=>⟨h.1,λi ob g hl=>h.2 i ob g (zB.1 hl).2⟩,λi hi=> ?_,λi b hi h=> ?_⟩
 .simp only[env,CC,hi,eS]
 .obtain ⟨ob,g,hl,h⟩:=h;exact⟨ob,g,zB.2 ⟨hi,hl⟩,h⟩
def Hl{P:Program}[aG P]{B:gL P}{o:List aI}{G:List CO}{w:World}{m i:Nat}(hi:i<m):fG w ((env B o G w).sub (.mQ i)) w ((env B (o.take m) (G.take m) w).sub (.mQ i)):=by have h:=Br (B:=B) (o:=o) (G:=G) (w:=w) m;exact⟨λb hb=>⟨h.1 b hb,rfl⟩,λ_ _=>trivial,λj b _ hd=>⟨⟨hd.1,h.2.2 i b hi hd.2⟩,rfl⟩,λ_ _ _ h=>h.elim,λ_ _ _ _ _ h=>h.elim⟩
def xM{P:Program}[aG P]{B:gL P}{o:List aI}{G:List CO}{w:World}(m:Nat):fG w (env B o G w).plain w (env B (o.take m) (G.take m) w).plain:=by have h:=Br (B:=B) (o:=o) (G:=G) (w:=w) m;exact⟨λb hb=>⟨h.1 b hb,rfl⟩,λ_ _=>trivial,λ_ _ _ h=>h.elim,λ_ _ _ h=>h.elim,λ_ _ _ _ _ h=>h.elim⟩
mutual
theorem aF6{P:Program}[aG P]{B:gL P}{o:List aI}{G:List CO}{w:World}{m:Nat}:∀(x:AV) (v:Value) (fp:List Nat),closed m x=true->R w (env B o G w) x v fp->R w (env B (o.take m) (G.take m) w) x v fp
 | .int _ _,_,_,_,h=>by simpa [R]using h
 | .bool _,_,_,_,h=>by simpa [R]using h
 | .str _,_,_,_,h=>by simpa [R]using h
 | .sl .own n l,v,fp,_,h=>by obtain⟨a,cap,hv,eQ⟩:=vU.1 h;exact vU.2 ⟨a,cap,hv,eQ.keeps (xM m) (λ_ _=>rfl)⟩
 | .sl .view n l,v,fp,_,h=>by
  simp only[R]at h⊢;rcases h with h|⟨a,cap,hv,hl,h⟩
  .exact h.1.elim
  .refine .inr ⟨a,cap,hv,hl,?_⟩;rcases h with h|h|⟨hg,hf,h⟩
   .exact absurd h.1 (by simp)
   .exact absurd h.1 (by simp)
   .refine .inr (.inr ⟨hg,hf,?_⟩);rcases h with h|⟨b,off,ha,ht,hr⟩
    .exact .inl h
    .exact .inr ⟨b,off,ha,(Br m).1 b ht,qD (xM m) _ _ _ _ _ rfl (by simp) hr⟩
 | .sl (.mQ i) n l,v,fp,hc,h=>by
  have hi:i<m:=by simpa [closed]using hc
  simp only[R]at h⊢;rcases h with h|⟨a,cap,hv,hl,h⟩
  .exact .inl ⟨λhV=>h.1 (((Br m).2.1 i hi).1 hV),h.2⟩
  .refine .inr ⟨a,cap,hv,hl,?_⟩;rcases h with h|h|⟨hg,hf,h⟩
   .exact absurd h.1 (by simp)
   .exact absurd h.1 (by simp)
   .refine .inr (.inr ⟨hg,hf,?_⟩);rcases h with h|⟨b,off,ha,ht,hr⟩
    .exact .inl h
    .exact .inr ⟨b,off,ha,(Br m).2.2 i b hi ht,qD (Hl hi) _ _ _ _ _ rfl (by simp) hr⟩
 | .iW .own c off,v,fp,_,h=>by
  simp only[R]at h⊢;rcases h with h|⟨_,_,_,_,_,ht,_⟩
  .exact h.1.elim
  .exact ht.elim
 | .iW .view c off,v,fp,_,h=>by
  simp only[R]at h⊢;rcases h with h|⟨hf,b,o',cs,hv,ht,hcs,hone,hr⟩
  .exact h.1.elim
  .exact .inr ⟨hf,b,o',cs,hv,(Br m).1 b ht,hcs,hone,gQ (xM m) _ _ _ (by simp) hr⟩
 | .iW (.mQ i) c off,v,fp,hc,h=>by
  have hi:i<m:=by simpa [closed]using hc
  simp only[R]at h⊢;rcases h with h|⟨hf,b,o',cs,hv,ht,hcs,hone,hr⟩
  .exact .inl ⟨λhV=>h.1 (((Br m).2.1 i hi).1 hV),h.2⟩
  .exact .inr ⟨hf,b,o',cs,hv,(Br m).2.2 i b hi ht,hcs,hone,gQ (Hl hi) _ _ _ (by simp) hr⟩
 | .obj i bY,v,fp,hc,h=>by
  have hi:i<m:=by simpa [closed]using hc
  simp only[R]at h⊢;obtain⟨hf,ob,g,hl,h⟩:=h;exact⟨hf,ob,g,zB.2 ⟨hi,hl⟩,h⟩
 | .ptr i bY idx off,v,fp,hc,h=>by
  have hi:i<m:=by simpa [closed]using hc
  simp only[R]at h⊢;obtain⟨hf,ob,g,hl,h⟩:=h;exact⟨hf,ob,g,zB.2 ⟨hi,hl⟩,h⟩
 | .agg c,v,fp,hc,h=>by simp only[R]at h⊢;obtain⟨cs,h1,h2,h3⟩:=h;exact⟨cs,h1,h2,Cr c cs fp (by simpa [closed]using hc) h3⟩
 | .iL c,v,fp,hc,h=>by simp only[R]at h⊢;obtain⟨cs,h1,h3⟩:=h;exact⟨cs,h1,Cr c cs fp (by simpa [closed]using hc) h3⟩
 | .fn f c,v,fp,hc,h=>by simp only[R]at h⊢;obtain⟨h0,cs,h1,h3⟩:=h;exact⟨h0,cs,h1,Cr c cs [] (by simpa [closed]using hc) h3⟩
 | .aB,_,_,_,h=>by simpa [R]using h
theorem Cr{P:Program}[aG P]{B:gL P}{o:List aI}{G:List CO}{w:World}{m:Nat}:∀(c:List AV) (cs:List Value) (fp:List Nat),iK m c=true->Rc w (env B o G w) c cs fp->Rc w (env B (o.take m) (G.take m) w) c cs fp
 |[],[],_,_,h=>by simpa [Rc]using h
 |[],_::_,_,_,h=>by simp[Rc]at h
 |_::_,[],_,_,h=>by simp[Rc]at h
 |x::xs,c::cs,fp,hc,h=>by simp only[Rc]at h⊢;simp only[iK,eK]at hc;obtain⟨f1,f2,h1,h2,h3⟩:=h;exact⟨f1,f2,aF6 x c f1 hc.1 h1,Cr xs cs f2 hc.2 h2,h3⟩
end
def eU(m:Nat):List aI->Bool
 |[]=>true
 |ob::r=>(!ob.box || match ob.fM with
  |[e]=>iK m e
  |_=>false)&&eU m r
def PN{m:Nat}:∀{o:List aI},eU m o=true->∀ob∈o,ob.box=true->∃e,ob.fM=[e]/\iK m e=true
 |ob::r,h,x,hx,hb=>by
  simp only[eU,eK]at h;rcases mC.1 hx with rfl|hx
  .have h1:=h.1;rw[hb]at h1;simp only[DB,GW]at h1;split at h1
   .rename_i e he;exact⟨e,he,h1⟩
   .cases h1
  .exact PN h.2 x hx hb
def aQ{t t':List AV}{o o':List aI}(m:Nat)(ho:o.take m=o':=by simp)(h:wk t t':=by simp)(hc:iK m t'=true:=by simp)(hb:eU m o'=true:=by simp):mZ ⟨t,o⟩ ⟨t',o'⟩:=by
 subst ho;rintro P _ B a w ⟨G,r⟩;refine⟨G.take m,?_⟩;exact
  {len:=by simp[r.len]
   defs:=r.defs
   ok:=λi ob g hl aY=>by
    have Dw:=(zB.1 hl).2;obtain⟨fp,eQ,hnd,hF⟩:=r.ok i ob g Dw aY;refine⟨fp,?_,hnd,hF⟩;cases hbx:ob.box with
    |false=>rw[hbx]at eQ;exact eQ.keeps (xM m) (λ_ _=>rfl)
    |true=>
     rw[hbx]at eQ;obtain⟨e,he,hce⟩:=PN hb ob (nB hl.1) hbx;rw[he]at eQ⊢;obtain⟨dF,eQ⟩:=eQ;refine⟨dF,?_⟩;rcases eQ with h|⟨b,off,C,ety,fz,sH,ha,hbk,hz,h1,h2,h3,rfl,hr⟩
     .exact .inl h
     .refine .inr ⟨b,off,C,ety,fz,sH,ha,hbk,hz,h1,h2,h3,rfl,?_⟩;simp only[Rr]at hr⊢;obtain⟨cs,f1,f2,k1,k2,k3,k4,k5,k6⟩:=hr;exact⟨cs,f1,f2,k1,k2,k3,Cr e cs f1 hce k4,k5,k6⟩
   fV:=λi j oi oj gi gj b hi hj h1 h2 h3 h4=>r.fV i j _ _ _ _ b (zB.1 hi).2 (zB.1 hj).2 h1 h2 h3 h4
   eB:=λi ob g b hl h1 h2=>r.eB i ob g b (zB.1 hl).2 h1 h2
   tmps:=Cr _ _ _ hc (JJ h r.tmps)
   size:=r.size
   frame:=r.frame
   base:=r.base
   same:=r.same}
def aP{t t':List AV}{o o':List aI}(ho:o=o':=by simp)(h:wk t t':=by simp):mZ ⟨t,o⟩ ⟨t',o'⟩:=ho▸zS h
attribute [simp] closed iK eU
def qX(J:Nat->Bool)(i:Nat):Nat->Bool:=λj=>if j=i then true else J j
def dv(J:Nat->Bool)(i:Nat)(v:AV):AV:=if J i=true then v else .aB
@[simp] def aX3(J:Nat->Bool)(i:Nat)(v:AV):dv (qX J i) i v=v:=by simp[dv,qX]
def zC(P:Program)[aG P](S:(Nat->Bool)->AS):Nat->List Oper->Prop
 |_,[]=>True
 |i,o::r=>(o.guard=none/\∀J:Nat->Bool,J i=false->(∀e∈o.after.toList,Region.binds .any e=true->J e.on=true)->uA P o (S J) λs'=>mZ s' (S (qX J i)))/\zC P S (i+1) r
def fwd:Nat->List Oper->Bool
 |_,[]=>true
 |i,o::r=>(o.after.toList.all λe=> !Region.binds .any e || decide (e.on<i))&&fwd (i+1) r
def JL{P:Program}[aG P]{S:(Nat->Bool)->AS}:∀{l:List Oper} {k i:Nat} {o:Oper},zC P S k l->l[i]? =some o->
  o.guard=none/\∀J:Nat->Bool,J (k+i)=false->(∀e∈o.after.toList,Region.binds .any e=true->J e.on=true)->uA P o (S J) λs'=>mZ s' (S (qX J (k+i)))
 |[],_,_,_,_,h=>by simp at h
 |x::xs,k,0,o,hd,h=>by simp at h;subst h;exact hd.1
 |x::xs,k,i+1,o,hd,h=>by
  have:=JL (k:=k+1) (i:=i) hd.2 (by simpa using h)
  rwa[show k+1+i=k+(i+1)by omega]at this
def aAs:∀{l:List Oper} {k i:Nat} {o:Oper},fwd k l=true->l[i]? =some o->∀e∈o.after.toList,Region.binds .any e=true->e.on<k+i
 |[],_,_,_,_,h=>by simp at h
 |x::xs,k,0,o,hf,h=>by simp at h;subst h;simp only[fwd,eK,fW]at hf;intro e he hb;have:=hf.1 e he;simpa [hb]using this
 |x::xs,k,i+1,o,hf,h=>by
  simp only[fwd,eK]at hf;have:=aAs (k:=k+1) (i:=i) hf.2 (by simpa using h)
  rwa[show k+1+i=k+(i+1)by omega]at this
def left(l:List Bool):Nat:=(l.filter λb=> !b).length
def EK(b:Bool)(l:List Bool):left (b::l)=(if b=true then 0 else 1)+left l:=by cases b<;>simp[left]<;>omega
def Hm:∀{l:List Bool} {i:Nat},l[i]? =some false->left (l.set i true)+1=left l
 |[],_,h=>by simp at h
 |b::l,0,h=>by simp at h;subst h;simp[EK];omega
 |b::l,i+1,h=>by have:=Hm (l:=l) (i:=i) (by simpa using h);rw[cH,EK,EK];omega
def IX{l:List Bool}(h:left l=0):∀{i:Nat} {b:Bool},l[i]? =some b->b=true:=by
 intro i b hb;have hm:=nB hb;cases b with
 |true=>rfl
 |false=>have:false∈l.filter (λb=> !b):=FF.2 ⟨hm,rfl⟩;rw[gO h]at this;simp at this
def Mh{l:List Bool}(h:left l≠0):∃i:Nat,l[i]? =some false/\∀j:Nat,j<i->l[j]? =some true:=by
 induction l with
 |nil=>simp[left]at h
 |cons b l ih=>
  cases b with
  |false=>exact⟨0,rfl,λj hj=>by omega⟩
  |true=>
   have:left l≠0:=by rw[EK]at h;simpa using h
   obtain⟨i,h1,h2⟩:=ih this;refine⟨i+1,by simpa using h1,λj hj=> ?_⟩;cases j with
   |zero=>rfl
   |succ j=>simpa using h2 j (by omega)
def aLh{P:Program}[aG P]{ops:Array Oper}{s:AS}{K:AS->Prop}(S:(Nat->Bool)->AS)(h0:mZ s (S λ_=>false))(hf:fwd 0 ops.toList=true)(hs:zC P S 0 ops.toList)
  (he:∀J:Nat->Bool,(∀i,i<ops.size->J i=true)->K (S J)):SV P ops s K:=by
 intro B a w Q hr hk;have key:∀(fuel:Nat) (listed:Array Bool) (a:Act) (w:World),listed.size=ops.size->left listed.toList=fuel->Rel B (S λi=>listed.getD i false) a w->wpAny P .any ops Q fuel listed a w:=by
  intro fuel;induction fuel with
  |zero=>
   intro listed a w hl hz r;have hall:∀i,i<ops.size->listed.getD i false=true:=by
    intro i hi;have hi':i<listed.size:=by omega
    have:=IX hz (i:=i) (b:=listed[i]) (by simp[hi']);simp[Array.getD,hi',this]
   refine⟨?_,hk _ _ _ (he _ hall) r⟩;unfold Region.ready;rw[filter_eq_nil_iff];intro i hi;have hi2:i<ops.size:=by simpa using hi
   have h1:=hall i hi2;have hi':i<listed.size:=by omega
   have h2:listed.getD i true=true:=by rw[gC]at h1⊢;rw[rS hi']at h1⊢;exact h1
   rw[h2];simp
  |succ fuel ih=>
   intro listed a w hl hz r;constructor
   .intro hnil;exfalso;obtain⟨i,h1,h2⟩:=Mh (l:=listed.toList) (by omega);have hi:i<listed.size:=by have:=(cU.1 h1).1;simpa using this
    have BG:i<ops.size:=by omega
    have:i∈Region.ready .any ops listed:=by
     unfold Region.ready;rw[FF];refine⟨by simpa using BG,?_⟩;have h1':listed[i]? =some false:=by simpa using h1
     have hop:ops[i]? =some ops[i]:=by simp[BG]
     simp only[gC,h1',sB,Hk,AK,hop,oR];rw[FG];intro e he;cases hb:Region.binds .any e with
     |false=>simp
     |true=>
      have:=aAs hf (i:=i) (o:=ops[i]) (by simp[BG]) e (by simpa using he) hb;have h3:=h2 e.on (by omega);have h3':listed[e.on]? =some true:=by simpa using h3
      simp[h3']
    rw[hnil]at this;simp at this
   .intro i hi;unfold Region.ready at hi;rw[FF]at hi;obtain⟨hi1,hi2⟩:=hi;have BG:i<ops.size:=by simpa using hi1
    have hil:i<listed.size:=by omega
    have hop:ops[i]? =some ops[i]:=by simp[BG]
    simp only[eK,hop,oR,sB]at hi2;obtain⟨h1,h2⟩:=hi2;have h1':listed[i]? =some false:=by simp only[gC]at h1;rw[rS hil]at h1⊢;simpa using h1
    rw[FG]at h2;obtain⟨hg,hst⟩:=JL hs (i:=i) (o:=ops[i]) (by simp[BG]);rw[lR]at hst;have aX4:=hst (λj=>listed.getD j false) (by simp[h1']) (λe he hb=>by
     have:=h2 e (by simpa using he);simpa [hb]using this)
    obtain⟨s',hw,cz⟩:=Cq (B:=B) aX4;unfold wpOp;rw[hop];simp only[Region.wanted,hg,eS];refine .inl (cz a w _ Q r λa' w' r'=>ih _ _ _ (by simpa using hl) ?_ ?_)
    .have:=Hm (l:=listed.toList) (i:=i) (by simpa using h1');rw[BT];omega
    .have hu:qX (λj=>listed.getD j false) i=λj=>(listed.setIfInBounds i true).getD j false:=by
      funext j;unfold qX;simp only[gC,Array.getElem?_setIfInBounds];by_cases hj:j=i
      .subst hj;simp[hil]
      .simp [hj,AH hj]
     rw[<-hu];exact hw B a' w' r'
 obtain⟨G,r⟩:=hr;have r2:Rel B s a {w with drawn:=w.drawn+1}:=⟨G,{len:=r.len,defs:=r.defs,ok:=λi ob g hl aY=>(r.ok i ob g hl aY).keeps (w':={w with drawn:=w.drawn+1}) ⟨λb h=>⟨h,rfl⟩,λ_ h=>h,λ_ _ _ h=>⟨h,rfl⟩,λ_ _ _ h=>h,λ_ _ _ _ _ h=>h⟩ (λ_ _=>rfl),fV:=r.fV,eB:=r.eB,tmps:=gQ (w:=w) (E:=env B s.o G w) (w':={w with drawn:=w.drawn+1}) (E':=env B s.o G {w with drawn:=w.drawn+1}) ⟨λb h=>⟨h,rfl⟩,λ_ h=>h,λ_ _ _ h=>⟨h,rfl⟩,λ_ _ _ h=>h,λ_ _ _ _ _ h=>h⟩ _ _ _ (by simp) r.tmps,size:=r.size,frame:=r.frame,base:=r.base,same:=r.same.trans ⟨rfl,rfl,rfl⟩}⟩;refine key _ _ _ _ (by simp) (by simp[left]) ?_;have hJ:(λi=>(Array.replicate ops.size false).getD i false)=λ_=>false:=by funext i;simp only[gC,Fk];split<;>rfl
 rw[hJ];exact h0 _ _ _ r2
def Mi{P:Program}[aG P]{id:Nat}{l:List Oper}{s:AS}{Q:Exit->AS->Prop}(S:(Nat->Bool)->AS)(h0:mZ s (S λ_=>false))(hf:fwd 0 l=true)(hs:zC P S 0 l)
  (he:∀J:Nat->Bool,(∀i,i<l.length->J i=true)->Q .normal (S J)):qA P (.region id l.toArray true) s Q:=by
 unfold qA;exact aLh (ops:=l.toArray) S h0 (by simpa using hf) (by simpa using hs) (by simpa using he)
def jZ{P:Program}[aG P]{o:Oper}{s:AS}{K:AS->Prop}(h:∀K':AS->Prop,(∀s',K s'->K' s')->uA P o s K'):uA P o s K:=h K λ_ h=>h
def aOu{w:World}{E:Env}{e:List AV}{cs:List Value}{fp:List Nat}{c:Nat}{x:AV}(h:Rc w E e cs fp)(hx:e[c]? =some x):
  ∃a1 a2 a3 v,fp=a1++a2++a3/\cs[c]? =some v/\Rc w E (e.take c) (cs.take c) a1/\R w E x v a2/\Rc w E (e.drop (c+1)) (cs.drop (c+1)) a3:=by
 obtain⟨a1,r1,rfl,h1,h2⟩:=vV c h;have hlt:=(cU.1 hx).1;have hl:=iY h;have hd:e.drop c=x::e.drop (c+1):=by rw[oY hlt,(cU.1 hx).2]
 have hcs:cs.drop c=cs[c]'(by omega)::cs.drop (c+1):=oY (by omega);rw[hd,hcs]at h2;simp only[Rc]at h2;obtain⟨a2,a3,h3,h4,rfl⟩:=h2;exact⟨a1,a2,a3,_,by simp,aE (by omega),h1,h3,h4⟩
def aHf{w:World}{E:Env}{e:List AV}{cs:List Value}{a1 a2 a3:List Nat}{c:Nat}{x:AV}{v:Value}(hc:c<e.length)(hv:cs[c]? =some v)(h1:Rc w E (e.take c) (cs.take c) a1)(h2:R w E x v a2)(h3:Rc w E (e.drop (c+1)) (cs.drop (c+1)) a3):
  Rc w E (e.set c x) cs (a1++a2++a3):=by
 have e1:e.set c x=e.take c++x::e.drop (c+1):=by rw[set_eq_take_append_cons_drop];simp[hc]
 obtain⟨hlt,rfl⟩:=cU.1 hv;have e2:cs=cs.take c++cs[c]::cs.drop (c+1):=by simp
 rw[e1];conv=>arg 4;rw[e2]
 have:=mJ h1 (show Rc w E (x::e.drop (c+1)) (cs[c]::cs.drop (c+1)) (a2++a3)by simp only[Rc];exact⟨a2,a3,h2,h3,rfl⟩);simpa using this
def AV.Av:AV->Bool
 | .int _ _=>true
 | .bool _=>true
 | .str _=>true
 | .sl .own _ _=>true
 |_=>false
def aQn{w:World}{E E':Env}(hA:∀b,E.A b->E'.A b){x:AV}{v:Value}{fp:List Nat}(hx:x.Av=true)(h:R w E x v fp):R w E' x v fp:=by
 cases x with
 |int _ _=>simpa [R]using h
 |bool _=>simpa [R]using h
 |str _=>simpa [R]using h
 |sl g n l=>
  cases g with
  |own=>obtain⟨a,cap,hv,eQ⟩:=vU.1 h;exact vU.2 ⟨a,cap,hv,eQ.keeps ⟨λb hb=>⟨hA b hb,rfl⟩,λ_ _=>trivial,λ_ _ _ h=>h.elim,λ_ _ _ h=>h.elim,λ_ _ _ _ _ h=>h.elim⟩ (λ_ _=>rfl)⟩
  |_=>cases hx
 |_=>cases hx
def RI{w:World}{E E':Env}(hA:∀b,E.A b->E'.A b):∀{c:List AV} {cs:List Value} {fp:List Nat},c.all AV.Av=true->Rc w E c cs fp->Rc w E' c cs fp
 |[],[],_,_,h=>h
 |[],_::_,_,_,h=>by simp[Rc]at h
 |_::_,[],_,_,h=>by simp[Rc]at h
 |x::xs,c::cs,fp,hp,h=>by simp only[Rc]at h⊢;simp only[Cl,eK]at hp;obtain⟨f1,f2,h1,h2,h3⟩:=h;exact⟨f1,f2,aQn hA hp.1 h1,RI hA hp.2 h2,h3⟩
def YL{w:World}{E E':Env}(hA:∀b,E.A b->E'.A b):∀{l:List (List AV)} {b off n:Nat} {fp:List Nat},(l.all λr=>r.all AV.Av)=true->Rr w E l b off n fp->Rr w E' l b off n fp
 |[],_,_,_,_,_,h=>h
 |e::es,b,off,n,fp,hp,h=>by simp only[Rr]at h⊢;simp only[Cl,eK]at hp;obtain⟨cs,f1,f2,h1,h2,h3,h4,h5,h6⟩:=h;exact⟨cs,f1,f2,h1,h2,h3,RI hA hp.1 h4,YL hA hp.2 h5,h6⟩
def jf{α:Type}{p:α->Bool}{l:List α}(k:Nat)(h:l.all p=true):(l.take k).all p=true:=by rw[fW]at h⊢;exact λx hx=>h x (tA hx)
def jg{α:Type}{p:α->Bool}{l:List α}(k:Nat)(h:l.all p=true):(l.drop k).all p=true:=by rw[fW]at h⊢;exact λx hx=>h x (BW hx)
def JR{α:Type}(l:List α)(k:Nat)(x:α):(l.set k x).take k=l.take k:=by rw[take_set];exact Bs (by simp;omega)
def JS{α:Type}(l:List α)(k:Nat)(x:α):(l.set k x).drop (k+1)=l.drop (k+1):=by rw[drop_set];simp
def K5{t t':List AV}{o o':List aI}(i J k c:Nat){ob oj:aI}{e:List AV}{bY:Nat}(ho:o[i]? =some ob)(hj:o[J]? =some oj)(hij:i≠J)(hl:ob.fT=true)(hlj:oj.fT=true)(hbj:oj.box=false)
  (he:ob.fM[k]? =some e) (hc:e[c]? =some (.obj J bY)) (Ap:oj.bY=bY) (hp:((ob.fM.set k (e.set c (.int .i64 0))).all λr=>r.all AV.Av)=true) (hbx:ob.box=true)
  (ho':(o.set J oj.kill).set i {ob with box:=false,fM:=ob.fM.set k (e.set c (.sl .own oj.n oj.fM))}=o') (hw:wk t t'):mZ ⟨t,o⟩ ⟨t',o'⟩:=by
 subst ho';rintro P _ B a w ⟨G,r⟩;obtain⟨g,hlk⟩:=r.look ho;obtain⟨gj,aL9⟩:=r.look hj;obtain⟨fp,eQ,hnd,hF⟩:=r.ok i ob g hlk hl;obtain⟨fj,Px,aK0,LJ⟩:=r.ok J oj gj aL9 hlj;simp only[hbx,Env.of,eS]at eQ;simp only[hbj,Env.of,cY,eW]at Px;obtain⟨dF,⟨h,_⟩|⟨b,off,C,ty,fz,sH,ha,hbk,hz,h1,h2,h3,rfl,hr⟩⟩:=eQ
 .rw [h]at he;simp at he
 have hk:k<ob.fM.length:=(cU.1 he).1;have IU:c<e.length:=(cU.1 hc).1;obtain⟨f1,f2,f3,cs,rfl,hn,hcs,hone,hre,hr1,hr3⟩:=Cy hr he;obtain⟨a1,a2,a3,v,rfl,hv,k1,k2,k3⟩:=aOu hre hc;simp only[R]at k2;obtain⟨rfl,PE,g2,hl2,_,hh,_⟩:=k2;obtain⟨rfl,rfl⟩:=lT aL9 hl2;have hvs:=hh hlj Ap;obtain⟨r2,kk⟩:=r.Sg hij hlk aL9 hl hlj;generalize hgt:({g with F:=λb=>g.F b\/gj.F b}:CO)=gt at r2 kk;have aYo:gt.a=g.a:=by rw[<-hgt]
 have aQo:gt.cap=g.cap:=by rw[<-hgt]
 have aYp:∀x,gt.F x↔g.F x\/gj.F x:=λx=>by rw[<-hgt]
 have LV:look (o.set J oj.kill) (G.set i gt) i ob gt:=by refine⟨by rw[lB (AH hij)];exact hlk.1,?_⟩;have:=(cU.1 hlk.2).1;simp[this]
 have hpe:(e.set c (.int .i64 0)).all AV.Av=true:=by rw[fW]at hp;exact hp _ (mem_iff_getElem?.2 ⟨k,by rw[mN hk]⟩)
 have hm:=r2.modify LV hl {ob with box:=false,fM:=ob.fM.set k (e.set c (.sl .own oj.n oj.fM))} gt w (eJ _) rfl (λ_=>⟨rfl,rfl,by simp⟩) (λb hb=> .inl hb) (λb hb jE=>⟨hb,jE⟩) (λ_ _ _=>rfl) (eJ _) (λkm _=>by
  generalize hE:env B ((o.set J oj.kill).set i {ob with box:=false,fM:=ob.fM.set k (e.set c (.sl .own oj.n oj.fM))}) ((G.set i gt).set i gt) w=E';replace km:fG w (env B (o.set J oj.kill) (G.set i gt) w) w E':=by rw[<-hE];exact km
  have kA:∀x,(env B o G w).A x->E'.A x:=λx hx=>(km.a x (kk.a x hx).1).1
  have kp:fG w (env B o G w).plain w E'.plain:=⟨λx hx=>⟨kA x hx,rfl⟩,λ_ _=>trivial,λ_ _ _ h=>h.elim,λ_ _ _ h=>h.elim,λ_ _ _ _ _ h=>h.elim⟩;refine⟨b::(f1++(a1++fj++a3)++f3),?_,?_,?_⟩
  .simp only[Env.of,cY,eW];refine⟨by simpa using dF,.inr ⟨b,off,C,ty,fz,_,by rw[aYo];exact ha,hbk,hz,by rw[aQo];exact h1,by rw[aQo];simpa using h2,by rw[aQo];exact h3,rfl,?_⟩⟩;refine ZL hk hn hcs hone (aHf IU hv ?_ ?_ ?_) ?_ ?_
   .exact RI (E:=env B o G w) (E':=E'.plain) kA (by have:=jf c hpe;rwa[JR]at this) k1
   .exact vU.2 ⟨gj.a,gj.cap,hvs,Px.keeps kp (λ_ _=>rfl)⟩
   .exact RI (E:=env B o G w) (E':=E'.plain) kA (by have:=jg (c+1) hpe;rwa[JS]at this) k3
   .exact YL (E:=env B o G w) (E':=E'.plain) kA (by have:=jf k hp;rwa[JR]at this) hr1
   .exact YL (E:=env B o G w) (E':=E'.plain) kA (by have:=jg (k+1) hp;rwa[JS]at this) hr3
  .have hdj:∀x∈fj,x∉b::(f1++(a1++[]++a3)++f3):=λx hx hx2=>hij (r.fV _ _ _ _ _ _ x hlk aL9 hl hlj (hF x hx2) (LJ x hx))
   have hp2:(b::(f1++(a1++fj++a3)++f3)).Perm ((b::(f1++(a1++[]++a3)++f3))++fj):=by rw[cW];refine Perm.cons b ?_;simp only[rL,eA];refine GO f1 (GO a1 ?_);rw[<-rL a3];exact perm_append_comm
   refine hp2.nodup_iff.2 (lE.2 ⟨hnd,aK0,λx hx y hy e=> ?_⟩);subst e;exact hdj x hy hx
  .intro x hx;rw[aYp];have:x∈b::(f1++(a1++[]++a3)++f3)\/x∈fj:=by simp only[mC,fR,DH,or_false]at hx⊢;grind
   rcases this with h|h
   .exact .inl (hF x h)
   .exact .inr (LJ x h))
 refine⟨(G.set i gt).set i gt,{hm.1 with tmps:= ?_}⟩;exact JJ hw hm.1.tmps
mutual
def DR(i:Nat):AV->Bool
 | .sl (.mQ j) _ _=>decide (j≠i)
 | .iW (.mQ j) _ _=>decide (j≠i)
 | .agg c=>tV i c
 | .iL c=>tV i c
 | .fn _ c=>tV i c
 |_=>true
def tV(i:Nat):List AV->Bool
 |[]=>true
 |x::xs=>DR i x&&tV i xs
end
def Env.no(E:Env)(i:Nat):Env:={E with D:=λj x=>j∉[i]/\E.D j x}
def jh{w:World}{E:Env}{i j:Nat}(h:j≠i):fG w (E.sub (.mQ j)) w ((E.no i).sub (.mQ j)):=
 ⟨λb h=>⟨h,rfl⟩,λ_ _=>trivial,λk b _ hd=>⟨⟨hd.1,by simpa using h,hd.2⟩,rfl⟩,λ_ _ _ h=>h.elim,λ_ _ _ _ _ h=>h.elim⟩
mutual
theorem aMa{w:World}{E:Env}{i:Nat}:∀(x:AV) (v:Value) (fp:List Nat),DR i x=true->R w E x v fp->R w (E.no i) x v fp
 | .int _ _,_,_,_,h=>by simpa [R]using h
 | .bool _,_,_,_,h=>by simpa [R]using h
 | .str _,_,_,_,h=>by simpa [R]using h
 | .sl .own n l,v,fp,_,h=>vU.2 (vU.1 h)
 | .sl .view n l,v,fp,_,h=>by
  simp only[R]at h⊢;rcases h with h|⟨a,cap,hv,hl,h⟩
  .exact h.1.elim
  .refine .inr ⟨a,cap,hv,hl,?_⟩;rcases h with h|h|⟨hg,hf,h⟩
   .exact absurd h.1 (by simp)
   .exact absurd h.1 (by simp)
   .exact .inr (.inr ⟨hg,hf,h⟩)
 | .sl (.mQ j) n l,v,fp,hc,h=>by
  have hi:j≠i:=by simpa [DR]using hc
  simp only[R]at h⊢;rcases h with h|⟨a,cap,hv,hl,h⟩
  .exact .inl h
  .refine .inr ⟨a,cap,hv,hl,?_⟩;rcases h with h|h|⟨hg,hf,h⟩
   .exact absurd h.1 (by simp)
   .exact absurd h.1 (by simp)
   .refine .inr (.inr ⟨hg,hf,?_⟩);rcases h with h|⟨b,off,ha,ht,hr⟩
    .exact .inl h
    .exact .inr ⟨b,off,ha,⟨by simpa using hi,ht⟩,qD (jh hi) _ _ _ _ _ rfl (by simp) hr⟩
 | .iW .own c off,v,fp,_,h=>by
  simp only[R]at h⊢;rcases h with h|⟨_,_,_,_,_,ht,_⟩
  .exact h.1.elim
  .exact ht.elim
 | .iW .view c off,v,fp,_,h=>by
  simp only[R]at h⊢;rcases h with h|⟨hf,b,o',cs,hv,ht,hcs,hone,hr⟩
  .exact h.1.elim
  .exact .inr ⟨hf,b,o',cs,hv,ht,hcs,hone,hr⟩
 | .iW (.mQ j) c off,v,fp,hc,h=>by
  have hi:j≠i:=by simpa [DR]using hc
  simp only[R]at h⊢;rcases h with h|⟨hf,b,o',cs,hv,ht,hcs,hone,hr⟩
  .exact .inl h
  .exact .inr ⟨hf,b,o',cs,hv,⟨by simpa using hi,ht⟩,hcs,hone,gQ (jh hi) _ _ _ (by simp) hr⟩
 | .obj _ _,v,fp,_,h=>by simp only[R]at h⊢;exact h
 | .ptr _ _ _ _,v,fp,_,h=>by simp only[R]at h⊢;exact h
 | .agg c,v,fp,hc,h=>by simp only[R]at h⊢;obtain⟨cs,h1,h2,h3⟩:=h;exact⟨cs,h1,h2,HZ c cs fp (by simpa [DR]using hc) h3⟩
 | .iL c,v,fp,hc,h=>by simp only[R]at h⊢;obtain⟨cs,h1,h3⟩:=h;exact⟨cs,h1,HZ c cs fp (by simpa [DR]using hc) h3⟩
 | .fn f c,v,fp,hc,h=>by simp only[R]at h⊢;obtain⟨h0,cs,h1,h3⟩:=h;exact⟨h0,cs,h1,HZ c cs [] (by simpa [DR]using hc) h3⟩
 | .aB,_,_,_,h=>by simpa [R]using h
theorem HZ{w:World}{E:Env}{i:Nat}:∀(c:List AV) (cs:List Value) (fp:List Nat),tV i c=true->Rc w E c cs fp->Rc w (E.no i) c cs fp
 |[],[],_,_,h=>by simpa [Rc]using h
 |[],_::_,_,_,h=>by simp[Rc]at h
 |_::_,[],_,_,h=>by simp[Rc]at h
 |x::xs,c::cs,fp,hc,h=>by simp only[Rc]at h⊢;simp only[tV,eK]at hc;obtain⟨f1,f2,h1,h2,h3⟩:=h;exact⟨f1,f2,aMa x c f1 hc.1 h1,HZ xs cs f2 hc.2 h2,h3⟩
end
def ji{w:World}{E:Env}{i:Nat}:∀(l:List (List AV)) (b off n:Nat) (fp:List Nat),(l.all λc=>tV i c)=true->Rr w E l b off n fp->Rr w (E.no i) l b off n fp
 |[],_,_,_,_,_,h=>by simpa [Rr]using h
 |e::es,b,off,n,fp,hc,h=>by simp only[Rr]at h⊢;simp only[Cl,eK]at hc;obtain⟨cs,f1,f2,h1,h2,h3,h4,h5,h6⟩:=h;exact⟨cs,f1,f2,h1,h2,h3,HZ e cs f1 hc.1 h4,ji es b _ n f2 hc.2 h5,h6⟩
def uH.DR{w:World}{E:Env}{n:Nat}{l:List (List AV)}{a:Option Addr}{cap:Nat}{fp:List Nat}{i:Nat}(hc:(l.all λc=>tV i c)=true)(h:uH w E n l a cap fp):uH w (E.no i) n l a cap fp:=by
 obtain⟨h1,h|⟨b,off,C,e,fz,sH,k1,k2,k3,k4,k5,k6,k7,k8⟩⟩:=h
 .exact ⟨h1,.inl h⟩
 .exact ⟨h1,.inr ⟨b,off,C,e,fz,sH,k1,k2,k3,k4,k5,k6,k7,ji l b off n sH hc k8⟩⟩
def vM{t t':List AV}{o o':List aI}(i k c:Nat){ob:aI}{e:List AV}{m:Nat}{rows:List (List AV)}(ho:o[i]? =some ob)(hl:ob.fT=true)(hb:ob.box=true)(hall:(o.all λx=> !x.box || x.fM.all λc=>tV i c)=true)(he:ob.fM[k]? =some e)
  (hc:e[c]? =some (.sl .own m rows)) (ho':o.set i {ob with fM:=ob.fM.set k (e.set c (.obj o.length 1))}++[⟨true,false,m,1,rows⟩]=o') (hw:wk (tJ (lV [i]) true t) t'):mZ ⟨t,o⟩ ⟨t',o'⟩:=by
 subst ho';rintro P _ B a w ⟨G,r⟩;have nb:∀{j x g},look o G j x g->x.box=true->(x.fM.all λc=>tV i c)=true:=λh hb=>by have:=fW.1 hall _ (nB h.1);simpa only[hb,DB,GW]using this
 obtain⟨g,hlk⟩:=r.look ho;obtain⟨fp,eQ,hnd,hF⟩:=r.ok i ob g hlk hl;simp only[hb,Env.of,eS]at eQ;replace eQ:=eQ.DR (nb hlk hb);obtain⟨dF,⟨h,_⟩|⟨b,off,C,ty,fz,sH,ha,hbk,hz,h1,h2,h3,rfl,hr⟩⟩:=eQ
 .rw [h]at he;simp at he
 have hk:k<ob.fM.length:=(cU.1 he).1;have IU:c<e.length:=(cU.1 hc).1;obtain⟨f1,f2,f3,cs,rfl,hn,hcs,hone,hre,hr1,hr3⟩:=Cy hr he;obtain⟨a1,a2,a3,v,rfl,hv,k1,k2,k3⟩:=aOu hre hc;obtain⟨ad,cap',hvs,Gn⟩:=vU.1 k2;have hlo:i<o.length:=(cU.1 ho).1;have hsub2:∀x∈a2,g.F x:=λx hx=>hF x (by simp[hx])
 generalize uF:({ob with fM:=ob.fM.set k (e.set c (.obj o.length 1))}:aI)=ob';generalize hg':({g with F:=λx=>g.F x/\x∉a2}:CO)=g';generalize hO:o.set i ob'++[⟨true,false,m,1,rows⟩]=o';generalize hGG:G.set i g'++[⟨ad,cap',λx=>x∈a2⟩]=G';have aOv:(G.set i g').length=(o.set i ob').length:=by simp[r.len]
 have back:∀{j x y},look o' G' j x y->(j=i/\x=ob'/\y=g')\/(j=o.length/\x=⟨true,false,m,1,rows⟩/\y=⟨ad,cap',λx=>x∈a2⟩)\/(j≠i/\look o G j x y):=by
  intro j x y h;rw[<-hO,<-hGG]at h;rcases pE aOv h with⟨_,h⟩|⟨hj,h⟩
  .rcases Bo h with⟨h1,h2,h3⟩|⟨h1,h2⟩
   .exact .inl ⟨h1,h2,h3⟩
   .exact .inr (.inr ⟨h1,h2⟩)
  .right;left;obtain⟨h1,h2⟩:=h;cases hd:j-(o.set i ob').length with
   |zero=>rw[hd]at h1 h2;simp at h1 h2 hj hd;exact⟨by omega,h1.symm,h2.symm⟩
   |succ n=>rw[hd]at h1;simp at h1
 have fi:look o' G' i ob' g':=by rw[<-hO,<-hGG];exact nC (tK hlk)
 have fJ:look o' G' o.length ⟨true,false,m,1,rows⟩ ⟨ad,cap',λx=>x∈a2⟩:=by rw[<-hO,<-hGG];have:=oF (o:=o.set i ob') (o2:=[⟨true,false,m,1,rows⟩]) (G:=G.set i g') (G2:=[⟨ad,cap',λx=>x∈a2⟩]) aOv (i:=0) (x:=⟨true,false,m,1,rows⟩) (y:=⟨ad,cap',λx=>x∈a2⟩) ⟨rfl,rfl⟩;simpa using this
 have fo:∀{j x y},j≠i->look o G j x y->look o' G' j x y:=λhj h=>by rw[<-hO,<-hGG];exact nC (Dx h hj)
 have aYq:ob'.fT=true:=by rw[<-uF];exact hl
 have aQp:ob'.n=ob.n:=by rw[<-uF]
 have aYr:ob'.bY=ob.bY:=by rw[<-uF]
 have aQq:ob'.fM.length=ob.fM.length:=by rw[<-uF];simp
 have hga:g'.a=g.a:=by rw[<-hg']
 have hgc:g'.cap=g.cap:=by rw[<-hg']
 have hgF:∀x,g'.F x↔g.F x/\x∉a2:=λx=>by rw[<-hg']
 let Er:Env:=(env B o G w).no i
 have rt1:pG (lV [i]) true (env B o G w) Er (λ_=>True):=by
  refine⟨λt e=>by simp[lV]at e,λt e=>by simp only[lV,eI]at e;exact⟨e.symm,λb hb=>hb⟩,λj t e=> ?_,λ_ _ _ _ h=>h,λ_ _ _ _ _ _ h=>h⟩;simp only[lV]at e;split at e
  .cases e
  .rename_i hiu;obtain rfl:=cX e;refine⟨by simp,?_,λb hb=>⟨hiu,hb⟩⟩;by_cases hV:(env B o G w).V j
   .exact .inl hV
   .exact .inr hV
 have kA:∀x,(env B o G w).A x->(env B o' G' w).A x:=λx hx=>⟨hx.1,λj y z hlj hjl hf=>by
  rcases back hlj with⟨rfl,rfl,rfl⟩|⟨rfl,rfl,rfl⟩|⟨_,h⟩
  .exact hx.2 _ _ _ hlk hl ((hgF x).1 hf).1
  .exact hx.2 _ _ _ hlk hl (hsub2 x hf)
  .exact hx.2 _ _ _ h hjl hf⟩
 have k2':fG w Er w (env B o' G' w):=by
  refine⟨λx hx=>⟨kA x hx,rfl⟩,λj h x hx=> ?_,λj x hV h=> ?_,λj bY x h=> ?_,λj bY p q x h=> ?_⟩
  .obtain ⟨y,hy⟩:=r.look hx;by_cases hj:j=i
   .subst hj;rw[ho]at hx;obtain rfl:=cX hx;exact hl
   .exact h x (fo hj hy).1
  .obtain ⟨hji,x',y,hlj,hjl,hf,jE⟩:=h;exact⟨⟨x',y,fo (by simpa using hji) hlj,hjl,hf,jE⟩,rfl⟩
  .obtain ⟨x',y,hlj,Ap,hh,hz⟩:=h;by_cases hj:j=i
   .subst hj;obtain⟨rfl,rfl⟩:=lT hlk hlj;exact⟨ob',g',fi,by omega,λ_ Yg=>by rw[hga,hgc,aQq];exact hh hl (by omega),hz⟩
   .exact ⟨x',y,fo hj hlj,Ap,hh,hz⟩
  .obtain ⟨x',y,hlj,Ap,hh,hz⟩:=h;by_cases hj:j=i
   .subst hj;obtain⟨rfl,rfl⟩:=lT hlk hlj;exact⟨ob',g',fi,by omega,λ_ Yg=>by rw[hga,aQp];exact hh hl (by omega),λ_ e2 e3 e4 y hy=>⟨(hz hb e2 e3 e4 y hy).1,λ_ Yg=>by rw[hgc];exact(hz hb e2 e3 e4 y hy).2 hl (by omega)⟩⟩
   .exact ⟨x',y,fo hj hlj,Ap,hh,hz⟩
 have kp:fG w (env B o G w).plain w (env B o' G' w).plain:=⟨λx hx=>⟨kA x hx,rfl⟩,λ_ _=>trivial,λ_ _ _ h=>h.elim,λ_ _ _ h=>h.elim,λ_ _ _ _ _ h=>h.elim⟩;have kf:fG w (env B o G w).plain w (env B o' G' w):=kp.trans (Pq w _);have hnd':=hnd;simp only[nF]at hnd';refine⟨G',{len:=by rw[<-hO,<-hGG];simp[r.len],defs:=r.defs,ok:= ?_,fV:= ?_,eB:= ?_,tmps:=JJ hw (gQ k2' _ _ _ (by simp) (Ar rt1 _ _ _ (by simp) r.tmps)),size:=r.size,frame:=r.frame,base:=r.base,same:=r.same}⟩
 .intro j x y hlj hjl;rcases back hlj with⟨rfl,rfl,rfl⟩|⟨rfl,rfl,rfl⟩|⟨hj,h⟩
  .refine ⟨b::(f1++(a1++[]++a3)++f3),?_,?_,?_⟩
   .rw [<-uF,<-hg'];simp only[hb,Env.of,eS];refine⟨by simpa using dF,.inr ⟨b,off,C,ty,fz,_,ha,hbk,hz,h1,by simpa using h2,h3,rfl,?_⟩⟩;refine ZL hk hn hcs hone (aHf IU hv (gQ k2' _ _ _ (λ_ _=>rfl) k1) ?_ (gQ k2' _ _ _ (λ_ _=>rfl) k3)) (qD k2' _ _ _ _ _ rfl (λ_ _=>rfl) hr1) (qD k2' _ _ _ _ _ rfl (λ_ _=>rfl) hr3);simp only[R];exact⟨trivial,_,_,fJ,eJ _,λ_ _=>hvs,λh=>by omega⟩
   .have hs:(f1++(a1++[]++a3)++f3).Sublist (f1++(a1++a2++a3)++f3):=((tP f1).append (((tP a1).append (nil_sublist a2)).append (tP a3))).append (tP f3);exact nF.2 ⟨λh=>hnd'.1 (hs.subset h),hs.nodup hnd'.2⟩
   .intro x hx;rw[hgF];have hin:x∈b::(f1++(a1++a2++a3)++f3):=by simp only[mC,fR,DH,or_false]at hx⊢;grind
    refine⟨hF x hin,λhx2=> ?_⟩;have hd:=hnd'.2;simp only[lE,fR]at hd;simp only[mC,fR,DH,or_false]at hx;rcases hx with rfl|(hx|hx|hx)|hx
    .exact hnd'.1 (by simp[hx2])
    .exact hd.1.2.2 x hx x (.inl (.inr hx2)) rfl
    .exact hd.1.2.1.1.2.2 x hx x hx2 rfl
    .exact hd.1.2.1.2.2 x (.inr hx2) x hx rfl
    .exact hd.2.2 x (.inr (.inl (.inr hx2))) x hx rfl
  .refine ⟨a2,?_,?_,λx hx=>hx⟩
   .simp only[Env.of,cY,eW];exact Gn.keeps kp (λ_ _=>rfl)
   .have hd:=hnd'.2;simp only[lE]at hd;exact hd.1.2.1.1.2.1
  .obtain ⟨fq,q1,q2,q3⟩:=r.ok j x y h hjl;refine⟨fq,?_,q2,q3⟩;cases hbj:x.box with
   |false=>simp only[hbj,Env.of,cY,eW]at q1⊢;exact q1.keeps kp (λ_ _=>rfl)
   |true=>simp only[hbj,Env.of,eS]at q1⊢;exact(q1.DR (nb h hbj)).keeps k2' (λ_ _=>rfl)
 .intro j1 j2 x1 x2 y1 y2 z hl1 hl2 v1 v2 hf1 hf2;rcases back hl1 with⟨rfl,rfl,rfl⟩|⟨rfl,rfl,rfl⟩|⟨hj1,h1⟩<;>rcases back hl2 with⟨rfl,rfl,rfl⟩|⟨rfl,rfl,rfl⟩|⟨hj2,h2⟩
  .rfl
  .exact absurd hf2 ((hgF z).1 hf1).2
  .exact absurd (r.fV _ _ _ _ _ _ z hlk h2 hl v2 ((hgF z).1 hf1).1 hf2).symm hj2
  .exact absurd hf1 ((hgF z).1 hf2).2
  .rfl
  .exact absurd (r.fV _ _ _ _ _ _ z hlk h2 hl v2 (hsub2 z hf1) hf2).symm hj2
  .exact absurd (r.fV _ _ _ _ _ _ z h1 hlk v1 hl hf1 ((hgF z).1 hf2).1) hj1
  .exact absurd (r.fV _ _ _ _ _ _ z h1 hlk v1 hl hf1 (hsub2 z hf2)) hj1
  .exact r.fV _ _ _ _ _ _ z h1 h2 v1 v2 hf1 hf2
 .intro j x y z hlj hjl hf;rcases back hlj with⟨rfl,rfl,rfl⟩|⟨rfl,rfl,rfl⟩|⟨_,h⟩
  .exact r.eB _ _ _ z hlk hl ((hgF z).1 hf).1
  .exact r.eB _ _ _ z hlk hl (hsub2 z hf)
  .exact r.eB _ _ _ z h hjl hf
attribute [simp] DR tV
def quiet:Op->Bool
 | .move _| .assign _| .load _ _| .fieldAddr _ _ _| .indexAddr _ _ _| .index _ _ _| .extract _ _| .unOp _ _ _| .binOp _ _ _ _ _| .convert _ _ _| .pick _ _ _| .alloc _| .box _ _| .build _ _| .nilCheck _=>true
 | .call ⟨.builtin .len,⟨[_]⟩,⟨[_]⟩⟩=>true
 | .call ⟨.value _,_,_⟩=>true
 |_=>false
def qO(op:Op)(s:AS):Bool:=match op with
 | .buildSlice _ _ parts=>(mX ((parts.toList.map (·.2)).map s.ev)).isEmpty
 | .slice _ x _ _ none=>match s.ev x with
  | .str _=>true
  | .sl _ _ _=>true
  |_=>false
 | .call ⟨.builtin .append,⟨[x,y]⟩,_⟩=>(match s.ev x with| .sl .own _ []=>true|_=>false)&&(match s.ev y with| .sl .own _ []=>true| .sl .view _ _=>true| .str _=>true|_=>false)
 |o=>quiet o
mutual
theorem aF7{o o':List aI}:∀x:AV,mG x=[]->res o x=res o' x/\kV o x=kV o' x
 | .obj i v,h=>by simp[mG]at h
 | .agg c,h=>by have:=IY (o:=o) (o':=o') c (by simpa [mG]using h);simp only[res,kV,this,Hn]
 | .iL c,h=>by have:=IY (o:=o) (o':=o') c (by simpa [mG]using h);simp only[res,kV,this,Hn]
 | .int _ _,_=>⟨rfl,rfl⟩
 | .bool _,_=>⟨rfl,rfl⟩
 | .str _,_=>⟨rfl,rfl⟩
 | .sl .own _ _,_=>⟨rfl,rfl⟩
 | .sl .view _ _,_=>⟨rfl,rfl⟩
 | .sl (.mQ _) _ _,_=>⟨rfl,rfl⟩
 | .iW .own _ _,_=>⟨rfl,rfl⟩
 | .iW .view _ _,_=>⟨rfl,rfl⟩
 | .iW (.mQ _) _ _,_=>⟨rfl,rfl⟩
 | .ptr _ _ _ _,_=>⟨rfl,rfl⟩
 | .fn _ [],_=>⟨rfl,rfl⟩
 | .fn _ (_::_),_=>⟨rfl,rfl⟩
 | .aB,_=>⟨rfl,rfl⟩
theorem IY{o o':List aI}:∀c:List AV,mX c=[]->vH o c=vH o' c/\pI o c=pI o' c
 |[],_=>⟨rfl,rfl⟩
 |x::xs,h=>by simp only[mX,GF]at h;have h1:=aF7 (o:=o) (o':=o') x h.1;have h2:=IY (o:=o) (o':=o') xs h.2;simp only[vH,pI,h1,h2,Hn]
end
def aAt{o:List aI}:∀{c:List AV},(∀x∈vH o c,x.Bn=true)->∀x∈c,x≠ .aB
 |[],_,x,hx=>by cases hx
 |y::ys,h,x,hx=>by
  rcases mC.1 hx with rfl|hx
  .rintro rfl;have:=h .aB (by simp[vH,res]);simp[AV.Bn,AV.Pv]at this
  .exact aAt (o:=o) (c:=ys) (λz hz=>h z (by simp[vH,hz])) x hx
def vZ(t:List AV):Option Tmp->AV->List AV
 |some d,x=>t.set d x
 |none,_=>t
def put_eq(t:List AV)(o:List aI)(d:Option Tmp)(x:AV):AS.put ⟨t,o⟩ d x=⟨vZ t d x,o⟩:=by cases d<;>rfl
def E9:∀{t2 t:List AV} (i:Nat),wk t2 t->t.getD i .aB=t2.getD i .aB\/t.getD i .aB= .aB
 |[],[],_,_=> .inl rfl
 |[],_::_,_,h=>h.elim
 |_::_,[],_,h=>h.elim
 |x::xs,y::ys,0,h=>by simpa [getD]using h.1
 |x::xs,y::ys,i+1,h=>by simpa [getD]using E9 i h.2
def Og(t:List AV)(o:List aI)(d:Option Tmp)(c:List AV):AS.box ⟨t,o⟩ d c=⟨vZ t d (.ptr o.length 0 0 0),o++[⟨true,true,c.length,0,[c]⟩]⟩:=put_eq _ _ _ _
def IZ(t:List AV)(o:List aI)(d:Option Tmp)(r:AV):AS.bW ⟨t,o⟩ d r=⟨vZ t d (iA 1 o.length r).1,o++(iA 1 o.length r).2⟩:=put_eq _ _ _ _
section
variable{t t2:List AV}{o o2:List aI}
def WW(hw:wk t2 t)(x:Operand):(AS.ev ⟨t,o⟩ x)=(AS.ev ⟨t2,o2⟩ x)\/(AS.ev ⟨t,o⟩ x)= .aB:=by
 cases x with
 |tmp i=>exact E9 i hw
 |const v=>exact .inl rfl
 |func f=>exact .inl rfl
 |global g=>exact .inl rfl
def DC(hw:wk t2 t){x:Operand}{y:AV}(h:AS.ev ⟨t,o⟩ x=y)(hy:y≠ .aB):AS.ev ⟨t2,o2⟩ x=y:=by
 rcases WW (o:=o) (o2:=o2) hw x with h'|h'
 .rw [<-h',h]
 .rw [h]at h';exact absurd h' hy
def Sub(o o2:List aI):Prop:=∀(i:Nat) (ob:aI),o[i]? =some ob->ob.fT=true->o2[i]? =some ob
def Sub.app(o ext:List aI):Sub o (o++ext):=λi ob h _=>by rw[oA (cU.1 h).1];exact h
def AA(hs:Sub o o2){i bY:Nat}{ob:aI}(h:AV.gB o i bY=some ob):AV.gB o2 i bY=some ob:=by
 unfold AV.gB at h⊢;split at h
 .rename_i x hx;split at h
  .rename_i hc;rw[hs _ _ hx hc.1];simp only[hc,Hn,eS];exact h
  .cases h
 .cases h
def aF8(hs:Sub o o2){i bY idx:Nat}{p:aI×List AV}(h:AS.at ⟨t,o⟩ i bY idx=some p):AS.at ⟨t2,o2⟩ i bY idx=some p:=by
 unfold AS.at at h⊢;split at h
 .rename_i ob h1;simp only[AA hs h1];exact h
 .cases h
def CF(hs:Sub o o2){i bY:Nat}(h:(AV.gB o i bY).isSome=true):(AV.gB o2 i bY).isSome=true:=by obtain⟨ob,h⟩:=CI.1 h;rw[AA hs h];rfl
def Bf(hs:Sub o o2){x:AV}(h:x.fit o=true):x.fit o2=true:=by
 cases x with
 |sl g n l=>
  cases g with
  |mQ i=>
   simp only[AV.fit]at h⊢;split at h
   .rename_i ob wF;rw[hs _ _ wF h];exact h
   .cases h
  |_=>rfl
 |iW g c off=>
  cases g with
  |mQ i=>
   simp only[AV.fit]at h⊢;split at h
   .rename_i ob wF;rw[hs _ _ wF h];exact h
   .cases h
  |_=>rfl
 |obj i bY=>simp only[AV.fit]at h⊢;exact CF hs h
 |ptr i bY _ _=>simp only[AV.fit]at h⊢;exact CF hs h
 |aB=>cases h
 |iL _=>cases h
 |_=>rfl
def F3{x:AV}(h:x.fit o=true):x≠ .aB:=by rintro rfl;cases h
end
mutual
theorem aLi{o o2:List aI}(hs:Sub o o2):∀(x:AV),arg o x≠ .aB->∀(w:World) (v:Value),R w (qM w) (arg o2 x) v []->R w (qM w) (arg o x) v []
 | .obj i bY,hn,w,v,h=>by
  cases ho:AV.gB o i bY with
  |none=>exact absurd (by simp only[arg,ho]) hn
  |some ob=>simp only[arg,ho,AA hs ho]at h⊢;exact h
 | .ptr i bY idx off,hn,w,v,h=>by
  cases ho:AV.gB o i bY with
  |none=>exact absurd (by simp only[arg,ho]) hn
  |some ob=>simp only[arg,ho,AA hs ho]at h⊢;exact h
 | .agg c,_,w,v,h=>by simp only[arg,R]at h⊢;obtain⟨cs,h1,h2,h3⟩:=h;exact⟨cs,h1,h2,EL hs c w cs h3⟩
 | .iL c,_,w,v,h=>by simp only[arg,R]at h⊢;obtain⟨cs,h1,h3⟩:=h;exact⟨cs,h1,EL hs c w cs h3⟩
 | .fn f c,_,w,v,h=>by simp only[arg,R]at h⊢;obtain⟨h0,cs,h1,h3⟩:=h;exact⟨h0,cs,h1,EL hs c w cs h3⟩
 | .int _ _,_,_,_,h=>h
 | .bool _,_,_,_,h=>h
 | .str _,_,_,_,h=>h
 | .sl .own _ _,_,_,_,h=>h
 | .sl .view _ _,_,_,_,h=>h
 | .sl (.mQ i) n l,hn,w,v,h=>by
  cases ho:o[i]? with
  |none=>simp[arg,ho]at hn
  |some ob=>
   by_cases hv:ob.fT=true
   .simp only[arg,ho,hs _ _ ho hv]at h⊢;exact h
   .simp [arg,ho,hv]at hn
 | .iW .own _ _,_,_,_,h=>h
 | .iW .view _ _,_,_,_,h=>h
 | .iW (.mQ i) c off,hn,w,v,h=>by
  cases ho:o[i]? with
  |none=>simp[arg,ho]at hn
  |some ob=>
   by_cases hv:ob.fT=true
   .simp only[arg,ho,hs _ _ ho hv]at h⊢;exact h
   .simp [arg,ho,hv]at hn
 | .aB,hn,_,_,_=>absurd rfl hn
theorem EL{o o2:List aI}(hs:Sub o o2):∀(c:List AV) (w:World) (cs:List Value),Rc w (qM w) (Du o2 c) cs []->Rc w (qM w) (Du o c) cs []
 |[],_,_,h=>h
 |x::xs,w,[],h=>by simp[Du,Rc]at h
 |x::xs,w,c::cs,h=>by
  simp only[Du,Rc]at h⊢;obtain⟨f1,f2,h1,h2,e⟩:=h;obtain⟨rfl,rfl⟩:f1=[]/\f2=[]:=by simpa using e
  refine⟨[],[],?_,EL hs xs w cs h2,rfl⟩;by_cases hn:arg o x= .aB
  .rw [hn];simp[R]
  .exact aLi hs x hn w c h1
end
def Yx{o:List aI}:∀{a2 a:List AV},wk a2 a->wk (Du o a2) (Du o a)
 |[],[],_=>trivial
 |[],_::_,h=>h.elim
 |_::_,[],h=>h.elim
 |x::xs,y::ys,h=>by
  refine⟨?_,Yx h.2⟩;rcases h.1 with rfl|rfl
  .exact .inl rfl
  .exact .inr rfl
def aAu{t t2:List AV}{o o2:List aI}(hw:wk t2 t)(l:List Operand)(cap:List AV):wk (l.map (AS.ev ⟨t2,o2⟩)++cap) (l.map (AS.ev ⟨t,o⟩)++cap):=by
 induction l with
 |nil=>
  simp only[GC,eA];induction cap with
  |nil=>trivial
  |cons x xs ih=>exact⟨.inl rfl,ih⟩
 |cons x xs ih=>exact⟨WW hw x,ih⟩
def Ok.mono{P:Program}[aG P]{f:FuncId}{a a2:List AV}{r:AV}(h:Ok P f a r)(hs:∀w vs,Rc w (qM w) a2 vs []->Rc w (qM w) a vs []):Ok P f a2 r:=
 λw vs hg hr=>h w vs hg (hs w vs hr)
def df:∀(q k k':Nat) (x:AV),(iA q k x).2=[]->iA q k' x=iA q k x:=by intro q k k' x h;exact(go q k k').1 x h
where
 go (q k k':Nat):(∀x:AV,(iA q k x).2=[]->iA q k' x=iA q k x)/\(∀c:List AV,(iE q k c).2=[]->iE q k' c=iE q k c):=
  ⟨λx=>one x,λc=>all c⟩
 one {q k k':Nat}:∀x:AV,(iA q k x).2=[]->iA q k' x=iA q k x
  | .sl .own n l,h=>by simp[iA]at h
  | .agg c,h=>by simp only[iA]at h⊢;rw[all c h]
  | .iL c,h=>by simp only[iA]at h⊢;rw[all c h]
  | .sl .view _ _,_=>rfl
  | .sl (.mQ _) _ _,_=>rfl
  | .int _ _,_=>rfl
  | .bool _,_=>rfl
  | .str _,_=>rfl
  | .iW _ _ _,_=>rfl
  | .obj _ _,_=>rfl
  | .ptr _ _ _ _,_=>rfl
  | .fn _ _,_=>rfl
  | .aB,_=>rfl
 all {q k k':Nat}:∀c:List AV,(iE q k c).2=[]->iE q k' c=iE q k c
  |[],_=>rfl
  |x::xs,h=>by
   simp only[iE,GF]at h⊢;have h1:=one (k':=k') x h.1;rw[h1];have h2:(iA q k x).2.length=0:=by rw[h.1];rfl
   rw[h2]at h⊢;have h3:=all (k:=k+0) (k':=k'+0) xs h.2;rw[h3]
def FJ{t2 t:List AV}{o o2:List aI}(hw:wk t2 t){d n:Nat}{x:Option Operand}(h:AS.bound ⟨t,o⟩ d x=some n):AS.bound ⟨t2,o2⟩ d x=some n:=by
 cases x with
 |none=>exact h
 |some x=>
  simp only[AS.bound]at h⊢;split at h
  .rename_i hx;rw[DC (o2:=o2) hw hx (by simp)];exact h
  .cases h
def dh{P:Program}[aG P]{op:Oper}{t t2:List AV}{o o2:List aI}{K:AS->Prop}(q:qO op.op ⟨t,o⟩=true)(hw:wk t2 t)(h:uA P op ⟨t,o⟩ K)(hs:Sub o o2)(BI:o2.length=o.length\/∀s',K s'->s'.o.length=o.length):
  ∃x new x2,K ⟨vZ t op.dst x,o++new⟩/\(x=x2\/x= .aB)/\(o2.length=o.length\/new=[])/\∀K2:AS->Prop,K2 ⟨vZ t2 op.dst x2,o2++new⟩->uA P op ⟨t2,o2⟩ K2:=by
 have same:∀{x:AV},K (AS.put ⟨t,o⟩ op.dst x)->(∀K2:AS->Prop,K2 (AS.put ⟨t2,o2⟩ op.dst x)->uA P op ⟨t2,o2⟩ K2)->
   ∃x new x2,K ⟨vZ t op.dst x,o++new⟩/\(x=x2\/x= .aB)/\(o2.length=o.length\/new=[])/\∀K2:AS->Prop,K2 ⟨vZ t2 op.dst x2,o2++new⟩->uA P op ⟨t2,o2⟩ K2:=by
  intro x h1 h2;refine⟨x,[],x,by rw[eE,<-put_eq];exact h1,.inl rfl,.inr rfl,λK2 hK=>h2 K2 ?_⟩;rw[put_eq];rw[eE]at hK;exact hK
 obtain⟨dst,op,ty,pos,after,gd⟩:=op;have E:∀{x:Operand} {y:AV},AS.ev ⟨t,o⟩ x=y->y≠ .aB->AS.ev ⟨t2,o2⟩ x=y:=λh hy=>DC hw h hy
 unfold uA at h;dsimp only at h q same⊢;split at h;case h_1=>
  rename_i X;refine⟨_,[],AS.ev ⟨t2,o2⟩ X,by rw[put_eq]at h;rw[eE];exact h,WW hw X,.inr rfl,λK2 hK=> ?_⟩;unfold uA;dsimp only;rw[put_eq];rw[eE]at hK;exact hK
 case h_2=>
  rename_i X;refine⟨_,[],AS.ev ⟨t2,o2⟩ X,by rw[put_eq]at h;rw[eE];exact h,WW hw X,.inr rfl,λK2 hK=> ?_⟩;unfold uA;dsimp only;rw[put_eq];rw[eE]at hK;exact hK
 case h_3=>
  split at h
  .rename_i b hc;rename_i X Y _;refine⟨if b then AS.ev ⟨t,o⟩ X else AS.ev ⟨t,o⟩ Y,[],if b then AS.ev ⟨t2,o2⟩ X else AS.ev ⟨t2,o2⟩ Y,by rw[put_eq]at h;rw[eE];exact h,?_,.inr rfl,λK2 hK=> ?_⟩
   .cases b
    .exact WW hw Y
    .exact WW hw X
   .unfold uA;dsimp only;rw[E hc (by simp)];dsimp only;rw[put_eq];rw[eE]at hK;exact hK
  .exact h.elim
 case h_4=>
  split at h
  .rename_i z hz;rcases BI with dF|BI
   .refine ⟨.ptr o.length 0 0 0,[⟨true,true,z.length,0,[z]⟩],.ptr o.length 0 0 0,by rw[Og]at h;exact h,.inl rfl,.inl dF,λK2 hK=> ?_⟩
    unfold uA;dsimp only;rw[hz];dsimp only;rw[Og,dF];exact hK
   .have:=BI _ h;rw[Og]at this;simp at this
  .exact h.elim
 case h_5=>
  rename_i X;obtain⟨h1,h2⟩:=h;have hX:=E (x:=X) rfl (F3 h1);rcases BI with dF|BI
  .refine ⟨.ptr o.length 0 0 0,[⟨true,true,(AS.ev ⟨t,o⟩ X).cells.length,0,[(AS.ev ⟨t,o⟩ X).cells]⟩],.ptr o.length 0 0 0,by rw[Og]at h2;exact h2,.inl rfl,.inl dF,λK2 hK=> ?_⟩
   unfold uA;dsimp only;rw[hX];refine⟨Bf hs h1,?_⟩;rw[Og,dF];exact hK
  .have:=BI _ h2;rw[Og]at this;simp at this
 case h_6=>
  rename_i T parts;split at h
  .rename_i pl hp;split at h
   .rename_i z0 hz;obtain⟨h1,h⟩:=h;split at h
    .rename_i z hf;have BH:(parts.toList.map λp=>(p.1,AS.ev ⟨t2,o2⟩ p.2))=parts.toList.map λp=>(p.1,AS.ev ⟨t,o⟩ p.2):=
      map_congr_left λp hp=>by rw[E (x:=p.2) rfl (F3 (h1 p hp))]
     refine same h λK2 hK=> ?_
     unfold uA;dsimp only;rw[hp];dsimp only;rw[hz];dsimp only;refine⟨λp hp=>by rw[E (x:=p.2) rfl (F3 (h1 p hp))];exact Bf hs (h1 p hp),?_⟩;rw[BH,hf];exact hK
    .exact h.elim
   .exact h.elim
  .exact h.elim
 case h_7=>
  rename_i T len parts;split at h
  .rename_i e n by' he;obtain⟨k1,k2,k3,k4,k5,k6,k7,k8,h⟩:=h;have hu:mX ((parts.toList.map (·.2)).map (AS.ev ⟨t,o⟩))=[]:=by simpa [qO]using q
   have hL:(parts.toList.map (·.2)).map (AS.ev ⟨t2,o2⟩)=(parts.toList.map (·.2)).map (AS.ev ⟨t,o⟩):=
    map_congr_left λx hx=>E rfl (aAt (λy hy=>(k8 y hy).1) _ (zE.2 ⟨x,hx,rfl⟩))
   have aF9:∀os:List aI,yC [] os=os:=λ_=>rfl
   rcases BI with dF|BI
   .refine ⟨.obj o.length 1,[⟨true,false,n,1,(vH o ((parts.toList.map (·.2)).map (AS.ev ⟨t,o⟩))).map AV.cells⟩],.obj o.length 1,?_,.inl rfl,.inl dF,λK2 hK=> ?_⟩
    .unfold AS.built at h;rw[hu,aF9,put_eq]at h;simpa using h
    .unfold uA;dsimp only;rw[he];dsimp only;refine⟨k1,k2,k3,k4,k5,?_⟩;rw[hL];have aGa:=IY (o:=o) (o':=o2) _ hu;refine⟨by rw[<-aGa.2];exact k6,k7,by rw[<-aGa.1];exact k8,?_⟩;unfold AS.built;dsimp only;rw[hL,hu,aF9,put_eq,dF,<-aGa.1];simpa [dF]using hK
   .have:=BI _ h;unfold AS.built at this;rw[hu,aF9,put_eq]at this;simp at this
  .exact h.elim
 case h_8=>
  rename_i T X;split at h
  .rename_i hx;split at h
   .rename_i ob e ha;unfold BP at h;split at h
    .rename_i n hn;refine same h.2 λK2 hK=> ?_
     unfold uA;dsimp only;rw[E hx (by simp)];dsimp only;rw[aF8 hs ha];dsimp only;unfold BP;rw[hn];exact⟨h.1,hK⟩
    .rename_i hn;obtain⟨h1,h⟩:=h;split at h
     .rename_i y hy;refine same h λK2 hK=> ?_
      unfold uA;dsimp only;rw[E hx (by simp)];dsimp only;rw[aF8 hs ha];dsimp only;unfold BP;rw[hn];dsimp only;rw[hy];exact⟨h1,hK⟩
     .exact h.elim
   .exact h.elim
  .rename_i hx;obtain⟨hf,h⟩:=h;unfold BP at h;split at h
   .rename_i n hn;refine same h.2 λK2 hK=> ?_
    unfold uA;dsimp only;rw[E hx (by simp)];dsimp only;unfold BP;rw[hn];exact⟨Bf hs hf,h.1,hK⟩
   .rename_i hn;obtain⟨h1,h⟩:=h;split at h
    .rename_i y hy;refine same h λK2 hK=> ?_
     unfold uA;dsimp only;rw[E hx (by simp)];dsimp only;unfold BP;rw[hn];dsimp only;rw[hy];exact⟨Bf hs hf,h1,hK⟩
    .exact h.elim
  .exact h.elim
 case h_9=>cases q
 case h_10=>
  split at h
  .rename_i fo hf;split at h
   .rename_i hx;refine same h.2 λK2 hK=> ?_
    unfold uA;dsimp only;rw[hf];dsimp only;rw[E hx (by simp)];exact⟨CF hs h.1,hK⟩
   .rename_i hx;refine same h.2 λK2 hK=> ?_
    unfold uA;dsimp only;rw[hf];dsimp only;rw[E hx (by simp)];exact⟨Bf hs h.1,hK⟩
   .exact h.elim
  .exact h.elim
 case h_11=>
  split at h
  .rename_i hi;obtain⟨h0,h⟩:=h;split at h
   .rename_i hx;split at h
    .rename_i ob ho;split at h
     .rename_i he;refine same h.2.2.2 λK2 hK=> ?_
      unfold uA;dsimp only;rw[E hi (by simp)];dsimp only;rw[E hx (by simp)];dsimp only;rw[AA hs ho];dsimp only;rw[he];exact⟨h0,h.1,h.2.1,h.2.2.1,hK⟩
     .exact h.elim
    .exact h.elim
   .rename_i hx;obtain⟨hf,h⟩:=h;split at h
    .rename_i he;obtain⟨hm,h⟩:=h;split at h
     .rename_i hc;refine same h λK2 hK=> ?_
      unfold uA;dsimp only;rw[E hi (by simp)];dsimp only;rw[E hx (by simp)];dsimp only;rw[he];dsimp only;rw[hc];exact⟨h0,Bf hs hf,hm,hK⟩
     .exact h.elim
    .exact h.elim
   .rename_i hx;obtain⟨hso,h⟩:=h;split at h
    .rename_i ha;refine same h.2 λK2 hK=> ?_
     unfold uA;dsimp only;rw[E hi (by simp)];dsimp only;rw[E hx (by simp)];dsimp only;rw[ha];exact⟨h0,CF hs hso,h.1,hK⟩
    .exact h.elim
   .exact h.elim
  .exact h.elim
 case h_12=>
  split at h
  .rename_i hx;split at h
   .rename_i hi;obtain⟨ht,h0,h⟩:=h;split at h
    .rename_i hu;refine same h λK2 hK=> ?_
     unfold uA;dsimp only;rw[E hx (by simp)];dsimp only;rw[E hi (by simp)];dsimp only;rw[hu];exact⟨ht,h0,hK⟩
    .exact h.elim
   .exact h.elim
  .exact h.elim
 case h_13=>
  split at h
  .rename_i hx;split at h
   .rename_i hy;refine same h λK2 hK=> ?_
    unfold uA;dsimp only;rw[E hx (by simp)];dsimp only;rw[hy];exact hK
   .exact h.elim
  .exact h.elim
 case h_14=>cases q
 case h_15=>cases q
 case h_16=>
  split at h
  .rename_i hx;split at h
   .rename_i ha;split at h
    .rename_i hb;obtain⟨h1,h2,h3,h⟩:=h;refine same h λK2 hK=> ?_
     unfold uA;dsimp only;rw[E hx (by simp)];dsimp only;rw[FJ hw ha];dsimp only;rw[FJ hw hb];exact⟨h1,h2,h3,hK⟩
    .exact h.elim
   .exact h.elim
  .rename_i hx;split at h
   .rename_i ha;split at h
    .rename_i hb;split at h
     .rename_i he;obtain⟨h1,h2,h3,h4,h⟩:=h;refine same h λK2 hK=> ?_
      unfold uA;dsimp only;rw[E hx (by simp)];dsimp only;rw[FJ hw ha];dsimp only;rw[FJ hw hb];dsimp only;rw[he];exact⟨h1,Bf hs h2,h3,h4,hK⟩
     .exact h.elim
    .exact h.elim
   .exact h.elim
  .rename_i hx;simp only[qO,hx]at q;cases q
  .exact h.elim
 case h_17=>
  split at h
  .rename_i hx;refine same h λK2 hK=> ?_
   unfold uA;dsimp only;rw[E hx (by simp)];exact hK
  .exact h.elim
 case h_18=>
  split at h
  .rename_i hx;refine same h λK2 hK=> ?_
   unfold uA;dsimp only;rw[E hx (by simp)];exact hK
  .exact h.elim
 case h_19=>
  split at h
  .rename_i hx;split at h
   .rename_i hy;obtain⟨hk,h⟩:=h;split at h
    .rename_i hz;refine same h λK2 hK=> ?_
     unfold uA;dsimp only;rw[E hx (by simp)];dsimp only;rw[E hy (by simp)];dsimp only;rw[hz];exact⟨hk,hK⟩
    .exact h.elim
   .exact h.elim
  .rename_i hx;split at h
   .rename_i hy;obtain⟨hk,h⟩:=h;split at h
    .rename_i hz;refine same h λK2 hK=> ?_
     unfold uA;dsimp only;rw[E hx (by simp)];dsimp only;rw[E hy (by simp)];dsimp only;rw[hz];exact⟨hk,hK⟩
    .exact h.elim
   .exact h.elim
  .rename_i hx;split at h
   .rename_i hy;refine same h.2.2 λK2 hK=> ?_
    unfold uA;dsimp only;rw[E hx (by simp)];dsimp only;rw[E hy (by simp)];exact⟨h.1,h.2.1,hK⟩
   .exact h.elim
  .rename_i hx;split at h
   .rename_i hy;obtain⟨h1,h2,h3,b,h4,h5⟩:=h;refine same h5 λK2 hK=> ?_
    unfold uA;dsimp only;rw[E hx (by simp)];dsimp only;rw[E hy (by simp)];exact⟨h1,h2,h3,b,h4,hK⟩
   .exact h.elim
  .exact h.elim
 case h_20=>
  split at h
  .rename_i hx;split at h
   .rename_i hk;refine same h.2 λK2 hK=> ?_
    unfold uA;dsimp only;rw[E hx (by simp)];dsimp only;rw[hk];exact⟨h.1,hK⟩
   .exact h.elim
  .rename_i hx;refine same h.2.2 λK2 hK=> ?_
   unfold uA;dsimp only;rw[E hx (by simp)];exact⟨h.1,h.2.1,hK⟩
  .rename_i hx;split at h
   .rename_i he;obtain⟨h1,h2,h3,h4,h5,bs,h6,h7⟩:=h;refine same h7 λK2 hK=> ?_
    unfold uA;dsimp only;rw[E hx (by simp)];dsimp only;rw[he];exact⟨h1,h2,Bf hs h3,h4,h5,bs,h6,hK⟩
   .exact h.elim
  .rename_i hx;split at h
   .rename_i ho;split at h
    .rename_i he;obtain⟨h1,h2,h3,h4,bs,h6,h7⟩:=h;refine same h7 λK2 hK=> ?_
     unfold uA;dsimp only;rw[E hx (by simp)];dsimp only;rw[AA hs ho];dsimp only;rw[he];exact⟨h1,h2,h3,h4,bs,h6,hK⟩
    .exact h.elim
   .exact h.elim
  .exact h.elim
 case h_21=>
  split at h
  .rename_i hx;refine same h.2 λK2 hK=> ?_
   unfold uA;dsimp only;rw[E hx (by simp)];exact⟨h.1,hK⟩
  .rename_i hx;refine same h.2.2 λK2 hK=> ?_
   unfold uA;dsimp only;rw[E hx (by simp)];exact⟨Bf hs h.1,h.2.1,hK⟩
  .rename_i hx;split at h
   .rename_i ho;refine same h.2 λK2 hK=> ?_
    unfold uA;dsimp only;rw[E hx (by simp)];dsimp only;rw[AA hs ho];exact⟨h.1,hK⟩
   .exact h.elim
  .exact h.elim
 case h_22=>
  rename_i X Y tS xT;simp only[qO,eK]at q;obtain⟨qx,qy⟩:=q;split at h
  .rename_i e n by' he;obtain⟨k1,k2,h⟩:=h;split at qx
   .rename_i m hx;have hx2:=E hx (by simp);rw[hx]at h;simp only[AS.target]at h;have aP3:∀(y:AV),AS.ev ⟨t,o⟩ Y=y->y≠ .aB->(match y with| .sl .own _ []=>true| .sl .view _ _=>true| .str _=>true|_=>false)=true->∀l2 o',AS.source ⟨t,o++[⟨true,false,n,0,[]⟩]⟩ o.length n y=some (l2,o')->
      o'=o++[⟨true,false,n,0,[]⟩]/\AS.source ⟨t2,o2++[⟨true,false,n,0,[]⟩]⟩ o2.length n (AS.ev ⟨t2,o2⟩ Y)=some (l2,o2++[⟨true,false,n,0,[]⟩]):=by
     intro y hy jE hk l2 o' di;rw[E hy jE];split at hk
     .simp only[AS.source,eI,oT]at di⊢;exact⟨di.2.symm,di.1,trivial⟩
     .simp only[AS.source]at di⊢;split at di
      .rename_i hm;simp only[eI,oT]at di;rw[eM hm];exact⟨di.2.symm,by rw[di.1]⟩
      .cases di
     .simp only[AS.source]at di⊢;split at di
      .rename_i hm;simp only[eI,oT]at di;rw[eM hm];exact⟨di.2.symm,by rw[di.1]⟩
      .cases di
     .cases hk
    split at h
    .rename_i l2 o' di;obtain⟨h1,h2,h⟩:=h;obtain⟨rfl,hs2⟩:=aP3 _ rfl (by rintro hu;rw[hu]at qy;simp at qy) qy _ _ di;have e1:(o++[(⟨true,false,n,0,[]⟩:aI)]).set o.length ⟨true,false,n,0+1,[]++l2⟩=o++[⟨true,false,n,0+1,[]++l2⟩]:=by rw[By _ _ (eJ _)];simp
     have e2:(o2++[(⟨true,false,n,0,[]⟩:aI)]).set o2.length ⟨true,false,n,0+1,[]++l2⟩=o2++[⟨true,false,n,0+1,[]++l2⟩]:=by rw[By _ _ (eJ _)];simp
     unfold AS.zR at h;dsimp only at h;rw[e1,put_eq]at h;rcases BI with dF|BI
     .refine ⟨.obj o.length (0+1),[⟨true,false,n,0+1,[]++l2⟩],.obj o.length (0+1),h,.inl rfl,.inl dF,λK2 hK=> ?_⟩
      unfold uA;dsimp only;rw[he];dsimp only;refine⟨k1,k2,?_⟩;rw[hx2];simp only[AS.target];rw[hs2];dsimp only;refine⟨h1,h2,?_⟩;unfold AS.zR;dsimp only;rw[e2,put_eq,dF];exact hK
     .have:=BI _ h;simp at this
    .exact h.elim
   .cases qx
  .exact h.elim
 case h_23=>
  rename_i F args NL;split at h
  .rename_i g cap hf;split at h
   .rename_i h1;obtain⟨r,h2,h3⟩:=h;have rP:Ok P g (Du o2 (AS.args ⟨t2,o2⟩ args++cap)) r:=h2.mono λw vs hr=>
     JJ (Yx (aAu (o:=o) (o2:=o2) hw args.toList cap)) (EL hs _ w vs hr)
    rcases BI with dF|BI
    .refine ⟨(iA 1 o.length r).1,(iA 1 o.length r).2,(iA 1 o.length r).1,by rw[IZ]at h3;exact h3,.inl rfl,.inl dF,λK2 hK=> ?_⟩
     unfold uA;dsimp only;rw[E hf (by simp)];dsimp only;rw[eM h1];refine⟨r,rP,?_⟩;rw[IZ,dF];exact hK
    .have hn:=BI _ h3;simp only[IZ,eR]at hn;have hn':(iA 1 o.length r).2=[]:=gO (by omega);have ha:=df 1 o.length o2.length r hn';refine⟨(iA 1 o.length r).1,[],(iA 1 o.length r).1,?_,.inl rfl,.inr rfl,λK2 hK=> ?_⟩
     .rw [IZ,hn']at h3;exact h3
     .unfold uA;dsimp only;rw[E hf (by simp)];dsimp only;rw[eM h1];refine⟨r,rP,?_⟩;unfold AS.bW;rw[ha,hn',put_eq];simpa using hK
   .rename_i h1;obtain⟨r,h2,h3⟩:=h;refine same h3 λK2 hK=> ?_
    unfold uA;dsimp only;rw[E hf (by simp)];dsimp only;rw[eC h1];exact⟨r,λw vs hr=>h2 w vs (JJ (Yx (aAu (o:=o) (o2:=o2) hw args.toList cap)) (EL hs _ w vs hr)),hK⟩
  .exact h.elim
 case h_24=>
  split at h
  .rename_i hx;refine same h.2 λK2 hK=> ?_
   unfold uA;dsimp only;rw[E hx (by simp)];exact⟨CF hs h.1,hK⟩
  .rename_i hx;refine same h.2 λK2 hK=> ?_
   unfold uA;dsimp only;rw[E hx (by simp)];exact⟨Bf hs h.1,hK⟩
  .exact h.elim
 case h_25=>exact h.elim
end Go.Aw
