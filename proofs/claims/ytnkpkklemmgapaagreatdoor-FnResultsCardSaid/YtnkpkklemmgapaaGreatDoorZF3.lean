/- Proved here: steps towards the statement of this claim. No condition. -/
import Derived.Test.YtnkpkklemmgapaaGreatDoorZF9
set_option linter.all false
namespace Go.Aw
open List
def kY(s s':AS):Prop:=∀⦃P:Program⦄ [aB P] (B:fM P) a w,Rel B s a w->Rel B s' a w
def uG(K:AS->Prop)(Q:Exit->AS->Prop):Exit->AS->Prop
 | .normal,s=>K s
 |e,s=>Q e s
def bz(id:Nat)(Q:Exit->AS->Prop):Exit->AS->Prop
 | .exit id',s=>if id'=id then Q .normal s else Q (.exit id') s
 |e,s=>Q e s
def lift{P:Program}[aB P](B:fM P)(Q:Exit->AS->Prop):Exit->Act->World->Prop:=λe a w=>∃s,Q e s/\Rel B s a w
def Xj(want:Bool):AV->AV
 | .iP []=> .bool (!want)
 |x=>x
@[simp] theorem aKy(w b:Bool):Xj w (.bool b)= .bool b:=rfl
@[simp] theorem aM3(w:Bool):Xj w (.iP [])= .bool (!w):=rfl
theorem aBb{w b:Bool}{x:AV}(h:Xj w x= .bool b):(x= .iP []/\b= !w)\/x= .bool b:=by
 unfold Xj at h;split at h
 .exact .inl ⟨rfl,(AV.bool.inj h).symm⟩
 .exact .inr h
theorem cz(w:World)(E:Env):R w E (.iP []) undef []:=by simp only[R];exact⟨[],rfl,by simp[Rc]⟩
def nI(all:List Oper)(s:AS)(j:Nat)(want:Bool):AV:=match all[j]? with
 |some o=>match o.dst with
  |some d=>Xj want (s.t.getD d .undef)
  |none=> .undef
 |none=> .undef
def JB(P:Program)[aB P](o:Oper)(s:AS)(K:AS->Prop):Prop:=
 match o.op with
 | .call ⟨.value f,⟨x::ys⟩,_⟩=>match s.ev f with
  | .fn g []=>aT P g=true/\(ys.all λy=>(s.ev y).OZ)=true/\gP s.o (s.ev x)=true/\(iN (s.ev x)).Nodup/\∃x' r,OkM P g (res s.o (s.ev x)) x' (ys.map s.ev) r/\(r.iG=true\/r= .iP [])/\mt s.o (s.ev x) x'=true/\K (s.Oj o.dst (s.ev x) x' r)
  |_=>False
 | .convert src d x=>match s.ev x with
  | .str l=>match lQ P d with
   |some (e,m,_)=>isString P src=true/\m=1/\intType P e=some .u8/\l.length<=9223372036854775807/\K (s.made o.dst 1 (bA l))
   |none=>False
  |_=>False
 |_=>False
theorem Xk{P:Program}[aB P]{B:fM P}{o:Oper}{s:AS}{K:AS->Prop}(h:JB P o s K):∃s',K s'/\Step P B o s s':=by
 obtain⟨dst,op,ty,pos,after,gd⟩:=o;unfold JB at h;dsimp only at h;split at h
 .split at h
  .rename_i hf;obtain⟨h1,h2,h3,h4,x',r,h5,h6,h7,h8⟩:=h;exact⟨_,h8,aAz _ _ _ _ hf h1 h2 h6 h3 h4 h7 h5⟩
  .exact h.elim
 .split at h
  .rename_i hx;split at h
   .rename_i he;obtain⟨h1,rfl,h2,h3,h4⟩:=h;exact⟨_,h4,bn _ _ _ hx h1 he h2 h3⟩
   .exact h.elim
  .exact h.elim
 .exact h.elim
def Xl(P:Program)[aB P](o:Oper)(s:AS)(K:AS->Prop):Prop:=
 match o.op with
 | .call ⟨.value f,args,_⟩=>match s.ev f with
  | .fn g []=>aT P g=true/\∃gs r,ax P g gs r/\(takes s.o (s.args args) gs).Nodup/\handed s.o (takes s.o (s.args args) gs) (s.args args) gs/\K (s.given o.dst (s.args args) gs r)
  |_=>False
 |_=>False
theorem df{P:Program}[aB P]{B:fM P}{o:Oper}{s:AS}{K:AS->Prop}(h:Xl P o s K):∃s',K s'/\Step P B o s s':=by
 obtain⟨dst,op,ty,pos,after,gd⟩:=o;unfold Xl at h;dsimp only at h;split at h
 .split at h
  .rename_i hf;obtain⟨h1,gs,r,h2,h3,h4,h5⟩:=h;exact⟨_,h5,zu _ _ _ hf h1 h3 h4 h2⟩
  .exact h.elim
 .exact h.elim
theorem kY.refl(s:AS):kY s s:=λ_ _ _ _ _ h=>h
theorem kY.trans{a b c:AS}(h:kY a b)(k:kY b c):kY a c:=λ_ _ B x w r=>k B x w (h B x w r)
def En(P:Program)[aB P](o:Oper)(s:AS)(K:AS->Prop):Prop:=∃s1,kY s s1/\(rM P o s1 K\/JB P o s1 K\/Xl P o s1 K)
theorem Pk{P:Program}[aB P]{B:fM P}{o:Oper}{s:AS}{K:AS->Prop}(h:En P o s K):∃s',K s'/\Step P B o s s':=by
 obtain⟨s1,hw,h⟩:=h;obtain⟨s',hK,hst⟩:∃s',K s'/\Step P B o s1 s':=by
  rcases h with h|h|h
  .exact zW h
  .exact Xk h
  .exact df h
 exact⟨s',hK,λa w next Q hr hn=>hst a w next Q (hw B a w hr) hn⟩
theorem aBc{P:Program}[aB P]{o:Oper}{s:AS}{K:AS->Prop}(h:JB P o s K):En P o s K:=⟨s,kY.refl s,.inr (.inl h)⟩
theorem aKz{P:Program}[aB P]{o:Oper}{s:AS}{K:AS->Prop}(h:Xl P o s K):En P o s K:=⟨s,kY.refl s,.inr (.inr h)⟩
theorem aK0{P:Program}[aB P]{o:Oper}{s:AS}{K:AS->Prop}(h:aKu P o s K):En P o s K:=by
 unfold aKu at h;split at h
 .split at h
  .split at h
   .rename_i ob tX;exact⟨_,λ_ _ B a w hr=>Vm tX h.1 hr,.inl h.2⟩
   .exact h.elim
  .exact h.elim
 .exact h.elim
theorem aBd{P:Program}[aB P]{o:Oper}{s s1:AS}{K:AS->Prop}(hw:kY s s1)(h:rM P o s1 K\/En P o s1 K):En P o s K:=by
 rcases h with h|⟨s2,hw2,h⟩
 .exact ⟨s1,hw,.inl h⟩
 .exact ⟨s2,hw.trans hw2,h⟩
def GG(P:Program)[aB P](o:Oper)(s:AS)(K:AS->Prop):Prop:=∃s1,kY s s1/\RU P o s1 K
theorem Mr{P:Program}[aB P]{B:fM P}{o:Oper}{s:AS}{K:AS->Prop}(h:GG P o s K)(a:Act)(w:World)(next:Act->World->Prop)(X:Exit->Act->World->Prop)(hr:Rel B s a w)
  (hn:∀a' w' s',K s'->Rel B s' a' w'->next a' w'):o.wp P a w next X:=by
 obtain⟨s1,hw,h⟩:=h;exact bu h a w next X (hw B a w hr) hn
def iJ(P:Program)[aB P](all:List Oper):List Oper->AS->(AS->Prop)->Prop
 |[],s,K=>K s
 |o::r,s,K=>match o.guard with
  |none=>(rM P o s λs'=>iJ P all r s' K)\/(En P o s λs'=>iJ P all r s' K)\/(GG P o s λs'=>iJ P all r s' K)
  |some (j,want)=>match nI all s j want with
   | .bool b=>(b=want->(rM P o s λs'=>iJ P all r s' K)\/(En P o s λs'=>iJ P all r s' K)\/(GG P o s λs'=>iJ P all r s' K))/\(b≠want->iJ P all r (s.put o.dst (.iP [])) K)
   |_=>False
def CU(P:Program)[aB P](ops:Array Oper)(s:AS)(K:AS->Prop):Prop:=
 ∀(B:fM P) a w (Q:Exit->Act->World->Prop),Rel B s a w->(∀a' w' s',K s'->Rel B s' a' w'->Q .normal a' w')->
  wpAny P .any ops Q ops.size (Array.replicate ops.size false) a {w with drawn:=w.drawn+1}
def jL(P:Program)[aB P]:Code->AS->(Exit->AS->Prop)->Prop
 | .skip,s,Q=>Q .normal s
 | .region _ ops false,s,Q=>∃s2,kY s s2/\iJ P ops.toList ops.toList s2 (Q .normal)
 | .region _ ops true,s,Q=>CU P ops s (Q .normal)
 | .seq x y,s,Q=>jL P x s (uG (λs'=>jL P y s' Q) Q)
 | .cond c x y,s,Q=>match s.ev c with
  | .bool b=>(b=true->jL P x s Q)/\(b=false->jL P y s Q)
  |_=>False
 | .block id c,s,Q=>jL P c s (bz id Q)
 | .loop c,s,Q=>∃(ι:Type) (inv:ι->AS) (μ:ι->Nat) (i:ι),kY s (inv i)/\∀i,jL P c (inv i) (uG (λs'=>∃j,kY s' (inv j)/\μ j<μ i) Q)
 | .exit id,s,Q=>Q (.exit id) s
 | .ret,s,Q=>Q .ret s
 |_,_,_=>False
theorem Pm{P:Program}[aB P]{B:fM P}{s:AS}{G:List CO}{a:Act}{w:World}(r:dN B s G a w){all:List Oper}{j:Nat}{b want:Bool}(h:nI all s j want= .bool b):(yielded all.toArray a.tmps j == some want)=(b == want):=by
 unfold nI at h;split at h
 .rename_i o ho;split at h
  .rename_i d hd;have h1:=r.ev (.tmp d);simp only[AS.ev]at h1;rcases aBb h with⟨h0,rfl⟩|h0
   .rw [h0]at h1;simp only[R]at h1;obtain⟨cs,h2,h3⟩:=h1;cases cs with
    |cons=>simp[Rc]at h3
    |nil=>
     simp only[Act.eval]at h2;rw[eN]at h2;cases hg:a.tmps[d]? with
     |none=>simp[yielded,ho,hd,hg]
     |some v=>simp[hg]at h2;subst h2;simp[yielded,ho,hd,hg]
   .rw [h0]at h1;simp only[R]at h1;have h2:=h1.1;simp only[Act.eval]at h2;rw[eN]at h2;cases hg:a.tmps[d]? with
    |none=>simp[hg]at h2;cases h2
    |some v=>simp[hg]at h2;subst h2;simp[yielded,ho,hd,hg]
  .cases h
 .cases h
theorem CV{P:Program}[aB P]{B:fM P}{all:List Oper}{Q:Exit->Act->World->Prop}:∀(l:List Oper) (s:AS) (K:AS->Prop),iJ P all l s K->∀a w,Rel B s a w->(∀a' w' s',K s'->Rel B s' a' w'->Q .normal a' w')->wpList P all.toArray Q l a w
 |[],s,K,h,a,w,r,hk=>hk _ _ _ h r
 |o::l,s,K,h,a,w,r,hk=>by
  simp only[iJ]at h;have stepped:((rM P o s λs'=>iJ P all l s' K)\/(En P o s λs'=>iJ P all l s' K)\/(GG P o s λs'=>iJ P all l s' K))->Region.wanted o (yielded all.toArray a.tmps)=true->wpList P all.toArray Q (o::l) a w:=by
   intro h hw;simp only[wpList,hw,eV];by_cases hcu:GG P o s λs'=>iJ P all l s' K
   .exact .inl (Mr hcu a w _ Q r λa' w' s' h' r'=>CV l s' K h' a' w' r' hk)
   obtain⟨s',h',hst⟩:∃s',iJ P all l s' K/\Step P B o s s':=by
    rcases h with h|h|h
    .exact zW (B:=B) h
    .exact Pk (B:=B) h
    .exact (hcu h).elim
   exact .inl (hst a w _ Q r λa' w' r'=>CV l s' K h' a' w' r' hk)
  split at h
  .rename_i hg;exact stepped h (by simp[Region.wanted,hg])
  .rename_i j want hg;split at h
   .rename_i b hb;obtain⟨G,r'⟩:=r;have hy:=Pm r' hb;by_cases hbw:b=want
    .exact stepped (h.1 hbw) (by simp[Region.wanted,hg,hy,hbw])
    .have hw:Region.wanted o (yielded all.toArray a.tmps)=false:=by simp[Region.wanted,hg,hy,hbw]
     simp only[wpList,hw,cX,eS];exact CV l _ K (h.2 hbw) _ _ ⟨G,r'.put o.dst (cz _ _)⟩ hk
   .exact h.elim
theorem Vn{ι:Type}(p:ι->Prop)(μ:ι->Nat)(h:∃i,p i):∃i,p i/\∀j,p j->μ i<=μ j:=by
 obtain⟨i,hi⟩:=h;generalize hn:μ i=n;induction n using Nat.strongRecOn generalizing i with
 |_ n ih=>
  by_cases hex:∃j,p j/\μ j<n
  .obtain ⟨j,hj,hlt⟩:=hex;exact ih (μ j) hlt j hj rfl
  .refine ⟨i,hi,λj hj=> ?_⟩
   rw[hn];exact Nat.le_of_not_lt λhlt=>hex ⟨j,hj,hlt⟩
open Classical in
noncomputable def least{ι:Type}(p:ι -> Prop)(μ:ι -> Nat): Nat := if h:∃ i, p i then μ (Vn p μ h).choose else 0
theorem least_le{ι:Type}{p:ι->Prop}{μ:ι->Nat}{j:ι}(h:p j):least p μ<=μ j:=by have hex:∃i,p i:=⟨j,h⟩;unfold least;rw[dif_pos hex];exact(Vn p μ hex).choose_spec.2 j h
theorem aBe{ι:Type}{p:ι->Prop}{μ:ι->Nat}(h:∃i,p i):∃i,p i/\least p μ=μ i:=by refine⟨(Vn p μ h).choose,(Vn p μ h).choose_spec.1,?_⟩;unfold least;rw[dif_pos h]
theorem nA{P:Program}[aB P](hm:P.follows .mixedOrders=true){B:fM P}:∀(c:Code) (s:AS) (Q:Exit->AS->Prop),jL P c s Q->∀a w,Rel B s a w->c.wp P (lift B Q) a w
 | .skip,s,Q,h,a,w,r=>wp_skip ⟨s,h,r⟩
 | .region id ops false,s,Q,⟨s2,hw,h⟩,a,w,r=>wp_region_list (by
   have:=CV (Q:=lift B Q) ops.toList s2 (Q .normal) h a w (hw B a w r) (λa' w' s' h' r'=>⟨s',h',r'⟩);simpa using this)
 | .region id ops true,s,Q,h,a,w,r=>wp_region_any hm (h B a w (lift B Q) r λa' w' s' h' r'=>⟨s',h',r'⟩)
 | .seq x y,s,Q,h,a,w,r=>wp_seq (FF (nA hm x s _ h a w r) λe a' w' he=>by
   obtain⟨s',h',r'⟩:=he;cases e with
   |normal=>exact nA hm y s' Q h' a' w' r'
   |_=>exact⟨s',h',r'⟩)
 | .cond c x y,s,Q,h,a,w,r=>by
  simp only[jL]at h;split at h
  .rename_i b hb;obtain⟨G,r'⟩:=r;exact wp_cond_split (r'.WR hb) (λhb=>nA hm x s Q (h.1 hb) a w ⟨G,r'⟩) (λhb=>nA hm y s Q (h.2 hb) a w ⟨G,r'⟩)
  .exact h.elim
 | .block id c,s,Q,h,a,w,r=>wp_block (FF (nA hm c s _ h a w r) λe a' w' he=>by
   obtain⟨s',h',r'⟩:=he;cases e with
   |exit id'=>
    simp only[bz]at h';simp only[Exit.inBlock];split at h'
    .rename_i hid;rw[eW hid];exact⟨s',h',r'⟩
    .rename_i hid;rw[eK hid];exact⟨s',h',r'⟩
   |_=>exact⟨s',h',r'⟩)
 | .loop c,s,Q,h,a,w,r=>by
  obtain⟨ι,inv,μ,i,h0,hr⟩:=h;refine wp_loop (λa w=>∃i,Rel B (inv i) a w) (λa w=>least (λi=>Rel B (inv i) a w) μ) ⟨i,h0 B a w r⟩ λa w hex=> ?_
  obtain⟨i,hi,aSk⟩:=aBe (μ:=μ) hex;refine FF (nA hm c (inv i) _ (hr i) a w hi) λe a' w' he=> ?_
  obtain⟨s',h',r'⟩:=he;cases e with
  |normal=>obtain⟨j,hw,hlt⟩:=h';have hj:=hw B a' w' r';refine⟨⟨j,hj⟩,?_⟩;rw[aSk];exact Nat.lt_of_le_of_lt (least_le hj) hlt
  |_=>exact⟨s',h',r'⟩
 | .exit id,s,Q,h,a,w,r=>wp_exit ⟨s,h,r⟩
 | .ret,s,Q,h,a,w,r=>wp_ret ⟨s,h,r⟩
 | .rangeFunc _ _ _ _,_,_,h,_,_,_=>by simp[jL]at h
 | .scope _,_,_,h,_,_,_=>by simp[jL]at h
 | .label _,_,_,h,_,_,_=>by simp[jL]at h
 | .goto _,_,_,h,_,_,_=>by simp[jL]at h
 | .refuse _,_,_,h,_,_,_=>by simp[jL]at h
def AS.rv(P:Program)(s:AS):ResultVar->Option AV
 | .tmp t=>some (s.t.getD t .undef)
 | .cell t ty=>match s.t.getD t .undef with
  | .ptr i ver idx off=>match s.at i ver idx with
   |some (_,e)=>match jV P ty with
    |some n=>if off+n<=e.length then some (.agg (((qD (CB i) true e).drop off).take n))else none
    |none=>if mH P ty then(qD (CB i) true e)[off]? else none
   |none=>none
  |_=>none
def DL(a:Act):ResultVar->Sem Value
 | .tmp t=>pure (a.tmps.getD t Go.undef)
 | .cell t ty=>do loadVar ty (<-asAddr (a.tmps.getD t Go.undef))
theorem Ij(fn:Func)(a:Act):results fn a.tmps=(do let vs<-fn.results.mapM (DL a);pure (if h:vs.size=1 then vs[0]else .tuple vs)):=by unfold results;congr 1;all_goals (congr 1;all_goals (funext x;cases x<;>rfl))
theorem aK1{P:Program}[aB P]{B:fM P}{s:AS}{G:List CO}{a:Act}{w:World}(r:dN B s G a w){rv:ResultVar}{x:AV}(h:s.rv P rv=some x):
  ∃v,(DL a rv).run P w= .ok v w/\R w (env B s.o G w) x v []:=by
 cases rv with
 |tmp t=>simp only[AS.rv,eA]at h;subst h;exact⟨a.tmps.getD t Go.undef,rfl,r.ev (.tmp t)⟩
 |cell t ty=>
  simp only[AS.rv]at h;split at h
  .rename_i i ver idx off hx;split at h
   .rename_i ob e ha;obtain⟨ho,he⟩:=CK ha;obtain⟨g,b,f,hl,hlive,hga,hv⟩:=r.ptr (x:= .tmp t) hx ho;obtain⟨b',f',cs,vB,hcn,hc,hone,sK⟩:=r.elem hl hlive he;rw[hga]at vB;simp only[eA,nB,qT]at vB;obtain⟨rfl,rfl⟩:=vB;have hle:=fA sK;rw[CE]at hle;simp only[Act.eval]at hv;split at h
    .rename_i n hn;split at h
     .rename_i yF;obtain rfl:=cU h;refine⟨.agg ((cs.drop off).take n).toArray,?_,by simp only[R];exact⟨_,rfl,FH hone,OB off n sK⟩⟩;have:=sM (P:=P) (t:=ty) (k:=off) (n:=n) (cs:=cs) hn (by omega) hc;simp only[Instr.loadAt,Instr.sureAddr,pure_bind]at this;simp[DL,hv,asAddr,<-oE,this]
     .cases h
    .split at h
     .rename_i aOj;obtain⟨v,hv',hR⟩:=KT sK h;refine⟨v,?_,hR⟩;have:=wE (P:=P) (t:=ty) aOj hv' hc;simp only[Instr.loadAt,Instr.sureAddr,pure_bind]at this;simp[DL,hv,asAddr,<-oE,this]
     .cases h
   .cases h
  .cases h
def AS.Ce(P:Program)(s:AS):List ResultVar->Option (List AV)
 |[]=>some []
 |x::xs=>match s.rv P x with
  |some y=>match AS.Ce P s xs with
   |some ys=>some (y::ys)
   |none=>none
  |none=>none
def single:List AV->AV
 |[x]=>x
 |xs=> .iP xs
def aX(P:Program)(fn:Func)(s:AS)(r:AV):Prop:=
 ∃ys,s.Ce P fn.results.toList=some ys/\gP s.o (single ys)=true/\(iN (single ys)).Nodup/\res s.o (single ys)=r/\clean r=true
theorem JC{P:Program}[aB P]{B:fM P}{s:AS}{G:List CO}{a:Act}{w:World}(r:dN B s G a w):∀{l:List ResultVar} {ys:List AV},s.Ce P l=some ys->
  ∃vs,(l.mapM (m:=Sem) (DL a)).run P w= .ok vs w/\Rc w (env B s.o G w) ys vs []
 |[],ys,h=>by simp only[AS.Ce,eA]at h;subst h;exact⟨[],by simp,by simp[Rc]⟩
 |x::xs,ys,h=>by
  simp only[AS.Ce]at h;split at h
  .rename_i y hy;split at h
   .rename_i ys' JD;obtain rfl:=cU h;obtain⟨v,h1,h2⟩:=aK1 r hy;obtain⟨vs,h3,h4⟩:=JC r JD;refine⟨v::vs,?_,by simp only[Rc];exact⟨[],[],h2,h4,rfl⟩⟩;simp only[mapM_cons,oA];rw[h1];simp only[lP];rw[h3];simp
   .cases h
  .cases h
theorem sZ{P:Program}[aB P]{B:fM P}{s:AS}{G:List CO}{a:Act}{w:World}(r:dN B s G a w){fn:Func}{ys:List AV}(h:s.Ce P fn.results.toList=some ys):
  ∃v,(results fn a.tmps).run P w= .ok v w/\R w (env B s.o G w) (single ys) v []:=by
 obtain⟨vs,h1,h2⟩:=JC r h;have hl:=fA h2;have hm:(fn.results.mapM (m:=Sem) (DL a)).run P w= .ok vs.toArray w:=by rw[CN];simp only[Sem.run_map];rw[h1];rfl
 rw[Ij];simp only[oA];rw[hm];simp only[lP,sY];match ys,vs,hl,h2 with
 |[y],[v],_,h2=>
  refine⟨v,by simp,?_⟩;simp only[Rc]at h2;obtain⟨f1,f2,h3,_,e⟩:=h2;obtain⟨rfl,_⟩:f1=[]/\f2=[]:=by simpa using e
  exact h3
 |[],[],_,h2=>exact⟨.tuple #[],by simp,by simp only[single,R];exact⟨[],rfl,h2⟩⟩
 |y1::y2::ys,v1::v2::vs,_,h2=>exact⟨.tuple (v1::v2::vs).toArray,by simp,by simp only[single,R];exact⟨_,rfl,h2⟩⟩
theorem FL{P:Program}[aB P](hm:P.follows .mixedOrders=true){f:FuncId}{fn:Func}{c:Code}(hf:P.funcs[f]? =some fn)(hb:fn.body=some c){args:List AV}{rr:AV}
  (h:jL P c ⟨args++replicate (fn.ntmps-args.length) .undef,[]⟩ (λe s=>(e= .normal\/e= .ret)/\aX P fn s rr)):Ok P f args rr:=by
 intro w vs hg oP;have hl:=fA oP;have r0:dN ⟨w,λb=>b<w.heap.size,λ_=>False,λ_=>none,λ_=>none,hg,λ_ h=>h.elim,λ_ h=>h.elim⟩ ⟨args++replicate (fn.ntmps-args.length) .undef,[]⟩ [] {tmps:=vs.toArray++Array.replicate (fn.ntmps-vs.toArray.size) Go.undef,defers:=[]} w:=by
  refine⟨rfl,rfl,λi ob g hl=>by simp[look]at hl,λi j oi oj gi gj b hl=>by simp[look]at hl,λi ob g b hl=>by simp[look]at hl,?_,eE _,λ_ _ _=>rfl,λb hb=>hb,nV.rfl⟩;have h1:Rc w (env ⟨w,λb=>b<w.heap.size,λ_=>False,λ_=>none,λ_=>none,hg,λ_ h=>h.elim,λ_ h=>h.elim⟩ [] [] w) args vs []:=dX (w:=w) (w':=w) (E:=mK w) (E':=env ⟨w,λb=>b<w.heap.size,λ_=>False,λ_=>none,λ_=>none,hg,λ_ h=>h.elim,λ_ h=>h.elim⟩ [] [] w) ⟨λb hb=>⟨⟨.inl hb,λi ob g hl=>by simp[look]at hl⟩,rfl⟩,λ_ _=>trivial,λ_ _ _ h=>by exact h.elim,λ_ _ _ h=>by exact h.elim,λ_ _ _ _ _ h=>by exact h.elim⟩ _ _ _ (by simp) oP;have h2:∀n,Rc w (env ⟨w,λb=>b<w.heap.size,λ_=>False,λ_=>none,λ_=>none,hg,λ_ h=>h.elim,λ_ h=>h.elim⟩ [] [] w) (replicate n .undef) (replicate n Go.undef) []:=by
   intro n;induction n with
   |zero=>simp[Rc]
   |succ n ih=>simp only[mS,Rc];exact⟨[],[],by simp[R],ih,rfl⟩
  have:=iQ h1 (h2 (fn.ntmps-args.length));simpa [hl]using this
 refine DG hf hb (FF (nA hm c _ _ h _ _ ⟨_,r0⟩) λe a w' he=> ?_);obtain⟨s,⟨he,ys,JD,qE,hu,lC,Ea⟩,G,r⟩:=he;obtain⟨v,fV,hR⟩:=sZ r JD;obtain⟨fp,h1,h2,h3⟩:=Ee r _ v qE hu hR;rw[lC]at h1;have hfin:∃v' fp,Ending.returned v= .returned v'/\R w' (Ae w.heap.size w' fp) rr v' fp/\fp.Nodup/\(∀b∈fp,w.heap.size<=b/\b<w'.heap.size)/\w.heap.size<=w'.heap.size/\(∀b,b<w.heap.size->w'.heap[b]? =w.heap[b]?)/\nV w w':=by refine⟨v,fp,rfl,aI0 <| Oe (E:=(env _ s.o G w').plain) (λ_ _=>trivial) rfl rfl rfl _ _ _ Ea h1,h2,λb hb=> ?_,r.size,λb hb=>r.frame b hb (λh=>h),r.same⟩;obtain⟨i,ob,g,_,hl,hlive,hF⟩:=h3 b hb;have:=r.fresh _ _ _ b hl hlive hF;exact⟨this.1.resolve_left (λh=>h),this.2⟩
 rcases he with rfl|rfl
 .exact ⟨r.defs,v,fV,hfin⟩
 .exact ⟨r.defs,v,fV,hfin⟩
theorem Pn{P:Program}[aB P]{all:List Oper}{s:AS}{K:AS->Prop}(h:K s):iJ P all [] s K:=h
theorem Po{P:Program}[aB P]{id:Nat}{l:List Oper}{s:AS}{Q:Exit->AS->Prop}(h:iJ P l l s (Q .normal)):jL P (.region id l.toArray false) s Q:=by simp only[jL];exact⟨s,kY.refl s,h⟩
theorem Pp{P:Program}[aB P]{id:Nat}{ops:Array Oper}{s s2:AS}{Q:Exit->AS->Prop}(hw:kY s s2)(h:jL P (.region id ops false) s2 Q):jL P (.region id ops false) s Q:=by simp only[jL]at h⊢;obtain⟨s3,h1,h2⟩:=h;exact⟨s3,hw.trans h1,h2⟩
theorem Pq{P:Program}[aB P]{c:Operand}{x y:Code}{s:AS}{Q:Exit->AS->Prop}{b:Bool}(hc:s.ev c= .bool b)(h1:b=true->jL P x s Q)(h2:b=false->jL P y s Q):jL P (.cond c x y) s Q:=by simp only[jL,hc];exact⟨h1,h2⟩
theorem TK{P:Program}[aB P]{id:Nat}{c:Code}{s:AS}{Q:Exit->AS->Prop}(h:jL P c s (bz id Q)):jL P (.block id c) s Q:=h
theorem Xm{P:Program}[aB P]{id:Nat}{s:AS}{Q:Exit->AS->Prop}(h:Q (.exit id) s):jL P (.exit id) s Q:=h
theorem ui{P:Program}[aB P]{s:AS}{Q:Exit->AS->Prop}(h:Q .ret s):jL P .ret s Q:=h
theorem Xn{P:Program}[aB P]{s:AS}{Q:Exit->AS->Prop}(h:Q .normal s):jL P .skip s Q:=h
theorem aBf{P:Program}[aB P]{c:Code}{s:AS}{Q:Exit->AS->Prop}{ι:Type}(inv:ι->AS)(μ:ι->Nat)(i:ι)(h0:kY s (inv i))(h:∀i,∀K:AS->Prop,(∀s' j,kY s' (inv j)->μ j<μ i->K s')->jL P c (inv i) (uG K Q)):jL P (.loop c) s Q:=
 ⟨ι,inv,μ,i,h0,λi=>h i _ λ_ j h1 h2=>⟨j,h1,h2⟩⟩
theorem JE{K:AS->Prop}{Q:Exit->AS->Prop}{s:AS}(h:Q .ret s):uG K Q .ret s:=h
theorem GH{K:AS->Prop}{Q:Exit->AS->Prop}{s:AS}{id:Nat}(h:Q (.exit id) s):uG K Q (.exit id) s:=h
theorem GI{Q:Exit->AS->Prop}{s:AS}{id:Nat}(h:Q .normal s):bz id Q .normal s:=h
theorem Ps{Q:Exit->AS->Prop}{s:AS}{id:Nat}(h:Q .ret s):bz id Q .ret s:=h
theorem TL{Q:Exit->AS->Prop}{s:AS}{id:Nat}(h:Q .normal s):bz id Q (.exit id) s:=by simpa [bz]using h
theorem TM{Q:Exit->AS->Prop}{s:AS}{id id':Nat}(hne:id'≠id)(h:Q (.exit id') s):bz id Q (.exit id') s:=by simpa [bz,hne]using h
def wk:List AV->List AV->Prop
 |[],[]=>True
 |x::xs,y::ys=>(y=x\/y= .undef)/\wk xs ys
 |_,_=>False
theorem GJ{w:World}{E:Env}:∀{t t':List AV} {vs:List Value},wk t t'->Rc w E t vs []->Rc w E t' vs []
 |[],[],_,_,h=>h
 |[],_::_,_,h,_=>h.elim
 |_::_,[],_,h,_=>h.elim
 |_::_,_::_,[],_,h=>by simp[Rc]at h
 |x::xs,y::ys,v::vs,h,hr=>by
  simp only[Rc]at hr⊢;obtain⟨f1,f2,h1,h2,e⟩:=hr;obtain⟨rfl,rfl⟩:f1=[]/\f2=[]:=by simpa using e
  refine⟨[],[],?_,GJ h.2 h2,rfl⟩;rcases h.1 with rfl|rfl
  .exact h1
  .simp [R]
theorem Ag{t t':List AV}{o:List aD}(h:wk t t'):kY ⟨t,o⟩ ⟨t',o⟩:=by rintro P _ B a w ⟨G,r⟩;exact⟨G,{r with tmps:=GJ h r.tmps}⟩
theorem wrap64(n:Int)(h1: -9223372036854775808<=n)(h2:n<=9223372036854775807):IntKind.i64.wrap n=n:=by rw[IntKind.wrap_i64];omega
theorem rE{k:Nat}(h:(k:Int)<=9223372036854775806:=by omega):IntKind.i64.wrap ((k:Int)+1)=((k+1:Nat):Int):=by rw[wrap64]<;>omega
mutual
def eZ:AV->Nat
 | .sl .own _ _=>1
 | .agg c=>bR c
 | .iP c=>bR c
 |_=>0
def bR:List AV->Nat
 |[]=>0
 |x::xs=>eZ x+bR xs
end
mutual
def eU(q k:Nat):AV->AV
 | .sl .own _ _=> .obj k q
 | .agg c=> .agg (bS q k c)
 | .iP c=> .iP (bS q k c)
 | .int a b=> .int a b
 | .bool b=> .bool b
 | .str s=> .str s
 | .sl g n l=> .sl g n l
 | .fH g c off=> .fH g c off
 | .obj i v=> .obj i v
 | .ptr i v j o=> .ptr i v j o
 | .fn f c=> .fn f c
 | .undef=> .undef
def bS(q k:Nat):List AV->List AV
 |[]=>[]
 |x::xs=>eU q k x::bS q (k+eZ x) xs
end
mutual
def eQ(q:Nat):AV->List aD
 | .sl .own n l=>[⟨true,false,n,q,l⟩]
 | .agg c=>bQ q c
 | .iP c=>bQ q c
 | .int _ _=>[]
 | .bool _=>[]
 | .str _=>[]
 | .sl _ _ _=>[]
 | .fH _ _ _=>[]
 | .obj _ _=>[]
 | .ptr _ _ _ _=>[]
 | .fn _ _=>[]
 | .undef=>[]
def bQ(q:Nat):List AV->List aD
 |[]=>[]
 |x::xs=>eQ q x++bQ q xs
end
mutual
theorem Ms(q:Nat):∀x:AV,(eQ q x).length=eZ x
 | .sl .own _ _=>rfl
 | .sl .view _ _=>rfl
 | .sl (.iZ _) _ _=>rfl
 | .agg c=>CW q c
 | .iP c=>CW q c
 | .int _ _=>rfl
 | .bool _=>rfl
 | .str _=>rfl
 | .fH _ _ _=>rfl
 | .obj _ _=>rfl
 | .ptr _ _ _ _=>rfl
 | .fn _ _=>rfl
 | .undef=>rfl
theorem CW(q:Nat):∀c:List AV,(bQ q c).length=bR c
 |[]=>rfl
 |x::xs=>by simp only[bQ,bR,eM,Ms q x,CW q xs]
end
mutual
theorem aJ(q k:Nat):∀x:AV,eB q k x=(eU q k x,eQ q x)
 | .sl .own _ _=>rfl
 | .sl .view _ _=>rfl
 | .sl (.iZ _) _ _=>rfl
 | .agg c=>by simp only[eB,eU,eQ,aH q k c]
 | .iP c=>by simp only[eB,eU,eQ,aH q k c]
 | .int _ _=>rfl
 | .bool _=>rfl
 | .str _=>rfl
 | .fH _ _ _=>rfl
 | .obj _ _=>rfl
 | .ptr _ _ _ _=>rfl
 | .fn _ _=>rfl
 | .undef=>rfl
theorem aH(q k:Nat):∀c:List AV,eF q k c=(bS q k c,bQ q c)
 |[]=>rfl
 |x::xs=>by simp only[eF,bS,bQ,aJ q k x,aH q _ xs,Ms]
end
attribute [simp] wk AS.ev AS.put AS.box AS.shut AV.fit AV.cells AV.isObj AS.at AS.stored zC Z0 rt qD iI AV.kept CB Ht AS.args arg AY AS.called eU bS eQ bQ eZ bR aJ aH AS.target AS.source AS.yH AS.OO AS.bound AS.made OJ Vj aD.kill
  AV.Mg AV.Ab AV.known AV.scalar vC vC.go AS.built uS Gz jF iN rC res gP lM Ml clean BI jC single AS.rv AS.Ce nI uG bz AV.nd ai WZ aj gU AV.iG
attribute [irreducible] jL iJ uG bz
theorem TU{P:Program}[aB P]{t:TypeId}{c:List AV}{off:Nat}{K1 K2:AV->Prop}(hk:∀y,K1 y->K2 y)(h:zC P t c off K1):zC P t c off K2:=by
 unfold zC at*;split at h
 .exact ⟨h.1,hk _ h.2⟩
 .refine ⟨h.1,?_⟩;have:=h.2;split at this
  .exact hk _ this
  .exact this.elim
theorem Vu{P:Program}[aB P]{o:Oper}{s:AS}{K1 K2:AS->Prop}(hk:∀s',K1 s'->K2 s')(h:rM P o s K1):rM P o s K2:=by
 obtain⟨dst,op,ty,pos,after,gd⟩:=o;unfold rM at h⊢;dsimp only at h⊢;split at h;all_goals (repeat' (split at h))
 all_goals (first
  |exact h.elim
  |exact hk _ h
  |exact⟨h.1,hk _ h.2⟩
  |((repeat (refine⟨h.1,?_⟩;replace h:=h.2));exact hk _ h)
  |exact TU (λy=>hk _) h
  |exact⟨h.1,TU (λy=>hk _) h.2⟩
  |(obtain⟨r,h1,h2⟩:=h;exact⟨r,h1,hk _ h2⟩)
  |((repeat (refine⟨h.1,?_⟩;replace h:=h.2));obtain⟨r,h1,h2⟩:=h;exact⟨r,h1,hk _ h2⟩)
  |((repeat (refine⟨h.1,?_⟩;replace h:=h.2));split at h<;>first|exact hk _ h|((repeat (refine⟨h.1,?_⟩;replace h:=h.2));exact hk _ h)|exact h.elim)
  |((repeat (refine⟨h.1,?_⟩;replace h:=h.2));(repeat' (split at h))<;>first|exact h.elim|((repeat (refine⟨h.1,?_⟩;replace h:=h.2));exact hk _ h)|((repeat (refine⟨h.1,?_⟩;replace h:=h.2));obtain⟨r,h1,h2⟩:=h;exact⟨r,h1,hk _ h2⟩))
  |(have h9:=hk _ h;simp_all;done)
  |((first|rw[eW (by assumption)]|rw[eK (by assumption)]);((repeat (refine⟨h.1,?_⟩;replace h:=h.2));exact hk _ h))
  |((first|rw[eW (by assumption)]|rw[eK (by assumption)]);((repeat (refine⟨h.1,?_⟩;replace h:=h.2));obtain⟨r,h1,h2⟩:=h;exact⟨r,h1,hk _ h2⟩))
  |((repeat (refine⟨h.1,?_⟩;replace h:=h.2));obtain⟨r,h1,h2⟩:=h;refine⟨r,h1,?_⟩;(first|rw[eW (by assumption)]|rw[eK (by assumption)]);exact hk _ h2))
theorem F3{P:Program}[aB P]{o:Oper}{s:AS}{K1 K2:AS->Prop}(hk:∀s',K1 s'->K2 s')(h:JB P o s K1):JB P o s K2:=by
 obtain⟨dst,op,ty,pos,after,gd⟩:=o;unfold JB at h⊢;dsimp only at h⊢;split at h
 .split at h
  .obtain ⟨h1,h2,h3,h4,x',r,h5,h6,h7,h8⟩:=h;exact⟨h1,h2,h3,h4,x',r,h5,h6,h7,hk _ h8⟩
  .exact h.elim
 .split at h
  .split at h
   .obtain ⟨h1,h2,h3,h4,h5⟩:=h;exact⟨h1,h2,h3,h4,hk _ h5⟩
   .exact h.elim
  .exact h.elim
 .exact h.elim
theorem aCm{P:Program}[aB P]{o:Oper}{s:AS}{K1 K2:AS->Prop}(hk:∀s',K1 s'->K2 s')(h:Xl P o s K1):Xl P o s K2:=by
 obtain⟨dst,op,ty,pos,after,gd⟩:=o;unfold Xl at h⊢;dsimp only at h⊢;split at h
 .split at h
  .obtain ⟨h1,gs,r,h2,h3,h4,h5⟩:=h;exact⟨h1,gs,r,h2,h3,h4,hk _ h5⟩
  .exact h.elim
 .exact h.elim
theorem XI{P:Program}[aB P]{o:Oper}{s:AS}{K1 K2:AS->Prop}(hk:∀s',K1 s'->K2 s')(h:En P o s K1):En P o s K2:=by obtain⟨s1,hw,h⟩:=h;exact⟨s1,hw,h.imp (Vu hk) (Or.imp (F3 hk) (aCm hk))⟩
theorem aCn{P:Program}[aB P]{o:Oper}{s:AS}{K1 K2:AS->Prop}(hk:∀s',K1 s'->K2 s')(h:RU P o s K1):RU P o s K2:=by
 obtain⟨dst,op,ty,pos,after,gd⟩:=o;unfold RU at h⊢;dsimp only at h⊢;split at h
 .split at h
  .obtain ⟨hc,⟨x,zs,k,ver,code,i,h',Q,h0,h1,h2,h3,h4,h5,h6⟩|⟨x,code,h0,h1,h2,h3⟩|⟨Q,h1,h2⟩|⟨x,y,zs,k,ver,code,xv,i,h',Q,h0,h1,h2,h3,h7,h4,h5,h6⟩⟩:=h
   .exact ⟨hc,.inl ⟨x,zs,k,ver,code,i,h',Q,h0,h1,h2,h3,h4,h5,λr i' h' hq hi=>hk _ (h6 r i' h' hq hi)⟩⟩
   .exact ⟨hc,.inr (.inl ⟨x,code,h0,h1,h2,λi h hi=>hk _ (h3 i h hi)⟩)⟩
   .exact ⟨hc,.inr (.inr (.inl ⟨Q,h1,λr hq=>hk _ (h2 r hq)⟩))⟩
   .exact ⟨hc,.inr (.inr (.inr ⟨x,y,zs,k,ver,code,xv,i,h',Q,h0,h1,h2,h3,h7,h4,h5,λr i' h' hq hi=>hk _ (h6 r i' h' hq hi)⟩))⟩
  .exact h.elim
 .exact h.elim
theorem TV{P:Program}[aB P]{o:Oper}{s:AS}{K1 K2:AS->Prop}(hk:∀s',K1 s'->K2 s')(h:GG P o s K1):GG P o s K2:=by obtain⟨s1,hw,h⟩:=h;exact⟨s1,hw,aCn hk h⟩
abbrev aU:=List UInt8
def bB{α:Type}(f:α->Nat):List α->Nat
 |[]=>0
 |x::xs=>f x+bB f xs
def bV{α:Type}(f:α->Nat)(l:List α):Nat:=l.length+bB f l
def sub(n:Int)(k:Nat):Int:=if n<k then -1 else n-k
theorem Eo{α:Type}(f:α->Nat):∀(l:List α) (k:Nat) (h:k<l.length),bB f (l.take (k+1))=bB f (l.take k)+f l[k]
 |x::xs,0,_=>by simp[bB]
 |x::xs,k+1,h=>by simp only[fL,bB,getElem_cons_succ];rw[Eo f xs k (by simpa using h)];omega
theorem uA{α:Type}(f:α->Nat):∀(l:List α) (k:Nat),bB f (l.take k)<=bB f l
 |[],k=>by simp
 |x::xs,0=>by simp[bB]
 |x::xs,k+1=>by simp only[fL,bB];have:=uA f xs k;omega
def aJa(z:List AV)(xs:List (List AV))(k:Nat):List (List AV):=xs.take k++replicate (xs.length-k) z
@[simp] theorem aGq(z:List AV)(xs:List (List AV))(k:Nat):(aJa z xs k).length=xs.length:=by simp[aJa];omega
@[simp] theorem eD{α:Type}(f:α->List AV)(h:∀x,BI (f x)=true):∀l:List α,jC (l.map f)=true
 |[]=>rfl
 |x::xs=>by simp only[lA,jC,h x,tR];exact eD f h xs
theorem bJ{α:Type}{f g:α->List AV}{t:Tg->Option Tg}{b:Bool}(h:∀x,qD t b (f x)=g x):∀l:List α,iI t b (l.map f)=l.map g
 |[]=>rfl
 |x::xs=>by simp only[lA,iI,h x,bJ h xs]
theorem dD{α:Type}(f:α->Nat)(l:List α)(k:Nat)(h:k<l.length):f l[k]<=bB f l:=by have h1:=Eo f l k h;have h2:=uA f l (k+1);omega
theorem dS{α:Type}(f:α->Nat){l:List α}{x:α}(h:x∈l):f x<=bB f l:=by obtain⟨k,hk,rfl⟩:=DQ h;exact dD f l k hk
@[simp] def lI(n:Int):List AV:=[.int .i64 n]
@[simp] def aU3(n:Bool):List AV:=[.bool n]
@[simp] def dQ(s:aU):List AV:=[.str s]
def dI(s:aU):Nat:=s.length
@[simp] theorem aOp(t:Tg->Option Tg)(b:Bool)(l:List Int):iI t b (l.map lI)=l.map lI:=bJ (by intro x;rfl) l
@[simp] theorem aOq(t:Tg->Option Tg)(b:Bool)(l:List aU):iI t b (l.map dQ)=l.map dQ:=bJ (by intro x;rfl) l
@[simp] theorem dm(l:List Int):jC (l.map lI)=true:=eD _ (by intro x;rfl) l
@[simp] theorem CY(l:List aU):jC (l.map dQ)=true:=eD _ (by intro x;rfl) l
structure aK where
  host:aU
  path:aU
deriving DecidableEq
@[simp] def bC(x:aK):List AV:=[.str x.host,.str x.path]
def aP(x:aK):Nat:=x.host.length+x.path.length
@[simp] theorem aM5(t:Tg->Option Tg)(b:Bool)(l:List aK):iI t b (l.map bC)=l.map bC:=bJ (by intro x;rfl) l
@[simp] theorem aJh(l:List aK):jC (l.map bC)=true:=eD _ (by intro x;rfl) l
structure nY where
  name:aU
  value:aU
deriving DecidableEq
@[simp] def uH(x:nY):List AV:=[.str x.name,.str x.value]
def pK(x:nY):Nat:=x.name.length+x.value.length
@[simp] theorem aM6(t:Tg->Option Tg)(b:Bool)(l:List nY):iI t b (l.map uH)=l.map uH:=bJ (by intro x;rfl) l
@[simp] theorem aJi(l:List nY):jC (l.map uH)=true:=eD _ (by intro x;rfl) l
structure bU where
  kind:Int
  name:aU
  attrs:List nY
  text:aU
deriving DecidableEq
@[simp] def eG(g:Tg)(x:bU):List AV:=[.int .i64 x.kind,.str x.name,.sl g 2 (x.attrs.map uH),.str x.text]
def dR(x:bU):Nat:=x.name.length+(bV pK x.attrs)+x.text.length
@[simp] theorem aFg(g:Tg)(b:Bool)(l:List bU):iI (λ_=>some .view) b (l.map (eG g))=l.map (eG .view):=bJ (by intro x;simp) l
@[simp] theorem aBq(i:Nat)(b:Bool)(l:List bU):iI (CB i) b (l.map (eG .own))=l.map (eG (.iZ i)):=bJ (by intro x;simp) l
@[simp] theorem aBr(i:Nat)(b:Bool)(l:List bU):iI (CB i) b (l.map (eG .view))=l.map (eG .view):=bJ (by intro x;simp) l
@[simp] theorem aBs(i j:Nat)(b:Bool)(l:List bU):iI (CB i) b (l.map (eG (.iZ j)))=l.map (eG (.iZ j)):=bJ (by intro x;simp) l
@[simp] theorem aBt(b:Bool)(l:List bU):iI Ht b (l.map (eG .own))=l.map (eG .view):=bJ (by intro x;simp) l
@[simp] theorem aBu(b:Bool)(l:List bU):iI Ht b (l.map (eG .view))=l.map (eG .view):=bJ (by intro x;simp) l
@[simp] theorem uC(l:List bU):jC (l.map (eG .own))=true:=eD _ (by intro x;simp) l
structure nJ where
  rest:aU
deriving DecidableEq
@[simp] def iB(x:nJ):List AV:=[.str x.rest]
def oQ(x:nJ):Nat:=x.rest.length
@[simp] theorem aBv(t:Tg->Option Tg)(b:Bool)(l:List nJ):iI t b (l.map iB)=l.map iB:=bJ (by intro x;rfl) l
@[simp] theorem A9(l:List nJ):jC (l.map iB)=true:=eD _ (by intro x;rfl) l
structure gV where
  name:aU
  text:aU
  parent:Int
  attrs:List nY
deriving DecidableEq
@[simp] def fC(g:Tg)(x:gV):List AV:=[.str x.name,.str x.text,.int .i64 x.parent,.sl g 2 (x.attrs.map uH)]
def gK(x:gV):Nat:=x.name.length+x.text.length+(bV pK x.attrs)
@[simp] theorem aGv(g:Tg)(b:Bool)(l:List gV):iI (λ_=>some .view) b (l.map (fC g))=l.map (fC .view):=bJ (by intro x;simp) l
@[simp] theorem aFh(i:Nat)(b:Bool)(l:List gV):iI (CB i) b (l.map (fC .own))=l.map (fC (.iZ i)):=bJ (by intro x;simp) l
@[simp] theorem aFi(i:Nat)(b:Bool)(l:List gV):iI (CB i) b (l.map (fC .view))=l.map (fC .view):=bJ (by intro x;simp) l
@[simp] theorem aFj(i j:Nat)(b:Bool)(l:List gV):iI (CB i) b (l.map (fC (.iZ j)))=l.map (fC (.iZ j)):=bJ (by intro x;simp) l
@[simp] theorem aFk(b:Bool)(l:List gV):iI Ht b (l.map (fC .own))=l.map (fC .view):=bJ (by intro x;simp) l
@[simp] theorem aFl(b:Bool)(l:List gV):iI Ht b (l.map (fC .view))=l.map (fC .view):=bJ (by intro x;simp) l
@[simp] theorem aJj(l:List gV):jC (l.map (fC .own))=true:=eD _ (by intro x;simp) l
structure aY where
  nodes:List gV
  opens:List Int
deriving DecidableEq
@[simp] def aW(g:Tg)(x:aY):List AV:=[.sl g 4 (x.nodes.map (fC g)),.sl g 1 (x.opens.map lI)]
def aS(x:aY):Nat:=(bV gK x.nodes)+x.opens.length
@[simp] theorem V3(g:Tg)(b:Bool)(l:List aY):iI (λ_=>some .view) b (l.map (aW g))=l.map (aW .view):=bJ (by intro x;simp) l
@[simp] theorem C8(i:Nat)(b:Bool)(l:List aY):iI (CB i) b (l.map (aW .own))=l.map (aW (.iZ i)):=bJ (by intro x;simp) l
@[simp] theorem C9(i:Nat)(b:Bool)(l:List aY):iI (CB i) b (l.map (aW .view))=l.map (aW .view):=bJ (by intro x;simp) l
@[simp] theorem D7(i j:Nat)(b:Bool)(l:List aY):iI (CB i) b (l.map (aW (.iZ j)))=l.map (aW (.iZ j)):=bJ (by intro x;simp) l
@[simp] theorem D8(b:Bool)(l:List aY):iI Ht b (l.map (aW .own))=l.map (aW .view):=bJ (by intro x;simp) l
@[simp] theorem D9(b:Bool)(l:List aY):iI Ht b (l.map (aW .view))=l.map (aW .view):=bJ (by intro x;simp) l
@[simp] theorem aBw(l:List aY):jC (l.map (aW .own))=true:=eD _ (by intro x;simp) l
structure nZ where
  name:aU
  color:Int
deriving DecidableEq
@[simp] def kM(x:nZ):List AV:=[.str x.name,.int .i64 x.color]
def sG(x:nZ):Nat:=x.name.length
@[simp] theorem aM7(t:Tg->Option Tg)(b:Bool)(l:List nZ):iI t b (l.map kM)=l.map kM:=bJ (by intro x;rfl) l
@[simp] theorem aJk(l:List nZ):jC (l.map kM)=true:=eD _ (by intro x;rfl) l
structure bW where
  rules:List nZ
deriving DecidableEq
@[simp] def bX(g:Tg)(x:bW):List AV:=[.sl g 2 (x.rules.map kM)]
def xZ(x:bW):Nat:=(bV sG x.rules)
@[simp] theorem aFm(g:Tg)(b:Bool)(l:List bW):iI (λ_=>some .view) b (l.map (bX g))=l.map (bX .view):=bJ (by intro x;simp) l
@[simp] theorem aBx(i:Nat)(b:Bool)(l:List bW):iI (CB i) b (l.map (bX .own))=l.map (bX (.iZ i)):=bJ (by intro x;simp) l
@[simp] theorem aBy(i:Nat)(b:Bool)(l:List bW):iI (CB i) b (l.map (bX .view))=l.map (bX .view):=bJ (by intro x;simp) l
@[simp] theorem aBz(i j:Nat)(b:Bool)(l:List bW):iI (CB i) b (l.map (bX (.iZ j)))=l.map (bX (.iZ j)):=bJ (by intro x;simp) l
@[simp] theorem aB0(b:Bool)(l:List bW):iI Ht b (l.map (bX .own))=l.map (bX .view):=bJ (by intro x;simp) l
@[simp] theorem aB1(b:Bool)(l:List bW):iI Ht b (l.map (bX .view))=l.map (bX .view):=bJ (by intro x;simp) l
@[simp] theorem aGw(l:List bW):jC (l.map (bX .own))=true:=eD _ (by intro x;simp) l
structure kZ where
  op:Int
  text:aU
deriving DecidableEq
@[simp] def tC(x:kZ):List AV:=[.int .i64 x.op,.str x.text]
@[simp] theorem aM8(t:Tg->Option Tg)(b:Bool)(l:List kZ):iI t b (l.map tC)=l.map tC:=bJ (by intro x;rfl) l
@[simp] theorem aJl(l:List kZ):jC (l.map tC)=true:=eD _ (by intro x;rfl) l
structure fU where
  isSet:Bool
  lG:List aU
  oC:List aU
  oD:List aU
  vQ:aU
deriving DecidableEq
@[simp] def dK(g:Tg)(x:fU):List AV:=[.bool x.isSet,.sl g 1 (x.lG.map dQ),.sl g 1 (x.oC.map dQ),.sl g 1 (x.oD.map dQ),.str x.vQ]
def gF(x:fU):Nat:=(bV dI x.lG)+(bV dI x.oC)+(bV dI x.oD)+x.vQ.length
@[simp] theorem aB2(g:Tg)(b:Bool)(l:List fU):iI (λ_=>some .view) b (l.map (dK g))=l.map (dK .view):=bJ (by intro x;simp) l
@[simp] theorem V4(i:Nat)(b:Bool)(l:List fU):iI (CB i) b (l.map (dK .own))=l.map (dK (.iZ i)):=bJ (by intro x;simp) l
@[simp] theorem V5(i:Nat)(b:Bool)(l:List fU):iI (CB i) b (l.map (dK .view))=l.map (dK .view):=bJ (by intro x;simp) l
@[simp] theorem V6(i j:Nat)(b:Bool)(l:List fU):iI (CB i) b (l.map (dK (.iZ j)))=l.map (dK (.iZ j)):=bJ (by intro x;simp) l
@[simp] theorem V7(b:Bool)(l:List fU):iI Ht b (l.map (dK .own))=l.map (dK .view):=bJ (by intro x;simp) l
@[simp] theorem V8(b:Bool)(l:List fU):iI Ht b (l.map (dK .view))=l.map (dK .view):=bJ (by intro x;simp) l
@[simp] theorem aFn(l:List fU):jC (l.map (dK .own))=true:=eD _ (by intro x;simp) l
structure bE where
  status:Int
  kind:Int
  body:aU
  age:Int
  shares:Bool
  bM:aU
deriving DecidableEq
@[simp] def cZ(x:bE):List AV:=[.int .i64 x.status,.int .i64 x.kind,.str x.body,.int .i64 x.age,.bool x.shares,.str x.bM]
def dE(x:bE):Nat:=x.body.length+x.bM.length
@[simp] theorem aFo(t:Tg->Option Tg)(b:Bool)(l:List bE):iI t b (l.map cZ)=l.map cZ:=bJ (by intro x;rfl) l
@[simp] theorem V9(l:List bE):jC (l.map cZ)=true:=eD _ (by intro x;rfl) l
structure gG where
  kind:Int
  to:aK
  frm:aU
  digest:aU
deriving DecidableEq
@[simp] def gW(x:gG):List AV:=[.int .i64 x.kind,.str x.to.host,.str x.to.path,.str x.frm,.str x.digest]
def qK(x:gG):Nat:=(aP x.to)+x.frm.length+x.digest.length
@[simp] theorem aGy(t:Tg->Option Tg)(b:Bool)(l:List gG):iI t b (l.map gW)=l.map gW:=bJ (by intro x;rfl) l
@[simp] theorem Et(l:List gG):jC (l.map gW)=true:=eD _ (by intro x;rfl) l
structure TQ where
  path:aU
  response:bE
deriving DecidableEq
@[simp] def zD(x:TQ):List AV:=[.str x.path,.int .i64 x.response.status,.int .i64 x.response.kind,.str x.response.body,.int .i64 x.response.age,.bool x.response.shares,.str x.response.bM]
def Eu(x:TQ):Nat:=x.path.length+(dE x.response)
@[simp] theorem aNa(t:Tg->Option Tg)(b:Bool)(l:List TQ):iI t b (l.map zD)=l.map zD:=bJ (by intro x;rfl) l
@[simp] theorem aJm(l:List TQ):jC (l.map zD)=true:=eD _ (by intro x;rfl) l
structure fE where
  host:aU
  files:List TQ
deriving DecidableEq
@[simp] def bN(g:Tg)(x:fE):List AV:=[.str x.host,.sl g 7 (x.files.map zD)]
def bT(x:fE):Nat:=x.host.length+(bV Eu x.files)
@[simp] theorem aB3(g:Tg)(b:Bool)(l:List fE):iI (λ_=>some .view) b (l.map (bN g))=l.map (bN .view):=bJ (by intro x;simp) l
@[simp] theorem W9(i:Nat)(b:Bool)(l:List fE):iI (CB i) b (l.map (bN .own))=l.map (bN (.iZ i)):=bJ (by intro x;simp) l
@[simp] theorem X0(i:Nat)(b:Bool)(l:List fE):iI (CB i) b (l.map (bN .view))=l.map (bN .view):=bJ (by intro x;simp) l
@[simp] theorem X3(i j:Nat)(b:Bool)(l:List fE):iI (CB i) b (l.map (bN (.iZ j)))=l.map (bN (.iZ j)):=bJ (by intro x;simp) l
@[simp] theorem X4(b:Bool)(l:List fE):iI Ht b (l.map (bN .own))=l.map (bN .view):=bJ (by intro x;simp) l
@[simp] theorem X5(b:Bool)(l:List fE):iI Ht b (l.map (bN .view))=l.map (bN .view):=bJ (by intro x;simp) l
@[simp] theorem aFp(l:List fE):jC (l.map (bN .own))=true:=eD _ (by intro x;simp) l
structure Vp where
  top:aU
  to:aK
  response:bE
  til:Int
deriving DecidableEq
@[simp] def Pt(x:Vp):List AV:=[.str x.top,.str x.to.host,.str x.to.path,.int .i64 x.response.status,.int .i64 x.response.kind,.str x.response.body,.int .i64 x.response.age,.bool x.response.shares,.str x.response.bM,.int .i64 x.til]
@[simp] theorem aK5(t:Tg->Option Tg)(b:Bool)(l:List Vp):iI t b (l.map Pt)=l.map Pt:=bJ (by intro x;rfl) l
@[simp] theorem aGz(l:List Vp):jC (l.map Pt)=true:=eD _ (by intro x;rfl) l
structure CZ where
  entries:List Vp
deriving DecidableEq
@[simp] def xJ(g:Tg)(x:CZ):List AV:=[.sl g 10 (x.entries.map Pt)]
@[simp] theorem aFq(g:Tg)(b:Bool)(l:List CZ):iI (λ_=>some .view) b (l.map (xJ g))=l.map (xJ .view):=bJ (by intro x;simp) l
@[simp] theorem aB4(i:Nat)(b:Bool)(l:List CZ):iI (CB i) b (l.map (xJ .own))=l.map (xJ (.iZ i)):=bJ (by intro x;simp) l
@[simp] theorem aB5(i:Nat)(b:Bool)(l:List CZ):iI (CB i) b (l.map (xJ .view))=l.map (xJ .view):=bJ (by intro x;simp) l
@[simp] theorem aB6(i j:Nat)(b:Bool)(l:List CZ):iI (CB i) b (l.map (xJ (.iZ j)))=l.map (xJ (.iZ j)):=bJ (by intro x;simp) l
@[simp] theorem aB7(b:Bool)(l:List CZ):iI Ht b (l.map (xJ .own))=l.map (xJ .view):=bJ (by intro x;simp) l
@[simp] theorem aB8(b:Bool)(l:List CZ):iI Ht b (l.map (xJ .view))=l.map (xJ .view):=bJ (by intro x;simp) l
@[simp] theorem aG0(l:List CZ):jC (l.map (xJ .own))=true:=eD _ (by intro x;simp) l
structure uu where
  top:aU
  to:aK
  aOr:Bool
deriving DecidableEq
@[simp] def uw(x:uu):List AV:=[.str x.top,.str x.to.host,.str x.to.path,.bool x.aOr]
@[simp] theorem aNb(t:Tg->Option Tg)(b:Bool)(l:List uu):iI t b (l.map uw)=l.map uw:=bJ (by intro x;rfl) l
@[simp] theorem aJn(l:List uu):jC (l.map uw)=true:=eD _ (by intro x;rfl) l
structure Xx where
  aG1:List fE
  cache:CZ
  log:List uu
  now:Int
deriving DecidableEq
@[simp] def Lm(g:Tg)(x:Xx):List AV:=[.sl g 2 (x.aG1.map (bN g)),.sl g 10 (x.cache.entries.map Pt),.sl g 4 (x.log.map uw),.int .i64 x.now]
@[simp] theorem aJo(g:Tg)(b:Bool)(l:List Xx):iI (λ_=>some .view) b (l.map (Lm g))=l.map (Lm .view):=bJ (by intro x;simp) l
@[simp] theorem aG2(i:Nat)(b:Bool)(l:List Xx):iI (CB i) b (l.map (Lm .own))=l.map (Lm (.iZ i)):=bJ (by intro x;simp) l
@[simp] theorem aG3(i:Nat)(b:Bool)(l:List Xx):iI (CB i) b (l.map (Lm .view))=l.map (Lm .view):=bJ (by intro x;simp) l
@[simp] theorem aG4(i j:Nat)(b:Bool)(l:List Xx):iI (CB i) b (l.map (Lm (.iZ j)))=l.map (Lm (.iZ j)):=bJ (by intro x;simp) l
@[simp] theorem aG5(b:Bool)(l:List Xx):iI Ht b (l.map (Lm .own))=l.map (Lm .view):=bJ (by intro x;simp) l
@[simp] theorem aG6(b:Bool)(l:List Xx):iI Ht b (l.map (Lm .view))=l.map (Lm .view):=bJ (by intro x;simp) l
@[simp] theorem aK6(l:List Xx):jC (l.map (Lm .own))=true:=eD _ (by intro x;simp) l
structure nK where
  mode:Int
  to:aK
  digest:aU
  node:Int
  done:Bool
  code:Int
  body:aU
deriving DecidableEq
@[simp] def xC(x:nK):List AV:=[.int .i64 x.mode,.str x.to.host,.str x.to.path,.str x.digest,.int .i64 x.node,.bool x.done,.int .i64 x.code,.str x.body]
def iU(x:nK):Nat:=(aP x.to)+x.digest.length+x.body.length
@[simp] theorem aNc(t:Tg->Option Tg)(b:Bool)(l:List nK):iI t b (l.map xC)=l.map xC:=bJ (by intro x;rfl) l
@[simp] theorem aJp(l:List nK):jC (l.map xC)=true:=eD _ (by intro x;rfl) l
structure fO where
  to:aK
  done:Bool
  code:Int
  body:aU
deriving DecidableEq
@[simp] def lT(x:fO):List AV:=[.str x.to.host,.str x.to.path,.bool x.done,.int .i64 x.code,.str x.body]
def bI(x:fO):Nat:=(aP x.to)+x.body.length
@[simp] theorem aJq(t:Tg->Option Tg)(b:Bool)(l:List fO):iI t b (l.map lT)=l.map lT:=bJ (by intro x;rfl) l
@[simp] theorem RV(l:List fO):jC (l.map lT)=true:=eD _ (by intro x;rfl) l
structure aC where
  addr:aK
  bM:fU
  tok:nJ
  queue:List bU
  ended:Bool
  builder:aY
  aF:List nK
  aN:List fO
  entries:List aK
  block:Int
  inline:Int
  deferred:Int
  iV:Int
  uI:List aK
  log:List aU
  jZ:Bool
deriving DecidableEq
@[simp] def aQ(g:Tg)(x:aC):List AV:=[.str x.addr.host,.str x.addr.path,.bool x.bM.isSet,.sl g 1 (x.bM.lG.map dQ),.sl g 1 (x.bM.oC.map dQ),.sl g 1 (x.bM.oD.map dQ),.str x.bM.vQ,.str x.tok.rest,.sl g 4 (x.queue.map (eG g)),.bool x.ended,.sl g 4 (x.builder.nodes.map (fC g)),.sl g 1 (x.builder.opens.map lI),.sl g 8 (x.aF.map xC),.sl g 5 (x.aN.map lT),.sl g 2 (x.entries.map bC),.int .i64 x.block,.int .i64 x.inline,.int .i64 x.deferred,.int .i64 x.iV,.sl g 2 (x.uI.map bC),.sl g 1 (x.log.map dQ),.bool x.jZ]
def aM(x:aC):Nat:=(aP x.addr)+(gF x.bM)+(oQ x.tok)+(bV dR x.queue)+(aS x.builder)+(bV iU x.aF)+(bV bI x.aN)+(bV aP x.entries)+(bV aP x.uI)+(bV dI x.log)
@[simp] theorem aG7(g:Tg)(b:Bool)(l:List aC):iI (λ_=>some .view) b (l.map (aQ g))=l.map (aQ .view):=bJ (by intro x;simp) l
@[simp] theorem aFr(i:Nat)(b:Bool)(l:List aC):iI (CB i) b (l.map (aQ .own))=l.map (aQ (.iZ i)):=bJ (by intro x;simp) l
@[simp] theorem aFs(i:Nat)(b:Bool)(l:List aC):iI (CB i) b (l.map (aQ .view))=l.map (aQ .view):=bJ (by intro x;simp) l
@[simp] theorem aFt(i j:Nat)(b:Bool)(l:List aC):iI (CB i) b (l.map (aQ (.iZ j)))=l.map (aQ (.iZ j)):=bJ (by intro x;simp) l
@[simp] theorem aFu(b:Bool)(l:List aC):iI Ht b (l.map (aQ .own))=l.map (aQ .view):=bJ (by intro x;simp) l
@[simp] theorem aFv(b:Bool)(l:List aC):iI Ht b (l.map (aQ .view))=l.map (aQ .view):=bJ (by intro x;simp) l
@[simp] theorem aJr(l:List aC):jC (l.map (aQ .own))=true:=eD _ (by intro x;simp) l
structure mI where
  builder:aY
  log:List aU
  dV:List aU
  sN:bW
  jZ:Bool
deriving DecidableEq
@[simp] def dC(g:Tg)(x:mI):List AV:=[.sl g 4 (x.builder.nodes.map (fC g)),.sl g 1 (x.builder.opens.map lI),.sl g 1 (x.log.map dQ),.sl g 1 (x.dV.map dQ),.sl g 2 (x.sN.rules.map kM),.bool x.jZ]
def mO(x:mI):Nat:=(aS x.builder)+(bV dI x.log)+(bV dI x.dV)+(xZ x.sN)
@[simp] theorem aB9(g:Tg)(b:Bool)(l:List mI):iI (λ_=>some .view) b (l.map (dC g))=l.map (dC .view):=bJ (by intro x;simp) l
@[simp] theorem X6(i:Nat)(b:Bool)(l:List mI):iI (CB i) b (l.map (dC .own))=l.map (dC (.iZ i)):=bJ (by intro x;simp) l
@[simp] theorem X7(i:Nat)(b:Bool)(l:List mI):iI (CB i) b (l.map (dC .view))=l.map (dC .view):=bJ (by intro x;simp) l
@[simp] theorem X8(i j:Nat)(b:Bool)(l:List mI):iI (CB i) b (l.map (dC (.iZ j)))=l.map (dC (.iZ j)):=bJ (by intro x;simp) l
@[simp] theorem X9(b:Bool)(l:List mI):iI Ht b (l.map (dC .own))=l.map (dC .view):=bJ (by intro x;simp) l
@[simp] theorem Y0(b:Bool)(l:List mI):iI Ht b (l.map (dC .view))=l.map (dC .view):=bJ (by intro x;simp) l
@[simp] theorem aFw(l:List mI):jC (l.map (dC .own))=true:=eD _ (by intro x;simp) l
structure dw where
  to:aK
  response:bE
  used:Bool
deriving DecidableEq
@[simp] def dx(x:dw):List AV:=[.str x.to.host,.str x.to.path,.int .i64 x.response.status,.int .i64 x.response.kind,.str x.response.body,.int .i64 x.response.age,.bool x.response.shares,.str x.response.bM,.bool x.used]
@[simp] theorem aK7(t:Tg->Option Tg)(b:Bool)(l:List dw):iI t b (l.map dx)=l.map dx:=bJ (by intro x;rfl) l
@[simp] theorem aG8(l:List dw):jC (l.map dx)=true:=eD _ (by intro x;rfl) l
mutual
def closed(m:Nat):AV->Bool
 | .obj i _=>decide (i<m)
 | .ptr i _ _ _=>decide (i<m)
 | .sl (.iZ i) _ _=>decide (i<m)
 | .fH (.iZ i) _ _=>decide (i<m)
 | .agg c=>gH m c
 | .iP c=>gH m c
 | .fn _ c=>gH m c
 |_=>true
def gH(m:Nat):List AV->Bool
 |[]=>true
 |x::xs=>closed m x&&gH m xs
end
theorem vP{o:List aD}{G:List CO}{m i:Nat}{ob:aD}{g:CO}:look (o.take m) (G.take m) i ob g↔i<m/\look o G i ob g:=by unfold look;rw[Cd,Cd];by_cases h:i<m<;>simp[h]
theorem yJ{P:Program}[aB P]{B:fM P}{o:List aD}{G:List CO}{w:World}(m:Nat):(∀b,(env B o G w).A b->(env B (o.take m) (G.take m) w).A b)/\
  (∀i,i<m->((env B (o.take m) (G.take m) w).V i↔(env B o G w).V i))/\(∀i b,i<m->(env B o G w).D i b->(env B (o.take m) (G.take m) w).D i b):=by
 refine⟨λb h=>⟨h.1,λi ob g hl=>h.2 i ob g (vP.1 hl).2⟩,λi hi=> ?_,λi b hi h=> ?_⟩
 .simp only[env,Cd,hi,eV]
 .obtain ⟨ob,g,hl,h⟩:=h;exact⟨ob,g,vP.2 ⟨hi,hl⟩,h⟩
theorem Ep{P:Program}[aB P]{B:fM P}{o:List aD}{G:List CO}{w:World}{m i:Nat}(hi:i<m):dF w ((env B o G w).sub (.iZ i)) w ((env B (o.take m) (G.take m) w).sub (.iZ i)):=by have h:=yJ (B:=B) (o:=o) (G:=G) (w:=w) m;exact⟨λb hb=>⟨h.1 b hb,rfl⟩,λ_ _=>trivial,λj b _ hd=>⟨⟨hd.1,h.2.2 i b hi hd.2⟩,rfl⟩,λ_ _ _ h=>h.elim,λ_ _ _ _ _ h=>h.elim⟩
theorem uB{P:Program}[aB P]{B:fM P}{o:List aD}{G:List CO}{w:World}(m:Nat):dF w (env B o G w).plain w (env B (o.take m) (G.take m) w).plain:=by have h:=yJ (B:=B) (o:=o) (G:=G) (w:=w) m;exact⟨λb hb=>⟨h.1 b hb,rfl⟩,λ_ _=>trivial,λ_ _ _ h=>h.elim,λ_ _ _ h=>h.elim,λ_ _ _ _ _ h=>h.elim⟩
mutual
theorem aBl{P:Program}[aB P]{B:fM P}{o:List aD}{G:List CO}{w:World}{m:Nat}:∀(x:AV) (v:Value) (fp:List Nat),closed m x=true->R w (env B o G w) x v fp->R w (env B (o.take m) (G.take m) w) x v fp
 | .int _ _,_,_,_,h=>by simpa [R]using h
 | .bool _,_,_,_,h=>by simpa [R]using h
 | .str _,_,_,_,h=>by simpa [R]using h
 | .sl .own n l,v,fp,_,h=>by obtain⟨a,cap,hv,hown⟩:=rO.1 h;exact rO.2 ⟨a,cap,hv,hown.keeps (uB m) (λ_ _=>rfl)⟩
 | .sl .view n l,v,fp,_,h=>by
  simp only[R]at h⊢;rcases h with h|⟨a,cap,hv,hl,h⟩
  .exact h.1.elim
  .refine .inr ⟨a,cap,hv,hl,?_⟩;rcases h with h|h|⟨hg,hf,h⟩
   .exact absurd h.1 (by simp)
   .exact absurd h.1 (by simp)
   .refine .inr (.inr ⟨hg,hf,?_⟩);rcases h with h|⟨b,off,ha,ht,hr⟩
    .exact .inl h
    .exact .inr ⟨b,off,ha,(yJ m).1 b ht,lW (uB m) _ _ _ _ _ rfl (by simp) hr⟩
 | .sl (.iZ i) n l,v,fp,hc,h=>by
  have hi:i<m:=by simpa [closed]using hc
  simp only[R]at h⊢;rcases h with h|⟨a,cap,hv,hl,h⟩
  .exact .inl ⟨λhV=>h.1 (((yJ m).2.1 i hi).1 hV),h.2⟩
  .refine .inr ⟨a,cap,hv,hl,?_⟩;rcases h with h|h|⟨hg,hf,h⟩
   .exact absurd h.1 (by simp)
   .exact absurd h.1 (by simp)
   .refine .inr (.inr ⟨hg,hf,?_⟩);rcases h with h|⟨b,off,ha,ht,hr⟩
    .exact .inl h
    .exact .inr ⟨b,off,ha,(yJ m).2.2 i b hi ht,lW (Ep hi) _ _ _ _ _ rfl (by simp) hr⟩
 | .fH .own c off,v,fp,_,h=>by
  simp only[R]at h⊢;rcases h with h|⟨_,_,_,_,_,ht,_⟩
  .exact h.1.elim
  .exact ht.elim
 | .fH .view c off,v,fp,_,h=>by
  simp only[R]at h⊢;rcases h with h|⟨hf,b,o',cs,hv,ht,hcs,hone,hr⟩
  .exact h.1.elim
  .exact .inr ⟨hf,b,o',cs,hv,(yJ m).1 b ht,hcs,hone,dX (uB m) _ _ _ (by simp) hr⟩
 | .fH (.iZ i) c off,v,fp,hc,h=>by
  have hi:i<m:=by simpa [closed]using hc
  simp only[R]at h⊢;rcases h with h|⟨hf,b,o',cs,hv,ht,hcs,hone,hr⟩
  .exact .inl ⟨λhV=>h.1 (((yJ m).2.1 i hi).1 hV),h.2⟩
  .exact .inr ⟨hf,b,o',cs,hv,(yJ m).2.2 i b hi ht,hcs,hone,dX (Ep hi) _ _ _ (by simp) hr⟩
 | .obj i ver,v,fp,hc,h=>by
  have hi:i<m:=by simpa [closed]using hc
  simp only[R]at h⊢;obtain⟨hf,ob,g,hl,h⟩:=h;exact⟨hf,ob,g,vP.2 ⟨hi,hl⟩,h⟩
 | .ptr i ver idx off,v,fp,hc,h=>by
  have hi:i<m:=by simpa [closed]using hc
  simp only[R]at h⊢;obtain⟨hf,ob,g,hl,h⟩:=h;exact⟨hf,ob,g,vP.2 ⟨hi,hl⟩,h⟩
 | .agg c,v,fp,hc,h=>by simp only[R]at h⊢;obtain⟨cs,h1,h2,h3⟩:=h;exact⟨cs,h1,h2,zX c cs fp (by simpa [closed]using hc) h3⟩
 | .iP c,v,fp,hc,h=>by simp only[R]at h⊢;obtain⟨cs,h1,h3⟩:=h;exact⟨cs,h1,zX c cs fp (by simpa [closed]using hc) h3⟩
 | .fn f c,v,fp,hc,h=>by simp only[R]at h⊢;obtain⟨h0,cs,h1,h3⟩:=h;exact⟨h0,cs,h1,zX c cs [] (by simpa [closed]using hc) h3⟩
 | .undef,_,_,_,h=>by simpa [R]using h
theorem zX{P:Program}[aB P]{B:fM P}{o:List aD}{G:List CO}{w:World}{m:Nat}:∀(c:List AV) (cs:List Value) (fp:List Nat),gH m c=true->Rc w (env B o G w) c cs fp->Rc w (env B (o.take m) (G.take m) w) c cs fp
 |[],[],_,_,h=>by simpa [Rc]using h
 |[],_::_,_,_,h=>by simp[Rc]at h
 |_::_,[],_,_,h=>by simp[Rc]at h
 |x::xs,c::cs,fp,hc,h=>by simp only[Rc]at h⊢;simp only[gH,eI]at hc;obtain⟨f1,f2,h1,h2,h3⟩:=h;exact⟨f1,f2,aBl x c f1 hc.1 h1,zX xs cs f2 hc.2 h2,h3⟩
end
def fI(m:Nat):List aD->Bool
 |[]=>true
 |ob::r=>(!ob.box || match ob.dM with
  |[e]=>gH m e
  |_=>false)&&fI m r
theorem Mv{m:Nat}:∀{o:List aD},fI m o=true->∀ob∈o,ob.box=true->∃e,ob.dM=[e]/\gH m e=true
 |ob::r,h,x,hx,hb=>by
  simp only[fI,eI]at h;rcases gE.1 hx with rfl|hx
  .have h1:=h.1;rw[hb]at h1;simp only[Cl,Fo]at h1;split at h1
   .rename_i e he;exact⟨e,he,h1⟩
   .cases h1
  .exact Mv h.2 x hx hb
theorem aL{t t':List AV}{o o':List aD}(m:Nat)(ho:o.take m=o':=by simp)(h:wk t t':=by simp)(hc:gH m t'=true:=by simp)(hb:fI m o'=true:=by simp):kY ⟨t,o⟩ ⟨t',o'⟩:=by
 subst ho;rintro P _ B a w ⟨G,r⟩;refine⟨G.take m,?_⟩;exact
  {len:=by simp[r.len]
   defs:=r.defs
   ok:=λi ob g hl hlive=>by
    have BU:=(vP.1 hl).2;obtain⟨fp,hown,hnd,hF⟩:=r.ok i ob g BU hlive;refine⟨fp,?_,hnd,hF⟩;cases hbx:ob.box with
    |false=>rw[hbx]at hown;exact hown.keeps (uB m) (λ_ _=>rfl)
    |true=>
     rw[hbx]at hown;obtain⟨e,he,hce⟩:=Mv hb ob (mB hl.1) hbx;rw[he]at hown⊢;obtain⟨hlen,hown⟩:=hown;refine⟨hlen,?_⟩;rcases hown with h|⟨b,off,C,ety,fz,nU,ha,hbk,hz,h1,h2,h3,rfl,hr⟩
     .exact .inl h
     .refine .inr ⟨b,off,C,ety,fz,nU,ha,hbk,hz,h1,h2,h3,rfl,?_⟩;simp only[Rr]at hr⊢;obtain⟨cs,f1,f2,k1,k2,k3,k4,k5,k6⟩:=hr;exact⟨cs,f1,f2,k1,k2,k3,zX e cs f1 hce k4,k5,k6⟩
   apart:=λi j oi oj gi gj b hi hj h1 h2 h3 h4=>r.apart i j _ _ _ _ b (vP.1 hi).2 (vP.1 hj).2 h1 h2 h3 h4
   fresh:=λi ob g b hl h1 h2=>r.fresh i ob g b (vP.1 hl).2 h1 h2
   tmps:=zX _ _ _ hc (GJ h r.tmps)
   size:=r.size
   frame:=r.frame
   base:=r.base
   same:=r.same}
theorem aG{t t':List AV}{o o':List aD}(ho:o=o':=by simp)(h:wk t t':=by simp):kY ⟨t,o⟩ ⟨t',o'⟩:=ho▸Ag h
attribute [simp] closed gH fI
def eT(J:Nat->Bool)(i:Nat):Nat->Bool:=λj=>if j=i then true else J j
def dv(J:Nat->Bool)(i:Nat)(v:AV):AV:=if J i=true then v else .undef
@[simp] theorem aSm(J:Nat->Bool)(i:Nat)(v:AV):dv (eT J i) i v=v:=by simp[dv,eT]
def zY(P:Program)[aB P](S:(Nat->Bool)->AS):Nat->List Oper->Prop
 |_,[]=>True
 |i,o::r=>(o.guard=none/\∀J:Nat->Bool,J i=false->(∀e∈o.after.toList,Region.binds .any e=true->J e.on=true)->rM P o (S J) λs'=>kY s' (S (eT J i)))/\zY P S (i+1) r
def fwd:Nat->List Oper->Bool
 |_,[]=>true
 |i,o::r=>(o.after.toList.all λe=> !Region.binds .any e || decide (e.on<i))&&fwd (i+1) r
theorem GL{P:Program}[aB P]{S:(Nat->Bool)->AS}:∀{l:List Oper} {k i:Nat} {o:Oper},zY P S k l->l[i]? =some o->
  o.guard=none/\∀J:Nat->Bool,J (k+i)=false->(∀e∈o.after.toList,Region.binds .any e=true->J e.on=true)->rM P o (S J) λs'=>kY s' (S (eT J (k+i)))
 |[],_,_,_,_,h=>by simp at h
 |x::xs,k,0,o,hd,h=>by simp at h;subst h;exact hd.1
 |x::xs,k,i+1,o,hd,h=>by
  have:=GL (k:=k+1) (i:=i) hd.2 (by simpa using h)
  rwa[show k+1+i=k+(i+1)by omega]at this
theorem um:∀{l:List Oper} {k i:Nat} {o:Oper},fwd k l=true->l[i]? =some o->∀e∈o.after.toList,Region.binds .any e=true->e.on<k+i
 |[],_,_,_,_,h=>by simp at h
 |x::xs,k,0,o,hf,h=>by simp at h;subst h;simp only[fwd,eI,fW]at hf;intro e he hb;have:=hf.1 e he;simpa [hb]using this
 |x::xs,k,i+1,o,hf,h=>by
  simp only[fwd,eI]at hf;have:=um (k:=k+1) (i:=i) hf.2 (by simpa using h)
  rwa[show k+1+i=k+(i+1)by omega]at this
def left(l:List Bool):Nat:=(l.filter λb=> !b).length
theorem Cf(b:Bool)(l:List Bool):left (b::l)=(if b=true then 0 else 1)+left l:=by cases b<;>simp[left]<;>omega
theorem Es:∀{l:List Bool} {i:Nat},l[i]? =some false->left (l.set i true)+1=left l
 |[],_,h=>by simp at h
 |b::l,0,h=>by simp at h;subst h;simp[Cf];omega
 |b::l,i+1,h=>by have:=Es (l:=l) (i:=i) (by simpa using h);rw[cH,Cf,Cf];omega
theorem FM{l:List Bool}(h:left l=0):∀{i:Nat} {b:Bool},l[i]? =some b->b=true:=by
 intro i b hb;have hm:=mB hb;cases b with
 |true=>rfl
 |false=>have:false∈l.filter (λb=> !b):=BT.2 ⟨hm,rfl⟩;rw[lB h]at this;simp at this
theorem JH{l:List Bool}(h:left l≠0):∃i:Nat,l[i]? =some false/\∀j:Nat,j<i->l[j]? =some true:=by
 induction l with
 |nil=>simp[left]at h
 |cons b l ih=>
  cases b with
  |false=>exact⟨0,rfl,λj hj=>by omega⟩
  |true=>
   have:left l≠0:=by rw[Cf]at h;simpa using h
   obtain⟨i,h1,h2⟩:=ih this;refine⟨i+1,by simpa using h1,λj hj=> ?_⟩;cases j with
   |zero=>rfl
   |succ j=>simpa using h2 j (by omega)
theorem aGt{P:Program}[aB P]{ops:Array Oper}{s:AS}{K:AS->Prop}(S:(Nat->Bool)->AS)(h0:kY s (S λ_=>false))(hf:fwd 0 ops.toList=true)(hs:zY P S 0 ops.toList)
  (he:∀J:Nat->Bool,(∀i,i<ops.size->J i=true)->K (S J)):CU P ops s K:=by
 intro B a w Q hr hk;have key:∀(fuel:Nat) (listed:Array Bool) (a:Act) (w:World),listed.size=ops.size->left listed.toList=fuel->Rel B (S λi=>listed.getD i false) a w->wpAny P .any ops Q fuel listed a w:=by
  intro fuel;induction fuel with
  |zero=>
   intro listed a w hl hz r;have hall:∀i,i<ops.size->listed.getD i false=true:=by
    intro i hi;have hi':i<listed.size:=by omega
    have:=FM hz (i:=i) (b:=listed[i]) (by simp[hi']);simp[Array.getD,hi',this]
   refine⟨?_,hk _ _ _ (he _ hall) r⟩;unfold Region.ready;rw[filter_eq_nil_iff];intro i hi;have hi2:i<ops.size:=by simpa using hi
   have h1:=hall i hi2;have hi':i<listed.size:=by omega
   have h2:listed.getD i true=true:=by rw[eN]at h1⊢;rw[pN hi']at h1⊢;exact h1
   rw[h2];simp
  |succ fuel ih=>
   intro listed a w hl hz r;constructor
   .intro hnil;exfalso;obtain⟨i,h1,h2⟩:=JH (l:=listed.toList) (by omega);have hi:i<listed.size:=by have:=(cQ.1 h1).1;simpa using this
    have zJ:i<ops.size:=by omega
    have:i∈Region.ready .any ops listed:=by
     unfold Region.ready;rw[BT];refine⟨by simpa using zJ,?_⟩;have h1':listed[i]? =some false:=by simpa using h1
     have hop:ops[i]? =some ops[i]:=by simp[zJ]
     simp only[eN,h1',pA,FG,tR,hop,mA];rw[DB];intro e he;cases hb:Region.binds .any e with
     |false=>simp
     |true=>
      have:=um hf (i:=i) (o:=ops[i]) (by simp[zJ]) e (by simpa using he) hb;have h3:=h2 e.on (by omega);have h3':listed[e.on]? =some true:=by simpa using h3
      simp[h3']
    rw[hnil]at this;simp at this
   .intro i hi;unfold Region.ready at hi;rw[BT]at hi;obtain⟨hi1,hi2⟩:=hi;have zJ:i<ops.size:=by simpa using hi1
    have hil:i<listed.size:=by omega
    have hop:ops[i]? =some ops[i]:=by simp[zJ]
    simp only[eI,hop,mA,pA]at hi2;obtain⟨h1,h2⟩:=hi2;have h1':listed[i]? =some false:=by simp only[eN]at h1;rw[pN hil]at h1⊢;simpa using h1
    rw[DB]at h2;obtain⟨hg,hst⟩:=GL hs (i:=i) (o:=ops[i]) (by simp[zJ]);rw[lO]at hst;have aSo:=hst (λj=>listed.getD j false) (by simp[h1']) (λe he hb=>by
     have:=h2 e (by simpa using he);simpa [hb]using this)
    obtain⟨s',hw,Xr⟩:=zW (B:=B) aSo;unfold wpOp;rw[hop];simp only[Region.wanted,hg,eV];refine .inl (Xr a w _ Q r λa' w' r'=>ih _ _ _ (by simpa using hl) ?_ ?_)
    .have:=Es (l:=listed.toList) (i:=i) (by simpa using h1');rw[AE];omega
    .have hu:eT (λj=>listed.getD j false) i=λj=>(listed.setIfInBounds i true).getD j false:=by
      funext j;unfold eT;simp only[eN,rK];by_cases hj:j=i
      .subst hj;simp[hil]
      .simp [hj,wA hj]
     rw[<-hu];exact hw B a' w' r'
 obtain⟨G,r⟩:=hr;have r2:Rel B s a {w with drawn:=w.drawn+1}:=⟨G,{len:=r.len,defs:=r.defs,ok:=λi ob g hl hlive=>(r.ok i ob g hl hlive).keeps (w':={w with drawn:=w.drawn+1}) ⟨λb h=>⟨h,rfl⟩,λ_ h=>h,λ_ _ _ h=>⟨h,rfl⟩,λ_ _ _ h=>h,λ_ _ _ _ _ h=>h⟩ (λ_ _=>rfl),apart:=r.apart,fresh:=r.fresh,tmps:=dX (w:=w) (E:=env B s.o G w) (w':={w with drawn:=w.drawn+1}) (E':=env B s.o G {w with drawn:=w.drawn+1}) ⟨λb h=>⟨h,rfl⟩,λ_ h=>h,λ_ _ _ h=>⟨h,rfl⟩,λ_ _ _ h=>h,λ_ _ _ _ _ h=>h⟩ _ _ _ (by simp) r.tmps,size:=r.size,frame:=r.frame,base:=r.base,same:=r.same.trans ⟨rfl,rfl,rfl⟩}⟩;refine key _ _ _ _ (by simp) (by simp[left]) ?_;have hJ:(λi=>(Array.replicate ops.size false).getD i false)=λ_=>false:=by funext i;simp only[eN,sR];split<;>rfl
 rw[hJ];exact h0 _ _ _ r2
theorem Xt{P:Program}[aB P]{id:Nat}{l:List Oper}{s:AS}{Q:Exit->AS->Prop}(S:(Nat->Bool)->AS)(h0:kY s (S λ_=>false))(hf:fwd 0 l=true)(hs:zY P S 0 l)
  (he:∀J:Nat->Bool,(∀i,i<l.length->J i=true)->Q .normal (S J)):jL P (.region id l.toArray true) s Q:=by
 unfold jL;exact aGt (ops:=l.toArray) S h0 (by simpa using hf) (by simpa using hs) (by simpa using he)
theorem qB{P:Program}[aB P]{o:Oper}{s:AS}{K:AS->Prop}(h:∀K':AS->Prop,(∀s',K s'->K' s')->rM P o s K'):rM P o s K:=h K λ_ h=>h
theorem aJv{w:World}{E:Env}{e:List AV}{cs:List Value}{fp:List Nat}{c:Nat}{x:AV}(h:Rc w E e cs fp)(hx:e[c]? =some x):
  ∃a1 a2 a3 v,fp=a1++a2++a3/\cs[c]? =some v/\Rc w E (e.take c) (cs.take c) a1/\R w E x v a2/\Rc w E (e.drop (c+1)) (cs.drop (c+1)) a3:=by
 obtain⟨a1,r1,rfl,h1,h2⟩:=rP c h;have hlt:=(cQ.1 hx).1;have hl:=fA h;have hd:e.drop c=x::e.drop (c+1):=by rw[oS hlt,(cQ.1 hx).2]
 have hcs:cs.drop c=cs[c]'(by omega)::cs.drop (c+1):=oS (by omega);rw[hd,hcs]at h2;simp only[Rc]at h2;obtain⟨a2,a3,h3,h4,rfl⟩:=h2;exact⟨a1,a2,a3,_,by simp,aE (by omega),h1,h3,h4⟩
theorem aCv{w:World}{E:Env}{e:List AV}{cs:List Value}{a1 a2 a3:List Nat}{c:Nat}{x:AV}{v:Value}(hc:c<e.length)(hv:cs[c]? =some v)(h1:Rc w E (e.take c) (cs.take c) a1)(h2:R w E x v a2)(h3:Rc w E (e.drop (c+1)) (cs.drop (c+1)) a3):
  Rc w E (e.set c x) cs (a1++a2++a3):=by
 have e1:e.set c x=e.take c++x::e.drop (c+1):=by rw[set_eq_take_append_cons_drop];simp[hc]
 obtain⟨hlt,rfl⟩:=cQ.1 hv;have e2:cs=cs.take c++cs[c]::cs.drop (c+1):=by simp
 rw[e1];conv=>arg 4;rw[e2]
 have:=iQ h1 (show Rc w E (x::e.drop (c+1)) (cs[c]::cs.drop (c+1)) (a2++a3)by simp only[Rc];exact⟨a2,a3,h2,h3,rfl⟩);simpa using this
def AV.xD:AV->Bool
 | .int _ _=>true
 | .bool _=>true
 | .str _=>true
 | .sl .own _ _=>true
 |_=>false
theorem aLk{w:World}{E E':Env}(hA:∀b,E.A b->E'.A b){x:AV}{v:Value}{fp:List Nat}(hx:x.xD=true)(h:R w E x v fp):R w E' x v fp:=by
 cases x with
 |int _ _=>simpa [R]using h
 |bool _=>simpa [R]using h
 |str _=>simpa [R]using h
 |sl g n l=>
  cases g with
  |own=>obtain⟨a,cap,hv,hown⟩:=rO.1 h;exact rO.2 ⟨a,cap,hv,hown.keeps ⟨λb hb=>⟨hA b hb,rfl⟩,λ_ _=>trivial,λ_ _ _ h=>h.elim,λ_ _ _ h=>h.elim,λ_ _ _ _ _ h=>h.elim⟩ (λ_ _=>rfl)⟩
  |_=>cases hx
 |_=>cases hx
theorem Ov{w:World}{E E':Env}(hA:∀b,E.A b->E'.A b):∀{c:List AV} {cs:List Value} {fp:List Nat},c.all AV.xD=true->Rc w E c cs fp->Rc w E' c cs fp
 |[],[],_,_,h=>h
 |[],_::_,_,_,h=>by simp[Rc]at h
 |_::_,[],_,_,h=>by simp[Rc]at h
 |x::xs,c::cs,fp,hp,h=>by simp only[Rc]at h⊢;simp only[BY,eI]at hp;obtain⟨f1,f2,h1,h2,h3⟩:=h;exact⟨f1,f2,aLk hA hp.1 h1,Ov hA hp.2 h2,h3⟩
theorem Vz{w:World}{E E':Env}(hA:∀b,E.A b->E'.A b):∀{l:List (List AV)} {b off n:Nat} {fp:List Nat},(l.all λr=>r.all AV.xD)=true->Rr w E l b off n fp->Rr w E' l b off n fp
 |[],_,_,_,_,_,h=>h
 |e::es,b,off,n,fp,hp,h=>by simp only[Rr]at h⊢;simp only[BY,eI]at hp;obtain⟨cs,f1,f2,h1,h2,h3,h4,h5,h6⟩:=h;exact⟨cs,f1,f2,h1,h2,h3,Ov hA hp.1 h4,Vz hA hp.2 h5,h6⟩
theorem XU{α:Type}{p:α->Bool}{l:List α}(k:Nat)(h:l.all p=true):(l.take k).all p=true:=by rw[fW]at h⊢;exact λx hx=>h x (pC hx)
theorem XV{α:Type}{p:α->Bool}{l:List α}(k:Nat)(h:l.all p=true):(l.drop k).all p=true:=by rw[fW]at h⊢;exact λx hx=>h x (AG hx)
theorem GR{α:Type}(l:List α)(k:Nat)(x:α):(l.set k x).take k=l.take k:=by rw[take_set];exact zE (by simp;omega)
theorem GU{α:Type}(l:List α)(k:Nat)(x:α):(l.set k x).drop (k+1)=l.drop (k+1):=by rw[drop_set];simp
theorem ik{t t':List AV}{o o':List aD}(i J k c:Nat){ob oj:aD}{e:List AV}{ver:Nat}(ho:o[i]? =some ob)(hj:o[J]? =some oj)(hij:i≠J)(hl:ob.live=true)(hlj:oj.live=true)(hbj:oj.box=false)
  (he:ob.dM[k]? =some e) (hc:e[c]? =some (.obj J ver)) (wW:oj.ver=ver) (hp:((ob.dM.set k (e.set c (.int .i64 0))).all λr=>r.all AV.xD)=true) (hbx:ob.box=true)
  (ho':(o.set J oj.kill).set i {ob with box:=false,dM:=ob.dM.set k (e.set c (.sl .own oj.n oj.dM))}=o') (hw:wk t t'):kY ⟨t,o⟩ ⟨t',o'⟩:=by
 subst ho';rintro P _ B a w ⟨G,r⟩;obtain⟨g,hlk⟩:=r.look ho;obtain⟨gj,aHm⟩:=r.look hj;obtain⟨fp,hown,hnd,hF⟩:=r.ok i ob g hlk hl;obtain⟨fj,Mi,aGe,Jn⟩:=r.ok J oj gj aHm hlj;simp only[hbx,Env.of,eV]at hown;simp only[hbj,Env.of,cX,eS]at Mi;obtain⟨hlen,⟨h,_⟩|⟨b,off,C,ty,fz,nU,ha,hbk,hz,h1,h2,h3,rfl,hr⟩⟩:=hown
 .rw [h]at he;simp at he
 have hk:k<ob.dM.length:=(cQ.1 he).1;have Ea:c<e.length:=(cQ.1 hc).1;obtain⟨f1,f2,f3,cs,rfl,hn,hcs,hone,hre,hr1,hr3⟩:=Ac hr he;obtain⟨a1,a2,a3,v,rfl,hv,k1,k2,k3⟩:=aJv hre hc;simp only[R]at k2;obtain⟨rfl,Mm,g2,hl2,_,hh,_⟩:=k2;obtain⟨rfl,rfl⟩:=iD aHm hl2;have hvs:=hh hlj wW;obtain⟨r2,kk⟩:=r.OD hij hlk aHm hl hlj;generalize hgt:({g with F:=λb=>g.F b\/gj.F b}:CO)=gt at r2 kk;have aS7:gt.a=g.a:=by rw[<-hgt]
 have aLl:gt.cap=g.cap:=by rw[<-hgt]
 have aS8:∀x,gt.F x↔g.F x\/gj.F x:=λx=>by rw[<-hgt]
 have Ju:look (o.set J oj.kill) (G.set i gt) i ob gt:=by refine⟨by rw[gR (wA hij)];exact hlk.1,?_⟩;have:=(cQ.1 hlk.2).1;simp[this]
 have hpe:(e.set c (.int .i64 0)).all AV.xD=true:=by rw[fW]at hp;exact hp _ (mem_iff_getElem?.2 ⟨k,by rw[lR hk]⟩)
 have hm:=r2.modify Ju hl {ob with box:=false,dM:=ob.dM.set k (e.set c (.sl .own oj.n oj.dM))} gt w (eE _) rfl (λ_=>⟨rfl,rfl,by simp⟩) (λb hb=> .inl hb) (λb hb hne=>⟨hb,hne⟩) (λ_ _ _=>rfl) (eE _) (λkm _=>by
  generalize hE:env B ((o.set J oj.kill).set i {ob with box:=false,dM:=ob.dM.set k (e.set c (.sl .own oj.n oj.dM))}) ((G.set i gt).set i gt) w=E';replace km:dF w (env B (o.set J oj.kill) (G.set i gt) w) w E':=by rw[<-hE];exact km
  have kA:∀x,(env B o G w).A x->E'.A x:=λx hx=>(km.a x (kk.a x hx).1).1
  have kp:dF w (env B o G w).plain w E'.plain:=⟨λx hx=>⟨kA x hx,rfl⟩,λ_ _=>trivial,λ_ _ _ h=>h.elim,λ_ _ _ h=>h.elim,λ_ _ _ _ _ h=>h.elim⟩;refine⟨b::(f1++(a1++fj++a3)++f3),?_,?_,?_⟩
  .simp only[Env.of,cX,eS];refine⟨by simpa using hlen,.inr ⟨b,off,C,ty,fz,_,by rw[aS7];exact ha,hbk,hz,by rw[aLl];exact h1,by rw[aLl];simpa using h2,by rw[aLl];exact h3,rfl,?_⟩⟩;refine WI hk hn hcs hone (aCv Ea hv ?_ ?_ ?_) ?_ ?_
   .exact Ov (E:=env B o G w) (E':=E'.plain) kA (by have:=XU c hpe;rwa[GR]at this) k1
   .exact rO.2 ⟨gj.a,gj.cap,hvs,Mi.keeps kp (λ_ _=>rfl)⟩
   .exact Ov (E:=env B o G w) (E':=E'.plain) kA (by have:=XV (c+1) hpe;rwa[GU]at this) k3
   .exact Vz (E:=env B o G w) (E':=E'.plain) kA (by have:=XU k hp;rwa[GR]at this) hr1
   .exact Vz (E:=env B o G w) (E':=E'.plain) kA (by have:=XV (k+1) hp;rwa[GU]at this) hr3
  .have hdj:∀x∈fj,x∉b::(f1++(a1++[]++a3)++f3):=λx hx hx2=>hij (r.apart _ _ _ _ _ _ x hlk aHm hl hlj (hF x hx2) (Jn x hx))
   have hp2:(b::(f1++(a1++fj++a3)++f3)).Perm ((b::(f1++(a1++[]++a3)++f3))++fj):=by rw[cW];refine Perm.cons b ?_;simp only[sB,cY];refine Fk f1 (Fk a1 ?_);rw[<-sB a3];exact perm_append_comm
   refine hp2.nodup_iff.2 (gS.2 ⟨hnd,aGe,λx hx y hy e=> ?_⟩);subst e;exact hdj x hy hx
  .intro x hx;rw[aS8];have:x∈b::(f1++(a1++[]++a3)++f3)\/x∈fj:=by simp only[gE,fS,Ft,or_false]at hx⊢;grind
   rcases this with h|h
   .exact .inl (hF x h)
   .exact .inr (Jn x h))
 refine⟨(G.set i gt).set i gt,{hm.1 with tmps:= ?_}⟩;exact GJ hw hm.1.tmps
mutual
def Bj(i:Nat):AV->Bool
 | .sl (.iZ j) _ _=>decide (j≠i)
 | .fH (.iZ j) _ _=>decide (j≠i)
 | .agg c=>pQ i c
 | .iP c=>pQ i c
 | .fn _ c=>pQ i c
 |_=>true
def pQ(i:Nat):List AV->Bool
 |[]=>true
 |x::xs=>Bj i x&&pQ i xs
end
def Env.no(E:Env)(i:Nat):Env:={E with D:=λj x=>j∉[i]/\E.D j x}
theorem XW{w:World}{E:Env}{i j:Nat}(h:j≠i):dF w (E.sub (.iZ j)) w ((E.no i).sub (.iZ j)):=
 ⟨λb h=>⟨h,rfl⟩,λ_ _=>trivial,λk b _ hd=>⟨⟨hd.1,by simpa using h,hd.2⟩,rfl⟩,λ_ _ _ h=>h.elim,λ_ _ _ _ _ h=>h.elim⟩
mutual
theorem aHn{w:World}{E:Env}{i:Nat}:∀(x:AV) (v:Value) (fp:List Nat),Bj i x=true->R w E x v fp->R w (E.no i) x v fp
 | .int _ _,_,_,_,h=>by simpa [R]using h
 | .bool _,_,_,_,h=>by simpa [R]using h
 | .str _,_,_,_,h=>by simpa [R]using h
 | .sl .own n l,v,fp,_,h=>rO.2 (rO.1 h)
 | .sl .view n l,v,fp,_,h=>by
  simp only[R]at h⊢;rcases h with h|⟨a,cap,hv,hl,h⟩
  .exact h.1.elim
  .refine .inr ⟨a,cap,hv,hl,?_⟩;rcases h with h|h|⟨hg,hf,h⟩
   .exact absurd h.1 (by simp)
   .exact absurd h.1 (by simp)
   .exact .inr (.inr ⟨hg,hf,h⟩)
 | .sl (.iZ j) n l,v,fp,hc,h=>by
  have hi:j≠i:=by simpa [Bj]using hc
  simp only[R]at h⊢;rcases h with h|⟨a,cap,hv,hl,h⟩
  .exact .inl h
  .refine .inr ⟨a,cap,hv,hl,?_⟩;rcases h with h|h|⟨hg,hf,h⟩
   .exact absurd h.1 (by simp)
   .exact absurd h.1 (by simp)
   .refine .inr (.inr ⟨hg,hf,?_⟩);rcases h with h|⟨b,off,ha,ht,hr⟩
    .exact .inl h
    .exact .inr ⟨b,off,ha,⟨by simpa using hi,ht⟩,lW (XW hi) _ _ _ _ _ rfl (by simp) hr⟩
 | .fH .own c off,v,fp,_,h=>by
  simp only[R]at h⊢;rcases h with h|⟨_,_,_,_,_,ht,_⟩
  .exact h.1.elim
  .exact ht.elim
 | .fH .view c off,v,fp,_,h=>by
  simp only[R]at h⊢;rcases h with h|⟨hf,b,o',cs,hv,ht,hcs,hone,hr⟩
  .exact h.1.elim
  .exact .inr ⟨hf,b,o',cs,hv,ht,hcs,hone,hr⟩
 | .fH (.iZ j) c off,v,fp,hc,h=>by
  have hi:j≠i:=by simpa [Bj]using hc
  simp only[R]at h⊢;rcases h with h|⟨hf,b,o',cs,hv,ht,hcs,hone,hr⟩
  .exact .inl h
  .exact .inr ⟨hf,b,o',cs,hv,⟨by simpa using hi,ht⟩,hcs,hone,dX (XW hi) _ _ _ (by simp) hr⟩
 | .obj _ _,v,fp,_,h=>by simp only[R]at h⊢;exact h
 | .ptr _ _ _ _,v,fp,_,h=>by simp only[R]at h⊢;exact h
 | .agg c,v,fp,hc,h=>by simp only[R]at h⊢;obtain⟨cs,h1,h2,h3⟩:=h;exact⟨cs,h1,h2,EC c cs fp (by simpa [Bj]using hc) h3⟩
 | .iP c,v,fp,hc,h=>by simp only[R]at h⊢;obtain⟨cs,h1,h3⟩:=h;exact⟨cs,h1,EC c cs fp (by simpa [Bj]using hc) h3⟩
 | .fn f c,v,fp,hc,h=>by simp only[R]at h⊢;obtain⟨h0,cs,h1,h3⟩:=h;exact⟨h0,cs,h1,EC c cs [] (by simpa [Bj]using hc) h3⟩
 | .undef,_,_,_,h=>by simpa [R]using h
theorem EC{w:World}{E:Env}{i:Nat}:∀(c:List AV) (cs:List Value) (fp:List Nat),pQ i c=true->Rc w E c cs fp->Rc w (E.no i) c cs fp
 |[],[],_,_,h=>by simpa [Rc]using h
 |[],_::_,_,_,h=>by simp[Rc]at h
 |_::_,[],_,_,h=>by simp[Rc]at h
 |x::xs,c::cs,fp,hc,h=>by simp only[Rc]at h⊢;simp only[pQ,eI]at hc;obtain⟨f1,f2,h1,h2,h3⟩:=h;exact⟨f1,f2,aHn x c f1 hc.1 h1,EC xs cs f2 hc.2 h2,h3⟩
end
theorem XX{w:World}{E:Env}{i:Nat}:∀(l:List (List AV)) (b off n:Nat) (fp:List Nat),(l.all λc=>pQ i c)=true->Rr w E l b off n fp->Rr w (E.no i) l b off n fp
 |[],_,_,_,_,_,h=>by simpa [Rr]using h
 |e::es,b,off,n,fp,hc,h=>by simp only[Rr]at h⊢;simp only[BY,eI]at hc;obtain⟨cs,f1,f2,h1,h2,h3,h4,h5,h6⟩:=h;exact⟨cs,f1,f2,h1,h2,h3,EC e cs f1 hc.1 h4,XX es b _ n f2 hc.2 h5,h6⟩
theorem qH.Bj{w:World}{E:Env}{n:Nat}{l:List (List AV)}{a:Option Addr}{cap:Nat}{fp:List Nat}{i:Nat}(hc:(l.all λc=>pQ i c)=true)(h:qH w E n l a cap fp):qH w (E.no i) n l a cap fp:=by
 obtain⟨h1,h|⟨b,off,C,e,fz,nU,k1,k2,k3,k4,k5,k6,k7,k8⟩⟩:=h
 .exact ⟨h1,.inl h⟩
 .exact ⟨h1,.inr ⟨b,off,C,e,fz,nU,k1,k2,k3,k4,k5,k6,k7,XX l b off n nU hc k8⟩⟩
theorem pR{t t':List AV}{o o':List aD}(i k c:Nat){ob:aD}{e:List AV}{m:Nat}{rows:List (List AV)}(ho:o[i]? =some ob)(hl:ob.live=true)(hb:ob.box=true)(hall:(o.all λx=> !x.box || x.dM.all λc=>pQ i c)=true)(he:ob.dM[k]? =some e)
  (hc:e[c]? =some (.sl .own m rows)) (ho':o.set i {ob with dM:=ob.dM.set k (e.set c (.obj o.length 1))}++[⟨true,false,m,1,rows⟩]=o') (hw:wk (qD (gU [i]) true t) t'):kY ⟨t,o⟩ ⟨t',o'⟩:=by
 subst ho';rintro P _ B a w ⟨G,r⟩;have nb:∀{j x g},look o G j x g->x.box=true->(x.dM.all λc=>pQ i c)=true:=λh hb=>by have:=fW.1 hall _ (mB h.1);simpa only[hb,Cl,Fo]using this
 obtain⟨g,hlk⟩:=r.look ho;obtain⟨fp,hown,hnd,hF⟩:=r.ok i ob g hlk hl;simp only[hb,Env.of,eV]at hown;replace hown:=hown.Bj (nb hlk hb);obtain⟨hlen,⟨h,_⟩|⟨b,off,C,ty,fz,nU,ha,hbk,hz,h1,h2,h3,rfl,hr⟩⟩:=hown
 .rw [h]at he;simp at he
 have hk:k<ob.dM.length:=(cQ.1 he).1;have Ea:c<e.length:=(cQ.1 hc).1;obtain⟨f1,f2,f3,cs,rfl,hn,hcs,hone,hre,hr1,hr3⟩:=Ac hr he;obtain⟨a1,a2,a3,v,rfl,hv,k1,k2,k3⟩:=aJv hre hc;obtain⟨ad,KW,hvs,DJ⟩:=rO.1 k2;have hlo:i<o.length:=(cQ.1 ho).1;have hsub2:∀x∈a2,g.F x:=λx hx=>hF x (by simp[hx])
 generalize qC:({ob with dM:=ob.dM.set k (e.set c (.obj o.length 1))}:aD)=ob';generalize hg':({g with F:=λx=>g.F x/\x∉a2}:CO)=g';generalize hO:o.set i ob'++[⟨true,false,m,1,rows⟩]=o';generalize hGG:G.set i g'++[⟨ad,KW,λx=>x∈a2⟩]=G';have aJw:(G.set i g').length=(o.set i ob').length:=by simp[r.len]
 have back:∀{j x y},look o' G' j x y->(j=i/\x=ob'/\y=g')\/(j=o.length/\x=⟨true,false,m,1,rows⟩/\y=⟨ad,KW,λx=>x∈a2⟩)\/(j≠i/\look o G j x y):=by
  intro j x y h;rw[<-hO,<-hGG]at h;rcases lH aJw h with⟨_,h⟩|⟨hj,h⟩
  .rcases yG h with⟨h1,h2,h3⟩|⟨h1,h2⟩
   .exact .inl ⟨h1,h2,h3⟩
   .exact .inr (.inr ⟨h1,h2⟩)
  .right;left;obtain⟨h1,h2⟩:=h;cases hd:j-(o.set i ob').length with
   |zero=>rw[hd]at h1 h2;simp at h1 h2 hj hd;exact⟨by omega,h1.symm,h2.symm⟩
   |succ n=>rw[hd]at h1;simp at h1
 have fi:look o' G' i ob' g':=by rw[<-hO,<-hGG];exact jK (pI hlk)
 have fJ:look o' G' o.length ⟨true,false,m,1,rows⟩ ⟨ad,KW,λx=>x∈a2⟩:=by rw[<-hO,<-hGG];have:=kK (o:=o.set i ob') (o2:=[⟨true,false,m,1,rows⟩]) (G:=G.set i g') (G2:=[⟨ad,KW,λx=>x∈a2⟩]) aJw (i:=0) (x:=⟨true,false,m,1,rows⟩) (y:=⟨ad,KW,λx=>x∈a2⟩) ⟨rfl,rfl⟩;simpa using this
 have fo:∀{j x y},j≠i->look o G j x y->look o' G' j x y:=λhj h=>by rw[<-hO,<-hGG];exact jK (Ba h hj)
 have aS9:ob'.live=true:=by rw[<-qC];exact hl
 have aLm:ob'.n=ob.n:=by rw[<-qC]
 have aTa:ob'.ver=ob.ver:=by rw[<-qC]
 have aLn:ob'.dM.length=ob.dM.length:=by rw[<-qC];simp
 have hga:g'.a=g.a:=by rw[<-hg']
 have hgc:g'.cap=g.cap:=by rw[<-hg']
 have vo:∀x,g'.F x↔g.F x/\x∉a2:=λx=>by rw[<-hg']
 let Er:Env:=(env B o G w).no i
 have rt1:lK (gU [i]) true (env B o G w) Er (λ_=>True):=by
  refine⟨λt e=>by simp[gU]at e,λt e=>by simp only[gU,eA]at e;exact⟨e.symm,λb hb=>hb⟩,λj t e=> ?_,λ_ _ _ _ h=>h,λ_ _ _ _ _ _ h=>h⟩;simp only[gU]at e;split at e
  .cases e
  .rename_i hiu;obtain rfl:=cU e;refine⟨by simp,?_,λb hb=>⟨hiu,hb⟩⟩;by_cases hV:(env B o G w).V j
   .exact .inl hV
   .exact .inr hV
 have kA:∀x,(env B o G w).A x->(env B o' G' w).A x:=λx hx=>⟨hx.1,λj y z hlj hjl hf=>by
  rcases back hlj with⟨rfl,rfl,rfl⟩|⟨rfl,rfl,rfl⟩|⟨_,h⟩
  .exact hx.2 _ _ _ hlk hl ((vo x).1 hf).1
  .exact hx.2 _ _ _ hlk hl (hsub2 x hf)
  .exact hx.2 _ _ _ h hjl hf⟩
 have k2':dF w Er w (env B o' G' w):=by
  refine⟨λx hx=>⟨kA x hx,rfl⟩,λj h x hx=> ?_,λj x hV h=> ?_,λj ver x h=> ?_,λj ver p q x h=> ?_⟩
  .obtain ⟨y,hy⟩:=r.look hx;by_cases hj:j=i
   .subst hj;rw[ho]at hx;obtain rfl:=cU hx;exact hl
   .exact h x (fo hj hy).1
  .obtain ⟨hji,x',y,hlj,hjl,hf,hne⟩:=h;exact⟨⟨x',y,fo (by simpa using hji) hlj,hjl,hf,hne⟩,rfl⟩
  .obtain ⟨x',y,hlj,wW,hh,hz⟩:=h;by_cases hj:j=i
   .subst hj;obtain⟨rfl,rfl⟩:=iD hlk hlj;exact⟨ob',g',fi,by omega,λ_ UY=>by rw[hga,hgc,aLn];exact hh hl (by omega),hz⟩
   .exact ⟨x',y,fo hj hlj,wW,hh,hz⟩
  .obtain ⟨x',y,hlj,wW,hh,hz⟩:=h;by_cases hj:j=i
   .subst hj;obtain⟨rfl,rfl⟩:=iD hlk hlj;exact⟨ob',g',fi,by omega,λ_ UY=>by rw[hga,aLm];exact hh hl (by omega),λ_ e2 e3 e4 y hy=>⟨(hz hb e2 e3 e4 y hy).1,λ_ UY=>by rw[hgc];exact(hz hb e2 e3 e4 y hy).2 hl (by omega)⟩⟩
   .exact ⟨x',y,fo hj hlj,wW,hh,hz⟩
 have kp:dF w (env B o G w).plain w (env B o' G' w).plain:=⟨λx hx=>⟨kA x hx,rfl⟩,λ_ _=>trivial,λ_ _ _ h=>h.elim,λ_ _ _ h=>h.elim,λ_ _ _ _ _ h=>h.elim⟩;have kf:dF w (env B o G w).plain w (env B o' G' w):=kp.trans (Md w _);have hnd':=hnd;simp only[mC]at hnd';refine⟨G',{len:=by rw[<-hO,<-hGG];simp[r.len],defs:=r.defs,ok:= ?_,apart:= ?_,fresh:= ?_,tmps:=GJ hw (dX k2' _ _ _ (by simp) (xA rt1 _ _ _ (by simp) r.tmps)),size:=r.size,frame:=r.frame,base:=r.base,same:=r.same}⟩
 .intro j x y hlj hjl;rcases back hlj with⟨rfl,rfl,rfl⟩|⟨rfl,rfl,rfl⟩|⟨hj,h⟩
  .refine ⟨b::(f1++(a1++[]++a3)++f3),?_,?_,?_⟩
   .rw [<-qC,<-hg'];simp only[hb,Env.of,eV];refine⟨by simpa using hlen,.inr ⟨b,off,C,ty,fz,_,ha,hbk,hz,h1,by simpa using h2,h3,rfl,?_⟩⟩;refine WI hk hn hcs hone (aCv Ea hv (dX k2' _ _ _ (λ_ _=>rfl) k1) ?_ (dX k2' _ _ _ (λ_ _=>rfl) k3)) (lW k2' _ _ _ _ _ rfl (λ_ _=>rfl) hr1) (lW k2' _ _ _ _ _ rfl (λ_ _=>rfl) hr3);simp only[R];exact⟨trivial,_,_,fJ,eE _,λ_ _=>hvs,λh=>by omega⟩
   .have hs:(f1++(a1++[]++a3)++f3).Sublist (f1++(a1++a2++a3)++f3):=((sX f1).append (((sX a1).append (nil_sublist a2)).append (sX a3))).append (sX f3);exact mC.2 ⟨λh=>hnd'.1 (hs.subset h),hs.nodup hnd'.2⟩
   .intro x hx;rw[vo];have hin:x∈b::(f1++(a1++a2++a3)++f3):=by simp only[gE,fS,Ft,or_false]at hx⊢;grind
    refine⟨hF x hin,λhx2=> ?_⟩;have hd:=hnd'.2;simp only[gS,fS]at hd;simp only[gE,fS,Ft,or_false]at hx;rcases hx with rfl|(hx|hx|hx)|hx
    .exact hnd'.1 (by simp[hx2])
    .exact hd.1.2.2 x hx x (.inl (.inr hx2)) rfl
    .exact hd.1.2.1.1.2.2 x hx x hx2 rfl
    .exact hd.1.2.1.2.2 x (.inr hx2) x hx rfl
    .exact hd.2.2 x (.inr (.inl (.inr hx2))) x hx rfl
  .refine ⟨a2,?_,?_,λx hx=>hx⟩
   .simp only[Env.of,cX,eS];exact DJ.keeps kp (λ_ _=>rfl)
   .have hd:=hnd'.2;simp only[gS]at hd;exact hd.1.2.1.1.2.1
  .obtain ⟨fq,q1,q2,q3⟩:=r.ok j x y h hjl;refine⟨fq,?_,q2,q3⟩;cases hbj:x.box with
   |false=>simp only[hbj,Env.of,cX,eS]at q1⊢;exact q1.keeps kp (λ_ _=>rfl)
   |true=>simp only[hbj,Env.of,eV]at q1⊢;exact(q1.Bj (nb h hbj)).keeps k2' (λ_ _=>rfl)
 .intro j1 j2 x1 x2 y1 y2 z hl1 hl2 v1 v2 hf1 hf2;rcases back hl1 with⟨rfl,rfl,rfl⟩|⟨rfl,rfl,rfl⟩|⟨hj1,h1⟩<;>rcases back hl2 with⟨rfl,rfl,rfl⟩|⟨rfl,rfl,rfl⟩|⟨hj2,h2⟩
  .rfl
  .exact absurd hf2 ((vo z).1 hf1).2
  .exact absurd (r.apart _ _ _ _ _ _ z hlk h2 hl v2 ((vo z).1 hf1).1 hf2).symm hj2
  .exact absurd hf1 ((vo z).1 hf2).2
  .rfl
  .exact absurd (r.apart _ _ _ _ _ _ z hlk h2 hl v2 (hsub2 z hf1) hf2).symm hj2
  .exact absurd (r.apart _ _ _ _ _ _ z h1 hlk v1 hl hf1 ((vo z).1 hf2).1) hj1
  .exact absurd (r.apart _ _ _ _ _ _ z h1 hlk v1 hl hf1 (hsub2 z hf2)) hj1
  .exact r.apart _ _ _ _ _ _ z h1 h2 v1 v2 hf1 hf2
 .intro j x y z hlj hjl hf;rcases back hlj with⟨rfl,rfl,rfl⟩|⟨rfl,rfl,rfl⟩|⟨_,h⟩
  .exact r.fresh _ _ _ z hlk hl ((vo z).1 hf).1
  .exact r.fresh _ _ _ z hlk hl (hsub2 z hf)
  .exact r.fresh _ _ _ z h hjl hf
attribute [simp] Bj pQ
def quiet:Op->Bool
 | .move _| .assign _| .load _ _| .fieldAddr _ _ _| .indexAddr _ _ _| .index _ _ _| .extract _ _| .unOp _ _ _| .binOp _ _ _ _ _| .convert _ _ _| .pick _ _ _| .alloc _| .box _ _| .build _ _| .nilCheck _=>true
 | .call ⟨.builtin .len,⟨[_]⟩,⟨[_]⟩⟩=>true
 | .call ⟨.value _,_,_⟩=>true
 |_=>false
def mQ(op:Op)(s:AS):Bool:=match op with
 | .buildSlice _ _ parts=>(jF ((parts.toList.map (·.2)).map s.ev)).isEmpty
 | .slice _ x _ _ none=>match s.ev x with
  | .str _=>true
  | .sl _ _ _=>true
  |_=>false
 | .call ⟨.builtin .append,⟨[x,y]⟩,_⟩=>(match s.ev x with| .sl .own _ []=>true|_=>false)&&(match s.ev y with| .sl .own _ []=>true| .sl .view _ _=>true| .str _=>true|_=>false)
 |o=>quiet o
mutual
theorem aBm{o o':List aD}:∀x:AV,iN x=[]->res o x=res o' x/\gP o x=gP o' x
 | .obj i v,h=>by simp[iN]at h
 | .agg c,h=>by have:=FN (o:=o) (o':=o') c (by simpa [iN]using h);simp only[res,gP,this,and_self]
 | .iP c,h=>by have:=FN (o:=o) (o':=o') c (by simpa [iN]using h);simp only[res,gP,this,and_self]
 | .int _ _,_=>⟨rfl,rfl⟩
 | .bool _,_=>⟨rfl,rfl⟩
 | .str _,_=>⟨rfl,rfl⟩
 | .sl .own _ _,_=>⟨rfl,rfl⟩
 | .sl .view _ _,_=>⟨rfl,rfl⟩
 | .sl (.iZ _) _ _,_=>⟨rfl,rfl⟩
 | .fH .own _ _,_=>⟨rfl,rfl⟩
 | .fH .view _ _,_=>⟨rfl,rfl⟩
 | .fH (.iZ _) _ _,_=>⟨rfl,rfl⟩
 | .ptr _ _ _ _,_=>⟨rfl,rfl⟩
 | .fn _ [],_=>⟨rfl,rfl⟩
 | .fn _ (_::_),_=>⟨rfl,rfl⟩
 | .undef,_=>⟨rfl,rfl⟩
theorem FN{o o':List aD}:∀c:List AV,jF c=[]->rC o c=rC o' c/\lM o c=lM o' c
 |[],_=>⟨rfl,rfl⟩
 |x::xs,h=>by simp only[jF,append_eq_nil_iff]at h;have h1:=aBm (o:=o) (o':=o') x h.1;have h2:=FN (o:=o) (o':=o') xs h.2;simp only[rC,lM,h1,h2,and_self]
end
theorem uo{o:List aD}:∀{c:List AV},(∀x∈rC o c,x.Ab=true)->∀x∈c,x≠ .undef
 |[],_,x,hx=>by cases hx
 |y::ys,h,x,hx=>by
  rcases gE.1 hx with rfl|hx
  .rintro rfl;have:=h .undef (by simp[rC,res]);simp[AV.Ab,AV.Mg]at this
  .exact uo (o:=o) (c:=ys) (λz hz=>h z (by simp[rC,hz])) x hx
def rR(t:List AV):Option Tmp->AV->List AV
 |some d,x=>t.set d x
 |none,_=>t
theorem put_eq(t:List AV)(o:List aD)(d:Option Tmp)(x:AV):AS.put ⟨t,o⟩ d x=⟨rR t d x,o⟩:=by cases d<;>rfl
theorem dh:∀{t2 t:List AV} (i:Nat),wk t2 t->t.getD i .undef=t2.getD i .undef\/t.getD i .undef= .undef
 |[],[],_,_=> .inl rfl
 |[],_::_,_,h=>h.elim
 |_::_,[],_,h=>h.elim
 |x::xs,y::ys,0,h=>by simpa [getD]using h.1
 |x::xs,y::ys,i+1,h=>by simpa [getD]using dh i h.2
theorem Ll(t:List AV)(o:List aD)(d:Option Tmp)(c:List AV):AS.box ⟨t,o⟩ d c=⟨rR t d (.ptr o.length 0 0 0),o++[⟨true,true,c.length,0,[c]⟩]⟩:=put_eq _ _ _ _
theorem FO(t:List AV)(o:List aD)(d:Option Tmp)(r:AV):AS.called ⟨t,o⟩ d r=⟨rR t d (eB 1 o.length r).1,o++(eB 1 o.length r).2⟩:=put_eq _ _ _ _
section
variable{t t2:List AV}{o o2:List aD}
theorem TP(hw:wk t2 t)(x:Operand):(AS.ev ⟨t,o⟩ x)=(AS.ev ⟨t2,o2⟩ x)\/(AS.ev ⟨t,o⟩ x)= .undef:=by
 cases x with
 |tmp i=>exact dh i hw
 |const v=>exact .inl rfl
 |func f=>exact .inl rfl
 |global g=>exact .inl rfl
theorem FP(hw:wk t2 t){x:Operand}{y:AV}(h:AS.ev ⟨t,o⟩ x=y)(hy:y≠ .undef):AS.ev ⟨t2,o2⟩ x=y:=by
 rcases TP (o:=o) (o2:=o2) hw x with h'|h'
 .rw [<-h',h]
 .rw [h]at h';exact absurd h' hy
def Sub(o o2:List aD):Prop:=∀(i:Nat) (ob:aD),o[i]? =some ob->ob.live=true->o2[i]? =some ob
theorem xI(hs:Sub o o2){i ver:Nat}{ob:aD}(h:AV.isObj o i ver=some ob):AV.isObj o2 i ver=some ob:=by
 unfold AV.isObj at h⊢;split at h
 .rename_i x hx;split at h
  .rename_i hc;rw[hs _ _ hx hc.1];simp only[hc,and_self,eV];exact h
  .cases h
 .cases h
theorem aBn(hs:Sub o o2){i ver idx:Nat}{p:aD×List AV}(h:AS.at ⟨t,o⟩ i ver idx=some p):AS.at ⟨t2,o2⟩ i ver idx=some p:=by
 unfold AS.at at h⊢;split at h
 .rename_i ob h1;simp only[xI hs h1];exact h
 .cases h
theorem Ah(hs:Sub o o2){i ver:Nat}(h:(AV.isObj o i ver).isSome=true):(AV.isObj o2 i ver).isSome=true:=by obtain⟨ob,h⟩:=AN.1 h;rw[xI hs h];rfl
theorem xY(hs:Sub o o2){x:AV}(h:x.fit o=true):x.fit o2=true:=by
 cases x with
 |sl g n l=>
  cases g with
  |iZ i=>
   simp only[AV.fit]at h⊢;split at h
   .rename_i ob tX;rw[hs _ _ tX h];exact h
   .cases h
  |_=>rfl
 |fH g c off=>
  cases g with
  |iZ i=>
   simp only[AV.fit]at h⊢;split at h
   .rename_i ob tX;rw[hs _ _ tX h];exact h
   .cases h
  |_=>rfl
 |obj i ver=>simp only[AV.fit]at h⊢;exact Ah hs h
 |ptr i ver _ _=>simp only[AV.fit]at h⊢;exact Ah hs h
 |undef=>cases h
 |iP _=>cases h
 |_=>rfl
theorem di{x:AV}(h:x.fit o=true):x≠ .undef:=by rintro rfl;cases h
end
mutual
theorem aGu{o o2:List aD}(hs:Sub o o2):∀(x:AV),arg o x≠ .undef->∀(w:World) (v:Value),R w (mK w) (arg o2 x) v []->R w (mK w) (arg o x) v []
 | .obj i ver,hn,w,v,h=>by
  cases ho:AV.isObj o i ver with
  |none=>exact absurd (by simp only[arg,ho]) hn
  |some ob=>simp only[arg,ho,xI hs ho]at h⊢;exact h
 | .ptr i ver idx off,hn,w,v,h=>by
  cases ho:AV.isObj o i ver with
  |none=>exact absurd (by simp only[arg,ho]) hn
  |some ob=>simp only[arg,ho,xI hs ho]at h⊢;exact h
 | .agg c,_,w,v,h=>by simp only[arg,R]at h⊢;obtain⟨cs,h1,h2,h3⟩:=h;exact⟨cs,h1,h2,Cg hs c w cs h3⟩
 | .iP c,_,w,v,h=>by simp only[arg,R]at h⊢;obtain⟨cs,h1,h3⟩:=h;exact⟨cs,h1,Cg hs c w cs h3⟩
 | .fn f c,_,w,v,h=>by simp only[arg,R]at h⊢;obtain⟨h0,cs,h1,h3⟩:=h;exact⟨h0,cs,h1,Cg hs c w cs h3⟩
 | .int _ _,_,_,_,h=>h
 | .bool _,_,_,_,h=>h
 | .str _,_,_,_,h=>h
 | .sl .own _ _,_,_,_,h=>h
 | .sl .view _ _,_,_,_,h=>h
 | .sl (.iZ i) n l,hn,w,v,h=>by
  cases ho:o[i]? with
  |none=>simp[arg,ho]at hn
  |some ob=>
   by_cases hv:ob.live=true
   .simp only[arg,ho,hs _ _ ho hv]at h⊢;exact h
   .simp [arg,ho,hv]at hn
 | .fH .own _ _,_,_,_,h=>h
 | .fH .view _ _,_,_,_,h=>h
 | .fH (.iZ i) c off,hn,w,v,h=>by
  cases ho:o[i]? with
  |none=>simp[arg,ho]at hn
  |some ob=>
   by_cases hv:ob.live=true
   .simp only[arg,ho,hs _ _ ho hv]at h⊢;exact h
   .simp [arg,ho,hv]at hn
 | .undef,hn,_,_,_=>absurd rfl hn
theorem Cg{o o2:List aD}(hs:Sub o o2):∀(c:List AV) (w:World) (cs:List Value),Rc w (mK w) (AY o2 c) cs []->Rc w (mK w) (AY o c) cs []
 |[],_,_,h=>h
 |x::xs,w,[],h=>by simp[AY,Rc]at h
 |x::xs,w,c::cs,h=>by
  simp only[AY,Rc]at h⊢;obtain⟨f1,f2,h1,h2,e⟩:=h;obtain⟨rfl,rfl⟩:f1=[]/\f2=[]:=by simpa using e
  refine⟨[],[],?_,Cg hs xs w cs h2,rfl⟩;by_cases hn:arg o x= .undef
  .rw [hn];simp[R]
  .exact aGu hs x hn w c h1
end
theorem Vo{o:List aD}:∀{a2 a:List AV},wk a2 a->wk (AY o a2) (AY o a)
 |[],[],_=>trivial
 |[],_::_,h=>h.elim
 |_::_,[],h=>h.elim
 |x::xs,y::ys,h=>by
  refine⟨?_,Vo h.2⟩;rcases h.1 with rfl|rfl
  .exact .inl rfl
  .exact .inr rfl
theorem uq{t t2:List AV}{o o2:List aD}(hw:wk t2 t)(l:List Operand)(cap:List AV):wk (l.map (AS.ev ⟨t2,o2⟩)++cap) (l.map (AS.ev ⟨t,o⟩)++cap):=by
 induction l with
 |nil=>
  simp only[Ds,cY];induction cap with
  |nil=>trivial
  |cons x xs ih=>exact⟨.inl rfl,ih⟩
 |cons x xs ih=>exact⟨TP hw x,ih⟩
theorem Ok.mono{P:Program}[aB P]{f:FuncId}{a a2:List AV}{r:AV}(h:Ok P f a r)(hs:∀w vs,Rc w (mK w) a2 vs []->Rc w (mK w) a vs []):Ok P f a2 r:=
 λw vs hg hr=>h w vs hg (hs w vs hr)
theorem Xu:∀(q k k':Nat) (x:AV),(eB q k x).2=[]->eB q k' x=eB q k x:=by intro q k k' x h;exact(go q k k').1 x h
where
 go (q k k':Nat):(∀x:AV,(eB q k x).2=[]->eB q k' x=eB q k x)/\(∀c:List AV,(eF q k c).2=[]->eF q k' c=eF q k c):=
  ⟨λx=>one x,λc=>all c⟩
 one {q k k':Nat}:∀x:AV,(eB q k x).2=[]->eB q k' x=eB q k x
  | .sl .own n l,h=>by simp[eB]at h
  | .agg c,h=>by simp only[eB]at h⊢;rw[all c h]
  | .iP c,h=>by simp only[eB]at h⊢;rw[all c h]
  | .sl .view _ _,_=>rfl
  | .sl (.iZ _) _ _,_=>rfl
  | .int _ _,_=>rfl
  | .bool _,_=>rfl
  | .str _,_=>rfl
  | .fH _ _ _,_=>rfl
  | .obj _ _,_=>rfl
  | .ptr _ _ _ _,_=>rfl
  | .fn _ _,_=>rfl
  | .undef,_=>rfl
 all {q k k':Nat}:∀c:List AV,(eF q k c).2=[]->eF q k' c=eF q k c
  |[],_=>rfl
  |x::xs,h=>by
   simp only[eF,append_eq_nil_iff]at h⊢;have h1:=one (k':=k') x h.1;rw[h1];have h2:(eB q k x).2.length=0:=by rw[h.1];rfl
   rw[h2]at h⊢;have h3:=all (k:=k+0) (k':=k'+0) xs h.2;rw[h3]
theorem CX{t2 t:List AV}{o o2:List aD}(hw:wk t2 t){d n:Nat}{x:Option Operand}(h:AS.bound ⟨t,o⟩ d x=some n):AS.bound ⟨t2,o2⟩ d x=some n:=by
 cases x with
 |none=>exact h
 |some x=>
  simp only[AS.bound]at h⊢;split at h
  .rename_i hx;rw[FP (o2:=o2) hw hx (by simp)];exact h
  .cases h
theorem Xv{P:Program}[aB P]{op:Oper}{t t2:List AV}{o o2:List aD}{K:AS->Prop}(q:mQ op.op ⟨t,o⟩=true)(hw:wk t2 t)(h:rM P op ⟨t,o⟩ K)(hs:Sub o o2)(yV:o2.length=o.length\/∀s',K s'->s'.o.length=o.length):
  ∃x new x2,K ⟨rR t op.dst x,o++new⟩/\(x=x2\/x= .undef)/\(o2.length=o.length\/new=[])/\∀K2:AS->Prop,K2 ⟨rR t2 op.dst x2,o2++new⟩->rM P op ⟨t2,o2⟩ K2:=by
 have same:∀{x:AV},K (AS.put ⟨t,o⟩ op.dst x)->(∀K2:AS->Prop,K2 (AS.put ⟨t2,o2⟩ op.dst x)->rM P op ⟨t2,o2⟩ K2)->
   ∃x new x2,K ⟨rR t op.dst x,o++new⟩/\(x=x2\/x= .undef)/\(o2.length=o.length\/new=[])/\∀K2:AS->Prop,K2 ⟨rR t2 op.dst x2,o2++new⟩->rM P op ⟨t2,o2⟩ K2:=by
  intro x h1 h2;refine⟨x,[],x,by rw[eC,<-put_eq];exact h1,.inl rfl,.inr rfl,λK2 hK=>h2 K2 ?_⟩;rw[put_eq];rw[eC]at hK;exact hK
 obtain⟨dst,op,ty,pos,after,gd⟩:=op;have E:∀{x:Operand} {y:AV},AS.ev ⟨t,o⟩ x=y->y≠ .undef->AS.ev ⟨t2,o2⟩ x=y:=λh hy=>FP hw h hy
 unfold rM at h;dsimp only at h q same⊢;split at h;case h_1=>
  rename_i X;refine⟨_,[],AS.ev ⟨t2,o2⟩ X,by rw[put_eq]at h;rw[eC];exact h,TP hw X,.inr rfl,λK2 hK=> ?_⟩;unfold rM;dsimp only;rw[put_eq];rw[eC]at hK;exact hK
 case h_2=>
  rename_i X;refine⟨_,[],AS.ev ⟨t2,o2⟩ X,by rw[put_eq]at h;rw[eC];exact h,TP hw X,.inr rfl,λK2 hK=> ?_⟩;unfold rM;dsimp only;rw[put_eq];rw[eC]at hK;exact hK
 case h_3=>
  split at h
  .rename_i b hc;rename_i X Y _;refine⟨if b then AS.ev ⟨t,o⟩ X else AS.ev ⟨t,o⟩ Y,[],if b then AS.ev ⟨t2,o2⟩ X else AS.ev ⟨t2,o2⟩ Y,by rw[put_eq]at h;rw[eC];exact h,?_,.inr rfl,λK2 hK=> ?_⟩
   .cases b
    .exact TP hw Y
    .exact TP hw X
   .unfold rM;dsimp only;rw[E hc (by simp)];dsimp only;rw[put_eq];rw[eC]at hK;exact hK
  .exact h.elim
 case h_4=>
  split at h
  .rename_i z hz;rcases yV with hlen|yV
   .refine ⟨.ptr o.length 0 0 0,[⟨true,true,z.length,0,[z]⟩],.ptr o.length 0 0 0,by rw[Ll]at h;exact h,.inl rfl,.inl hlen,λK2 hK=> ?_⟩
    unfold rM;dsimp only;rw[hz];dsimp only;rw[Ll,hlen];exact hK
   .have:=yV _ h;rw[Ll]at this;simp at this
  .exact h.elim
 case h_5=>
  rename_i X;obtain⟨h1,h2⟩:=h;have hX:=E (x:=X) rfl (di h1);rcases yV with hlen|yV
  .refine ⟨.ptr o.length 0 0 0,[⟨true,true,(AS.ev ⟨t,o⟩ X).cells.length,0,[(AS.ev ⟨t,o⟩ X).cells]⟩],.ptr o.length 0 0 0,by rw[Ll]at h2;exact h2,.inl rfl,.inl hlen,λK2 hK=> ?_⟩
   unfold rM;dsimp only;rw[hX];refine⟨xY hs h1,?_⟩;rw[Ll,hlen];exact hK
  .have:=yV _ h2;rw[Ll]at this;simp at this
 case h_6=>
  rename_i T parts;split at h
  .rename_i pl hp;split at h
   .rename_i z0 hz;obtain⟨h1,h⟩:=h;split at h
    .rename_i z hf;have yU:(parts.toList.map λp=>(p.1,AS.ev ⟨t2,o2⟩ p.2))=parts.toList.map λp=>(p.1,AS.ev ⟨t,o⟩ p.2):=
      map_congr_left λp hp=>by rw[E (x:=p.2) rfl (di (h1 p hp))]
     refine same h λK2 hK=> ?_
     unfold rM;dsimp only;rw[hp];dsimp only;rw[hz];dsimp only;refine⟨λp hp=>by rw[E (x:=p.2) rfl (di (h1 p hp))];exact xY hs (h1 p hp),?_⟩;rw[yU,hf];exact hK
    .exact h.elim
   .exact h.elim
  .exact h.elim
 case h_7=>
  rename_i T len parts;split at h
  .rename_i e n by' he;obtain⟨k1,k2,k3,k4,k5,k6,k7,k8,h⟩:=h;have hu:jF ((parts.toList.map (·.2)).map (AS.ev ⟨t,o⟩))=[]:=by simpa [mQ]using q
   have hL:(parts.toList.map (·.2)).map (AS.ev ⟨t2,o2⟩)=(parts.toList.map (·.2)).map (AS.ev ⟨t,o⟩):=
    map_congr_left λx hx=>E rfl (uo (λy hy=>(k8 y hy).1) _ (qS.2 ⟨x,hx,rfl⟩))
   have aBo:∀os:List aD,uS [] os=os:=λ_=>rfl
   rcases yV with hlen|yV
   .refine ⟨.obj o.length 1,[⟨true,false,n,1,(rC o ((parts.toList.map (·.2)).map (AS.ev ⟨t,o⟩))).map AV.cells⟩],.obj o.length 1,?_,.inl rfl,.inl hlen,λK2 hK=> ?_⟩
    .unfold AS.built at h;rw[hu,aBo,put_eq]at h;simpa using h
    .unfold rM;dsimp only;rw[he];dsimp only;refine⟨k1,k2,k3,k4,k5,?_⟩;rw[hL];have aBp:=FN (o:=o) (o':=o2) _ hu;refine⟨by rw[<-aBp.2];exact k6,k7,by rw[<-aBp.1];exact k8,?_⟩;unfold AS.built;dsimp only;rw[hL,hu,aBo,put_eq,hlen,<-aBp.1];simpa [hlen]using hK
   .have:=yV _ h;unfold AS.built at this;rw[hu,aBo,put_eq]at this;simp at this
  .exact h.elim
 case h_8=>
  rename_i T X;split at h
  .rename_i hx;split at h
   .rename_i ob e ha;unfold zC at h;split at h
    .rename_i n hn;refine same h.2 λK2 hK=> ?_
     unfold rM;dsimp only;rw[E hx (by simp)];dsimp only;rw[aBn hs ha];dsimp only;unfold zC;rw[hn];exact⟨h.1,hK⟩
    .rename_i hn;obtain⟨h1,h⟩:=h;split at h
     .rename_i y hy;refine same h λK2 hK=> ?_
      unfold rM;dsimp only;rw[E hx (by simp)];dsimp only;rw[aBn hs ha];dsimp only;unfold zC;rw[hn];dsimp only;rw[hy];exact⟨h1,hK⟩
     .exact h.elim
   .exact h.elim
  .rename_i hx;obtain⟨hf,h⟩:=h;unfold zC at h;split at h
   .rename_i n hn;refine same h.2 λK2 hK=> ?_
    unfold rM;dsimp only;rw[E hx (by simp)];dsimp only;unfold zC;rw[hn];exact⟨xY hs hf,h.1,hK⟩
   .rename_i hn;obtain⟨h1,h⟩:=h;split at h
    .rename_i y hy;refine same h λK2 hK=> ?_
     unfold rM;dsimp only;rw[E hx (by simp)];dsimp only;unfold zC;rw[hn];dsimp only;rw[hy];exact⟨xY hs hf,h1,hK⟩
    .exact h.elim
  .exact h.elim
 case h_9=>cases q
 case h_10=>
  split at h
  .rename_i fo hf;split at h
   .rename_i hx;refine same h.2 λK2 hK=> ?_
    unfold rM;dsimp only;rw[hf];dsimp only;rw[E hx (by simp)];exact⟨Ah hs h.1,hK⟩
   .rename_i hx;refine same h.2 λK2 hK=> ?_
    unfold rM;dsimp only;rw[hf];dsimp only;rw[E hx (by simp)];exact⟨xY hs h.1,hK⟩
   .exact h.elim
  .exact h.elim
 case h_11=>
  split at h
  .rename_i hi;obtain⟨h0,h⟩:=h;split at h
   .rename_i hx;split at h
    .rename_i ob ho;split at h
     .rename_i he;refine same h.2.2.2 λK2 hK=> ?_
      unfold rM;dsimp only;rw[E hi (by simp)];dsimp only;rw[E hx (by simp)];dsimp only;rw[xI hs ho];dsimp only;rw[he];exact⟨h0,h.1,h.2.1,h.2.2.1,hK⟩
     .exact h.elim
    .exact h.elim
   .rename_i hx;obtain⟨hf,h⟩:=h;split at h
    .rename_i he;obtain⟨hm,h⟩:=h;split at h
     .rename_i hc;refine same h λK2 hK=> ?_
      unfold rM;dsimp only;rw[E hi (by simp)];dsimp only;rw[E hx (by simp)];dsimp only;rw[he];dsimp only;rw[hc];exact⟨h0,xY hs hf,hm,hK⟩
     .exact h.elim
    .exact h.elim
   .rename_i hx;obtain⟨hso,h⟩:=h;split at h
    .rename_i ha;refine same h.2 λK2 hK=> ?_
     unfold rM;dsimp only;rw[E hi (by simp)];dsimp only;rw[E hx (by simp)];dsimp only;rw[ha];exact⟨h0,Ah hs hso,h.1,hK⟩
    .exact h.elim
   .exact h.elim
  .exact h.elim
 case h_12=>
  split at h
  .rename_i hx;split at h
   .rename_i hi;obtain⟨ht,h0,h⟩:=h;split at h
    .rename_i hu;refine same h λK2 hK=> ?_
     unfold rM;dsimp only;rw[E hx (by simp)];dsimp only;rw[E hi (by simp)];dsimp only;rw[hu];exact⟨ht,h0,hK⟩
    .exact h.elim
   .exact h.elim
  .exact h.elim
 case h_13=>
  split at h
  .rename_i hx;split at h
   .rename_i hy;refine same h λK2 hK=> ?_
    unfold rM;dsimp only;rw[E hx (by simp)];dsimp only;rw[hy];exact hK
   .exact h.elim
  .exact h.elim
 case h_14=>cases q
 case h_15=>cases q
 case h_16=>
  split at h
  .rename_i hx;split at h
   .rename_i ha;split at h
    .rename_i hb;obtain⟨h1,h2,h3,h⟩:=h;refine same h λK2 hK=> ?_
     unfold rM;dsimp only;rw[E hx (by simp)];dsimp only;rw[CX hw ha];dsimp only;rw[CX hw hb];exact⟨h1,h2,h3,hK⟩
    .exact h.elim
   .exact h.elim
  .rename_i hx;split at h
   .rename_i ha;split at h
    .rename_i hb;split at h
     .rename_i he;obtain⟨h1,h2,h3,h4,h⟩:=h;refine same h λK2 hK=> ?_
      unfold rM;dsimp only;rw[E hx (by simp)];dsimp only;rw[CX hw ha];dsimp only;rw[CX hw hb];dsimp only;rw[he];exact⟨h1,xY hs h2,h3,h4,hK⟩
     .exact h.elim
    .exact h.elim
   .exact h.elim
  .rename_i hx;simp only[mQ,hx]at q;cases q
  .exact h.elim
 case h_17=>
  split at h
  .rename_i hx;refine same h λK2 hK=> ?_
   unfold rM;dsimp only;rw[E hx (by simp)];exact hK
  .exact h.elim
 case h_18=>
  split at h
  .rename_i hx;refine same h λK2 hK=> ?_
   unfold rM;dsimp only;rw[E hx (by simp)];exact hK
  .exact h.elim
 case h_19=>
  split at h
  .rename_i hx;split at h
   .rename_i hy;obtain⟨hk,h⟩:=h;split at h
    .rename_i hz;refine same h λK2 hK=> ?_
     unfold rM;dsimp only;rw[E hx (by simp)];dsimp only;rw[E hy (by simp)];dsimp only;rw[hz];exact⟨hk,hK⟩
    .exact h.elim
   .exact h.elim
  .rename_i hx;split at h
   .rename_i hy;obtain⟨hk,h⟩:=h;split at h
    .rename_i hz;refine same h λK2 hK=> ?_
     unfold rM;dsimp only;rw[E hx (by simp)];dsimp only;rw[E hy (by simp)];dsimp only;rw[hz];exact⟨hk,hK⟩
    .exact h.elim
   .exact h.elim
  .rename_i hx;split at h
   .rename_i hy;refine same h.2.2 λK2 hK=> ?_
    unfold rM;dsimp only;rw[E hx (by simp)];dsimp only;rw[E hy (by simp)];exact⟨h.1,h.2.1,hK⟩
   .exact h.elim
  .rename_i hx;split at h
   .rename_i hy;obtain⟨h1,h2,h3,b,h4,h5⟩:=h;refine same h5 λK2 hK=> ?_
    unfold rM;dsimp only;rw[E hx (by simp)];dsimp only;rw[E hy (by simp)];exact⟨h1,h2,h3,b,h4,hK⟩
   .exact h.elim
  .exact h.elim
 case h_20=>
  split at h
  .rename_i hx;split at h
   .rename_i hk;refine same h.2 λK2 hK=> ?_
    unfold rM;dsimp only;rw[E hx (by simp)];dsimp only;rw[hk];exact⟨h.1,hK⟩
   .exact h.elim
  .rename_i hx;refine same h.2.2 λK2 hK=> ?_
   unfold rM;dsimp only;rw[E hx (by simp)];exact⟨h.1,h.2.1,hK⟩
  .rename_i hx;split at h
   .rename_i he;obtain⟨h1,h2,h3,h4,h5,bs,h6,h7⟩:=h;refine same h7 λK2 hK=> ?_
    unfold rM;dsimp only;rw[E hx (by simp)];dsimp only;rw[he];exact⟨h1,h2,xY hs h3,h4,h5,bs,h6,hK⟩
   .exact h.elim
  .rename_i hx;split at h
   .rename_i ho;split at h
    .rename_i he;obtain⟨h1,h2,h3,h4,bs,h6,h7⟩:=h;refine same h7 λK2 hK=> ?_
     unfold rM;dsimp only;rw[E hx (by simp)];dsimp only;rw[xI hs ho];dsimp only;rw[he];exact⟨h1,h2,h3,h4,bs,h6,hK⟩
    .exact h.elim
   .exact h.elim
  .exact h.elim
 case h_21=>
  split at h
  .rename_i hx;refine same h.2 λK2 hK=> ?_
   unfold rM;dsimp only;rw[E hx (by simp)];exact⟨h.1,hK⟩
  .rename_i hx;refine same h.2.2 λK2 hK=> ?_
   unfold rM;dsimp only;rw[E hx (by simp)];exact⟨xY hs h.1,h.2.1,hK⟩
  .rename_i hx;split at h
   .rename_i ho;refine same h.2 λK2 hK=> ?_
    unfold rM;dsimp only;rw[E hx (by simp)];dsimp only;rw[xI hs ho];exact⟨h.1,hK⟩
   .exact h.elim
  .exact h.elim
 case h_22=>
  rename_i X Y tS xT;simp only[mQ,eI]at q;obtain⟨qx,qy⟩:=q;split at h
  .rename_i e n by' he;obtain⟨k1,k2,h⟩:=h;split at qx
   .rename_i m hx;have hx2:=E hx (by simp);rw[hx]at h;simp only[AS.target]at h;have aSp:∀(y:AV),AS.ev ⟨t,o⟩ Y=y->y≠ .undef->(match y with| .sl .own _ []=>true| .sl .view _ _=>true| .str _=>true|_=>false)=true->∀l2 o',AS.source ⟨t,o++[⟨true,false,n,0,[]⟩]⟩ o.length n y=some (l2,o')->
      o'=o++[⟨true,false,n,0,[]⟩]/\AS.source ⟨t2,o2++[⟨true,false,n,0,[]⟩]⟩ o2.length n (AS.ev ⟨t2,o2⟩ Y)=some (l2,o2++[⟨true,false,n,0,[]⟩]):=by
     intro y hy hne hk l2 o' Xw;rw[E hy hne];split at hk
     .simp only[AS.source,eA,oR]at Xw⊢;exact⟨Xw.2.symm,Xw.1,trivial⟩
     .simp only[AS.source]at Xw⊢;split at Xw
      .rename_i hm;simp only[eA,oR]at Xw;rw[eW hm];exact⟨Xw.2.symm,by rw[Xw.1]⟩
      .cases Xw
     .simp only[AS.source]at Xw⊢;split at Xw
      .rename_i hm;simp only[eA,oR]at Xw;rw[eW hm];exact⟨Xw.2.symm,by rw[Xw.1]⟩
      .cases Xw
     .cases hk
    split at h
    .rename_i l2 o' Xw;obtain⟨h1,h2,h⟩:=h;obtain⟨rfl,hs2⟩:=aSp _ rfl (by rintro hu;rw[hu]at qy;simp at qy) qy _ _ Xw;have e1:(o++[(⟨true,false,n,0,[]⟩:aD)]).set o.length ⟨true,false,n,0+1,[]++l2⟩=o++[⟨true,false,n,0+1,[]++l2⟩]:=by rw[Fm _ _ (eE _)];simp
     have e2:(o2++[(⟨true,false,n,0,[]⟩:aD)]).set o2.length ⟨true,false,n,0+1,[]++l2⟩=o2++[⟨true,false,n,0+1,[]++l2⟩]:=by rw[Fm _ _ (eE _)];simp
     unfold AS.yH at h;dsimp only at h;rw[e1,put_eq]at h;rcases yV with hlen|yV
     .refine ⟨.obj o.length (0+1),[⟨true,false,n,0+1,[]++l2⟩],.obj o.length (0+1),h,.inl rfl,.inl hlen,λK2 hK=> ?_⟩
      unfold rM;dsimp only;rw[he];dsimp only;refine⟨k1,k2,?_⟩;rw[hx2];simp only[AS.target];rw[hs2];dsimp only;refine⟨h1,h2,?_⟩;unfold AS.yH;dsimp only;rw[e2,put_eq,hlen];exact hK
     .have:=yV _ h;simp at this
    .exact h.elim
   .cases qx
  .exact h.elim
 case h_23=>
  rename_i F args KS;split at h
  .rename_i g cap hf;split at h
   .rename_i h1;obtain⟨r,h2,h3⟩:=h;have qE:Ok P g (AY o2 (AS.args ⟨t2,o2⟩ args++cap)) r:=h2.mono λw vs hr=>
     GJ (Vo (uq (o:=o) (o2:=o2) hw args.toList cap)) (Cg hs _ w vs hr)
    rcases yV with hlen|yV
    .refine ⟨(eB 1 o.length r).1,(eB 1 o.length r).2,(eB 1 o.length r).1,by rw[FO]at h3;exact h3,.inl rfl,.inl hlen,λK2 hK=> ?_⟩
     unfold rM;dsimp only;rw[E hf (by simp)];dsimp only;rw[eW h1];refine⟨r,qE,?_⟩;rw[FO,hlen];exact hK
    .have hn:=yV _ h3;simp only[FO,eM]at hn;have zq:(eB 1 o.length r).2=[]:=lB (by omega);have ha:=Xu 1 o.length o2.length r zq;refine⟨(eB 1 o.length r).1,[],(eB 1 o.length r).1,?_,.inl rfl,.inr rfl,λK2 hK=> ?_⟩
     .rw [FO,zq]at h3;exact h3
     .unfold rM;dsimp only;rw[E hf (by simp)];dsimp only;rw[eW h1];refine⟨r,qE,?_⟩;unfold AS.called;rw[ha,zq,put_eq];simpa using hK
   .rename_i h1;obtain⟨r,h2,h3⟩:=h;refine same h3 λK2 hK=> ?_
    unfold rM;dsimp only;rw[E hf (by simp)];dsimp only;rw[eK h1];exact⟨r,λw vs hr=>h2 w vs (GJ (Vo (uq (o:=o) (o2:=o2) hw args.toList cap)) (Cg hs _ w vs hr)),hK⟩
  .exact h.elim
 case h_24=>
  split at h
  .rename_i hx;refine same h.2 λK2 hK=> ?_
   unfold rM;dsimp only;rw[E hx (by simp)];exact⟨Ah hs h.1,hK⟩
  .rename_i hx;refine same h.2 λK2 hK=> ?_
   unfold rM;dsimp only;rw[E hx (by simp)];exact⟨xY hs h.1,hK⟩
  .exact h.elim
 case h_25=>exact h.elim
end Go.Aw
