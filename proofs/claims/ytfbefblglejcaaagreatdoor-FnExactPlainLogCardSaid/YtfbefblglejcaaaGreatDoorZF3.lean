/- Proved here: steps towards the statement of this claim. No condition. -/
import Derived.Test.YtfbefblglejcaaaGreatDoorZF9
set_option linter.all false
namespace Go.Aw
open List
def lY(s s':AS):Prop:=∀⦃P:Program⦄ [aC P] (B:gM P) a w,Rel B s a w->Rel B s' a w
def DI(K:AS->Prop)(Q:Exit->AS->Prop):Exit->AS->Prop
 | .normal,s=>K s
 |e,s=>Q e s
def Y8(id:Nat)(Q:Exit->AS->Prop):Exit->AS->Prop
 | .exit id',s=>if id'=id then Q .normal s else Q (.exit id') s
 |e,s=>Q e s
def lift{P:Program}[aC P](B:gM P)(Q:Exit->AS->Prop):Exit->Act->World->Prop:=λe a w=>∃s,Q e s/\Rel B s a w
def Zx(want:Bool):AV->AV
 | .gT []=> .bool (!want)
 |x=>x
@[simp] theorem aMh(w b:Bool):Zx w (.bool b)= .bool b:=rfl
@[simp] theorem aOr(w:Bool):Zx w (.gT [])= .bool (!w):=rfl
theorem aDj{w b:Bool}{x:AV}(h:Zx w x= .bool b):(x= .gT []/\b= !w)\/x= .bool b:=by
 unfold Zx at h;split at h
 .exact .inl ⟨rfl,(AV.bool.inj h).symm⟩
 .exact .inr h
theorem uj(w:World)(E:Env):R w E (.gT []) undef []:=by simp only[R];exact⟨[],rfl,by simp[Rc]⟩
def sJ(all:List Oper)(s:AS)(j:Nat)(want:Bool):AV:=match all[j]? with
 |some o=>match o.dst with
  |some d=>Zx want (s.t.getD d .undef)
  |none=> .undef
 |none=> .undef
def KW(P:Program)[aC P](o:Oper)(s:AS)(K:AS->Prop):Prop:=
 match o.op with
 | .call ⟨.value f,⟨x::ys⟩,_⟩=>match s.ev f with
  | .fn g []=>bR P g=true/\(ys.all λy=>(s.ev y).Ru)=true/\jJ s.o (s.ev x)=true/\(lV (s.ev x)).Nodup/\∃x' r,OkM P g (res s.o (s.ev x)) x' (ys.map s.ev) r/\(r.iC=true\/r= .gT [])/\mt s.o (s.ev x) x'=true/\K (s.QA o.dst (s.ev x) x' r)
  |_=>False
 | .convert src d x=>match s.ev x with
  | .str l=>match mU P d with
   |some (e,m,_)=>isString P src=true/\m=1/\intType P e=some .u8/\l.length<=9223372036854775807/\K (s.made o.dst 1 (dM l))
   |none=>False
  |_=>False
 |_=>False
theorem Zy{P:Program}[aC P]{B:gM P}{o:Oper}{s:AS}{K:AS->Prop}(h:KW P o s K):∃s',K s'/\Step P B o s s':=by
 obtain⟨dst,op,ty,pos,after,gd⟩:=o;unfold KW at h;dsimp only at h;split at h
 .split at h
  .rename_i hf;obtain⟨h1,h2,h3,h4,x',r,h5,h6,h7,h8⟩:=h;exact⟨_,h8,aC9 _ _ _ _ hf h1 h2 h6 h3 h4 h7 h5⟩
  .exact h.elim
 .split at h
  .rename_i hx;split at h
   .rename_i he;obtain⟨h1,rfl,h2,h3,h4⟩:=h;exact⟨_,h4,uh _ _ _ hx h1 he h2 h3⟩
   .exact h.elim
  .exact h.elim
 .exact h.elim
def Zz(P:Program)[aC P](o:Oper)(s:AS)(K:AS->Prop):Prop:=
 match o.op with
 | .call ⟨.value f,args,_⟩=>match s.ev f with
  | .fn g []=>bR P g=true/\∃gs r,MP P g gs r/\(takes s.o (s.args args) gs).Nodup/\handed s.o (takes s.o (s.args args) gs) (s.args args) gs/\K (s.given o.dst (s.args args) gs r)
  |_=>False
 |_=>False
theorem uk{P:Program}[aC P]{B:gM P}{o:Oper}{s:AS}{K:AS->Prop}(h:Zz P o s K):∃s',K s'/\Step P B o s s':=by
 obtain⟨dst,op,ty,pos,after,gd⟩:=o;unfold Zz at h;dsimp only at h;split at h
 .split at h
  .rename_i hf;obtain⟨h1,gs,r,h2,h3,h4,h5⟩:=h;exact⟨_,h5,Y6 _ _ _ hf h1 h3 h4 h2⟩
  .exact h.elim
 .exact h.elim
theorem lY.refl(s:AS):lY s s:=λ_ _ _ _ _ h=>h
theorem lY.trans{a b c:AS}(h:lY a b)(k:lY b c):lY a c:=λ_ _ B x w r=>k B x w (h B x w r)
def JK(P:Program)[aC P](o:Oper)(s:AS)(K:AS->Prop):Prop:=∃s1,lY s s1/\(sD P o s1 K\/KW P o s1 K\/Zz P o s1 K)
theorem RA{P:Program}[aC P]{B:gM P}{o:Oper}{s:AS}{K:AS->Prop}(h:JK P o s K):∃s',K s'/\Step P B o s s':=by
 obtain⟨s1,hw,h⟩:=h;obtain⟨s',hK,hst⟩:∃s',K s'/\Step P B o s1 s':=by
  rcases h with h|h|h
  .exact Bt h
  .exact Zy h
  .exact uk h
 exact⟨s',hK,λa w next Q hr hn=>hst a w next Q (hw B a w hr) hn⟩
theorem aDk{P:Program}[aC P]{o:Oper}{s:AS}{K:AS->Prop}(h:KW P o s K):JK P o s K:=⟨s,lY.refl s,.inr (.inl h)⟩
theorem aMi{P:Program}[aC P]{o:Oper}{s:AS}{K:AS->Prop}(h:Zz P o s K):JK P o s K:=⟨s,lY.refl s,.inr (.inr h)⟩
theorem aMj{P:Program}[aC P]{o:Oper}{s:AS}{K:AS->Prop}(h:aMe P o s K):JK P o s K:=by
 unfold aMe at h;split at h
 .split at h
  .split at h
   .rename_i ob wJ;exact⟨_,λ_ _ B a w hr=>aIi wJ h.1 hr,.inl h.2⟩
   .exact h.elim
  .exact h.elim
 .exact h.elim
def IL(P:Program)[aC P](o:Oper)(s:AS)(K:AS->Prop):Prop:=∃s1,lY s s1/\aIj P o s1 K
theorem OD{P:Program}[aC P]{B:gM P}{o:Oper}{s:AS}{K:AS->Prop}(h:IL P o s K)(a:Act)(w:World)(next:Act->World->Prop)(X:Exit->Act->World->Prop)(hr:Rel B s a w)
  (hn:∀a' w' s',K s'->Rel B s' a' w'->next a' w'):o.wp P a w next X:=by
 obtain⟨s1,hw,h⟩:=h;exact ui h a w next X (hw B a w hr) hn
def kU(P:Program)[aC P](all:List Oper):List Oper->AS->(AS->Prop)->Prop
 |[],s,K=>K s
 |o::r,s,K=>match o.guard with
  |none=>(sD P o s λs'=>kU P all r s' K)\/(JK P o s λs'=>kU P all r s' K)\/(IL P o s λs'=>kU P all r s' K)
  |some (j,want)=>match sJ all s j want with
   | .bool b=>(b=want->(sD P o s λs'=>kU P all r s' K)\/(JK P o s λs'=>kU P all r s' K)\/(IL P o s λs'=>kU P all r s' K))/\(b≠want->kU P all r (s.put o.dst (.gT [])) K)
   |_=>False
def um(P:Program)[aC P](ops:Array Oper)(s:AS)(K:AS->Prop):Prop:=
 ∀(B:gM P) a w (Q:Exit->Act->World->Prop),Rel B s a w->(∀a' w' s',K s'->Rel B s' a' w'->Q .normal a' w')->
  wpAny P .any ops Q ops.size (Array.replicate ops.size false) a {w with drawn:=w.drawn+1}
def uY(P:Program)[aC P]:Code->AS->(Exit->AS->Prop)->Prop
 | .skip,s,Q=>Q .normal s
 | .region _ ops false,s,Q=>∃s2,lY s s2/\kU P ops.toList ops.toList s2 (Q .normal)
 | .region _ ops true,s,Q=>um P ops s (Q .normal)
 | .seq x y,s,Q=>uY P x s (DI (λs'=>uY P y s' Q) Q)
 | .cond c x y,s,Q=>match s.ev c with
  | .bool b=>(b=true->uY P x s Q)/\(b=false->uY P y s Q)
  |_=>False
 | .block id c,s,Q=>uY P c s (Y8 id Q)
 | .loop c,s,Q=>∃(ι:Type) (inv:ι->AS) (μ:ι->Nat) (i:ι),lY s (inv i)/\∀i,uY P c (inv i) (DI (λs'=>∃j,lY s' (inv j)/\μ j<μ i) Q)
 | .exit id,s,Q=>Q (.exit id) s
 | .ret,s,Q=>Q .ret s
 |_,_,_=>False
theorem RB{P:Program}[aC P]{B:gM P}{s:AS}{G:List CO}{a:Act}{w:World}(r:eB B s G a w){all:List Oper}{j:Nat}{b want:Bool}(h:sJ all s j want= .bool b):(yielded all.toArray a.tmps j == some want)=(b == want):=by
 unfold sJ at h;split at h
 .rename_i o ho;split at h
  .rename_i d hd;have h1:=r.ev (.tmp d);simp only[AS.ev]at h1;rcases aDj h with⟨h0,rfl⟩|h0
   .rw [h0]at h1;simp only[R]at h1;obtain⟨cs,h2,h3⟩:=h1;cases cs with
    |cons=>simp[Rc]at h3
    |nil=>
     simp only[Act.eval]at h2;rw[fY]at h2;cases hg:a.tmps[d]? with
     |none=>simp[yielded,ho,hd,hg]
     |some v=>simp[hg]at h2;subst h2;simp[yielded,ho,hd,hg]
   .rw [h0]at h1;simp only[R]at h1;have h2:=h1.1;simp only[Act.eval]at h2;rw[fY]at h2;cases hg:a.tmps[d]? with
    |none=>simp[hg]at h2;cases h2
    |some v=>simp[hg]at h2;subst h2;simp[yielded,ho,hd,hg]
  .cases h
 .cases h
theorem EA{P:Program}[aC P]{B:gM P}{all:List Oper}{Q:Exit->Act->World->Prop}:∀(l:List Oper) (s:AS) (K:AS->Prop),kU P all l s K->∀a w,Rel B s a w->(∀a' w' s',K s'->Rel B s' a' w'->Q .normal a' w')->wpList P all.toArray Q l a w
 |[],s,K,h,a,w,r,hk=>hk _ _ _ h r
 |o::l,s,K,h,a,w,r,hk=>by
  simp only[kU]at h;have stepped:((sD P o s λs'=>kU P all l s' K)\/(JK P o s λs'=>kU P all l s' K)\/(IL P o s λs'=>kU P all l s' K))->Region.wanted o (yielded all.toArray a.tmps)=true->wpList P all.toArray Q (o::l) a w:=by
   intro h hw;simp only[wpList,hw,gC];by_cases hcu:IL P o s λs'=>kU P all l s' K
   .exact .inl (OD hcu a w _ Q r λa' w' s' h' r'=>EA l s' K h' a' w' r' hk)
   obtain⟨s',h',hst⟩:∃s',kU P all l s' K/\Step P B o s s':=by
    rcases h with h|h|h
    .exact Bt (B:=B) h
    .exact RA (B:=B) h
    .exact (hcu h).elim
   exact .inl (hst a w _ Q r λa' w' r'=>EA l s' K h' a' w' r' hk)
  split at h
  .rename_i hg;exact stepped h (by simp[Region.wanted,hg])
  .rename_i j want hg;split at h
   .rename_i b hb;obtain⟨G,r'⟩:=r;have hy:=RB r' hb;by_cases hbw:b=want
    .exact stepped (h.1 hbw) (by simp[Region.wanted,hg,hy,hbw])
    .have hw:Region.wanted o (yielded all.toArray a.tmps)=false:=by simp[Region.wanted,hg,hy,hbw]
     simp only[wpList,hw,eS,gS];exact EA l _ K (h.2 hbw) _ _ ⟨G,r'.put o.dst (uj _ _)⟩ hk
   .exact h.elim
theorem Xw{ι:Type}(p:ι->Prop)(μ:ι->Nat)(h:∃i,p i):∃i,p i/\∀j,p j->μ i<=μ j:=by
 obtain⟨i,hi⟩:=h;generalize hn:μ i=n;induction n using Nat.strongRecOn generalizing i with
 |_ n ih=>
  by_cases hex:∃j,p j/\μ j<n
  .obtain ⟨j,hj,hlt⟩:=hex;exact ih (μ j) hlt j hj rfl
  .refine ⟨i,hi,λj hj=> ?_⟩
   rw[hn];exact Nat.le_of_not_lt λhlt=>hex ⟨j,hj,hlt⟩
open Classical in
noncomputable def least{ι:Type}(p:ι -> Prop)(μ:ι -> Nat): Nat := if h:∃ i, p i then μ (Xw p μ h).choose else 0
theorem least_le{ι:Type}{p:ι->Prop}{μ:ι->Nat}{j:ι}(h:p j):least p μ<=μ j:=by have hex:∃i,p i:=⟨j,h⟩;unfold least;rw[dif_pos hex];exact(Xw p μ hex).choose_spec.2 j h
theorem aDl{ι:Type}{p:ι->Prop}{μ:ι->Nat}(h:∃i,p i):∃i,p i/\least p μ=μ i:=by refine⟨(Xw p μ h).choose,(Xw p μ h).choose_spec.1,?_⟩;unfold least;rw[dif_pos h]
theorem sK{P:Program}[aC P](hm:P.follows .mixedOrders=true){B:gM P}:∀(c:Code) (s:AS) (Q:Exit->AS->Prop),uY P c s Q->∀a w,Rel B s a w->c.wp P (lift B Q) a w
 | .skip,s,Q,h,a,w,r=>wp_skip ⟨s,h,r⟩
 | .region id ops false,s,Q,⟨s2,hw,h⟩,a,w,r=>wp_region_list (by
   have:=EA (Q:=lift B Q) ops.toList s2 (Q .normal) h a w (hw B a w r) (λa' w' s' h' r'=>⟨s',h',r'⟩);simpa using this)
 | .region id ops true,s,Q,h,a,w,r=>wp_region_any hm (h B a w (lift B Q) r λa' w' s' h' r'=>⟨s',h',r'⟩)
 | .seq x y,s,Q,h,a,w,r=>wp_seq (wp_mono (sK hm x s _ h a w r) λe a' w' he=>by
   obtain⟨s',h',r'⟩:=he;cases e with
   |normal=>exact sK hm y s' Q h' a' w' r'
   |_=>exact⟨s',h',r'⟩)
 | .cond c x y,s,Q,h,a,w,r=>by
  simp only[uY]at h;split at h
  .rename_i b hb;obtain⟨G,r'⟩:=r;exact wp_cond_split (r'.Zg hb) (λhb=>sK hm x s Q (h.1 hb) a w ⟨G,r'⟩) (λhb=>sK hm y s Q (h.2 hb) a w ⟨G,r'⟩)
  .exact h.elim
 | .block id c,s,Q,h,a,w,r=>wp_block (wp_mono (sK hm c s _ h a w r) λe a' w' he=>by
   obtain⟨s',h',r'⟩:=he;cases e with
   |exit id'=>
    simp only[Y8]at h';simp only[Exit.inBlock];split at h'
    .rename_i hid;rw[eK hid];exact⟨s',h',r'⟩
    .rename_i hid;rw[cX hid];exact⟨s',h',r'⟩
   |_=>exact⟨s',h',r'⟩)
 | .loop c,s,Q,h,a,w,r=>by
  obtain⟨ι,inv,μ,i,h0,hr⟩:=h;refine wp_loop (λa w=>∃i,Rel B (inv i) a w) (λa w=>least (λi=>Rel B (inv i) a w) μ) ⟨i,h0 B a w r⟩ λa w hex=> ?_
  obtain⟨i,hi,aTi⟩:=aDl (μ:=μ) hex;refine wp_mono (sK hm c (inv i) _ (hr i) a w hi) λe a' w' he=> ?_
  obtain⟨s',h',r'⟩:=he;cases e with
  |normal=>obtain⟨j,hw,hlt⟩:=h';have hj:=hw B a' w' r';refine⟨⟨j,hj⟩,?_⟩;rw[aTi];exact Nat.lt_of_le_of_lt (least_le hj) hlt
  |_=>exact⟨s',h',r'⟩
 | .exit id,s,Q,h,a,w,r=>wp_exit ⟨s,h,r⟩
 | .ret,s,Q,h,a,w,r=>wp_ret ⟨s,h,r⟩
 | .rangeFunc _ _ _ _,_,_,h,_,_,_=>by simp[uY]at h
 | .scope _,_,_,h,_,_,_=>by simp[uY]at h
 | .label _,_,_,h,_,_,_=>by simp[uY]at h
 | .goto _,_,_,h,_,_,_=>by simp[uY]at h
 | .refuse _,_,_,h,_,_,_=>by simp[uY]at h
def AS.rv(P:Program)(s:AS):ResultVar->Option AV
 | .tmp t=>some (s.t.getD t .undef)
 | .cell t ty=>match s.t.getD t .undef with
  | .ptr i bV idx off=>match s.at i bV idx with
   |some (_,e)=>match lS P ty with
    |some n=>if off+n<=e.length then some (.agg (((xR (Es i) true e).drop off).take n))else none
    |none=>if qC P ty then(xR (Es i) true e)[off]? else none
   |none=>none
  |_=>none
def Fu(a:Act):ResultVar->Sem Value
 | .tmp t=>pure (a.tmps.getD t Go.undef)
 | .cell t ty=>do loadVar ty (<-asAddr (a.tmps.getD t Go.undef))
theorem JL(fn:Func)(a:Act):results fn a.tmps=(do let vs<-fn.results.mapM (Fu a);pure (if h:vs.size=1 then vs[0]else .tuple vs)):=by unfold results;congr 1;all_goals (congr 1;all_goals (funext x;cases x<;>rfl))
theorem aMk{P:Program}[aC P]{B:gM P}{s:AS}{G:List CO}{a:Act}{w:World}(r:eB B s G a w){rv:ResultVar}{x:AV}(h:s.rv P rv=some x):
  ∃v,(Fu a rv).run P w= .ok v w/\R w (env B s.o G w) x v []:=by
 cases rv with
 |tmp t=>simp only[AS.rv,eC]at h;subst h;exact⟨a.tmps.getD t Go.undef,rfl,r.ev (.tmp t)⟩
 |cell t ty=>
  simp only[AS.rv]at h;split at h
  .rename_i i bV idx off hx;split at h
   .rename_i ob e ha;obtain⟨ho,he⟩:=Bf ha;obtain⟨g,b,f,hl,hlive,hga,hv⟩:=r.ptr (x:= .tmp t) hx ho;obtain⟨b',f',cs,wR,hcn,hc,hone,wK⟩:=r.elem hl hlive he;rw[hga]at wR;simp only[eC,pD,sA]at wR;obtain⟨rfl,rfl⟩:=wR;have hle:=gH wK;rw[Et]at hle;simp only[Act.eval]at hv;split at h
    .rename_i n hn;split at h
     .rename_i hfit;obtain rfl:=cQ h;refine⟨.agg ((cs.drop off).take n).toArray,?_,by simp only[R];exact⟨_,rfl,Hm hone,QV off n wK⟩⟩;have:=uP (P:=P) (t:=ty) (k:=off) (n:=n) (cs:=cs) hn (by omega) hc;simp only[Instr.loadAt,Instr.sureAddr,pure_bind]at this;simp[Fu,hv,asAddr,<-oE,this]
     .cases h
    .split at h
     .rename_i aP7;obtain⟨v,hv',hR⟩:=Jt wK h;refine⟨v,?_,hR⟩;have:=xZ (P:=P) (t:=ty) aP7 hv' hc;simp only[Instr.loadAt,Instr.sureAddr,pure_bind]at this;simp[Fu,hv,asAddr,<-oE,this]
     .cases h
   .cases h
  .cases h
def AS.wT(P:Program)(s:AS):List ResultVar->Option (List AV)
 |[]=>some []
 |x::xs=>match s.rv P x with
  |some y=>match AS.wT P s xs with
   |some ys=>some (y::ys)
   |none=>none
  |none=>none
def single:List AV->AV
 |[x]=>x
 |xs=> .gT xs
def aP(P:Program)(fn:Func)(s:AS)(r:AV):Prop:=
 ∃ys,s.wT P fn.results.toList=some ys/\jJ s.o (single ys)=true/\(lV (single ys)).Nodup/\res s.o (single ys)=r/\clean r=true
theorem KX{P:Program}[aC P]{B:gM P}{s:AS}{G:List CO}{a:Act}{w:World}(r:eB B s G a w):∀{l:List ResultVar} {ys:List AV},s.wT P l=some ys->
  ∃vs,(l.mapM (m:=Sem) (Fu a)).run P w= .ok vs w/\Rc w (env B s.o G w) ys vs []
 |[],ys,h=>by simp only[AS.wT,eC]at h;subst h;exact⟨[],by simp,by simp[Rc]⟩
 |x::xs,ys,h=>by
  simp only[AS.wT]at h;split at h
  .rename_i y hy;split at h
   .rename_i ys' uo;obtain rfl:=cQ h;obtain⟨v,h1,h2⟩:=aMk r hy;obtain⟨vs,h3,h4⟩:=KX r uo;refine⟨v::vs,?_,by simp only[Rc];exact⟨[],[],h2,h4,rfl⟩⟩;simp only[mapM_cons,nF];rw[h1];simp only[lP];rw[h3];simp
   .cases h
  .cases h
theorem Ad{P:Program}[aC P]{B:gM P}{s:AS}{G:List CO}{a:Act}{w:World}(r:eB B s G a w){fn:Func}{ys:List AV}(h:s.wT P fn.results.toList=some ys):
  ∃v,(results fn a.tmps).run P w= .ok v w/\R w (env B s.o G w) (single ys) v []:=by
 obtain⟨vs,h1,h2⟩:=KX r h;have hl:=gH h2;have hm:(fn.results.mapM (m:=Sem) (Fu a)).run P w= .ok vs.toArray w:=by rw[Dd];simp only[Sem.run_map];rw[h1];rfl
 rw[JL];simp only[nF];rw[hm];simp only[lP,sE];match ys,vs,hl,h2 with
 |[y],[v],_,h2=>
  refine⟨v,by simp,?_⟩;simp only[Rc]at h2;obtain⟨f1,f2,h3,_,e⟩:=h2;obtain⟨rfl,_⟩:f1=[]/\f2=[]:=by simpa using e
  exact h3
 |[],[],_,h2=>exact⟨.tuple #[],by simp,by simp only[single,R];exact⟨[],rfl,h2⟩⟩
 |y1::y2::ys,v1::v2::vs,_,h2=>exact⟨.tuple (v1::v2::vs).toArray,by simp,by simp only[single,R];exact⟨_,rfl,h2⟩⟩
theorem VJ{P:Program}[aC P](hm:P.follows .mixedOrders=true){f:FuncId}{fn:Func}{c:Code}(hf:P.funcs[f]? =some fn)(hb:fn.body=some c){args:List AV}{rr:AV}
  (h:uY P c ⟨args++replicate (fn.ntmps-args.length) .undef,[]⟩ (λe s=>(e= .normal\/e= .ret)/\aP P fn s rr)):Ok P f args rr:=by
 intro w vs hg hargs;have hl:=gH hargs;have r0:eB ⟨w,λb=>b<w.heap.size,λ_=>False,λ_=>none,λ_=>none,hg,λ_ h=>h.elim,λ_ h=>h.elim⟩ ⟨args++replicate (fn.ntmps-args.length) .undef,[]⟩ [] {tmps:=vs.toArray++Array.replicate (fn.ntmps-vs.toArray.size) Go.undef,defers:=[]} w:=by
  refine⟨rfl,rfl,λi ob g hl=>by simp[look]at hl,λi j oi oj gi gj b hl=>by simp[look]at hl,λi ob g b hl=>by simp[look]at hl,?_,eE _,λ_ _ _=>rfl,λb hb=>hb,nS.rfl⟩;have h1:Rc w (env ⟨w,λb=>b<w.heap.size,λ_=>False,λ_=>none,λ_=>none,hg,λ_ h=>h.elim,λ_ h=>h.elim⟩ [] [] w) args vs []:=dU (w:=w) (w':=w) (E:=oI w) (E':=env ⟨w,λb=>b<w.heap.size,λ_=>False,λ_=>none,λ_=>none,hg,λ_ h=>h.elim,λ_ h=>h.elim⟩ [] [] w) ⟨λb hb=>⟨⟨.inl hb,λi ob g hl=>by simp[look]at hl⟩,rfl⟩,λ_ _=>trivial,λ_ _ _ h=>by exact h.elim,λ_ _ _ h=>by exact h.elim,λ_ _ _ _ _ h=>by exact h.elim⟩ _ _ _ (by simp) hargs;have h2:∀n,Rc w (env ⟨w,λb=>b<w.heap.size,λ_=>False,λ_=>none,λ_=>none,hg,λ_ h=>h.elim,λ_ h=>h.elim⟩ [] [] w) (replicate n .undef) (replicate n Go.undef) []:=by
   intro n;induction n with
   |zero=>simp[Rc]
   |succ n ih=>simp only[pN,Rc];exact⟨[],[],by simp[R],ih,rfl⟩
  have:=mQ h1 (h2 (fn.ntmps-args.length));simpa [hl]using this
 refine calls_of_wp hf hb (wp_mono (sK hm c _ _ h _ _ ⟨_,r0⟩) λe a w' he=> ?_);obtain⟨s,⟨he,ys,uo,nR,hu,jO,hcl⟩,G,r⟩:=he;obtain⟨v,hrun,hR⟩:=Ad r uo;obtain⟨fp,h1,h2,h3⟩:=KN r _ v nR hu hR;rw[jO]at h1;have hfin:∃v' fp,Ending.returned v= .returned v'/\R w' (BC w.heap.size w' fp) rr v' fp/\fp.Nodup/\(∀b∈fp,w.heap.size<=b/\b<w'.heap.size)/\w.heap.size<=w'.heap.size/\(∀b,b<w.heap.size->w'.heap[b]? =w.heap[b]?)/\nS w w':=by refine⟨v,fp,rfl,aKm <| KO (E:=(env _ s.o G w').plain) (λ_ _=>trivial) rfl rfl rfl _ _ _ hcl h1,h2,λb hb=> ?_,r.size,λb hb=>r.frame b hb (λh=>h),r.same⟩;obtain⟨i,ob,g,_,hl,hlive,hF⟩:=h3 b hb;have:=r.fresh _ _ _ b hl hlive hF;exact⟨this.1.resolve_left (λh=>h),this.2⟩
 rcases he with rfl|rfl
 .exact ⟨r.defs,v,hrun,hfin⟩
 .exact ⟨r.defs,v,hrun,hfin⟩
theorem ZA{P:Program}[aC P]{all:List Oper}{s:AS}{K:AS->Prop}(h:K s):kU P all [] s K:=h
theorem RD{P:Program}[aC P]{id:Nat}{l:List Oper}{s:AS}{Q:Exit->AS->Prop}(h:kU P l l s (Q .normal)):uY P (.region id l.toArray false) s Q:=by simp only[uY];exact⟨s,lY.refl s,h⟩
theorem uq{P:Program}[aC P]{id:Nat}{ops:Array Oper}{s s2:AS}{Q:Exit->AS->Prop}(hw:lY s s2)(h:uY P (.region id ops false) s2 Q):uY P (.region id ops false) s Q:=by simp only[uY]at h⊢;obtain⟨s3,h1,h2⟩:=h;exact⟨s3,hw.trans h1,h2⟩
theorem RF{P:Program}[aC P]{c:Operand}{x y:Code}{s:AS}{Q:Exit->AS->Prop}{b:Bool}(hc:s.ev c= .bool b)(h1:b=true->uY P x s Q)(h2:b=false->uY P y s Q):uY P (.cond c x y) s Q:=by simp only[uY,hc];exact⟨h1,h2⟩
theorem VK{P:Program}[aC P]{id:Nat}{c:Code}{s:AS}{Q:Exit->AS->Prop}(h:uY P c s (Y8 id Q)):uY P (.block id c) s Q:=h
theorem ZC{P:Program}[aC P]{id:Nat}{s:AS}{Q:Exit->AS->Prop}(h:Q (.exit id) s):uY P (.exit id) s Q:=h
theorem H9{P:Program}[aC P]{s:AS}{Q:Exit->AS->Prop}(h:Q .ret s):uY P .ret s Q:=h
theorem ZE{P:Program}[aC P]{s:AS}{Q:Exit->AS->Prop}(h:Q .normal s):uY P .skip s Q:=h
theorem aDm{P:Program}[aC P]{c:Code}{s:AS}{Q:Exit->AS->Prop}{ι:Type}(inv:ι->AS)(μ:ι->Nat)(i:ι)(h0:lY s (inv i))(h:∀i,∀K:AS->Prop,(∀s' j,lY s' (inv j)->μ j<μ i->K s')->uY P c (inv i) (DI K Q)):uY P (.loop c) s Q:=
 ⟨ι,inv,μ,i,h0,λi=>h i _ λ_ j h1 h2=>⟨j,h1,h2⟩⟩
theorem KY{K:AS->Prop}{Q:Exit->AS->Prop}{s:AS}(h:Q .ret s):DI K Q .ret s:=h
theorem IM{K:AS->Prop}{Q:Exit->AS->Prop}{s:AS}{id:Nat}(h:Q (.exit id) s):DI K Q (.exit id) s:=h
theorem IP{Q:Exit->AS->Prop}{s:AS}{id:Nat}(h:Q .normal s):Y8 id Q .normal s:=h
theorem RH{Q:Exit->AS->Prop}{s:AS}{id:Nat}(h:Q .ret s):Y8 id Q .ret s:=h
theorem VL{Q:Exit->AS->Prop}{s:AS}{id:Nat}(h:Q .normal s):Y8 id Q (.exit id) s:=by simpa [Y8]using h
theorem VM{Q:Exit->AS->Prop}{s:AS}{id id':Nat}(hne:id'≠id)(h:Q (.exit id') s):Y8 id Q (.exit id') s:=by simpa [Y8,hne]using h
def wk:List AV->List AV->Prop
 |[],[]=>True
 |x::xs,y::ys=>(y=x\/y= .undef)/\wk xs ys
 |_,_=>False
theorem FZ{w:World}{E:Env}:∀{t t':List AV} {vs:List Value},wk t t'->Rc w E t vs []->Rc w E t' vs []
 |[],[],_,_,h=>h
 |[],_::_,_,h,_=>h.elim
 |_::_,[],_,h,_=>h.elim
 |_::_,_::_,[],_,h=>by simp[Rc]at h
 |x::xs,y::ys,v::vs,h,hr=>by
  simp only[Rc]at hr⊢;obtain⟨f1,f2,h1,h2,e⟩:=hr;obtain⟨rfl,rfl⟩:f1=[]/\f2=[]:=by simpa using e
  refine⟨[],[],?_,FZ h.2 h2,rfl⟩;rcases h.1 with rfl|rfl
  .exact h1
  .simp [R]
theorem wF{t t':List AV}{o:List aM}(h:wk t t'):lY ⟨t,o⟩ ⟨t',o⟩:=by rintro P _ B a w ⟨G,r⟩;exact⟨G,{r with tmps:=FZ h r.tmps}⟩
theorem wrap64(n:Int)(h1: -9223372036854775808<=n)(h2:n<=9223372036854775807):IntKind.i64.wrap n=n:=by rw[BT];omega
theorem oQ{k:Nat}(h:(k:Int)<=9223372036854775806:=by omega):IntKind.i64.wrap ((k:Int)+1)=((k+1:Nat):Int):=by rw[wrap64]<;>omega
mutual
def KZ:AV->Nat
 | .sl .own _ _=>1
 | .agg c=>AY c
 | .gT c=>AY c
 |_=>0
def AY:List AV->Nat
 |[]=>0
 |x::xs=>KZ x+AY xs
end
mutual
def JM(q k:Nat):AV->AV
 | .sl .own _ _=> .obj k q
 | .agg c=> .agg (AZ q k c)
 | .gT c=> .gT (AZ q k c)
 | .int a b=> .int a b
 | .bool b=> .bool b
 | .str s=> .str s
 | .sl g n l=> .sl g n l
 | .eQ g c off=> .eQ g c off
 | .obj i v=> .obj i v
 | .ptr i v j o=> .ptr i v j o
 | .fn f c=> .fn f c
 | .undef=> .undef
def AZ(q k:Nat):List AV->List AV
 |[]=>[]
 |x::xs=>JM q k x::AZ q (k+KZ x) xs
end
mutual
def Io(q:Nat):AV->List aM
 | .sl .own n l=>[⟨true,false,n,q,l⟩]
 | .agg c=>zC q c
 | .gT c=>zC q c
 | .int _ _=>[]
 | .bool _=>[]
 | .str _=>[]
 | .sl _ _ _=>[]
 | .eQ _ _ _=>[]
 | .obj _ _=>[]
 | .ptr _ _ _ _=>[]
 | .fn _ _=>[]
 | .undef=>[]
def zC(q:Nat):List AV->List aM
 |[]=>[]
 |x::xs=>Io q x++zC q xs
end
mutual
theorem OE(q:Nat):∀x:AV,(Io q x).length=KZ x
 | .sl .own _ _=>rfl
 | .sl .view _ _=>rfl
 | .sl (.jZ _) _ _=>rfl
 | .agg c=>EB q c
 | .gT c=>EB q c
 | .int _ _=>rfl
 | .bool _=>rfl
 | .str _=>rfl
 | .eQ _ _ _=>rfl
 | .obj _ _=>rfl
 | .ptr _ _ _ _=>rfl
 | .fn _ _=>rfl
 | .undef=>rfl
theorem EB(q:Nat):∀c:List AV,(zC q c).length=AY c
 |[]=>rfl
 |x::xs=>by simp only[zC,AY,eR,OE q x,EB q xs]
end
mutual
theorem qL(q k:Nat):∀x:AV,dF q k x=(JM q k x,Io q x)
 | .sl .own _ _=>rfl
 | .sl .view _ _=>rfl
 | .sl (.jZ _) _ _=>rfl
 | .agg c=>by simp only[dF,JM,Io,mF q k c]
 | .gT c=>by simp only[dF,JM,Io,mF q k c]
 | .int _ _=>rfl
 | .bool _=>rfl
 | .str _=>rfl
 | .eQ _ _ _=>rfl
 | .obj _ _=>rfl
 | .ptr _ _ _ _=>rfl
 | .fn _ _=>rfl
 | .undef=>rfl
theorem mF(q k:Nat):∀c:List AV,fB q k c=(AZ q k c,zC q c)
 |[]=>rfl
 |x::xs=>by simp only[fB,AZ,zC,qL q k x,mF q _ xs,OE]
end
attribute [simp] wk AS.ev AS.put AS.box AS.shut AV.fit AV.cells AV.isObj AS.at AS.stored AX ofV rt xR mX AV.kept Es JB AS.args arg Cr AS.called JM AZ Io zC KZ AY qL mF AS.target AS.source AS.yB AS.Rl AS.bound AS.made Rh Xp aM.kill
  AV.Ov AV.xX AV.known AV.scalar wS wS.go AS.built FU G9 kC lV uX res jJ nG OA clean Dm iV single AS.rv AS.wT sJ DI Y8 AV.nd rz Zo si iP AV.iC
attribute [irreducible] uY kU DI Y8
theorem VS{P:Program}[aC P]{t:TypeId}{c:List AV}{off:Nat}{K1 K2:AV->Prop}(hk:∀y,K1 y->K2 y)(h:AX P t c off K1):AX P t c off K2:=by
 unfold AX at*;split at h
 .exact ⟨h.1,hk _ h.2⟩
 .refine ⟨h.1,?_⟩;have:=h.2;split at this
  .exact hk _ this
  .exact this.elim
theorem XB{P:Program}[aC P]{o:Oper}{s:AS}{K1 K2:AS->Prop}(hk:∀s',K1 s'->K2 s')(h:sD P o s K1):sD P o s K2:=by
 obtain⟨dst,op,ty,pos,after,gd⟩:=o;unfold sD at h⊢;dsimp only at h⊢;split at h;all_goals (repeat' (split at h))
 all_goals (first
  |exact h.elim
  |exact hk _ h
  |exact⟨h.1,hk _ h.2⟩
  |((repeat (refine⟨h.1,?_⟩;replace h:=h.2));exact hk _ h)
  |exact VS (λy=>hk _) h
  |exact⟨h.1,VS (λy=>hk _) h.2⟩
  |(obtain⟨r,h1,h2⟩:=h;exact⟨r,h1,hk _ h2⟩)
  |((repeat (refine⟨h.1,?_⟩;replace h:=h.2));obtain⟨r,h1,h2⟩:=h;exact⟨r,h1,hk _ h2⟩)
  |((repeat (refine⟨h.1,?_⟩;replace h:=h.2));split at h<;>first|exact hk _ h|((repeat (refine⟨h.1,?_⟩;replace h:=h.2));exact hk _ h)|exact h.elim)
  |((repeat (refine⟨h.1,?_⟩;replace h:=h.2));(repeat' (split at h))<;>first|exact h.elim|((repeat (refine⟨h.1,?_⟩;replace h:=h.2));exact hk _ h)|((repeat (refine⟨h.1,?_⟩;replace h:=h.2));obtain⟨r,h1,h2⟩:=h;exact⟨r,h1,hk _ h2⟩))
  |(have h9:=hk _ h;simp_all;done)
  |((first|rw[eK (by assumption)]|rw[cX (by assumption)]);((repeat (refine⟨h.1,?_⟩;replace h:=h.2));exact hk _ h))
  |((first|rw[eK (by assumption)]|rw[cX (by assumption)]);((repeat (refine⟨h.1,?_⟩;replace h:=h.2));obtain⟨r,h1,h2⟩:=h;exact⟨r,h1,hk _ h2⟩))
  |((repeat (refine⟨h.1,?_⟩;replace h:=h.2));obtain⟨r,h1,h2⟩:=h;refine⟨r,h1,?_⟩;(first|rw[eK (by assumption)]|rw[cX (by assumption)]);exact hk _ h2))
theorem aAi{P:Program}[aC P]{o:Oper}{s:AS}{K1 K2:AS->Prop}(hk:∀s',K1 s'->K2 s')(h:KW P o s K1):KW P o s K2:=by
 obtain⟨dst,op,ty,pos,after,gd⟩:=o;unfold KW at h⊢;dsimp only at h⊢;split at h
 .split at h
  .obtain ⟨h1,h2,h3,h4,x',r,h5,h6,h7,h8⟩:=h;exact⟨h1,h2,h3,h4,x',r,h5,h6,h7,hk _ h8⟩
  .exact h.elim
 .split at h
  .split at h
   .obtain ⟨h1,h2,h3,h4,h5⟩:=h;exact⟨h1,h2,h3,h4,hk _ h5⟩
   .exact h.elim
  .exact h.elim
 .exact h.elim
theorem aEq{P:Program}[aC P]{o:Oper}{s:AS}{K1 K2:AS->Prop}(hk:∀s',K1 s'->K2 s')(h:Zz P o s K1):Zz P o s K2:=by
 obtain⟨dst,op,ty,pos,after,gd⟩:=o;unfold Zz at h⊢;dsimp only at h⊢;split at h
 .split at h
  .obtain ⟨h1,gs,r,h2,h3,h4,h5⟩:=h;exact⟨h1,gs,r,h2,h3,h4,hk _ h5⟩
  .exact h.elim
 .exact h.elim
theorem ZU{P:Program}[aC P]{o:Oper}{s:AS}{K1 K2:AS->Prop}(hk:∀s',K1 s'->K2 s')(h:JK P o s K1):JK P o s K2:=by obtain⟨s1,hw,h⟩:=h;exact⟨s1,hw,h.imp (XB hk) (Or.imp (aAi hk) (aEq hk))⟩
theorem aEr{P:Program}[aC P]{o:Oper}{s:AS}{K1 K2:AS->Prop}(hk:∀s',K1 s'->K2 s')(h:aIj P o s K1):aIj P o s K2:=False.elim h
theorem VT{P:Program}[aC P]{o:Oper}{s:AS}{K1 K2:AS->Prop}(hk:∀s',K1 s'->K2 s')(h:IL P o s K1):IL P o s K2:=by obtain⟨s1,hw,h⟩:=h;exact⟨s1,hw,aEr hk h⟩
abbrev bB:=List UInt8
def bA{α:Type}(f:α->Nat):List α->Nat
 |[]=>0
 |x::xs=>f x+bA f xs
def bQ{α:Type}(f:α->Nat)(l:List α):Nat:=l.length+bA f l
def sub(n:Int)(k:Nat):Int:=if n<k then -1 else n-k
theorem sub_neg{n:Int}{k:Nat}(h:n<k):sub n k= -1:=by simp[sub,h]
theorem sub_pos{n:Int}{k:Nat}(h:¬n<k):sub n k=n-k:=by simp[sub,h]
theorem iX{α:Type}(f:α->Nat):∀(l:List α) (k:Nat) (h:k<l.length),bA f (l.take (k+1))=bA f (l.take k)+f l[k]
 |x::xs,0,_=>by simp[bA]
 |x::xs,k+1,h=>by simp only[eL,bA,getElem_cons_succ];rw[iX f xs k (by simpa using h)];omega
theorem jV{α:Type}(f:α->Nat):∀(l:List α) (k:Nat),bA f (l.take k)<=bA f l
 |[],k=>by simp
 |x::xs,0=>by simp[bA]
 |x::xs,k+1=>by simp only[eL,bA];have:=jV f xs k;omega
def BD(z:List AV)(xs:List (List AV))(k:Nat):List (List AV):=xs.take k++replicate (xs.length-k) z
@[simp] theorem aIk(z:List AV)(xs:List (List AV))(k:Nat):(BD z xs k).length=xs.length:=by simp[BD];omega
theorem EC(z:List AV)(xs:List (List AV)):replicate xs.length z=BD z xs 0:=by simp[BD]
theorem Hq(z:List AV)(xs:List (List AV))(k:Nat)(h:xs.length<=k):BD z xs k=xs:=by
 have:xs.length-k=0:=by omega
 simp[BD,this,cY h]
theorem Hr(z:List AV)(xs:List (List AV))(k:Nat)(h:k<xs.length):(BD z xs k)[k]? =some z:=by
 have h1:(xs.take k).length=k:=by simp;omega
 rw[BD,hY (by omega),h1,zE];have:0<xs.length-k:=by omega
 simp[this]
theorem Ht(z:List AV)(xs:List (List AV))(k:Nat)(h:k<xs.length):(BD z xs k).set k xs[k]=BD z xs (k+1):=by
 have h1:(xs.take k).length=k:=by simp;omega
 have h2:xs.length-k=(xs.length-(k+1))+1:=by omega
 have h3:xs.take (k+1)=xs.take k++[xs[k]]:=by rw[eI h]
 unfold BD;rw[h2,pN,sY _ _ (by omega),h1,zE,cU,h3,rN];rfl
@[simp] theorem eH{α:Type}(f:α->List AV)(h:∀x,Dm (f x)=true):∀l:List α,iV (l.map f)=true
 |[]=>rfl
 |x::xs=>by simp only[mC,iV,h x,Cp];exact eH f h xs
theorem bO{α:Type}{f g:α->List AV}{t:Tg->Option Tg}{b:Bool}(h:∀x,xR t b (f x)=g x):∀l:List α,mX t b (l.map f)=l.map g
 |[]=>rfl
 |x::xs=>by simp only[mC,mX,h x,bO h xs]
theorem dK{α:Type}(f:α->Nat)(l:List α)(k:Nat)(h:k<l.length):f l[k]<=bA f l:=by have h1:=iX f l k h;have h2:=jV f l (k+1);omega
theorem bS{α:Type}(f:α->Nat){l:List α}{x:α}(h:x∈l):f x<=bA f l:=by obtain⟨k,hk,rfl⟩:=getElem_of_mem h;exact dK f l k hk
@[simp] def mG(n:Int):List AV:=[.int .i64 n]
@[simp] def aVz(n:Bool):List AV:=[.bool n]
@[simp] def bW(s:bB):List AV:=[.str s]
def gG(s:bB):Nat:=s.length
@[simp] theorem aQd(t:Tg->Option Tg)(b:Bool)(l:List Int):mX t b (l.map mG)=l.map mG:=bO (by intro x;rfl) l
@[simp] theorem aQe(t:Tg->Option Tg)(b:Bool)(l:List bB):mX t b (l.map bW)=l.map bW:=bO (by intro x;rfl) l
@[simp] theorem RJ(l:List Int):iV (l.map mG)=true:=eH _ (by intro x;rfl) l
@[simp] theorem aMo(l:List bB):iV (l.map bW)=true:=eH _ (by intro x;rfl) l
structure aK where
  host:bB
  path:bB
deriving DecidableEq
@[simp] def aL(x:aK):List AV:=[.str x.host,.str x.path]
def aR(x:aK):Nat:=x.host.length+x.path.length
def Nj(x:aK):Prop:=x.host.length<=9223372036854775807/\x.path.length<=9223372036854775807
@[simp] theorem aOt(t:Tg->Option Tg)(b:Bool)(l:List aK):mX t b (l.map aL)=l.map aL:=bO (by intro x;rfl) l
@[simp] theorem aKz(l:List aK):iV (l.map aL)=true:=eH _ (by intro x;rfl) l
structure oN where
  name:bB
  value:bB
deriving DecidableEq
@[simp] def uR(x:oN):List AV:=[.str x.name,.str x.value]
def oU(x:oN):Nat:=x.name.length+x.value.length
@[simp] theorem aOu(t:Tg->Option Tg)(b:Bool)(l:List oN):mX t b (l.map uR)=l.map uR:=bO (by intro x;rfl) l
@[simp] theorem aK0(l:List oN):iV (l.map uR)=true:=eH _ (by intro x;rfl) l
structure bT where
  kind:Int
  name:bB
  attrs:List oN
  text:bB
deriving DecidableEq
@[simp] def cZ(g:Tg)(x:bT):List AV:=[.int .i64 x.kind,.str x.name,.sl g 2 (x.attrs.map uR),.str x.text]
def bX(x:bT):Nat:=x.name.length+(bQ oU x.attrs)+x.text.length
@[simp] theorem aHd(g:Tg)(b:Bool)(l:List bT):mX (λ_=>some .view) b (l.map (cZ g))=l.map (cZ .view):=bO (by intro x;simp) l
@[simp] theorem aDx(i:Nat)(b:Bool)(l:List bT):mX (Es i) b (l.map (cZ .own))=l.map (cZ (.jZ i)):=bO (by intro x;simp) l
@[simp] theorem aDy(i:Nat)(b:Bool)(l:List bT):mX (Es i) b (l.map (cZ .view))=l.map (cZ .view):=bO (by intro x;simp) l
@[simp] theorem aDz(i j:Nat)(b:Bool)(l:List bT):mX (Es i) b (l.map (cZ (.jZ j)))=l.map (cZ (.jZ j)):=bO (by intro x;simp) l
@[simp] theorem aD0(b:Bool)(l:List bT):mX JB b (l.map (cZ .own))=l.map (cZ .view):=bO (by intro x;simp) l
@[simp] theorem aD1(b:Bool)(l:List bT):mX JB b (l.map (cZ .view))=l.map (cZ .view):=bO (by intro x;simp) l
@[simp] theorem mH(l:List bT):iV (l.map (cZ .own))=true:=eH _ (by intro x;simp) l
structure nI where
  rest:bB
deriving DecidableEq
@[simp] def dO(x:nI):List AV:=[.str x.rest]
def lH(x:nI):Nat:=x.rest.length
@[simp] theorem aD2(t:Tg->Option Tg)(b:Bool)(l:List nI):mX t b (l.map dO)=l.map dO:=bO (by intro x;rfl) l
@[simp] theorem aAa(l:List nI):iV (l.map dO)=true:=eH _ (by intro x;rfl) l
structure jK where
  name:bB
  text:bB
  parent:Int
  attrs:List oN
deriving DecidableEq
@[simp] def fA(g:Tg)(x:jK):List AV:=[.str x.name,.str x.text,.int .i64 x.parent,.sl g 2 (x.attrs.map uR)]
def sM(x:jK):Nat:=x.name.length+x.text.length+(bQ oU x.attrs)
@[simp] theorem aIo(g:Tg)(b:Bool)(l:List jK):mX (λ_=>some .view) b (l.map (fA g))=l.map (fA .view):=bO (by intro x;simp) l
@[simp] theorem aHe(i:Nat)(b:Bool)(l:List jK):mX (Es i) b (l.map (fA .own))=l.map (fA (.jZ i)):=bO (by intro x;simp) l
@[simp] theorem aHf(i:Nat)(b:Bool)(l:List jK):mX (Es i) b (l.map (fA .view))=l.map (fA .view):=bO (by intro x;simp) l
@[simp] theorem aHg(i j:Nat)(b:Bool)(l:List jK):mX (Es i) b (l.map (fA (.jZ j)))=l.map (fA (.jZ j)):=bO (by intro x;simp) l
@[simp] theorem aHh(b:Bool)(l:List jK):mX JB b (l.map (fA .own))=l.map (fA .view):=bO (by intro x;simp) l
@[simp] theorem aHi(b:Bool)(l:List jK):mX JB b (l.map (fA .view))=l.map (fA .view):=bO (by intro x;simp) l
@[simp] theorem aK1(l:List jK):iV (l.map (fA .own))=true:=eH _ (by intro x;simp) l
structure bE where
  nodes:List jK
  opens:List Int
deriving DecidableEq
@[simp] def aU(g:Tg)(x:bE):List AV:=[.sl g 4 (x.nodes.map (fA g)),.sl g 1 (x.opens.map mG)]
def aT(x:bE):Nat:=(bQ sM x.nodes)+x.opens.length
@[simp] theorem aBy(g:Tg)(b:Bool)(l:List bE):mX (λ_=>some .view) b (l.map (aU g))=l.map (aU .view):=bO (by intro x;simp) l
@[simp] theorem aAb(i:Nat)(b:Bool)(l:List bE):mX (Es i) b (l.map (aU .own))=l.map (aU (.jZ i)):=bO (by intro x;simp) l
@[simp] theorem aAc(i:Nat)(b:Bool)(l:List bE):mX (Es i) b (l.map (aU .view))=l.map (aU .view):=bO (by intro x;simp) l
@[simp] theorem aAd(i j:Nat)(b:Bool)(l:List bE):mX (Es i) b (l.map (aU (.jZ j)))=l.map (aU (.jZ j)):=bO (by intro x;simp) l
@[simp] theorem aAe(b:Bool)(l:List bE):mX JB b (l.map (aU .own))=l.map (aU .view):=bO (by intro x;simp) l
@[simp] theorem aAf(b:Bool)(l:List bE):mX JB b (l.map (aU .view))=l.map (aU .view):=bO (by intro x;simp) l
@[simp] theorem aD3(l:List bE):iV (l.map (aU .own))=true:=eH _ (by intro x;simp) l
structure Fv where
  name:bB
  color:Int
deriving DecidableEq
@[simp] def Af(x:Fv):List AV:=[.str x.name,.int .i64 x.color]
@[simp] theorem aOv(t:Tg->Option Tg)(b:Bool)(l:List Fv):mX t b (l.map Af)=l.map Af:=bO (by intro x;rfl) l
@[simp] theorem aK2(l:List Fv):iV (l.map Af)=true:=eH _ (by intro x;rfl) l
structure gQ where
  rules:List Fv
deriving DecidableEq
@[simp] def dZ(g:Tg)(x:gQ):List AV:=[.sl g 2 (x.rules.map Af)]
@[simp] theorem aHj(g:Tg)(b:Bool)(l:List gQ):mX (λ_=>some .view) b (l.map (dZ g))=l.map (dZ .view):=bO (by intro x;simp) l
@[simp] theorem aD4(i:Nat)(b:Bool)(l:List gQ):mX (Es i) b (l.map (dZ .own))=l.map (dZ (.jZ i)):=bO (by intro x;simp) l
@[simp] theorem aD5(i:Nat)(b:Bool)(l:List gQ):mX (Es i) b (l.map (dZ .view))=l.map (dZ .view):=bO (by intro x;simp) l
@[simp] theorem aD6(i j:Nat)(b:Bool)(l:List gQ):mX (Es i) b (l.map (dZ (.jZ j)))=l.map (dZ (.jZ j)):=bO (by intro x;simp) l
@[simp] theorem aD7(b:Bool)(l:List gQ):mX JB b (l.map (dZ .own))=l.map (dZ .view):=bO (by intro x;simp) l
@[simp] theorem aD8(b:Bool)(l:List gQ):mX JB b (l.map (dZ .view))=l.map (dZ .view):=bO (by intro x;simp) l
@[simp] theorem aIp(l:List gQ):iV (l.map (dZ .own))=true:=eH _ (by intro x;simp) l
structure jT where
  op:Int
  text:bB
deriving DecidableEq
@[simp] def lI(x:jT):List AV:=[.int .i64 x.op,.str x.text]
@[simp] theorem aOw(t:Tg->Option Tg)(b:Bool)(l:List jT):mX t b (l.map lI)=l.map lI:=bO (by intro x;rfl) l
@[simp] theorem aK3(l:List jT):iV (l.map lI)=true:=eH _ (by intro x;rfl) l
structure eU where
  isSet:Bool
  fC:List bB
  gX:List bB
  gY:List bB
  tK:bB
deriving DecidableEq
@[simp] def bN(g:Tg)(x:eU):List AV:=[.bool x.isSet,.sl g 1 (x.fC.map bW),.sl g 1 (x.gX.map bW),.sl g 1 (x.gY.map bW),.str x.tK]
def eD(x:eU):Nat:=(bQ gG x.fC)+(bQ gG x.gX)+(bQ gG x.gY)+x.tK.length
@[simp] theorem aD9(g:Tg)(b:Bool)(l:List eU):mX (λ_=>some .view) b (l.map (bN g))=l.map (bN .view):=bO (by intro x;simp) l
@[simp] theorem aBz(i:Nat)(b:Bool)(l:List eU):mX (Es i) b (l.map (bN .own))=l.map (bN (.jZ i)):=bO (by intro x;simp) l
@[simp] theorem aB0(i:Nat)(b:Bool)(l:List eU):mX (Es i) b (l.map (bN .view))=l.map (bN .view):=bO (by intro x;simp) l
@[simp] theorem aB1(i j:Nat)(b:Bool)(l:List eU):mX (Es i) b (l.map (bN (.jZ j)))=l.map (bN (.jZ j)):=bO (by intro x;simp) l
@[simp] theorem aB2(b:Bool)(l:List eU):mX JB b (l.map (bN .own))=l.map (bN .view):=bO (by intro x;simp) l
@[simp] theorem aB3(b:Bool)(l:List eU):mX JB b (l.map (bN .view))=l.map (bN .view):=bO (by intro x;simp) l
@[simp] theorem aHk(l:List eU):iV (l.map (bN .own))=true:=eH _ (by intro x;simp) l
structure aZ where
  status:Int
  kind:Int
  body:bB
  Gc:Int
  shares:Bool
  bD:bB
deriving DecidableEq
@[simp] def bF(x:aZ):List AV:=[.int .i64 x.status,.int .i64 x.kind,.str x.body,.int .i64 x.Gc,.bool x.shares,.str x.bD]
def bG(x:aZ):Nat:=x.body.length+x.bD.length
def EE(x:aZ):Prop:=x.body.length<=9223372036854775807/\x.bD.length<=9223372036854775807
@[simp] theorem aHl(t:Tg->Option Tg)(b:Bool)(l:List aZ):mX t b (l.map bF)=l.map bF:=bO (by intro x;rfl) l
@[simp] theorem aB4(l:List aZ):iV (l.map bF)=true:=eH _ (by intro x;rfl) l
structure fV where
  kind:Int
  to:aK
  frm:bB
  digest:bB
deriving DecidableEq
@[simp] def dD(x:fV):List AV:=[.int .i64 x.kind,.str x.to.host,.str x.to.path,.str x.frm,.str x.digest]
def jL(x:fV):Nat:=(aR x.to)+x.frm.length+x.digest.length
@[simp] theorem aIq(t:Tg->Option Tg)(b:Bool)(l:List fV):mX t b (l.map dD)=l.map dD:=bO (by intro x;rfl) l
@[simp] theorem yC(l:List fV):iV (l.map dD)=true:=eH _ (by intro x;rfl) l
structure xM where
  path:bB
  response:aZ
deriving DecidableEq
@[simp] def mI(x:xM):List AV:=[.str x.path,.int .i64 x.response.status,.int .i64 x.response.kind,.str x.response.body,.int .i64 x.response.Gc,.bool x.response.shares,.str x.response.bD]
def tT(x:xM):Nat:=x.path.length+(bG x.response)
def RL(x:xM):Prop:=x.path.length<=9223372036854775807/\EE x.response
@[simp] theorem aOx(t:Tg->Option Tg)(b:Bool)(l:List xM):mX t b (l.map mI)=l.map mI:=bO (by intro x;rfl) l
@[simp] theorem aK5(l:List xM):iV (l.map mI)=true:=eH _ (by intro x;rfl) l
structure fU where
  host:bB
  files:List xM
deriving DecidableEq
@[simp] def bY(g:Tg)(x:fU):List AV:=[.str x.host,.sl g 7 (x.files.map mI)]
def eY(x:fU):Nat:=x.host.length+(bQ tT x.files)
def Gd(x:fU):Prop:=x.host.length<=9223372036854775807/\(x.files.length<=9223372036854775807/\∀y∈x.files,RL y)
@[simp] theorem aEa(g:Tg)(b:Bool)(l:List fU):mX (λ_=>some .view) b (l.map (bY g))=l.map (bY .view):=bO (by intro x;simp) l
@[simp] theorem aB5(i:Nat)(b:Bool)(l:List fU):mX (Es i) b (l.map (bY .own))=l.map (bY (.jZ i)):=bO (by intro x;simp) l
@[simp] theorem aB6(i:Nat)(b:Bool)(l:List fU):mX (Es i) b (l.map (bY .view))=l.map (bY .view):=bO (by intro x;simp) l
@[simp] theorem aB7(i j:Nat)(b:Bool)(l:List fU):mX (Es i) b (l.map (bY (.jZ j)))=l.map (bY (.jZ j)):=bO (by intro x;simp) l
@[simp] theorem aB8(b:Bool)(l:List fU):mX JB b (l.map (bY .own))=l.map (bY .view):=bO (by intro x;simp) l
@[simp] theorem aB9(b:Bool)(l:List fU):mX JB b (l.map (bY .view))=l.map (bY .view):=bO (by intro x;simp) l
@[simp] theorem aHm(l:List fU):iV (l.map (bY .own))=true:=eH _ (by intro x;simp) l
structure fH where
  top:bB
  to:aK
  response:aZ
  til:Int
deriving DecidableEq
@[simp] def fP(x:fH):List AV:=[.str x.top,.str x.to.host,.str x.to.path,.int .i64 x.response.status,.int .i64 x.response.kind,.str x.response.body,.int .i64 x.response.Gc,.bool x.response.shares,.str x.response.bD,.int .i64 x.til]
def gN(x:fH):Nat:=x.top.length+(aR x.to)+(bG x.response)
def Le(x:fH):Prop:=x.top.length<=9223372036854775807/\Nj x.to/\EE x.response
@[simp] theorem aMp(t:Tg->Option Tg)(b:Bool)(l:List fH):mX t b (l.map fP)=l.map fP:=bO (by intro x;rfl) l
@[simp] theorem Bi(l:List fH):iV (l.map fP)=true:=eH _ (by intro x;rfl) l
structure oV where
  entries:List fH
deriving DecidableEq
@[simp] def gU(g:Tg)(x:oV):List AV:=[.sl g 10 (x.entries.map fP)]
def nP(x:oV):Nat:=(bQ gN x.entries)
def Xy(x:oV):Prop:=(x.entries.length<=9223372036854775807/\∀y∈x.entries,Le y)
@[simp] theorem aHn(g:Tg)(b:Bool)(l:List oV):mX (λ_=>some .view) b (l.map (gU g))=l.map (gU .view):=bO (by intro x;simp) l
@[simp] theorem aEb(i:Nat)(b:Bool)(l:List oV):mX (Es i) b (l.map (gU .own))=l.map (gU (.jZ i)):=bO (by intro x;simp) l
@[simp] theorem aEc(i:Nat)(b:Bool)(l:List oV):mX (Es i) b (l.map (gU .view))=l.map (gU .view):=bO (by intro x;simp) l
@[simp] theorem aEd(i j:Nat)(b:Bool)(l:List oV):mX (Es i) b (l.map (gU (.jZ j)))=l.map (gU (.jZ j)):=bO (by intro x;simp) l
@[simp] theorem aEe(b:Bool)(l:List oV):mX JB b (l.map (gU .own))=l.map (gU .view):=bO (by intro x;simp) l
@[simp] theorem aEf(b:Bool)(l:List oV):mX JB b (l.map (gU .view))=l.map (gU .view):=bO (by intro x;simp) l
@[simp] theorem aIr(l:List oV):iV (l.map (gU .own))=true:=eH _ (by intro x;simp) l
structure yD where
  top:bB
  to:aK
  aK6:Bool
deriving DecidableEq
@[simp] def mJ(x:yD):List AV:=[.str x.top,.str x.to.host,.str x.to.path,.bool x.aK6]
def tV(x:yD):Nat:=x.top.length+(aR x.to)
def RN(x:yD):Prop:=x.top.length<=9223372036854775807/\Nj x.to
@[simp] theorem aOy(t:Tg->Option Tg)(b:Bool)(l:List yD):mX t b (l.map mJ)=l.map mJ:=bO (by intro x;rfl) l
@[simp] theorem aK7(l:List yD):iV (l.map mJ)=true:=eH _ (by intro x;rfl) l
structure lW where
  gD:List fU
  cache:oV
  log:List yD
  now:Int
deriving DecidableEq
@[simp] def mY(g:Tg)(x:lW):List AV:=[.sl g 2 (x.gD.map (bY g)),.sl g 10 (x.cache.entries.map fP),.sl g 4 (x.log.map mJ),.int .i64 x.now]
def lX(x:lW):Nat:=(bQ eY x.gD)+(nP x.cache)+(bQ tV x.log)
def K9(x:lW):Prop:=(x.gD.length<=9223372036854775807/\∀y∈x.gD,Gd y)/\Xy x.cache/\(x.log.length<=9223372036854775807/\∀y∈x.log,RN y)
@[simp] theorem aK8(g:Tg)(b:Bool)(l:List lW):mX (λ_=>some .view) b (l.map (mY g))=l.map (mY .view):=bO (by intro x;simp) l
@[simp] theorem aIs(i:Nat)(b:Bool)(l:List lW):mX (Es i) b (l.map (mY .own))=l.map (mY (.jZ i)):=bO (by intro x;simp) l
@[simp] theorem aIt(i:Nat)(b:Bool)(l:List lW):mX (Es i) b (l.map (mY .view))=l.map (mY .view):=bO (by intro x;simp) l
@[simp] theorem aIu(i j:Nat)(b:Bool)(l:List lW):mX (Es i) b (l.map (mY (.jZ j)))=l.map (mY (.jZ j)):=bO (by intro x;simp) l
@[simp] theorem aIv(b:Bool)(l:List lW):mX JB b (l.map (mY .own))=l.map (mY .view):=bO (by intro x;simp) l
@[simp] theorem aIw(b:Bool)(l:List lW):mX JB b (l.map (mY .view))=l.map (mY .view):=bO (by intro x;simp) l
@[simp] theorem aMq(l:List lW):iV (l.map (mY .own))=true:=eH _ (by intro x;simp) l
structure pJ where
  mode:Int
  to:aK
  digest:bB
  node:Int
  done:Bool
  code:Int
  body:bB
deriving DecidableEq
@[simp] def vC(x:pJ):List AV:=[.int .i64 x.mode,.str x.to.host,.str x.to.path,.str x.digest,.int .i64 x.node,.bool x.done,.int .i64 x.code,.str x.body]
def kZ(x:pJ):Nat:=(aR x.to)+x.digest.length+x.body.length
@[simp] theorem aOz(t:Tg->Option Tg)(b:Bool)(l:List pJ):mX t b (l.map vC)=l.map vC:=bO (by intro x;rfl) l
@[simp] theorem aK9(l:List pJ):iV (l.map vC)=true:=eH _ (by intro x;rfl) l
structure dX where
  to:aK
  done:Bool
  code:Int
  body:bB
deriving DecidableEq
@[simp] def eX(x:dX):List AV:=[.str x.to.host,.str x.to.path,.bool x.done,.int .i64 x.code,.str x.body]
def bK(x:dX):Nat:=(aR x.to)+x.body.length
@[simp] theorem aLa(t:Tg->Option Tg)(b:Bool)(l:List dX):mX t b (l.map eX)=l.map eX:=bO (by intro x;rfl) l
@[simp] theorem UM(l:List dX):iV (l.map eX)=true:=eH _ (by intro x;rfl) l
structure aG where
  addr:aK
  bD:eU
  tok:nI
  queue:List bT
  ended:Bool
  builder:bE
  aB:List pJ
  aN:List dX
  entries:List aK
  block:Int
  inline:Int
  deferred:Int
  iA:Int
  tX:List aK
  log:List bB
  oW:Bool
deriving DecidableEq
@[simp] def aH(g:Tg)(x:aG):List AV:=[.str x.addr.host,.str x.addr.path,.bool x.bD.isSet,.sl g 1 (x.bD.fC.map bW),.sl g 1 (x.bD.gX.map bW),.sl g 1 (x.bD.gY.map bW),.str x.bD.tK,.str x.tok.rest,.sl g 4 (x.queue.map (cZ g)),.bool x.ended,.sl g 4 (x.builder.nodes.map (fA g)),.sl g 1 (x.builder.opens.map mG),.sl g 8 (x.aB.map vC),.sl g 5 (x.aN.map eX),.sl g 2 (x.entries.map aL),.int .i64 x.block,.int .i64 x.inline,.int .i64 x.deferred,.int .i64 x.iA,.sl g 2 (x.tX.map aL),.sl g 1 (x.log.map bW),.bool x.oW]
def aI(x:aG):Nat:=(aR x.addr)+(eD x.bD)+(lH x.tok)+(bQ bX x.queue)+(aT x.builder)+(bQ kZ x.aB)+(bQ bK x.aN)+(bQ aR x.entries)+(bQ aR x.tX)+(bQ gG x.log)
@[simp] theorem aIx(g:Tg)(b:Bool)(l:List aG):mX (λ_=>some .view) b (l.map (aH g))=l.map (aH .view):=bO (by intro x;simp) l
@[simp] theorem aHo(i:Nat)(b:Bool)(l:List aG):mX (Es i) b (l.map (aH .own))=l.map (aH (.jZ i)):=bO (by intro x;simp) l
@[simp] theorem aHp(i:Nat)(b:Bool)(l:List aG):mX (Es i) b (l.map (aH .view))=l.map (aH .view):=bO (by intro x;simp) l
@[simp] theorem aHq(i j:Nat)(b:Bool)(l:List aG):mX (Es i) b (l.map (aH (.jZ j)))=l.map (aH (.jZ j)):=bO (by intro x;simp) l
@[simp] theorem aHr(b:Bool)(l:List aG):mX JB b (l.map (aH .own))=l.map (aH .view):=bO (by intro x;simp) l
@[simp] theorem aHs(b:Bool)(l:List aG):mX JB b (l.map (aH .view))=l.map (aH .view):=bO (by intro x;simp) l
@[simp] theorem aLb(l:List aG):iV (l.map (aH .own))=true:=eH _ (by intro x;simp) l
structure CE where
  builder:bE
  log:List bB
  aEg:List bB
  aQg:gQ
  oW:Bool
deriving DecidableEq
@[simp] def vV(g:Tg)(x:CE):List AV:=[.sl g 4 (x.builder.nodes.map (fA g)),.sl g 1 (x.builder.opens.map mG),.sl g 1 (x.log.map bW),.sl g 1 (x.aEg.map bW),.sl g 2 (x.aQg.rules.map Af),.bool x.oW]
@[simp] theorem aEh(g:Tg)(b:Bool)(l:List CE):mX (λ_=>some .view) b (l.map (vV g))=l.map (vV .view):=bO (by intro x;simp) l
@[simp] theorem aCa(i:Nat)(b:Bool)(l:List CE):mX (Es i) b (l.map (vV .own))=l.map (vV (.jZ i)):=bO (by intro x;simp) l
@[simp] theorem aCb(i:Nat)(b:Bool)(l:List CE):mX (Es i) b (l.map (vV .view))=l.map (vV .view):=bO (by intro x;simp) l
@[simp] theorem aCc(i j:Nat)(b:Bool)(l:List CE):mX (Es i) b (l.map (vV (.jZ j)))=l.map (vV (.jZ j)):=bO (by intro x;simp) l
@[simp] theorem aCd(b:Bool)(l:List CE):mX JB b (l.map (vV .own))=l.map (vV .view):=bO (by intro x;simp) l
@[simp] theorem aCe(b:Bool)(l:List CE):mX JB b (l.map (vV .view))=l.map (vV .view):=bO (by intro x;simp) l
@[simp] theorem aHt(l:List CE):iV (l.map (vV .own))=true:=eH _ (by intro x;simp) l
structure uy where
  to:aK
  response:aZ
  used:Bool
deriving DecidableEq
@[simp] def uz(x:uy):List AV:=[.str x.to.host,.str x.to.path,.int .i64 x.response.status,.int .i64 x.response.kind,.str x.response.body,.int .i64 x.response.Gc,.bool x.response.shares,.str x.response.bD,.bool x.used]
@[simp] theorem aMr(t:Tg->Option Tg)(b:Bool)(l:List uy):mX t b (l.map uz)=l.map uz:=bO (by intro x;rfl) l
@[simp] theorem aIy(l:List uy):iV (l.map uz)=true:=eH _ (by intro x;rfl) l
mutual
def closed(m:Nat):AV->Bool
 | .obj i _=>decide (i<m)
 | .ptr i _ _ _=>decide (i<m)
 | .sl (.jZ i) _ _=>decide (i<m)
 | .eQ (.jZ i) _ _=>decide (i<m)
 | .agg c=>eT m c
 | .gT c=>eT m c
 | .fn _ c=>eT m c
 |_=>true
def eT(m:Nat):List AV->Bool
 |[]=>true
 |x::xs=>closed m x&&eT m xs
end
theorem xK{o:List aM}{G:List CO}{m i:Nat}{ob:aM}{g:CO}:look (o.take m) (G.take m) i ob g↔i<m/\look o G i ob g:=by unfold look;rw[AW,AW];by_cases h:i<m<;>simp[h]
theorem Ae{P:Program}[aC P]{B:gM P}{o:List aM}{G:List CO}{w:World}(m:Nat):(∀b,(env B o G w).A b->(env B (o.take m) (G.take m) w).A b)/\
  (∀i,i<m->((env B (o.take m) (G.take m) w).V i↔(env B o G w).V i))/\(∀i b,i<m->(env B o G w).D i b->(env B (o.take m) (G.take m) w).D i b):=by
 refine⟨λb h=>⟨h.1,λi ob g hl=>h.2 i ob g (xK.1 hl).2⟩,λi hi=> ?_,λi b hi h=> ?_⟩
 .simp only[env,AW,hi,gC]
 .obtain ⟨ob,g,hl,h⟩:=h;exact⟨ob,g,xK.2 ⟨hi,hl⟩,h⟩
theorem Gb{P:Program}[aC P]{B:gM P}{o:List aM}{G:List CO}{w:World}{m i:Nat}(hi:i<m):eO w ((env B o G w).sub (.jZ i)) w ((env B (o.take m) (G.take m) w).sub (.jZ i)):=by have h:=Ae (B:=B) (o:=o) (G:=G) (w:=w) m;exact⟨λb hb=>⟨h.1 b hb,rfl⟩,λ_ _=>trivial,λj b _ hd=>⟨⟨hd.1,h.2.2 i b hi hd.2⟩,rfl⟩,λ_ _ _ h=>h.elim,λ_ _ _ _ _ h=>h.elim⟩
theorem vU{P:Program}[aC P]{B:gM P}{o:List aM}{G:List CO}{w:World}(m:Nat):eO w (env B o G w).plain w (env B (o.take m) (G.take m) w).plain:=by have h:=Ae (B:=B) (o:=o) (G:=G) (w:=w) m;exact⟨λb hb=>⟨h.1 b hb,rfl⟩,λ_ _=>trivial,λ_ _ _ h=>h.elim,λ_ _ _ h=>h.elim,λ_ _ _ _ _ h=>h.elim⟩
mutual
theorem aDs{P:Program}[aC P]{B:gM P}{o:List aM}{G:List CO}{w:World}{m:Nat}:∀(x:AV) (v:Value) (fp:List Nat),closed m x=true->R w (env B o G w) x v fp->R w (env B (o.take m) (G.take m) w) x v fp
 | .int _ _,_,_,_,h=>by simpa [R]using h
 | .bool _,_,_,_,h=>by simpa [R]using h
 | .str _,_,_,_,h=>by simpa [R]using h
 | .sl .own n l,v,fp,_,h=>by obtain⟨a,cap,hv,hown⟩:=tJ.1 h;exact tJ.2 ⟨a,cap,hv,hown.keeps (vU m) (λ_ _=>rfl)⟩
 | .sl .view n l,v,fp,_,h=>by
  simp only[R]at h⊢;rcases h with h|⟨a,cap,hv,hl,h⟩
  .exact h.1.elim
  .refine .inr ⟨a,cap,hv,hl,?_⟩;rcases h with h|h|⟨hg,hf,h⟩
   .exact absurd h.1 (by simp)
   .exact absurd h.1 (by simp)
   .refine .inr (.inr ⟨hg,hf,?_⟩);rcases h with h|⟨b,off,ha,ht,hr⟩
    .exact .inl h
    .exact .inr ⟨b,off,ha,(Ae m).1 b ht,mZ (vU m) _ _ _ _ _ rfl (by simp) hr⟩
 | .sl (.jZ i) n l,v,fp,hc,h=>by
  have hi:i<m:=by simpa [closed]using hc
  simp only[R]at h⊢;rcases h with h|⟨a,cap,hv,hl,h⟩
  .exact .inl ⟨λhV=>h.1 (((Ae m).2.1 i hi).1 hV),h.2⟩
  .refine .inr ⟨a,cap,hv,hl,?_⟩;rcases h with h|h|⟨hg,hf,h⟩
   .exact absurd h.1 (by simp)
   .exact absurd h.1 (by simp)
   .refine .inr (.inr ⟨hg,hf,?_⟩);rcases h with h|⟨b,off,ha,ht,hr⟩
    .exact .inl h
    .exact .inr ⟨b,off,ha,(Ae m).2.2 i b hi ht,mZ (Gb hi) _ _ _ _ _ rfl (by simp) hr⟩
 | .eQ .own c off,v,fp,_,h=>by
  simp only[R]at h⊢;rcases h with h|⟨_,_,_,_,_,ht,_⟩
  .exact h.1.elim
  .exact ht.elim
 | .eQ .view c off,v,fp,_,h=>by
  simp only[R]at h⊢;rcases h with h|⟨hf,b,o',cs,hv,ht,hcs,hone,hr⟩
  .exact h.1.elim
  .exact .inr ⟨hf,b,o',cs,hv,(Ae m).1 b ht,hcs,hone,dU (vU m) _ _ _ (by simp) hr⟩
 | .eQ (.jZ i) c off,v,fp,hc,h=>by
  have hi:i<m:=by simpa [closed]using hc
  simp only[R]at h⊢;rcases h with h|⟨hf,b,o',cs,hv,ht,hcs,hone,hr⟩
  .exact .inl ⟨λhV=>h.1 (((Ae m).2.1 i hi).1 hV),h.2⟩
  .exact .inr ⟨hf,b,o',cs,hv,(Ae m).2.2 i b hi ht,hcs,hone,dU (Gb hi) _ _ _ (by simp) hr⟩
 | .obj i bV,v,fp,hc,h=>by
  have hi:i<m:=by simpa [closed]using hc
  simp only[R]at h⊢;obtain⟨hf,ob,g,hl,h⟩:=h;exact⟨hf,ob,g,xK.2 ⟨hi,hl⟩,h⟩
 | .ptr i bV idx off,v,fp,hc,h=>by
  have hi:i<m:=by simpa [closed]using hc
  simp only[R]at h⊢;obtain⟨hf,ob,g,hl,h⟩:=h;exact⟨hf,ob,g,xK.2 ⟨hi,hl⟩,h⟩
 | .agg c,v,fp,hc,h=>by simp only[R]at h⊢;obtain⟨cs,h1,h2,h3⟩:=h;exact⟨cs,h1,h2,Bu c cs fp (by simpa [closed]using hc) h3⟩
 | .gT c,v,fp,hc,h=>by simp only[R]at h⊢;obtain⟨cs,h1,h3⟩:=h;exact⟨cs,h1,Bu c cs fp (by simpa [closed]using hc) h3⟩
 | .fn f c,v,fp,hc,h=>by simp only[R]at h⊢;obtain⟨h0,cs,h1,h3⟩:=h;exact⟨h0,cs,h1,Bu c cs [] (by simpa [closed]using hc) h3⟩
 | .undef,_,_,_,h=>by simpa [R]using h
theorem Bu{P:Program}[aC P]{B:gM P}{o:List aM}{G:List CO}{w:World}{m:Nat}:∀(c:List AV) (cs:List Value) (fp:List Nat),eT m c=true->Rc w (env B o G w) c cs fp->Rc w (env B (o.take m) (G.take m) w) c cs fp
 |[],[],_,_,h=>by simpa [Rc]using h
 |[],_::_,_,_,h=>by simp[Rc]at h
 |_::_,[],_,_,h=>by simp[Rc]at h
 |x::xs,c::cs,fp,hc,h=>by simp only[Rc]at h⊢;simp only[eT,eJ]at hc;obtain⟨f1,f2,h1,h2,h3⟩:=h;exact⟨f1,f2,aDs x c f1 hc.1 h1,Bu xs cs f2 hc.2 h2,h3⟩
end
def dC(m:Nat):List aM->Bool
 |[]=>true
 |ob::r=>(!ob.box || match ob.dP with
  |[e]=>eT m e
  |_=>false)&&dC m r
theorem OH{m:Nat}:∀{o:List aM},dC m o=true->∀ob∈o,ob.box=true->∃e,ob.dP=[e]/\eT m e=true
 |ob::r,h,x,hx,hb=>by
  simp only[dC,eJ]at h;rcases lB.1 hx with rfl|hx
  .have h1:=h.1;rw[hb]at h1;simp only[DB,Bool.false_or]at h1;split at h1
   .rename_i e he;exact⟨e,he,h1⟩
   .cases h1
  .exact OH h.2 x hx hb
theorem aV{t t':List AV}{o o':List aM}(m:Nat)(ho:o.take m=o':=by simp)(h:wk t t':=by simp)(hc:eT m t'=true:=by simp)(hb:dC m o'=true:=by simp):lY ⟨t,o⟩ ⟨t',o'⟩:=by
 subst ho;rintro P _ B a w ⟨G,r⟩;refine⟨G.take m,?_⟩;exact
  {len:=by simp[r.len]
   defs:=r.defs
   ok:=λi ob g hl hlive=>by
    have Cu:=(xK.1 hl).2;obtain⟨fp,hown,hnd,hF⟩:=r.ok i ob g Cu hlive;refine⟨fp,?_,hnd,hF⟩;cases IJ:ob.box with
    |false=>rw[IJ]at hown;exact hown.keeps (vU m) (λ_ _=>rfl)
    |true=>
     rw[IJ]at hown;obtain⟨e,he,hce⟩:=OH hb ob (mT hl.1) IJ;rw[he]at hown⊢;obtain⟨hlen,hown⟩:=hown;refine⟨hlen,?_⟩;rcases hown with h|⟨b,off,C,ety,fz,rE,ha,hbk,hz,h1,h2,h3,rfl,hr⟩
     .exact .inl h
     .refine .inr ⟨b,off,C,ety,fz,rE,ha,hbk,hz,h1,h2,h3,rfl,?_⟩;simp only[Rr]at hr⊢;obtain⟨cs,f1,f2,k1,k2,k3,k4,k5,k6⟩:=hr;exact⟨cs,f1,f2,k1,k2,k3,Bu e cs f1 hce k4,k5,k6⟩
   apart:=λi j oi oj gi gj b hi hj h1 h2 h3 h4=>r.apart i j _ _ _ _ b (xK.1 hi).2 (xK.1 hj).2 h1 h2 h3 h4
   fresh:=λi ob g b hl h1 h2=>r.fresh i ob g b (xK.1 hl).2 h1 h2
   tmps:=Bu _ _ _ hc (FZ h r.tmps)
   size:=r.size
   frame:=r.frame
   base:=r.base
   same:=r.same}
theorem aJ{t t':List AV}{o o':List aM}(ho:o=o':=by simp)(h:wk t t':=by simp):lY ⟨t,o⟩ ⟨t',o'⟩:=ho▸wF h
attribute [simp] closed eT dC
def uQ(J:Nat->Bool)(i:Nat):Nat->Bool:=λj=>if j=i then true else J j
def dv(J:Nat->Bool)(i:Nat)(v:AV):AV:=if J i=true then v else .undef
@[simp] theorem aTk(J:Nat->Bool)(i:Nat)(v:AV):dv (uQ J i) i v=v:=by simp[dv,uQ]
def xL(P:Program)[aC P](S:(Nat->Bool)->AS):Nat->List Oper->Prop
 |_,[]=>True
 |i,o::r=>(o.guard=none/\∀J:Nat->Bool,J i=false->(∀e∈o.after.toList,Region.binds .any e=true->J e.on=true)->sD P o (S J) λs'=>lY s' (S (uQ J i)))/\xL P S (i+1) r
def fwd:Nat->List Oper->Bool
 |_,[]=>true
 |i,o::r=>(o.after.toList.all λe=> !Region.binds .any e || decide (e.on<i))&&fwd (i+1) r
theorem IU{P:Program}[aC P]{S:(Nat->Bool)->AS}:∀{l:List Oper} {k i:Nat} {o:Oper},xL P S k l->l[i]? =some o->
  o.guard=none/\∀J:Nat->Bool,J (k+i)=false->(∀e∈o.after.toList,Region.binds .any e=true->J e.on=true)->sD P o (S J) λs'=>lY s' (S (uQ J (k+i)))
 |[],_,_,_,_,h=>by simp at h
 |x::xs,k,0,o,hd,h=>by simp at h;subst h;exact hd.1
 |x::xs,k,i+1,o,hd,h=>by
  have:=IU (k:=k+1) (i:=i) hd.2 (by simpa using h)
  rwa[show k+1+i=k+(i+1)by omega]at this
theorem K6:∀{l:List Oper} {k i:Nat} {o:Oper},fwd k l=true->l[i]? =some o->∀e∈o.after.toList,Region.binds .any e=true->e.on<k+i
 |[],_,_,_,_,h=>by simp at h
 |x::xs,k,0,o,hf,h=>by simp at h;subst h;simp only[fwd,eJ,fN]at hf;intro e he hb;have:=hf.1 e he;simpa [hb]using this
 |x::xs,k,i+1,o,hf,h=>by
  simp only[fwd,eJ]at hf;have:=K6 (k:=k+1) (i:=i) hf.2 (by simpa using h)
  rwa[show k+1+i=k+(i+1)by omega]at this
def left(l:List Bool):Nat:=(l.filter λb=> !b).length
theorem DK(b:Bool)(l:List Bool):left (b::l)=(if b=true then 0 else 1)+left l:=by cases b<;>simp[left]<;>omega
theorem Lc:∀{l:List Bool} {i:Nat},l[i]? =some false->left (l.set i true)+1=left l
 |[],_,h=>by simp at h
 |b::l,0,h=>by simp at h;subst h;simp[DK];omega
 |b::l,i+1,h=>by have:=Lc (l:=l) (i:=i) (by simpa using h);rw[cW,DK,DK];omega
theorem Nh{l:List Bool}(h:left l=0):∀{i:Nat} {b:Bool},l[i]? =some b->b=true:=by
 intro i b hb;have hm:=mT hb;cases b with
 |true=>rfl
 |false=>have:false∈l.filter (λb=> !b):=DQ.2 ⟨hm,rfl⟩;rw[lO h]at this;simp at this
theorem RI{l:List Bool}(h:left l≠0):∃i:Nat,l[i]? =some false/\∀j:Nat,j<i->l[j]? =some true:=by
 induction l with
 |nil=>simp[left]at h
 |cons b l ih=>
  cases b with
  |false=>exact⟨0,rfl,λj hj=>by omega⟩
  |true=>
   have:left l≠0:=by rw[DK]at h;simpa using h
   obtain⟨i,h1,h2⟩:=ih this;refine⟨i+1,by simpa using h1,λj hj=> ?_⟩;cases j with
   |zero=>rfl
   |succ j=>simpa using h2 j (by omega)
theorem aIm{P:Program}[aC P]{ops:Array Oper}{s:AS}{K:AS->Prop}(S:(Nat->Bool)->AS)(h0:lY s (S λ_=>false))(hf:fwd 0 ops.toList=true)(hs:xL P S 0 ops.toList)
  (he:∀J:Nat->Bool,(∀i,i<ops.size->J i=true)->K (S J)):um P ops s K:=by
 intro B a w Q hr hk;have key:∀(fuel:Nat) (listed:Array Bool) (a:Act) (w:World),listed.size=ops.size->left listed.toList=fuel->Rel B (S λi=>listed.getD i false) a w->wpAny P .any ops Q fuel listed a w:=by
  intro fuel;induction fuel with
  |zero=>
   intro listed a w hl hz r;have hall:∀i,i<ops.size->listed.getD i false=true:=by
    intro i hi;have hi':i<listed.size:=by omega
    have:=Nh hz (i:=i) (b:=listed[i]) (by simp[hi']);simp[Array.getD,hi',this]
   refine⟨?_,hk _ _ _ (he _ hall) r⟩;unfold Region.ready;rw[filter_eq_nil_iff];intro i hi;have hi2:i<ops.size:=by simpa using hi
   have h1:=hall i hi2;have hi':i<listed.size:=by omega
   have h2:listed.getD i true=true:=by rw[fY]at h1⊢;rw[tM hi']at h1⊢;exact h1
   rw[h2];simp
  |succ fuel ih=>
   intro listed a w hl hz r;constructor
   .intro hnil;exfalso;obtain⟨i,h1,h2⟩:=RI (l:=listed.toList) (by omega);have hi:i<listed.size:=by have:=(cH.1 h1).1;simpa using this
    have FO:i<ops.size:=by omega
    have:i∈Region.ready .any ops listed:=by
     unfold Region.ready;rw[DQ];refine⟨by simpa using FO,?_⟩;have h1':listed[i]? =some false:=by simpa using h1
     have hop:ops[i]? =some ops[i]:=by simp[FO]
     simp only[fY,h1',rL,Fi,Cp,hop,mS];rw[DS];intro e he;cases hb:Region.binds .any e with
     |false=>simp
     |true=>
      have:=K6 hf (i:=i) (o:=ops[i]) (by simp[FO]) e (by simpa using he) hb;have h3:=h2 e.on (by omega);have h3':listed[e.on]? =some true:=by simpa using h3
      simp[h3']
    rw[hnil]at this;simp at this
   .intro i hi;unfold Region.ready at hi;rw[DQ]at hi;obtain⟨hi1,hi2⟩:=hi;have FO:i<ops.size:=by simpa using hi1
    have hil:i<listed.size:=by omega
    have hop:ops[i]? =some ops[i]:=by simp[FO]
    simp only[eJ,hop,mS,rL]at hi2;obtain⟨h1,h2⟩:=hi2;have h1':listed[i]? =some false:=by simp only[fY]at h1;rw[tM hil]at h1⊢;simpa using h1
    rw[DS]at h2;obtain⟨hg,hst⟩:=IU hs (i:=i) (o:=ops[i]) (by simp[FO]);rw[hM]at hst;have aTl:=hst (λj=>listed.getD j false) (by simp[h1']) (λe he hb=>by
     have:=h2 e (by simpa using he);simpa [hb]using this)
    obtain⟨s',hw,ZF⟩:=Bt (B:=B) aTl;unfold wpOp;rw[hop];simp only[Region.wanted,hg,gC];refine .inl (ZF a w _ Q r λa' w' r'=>ih _ _ _ (by simpa using hl) ?_ ?_)
    .have:=Lc (l:=listed.toList) (i:=i) (by simpa using h1');rw[CC];omega
    .have hu:uQ (λj=>listed.getD j false) i=λj=>(listed.setIfInBounds i true).getD j false:=by
      funext j;unfold uQ;simp only[fY,Array.getElem?_setIfInBounds];by_cases hj:j=i
      .subst hj;simp[hil]
      .simp [hj,Ax hj]
     rw[<-hu];exact hw B a' w' r'
 obtain⟨G,r⟩:=hr;have r2:Rel B s a {w with drawn:=w.drawn+1}:=⟨G,{len:=r.len,defs:=r.defs,ok:=λi ob g hl hlive=>(r.ok i ob g hl hlive).keeps (w':={w with drawn:=w.drawn+1}) ⟨λb h=>⟨h,rfl⟩,λ_ h=>h,λ_ _ _ h=>⟨h,rfl⟩,λ_ _ _ h=>h,λ_ _ _ _ _ h=>h⟩ (λ_ _=>rfl),apart:=r.apart,fresh:=r.fresh,tmps:=dU (w:=w) (E:=env B s.o G w) (w':={w with drawn:=w.drawn+1}) (E':=env B s.o G {w with drawn:=w.drawn+1}) ⟨λb h=>⟨h,rfl⟩,λ_ h=>h,λ_ _ _ h=>⟨h,rfl⟩,λ_ _ _ h=>h,λ_ _ _ _ _ h=>h⟩ _ _ _ (by simp) r.tmps,size:=r.size,frame:=r.frame,base:=r.base,same:=r.same.trans ⟨rfl,rfl,rfl⟩}⟩;refine key _ _ _ _ (by simp) (by simp[left]) ?_;have hJ:(λi=>(Array.replicate ops.size false).getD i false)=λ_=>false:=by funext i;simp only[fY,Array.getElem?_replicate];split<;>rfl
 rw[hJ];exact h0 _ _ _ r2
theorem Ld{P:Program}[aC P]{id:Nat}{l:List Oper}{s:AS}{Q:Exit->AS->Prop}(S:(Nat->Bool)->AS)(h0:lY s (S λ_=>false))(hf:fwd 0 l=true)(hs:xL P S 0 l)
  (he:∀J:Nat->Bool,(∀i,i<l.length->J i=true)->Q .normal (S J)):uY P (.region id l.toArray true) s Q:=by
 unfold uY;exact aIm (ops:=l.toArray) S h0 (by simpa using hf) (by simpa using hs) (by simpa using he)
theorem iE{P:Program}[aC P]{o:Oper}{s:AS}{K:AS->Prop}(h:∀K':AS->Prop,(∀s',K s'->K' s')->sD P o s K'):sD P o s K:=h K λ_ h=>h
mutual
def DT(m:Nat):AV->Bool
 | .int _ _=>true
 | .bool _=>true
 | .str _=>true
 | .obj i bV=>decide (i<m)&&bV == 0
 | .agg c=>Nt m c
 | .gT c=>Nt m c
 |_=>false
def Nt(m:Nat):List AV->Bool
 |[]=>true
 |x::xs=>DT m x&&Nt m xs
end
mutual
theorem M7{w1 w2:World}{E1 E2:Env}{m:Nat}{hv:Nat->Option Value}(h1:∀i v,i<m->E1.H i 0 v->hv i=some v)(h2:∀i v,i<m->E2.H i 0 v->hv i=some v):
  ∀(x:AV) (v1 v2:Value),DT m x=true->R w1 E1 x v1 []->R w2 E2 x v2 []->v1=v2
 | .int _ _,_,_,_,a,b=>by simp only[R]at a b;rw[a.1,b.1]
 | .bool _,_,_,_,a,b=>by simp only[R]at a b;rw[a.1,b.1]
 | .str _,_,_,_,a,b=>by simp only[R]at a b;rw[a.1,b.1]
 | .obj i bV,v1,v2,hr,a,b=>by simp only[DT,eJ,fR,Bs]at hr;obtain⟨hi,rfl⟩:=hr;simp only[R]at a b;have e1:=h1 i v1 hi a.2;have e2:=h2 i v2 hi b.2;rw[e1]at e2;exact cQ e2
 | .agg c,_,_,hr,a,b=>by simp only[R]at a b;obtain⟨c1,rfl,_,a⟩:=a;obtain⟨c2,rfl,_,b⟩:=b;rw[Sg h1 h2 c c1 c2 (by simpa [DT]using hr) a b]
 | .gT c,_,_,hr,a,b=>by simp only[R]at a b;obtain⟨c1,rfl,a⟩:=a;obtain⟨c2,rfl,b⟩:=b;rw[Sg h1 h2 c c1 c2 (by simpa [DT]using hr) a b]
 | .sl _ _ _,_,_,hr,_,_=>by simp[DT]at hr
 | .eQ _ _ _,_,_,hr,_,_=>by simp[DT]at hr
 | .ptr _ _ _ _,_,_,hr,_,_=>by simp[DT]at hr
 | .fn _ _,_,_,hr,_,_=>by simp[DT]at hr
 | .undef,_,_,hr,_,_=>by simp[DT]at hr
theorem Sg{w1 w2:World}{E1 E2:Env}{m:Nat}{hv:Nat->Option Value}(h1:∀i v,i<m->E1.H i 0 v->hv i=some v)(h2:∀i v,i<m->E2.H i 0 v->hv i=some v):
  ∀(x:List AV) (v1 v2:List Value),Nt m x=true->Rc w1 E1 x v1 []->Rc w2 E2 x v2 []->v1=v2
 |[],[],[],_,_,_=>rfl
 |[],_::_,_,_,a,_=>by simp[Rc]at a
 |[],[],_::_,_,_,b=>by simp[Rc]at b
 |_::_,[],_,_,a,_=>by simp[Rc]at a
 |_::_,_::_,[],_,_,b=>by simp[Rc]at b
 |x::xs,c1::r1,c2::r2,hr,a,b=>by
  simp only[Rc]at a b;simp only[Nt,eJ]at hr;obtain⟨f1,f2,a1,a2,e⟩:=a;obtain⟨rfl,rfl⟩:f1=[]/\f2=[]:=by simpa using e
  obtain⟨f1,f2,b1,b2,e⟩:=b;obtain⟨rfl,rfl⟩:f1=[]/\f2=[]:=by simpa using e
  rw[M7 h1 h2 x c1 c2 hr.1 a1 b1,Sg h1 h2 xs r1 r2 hr.2 a2 b2]
end
def EI(P:Program)(fn:Func)(s:AS)(p x' r:AV):Prop:=
 (∃ys,s.wT P fn.results.toList=some ys/\single ys=r/\r.scalar=true)/\s.t[0]? =some p/\jJ s.o p=true/\(lV p).Nodup/\res s.o p=x'/\clean x'=true
theorem wm{P:Program}[aC P](hm:P.follows .mixedOrders=true){f:FuncId}{fn:Func}{c:Code}(hf:P.funcs[f]? =some fn)(hb:fn.body=some c){x x':AV}{rest:List AV}{rr:AV}
  (aM1:DT (dF 0 0 x).2.length (dF 0 0 x).1=true)
  (h:uY P c ⟨((dF 0 0 x).1::rest)++replicate (fn.ntmps-(rest.length+1)) .undef,(dF 0 0 x).2⟩ (λe s=>(e= .normal\/e= .ret)/\EI P fn s (dF 0 0 x).1 x' rr)):OkM P f x x' rest rr:=by
 intro w v vs fp hg hab hx hnd hlt hrest;have hl:=gH hrest;obtain⟨Gs,hlen,Cs,hap,qW⟩:=FR (q:=0) x v fp 0 hx hnd;generalize hB:(⟨w,λb=>b<w.heap.size,(· ∈fp),λi=>match (dF 0 0 x).2[i]?,Gs[i]? with
  |some ob,some g=>some (.slice g.a ob.dP.length g.cap)
  |_,_=>none,λ_=>none,hg,hab,hlt⟩:gM P)=B
 have Si:B.w0=w:=by rw[<-hB]
 have hA0:∀b,B.A0 b↔b<w.heap.size:=by intro b;rw[<-hB]
 have hO0:∀b,B.O0 b↔b∈fp:=by intro b;rw[<-hB]
 have hh0:∀i ob g,look (dF 0 0 x).2 Gs i ob g->B.h0 i=some (.slice g.a ob.dP.length g.cap):=by intro i ob g hl;rw[<-hB];simp only[hl.1,hl.2]
 have kE:eO w (sI w (· ∈fp)) w (env B (dF 0 0 x).2 Gs w):=by refine⟨λb hb=>⟨⟨.inl ((hA0 b).2 hb.1),λi ob g hl _ hF=> ?_⟩,rfl⟩,λ_ _=>trivial,λ_ _ _ h=>h.elim,λ_ _ _ h=>h.elim,λ_ _ _ _ _ h=>h.elim⟩;obtain⟨_,_,_,f',_,_,h3,h4⟩:=Cs _ _ _ hl;exact hb.2 (h4 _ ((h3 _).1 hF))
 have r0:eB B ⟨((dF 0 0 x).1::rest)++replicate (fn.ntmps-(rest.length+1)) .undef,(dF 0 0 x).2⟩ Gs {tmps:=(v::vs).toArray++Array.replicate (fn.ntmps-(v::vs).toArray.size) Go.undef,defers:=[]} w:=by
  refine {len:=hlen,defs:=rfl,ok:= ?_,apart:= ?_,fresh:= ?_,tmps:= ?_,size:=by rw[Si];exact eE _,frame:=by rw[Si];exact λ_ _ _=>rfl,base:= ?_,same:=by rw[Si];exact nS.rfl}
  .intro i ob g hl _;obtain⟨_,h2,_,f',hown,h3,h4,h5⟩:=Cs _ _ _ hl;refine⟨f',?_,h3,λb hb=>(h4 b).2 hb⟩;rw[h2];exact hown.keeps kE.plain (λ_ _=>rfl)
  .intro i j oi oj gi gj b hi hj _ _ Fp MV;exact hap _ _ _ _ _ _ b hi hj Fp MV
  .intro i ob g b hl _ hF;obtain⟨_,_,_,f',_,_,h3,h4⟩:=Cs _ _ _ hl;have:=h4 _ ((h3 _).1 hF);exact⟨.inl ((hO0 b).2 this),hlt b this⟩
  .have h0:R w (env B (dF 0 0 x).2 Gs w) (dF 0 0 x).1 v []:=qW _ kE λj ob g hl=>by
    obtain⟨_,_,h3,_⟩:=Cs _ _ _ hl;rw[hM];exact⟨ob,g,hl,Nat.zero_le _,λ_ _=>rfl,λ_ y hy=>by rw[hh0 _ _ _ hl]at hy;exact cQ hy⟩
   have h1:Rc w (env B (dF 0 0 x).2 Gs w) ((dF 0 0 x).1::rest) (v::vs) []:=by simp only[Rc];exact⟨[],[],h0,dU kE _ _ _ (by simp) hrest,rfl⟩
   have h2:∀n,Rc w (env B (dF 0 0 x).2 Gs w) (replicate n .undef) (replicate n Go.undef) []:=by
    intro n;induction n with
    |zero=>simp[Rc]
    |succ n ih=>simp only[pN,Rc];exact⟨[],[],by simp[R],ih,rfl⟩
   have:=mQ h1 (h2 (fn.ntmps-(rest.length+1)));simpa [hl]using this
  .intro b hb;rw[Si];exact(hA0 b).1 hb
 have hv0:R w (env B (dF 0 0 x).2 Gs w) (dF 0 0 x).1 v []:=qW _ kE λj ob g hl=>by rw[hM];exact⟨ob,g,hl,Nat.zero_le _,λ_ _=>rfl,λ_ y hy=>by rw[hh0 _ _ _ hl]at hy;exact cQ hy⟩
 refine calls_of_wp hf hb (wp_mono (sK hm c _ _ h _ _ ⟨_,r0⟩) λe a w' he=> ?_);obtain⟨s,⟨he,⟨ys,uo,hyr,hsc⟩,ht0,nR,hu,jO,hcl⟩,G,r⟩:=he;obtain⟨u,hrun,hR⟩:=Ad r uo;have hhv:∀(o:List aM) (G':List CO) (w'':World) i y,i<(dF 0 0 x).2.length->(env B o G' w'').H i 0 y->B.h0 i=some y:=by intro o G' w'' i y hi hH;obtain⟨_,_,_,_,_,hz⟩:=hH;have hg:∃ob g,look (dF 0 0 x).2 Gs i ob g:=⟨_,_,aE hi,aE (by omega)⟩;obtain⟨ob,g,hl⟩:=hg;have e:=hh0 _ _ _ hl;rw[hz rfl _ e];exact e
 obtain⟨v1,hv1,hr1⟩:=Jt r.tmps ht0;have hvv:v=v1:=M7 (hv:=B.h0) (hhv _ _ _) (hhv _ _ _) _ _ _ aM1 hv0 hr1;subst hvv;obtain⟨Av,k1,k2,k3⟩:=KN r _ v nR hu hr1;rw[jO]at k1;have hfin:∃u' Av,Ending.returned u= .returned u'/\R w' mE rr u' []/\R w' mE x' v Av/\Av.Nodup/\
   (∀b∈Av,(b∈fp\/w.heap.size<=b)/\b<w'.heap.size)/\w.heap.size<=w'.heap.size/\(∀b,b<w.heap.size->b∉fp->w'.heap[b]? =w.heap[b]?)/\nS w w':=by
  refine⟨u,Av,rfl,?_,KO (E:=(env _ s.o G w').plain) (λ_ _=>trivial) rfl rfl rfl _ _ _ hcl k1,k2,λb hb=> ?_,by have:=r.size;rwa[Si]at this,λb hb hn=>by have:=r.frame b (by rw[Si];exact hb) (λh=>hn ((hO0 b).1 h));rwa[Si]at this,by have:=r.same;rwa[Si]at this⟩
  .rw [hyr]at hR;cases rr<;>simp only[AV.scalar]at hsc<;>first|(cases hsc;done)|(simp only[R]at hR⊢;exact hR)
  .obtain ⟨i,ob,g,_,hl,hlive,hF⟩:=k3 b hb;have:=r.fresh _ _ _ b hl hlive hF;rw[Si,hO0]at this;exact this
 rcases he with rfl|rfl
 .exact ⟨r.defs,u,hrun,hfin⟩
 .exact ⟨r.defs,u,hrun,hfin⟩
theorem aFm{w:World}{E:Env}{e:List AV}{cs:List Value}{fp:List Nat}{c:Nat}{x:AV}(h:Rc w E e cs fp)(hx:e[c]? =some x):
  ∃a1 a2 a3 v,fp=a1++a2++a3/\cs[c]? =some v/\Rc w E (e.take c) (cs.take c) a1/\R w E x v a2/\Rc w E (e.drop (c+1)) (cs.drop (c+1)) a3:=by
 obtain⟨a1,r1,rfl,h1,h2⟩:=uG c h;have hlt:=(cH.1 hx).1;have hl:=gH h;have hd:e.drop c=x::e.drop (c+1):=by rw[mL hlt,(cH.1 hx).2]
 have hcs:cs.drop c=cs[c]'(by omega)::cs.drop (c+1):=mL (by omega);rw[hd,hcs]at h2;simp only[Rc]at h2;obtain⟨a2,a3,h3,h4,rfl⟩:=h2;exact⟨a1,a2,a3,_,by simp,aE (by omega),h1,h3,h4⟩
theorem zb{w:World}{E:Env}{e:List AV}{cs:List Value}{a1 a2 a3:List Nat}{c:Nat}{x:AV}{v:Value}(hc:c<e.length)(hv:cs[c]? =some v)(h1:Rc w E (e.take c) (cs.take c) a1)(h2:R w E x v a2)(h3:Rc w E (e.drop (c+1)) (cs.drop (c+1)) a3):
  Rc w E (e.set c x) cs (a1++a2++a3):=by
 have e1:e.set c x=e.take c++x::e.drop (c+1):=by rw[set_eq_take_append_cons_drop];simp[hc]
 obtain⟨hlt,rfl⟩:=cH.1 hv;have e2:cs=cs.take c++cs[c]::cs.drop (c+1):=by simp
 rw[e1];conv=>arg 4;rw[e2]
 have:=mQ h1 (show Rc w E (x::e.drop (c+1)) (cs[c]::cs.drop (c+1)) (a2++a3)by simp only[Rc];exact⟨a2,a3,h2,h3,rfl⟩);simpa using this
theorem aA9{t t':List AV}{o o':List aM}(i k c:Nat){ob:aM}{e:List AV}{m:Nat}{rows:List (List AV)}(ho:o[i]? =some ob)(hl:ob.live=true)(hall:(o.all λx=> !x.box)=true)(he:ob.dP[k]? =some e)
  (hc:e[c]? =some (.sl .own m rows)) (ho':o.set i {ob with box:=true,dP:=ob.dP.set k (e.set c (.obj o.length 1))}++[⟨true,false,m,1,rows⟩]=o') (hw:wk (xR (iP [i]) true t) t') (X3:ob.bV<2:=by first|decide|simp):lY ⟨t,o⟩ ⟨t',o'⟩:=by
 subst ho';rintro P _ B a w ⟨G,r⟩;have nb:∀{j x g},look o G j x g->x.box=false:=λh=>by have:=fN.1 hall _ (mT h.1);simpa using this
 obtain⟨g,hlk⟩:=r.look ho;have hb:=nb hlk;obtain⟨fp,hown,hnd,hF⟩:=r.ok i ob g hlk hl;simp only[hb,Env.of,eS,gS]at hown;obtain⟨hlen,⟨h,_⟩|⟨b,off,C,ty,fz,rE,ha,hbk,hz,h1,h2,h3,rfl,hr⟩⟩:=hown
 .rw [h]at he;simp at he
 have hk:k<ob.dP.length:=(cH.1 he).1;have hcl:c<e.length:=(cH.1 hc).1;obtain⟨f1,f2,f3,cs,rfl,hn,hcs,hone,hre,hr1,hr3⟩:=Az hr he;obtain⟨a1,a2,a3,v,rfl,hv,k1,k2,k3⟩:=aFm hre hc;obtain⟨ad,cap',hvs,Zk⟩:=tJ.1 k2;have hlo:i<o.length:=(cH.1 ho).1;have hsub2:∀x∈a2,g.F x:=λx hx=>hF x (by simp[hx])
 generalize xS:({ob with box:=true,dP:=ob.dP.set k (e.set c (.obj o.length 1))}:aM)=fF;generalize hg':({g with F:=λx=>g.F x/\x∉a2}:CO)=g';generalize hO:o.set i fF++[⟨true,false,m,1,rows⟩]=o';generalize qd:G.set i g'++[⟨ad,cap',λx=>x∈a2⟩]=G';have ek:(G.set i g').length=(o.set i fF).length:=by simp[r.len]
 have back:∀{j x y},look o' G' j x y->(j=i/\x=fF/\y=g')\/(j=o.length/\x=⟨true,false,m,1,rows⟩/\y=⟨ad,cap',λx=>x∈a2⟩)\/(j≠i/\look o G j x y):=by
  intro j x y h;rw[<-hO,<-qd]at h;rcases pU ek h with⟨_,h⟩|⟨hj,h⟩
  .rcases Aa h with⟨h1,h2,h3⟩|⟨h1,h2⟩
   .exact .inl ⟨h1,h2,h3⟩
   .exact .inr (.inr ⟨h1,h2⟩)
  .right;left;obtain⟨h1,h2⟩:=h;cases hd:j-(o.set i fF).length with
   |zero=>rw[hd]at h1 h2;simp at h1 h2 hj hd;exact⟨by omega,h1.symm,h2.symm⟩
   |succ n=>rw[hd]at h1;simp at h1
 have fi:look o' G' i fF g':=by rw[<-hO,<-qd];exact nO (rF hlk)
 have fJ:look o' G' o.length ⟨true,false,m,1,rows⟩ ⟨ad,cap',λx=>x∈a2⟩:=by rw[<-hO,<-qd];have:=pV (o:=o.set i fF) (o2:=[⟨true,false,m,1,rows⟩]) (G:=G.set i g') (G2:=[⟨ad,cap',λx=>x∈a2⟩]) ek (i:=0) (x:=⟨true,false,m,1,rows⟩) (y:=⟨ad,cap',λx=>x∈a2⟩) ⟨rfl,rfl⟩;simpa using this
 have fo:∀{j x y},j≠i->look o G j x y->look o' G' j x y:=λhj h=>by rw[<-hO,<-qd];exact nO (Cw h hj)
 have aQ3:fF.live=true:=by rw[<-xS];exact hl
 have aFn:fF.n=ob.n:=by rw[<-xS]
 have aQ4:fF.bV=ob.bV:=by rw[<-xS]
 have aFo:fF.dP.length=ob.dP.length:=by rw[<-xS];simp
 have hga:g'.a=g.a:=by rw[<-hg']
 have hgc:g'.cap=g.cap:=by rw[<-hg']
 have UA:∀x,g'.F x↔g.F x/\x∉a2:=λx=>by rw[<-hg']
 let Er:Env:={env B o G w with D:=λj x=>j∉[i]/\(env B o G w).D j x}
 have rt1:nE (iP [i]) true (env B o G w) Er (λ_=>True):=by
  refine⟨λt e=>by simp[iP]at e,λt e=>by simp only[iP,eC]at e;exact⟨e.symm,λb hb=>hb⟩,λj t e=> ?_,λ_ _ _ _ h=>h,λ_ _ _ _ _ _ h=>h⟩;simp only[iP]at e;split at e
  .cases e
  .rename_i hiu;obtain rfl:=cQ e;refine⟨by simp,?_,λb hb=>⟨hiu,hb⟩⟩;by_cases hV:(env B o G w).V j
   .exact .inl hV
   .exact .inr hV
 have kA:∀x,(env B o G w).A x->(env B o' G' w).A x:=λx hx=>⟨hx.1,λj y z hlj hjl hf=>by
  rcases back hlj with⟨rfl,rfl,rfl⟩|⟨rfl,rfl,rfl⟩|⟨_,h⟩
  .exact hx.2 _ _ _ hlk hl ((UA x).1 hf).1
  .exact hx.2 _ _ _ hlk hl (hsub2 x hf)
  .exact hx.2 _ _ _ h hjl hf⟩
 have k2':eO w Er w (env B o' G' w):=by
  refine⟨λx hx=>⟨kA x hx,rfl⟩,λj h x hx=> ?_,λj x hV h=> ?_,λj bV x h=> ?_,λj bV p q x h=> ?_⟩
  .obtain ⟨y,hy⟩:=r.look hx;by_cases hj:j=i
   .subst hj;rw[ho]at hx;obtain rfl:=cQ hx;exact hl
   .exact h x (fo hj hy).1
  .obtain ⟨hji,x',y,hlj,hjl,hf,hne⟩:=h;exact⟨⟨x',y,fo (by simpa using hji) hlj,hjl,hf,hne⟩,rfl⟩
  .obtain ⟨x',y,hlj,Ay,hh,hz⟩:=h;by_cases hj:j=i
   .subst hj;obtain⟨rfl,rfl⟩:=lF hlk hlj;exact⟨fF,g',fi,by omega,λ_ UB=>by rw[hga,hgc,aFo];exact hh hl (by omega),hz⟩
   .exact ⟨x',y,fo hj hlj,Ay,hh,hz⟩
  .obtain ⟨x',y,hlj,Ay,hh,hz⟩:=h;by_cases hj:j=i
   .subst hj;obtain⟨rfl,rfl⟩:=lF hlk hlj;exact⟨fF,g',fi,by omega,λ_ UB=>by rw[hga,aFn];exact hh hl (by omega),λ_ e=>by omega⟩
   .exact ⟨x',y,fo hj hlj,Ay,hh,hz⟩
 have kp:eO w (env B o G w).plain w (env B o' G' w).plain:=⟨λx hx=>⟨kA x hx,rfl⟩,λ_ _=>trivial,λ_ _ _ h=>h.elim,λ_ _ _ h=>h.elim,λ_ _ _ _ _ h=>h.elim⟩;have kf:eO w (env B o G w).plain w (env B o' G' w):=kp.trans (Oq w _);have hnd':=hnd;simp only[lR]at hnd';refine⟨G',{len:=by rw[<-hO,<-qd];simp[r.len],defs:=r.defs,ok:= ?_,apart:= ?_,fresh:= ?_,tmps:=FZ hw (dU k2' _ _ _ (by simp) (xW rt1 _ _ _ (by simp) r.tmps)),size:=r.size,frame:=r.frame,base:=r.base,same:=r.same}⟩
 .intro j x y hlj hjl;rcases back hlj with⟨rfl,rfl,rfl⟩|⟨rfl,rfl,rfl⟩|⟨hj,h⟩
  .refine ⟨b::(f1++(a1++[]++a3)++f3),?_,?_,?_⟩
   .rw [<-xS,<-hg'];simp only[Env.of,gC];refine⟨by simpa using hlen,.inr ⟨b,off,C,ty,fz,_,ha,hbk,hz,h1,by simpa using h2,h3,rfl,?_⟩⟩;refine Vw hk hn hcs hone (zb hcl hv (dU kf _ _ _ (λ_ _=>rfl) k1) ?_ (dU kf _ _ _ (λ_ _=>rfl) k3)) (mZ kf _ _ _ _ _ rfl (λ_ _=>rfl) hr1) (mZ kf _ _ _ _ _ rfl (λ_ _=>rfl) hr3);simp only[R];exact⟨trivial,_,_,fJ,eE _,λ_ _=>hvs,λh=>by omega⟩
   .have hs:(f1++(a1++[]++a3)++f3).Sublist (f1++(a1++a2++a3)++f3):=((qS f1).append (((qS a1).append (nil_sublist a2)).append (qS a3))).append (qS f3);exact lR.2 ⟨λh=>hnd'.1 (hs.subset h),hs.nodup hnd'.2⟩
   .intro x hx;rw[UA];have hin:x∈b::(f1++(a1++a2++a3)++f3):=by simp only[lB,fL,CM,FG]at hx⊢;grind
    refine⟨hF x hin,λhx2=> ?_⟩;have hd:=hnd'.2;simp only[gO,fL]at hd;simp only[lB,fL,CM,FG]at hx;rcases hx with rfl|(hx|hx|hx)|hx
    .exact hnd'.1 (by simp[hx2])
    .exact hd.1.2.2 x hx x (.inl (.inr hx2)) rfl
    .exact hd.1.2.1.1.2.2 x hx x hx2 rfl
    .exact hd.1.2.1.2.2 x (.inr hx2) x hx rfl
    .exact hd.2.2 x (.inr (.inl (.inr hx2))) x hx rfl
  .refine ⟨a2,?_,?_,λx hx=>hx⟩
   .simp only[Env.of,eS,gS];exact Zk.keeps kp (λ_ _=>rfl)
   .have hd:=hnd'.2;simp only[gO]at hd;exact hd.1.2.1.1.2.1
  .have hbj:=nb h;obtain⟨fq,q1,q2,q3⟩:=r.ok j x y h hjl;simp only[hbj,Env.of,eS,gS]at q1;refine⟨fq,?_,q2,q3⟩;simp only[hbj,Env.of,eS,gS];exact q1.keeps kp (λ_ _=>rfl)
 .intro j1 j2 x1 x2 y1 y2 z hl1 hl2 v1 v2 hf1 hf2;rcases back hl1 with⟨rfl,rfl,rfl⟩|⟨rfl,rfl,rfl⟩|⟨hj1,h1⟩<;>rcases back hl2 with⟨rfl,rfl,rfl⟩|⟨rfl,rfl,rfl⟩|⟨hj2,h2⟩
  .rfl
  .exact absurd hf2 ((UA z).1 hf1).2
  .exact absurd (r.apart _ _ _ _ _ _ z hlk h2 hl v2 ((UA z).1 hf1).1 hf2).symm hj2
  .exact absurd hf1 ((UA z).1 hf2).2
  .rfl
  .exact absurd (r.apart _ _ _ _ _ _ z hlk h2 hl v2 (hsub2 z hf1) hf2).symm hj2
  .exact absurd (r.apart _ _ _ _ _ _ z h1 hlk v1 hl hf1 ((UA z).1 hf2).1) hj1
  .exact absurd (r.apart _ _ _ _ _ _ z h1 hlk v1 hl hf1 (hsub2 z hf2)) hj1
  .exact r.apart _ _ _ _ _ _ z h1 h2 v1 v2 hf1 hf2
 .intro j x y z hlj hjl hf;rcases back hlj with⟨rfl,rfl,rfl⟩|⟨rfl,rfl,rfl⟩|⟨_,h⟩
  .exact r.fresh _ _ _ z hlk hl ((UA z).1 hf).1
  .exact r.fresh _ _ _ z hlk hl (hsub2 z hf)
  .exact r.fresh _ _ _ z h hjl hf
def AV.Gu:AV->Bool
 | .int _ _=>true
 | .bool _=>true
 | .str _=>true
 | .sl .own _ _=>true
 |_=>false
theorem aNp{w:World}{E E':Env}(hA:∀b,E.A b->E'.A b){x:AV}{v:Value}{fp:List Nat}(hx:x.Gu=true)(h:R w E x v fp):R w E' x v fp:=by
 cases x with
 |int _ _=>simpa [R]using h
 |bool _=>simpa [R]using h
 |str _=>simpa [R]using h
 |sl g n l=>
  cases g with
  |own=>obtain⟨a,cap,hv,hown⟩:=tJ.1 h;exact tJ.2 ⟨a,cap,hv,hown.keeps ⟨λb hb=>⟨hA b hb,rfl⟩,λ_ _=>trivial,λ_ _ _ h=>h.elim,λ_ _ _ h=>h.elim,λ_ _ _ _ _ h=>h.elim⟩ (λ_ _=>rfl)⟩
  |_=>cases hx
 |_=>cases hx
theorem QJ{w:World}{E E':Env}(hA:∀b,E.A b->E'.A b):∀{c:List AV} {cs:List Value} {fp:List Nat},c.all AV.Gu=true->Rc w E c cs fp->Rc w E' c cs fp
 |[],[],_,_,h=>h
 |[],_::_,_,_,h=>by simp[Rc]at h
 |_::_,[],_,_,h=>by simp[Rc]at h
 |x::xs,c::cs,fp,hp,h=>by simp only[Rc]at h⊢;simp only[Cd,eJ]at hp;obtain⟨f1,f2,h1,h2,h3⟩:=h;exact⟨f1,f2,aNp hA hp.1 h1,QJ hA hp.2 h2,h3⟩
theorem Yb{w:World}{E E':Env}(hA:∀b,E.A b->E'.A b):∀{l:List (List AV)} {b off n:Nat} {fp:List Nat},(l.all λr=>r.all AV.Gu)=true->Rr w E l b off n fp->Rr w E' l b off n fp
 |[],_,_,_,_,_,h=>h
 |e::es,b,off,n,fp,hp,h=>by simp only[Rr]at h⊢;simp only[Cd,eJ]at hp;obtain⟨cs,f1,f2,h1,h2,h3,h4,h5,h6⟩:=h;exact⟨cs,f1,f2,h1,h2,h3,QJ hA hp.1 h4,Yb hA hp.2 h5,h6⟩
theorem SY{α:Type}{p:α->Bool}{l:List α}(k:Nat)(h:l.all p=true):(l.take k).all p=true:=by rw[fN]at h⊢;exact λx hx=>h x (sC hx)
theorem Ta{α:Type}{p:α->Bool}{l:List α}(k:Nat)(h:l.all p=true):(l.drop k).all p=true:=by rw[fN]at h⊢;exact λx hx=>h x (AN hx)
theorem Jd{α:Type}(l:List α)(k:Nat)(x:α):(l.set k x).take k=l.take k:=by rw[take_set];exact By (by simp;omega)
theorem Je{α:Type}(l:List α)(k:Nat)(x:α):(l.set k x).drop (k+1)=l.drop (k+1):=by rw[drop_set];simp
theorem ze{t t':List AV}{o o':List aM}(i J k c:Nat){ob oj:aM}{e:List AV}{bV:Nat}(ho:o[i]? =some ob)(hj:o[J]? =some oj)(hij:i≠J)(hl:ob.live=true)(hlj:oj.live=true)(hbj:oj.box=false)
  (he:ob.dP[k]? =some e) (hc:e[c]? =some (.obj J bV)) (Ay:oj.bV=bV) (hp:((ob.dP.set k (e.set c (.int .i64 0))).all λr=>r.all AV.Gu)=true) (IJ:ob.box=true)
  (ho':(o.set J oj.kill).set i {ob with box:=false,dP:=ob.dP.set k (e.set c (.sl .own oj.n oj.dP))}=o') (hw:wk t t'):lY ⟨t,o⟩ ⟨t',o'⟩:=by
 subst ho';rintro P _ B a w ⟨G,r⟩;obtain⟨g,hlk⟩:=r.look ho;obtain⟨gj,aJr⟩:=r.look hj;obtain⟨fp,hown,hnd,hF⟩:=r.ok i ob g hlk hl;obtain⟨fj,Ox,aH9,Uv⟩:=r.ok J oj gj aJr hlj;simp only[IJ,Env.of,gC]at hown;simp only[hbj,Env.of,eS,gS]at Ox;obtain⟨hlen,⟨h,_⟩|⟨b,off,C,ty,fz,rE,ha,hbk,hz,h1,h2,h3,rfl,hr⟩⟩:=hown
 .rw [h]at he;simp at he
 have hk:k<ob.dP.length:=(cH.1 he).1;have hcl:c<e.length:=(cH.1 hc).1;obtain⟨f1,f2,f3,cs,rfl,hn,hcs,hone,hre,hr1,hr3⟩:=Az hr he;obtain⟨a1,a2,a3,v,rfl,hv,k1,k2,k3⟩:=aFm hre hc;simp only[R]at k2;obtain⟨rfl,ob2,g2,hl2,_,hh,_⟩:=k2;obtain⟨rfl,rfl⟩:=lF aJr hl2;have hvs:=hh hlj Ay;obtain⟨r2,kk⟩:=r.QY hij hlk aJr hl hlj;generalize hgt:({g with F:=λb=>g.F b\/gj.F b}:CO)=gt at r2 kk;have aUe:gt.a=g.a:=by rw[<-hgt]
 have aNq:gt.cap=g.cap:=by rw[<-hgt]
 have aUf:∀x,gt.F x↔g.F x\/gj.F x:=λx=>by rw[<-hgt]
 have Xq:look (o.set J oj.kill) (G.set i gt) i ob gt:=by refine⟨by rw[lE (Ax hij)];exact hlk.1,?_⟩;have:=(cH.1 hlk.2).1;simp[this]
 have hpe:(e.set c (.int .i64 0)).all AV.Gu=true:=by rw[fN]at hp;exact hp _ (mem_iff_getElem?.2 ⟨k,by rw[mB hk]⟩)
 have hm:=r2.modify Xq hl {ob with box:=false,dP:=ob.dP.set k (e.set c (.sl .own oj.n oj.dP))} gt w (eE _) rfl (λ_=>⟨rfl,rfl,by simp⟩) (λb hb=> .inl hb) (λb hb hne=>⟨hb,hne⟩) (λ_ _ _=>rfl) (eE _) (λkm _=>by
  generalize hE:env B ((o.set J oj.kill).set i {ob with box:=false,dP:=ob.dP.set k (e.set c (.sl .own oj.n oj.dP))}) ((G.set i gt).set i gt) w=E';replace km:eO w (env B (o.set J oj.kill) (G.set i gt) w) w E':=by rw[<-hE];exact km
  have kA:∀x,(env B o G w).A x->E'.A x:=λx hx=>(km.a x (kk.a x hx).1).1
  have kp:eO w (env B o G w).plain w E'.plain:=⟨λx hx=>⟨kA x hx,rfl⟩,λ_ _=>trivial,λ_ _ _ h=>h.elim,λ_ _ _ h=>h.elim,λ_ _ _ _ _ h=>h.elim⟩;refine⟨b::(f1++(a1++fj++a3)++f3),?_,?_,?_⟩
  .simp only[Env.of,eS,gS];refine⟨by simpa using hlen,.inr ⟨b,off,C,ty,fz,_,by rw[aUe];exact ha,hbk,hz,by rw[aNq];exact h1,by rw[aNq];simpa using h2,by rw[aNq];exact h3,rfl,?_⟩⟩;refine Vw hk hn hcs hone (zb hcl hv ?_ ?_ ?_) ?_ ?_
   .exact QJ (E:=env B o G w) (E':=E'.plain) kA (by have:=SY c hpe;rwa[Jd]at this) k1
   .exact tJ.2 ⟨gj.a,gj.cap,hvs,Ox.keeps kp (λ_ _=>rfl)⟩
   .exact QJ (E:=env B o G w) (E':=E'.plain) kA (by have:=Ta (c+1) hpe;rwa[Je]at this) k3
   .exact Yb (E:=env B o G w) (E':=E'.plain) kA (by have:=SY k hp;rwa[Jd]at this) hr1
   .exact Yb (E:=env B o G w) (E':=E'.plain) kA (by have:=Ta (k+1) hp;rwa[Je]at this) hr3
  .have hdj:∀x∈fj,x∉b::(f1++(a1++[]++a3)++f3):=λx hx hx2=>hij (r.apart _ _ _ _ _ _ x hlk aJr hl hlj (hF x hx2) (Uv x hx))
   have Ws:(b::(f1++(a1++fj++a3)++f3)).Perm ((b::(f1++(a1++[]++a3)++f3))++fj):=by rw[eA];refine Perm.cons b ?_;simp only[rN,eM];refine Fl f1 (Fl a1 ?_);rw[<-rN a3];exact perm_append_comm
   refine Ws.nodup_iff.2 (gO.2 ⟨hnd,aH9,λx hx y hy e=> ?_⟩);subst e;exact hdj x hy hx
  .intro x hx;rw[aUf];have:x∈b::(f1++(a1++[]++a3)++f3)\/x∈fj:=by simp only[lB,fL,CM,FG]at hx⊢;grind
   rcases this with h|h
   .exact .inl (hF x h)
   .exact .inr (Uv x h))
 refine⟨(G.set i gt).set i gt,{hm.1 with tmps:= ?_}⟩;exact FZ hw hm.1.tmps
mutual
def Fz(i:Nat):AV->Bool
 | .sl (.jZ j) _ _=>decide (j≠i)
 | .eQ (.jZ j) _ _=>decide (j≠i)
 | .agg c=>xC i c
 | .gT c=>xC i c
 | .fn _ c=>xC i c
 |_=>true
def xC(i:Nat):List AV->Bool
 |[]=>true
 |x::xs=>Fz i x&&xC i xs
end
def Env.no(E:Env)(i:Nat):Env:={E with D:=λj x=>j∉[i]/\E.D j x}
theorem eu{w:World}{E:Env}{i j:Nat}(h:j≠i):eO w (E.sub (.jZ j)) w ((E.no i).sub (.jZ j)):=
 ⟨λb h=>⟨h,rfl⟩,λ_ _=>trivial,λk b _ hd=>⟨⟨hd.1,by simpa using h,hd.2⟩,rfl⟩,λ_ _ _ h=>h.elim,λ_ _ _ _ _ h=>h.elim⟩
mutual
theorem aJs{w:World}{E:Env}{i:Nat}:∀(x:AV) (v:Value) (fp:List Nat),Fz i x=true->R w E x v fp->R w (E.no i) x v fp
 | .int _ _,_,_,_,h=>by simpa [R]using h
 | .bool _,_,_,_,h=>by simpa [R]using h
 | .str _,_,_,_,h=>by simpa [R]using h
 | .sl .own n l,v,fp,_,h=>tJ.2 (tJ.1 h)
 | .sl .view n l,v,fp,_,h=>by
  simp only[R]at h⊢;rcases h with h|⟨a,cap,hv,hl,h⟩
  .exact h.1.elim
  .refine .inr ⟨a,cap,hv,hl,?_⟩;rcases h with h|h|⟨hg,hf,h⟩
   .exact absurd h.1 (by simp)
   .exact absurd h.1 (by simp)
   .exact .inr (.inr ⟨hg,hf,h⟩)
 | .sl (.jZ j) n l,v,fp,hc,h=>by
  have hi:j≠i:=by simpa [Fz]using hc
  simp only[R]at h⊢;rcases h with h|⟨a,cap,hv,hl,h⟩
  .exact .inl h
  .refine .inr ⟨a,cap,hv,hl,?_⟩;rcases h with h|h|⟨hg,hf,h⟩
   .exact absurd h.1 (by simp)
   .exact absurd h.1 (by simp)
   .refine .inr (.inr ⟨hg,hf,?_⟩);rcases h with h|⟨b,off,ha,ht,hr⟩
    .exact .inl h
    .exact .inr ⟨b,off,ha,⟨by simpa using hi,ht⟩,mZ (eu hi) _ _ _ _ _ rfl (by simp) hr⟩
 | .eQ .own c off,v,fp,_,h=>by
  simp only[R]at h⊢;rcases h with h|⟨_,_,_,_,_,ht,_⟩
  .exact h.1.elim
  .exact ht.elim
 | .eQ .view c off,v,fp,_,h=>by
  simp only[R]at h⊢;rcases h with h|⟨hf,b,o',cs,hv,ht,hcs,hone,hr⟩
  .exact h.1.elim
  .exact .inr ⟨hf,b,o',cs,hv,ht,hcs,hone,hr⟩
 | .eQ (.jZ j) c off,v,fp,hc,h=>by
  have hi:j≠i:=by simpa [Fz]using hc
  simp only[R]at h⊢;rcases h with h|⟨hf,b,o',cs,hv,ht,hcs,hone,hr⟩
  .exact .inl h
  .exact .inr ⟨hf,b,o',cs,hv,⟨by simpa using hi,ht⟩,hcs,hone,dU (eu hi) _ _ _ (by simp) hr⟩
 | .obj _ _,v,fp,_,h=>by simp only[R]at h⊢;exact h
 | .ptr _ _ _ _,v,fp,_,h=>by simp only[R]at h⊢;exact h
 | .agg c,v,fp,hc,h=>by simp only[R]at h⊢;obtain⟨cs,h1,h2,h3⟩:=h;exact⟨cs,h1,h2,Gv c cs fp (by simpa [Fz]using hc) h3⟩
 | .gT c,v,fp,hc,h=>by simp only[R]at h⊢;obtain⟨cs,h1,h3⟩:=h;exact⟨cs,h1,Gv c cs fp (by simpa [Fz]using hc) h3⟩
 | .fn f c,v,fp,hc,h=>by simp only[R]at h⊢;obtain⟨h0,cs,h1,h3⟩:=h;exact⟨h0,cs,h1,Gv c cs [] (by simpa [Fz]using hc) h3⟩
 | .undef,_,_,_,h=>by simpa [R]using h
theorem Gv{w:World}{E:Env}{i:Nat}:∀(c:List AV) (cs:List Value) (fp:List Nat),xC i c=true->Rc w E c cs fp->Rc w (E.no i) c cs fp
 |[],[],_,_,h=>by simpa [Rc]using h
 |[],_::_,_,_,h=>by simp[Rc]at h
 |_::_,[],_,_,h=>by simp[Rc]at h
 |x::xs,c::cs,fp,hc,h=>by simp only[Rc]at h⊢;simp only[xC,eJ]at hc;obtain⟨f1,f2,h1,h2,h3⟩:=h;exact⟨f1,f2,aJs x c f1 hc.1 h1,Gv xs cs f2 hc.2 h2,h3⟩
end
theorem fe{w:World}{E:Env}{i:Nat}:∀(l:List (List AV)) (b off n:Nat) (fp:List Nat),(l.all λc=>xC i c)=true->Rr w E l b off n fp->Rr w (E.no i) l b off n fp
 |[],_,_,_,_,_,h=>by simpa [Rr]using h
 |e::es,b,off,n,fp,hc,h=>by simp only[Rr]at h⊢;simp only[Cd,eJ]at hc;obtain⟨cs,f1,f2,h1,h2,h3,h4,h5,h6⟩:=h;exact⟨cs,f1,f2,h1,h2,h3,Gv e cs f1 hc.1 h4,fe es b _ n f2 hc.2 h5,h6⟩
theorem wI.Fz{w:World}{E:Env}{n:Nat}{l:List (List AV)}{a:Option Addr}{cap:Nat}{fp:List Nat}{i:Nat}(hc:(l.all λc=>xC i c)=true)(h:wI w E n l a cap fp):wI w (E.no i) n l a cap fp:=by
 obtain⟨h1,h|⟨b,off,C,e,fz,rE,k1,k2,k3,k4,k5,k6,k7,k8⟩⟩:=h
 .exact ⟨h1,.inl h⟩
 .exact ⟨h1,.inr ⟨b,off,C,e,fz,rE,k1,k2,k3,k4,k5,k6,k7,fe l b off n rE hc k8⟩⟩
theorem vI{t t':List AV}{o o':List aM}(i k c:Nat){ob:aM}{e:List AV}{m:Nat}{rows:List (List AV)}(ho:o[i]? =some ob)(hl:ob.live=true)(hb:ob.box=true)(hall:(o.all λx=> !x.box || x.dP.all λc=>xC i c)=true)(he:ob.dP[k]? =some e)
  (hc:e[c]? =some (.sl .own m rows)) (ho':o.set i {ob with dP:=ob.dP.set k (e.set c (.obj o.length 1))}++[⟨true,false,m,1,rows⟩]=o') (hw:wk (xR (iP [i]) true t) t'):lY ⟨t,o⟩ ⟨t',o'⟩:=by
 subst ho';rintro P _ B a w ⟨G,r⟩;have nb:∀{j x g},look o G j x g->x.box=true->(x.dP.all λc=>xC i c)=true:=λh hb=>by have:=fN.1 hall _ (mT h.1);simpa only[hb,DB,Bool.false_or]using this
 obtain⟨g,hlk⟩:=r.look ho;obtain⟨fp,hown,hnd,hF⟩:=r.ok i ob g hlk hl;simp only[hb,Env.of,gC]at hown;replace hown:=hown.Fz (nb hlk hb);obtain⟨hlen,⟨h,_⟩|⟨b,off,C,ty,fz,rE,ha,hbk,hz,h1,h2,h3,rfl,hr⟩⟩:=hown
 .rw [h]at he;simp at he
 have hk:k<ob.dP.length:=(cH.1 he).1;have hcl:c<e.length:=(cH.1 hc).1;obtain⟨f1,f2,f3,cs,rfl,hn,hcs,hone,hre,hr1,hr3⟩:=Az hr he;obtain⟨a1,a2,a3,v,rfl,hv,k1,k2,k3⟩:=aFm hre hc;obtain⟨ad,cap',hvs,Zk⟩:=tJ.1 k2;have hlo:i<o.length:=(cH.1 ho).1;have hsub2:∀x∈a2,g.F x:=λx hx=>hF x (by simp[hx])
 generalize xS:({ob with dP:=ob.dP.set k (e.set c (.obj o.length 1))}:aM)=fF;generalize hg':({g with F:=λx=>g.F x/\x∉a2}:CO)=g';generalize hO:o.set i fF++[⟨true,false,m,1,rows⟩]=o';generalize qd:G.set i g'++[⟨ad,cap',λx=>x∈a2⟩]=G';have ek:(G.set i g').length=(o.set i fF).length:=by simp[r.len]
 have back:∀{j x y},look o' G' j x y->(j=i/\x=fF/\y=g')\/(j=o.length/\x=⟨true,false,m,1,rows⟩/\y=⟨ad,cap',λx=>x∈a2⟩)\/(j≠i/\look o G j x y):=by
  intro j x y h;rw[<-hO,<-qd]at h;rcases pU ek h with⟨_,h⟩|⟨hj,h⟩
  .rcases Aa h with⟨h1,h2,h3⟩|⟨h1,h2⟩
   .exact .inl ⟨h1,h2,h3⟩
   .exact .inr (.inr ⟨h1,h2⟩)
  .right;left;obtain⟨h1,h2⟩:=h;cases hd:j-(o.set i fF).length with
   |zero=>rw[hd]at h1 h2;simp at h1 h2 hj hd;exact⟨by omega,h1.symm,h2.symm⟩
   |succ n=>rw[hd]at h1;simp at h1
 have fi:look o' G' i fF g':=by rw[<-hO,<-qd];exact nO (rF hlk)
 have fJ:look o' G' o.length ⟨true,false,m,1,rows⟩ ⟨ad,cap',λx=>x∈a2⟩:=by rw[<-hO,<-qd];have:=pV (o:=o.set i fF) (o2:=[⟨true,false,m,1,rows⟩]) (G:=G.set i g') (G2:=[⟨ad,cap',λx=>x∈a2⟩]) ek (i:=0) (x:=⟨true,false,m,1,rows⟩) (y:=⟨ad,cap',λx=>x∈a2⟩) ⟨rfl,rfl⟩;simpa using this
 have fo:∀{j x y},j≠i->look o G j x y->look o' G' j x y:=λhj h=>by rw[<-hO,<-qd];exact nO (Cw h hj)
 have aQ3:fF.live=true:=by rw[<-xS];exact hl
 have aFn:fF.n=ob.n:=by rw[<-xS]
 have aQ4:fF.bV=ob.bV:=by rw[<-xS]
 have aFo:fF.dP.length=ob.dP.length:=by rw[<-xS];simp
 have hga:g'.a=g.a:=by rw[<-hg']
 have hgc:g'.cap=g.cap:=by rw[<-hg']
 have UA:∀x,g'.F x↔g.F x/\x∉a2:=λx=>by rw[<-hg']
 let Er:Env:=(env B o G w).no i
 have rt1:nE (iP [i]) true (env B o G w) Er (λ_=>True):=by
  refine⟨λt e=>by simp[iP]at e,λt e=>by simp only[iP,eC]at e;exact⟨e.symm,λb hb=>hb⟩,λj t e=> ?_,λ_ _ _ _ h=>h,λ_ _ _ _ _ _ h=>h⟩;simp only[iP]at e;split at e
  .cases e
  .rename_i hiu;obtain rfl:=cQ e;refine⟨by simp,?_,λb hb=>⟨hiu,hb⟩⟩;by_cases hV:(env B o G w).V j
   .exact .inl hV
   .exact .inr hV
 have kA:∀x,(env B o G w).A x->(env B o' G' w).A x:=λx hx=>⟨hx.1,λj y z hlj hjl hf=>by
  rcases back hlj with⟨rfl,rfl,rfl⟩|⟨rfl,rfl,rfl⟩|⟨_,h⟩
  .exact hx.2 _ _ _ hlk hl ((UA x).1 hf).1
  .exact hx.2 _ _ _ hlk hl (hsub2 x hf)
  .exact hx.2 _ _ _ h hjl hf⟩
 have k2':eO w Er w (env B o' G' w):=by
  refine⟨λx hx=>⟨kA x hx,rfl⟩,λj h x hx=> ?_,λj x hV h=> ?_,λj bV x h=> ?_,λj bV p q x h=> ?_⟩
  .obtain ⟨y,hy⟩:=r.look hx;by_cases hj:j=i
   .subst hj;rw[ho]at hx;obtain rfl:=cQ hx;exact hl
   .exact h x (fo hj hy).1
  .obtain ⟨hji,x',y,hlj,hjl,hf,hne⟩:=h;exact⟨⟨x',y,fo (by simpa using hji) hlj,hjl,hf,hne⟩,rfl⟩
  .obtain ⟨x',y,hlj,Ay,hh,hz⟩:=h;by_cases hj:j=i
   .subst hj;obtain⟨rfl,rfl⟩:=lF hlk hlj;exact⟨fF,g',fi,by omega,λ_ UB=>by rw[hga,hgc,aFo];exact hh hl (by omega),hz⟩
   .exact ⟨x',y,fo hj hlj,Ay,hh,hz⟩
  .obtain ⟨x',y,hlj,Ay,hh,hz⟩:=h;by_cases hj:j=i
   .subst hj;obtain⟨rfl,rfl⟩:=lF hlk hlj;exact⟨fF,g',fi,by omega,λ_ UB=>by rw[hga,aFn];exact hh hl (by omega),λ_ e2 e3 e4 y hy=>⟨(hz hb e2 e3 e4 y hy).1,λ_ UB=>by rw[hgc];exact(hz hb e2 e3 e4 y hy).2 hl (by omega)⟩⟩
   .exact ⟨x',y,fo hj hlj,Ay,hh,hz⟩
 have kp:eO w (env B o G w).plain w (env B o' G' w).plain:=⟨λx hx=>⟨kA x hx,rfl⟩,λ_ _=>trivial,λ_ _ _ h=>h.elim,λ_ _ _ h=>h.elim,λ_ _ _ _ _ h=>h.elim⟩;have kf:eO w (env B o G w).plain w (env B o' G' w):=kp.trans (Oq w _);have hnd':=hnd;simp only[lR]at hnd';refine⟨G',{len:=by rw[<-hO,<-qd];simp[r.len],defs:=r.defs,ok:= ?_,apart:= ?_,fresh:= ?_,tmps:=FZ hw (dU k2' _ _ _ (by simp) (xW rt1 _ _ _ (by simp) r.tmps)),size:=r.size,frame:=r.frame,base:=r.base,same:=r.same}⟩
 .intro j x y hlj hjl;rcases back hlj with⟨rfl,rfl,rfl⟩|⟨rfl,rfl,rfl⟩|⟨hj,h⟩
  .refine ⟨b::(f1++(a1++[]++a3)++f3),?_,?_,?_⟩
   .rw [<-xS,<-hg'];simp only[hb,Env.of,gC];refine⟨by simpa using hlen,.inr ⟨b,off,C,ty,fz,_,ha,hbk,hz,h1,by simpa using h2,h3,rfl,?_⟩⟩;refine Vw hk hn hcs hone (zb hcl hv (dU k2' _ _ _ (λ_ _=>rfl) k1) ?_ (dU k2' _ _ _ (λ_ _=>rfl) k3)) (mZ k2' _ _ _ _ _ rfl (λ_ _=>rfl) hr1) (mZ k2' _ _ _ _ _ rfl (λ_ _=>rfl) hr3);simp only[R];exact⟨trivial,_,_,fJ,eE _,λ_ _=>hvs,λh=>by omega⟩
   .have hs:(f1++(a1++[]++a3)++f3).Sublist (f1++(a1++a2++a3)++f3):=((qS f1).append (((qS a1).append (nil_sublist a2)).append (qS a3))).append (qS f3);exact lR.2 ⟨λh=>hnd'.1 (hs.subset h),hs.nodup hnd'.2⟩
   .intro x hx;rw[UA];have hin:x∈b::(f1++(a1++a2++a3)++f3):=by simp only[lB,fL,CM,FG]at hx⊢;grind
    refine⟨hF x hin,λhx2=> ?_⟩;have hd:=hnd'.2;simp only[gO,fL]at hd;simp only[lB,fL,CM,FG]at hx;rcases hx with rfl|(hx|hx|hx)|hx
    .exact hnd'.1 (by simp[hx2])
    .exact hd.1.2.2 x hx x (.inl (.inr hx2)) rfl
    .exact hd.1.2.1.1.2.2 x hx x hx2 rfl
    .exact hd.1.2.1.2.2 x (.inr hx2) x hx rfl
    .exact hd.2.2 x (.inr (.inl (.inr hx2))) x hx rfl
  .refine ⟨a2,?_,?_,λx hx=>hx⟩
   .simp only[Env.of,eS,gS];exact Zk.keeps kp (λ_ _=>rfl)
   .have hd:=hnd'.2;simp only[gO]at hd;exact hd.1.2.1.1.2.1
  .obtain ⟨fq,q1,q2,q3⟩:=r.ok j x y h hjl;refine⟨fq,?_,q2,q3⟩;cases hbj:x.box with
   |false=>simp only[hbj,Env.of,eS,gS]at q1⊢;exact q1.keeps kp (λ_ _=>rfl)
   |true=>simp only[hbj,Env.of,gC]at q1⊢;exact(q1.Fz (nb h hbj)).keeps k2' (λ_ _=>rfl)
 .intro j1 j2 x1 x2 y1 y2 z hl1 hl2 v1 v2 hf1 hf2;rcases back hl1 with⟨rfl,rfl,rfl⟩|⟨rfl,rfl,rfl⟩|⟨hj1,h1⟩<;>rcases back hl2 with⟨rfl,rfl,rfl⟩|⟨rfl,rfl,rfl⟩|⟨hj2,h2⟩
  .rfl
  .exact absurd hf2 ((UA z).1 hf1).2
  .exact absurd (r.apart _ _ _ _ _ _ z hlk h2 hl v2 ((UA z).1 hf1).1 hf2).symm hj2
  .exact absurd hf1 ((UA z).1 hf2).2
  .rfl
  .exact absurd (r.apart _ _ _ _ _ _ z hlk h2 hl v2 (hsub2 z hf1) hf2).symm hj2
  .exact absurd (r.apart _ _ _ _ _ _ z h1 hlk v1 hl hf1 ((UA z).1 hf2).1) hj1
  .exact absurd (r.apart _ _ _ _ _ _ z h1 hlk v1 hl hf1 (hsub2 z hf2)) hj1
  .exact r.apart _ _ _ _ _ _ z h1 h2 v1 v2 hf1 hf2
 .intro j x y z hlj hjl hf;rcases back hlj with⟨rfl,rfl,rfl⟩|⟨rfl,rfl,rfl⟩|⟨_,h⟩
  .exact r.fresh _ _ _ z hlk hl ((UA z).1 hf).1
  .exact r.fresh _ _ _ z hlk hl (hsub2 z hf)
  .exact r.fresh _ _ _ z h hjl hf
attribute [simp] Fz xC
def quiet:Op->Bool
 | .move _| .assign _| .load _ _| .fieldAddr _ _ _| .indexAddr _ _ _| .index _ _ _| .extract _ _| .unOp _ _ _| .binOp _ _ _ _ _| .convert _ _ _| .pick _ _ _| .alloc _| .box _ _| .build _ _| .nilCheck _=>true
 | .call ⟨.builtin .len,⟨[_]⟩,⟨[_]⟩⟩=>true
 | .call ⟨.value _,_,_⟩=>true
 |_=>false
def nU(op:Op)(s:AS):Bool:=match op with
 | .buildSlice _ _ parts=>(kC ((parts.toList.map (·.2)).map s.ev)).isEmpty
 | .slice _ x _ _ none=>match s.ev x with
  | .str _=>true
  | .sl _ _ _=>true
  |_=>false
 | .call ⟨.builtin .append,⟨[x,y]⟩,_⟩=>(match s.ev x with| .sl .own _ []=>true|_=>false)&&(match s.ev y with| .sl .own _ []=>true| .sl .view _ _=>true| .str _=>true|_=>false)
 |o=>quiet o
mutual
theorem aDt{o o':List aM}:∀x:AV,lV x=[]->res o x=res o' x/\jJ o x=jJ o' x
 | .obj i v,h=>by simp[lV]at h
 | .agg c,h=>by have:=Hu (o:=o) (o':=o') c (by simpa [lV]using h);simp only[res,jJ,this,FF]
 | .gT c,h=>by have:=Hu (o:=o) (o':=o') c (by simpa [lV]using h);simp only[res,jJ,this,FF]
 | .int _ _,_=>⟨rfl,rfl⟩
 | .bool _,_=>⟨rfl,rfl⟩
 | .str _,_=>⟨rfl,rfl⟩
 | .sl .own _ _,_=>⟨rfl,rfl⟩
 | .sl .view _ _,_=>⟨rfl,rfl⟩
 | .sl (.jZ _) _ _,_=>⟨rfl,rfl⟩
 | .eQ .own _ _,_=>⟨rfl,rfl⟩
 | .eQ .view _ _,_=>⟨rfl,rfl⟩
 | .eQ (.jZ _) _ _,_=>⟨rfl,rfl⟩
 | .ptr _ _ _ _,_=>⟨rfl,rfl⟩
 | .fn _ [],_=>⟨rfl,rfl⟩
 | .fn _ (_::_),_=>⟨rfl,rfl⟩
 | .undef,_=>⟨rfl,rfl⟩
theorem Hu{o o':List aM}:∀c:List AV,kC c=[]->uX o c=uX o' c/\nG o c=nG o' c
 |[],_=>⟨rfl,rfl⟩
 |x::xs,h=>by simp only[kC,append_eq_nil_iff]at h;have h1:=aDt (o:=o) (o':=o') x h.1;have h2:=Hu (o:=o) (o':=o') xs h.2;simp only[uX,nG,h1,h2,FF]
end
theorem K7{o:List aM}:∀{c:List AV},(∀x∈uX o c,x.xX=true)->∀x∈c,x≠ .undef
 |[],_,x,hx=>by cases hx
 |y::ys,h,x,hx=>by
  rcases lB.1 hx with rfl|hx
  .rintro rfl;have:=h .undef (by simp[uX,res]);simp[AV.xX,AV.Ov]at this
  .exact K7 (o:=o) (c:=ys) (λz hz=>h z (by simp[uX,hz])) x hx
def uJ(t:List AV):Option Tmp->AV->List AV
 |some d,x=>t.set d x
 |none,_=>t
theorem put_eq(t:List AV)(o:List aM)(d:Option Tmp)(x:AV):AS.put ⟨t,o⟩ d x=⟨uJ t d x,o⟩:=by cases d<;>rfl
theorem uu:∀{t2 t:List AV} (i:Nat),wk t2 t->t.getD i .undef=t2.getD i .undef\/t.getD i .undef= .undef
 |[],[],_,_=> .inl rfl
 |[],_::_,_,h=>h.elim
 |_::_,[],_,h=>h.elim
 |x::xs,y::ys,0,h=>by simpa [getD]using h.1
 |x::xs,y::ys,i+1,h=>by simpa [getD]using uu i h.2
theorem Ni(t:List AV)(o:List aM)(d:Option Tmp)(c:List AV):AS.box ⟨t,o⟩ d c=⟨uJ t d (.ptr o.length 0 0 0),o++[⟨true,true,c.length,0,[c]⟩]⟩:=put_eq _ _ _ _
theorem Hw(t:List AV)(o:List aM)(d:Option Tmp)(r:AV):AS.called ⟨t,o⟩ d r=⟨uJ t d (dF 1 o.length r).1,o++(dF 1 o.length r).2⟩:=put_eq _ _ _ _
section
variable{t t2:List AV}{o o2:List aM}
theorem VP(hw:wk t2 t)(x:Operand):(AS.ev ⟨t,o⟩ x)=(AS.ev ⟨t2,o2⟩ x)\/(AS.ev ⟨t,o⟩ x)= .undef:=by
 cases x with
 |tmp i=>exact uu i hw
 |const v=>exact .inl rfl
 |func f=>exact .inl rfl
 |global g=>exact .inl rfl
theorem CB(hw:wk t2 t){x:Operand}{y:AV}(h:AS.ev ⟨t,o⟩ x=y)(hy:y≠ .undef):AS.ev ⟨t2,o2⟩ x=y:=by
 rcases VP (o:=o) (o2:=o2) hw x with h'|h'
 .rw [<-h',h]
 .rw [h]at h';exact absurd h' hy
def Sub(o o2:List aM):Prop:=∀(i:Nat) (ob:aM),o[i]? =some ob->ob.live=true->o2[i]? =some ob
theorem zG(hs:Sub o o2){i bV:Nat}{ob:aM}(h:AV.isObj o i bV=some ob):AV.isObj o2 i bV=some ob:=by
 unfold AV.isObj at h⊢;split at h
 .rename_i x hx;split at h
  .rename_i hc;rw[hs _ _ hx hc.1];simp only[hc,FF,gC];exact h
  .cases h
 .cases h
theorem aDu(hs:Sub o o2){i bV idx:Nat}{p:aM×List AV}(h:AS.at ⟨t,o⟩ i bV idx=some p):AS.at ⟨t2,o2⟩ i bV idx=some p:=by
 unfold AS.at at h⊢;split at h
 .rename_i ob h1;simp only[zG hs h1];exact h
 .cases h
theorem BF(hs:Sub o o2){i bV:Nat}(h:(AV.isObj o i bV).isSome=true):(AV.isObj o2 i bV).isSome=true:=by obtain⟨ob,h⟩:=Bm.1 h;rw[zG hs h];rfl
theorem zV(hs:Sub o o2){x:AV}(h:x.fit o=true):x.fit o2=true:=by
 cases x with
 |sl g n l=>
  cases g with
  |jZ i=>
   simp only[AV.fit]at h⊢;split at h
   .rename_i ob wJ;rw[hs _ _ wJ h];exact h
   .cases h
  |_=>rfl
 |eQ g c off=>
  cases g with
  |jZ i=>
   simp only[AV.fit]at h⊢;split at h
   .rename_i ob wJ;rw[hs _ _ wJ h];exact h
   .cases h
  |_=>rfl
 |obj i bV=>simp only[AV.fit]at h⊢;exact BF hs h
 |ptr i bV _ _=>simp only[AV.fit]at h⊢;exact BF hs h
 |undef=>cases h
 |gT _=>cases h
 |_=>rfl
theorem uw{x:AV}(h:x.fit o=true):x≠ .undef:=by rintro rfl;cases h
end
mutual
theorem aIn{o o2:List aM}(hs:Sub o o2):∀(x:AV),arg o x≠ .undef->∀(w:World) (v:Value),R w (oI w) (arg o2 x) v []->R w (oI w) (arg o x) v []
 | .obj i bV,hn,w,v,h=>by
  cases ho:AV.isObj o i bV with
  |none=>exact absurd (by simp only[arg,ho]) hn
  |some ob=>simp only[arg,ho,zG hs ho]at h⊢;exact h
 | .ptr i bV idx off,hn,w,v,h=>by
  cases ho:AV.isObj o i bV with
  |none=>exact absurd (by simp only[arg,ho]) hn
  |some ob=>simp only[arg,ho,zG hs ho]at h⊢;exact h
 | .agg c,_,w,v,h=>by simp only[arg,R]at h⊢;obtain⟨cs,h1,h2,h3⟩:=h;exact⟨cs,h1,h2,DL hs c w cs h3⟩
 | .gT c,_,w,v,h=>by simp only[arg,R]at h⊢;obtain⟨cs,h1,h3⟩:=h;exact⟨cs,h1,DL hs c w cs h3⟩
 | .fn f c,_,w,v,h=>by simp only[arg,R]at h⊢;obtain⟨h0,cs,h1,h3⟩:=h;exact⟨h0,cs,h1,DL hs c w cs h3⟩
 | .int _ _,_,_,_,h=>h
 | .bool _,_,_,_,h=>h
 | .str _,_,_,_,h=>h
 | .sl .own _ _,_,_,_,h=>h
 | .sl .view _ _,_,_,_,h=>h
 | .sl (.jZ i) n l,hn,w,v,h=>by
  cases ho:o[i]? with
  |none=>simp[arg,ho]at hn
  |some ob=>
   by_cases hv:ob.live=true
   .simp only[arg,ho,hs _ _ ho hv]at h⊢;exact h
   .simp [arg,ho,hv]at hn
 | .eQ .own _ _,_,_,_,h=>h
 | .eQ .view _ _,_,_,_,h=>h
 | .eQ (.jZ i) c off,hn,w,v,h=>by
  cases ho:o[i]? with
  |none=>simp[arg,ho]at hn
  |some ob=>
   by_cases hv:ob.live=true
   .simp only[arg,ho,hs _ _ ho hv]at h⊢;exact h
   .simp [arg,ho,hv]at hn
 | .undef,hn,_,_,_=>absurd rfl hn
theorem DL{o o2:List aM}(hs:Sub o o2):∀(c:List AV) (w:World) (cs:List Value),Rc w (oI w) (Cr o2 c) cs []->Rc w (oI w) (Cr o c) cs []
 |[],_,_,h=>h
 |x::xs,w,[],h=>by simp[Cr,Rc]at h
 |x::xs,w,c::cs,h=>by
  simp only[Cr,Rc]at h⊢;obtain⟨f1,f2,h1,h2,e⟩:=h;obtain⟨rfl,rfl⟩:f1=[]/\f2=[]:=by simpa using e
  refine⟨[],[],?_,DL hs xs w cs h2,rfl⟩;by_cases hn:arg o x= .undef
  .rw [hn];simp[R]
  .exact aIn hs x hn w c h1
end
theorem Xx{o:List aM}:∀{a2 a:List AV},wk a2 a->wk (Cr o a2) (Cr o a)
 |[],[],_=>trivial
 |[],_::_,h=>h.elim
 |_::_,[],h=>h.elim
 |x::xs,y::ys,h=>by
  refine⟨?_,Xx h.2⟩;rcases h.1 with rfl|rfl
  .exact .inl rfl
  .exact .inr rfl
theorem K8{t t2:List AV}{o o2:List aM}(hw:wk t2 t)(l:List Operand)(cap:List AV):wk (l.map (AS.ev ⟨t2,o2⟩)++cap) (l.map (AS.ev ⟨t,o⟩)++cap):=by
 induction l with
 |nil=>
  simp only[DE,eM];induction cap with
  |nil=>trivial
  |cons x xs ih=>exact⟨.inl rfl,ih⟩
 |cons x xs ih=>exact⟨VP hw x,ih⟩
theorem Ok.mono{P:Program}[aC P]{f:FuncId}{a a2:List AV}{r:AV}(h:Ok P f a r)(hs:∀w vs,Rc w (oI w) a2 vs []->Rc w (oI w) a vs []):Ok P f a2 r:=
 λw vs hg hr=>h w vs hg (hs w vs hr)
theorem ZG:∀(q k k':Nat) (x:AV),(dF q k x).2=[]->dF q k' x=dF q k x:=by intro q k k' x h;exact(go q k k').1 x h
where
 go (q k k':Nat):(∀x:AV,(dF q k x).2=[]->dF q k' x=dF q k x)/\(∀c:List AV,(fB q k c).2=[]->fB q k' c=fB q k c):=
  ⟨λx=>one x,λc=>all c⟩
 one {q k k':Nat}:∀x:AV,(dF q k x).2=[]->dF q k' x=dF q k x
  | .sl .own n l,h=>by simp[dF]at h
  | .agg c,h=>by simp only[dF]at h⊢;rw[all c h]
  | .gT c,h=>by simp only[dF]at h⊢;rw[all c h]
  | .sl .view _ _,_=>rfl
  | .sl (.jZ _) _ _,_=>rfl
  | .int _ _,_=>rfl
  | .bool _,_=>rfl
  | .str _,_=>rfl
  | .eQ _ _ _,_=>rfl
  | .obj _ _,_=>rfl
  | .ptr _ _ _ _,_=>rfl
  | .fn _ _,_=>rfl
  | .undef,_=>rfl
 all {q k k':Nat}:∀c:List AV,(fB q k c).2=[]->fB q k' c=fB q k c
  |[],_=>rfl
  |x::xs,h=>by
   simp only[fB,append_eq_nil_iff]at h⊢;have h1:=one (k':=k') x h.1;rw[h1];have h2:(dF q k x).2.length=0:=by rw[h.1];rfl
   rw[h2]at h⊢;have h3:=all (k:=k+0) (k':=k'+0) xs h.2;rw[h3]
theorem ED{t2 t:List AV}{o o2:List aM}(hw:wk t2 t){d n:Nat}{x:Option Operand}(h:AS.bound ⟨t,o⟩ d x=some n):AS.bound ⟨t2,o2⟩ d x=some n:=by
 cases x with
 |none=>exact h
 |some x=>
  simp only[AS.bound]at h⊢;split at h
  .rename_i hx;rw[CB (o2:=o2) hw hx (by simp)];exact h
  .cases h
theorem ZH{P:Program}[aC P]{op:Oper}{t t2:List AV}{o o2:List aM}{K:AS->Prop}(q:nU op.op ⟨t,o⟩=true)(hw:wk t2 t)(h:sD P op ⟨t,o⟩ K)(hs:Sub o o2)(AB:o2.length=o.length\/∀s',K s'->s'.o.length=o.length):
  ∃x new x2,K ⟨uJ t op.dst x,o++new⟩/\(x=x2\/x= .undef)/\(o2.length=o.length\/new=[])/\∀K2:AS->Prop,K2 ⟨uJ t2 op.dst x2,o2++new⟩->sD P op ⟨t2,o2⟩ K2:=by
 have same:∀{x:AV},K (AS.put ⟨t,o⟩ op.dst x)->(∀K2:AS->Prop,K2 (AS.put ⟨t2,o2⟩ op.dst x)->sD P op ⟨t2,o2⟩ K2)->
   ∃x new x2,K ⟨uJ t op.dst x,o++new⟩/\(x=x2\/x= .undef)/\(o2.length=o.length\/new=[])/\∀K2:AS->Prop,K2 ⟨uJ t2 op.dst x2,o2++new⟩->sD P op ⟨t2,o2⟩ K2:=by
  intro x h1 h2;refine⟨x,[],x,by rw[fW,<-put_eq];exact h1,.inl rfl,.inr rfl,λK2 hK=>h2 K2 ?_⟩;rw[put_eq];rw[fW]at hK;exact hK
 obtain⟨dst,op,ty,pos,after,gd⟩:=op;have E:∀{x:Operand} {y:AV},AS.ev ⟨t,o⟩ x=y->y≠ .undef->AS.ev ⟨t2,o2⟩ x=y:=λh hy=>CB hw h hy
 unfold sD at h;dsimp only at h q same⊢;split at h;case h_1=>
  rename_i X;refine⟨_,[],AS.ev ⟨t2,o2⟩ X,by rw[put_eq]at h;rw[fW];exact h,VP hw X,.inr rfl,λK2 hK=> ?_⟩;unfold sD;dsimp only;rw[put_eq];rw[fW]at hK;exact hK
 case h_2=>
  rename_i X;refine⟨_,[],AS.ev ⟨t2,o2⟩ X,by rw[put_eq]at h;rw[fW];exact h,VP hw X,.inr rfl,λK2 hK=> ?_⟩;unfold sD;dsimp only;rw[put_eq];rw[fW]at hK;exact hK
 case h_3=>
  split at h
  .rename_i b hc;rename_i X Y _;refine⟨if b then AS.ev ⟨t,o⟩ X else AS.ev ⟨t,o⟩ Y,[],if b then AS.ev ⟨t2,o2⟩ X else AS.ev ⟨t2,o2⟩ Y,by rw[put_eq]at h;rw[fW];exact h,?_,.inr rfl,λK2 hK=> ?_⟩
   .cases b
    .exact VP hw Y
    .exact VP hw X
   .unfold sD;dsimp only;rw[E hc (by simp)];dsimp only;rw[put_eq];rw[fW]at hK;exact hK
  .exact h.elim
 case h_4=>
  split at h
  .rename_i z hz;rcases AB with hlen|AB
   .refine ⟨.ptr o.length 0 0 0,[⟨true,true,z.length,0,[z]⟩],.ptr o.length 0 0 0,by rw[Ni]at h;exact h,.inl rfl,.inl hlen,λK2 hK=> ?_⟩
    unfold sD;dsimp only;rw[hz];dsimp only;rw[Ni,hlen];exact hK
   .have:=AB _ h;rw[Ni]at this;simp at this
  .exact h.elim
 case h_5=>
  rename_i X;obtain⟨h1,h2⟩:=h;have hX:=E (x:=X) rfl (uw h1);rcases AB with hlen|AB
  .refine ⟨.ptr o.length 0 0 0,[⟨true,true,(AS.ev ⟨t,o⟩ X).cells.length,0,[(AS.ev ⟨t,o⟩ X).cells]⟩],.ptr o.length 0 0 0,by rw[Ni]at h2;exact h2,.inl rfl,.inl hlen,λK2 hK=> ?_⟩
   unfold sD;dsimp only;rw[hX];refine⟨zV hs h1,?_⟩;rw[Ni,hlen];exact hK
  .have:=AB _ h2;rw[Ni]at this;simp at this
 case h_6=>
  rename_i T parts;split at h
  .rename_i pl hp;split at h
   .rename_i z0 hz;obtain⟨h1,h⟩:=h;split at h
    .rename_i z hf;have AA:(parts.toList.map λp=>(p.1,AS.ev ⟨t2,o2⟩ p.2))=parts.toList.map λp=>(p.1,AS.ev ⟨t,o⟩ p.2):=
      map_congr_left λp hp=>by rw[E (x:=p.2) rfl (uw (h1 p hp))]
     refine same h λK2 hK=> ?_
     unfold sD;dsimp only;rw[hp];dsimp only;rw[hz];dsimp only;refine⟨λp hp=>by rw[E (x:=p.2) rfl (uw (h1 p hp))];exact zV hs (h1 p hp),?_⟩;rw[AA,hf];exact hK
    .exact h.elim
   .exact h.elim
  .exact h.elim
 case h_7=>
  rename_i T len parts;split at h
  .rename_i e n by' he;obtain⟨k1,k2,k3,k4,k5,k6,k7,k8,h⟩:=h;have hu:kC ((parts.toList.map (·.2)).map (AS.ev ⟨t,o⟩))=[]:=by simpa [nU]using q
   have hL:(parts.toList.map (·.2)).map (AS.ev ⟨t2,o2⟩)=(parts.toList.map (·.2)).map (AS.ev ⟨t,o⟩):=
    map_congr_left λx hx=>E rfl (K7 (λy hy=>(k8 y hy).1) _ (AM.2 ⟨x,hx,rfl⟩))
   have aDv:∀os:List aM,FU [] os=os:=λ_=>rfl
   rcases AB with hlen|AB
   .refine ⟨.obj o.length 1,[⟨true,false,n,1,(uX o ((parts.toList.map (·.2)).map (AS.ev ⟨t,o⟩))).map AV.cells⟩],.obj o.length 1,?_,.inl rfl,.inl hlen,λK2 hK=> ?_⟩
    .unfold AS.built at h;rw[hu,aDv,put_eq]at h;simpa using h
    .unfold sD;dsimp only;rw[he];dsimp only;refine⟨k1,k2,k3,k4,k5,?_⟩;rw[hL];have aDw:=Hu (o:=o) (o':=o2) _ hu;refine⟨by rw[<-aDw.2];exact k6,k7,by rw[<-aDw.1];exact k8,?_⟩;unfold AS.built;dsimp only;rw[hL,hu,aDv,put_eq,hlen,<-aDw.1];simpa [hlen]using hK
   .have:=AB _ h;unfold AS.built at this;rw[hu,aDv,put_eq]at this;simp at this
  .exact h.elim
 case h_8=>
  rename_i T X;split at h
  .rename_i hx;split at h
   .rename_i ob e ha;unfold AX at h;split at h
    .rename_i n hn;refine same h.2 λK2 hK=> ?_
     unfold sD;dsimp only;rw[E hx (by simp)];dsimp only;rw[aDu hs ha];dsimp only;unfold AX;rw[hn];exact⟨h.1,hK⟩
    .rename_i hn;obtain⟨h1,h⟩:=h;split at h
     .rename_i y hy;refine same h λK2 hK=> ?_
      unfold sD;dsimp only;rw[E hx (by simp)];dsimp only;rw[aDu hs ha];dsimp only;unfold AX;rw[hn];dsimp only;rw[hy];exact⟨h1,hK⟩
     .exact h.elim
   .exact h.elim
  .rename_i hx;obtain⟨hf,h⟩:=h;unfold AX at h;split at h
   .rename_i n hn;refine same h.2 λK2 hK=> ?_
    unfold sD;dsimp only;rw[E hx (by simp)];dsimp only;unfold AX;rw[hn];exact⟨zV hs hf,h.1,hK⟩
   .rename_i hn;obtain⟨h1,h⟩:=h;split at h
    .rename_i y hy;refine same h λK2 hK=> ?_
     unfold sD;dsimp only;rw[E hx (by simp)];dsimp only;unfold AX;rw[hn];dsimp only;rw[hy];exact⟨zV hs hf,h1,hK⟩
    .exact h.elim
  .exact h.elim
 case h_9=>cases q
 case h_10=>
  split at h
  .rename_i fo hf;split at h
   .rename_i hx;refine same h.2 λK2 hK=> ?_
    unfold sD;dsimp only;rw[hf];dsimp only;rw[E hx (by simp)];exact⟨BF hs h.1,hK⟩
   .rename_i hx;refine same h.2 λK2 hK=> ?_
    unfold sD;dsimp only;rw[hf];dsimp only;rw[E hx (by simp)];exact⟨zV hs h.1,hK⟩
   .exact h.elim
  .exact h.elim
 case h_11=>
  split at h
  .rename_i hi;obtain⟨h0,h⟩:=h;split at h
   .rename_i hx;split at h
    .rename_i ob ho;split at h
     .rename_i he;refine same h.2.2.2 λK2 hK=> ?_
      unfold sD;dsimp only;rw[E hi (by simp)];dsimp only;rw[E hx (by simp)];dsimp only;rw[zG hs ho];dsimp only;rw[he];exact⟨h0,h.1,h.2.1,h.2.2.1,hK⟩
     .exact h.elim
    .exact h.elim
   .rename_i hx;obtain⟨hf,h⟩:=h;split at h
    .rename_i he;obtain⟨hm,h⟩:=h;split at h
     .rename_i hc;refine same h λK2 hK=> ?_
      unfold sD;dsimp only;rw[E hi (by simp)];dsimp only;rw[E hx (by simp)];dsimp only;rw[he];dsimp only;rw[hc];exact⟨h0,zV hs hf,hm,hK⟩
     .exact h.elim
    .exact h.elim
   .rename_i hx;obtain⟨hso,h⟩:=h;split at h
    .rename_i ha;refine same h.2 λK2 hK=> ?_
     unfold sD;dsimp only;rw[E hi (by simp)];dsimp only;rw[E hx (by simp)];dsimp only;rw[ha];exact⟨h0,BF hs hso,h.1,hK⟩
    .exact h.elim
   .exact h.elim
  .exact h.elim
 case h_12=>
  split at h
  .rename_i hx;split at h
   .rename_i hi;obtain⟨ht,h0,h⟩:=h;split at h
    .rename_i hu;refine same h λK2 hK=> ?_
     unfold sD;dsimp only;rw[E hx (by simp)];dsimp only;rw[E hi (by simp)];dsimp only;rw[hu];exact⟨ht,h0,hK⟩
    .exact h.elim
   .exact h.elim
  .exact h.elim
 case h_13=>
  split at h
  .rename_i hx;split at h
   .rename_i hy;refine same h λK2 hK=> ?_
    unfold sD;dsimp only;rw[E hx (by simp)];dsimp only;rw[hy];exact hK
   .exact h.elim
  .exact h.elim
 case h_14=>cases q
 case h_15=>cases q
 case h_16=>
  split at h
  .rename_i hx;split at h
   .rename_i ha;split at h
    .rename_i hb;obtain⟨h1,h2,h3,h⟩:=h;refine same h λK2 hK=> ?_
     unfold sD;dsimp only;rw[E hx (by simp)];dsimp only;rw[ED hw ha];dsimp only;rw[ED hw hb];exact⟨h1,h2,h3,hK⟩
    .exact h.elim
   .exact h.elim
  .rename_i hx;split at h
   .rename_i ha;split at h
    .rename_i hb;split at h
     .rename_i he;obtain⟨h1,h2,h3,h4,h⟩:=h;refine same h λK2 hK=> ?_
      unfold sD;dsimp only;rw[E hx (by simp)];dsimp only;rw[ED hw ha];dsimp only;rw[ED hw hb];dsimp only;rw[he];exact⟨h1,zV hs h2,h3,h4,hK⟩
     .exact h.elim
    .exact h.elim
   .exact h.elim
  .rename_i hx;simp only[nU,hx]at q;cases q
  .exact h.elim
 case h_17=>
  split at h
  .rename_i hx;refine same h λK2 hK=> ?_
   unfold sD;dsimp only;rw[E hx (by simp)];exact hK
  .exact h.elim
 case h_18=>
  split at h
  .rename_i hx;refine same h λK2 hK=> ?_
   unfold sD;dsimp only;rw[E hx (by simp)];exact hK
  .exact h.elim
 case h_19=>
  split at h
  .rename_i hx;split at h
   .rename_i hy;obtain⟨hk,h⟩:=h;split at h
    .rename_i hz;refine same h λK2 hK=> ?_
     unfold sD;dsimp only;rw[E hx (by simp)];dsimp only;rw[E hy (by simp)];dsimp only;rw[hz];exact⟨hk,hK⟩
    .exact h.elim
   .exact h.elim
  .rename_i hx;split at h
   .rename_i hy;obtain⟨hk,h⟩:=h;split at h
    .rename_i hz;refine same h λK2 hK=> ?_
     unfold sD;dsimp only;rw[E hx (by simp)];dsimp only;rw[E hy (by simp)];dsimp only;rw[hz];exact⟨hk,hK⟩
    .exact h.elim
   .exact h.elim
  .rename_i hx;split at h
   .rename_i hy;refine same h.2.2 λK2 hK=> ?_
    unfold sD;dsimp only;rw[E hx (by simp)];dsimp only;rw[E hy (by simp)];exact⟨h.1,h.2.1,hK⟩
   .exact h.elim
  .rename_i hx;split at h
   .rename_i hy;obtain⟨h1,h2,h3,b,h4,h5⟩:=h;refine same h5 λK2 hK=> ?_
    unfold sD;dsimp only;rw[E hx (by simp)];dsimp only;rw[E hy (by simp)];exact⟨h1,h2,h3,b,h4,hK⟩
   .exact h.elim
  .exact h.elim
 case h_20=>
  split at h
  .rename_i hx;split at h
   .rename_i hk;refine same h.2 λK2 hK=> ?_
    unfold sD;dsimp only;rw[E hx (by simp)];dsimp only;rw[hk];exact⟨h.1,hK⟩
   .exact h.elim
  .rename_i hx;refine same h.2.2 λK2 hK=> ?_
   unfold sD;dsimp only;rw[E hx (by simp)];exact⟨h.1,h.2.1,hK⟩
  .rename_i hx;split at h
   .rename_i he;obtain⟨h1,h2,h3,h4,h5,bs,h6,h7⟩:=h;refine same h7 λK2 hK=> ?_
    unfold sD;dsimp only;rw[E hx (by simp)];dsimp only;rw[he];exact⟨h1,h2,zV hs h3,h4,h5,bs,h6,hK⟩
   .exact h.elim
  .rename_i hx;split at h
   .rename_i ho;split at h
    .rename_i he;obtain⟨h1,h2,h3,h4,bs,h6,h7⟩:=h;refine same h7 λK2 hK=> ?_
     unfold sD;dsimp only;rw[E hx (by simp)];dsimp only;rw[zG hs ho];dsimp only;rw[he];exact⟨h1,h2,h3,h4,bs,h6,hK⟩
    .exact h.elim
   .exact h.elim
  .exact h.elim
 case h_21=>
  split at h
  .rename_i hx;refine same h.2 λK2 hK=> ?_
   unfold sD;dsimp only;rw[E hx (by simp)];exact⟨h.1,hK⟩
  .rename_i hx;refine same h.2.2 λK2 hK=> ?_
   unfold sD;dsimp only;rw[E hx (by simp)];exact⟨zV hs h.1,h.2.1,hK⟩
  .rename_i hx;split at h
   .rename_i ho;refine same h.2 λK2 hK=> ?_
    unfold sD;dsimp only;rw[E hx (by simp)];dsimp only;rw[zG hs ho];exact⟨h.1,hK⟩
   .exact h.elim
  .exact h.elim
 case h_22=>
  rename_i X Y tS xT;simp only[nU,eJ]at q;obtain⟨qx,qy⟩:=q;split at h
  .rename_i e n by' he;obtain⟨k1,k2,h⟩:=h;split at qx
   .rename_i m hx;have hx2:=E hx (by simp);rw[hx]at h;simp only[AS.target]at h;have aMn:∀(y:AV),AS.ev ⟨t,o⟩ Y=y->y≠ .undef->(match y with| .sl .own _ []=>true| .sl .view _ _=>true| .str _=>true|_=>false)=true->∀l2 o',AS.source ⟨t,o++[⟨true,false,n,0,[]⟩]⟩ o.length n y=some (l2,o')->
      o'=o++[⟨true,false,n,0,[]⟩]/\AS.source ⟨t2,o2++[⟨true,false,n,0,[]⟩]⟩ o2.length n (AS.ev ⟨t2,o2⟩ Y)=some (l2,o2++[⟨true,false,n,0,[]⟩]):=by
     intro y hy hne hk l2 o' ZI;rw[E hy hne];split at hk
     .simp only[AS.source,eC,oR]at ZI⊢;exact⟨ZI.2.symm,ZI.1,trivial⟩
     .simp only[AS.source]at ZI⊢;split at ZI
      .rename_i hm;simp only[eC,oR]at ZI;rw[eK hm];exact⟨ZI.2.symm,by rw[ZI.1]⟩
      .cases ZI
     .simp only[AS.source]at ZI⊢;split at ZI
      .rename_i hm;simp only[eC,oR]at ZI;rw[eK hm];exact⟨ZI.2.symm,by rw[ZI.1]⟩
      .cases ZI
     .cases hk
    split at h
    .rename_i l2 o' ZI;obtain⟨h1,h2,h⟩:=h;obtain⟨rfl,hs2⟩:=aMn _ rfl (by rintro hu;rw[hu]at qy;simp at qy) qy _ _ ZI;have e1:(o++[(⟨true,false,n,0,[]⟩:aM)]).set o.length ⟨true,false,n,0+1,[]++l2⟩=o++[⟨true,false,n,0+1,[]++l2⟩]:=by rw[sY _ _ (eE _)];simp
     have e2:(o2++[(⟨true,false,n,0,[]⟩:aM)]).set o2.length ⟨true,false,n,0+1,[]++l2⟩=o2++[⟨true,false,n,0+1,[]++l2⟩]:=by rw[sY _ _ (eE _)];simp
     unfold AS.yB at h;dsimp only at h;rw[e1,put_eq]at h;rcases AB with hlen|AB
     .refine ⟨.obj o.length (0+1),[⟨true,false,n,0+1,[]++l2⟩],.obj o.length (0+1),h,.inl rfl,.inl hlen,λK2 hK=> ?_⟩
      unfold sD;dsimp only;rw[he];dsimp only;refine⟨k1,k2,?_⟩;rw[hx2];simp only[AS.target];rw[hs2];dsimp only;refine⟨h1,h2,?_⟩;unfold AS.yB;dsimp only;rw[e2,put_eq,hlen];exact hK
     .have:=AB _ h;simp at this
    .exact h.elim
   .cases qx
  .exact h.elim
 case h_23=>
  rename_i F args tys;split at h
  .rename_i g cap hf;split at h
   .rename_i h1;obtain⟨r,h2,h3⟩:=h;have nR:Ok P g (Cr o2 (AS.args ⟨t2,o2⟩ args++cap)) r:=h2.mono λw vs hr=>
     FZ (Xx (K8 (o:=o) (o2:=o2) hw args.toList cap)) (DL hs _ w vs hr)
    rcases AB with hlen|AB
    .refine ⟨(dF 1 o.length r).1,(dF 1 o.length r).2,(dF 1 o.length r).1,by rw[Hw]at h3;exact h3,.inl rfl,.inl hlen,λK2 hK=> ?_⟩
     unfold sD;dsimp only;rw[E hf (by simp)];dsimp only;rw[eK h1];refine⟨r,nR,?_⟩;rw[Hw,hlen];exact hK
    .have hn:=AB _ h3;simp only[Hw,eR]at hn;have hn':(dF 1 o.length r).2=[]:=lO (by omega);have ha:=ZG 1 o.length o2.length r hn';refine⟨(dF 1 o.length r).1,[],(dF 1 o.length r).1,?_,.inl rfl,.inr rfl,λK2 hK=> ?_⟩
     .rw [Hw,hn']at h3;exact h3
     .unfold sD;dsimp only;rw[E hf (by simp)];dsimp only;rw[eK h1];refine⟨r,nR,?_⟩;unfold AS.called;rw[ha,hn',put_eq];simpa using hK
   .rename_i h1;obtain⟨r,h2,h3⟩:=h;refine same h3 λK2 hK=> ?_
    unfold sD;dsimp only;rw[E hf (by simp)];dsimp only;rw[cX h1];exact⟨r,λw vs hr=>h2 w vs (FZ (Xx (K8 (o:=o) (o2:=o2) hw args.toList cap)) (DL hs _ w vs hr)),hK⟩
  .exact h.elim
 case h_24=>
  split at h
  .rename_i hx;refine same h.2 λK2 hK=> ?_
   unfold sD;dsimp only;rw[E hx (by simp)];exact⟨BF hs h.1,hK⟩
  .rename_i hx;refine same h.2 λK2 hK=> ?_
   unfold sD;dsimp only;rw[E hx (by simp)];exact⟨zV hs h.1,hK⟩
  .exact h.elim
 case h_25=>exact h.elim
end Go.Aw
