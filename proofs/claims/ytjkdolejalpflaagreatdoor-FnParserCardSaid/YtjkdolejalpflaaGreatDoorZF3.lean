/- Proved here: steps towards the statement of this claim. No condition. -/
import Derived.Test.YtjkdolejalpflaaGreatDoorZF9
set_option linter.all false
namespace Go.Aw
open List
def kR(s s':AS):Prop:=∀⦃P:Program⦄ [aB P] (B:eP P) a w,Rel B s a w->Rel B s' a w
def sK(K:AS->Prop)(Q:Exit->AS->Prop):Exit->AS->Prop
 | .normal,s=>K s
 |e,s=>Q e s
def Ve(id:Nat)(Q:Exit->AS->Prop):Exit->AS->Prop
 | .exit O6,s=>if O6=id then Q .normal s else Q (.exit O6) s
 |e,s=>Q e s
def lift{P:Program}[aB P](B:eP P)(Q:Exit->AS->Prop):Exit->Act->World->Prop:=λe a w=>∃s,Q e s/\Rel B s a w
def Sd(want:Bool):AV->AV
 | .fH []=> .bool (!want)
 |x=>x
@[simp] theorem aAl(w b:Bool):Sd w (.bool b)= .bool b:=rfl
@[simp] theorem aCf(w:Bool):Sd w (.fH [])= .bool (!w):=rfl
theorem af{w b:Bool}{x:AV}(h:Sd w x= .bool b):(x= .fH []/\b= !w)\/x= .bool b:=by
 unfold Sd at h;split at h
 .exact .inl ⟨rfl,(AV.bool.inj h).symm⟩
 .exact .inr h
theorem Vf(w:World)(E:Env):R w E (.fH []) undef []:=by simp only[R];exact⟨[],rfl,by simp[Rc]⟩
def mE(all:List Oper)(s:AS)(j:Nat)(want:Bool):AV:=match all[j]? with
 |some o=>match o.dst with
  |some d=>Sd want (s.t.getD d .undef)
  |none=> .undef
 |none=> .undef
def IA(P:Program)[aB P](o:Oper)(s:AS)(K:AS->Prop):Prop:=
 match o.op with
 | .call ⟨.value f,⟨x::ys⟩,_⟩=>match s.ev f with
  | .fn g []=>bJ P g=true/\(ys.all λy=>(s.ev y).KP)=true/\gG s.o (s.ev x)=true/\(iB (s.ev x)).Nodup/\∃x' r,OkM P g (res s.o (s.ev x)) x' (ys.map s.ev) r/\(r.wY=true\/r= .fH [])/\mt s.o (s.ev x) x'=true/\K (s.PR o.dst (s.ev x) x' r)
  |_=>False
 | .convert src d x=>match s.ev x with
  | .str l=>match nK P d with
   |some (e,m,_)=>isString P src=true/\m=1/\intType P e=some .u8/\l.length<=9223372036854775807/\K (s.made o.dst 1 (aR l))
   |none=>False
  |_=>False
 |_=>False
theorem Sg{P:Program}[aB P]{B:eP P}{o:Oper}{s:AS}{K:AS->Prop}(h:IA P o s K):∃s',K s'/\Step P B o s s':=by
 obtain⟨dst,op,ty,pos,after,gd⟩:=o;unfold IA at h;dsimp only at h;split at h
 .split at h
  .rename_i hf;obtain⟨h1,h2,h3,h4,x',r,h5,h6,h7,h8⟩:=h;exact⟨_,h8,ZP _ _ _ _ hf h1 h2 h6 h3 h4 h7 h5⟩
  .exact h.elim
 .split at h
  .rename_i hx;split at h
   .rename_i he;obtain⟨h1,rfl,h2,h3,h4⟩:=h;exact⟨_,h4,UZ _ _ _ hx h1 he h2 h3⟩
   .exact h.elim
  .exact h.elim
 .exact h.elim
def Si(P:Program)[aB P](o:Oper)(s:AS)(K:AS->Prop):Prop:=
 match o.op with
 | .call ⟨.value f,args,_⟩=>match s.ev f with
  | .fn g []=>bJ P g=true/\∃gs r,UD P g gs r/\(takes s.o (s.args args) gs).Nodup/\handed s.o (takes s.o (s.args args) gs) (s.args args) gs/\K (s.given o.dst (s.args args) gs r)
  |_=>False
 |_=>False
theorem Vg{P:Program}[aB P]{B:eP P}{o:Oper}{s:AS}{K:AS->Prop}(h:Si P o s K):∃s',K s'/\Step P B o s s':=by
 obtain⟨dst,op,ty,pos,after,gd⟩:=o;unfold Si at h;dsimp only at h;split at h
 .split at h
  .rename_i hf;obtain⟨h1,gs,r,h2,h3,h4,h5⟩:=h;exact⟨_,h5,XM _ _ _ hf h1 h3 h4 h2⟩
  .exact h.elim
 .exact h.elim
theorem kR.refl(s:AS):kR s s:=λ_ _ _ _ _ h=>h
theorem kR.trans{a b c:AS}(h:kR a b)(k:kR b c):kR a c:=λ_ _ B x w r=>k B x w (h B x w r)
def Dj(P:Program)[aB P](o:Oper)(s:AS)(K:AS->Prop):Prop:=∃s1,kR s s1/\(nL P o s1 K\/IA P o s1 K\/Si P o s1 K)
theorem KY{P:Program}[aB P]{B:eP P}{o:Oper}{s:AS}{K:AS->Prop}(h:Dj P o s K):∃s',K s'/\Step P B o s s':=by
 obtain⟨s1,hw,h⟩:=h;obtain⟨s',hK,hst⟩:∃s',K s'/\Step P B o s1 s':=by
  rcases h with h|h|h
  .exact wP h
  .exact Sg h
  .exact Vg h
 exact⟨s',hK,λa w next Q hr hn=>hst a w next Q (hw B a w hr) hn⟩
theorem aAm{P:Program}[aB P]{o:Oper}{s:AS}{K:AS->Prop}(h:IA P o s K):Dj P o s K:=⟨s,kR.refl s,.inr (.inl h)⟩
theorem aAn{P:Program}[aB P]{o:Oper}{s:AS}{K:AS->Prop}(h:Si P o s K):Dj P o s K:=⟨s,kR.refl s,.inr (.inr h)⟩
theorem aAo{P:Program}[aB P]{o:Oper}{s:AS}{K:AS->Prop}(h:aAj P o s K):Dj P o s K:=by
 unfold aAj at h;split at h
 .split at h
  .split at h
   .rename_i ob qX;exact⟨_,λ_ _ B a w hr=>WN qX h.1 hr,.inl h.2⟩
   .exact h.elim
  .exact h.elim
 .exact h.elim
theorem ag{P:Program}[aB P]{o:Oper}{s s1:AS}{K:AS->Prop}(hw:kR s s1)(h:nL P o s1 K\/Dj P o s1 K):Dj P o s K:=by
 rcases h with h|⟨s2,hw2,h⟩
 .exact ⟨s1,hw,.inl h⟩
 .exact ⟨s2,hw.trans hw2,h⟩
def Dy(P:Program)[aB P](o:Oper)(s:AS)(K:AS->Prop):Prop:=∃s1,kR s s1/\KX P o s1 K
theorem IB{P:Program}[aB P]{B:eP P}{o:Oper}{s:AS}{K:AS->Prop}(h:Dy P o s K)(a:Act)(w:World)(next:Act->World->Prop)(X:Exit->Act->World->Prop)(hr:Rel B s a w)
  (hn:∀a' w' s',K s'->Rel B s' a' w'->next a' w'):o.wp P a w next X:=by
 obtain⟨s1,hw,h⟩:=h;exact Vd h a w next X (hw B a w hr) hn
def gV(P:Program)[aB P](all:List Oper):List Oper->AS->(AS->Prop)->Prop
 |[],s,K=>K s
 |o::r,s,K=>match o.guard with
  |none=>(nL P o s λs'=>gV P all r s' K)\/(Dj P o s λs'=>gV P all r s' K)\/(Dy P o s λs'=>gV P all r s' K)
  |some (j,want)=>match mE all s j want with
   | .bool b=>(b=want->(nL P o s λs'=>gV P all r s' K)\/(Dj P o s λs'=>gV P all r s' K)\/(Dy P o s λs'=>gV P all r s' K))/\(b≠want->gV P all r (s.put o.dst (.fH [])) K)
   |_=>False
def KZ(P:Program)[aB P](ops:Array Oper)(s:AS)(K:AS->Prop):Prop:=
 ∀(B:eP P) a w (Q:Exit->Act->World->Prop),Rel B s a w->(∀a' w' s',K s'->Rel B s' a' w'->Q .normal a' w')->
  wpAny P .any ops Q ops.size (Array.replicate ops.size false) a {w with drawn:=w.drawn+1}
def kY(P:Program)[aB P]:Code->AS->(Exit->AS->Prop)->Prop
 | .skip,s,Q=>Q .normal s
 | .region _ ops false,s,Q=>∃s2,kR s s2/\gV P ops.toList ops.toList s2 (Q .normal)
 | .region _ ops true,s,Q=>KZ P ops s (Q .normal)
 | .seq x y,s,Q=>kY P x s (sK (λs'=>kY P y s' Q) Q)
 | .cond c x y,s,Q=>match s.ev c with
  | .bool b=>(b=true->kY P x s Q)/\(b=false->kY P y s Q)
  |_=>False
 | .block id c,s,Q=>kY P c s (Ve id Q)
 | .loop c,s,Q=>∃(ι:Type) (inv:ι->AS) (μ:ι->Nat) (i:ι),kR s (inv i)/\∀i,kY P c (inv i) (sK (λs'=>∃j,kR s' (inv j)/\μ j<μ i) Q)
 | .exit id,s,Q=>Q (.exit id) s
 | .ret,s,Q=>Q .ret s
 |_,_,_=>False
theorem La{P:Program}[aB P]{B:eP P}{s:AS}{G:List CO}{a:Act}{w:World}(r:bU B s G a w){all:List Oper}{j:Nat}{b want:Bool}(h:mE all s j want= .bool b):(yielded all.toArray a.tmps j == some want)=(b == want):=by
 unfold mE at h;split at h
 .rename_i o ho;split at h
  .rename_i d hd;have h1:=r.ev (.tmp d);simp only[AS.ev]at h1;rcases af h with⟨h0,rfl⟩|h0
   .rw [h0]at h1;simp only[R]at h1;obtain⟨cs,h2,h3⟩:=h1;cases cs with
    |cons=>simp[Rc]at h3
    |nil=>
     simp only[Act.eval]at h2;rw[eV]at h2;cases hg:a.tmps[d]? with
     |none=>simp[yielded,ho,hd,hg]
     |some v=>simp[hg]at h2;subst h2;simp[yielded,ho,hd,hg]
   .rw [h0]at h1;simp only[R]at h1;have h2:=h1.1;simp only[Act.eval]at h2;rw[eV]at h2;cases hg:a.tmps[d]? with
    |none=>simp[hg]at h2;cases h2
    |some v=>simp[hg]at h2;subst h2;simp[yielded,ho,hd,hg]
  .cases h
 .cases h
theorem AA{P:Program}[aB P]{B:eP P}{all:List Oper}{Q:Exit->Act->World->Prop}:∀(l:List Oper) (s:AS) (K:AS->Prop),gV P all l s K->∀a w,Rel B s a w->(∀a' w' s',K s'->Rel B s' a' w'->Q .normal a' w')->wpList P all.toArray Q l a w
 |[],s,K,h,a,w,r,hk=>hk _ _ _ h r
 |o::l,s,K,h,a,w,r,hk=>by
  simp only[gV]at h;have stepped:((nL P o s λs'=>gV P all l s' K)\/(Dj P o s λs'=>gV P all l s' K)\/(Dy P o s λs'=>gV P all l s' K))->Region.wanted o (yielded all.toArray a.tmps)=true->wpList P all.toArray Q (o::l) a w:=by
   intro h hw;simp only[wpList,hw,eI];by_cases hcu:Dy P o s λs'=>gV P all l s' K
   .exact .inl (IB hcu a w _ Q r λa' w' s' h' r'=>AA l s' K h' a' w' r' hk)
   obtain⟨s',h',hst⟩:∃s',gV P all l s' K/\Step P B o s s':=by
    rcases h with h|h|h
    .exact wP (B:=B) h
    .exact KY (B:=B) h
    .exact (hcu h).elim
   exact .inl (hst a w _ Q r λa' w' r'=>AA l s' K h' a' w' r' hk)
  split at h
  .rename_i hg;exact stepped h (by simp[Region.wanted,hg])
  .rename_i j want hg;split at h
   .rename_i b hb;obtain⟨G,r'⟩:=r;have hy:=La r' hb;by_cases hbw:b=want
    .exact stepped (h.1 hbw) (by simp[Region.wanted,hg,hy,hbw])
    .have hw:Region.wanted o (yielded all.toArray a.tmps)=false:=by simp[Region.wanted,hg,hy,hbw]
     simp only[wpList,hw,cJ,eK];exact AA l _ K (h.2 hbw) _ _ ⟨G,r'.put o.dst (Vf _ _)⟩ hk
   .exact h.elim
theorem PT{ι:Type}(p:ι->Prop)(μ:ι->Nat)(h:∃i,p i):∃i,p i/\∀j,p j->μ i<=μ j:=by
 obtain⟨i,hi⟩:=h;generalize hn:μ i=n;induction n using Nat.strongRecOn generalizing i with
 |_ n ih=>
  by_cases hex:∃j,p j/\μ j<n
  .obtain ⟨j,hj,hlt⟩:=hex;exact ih (μ j) hlt j hj rfl
  .refine ⟨i,hi,λj hj=> ?_⟩
   rw[hn];exact Nat.le_of_not_lt λhlt=>hex ⟨j,hj,hlt⟩
open Classical in
noncomputable def least{ι:Type}(p:ι -> Prop)(μ:ι -> Nat): Nat := if h:∃ i, p i then μ (PT p μ h).choose else 0
theorem least_le{ι:Type}{p:ι->Prop}{μ:ι->Nat}{j:ι}(h:p j):least p μ<=μ j:=by have hex:∃i,p i:=⟨j,h⟩;unfold least;rw[dif_pos hex];exact(PT p μ hex).choose_spec.2 j h
theorem ah{ι:Type}{p:ι->Prop}{μ:ι->Nat}(h:∃i,p i):∃i,p i/\least p μ=μ i:=by refine⟨(PT p μ h).choose,(PT p μ h).choose_spec.1,?_⟩;unfold least;rw[dif_pos h]
theorem lC{P:Program}[aB P](hm:P.follows .mixedOrders=true){B:eP P}:∀(c:Code) (s:AS) (Q:Exit->AS->Prop),kY P c s Q->∀a w,Rel B s a w->c.wp P (lift B Q) a w
 | .skip,s,Q,h,a,w,r=>wp_skip ⟨s,h,r⟩
 | .region id ops false,s,Q,⟨s2,hw,h⟩,a,w,r=>wp_region_list (by
   have:=AA (Q:=lift B Q) ops.toList s2 (Q .normal) h a w (hw B a w r) (λa' w' s' h' r'=>⟨s',h',r'⟩);simpa using this)
 | .region id ops true,s,Q,h,a,w,r=>wp_region_any hm (h B a w (lift B Q) r λa' w' s' h' r'=>⟨s',h',r'⟩)
 | .seq x y,s,Q,h,a,w,r=>wp_seq (CN (lC hm x s _ h a w r) λe a' w' he=>by
   obtain⟨s',h',r'⟩:=he;cases e with
   |normal=>exact lC hm y s' Q h' a' w' r'
   |_=>exact⟨s',h',r'⟩)
 | .cond c x y,s,Q,h,a,w,r=>by
  simp only[kY]at h;split at h
  .rename_i b hb;obtain⟨G,r'⟩:=r;exact wp_cond_split (r'.RF hb) (λhb=>lC hm x s Q (h.1 hb) a w ⟨G,r'⟩) (λhb=>lC hm y s Q (h.2 hb) a w ⟨G,r'⟩)
  .exact h.elim
 | .block id c,s,Q,h,a,w,r=>wp_block (CN (lC hm c s _ h a w r) λe a' w' he=>by
   obtain⟨s',h',r'⟩:=he;cases e with
   |exit O6=>
    simp only[Ve]at h';simp only[Exit.inBlock];split at h'
    .rename_i hid;rw[eA hid];exact⟨s',h',r'⟩
    .rename_i hid;rw[cU hid];exact⟨s',h',r'⟩
   |_=>exact⟨s',h',r'⟩)
 | .loop c,s,Q,h,a,w,r=>by
  obtain⟨ι,inv,μ,i,h0,hr⟩:=h;refine wp_loop (λa w=>∃i,Rel B (inv i) a w) (λa w=>least (λi=>Rel B (inv i) a w) μ) ⟨i,h0 B a w r⟩ λa w hex=> ?_
  obtain⟨i,hi,aHk⟩:=ah (μ:=μ) hex;refine CN (lC hm c (inv i) _ (hr i) a w hi) λe a' w' he=> ?_
  obtain⟨s',h',r'⟩:=he;cases e with
  |normal=>obtain⟨j,hw,hlt⟩:=h';have hj:=hw B a' w' r';refine⟨⟨j,hj⟩,?_⟩;rw[aHk];exact Nat.lt_of_le_of_lt (least_le hj) hlt
  |_=>exact⟨s',h',r'⟩
 | .exit id,s,Q,h,a,w,r=>wp_exit ⟨s,h,r⟩
 | .ret,s,Q,h,a,w,r=>wp_ret ⟨s,h,r⟩
 | .rangeFunc _ _ _ _,_,_,h,_,_,_=>by simp[kY]at h
 | .scope _,_,_,h,_,_,_=>by simp[kY]at h
 | .label _,_,_,h,_,_,_=>by simp[kY]at h
 | .goto _,_,_,h,_,_,_=>by simp[kY]at h
 | .refuse _,_,_,h,_,_,_=>by simp[kY]at h
def AS.rv(P:Program)(s:AS):ResultVar->Option AV
 | .tmp t=>some (s.t.getD t .undef)
 | .cell t ty=>match s.t.getD t .undef with
  | .ptr i ver idx off=>match s.at i ver idx with
   |some (_,e)=>match iZ P ty with
    |some n=>if off+n<=e.length then some (.agg (((pM (Ao i) true e).drop off).take n))else none
    |none=>if mO P ty then(pM (Ao i) true e)[off]? else none
   |none=>none
  |_=>none
def Br(a:Act):ResultVar->Sem Value
 | .tmp t=>pure (a.tmps.getD t Go.undef)
 | .cell t ty=>do loadVar ty (<-asAddr (a.tmps.getD t Go.undef))
theorem Ey(fn:Func)(a:Act):results fn a.tmps=(do let vs<-fn.results.mapM (Br a);pure (if h:vs.size=1 then vs[0]else .tuple vs)):=by unfold results;congr 1;all_goals (congr 1;all_goals (funext x;cases x<;>rfl))
theorem aAp{P:Program}[aB P]{B:eP P}{s:AS}{G:List CO}{a:Act}{w:World}(r:bU B s G a w){rv:ResultVar}{x:AV}(h:s.rv P rv=some x):
  ∃v,(Br a rv).run P w= .ok v w/\R w (env B s.o G w) x v []:=by
 cases rv with
 |tmp t=>simp only[AS.rv,cQ]at h;subst h;exact⟨a.tmps.getD t Go.undef,rfl,r.ev (.tmp t)⟩
 |cell t ty=>
  simp only[AS.rv]at h;split at h
  .rename_i i ver idx off hx;split at h
   .rename_i ob e ha;obtain⟨ho,he⟩:=yB ha;obtain⟨g,b,f,hl,hlive,hga,hv⟩:=r.ptr (x:= .tmp t) hx ho;obtain⟨b',f',cs,uB,hcn,hc,hone,rF⟩:=r.elem hl hlive he;rw[hga]at uB;simp only[cQ,lA,mN]at uB;obtain⟨rfl,rfl⟩:=uB;have hle:=eG rF;rw[Ap]at hle;simp only[Act.eval]at hv;split at h
    .rename_i n hn;split at h
     .rename_i hfit;obtain rfl:=cD h;refine⟨.agg ((cs.drop off).take n).toArray,?_,by simp only[R];exact⟨_,rfl,CK hone,Ko off n rF⟩⟩;have:=pV (P:=P) (t:=ty) (k:=off) (n:=n) (cs:=cs) hn (by omega) hc;simp only[Instr.loadAt,Instr.sureAddr,pure_bind]at this;simp[Br,hv,asAddr,<-mA,this]
     .cases h
    .split at h
     .rename_i aDs;obtain⟨v,hv',hR⟩:=Gx rF h;refine⟨v,?_,hR⟩;have:=sS (P:=P) (t:=ty) aDs hv' hc;simp only[Instr.loadAt,Instr.sureAddr,pure_bind]at this;simp[Br,hv,asAddr,<-mA,this]
     .cases h
   .cases h
  .cases h
def AS.wI(P:Program)(s:AS):List ResultVar->Option (List AV)
 |[]=>some []
 |x::xs=>match s.rv P x with
  |some y=>match AS.wI P s xs with
   |some ys=>some (y::ys)
   |none=>none
  |none=>none
def single:List AV->AV
 |[x]=>x
 |xs=> .fH xs
def aT(P:Program)(fn:Func)(s:AS)(r:AV):Prop:=
 ∃ys,s.wI P fn.results.toList=some ys/\gG s.o (single ys)=true/\(iB (single ys)).Nodup/\res s.o (single ys)=r/\clean r=true
theorem Fx{P:Program}[aB P]{B:eP P}{s:AS}{G:List CO}{a:Act}{w:World}(r:bU B s G a w):∀{l:List ResultVar} {ys:List AV},s.wI P l=some ys->
  ∃vs,(l.mapM (m:=Sem) (Br a)).run P w= .ok vs w/\Rc w (env B s.o G w) ys vs []
 |[],ys,h=>by simp only[AS.wI,cQ]at h;subst h;exact⟨[],by simp,by simp[Rc]⟩
 |x::xs,ys,h=>by
  simp only[AS.wI]at h;split at h
  .rename_i y hy;split at h
   .rename_i ys' Dk;obtain rfl:=cD h;obtain⟨v,h1,h2⟩:=aAp r hy;obtain⟨vs,h3,h4⟩:=Fx r Dk;refine⟨v::vs,?_,by simp only[Rc];exact⟨[],[],h2,h4,rfl⟩⟩;simp only[mapM_cons,mC];rw[h1];simp only[iS];rw[h3];simp
   .cases h
  .cases h
theorem oF{P:Program}[aB P]{B:eP P}{s:AS}{G:List CO}{a:Act}{w:World}(r:bU B s G a w){fn:Func}{ys:List AV}(h:s.wI P fn.results.toList=some ys):
  ∃v,(results fn a.tmps).run P w= .ok v w/\R w (env B s.o G w) (single ys) v []:=by
 obtain⟨vs,h1,h2⟩:=Fx r h;have hl:=eG h2;have hm:(fn.results.mapM (m:=Sem) (Br a)).run P w= .ok vs.toArray w:=by rw[Bm];simp only[Sem.run_map];rw[h1];rfl
 rw[Ey];simp only[mC];rw[hm];simp only[iS,sR];match ys,vs,hl,h2 with
 |[y],[v],_,h2=>
  refine⟨v,by simp,?_⟩;simp only[Rc]at h2;obtain⟨f1,f2,h3,_,e⟩:=h2;obtain⟨rfl,_⟩:f1=[]/\f2=[]:=by simpa using e
  exact h3
 |[],[],_,h2=>exact⟨.tuple #[],by simp,by simp only[single,R];exact⟨[],rfl,h2⟩⟩
 |y1::y2::ys,v1::v2::vs,_,h2=>exact⟨.tuple (v1::v2::vs).toArray,by simp,by simp only[single,R];exact⟨_,rfl,h2⟩⟩
theorem Ot{P:Program}[aB P](hm:P.follows .mixedOrders=true){f:FuncId}{fn:Func}{c:Code}(hf:P.funcs[f]? =some fn)(hb:fn.body=some c){args:List AV}{rr:AV}
  (h:kY P c ⟨args++replicate (fn.ntmps-args.length) .undef,[]⟩ (λe s=>(e= .normal\/e= .ret)/\aT P fn s rr)):Ok P f args rr:=by
 intro w vs hg hargs;have hl:=eG hargs;have r0:bU ⟨w,λb=>b<w.heap.size,λ_=>False,λ_=>none,λ_=>none,hg,λ_ h=>h.elim,λ_ h=>h.elim⟩ ⟨args++replicate (fn.ntmps-args.length) .undef,[]⟩ [] {tmps:=vs.toArray++Array.replicate (fn.ntmps-vs.toArray.size) Go.undef,defers:=[]} w:=by
  refine⟨rfl,rfl,λi ob g hl=>by simp[look]at hl,λi j oi oj gi gj b hl=>by simp[look]at hl,λi ob g b hl=>by simp[look]at hl,?_,cX _,λ_ _ _=>rfl,λb hb=>hb,iW.rfl⟩;have h1:Rc w (env ⟨w,λb=>b<w.heap.size,λ_=>False,λ_=>none,λ_=>none,hg,λ_ h=>h.elim,λ_ h=>h.elim⟩ [] [] w) args vs []:=dC (w:=w) (w':=w) (E:=lI w) (E':=env ⟨w,λb=>b<w.heap.size,λ_=>False,λ_=>none,λ_=>none,hg,λ_ h=>h.elim,λ_ h=>h.elim⟩ [] [] w) ⟨λb hb=>⟨⟨.inl hb,λi ob g hl=>by simp[look]at hl⟩,rfl⟩,λ_ _=>trivial,λ_ _ _ h=>by exact h.elim,λ_ _ _ h=>by exact h.elim,λ_ _ _ _ _ h=>by exact h.elim⟩ _ _ _ (by simp) hargs;have h2:∀n,Rc w (env ⟨w,λb=>b<w.heap.size,λ_=>False,λ_=>none,λ_=>none,hg,λ_ h=>h.elim,λ_ h=>h.elim⟩ [] [] w) (replicate n .undef) (replicate n Go.undef) []:=by
   intro n;induction n with
   |zero=>simp[Rc]
   |succ n ih=>simp only[lB,Rc];exact⟨[],[],by simp[R],ih,rfl⟩
  have:=gK h1 (h2 (fn.ntmps-args.length));simpa [hl]using this
 refine AT hf hb (CN (lC hm c _ _ h _ _ ⟨_,r0⟩) λe a w' he=> ?_);obtain⟨s,⟨he,ys,Dk,qD,hu,mD,Ip⟩,G,r⟩:=he;obtain⟨v,hrun,hR⟩:=oF r Dk;obtain⟨fp,h1,h2,h3⟩:=Bp r _ v qD hu hR;rw[mD]at h1;have hfin:∃v' fp,Ending.returned v= .returned v'/\R w' (wV w.heap.size w' fp) rr v' fp/\fp.Nodup/\(∀b∈fp,w.heap.size<=b/\b<w'.heap.size)/\w.heap.size<=w'.heap.size/\(∀b,b<w.heap.size->w'.heap[b]? =w.heap[b]?)/\iW w w':=by refine⟨v,fp,rfl,M6 <| JU (E:=(env _ s.o G w').plain) (λ_ _=>trivial) rfl rfl rfl _ _ _ Ip h1,h2,λb hb=> ?_,r.size,λb hb=>r.frame b hb (λh=>h),r.same⟩;obtain⟨i,ob,g,_,hl,hlive,hF⟩:=h3 b hb;have:=r.fresh _ _ _ b hl hlive hF;exact⟨this.1.resolve_left (λh=>h),this.2⟩
 rcases he with rfl|rfl
 .exact ⟨r.defs,v,hrun,hfin⟩
 .exact ⟨r.defs,v,hrun,hfin⟩
theorem Fy{P:Program}[aB P]{all:List Oper}{s:AS}{K:AS->Prop}(h:K s):gV P all [] s K:=h
theorem Lb{P:Program}[aB P]{id:Nat}{l:List Oper}{s:AS}{Q:Exit->AS->Prop}(h:gV P l l s (Q .normal)):kY P (.region id l.toArray false) s Q:=by simp only[kY];exact⟨s,kR.refl s,h⟩
theorem AB{P:Program}[aB P]{id:Nat}{ops:Array Oper}{s s2:AS}{Q:Exit->AS->Prop}(hw:kR s s2)(h:kY P (.region id ops false) s2 Q):kY P (.region id ops false) s Q:=by simp only[kY]at h⊢;obtain⟨s3,h1,h2⟩:=h;exact⟨s3,hw.trans h1,h2⟩
theorem Lc{P:Program}[aB P]{c:Operand}{x y:Code}{s:AS}{Q:Exit->AS->Prop}{b:Bool}(hc:s.ev c= .bool b)(h1:b=true->kY P x s Q)(h2:b=false->kY P y s Q):kY P (.cond c x y) s Q:=by simp only[kY,hc];exact⟨h1,h2⟩
theorem Ou{P:Program}[aB P]{id:Nat}{c:Code}{s:AS}{Q:Exit->AS->Prop}(h:kY P c s (Ve id Q)):kY P (.block id c) s Q:=h
theorem Sj{P:Program}[aB P]{id:Nat}{s:AS}{Q:Exit->AS->Prop}(h:Q (.exit id) s):kY P (.exit id) s Q:=h
theorem WO{P:Program}[aB P]{s:AS}{Q:Exit->AS->Prop}(h:Q .ret s):kY P .ret s Q:=h
theorem Sk{P:Program}[aB P]{s:AS}{Q:Exit->AS->Prop}(h:Q .normal s):kY P .skip s Q:=h
theorem ai{P:Program}[aB P]{c:Code}{s:AS}{Q:Exit->AS->Prop}{ι:Type}(inv:ι->AS)(μ:ι->Nat)(i:ι)(h0:kR s (inv i))(h:∀i,∀K:AS->Prop,(∀s' j,kR s' (inv j)->μ j<μ i->K s')->kY P c (inv i) (sK K Q)):kY P (.loop c) s Q:=
 ⟨ι,inv,μ,i,h0,λi=>h i _ λ_ j h1 h2=>⟨j,h1,h2⟩⟩
theorem Fz{K:AS->Prop}{Q:Exit->AS->Prop}{s:AS}(h:Q .ret s):sK K Q .ret s:=h
theorem Dz{K:AS->Prop}{Q:Exit->AS->Prop}{s:AS}{id:Nat}(h:Q (.exit id) s):sK K Q (.exit id) s:=h
theorem DC{Q:Exit->AS->Prop}{s:AS}{id:Nat}(h:Q .normal s):Ve id Q .normal s:=h
theorem Ld{Q:Exit->AS->Prop}{s:AS}{id:Nat}(h:Q .ret s):Ve id Q .ret s:=h
theorem Ov{Q:Exit->AS->Prop}{s:AS}{id:Nat}(h:Q .normal s):Ve id Q (.exit id) s:=by simpa [Ve]using h
theorem Ow{Q:Exit->AS->Prop}{s:AS}{id O6:Nat}(hne:O6≠id)(h:Q (.exit O6) s):Ve id Q (.exit O6) s:=by simpa [Ve,hne]using h
def wk:List AV->List AV->Prop
 |[],[]=>True
 |x::xs,y::ys=>(y=x\/y= .undef)/\wk xs ys
 |_,_=>False
theorem FC{w:World}{E:Env}:∀{t t':List AV} {vs:List Value},wk t t'->Rc w E t vs []->Rc w E t' vs []
 |[],[],_,_,h=>h
 |[],_::_,_,h,_=>h.elim
 |_::_,[],_,h,_=>h.elim
 |_::_,_::_,[],_,h=>by simp[Rc]at h
 |x::xs,y::ys,v::vs,h,hr=>by
  simp only[Rc]at hr⊢;obtain⟨f1,f2,h1,h2,e⟩:=hr;obtain⟨rfl,rfl⟩:f1=[]/\f2=[]:=by simpa using e
  refine⟨[],[],?_,FC h.2 h2,rfl⟩;rcases h.1 with rfl|rfl
  .exact h1
  .simp [R]
theorem PU{t t':List AV}{o:List aD}(h:wk t t'):kR ⟨t,o⟩ ⟨t',o⟩:=by rintro P _ B a w ⟨G,r⟩;exact⟨G,{r with tmps:=FC h r.tmps}⟩
theorem wrap64(n:Int)(h1: -9223372036854775808<=n)(h2:n<=9223372036854775807):IntKind.i64.wrap n=n:=by rw[yW];omega
theorem vJ{k:Nat}(h:(k:Int)<=9223372036854775806:=by omega):IntKind.i64.wrap ((k:Int)+1)=((k+1:Nat):Int):=by rw[wrap64]<;>omega
mutual
def fU:AV->Nat
 | .sl .own _ _=>1
 | .agg c=>bZ c
 | .fH c=>bZ c
 |_=>0
def bZ:List AV->Nat
 |[]=>0
 |x::xs=>fU x+bZ xs
end
mutual
def fO(q k:Nat):AV->AV
 | .sl .own _ _=> .obj k q
 | .agg c=> .agg (cB q k c)
 | .fH c=> .fH (cB q k c)
 | .int a b=> .int a b
 | .bool b=> .bool b
 | .str s=> .str s
 | .sl g n l=> .sl g n l
 | .eF g c off=> .eF g c off
 | .obj i v=> .obj i v
 | .ptr i v j o=> .ptr i v j o
 | .fn f c=> .fn f c
 | .undef=> .undef
def cB(q k:Nat):List AV->List AV
 |[]=>[]
 |x::xs=>fO q k x::cB q (k+fU x) xs
end
mutual
def fI(q:Nat):AV->List aD
 | .sl .own n l=>[⟨true,false,n,q,l⟩]
 | .agg c=>bS q c
 | .fH c=>bS q c
 | .int _ _=>[]
 | .bool _=>[]
 | .str _=>[]
 | .sl _ _ _=>[]
 | .eF _ _ _=>[]
 | .obj _ _=>[]
 | .ptr _ _ _ _=>[]
 | .fn _ _=>[]
 | .undef=>[]
def bS(q:Nat):List AV->List aD
 |[]=>[]
 |x::xs=>fI q x++bS q xs
end
mutual
theorem IC(q:Nat):∀x:AV,(fI q x).length=fU x
 | .sl .own _ _=>rfl
 | .sl .view _ _=>rfl
 | .sl (.iF _) _ _=>rfl
 | .agg c=>AJ q c
 | .fH c=>AJ q c
 | .int _ _=>rfl
 | .bool _=>rfl
 | .str _=>rfl
 | .eF _ _ _=>rfl
 | .obj _ _=>rfl
 | .ptr _ _ _ _=>rfl
 | .fn _ _=>rfl
 | .undef=>rfl
theorem AJ(q:Nat):∀c:List AV,(bS q c).length=bZ c
 |[]=>rfl
 |x::xs=>by simp only[bS,bZ,eJ,IC q x,AJ q xs]
end
mutual
theorem aQ(q k:Nat):∀x:AV,bV q k x=(fO q k x,fI q x)
 | .sl .own _ _=>rfl
 | .sl .view _ _=>rfl
 | .sl (.iF _) _ _=>rfl
 | .agg c=>by simp only[bV,fO,fI,aM q k c]
 | .fH c=>by simp only[bV,fO,fI,aM q k c]
 | .int _ _=>rfl
 | .bool _=>rfl
 | .str _=>rfl
 | .eF _ _ _=>rfl
 | .obj _ _=>rfl
 | .ptr _ _ _ _=>rfl
 | .fn _ _=>rfl
 | .undef=>rfl
theorem aM(q k:Nat):∀c:List AV,dM q k c=(cB q k c,bS q c)
 |[]=>rfl
 |x::xs=>by simp only[dM,cB,bS,aQ q k x,aM q _ xs,IC]
end
attribute [simp] wk AS.ev AS.put AS.box AS.shut AV.fit AV.cells AV.isObj AS.at AS.stored wB Zq rt pM iL AV.kept Ao Eh AS.args arg xV AS.called fO cB fI bS fU bZ aQ aM AS.target AS.source AS.zS AS.KE AS.bound AS.made KA PO aD.kill
  AV.Io AV.Gw AV.known AV.scalar CQ CQ.go AS.built qY BJ jB iB qE res gG lZ Iw clean zC iH single AS.rv AS.wI mE sK Ve AV.nd UQ RQ UR iV AV.wY
attribute [irreducible] kY gV sK Ve
theorem OC{P:Program}[aB P]{t:TypeId}{c:List AV}{off:Nat}{K1 K2:AV->Prop}(hk:∀y,K1 y->K2 y)(h:wB P t c off K1):wB P t c off K2:=by
 unfold wB at*;split at h
 .exact ⟨h.1,hk _ h.2⟩
 .refine ⟨h.1,?_⟩;have:=h.2;split at this
  .exact hk _ this
  .exact this.elim
theorem Qc{P:Program}[aB P]{o:Oper}{s:AS}{K1 K2:AS->Prop}(hk:∀s',K1 s'->K2 s')(h:nL P o s K1):nL P o s K2:=by
 obtain⟨dst,op,ty,pos,after,gd⟩:=o;unfold nL at h⊢;dsimp only at h⊢;split at h;all_goals (repeat' (split at h))
 all_goals (first
  |exact h.elim
  |exact hk _ h
  |exact⟨h.1,hk _ h.2⟩
  |((repeat (refine⟨h.1,?_⟩;replace h:=h.2));exact hk _ h)
  |exact OC (λy=>hk _) h
  |exact⟨h.1,OC (λy=>hk _) h.2⟩
  |(obtain⟨r,h1,h2⟩:=h;exact⟨r,h1,hk _ h2⟩)
  |((repeat (refine⟨h.1,?_⟩;replace h:=h.2));obtain⟨r,h1,h2⟩:=h;exact⟨r,h1,hk _ h2⟩)
  |((repeat (refine⟨h.1,?_⟩;replace h:=h.2));split at h<;>first|exact hk _ h|((repeat (refine⟨h.1,?_⟩;replace h:=h.2));exact hk _ h)|exact h.elim)
  |((repeat (refine⟨h.1,?_⟩;replace h:=h.2));(repeat' (split at h))<;>first|exact h.elim|((repeat (refine⟨h.1,?_⟩;replace h:=h.2));exact hk _ h)|((repeat (refine⟨h.1,?_⟩;replace h:=h.2));obtain⟨r,h1,h2⟩:=h;exact⟨r,h1,hk _ h2⟩))
  |(have h9:=hk _ h;simp_all;done)
  |((first|rw[eA (by assumption)]|rw[cU (by assumption)]);((repeat (refine⟨h.1,?_⟩;replace h:=h.2));exact hk _ h))
  |((first|rw[eA (by assumption)]|rw[cU (by assumption)]);((repeat (refine⟨h.1,?_⟩;replace h:=h.2));obtain⟨r,h1,h2⟩:=h;exact⟨r,h1,hk _ h2⟩))
  |((repeat (refine⟨h.1,?_⟩;replace h:=h.2));obtain⟨r,h1,h2⟩:=h;refine⟨r,h1,?_⟩;(first|rw[eA (by assumption)]|rw[cU (by assumption)]);exact hk _ h2))
theorem Yf{P:Program}[aB P]{o:Oper}{s:AS}{K1 K2:AS->Prop}(hk:∀s',K1 s'->K2 s')(h:IA P o s K1):IA P o s K2:=by
 obtain⟨dst,op,ty,pos,after,gd⟩:=o;unfold IA at h⊢;dsimp only at h⊢;split at h
 .split at h
  .obtain ⟨h1,h2,h3,h4,x',r,h5,h6,h7,h8⟩:=h;exact⟨h1,h2,h3,h4,x',r,h5,h6,h7,hk _ h8⟩
  .exact h.elim
 .split at h
  .split at h
   .obtain ⟨h1,h2,h3,h4,h5⟩:=h;exact⟨h1,h2,h3,h4,hk _ h5⟩
   .exact h.elim
  .exact h.elim
 .exact h.elim
theorem jh{P:Program}[aB P]{o:Oper}{s:AS}{K1 K2:AS->Prop}(hk:∀s',K1 s'->K2 s')(h:Si P o s K1):Si P o s K2:=by
 obtain⟨dst,op,ty,pos,after,gd⟩:=o;unfold Si at h⊢;dsimp only at h⊢;split at h
 .split at h
  .obtain ⟨h1,gs,r,h2,h3,h4,h5⟩:=h;exact⟨h1,gs,r,h2,h3,h4,hk _ h5⟩
  .exact h.elim
 .exact h.elim
theorem SN{P:Program}[aB P]{o:Oper}{s:AS}{K1 K2:AS->Prop}(hk:∀s',K1 s'->K2 s')(h:Dj P o s K1):Dj P o s K2:=by obtain⟨s1,hw,h⟩:=h;exact⟨s1,hw,h.imp (Qc hk) (Or.imp (Yf hk) (jh hk))⟩
theorem ji{P:Program}[aB P]{o:Oper}{s:AS}{K1 K2:AS->Prop}(hk:∀s',K1 s'->K2 s')(h:KX P o s K1):KX P o s K2:=by
 obtain⟨dst,op,ty,pos,after,gd⟩:=o;unfold KX at h⊢;dsimp only at h⊢;split at h
 .split at h
  .obtain ⟨hc,⟨x,zs,k,ver,code,i,h',Q,h0,h1,h2,h3,h4,h5,h6⟩|⟨x,code,h0,h1,h2,h3⟩|⟨Q,h1,h2⟩|⟨x,y,zs,k,ver,code,xv,i,h',Q,h0,h1,h2,h3,h7,h4,h5,h6⟩⟩:=h
   .exact ⟨hc,.inl ⟨x,zs,k,ver,code,i,h',Q,h0,h1,h2,h3,h4,h5,λr i' h' hq hi=>hk _ (h6 r i' h' hq hi)⟩⟩
   .exact ⟨hc,.inr (.inl ⟨x,code,h0,h1,h2,λi h hi=>hk _ (h3 i h hi)⟩)⟩
   .exact ⟨hc,.inr (.inr (.inl ⟨Q,h1,λr hq=>hk _ (h2 r hq)⟩))⟩
   .exact ⟨hc,.inr (.inr (.inr ⟨x,y,zs,k,ver,code,xv,i,h',Q,h0,h1,h2,h3,h7,h4,h5,λr i' h' hq hi=>hk _ (h6 r i' h' hq hi)⟩))⟩
  .exact h.elim
 .exact h.elim
theorem OD{P:Program}[aB P]{o:Oper}{s:AS}{K1 K2:AS->Prop}(hk:∀s',K1 s'->K2 s')(h:Dy P o s K1):Dy P o s K2:=by obtain⟨s1,hw,h⟩:=h;exact⟨s1,hw,ji hk h⟩
abbrev aX:=List UInt8
def bM{α:Type}(f:α->Nat):List α->Nat
 |[]=>0
 |x::xs=>f x+bM f xs
def dL{α:Type}(f:α->Nat)(l:List α):Nat:=l.length+bM f l
def sub(n:Int)(k:Nat):Int:=if n<k then -1 else n-k
theorem BR{α:Type}(f:α->Nat):∀(l:List α) (k:Nat) (h:k<l.length),bM f (l.take (k+1))=bM f (l.take k)+f l[k]
 |x::xs,0,_=>by simp[bM]
 |x::xs,k+1,h=>by simp only[kO,bM,getElem_cons_succ];rw[BR f xs k (by simpa using h)];omega
theorem AL{α:Type}(f:α->Nat):∀(l:List α) (k:Nat),bM f (l.take k)<=bM f l
 |[],k=>by simp
 |x::xs,0=>by simp[bM]
 |x::xs,k+1=>by simp only[kO,bM];have:=AL f xs k;omega
def O7(z:List AV)(xs:List (List AV))(k:Nat):List (List AV):=xs.take k++replicate (xs.length-k) z
@[simp] theorem zg(z:List AV)(xs:List (List AV))(k:Nat):(O7 z xs k).length=xs.length:=by simp[O7];omega
@[simp] theorem dE{α:Type}(f:α->List AV)(h:∀x,zC (f x)=true):∀l:List α,iH (l.map f)=true
 |[]=>rfl
 |x::xs=>by simp only[mS,iH,h x,AH];exact dE f h xs
theorem bB{α:Type}{f g:α->List AV}{t:Tg->Option Tg}{b:Bool}(h:∀x,pM t b (f x)=g x):∀l:List α,iL t b (l.map f)=l.map g
 |[]=>rfl
 |x::xs=>by simp only[mS,iL,h x,bB h xs]
theorem gM{α:Type}(f:α->Nat)(l:List α)(k:Nat)(h:k<l.length):f l[k]<=bM f l:=by have h1:=BR f l k h;have h2:=AL f l (k+1);omega
theorem eY{α:Type}(f:α->Nat){l:List α}{x:α}(h:x∈l):f x<=bM f l:=by obtain⟨k,hk,rfl⟩:=getElem_of_mem h;exact gM f l k hk
@[simp] def nP(n:Int):List AV:=[.int .i64 n]
@[simp] def aJd(n:Bool):List AV:=[.bool n]
@[simp] def dR(s:aX):List AV:=[.str s]
def dG(s:aX):Nat:=s.length
@[simp] theorem aDx(t:Tg->Option Tg)(b:Bool)(l:List Int):iL t b (l.map nP)=l.map nP:=bB (by intro x;rfl) l
@[simp] theorem aDy(t:Tg->Option Tg)(b:Bool)(l:List aX):iL t b (l.map dR)=l.map dR:=bB (by intro x;rfl) l
@[simp] theorem Le(l:List Int):iH (l.map nP)=true:=dE _ (by intro x;rfl) l
@[simp] theorem aAt(l:List aX):iH (l.map dR)=true:=dE _ (by intro x;rfl) l
structure gH where
  host:aX
  path:aX
deriving DecidableEq
@[simp] def dI(x:gH):List AV:=[.str x.host,.str x.path]
def eB(x:gH):Nat:=x.host.length+x.path.length
@[simp] theorem aCh(t:Tg->Option Tg)(b:Bool)(l:List gH):iL t b (l.map dI)=l.map dI:=bB (by intro x;rfl) l
@[simp] theorem Q7(l:List gH):iH (l.map dI)=true:=dE _ (by intro x;rfl) l
structure lD where
  name:aX
  value:aX
deriving DecidableEq
@[simp] def oG(x:lD):List AV:=[.str x.name,.str x.value]
def mF(x:lD):Nat:=x.name.length+x.value.length
@[simp] theorem aCi(t:Tg->Option Tg)(b:Bool)(l:List lD):iL t b (l.map oG)=l.map oG:=bB (by intro x;rfl) l
@[simp] theorem Q8(l:List lD):iH (l.map oG)=true:=dE _ (by intro x;rfl) l
structure bD where
  kind:Int
  name:aX
  attrs:List lD
  text:aX
deriving DecidableEq
@[simp] def bE(g:Tg)(x:bD):List AV:=[.int .i64 x.kind,.str x.name,.sl g 2 (x.attrs.map oG),.str x.text]
def bF(x:bD):Nat:=x.name.length+(dL mF x.attrs)+x.text.length
@[simp] theorem uy(g:Tg)(b:Bool)(l:List bD):iL (λ_=>some .view) b (l.map (bE g))=l.map (bE .view):=bB (by intro x;simp) l
@[simp] theorem bu(i:Nat)(b:Bool)(l:List bD):iL (Ao i) b (l.map (bE .own))=l.map (bE (.iF i)):=bB (by intro x;simp) l
@[simp] theorem bz(i:Nat)(b:Bool)(l:List bD):iL (Ao i) b (l.map (bE .view))=l.map (bE .view):=bB (by intro x;simp) l
@[simp] theorem cz(i j:Nat)(b:Bool)(l:List bD):iL (Ao i) b (l.map (bE (.iF j)))=l.map (bE (.iF j)):=bB (by intro x;simp) l
@[simp] theorem df(b:Bool)(l:List bD):iL Eh b (l.map (bE .own))=l.map (bE .view):=bB (by intro x;simp) l
@[simp] theorem dh(b:Bool)(l:List bD):iL Eh b (l.map (bE .view))=l.map (bE .view):=bB (by intro x;simp) l
@[simp] theorem nD(l:List bD):iH (l.map (bE .own))=true:=dE _ (by intro x;simp) l
structure jH where
  rest:aX
deriving DecidableEq
@[simp] def bW(x:jH):List AV:=[.str x.rest]
def nE(x:jH):Nat:=x.rest.length
@[simp] theorem di(t:Tg->Option Tg)(b:Bool)(l:List jH):iL t b (l.map bW)=l.map bW:=bB (by intro x;rfl) l
@[simp] theorem XU(l:List jH):iH (l.map bW)=true:=dE _ (by intro x;rfl) l
structure gQ where
  name:aX
  text:aX
  parent:Int
  attrs:List lD
deriving DecidableEq
@[simp] def dK(g:Tg)(x:gQ):List AV:=[.str x.name,.str x.text,.int .i64 x.parent,.sl g 2 (x.attrs.map oG)]
def lJ(x:gQ):Nat:=x.name.length+x.text.length+(dL mF x.attrs)
@[simp] theorem zm(g:Tg)(b:Bool)(l:List gQ):iL (λ_=>some .view) b (l.map (dK g))=l.map (dK .view):=bB (by intro x;simp) l
@[simp] theorem uz(i:Nat)(b:Bool)(l:List gQ):iL (Ao i) b (l.map (dK .own))=l.map (dK (.iF i)):=bB (by intro x;simp) l
@[simp] theorem ve(i:Nat)(b:Bool)(l:List gQ):iL (Ao i) b (l.map (dK .view))=l.map (dK .view):=bB (by intro x;simp) l
@[simp] theorem vg(i j:Nat)(b:Bool)(l:List gQ):iL (Ao i) b (l.map (dK (.iF j)))=l.map (dK (.iF j)):=bB (by intro x;simp) l
@[simp] theorem vk(b:Bool)(l:List gQ):iL Eh b (l.map (dK .own))=l.map (dK .view):=bB (by intro x;simp) l
@[simp] theorem vo(b:Bool)(l:List gQ):iL Eh b (l.map (dK .view))=l.map (dK .view):=bB (by intro x;simp) l
@[simp] theorem Q9(l:List gQ):iH (l.map (dK .own))=true:=dE _ (by intro x;simp) l
structure aV where
  nodes:List gQ
  opens:List Int
deriving DecidableEq
@[simp] def aH(g:Tg)(x:aV):List AV:=[.sl g 4 (x.nodes.map (dK g)),.sl g 1 (x.opens.map nP)]
def aF(x:aV):Nat:=(dL lJ x.nodes)+x.opens.length
@[simp] theorem YV(g:Tg)(b:Bool)(l:List aV):iL (λ_=>some .view) b (l.map (aH g))=l.map (aH .view):=bB (by intro x;simp) l
@[simp] theorem XV(i:Nat)(b:Bool)(l:List aV):iL (Ao i) b (l.map (aH .own))=l.map (aH (.iF i)):=bB (by intro x;simp) l
@[simp] theorem XW(i:Nat)(b:Bool)(l:List aV):iL (Ao i) b (l.map (aH .view))=l.map (aH .view):=bB (by intro x;simp) l
@[simp] theorem XX(i j:Nat)(b:Bool)(l:List aV):iL (Ao i) b (l.map (aH (.iF j)))=l.map (aH (.iF j)):=bB (by intro x;simp) l
@[simp] theorem XY(b:Bool)(l:List aV):iL Eh b (l.map (aH .own))=l.map (aH .view):=bB (by intro x;simp) l
@[simp] theorem XZ(b:Bool)(l:List aV):iL Eh b (l.map (aH .view))=l.map (aH .view):=bB (by intro x;simp) l
@[simp] theorem dm(l:List aV):iH (l.map (aH .own))=true:=dE _ (by intro x;simp) l
structure Bt where
  name:aX
  color:Int
deriving DecidableEq
@[simp] def vL(x:Bt):List AV:=[.str x.name,.int .i64 x.color]
@[simp] theorem aCj(t:Tg->Option Tg)(b:Bool)(l:List Bt):iL t b (l.map vL)=l.map vL:=bB (by intro x;rfl) l
@[simp] theorem S9(l:List Bt):iH (l.map vL)=true:=dE _ (by intro x;rfl) l
structure eT where
  rules:List Bt
deriving DecidableEq
@[simp] def cZ(g:Tg)(x:eT):List AV:=[.sl g 2 (x.rules.map vL)]
@[simp] theorem vz(g:Tg)(b:Bool)(l:List eT):iL (λ_=>some .view) b (l.map (cZ g))=l.map (cZ .view):=bB (by intro x;simp) l
@[simp] theorem dn(i:Nat)(b:Bool)(l:List eT):iL (Ao i) b (l.map (cZ .own))=l.map (cZ (.iF i)):=bB (by intro x;simp) l
@[simp] theorem dw(i:Nat)(b:Bool)(l:List eT):iL (Ao i) b (l.map (cZ .view))=l.map (cZ .view):=bB (by intro x;simp) l
@[simp] theorem dx(i j:Nat)(b:Bool)(l:List eT):iL (Ao i) b (l.map (cZ (.iF j)))=l.map (cZ (.iF j)):=bB (by intro x;simp) l
@[simp] theorem dz(b:Bool)(l:List eT):iL Eh b (l.map (cZ .own))=l.map (cZ .view):=bB (by intro x;simp) l
@[simp] theorem ek(b:Bool)(l:List eT):iL Eh b (l.map (cZ .view))=l.map (cZ .view):=bB (by intro x;simp) l
@[simp] theorem zn(l:List eT):iH (l.map (cZ .own))=true:=dE _ (by intro x;simp) l
structure iA where
  op:Int
  text:aX
deriving DecidableEq
@[simp] def jO(x:iA):List AV:=[.int .i64 x.op,.str x.text]
@[simp] theorem aCk(t:Tg->Option Tg)(b:Bool)(l:List iA):iL t b (l.map jO)=l.map jO:=bB (by intro x;rfl) l
@[simp] theorem T9(l:List iA):iH (l.map jO)=true:=dE _ (by intro x;rfl) l
structure dS where
  isSet:Bool
  iC:List aX
  jY:List aX
  jZ:List aX
  pX:aX
deriving DecidableEq
@[simp] def bG(g:Tg)(x:dS):List AV:=[.bool x.isSet,.sl g 1 (x.iC.map dR),.sl g 1 (x.jY.map dR),.sl g 1 (x.jZ.map dR),.str x.pX]
def dD(x:dS):Nat:=(dL dG x.iC)+(dL dG x.jY)+(dL dG x.jZ)+x.pX.length
@[simp] theorem eu(g:Tg)(b:Bool)(l:List dS):iL (λ_=>some .view) b (l.map (bG g))=l.map (bG .view):=bB (by intro x;simp) l
@[simp] theorem YW(i:Nat)(b:Bool)(l:List dS):iL (Ao i) b (l.map (bG .own))=l.map (bG (.iF i)):=bB (by intro x;simp) l
@[simp] theorem YX(i:Nat)(b:Bool)(l:List dS):iL (Ao i) b (l.map (bG .view))=l.map (bG .view):=bB (by intro x;simp) l
@[simp] theorem YY(i j:Nat)(b:Bool)(l:List dS):iL (Ao i) b (l.map (bG (.iF j)))=l.map (bG (.iF j)):=bB (by intro x;simp) l
@[simp] theorem YZ(b:Bool)(l:List dS):iL Eh b (l.map (bG .own))=l.map (bG .view):=bB (by intro x;simp) l
@[simp] theorem Za(b:Bool)(l:List dS):iL Eh b (l.map (bG .view))=l.map (bG .view):=bB (by intro x;simp) l
@[simp] theorem wh(l:List dS):iH (l.map (bG .own))=true:=dE _ (by intro x;simp) l
structure dB where
  status:Int
  kind:Int
  body:aX
  zo:Int
  shares:Bool
  bC:aX
deriving DecidableEq
@[simp] def iD(x:dB):List AV:=[.int .i64 x.status,.int .i64 x.kind,.str x.body,.int .i64 x.zo,.bool x.shares,.str x.bC]
def gP(x:dB):Nat:=x.body.length+x.bC.length
@[simp] theorem wm(t:Tg->Option Tg)(b:Bool)(l:List dB):iL t b (l.map iD)=l.map iD:=bB (by intro x;rfl) l
@[simp] theorem Zb(l:List dB):iH (l.map iD)=true:=dE _ (by intro x;rfl) l
structure fK where
  kind:Int
  to:gH
  U0:aX
  digest:aX
deriving DecidableEq
@[simp] def fV(x:fK):List AV:=[.int .i64 x.kind,.str x.to.host,.str x.to.path,.str x.U0,.str x.digest]
def lF(x:fK):Nat:=(eB x.to)+x.U0.length+x.digest.length
@[simp] theorem zq(t:Tg->Option Tg)(b:Bool)(l:List fK):iL t b (l.map fV)=l.map fV:=bB (by intro x;rfl) l
@[simp] theorem fe(l:List fK):iH (l.map fV)=true:=dE _ (by intro x;rfl) l
structure WX where
  path:aX
  response:dB
deriving DecidableEq
@[simp] def WY(x:WX):List AV:=[.str x.path,.int .i64 x.response.status,.int .i64 x.response.kind,.str x.response.body,.int .i64 x.response.zo,.bool x.response.shares,.str x.response.bC]
@[simp] theorem aCl(t:Tg->Option Tg)(b:Bool)(l:List WX):iL t b (l.map WY)=l.map WY:=bB (by intro x;rfl) l
@[simp] theorem U6(l:List WX):iH (l.map WY)=true:=dE _ (by intro x;rfl) l
structure wJ where
  host:aX
  files:List WX
deriving DecidableEq
@[simp] def pY(g:Tg)(x:wJ):List AV:=[.str x.host,.sl g 7 (x.files.map WY)]
@[simp] theorem fu(g:Tg)(b:Bool)(l:List wJ):iL (λ_=>some .view) b (l.map (pY g))=l.map (pY .view):=bB (by intro x;simp) l
@[simp] theorem Zc(i:Nat)(b:Bool)(l:List wJ):iL (Ao i) b (l.map (pY .own))=l.map (pY (.iF i)):=bB (by intro x;simp) l
@[simp] theorem Zd(i:Nat)(b:Bool)(l:List wJ):iL (Ao i) b (l.map (pY .view))=l.map (pY .view):=bB (by intro x;simp) l
@[simp] theorem Ze(i j:Nat)(b:Bool)(l:List wJ):iL (Ao i) b (l.map (pY (.iF j)))=l.map (pY (.iF j)):=bB (by intro x;simp) l
@[simp] theorem Zf(b:Bool)(l:List wJ):iL Eh b (l.map (pY .own))=l.map (pY .view):=bB (by intro x;simp) l
@[simp] theorem Zg(b:Bool)(l:List wJ):iL Eh b (l.map (pY .view))=l.map (pY .view):=bB (by intro x;simp) l
@[simp] theorem wo(l:List wJ):iH (l.map (pY .own))=true:=dE _ (by intro x;simp) l
structure PW where
  top:aX
  to:gH
  response:dB
  til:Int
deriving DecidableEq
@[simp] def Lf(x:PW):List AV:=[.str x.top,.str x.to.host,.str x.to.path,.int .i64 x.response.status,.int .i64 x.response.kind,.str x.response.body,.int .i64 x.response.zo,.bool x.response.shares,.str x.response.bC,.int .i64 x.til]
@[simp] theorem aAu(t:Tg->Option Tg)(b:Bool)(l:List PW):iL t b (l.map Lf)=l.map Lf:=bB (by intro x;rfl) l
@[simp] theorem zt(l:List PW):iH (l.map Lf)=true:=dE _ (by intro x;rfl) l
structure AP where
  entries:List PW
deriving DecidableEq
@[simp] def uJ(g:Tg)(x:AP):List AV:=[.sl g 10 (x.entries.map Lf)]
@[simp] theorem wu(g:Tg)(b:Bool)(l:List AP):iL (λ_=>some .view) b (l.map (uJ g))=l.map (uJ .view):=bB (by intro x;simp) l
@[simp] theorem fw(i:Nat)(b:Bool)(l:List AP):iL (Ao i) b (l.map (uJ .own))=l.map (uJ (.iF i)):=bB (by intro x;simp) l
@[simp] theorem gm(i:Nat)(b:Bool)(l:List AP):iL (Ao i) b (l.map (uJ .view))=l.map (uJ .view):=bB (by intro x;simp) l
@[simp] theorem gy(i j:Nat)(b:Bool)(l:List AP):iL (Ao i) b (l.map (uJ (.iF j)))=l.map (uJ (.iF j)):=bB (by intro x;simp) l
@[simp] theorem gz(b:Bool)(l:List AP):iL Eh b (l.map (uJ .own))=l.map (uJ .view):=bB (by intro x;simp) l
@[simp] theorem ib(b:Bool)(l:List AP):iL Eh b (l.map (uJ .view))=l.map (uJ .view):=bB (by intro x;simp) l
@[simp] theorem zu(l:List AP):iH (l.map (uJ .own))=true:=dE _ (by intro x;simp) l
structure WZ where
  top:aX
  to:gH
  aDz:Bool
deriving DecidableEq
@[simp] def Xa(x:WZ):List AV:=[.str x.top,.str x.to.host,.str x.to.path,.bool x.aDz]
@[simp] theorem aCm(t:Tg->Option Tg)(b:Bool)(l:List WZ):iL t b (l.map Xa)=l.map Xa:=bB (by intro x;rfl) l
@[simp] theorem U7(l:List WZ):iH (l.map Xa)=true:=dE _ (by intro x;rfl) l
structure Sv where
  zw:List wJ
  cache:AP
  log:List WZ
  now:Int
deriving DecidableEq
@[simp] def GV(g:Tg)(x:Sv):List AV:=[.sl g 2 (x.zw.map (pY g)),.sl g 10 (x.cache.entries.map Lf),.sl g 4 (x.log.map Xa),.int .i64 x.now]
@[simp] theorem U8(g:Tg)(b:Bool)(l:List Sv):iL (λ_=>some .view) b (l.map (GV g))=l.map (GV .view):=bB (by intro x;simp) l
@[simp] theorem zx(i:Nat)(b:Bool)(l:List Sv):iL (Ao i) b (l.map (GV .own))=l.map (GV (.iF i)):=bB (by intro x;simp) l
@[simp] theorem zy(i:Nat)(b:Bool)(l:List Sv):iL (Ao i) b (l.map (GV .view))=l.map (GV .view):=bB (by intro x;simp) l
@[simp] theorem zz(i j:Nat)(b:Bool)(l:List Sv):iL (Ao i) b (l.map (GV (.iF j)))=l.map (GV (.iF j)):=bB (by intro x;simp) l
@[simp] theorem A7(b:Bool)(l:List Sv):iL Eh b (l.map (GV .own))=l.map (GV .view):=bB (by intro x;simp) l
@[simp] theorem A8(b:Bool)(l:List Sv):iL Eh b (l.map (GV .view))=l.map (GV .view):=bB (by intro x;simp) l
@[simp] theorem aAv(l:List Sv):iH (l.map (GV .own))=true:=dE _ (by intro x;simp) l
structure mG where
  mode:Int
  to:gH
  digest:aX
  node:Int
  done:Bool
  code:Int
  body:aX
deriving DecidableEq
@[simp] def pG(x:mG):List AV:=[.int .i64 x.mode,.str x.to.host,.str x.to.path,.str x.digest,.int .i64 x.node,.bool x.done,.int .i64 x.code,.str x.body]
def lN(x:mG):Nat:=(eB x.to)+x.digest.length+x.body.length
@[simp] theorem aCn(t:Tg->Option Tg)(b:Bool)(l:List mG):iL t b (l.map pG)=l.map pG:=bB (by intro x;rfl) l
@[simp] theorem U9(l:List mG):iH (l.map pG)=true:=dE _ (by intro x;rfl) l
structure gW where
  to:gH
  done:Bool
  code:Int
  body:aX
deriving DecidableEq
@[simp] def dN(x:gW):List AV:=[.str x.to.host,.str x.to.path,.bool x.done,.int .i64 x.code,.str x.body]
def mH(x:gW):Nat:=(eB x.to)+x.body.length
@[simp] theorem V3(t:Tg->Option Tg)(b:Bool)(l:List gW):iL t b (l.map dN)=l.map dN:=bB (by intro x;rfl) l
@[simp] theorem Nl(l:List gW):iH (l.map dN)=true:=dE _ (by intro x;rfl) l
structure aW where
  addr:gH
  bC:dS
  tok:jH
  queue:List bD
  ended:Bool
  builder:aV
  aG:List mG
  bT:List gW
  entries:List gH
  block:Int
  inline:Int
  deferred:Int
  lG:Int
  Dl:List gH
  log:List aX
  mU:Bool
deriving DecidableEq
@[simp] def aL(g:Tg)(x:aW):List AV:=[.str x.addr.host,.str x.addr.path,.bool x.bC.isSet,.sl g 1 (x.bC.iC.map dR),.sl g 1 (x.bC.jY.map dR),.sl g 1 (x.bC.jZ.map dR),.str x.bC.pX,.str x.tok.rest,.sl g 4 (x.queue.map (bE g)),.bool x.ended,.sl g 4 (x.builder.nodes.map (dK g)),.sl g 1 (x.builder.opens.map nP),.sl g 8 (x.aG.map pG),.sl g 5 (x.bT.map dN),.sl g 2 (x.entries.map dI),.int .i64 x.block,.int .i64 x.inline,.int .i64 x.deferred,.int .i64 x.lG,.sl g 2 (x.Dl.map dI),.sl g 1 (x.log.map dR),.bool x.mU]
def aK(x:aW):Nat:=(eB x.addr)+(dD x.bC)+(nE x.tok)+(dL bF x.queue)+(aF x.builder)+(dL lN x.aG)+(dL mH x.bT)+(dL eB x.entries)+(dL eB x.Dl)+(dL dG x.log)
@[simp] theorem A9(g:Tg)(b:Bool)(l:List aW):iL (λ_=>some .view) b (l.map (aL g))=l.map (aL .view):=bB (by intro x;simp) l
@[simp] theorem wy(i:Nat)(b:Bool)(l:List aW):iL (Ao i) b (l.map (aL .own))=l.map (aL (.iF i)):=bB (by intro x;simp) l
@[simp] theorem wz(i:Nat)(b:Bool)(l:List aW):iL (Ao i) b (l.map (aL .view))=l.map (aL .view):=bB (by intro x;simp) l
@[simp] theorem xc(i j:Nat)(b:Bool)(l:List aW):iL (Ao i) b (l.map (aL (.iF j)))=l.map (aL (.iF j)):=bB (by intro x;simp) l
@[simp] theorem xe(b:Bool)(l:List aW):iL Eh b (l.map (aL .own))=l.map (aL .view):=bB (by intro x;simp) l
@[simp] theorem xg(b:Bool)(l:List aW):iL Eh b (l.map (aL .view))=l.map (aL .view):=bB (by intro x;simp) l
@[simp] theorem V4(l:List aW):iH (l.map (aL .own))=true:=dE _ (by intro x;simp) l
structure yE where
  builder:aV
  log:List aX
  ic:List aX
  aD0:eT
  mU:Bool
deriving DecidableEq
@[simp] def qP(g:Tg)(x:yE):List AV:=[.sl g 4 (x.builder.nodes.map (dK g)),.sl g 1 (x.builder.opens.map nP),.sl g 1 (x.log.map dR),.sl g 1 (x.ic.map dR),.sl g 2 (x.aD0.rules.map vL),.bool x.mU]
@[simp] theorem ig(g:Tg)(b:Bool)(l:List yE):iL (λ_=>some .view) b (l.map (qP g))=l.map (qP .view):=bB (by intro x;simp) l
@[simp] theorem Zh(i:Nat)(b:Bool)(l:List yE):iL (Ao i) b (l.map (qP .own))=l.map (qP (.iF i)):=bB (by intro x;simp) l
@[simp] theorem Zi(i:Nat)(b:Bool)(l:List yE):iL (Ao i) b (l.map (qP .view))=l.map (qP .view):=bB (by intro x;simp) l
@[simp] theorem Zj(i j:Nat)(b:Bool)(l:List yE):iL (Ao i) b (l.map (qP (.iF j)))=l.map (qP (.iF j)):=bB (by intro x;simp) l
@[simp] theorem Zk(b:Bool)(l:List yE):iL Eh b (l.map (qP .own))=l.map (qP .view):=bB (by intro x;simp) l
@[simp] theorem Zl(b:Bool)(l:List yE):iL Eh b (l.map (qP .view))=l.map (qP .view):=bB (by intro x;simp) l
@[simp] theorem xh(l:List yE):iH (l.map (qP .own))=true:=dE _ (by intro x;simp) l
structure Vj where
  to:gH
  response:dB
  used:Bool
deriving DecidableEq
@[simp] def Vk(x:Vj):List AV:=[.str x.to.host,.str x.to.path,.int .i64 x.response.status,.int .i64 x.response.kind,.str x.response.body,.int .i64 x.response.zo,.bool x.response.shares,.str x.response.bC,.bool x.used]
@[simp] theorem aAw(t:Tg->Option Tg)(b:Bool)(l:List Vj):iL t b (l.map Vk)=l.map Vk:=bB (by intro x;rfl) l
@[simp] theorem C8(l:List Vj):iH (l.map Vk)=true:=dE _ (by intro x;rfl) l
mutual
def closed(m:Nat):AV->Bool
 | .obj i _=>decide (i<m)
 | .ptr i _ _ _=>decide (i<m)
 | .sl (.iF i) _ _=>decide (i<m)
 | .eF (.iF i) _ _=>decide (i<m)
 | .agg c=>jT m c
 | .fH c=>jT m c
 | .fn _ c=>jT m c
 |_=>true
def jT(m:Nat):List AV->Bool
 |[]=>true
 |x::xs=>closed m x&&jT m xs
end
theorem sM{o:List aD}{G:List CO}{m i:Nat}{ob:aD}{g:CO}:look (o.take m) (G.take m) i ob g↔i<m/\look o G i ob g:=by unfold look;rw[By,By];by_cases h:i<m<;>simp[h]
theorem vK{P:Program}[aB P]{B:eP P}{o:List aD}{G:List CO}{w:World}(m:Nat):(∀b,(env B o G w).A b->(env B (o.take m) (G.take m) w).A b)/\
  (∀i,i<m->((env B (o.take m) (G.take m) w).V i↔(env B o G w).V i))/\(∀i b,i<m->(env B o G w).D i b->(env B (o.take m) (G.take m) w).D i b):=by
 refine⟨λb h=>⟨h.1,λi ob g hl=>h.2 i ob g (sM.1 hl).2⟩,λi hi=> ?_,λi b hi h=> ?_⟩
 .simp only[env,By,hi,eI]
 .obtain ⟨ob,g,hl,h⟩:=h;exact⟨ob,g,sM.2 ⟨hi,hl⟩,h⟩
theorem BS{P:Program}[aB P]{B:eP P}{o:List aD}{G:List CO}{w:World}{m i:Nat}(hi:i<m):bR w ((env B o G w).sub (.iF i)) w ((env B (o.take m) (G.take m) w).sub (.iF i)):=by have h:=vK (B:=B) (o:=o) (G:=G) (w:=w) m;exact⟨λb hb=>⟨h.1 b hb,rfl⟩,λ_ _=>trivial,λj b _ hd=>⟨⟨hd.1,h.2.2 i b hi hd.2⟩,rfl⟩,λ_ _ _ h=>h.elim,λ_ _ _ _ _ h=>h.elim⟩
theorem qO{P:Program}[aB P]{B:eP P}{o:List aD}{G:List CO}{w:World}(m:Nat):bR w (env B o G w).plain w (env B (o.take m) (G.take m) w).plain:=by have h:=vK (B:=B) (o:=o) (G:=G) (w:=w) m;exact⟨λb hb=>⟨h.1 b hb,rfl⟩,λ_ _=>trivial,λ_ _ _ h=>h.elim,λ_ _ _ h=>h.elim,λ_ _ _ _ _ h=>h.elim⟩
mutual
theorem az{P:Program}[aB P]{B:eP P}{o:List aD}{G:List CO}{w:World}{m:Nat}:∀(x:AV) (v:Value) (fp:List Nat),closed m x=true->R w (env B o G w) x v fp->R w (env B (o.take m) (G.take m) w) x v fp
 | .int _ _,_,_,_,h=>by simpa [R]using h
 | .bool _,_,_,_,h=>by simpa [R]using h
 | .str _,_,_,_,h=>by simpa [R]using h
 | .sl .own n l,v,fp,_,h=>by obtain⟨a,cap,hv,hown⟩:=qW.1 h;exact qW.2 ⟨a,cap,hv,hown.keeps (qO m) (λ_ _=>rfl)⟩
 | .sl .view n l,v,fp,_,h=>by
  simp only[R]at h⊢;rcases h with h|⟨a,cap,hv,hl,h⟩
  .exact h.1.elim
  .refine .inr ⟨a,cap,hv,hl,?_⟩;rcases h with h|h|⟨hg,hf,h⟩
   .exact absurd h.1 (by simp)
   .exact absurd h.1 (by simp)
   .refine .inr (.inr ⟨hg,hf,?_⟩);rcases h with h|⟨b,off,ha,ht,hr⟩
    .exact .inl h
    .exact .inr ⟨b,off,ha,(vK m).1 b ht,kP (qO m) _ _ _ _ _ rfl (by simp) hr⟩
 | .sl (.iF i) n l,v,fp,hc,h=>by
  have hi:i<m:=by simpa [closed]using hc
  simp only[R]at h⊢;rcases h with h|⟨a,cap,hv,hl,h⟩
  .exact .inl ⟨λhV=>h.1 (((vK m).2.1 i hi).1 hV),h.2⟩
  .refine .inr ⟨a,cap,hv,hl,?_⟩;rcases h with h|h|⟨hg,hf,h⟩
   .exact absurd h.1 (by simp)
   .exact absurd h.1 (by simp)
   .refine .inr (.inr ⟨hg,hf,?_⟩);rcases h with h|⟨b,off,ha,ht,hr⟩
    .exact .inl h
    .exact .inr ⟨b,off,ha,(vK m).2.2 i b hi ht,kP (BS hi) _ _ _ _ _ rfl (by simp) hr⟩
 | .eF .own c off,v,fp,_,h=>by
  simp only[R]at h⊢;rcases h with h|⟨_,_,_,_,_,ht,_⟩
  .exact h.1.elim
  .exact ht.elim
 | .eF .view c off,v,fp,_,h=>by
  simp only[R]at h⊢;rcases h with h|⟨hf,b,o',cs,hv,ht,hcs,hone,hr⟩
  .exact h.1.elim
  .exact .inr ⟨hf,b,o',cs,hv,(vK m).1 b ht,hcs,hone,dC (qO m) _ _ _ (by simp) hr⟩
 | .eF (.iF i) c off,v,fp,hc,h=>by
  have hi:i<m:=by simpa [closed]using hc
  simp only[R]at h⊢;rcases h with h|⟨hf,b,o',cs,hv,ht,hcs,hone,hr⟩
  .exact .inl ⟨λhV=>h.1 (((vK m).2.1 i hi).1 hV),h.2⟩
  .exact .inr ⟨hf,b,o',cs,hv,(vK m).2.2 i b hi ht,hcs,hone,dC (BS hi) _ _ _ (by simp) hr⟩
 | .obj i ver,v,fp,hc,h=>by
  have hi:i<m:=by simpa [closed]using hc
  simp only[R]at h⊢;obtain⟨hf,ob,g,hl,h⟩:=h;exact⟨hf,ob,g,sM.2 ⟨hi,hl⟩,h⟩
 | .ptr i ver idx off,v,fp,hc,h=>by
  have hi:i<m:=by simpa [closed]using hc
  simp only[R]at h⊢;obtain⟨hf,ob,g,hl,h⟩:=h;exact⟨hf,ob,g,sM.2 ⟨hi,hl⟩,h⟩
 | .agg c,v,fp,hc,h=>by simp only[R]at h⊢;obtain⟨cs,h1,h2,h3⟩:=h;exact⟨cs,h1,h2,wQ c cs fp (by simpa [closed]using hc) h3⟩
 | .fH c,v,fp,hc,h=>by simp only[R]at h⊢;obtain⟨cs,h1,h3⟩:=h;exact⟨cs,h1,wQ c cs fp (by simpa [closed]using hc) h3⟩
 | .fn f c,v,fp,hc,h=>by simp only[R]at h⊢;obtain⟨h0,cs,h1,h3⟩:=h;exact⟨h0,cs,h1,wQ c cs [] (by simpa [closed]using hc) h3⟩
 | .undef,_,_,_,h=>by simpa [R]using h
theorem wQ{P:Program}[aB P]{B:eP P}{o:List aD}{G:List CO}{w:World}{m:Nat}:∀(c:List AV) (cs:List Value) (fp:List Nat),jT m c=true->Rc w (env B o G w) c cs fp->Rc w (env B (o.take m) (G.take m) w) c cs fp
 |[],[],_,_,h=>by simpa [Rc]using h
 |[],_::_,_,_,h=>by simp[Rc]at h
 |_::_,[],_,_,h=>by simp[Rc]at h
 |x::xs,c::cs,fp,hc,h=>by simp only[Rc]at h⊢;simp only[jT,eC]at hc;obtain⟨f1,f2,h1,h2,h3⟩:=h;exact⟨f1,f2,az x c f1 hc.1 h1,wQ xs cs f2 hc.2 h2,h3⟩
end
def fP(m:Nat):List aD->Bool
 |[]=>true
 |ob::r=>(!ob.box || match ob.dY with
  |[e]=>jT m e
  |_=>false)&&fP m r
theorem IG{m:Nat}:∀{o:List aD},fP m o=true->∀ob∈o,ob.box=true->∃e,ob.dY=[e]/\jT m e=true
 |ob::r,h,x,hx,hb=>by
  simp only[fP,eC]at h;rcases lE.1 hx with rfl|hx
  .have h1:=h.1;rw[hb]at h1;simp only[Bool.not_true,Bool.false_or]at h1;split at h1
   .rename_i e he;exact⟨e,he,h1⟩
   .cases h1
  .exact IG h.2 x hx hb
theorem aS{t t':List AV}{o o':List aD}(m:Nat)(ho:o.take m=o':=by simp)(h:wk t t':=by simp)(hc:jT m t'=true:=by simp)(hb:fP m o'=true:=by simp):kR ⟨t,o⟩ ⟨t',o'⟩:=by
 subst ho;rintro P _ B a w ⟨G,r⟩;refine⟨G.take m,?_⟩;exact
  {len:=by simp[r.len]
   defs:=r.defs
   ok:=λi ob g hl hlive=>by
    have xY:=(sM.1 hl).2;obtain⟨fp,hown,hnd,hF⟩:=r.ok i ob g xY hlive;refine⟨fp,?_,hnd,hF⟩;cases Dv:ob.box with
    |false=>rw[Dv]at hown;exact hown.keeps (qO m) (λ_ _=>rfl)
    |true=>
     rw[Dv]at hown;obtain⟨e,he,hce⟩:=IG hb ob (oB hl.1) Dv;rw[he]at hown⊢;obtain⟨hlen,hown⟩:=hown;refine⟨hlen,?_⟩;rcases hown with h|⟨b,off,C,yg,fz,nA,ha,hbk,hz,h1,h2,h3,rfl,hr⟩
     .exact .inl h
     .refine .inr ⟨b,off,C,yg,fz,nA,ha,hbk,hz,h1,h2,h3,rfl,?_⟩;simp only[Rr]at hr⊢;obtain⟨cs,f1,f2,k1,k2,k3,k4,k5,k6⟩:=hr;exact⟨cs,f1,f2,k1,k2,k3,wQ e cs f1 hce k4,k5,k6⟩
   apart:=λi j oi oj gi gj b hi hj h1 h2 h3 h4=>r.apart i j _ _ _ _ b (sM.1 hi).2 (sM.1 hj).2 h1 h2 h3 h4
   fresh:=λi ob g b hl h1 h2=>r.fresh i ob g b (sM.1 hl).2 h1 h2
   tmps:=wQ _ _ _ hc (FC h r.tmps)
   size:=r.size
   frame:=r.frame
   base:=r.base
   same:=r.same}
theorem aC{t t':List AV}{o o':List aD}(ho:o=o':=by simp)(h:wk t t':=by simp):kR ⟨t,o⟩ ⟨t',o'⟩:=ho▸PU h
attribute [simp] closed jT fP
def dW(J:Nat->Bool)(i:Nat):Nat->Bool:=λj=>if j=i then true else J j
def dv(J:Nat->Bool)(i:Nat)(v:AV):AV:=if J i=true then v else .undef
@[simp] theorem aHm(J:Nat->Bool)(i:Nat)(v:AV):dv (dW J i) i v=v:=by simp[dv,dW]
def sN(P:Program)[aB P](S:(Nat->Bool)->AS):Nat->List Oper->Prop
 |_,[]=>True
 |i,o::r=>(o.guard=none/\∀J:Nat->Bool,J i=false->(∀e∈o.after.toList,Region.binds .any e=true->J e.on=true)->nL P o (S J) λs'=>kR s' (S (dW J i)))/\sN P S (i+1) r
def fwd:Nat->List Oper->Bool
 |_,[]=>true
 |i,o::r=>(o.after.toList.all λe=> !Region.binds .any e || decide (e.on<i))&&fwd (i+1) r
theorem DF{P:Program}[aB P]{S:(Nat->Bool)->AS}:∀{l:List Oper} {k i:Nat} {o:Oper},sN P S k l->l[i]? =some o->
  o.guard=none/\∀J:Nat->Bool,J (k+i)=false->(∀e∈o.after.toList,Region.binds .any e=true->J e.on=true)->nL P o (S J) λs'=>kR s' (S (dW J (k+i)))
 |[],_,_,_,_,h=>by simp at h
 |x::xs,k,0,o,hd,h=>by simp at h;subst h;exact hd.1
 |x::xs,k,i+1,o,hd,h=>by
  have:=DF (k:=k+1) (i:=i) hd.2 (by simpa using h)
  rwa[show k+1+i=k+(i+1)by omega]at this
theorem WT:∀{l:List Oper} {k i:Nat} {o:Oper},fwd k l=true->l[i]? =some o->∀e∈o.after.toList,Region.binds .any e=true->e.on<k+i
 |[],_,_,_,_,h=>by simp at h
 |x::xs,k,0,o,hf,h=>by simp at h;subst h;simp only[fwd,eC,gR]at hf;intro e he hb;have:=hf.1 e he;simpa [hb]using this
 |x::xs,k,i+1,o,hf,h=>by
  simp only[fwd,eC]at hf;have:=WT (k:=k+1) (i:=i) hf.2 (by simpa using h)
  rwa[show k+1+i=k+(i+1)by omega]at this
def left(l:List Bool):Nat:=(l.filter λb=> !b).length
theorem zT(b:Bool)(l:List Bool):left (b::l)=(if b=true then 0 else 1)+left l:=by cases b<;>simp[left]<;>omega
theorem BU:∀{l:List Bool} {i:Nat},l[i]? =some false->left (l.set i true)+1=left l
 |[],_,h=>by simp at h
 |b::l,0,h=>by simp at h;subst h;simp[zT];omega
 |b::l,i+1,h=>by have:=BU (l:=l) (i:=i) (by simpa using h);rw[cH,zT,zT];omega
theorem CR{l:List Bool}(h:left l=0):∀{i:Nat} {b:Bool},l[i]? =some b->b=true:=by
 intro i b hb;have hm:=oB hb;cases b with
 |true=>rfl
 |false=>have:false∈l.filter (λb=> !b):=Cd.2 ⟨hm,rfl⟩;rw[hM h]at this;simp at this
theorem FH{l:List Bool}(h:left l≠0):∃i:Nat,l[i]? =some false/\∀j:Nat,j<i->l[j]? =some true:=by
 induction l with
 |nil=>simp[left]at h
 |cons b l ih=>
  cases b with
  |false=>exact⟨0,rfl,λj hj=>by omega⟩
  |true=>
   have:left l≠0:=by rw[zT]at h;simpa using h
   obtain⟨i,h1,h2⟩:=ih this;refine⟨i+1,by simpa using h1,λj hj=> ?_⟩;cases j with
   |zero=>rfl
   |succ j=>simpa using h2 j (by omega)
theorem zk{P:Program}[aB P]{ops:Array Oper}{s:AS}{K:AS->Prop}(S:(Nat->Bool)->AS)(h0:kR s (S λ_=>false))(hf:fwd 0 ops.toList=true)(hs:sN P S 0 ops.toList)
  (he:∀J:Nat->Bool,(∀i,i<ops.size->J i=true)->K (S J)):KZ P ops s K:=by
 intro B a w Q hr hk;have key:∀(fuel:Nat) (listed:Array Bool) (a:Act) (w:World),listed.size=ops.size->left listed.toList=fuel->Rel B (S λi=>listed.getD i false) a w->wpAny P .any ops Q fuel listed a w:=by
  intro fuel;induction fuel with
  |zero=>
   intro listed a w hl hz r;have hall:∀i,i<ops.size->listed.getD i false=true:=by
    intro i hi;have hi':i<listed.size:=by omega
    have:=CR hz (i:=i) (b:=listed[i]) (by simp[hi']);simp[Array.getD,hi',this]
   refine⟨?_,hk _ _ _ (he _ hall) r⟩;unfold Region.ready;rw[filter_eq_nil_iff];intro i hi;have hi2:i<ops.size:=by simpa using hi
   have h1:=hall i hi2;have hi':i<listed.size:=by omega
   have h2:listed.getD i true=true:=by rw[eV]at h1⊢;rw[oR hi']at h1⊢;exact h1
   rw[h2];simp
  |succ fuel ih=>
   intro listed a w hl hz r;constructor
   .intro hnil;exfalso;obtain⟨i,h1,h2⟩:=FH (l:=listed.toList) (by omega);have hi:i<listed.size:=by have:=(cA.1 h1).1;simpa using this
    have wW:i<ops.size:=by omega
    have:i∈Region.ready .any ops listed:=by
     unfold Region.ready;rw[Cd];refine⟨by simpa using wW,?_⟩;have h1':listed[i]? =some false:=by simpa using h1
     have hop:ops[i]? =some ops[i]:=by simp[wW]
     simp only[eV,h1',pD,Bool.not_false,AH,hop,lR];rw[Cl];intro e he;cases hb:Region.binds .any e with
     |false=>simp
     |true=>
      have:=WT hf (i:=i) (o:=ops[i]) (by simp[wW]) e (by simpa using he) hb;have h3:=h2 e.on (by omega);have h3':listed[e.on]? =some true:=by simpa using h3
      simp[h3']
    rw[hnil]at this;simp at this
   .intro i hi;unfold Region.ready at hi;rw[Cd]at hi;obtain⟨hi1,hi2⟩:=hi;have wW:i<ops.size:=by simpa using hi1
    have hil:i<listed.size:=by omega
    have hop:ops[i]? =some ops[i]:=by simp[wW]
    simp only[eC,hop,lR,pD]at hi2;obtain⟨h1,h2⟩:=hi2;have h1':listed[i]? =some false:=by simp only[eV]at h1;rw[oR hil]at h1⊢;simpa using h1
    rw[Cl]at h2;obtain⟨hg,hst⟩:=DF hs (i:=i) (o:=ops[i]) (by simp[wW]);rw[gE]at hst;have aHo:=hst (λj=>listed.getD j false) (by simp[h1']) (λe he hb=>by
     have:=h2 e (by simpa using he);simpa [hb]using this)
    obtain⟨s',hw,Sn⟩:=wP (B:=B) aHo;unfold wpOp;rw[hop];simp only[Region.wanted,hg,eI];refine .inl (Sn a w _ Q r λa' w' r'=>ih _ _ _ (by simpa using hl) ?_ ?_)
    .have:=BU (l:=listed.toList) (i:=i) (by simpa using h1');rw[tR];omega
    .have hu:dW (λj=>listed.getD j false) i=λj=>(listed.setIfInBounds i true).getD j false:=by
      funext j;unfold dW;simp only[eV,Array.getElem?_setIfInBounds];by_cases hj:j=i
      .subst hj;simp[hil]
      .simp [hj,sX hj]
     rw[<-hu];exact hw B a' w' r'
 obtain⟨G,r⟩:=hr;have r2:Rel B s a {w with drawn:=w.drawn+1}:=⟨G,{len:=r.len,defs:=r.defs,ok:=λi ob g hl hlive=>(r.ok i ob g hl hlive).keeps (w':={w with drawn:=w.drawn+1}) ⟨λb h=>⟨h,rfl⟩,λ_ h=>h,λ_ _ _ h=>⟨h,rfl⟩,λ_ _ _ h=>h,λ_ _ _ _ _ h=>h⟩ (λ_ _=>rfl),apart:=r.apart,fresh:=r.fresh,tmps:=dC (w:=w) (E:=env B s.o G w) (w':={w with drawn:=w.drawn+1}) (E':=env B s.o G {w with drawn:=w.drawn+1}) ⟨λb h=>⟨h,rfl⟩,λ_ h=>h,λ_ _ _ h=>⟨h,rfl⟩,λ_ _ _ h=>h,λ_ _ _ _ _ h=>h⟩ _ _ _ (by simp) r.tmps,size:=r.size,frame:=r.frame,base:=r.base,same:=r.same.trans ⟨rfl,rfl,rfl⟩}⟩;refine key _ _ _ _ (by simp) (by simp[left]) ?_;have hJ:(λi=>(Array.replicate ops.size false).getD i false)=λ_=>false:=by funext i;simp only[eV,BE];split<;>rfl
 rw[hJ];exact h0 _ _ _ r2
theorem FI{P:Program}[aB P]{id:Nat}{l:List Oper}{s:AS}{Q:Exit->AS->Prop}(S:(Nat->Bool)->AS)(h0:kR s (S λ_=>false))(hf:fwd 0 l=true)(hs:sN P S 0 l)
  (he:∀J:Nat->Bool,(∀i,i<l.length->J i=true)->Q .normal (S J)):kY P (.region id l.toArray true) s Q:=by
 unfold kY;exact zk (ops:=l.toArray) S h0 (by simpa using hf) (by simpa using hs) (by simpa using he)
theorem fG{P:Program}[aB P]{o:Oper}{s:AS}{K:AS->Prop}(h:∀K':AS->Prop,(∀s',K s'->K' s')->nL P o s K'):nL P o s K:=h K λ_ h=>h
theorem aEg{w:World}{E:Env}{e:List AV}{cs:List Value}{fp:List Nat}{c:Nat}{x:AV}(h:Rc w E e cs fp)(hx:e[c]? =some x):
  ∃a1 a2 a3 v,fp=a1++a2++a3/\cs[c]? =some v/\Rc w E (e.take c) (cs.take c) a1/\R w E x v a2/\Rc w E (e.drop (c+1)) (cs.drop (c+1)) a3:=by
 obtain⟨a1,r1,rfl,h1,h2⟩:=oZ c h;have hlt:=(cA.1 hx).1;have hl:=eG h;have hd:e.drop c=x::e.drop (c+1):=by rw[mB hlt,(cA.1 hx).2]
 have hcs:cs.drop c=cs[c]'(by omega)::cs.drop (c+1):=mB (by omega);rw[hd,hcs]at h2;simp only[Rc]at h2;obtain⟨a2,a3,h3,h4,rfl⟩:=h2;exact⟨a1,a2,a3,_,by simp,aE (by omega),h1,h3,h4⟩
theorem aBb{w:World}{E:Env}{e:List AV}{cs:List Value}{a1 a2 a3:List Nat}{c:Nat}{x:AV}{v:Value}(hc:c<e.length)(hv:cs[c]? =some v)(h1:Rc w E (e.take c) (cs.take c) a1)(h2:R w E x v a2)(h3:Rc w E (e.drop (c+1)) (cs.drop (c+1)) a3):
  Rc w E (e.set c x) cs (a1++a2++a3):=by
 have e1:e.set c x=e.take c++x::e.drop (c+1):=by rw[set_eq_take_append_cons_drop];simp[hc]
 obtain⟨hlt,rfl⟩:=cA.1 hv;have e2:cs=cs.take c++cs[c]::cs.drop (c+1):=by simp
 rw[e1];conv=>arg 4;rw[e2]
 have:=gK h1 (show Rc w E (x::e.drop (c+1)) (cs[c]::cs.drop (c+1)) (a2++a3)by simp only[Rc];exact⟨a2,a3,h2,h3,rfl⟩);simpa using this
mutual
def Bw(i:Nat):AV->Bool
 | .sl (.iF j) _ _=>decide (j≠i)
 | .eF (.iF j) _ _=>decide (j≠i)
 | .agg c=>sD i c
 | .fH c=>sD i c
 | .fn _ c=>sD i c
 |_=>true
def sD(i:Nat):List AV->Bool
 |[]=>true
 |x::xs=>Bw i x&&sD i xs
end
def Env.no(E:Env)(i:Nat):Env:={E with D:=λj x=>j∉[i]/\E.D j x}
theorem Ti{w:World}{E:Env}{i j:Nat}(h:j≠i):bR w (E.sub (.iF j)) w ((E.no i).sub (.iF j)):=
 ⟨λb h=>⟨h,rfl⟩,λ_ _=>trivial,λk b _ hd=>⟨⟨hd.1,by simpa using h,hd.2⟩,rfl⟩,λ_ _ _ h=>h.elim,λ_ _ _ _ _ h=>h.elim⟩
mutual
theorem F7{w:World}{E:Env}{i:Nat}:∀(x:AV) (v:Value) (fp:List Nat),Bw i x=true->R w E x v fp->R w (E.no i) x v fp
 | .int _ _,_,_,_,h=>by simpa [R]using h
 | .bool _,_,_,_,h=>by simpa [R]using h
 | .str _,_,_,_,h=>by simpa [R]using h
 | .sl .own n l,v,fp,_,h=>qW.2 (qW.1 h)
 | .sl .view n l,v,fp,_,h=>by
  simp only[R]at h⊢;rcases h with h|⟨a,cap,hv,hl,h⟩
  .exact h.1.elim
  .refine .inr ⟨a,cap,hv,hl,?_⟩;rcases h with h|h|⟨hg,hf,h⟩
   .exact absurd h.1 (by simp)
   .exact absurd h.1 (by simp)
   .exact .inr (.inr ⟨hg,hf,h⟩)
 | .sl (.iF j) n l,v,fp,hc,h=>by
  have hi:j≠i:=by simpa [Bw]using hc
  simp only[R]at h⊢;rcases h with h|⟨a,cap,hv,hl,h⟩
  .exact .inl h
  .refine .inr ⟨a,cap,hv,hl,?_⟩;rcases h with h|h|⟨hg,hf,h⟩
   .exact absurd h.1 (by simp)
   .exact absurd h.1 (by simp)
   .refine .inr (.inr ⟨hg,hf,?_⟩);rcases h with h|⟨b,off,ha,ht,hr⟩
    .exact .inl h
    .exact .inr ⟨b,off,ha,⟨by simpa using hi,ht⟩,kP (Ti hi) _ _ _ _ _ rfl (by simp) hr⟩
 | .eF .own c off,v,fp,_,h=>by
  simp only[R]at h⊢;rcases h with h|⟨_,_,_,_,_,ht,_⟩
  .exact h.1.elim
  .exact ht.elim
 | .eF .view c off,v,fp,_,h=>by
  simp only[R]at h⊢;rcases h with h|⟨hf,b,o',cs,hv,ht,hcs,hone,hr⟩
  .exact h.1.elim
  .exact .inr ⟨hf,b,o',cs,hv,ht,hcs,hone,hr⟩
 | .eF (.iF j) c off,v,fp,hc,h=>by
  have hi:j≠i:=by simpa [Bw]using hc
  simp only[R]at h⊢;rcases h with h|⟨hf,b,o',cs,hv,ht,hcs,hone,hr⟩
  .exact .inl h
  .exact .inr ⟨hf,b,o',cs,hv,⟨by simpa using hi,ht⟩,hcs,hone,dC (Ti hi) _ _ _ (by simp) hr⟩
 | .obj _ _,v,fp,_,h=>by simp only[R]at h⊢;exact h
 | .ptr _ _ _ _,v,fp,_,h=>by simp only[R]at h⊢;exact h
 | .agg c,v,fp,hc,h=>by simp only[R]at h⊢;obtain⟨cs,h1,h2,h3⟩:=h;exact⟨cs,h1,h2,Cf c cs fp (by simpa [Bw]using hc) h3⟩
 | .fH c,v,fp,hc,h=>by simp only[R]at h⊢;obtain⟨cs,h1,h3⟩:=h;exact⟨cs,h1,Cf c cs fp (by simpa [Bw]using hc) h3⟩
 | .fn f c,v,fp,hc,h=>by simp only[R]at h⊢;obtain⟨h0,cs,h1,h3⟩:=h;exact⟨h0,cs,h1,Cf c cs [] (by simpa [Bw]using hc) h3⟩
 | .undef,_,_,_,h=>by simpa [R]using h
theorem Cf{w:World}{E:Env}{i:Nat}:∀(c:List AV) (cs:List Value) (fp:List Nat),sD i c=true->Rc w E c cs fp->Rc w (E.no i) c cs fp
 |[],[],_,_,h=>by simpa [Rc]using h
 |[],_::_,_,_,h=>by simp[Rc]at h
 |_::_,[],_,_,h=>by simp[Rc]at h
 |x::xs,c::cs,fp,hc,h=>by simp only[Rc]at h⊢;simp only[sD,eC]at hc;obtain⟨f1,f2,h1,h2,h3⟩:=h;exact⟨f1,f2,F7 x c f1 hc.1 h1,Cf xs cs f2 hc.2 h2,h3⟩
end
theorem Tj{w:World}{E:Env}{i:Nat}:∀(l:List (List AV)) (b off n:Nat) (fp:List Nat),(l.all λc=>sD i c)=true->Rr w E l b off n fp->Rr w (E.no i) l b off n fp
 |[],_,_,_,_,_,h=>by simpa [Rr]using h
 |e::es,b,off,n,fp,hc,h=>by simp only[Rr]at h⊢;simp only[CD,eC]at hc;obtain⟨cs,f1,f2,h1,h2,h3,h4,h5,h6⟩:=h;exact⟨cs,f1,f2,h1,h2,h3,Cf e cs f1 hc.1 h4,Tj es b _ n f2 hc.2 h5,h6⟩
theorem oD.Bw{w:World}{E:Env}{n:Nat}{l:List (List AV)}{a:Option Addr}{cap:Nat}{fp:List Nat}{i:Nat}(hc:(l.all λc=>sD i c)=true)(h:oD w E n l a cap fp):oD w (E.no i) n l a cap fp:=by
 obtain⟨h1,h|⟨b,off,C,e,fz,nA,k1,k2,k3,k4,k5,k6,k7,k8⟩⟩:=h
 .exact ⟨h1,.inl h⟩
 .exact ⟨h1,.inr ⟨b,off,C,e,fz,nA,k1,k2,k3,k4,k5,k6,k7,Tj l b off n nA hc k8⟩⟩
theorem qI{t t':List AV}{o o':List aD}(i k c:Nat){ob:aD}{e:List AV}{m:Nat}{rows:List (List AV)}(ho:o[i]? =some ob)(hl:ob.live=true)(hb:ob.box=true)(hall:(o.all λx=> !x.box || x.dY.all λc=>sD i c)=true)(he:ob.dY[k]? =some e)
  (hc:e[c]? =some (.sl .own m rows)) (ho':o.set i {ob with dY:=ob.dY.set k (e.set c (.obj o.length 1))}++[⟨true,false,m,1,rows⟩]=o') (hw:wk (pM (iV [i]) true t) t'):kR ⟨t,o⟩ ⟨t',o'⟩:=by
 subst ho';rintro P _ B a w ⟨G,r⟩;have nb:∀{j x g},look o G j x g->x.box=true->(x.dY.all λc=>sD i c)=true:=λh hb=>by have:=gR.1 hall _ (oB h.1);simpa only[hb,Bool.not_true,Bool.false_or]using this
 obtain⟨g,hlk⟩:=r.look ho;obtain⟨fp,hown,hnd,hF⟩:=r.ok i ob g hlk hl;simp only[hb,Env.of,eI]at hown;replace hown:=hown.Bw (nb hlk hb);obtain⟨hlen,⟨h,_⟩|⟨b,off,C,ty,fz,nA,ha,hbk,hz,h1,h2,h3,rfl,hr⟩⟩:=hown
 .rw [h]at he;simp at he
 have hk:k<ob.dY.length:=(cA.1 he).1;have Ip:c<e.length:=(cA.1 hc).1;obtain⟨f1,f2,f3,cs,rfl,hn,hcs,hone,hre,hr1,hr3⟩:=Am hr he;obtain⟨a1,a2,a3,v,rfl,hv,k1,k2,k3⟩:=aEg hre hc;obtain⟨ad,cap',hvs,sV⟩:=qW.1 k2;have hlo:i<o.length:=(cA.1 ho).1;have hsub2:∀x∈a2,g.F x:=λx hx=>hF x (by simp[hx])
 generalize qC:({ob with dY:=ob.dY.set k (e.set c (.obj o.length 1))}:aD)=dH;generalize hg':({g with F:=λx=>g.F x/\x∉a2}:CO)=g';generalize hO:o.set i dH++[⟨true,false,m,1,rows⟩]=o';generalize xu:G.set i g'++[⟨ad,cap',λx=>x∈a2⟩]=G';have V8:(G.set i g').length=(o.set i dH).length:=by simp[r.len]
 have back:∀{j x y},look o' G' j x y->(j=i/\x=dH/\y=g')\/(j=o.length/\x=⟨true,false,m,1,rows⟩/\y=⟨ad,cap',λx=>x∈a2⟩)\/(j≠i/\look o G j x y):=by
  intro j x y h;rw[<-hO,<-xu]at h;rcases jV V8 h with⟨_,h⟩|⟨hj,h⟩
  .rcases wU h with⟨h1,h2,h3⟩|⟨h1,h2⟩
   .exact .inl ⟨h1,h2,h3⟩
   .exact .inr (.inr ⟨h1,h2⟩)
  .right;left;obtain⟨h1,h2⟩:=h;cases hd:j-(o.set i dH).length with
   |zero=>rw[hd]at h1 h2;simp at h1 h2 hj hd;exact⟨by omega,h1.symm,h2.symm⟩
   |succ n=>rw[hd]at h1;simp at h1
 have fi:look o' G' i dH g':=by rw[<-hO,<-xu];exact iO (uW hlk)
 have fJ:look o' G' o.length ⟨true,false,m,1,rows⟩ ⟨ad,cap',λx=>x∈a2⟩:=by rw[<-hO,<-xu];have:=jF (o:=o.set i dH) (o2:=[⟨true,false,m,1,rows⟩]) (G:=G.set i g') (G2:=[⟨ad,cap',λx=>x∈a2⟩]) V8 (i:=0) (x:=⟨true,false,m,1,rows⟩) (y:=⟨ad,cap',λx=>x∈a2⟩) ⟨rfl,rfl⟩;simpa using this
 have fo:∀{j x y},j≠i->look o G j x y->look o' G' j x y:=λhj h=>by rw[<-hO,<-xu];exact iO (BG h hj)
 have aH6:dH.live=true:=by rw[<-qC];exact hl
 have aBc:dH.n=ob.n:=by rw[<-qC]
 have aH7:dH.ver=ob.ver:=by rw[<-qC]
 have aBd:dH.dY.length=ob.dY.length:=by rw[<-qC];simp
 have hga:g'.a=g.a:=by rw[<-hg']
 have hgc:g'.cap=g.cap:=by rw[<-hg']
 have Xm:∀x,g'.F x↔g.F x/\x∉a2:=λx=>by rw[<-hg']
 let Er:Env:=(env B o G w).no i
 have yx:jX (iV [i]) true (env B o G w) Er (λ_=>True):=by
  refine⟨λt e=>by simp[iV]at e,λt e=>by simp only[iV,cQ]at e;exact⟨e.symm,λb hb=>hb⟩,λj t e=> ?_,λ_ _ _ _ h=>h,λ_ _ _ _ _ _ h=>h⟩;simp only[iV]at e;split at e
  .cases e
  .rename_i hiu;obtain rfl:=cD e;refine⟨by simp,?_,λb hb=>⟨hiu,hb⟩⟩;by_cases hV:(env B o G w).V j
   .exact .inl hV
   .exact .inr hV
 have kA:∀x,(env B o G w).A x->(env B o' G' w).A x:=λx hx=>⟨hx.1,λj y z hlj hjl hf=>by
  rcases back hlj with⟨rfl,rfl,rfl⟩|⟨rfl,rfl,rfl⟩|⟨_,h⟩
  .exact hx.2 _ _ _ hlk hl ((Xm x).1 hf).1
  .exact hx.2 _ _ _ hlk hl (hsub2 x hf)
  .exact hx.2 _ _ _ h hjl hf⟩
 have k2':bR w Er w (env B o' G' w):=by
  refine⟨λx hx=>⟨kA x hx,rfl⟩,λj h x hx=> ?_,λj x hV h=> ?_,λj ver x h=> ?_,λj ver p q x h=> ?_⟩
  .obtain ⟨y,hy⟩:=r.look hx;by_cases hj:j=i
   .subst hj;rw[ho]at hx;obtain rfl:=cD hx;exact hl
   .exact h x (fo hj hy).1
  .obtain ⟨hji,x',y,hlj,hjl,hf,hne⟩:=h;exact⟨⟨x',y,fo (by simpa using hji) hlj,hjl,hf,hne⟩,rfl⟩
  .obtain ⟨x',y,hlj,Al,hh,hz⟩:=h;by_cases hj:j=i
   .subst hj;obtain⟨rfl,rfl⟩:=jE hlk hlj;exact⟨dH,g',fi,by omega,λ_ Py=>by rw[hga,hgc,aBd];exact hh hl (by omega),hz⟩
   .exact ⟨x',y,fo hj hlj,Al,hh,hz⟩
  .obtain ⟨x',y,hlj,Al,hh,hz⟩:=h;by_cases hj:j=i
   .subst hj;obtain⟨rfl,rfl⟩:=jE hlk hlj;exact⟨dH,g',fi,by omega,λ_ Py=>by rw[hga,aBc];exact hh hl (by omega),λ_ e2 e3 e4 y hy=>⟨(hz hb e2 e3 e4 y hy).1,λ_ Py=>by rw[hgc];exact(hz hb e2 e3 e4 y hy).2 hl (by omega)⟩⟩
   .exact ⟨x',y,fo hj hlj,Al,hh,hz⟩
 have kp:bR w (env B o G w).plain w (env B o' G' w).plain:=⟨λx hx=>⟨kA x hx,rfl⟩,λ_ _=>trivial,λ_ _ _ h=>h.elim,λ_ _ _ h=>h.elim,λ_ _ _ _ _ h=>h.elim⟩;have kf:bR w (env B o G w).plain w (env B o' G' w):=kp.trans (Ru w _);have hnd':=hnd;simp only[hY]at hnd';refine⟨G',{len:=by rw[<-hO,<-xu];simp[r.len],defs:=r.defs,ok:= ?_,apart:= ?_,fresh:= ?_,tmps:=FC hw (dC k2' _ _ _ (by simp) (uD yx _ _ _ (by simp) r.tmps)),size:=r.size,frame:=r.frame,base:=r.base,same:=r.same}⟩
 .intro j x y hlj hjl;rcases back hlj with⟨rfl,rfl,rfl⟩|⟨rfl,rfl,rfl⟩|⟨hj,h⟩
  .refine ⟨b::(f1++(a1++[]++a3)++f3),?_,?_,?_⟩
   .rw [<-qC,<-hg'];simp only[hb,Env.of,eI];refine⟨by simpa using hlen,.inr ⟨b,off,C,ty,fz,_,ha,hbk,hz,h1,by simpa using h2,h3,rfl,?_⟩⟩;refine WB hk hn hcs hone (aBb Ip hv (dC k2' _ _ _ (λ_ _=>rfl) k1) ?_ (dC k2' _ _ _ (λ_ _=>rfl) k3)) (kP k2' _ _ _ _ _ rfl (λ_ _=>rfl) hr1) (kP k2' _ _ _ _ _ rfl (λ_ _=>rfl) hr3);simp only[R];exact⟨trivial,_,_,fJ,cX _,λ_ _=>hvs,λh=>by omega⟩
   .have hs:(f1++(a1++[]++a3)++f3).Sublist (f1++(a1++a2++a3)++f3):=((pS f1).append (((pS a1).append (nil_sublist a2)).append (pS a3))).append (pS f3);exact hY.2 ⟨λh=>hnd'.1 (hs.subset h),hs.nodup hnd'.2⟩
   .intro x hx;rw[Xm];have hin:x∈b::(f1++(a1++a2++a3)++f3):=by simp only[lE,fR,Dd,or_false]at hx⊢;grind
    refine⟨hF x hin,λhx2=> ?_⟩;have hd:=hnd'.2;simp only[fY,fR]at hd;simp only[lE,fR,Dd,or_false]at hx;rcases hx with rfl|(hx|hx|hx)|hx
    .exact hnd'.1 (by simp[hx2])
    .exact hd.1.2.2 x hx x (.inl (.inr hx2)) rfl
    .exact hd.1.2.1.1.2.2 x hx x hx2 rfl
    .exact hd.1.2.1.2.2 x (.inr hx2) x hx rfl
    .exact hd.2.2 x (.inr (.inl (.inr hx2))) x hx rfl
  .refine ⟨a2,?_,?_,λx hx=>hx⟩
   .simp only[Env.of,cJ,eK];exact sV.keeps kp (λ_ _=>rfl)
   .have hd:=hnd'.2;simp only[fY]at hd;exact hd.1.2.1.1.2.1
  .obtain ⟨fq,q1,q2,q3⟩:=r.ok j x y h hjl;refine⟨fq,?_,q2,q3⟩;cases hbj:x.box with
   |false=>simp only[hbj,Env.of,cJ,eK]at q1⊢;exact q1.keeps kp (λ_ _=>rfl)
   |true=>simp only[hbj,Env.of,eI]at q1⊢;exact(q1.Bw (nb h hbj)).keeps k2' (λ_ _=>rfl)
 .intro j1 j2 x1 x2 y1 y2 z hl1 hl2 v1 v2 hf1 hf2;rcases back hl1 with⟨rfl,rfl,rfl⟩|⟨rfl,rfl,rfl⟩|⟨hj1,h1⟩<;>rcases back hl2 with⟨rfl,rfl,rfl⟩|⟨rfl,rfl,rfl⟩|⟨hj2,h2⟩
  .rfl
  .exact absurd hf2 ((Xm z).1 hf1).2
  .exact absurd (r.apart _ _ _ _ _ _ z hlk h2 hl v2 ((Xm z).1 hf1).1 hf2).symm hj2
  .exact absurd hf1 ((Xm z).1 hf2).2
  .rfl
  .exact absurd (r.apart _ _ _ _ _ _ z hlk h2 hl v2 (hsub2 z hf1) hf2).symm hj2
  .exact absurd (r.apart _ _ _ _ _ _ z h1 hlk v1 hl hf1 ((Xm z).1 hf2).1) hj1
  .exact absurd (r.apart _ _ _ _ _ _ z h1 hlk v1 hl hf1 (hsub2 z hf2)) hj1
  .exact r.apart _ _ _ _ _ _ z h1 h2 v1 v2 hf1 hf2
 .intro j x y z hlj hjl hf;rcases back hlj with⟨rfl,rfl,rfl⟩|⟨rfl,rfl,rfl⟩|⟨_,h⟩
  .exact r.fresh _ _ _ z hlk hl ((Xm z).1 hf).1
  .exact r.fresh _ _ _ z hlk hl (hsub2 z hf)
  .exact r.fresh _ _ _ z h hjl hf
attribute [simp] Bw sD
def quiet:Op->Bool
 | .move _| .assign _| .load _ _| .fieldAddr _ _ _| .indexAddr _ _ _| .index _ _ _| .extract _ _| .unOp _ _ _| .binOp _ _ _ _ _| .convert _ _ _| .pick _ _ _| .alloc _| .box _ _| .build _ _| .nilCheck _=>true
 | .call ⟨.builtin .len,⟨[_]⟩,⟨[_]⟩⟩=>true
 | .call ⟨.value _,_,_⟩=>true
 |_=>false
def qG(op:Op)(s:AS):Bool:=match op with
 | .buildSlice _ _ parts=>(jB ((parts.toList.map (·.2)).map s.ev)).isEmpty
 | .slice _ x _ _ none=>match s.ev x with
  | .str _=>true
  | .sl _ _ _=>true
  |_=>false
 | .call ⟨.builtin .append,⟨[x,y]⟩,_⟩=>(match s.ev x with| .sl .own _ []=>true|_=>false)&&(match s.ev y with| .sl .own _ []=>true| .sl .view _ _=>true| .str _=>true|_=>false)
 |o=>quiet o
mutual
theorem bf{o o':List aD}:∀x:AV,iB x=[]->res o x=res o' x/\gG o x=gG o' x
 | .obj i v,h=>by simp[iB]at h
 | .agg c,h=>by have:=CS (o:=o) (o':=o') c (by simpa [iB]using h);simp only[res,gG,this,and_self]
 | .fH c,h=>by have:=CS (o:=o) (o':=o') c (by simpa [iB]using h);simp only[res,gG,this,and_self]
 | .int _ _,_=>⟨rfl,rfl⟩
 | .bool _,_=>⟨rfl,rfl⟩
 | .str _,_=>⟨rfl,rfl⟩
 | .sl .own _ _,_=>⟨rfl,rfl⟩
 | .sl .view _ _,_=>⟨rfl,rfl⟩
 | .sl (.iF _) _ _,_=>⟨rfl,rfl⟩
 | .eF .own _ _,_=>⟨rfl,rfl⟩
 | .eF .view _ _,_=>⟨rfl,rfl⟩
 | .eF (.iF _) _ _,_=>⟨rfl,rfl⟩
 | .ptr _ _ _ _,_=>⟨rfl,rfl⟩
 | .fn _ [],_=>⟨rfl,rfl⟩
 | .fn _ (_::_),_=>⟨rfl,rfl⟩
 | .undef,_=>⟨rfl,rfl⟩
theorem CS{o o':List aD}:∀c:List AV,jB c=[]->qE o c=qE o' c/\lZ o c=lZ o' c
 |[],_=>⟨rfl,rfl⟩
 |x::xs,h=>by simp only[jB,append_eq_nil_iff]at h;have h1:=bf (o:=o) (o':=o') x h.1;have h2:=CS (o:=o) (o':=o') xs h.2;simp only[qE,lZ,h1,h2,and_self]
end
theorem WU{o:List aD}:∀{c:List AV},(∀x∈qE o c,x.Gw=true)->∀x∈c,x≠ .undef
 |[],_,x,hx=>by cases hx
 |y::ys,h,x,hx=>by
  rcases lE.1 hx with rfl|hx
  .rintro rfl;have:=h .undef (by simp[qE,res]);simp[AV.Gw,AV.Io]at this
  .exact WU (o:=o) (c:=ys) (λz hz=>h z (by simp[qE,hz])) x hx
def uH(t:List AV):Option Tmp->AV->List AV
 |some d,x=>t.set d x
 |none,_=>t
theorem put_eq(t:List AV)(o:List aD)(d:Option Tmp)(x:AV):AS.put ⟨t,o⟩ d x=⟨uH t d x,o⟩:=by cases d<;>rfl
theorem Vh:∀{t2 t:List AV} (i:Nat),wk t2 t->t.getD i .undef=t2.getD i .undef\/t.getD i .undef= .undef
 |[],[],_,_=> .inl rfl
 |[],_::_,_,h=>h.elim
 |_::_,[],_,h=>h.elim
 |x::xs,y::ys,0,h=>by simpa [getD]using h.1
 |x::xs,y::ys,i+1,h=>by simpa [getD]using Vh i h.2
theorem GU(t:List AV)(o:List aD)(d:Option Tmp)(c:List AV):AS.box ⟨t,o⟩ d c=⟨uH t d (.ptr o.length 0 0 0),o++[⟨true,true,c.length,0,[c]⟩]⟩:=put_eq _ _ _ _
theorem CU(t:List AV)(o:List aD)(d:Option Tmp)(r:AV):AS.called ⟨t,o⟩ d r=⟨uH t d (bV 1 o.length r).1,o++(bV 1 o.length r).2⟩:=put_eq _ _ _ _
section
variable{t t2:List AV}{o o2:List aD}
theorem Oy(hw:wk t2 t)(x:Operand):(AS.ev ⟨t,o⟩ x)=(AS.ev ⟨t2,o2⟩ x)\/(AS.ev ⟨t,o⟩ x)= .undef:=by
 cases x with
 |tmp i=>exact Vh i hw
 |const v=>exact .inl rfl
 |func f=>exact .inl rfl
 |global g=>exact .inl rfl
theorem WV(hw:wk t2 t){x:Operand}{y:AV}(h:AS.ev ⟨t,o⟩ x=y)(hy:y≠ .undef):AS.ev ⟨t2,o2⟩ x=y:=by
 rcases Oy (o:=o) (o2:=o2) hw x with h'|h'
 .rw [<-h',h]
 .rw [h]at h';exact absurd h' hy
def Sub(o o2:List aD):Prop:=∀(i:Nat) (ob:aD),o[i]? =some ob->ob.live=true->o2[i]? =some ob
theorem uI(hs:Sub o o2){i ver:Nat}{ob:aD}(h:AV.isObj o i ver=some ob):AV.isObj o2 i ver=some ob:=by
 unfold AV.isObj at h⊢;split at h
 .rename_i x hx;split at h
  .rename_i hc;rw[hs _ _ hx hc.1];simp only[hc,and_self,eI];exact h
  .cases h
 .cases h
theorem bg(hs:Sub o o2){i ver idx:Nat}{p:aD×List AV}(h:AS.at ⟨t,o⟩ i ver idx=some p):AS.at ⟨t2,o2⟩ i ver idx=some p:=by
 unfold AS.at at h⊢;split at h
 .rename_i ob h1;simp only[uI hs h1];exact h
 .cases h
theorem xA(hs:Sub o o2){i ver:Nat}(h:(AV.isObj o i ver).isSome=true):(AV.isObj o2 i ver).isSome=true:=by obtain⟨ob,h⟩:=wA.1 h;rw[uI hs h];rfl
theorem uX(hs:Sub o o2){x:AV}(h:x.fit o=true):x.fit o2=true:=by
 cases x with
 |sl g n l=>
  cases g with
  |iF i=>
   simp only[AV.fit]at h⊢;split at h
   .rename_i ob qX;rw[hs _ _ qX h];exact h
   .cases h
  |_=>rfl
 |eF g c off=>
  cases g with
  |iF i=>
   simp only[AV.fit]at h⊢;split at h
   .rename_i ob qX;rw[hs _ _ qX h];exact h
   .cases h
  |_=>rfl
 |obj i ver=>simp only[AV.fit]at h⊢;exact xA hs h
 |ptr i ver _ _=>simp only[AV.fit]at h⊢;exact xA hs h
 |undef=>cases h
 |fH _=>cases h
 |_=>rfl
theorem Vi{x:AV}(h:x.fit o=true):x≠ .undef:=by rintro rfl;cases h
end
mutual
theorem zl{o o2:List aD}(hs:Sub o o2):∀(x:AV),arg o x≠ .undef->∀(w:World) (v:Value),R w (lI w) (arg o2 x) v []->R w (lI w) (arg o x) v []
 | .obj i ver,hn,w,v,h=>by
  cases ho:AV.isObj o i ver with
  |none=>exact absurd (by simp only[arg,ho]) hn
  |some ob=>simp only[arg,ho,uI hs ho]at h⊢;exact h
 | .ptr i ver idx off,hn,w,v,h=>by
  cases ho:AV.isObj o i ver with
  |none=>exact absurd (by simp only[arg,ho]) hn
  |some ob=>simp only[arg,ho,uI hs ho]at h⊢;exact h
 | .agg c,_,w,v,h=>by simp only[arg,R]at h⊢;obtain⟨cs,h1,h2,h3⟩:=h;exact⟨cs,h1,h2,zU hs c w cs h3⟩
 | .fH c,_,w,v,h=>by simp only[arg,R]at h⊢;obtain⟨cs,h1,h3⟩:=h;exact⟨cs,h1,zU hs c w cs h3⟩
 | .fn f c,_,w,v,h=>by simp only[arg,R]at h⊢;obtain⟨h0,cs,h1,h3⟩:=h;exact⟨h0,cs,h1,zU hs c w cs h3⟩
 | .int _ _,_,_,_,h=>h
 | .bool _,_,_,_,h=>h
 | .str _,_,_,_,h=>h
 | .sl .own _ _,_,_,_,h=>h
 | .sl .view _ _,_,_,_,h=>h
 | .sl (.iF i) n l,hn,w,v,h=>by
  cases ho:o[i]? with
  |none=>simp[arg,ho]at hn
  |some ob=>
   by_cases hv:ob.live=true
   .simp only[arg,ho,hs _ _ ho hv]at h⊢;exact h
   .simp [arg,ho,hv]at hn
 | .eF .own _ _,_,_,_,h=>h
 | .eF .view _ _,_,_,_,h=>h
 | .eF (.iF i) c off,hn,w,v,h=>by
  cases ho:o[i]? with
  |none=>simp[arg,ho]at hn
  |some ob=>
   by_cases hv:ob.live=true
   .simp only[arg,ho,hs _ _ ho hv]at h⊢;exact h
   .simp [arg,ho,hv]at hn
 | .undef,hn,_,_,_=>absurd rfl hn
theorem zU{o o2:List aD}(hs:Sub o o2):∀(c:List AV) (w:World) (cs:List Value),Rc w (lI w) (xV o2 c) cs []->Rc w (lI w) (xV o c) cs []
 |[],_,_,h=>h
 |x::xs,w,[],h=>by simp[xV,Rc]at h
 |x::xs,w,c::cs,h=>by
  simp only[xV,Rc]at h⊢;obtain⟨f1,f2,h1,h2,e⟩:=h;obtain⟨rfl,rfl⟩:f1=[]/\f2=[]:=by simpa using e
  refine⟨[],[],?_,zU hs xs w cs h2,rfl⟩;by_cases hn:arg o x= .undef
  .rw [hn];simp[R]
  .exact zl hs x hn w c h1
end
theorem PV{o:List aD}:∀{a2 a:List AV},wk a2 a->wk (xV o a2) (xV o a)
 |[],[],_=>trivial
 |[],_::_,h=>h.elim
 |_::_,[],h=>h.elim
 |x::xs,y::ys,h=>by
  refine⟨?_,PV h.2⟩;rcases h.1 with rfl|rfl
  .exact .inl rfl
  .exact .inr rfl
theorem WW{t t2:List AV}{o o2:List aD}(hw:wk t2 t)(l:List Operand)(cap:List AV):wk (l.map (AS.ev ⟨t2,o2⟩)++cap) (l.map (AS.ev ⟨t,o⟩)++cap):=by
 induction l with
 |nil=>
  simp only[map_nil,cW];induction cap with
  |nil=>trivial
  |cons x xs ih=>exact⟨.inl rfl,ih⟩
 |cons x xs ih=>exact⟨Oy hw x,ih⟩
theorem Ok.mono{P:Program}[aB P]{f:FuncId}{a a2:List AV}{r:AV}(h:Ok P f a r)(hs:∀w vs,Rc w (lI w) a2 vs []->Rc w (lI w) a vs []):Ok P f a2 r:=
 λw vs hg hr=>h w vs hg (hs w vs hr)
theorem Sq:∀(q k k':Nat) (x:AV),(bV q k x).2=[]->bV q k' x=bV q k x:=by intro q k k' x h;exact(go q k k').1 x h
where
 go (q k k':Nat):(∀x:AV,(bV q k x).2=[]->bV q k' x=bV q k x)/\(∀c:List AV,(dM q k c).2=[]->dM q k' c=dM q k c):=
  ⟨λx=>one x,λc=>all c⟩
 one {q k k':Nat}:∀x:AV,(bV q k x).2=[]->bV q k' x=bV q k x
  | .sl .own n l,h=>by simp[bV]at h
  | .agg c,h=>by simp only[bV]at h⊢;rw[all c h]
  | .fH c,h=>by simp only[bV]at h⊢;rw[all c h]
  | .sl .view _ _,_=>rfl
  | .sl (.iF _) _ _,_=>rfl
  | .int _ _,_=>rfl
  | .bool _,_=>rfl
  | .str _,_=>rfl
  | .eF _ _ _,_=>rfl
  | .obj _ _,_=>rfl
  | .ptr _ _ _ _,_=>rfl
  | .fn _ _,_=>rfl
  | .undef,_=>rfl
 all {q k k':Nat}:∀c:List AV,(dM q k c).2=[]->dM q k' c=dM q k c
  |[],_=>rfl
  |x::xs,h=>by
   simp only[dM,append_eq_nil_iff]at h⊢;have h1:=one (k':=k') x h.1;rw[h1];have h2:(bV q k x).2.length=0:=by rw[h.1];rfl
   rw[h2]at h⊢;have h3:=all (k:=k+0) (k':=k'+0) xs h.2;rw[h3]
theorem AO{t2 t:List AV}{o o2:List aD}(hw:wk t2 t){d n:Nat}{x:Option Operand}(h:AS.bound ⟨t,o⟩ d x=some n):AS.bound ⟨t2,o2⟩ d x=some n:=by
 cases x with
 |none=>exact h
 |some x=>
  simp only[AS.bound]at h⊢;split at h
  .rename_i hx;rw[WV (o2:=o2) hw hx (by simp)];exact h
  .cases h
theorem Sr{P:Program}[aB P]{op:Oper}{t t2:List AV}{o o2:List aD}{K:AS->Prop}(q:qG op.op ⟨t,o⟩=true)(hw:wk t2 t)(h:nL P op ⟨t,o⟩ K)(hs:Sub o o2)(vT:o2.length=o.length\/∀s',K s'->s'.o.length=o.length):
  ∃x new x2,K ⟨uH t op.dst x,o++new⟩/\(x=x2\/x= .undef)/\(o2.length=o.length\/new=[])/\∀K2:AS->Prop,K2 ⟨uH t2 op.dst x2,o2++new⟩->nL P op ⟨t2,o2⟩ K2:=by
 have same:∀{x:AV},K (AS.put ⟨t,o⟩ op.dst x)->(∀K2:AS->Prop,K2 (AS.put ⟨t2,o2⟩ op.dst x)->nL P op ⟨t2,o2⟩ K2)->
   ∃x new x2,K ⟨uH t op.dst x,o++new⟩/\(x=x2\/x= .undef)/\(o2.length=o.length\/new=[])/\∀K2:AS->Prop,K2 ⟨uH t2 op.dst x2,o2++new⟩->nL P op ⟨t2,o2⟩ K2:=by
  intro x h1 h2;refine⟨x,[],x,by rw[cY,<-put_eq];exact h1,.inl rfl,.inr rfl,λK2 hK=>h2 K2 ?_⟩;rw[put_eq];rw[cY]at hK;exact hK
 obtain⟨dst,op,ty,pos,after,gd⟩:=op;have E:∀{x:Operand} {y:AV},AS.ev ⟨t,o⟩ x=y->y≠ .undef->AS.ev ⟨t2,o2⟩ x=y:=λh hy=>WV hw h hy
 unfold nL at h;dsimp only at h q same⊢;split at h;case h_1=>
  rename_i X;refine⟨_,[],AS.ev ⟨t2,o2⟩ X,by rw[put_eq]at h;rw[cY];exact h,Oy hw X,.inr rfl,λK2 hK=> ?_⟩;unfold nL;dsimp only;rw[put_eq];rw[cY]at hK;exact hK
 case h_2=>
  rename_i X;refine⟨_,[],AS.ev ⟨t2,o2⟩ X,by rw[put_eq]at h;rw[cY];exact h,Oy hw X,.inr rfl,λK2 hK=> ?_⟩;unfold nL;dsimp only;rw[put_eq];rw[cY]at hK;exact hK
 case h_3=>
  split at h
  .rename_i b hc;rename_i X Y _;refine⟨if b then AS.ev ⟨t,o⟩ X else AS.ev ⟨t,o⟩ Y,[],if b then AS.ev ⟨t2,o2⟩ X else AS.ev ⟨t2,o2⟩ Y,by rw[put_eq]at h;rw[cY];exact h,?_,.inr rfl,λK2 hK=> ?_⟩
   .cases b
    .exact Oy hw Y
    .exact Oy hw X
   .unfold nL;dsimp only;rw[E hc (by simp)];dsimp only;rw[put_eq];rw[cY]at hK;exact hK
  .exact h.elim
 case h_4=>
  split at h
  .rename_i z hz;rcases vT with hlen|vT
   .refine ⟨.ptr o.length 0 0 0,[⟨true,true,z.length,0,[z]⟩],.ptr o.length 0 0 0,by rw[GU]at h;exact h,.inl rfl,.inl hlen,λK2 hK=> ?_⟩
    unfold nL;dsimp only;rw[hz];dsimp only;rw[GU,hlen];exact hK
   .have:=vT _ h;rw[GU]at this;simp at this
  .exact h.elim
 case h_5=>
  rename_i X;obtain⟨h1,h2⟩:=h;have hX:=E (x:=X) rfl (Vi h1);rcases vT with hlen|vT
  .refine ⟨.ptr o.length 0 0 0,[⟨true,true,(AS.ev ⟨t,o⟩ X).cells.length,0,[(AS.ev ⟨t,o⟩ X).cells]⟩],.ptr o.length 0 0 0,by rw[GU]at h2;exact h2,.inl rfl,.inl hlen,λK2 hK=> ?_⟩
   unfold nL;dsimp only;rw[hX];refine⟨uX hs h1,?_⟩;rw[GU,hlen];exact hK
  .have:=vT _ h2;rw[GU]at this;simp at this
 case h_6=>
  rename_i T parts;split at h
  .rename_i pl hp;split at h
   .rename_i z0 hz;obtain⟨h1,h⟩:=h;split at h
    .rename_i z hf;have UM:(parts.toList.map λp=>(p.1,AS.ev ⟨t2,o2⟩ p.2))=parts.toList.map λp=>(p.1,AS.ev ⟨t,o⟩ p.2):=
      map_congr_left λp hp=>by rw[E (x:=p.2) rfl (Vi (h1 p hp))]
     refine same h λK2 hK=> ?_
     unfold nL;dsimp only;rw[hp];dsimp only;rw[hz];dsimp only;refine⟨λp hp=>by rw[E (x:=p.2) rfl (Vi (h1 p hp))];exact uX hs (h1 p hp),?_⟩;rw[UM,hf];exact hK
    .exact h.elim
   .exact h.elim
  .exact h.elim
 case h_7=>
  rename_i T len parts;split at h
  .rename_i e n by' he;obtain⟨k1,k2,k3,k4,k5,k6,k7,k8,h⟩:=h;have hu:jB ((parts.toList.map (·.2)).map (AS.ev ⟨t,o⟩))=[]:=by simpa [qG]using q
   have hL:(parts.toList.map (·.2)).map (AS.ev ⟨t2,o2⟩)=(parts.toList.map (·.2)).map (AS.ev ⟨t,o⟩):=
    map_congr_left λx hx=>E rfl (WU (λy hy=>(k8 y hy).1) _ (mem_map.2 ⟨x,hx,rfl⟩))
   have bn:∀os:List aD,qY [] os=os:=λ_=>rfl
   rcases vT with hlen|vT
   .refine ⟨.obj o.length 1,[⟨true,false,n,1,(qE o ((parts.toList.map (·.2)).map (AS.ev ⟨t,o⟩))).map AV.cells⟩],.obj o.length 1,?_,.inl rfl,.inl hlen,λK2 hK=> ?_⟩
    .unfold AS.built at h;rw[hu,bn,put_eq]at h;simpa using h
    .unfold nL;dsimp only;rw[he];dsimp only;refine⟨k1,k2,k3,k4,k5,?_⟩;rw[hL];have bq:=CS (o:=o) (o':=o2) _ hu;refine⟨by rw[<-bq.2];exact k6,k7,by rw[<-bq.1];exact k8,?_⟩;unfold AS.built;dsimp only;rw[hL,hu,bn,put_eq,hlen,<-bq.1];simpa [hlen]using hK
   .have:=vT _ h;unfold AS.built at this;rw[hu,bn,put_eq]at this;simp at this
  .exact h.elim
 case h_8=>
  rename_i T X;split at h
  .rename_i hx;split at h
   .rename_i ob e ha;unfold wB at h;split at h
    .rename_i n hn;refine same h.2 λK2 hK=> ?_
     unfold nL;dsimp only;rw[E hx (by simp)];dsimp only;rw[bg hs ha];dsimp only;unfold wB;rw[hn];exact⟨h.1,hK⟩
    .rename_i hn;obtain⟨h1,h⟩:=h;split at h
     .rename_i y hy;refine same h λK2 hK=> ?_
      unfold nL;dsimp only;rw[E hx (by simp)];dsimp only;rw[bg hs ha];dsimp only;unfold wB;rw[hn];dsimp only;rw[hy];exact⟨h1,hK⟩
     .exact h.elim
   .exact h.elim
  .rename_i hx;obtain⟨hf,h⟩:=h;unfold wB at h;split at h
   .rename_i n hn;refine same h.2 λK2 hK=> ?_
    unfold nL;dsimp only;rw[E hx (by simp)];dsimp only;unfold wB;rw[hn];exact⟨uX hs hf,h.1,hK⟩
   .rename_i hn;obtain⟨h1,h⟩:=h;split at h
    .rename_i y hy;refine same h λK2 hK=> ?_
     unfold nL;dsimp only;rw[E hx (by simp)];dsimp only;unfold wB;rw[hn];dsimp only;rw[hy];exact⟨uX hs hf,h1,hK⟩
    .exact h.elim
  .exact h.elim
 case h_9=>cases q
 case h_10=>
  split at h
  .rename_i fo hf;split at h
   .rename_i hx;refine same h.2 λK2 hK=> ?_
    unfold nL;dsimp only;rw[hf];dsimp only;rw[E hx (by simp)];exact⟨xA hs h.1,hK⟩
   .rename_i hx;refine same h.2 λK2 hK=> ?_
    unfold nL;dsimp only;rw[hf];dsimp only;rw[E hx (by simp)];exact⟨uX hs h.1,hK⟩
   .exact h.elim
  .exact h.elim
 case h_11=>
  split at h
  .rename_i hi;obtain⟨h0,h⟩:=h;split at h
   .rename_i hx;split at h
    .rename_i ob ho;split at h
     .rename_i he;refine same h.2.2.2 λK2 hK=> ?_
      unfold nL;dsimp only;rw[E hi (by simp)];dsimp only;rw[E hx (by simp)];dsimp only;rw[uI hs ho];dsimp only;rw[he];exact⟨h0,h.1,h.2.1,h.2.2.1,hK⟩
     .exact h.elim
    .exact h.elim
   .rename_i hx;obtain⟨hf,h⟩:=h;split at h
    .rename_i he;obtain⟨hm,h⟩:=h;split at h
     .rename_i hc;refine same h λK2 hK=> ?_
      unfold nL;dsimp only;rw[E hi (by simp)];dsimp only;rw[E hx (by simp)];dsimp only;rw[he];dsimp only;rw[hc];exact⟨h0,uX hs hf,hm,hK⟩
     .exact h.elim
    .exact h.elim
   .rename_i hx;obtain⟨hso,h⟩:=h;split at h
    .rename_i ha;refine same h.2 λK2 hK=> ?_
     unfold nL;dsimp only;rw[E hi (by simp)];dsimp only;rw[E hx (by simp)];dsimp only;rw[ha];exact⟨h0,xA hs hso,h.1,hK⟩
    .exact h.elim
   .exact h.elim
  .exact h.elim
 case h_12=>
  split at h
  .rename_i hx;split at h
   .rename_i hi;obtain⟨ht,h0,h⟩:=h;split at h
    .rename_i hu;refine same h λK2 hK=> ?_
     unfold nL;dsimp only;rw[E hx (by simp)];dsimp only;rw[E hi (by simp)];dsimp only;rw[hu];exact⟨ht,h0,hK⟩
    .exact h.elim
   .exact h.elim
  .exact h.elim
 case h_13=>
  split at h
  .rename_i hx;split at h
   .rename_i hy;refine same h λK2 hK=> ?_
    unfold nL;dsimp only;rw[E hx (by simp)];dsimp only;rw[hy];exact hK
   .exact h.elim
  .exact h.elim
 case h_14=>cases q
 case h_15=>cases q
 case h_16=>
  split at h
  .rename_i hx;split at h
   .rename_i ha;split at h
    .rename_i hb;obtain⟨h1,h2,h3,h⟩:=h;refine same h λK2 hK=> ?_
     unfold nL;dsimp only;rw[E hx (by simp)];dsimp only;rw[AO hw ha];dsimp only;rw[AO hw hb];exact⟨h1,h2,h3,hK⟩
    .exact h.elim
   .exact h.elim
  .rename_i hx;split at h
   .rename_i ha;split at h
    .rename_i hb;split at h
     .rename_i he;obtain⟨h1,h2,h3,h4,h⟩:=h;refine same h λK2 hK=> ?_
      unfold nL;dsimp only;rw[E hx (by simp)];dsimp only;rw[AO hw ha];dsimp only;rw[AO hw hb];dsimp only;rw[he];exact⟨h1,uX hs h2,h3,h4,hK⟩
     .exact h.elim
    .exact h.elim
   .exact h.elim
  .rename_i hx;simp only[qG,hx]at q;cases q
  .exact h.elim
 case h_17=>
  split at h
  .rename_i hx;refine same h λK2 hK=> ?_
   unfold nL;dsimp only;rw[E hx (by simp)];exact hK
  .exact h.elim
 case h_18=>
  split at h
  .rename_i hx;refine same h λK2 hK=> ?_
   unfold nL;dsimp only;rw[E hx (by simp)];exact hK
  .exact h.elim
 case h_19=>
  split at h
  .rename_i hx;split at h
   .rename_i hy;obtain⟨hk,h⟩:=h;split at h
    .rename_i hz;refine same h λK2 hK=> ?_
     unfold nL;dsimp only;rw[E hx (by simp)];dsimp only;rw[E hy (by simp)];dsimp only;rw[hz];exact⟨hk,hK⟩
    .exact h.elim
   .exact h.elim
  .rename_i hx;split at h
   .rename_i hy;obtain⟨hk,h⟩:=h;split at h
    .rename_i hz;refine same h λK2 hK=> ?_
     unfold nL;dsimp only;rw[E hx (by simp)];dsimp only;rw[E hy (by simp)];dsimp only;rw[hz];exact⟨hk,hK⟩
    .exact h.elim
   .exact h.elim
  .rename_i hx;split at h
   .rename_i hy;refine same h.2.2 λK2 hK=> ?_
    unfold nL;dsimp only;rw[E hx (by simp)];dsimp only;rw[E hy (by simp)];exact⟨h.1,h.2.1,hK⟩
   .exact h.elim
  .rename_i hx;split at h
   .rename_i hy;obtain⟨h1,h2,h3,b,h4,h5⟩:=h;refine same h5 λK2 hK=> ?_
    unfold nL;dsimp only;rw[E hx (by simp)];dsimp only;rw[E hy (by simp)];exact⟨h1,h2,h3,b,h4,hK⟩
   .exact h.elim
  .exact h.elim
 case h_20=>
  split at h
  .rename_i hx;split at h
   .rename_i hk;refine same h.2 λK2 hK=> ?_
    unfold nL;dsimp only;rw[E hx (by simp)];dsimp only;rw[hk];exact⟨h.1,hK⟩
   .exact h.elim
  .rename_i hx;refine same h.2.2 λK2 hK=> ?_
   unfold nL;dsimp only;rw[E hx (by simp)];exact⟨h.1,h.2.1,hK⟩
  .rename_i hx;split at h
   .rename_i he;obtain⟨h1,h2,h3,h4,h5,bs,h6,h7⟩:=h;refine same h7 λK2 hK=> ?_
    unfold nL;dsimp only;rw[E hx (by simp)];dsimp only;rw[he];exact⟨h1,h2,uX hs h3,h4,h5,bs,h6,hK⟩
   .exact h.elim
  .rename_i hx;split at h
   .rename_i ho;split at h
    .rename_i he;obtain⟨h1,h2,h3,h4,bs,h6,h7⟩:=h;refine same h7 λK2 hK=> ?_
     unfold nL;dsimp only;rw[E hx (by simp)];dsimp only;rw[uI hs ho];dsimp only;rw[he];exact⟨h1,h2,h3,h4,bs,h6,hK⟩
    .exact h.elim
   .exact h.elim
  .exact h.elim
 case h_21=>
  split at h
  .rename_i hx;refine same h.2 λK2 hK=> ?_
   unfold nL;dsimp only;rw[E hx (by simp)];exact⟨h.1,hK⟩
  .rename_i hx;refine same h.2.2 λK2 hK=> ?_
   unfold nL;dsimp only;rw[E hx (by simp)];exact⟨uX hs h.1,h.2.1,hK⟩
  .rename_i hx;split at h
   .rename_i ho;refine same h.2 λK2 hK=> ?_
    unfold nL;dsimp only;rw[E hx (by simp)];dsimp only;rw[uI hs ho];exact⟨h.1,hK⟩
   .exact h.elim
  .exact h.elim
 case h_22=>
  rename_i X Y tS xT;simp only[qG,eC]at q;obtain⟨qx,qy⟩:=q;split at h
  .rename_i e n by' he;obtain⟨k1,k2,h⟩:=h;split at qx
   .rename_i m hx;have hx2:=E hx (by simp);rw[hx]at h;simp only[AS.target]at h;have aAs:∀(y:AV),AS.ev ⟨t,o⟩ Y=y->y≠ .undef->(match y with| .sl .own _ []=>true| .sl .view _ _=>true| .str _=>true|_=>false)=true->∀l2 o',AS.source ⟨t,o++[⟨true,false,n,0,[]⟩]⟩ o.length n y=some (l2,o')->
      o'=o++[⟨true,false,n,0,[]⟩]/\AS.source ⟨t2,o2++[⟨true,false,n,0,[]⟩]⟩ o2.length n (AS.ev ⟨t2,o2⟩ Y)=some (l2,o2++[⟨true,false,n,0,[]⟩]):=by
     intro y hy hne hk l2 o' Su;rw[E hy hne];split at hk
     .simp only[AS.source,cQ,oX]at Su⊢;exact⟨Su.2.symm,Su.1,trivial⟩
     .simp only[AS.source]at Su⊢;split at Su
      .rename_i hm;simp only[cQ,oX]at Su;rw[eA hm];exact⟨Su.2.symm,by rw[Su.1]⟩
      .cases Su
     .simp only[AS.source]at Su⊢;split at Su
      .rename_i hm;simp only[cQ,oX]at Su;rw[eA hm];exact⟨Su.2.symm,by rw[Su.1]⟩
      .cases Su
     .cases hk
    split at h
    .rename_i l2 o' Su;obtain⟨h1,h2,h⟩:=h;obtain⟨rfl,hs2⟩:=aAs _ rfl (by rintro hu;rw[hu]at qy;simp at qy) qy _ _ Su;have e1:(o++[(⟨true,false,n,0,[]⟩:aD)]).set o.length ⟨true,false,n,0+1,[]++l2⟩=o++[⟨true,false,n,0+1,[]++l2⟩]:=by rw[tM _ _ (cX _)];simp
     have e2:(o2++[(⟨true,false,n,0,[]⟩:aD)]).set o2.length ⟨true,false,n,0+1,[]++l2⟩=o2++[⟨true,false,n,0+1,[]++l2⟩]:=by rw[tM _ _ (cX _)];simp
     unfold AS.zS at h;dsimp only at h;rw[e1,put_eq]at h;rcases vT with hlen|vT
     .refine ⟨.obj o.length (0+1),[⟨true,false,n,0+1,[]++l2⟩],.obj o.length (0+1),h,.inl rfl,.inl hlen,λK2 hK=> ?_⟩
      unfold nL;dsimp only;rw[he];dsimp only;refine⟨k1,k2,?_⟩;rw[hx2];simp only[AS.target];rw[hs2];dsimp only;refine⟨h1,h2,?_⟩;unfold AS.zS;dsimp only;rw[e2,put_eq,hlen];exact hK
     .have:=vT _ h;simp at this
    .exact h.elim
   .cases qx
  .exact h.elim
 case h_23=>
  rename_i F args Fj;split at h
  .rename_i g cap hf;split at h
   .rename_i h1;obtain⟨r,h2,h3⟩:=h;have qD:Ok P g (xV o2 (AS.args ⟨t2,o2⟩ args++cap)) r:=h2.mono λw vs hr=>
     FC (PV (WW (o:=o) (o2:=o2) hw args.toList cap)) (zU hs _ w vs hr)
    rcases vT with hlen|vT
    .refine ⟨(bV 1 o.length r).1,(bV 1 o.length r).2,(bV 1 o.length r).1,by rw[CU]at h3;exact h3,.inl rfl,.inl hlen,λK2 hK=> ?_⟩
     unfold nL;dsimp only;rw[E hf (by simp)];dsimp only;rw[eA h1];refine⟨r,qD,?_⟩;rw[CU,hlen];exact hK
    .have hn:=vT _ h3;simp only[CU,eJ]at hn;have XK:(bV 1 o.length r).2=[]:=hM (by omega);have ha:=Sq 1 o.length o2.length r XK;refine⟨(bV 1 o.length r).1,[],(bV 1 o.length r).1,?_,.inl rfl,.inr rfl,λK2 hK=> ?_⟩
     .rw [CU,XK]at h3;exact h3
     .unfold nL;dsimp only;rw[E hf (by simp)];dsimp only;rw[eA h1];refine⟨r,qD,?_⟩;unfold AS.called;rw[ha,XK,put_eq];simpa using hK
   .rename_i h1;obtain⟨r,h2,h3⟩:=h;refine same h3 λK2 hK=> ?_
    unfold nL;dsimp only;rw[E hf (by simp)];dsimp only;rw[cU h1];exact⟨r,λw vs hr=>h2 w vs (FC (PV (WW (o:=o) (o2:=o2) hw args.toList cap)) (zU hs _ w vs hr)),hK⟩
  .exact h.elim
 case h_24=>
  split at h
  .rename_i hx;refine same h.2 λK2 hK=> ?_
   unfold nL;dsimp only;rw[E hx (by simp)];exact⟨xA hs h.1,hK⟩
  .rename_i hx;refine same h.2 λK2 hK=> ?_
   unfold nL;dsimp only;rw[E hx (by simp)];exact⟨uX hs h.1,hK⟩
  .exact h.elim
 case h_25=>exact h.elim
end Go.Aw
