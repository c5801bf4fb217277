/- Proved here: steps towards the statement of this claim. No condition. -/
import Derived.Test.YthddijamfbfibaaGreatDoorZF2
set_option linter.all false
namespace Go.Aw
open List
def rowOf(o:List aN)(i:Nat):List AV:=match o[i]? with
 |some ob=>ob.dO.headD []
 |none=>[]
def WZ(o:List aN):AV->List Nat
 | .ptr i _ _ _=>i::kK (rowOf o i)
 |_=>[]
def takes(o:List aN):List AV->List GA->List Nat
 |x::xs,.view _::gs=>takes o xs gs
 |x::xs,.oN _::gs=>mE x++takes o xs gs
 |x::xs,.uN _ _::gs=>WZ o x++takes o xs gs
 |_,_=>[]
def aKf(o:List aN)(c:List AV):AV->Prop
 | .ptr i bU 0 0=>∃ob,AV.isObj o i bU=some ob/\ob.box=true/\∃cells,ob.dO=[cells]/\nK o cells=true/\vD o cells=c
 |_=>False
def handed(o:List aN)(u:List Nat):List AV->List GA->Prop
 |[],[]=>True
 |x::xs,.view y::gs=>Sg u x=true/\arg o x=y/\handed o u xs gs
 |x::xs,.oN y::gs=>jO o x=true/\res o x=y/\handed o u xs gs
 |x::xs,.uN c _::gs=>aKf o c x/\handed o u xs gs
 |_,_=>False
def yt(o:List aN)(G:List CO)(c:List AV)(v:Value)(cap:Nat):AV->Prop
 | .ptr i _ _ _=>∃ob g b f,look o G i ob g/\ob.live=true/\ob.box=true/\ob.n=c.length/\ob.dO.length=1/\g.a=some ⟨b,f,none⟩/\v= .pointer (some ⟨b,f,none⟩)/\g.F b/\g.cap=cap
 |_=>False
def qL(o:List aN)(G:List CO):List AV->List GA->List Value->List Nat->Prop
 |[],[],[],[]=>True
 |x::xs,.uN c _::gs,v::vs,cap::jA=>yt o G c v cap x/\qL o G xs gs vs jA
 |x::xs,.view _::gs,v::vs,cap::jA=>qL o G xs gs vs jA
 |x::xs,.oN _::gs,v::vs,cap::jA=>qL o G xs gs vs jA
 |_,_,_,_=>False
section
variable{P:Program}[aB P]{B:gN P}{s:AS}{G:List CO}{a:Act}{w:World}
theorem Lh(r:eB B s G a w){u1 u2:List Nat}(hd:∀i∈u1,∀j∈u2,i≠j){b:Nat}(h1:Of s.o G u1 b)(h2:Of s.o G u2 b):False:=by obtain⟨i,ob,g,hi,hl,hlive,hF⟩:=h1;obtain⟨j,fF,g',hj,CQ,yD,hF'⟩:=h2;exact hd i hi j hj (r.apart i j _ _ _ _ b hl CQ hlive yD hF hF')
theorem CU{o:List aN}{u1 u2:List Nat}(h:∀i∈u1,i∈u2){b:Nat}(h1:Of o G u1 b):Of o G u2 b:=by obtain⟨i,ob,g,hi,k⟩:=h1;exact⟨i,ob,g,h i hi,k⟩
theorem Xa(r:eB B s G a w){Z:Nat->Prop}{U:List Nat}(hZ:∀b,Z b->Of s.o G U b):eO w (env B s.o G w).plain w (sP w Z):=
 ⟨λb hb=>⟨df r hZ hb,rfl⟩,λ_ _=>trivial,λ_ _ _ h=>h.elim,λ_ _ _ h=>h.elim,λ_ _ _ _ _ h=>h.elim⟩
theorem yu(r:eB B s G a w){c:List AV}{x:AV}{v:Value}(h:aKf s.o c x)(hx:R w (env B s.o G w) x v [])
  {us:List Nat} (hus:WZ s.o x=us) (hnd:us.Nodup):
  ∃fp cap,fp.Nodup/\(∀b∈fp,Of s.o G us b)/\yt s.o G c v cap x/\∀c' Z U,(∀b,Z b->Of s.o G U b)->RG w Z (.uN c c') v fp cap:=by
 unfold aKf at h;split at h
 .rename_i i bU;obtain⟨ob,vZ,wB,cells,hels,nU,jK⟩:=h;obtain⟨h1,h2,h3⟩:=lI vZ;simp only[R]at hx;obtain⟨_,fF,g,hl,_,hh,_⟩:=hx;obtain rfl:=cQ (hl.1.symm.trans h1);obtain⟨b,f,hga,hv⟩:=hh h2 h3;have hrow:rowOf s.o i=cells:=by simp[rowOf,h1,hels]
  simp only[WZ,hrow]at hus;subst hus;simp only[lR]at hnd;obtain⟨fp0,⟨hlen,hown⟩,JU,QV⟩:=r.ok i _ g hl h2;rw[hels]at hown;simp only[wB,Env.of,gE]at hown;rcases hown with⟨h5,_⟩|⟨b',f',C,ty,fz,qN,wW,hbk,hz,k1,k2,k3,rfl,hr⟩
  .cases h5
  .rw [hga]at wW;simp only[eE,pN,sY]at wW;obtain⟨rfl,rfl⟩:=wW;simp only[Rr]at hr;obtain⟨cs,f1,f2,hn,hc,hone,wL,rfl,e⟩:=hr;have e:qN=f1:=by simpa using e
   subst e;simp only[lR]at JU;obtain⟨AR,q1,q2,q3⟩:=Lg r hl h2 cells cs qN nU hnd.2 hnd.1 JU.2 (λx hx=>QV x (by simp[hx])) wL;have WV:g.F b:=QV b (by simp);have hbn:b∉AR:=λhb=>by
    rcases q3 b hb with h|h
    .exact JU.1 h
    .obtain ⟨j,oj,gj,hj,hlj,hjl,VC⟩:=h;have:=r.apart i j _ _ _ _ b hl hlj h2 hjl WV VC;exact hnd.1 (this▸hj)
   have hcl:cells.length=fF.n:=by have:=gG wL;omega
   have VD:c.length=fF.n:=by rw[<-jK,<-hcl];clear q1 nU jK;induction cells with
    |nil=>rfl
    |cons _ _ _=>simp[vD,Gn]
   refine⟨b::AR,g.cap,lR.2 ⟨hbn,q2⟩,?_,?_,?_⟩
   .intro x hx;rcases gS.1 hx with rfl|hx
    .exact ⟨i,fF,g,by simp,hl,h2,WV⟩
    .rcases q3 x hx with h|h
     .exact ⟨i,fF,g,by simp,hl,h2,QV x (by simp[h])⟩
     .exact CU (λj hj=>by simp[hj]) h
   .exact ⟨fF,g,b,f,hl,h2,wB,VD.symm,by rw[hels];rfl,hga,by simpa using hv,WV,rfl⟩
   .intro c' Z U hZ;simp only[RG];refine⟨b,f,by simpa using hv,by simp[maxLen],.inr ⟨b,f,C,ty,fz,AR,rfl,hbk,by rw[VD];exact hz,by rw[VD];exact k1,by simpa using k2,k3,rfl,?_⟩⟩;simp only[Rr];refine⟨cs,AR,[],by rw[VD];exact hn,hc,hone,?_,rfl,by simp⟩;rw[<-jK];exact dU (Xa r hZ) _ _ _ (λ_ _=>rfl) q1
 .exact h.elim
theorem Bt(r:eB B s G a w){U:List Nat}:∀(xs:List AV) (gs:List GA) (vs:List Value),handed s.o U xs gs->(takes s.o xs gs).Nodup->(∀i∈takes s.o xs gs,i∈U)->Rc w (env B s.o G w) xs vs []->
  ∃uK jA,uK.flatten.Nodup/\(∀b∈uK.flatten,Of s.o G (takes s.o xs gs) b)/\qL s.o G xs gs vs jA/\∀Z,(∀b,Z b->Of s.o G U b)->EJ w Z gs vs uK jA
 |[],[],[],_,_,_,_=>⟨[],[],by simp,by simp,by simp[qL],λ_ _=>by simp[EJ]⟩
 |[],[],_::_,_,_,_,h=>by simp[Rc]at h
 |[],_::_,_,h,_,_,_=>by simp[handed]at h
 |_::_,[],_,h,_,_,_=>by simp[handed]at h
 |_::_,_::_,[],_,_,_,h=>by simp[Rc]at h
 |x::xs,.view y::gs,v::vs,h,hn,hu,hr=>by
  simp only[handed]at h;obtain⟨h1,h2,h3⟩:=h;simp only[Rc]at hr;obtain⟨f1,f2,hr1,hr2,e⟩:=hr;obtain⟨rfl,rfl⟩:f1=[]/\f2=[]:=by simpa using e
  simp only[takes]at hn hu⊢;obtain⟨uK,jA,q1,q2,q3,q4⟩:=Bt r xs gs vs h3 hn hu hr2;refine⟨[]::uK,0::jA,by simpa using q1,by simpa using q2,by simpa [qL]using q3,λZ hZ=> ?_⟩;simp only[EJ,RG];refine⟨⟨trivial,?_⟩,q4 Z hZ⟩;rw[<-h2];exact aEv r hZ x v h1 hr1
 |x::xs,.oN y::gs,v::vs,h,hn,hu,hr=>by
  simp only[handed]at h;obtain⟨h1,h2,h3⟩:=h;simp only[Rc]at hr;obtain⟨f1,f2,hr1,hr2,e⟩:=hr;obtain⟨rfl,rfl⟩:f1=[]/\f2=[]:=by simpa using e
  simp only[takes,gO]at hn hu⊢;obtain⟨uK,jA,q1,q2,q3,q4⟩:=Bt r xs gs vs h3 hn.2.1 (λi hi=>hu i (by simp[hi])) hr2;obtain⟨fp,p1,p2,p3⟩:=La r x v h1 hn.1 hr1;refine⟨fp::uK,0::jA,?_,?_,by simpa [qL]using q3,λZ hZ=> ?_⟩
  .simp only[pT,gO];refine⟨p2,q1,λb hb b' hb' e=> ?_⟩;subst e;exact Lh r (λi hi j hj=>hn.2.2 i hi j hj) (p3 b hb) (q2 b hb')
  .intro b hb;simp only[pT,eW]at hb;rcases hb with hb|hb
   .exact CU (λi hi=>by simp[hi]) (p3 b hb)
   .exact CU (λi hi=>by simp[hi]) (q2 b hb)
  .simp only[EJ,RG];refine⟨?_,q4 Z hZ⟩;rw[<-h2];exact qK (Xa r hZ) _ _ _ (λ_ _=>rfl) p1
 |x::xs,.uN c c'::gs,v::vs,h,hn,hu,hr=>by
  simp only[handed]at h;obtain⟨h1,h3⟩:=h;simp only[Rc]at hr;obtain⟨f1,f2,hr1,hr2,e⟩:=hr;obtain⟨rfl,rfl⟩:f1=[]/\f2=[]:=by simpa using e
  simp only[takes]at hn hu⊢;generalize hus:WZ s.o x=us at hn hu⊢;simp only[gO]at hn;obtain⟨uK,jA,q1,q2,q3,q4⟩:=Bt r xs gs vs h3 hn.2.1 (λi hi=>hu i (by simp[hi])) hr2;obtain⟨fp,cap,p1,p2,p3,p4⟩:=yu r h1 hr1 hus hn.1;refine⟨fp::uK,cap::jA,?_,?_,by simp only[qL];exact⟨p3,q3⟩,λZ hZ=> ?_⟩
  .simp only[pT,gO];refine⟨p1,q1,λb hb b' hb' e=> ?_⟩;subst e;exact Lh r (λi hi j hj=>hn.2.2 i hi j hj) (p2 b hb) (q2 b hb')
  .intro b hb;simp only[pT,eW]at hb;rcases hb with hb|hb
   .exact CU (λi hi=>by simp[hi]) (p2 b hb)
   .exact CU (λi hi=>by simp[hi]) (q2 b hb)
  .simp only[EJ];exact⟨p4 c' Z U hZ,q4 Z hZ⟩
end
def JX:Nat->List GA->List aN
 |_,[]=>[]
 |k,.uN _ c'::gs=>(fB 1 k c').2++JX (k+(fB 1 k c').2.length) gs
 |k,.view _::gs=>JX k gs
 |k,.oN _::gs=>JX k gs
def DF:Nat->List AV->List GA->List (Nat×List (List AV))
 |k,x::xs,.uN _ c'::gs=>(match x with
  | .ptr i _ _ _=>[(i,[(fB 1 k c').1])]
  |_=>[])++DF (k+(fB 1 k c').2.length) xs gs
 |k,_::xs,.view _::gs=>DF k xs gs
 |k,_::xs,.oN _::gs=>DF k xs gs
 |_,_,_=>[]
def aN.X3(ob:aN)(N:List (Nat×List (List AV)))(u:List Nat)(i:Nat):aN:=
 match N.find? (λp=>p.1 == i)with
 |some p=>{ob with dO:=p.2}
 |none=>if u.contains i=true then {ob with live:=false}else ob.forget u
def FK(N:List (Nat×List (List AV)))(u:List Nat):Nat->List aN->List aN
 |_,[]=>[]
 |i,ob::r=>ob.X3 N u i::FK N u (i+1) r
theorem Xb(N:List (Nat×List (List AV)))(u:List Nat):∀(o:List aN) (k i:Nat),(FK N u k o)[i]? =(o[i]?).map λob=>ob.X3 N u (k+i)
 |[],_,_=>by simp[FK]
 |ob::r,k,0=>by simp[FK]
 |ob::r,k,i+1=>by simp only[FK,At];rw[Xb N u r (k+1) i,show k+1+i=k+(i+1)by omega]
theorem EK(N:List (Nat×List (List AV)))(u:List Nat):∀(o:List aN) (k:Nat),(FK N u k o).length=o.length
 |[],_=>rfl
 |g::r,k=>by simp[FK,EK N u r]
def Jd(N:List (Nat×List (List AV))):Nat->List CO->List CO
 |_,[]=>[]
 |i,g::r=>(match N.find? (λp=>p.1 == i)with
  |some _=>{g with F:=λb=>∃a,g.a=some a/\b=a.block}
  |none=>g)::Jd N (i+1) r
theorem Xc(N:List (Nat×List (List AV))):∀(G:List CO) (k i:Nat),(Jd N k G)[i]? =(G[i]?).map λg=>match N.find? (λp=>p.1 == k+i)with
  |some _=>{g with F:=λb=>∃a,g.a=some a/\b=a.block}
  |none=>g
 |[],_,_=>by simp[Jd]
 |g::r,k,0=>by simp[Jd]
 |g::r,k,i+1=>by simp only[Jd,At];rw[Xc N r (k+1) i,show k+1+i=k+(i+1)by omega]
theorem EL(N:List (Nat×List (List AV))):∀(o:List CO) (k:Nat),(Jd N k o).length=o.length
 |[],_=>rfl
 |g::r,k=>by simp[Jd,EL N r]
theorem Xd{o:List aN}{G:List CO}{N:List (Nat×List (List AV))}{u:List Nat}{i:Nat}{fF:aN}{g':CO}(h:look (FK N u 0 o) (Jd N 0 G) i fF g'):
  ∃ob g,look o G i ob g/\((∃p∈N,p.1=i/\fF={ob with dO:=p.2}/\g'={g with F:=λb=>∃a,g.a=some a/\b=a.block})\/
   ((∀p∈N,p.1≠i)/\g'=g/\((i∈u/\fF={ob with live:=false})\/(i∉u/\fF=ob.forget u)))):=by
 obtain⟨h1,h2⟩:=h;rw[Xb,hY]at h1;rw[Xc,hY]at h2;cases ho:o[i]? with
 |none=>simp[ho]at h1
 |some ob=>
  cases hg:G[i]? with
  |none=>simp[hg]at h2
  |some g=>
   rw[ho]at h1;rw[hg]at h2;simp only[mT,eE]at h1 h2;refine⟨ob,g,⟨ho,hg⟩,?_⟩;unfold aN.X3 at h1;cases hf:N.find? (λp=>p.1 == i)with
   |some p=>rw[hf]at h1 h2;left;exact⟨p,pB hf,by have:=Fk hf;simpa using this,h1.symm,h2.symm⟩
   |none=>
    rw[hf]at h1 h2;right;refine⟨λp hp e=> ?_,h2.symm,?_⟩
    .have:=DP.1 hf p hp;simp[e]at this
    .simp only at h1;by_cases hiu:i∈u
     .rw [eK (by simpa using hiu)]at h1;exact .inl ⟨hiu,h1.symm⟩
     .rw [cY (by simpa using hiu)]at h1;exact .inr ⟨hiu,h1.symm⟩
theorem aBl{o:List aN}{G:List CO}{N:List (Nat×List (List AV))}{u:List Nat}{i:Nat}{ob:aN}{g:CO}(h:look o G i ob g):
  ∃fF g',look (FK N u 0 o) (Jd N 0 G) i fF g':=by
 have h1:=(cH.1 h.1).1;have h2:=(cH.1 h.2).1;exact⟨_,_,aE (by rw[EK];exact h1),aE (by rw[EL];exact h2)⟩
theorem Bu{w:World}{s:AS}{G:List CO}:∀(xs:List AV) (gs:List GA) (vs:List Value) (uK:List (List Nat)) (jA:List Nat) (k:Nat),qL s.o G xs gs vs jA->QY w gs vs uK jA->uK.flatten.Nodup->
  ∃inner,inner.Nodup/\(∀b∈inner,b∈uK.flatten)/\
   (∀p∈DF k xs gs,∃ob g b f,look s.o G p.1 ob g/\ob.live=true/\ob.box=true/\ob.dO.length=p.2.length/\g.a=some ⟨b,f,none⟩/\g.F b/\b∈uK.flatten/\b∉inner)/\
   lN 1 w mJ k (JX k gs) inner (λE'=>∀p∈DF k xs gs,∀ob g b f,look s.o G p.1 ob g->g.a=some ⟨b,f,none⟩->uU w E' ob.n p.2 g.a g.cap [b])
 |[],[],[],[],[],k,_,_,_=>⟨[],by simp,by simp,by simp[DF],⟨[],rfl,λj ob g hl=>by simp[look,JX]at hl,λi j oi oj gi gj b hl=>by simp[look,JX]at hl,λE' _ _ p hp=>by simp[DF]at hp⟩⟩
 |x::xs,.view y::gs,v::vs,fp::uK,cap::jA,k,hl,hp,hn=>by simp only[QY,RP]at hp;obtain⟨rfl,hp⟩:=hp;simp only[JX,DF];have:=Bu xs gs vs uK jA k (by simpa [qL]using hl) hp (by simpa using hn);simpa using this
 |x::xs,.oN y::gs,v::vs,fp::uK,cap::jA,k,hl,hp,hn=>by simp only[QY,RP]at hp;obtain⟨rfl,hp⟩:=hp;simp only[JX,DF];have:=Bu xs gs vs uK jA k (by simpa [qL]using hl) hp (by simpa using hn);simpa using this
 |x::xs,.uN c c'::gs,v::vs,fp::uK,cap::jA,k,hl,hp,hn=>by
  simp only[QY,RP]at hp;obtain⟨⟨b0,f0,hv0,hlen,hown⟩,hp⟩:=hp;simp only[qL]at hl;obtain⟨hl0,hl⟩:=hl;simp only[pT,gO]at hn;obtain⟨inner,i1,i2,i3,i4⟩:=Bu xs gs vs uK jA (k+(fB 1 k c').2.length) hl hp hn.2.1;unfold yt at hl0;split at hl0
  .rename_i i bU idx off;obtain⟨ob,g,b,f,hlk,hlive,wB,hcn,hel,hga,hv,hF,rfl⟩:=hl0;rw[hv]at hv0;simp only[DO,eE,pN,sY]at hv0;obtain⟨rfl,rfl⟩:=hv0;rcases hown with⟨h5,_⟩|⟨b',f',C,ty,fz,qN,wW,hbk,hz,k1,k2,k3,rfl,hr⟩
   .cases h5
   simp only[eE,pN,sY]at wW;obtain⟨rfl,rfl⟩:=wW;simp only[Rr]at hr;obtain⟨cs,f1,f2,hcl,hc,hone,wL,rfl,e⟩:=hr;have e:qN=f1:=by simpa using e
   subst e;have hnb:=hn.1;simp only[lR]at hnb;have hab:=DW (q:=1) c' cs qN k wL hnb.2;have aBh:(qN++inner).Nodup:=gO.2 ⟨hnb.2,i1,λx hx y hy e=>hn.2.2 x (by simp[hx]) y (i2 y hy) e⟩;obtain⟨Gs,a1,a2,a3,a4⟩:=hab.append i4 aBh;have hbi:b∉inner:=λh=>hn.2.2 b (by simp) b (i2 b h) rfl
   refine⟨qN++inner,aBh,?_,?_,⟨Gs,a1,a2,a3,λE' hk hh=> ?_⟩⟩
   .intro x hx;simp only[pT,eW];rcases eW.1 hx with hx|hx
    .exact .inl (by simp[hx])
    .exact .inr (i2 x hx)
   .intro p hp;simp only[DF,eW]at hp;rcases hp with hp|hp
    .simp only[rS]at hp;subst hp;exact⟨ob,g,b,f,hlk,hlive,wB,by simpa using hel,hga,hF,by simp,by simp only[eW,not_or];exact⟨hnb.1,hbi⟩⟩
    .obtain ⟨ob1,g1,b1,f1,q1,q2,q3,q4,q5,q6,q7,q8⟩:=i3 p hp;refine⟨ob1,g1,b1,f1,q1,q2,q3,q4,q5,q6,by simp[q7],?_⟩;simp only[eW,not_or];exact⟨λh=>hn.2.2 b1 (by simp[h]) b1 q7 rfl,q8⟩
   .obtain ⟨d1,d2⟩:=a4 E' hk hh;intro p hp ob1 g1 b1 f1 q1 q2;simp only[DF,eW]at hp;rcases hp with hp|hp
    .simp only[rS]at hp;subst hp;obtain⟨rfl,rfl⟩:=lM hlk q1;rw[hga]at q2;simp only[eE,pN,sY]at q2;obtain⟨rfl,rfl⟩:=q2;refine⟨by simp[maxLen],.inr ⟨b,f,C,ty,fz,[],hga,hbk,by rw[hcn];exact hz,by rw[hcn];exact k1,by simpa using k2,k3,rfl,?_⟩⟩;simp only[Rr];exact⟨cs,[],[],by rw[hcn];exact hcl,hc,hone,d1,rfl,rfl⟩
    .exact d2 p hp ob1 g1 b1 f1 q1 q2
  .exact hl0.elim
 |[],[],[],[],_::_,_,hl,_,_=>by simp[qL]at hl
 |[],[],[],_::_,_,_,_,hp,_=>by simp[QY]at hp
 |[],[],_::_,_,_,_,_,hp,_=>by simp[QY]at hp
 |[],_::_,_,_,_,_,hl,_,_=>by simp[qL]at hl
 |_::_,[],_,_,_,_,hl,_,_=>by simp[qL]at hl
 |_::_,.view _::_,[],_,_,_,hl,_,_=>by simp[qL]at hl
 |_::_,.view _::_,_::_,[],_,_,_,hp,_=>by simp[QY]at hp
 |_::_,.view _::_,_::_,_::_,[],_,_,hp,_=>by simp[QY]at hp
 |_::_,.oN _::_,[],_,_,_,hl,_,_=>by simp[qL]at hl
 |_::_,.oN _::_,_::_,[],_,_,_,hp,_=>by simp[QY]at hp
 |_::_,.oN _::_,_::_,_::_,[],_,_,hp,_=>by simp[QY]at hp
 |_::_,.uN _ _::_,[],_,_,_,hl,_,_=>by simp[qL]at hl
 |_::_,.uN _ _::_,_::_,[],_,_,_,hp,_=>by simp[QY]at hp
 |_::_,.uN _ _::_,_::_,_::_,[],_,_,hp,_=>by simp[QY]at hp
theorem Li(o:List aN):∀(xs:List AV) (gs:List GA) (k:Nat),∀p∈DF k xs gs,p.1∈takes o xs gs
 |[],[],_,p,hp=>by simp[DF]at hp
 |[],_::_,_,p,hp=>by simp[DF]at hp
 |_::_,[],_,p,hp=>by simp[DF]at hp
 |x::xs,.view _::gs,k,p,hp=>by simp only[DF]at hp;simpa [takes]using Li o xs gs k p hp
 |x::xs,.oN _::gs,k,p,hp=>by simp only[DF]at hp;simp only[takes,eW];exact .inr (Li o xs gs k p hp)
 |x::xs,.uN _ c'::gs,k,p,hp=>by
  simp only[DF,eW]at hp;simp only[takes,eW];rcases hp with hp|hp
  .left;cases x<;>simp at hp;subst hp;simp[WZ]
  .exact .inr (Li o xs gs _ p hp)
def AS.given(s:AS)(d:Option Tmp)(xs:List AV)(gs:List GA)(r:AV):AS:=
 AS.put ⟨xO (iU (takes s.o xs gs)) true s.t,FK (DF s.o.length xs gs) (takes s.o xs gs) 0 s.o++JX s.o.length gs++(dF 1 (s.o.length+(JX s.o.length gs).length) r).2⟩ d
  (dF 1 (s.o.length+(JX s.o.length gs).length) r).1
section
variable{P:Program}[aB P]{B:gN P}{s:AS}{dst:Option Tmp}{ty:TypeId}{pos:String}{after:Array Edge}{gd:Option (Nat × Bool)}
theorem aBm(f:Operand)(args:Array Operand)(xx:Array TypeId){gf:FuncId}{gs:List GA}{rv:AV}(hf:s.ev f= .fn gf [])(hc:bR P gf=true)
  (hu:(takes s.o (s.args args) gs).Nodup) (hh:handed s.o (takes s.o (s.args args) gs) (s.args args) gs) (nU:Lf P gf gs rv):
  Step P B ⟨dst,.call {callee:= .value f,args:=args,argTypes:=xx},ty,pos,after,gd⟩ s (s.given dst (s.args args) gs rv):=by
 rintro a w next Q ⟨G,rr⟩ hn
 have h1:=rr.ev f;rw[hf]at h1;simp only[R]at h1;obtain⟨_,cs,hv,hcap⟩:=h1;have hcs:cs=[]:=by cases cs with
  |nil=>rfl
  |cons _ _=>simp[Rc]at hcap
 subst hcs;have hargs:Rc w (env B s.o G w) (s.args args) (args.toList.map a.eval) []:=by simpa [AS.args]using xP rr args.toList
 generalize hxs:s.args args=xs at*;obtain⟨uK,jA,hnd,Pe,aOa,aOb⟩:=Bt rr (U:=takes s.o xs gs) xs gs _ hh hu (λi h=>h) hargs;generalize huu:takes s.o xs gs=u at*;have hlt:∀b∈uK.flatten,b<w.heap.size:=λb hb=>by obtain⟨i,ob,g,_,hl,hlive,hF⟩:=Pe b hb;exact(rr.fresh _ _ _ b hl hlive hF).2
 have hab:∀b∈uK.flatten,aB.low P<=b/\b<w.heap.size:=λb hb=>by obtain⟨i,ob,g,_,hl,hlive,hF⟩:=Pe b hb;exact⟨rr.ZZ (rr.fresh _ _ _ b hl hlive hF).1,hlt b hb⟩
 have af:=nU w _ uK jA rr.holds hab hnd (aOb _ Pe);unfold Oper.wp;have hrun:(execOp a.eval ⟨dst,.call {callee:= .value f,args:=args,argTypes:=xx},ty,pos,after,gd⟩).run P w= .ok (.enter gf (args.toList.map a.eval).toArray) w:=by
  have e:args.map a.eval=(args.toList.map a.eval).toArray:=by apply Fi;simp
  simp[execOp,resolve,hv,Deferred.ofValue,invoke,EH hc,e]
 rw[hrun,Oper.upon_enter];refine af.mono λe w' h=> ?_
 obtain⟨v,fp,CP,rfl,hrr,hrp,hnd',hfr,hsz,oF,Gd⟩:=h;refine hn _ _ ?_;have YB:=gO.1 hnd';obtain⟨inner,i1,i2,i3,i4⟩:=Bu (s:=s) (G:=G) xs gs _ CP jA s.o.length aOa hrp YB.1;have aBh:(inner++fp).Nodup:=gO.2 ⟨i1,YB.2.1,λx hx y hy e=>YB.2.2 x (i2 x hx) y hy e⟩;obtain⟨Gs,hlen,CL,hap,rF⟩:=i4.append (Gj (q:=1) rv v fp (s.o.length+(JX s.o.length gs).length) hrr YB.2.1) aBh;have hNu:=Li s.o xs gs s.o.length;rw[huu]at hNu;unfold AS.given;rw[huu];generalize hN:DF s.o.length xs gs=N at*;rw[sB];generalize Gi:JX s.o.length gs++(dF 1 (s.o.length+(JX s.o.length gs).length) rv).2=news at*;generalize ho1:FK N u 0 s.o=o1;generalize hG1:Jd N 0 G=G1;have hl1:o1.length=s.o.length:=by rw[<-ho1,EK]
 have aVf:G1.length=G.length:=by rw[<-hG1,EL]
 have hlG:G1.length=o1.length:=by rw[aVf,hl1,rr.len]
 have Ak:∀b,b∈CP.flatten++fp->(Of s.o G u b\/w.heap.size<=b)/\b<w'.heap.size:=λb hb=>by
  have:=hfr b hb;refine⟨?_,this.2⟩;rcases this.1 with h|h
  .exact .inl (Pe b h)
  .exact .inr h
 have aOc:∀{j ob g b},look news Gs j ob g->g.F b->b∈inner++fp:=by intro j ob g b hl hF;obtain⟨_,_,_,f',_,_,h3,h4⟩:=CL _ _ _ hl;exact h4 _ ((h3 _).1 hF)
 have aOd:∀{b},b∈inner++fp->b∈CP.flatten++fp:=by
  intro b hb;rcases eW.1 hb with h|h
  .exact oE _ (i2 b h)
  .exact tG _ h
 have lk:∀{i fF g'},look (o1++news) (G1++Gs) i fF g'->(∃j,i=s.o.length+j/\look news Gs j fF g')\/(i<s.o.length/\∃ob g,look s.o G i ob g/\
   ((∃p∈N,p.1=i/\fF={ob with dO:=p.2}/\g'={g with F:=λb=>∃a,g.a=some a/\b=a.block})\/
   ((∀p∈N,p.1≠i)/\g'=g/\((i∈u/\fF={ob with live:=false})\/(i∉u/\fF=ob.forget u))))):=by
  intro i fF g' h;rcases qA hlG h with⟨hi,h⟩|⟨hi,h⟩
  .right;refine⟨by omega,?_⟩;rw[<-ho1,<-hG1]at h;exact Xd h
  .left;exact⟨i-o1.length,by omega,h⟩
 have aEx:∀{p},p∈N->∀{ob g},look s.o G p.1 ob g->ob.live=true/\ob.box=true/\ob.dO.length=p.2.length/\∃b f,g.a=some ⟨b,f,none⟩/\g.F b/\b∈CP.flatten/\b∉inner:=by intro p hp ob g hl;obtain⟨ob2,g2,b,f,q1,q2,q3,q4,q5,q6,q7,q8⟩:=i3 p hp;obtain⟨rfl,rfl⟩:=lM hl q1;exact⟨q2,q3,q4,b,f,q5,q6,q7,q8⟩
 have kl:∀{i ob g},look s.o G i ob g->∃fF g',look (o1++news) (G1++Gs) i fF g'/\(fF.live=true->ob.live=true)/\fF.bU=ob.bU/\fF.n=ob.n/\g'.a=g.a/\g'.cap=g.cap/\fF.dO.length=ob.dO.length/\fF.box=ob.box/\
   (i∉u->g'=g/\fF.live=ob.live):=by
  intro i ob g h;obtain⟨fF,g',h'⟩:=aBl (N:=N) (u:=u) h;rw[ho1,hG1]at h';have h'':=nR (o2:=news) (G2:=Gs) h';refine⟨fF,g',h'',?_⟩;rw[<-ho1,<-hG1]at h';obtain⟨ob2,g2,h2,hcase⟩:=Xd h';obtain⟨rfl,rfl⟩:=lM h h2;rcases hcase with⟨p,hp,rfl,rfl,rfl⟩|⟨DT,rfl,⟨hiu,rfl⟩|⟨hiu,rfl⟩⟩
  .obtain ⟨b1,b2,b3,_⟩:=aEx hp h;exact⟨λ_=>b1,rfl,rfl,rfl,rfl,b3.symm,rfl,λhn=>absurd (hNu p hp) hn⟩
  .exact ⟨λh=>by simp at h,rfl,rfl,rfl,rfl,rfl,rfl,λhn=>absurd hiu hn⟩
  .exact ⟨λh=>by rw[nV]at h;exact h,RZ _ _,bu _ _,rfl,rfl,Sb _ _,Sa _ _,λ_=>⟨rfl,nV _ _⟩⟩
 have aMv:∀{i ob g b},look s.o G i ob g->ob.live=true->g.F b->i∉u->¬Of s.o G u b:=by intro i ob g b hl hlive hF hiu hO;obtain⟨j,oj,gj,hj,hlj,hjl,VC⟩:=hO;exact hiu (rr.apart i j _ _ _ _ b hl hlj hlive hjl hF VC▸hj)
 have aVh:∀{i ob g b},look s.o G i ob g->ob.live=true->g.F b->i∉u->b∉CP.flatten++fp:=by
  intro i ob g b hl hlive hF hiu hX;rcases(Ak b hX).1 with h|h
  .exact aMv hl hlive hF hiu h
  .have:=(rr.fresh _ _ _ b hl hlive hF).2;omega
 have Gr:∀i ob g b,look s.o G i ob g->ob.live=true->g.F b->i∉u->w'.heap[b]? =w.heap[b]?:=λi ob g b hl hlive hF hiu=>
  oF b (rr.fresh _ _ _ b hl hlive hF).2 (λhm=>aMv hl hlive hF hiu (Pe b hm))
 let Er:Env:={env B s.o G w with D:=λi b=>i∉u/\(env B s.o G w).D i b}
 have rt1:nG (iU u) true (env B s.o G w) Er (λ_=>True):=by
  refine⟨λt e=>by simp[iU]at e,λt e=>by simp only[iU,eE]at e;exact⟨e.symm,λb hb=>hb⟩,λi t e=> ?_,λ_ _ _ _ h=>h,λ_ _ _ _ _ _ h=>h⟩;simp only[iU]at e;split at e
  .cases e
  .rename_i hiu;obtain rfl:=cQ e;refine⟨by simp,?_,λb hb=>⟨hiu,hb⟩⟩;by_cases hV:(env B s.o G w).V i
   .exact .inl hV
   .exact .inr hV
 have k2:eO w Er w' (env B (o1++news) (G1++Gs) w'):=by
  refine⟨λb hb=> ?_,λi h ob vZ=> ?_,λi b hV h=> ?_,λi bU x h=> ?_,λi bU j q x h=> ?_⟩
  .have hb':(env B s.o G w).A b:=hb;have hbl:=xB rr hb';have hnO:¬Of s.o G u b:=λ⟨i,ob,g,_,hl,hlive,hF⟩=>hb'.2 i ob g hl hlive hF
   have hnX:b∉CP.flatten++fp:=λhX=>by
    rcases(Ak b hX).1 with h|h
    .exact hnO h
    .omega
   refine⟨⟨?_,λi fF g' hl hlive hF=> ?_⟩,oF b hbl (λh=>hnO (Pe b h))⟩
   .rcases hb'.1 with h|h
    .exact .inl h
    .exact .inr ⟨h.1,by omega⟩
   .rcases lk hl with⟨j,_,hl2⟩|⟨_,ob,g,hl0,⟨p,hp,rfl,_,rfl⟩|⟨_,rfl,⟨_,rfl⟩|⟨_,rfl⟩⟩⟩
    .exact hnX (aOd (aOc hl2 hF))
    .obtain ⟨b1,b2,b3,b0,f0,b4,b5,b6,_⟩:=aEx hp hl0;obtain⟨a0,ha0,rfl⟩:=hF;rw[b4]at ha0;obtain rfl:=cQ ha0;exact hb'.2 _ ob g hl0 b1 b5
    .simp at hlive
    .refine hb'.2 i ob g' hl0 ?_ hF;rw[nV]at hlive;exact hlive
  .have hi:i<G.length:=by rw[rr.len];exact(cH.1 vZ).1
   obtain⟨fF,g',hl,h1,_⟩:=kl (i:=i) (ob:=ob) (g:=G[i]) ⟨vZ,aE hi⟩;exact h1 (h fF hl.1)
  .obtain ⟨hiu,ob,g,hl,hlive,hF,hne⟩:=h;obtain⟨fF,g',CQ,_,_,_,_,_,_,_,h7⟩:=kl hl;obtain⟨rfl,h8⟩:=h7 hiu;exact⟨⟨fF,g',CQ,by rw[h8];exact hlive,hF,hne⟩,Gr i ob g' b hl hlive hF hiu⟩
  .obtain ⟨ob,g,hl,AU,hh,hz⟩:=h;obtain⟨fF,g',CQ,h1,h2,h3,h4,h5,h6,_⟩:=kl hl;exact⟨fF,g',CQ,by omega,λhlive VI=>by rw[h4,h5,h6];exact hh (h1 hlive) (by omega),hz⟩
  .obtain ⟨ob,g,hl,AU,hh,hz⟩:=h;obtain⟨fF,g',CQ,h1,h2,h3,h4,h5,h6,h8,_⟩:=kl hl;exact⟨fF,g',CQ,by omega,λhlive VI=>by rw[h4,h3];exact hh (h1 hlive) (by omega),
    λe e2 e3 e4 y hy=>⟨(hz (by rw[<-h8];exact e) e2 e3 e4 y hy).1,λhlive VI=>by rw[h5];exact(hz (by rw[<-h8];exact e) e2 e3 e4 y hy).2 (h1 hlive) (by omega)⟩⟩
 have tm:Rc w' (env B (o1++news) (G1++Gs) w') (xO (iU u) true s.t) a.tmps.toList []:=
  dU k2 _ _ _ (by simp) (yB rt1 _ _ _ (by simp) rr.tmps)
 have kn:∀E':Env,eO w' mJ w' E':=λE'=>⟨λ_ h=>h.elim,λ_ _=>trivial,λ_ _ _ h=>h.elim,λ_ _ _ h=>h.elim,λ_ _ _ _ _ h=>h.elim⟩
 have hfin:=rF (env B (o1++news) (G1++Gs) w') (kn _) (λj ob g hl=>by
  obtain⟨_,_,h3,_⟩:=CL _ _ _ hl;refine⟨ob,g,?_,DA h3.symm,λ_ _=>rfl,λh=>absurd h (by decide)⟩;have:=qB (o:=o1) (G:=G1) hlG hl
  rwa[hl1]at this)
 obtain⟨Gh,jK⟩:=hfin;have rel:eB B ⟨xO (iU u) true s.t,o1++news⟩ (G1++Gs) a w':=by
  refine {len:=by simp[hlG,hlen],defs:=rr.defs,ok:= ?_,apart:= ?_,fresh:= ?_,tmps:=tm,size:=lB rr.size hsz,frame:= ?_,base:=rr.base,same:=rr.same.trans Gd}
  .intro i fF g' hl hlive;rcases lk hl with⟨j,_,hl2⟩|⟨_,ob,g,hl0,⟨p,hp,rfl,rfl,rfl⟩|⟨_,rfl,⟨_,rfl⟩|⟨hiu,rfl⟩⟩⟩
   .obtain ⟨h1,h2,_,f',hown,h3,h4,h5⟩:=CL _ _ _ hl2;refine⟨f',?_,h3,λb hb=>(h4 b).2 hb⟩;rw[h2];exact hown.keeps (kn _).plain (λ_ _=>rfl)
   .obtain ⟨b1,b2,b3,b0,f0,b4,b5,b6,_⟩:=aEx hp hl0;have:=Gh p hp ob g b0 f0 hl0 b4;refine⟨[b0],?_,by simp,?_⟩
    .simp only[b2,Env.of,gE];exact this
    .intro b hb;simp only[rS]at hb;subst hb;exact⟨_,b4,rfl⟩
   .simp at hlive
   .rw [nV]at hlive;obtain⟨fpo,hown,JU,QV⟩:=rr.ok i ob g' hl0 hlive;by_cases Gh:ob.box=true
    .simp only[Gh,Env.of,gE]at hown;obtain⟨hlen,hown⟩:=hown;by_cases hall:DD ob.dO=true
     .have hfo:ob.forget u=ob:=by unfold aN.forget;simp[Gh,hall]
      rw[hfo];refine⟨fpo,?_,JU,QV⟩;simp only[Gh,Env.of,gE];refine⟨hlen,?_⟩;rcases hown with h|⟨b,off,C,e,fz,aEt,ha,hb,hz,h1,h2,h3,rfl,ym⟩
      .exact .inl h
      .have hbs:=Gr i ob g' b hl0 hlive (QV b (by simp)) hiu;exact .inr ⟨b,off,C,e,fz,aEt,ha,by rw[hbs];exact hb,hz,h1,h2,h3,rfl,mG k2 _ _ _ _ _ hbs (λx hx=>Gr i ob g' x hl0 hlive (QV x (by simp[hx])) hiu) (aEm hall ym)⟩
     .have hfo:ob.forget u={ob with dO:=mX (iU u) true ob.dO}:=by unfold aN.forget;rw[eK Gh,cY hall]
      rw[hfo];rcases hown with⟨h1,h2,h3⟩|⟨b,off,C,e,fz,aEt,ha,hb,hz,h1,h2,h3,rfl,ym⟩
      .exact ⟨[],⟨by simp[mH];exact hlen,.inl ⟨by simp[h1,mX],h2,rfl⟩⟩,by simp,by simp⟩
      .have WV:=QV b (by simp);have hbs:=Gr i ob g' b hl0 hlive WV hiu;refine⟨[b],⟨by simp[mH];exact hlen,.inr ⟨b,off,C,e,fz,[],ha,by rw[hbs];exact hb,hz,h1,by simpa [mH]using h2,h3,rfl,?_⟩⟩,by simp,by simpa using WV⟩;simp only[Gh,Env.of,gE];exact mG k2 _ _ _ _ _ hbs (by simp) (Jc rt1 _ _ _ _ _ (by simp) ym)
    .have aEu:ob.box=false:=by simpa using Gh
     have hfo:ob.forget u=ob:=by unfold aN.forget;simp[aEu]
     rw[hfo];refine⟨fpo,?_,JU,QV⟩;simp only[aEu,Env.of,eS,hM]at hown⊢;have kp:eO w (env B s.o G w).plain w' (env B (o1++news) (G1++Gs) w').plain:=k2.plain;exact hown.keeps kp (λb hb=>Gr i ob g' b hl0 hlive (QV b hb) hiu)
  .-- every object its own blocks
   have cls:∀{i fF g' b},look (o1++news) (G1++Gs) i fF g'->fF.live=true->g'.F b->(∃j,i=s.o.length+j/\look news Gs j fF g'/\b∈inner++fp)\/
     (i<s.o.length/\∃ob g,look s.o G i ob g/\ob.live=true/\g.F b/\((b∈CP.flatten/\b∉inner)\/b∉CP.flatten++fp)):=by
    intro i fF g' b hl hlive hF;rcases lk hl with⟨j,hj,hl2⟩|⟨hi,ob,g,hl0,⟨p,hp,rfl,rfl,rfl⟩|⟨_,rfl,⟨_,rfl⟩|⟨hiu,rfl⟩⟩⟩
    .exact .inl ⟨j,hj,hl2,aOc hl2 hF⟩
    .obtain ⟨b1,b2,b3,b0,f0,b4,b5,b6,b7⟩:=aEx hp hl0;obtain⟨a0,ha0,rfl⟩:=hF;rw[b4]at ha0;obtain rfl:=cQ ha0;exact .inr ⟨hi,ob,g,hl0,b1,b5,.inl ⟨b6,b7⟩⟩
    .simp at hlive
    .rw [nV]at hlive;exact .inr ⟨hi,ob,g',hl0,hlive,hF,.inr (aVh hl0 hlive hF hiu)⟩
   have mixed:∀{b},b∈inner++fp->((b∈CP.flatten/\b∉inner)\/b∉CP.flatten++fp)->False:=by
    rintro b hb (⟨h1,h2⟩|h)
    .rcases eW.1 hb with h|h
     .exact h2 h
     .exact YB.2.2 b h1 b h rfl
    .exact h (aOd hb)
   intro i j oi oj gi gj b hi hj hil hjl FH Ns;rcases cls hi hil FH with⟨i',rfl,hi',hbi⟩|⟨aN9,ob1,g1,hl1,aVi,hF1,hc1⟩<;>rcases cls hj hjl Ns with⟨j',rfl,xc,hbj⟩|⟨aN8,ob2,g2,hl2,aVj,hF2,ZX⟩
   .rw [hap _ _ _ _ _ _ b hi' xc FH Ns]
   .exact (mixed hbi ZX).elim
   .exact (mixed hbj hc1).elim
   .exact rr.apart _ _ _ _ _ _ b hl1 hl2 aVi aVj hF1 hF2
  .intro i fF g' b hl hlive hF;have ofX:b∈CP.flatten++fp->(B.O0 b\/B.w0.heap.size<=b)/\b<w'.heap.size:=λhX=>by
    obtain⟨h1,h2⟩:=Ak b hX;refine⟨?_,h2⟩;rcases h1 with⟨j,oj,gj,_,hlj,hjl,VC⟩|h
    .exact (rr.fresh _ _ _ b hlj hjl VC).1
    .exact .inr (lB rr.size h)
   rcases lk hl with⟨j,hj,hl2⟩|⟨hi,ob,g,hl0,⟨p,hp,rfl,rfl,rfl⟩|⟨_,rfl,⟨_,rfl⟩|⟨hiu,rfl⟩⟩⟩
   .exact ofX (aOd (aOc hl2 hF))
   .obtain ⟨b1,b2,b3,b0,f0,b4,b5,b6,b7⟩:=aEx hp hl0;obtain⟨a0,ha0,rfl⟩:=hF;rw[b4]at ha0;obtain rfl:=cQ ha0;exact ofX (oE _ b6)
   .simp at hlive
   .rw [nV]at hlive;have:=rr.fresh _ _ _ b hl0 hlive hF;exact⟨this.1,by omega⟩
  .intro b hb hO;rw[<-rr.frame b hb hO];refine oF b (nF hb rr.size) (λhm=> ?_);obtain⟨j,oj,gj,_,hlj,hjl,VC⟩:=Pe b hm;rcases(rr.fresh _ _ _ b hlj hjl VC).1 with h|h
   .exact hO h
   .omega
 exact⟨_,rel.put dst jK⟩
mutual
def JY(i bU:Nat)(y:AV):AV->AV
 | .obj j v=>if j=i/\v=bU then y else .obj j v
 | .agg c=> .agg (Sj i bU y c)
 | .gM c=> .gM (Sj i bU y c)
 |x=>x
def Sj(i bU:Nat)(y:AV):List AV->List AV
 |[]=>[]
 |x::xs=>JY i bU y x::Sj i bU y xs
end
def YH(i bU:Nat)(y:AV):List (List AV)->List (List AV)
 |[]=>[]
 |e::es=>Sj i bU y e::YH i bU y es
theorem CV(i bU:Nat)(y:AV):∀l,(YH i bU y l).length=l.length
 |[]=>rfl
 |_::l=>by simp[YH,CV i bU y l]
def aN.JY(i bU:Nat)(y:AV)(ob:aN):aN:=if ob.box=true then {ob with dO:=YH i bU y ob.dO}else ob
def Sk(i bU:Nat)(y:AV):Nat->List aN->List aN
 |_,[]=>[]
 |k,ob::r=>(if k=i then ob.kill else ob.JY i bU y)::Sk i bU y (k+1) r
theorem Sl(i bU:Nat)(y:AV):∀(o:List aN) (k j:Nat),(Sk i bU y k o)[j]? =(o[j]?).map λob=>if k+j=i then ob.kill else ob.JY i bU y
 |[],_,_=>by simp[Sk]
 |ob::r,k,0=>by simp[Sk]
 |ob::r,k,j+1=>by simp only[Sk,At];rw[Sl i bU y r (k+1) j,show k+1+j=k+(j+1)by omega]
theorem Pg(i bU:Nat)(y:AV):∀(o:List aN) (k:Nat),(Sk i bU y k o).length=o.length
 |[],_=>rfl
 |ob::r,k=>by simp[Sk,Pg i bU y r]
def AS.frozen(s:AS)(i bU:Nat)(ob:aN):AS:=
 ⟨Sj i bU (.sl .view ob.n (mX (λ_=>some .view) false ob.dO)) s.t,Sk i bU (.sl .view ob.n (mX (λ_=>some .view) false ob.dO)) 0 s.o⟩
mutual
theorem aR7{w:World}{E E':Env}{i bU:Nat}{y:AV}(k:eO w E w E')(hy:∀v,E.H i bU v->R w E' y v []):∀(x:AV) (v:Value) (fp:List Nat),R w E x v fp->R w E' (JY i bU y x) v fp
 | .obj j u,v,fp,h=>by
  simp only[JY];split
  .rename_i e;obtain⟨rfl,rfl⟩:=e;simp only[R]at h;obtain⟨rfl,h⟩:=h;exact hy v h
  .exact qK k _ _ _ (λ_ _=>rfl) h
 | .agg c,v,fp,h=>by simp only[R,JY]at h⊢;obtain⟨cs,h1,h2,h3⟩:=h;exact⟨cs,h1,h2,Sm k hy c cs fp h3⟩
 | .gM c,v,fp,h=>by simp only[R,JY]at h⊢;obtain⟨cs,h1,h3⟩:=h;exact⟨cs,h1,Sm k hy c cs fp h3⟩
 | .int _ _,v,fp,h=>by simp only[JY];exact qK k _ _ _ (λ_ _=>rfl) h
 | .bool _,v,fp,h=>by simp only[JY];exact qK k _ _ _ (λ_ _=>rfl) h
 | .str _,v,fp,h=>by simp only[JY];exact qK k _ _ _ (λ_ _=>rfl) h
 | .sl _ _ _,v,fp,h=>by simp only[JY];exact qK k _ _ _ (λ_ _=>rfl) h
 | .eU _ _ _,v,fp,h=>by simp only[JY];exact qK k _ _ _ (λ_ _=>rfl) h
 | .ptr _ _ _ _,v,fp,h=>by simp only[JY];exact qK k _ _ _ (λ_ _=>rfl) h
 | .fn _ _,v,fp,h=>by simp only[JY];exact qK k _ _ _ (λ_ _=>rfl) h
 | .undef,v,fp,h=>by simp only[JY];exact qK k _ _ _ (λ_ _=>rfl) h
theorem Sm{w:World}{E E':Env}{i bU:Nat}{y:AV}(k:eO w E w E')(hy:∀v,E.H i bU v->R w E' y v []):∀(c:List AV) (cs:List Value) (fp:List Nat),Rc w E c cs fp->Rc w E' (Sj i bU y c) cs fp
 |[],[],_,h=>by simpa [Rc,Sj]using h
 |[],_::_,_,h=>by simp[Rc]at h
 |_::_,[],_,h=>by simp[Rc]at h
 |x::xs,c::cs,fp,h=>by simp only[Rc,Sj]at h⊢;obtain⟨f1,f2,h1,h2,h3⟩:=h;exact⟨f1,f2,aR7 k hy x c f1 h1,Sm k hy xs cs f2 h2,h3⟩
end
theorem aEy{w:World}{E E':Env}{i bU:Nat}{y:AV}(k:eO w E w E')(hy:∀v,E.H i bU v->R w E' y v []):∀(l:List (List AV)) (b off n:Nat) (fp:List Nat),Rr w E l b off n fp->Rr w E' (YH i bU y l) b off n fp
 |[],_,_,_,_,h=>by simpa [Rr,YH]using h
 |e::es,b,off,n,fp,h=>by simp only[Rr,YH]at h⊢;obtain⟨cs,f1,f2,h1,h2,h3,h4,h5,h6⟩:=h;exact⟨cs,f1,f2,h1,h2,h3,Sm k hy e cs f1 h4,aEy k hy es b (off+n) n f2 h5,h6⟩
theorem X4{P:Program}[aB P]{B:gN P}{s:AS}{a:Act}{w:World}{i bU:Nat}{ob:aN}(vZ:AV.isObj s.o i bU=some ob)(wB:ob.box=false)(hr:Rel B s a w):Rel B (s.frozen i bU ob) a w:=by
 obtain⟨G,r⟩:=hr;obtain⟨h1,h2,h3⟩:=lI vZ;generalize hyy:AV.sl .view ob.n (mX (λ_=>some .view) false ob.dO)=y;generalize ho':Sk i bU y 0 s.o=o';have back:∀{j fF g},look o' G j fF g->∃zH,look s.o G j zH g/\((j=i/\fF=zH.kill)\/(j≠i/\fF=zH.JY i bU y)):=by
  rintro j fF g ⟨e1,e2⟩;rw[<-ho',Sl,hY]at e1;cases hx:s.o[j]? with
  |none=>rw[hx]at e1;cases e1
  |some zH=>
   rw[hx]at e1;simp only[mT,eE]at e1;refine⟨zH,⟨hx,e2⟩,?_⟩;by_cases hj:j=i
   .rw [eK hj]at e1;exact .inl ⟨hj,e1.symm⟩
   .rw [cY hj]at e1;exact .inr ⟨hj,e1.symm⟩
 have Xe:∀{j zH g},look s.o G j zH g->look o' G j (if j=i then zH.kill else zH.JY i bU y) g:=by rintro j zH g ⟨e1,e2⟩;refine⟨?_,e2⟩;rw[<-ho',Sl,hY,e1];rfl
 have fz:∀zH:aN,(zH.JY i bU y).live=zH.live/\(zH.JY i bU y).box=zH.box/\(zH.JY i bU y).n=zH.n/\(zH.JY i bU y).bU=zH.bU/\(zH.JY i bU y).dO.length=zH.dO.length:=by intro zH;unfold aN.JY;split<;>simp[CV]
 have k:eO w (env B s.o G w) w (env B o' G w):=by
  refine DU (eC _) (λb hb=>⟨xB r hb,rfl⟩) r.len ?_ ?_
  .intro j zH g hl;have hf:=fz zH;by_cases hj:j=i
   .refine ⟨_,g,Xe hl,?_⟩;rw[eK hj];refine⟨eC _,λhb=> .inl hb,λLj=> ?_⟩;simp[aN.kill]at Lj
   .refine ⟨_,g,Xe hl,?_⟩;rw[cY hj];exact⟨by rw[hf.2.2.2.1];exact eC _,λhb=> .inl (by rw[<-hf.2.1];exact hb),λLj=>⟨by rw[<-hf.1];exact Lj,hf.2.2.1,λ_=>⟨rfl,rfl,hf.2.2.2.2⟩,λb hb hne=>⟨hb,hne,rfl⟩⟩⟩
  .intro j fF g b hl Lj hF;obtain⟨zH,hl0,h⟩:=back hl;rcases h with⟨_,rfl⟩|⟨_,rfl⟩
   .simp [aN.kill]at Lj
   .exact .inr ⟨j,zH,g,hl0,by rw[<-(fz zH).1];exact Lj,hF⟩
 have hy:∀v,(env B s.o G w).H i bU v->R w (env B o' G w) y v []:=by
  intro v hv;obtain⟨ob1,g,hl,_,hh,_⟩:=hv;obtain rfl:=cQ (hl.1.symm.trans h1);have hv:=hh h2 h3;obtain⟨fp,⟨hlen,hown⟩,hnd,hF⟩:=r.ok i _ g hl h2;rw[wB]at hown;rw[<-hyy];simp only[R,mH];refine .inr ⟨g.a,g.cap,hv,⟨hlen,by rcases hown with h|⟨_,_,_,_,_,_,_,_,_,_,h,_⟩;simp[h.1];exact h⟩,.inr (.inr ⟨by simp,trivial,?_⟩)⟩;rcases hown with⟨h5,_⟩|⟨b,off,C,e,VE,qN,ha,hbk,hz,k1,k2,k3,rfl,hrr⟩
  .left;rw[h5];rfl
  .right;have hA:∀x,g.F x->(env B o' G w).A x:=by
    intro x hx;have hfr:=r.fresh _ _ _ x hl h2 hx;refine⟨hfr.1.elim (λh=> .inl (B.gA x h)) (λh=> .inr ⟨h,hfr.2⟩),λj fF g' CQ Lj hF'=> ?_⟩;obtain⟨zH,hl0,h⟩:=back CQ;rcases h with⟨_,rfl⟩|⟨hj,rfl⟩
    .simp [aN.kill]at Lj
    .exact hj (r.apart j i _ _ _ _ x hl0 hl (by rw[<-(fz zH).1];exact Lj) h2 hF' hx)
   have rt:nG (λ_=>some .view) false (env B s.o G w).plain (env B o' G w).plain g.F:=
    {own:=λt e=>by obtain rfl:=cQ e;exact⟨by simp,λb hb=>hA b hb⟩
     view:=λt e=>by obtain rfl:=cQ e;exact⟨rfl,λb hb=>(k.a b hb).1⟩
     kH:=λj t e=>by obtain rfl:=cQ e;exact⟨by simp,.inl trivial,λb hb=>hb.elim⟩
     hh:=λh=>by cases h
     hl:=λh=>by cases h}
   exact⟨b,off,ha,hA b (hF b (by simp)),Jc rt _ _ _ _ qN (λx hx=>hF x (by simp[hx])) hrr⟩
 refine⟨G,{len:= ?_,defs:=r.defs,ok:= ?_,apart:= ?_,fresh:= ?_,tmps:= ?_,size:=r.size,frame:=r.frame,base:=r.base,same:=r.same}⟩
 .simp only[AS.frozen,Pg];exact r.len
 .simp only[AS.frozen,hyy,ho'];intro j fF g hl Lj;obtain⟨zH,hl0,h⟩:=back hl;rcases h with⟨_,rfl⟩|⟨hj,rfl⟩
  .simp [aN.kill]at Lj
  obtain⟨fp,hown,hnd,hF⟩:=r.ok j _ g hl0 (by rw[<-(fz zH).1];exact Lj);refine⟨fp,?_,hnd,hF⟩;cases hb0:zH.box with
  |false=>
   have e:zH.JY i bU y=zH:=by unfold aN.JY;rw[cY (by simp[hb0])]
   rw[e];rw[hb0]at hown⊢;exact hown.keeps k.plain (λ_ _=>rfl)
  |true=>
   have e:zH.JY i bU y={zH with dO:=YH i bU y zH.dO}:=by unfold aN.JY;rw[eK hb0]
   rw[e];simp only[hb0]at hown⊢;simp only[Env.of,gE]at hown⊢;obtain⟨hlen,hown⟩:=hown;refine⟨by rw[CV];exact hlen,?_⟩;rcases hown with h|⟨b,off,C,e,VE,qN,ha,hbk,hz,k1,k2,k3,rfl,hrr⟩
   .exact .inl ⟨by rw[h.1];rfl,h.2⟩
   .exact .inr ⟨b,off,C,e,VE,qN,ha,hbk,hz,k1,by rw[CV];exact k2,k3,rfl,aEy k hy _ _ _ _ _ hrr⟩
 .simp only[AS.frozen,hyy,ho'];intro p q op oq gp gq b hp hq hlp hlq hFp hFq;obtain⟨op0,hp0,h⟩:=back hp;obtain⟨oq0,W9,h'⟩:=back hq;rcases h with⟨_,rfl⟩|⟨_,rfl⟩
  .simp [aN.kill]at hlp
  rcases h' with⟨_,rfl⟩|⟨_,rfl⟩
  .simp [aN.kill]at hlq
  exact r.apart p q _ _ _ _ b hp0 W9 (by rw[<-(fz op0).1];exact hlp) (by rw[<-(fz oq0).1];exact hlq) hFp hFq
 .simp only[AS.frozen,hyy,ho'];intro j fF g b hl Lj hF;obtain⟨zH,hl0,h⟩:=back hl;rcases h with⟨_,rfl⟩|⟨_,rfl⟩
  .simp [aN.kill]at Lj
  exact r.fresh j _ g b hl0 (by rw[<-(fz zH).1];exact Lj) hF
 .simp only[AS.frozen,hyy,ho'];exact Sm k hy _ _ _ r.tmps
def aOe(P:Program)[aB P](o:Oper)(s:AS)(K:AS->Prop):Prop:=
 match o.op with
 | .slice _ x _ _ none=>match s.ev x with
  | .obj i bU=>match AV.isObj s.o i bU with
   |some ob=>ob.box=false/\sM P o (s.frozen i bU ob) K
   |none=>False
  |_=>False
 |_=>False
attribute [simp] JY Sj YH Sk aN.JY AS.frozen
mutual
def vG:AV->Bool
 | .int _ _=>true
 | .bool _=>true
 | .str _=>true
 | .agg c=>JZ c
 |_=>false
def JZ:List AV->Bool
 |[]=>true
 |x::xs=>vG x&&JZ xs
end
mutual
theorem aBn{w w':World}{E E':Env}:∀(x:AV) (v:Value) (fp:List Nat),vG x=true->R w E x v fp->R w' E' x v fp
 | .int _ _,_,_,_,h=>by simpa [R]using h
 | .bool _,_,_,_,h=>by simpa [R]using h
 | .str _,_,_,_,h=>by simpa [R]using h
 | .agg c,v,fp,hc,h=>by simp only[R]at h⊢;obtain⟨cs,h1,h2,h3⟩:=h;exact⟨cs,h1,h2,Ka c cs fp (by simpa [vG]using hc) h3⟩
 | .sl _ _ _,_,_,hc,_=>by simp[vG]at hc
 | .eU _ _ _,_,_,hc,_=>by simp[vG]at hc
 | .obj _ _,_,_,hc,_=>by simp[vG]at hc
 | .ptr _ _ _ _,_,_,hc,_=>by simp[vG]at hc
 | .gM _,_,_,hc,_=>by simp[vG]at hc
 | .fn _ _,_,_,hc,_=>by simp[vG]at hc
 | .undef,_,_,hc,_=>by simp[vG]at hc
theorem Ka{w w':World}{E E':Env}:∀(c:List AV) (cs:List Value) (fp:List Nat),JZ c=true->Rc w E c cs fp->Rc w' E' c cs fp
 |[],[],_,_,h=>by simpa [Rc]using h
 |[],_::_,_,_,h=>by simp[Rc]at h
 |_::_,[],_,_,h=>by simp[Rc]at h
 |x::xs,c::cs,fp,hc,h=>by simp only[JZ,eI]at hc;simp only[Rc]at h⊢;obtain⟨f1,f2,h1,h2,h3⟩:=h;exact⟨f1,f2,aBn x c f1 hc.1 h1,Ka xs cs f2 hc.2 h2,h3⟩
end
def YI(S:Nat->Prop):Env:=⟨S,λ_=>True,λ_ _=>False,λ_ _ _=>False,λ_ _ _ _ _=>False⟩
def NB(code:List UInt8)(i h:Int):List AV:=[.sl .view 1 (dK code),.int .i64 i,.int .i64 h]
theorem aKh{w:World}{E E':Env}{n:Nat}{l:List (List AV)}{v:Value}{fp:List Nat}(k:eO w E.plain w E'.plain)(h:R w E (.sl .view n l) v fp):R w E' (.sl .view n l) v fp:=by
 simp only[R]at h⊢;rcases h with h|⟨a,cap,hv,hl,h⟩
 .exact h.1.elim
 .refine .inr ⟨a,cap,hv,hl,?_⟩;rcases h with h|h|⟨hg,JI,h⟩
  .exact absurd h.1 (by simp)
  .exact absurd h.1 (by simp)
  .refine .inr (.inr ⟨hg,JI,?_⟩);rcases h with h|⟨b,off,ha,ht,hr⟩
   .exact .inl h
   .refine .inr ⟨b,off,ha,(k.a b ht).1,?_⟩;exact mG k _ _ _ _ _ rfl (by simp) hr
theorem aKi{w:World}{E E':Env}{code:List UInt8}{i h:Int}{a:Option Addr}{cap:Nat}{fp:List Nat}(k:eO w E.plain w E'.plain)(ho:uU w E 3 [NB code i h] a cap fp):uU w E' 3 [NB code i h] a cap fp:=by
 refine⟨ho.1,?_⟩;rcases ho.2 with h0|⟨b,off,C,e,fz,qN,ha,hb,hz,h1,h2,h3,hf,hr⟩
 .exact absurd h0.1 (by simp)
 .refine .inr ⟨b,off,C,e,fz,qN,ha,hb,hz,h1,h2,h3,hf,?_⟩;simp only[Rr,NB,Rc]at hr⊢;obtain⟨cs,f1,f2,hn,hc,hone,wL,hf2,hfe⟩:=hr;refine⟨cs,f1,f2,hn,hc,hone,?_,hf2,hfe⟩;cases cs with
  |nil=>simp at hn
  |cons v0 cs=>
   cases cs with
   |nil=>simp at hn
   |cons v1 cs=>
    cases cs with
    |nil=>simp at hn
    |cons v2 cs=>
     simp only[Rc]at wL⊢;obtain⟨g1,g2,r1,r2,e1⟩:=wL;refine⟨g1,g2,aKh k r1,?_,e1⟩;cases cs with
     |nil=>simpa [R,Rc]using r2
     |cons _ _=>simp at hn
mutual
def Sn:AV->Bool
 | .int _ _=>true
 | .bool _=>true
 | .str _=>true
 | .sl .view _ _=>true
 | .sl .own _ []=>true
 | .agg c=>NC c
 |_=>false
def NC:List AV->Bool
 |[]=>true
 |x::xs=>Sn x&&NC xs
end
def aEz(w:World)(S:Nat->Prop)(b fo cap:Nat)(code:List UInt8):Prop:=
 ∃i h:Int,0<=i/\uU w (YI S) 3 [NB code i h] (some ⟨b,fo,none⟩) cap [b]
def OkC(P:Program)[aB P](f:FuncId)(xs:List AV)(Q:AV->Prop):Prop:=
 ∀(w:World) (S:Nat->Prop) (b fo cap:Nat) (code:List UInt8) (vs:List Value),aB.holds P w->aB.low P<=b->b<w.heap.size->¬S b->(∀x,S x->x<w.heap.size)->aEz w S b fo cap code->Rc w (YI S) xs vs []->
  Calls P f (.pointer (some ⟨b,fo,none⟩)::vs).toArray w λe w'=>∃r v fp,e= .returned v/\Q r/\R w' (YI λx=>(S x\/(w.heap.size<=x/\x<w'.heap.size))/\x∉fp) r v fp/\fp.Nodup/\(∀x∈fp,w.heap.size<=x/\x<w'.heap.size)/\w.heap.size<=w'.heap.size/\
   (∀x,x<w.heap.size->x≠b->w'.heap[x]? =w.heap[x]?)/\mI w w'/\aEz w' (λx=>(S x\/(w.heap.size<=x/\x<w'.heap.size))/\x∉fp) b fo cap code
def AS.drew(s:AS)(dst:Option Tmp)(k bU:Nat)(code:List UInt8)(i h:Int)(r:AV):AS:=AS.called ⟨s.t,s.o.set k ⟨true,true,3,bU,[NB code i h]⟩⟩ dst r
def OkE(P:Program)[aB P](f:FuncId)(args:List AV)(Q:AV->Prop):Prop:=
 ∀(w:World) (S:Nat->Prop) (vs:List Value),aB.holds P w->(∀x,S x->x<w.heap.size)->Rc w (YI S) args vs []->
  Calls P f vs.toArray w λe w'=>∃r v fp,e= .returned v/\Q r/\R w' (YI λx=>(S x\/(w.heap.size<=x/\x<w'.heap.size))/\x∉fp) r v fp/\fp.Nodup/\
   (∀b∈fp,w.heap.size<=b/\b<w'.heap.size)/\w.heap.size<=w'.heap.size/\(∀b,b<w.heap.size->w'.heap[b]? =w.heap[b]?)/\mI w w'
def aVp(P:Program)[aB P](f:FuncId):Prop:=
 ∀(w:World) (S:Nat->Prop) (v:Value) (code:List UInt8),aB.holds P w->(∀x,S x->x<w.heap.size)->R w (YI S) (.sl .view 1 (dK code)) v []->
  Calls P f #[v] w λe w'=>∃b fo cap,e= .returned (.pointer (some ⟨b,fo,none⟩))/\w.heap.size<=b/\b<w'.heap.size/\aEz w' (λx=>(S x\/(w.heap.size<=x/\x<w'.heap.size))/\x≠b) b fo cap code/\
   w.heap.size<=w'.heap.size/\(∀b,b<w.heap.size->w'.heap[b]? =w.heap[b]?)/\mI w w'
def AS.aOf(s:AS)(dst:Option Tmp)(code:List UInt8)(i h:Int):AS:=AS.put ⟨s.t,s.o++[⟨true,true,3,0,[NB code i h]⟩]⟩ dst (.ptr s.o.length 0 0 0)
def yx(P:Program)[aB P](o:Oper)(s:AS)(K:AS->Prop):Prop:=False
theorem yz{P:Program}[aB P]{B:gN P}{o:Oper}{s:AS}{K:AS->Prop}(h:yx P o s K)(a:Act)(w:World)(next:Act->World->Prop)(X:Exit->Act->World->Prop)(hr:Rel B s a w)
  (hn:∀a' w' s',K s'->Rel B s' a' w'->next a' w'):o.wp P a w next X:=False.elim h
end
end Go.Aw
