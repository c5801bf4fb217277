/- Proved here: steps towards the statement of this claim. No condition. -/
import Derived.Test.YtjmpjmilndkgfaaGreatDoorZF2
set_option linter.all false
namespace Go.Aw
open List
def rowOf (o:List aM) (i:Nat):List AV:=match o[i]? with
 |some ob=>ob.dR.headD []
 |none=>[]
def UF (o:List aM):AV->List Nat
 | .ptr i _ _ _=>i::kH (rowOf o i)
 |_=>[]
def uS (o:List aM):List AV->List GA->List Nat
 |x::xs,.view _::gs=>uS o xs gs
 |x::xs,.nX _::gs=>lU x++uS o xs gs
 |x::xs,.sH _ _::gs=>UF o x++uS o xs gs
 |_,_=>[]
def aF9 (o:List aM) (c:List AV):AV->Prop
 | .ptr i bY 0 0=>∃ob,AV.isObj o i bY=some ob/\ob.box=true/\∃cells,ob.dR=[cells]/\mW o cells=true/\tC o cells=c
 |_=>False
def handed (o:List aM) (u:List Nat):List AV->List GA->Prop
 |[],[]=>True
 |x::xs,.view y::gs=>PN u x=true/\arg o x=y/\handed o u xs gs
 |x::xs,.nX y::gs=>jM o x=true/\res o x=y/\handed o u xs gs
 |x::xs,.sH c _::gs=>aF9 o c x/\handed o u xs gs
 |_,_=>False
def gy (o:List aM) (G:List CO) (c:List AV) (v:Value) (cap:Nat):AV->Prop
 | .ptr i _ _ _=>∃ob g b f,look o G i ob g/\ob.live=true/\ob.box=true/\ob.n=c.length/\ob.dR.length=1/\g.a=some ⟨b,f,none⟩/\v= .pointer (some ⟨b,f,none⟩)/\g.F b/\g.cap=cap
 |_=>False
def oO (o:List aM) (G:List CO):List AV->List GA->List Value->List Nat->Prop
 |[],[],[],[]=>True
 |x::xs,.sH c _::gs,v::vs,cap::jD=>gy o G c v cap x/\oO o G xs gs vs jD
 |x::xs,.view _::gs,v::vs,cap::jD=>oO o G xs gs vs jD
 |x::xs,.nX _::gs,v::vs,cap::jD=>oO o G xs gs vs jD
 |_,_,_,_=>False
section
variable {P : Program} [aC P] {B : gN P} {s : AS} {G : List CO} {a : Act} {w : World}
theorem Jr (r:eP B s G a w) {u1 u2:List Nat} (hd:∀i∈u1,∀j∈u2,i≠j) {b:Nat} (h1:Of s.o G u1 b) (h2:Of s.o G u2 b):False:=by obtain ⟨i,ob,g,hi,hl,hlive,hF⟩:=h1;obtain ⟨j,fI,g',hj,BP,wR,hF'⟩:=h2;exact hd i hi j hj (r.apart i j _ _ _ _ b hl BP hlive wR hF hF')
theorem BS {o:List aM} {u1 u2:List Nat} (h:∀i∈u1,i∈u2) {b:Nat} (h1:Of o G u1 b):Of o G u2 b:=by obtain ⟨i,ob,g,hi,k⟩:=h1;exact ⟨i,ob,g,h i hi,k⟩
theorem UG (r:eP B s G a w) {Z:Nat->Prop} {U:List Nat} (hZ:∀b,Z b->Of s.o G U b):fA w (env B s.o G w).plain w (qN w Z):=
 ⟨λb hb=>⟨Yb r hZ hb,rfl⟩,λ_ _=>trivial,λ_ _ _ h=>h.elim,λ_ _ _ h=>h.elim,λ_ _ _ _ _ h=>h.elim⟩
theorem gz (r:eP B s G a w) {c:List AV} {x:AV} {v:Value} (h:aF9 s.o c x) (hx:R w (env B s.o G w) x v [])
  {us:List Nat} (hus:UF s.o x=us) (hnd:us.Nodup):
  ∃fp cap,fp.Nodup/\(∀b∈fp,Of s.o G us b)/\gy s.o G c v cap x/\∀c' Z U,(∀b,Z b->Of s.o G U b)->RG w Z (.sH c c') v fp cap:=by
 unfold aF9 at h;split at h
 .rename_i i bY;obtain ⟨ob,uX,uI,cells,hels,wC,jK⟩:=h;obtain ⟨h1,h2,h3⟩:=kY uX;simp only [R] at hx;obtain ⟨_,fI,g,hl,_,hh,_⟩:=hx;obtain rfl:=cQ (hl.1.symm.trans h1);obtain ⟨b,f,hga,hv⟩:=hh h2 h3;have aBb:rowOf s.o i=cells:=by simp [rowOf,h1,hels]
  simp only [UF,aBb] at hus;subst hus;simp only [mA] at hnd;obtain ⟨fp0,⟨hlen,hown⟩,HZ,Oz⟩:=r.ok i _ g hl h2;rw [hels] at hown;simp only [uI,Env.of,gE] at hown;rcases hown with ⟨h5,_⟩|⟨b',f',C,ty,fz,pX,vK,hbk,hz,k1,k2,k3,rfl,hr⟩
  .cases h5
  .rw [hga] at vK;simp only [eC,pA,rS] at vK;obtain ⟨rfl,rfl⟩:=vK;simp only [Rr] at hr;obtain ⟨cs,f1,f2,hn,hc,hone,uY,rfl,e⟩:=hr;have e:pX=f1:=by simpa using e
   subst e;simp only [mA] at HZ;obtain ⟨zU,q1,q2,q3⟩:=Jq r hl h2 cells cs pX wC hnd.2 hnd.1 HZ.2 (λx hx=>Oz x (by simp [hx])) uY;have UA:g.F b:=Oz b (by simp);have hbn:b∉zU:=λhb=>by
    rcases q3 b hb with h|h
    .exact HZ.1 h
    .obtain ⟨j,oj,gj,hj,hlj,hjl,Te⟩:=h;have:=r.apart i j _ _ _ _ b hl hlj h2 hjl UA Te;exact hnd.1 (this▸hj)
   have zT:cells.length=fI.n:=by have:=gG uY;omega
   have Ti:c.length=fI.n:=by rw [<-jK,<-zT];clear q1 wC jK;induction cells with
    |nil=>rfl
    |cons _ _ _=>simp [tC,EM]
   refine ⟨b::zU,g.cap,mA.2 ⟨hbn,q2⟩,?_,?_,?_⟩
   .intro x hx;rcases lB.1 hx with rfl|hx
    .exact ⟨i,fI,g,by simp,hl,h2,UA⟩
    .rcases q3 x hx with h|h
     .exact ⟨i,fI,g,by simp,hl,h2,Oz x (by simp [h])⟩
     .exact BS (λj hj=>by simp [hj]) h
   .exact ⟨fI,g,b,f,hl,h2,uI,Ti.symm,by rw [hels];rfl,hga,by simpa using hv,UA,rfl⟩
   .intro c' Z U hZ;simp only [RG];refine ⟨b,f,by simpa using hv,by simp [maxLen],.inr ⟨b,f,C,ty,fz,zU,rfl,hbk,by rw [Ti];exact hz,by rw [Ti];exact k1,by simpa using k2,k3,rfl,?_⟩⟩;simp only [Rr];refine ⟨cs,zU,[],by rw [Ti];exact hn,hc,hone,?_,rfl,by simp⟩;rw [<-jK];exact dX (UG r hZ) _ _ _ (λ_ _=>rfl) q1
 .exact h.elim
theorem Ap (r:eP B s G a w) {U:List Nat}:∀(xs:List AV) (gs:List GA) (vs:List Value),handed s.o U xs gs->(uS s.o xs gs).Nodup->(∀i∈uS s.o xs gs,i∈U)->Rc w (env B s.o G w) xs vs []->
  ∃sM jD,sM.flatten.Nodup/\(∀b∈sM.flatten,Of s.o G (uS s.o xs gs) b)/\oO s.o G xs gs vs jD/\∀Z,(∀b,Z b->Of s.o G U b)->DD w Z gs vs sM jD
 |[],[],[],_,_,_,_=>⟨[],[],by simp,by simp,by simp [oO],λ_ _=>by simp [DD]⟩
 |[],[],_::_,_,_,_,h=>by simp [Rc] at h
 |[],_::_,_,h,_,_,_=>by simp [handed] at h
 |_::_,[],_,h,_,_,_=>by simp [handed] at h
 |_::_,_::_,[],_,_,_,h=>by simp [Rc] at h
 |x::xs,.view y::gs,v::vs,h,hn,hu,hr=>by
  simp only [handed] at h;obtain ⟨h1,h2,h3⟩:=h;simp only [Rc] at hr;obtain ⟨f1,f2,hr1,hr2,e⟩:=hr;obtain ⟨rfl,rfl⟩:f1=[]/\f2=[]:=by simpa using e
  simp only [uS] at hn hu⊢;obtain ⟨sM,jD,q1,q2,q3,q4⟩:=Ap r xs gs vs h3 hn hu hr2;refine ⟨[]::sM,0::jD,by simpa using q1,by simpa using q2,by simpa [oO] using q3,λZ hZ=> ?_⟩;simp only [DD,RG];refine ⟨⟨trivial,?_⟩,q4 Z hZ⟩;rw [<-h2];exact aA9 r hZ x v h1 hr1
 |x::xs,.nX y::gs,v::vs,h,hn,hu,hr=>by
  simp only [handed] at h;obtain ⟨h1,h2,h3⟩:=h;simp only [Rc] at hr;obtain ⟨f1,f2,hr1,hr2,e⟩:=hr;obtain ⟨rfl,rfl⟩:f1=[]/\f2=[]:=by simpa using e
  simp only [uS,gC] at hn hu⊢;obtain ⟨sM,jD,q1,q2,q3,q4⟩:=Ap r xs gs vs h3 hn.2.1 (λi hi=>hu i (by simp [hi])) hr2;obtain ⟨fp,p1,p2,p3⟩:=Jl r x v h1 hn.1 hr1;refine ⟨fp::sM,0::jD,?_,?_,by simpa [oO] using q3,λZ hZ=> ?_⟩
  .simp only [pH,gC];refine ⟨p2,q1,λb hb b' hb' e=> ?_⟩;subst e;exact Jr r (λi hi j hj=>hn.2.2 i hi j hj) (p3 b hb) (q2 b hb')
  .intro b hb;simp only [pH,fL] at hb;rcases hb with hb|hb
   .exact BS (λi hi=>by simp [hi]) (p3 b hb)
   .exact BS (λi hi=>by simp [hi]) (q2 b hb)
  .simp only [DD,RG];refine ⟨?_,q4 Z hZ⟩;rw [<-h2];exact oN (UG r hZ) _ _ _ (λ_ _=>rfl) p1
 |x::xs,.sH c c'::gs,v::vs,h,hn,hu,hr=>by
  simp only [handed] at h;obtain ⟨h1,h3⟩:=h;simp only [Rc] at hr;obtain ⟨f1,f2,hr1,hr2,e⟩:=hr;obtain ⟨rfl,rfl⟩:f1=[]/\f2=[]:=by simpa using e
  simp only [uS] at hn hu⊢;generalize hus:UF s.o x=us at hn hu⊢;simp only [gC] at hn;obtain ⟨sM,jD,q1,q2,q3,q4⟩:=Ap r xs gs vs h3 hn.2.1 (λi hi=>hu i (by simp [hi])) hr2;obtain ⟨fp,cap,p1,p2,p3,p4⟩:=gz r h1 hr1 hus hn.1;refine ⟨fp::sM,cap::jD,?_,?_,by simp only [oO];exact ⟨p3,q3⟩,λZ hZ=> ?_⟩
  .simp only [pH,gC];refine ⟨p1,q1,λb hb b' hb' e=> ?_⟩;subst e;exact Jr r (λi hi j hj=>hn.2.2 i hi j hj) (p2 b hb) (q2 b hb')
  .intro b hb;simp only [pH,fL] at hb;rcases hb with hb|hb
   .exact BS (λi hi=>by simp [hi]) (p2 b hb)
   .exact BS (λi hi=>by simp [hi]) (q2 b hb)
  .simp only [DD];exact ⟨p4 c' Z U hZ,q4 Z hZ⟩
end
def Ic:Nat->List GA->List aM
 |_,[]=>[]
 |k,.sH _ c'::gs=>(fG 1 k c').2++Ic (k+(fG 1 k c').2.length) gs
 |k,.view _::gs=>Ic k gs
 |k,.nX _::gs=>Ic k gs
def Cy:Nat->List AV->List GA->List (Nat×List (List AV))
 |k,x::xs,.sH _ c'::gs=>(match x with
  | .ptr i _ _ _=>[(i,[(fG 1 k c').1])]
  |_=>[])++Cy (k+(fG 1 k c').2.length) xs gs
 |k,_::xs,.view _::gs=>Cy k xs gs
 |k,_::xs,.nX _::gs=>Cy k xs gs
 |_,_,_=>[]
def aM.vk (ob:aM) (N:List (Nat×List (List AV))) (u:List Nat) (i:Nat):aM:=
 match N.find? (λp=>p.1 == i) with
 |some p=>{ob with dR:=p.2}
 |none=>if u.contains i=true then {ob with live:=false} else ob.forget u
def Eu (N:List (Nat×List (List AV))) (u:List Nat):Nat->List aM->List aM
 |_,[]=>[]
 |i,ob::r=>ob.vk N u i::Eu N u (i+1) r
theorem UH (N:List (Nat×List (List AV))) (u:List Nat):∀(o:List aM) (k i:Nat),(Eu N u k o)[i]? =(o[i]?).map λob=>ob.vk N u (k+i)
 |[],_,_=>by simp [Eu]
 |ob::r,k,0=>by simp [Eu]
 |ob::r,k,i+1=>by simp only [Eu,tU];rw [UH N u r (k+1) i,show k+1+i=k+(i+1) by omega]
theorem DF (N:List (Nat×List (List AV))) (u:List Nat):∀(o:List aM) (k:Nat),(Eu N u k o).length=o.length
 |[],_=>rfl
 |g::r,k=>by simp [Eu,DF N u r]
def GG (N:List (Nat×List (List AV))):Nat->List CO->List CO
 |_,[]=>[]
 |i,g::r=>(match N.find? (λp=>p.1 == i) with
  |some _=>{g with F:=λb=>∃a,g.a=some a/\b=a.block}
  |none=>g)::GG N (i+1) r
theorem UI (N:List (Nat×List (List AV))):∀(G:List CO) (k i:Nat),(GG N k G)[i]? =(G[i]?).map λg=>match N.find? (λp=>p.1 == k+i) with
  |some _=>{g with F:=λb=>∃a,g.a=some a/\b=a.block}
  |none=>g
 |[],_,_=>by simp [GG]
 |g::r,k,0=>by simp [GG]
 |g::r,k,i+1=>by simp only [GG,tU];rw [UI N r (k+1) i,show k+1+i=k+(i+1) by omega]
theorem DI (N:List (Nat×List (List AV))):∀(o:List CO) (k:Nat),(GG N k o).length=o.length
 |[],_=>rfl
 |g::r,k=>by simp [GG,DI N r]
theorem UJ {o:List aM} {G:List CO} {N:List (Nat×List (List AV))} {u:List Nat} {i:Nat} {fI:aM} {g':CO} (h:look (Eu N u 0 o) (GG N 0 G) i fI g'):
  ∃ob g,look o G i ob g/\((∃p∈N,p.1=i/\fI={ob with dR:=p.2}/\g'={g with F:=λb=>∃a,g.a=some a/\b=a.block})\/
   ((∀p∈N,p.1≠i)/\g'=g/\((i∈u/\fI={ob with live:=false})\/(i∉u/\fI=ob.forget u)))):=by
 obtain ⟨h1,h2⟩:=h;rw [UH,hM] at h1;rw [UI,hM] at h2;cases ho:o[i]? with
 |none=>simp [ho] at h1
 |some ob=>
  cases hg:G[i]? with
  |none=>simp [hg] at h2
  |some g=>
   rw [ho] at h1;rw [hg] at h2;simp only [mS,eC] at h1 h2;refine ⟨ob,g,⟨ho,hg⟩,?_⟩;unfold aM.vk at h1;cases hf:N.find? (λp=>p.1 == i) with
   |some p=>rw [hf] at h1 h2;left;exact ⟨p,qS hf,by have:=DG hf;simpa using this,h1.symm,h2.symm⟩
   |none=>
    rw [hf] at h1 h2;right;refine ⟨λp hp e=> ?_,h2.symm,?_⟩
    .have:=Dg.1 hf p hp;simp [e] at this
    .simp only at h1;by_cases hiu:i∈u
     .rw [eK (by simpa using hiu)] at h1;exact .inl ⟨hiu,h1.symm⟩
     .rw [cY (by simpa using hiu)] at h1;exact .inr ⟨hiu,h1.symm⟩
theorem A8 {o:List aM} {G:List CO} {N:List (Nat×List (List AV))} {u:List Nat} {i:Nat} {ob:aM} {g:CO} (h:look o G i ob g):
  ∃fI g',look (Eu N u 0 o) (GG N 0 G) i fI g':=by
 have h1:=(cH.1 h.1).1;have h2:=(cH.1 h.2).1;exact ⟨_,_,aE (by rw [DF];exact h1),aE (by rw [DI];exact h2)⟩
theorem Aq {w:World} {s:AS} {G:List CO}:∀(xs:List AV) (gs:List GA) (vs:List Value) (sM:List (List Nat)) (jD:List Nat) (k:Nat),oO s.o G xs gs vs jD->Tf w gs vs sM jD->sM.flatten.Nodup->
  ∃inner,inner.Nodup/\(∀b∈inner,b∈sM.flatten)/\
   (∀p∈Cy k xs gs,∃ob g b f,look s.o G p.1 ob g/\ob.live=true/\ob.box=true/\ob.dR.length=p.2.length/\g.a=some ⟨b,f,none⟩/\g.F b/\b∈sM.flatten/\b∉inner)/\
   lH 1 w lV k (Ic k gs) inner (λE'=>∀p∈Cy k xs gs,∀ob g b f,look s.o G p.1 ob g->g.a=some ⟨b,f,none⟩->uW w E' ob.n p.2 g.a g.cap [b])
 |[],[],[],[],[],k,_,_,_=>⟨[],by simp,by simp,by simp [Cy],⟨[],rfl,λj ob g hl=>by simp [look,Ic] at hl,λi j oi oj gi gj b hl=>by simp [look,Ic] at hl,λE' _ _ p hp=>by simp [Cy] at hp⟩⟩
 |x::xs,.view y::gs,v::vs,fp::sM,cap::jD,k,hl,hp,hn=>by simp only [Tf,RP] at hp;obtain ⟨rfl,hp⟩:=hp;simp only [Ic,Cy];have:=Aq xs gs vs sM jD k (by simpa [oO] using hl) hp (by simpa using hn);simpa using this
 |x::xs,.nX y::gs,v::vs,fp::sM,cap::jD,k,hl,hp,hn=>by simp only [Tf,RP] at hp;obtain ⟨rfl,hp⟩:=hp;simp only [Ic,Cy];have:=Aq xs gs vs sM jD k (by simpa [oO] using hl) hp (by simpa using hn);simpa using this
 |x::xs,.sH c c'::gs,v::vs,fp::sM,cap::jD,k,hl,hp,hn=>by
  simp only [Tf,RP] at hp;obtain ⟨⟨b0,f0,hv0,hlen,hown⟩,hp⟩:=hp;simp only [oO] at hl;obtain ⟨hl0,hl⟩:=hl;simp only [pH,gC] at hn;obtain ⟨inner,i1,i2,i3,i4⟩:=Aq xs gs vs sM jD (k+(fG 1 k c').2.length) hl hp hn.2.1;unfold gy at hl0;split at hl0
  .rename_i i bY idx off;obtain ⟨ob,g,b,f,hlk,hlive,uI,hcn,hel,hga,hv,hF,rfl⟩:=hl0;rw [hv] at hv0;simp only [CT,eC,pA,rS] at hv0;obtain ⟨rfl,rfl⟩:=hv0;rcases hown with ⟨h5,_⟩|⟨b',f',C,ty,fz,pX,vK,hbk,hz,k1,k2,k3,rfl,hr⟩
   .cases h5
   simp only [eC,pA,rS] at vK;obtain ⟨rfl,rfl⟩:=vK;simp only [Rr] at hr;obtain ⟨cs,f1,f2,zT,hc,hone,uY,rfl,e⟩:=hr;have e:pX=f1:=by simpa using e
   subst e;have hnb:=hn.1;simp only [mA] at hnb;have hab:=CQ (q:=1) c' cs pX k uY hnb.2;have zy:(pX++inner).Nodup:=gC.2 ⟨hnb.2,i1,λx hx y hy e=>hn.2.2 x (by simp [hx]) y (i2 y hy) e⟩;obtain ⟨Gs,a1,a2,a3,a4⟩:=hab.append i4 zy;have hbi:b∉inner:=λh=>hn.2.2 b (by simp) b (i2 b h) rfl
   refine ⟨pX++inner,zy,?_,?_,⟨Gs,a1,a2,a3,λE' hk hh=> ?_⟩⟩
   .intro x hx;simp only [pH,fL];rcases fL.1 hx with hx|hx
    .exact .inl (by simp [hx])
    .exact .inr (i2 x hx)
   .intro p hp;simp only [Cy,fL] at hp;rcases hp with hp|hp
    .simp only [sA] at hp;subst hp;exact ⟨ob,g,b,f,hlk,hlive,uI,by simpa using hel,hga,hF,by simp,by simp only [fL,not_or];exact ⟨hnb.1,hbi⟩⟩
    .obtain ⟨ob1,g1,b1,f1,q1,q2,q3,q4,q5,q6,q7,q8⟩:=i3 p hp;refine ⟨ob1,g1,b1,f1,q1,q2,q3,q4,q5,q6,by simp [q7],?_⟩;simp only [fL,not_or];exact ⟨λh=>hn.2.2 b1 (by simp [h]) b1 q7 rfl,q8⟩
   .obtain ⟨d1,d2⟩:=a4 E' hk hh;intro p hp ob1 g1 b1 f1 q1 q2;simp only [Cy,fL] at hp;rcases hp with hp|hp
    .simp only [sA] at hp;subst hp;obtain ⟨rfl,rfl⟩:=lG hlk q1;rw [hga] at q2;simp only [eC,pA,rS] at q2;obtain ⟨rfl,rfl⟩:=q2;refine ⟨by simp [maxLen],.inr ⟨b,f,C,ty,fz,[],hga,hbk,by rw [hcn];exact hz,by rw [hcn];exact k1,by simpa using k2,k3,rfl,?_⟩⟩;simp only [Rr];exact ⟨cs,[],[],by rw [hcn];exact zT,hc,hone,d1,rfl,rfl⟩
    .exact d2 p hp ob1 g1 b1 f1 q1 q2
  .exact hl0.elim
 |[],[],[],[],_::_,_,hl,_,_=>by simp [oO] at hl
 |[],[],[],_::_,_,_,_,hp,_=>by simp [Tf] at hp
 |[],[],_::_,_,_,_,_,hp,_=>by simp [Tf] at hp
 |[],_::_,_,_,_,_,hl,_,_=>by simp [oO] at hl
 |_::_,[],_,_,_,_,hl,_,_=>by simp [oO] at hl
 |_::_,.view _::_,[],_,_,_,hl,_,_=>by simp [oO] at hl
 |_::_,.view _::_,_::_,[],_,_,_,hp,_=>by simp [Tf] at hp
 |_::_,.view _::_,_::_,_::_,[],_,_,hp,_=>by simp [Tf] at hp
 |_::_,.nX _::_,[],_,_,_,hl,_,_=>by simp [oO] at hl
 |_::_,.nX _::_,_::_,[],_,_,_,hp,_=>by simp [Tf] at hp
 |_::_,.nX _::_,_::_,_::_,[],_,_,hp,_=>by simp [Tf] at hp
 |_::_,.sH _ _::_,[],_,_,_,hl,_,_=>by simp [oO] at hl
 |_::_,.sH _ _::_,_::_,[],_,_,_,hp,_=>by simp [Tf] at hp
 |_::_,.sH _ _::_,_::_,_::_,[],_,_,hp,_=>by simp [Tf] at hp
theorem Js (o:List aM):∀(xs:List AV) (gs:List GA) (k:Nat),∀p∈Cy k xs gs,p.1∈uS o xs gs
 |[],[],_,p,hp=>by simp [Cy] at hp
 |[],_::_,_,p,hp=>by simp [Cy] at hp
 |_::_,[],_,p,hp=>by simp [Cy] at hp
 |x::xs,.view _::gs,k,p,hp=>by simp only [Cy] at hp;simpa [uS] using Js o xs gs k p hp
 |x::xs,.nX _::gs,k,p,hp=>by simp only [Cy] at hp;simp only [uS,fL];exact .inr (Js o xs gs k p hp)
 |x::xs,.sH _ c'::gs,k,p,hp=>by
  simp only [Cy,fL] at hp;simp only [uS,fL];rcases hp with hp|hp
  .left;cases x<;>simp at hp;subst hp;simp [UF]
  .exact .inr (Js o xs gs _ p hp)
def AS.given (s:AS) (d:Option Tmp) (xs:List AV) (gs:List GA) (r:AV):AS:=
 AS.put ⟨xS (iU (uS s.o xs gs)) true s.t,Eu (Cy s.o.length xs gs) (uS s.o xs gs) 0 s.o++Ic s.o.length gs++(dH 1 (s.o.length+(Ic s.o.length gs).length) r).2⟩ d
  (dH 1 (s.o.length+(Ic s.o.length gs).length) r).1
section
variable {P : Program} [aC P] {B : gN P} {s : AS} {dst : Option Tmp} {ty : TypeId} {pos : String} {after : Array Edge} {gd : Option (Nat × Bool)}
theorem A9 (f:Operand) (args:Array Operand) (V9:Array TypeId) {gf:FuncId} {gs:List GA} {rv:AV} (hf:s.ev f= .fn gf []) (hc:aY P gf=true)
  (hu:(uS s.o (s.args args) gs).Nodup) (hh:handed s.o (uS s.o (s.args args) gs) (s.args args) gs) (wC:Lf P gf gs rv):
  Step P B ⟨dst,.call {callee:= .value f,args:=args,argTypes:=V9},ty,pos,after,gd⟩ s (s.given dst (s.args args) gs rv):=by
 rintro a w next Q ⟨G,rr⟩ hn
 have h1:=rr.ev f;rw [hf] at h1;simp only [R] at h1;obtain ⟨_,cs,hv,vP⟩:=h1;have hcs:cs=[]:=by cases cs with
  |nil=>rfl
  |cons _ _=>simp [Rc] at vP
 subst hcs;have hargs:Rc w (env B s.o G w) (s.args args) (args.toList.map a.eval) []:=by simpa [AS.args] using wB rr args.toList
 generalize hxs:s.args args=xs at *;obtain ⟨sM,jD,hnd,MH,aJ1,aJ2⟩:=Ap rr (U:=uS s.o xs gs) xs gs _ hh hu (λi h=>h) hargs;generalize huu:uS s.o xs gs=u at *;have hlt:∀b∈sM.flatten,b < w.heap.size:=λb hb=>by obtain ⟨i,ob,g,_,hl,hlive,hF⟩:=MH b hb;exact (rr.fresh _ _ _ b hl hlive hF).2
 have hab:∀b∈sM.flatten,aC.low P<=b/\b < w.heap.size:=λb hb=>by obtain ⟨i,ob,g,_,hl,hlive,hF⟩:=MH b hb;exact ⟨rr.XF (rr.fresh _ _ _ b hl hlive hF).1,hlt b hb⟩
 have XI:=wC w _ sM jD rr.holds hab hnd (aJ2 _ MH);unfold Oper.wp;have hrun:(execOp a.eval ⟨dst,.call {callee:= .value f,args:=args,argTypes:=V9},ty,pos,after,gd⟩).run P w= .ok (.enter gf (args.toList.map a.eval).toArray) w:=by
  have e:args.map a.eval=(args.toList.map a.eval).toArray:=by apply DE;simp
  simp [execOp,resolve,hv,Deferred.ofValue,invoke,Dz hc,e]
 rw [hrun,Oper.upon_enter];refine XI.mono λe w' h=> ?_
 obtain ⟨v,fp,BO,rfl,Wd,hrp,hnd',hfr,hsz,nM,EF⟩:=h;refine hn _ _ ?_;have Wj:=gC.1 hnd';obtain ⟨inner,i1,i2,i3,i4⟩:=Aq (s:=s) (G:=G) xs gs _ BO jD s.o.length aJ1 hrp Wj.1;have zy:(inner++fp).Nodup:=gC.2 ⟨i1,Wj.2.1,λx hx y hy e=>Wj.2.2 x (i2 x hx) y hy e⟩;obtain ⟨Gs,hlen,BN,hap,pM⟩:=i4.append (EJ (q:=1) rv v fp (s.o.length+(Ic s.o.length gs).length) Wd Wj.2.1) zy;have hNu:=Js s.o xs gs s.o.length;rw [huu] at hNu;unfold AS.given;rw [huu];generalize hN:Cy s.o.length xs gs=N at *;rw [rL];generalize EI:Ic s.o.length gs++(dH 1 (s.o.length+(Ic s.o.length gs).length) rv).2=news at *;generalize ho1:Eu N u 0 s.o=o1;generalize hG1:GG N 0 G=G1;have hl1:o1.length=s.o.length:=by rw [<-ho1,DF]
 have aQ1:G1.length=G.length:=by rw [<-hG1,DI]
 have hlG:G1.length=o1.length:=by rw [aQ1,hl1,rr.len]
 have blk:∀b,b∈BO.flatten++fp->(Of s.o G u b\/w.heap.size<=b)/\b < w'.heap.size:=λb hb=>by
  have:=hfr b hb;refine ⟨?_,this.2⟩;rcases this.1 with h|h
  .exact .inl (MH b h)
  .exact .inr h
 have aJ3:∀{j ob g b},look news Gs j ob g->g.F b->b∈inner++fp:=by intro j ob g b hl hF;obtain ⟨_,_,_,f',_,_,h3,h4⟩:=BN _ _ _ hl;exact h4 _ ((h3 _).1 hF)
 have aJ4:∀{b},b∈inner++fp->b∈BO.flatten++fp:=by
  intro b hb;rcases fL.1 hb with h|h
  .exact nB _ (i2 b h)
  .exact sR _ h
 have lk:∀{i fI g'},look (o1++news) (G1++Gs) i fI g'->(∃j,i=s.o.length+j/\look news Gs j fI g')\/(i < s.o.length/\∃ob g,look s.o G i ob g/\
   ((∃p∈N,p.1=i/\fI={ob with dR:=p.2}/\g'={g with F:=λb=>∃a,g.a=some a/\b=a.block})\/
   ((∀p∈N,p.1≠i)/\g'=g/\((i∈u/\fI={ob with live:=false})\/(i∉u/\fI=ob.forget u))))):=by
  intro i fI g' h;rcases oF hlG h with ⟨hi,h⟩|⟨hi,h⟩
  .right;refine ⟨by omega,?_⟩;rw [<-ho1,<-hG1] at h;exact UJ h
  .left;exact ⟨i - o1.length,by omega,h⟩
 have aBc:∀{p},p∈N->∀{ob g},look s.o G p.1 ob g->ob.live=true/\ob.box=true/\ob.dR.length=p.2.length/\∃b f,g.a=some ⟨b,f,none⟩/\g.F b/\b∈BO.flatten/\b∉inner:=by intro p hp ob g hl;obtain ⟨ob2,g2,b,f,q1,q2,q3,q4,q5,q6,q7,q8⟩:=i3 p hp;obtain ⟨rfl,rfl⟩:=lG hl q1;exact ⟨q2,q3,q4,b,f,q5,q6,q7,q8⟩
 have kl:∀{i ob g},look s.o G i ob g->∃fI g',look (o1++news) (G1++Gs) i fI g'/\(fI.live=true->ob.live=true)/\fI.bY=ob.bY/\fI.n=ob.n/\g'.a=g.a/\g'.cap=g.cap/\fI.dR.length=ob.dR.length/\fI.box=ob.box/\
   (i∉u->g'=g/\fI.live=ob.live):=by
  intro i ob g h;obtain ⟨fI,g',h'⟩:=A8 (N:=N) (u:=u) h;rw [ho1,hG1] at h';have h'':=nC (o2:=news) (G2:=Gs) h';refine ⟨fI,g',h'',?_⟩;rw [<-ho1,<-hG1] at h';obtain ⟨ob2,g2,h2,hcase⟩:=UJ h';obtain ⟨rfl,rfl⟩:=lG h h2;rcases hcase with ⟨p,hp,rfl,rfl,rfl⟩|⟨KU,rfl,⟨hiu,rfl⟩|⟨hiu,rfl⟩⟩
  .obtain ⟨b1,b2,b3,_⟩:=aBc hp h;exact ⟨λ_=>b1,rfl,rfl,rfl,rfl,b3.symm,rfl,λhn=>absurd (hNu p hp) hn⟩
  .exact ⟨λh=>by simp at h,rfl,rfl,rfl,rfl,rfl,rfl,λhn=>absurd hiu hn⟩
  .exact ⟨λh=>by rw [nH] at h;exact h,PG _ _,XX _ _,rfl,rfl,PI _ _,PH _ _,λ_=>⟨rfl,nH _ _⟩⟩
 have aIo:∀{i ob g b},look s.o G i ob g->ob.live=true->g.F b->i∉u->¬Of s.o G u b:=by intro i ob g b hl hlive hF hiu hO;obtain ⟨j,oj,gj,hj,hlj,hjl,Te⟩:=hO;exact hiu (rr.apart i j _ _ _ _ b hl hlj hlive hjl hF Te▸hj)
 have aQ3:∀{i ob g b},look s.o G i ob g->ob.live=true->g.F b->i∉u->b∉BO.flatten++fp:=by
  intro i ob g b hl hlive hF hiu hX;rcases (blk b hX).1 with h|h
  .exact aIo hl hlive hF hiu h
  .have:=(rr.fresh _ _ _ b hl hlive hF).2;omega
 have EP:∀i ob g b,look s.o G i ob g->ob.live=true->g.F b->i∉u->w'.heap[b]? =w.heap[b]?:=λi ob g b hl hlive hF hiu=>
  nM b (rr.fresh _ _ _ b hl hlive hF).2 (λhm=>aIo hl hlive hF hiu (MH b hm))
 let Er:Env:={env B s.o G w with D:=λi b=>i∉u/\(env B s.o G w).D i b}
 have rt1:mV (iU u) true (env B s.o G w) Er (λ_=>True):=by
  refine ⟨λt e=>by simp [iU] at e,λt e=>by simp only [iU,eC] at e;exact ⟨e.symm,λb hb=>hb⟩,λi t e=> ?_,λ_ _ _ _ h=>h,λ_ _ _ _ _ _ h=>h⟩;simp only [iU] at e;split at e
  .cases e
  .rename_i hiu;obtain rfl:=cQ e;refine ⟨by simp,?_,λb hb=>⟨hiu,hb⟩⟩;by_cases hV:(env B s.o G w).V i
   .exact .inl hV
   .exact .inr hV
 have k2:fA w Er w' (env B (o1++news) (G1++Gs) w'):=by
  refine ⟨λb hb=> ?_,λi h ob uX=> ?_,λi b hV h=> ?_,λi bY x h=> ?_,λi bY j q x h=> ?_⟩
  .have hb':(env B s.o G w).A b:=hb;have hbl:=vO rr hb';have hnO:¬Of s.o G u b:=λ⟨i,ob,g,_,hl,hlive,hF⟩=>hb'.2 i ob g hl hlive hF
   have hnX:b∉BO.flatten++fp:=λhX=>by
    rcases (blk b hX).1 with h|h
    .exact hnO h
    .omega
   refine ⟨⟨?_,λi fI g' hl hlive hF=> ?_⟩,nM b hbl (λh=>hnO (MH b h))⟩
   .rcases hb'.1 with h|h
    .exact .inl h
    .exact .inr ⟨h.1,by omega⟩
   .rcases lk hl with ⟨j,_,hl2⟩|⟨_,ob,g,hl0,⟨p,hp,rfl,_,rfl⟩|⟨_,rfl,⟨_,rfl⟩|⟨_,rfl⟩⟩⟩
    .exact hnX (aJ4 (aJ3 hl2 hF))
    .obtain ⟨b1,b2,b3,b0,f0,b4,b5,b6,_⟩:=aBc hp hl0;obtain ⟨a0,ha0,rfl⟩:=hF;rw [b4] at ha0;obtain rfl:=cQ ha0;exact hb'.2 _ ob g hl0 b1 b5
    .simp at hlive
    .refine hb'.2 i ob g' hl0 ?_ hF;rw [nH] at hlive;exact hlive
  .have hi:i < G.length:=by rw [rr.len];exact (cH.1 uX).1
   obtain ⟨fI,g',hl,h1,_⟩:=kl (i:=i) (ob:=ob) (g:=G[i]) ⟨uX,aE hi⟩;exact h1 (h fI hl.1)
  .obtain ⟨hiu,ob,g,hl,hlive,hF,hne⟩:=h;obtain ⟨fI,g',BP,_,_,_,_,_,_,_,h7⟩:=kl hl;obtain ⟨rfl,h8⟩:=h7 hiu;exact ⟨⟨fI,g',BP,by rw [h8];exact hlive,hF,hne⟩,EP i ob g' b hl hlive hF hiu⟩
  .obtain ⟨ob,g,hl,zV,hh,hz⟩:=h;obtain ⟨fI,g',BP,h1,h2,h3,h4,h5,h6,_⟩:=kl hl;exact ⟨fI,g',BP,by omega,λhlive Tq=>by rw [h4,h5,h6];exact hh (h1 hlive) (by omega),hz⟩
  .obtain ⟨ob,g,hl,zV,hh,hz⟩:=h;obtain ⟨fI,g',BP,h1,h2,h3,h4,h5,h6,h8,_⟩:=kl hl;exact ⟨fI,g',BP,by omega,λhlive Tq=>by rw [h4,h3];exact hh (h1 hlive) (by omega),
    λe e2 e3 e4 y hy=>⟨(hz (by rw [<-h8];exact e) e2 e3 e4 y hy).1,λhlive Tq=>by rw [h5];exact (hz (by rw [<-h8];exact e) e2 e3 e4 y hy).2 (h1 hlive) (by omega)⟩⟩
 have tm:Rc w' (env B (o1++news) (G1++Gs) w') (xS (iU u) true s.t) a.tmps.toList []:=
  dX k2 _ _ _ (by simp) (wQ rt1 _ _ _ (by simp) rr.tmps)
 have kn:∀E':Env,fA w' lV w' E':=λE'=>⟨λ_ h=>h.elim,λ_ _=>trivial,λ_ _ _ h=>h.elim,λ_ _ _ h=>h.elim,λ_ _ _ _ _ h=>h.elim⟩
 have hfin:=pM (env B (o1++news) (G1++Gs) w') (kn _) (λj ob g hl=>by
  obtain ⟨_,_,h3,_⟩:=BN _ _ _ hl;refine ⟨ob,g,?_,CH h3.symm,λ_ _=>rfl,λh=>absurd h (by decide)⟩;have:=oG (o:=o1) (G:=G1) hlG hl
  rwa [hl1] at this)
 obtain ⟨GD,jK⟩:=hfin;have rel:eP B ⟨xS (iU u) true s.t,o1++news⟩ (G1++Gs) a w':=by
  refine {len:=by simp [hlG,hlen],defs:=rr.defs,ok:= ?_,apart:= ?_,fresh:= ?_,tmps:=tm,size:=lO rr.size hsz,frame:= ?_,base:=rr.base,same:=rr.same.trans EF}
  .intro i fI g' hl hlive;rcases lk hl with ⟨j,_,hl2⟩|⟨_,ob,g,hl0,⟨p,hp,rfl,rfl,rfl⟩|⟨_,rfl,⟨_,rfl⟩|⟨hiu,rfl⟩⟩⟩
   .obtain ⟨h1,h2,_,f',hown,h3,h4,h5⟩:=BN _ _ _ hl2;refine ⟨f',?_,h3,λb hb=>(h4 b).2 hb⟩;rw [h2];exact hown.keeps (kn _).plain (λ_ _=>rfl)
   .obtain ⟨b1,b2,b3,b0,f0,b4,b5,b6,_⟩:=aBc hp hl0;have:=GD p hp ob g b0 f0 hl0 b4;refine ⟨[b0],?_,by simp,?_⟩
    .simp only [b2,Env.of,gE];exact this
    .intro b hb;simp only [sA] at hb;subst hb;exact ⟨_,b4,rfl⟩
   .simp at hlive
   .rw [nH] at hlive;obtain ⟨fpo,hown,HZ,Oz⟩:=rr.ok i ob g' hl0 hlive;by_cases GD:ob.box=true
    .simp only [GD,Env.of,gE] at hown;obtain ⟨hlen,hown⟩:=hown;by_cases hall:Bb ob.dR=true
     .have hfo:ob.forget u=ob:=by unfold aM.forget;simp [GD,hall]
      rw [hfo];refine ⟨fpo,?_,HZ,Oz⟩;simp only [GD,Env.of,gE];refine ⟨hlen,?_⟩;rcases hown with h|⟨b,off,C,e,fz,aA7,ha,hb,hz,h1,h2,h3,rfl,fw⟩
      .exact .inl h
      .have hbs:=EP i ob g' b hl0 hlive (Oz b (by simp)) hiu;exact .inr ⟨b,off,C,e,fz,aA7,ha,by rw [hbs];exact hb,hz,h1,h2,h3,rfl,mO k2 _ _ _ _ _ hbs (λx hx=>EP i ob g' x hl0 hlive (Oz x (by simp [hx])) hiu) (aA0 hall fw)⟩
     .have hfo:ob.forget u={ob with dR:=mU (iU u) true ob.dR}:=by unfold aM.forget;rw [eK GD,cY hall]
      rw [hfo];rcases hown with ⟨h1,h2,h3⟩|⟨b,off,C,e,fz,aA7,ha,hb,hz,h1,h2,h3,rfl,fw⟩
      .exact ⟨[],⟨by simp [lT];exact hlen,.inl ⟨by simp [h1,mU],h2,rfl⟩⟩,by simp,by simp⟩
      .have UA:=Oz b (by simp);have hbs:=EP i ob g' b hl0 hlive UA hiu;refine ⟨[b],⟨by simp [lT];exact hlen,.inr ⟨b,off,C,e,fz,[],ha,by rw [hbs];exact hb,hz,h1,by simpa [lT] using h2,h3,rfl,?_⟩⟩,by simp,by simpa using UA⟩;simp only [GD,Env.of,gE];exact mO k2 _ _ _ _ _ hbs (by simp) (Gz rt1 _ _ _ _ _ (by simp) fw)
    .have aA8:ob.box=false:=by simpa using GD
     have hfo:ob.forget u=ob:=by unfold aM.forget;simp [aA8]
     rw [hfo];refine ⟨fpo,?_,HZ,Oz⟩;simp only [aA8,Env.of,eS,gS] at hown⊢;have kp:fA w (env B s.o G w).plain w' (env B (o1++news) (G1++Gs) w').plain:=k2.plain;exact hown.keeps kp (λb hb=>EP i ob g' b hl0 hlive (Oz b hb) hiu)
  .-- every object its own blocks
   have cls:∀{i fI g' b},look (o1++news) (G1++Gs) i fI g'->fI.live=true->g'.F b->(∃j,i=s.o.length+j/\look news Gs j fI g'/\b∈inner++fp)\/
     (i < s.o.length/\∃ob g,look s.o G i ob g/\ob.live=true/\g.F b/\((b∈BO.flatten/\b∉inner)\/b∉BO.flatten++fp)):=by
    intro i fI g' b hl hlive hF;rcases lk hl with ⟨j,hj,hl2⟩|⟨hi,ob,g,hl0,⟨p,hp,rfl,rfl,rfl⟩|⟨_,rfl,⟨_,rfl⟩|⟨hiu,rfl⟩⟩⟩
    .exact .inl ⟨j,hj,hl2,aJ3 hl2 hF⟩
    .obtain ⟨b1,b2,b3,b0,f0,b4,b5,b6,b7⟩:=aBc hp hl0;obtain ⟨a0,ha0,rfl⟩:=hF;rw [b4] at ha0;obtain rfl:=cQ ha0;exact .inr ⟨hi,ob,g,hl0,b1,b5,.inl ⟨b6,b7⟩⟩
    .simp at hlive
    .rw [nH] at hlive;exact .inr ⟨hi,ob,g',hl0,hlive,hF,.inr (aQ3 hl0 hlive hF hiu)⟩
   have mixed:∀{b},b∈inner++fp->((b∈BO.flatten/\b∉inner)\/b∉BO.flatten++fp)->False:=by
    rintro b hb (⟨h1,h2⟩|h)
    .rcases fL.1 hb with h|h
     .exact h2 h
     .exact Wj.2.2 b h1 b h rfl
    .exact h (aJ4 hb)
   intro i j oi oj gi gj b hi hj hil hjl Es KY;rcases cls hi hil Es with ⟨i',rfl,hi',hbi⟩|⟨aJ0,ob1,g1,hl1,aQ4,hF1,hc1⟩<;>rcases cls hj hjl KY with ⟨j',rfl,zl,hbj⟩|⟨aJz,ob2,g2,hl2,aQ5,zw,XC⟩
   .rw [hap _ _ _ _ _ _ b hi' zl Es KY]
   .exact (mixed hbi XC).elim
   .exact (mixed hbj hc1).elim
   .exact rr.apart _ _ _ _ _ _ b hl1 hl2 aQ4 aQ5 hF1 zw
  .intro i fI g' b hl hlive hF;have ofX:b∈BO.flatten++fp->(B.O0 b\/B.w0.heap.size<=b)/\b < w'.heap.size:=λhX=>by
    obtain ⟨h1,h2⟩:=blk b hX;refine ⟨?_,h2⟩;rcases h1 with ⟨j,oj,gj,_,hlj,hjl,Te⟩|h
    .exact (rr.fresh _ _ _ b hlj hjl Te).1
    .exact .inr (lO rr.size h)
   rcases lk hl with ⟨j,hj,hl2⟩|⟨hi,ob,g,hl0,⟨p,hp,rfl,rfl,rfl⟩|⟨_,rfl,⟨_,rfl⟩|⟨hiu,rfl⟩⟩⟩
   .exact ofX (aJ4 (aJ3 hl2 hF))
   .obtain ⟨b1,b2,b3,b0,f0,b4,b5,b6,b7⟩:=aBc hp hl0;obtain ⟨a0,ha0,rfl⟩:=hF;rw [b4] at ha0;obtain rfl:=cQ ha0;exact ofX (nB _ b6)
   .simp at hlive
   .rw [nH] at hlive;have:=rr.fresh _ _ _ b hl0 hlive hF;exact ⟨this.1,by omega⟩
  .intro b hb hO;rw [<-rr.frame b hb hO];refine nM b (oX hb rr.size) (λhm=> ?_);obtain ⟨j,oj,gj,_,hlj,hjl,Te⟩:=MH b hm;rcases (rr.fresh _ _ _ b hlj hjl Te).1 with h|h
   .exact hO h
   .omega
 exact ⟨_,rel.put dst jK⟩
mutual
def Jg (i bY:Nat) (y:AV):AV->AV
 | .obj j v=>if j=i/\v=bY then y else .obj j v
 | .agg c=> .agg (Ws i bY y c)
 | .iJ c=> .iJ (Ws i bY y c)
 |x=>x
def Ws (i bY:Nat) (y:AV):List AV->List AV
 |[]=>[]
 |x::xs=>Jg i bY y x::Ws i bY y xs
end
def Wt (i bY:Nat) (y:AV):List (List AV)->List (List AV)
 |[]=>[]
 |e::es=>Ws i bY y e::Wt i bY y es
theorem BU (i bY:Nat) (y:AV):∀l,(Wt i bY y l).length=l.length
 |[]=>rfl
 |_::l=>by simp [Wt,BU i bY y l]
def aM.Jg (i bY:Nat) (y:AV) (ob:aM):aM:=if ob.box=true then {ob with dR:=Wt i bY y ob.dR} else ob
def TC (i bY:Nat) (y:AV):Nat->List aM->List aM
 |_,[]=>[]
 |k,ob::r=>(if k=i then ob.kill else ob.Jg i bY y)::TC i bY y (k+1) r
theorem PQ (i bY:Nat) (y:AV):∀(o:List aM) (k j:Nat),(TC i bY y k o)[j]? =(o[j]?).map λob=>if k+j=i then ob.kill else ob.Jg i bY y
 |[],_,_=>by simp [TC]
 |ob::r,k,0=>by simp [TC]
 |ob::r,k,j+1=>by simp only [TC,tU];rw [PQ i bY y r (k+1) j,show k+1+j=k+(j+1) by omega]
theorem MJ (i bY:Nat) (y:AV):∀(o:List aM) (k:Nat),(TC i bY y k o).length=o.length
 |[],_=>rfl
 |ob::r,k=>by simp [TC,MJ i bY y r]
def AS.frozen (s:AS) (i bY:Nat) (ob:aM):AS:=
 ⟨Ws i bY (.sl .view ob.n (mU (λ_=>some .view) false ob.dR)) s.t,TC i bY (.sl .view ob.n (mU (λ_=>some .view) false ob.dR)) 0 s.o⟩
mutual
theorem aNs {w:World} {E E':Env} {i bY:Nat} {y:AV} (k:fA w E w E') (hy:∀v,E.H i bY v->R w E' y v []):∀(x:AV) (v:Value) (fp:List Nat),R w E x v fp->R w E' (Jg i bY y x) v fp
 | .obj j u,v,fp,h=>by
  simp only [Jg];split
  .rename_i e;obtain ⟨rfl,rfl⟩:=e;simp only [R] at h;obtain ⟨rfl,h⟩:=h;exact hy v h
  .exact oN k _ _ _ (λ_ _=>rfl) h
 | .agg c,v,fp,h=>by simp only [R,Jg] at h⊢;obtain ⟨cs,h1,h2,h3⟩:=h;exact ⟨cs,h1,h2,PR k hy c cs fp h3⟩
 | .iJ c,v,fp,h=>by simp only [R,Jg] at h⊢;obtain ⟨cs,h1,h3⟩:=h;exact ⟨cs,h1,PR k hy c cs fp h3⟩
 | .int _ _,v,fp,h=>by simp only [Jg];exact oN k _ _ _ (λ_ _=>rfl) h
 | .bool _,v,fp,h=>by simp only [Jg];exact oN k _ _ _ (λ_ _=>rfl) h
 | .str _,v,fp,h=>by simp only [Jg];exact oN k _ _ _ (λ_ _=>rfl) h
 | .sl _ _ _,v,fp,h=>by simp only [Jg];exact oN k _ _ _ (λ_ _=>rfl) h
 | .gD _ _ _,v,fp,h=>by simp only [Jg];exact oN k _ _ _ (λ_ _=>rfl) h
 | .ptr _ _ _ _,v,fp,h=>by simp only [Jg];exact oN k _ _ _ (λ_ _=>rfl) h
 | .fn _ _,v,fp,h=>by simp only [Jg];exact oN k _ _ _ (λ_ _=>rfl) h
 | .undef,v,fp,h=>by simp only [Jg];exact oN k _ _ _ (λ_ _=>rfl) h
theorem PR {w:World} {E E':Env} {i bY:Nat} {y:AV} (k:fA w E w E') (hy:∀v,E.H i bY v->R w E' y v []):∀(c:List AV) (cs:List Value) (fp:List Nat),Rc w E c cs fp->Rc w E' (Ws i bY y c) cs fp
 |[],[],_,h=>by simpa [Rc,Ws] using h
 |[],_::_,_,h=>by simp [Rc] at h
 |_::_,[],_,h=>by simp [Rc] at h
 |x::xs,c::cs,fp,h=>by simp only [Rc,Ws] at h⊢;obtain ⟨f1,f2,h1,h2,h3⟩:=h;exact ⟨f1,f2,aNs k hy x c f1 h1,PR k hy xs cs f2 h2,h3⟩
end
theorem aBd {w:World} {E E':Env} {i bY:Nat} {y:AV} (k:fA w E w E') (hy:∀v,E.H i bY v->R w E' y v []):∀(l:List (List AV)) (b off n:Nat) (fp:List Nat),Rr w E l b off n fp->Rr w E' (Wt i bY y l) b off n fp
 |[],_,_,_,_,h=>by simpa [Rr,Wt] using h
 |e::es,b,off,n,fp,h=>by simp only [Rr,Wt] at h⊢;obtain ⟨cs,f1,f2,h1,h2,h3,h4,h5,h6⟩:=h;exact ⟨cs,f1,f2,h1,h2,h3,PR k hy e cs f1 h4,aBd k hy es b (off+n) n f2 h5,h6⟩
theorem aGc {P:Program} [aC P] {B:gN P} {s:AS} {a:Act} {w:World} {i bY:Nat} {ob:aM} (uX:AV.isObj s.o i bY=some ob) (uI:ob.box=false) (hr:Rel B s a w):Rel B (s.frozen i bY ob) a w:=by
 obtain ⟨G,r⟩:=hr;obtain ⟨h1,h2,h3⟩:=kY uX;generalize hyy:AV.sl .view ob.n (mU (λ_=>some .view) false ob.dR)=y;generalize ho':TC i bY y 0 s.o=o';have back:∀{j fI g},look o' G j fI g->∃xV,look s.o G j xV g/\((j=i/\fI=xV.kill)\/(j≠i/\fI=xV.Jg i bY y)):=by
  rintro j fI g ⟨e1,e2⟩;rw [<-ho',PQ,hM] at e1;cases hx:s.o[j]? with
  |none=>rw [hx] at e1;cases e1
  |some xV=>
   rw [hx] at e1;simp only [mS,eC] at e1;refine ⟨xV,⟨hx,e2⟩,?_⟩;by_cases hj:j=i
   .rw [eK hj] at e1;exact .inl ⟨hj,e1.symm⟩
   .rw [cY hj] at e1;exact .inr ⟨hj,e1.symm⟩
 have UK:∀{j xV g},look s.o G j xV g->look o' G j (if j=i then xV.kill else xV.Jg i bY y) g:=by rintro j xV g ⟨e1,e2⟩;refine ⟨?_,e2⟩;rw [<-ho',PQ,hM,e1];rfl
 have fz:∀xV:aM,(xV.Jg i bY y).live=xV.live/\(xV.Jg i bY y).box=xV.box/\(xV.Jg i bY y).n=xV.n/\(xV.Jg i bY y).bY=xV.bY/\(xV.Jg i bY y).dR.length=xV.dR.length:=by intro xV;unfold aM.Jg;split<;>simp [BU]
 have k:fA w (env B s.o G w) w (env B o' G w):=by
  refine CL (eE _) (λb hb=>⟨vO r hb,rfl⟩) r.len ?_ ?_
  .intro j xV g hl;have hf:=fz xV;by_cases hj:j=i
   .refine ⟨_,g,UK hl,?_⟩;rw [eK hj];refine ⟨eE _,λhb=> .inl hb,λJt=> ?_⟩;simp [aM.kill] at Jt
   .refine ⟨_,g,UK hl,?_⟩;rw [cY hj];exact ⟨by rw [hf.2.2.2.1];exact eE _,λhb=> .inl (by rw [<-hf.2.1];exact hb),λJt=>⟨by rw [<-hf.1];exact Jt,hf.2.2.1,λ_=>⟨rfl,rfl,hf.2.2.2.2⟩,λb hb hne=>⟨hb,hne,rfl⟩⟩⟩
  .intro j fI g b hl Jt hF;obtain ⟨xV,hl0,h⟩:=back hl;rcases h with ⟨_,rfl⟩|⟨_,rfl⟩
   .simp [aM.kill] at Jt
   .exact .inr ⟨j,xV,g,hl0,by rw [<-(fz xV).1];exact Jt,hF⟩
 have hy:∀v,(env B s.o G w).H i bY v->R w (env B o' G w) y v []:=by
  intro v hv;obtain ⟨ob1,g,hl,_,hh,_⟩:=hv;obtain rfl:=cQ (hl.1.symm.trans h1);have hv:=hh h2 h3;obtain ⟨fp,⟨hlen,hown⟩,hnd,hF⟩:=r.ok i _ g hl h2;rw [uI] at hown;rw [<-hyy];simp only [R,lT];refine .inr ⟨g.a,g.cap,hv,⟨hlen,by rcases hown with h|⟨_,_,_,_,_,_,_,_,_,_,h,_⟩;simp [h.1];exact h⟩,.inr (.inr ⟨by simp,trivial,?_⟩)⟩;rcases hown with ⟨h5,_⟩|⟨b,off,C,e,Tj,pX,ha,hbk,hz,k1,k2,k3,rfl,Wd⟩
  .left;rw [h5];rfl
  .right;have hA:∀x,g.F x->(env B o' G w).A x:=by
    intro x hx;have hfr:=r.fresh _ _ _ x hl h2 hx;refine ⟨hfr.1.elim (λh=> .inl (B.gA x h)) (λh=> .inr ⟨h,hfr.2⟩),λj fI g' BP Jt hF'=> ?_⟩;obtain ⟨xV,hl0,h⟩:=back BP;rcases h with ⟨_,rfl⟩|⟨hj,rfl⟩
    .simp [aM.kill] at Jt
    .exact hj (r.apart j i _ _ _ _ x hl0 hl (by rw [<-(fz xV).1];exact Jt) h2 hF' hx)
   have rt:mV (λ_=>some .view) false (env B s.o G w).plain (env B o' G w).plain g.F:=
    {own:=λt e=>by obtain rfl:=cQ e;exact ⟨by simp,λb hb=>hA b hb⟩
     view:=λt e=>by obtain rfl:=cQ e;exact ⟨rfl,λb hb=>(k.a b hb).1⟩
     jZ:=λj t e=>by obtain rfl:=cQ e;exact ⟨by simp,.inl trivial,λb hb=>hb.elim⟩
     hh:=λh=>by cases h
     hl:=λh=>by cases h}
   exact ⟨b,off,ha,hA b (hF b (by simp)),Gz rt _ _ _ _ pX (λx hx=>hF x (by simp [hx])) Wd⟩
 refine ⟨G,{len:= ?_,defs:=r.defs,ok:= ?_,apart:= ?_,fresh:= ?_,tmps:= ?_,size:=r.size,frame:=r.frame,base:=r.base,same:=r.same}⟩
 .simp only [AS.frozen,MJ];exact r.len
 .simp only [AS.frozen,hyy,ho'];intro j fI g hl Jt;obtain ⟨xV,hl0,h⟩:=back hl;rcases h with ⟨_,rfl⟩|⟨hj,rfl⟩
  .simp [aM.kill] at Jt
  obtain ⟨fp,hown,hnd,hF⟩:=r.ok j _ g hl0 (by rw [<-(fz xV).1];exact Jt);refine ⟨fp,?_,hnd,hF⟩;cases hb0:xV.box with
  |false=>
   have e:xV.Jg i bY y=xV:=by unfold aM.Jg;rw [cY (by simp [hb0])]
   rw [e];rw [hb0] at hown⊢;exact hown.keeps k.plain (λ_ _=>rfl)
  |true=>
   have e:xV.Jg i bY y={xV with dR:=Wt i bY y xV.dR}:=by unfold aM.Jg;rw [eK hb0]
   rw [e];simp only [hb0] at hown⊢;simp only [Env.of,gE] at hown⊢;obtain ⟨hlen,hown⟩:=hown;refine ⟨by rw [BU];exact hlen,?_⟩;rcases hown with h|⟨b,off,C,e,Tj,pX,ha,hbk,hz,k1,k2,k3,rfl,Wd⟩
   .exact .inl ⟨by rw [h.1];rfl,h.2⟩
   .exact .inr ⟨b,off,C,e,Tj,pX,ha,hbk,hz,k1,by rw [BU];exact k2,k3,rfl,aBd k hy _ _ _ _ _ Wd⟩
 .simp only [AS.frozen,hyy,ho'];intro p q op oq gp gq b hp hq hlp hlq hFp hFq;obtain ⟨op0,hp0,h⟩:=back hp;obtain ⟨oq0,hq0,h'⟩:=back hq;rcases h with ⟨_,rfl⟩|⟨_,rfl⟩
  .simp [aM.kill] at hlp
  rcases h' with ⟨_,rfl⟩|⟨_,rfl⟩
  .simp [aM.kill] at hlq
  exact r.apart p q _ _ _ _ b hp0 hq0 (by rw [<-(fz op0).1];exact hlp) (by rw [<-(fz oq0).1];exact hlq) hFp hFq
 .simp only [AS.frozen,hyy,ho'];intro j fI g b hl Jt hF;obtain ⟨xV,hl0,h⟩:=back hl;rcases h with ⟨_,rfl⟩|⟨_,rfl⟩
  .simp [aM.kill] at Jt
  exact r.fresh j _ g b hl0 (by rw [<-(fz xV).1];exact Jt) hF
 .simp only [AS.frozen,hyy,ho'];exact PR k hy _ _ _ r.tmps
def aJ5 (P:Program) [aC P] (o:Oper) (s:AS) (K:AS->Prop):Prop:=
 match o.op with
 | .slice _ x _ _ none=>match s.ev x with
  | .obj i bY=>match AV.isObj s.o i bY with
   |some ob=>ob.box=false/\qJ P o (s.frozen i bY ob) K
   |none=>False
  |_=>False
 |_=>False
attribute [simp] Jg Ws Wt TC aM.Jg AS.frozen
mutual
def tJ:AV->Bool
 | .int _ _=>true
 | .bool _=>true
 | .str _=>true
 | .agg c=>Ie c
 |_=>false
def Ie:List AV->Bool
 |[]=>true
 |x::xs=>tJ x&&Ie xs
end
mutual
theorem C8 {w w':World} {E E':Env}:∀(x:AV) (v:Value) (fp:List Nat),tJ x=true->R w E x v fp->R w' E' x v fp
 | .int _ _,_,_,_,h=>by simpa [R] using h
 | .bool _,_,_,_,h=>by simpa [R] using h
 | .str _,_,_,_,h=>by simpa [R] using h
 | .agg c,v,fp,hc,h=>by simp only [R] at h⊢;obtain ⟨cs,h1,h2,h3⟩:=h;exact ⟨cs,h1,h2,Ig c cs fp (by simpa [tJ] using hc) h3⟩
 | .sl _ _ _,_,_,hc,_=>by simp [tJ] at hc
 | .gD _ _ _,_,_,hc,_=>by simp [tJ] at hc
 | .obj _ _,_,_,hc,_=>by simp [tJ] at hc
 | .ptr _ _ _ _,_,_,hc,_=>by simp [tJ] at hc
 | .iJ _,_,_,hc,_=>by simp [tJ] at hc
 | .fn _ _,_,_,hc,_=>by simp [tJ] at hc
 | .undef,_,_,hc,_=>by simp [tJ] at hc
theorem Ig {w w':World} {E E':Env}:∀(c:List AV) (cs:List Value) (fp:List Nat),Ie c=true->Rc w E c cs fp->Rc w' E' c cs fp
 |[],[],_,_,h=>by simpa [Rc] using h
 |[],_::_,_,_,h=>by simp [Rc] at h
 |_::_,[],_,_,h=>by simp [Rc] at h
 |x::xs,c::cs,fp,hc,h=>by simp only [Ie,eJ] at hc;simp only [Rc] at h⊢;obtain ⟨f1,f2,h1,h2,h3⟩:=h;exact ⟨f1,f2,C8 x c f1 hc.1 h1,Ig xs cs f2 hc.2 h2,h3⟩
end
def aJ6 (code:List UInt8) (i h:Int):List AV:=[.sl .view 1 (dP code),.int .i64 i,.int .i64 h]
def AS.drew (s:AS) (dst:Option Tmp) (k bY:Nat) (code:List UInt8) (i h:Int) (r:AV):AS:=AS.called ⟨s.t,s.o.set k ⟨true,true,3,bY,[aJ6 code i h]⟩⟩ dst r
def aGd (P:Program) [aC P] (o:Oper) (s:AS) (K:AS->Prop):Prop:=False
theorem ic {P:Program} [aC P] {B:gN P} {o:Oper} {s:AS} {K:AS->Prop} (h:aGd P o s K) (a:Act) (w:World) (next:Act->World->Prop) (X:Exit->Act->World->Prop) (hr:Rel B s a w)
  (hn:∀a' w' s',K s'->Rel B s' a' w'->next a' w'):o.wp P a w next X:=False.elim h
end
end Go.Aw
