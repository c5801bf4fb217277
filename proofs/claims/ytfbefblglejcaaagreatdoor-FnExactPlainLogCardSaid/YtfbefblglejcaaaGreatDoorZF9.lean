/- Proved here: steps towards the statement of this claim. No condition. -/
import Derived.Test.YtfbefblglejcaaaGreatDoorZF2
set_option linter.all false
namespace Go.Aw
open List
def rowOf(o:List aM)(i:Nat):List AV:=match o[i]? with
 |some ob=>ob.dP.headD []
 |none=>[]
def VD(o:List aM):AV->List Nat
 | .ptr i _ _ _=>i::kC (rowOf o i)
 |_=>[]
def takes(o:List aM):List AV->List GA->List Nat
 |x::xs,.view _::gs=>takes o xs gs
 |x::xs,.oM _::gs=>lV x++takes o xs gs
 |x::xs,.uI _ _::gs=>VD o x++takes o xs gs
 |_,_=>[]
def aIg(o:List aM)(c:List AV):AV->Prop
 | .ptr i bV 0 0=>∃ob,AV.isObj o i bV=some ob/\ob.box=true/\∃cells,ob.dP=[cells]/\nG o cells=true/\uX o cells=c
 |_=>False
def handed(o:List aM)(u:List Nat):List AV->List GA->Prop
 |[],[]=>True
 |x::xs,.view y::gs=>Rw u x=true/\arg o x=y/\handed o u xs gs
 |x::xs,.oM y::gs=>jJ o x=true/\res o x=y/\handed o u xs gs
 |x::xs,.uI c _::gs=>aIg o c x/\handed o u xs gs
 |_,_=>False
def uf(o:List aM)(G:List CO)(c:List AV)(v:Value)(cap:Nat):AV->Prop
 | .ptr i _ _ _=>∃ob g b f,look o G i ob g/\ob.live=true/\ob.box=true/\ob.n=c.length/\ob.dP.length=1/\g.a=some ⟨b,f,none⟩/\v= .pointer (some ⟨b,f,none⟩)/\g.F b/\g.cap=cap
 |_=>False
def qD(o:List aM)(G:List CO):List AV->List GA->List Value->List Nat->Prop
 |[],[],[],[]=>True
 |x::xs,.uI c _::gs,v::vs,cap::jC=>uf o G c v cap x/\qD o G xs gs vs jC
 |x::xs,.view _::gs,v::vs,cap::jC=>qD o G xs gs vs jC
 |x::xs,.oM _::gs,v::vs,cap::jC=>qD o G xs gs vs jC
 |_,_,_,_=>False
section
variable{P:Program}[aC P]{B:gM P}{s:AS}{G:List CO}{a:Act}{w:World}
theorem KT(r:eB B s G a w){u1 u2:List Nat}(hd:∀i∈u1,∀j∈u2,i≠j){b:Nat}(h1:Of s.o G u1 b)(h2:Of s.o G u2 b):False:=by obtain⟨i,ob,g,hi,hl,hlive,hF⟩:=h1;obtain⟨j,fF,g',hj,Cu,xY,hF'⟩:=h2;exact hd i hi j hj (r.apart i j _ _ _ _ b hl Cu hlive xY hF hF')
theorem Cy{o:List aM}{u1 u2:List Nat}(h:∀i∈u1,i∈u2){b:Nat}(h1:Of o G u1 b):Of o G u2 b:=by obtain⟨i,ob,g,hi,k⟩:=h1;exact⟨i,ob,g,h i hi,k⟩
theorem VE(r:eB B s G a w){Z:Nat->Prop}{U:List Nat}(hZ:∀b,Z b->Of s.o G U b):eO w (env B s.o G w).plain w (sI w Z):=
 ⟨λb hb=>⟨Zu r hZ hb,rfl⟩,λ_ _=>trivial,λ_ _ _ h=>h.elim,λ_ _ _ h=>h.elim,λ_ _ _ _ _ h=>h.elim⟩
theorem ug(r:eB B s G a w){c:List AV}{x:AV}{v:Value}(h:aIg s.o c x)(hx:R w (env B s.o G w) x v [])
  {us:List Nat} (hus:VD s.o x=us) (hnd:us.Nodup):
  ∃fp cap,fp.Nodup/\(∀b∈fp,Of s.o G us b)/\uf s.o G c v cap x/\∀c' Z U,(∀b,Z b->Of s.o G U b)->RG w Z (.uI c c') v fp cap:=by
 unfold aIg at h;split at h
 .rename_i i bV;obtain⟨ob,wJ,vT,cells,hels,nR,jO⟩:=h;obtain⟨h1,h2,h3⟩:=kY wJ;simp only[R]at hx;obtain⟨_,fF,g,hl,_,hh,_⟩:=hx;obtain rfl:=cQ (hl.1.symm.trans h1);obtain⟨b,f,hga,hv⟩:=hh h2 h3;have hrow:rowOf s.o i=cells:=by simp[rowOf,h1,hels]
  simp only[VD,hrow]at hus;subst hus;simp only[lR]at hnd;obtain⟨fp0,⟨hlen,hown⟩,JE,Qz⟩:=r.ok i _ g hl h2;rw[hels]at hown;simp only[vT,Env.of,gC]at hown;rcases hown with⟨h5,_⟩|⟨b',f',C,ty,fz,rE,wR,hbk,hz,k1,k2,k3,rfl,hr⟩
  .cases h5
  .rw [hga]at wR;simp only[eC,pD,sA]at wR;obtain⟨rfl,rfl⟩:=wR;simp only[Rr]at hr;obtain⟨cs,f1,f2,hn,hc,hone,wK,rfl,e⟩:=hr;have e:rE=f1:=by simpa using e
   subst e;simp only[lR]at JE;obtain⟨Av,q1,q2,q3⟩:=KS r hl h2 cells cs rE nR hnd.2 hnd.1 JE.2 (λx hx=>Qz x (by simp[hx])) wK;have Vy:g.F b:=Qz b (by simp);have hbn:b∉Av:=λhb=>by
    rcases q3 b hb with h|h
    .exact JE.1 h
    .obtain ⟨j,oj,gj,hj,hlj,hjl,Uv⟩:=h;have:=r.apart i j _ _ _ _ b hl hlj h2 hjl Vy Uv;exact hnd.1 (this▸hj)
   have hcl:cells.length=fF.n:=by have:=gH wK;omega
   have Ux:c.length=fF.n:=by rw[<-jO,<-hcl];clear q1 nR jO;induction cells with
    |nil=>rfl
    |cons _ _ _=>simp[uX,FV]
   refine⟨b::Av,g.cap,lR.2 ⟨hbn,q2⟩,?_,?_,?_⟩
   .intro x hx;rcases lB.1 hx with rfl|hx
    .exact ⟨i,fF,g,by simp,hl,h2,Vy⟩
    .rcases q3 x hx with h|h
     .exact ⟨i,fF,g,by simp,hl,h2,Qz x (by simp[h])⟩
     .exact Cy (λj hj=>by simp[hj]) h
   .exact ⟨fF,g,b,f,hl,h2,vT,Ux.symm,by rw[hels];rfl,hga,by simpa using hv,Vy,rfl⟩
   .intro c' Z U hZ;simp only[RG];refine⟨b,f,by simpa using hv,by simp[maxLen],.inr ⟨b,f,C,ty,fz,Av,rfl,hbk,by rw[Ux];exact hz,by rw[Ux];exact k1,by simpa using k2,k3,rfl,?_⟩⟩;simp only[Rr];refine⟨cs,Av,[],by rw[Ux];exact hn,hc,hone,?_,rfl,by simp⟩;rw[<-jO];exact dU (VE r hZ) _ _ _ (λ_ _=>rfl) q1
 .exact h.elim
theorem Bg(r:eB B s G a w){U:List Nat}:∀(xs:List AV) (gs:List GA) (vs:List Value),handed s.o U xs gs->(takes s.o xs gs).Nodup->(∀i∈takes s.o xs gs,i∈U)->Rc w (env B s.o G w) xs vs []->
  ∃uN jC,uN.flatten.Nodup/\(∀b∈uN.flatten,Of s.o G (takes s.o xs gs) b)/\qD s.o G xs gs vs jC/\∀Z,(∀b,Z b->Of s.o G U b)->Ex w Z gs vs uN jC
 |[],[],[],_,_,_,_=>⟨[],[],by simp,by simp,by simp[qD],λ_ _=>by simp[Ex]⟩
 |[],[],_::_,_,_,_,h=>by simp[Rc]at h
 |[],_::_,_,h,_,_,_=>by simp[handed]at h
 |_::_,[],_,h,_,_,_=>by simp[handed]at h
 |_::_,_::_,[],_,_,_,h=>by simp[Rc]at h
 |x::xs,.view y::gs,v::vs,h,hn,hu,hr=>by
  simp only[handed]at h;obtain⟨h1,h2,h3⟩:=h;simp only[Rc]at hr;obtain⟨f1,f2,hr1,hr2,e⟩:=hr;obtain⟨rfl,rfl⟩:f1=[]/\f2=[]:=by simpa using e
  simp only[takes]at hn hu⊢;obtain⟨uN,jC,q1,q2,q3,q4⟩:=Bg r xs gs vs h3 hn hu hr2;refine⟨[]::uN,0::jC,by simpa using q1,by simpa using q2,by simpa [qD]using q3,λZ hZ=> ?_⟩;simp only[Ex,RG];refine⟨⟨trivial,?_⟩,q4 Z hZ⟩;rw[<-h2];exact aDf r hZ x v h1 hr1
 |x::xs,.oM y::gs,v::vs,h,hn,hu,hr=>by
  simp only[handed]at h;obtain⟨h1,h2,h3⟩:=h;simp only[Rc]at hr;obtain⟨f1,f2,hr1,hr2,e⟩:=hr;obtain⟨rfl,rfl⟩:f1=[]/\f2=[]:=by simpa using e
  simp only[takes,gO]at hn hu⊢;obtain⟨uN,jC,q1,q2,q3,q4⟩:=Bg r xs gs vs h3 hn.2.1 (λi hi=>hu i (by simp[hi])) hr2;obtain⟨fp,p1,p2,p3⟩:=KN r x v h1 hn.1 hr1;refine⟨fp::uN,0::jC,?_,?_,by simpa [qD]using q3,λZ hZ=> ?_⟩
  .simp only[pP,gO];refine⟨p2,q1,λb hb b' hb' e=> ?_⟩;subst e;exact KT r (λi hi j hj=>hn.2.2 i hi j hj) (p3 b hb) (q2 b hb')
  .intro b hb;simp only[pP,fL]at hb;rcases hb with hb|hb
   .exact Cy (λi hi=>by simp[hi]) (p3 b hb)
   .exact Cy (λi hi=>by simp[hi]) (q2 b hb)
  .simp only[Ex,RG];refine⟨?_,q4 Z hZ⟩;rw[<-h2];exact qB (VE r hZ) _ _ _ (λ_ _=>rfl) p1
 |x::xs,.uI c c'::gs,v::vs,h,hn,hu,hr=>by
  simp only[handed]at h;obtain⟨h1,h3⟩:=h;simp only[Rc]at hr;obtain⟨f1,f2,hr1,hr2,e⟩:=hr;obtain⟨rfl,rfl⟩:f1=[]/\f2=[]:=by simpa using e
  simp only[takes]at hn hu⊢;generalize hus:VD s.o x=us at hn hu⊢;simp only[gO]at hn;obtain⟨uN,jC,q1,q2,q3,q4⟩:=Bg r xs gs vs h3 hn.2.1 (λi hi=>hu i (by simp[hi])) hr2;obtain⟨fp,cap,p1,p2,p3,p4⟩:=ug r h1 hr1 hus hn.1;refine⟨fp::uN,cap::jC,?_,?_,by simp only[qD];exact⟨p3,q3⟩,λZ hZ=> ?_⟩
  .simp only[pP,gO];refine⟨p1,q1,λb hb b' hb' e=> ?_⟩;subst e;exact KT r (λi hi j hj=>hn.2.2 i hi j hj) (p2 b hb) (q2 b hb')
  .intro b hb;simp only[pP,fL]at hb;rcases hb with hb|hb
   .exact Cy (λi hi=>by simp[hi]) (p2 b hb)
   .exact Cy (λi hi=>by simp[hi]) (q2 b hb)
  .simp only[Ex];exact⟨p4 c' Z U hZ,q4 Z hZ⟩
end
def JH:Nat->List GA->List aM
 |_,[]=>[]
 |k,.uI _ c'::gs=>(fB 1 k c').2++JH (k+(fB 1 k c').2.length) gs
 |k,.view _::gs=>JH k gs
 |k,.oM _::gs=>JH k gs
def Dp:Nat->List AV->List GA->List (Nat×List (List AV))
 |k,x::xs,.uI _ c'::gs=>(match x with
  | .ptr i _ _ _=>[(i,[(fB 1 k c').1])]
  |_=>[])++Dp (k+(fB 1 k c').2.length) xs gs
 |k,_::xs,.view _::gs=>Dp k xs gs
 |k,_::xs,.oM _::gs=>Dp k xs gs
 |_,_,_=>[]
def aM.H8(ob:aM)(N:List (Nat×List (List AV)))(u:List Nat)(i:Nat):aM:=
 match N.find? (λp=>p.1 == i)with
 |some p=>{ob with dP:=p.2}
 |none=>if u.contains i=true then {ob with live:=false}else ob.forget u
def Fs(N:List (Nat×List (List AV)))(u:List Nat):Nat->List aM->List aM
 |_,[]=>[]
 |i,ob::r=>ob.H8 N u i::Fs N u (i+1) r
theorem VF(N:List (Nat×List (List AV)))(u:List Nat):∀(o:List aM) (k i:Nat),(Fs N u k o)[i]? =(o[i]?).map λob=>ob.H8 N u (k+i)
 |[],_,_=>by simp[Fs]
 |ob::r,k,0=>by simp[Fs]
 |ob::r,k,i+1=>by simp only[Fs,wA];rw[VF N u r (k+1) i,show k+1+i=k+(i+1)by omega]
theorem Ey(N:List (Nat×List (List AV)))(u:List Nat):∀(o:List aM) (k:Nat),(Fs N u k o).length=o.length
 |[],_=>rfl
 |g::r,k=>by simp[Fs,Ey N u r]
def IK(N:List (Nat×List (List AV))):Nat->List CO->List CO
 |_,[]=>[]
 |i,g::r=>(match N.find? (λp=>p.1 == i)with
  |some _=>{g with F:=λb=>∃a,g.a=some a/\b=a.block}
  |none=>g)::IK N (i+1) r
theorem VG(N:List (Nat×List (List AV))):∀(G:List CO) (k i:Nat),(IK N k G)[i]? =(G[i]?).map λg=>match N.find? (λp=>p.1 == k+i)with
  |some _=>{g with F:=λb=>∃a,g.a=some a/\b=a.block}
  |none=>g
 |[],_,_=>by simp[IK]
 |g::r,k,0=>by simp[IK]
 |g::r,k,i+1=>by simp only[IK,wA];rw[VG N r (k+1) i,show k+1+i=k+(i+1)by omega]
theorem Ez(N:List (Nat×List (List AV))):∀(o:List CO) (k:Nat),(IK N k o).length=o.length
 |[],_=>rfl
 |g::r,k=>by simp[IK,Ez N r]
theorem VH{o:List aM}{G:List CO}{N:List (Nat×List (List AV))}{u:List Nat}{i:Nat}{fF:aM}{g':CO}(h:look (Fs N u 0 o) (IK N 0 G) i fF g'):
  ∃ob g,look o G i ob g/\((∃p∈N,p.1=i/\fF={ob with dP:=p.2}/\g'={g with F:=λb=>∃a,g.a=some a/\b=a.block})\/
   ((∀p∈N,p.1≠i)/\g'=g/\((i∈u/\fF={ob with live:=false})\/(i∉u/\fF=ob.forget u)))):=by
 obtain⟨h1,h2⟩:=h;rw[VF,hM]at h1;rw[VG,hM]at h2;cases ho:o[i]? with
 |none=>simp[ho]at h1
 |some ob=>
  cases hg:G[i]? with
  |none=>simp[hg]at h2
  |some g=>
   rw[ho]at h1;rw[hg]at h2;simp only[mS,eC]at h1 h2;refine⟨ob,g,⟨ho,hg⟩,?_⟩;unfold aM.H8 at h1;cases hf:N.find? (λp=>p.1 == i)with
   |some p=>rw[hf]at h1 h2;left;exact⟨p,pA hf,by have:=DP hf;simpa using this,h1.symm,h2.symm⟩
   |none=>
    rw[hf]at h1 h2;right;refine⟨λp hp e=> ?_,h2.symm,?_⟩
    .have:=DA.1 hf p hp;simp[e]at this
    .simp only at h1;by_cases hiu:i∈u
     .rw [eK (by simpa using hiu)]at h1;exact .inl ⟨hiu,h1.symm⟩
     .rw [cX (by simpa using hiu)]at h1;exact .inr ⟨hiu,h1.symm⟩
theorem Y0{o:List aM}{G:List CO}{N:List (Nat×List (List AV))}{u:List Nat}{i:Nat}{ob:aM}{g:CO}(h:look o G i ob g):
  ∃fF g',look (Fs N u 0 o) (IK N 0 G) i fF g':=by
 have h1:=(cH.1 h.1).1;have h2:=(cH.1 h.2).1;exact⟨_,_,aE (by rw[Ey];exact h1),aE (by rw[Ez];exact h2)⟩
theorem Bh{w:World}{s:AS}{G:List CO}:∀(xs:List AV) (gs:List GA) (vs:List Value) (uN:List (List Nat)) (jC:List Nat) (k:Nat),qD s.o G xs gs vs jC->Uw w gs vs uN jC->uN.flatten.Nodup->
  ∃inner,inner.Nodup/\(∀b∈inner,b∈uN.flatten)/\
   (∀p∈Dp k xs gs,∃ob g b f,look s.o G p.1 ob g/\ob.live=true/\ob.box=true/\ob.dP.length=p.2.length/\g.a=some ⟨b,f,none⟩/\g.F b/\b∈uN.flatten/\b∉inner)/\
   lG 1 w mE k (JH k gs) inner (λE'=>∀p∈Dp k xs gs,∀ob g b f,look s.o G p.1 ob g->g.a=some ⟨b,f,none⟩->wI w E' ob.n p.2 g.a g.cap [b])
 |[],[],[],[],[],k,_,_,_=>⟨[],by simp,by simp,by simp[Dp],⟨[],rfl,λj ob g hl=>by simp[look,JH]at hl,λi j oi oj gi gj b hl=>by simp[look,JH]at hl,λE' _ _ p hp=>by simp[Dp]at hp⟩⟩
 |x::xs,.view y::gs,v::vs,fp::uN,cap::jC,k,hl,hp,hn=>by simp only[Uw,RP]at hp;obtain⟨rfl,hp⟩:=hp;simp only[JH,Dp];have:=Bh xs gs vs uN jC k (by simpa [qD]using hl) hp (by simpa using hn);simpa using this
 |x::xs,.oM y::gs,v::vs,fp::uN,cap::jC,k,hl,hp,hn=>by simp only[Uw,RP]at hp;obtain⟨rfl,hp⟩:=hp;simp only[JH,Dp];have:=Bh xs gs vs uN jC k (by simpa [qD]using hl) hp (by simpa using hn);simpa using this
 |x::xs,.uI c c'::gs,v::vs,fp::uN,cap::jC,k,hl,hp,hn=>by
  simp only[Uw,RP]at hp;obtain⟨⟨b0,f0,hv0,hlen,hown⟩,hp⟩:=hp;simp only[qD]at hl;obtain⟨hl0,hl⟩:=hl;simp only[pP,gO]at hn;obtain⟨inner,i1,i2,i3,i4⟩:=Bh xs gs vs uN jC (k+(fB 1 k c').2.length) hl hp hn.2.1;unfold uf at hl0;split at hl0
  .rename_i i bV idx off;obtain⟨ob,g,b,f,hlk,hlive,vT,hcn,hel,hga,hv,hF,rfl⟩:=hl0;rw[hv]at hv0;simp only[Dg,eC,pD,sA]at hv0;obtain⟨rfl,rfl⟩:=hv0;rcases hown with⟨h5,_⟩|⟨b',f',C,ty,fz,rE,wR,hbk,hz,k1,k2,k3,rfl,hr⟩
   .cases h5
   simp only[eC,pD,sA]at wR;obtain⟨rfl,rfl⟩:=wR;simp only[Rr]at hr;obtain⟨cs,f1,f2,hcl,hc,hone,wK,rfl,e⟩:=hr;have e:rE=f1:=by simpa using e
   subst e;have hnb:=hn.1;simp only[lR]at hnb;have hab:=DC (q:=1) c' cs rE k wK hnb.2;have X7:(rE++inner).Nodup:=gO.2 ⟨hnb.2,i1,λx hx y hy e=>hn.2.2 x (by simp[hx]) y (i2 y hy) e⟩;obtain⟨Gs,a1,a2,a3,a4⟩:=hab.append i4 X7;have hbi:b∉inner:=λh=>hn.2.2 b (by simp) b (i2 b h) rfl
   refine⟨rE++inner,X7,?_,?_,⟨Gs,a1,a2,a3,λE' hk hh=> ?_⟩⟩
   .intro x hx;simp only[pP,fL];rcases fL.1 hx with hx|hx
    .exact .inl (by simp[hx])
    .exact .inr (i2 x hx)
   .intro p hp;simp only[Dp,fL]at hp;rcases hp with hp|hp
    .simp only[rI]at hp;subst hp;exact⟨ob,g,b,f,hlk,hlive,vT,by simpa using hel,hga,hF,by simp,by simp only[fL,not_or];exact⟨hnb.1,hbi⟩⟩
    .obtain ⟨ob1,g1,b1,f1,q1,q2,q3,q4,q5,q6,q7,q8⟩:=i3 p hp;refine⟨ob1,g1,b1,f1,q1,q2,q3,q4,q5,q6,by simp[q7],?_⟩;simp only[fL,not_or];exact⟨λh=>hn.2.2 b1 (by simp[h]) b1 q7 rfl,q8⟩
   .obtain ⟨d1,d2⟩:=a4 E' hk hh;intro p hp ob1 g1 b1 f1 q1 q2;simp only[Dp,fL]at hp;rcases hp with hp|hp
    .simp only[rI]at hp;subst hp;obtain⟨rfl,rfl⟩:=lF hlk q1;rw[hga]at q2;simp only[eC,pD,sA]at q2;obtain⟨rfl,rfl⟩:=q2;refine⟨by simp[maxLen],.inr ⟨b,f,C,ty,fz,[],hga,hbk,by rw[hcn];exact hz,by rw[hcn];exact k1,by simpa using k2,k3,rfl,?_⟩⟩;simp only[Rr];exact⟨cs,[],[],by rw[hcn];exact hcl,hc,hone,d1,rfl,rfl⟩
    .exact d2 p hp ob1 g1 b1 f1 q1 q2
  .exact hl0.elim
 |[],[],[],[],_::_,_,hl,_,_=>by simp[qD]at hl
 |[],[],[],_::_,_,_,_,hp,_=>by simp[Uw]at hp
 |[],[],_::_,_,_,_,_,hp,_=>by simp[Uw]at hp
 |[],_::_,_,_,_,_,hl,_,_=>by simp[qD]at hl
 |_::_,[],_,_,_,_,hl,_,_=>by simp[qD]at hl
 |_::_,.view _::_,[],_,_,_,hl,_,_=>by simp[qD]at hl
 |_::_,.view _::_,_::_,[],_,_,_,hp,_=>by simp[Uw]at hp
 |_::_,.view _::_,_::_,_::_,[],_,_,hp,_=>by simp[Uw]at hp
 |_::_,.oM _::_,[],_,_,_,hl,_,_=>by simp[qD]at hl
 |_::_,.oM _::_,_::_,[],_,_,_,hp,_=>by simp[Uw]at hp
 |_::_,.oM _::_,_::_,_::_,[],_,_,hp,_=>by simp[Uw]at hp
 |_::_,.uI _ _::_,[],_,_,_,hl,_,_=>by simp[qD]at hl
 |_::_,.uI _ _::_,_::_,[],_,_,_,hp,_=>by simp[Uw]at hp
 |_::_,.uI _ _::_,_::_,_::_,[],_,_,hp,_=>by simp[Uw]at hp
theorem KU(o:List aM):∀(xs:List AV) (gs:List GA) (k:Nat),∀p∈Dp k xs gs,p.1∈takes o xs gs
 |[],[],_,p,hp=>by simp[Dp]at hp
 |[],_::_,_,p,hp=>by simp[Dp]at hp
 |_::_,[],_,p,hp=>by simp[Dp]at hp
 |x::xs,.view _::gs,k,p,hp=>by simp only[Dp]at hp;simpa [takes]using KU o xs gs k p hp
 |x::xs,.oM _::gs,k,p,hp=>by simp only[Dp]at hp;simp only[takes,fL];exact .inr (KU o xs gs k p hp)
 |x::xs,.uI _ c'::gs,k,p,hp=>by
  simp only[Dp,fL]at hp;simp only[takes,fL];rcases hp with hp|hp
  .left;cases x<;>simp at hp;subst hp;simp[VD]
  .exact .inr (KU o xs gs _ p hp)
def AS.given(s:AS)(d:Option Tmp)(xs:List AV)(gs:List GA)(r:AV):AS:=
 AS.put ⟨xR (iP (takes s.o xs gs)) true s.t,Fs (Dp s.o.length xs gs) (takes s.o xs gs) 0 s.o++JH s.o.length gs++(dF 1 (s.o.length+(JH s.o.length gs).length) r).2⟩ d
  (dF 1 (s.o.length+(JH s.o.length gs).length) r).1
section
variable{P:Program}[aC P]{B:gM P}{s:AS}{dst:Option Tmp}{ty:TypeId}{pos:String}{after:Array Edge}{gd:Option (Nat × Bool)}
theorem Y6(f:Operand)(args:Array Operand)(tys:Array TypeId){gf:FuncId}{gs:List GA}{rv:AV}(hf:s.ev f= .fn gf [])(hc:bR P gf=true)
  (hu:(takes s.o (s.args args) gs).Nodup) (hh:handed s.o (takes s.o (s.args args) gs) (s.args args) gs) (nR:MP P gf gs rv):
  Step P B ⟨dst,.call {callee:= .value f,args:=args,argTypes:=tys},ty,pos,after,gd⟩ s (s.given dst (s.args args) gs rv):=by
 rintro a w next Q ⟨G,rr⟩ hn
 have h1:=rr.ev f;rw[hf]at h1;simp only[R]at h1;obtain⟨_,cs,hv,wX⟩:=h1;have hcs:cs=[]:=by cases cs with
  |nil=>rfl
  |cons _ _=>simp[Rc]at wX
 subst hcs;have hargs:Rc w (env B s.o G w) (s.args args) (args.toList.map a.eval) []:=by simpa [AS.args]using xJ rr args.toList
 generalize hxs:s.args args=xs at*;obtain⟨uN,jC,hnd,Oz,aMa,aMb⟩:=Bg rr (U:=takes s.o xs gs) xs gs _ hh hu (λi h=>h) hargs;generalize huu:takes s.o xs gs=u at*;have hlt:∀b∈uN.flatten,b<w.heap.size:=λb hb=>by obtain⟨i,ob,g,_,hl,hlive,hF⟩:=Oz b hb;exact(rr.fresh _ _ _ b hl hlive hF).2
 have hab:∀b∈uN.flatten,aC.low P<=b/\b<w.heap.size:=λb hb=>by obtain⟨i,ob,g,_,hl,hlive,hF⟩:=Oz b hb;exact⟨rr.YY (rr.fresh _ _ _ b hl hlive hF).1,hlt b hb⟩
 have Zb:=nR w _ uN jC rr.holds hab hnd (aMb _ Oz);unfold Oper.wp;have hrun:(execOp a.eval ⟨dst,.call {callee:= .value f,args:=args,argTypes:=tys},ty,pos,after,gd⟩).run P w= .ok (.enter gf (args.toList.map a.eval).toArray) w:=by
  have e:args.map a.eval=(args.toList.map a.eval).toArray:=by apply DO;simp
  simp[execOp,resolve,hv,Deferred.ofValue,invoke,Ev hc,e]
 rw[hrun,Oper.upon_enter];refine Zb.mono λe w' h=> ?_
 obtain⟨v,fp,Ct,rfl,Xj,hrp,hnd',hfr,hsz,nZ,FO⟩:=h;refine hn _ _ ?_;have Xn:=gO.1 hnd';obtain⟨inner,i1,i2,i3,i4⟩:=Bh (s:=s) (G:=G) xs gs _ Ct jC s.o.length aMa hrp Xn.1;have X7:(inner++fp).Nodup:=gO.2 ⟨i1,Xn.2.1,λx hx y hy e=>Xn.2.2 x (i2 x hx) y hy e⟩;obtain⟨Gs,hlen,Cs,hap,qW⟩:=i4.append (FR (q:=1) rv v fp (s.o.length+(JH s.o.length gs).length) Xj Xn.2.1) X7;have hNu:=KU s.o xs gs s.o.length;rw[huu]at hNu;unfold AS.given;rw[huu];generalize hN:Dp s.o.length xs gs=N at*;rw[rN];generalize FQ:JH s.o.length gs++(dF 1 (s.o.length+(JH s.o.length gs).length) rv).2=news at*;generalize ho1:Fs N u 0 s.o=o1;generalize hG1:IK N 0 G=G1;have hl1:o1.length=s.o.length:=by rw[<-ho1,Ey]
 have aS9:G1.length=G.length:=by rw[<-hG1,Ez]
 have hlG:G1.length=o1.length:=by rw[aS9,hl1,rr.len]
 have blk:∀b,b∈Ct.flatten++fp->(Of s.o G u b\/w.heap.size<=b)/\b<w'.heap.size:=λb hb=>by
  have:=hfr b hb;refine⟨?_,this.2⟩;rcases this.1 with h|h
  .exact .inl (Oz b h)
  .exact .inr h
 have aMc:∀{j ob g b},look news Gs j ob g->g.F b->b∈inner++fp:=by intro j ob g b hl hF;obtain⟨_,_,_,f',_,_,h3,h4⟩:=Cs _ _ _ hl;exact h4 _ ((h3 _).1 hF)
 have aMd:∀{b},b∈inner++fp->b∈Ct.flatten++fp:=by
  intro b hb;rcases fL.1 hb with h|h
  .exact nB _ (i2 b h)
  .exact sX _ h
 have lk:∀{i fF g'},look (o1++news) (G1++Gs) i fF g'->(∃j,i=s.o.length+j/\look news Gs j fF g')\/(i<s.o.length/\∃ob g,look s.o G i ob g/\
   ((∃p∈N,p.1=i/\fF={ob with dP:=p.2}/\g'={g with F:=λb=>∃a,g.a=some a/\b=a.block})\/
   ((∀p∈N,p.1≠i)/\g'=g/\((i∈u/\fF={ob with live:=false})\/(i∉u/\fF=ob.forget u))))):=by
  intro i fF g' h;rcases pU hlG h with⟨hi,h⟩|⟨hi,h⟩
  .right;refine⟨by omega,?_⟩;rw[<-ho1,<-hG1]at h;exact VH h
  .left;exact⟨i-o1.length,by omega,h⟩
 have aDh:∀{p},p∈N->∀{ob g},look s.o G p.1 ob g->ob.live=true/\ob.box=true/\ob.dP.length=p.2.length/\∃b f,g.a=some ⟨b,f,none⟩/\g.F b/\b∈Ct.flatten/\b∉inner:=by intro p hp ob g hl;obtain⟨ob2,g2,b,f,q1,q2,q3,q4,q5,q6,q7,q8⟩:=i3 p hp;obtain⟨rfl,rfl⟩:=lF hl q1;exact⟨q2,q3,q4,b,f,q5,q6,q7,q8⟩
 have kl:∀{i ob g},look s.o G i ob g->∃fF g',look (o1++news) (G1++Gs) i fF g'/\(fF.live=true->ob.live=true)/\fF.bV=ob.bV/\fF.n=ob.n/\g'.a=g.a/\g'.cap=g.cap/\fF.dP.length=ob.dP.length/\fF.box=ob.box/\
   (i∉u->g'=g/\fF.live=ob.live):=by
  intro i ob g h;obtain⟨fF,g',h'⟩:=Y0 (N:=N) (u:=u) h;rw[ho1,hG1]at h';have h'':=nO (o2:=news) (G2:=Gs) h';refine⟨fF,g',h'',?_⟩;rw[<-ho1,<-hG1]at h';obtain⟨ob2,g2,h2,hcase⟩:=VH h';obtain⟨rfl,rfl⟩:=lF h h2;rcases hcase with⟨p,hp,rfl,rfl,rfl⟩|⟨Dx,rfl,⟨hiu,rfl⟩|⟨hiu,rfl⟩⟩
  .obtain ⟨b1,b2,b3,_⟩:=aDh hp h;exact⟨λ_=>b1,rfl,rfl,rfl,rfl,b3.symm,rfl,λhn=>absurd (hNu p hp) hn⟩
  .exact ⟨λh=>by simp at h,rfl,rfl,rfl,rfl,rfl,rfl,λhn=>absurd hiu hn⟩
  .exact ⟨λh=>by rw[nT]at h;exact h,Rp _ _,Zp _ _,rfl,rfl,Rs _ _,Rq _ _,λ_=>⟨rfl,nT _ _⟩⟩
 have aKs:∀{i ob g b},look s.o G i ob g->ob.live=true->g.F b->i∉u->¬Of s.o G u b:=by intro i ob g b hl hlive hF hiu hO;obtain⟨j,oj,gj,hj,hlj,hjl,Uv⟩:=hO;exact hiu (rr.apart i j _ _ _ _ b hl hlj hlive hjl hF Uv▸hj)
 have aTb:∀{i ob g b},look s.o G i ob g->ob.live=true->g.F b->i∉u->b∉Ct.flatten++fp:=by
  intro i ob g b hl hlive hF hiu hX;rcases(blk b hX).1 with h|h
  .exact aKs hl hlive hF hiu h
  .have:=(rr.fresh _ _ _ b hl hlive hF).2;omega
 have FY:∀i ob g b,look s.o G i ob g->ob.live=true->g.F b->i∉u->w'.heap[b]? =w.heap[b]?:=λi ob g b hl hlive hF hiu=>
  nZ b (rr.fresh _ _ _ b hl hlive hF).2 (λhm=>aKs hl hlive hF hiu (Oz b hm))
 let Er:Env:={env B s.o G w with D:=λi b=>i∉u/\(env B s.o G w).D i b}
 have rt1:nE (iP u) true (env B s.o G w) Er (λ_=>True):=by
  refine⟨λt e=>by simp[iP]at e,λt e=>by simp only[iP,eC]at e;exact⟨e.symm,λb hb=>hb⟩,λi t e=> ?_,λ_ _ _ _ h=>h,λ_ _ _ _ _ _ h=>h⟩;simp only[iP]at e;split at e
  .cases e
  .rename_i hiu;obtain rfl:=cQ e;refine⟨by simp,?_,λb hb=>⟨hiu,hb⟩⟩;by_cases hV:(env B s.o G w).V i
   .exact .inl hV
   .exact .inr hV
 have k2:eO w Er w' (env B (o1++news) (G1++Gs) w'):=by
  refine⟨λb hb=> ?_,λi h ob wJ=> ?_,λi b hV h=> ?_,λi bV x h=> ?_,λi bV j q x h=> ?_⟩
  .have hb':(env B s.o G w).A b:=hb;have hbl:=wW rr hb';have hnO:¬Of s.o G u b:=λ⟨i,ob,g,_,hl,hlive,hF⟩=>hb'.2 i ob g hl hlive hF
   have hnX:b∉Ct.flatten++fp:=λhX=>by
    rcases(blk b hX).1 with h|h
    .exact hnO h
    .omega
   refine⟨⟨?_,λi fF g' hl hlive hF=> ?_⟩,nZ b hbl (λh=>hnO (Oz b h))⟩
   .rcases hb'.1 with h|h
    .exact .inl h
    .exact .inr ⟨h.1,by omega⟩
   .rcases lk hl with⟨j,_,hl2⟩|⟨_,ob,g,hl0,⟨p,hp,rfl,_,rfl⟩|⟨_,rfl,⟨_,rfl⟩|⟨_,rfl⟩⟩⟩
    .exact hnX (aMd (aMc hl2 hF))
    .obtain ⟨b1,b2,b3,b0,f0,b4,b5,b6,_⟩:=aDh hp hl0;obtain⟨a0,ha0,rfl⟩:=hF;rw[b4]at ha0;obtain rfl:=cQ ha0;exact hb'.2 _ ob g hl0 b1 b5
    .simp at hlive
    .refine hb'.2 i ob g' hl0 ?_ hF;rw[nT]at hlive;exact hlive
  .have hi:i<G.length:=by rw[rr.len];exact(cH.1 wJ).1
   obtain⟨fF,g',hl,h1,_⟩:=kl (i:=i) (ob:=ob) (g:=G[i]) ⟨wJ,aE hi⟩;exact h1 (h fF hl.1)
  .obtain ⟨hiu,ob,g,hl,hlive,hF,hne⟩:=h;obtain⟨fF,g',Cu,_,_,_,_,_,_,_,h7⟩:=kl hl;obtain⟨rfl,h8⟩:=h7 hiu;exact⟨⟨fF,g',Cu,by rw[h8];exact hlive,hF,hne⟩,FY i ob g' b hl hlive hF hiu⟩
  .obtain ⟨ob,g,hl,Ay,hh,hz⟩:=h;obtain⟨fF,g',Cu,h1,h2,h3,h4,h5,h6,_⟩:=kl hl;exact⟨fF,g',Cu,by omega,λhlive UB=>by rw[h4,h5,h6];exact hh (h1 hlive) (by omega),hz⟩
  .obtain ⟨ob,g,hl,Ay,hh,hz⟩:=h;obtain⟨fF,g',Cu,h1,h2,h3,h4,h5,h6,h8,_⟩:=kl hl;exact⟨fF,g',Cu,by omega,λhlive UB=>by rw[h4,h3];exact hh (h1 hlive) (by omega),
    λe e2 e3 e4 y hy=>⟨(hz (by rw[<-h8];exact e) e2 e3 e4 y hy).1,λhlive UB=>by rw[h5];exact(hz (by rw[<-h8];exact e) e2 e3 e4 y hy).2 (h1 hlive) (by omega)⟩⟩
 have tm:Rc w' (env B (o1++news) (G1++Gs) w') (xR (iP u) true s.t) a.tmps.toList []:=
  dU k2 _ _ _ (by simp) (xW rt1 _ _ _ (by simp) rr.tmps)
 have kn:∀E':Env,eO w' mE w' E':=λE'=>⟨λ_ h=>h.elim,λ_ _=>trivial,λ_ _ _ h=>h.elim,λ_ _ _ h=>h.elim,λ_ _ _ _ _ h=>h.elim⟩
 have hfin:=qW (env B (o1++news) (G1++Gs) w') (kn _) (λj ob g hl=>by
  obtain⟨_,_,h3,_⟩:=Cs _ _ _ hl;refine⟨ob,g,?_,CN h3.symm,λ_ _=>rfl,λh=>absurd h (by decide)⟩;have:=pV (o:=o1) (G:=G1) hlG hl
  rwa[hl1]at this)
 obtain⟨IJ,jO⟩:=hfin;have rel:eB B ⟨xR (iP u) true s.t,o1++news⟩ (G1++Gs) a w':=by
  refine {len:=by simp[hlG,hlen],defs:=rr.defs,ok:= ?_,apart:= ?_,fresh:= ?_,tmps:=tm,size:=kO rr.size hsz,frame:= ?_,base:=rr.base,same:=rr.same.trans FO}
  .intro i fF g' hl hlive;rcases lk hl with⟨j,_,hl2⟩|⟨_,ob,g,hl0,⟨p,hp,rfl,rfl,rfl⟩|⟨_,rfl,⟨_,rfl⟩|⟨hiu,rfl⟩⟩⟩
   .obtain ⟨h1,h2,_,f',hown,h3,h4,h5⟩:=Cs _ _ _ hl2;refine⟨f',?_,h3,λb hb=>(h4 b).2 hb⟩;rw[h2];exact hown.keeps (kn _).plain (λ_ _=>rfl)
   .obtain ⟨b1,b2,b3,b0,f0,b4,b5,b6,_⟩:=aDh hp hl0;have:=IJ p hp ob g b0 f0 hl0 b4;refine⟨[b0],?_,by simp,?_⟩
    .simp only[b2,Env.of,gC];exact this
    .intro b hb;simp only[rI]at hb;subst hb;exact⟨_,b4,rfl⟩
   .simp at hlive
   .rw [nT]at hlive;obtain⟨fpo,hown,JE,Qz⟩:=rr.ok i ob g' hl0 hlive;by_cases IJ:ob.box=true
    .simp only[IJ,Env.of,gC]at hown;obtain⟨hlen,hown⟩:=hown;by_cases hall:Dn ob.dP=true
     .have hfo:ob.forget u=ob:=by unfold aM.forget;simp[IJ,hall]
      rw[hfo];refine⟨fpo,?_,JE,Qz⟩;simp only[IJ,Env.of,gC];refine⟨hlen,?_⟩;rcases hown with h|⟨b,off,C,e,fz,aDd,ha,hb,hz,h1,h2,h3,rfl,su⟩
      .exact .inl h
      .have hbs:=FY i ob g' b hl0 hlive (Qz b (by simp)) hiu;exact .inr ⟨b,off,C,e,fz,aDd,ha,by rw[hbs];exact hb,hz,h1,h2,h3,rfl,mZ k2 _ _ _ _ _ hbs (λx hx=>FY i ob g' x hl0 hlive (Qz x (by simp[hx])) hiu) (aC6 hall su)⟩
     .have hfo:ob.forget u={ob with dP:=mX (iP u) true ob.dP}:=by unfold aM.forget;rw[eK IJ,cX hall]
      rw[hfo];rcases hown with⟨h1,h2,h3⟩|⟨b,off,C,e,fz,aDd,ha,hb,hz,h1,h2,h3,rfl,su⟩
      .exact ⟨[],⟨by simp[mD];exact hlen,.inl ⟨by simp[h1,mX],h2,rfl⟩⟩,by simp,by simp⟩
      .have Vy:=Qz b (by simp);have hbs:=FY i ob g' b hl0 hlive Vy hiu;refine⟨[b],⟨by simp[mD];exact hlen,.inr ⟨b,off,C,e,fz,[],ha,by rw[hbs];exact hb,hz,h1,by simpa [mD]using h2,h3,rfl,?_⟩⟩,by simp,by simpa using Vy⟩;simp only[IJ,Env.of,gC];exact mZ k2 _ _ _ _ _ hbs (by simp) (II rt1 _ _ _ _ _ (by simp) su)
    .have aDe:ob.box=false:=by simpa using IJ
     have hfo:ob.forget u=ob:=by unfold aM.forget;simp[aDe]
     rw[hfo];refine⟨fpo,?_,JE,Qz⟩;simp only[aDe,Env.of,eS,gS]at hown⊢;have kp:eO w (env B s.o G w).plain w' (env B (o1++news) (G1++Gs) w').plain:=k2.plain;exact hown.keeps kp (λb hb=>FY i ob g' b hl0 hlive (Qz b hb) hiu)
  .-- every object its own blocks
   have cls:∀{i fF g' b},look (o1++news) (G1++Gs) i fF g'->fF.live=true->g'.F b->(∃j,i=s.o.length+j/\look news Gs j fF g'/\b∈inner++fp)\/
     (i<s.o.length/\∃ob g,look s.o G i ob g/\ob.live=true/\g.F b/\((b∈Ct.flatten/\b∉inner)\/b∉Ct.flatten++fp)):=by
    intro i fF g' b hl hlive hF;rcases lk hl with⟨j,hj,hl2⟩|⟨hi,ob,g,hl0,⟨p,hp,rfl,rfl,rfl⟩|⟨_,rfl,⟨_,rfl⟩|⟨hiu,rfl⟩⟩⟩
    .exact .inl ⟨j,hj,hl2,aMc hl2 hF⟩
    .obtain ⟨b1,b2,b3,b0,f0,b4,b5,b6,b7⟩:=aDh hp hl0;obtain⟨a0,ha0,rfl⟩:=hF;rw[b4]at ha0;obtain rfl:=cQ ha0;exact .inr ⟨hi,ob,g,hl0,b1,b5,.inl ⟨b6,b7⟩⟩
    .simp at hlive
    .rw [nT]at hlive;exact .inr ⟨hi,ob,g',hl0,hlive,hF,.inr (aTb hl0 hlive hF hiu)⟩
   have mixed:∀{b},b∈inner++fp->((b∈Ct.flatten/\b∉inner)\/b∉Ct.flatten++fp)->False:=by
    rintro b hb (⟨h1,h2⟩|h)
    .rcases fL.1 hb with h|h
     .exact h2 h
     .exact Xn.2.2 b h1 b h rfl
    .exact h (aMd hb)
   intro i j oi oj gi gj b hi hj hil hjl Fp MV;rcases cls hi hil Fp with⟨i',rfl,hi',hbi⟩|⟨aL9,ob1,g1,hl1,aTc,hF1,hc1⟩<;>rcases cls hj hjl MV with⟨j',rfl,V7,hbj⟩|⟨aL8,ob2,g2,hl2,aTd,X5,YW⟩
   .rw [hap _ _ _ _ _ _ b hi' V7 Fp MV]
   .exact (mixed hbi YW).elim
   .exact (mixed hbj hc1).elim
   .exact rr.apart _ _ _ _ _ _ b hl1 hl2 aTc aTd hF1 X5
  .intro i fF g' b hl hlive hF;have ofX:b∈Ct.flatten++fp->(B.O0 b\/B.w0.heap.size<=b)/\b<w'.heap.size:=λhX=>by
    obtain⟨h1,h2⟩:=blk b hX;refine⟨?_,h2⟩;rcases h1 with⟨j,oj,gj,_,hlj,hjl,Uv⟩|h
    .exact (rr.fresh _ _ _ b hlj hjl Uv).1
    .exact .inr (kO rr.size h)
   rcases lk hl with⟨j,hj,hl2⟩|⟨hi,ob,g,hl0,⟨p,hp,rfl,rfl,rfl⟩|⟨_,rfl,⟨_,rfl⟩|⟨hiu,rfl⟩⟩⟩
   .exact ofX (aMd (aMc hl2 hF))
   .obtain ⟨b1,b2,b3,b0,f0,b4,b5,b6,b7⟩:=aDh hp hl0;obtain⟨a0,ha0,rfl⟩:=hF;rw[b4]at ha0;obtain rfl:=cQ ha0;exact ofX (nB _ b6)
   .simp at hlive
   .rw [nT]at hlive;have:=rr.fresh _ _ _ b hl0 hlive hF;exact⟨this.1,by omega⟩
  .intro b hb hO;rw[<-rr.frame b hb hO];refine nZ b (oX hb rr.size) (λhm=> ?_);obtain⟨j,oj,gj,_,hlj,hjl,Uv⟩:=Oz b hm;rcases(rr.fresh _ _ _ b hlj hjl Uv).1 with h|h
   .exact hO h
   .omega
 exact⟨_,rel.put dst jO⟩
mutual
def KE(i bV:Nat)(y:AV):AV->AV
 | .obj j v=>if j=i/\v=bV then y else .obj j v
 | .agg c=> .agg (Xu i bV y c)
 | .gT c=> .gT (Xu i bV y c)
 |x=>x
def Xu(i bV:Nat)(y:AV):List AV->List AV
 |[]=>[]
 |x::xs=>KE i bV y x::Xu i bV y xs
end
def Xv(i bV:Nat)(y:AV):List (List AV)->List (List AV)
 |[]=>[]
 |e::es=>Xu i bV y e::Xv i bV y es
theorem Cz(i bV:Nat)(y:AV):∀l,(Xv i bV y l).length=l.length
 |[]=>rfl
 |_::l=>by simp[Xv,Cz i bV y l]
def aM.KE(i bV:Nat)(y:AV)(ob:aM):aM:=if ob.box=true then {ob with dP:=Xv i bV y ob.dP}else ob
def UL(i bV:Nat)(y:AV):Nat->List aM->List aM
 |_,[]=>[]
 |k,ob::r=>(if k=i then ob.kill else ob.KE i bV y)::UL i bV y (k+1) r
theorem Ry(i bV:Nat)(y:AV):∀(o:List aM) (k j:Nat),(UL i bV y k o)[j]? =(o[j]?).map λob=>if k+j=i then ob.kill else ob.KE i bV y
 |[],_,_=>by simp[UL]
 |ob::r,k,0=>by simp[UL]
 |ob::r,k,j+1=>by simp only[UL,wA];rw[Ry i bV y r (k+1) j,show k+1+j=k+(j+1)by omega]
theorem OC(i bV:Nat)(y:AV):∀(o:List aM) (k:Nat),(UL i bV y k o).length=o.length
 |[],_=>rfl
 |ob::r,k=>by simp[UL,OC i bV y r]
def AS.frozen(s:AS)(i bV:Nat)(ob:aM):AS:=
 ⟨Xu i bV (.sl .view ob.n (mX (λ_=>some .view) false ob.dP)) s.t,UL i bV (.sl .view ob.n (mX (λ_=>some .view) false ob.dP)) 0 s.o⟩
mutual
theorem aP4{w:World}{E E':Env}{i bV:Nat}{y:AV}(k:eO w E w E')(hy:∀v,E.H i bV v->R w E' y v []):∀(x:AV) (v:Value) (fp:List Nat),R w E x v fp->R w E' (KE i bV y x) v fp
 | .obj j u,v,fp,h=>by
  simp only[KE];split
  .rename_i e;obtain⟨rfl,rfl⟩:=e;simp only[R]at h;obtain⟨rfl,h⟩:=h;exact hy v h
  .exact qB k _ _ _ (λ_ _=>rfl) h
 | .agg c,v,fp,h=>by simp only[R,KE]at h⊢;obtain⟨cs,h1,h2,h3⟩:=h;exact⟨cs,h1,h2,Rz k hy c cs fp h3⟩
 | .gT c,v,fp,h=>by simp only[R,KE]at h⊢;obtain⟨cs,h1,h3⟩:=h;exact⟨cs,h1,Rz k hy c cs fp h3⟩
 | .int _ _,v,fp,h=>by simp only[KE];exact qB k _ _ _ (λ_ _=>rfl) h
 | .bool _,v,fp,h=>by simp only[KE];exact qB k _ _ _ (λ_ _=>rfl) h
 | .str _,v,fp,h=>by simp only[KE];exact qB k _ _ _ (λ_ _=>rfl) h
 | .sl _ _ _,v,fp,h=>by simp only[KE];exact qB k _ _ _ (λ_ _=>rfl) h
 | .eQ _ _ _,v,fp,h=>by simp only[KE];exact qB k _ _ _ (λ_ _=>rfl) h
 | .ptr _ _ _ _,v,fp,h=>by simp only[KE];exact qB k _ _ _ (λ_ _=>rfl) h
 | .fn _ _,v,fp,h=>by simp only[KE];exact qB k _ _ _ (λ_ _=>rfl) h
 | .undef,v,fp,h=>by simp only[KE];exact qB k _ _ _ (λ_ _=>rfl) h
theorem Rz{w:World}{E E':Env}{i bV:Nat}{y:AV}(k:eO w E w E')(hy:∀v,E.H i bV v->R w E' y v []):∀(c:List AV) (cs:List Value) (fp:List Nat),Rc w E c cs fp->Rc w E' (Xu i bV y c) cs fp
 |[],[],_,h=>by simpa [Rc,Xu]using h
 |[],_::_,_,h=>by simp[Rc]at h
 |_::_,[],_,h=>by simp[Rc]at h
 |x::xs,c::cs,fp,h=>by simp only[Rc,Xu]at h⊢;obtain⟨f1,f2,h1,h2,h3⟩:=h;exact⟨f1,f2,aP4 k hy x c f1 h1,Rz k hy xs cs f2 h2,h3⟩
end
theorem aDi{w:World}{E E':Env}{i bV:Nat}{y:AV}(k:eO w E w E')(hy:∀v,E.H i bV v->R w E' y v []):∀(l:List (List AV)) (b off n:Nat) (fp:List Nat),Rr w E l b off n fp->Rr w E' (Xv i bV y l) b off n fp
 |[],_,_,_,_,h=>by simpa [Rr,Xv]using h
 |e::es,b,off,n,fp,h=>by simp only[Rr,Xv]at h⊢;obtain⟨cs,f1,f2,h1,h2,h3,h4,h5,h6⟩:=h;exact⟨cs,f1,f2,h1,h2,h3,Rz k hy e cs f1 h4,aDi k hy es b (off+n) n f2 h5,h6⟩
theorem aIi{P:Program}[aC P]{B:gM P}{s:AS}{a:Act}{w:World}{i bV:Nat}{ob:aM}(wJ:AV.isObj s.o i bV=some ob)(vT:ob.box=false)(hr:Rel B s a w):Rel B (s.frozen i bV ob) a w:=by
 obtain⟨G,r⟩:=hr;obtain⟨h1,h2,h3⟩:=kY wJ;generalize hyy:AV.sl .view ob.n (mX (λ_=>some .view) false ob.dP)=y;generalize ho':UL i bV y 0 s.o=o';have back:∀{j fF g},look o' G j fF g->∃zB,look s.o G j zB g/\((j=i/\fF=zB.kill)\/(j≠i/\fF=zB.KE i bV y)):=by
  rintro j fF g ⟨e1,e2⟩;rw[<-ho',Ry,hM]at e1;cases hx:s.o[j]? with
  |none=>rw[hx]at e1;cases e1
  |some zB=>
   rw[hx]at e1;simp only[mS,eC]at e1;refine⟨zB,⟨hx,e2⟩,?_⟩;by_cases hj:j=i
   .rw [eK hj]at e1;exact .inl ⟨hj,e1.symm⟩
   .rw [cX hj]at e1;exact .inr ⟨hj,e1.symm⟩
 have VI:∀{j zB g},look s.o G j zB g->look o' G j (if j=i then zB.kill else zB.KE i bV y) g:=by rintro j zB g ⟨e1,e2⟩;refine⟨?_,e2⟩;rw[<-ho',Ry,hM,e1];rfl
 have fz:∀zB:aM,(zB.KE i bV y).live=zB.live/\(zB.KE i bV y).box=zB.box/\(zB.KE i bV y).n=zB.n/\(zB.KE i bV y).bV=zB.bV/\(zB.KE i bV y).dP.length=zB.dP.length:=by intro zB;unfold aM.KE;split<;>simp[Cz]
 have k:eO w (env B s.o G w) w (env B o' G w):=by
  refine Dy (eE _) (λb hb=>⟨wW r hb,rfl⟩) r.len ?_ ?_
  .intro j zB g hl;have hf:=fz zB;by_cases hj:j=i
   .refine ⟨_,g,VI hl,?_⟩;rw[eK hj];refine⟨eE _,λhb=> .inl hb,λKV=> ?_⟩;simp[aM.kill]at KV
   .refine ⟨_,g,VI hl,?_⟩;rw[cX hj];exact⟨by rw[hf.2.2.2.1];exact eE _,λhb=> .inl (by rw[<-hf.2.1];exact hb),λKV=>⟨by rw[<-hf.1];exact KV,hf.2.2.1,λ_=>⟨rfl,rfl,hf.2.2.2.2⟩,λb hb hne=>⟨hb,hne,rfl⟩⟩⟩
  .intro j fF g b hl KV hF;obtain⟨zB,hl0,h⟩:=back hl;rcases h with⟨_,rfl⟩|⟨_,rfl⟩
   .simp [aM.kill]at KV
   .exact .inr ⟨j,zB,g,hl0,by rw[<-(fz zB).1];exact KV,hF⟩
 have hy:∀v,(env B s.o G w).H i bV v->R w (env B o' G w) y v []:=by
  intro v hv;obtain⟨ob1,g,hl,_,hh,_⟩:=hv;obtain rfl:=cQ (hl.1.symm.trans h1);have hv:=hh h2 h3;obtain⟨fp,⟨hlen,hown⟩,hnd,hF⟩:=r.ok i _ g hl h2;rw[vT]at hown;rw[<-hyy];simp only[R,mD];refine .inr ⟨g.a,g.cap,hv,⟨hlen,by rcases hown with h|⟨_,_,_,_,_,_,_,_,_,_,h,_⟩;simp[h.1];exact h⟩,.inr (.inr ⟨by simp,trivial,?_⟩)⟩;rcases hown with⟨h5,_⟩|⟨b,off,C,e,Uy,rE,ha,hbk,hz,k1,k2,k3,rfl,Xj⟩
  .left;rw[h5];rfl
  .right;have hA:∀x,g.F x->(env B o' G w).A x:=by
    intro x hx;have hfr:=r.fresh _ _ _ x hl h2 hx;refine⟨hfr.1.elim (λh=> .inl (B.gA x h)) (λh=> .inr ⟨h,hfr.2⟩),λj fF g' Cu KV hF'=> ?_⟩;obtain⟨zB,hl0,h⟩:=back Cu;rcases h with⟨_,rfl⟩|⟨hj,rfl⟩
    .simp [aM.kill]at KV
    .exact hj (r.apart j i _ _ _ _ x hl0 hl (by rw[<-(fz zB).1];exact KV) h2 hF' hx)
   have rt:nE (λ_=>some .view) false (env B s.o G w).plain (env B o' G w).plain g.F:=
    {own:=λt e=>by obtain rfl:=cQ e;exact⟨by simp,λb hb=>hA b hb⟩
     view:=λt e=>by obtain rfl:=cQ e;exact⟨rfl,λb hb=>(k.a b hb).1⟩
     jZ:=λj t e=>by obtain rfl:=cQ e;exact⟨by simp,.inl trivial,λb hb=>hb.elim⟩
     hh:=λh=>by cases h
     hl:=λh=>by cases h}
   exact⟨b,off,ha,hA b (hF b (by simp)),II rt _ _ _ _ rE (λx hx=>hF x (by simp[hx])) Xj⟩
 refine⟨G,{len:= ?_,defs:=r.defs,ok:= ?_,apart:= ?_,fresh:= ?_,tmps:= ?_,size:=r.size,frame:=r.frame,base:=r.base,same:=r.same}⟩
 .simp only[AS.frozen,OC];exact r.len
 .simp only[AS.frozen,hyy,ho'];intro j fF g hl KV;obtain⟨zB,hl0,h⟩:=back hl;rcases h with⟨_,rfl⟩|⟨hj,rfl⟩
  .simp [aM.kill]at KV
  obtain⟨fp,hown,hnd,hF⟩:=r.ok j _ g hl0 (by rw[<-(fz zB).1];exact KV);refine⟨fp,?_,hnd,hF⟩;cases hb0:zB.box with
  |false=>
   have e:zB.KE i bV y=zB:=by unfold aM.KE;rw[cX (by simp[hb0])]
   rw[e];rw[hb0]at hown⊢;exact hown.keeps k.plain (λ_ _=>rfl)
  |true=>
   have e:zB.KE i bV y={zB with dP:=Xv i bV y zB.dP}:=by unfold aM.KE;rw[eK hb0]
   rw[e];simp only[hb0]at hown⊢;simp only[Env.of,gC]at hown⊢;obtain⟨hlen,hown⟩:=hown;refine⟨by rw[Cz];exact hlen,?_⟩;rcases hown with h|⟨b,off,C,e,Uy,rE,ha,hbk,hz,k1,k2,k3,rfl,Xj⟩
   .exact .inl ⟨by rw[h.1];rfl,h.2⟩
   .exact .inr ⟨b,off,C,e,Uy,rE,ha,hbk,hz,k1,by rw[Cz];exact k2,k3,rfl,aDi k hy _ _ _ _ _ Xj⟩
 .simp only[AS.frozen,hyy,ho'];intro p q op oq gp gq b hp hq hlp hlq hFp hFq;obtain⟨op0,hp0,h⟩:=back hp;obtain⟨oq0,hq0,h'⟩:=back hq;rcases h with⟨_,rfl⟩|⟨_,rfl⟩
  .simp [aM.kill]at hlp
  rcases h' with⟨_,rfl⟩|⟨_,rfl⟩
  .simp [aM.kill]at hlq
  exact r.apart p q _ _ _ _ b hp0 hq0 (by rw[<-(fz op0).1];exact hlp) (by rw[<-(fz oq0).1];exact hlq) hFp hFq
 .simp only[AS.frozen,hyy,ho'];intro j fF g b hl KV hF;obtain⟨zB,hl0,h⟩:=back hl;rcases h with⟨_,rfl⟩|⟨_,rfl⟩
  .simp [aM.kill]at KV
  exact r.fresh j _ g b hl0 (by rw[<-(fz zB).1];exact KV) hF
 .simp only[AS.frozen,hyy,ho'];exact Rz k hy _ _ _ r.tmps
def aMe(P:Program)[aC P](o:Oper)(s:AS)(K:AS->Prop):Prop:=
 match o.op with
 | .slice _ x _ _ none=>match s.ev x with
  | .obj i bV=>match AV.isObj s.o i bV with
   |some ob=>ob.box=false/\sD P o (s.frozen i bV ob) K
   |none=>False
  |_=>False
 |_=>False
attribute [simp] KE Xu Xv UL aM.KE AS.frozen
mutual
def vB:AV->Bool
 | .int _ _=>true
 | .bool _=>true
 | .str _=>true
 | .agg c=>JI c
 |_=>false
def JI:List AV->Bool
 |[]=>true
 |x::xs=>vB x&&JI xs
end
mutual
theorem Y7{w w':World}{E E':Env}:∀(x:AV) (v:Value) (fp:List Nat),vB x=true->R w E x v fp->R w' E' x v fp
 | .int _ _,_,_,_,h=>by simpa [R]using h
 | .bool _,_,_,_,h=>by simpa [R]using h
 | .str _,_,_,_,h=>by simpa [R]using h
 | .agg c,v,fp,hc,h=>by simp only[R]at h⊢;obtain⟨cs,h1,h2,h3⟩:=h;exact⟨cs,h1,h2,JJ c cs fp (by simpa [vB]using hc) h3⟩
 | .sl _ _ _,_,_,hc,_=>by simp[vB]at hc
 | .eQ _ _ _,_,_,hc,_=>by simp[vB]at hc
 | .obj _ _,_,_,hc,_=>by simp[vB]at hc
 | .ptr _ _ _ _,_,_,hc,_=>by simp[vB]at hc
 | .gT _,_,_,hc,_=>by simp[vB]at hc
 | .fn _ _,_,_,hc,_=>by simp[vB]at hc
 | .undef,_,_,hc,_=>by simp[vB]at hc
theorem JJ{w w':World}{E E':Env}:∀(c:List AV) (cs:List Value) (fp:List Nat),JI c=true->Rc w E c cs fp->Rc w' E' c cs fp
 |[],[],_,_,h=>by simpa [Rc]using h
 |[],_::_,_,_,h=>by simp[Rc]at h
 |_::_,[],_,_,h=>by simp[Rc]at h
 |x::xs,c::cs,fp,hc,h=>by simp only[JI,eJ]at hc;simp only[Rc]at h⊢;obtain⟨f1,f2,h1,h2,h3⟩:=h;exact⟨f1,f2,Y7 x c f1 hc.1 h1,JJ xs cs f2 hc.2 h2,h3⟩
end
def aMf(code:List UInt8)(i h:Int):List AV:=[.sl .view 1 (dM code),.int .i64 i,.int .i64 h]
def AS.drew(s:AS)(dst:Option Tmp)(k bV:Nat)(code:List UInt8)(i h:Int)(r:AV):AS:=AS.called ⟨s.t,s.o.set k ⟨true,true,3,bV,[aMf code i h]⟩⟩ dst r
def aIj(P:Program)[aC P](o:Oper)(s:AS)(K:AS->Prop):Prop:=False
theorem ui{P:Program}[aC P]{B:gM P}{o:Oper}{s:AS}{K:AS->Prop}(h:aIj P o s K)(a:Act)(w:World)(next:Act->World->Prop)(X:Exit->Act->World->Prop)(hr:Rel B s a w)
  (hn:∀a' w' s',K s'->Rel B s' a' w'->next a' w'):o.wp P a w next X:=False.elim h
end
end Go.Aw
