/- Proved here: steps towards the statement of this claim. No condition. -/
import Derived.Test.YtjkdolejalpflaaGreatDoorZF2
set_option linter.all false
namespace Go.Aw
open List
def rowOf(o:List aD)(i:Nat):List AV:=match o[i]? with
 |some ob=>ob.dY.headD []
 |none=>[]
def Oe(o:List aD):AV->List Nat
 | .ptr i _ _ _=>i::jB (rowOf o i)
 |_=>[]
def takes(o:List aD):List AV->List GA->List Nat
 |x::xs,.view _::gs=>takes o xs gs
 |x::xs,.oN _::gs=>iB x++takes o xs gs
 |x::xs,.sW _ _::gs=>Oe o x++takes o xs gs
 |_,_=>[]
def yz(o:List aD)(c:List AV):AV->Prop
 | .ptr i ver 0 0=>∃ob,AV.isObj o i ver=some ob/\ob.box=true/\∃cells,ob.dY=[cells]/\lZ o cells=true/\qE o cells=c
 |_=>False
def handed(o:List aD)(u:List Nat):List AV->List GA->Prop
 |[],[]=>True
 |x::xs,.view y::gs=>KQ u x=true/\arg o x=y/\handed o u xs gs
 |x::xs,.oN y::gs=>gG o x=true/\res o x=y/\handed o u xs gs
 |x::xs,.sW c _::gs=>yz o c x/\handed o u xs gs
 |_,_=>False
def UX(o:List aD)(G:List CO)(c:List AV)(v:Value)(cap:Nat):AV->Prop
 | .ptr i _ _ _=>∃ob g b f,look o G i ob g/\ob.live=true/\ob.box=true/\ob.n=c.length/\ob.dY.length=1/\g.a=some ⟨b,f,none⟩/\v= .pointer (some ⟨b,f,none⟩)/\g.F b/\g.cap=cap
 |_=>False
def mP(o:List aD)(G:List CO):List AV->List GA->List Value->List Nat->Prop
 |[],[],[],[]=>True
 |x::xs,.sW c _::gs,v::vs,cap::gN=>UX o G c v cap x/\mP o G xs gs vs gN
 |x::xs,.view _::gs,v::vs,cap::gN=>mP o G xs gs vs gN
 |x::xs,.oN _::gs,v::vs,cap::gN=>mP o G xs gs vs gN
 |_,_,_,_=>False
section
variable{P:Program}[aB P]{B:eP P}{s:AS}{G:List CO}{a:Act}{w:World}
theorem Fv(r:bU B s G a w){u1 u2:List Nat}(hd:∀i∈u1,∀j∈u2,i≠j){b:Nat}(h1:Of s.o G u1 b)(h2:Of s.o G u2 b):False:=by obtain⟨i,ob,g,hi,hl,hlive,hF⟩:=h1;obtain⟨j,dH,g',hj,xY,sQ,yh⟩:=h2;exact hd i hi j hj (r.apart i j _ _ _ _ b hl xY hlive sQ hF yh)
theorem yC{o:List aD}{u1 u2:List Nat}(h:∀i∈u1,i∈u2){b:Nat}(h1:Of o G u1 b):Of o G u2 b:=by obtain⟨i,ob,g,hi,k⟩:=h1;exact⟨i,ob,g,h i hi,k⟩
theorem Og(r:bU B s G a w){Z:Nat->Prop}{U:List Nat}(hZ:∀b,Z b->Of s.o G U b):bR w (env B s.o G w).plain w (oM w Z):=
 ⟨λb hb=>⟨RY r hZ hb,rfl⟩,λ_ _=>trivial,λ_ _ _ h=>h.elim,λ_ _ _ h=>h.elim,λ_ _ _ _ _ h=>h.elim⟩
theorem UY(r:bU B s G a w){c:List AV}{x:AV}{v:Value}(h:yz s.o c x)(hx:R w (env B s.o G w) x v [])
  {us:List Nat} (yw:Oe s.o x=us) (hnd:us.Nodup):
  ∃fp cap,fp.Nodup/\(∀b∈fp,Of s.o G us b)/\UX s.o G c v cap x/\∀c' Z U,(∀b,Z b->Of s.o G U b)->RG w Z (.sW c c') v fp cap:=by
 unfold yz at h;split at h
 .rename_i i ver;obtain⟨ob,qX,rV,cells,aAe,qD,mD⟩:=h;obtain⟨h1,h2,h3⟩:=iG qX;simp only[R]at hx;obtain⟨_,dH,g,hl,_,hh,_⟩:=hx;obtain rfl:=cD (hl.1.symm.trans h1);obtain⟨b,f,hga,hv⟩:=hh h2 h3;have ZV:rowOf s.o i=cells:=by simp[rowOf,h1,aAe]
  simp only[Oe,ZV]at yw;subst yw;simp only[hY]at hnd;obtain⟨Jr,⟨hlen,hown⟩,Em,JV⟩:=r.ok i _ g hl h2;rw[aAe]at hown;simp only[rV,Env.of,eI]at hown;rcases hown with⟨h5,_⟩|⟨b',f',C,ty,fz,nA,uB,hbk,hz,k1,k2,k3,rfl,hr⟩
  .cases h5
  .rw [hga]at uB;simp only[cQ,lA,mN]at uB;obtain⟨rfl,rfl⟩:=uB;simp only[Rr]at hr;obtain⟨cs,f1,f2,hn,hc,hone,rF,rfl,e⟩:=hr;have e:nA=f1:=by simpa using e
   subst e;simp only[hY]at Em;obtain⟨xU,q1,q2,q3⟩:=Fu r hl h2 cells cs nA qD hnd.2 hnd.1 Em.2 (λx hx=>JV x (by simp[hx])) rF;have zO:g.F b:=JV b (by simp);have yl:b∉xU:=λhb=>by
    rcases q3 b hb with h|h
    .exact Em.1 h
    .obtain ⟨j,oj,gj,hj,hlj,hjl,Ir⟩:=h;have:=r.apart i j _ _ _ _ b hl hlj h2 hjl zO Ir;exact hnd.1 (this▸hj)
   have Ip:cells.length=dH.n:=by have:=eG rF;omega
   have MX:c.length=dH.n:=by rw[<-mD,<-Ip];clear q1 qD mD;induction cells with
    |nil=>rfl
    |cons _ _ _=>simp[qE,BL]
   refine⟨b::xU,g.cap,hY.2 ⟨yl,q2⟩,?_,?_,?_⟩
   .intro x hx;rcases lE.1 hx with rfl|hx
    .exact ⟨i,dH,g,by simp,hl,h2,zO⟩
    .rcases q3 x hx with h|h
     .exact ⟨i,dH,g,by simp,hl,h2,JV x (by simp[h])⟩
     .exact yC (λj hj=>by simp[hj]) h
   .exact ⟨dH,g,b,f,hl,h2,rV,MX.symm,by rw[aAe];rfl,hga,by simpa using hv,zO,rfl⟩
   .intro c' Z U hZ;simp only[RG];refine⟨b,f,by simpa using hv,by simp[maxLen],.inr ⟨b,f,C,ty,fz,xU,rfl,hbk,by rw[MX];exact hz,by rw[MX];exact k1,by simpa using k2,k3,rfl,?_⟩⟩;simp only[Rr];refine⟨cs,xU,[],by rw[MX];exact hn,hc,hone,?_,rfl,by simp⟩;rw[<-mD];exact dC (Og r hZ) _ _ _ (λ_ _=>rfl) q1
 .exact h.elim
theorem wG(r:bU B s G a w){U:List Nat}:∀(xs:List AV) (gs:List GA) (vs:List Value),handed s.o U xs gs->(takes s.o xs gs).Nodup->(∀i∈takes s.o xs gs,i∈U)->Rc w (env B s.o G w) xs vs []->
  ∃pO gN,pO.flatten.Nodup/\(∀b∈pO.flatten,Of s.o G (takes s.o xs gs) b)/\mP s.o G xs gs vs gN/\∀Z,(∀b,Z b->Of s.o G U b)->Av w Z gs vs pO gN
 |[],[],[],_,_,_,_=>⟨[],[],by simp,by simp,by simp[mP],λ_ _=>by simp[Av]⟩
 |[],[],_::_,_,_,_,h=>by simp[Rc]at h
 |[],_::_,_,h,_,_,_=>by simp[handed]at h
 |_::_,[],_,h,_,_,_=>by simp[handed]at h
 |_::_,_::_,[],_,_,_,h=>by simp[Rc]at h
 |x::xs,.view y::gs,v::vs,h,hn,hu,hr=>by
  simp only[handed]at h;obtain⟨h1,h2,h3⟩:=h;simp only[Rc]at hr;obtain⟨f1,f2,hr1,hr2,e⟩:=hr;obtain⟨rfl,rfl⟩:f1=[]/\f2=[]:=by simpa using e
  simp only[takes]at hn hu⊢;obtain⟨pO,gN,q1,q2,q3,q4⟩:=wG r xs gs vs h3 hn hu hr2;refine⟨[]::pO,0::gN,by simpa using q1,by simpa using q2,by simpa [mP]using q3,λZ hZ=> ?_⟩;simp only[Av,RG];refine⟨⟨trivial,?_⟩,q4 Z hZ⟩;rw[<-h2];exact ZU r hZ x v h1 hr1
 |x::xs,.oN y::gs,v::vs,h,hn,hu,hr=>by
  simp only[handed]at h;obtain⟨h1,h2,h3⟩:=h;simp only[Rc]at hr;obtain⟨f1,f2,hr1,hr2,e⟩:=hr;obtain⟨rfl,rfl⟩:f1=[]/\f2=[]:=by simpa using e
  simp only[takes,fY]at hn hu⊢;obtain⟨pO,gN,q1,q2,q3,q4⟩:=wG r xs gs vs h3 hn.2.1 (λi hi=>hu i (by simp[hi])) hr2;obtain⟨fp,p1,p2,p3⟩:=Bp r x v h1 hn.1 hr1;refine⟨fp::pO,0::gN,?_,?_,by simpa [mP]using q3,λZ hZ=> ?_⟩
  .simp only[oY,fY];refine⟨p2,q1,λb hb b' hb' e=> ?_⟩;subst e;exact Fv r (λi hi j hj=>hn.2.2 i hi j hj) (p3 b hb) (q2 b hb')
  .intro b hb;simp only[oY,fR]at hb;rcases hb with hb|hb
   .exact yC (λi hi=>by simp[hi]) (p3 b hb)
   .exact yC (λi hi=>by simp[hi]) (q2 b hb)
  .simp only[Av,RG];refine⟨?_,q4 Z hZ⟩;rw[<-h2];exact jS (Og r hZ) _ _ _ (λ_ _=>rfl) p1
 |x::xs,.sW c c'::gs,v::vs,h,hn,hu,hr=>by
  simp only[handed]at h;obtain⟨h1,h3⟩:=h;simp only[Rc]at hr;obtain⟨f1,f2,hr1,hr2,e⟩:=hr;obtain⟨rfl,rfl⟩:f1=[]/\f2=[]:=by simpa using e
  simp only[takes]at hn hu⊢;generalize yw:Oe s.o x=us at hn hu⊢;simp only[fY]at hn;obtain⟨pO,gN,q1,q2,q3,q4⟩:=wG r xs gs vs h3 hn.2.1 (λi hi=>hu i (by simp[hi])) hr2;obtain⟨fp,cap,p1,p2,p3,p4⟩:=UY r h1 hr1 yw hn.1;refine⟨fp::pO,cap::gN,?_,?_,by simp only[mP];exact⟨p3,q3⟩,λZ hZ=> ?_⟩
  .simp only[oY,fY];refine⟨p1,q1,λb hb b' hb' e=> ?_⟩;subst e;exact Fv r (λi hi j hj=>hn.2.2 i hi j hj) (p2 b hb) (q2 b hb')
  .intro b hb;simp only[oY,fR]at hb;rcases hb with hb|hb
   .exact yC (λi hi=>by simp[hi]) (p2 b hb)
   .exact yC (λi hi=>by simp[hi]) (q2 b hb)
  .simp only[Av];exact⟨p4 c' Z U hZ,q4 Z hZ⟩
end
def Ep:Nat->List GA->List aD
 |_,[]=>[]
 |k,.sW _ c'::gs=>(dM 1 k c').2++Ep (k+(dM 1 k c').2.length) gs
 |k,.view _::gs=>Ep k gs
 |k,.oN _::gs=>Ep k gs
def zD:Nat->List AV->List GA->List (Nat×List (List AV))
 |k,x::xs,.sW _ c'::gs=>(match x with
  | .ptr i _ _ _=>[(i,[(dM 1 k c').1])]
  |_=>[])++zD (k+(dM 1 k c').2.length) xs gs
 |k,_::xs,.view _::gs=>zD k xs gs
 |k,_::xs,.oN _::gs=>zD k xs gs
 |_,_,_=>[]
def aD.WM(ob:aD)(N:List (Nat×List (List AV)))(u:List Nat)(i:Nat):aD:=
 match N.find? (λp=>p.1 == i)with
 |some p=>{ob with dY:=p.2}
 |none=>if u.contains i=true then {ob with live:=false}else ob.forget u
def Bq(N:List (Nat×List (List AV)))(u:List Nat):Nat->List aD->List aD
 |_,[]=>[]
 |i,ob::r=>ob.WM N u i::Bq N u (i+1) r
theorem Oh(N:List (Nat×List (List AV)))(u:List Nat):∀(o:List aD) (k i:Nat),(Bq N u k o)[i]? =(o[i]?).map λob=>ob.WM N u (k+i)
 |[],_,_=>by simp[Bq]
 |ob::r,k,0=>by simp[Bq]
 |ob::r,k,i+1=>by simp only[Bq,sE];rw[Oh N u r (k+1) i,show k+1+i=k+(i+1)by omega]
theorem Ay(N:List (Nat×List (List AV)))(u:List Nat):∀(o:List aD) (k:Nat),(Bq N u k o).length=o.length
 |[],_=>rfl
 |g::r,k=>by simp[Bq,Ay N u r]
def Dw(N:List (Nat×List (List AV))):Nat->List CO->List CO
 |_,[]=>[]
 |i,g::r=>(match N.find? (λp=>p.1 == i)with
  |some _=>{g with F:=λb=>∃a,g.a=some a/\b=a.block}
  |none=>g)::Dw N (i+1) r
theorem Oi(N:List (Nat×List (List AV))):∀(G:List CO) (k i:Nat),(Dw N k G)[i]? =(G[i]?).map λg=>match N.find? (λp=>p.1 == k+i)with
  |some _=>{g with F:=λb=>∃a,g.a=some a/\b=a.block}
  |none=>g
 |[],_,_=>by simp[Dw]
 |g::r,k,0=>by simp[Dw]
 |g::r,k,i+1=>by simp only[Dw,sE];rw[Oi N r (k+1) i,show k+1+i=k+(i+1)by omega]
theorem Az(N:List (Nat×List (List AV))):∀(o:List CO) (k:Nat),(Dw N k o).length=o.length
 |[],_=>rfl
 |g::r,k=>by simp[Dw,Az N r]
theorem Oj{o:List aD}{G:List CO}{N:List (Nat×List (List AV))}{u:List Nat}{i:Nat}{dH:aD}{g':CO}(h:look (Bq N u 0 o) (Dw N 0 G) i dH g'):
  ∃ob g,look o G i ob g/\((∃p∈N,p.1=i/\dH={ob with dY:=p.2}/\g'={g with F:=λb=>∃a,g.a=some a/\b=a.block})\/
   ((∀p∈N,p.1≠i)/\g'=g/\((i∈u/\dH={ob with live:=false})\/(i∉u/\dH=ob.forget u)))):=by
 obtain⟨h1,h2⟩:=h;rw[Oh,gE]at h1;rw[Oi,gE]at h2;cases ho:o[i]? with
 |none=>simp[ho]at h1
 |some ob=>
  cases hg:G[i]? with
  |none=>simp[hg]at h2
  |some g=>
   rw[ho]at h1;rw[hg]at h2;simp only[lR,cQ]at h1 h2;refine⟨ob,g,⟨ho,hg⟩,?_⟩;unfold aD.WM at h1;cases hf:N.find? (λp=>p.1 == i)with
   |some p=>rw[hf]at h1 h2;left;exact⟨p,AN hf,by have:=find?_some hf;simpa using this,h1.symm,h2.symm⟩
   |none=>
    rw[hf]at h1 h2;right;refine⟨λp hp e=> ?_,h2.symm,?_⟩
    .have:=find?_eq_none.1 hf p hp;simp[e]at this
    .simp only at h1;by_cases hiu:i∈u
     .rw [eA (by simpa using hiu)]at h1;exact .inl ⟨hiu,h1.symm⟩
     .rw [cU (by simpa using hiu)]at h1;exact .inr ⟨hiu,h1.symm⟩
theorem XL{o:List aD}{G:List CO}{N:List (Nat×List (List AV))}{u:List Nat}{i:Nat}{ob:aD}{g:CO}(h:look o G i ob g):
  ∃dH g',look (Bq N u 0 o) (Dw N 0 G) i dH g':=by
 have h1:=(cA.1 h.1).1;have h2:=(cA.1 h.2).1;exact⟨_,_,aE (by rw[Ay];exact h1),aE (by rw[Az];exact h2)⟩
theorem wH{w:World}{s:AS}{G:List CO}:∀(xs:List AV) (gs:List GA) (vs:List Value) (pO:List (List Nat)) (gN:List Nat) (k:Nat),mP s.o G xs gs vs gN->MW w gs vs pO gN->pO.flatten.Nodup->
  ∃inner,inner.Nodup/\(∀b∈inner,b∈pO.flatten)/\
   (∀p∈zD k xs gs,∃ob g b f,look s.o G p.1 ob g/\ob.live=true/\ob.box=true/\ob.dY.length=p.2.length/\g.a=some ⟨b,f,none⟩/\g.F b/\b∈pO.flatten/\b∉inner)/\
   iX 1 w kZ k (Ep k gs) inner (λE'=>∀p∈zD k xs gs,∀ob g b f,look s.o G p.1 ob g->g.a=some ⟨b,f,none⟩->oD w E' ob.n p.2 g.a g.cap [b])
 |[],[],[],[],[],k,_,_,_=>⟨[],by simp,by simp,by simp[zD],⟨[],rfl,λj ob g hl=>by simp[look,Ep]at hl,λi j oi oj gi gj b hl=>by simp[look,Ep]at hl,λE' _ _ p hp=>by simp[zD]at hp⟩⟩
 |x::xs,.view y::gs,v::vs,fp::pO,cap::gN,k,hl,hp,hn=>by simp only[MW,RP]at hp;obtain⟨rfl,hp⟩:=hp;simp only[Ep,zD];have:=wH xs gs vs pO gN k (by simpa [mP]using hl) hp (by simpa using hn);simpa using this
 |x::xs,.oN y::gs,v::vs,fp::pO,cap::gN,k,hl,hp,hn=>by simp only[MW,RP]at hp;obtain⟨rfl,hp⟩:=hp;simp only[Ep,zD];have:=wH xs gs vs pO gN k (by simpa [mP]using hl) hp (by simpa using hn);simpa using this
 |x::xs,.sW c c'::gs,v::vs,fp::pO,cap::gN,k,hl,hp,hn=>by
  simp only[MW,RP]at hp;obtain⟨⟨b0,f0,hv0,hlen,hown⟩,hp⟩:=hp;simp only[mP]at hl;obtain⟨hl0,hl⟩:=hl;simp only[oY,fY]at hn;obtain⟨inner,i1,i2,i3,i4⟩:=wH xs gs vs pO gN (k+(dM 1 k c').2.length) hl hp hn.2.1;unfold UX at hl0;split at hl0
  .rename_i i ver idx off;obtain⟨ob,g,b,f,hlk,hlive,rV,hcn,YT,hga,hv,hF,rfl⟩:=hl0;rw[hv]at hv0;simp only[tA,cQ,lA,mN]at hv0;obtain⟨rfl,rfl⟩:=hv0;rcases hown with⟨h5,_⟩|⟨b',f',C,ty,fz,nA,uB,hbk,hz,k1,k2,k3,rfl,hr⟩
   .cases h5
   simp only[cQ,lA,mN]at uB;obtain⟨rfl,rfl⟩:=uB;simp only[Rr]at hr;obtain⟨cs,f1,f2,Ip,hc,hone,rF,rfl,e⟩:=hr;have e:nA=f1:=by simpa using e
   subst e;have hnb:=hn.1;simp only[hY]at hnb;have yu:=zP (q:=1) c' cs nA k rF hnb.2;have XI:(nA++inner).Nodup:=fY.2 ⟨hnb.2,i1,λx hx y hy e=>hn.2.2 x (by simp[hx]) y (i2 y hy) e⟩;obtain⟨Gs,a1,a2,a3,a4⟩:=yu.append i4 XI;have hbi:b∉inner:=λh=>hn.2.2 b (by simp) b (i2 b h) rfl
   refine⟨nA++inner,XI,?_,?_,⟨Gs,a1,a2,a3,λE' hk hh=> ?_⟩⟩
   .intro x hx;simp only[oY,fR];rcases fR.1 hx with hx|hx
    .exact .inl (by simp[hx])
    .exact .inr (i2 x hx)
   .intro p hp;simp only[zD,fR]at hp;rcases hp with hp|hp
    .simp only[pB]at hp;subst hp;exact⟨ob,g,b,f,hlk,hlive,rV,by simpa using YT,hga,hF,by simp,by simp only[fR,not_or];exact⟨hnb.1,hbi⟩⟩
    .obtain ⟨Od,g1,b1,f1,q1,q2,q3,q4,q5,q6,q7,q8⟩:=i3 p hp;refine⟨Od,g1,b1,f1,q1,q2,q3,q4,q5,q6,by simp[q7],?_⟩;simp only[fR,not_or];exact⟨λh=>hn.2.2 b1 (by simp[h]) b1 q7 rfl,q8⟩
   .obtain ⟨d1,d2⟩:=a4 E' hk hh;intro p hp Od g1 b1 f1 q1 q2;simp only[zD,fR]at hp;rcases hp with hp|hp
    .simp only[pB]at hp;subst hp;obtain⟨rfl,rfl⟩:=jE hlk q1;rw[hga]at q2;simp only[cQ,lA,mN]at q2;obtain⟨rfl,rfl⟩:=q2;refine⟨by simp[maxLen],.inr ⟨b,f,C,ty,fz,[],hga,hbk,by rw[hcn];exact hz,by rw[hcn];exact k1,by simpa using k2,k3,rfl,?_⟩⟩;simp only[Rr];exact⟨cs,[],[],by rw[hcn];exact Ip,hc,hone,d1,rfl,rfl⟩
    .exact d2 p hp Od g1 b1 f1 q1 q2
  .exact hl0.elim
 |[],[],[],[],_::_,_,hl,_,_=>by simp[mP]at hl
 |[],[],[],_::_,_,_,_,hp,_=>by simp[MW]at hp
 |[],[],_::_,_,_,_,_,hp,_=>by simp[MW]at hp
 |[],_::_,_,_,_,_,hl,_,_=>by simp[mP]at hl
 |_::_,[],_,_,_,_,hl,_,_=>by simp[mP]at hl
 |_::_,.view _::_,[],_,_,_,hl,_,_=>by simp[mP]at hl
 |_::_,.view _::_,_::_,[],_,_,_,hp,_=>by simp[MW]at hp
 |_::_,.view _::_,_::_,_::_,[],_,_,hp,_=>by simp[MW]at hp
 |_::_,.oN _::_,[],_,_,_,hl,_,_=>by simp[mP]at hl
 |_::_,.oN _::_,_::_,[],_,_,_,hp,_=>by simp[MW]at hp
 |_::_,.oN _::_,_::_,_::_,[],_,_,hp,_=>by simp[MW]at hp
 |_::_,.sW _ _::_,[],_,_,_,hl,_,_=>by simp[mP]at hl
 |_::_,.sW _ _::_,_::_,[],_,_,_,hp,_=>by simp[MW]at hp
 |_::_,.sW _ _::_,_::_,_::_,[],_,_,hp,_=>by simp[MW]at hp
theorem Fw(o:List aD):∀(xs:List AV) (gs:List GA) (k:Nat),∀p∈zD k xs gs,p.1∈takes o xs gs
 |[],[],_,p,hp=>by simp[zD]at hp
 |[],_::_,_,p,hp=>by simp[zD]at hp
 |_::_,[],_,p,hp=>by simp[zD]at hp
 |x::xs,.view _::gs,k,p,hp=>by simp only[zD]at hp;simpa [takes]using Fw o xs gs k p hp
 |x::xs,.oN _::gs,k,p,hp=>by simp only[zD]at hp;simp only[takes,fR];exact .inr (Fw o xs gs k p hp)
 |x::xs,.sW _ c'::gs,k,p,hp=>by
  simp only[zD,fR]at hp;simp only[takes,fR];rcases hp with hp|hp
  .left;cases x<;>simp at hp;subst hp;simp[Oe]
  .exact .inr (Fw o xs gs _ p hp)
def AS.given(s:AS)(d:Option Tmp)(xs:List AV)(gs:List GA)(r:AV):AS:=
 AS.put ⟨pM (iV (takes s.o xs gs)) true s.t,Bq (zD s.o.length xs gs) (takes s.o xs gs) 0 s.o++Ep s.o.length gs++(bV 1 (s.o.length+(Ep s.o.length gs).length) r).2⟩ d
  (bV 1 (s.o.length+(Ep s.o.length gs).length) r).1
section
variable{P:Program}[aB P]{B:eP P}{s:AS}{dst:Option Tmp}{ty:TypeId}{pos:String}{after:Array Edge}{gd:Option (Nat × Bool)}
theorem XM(f:Operand)(args:Array Operand)(Fj:Array TypeId){gf:FuncId}{gs:List GA}{rv:AV}(hf:s.ev f= .fn gf [])(hc:bJ P gf=true)
  (hu:(takes s.o (s.args args) gs).Nodup) (hh:handed s.o (takes s.o (s.args args) gs) (s.args args) gs) (qD:UD P gf gs rv):
  Step P B ⟨dst,.call {callee:= .value f,args:=args,argTypes:=Fj},ty,pos,after,gd⟩ s (s.given dst (s.args args) gs rv):=by
 rintro a w next Q ⟨G,rr⟩ hn
 have h1:=rr.ev f;rw[hf]at h1;simp only[R]at h1;obtain⟨_,cs,hv,nQ⟩:=h1;have hcs:cs=[]:=by cases cs with
  |nil=>rfl
  |cons _ _=>simp[Rc]at nQ
 subst hcs;have hargs:Rc w (env B s.o G w) (s.args args) (args.toList.map a.eval) []:=by simpa [AS.args]using qN rr args.toList
 generalize hxs:s.args args=xs at*;obtain⟨pO,gN,hnd,MU,aAg,aAh⟩:=wG rr (U:=takes s.o xs gs) xs gs _ hh hu (λi h=>h) hargs;generalize huu:takes s.o xs gs=u at*;have hlt:∀b∈pO.flatten,b<w.heap.size:=λb hb=>by obtain⟨i,ob,g,_,hl,hlive,hF⟩:=MU b hb;exact(rr.fresh _ _ _ b hl hlive hF).2
 have yu:∀b∈pO.flatten,aB.low P<=b/\b<w.heap.size:=λb hb=>by obtain⟨i,ob,g,_,hl,hlive,hF⟩:=MU b hb;exact⟨rr.Il (rr.fresh _ _ _ b hl hlive hF).1,hlt b hb⟩
 have zR:=qD w _ pO gN rr.holds yu hnd (aAh _ MU);unfold Oper.wp;have hrun:(execOp a.eval ⟨dst,.call {callee:= .value f,args:=args,argTypes:=Fj},ty,pos,after,gd⟩).run P w= .ok (.enter gf (args.toList.map a.eval).toArray) w:=by
  have e:args.map a.eval=(args.toList.map a.eval).toArray:=by apply AM;simp
  simp[execOp,resolve,hv,Deferred.ofValue,invoke,oK hc,e]
 rw[hrun,tU];refine zR.mono λe w' h=> ?_
 obtain⟨v,fp,xW,rfl,Jn,hrp,hnd',hfr,hsz,iN,wW⟩:=h;refine hn _ _ ?_;have PM:=fY.1 hnd';obtain⟨inner,i1,i2,i3,i4⟩:=wH (s:=s) (G:=G) xs gs _ xW gN s.o.length aAg hrp PM.1;have XI:(inner++fp).Nodup:=fY.2 ⟨i1,PM.2.1,λx hx y hy e=>PM.2.2 x (i2 x hx) y hy e⟩;obtain⟨Gs,hlen,rJ,hap,vH⟩:=i4.append (vG (q:=1) rv v fp (s.o.length+(Ep s.o.length gs).length) Jn PM.2.1) XI;have hNu:=Fw s.o xs gs s.o.length;rw[huu]at hNu;unfold AS.given;rw[huu];generalize hN:zD s.o.length xs gs=N at*;rw[tD];generalize xZ:Ep s.o.length gs++(bV 1 (s.o.length+(Ep s.o.length gs).length) rv).2=news at*;generalize ho1:Bq N u 0 s.o=o1;generalize hG1:Dw N 0 G=G1;have hl1:o1.length=s.o.length:=by rw[<-ho1,Ay]
 have aG7:G1.length=G.length:=by rw[<-hG1,Az]
 have uw:G1.length=o1.length:=by rw[aG7,hl1,rr.len]
 have blk:∀b,b∈xW.flatten++fp->(Of s.o G u b\/w.heap.size<=b)/\b<w'.heap.size:=λb hb=>by
  have:=hfr b hb;refine⟨?_,this.2⟩;rcases this.1 with h|h
  .exact .inl (MU b h)
  .exact .inr h
 have zF:∀{j ob g b},look news Gs j ob g->g.F b->b∈inner++fp:=by intro j ob g b hl hF;obtain⟨_,_,_,f',_,_,h3,h4⟩:=rJ _ _ _ hl;exact h4 _ ((h3 _).1 hF)
 have aAi:∀{b},b∈inner++fp->b∈xW.flatten++fp:=by
  intro b hb;rcases fR.1 hb with h|h
  .exact pA _ (i2 b h)
  .exact pT _ h
 have lk:∀{i dH g'},look (o1++news) (G1++Gs) i dH g'->(∃j,i=s.o.length+j/\look news Gs j dH g')\/(i<s.o.length/\∃ob g,look s.o G i ob g/\
   ((∃p∈N,p.1=i/\dH={ob with dY:=p.2}/\g'={g with F:=λb=>∃a,g.a=some a/\b=a.block})\/
   ((∀p∈N,p.1≠i)/\g'=g/\((i∈u/\dH={ob with live:=false})\/(i∉u/\dH=ob.forget u))))):=by
  intro i dH g' h;rcases jV uw h with⟨hi,h⟩|⟨hi,h⟩
  .right;refine⟨by omega,?_⟩;rw[<-ho1,<-hG1]at h;exact Oj h
  .left;exact⟨i-o1.length,by omega,h⟩
 have ZW:∀{p},p∈N->∀{ob g},look s.o G p.1 ob g->ob.live=true/\ob.box=true/\ob.dY.length=p.2.length/\∃b f,g.a=some ⟨b,f,none⟩/\g.F b/\b∈xW.flatten/\b∉inner:=by intro p hp ob g hl;obtain⟨Jq,g2,b,f,q1,q2,q3,q4,q5,q6,q7,q8⟩:=i3 p hp;obtain⟨rfl,rfl⟩:=jE hl q1;exact⟨q2,q3,q4,b,f,q5,q6,q7,q8⟩
 have kl:∀{i ob g},look s.o G i ob g->∃dH g',look (o1++news) (G1++Gs) i dH g'/\(dH.live=true->ob.live=true)/\dH.ver=ob.ver/\dH.n=ob.n/\g'.a=g.a/\g'.cap=g.cap/\dH.dY.length=ob.dY.length/\dH.box=ob.box/\
   (i∉u->g'=g/\dH.live=ob.live):=by
  intro i ob g h;obtain⟨dH,g',h'⟩:=XL (N:=N) (u:=u) h;rw[ho1,hG1]at h';have h'':=iO (o2:=news) (G2:=Gs) h';refine⟨dH,g',h'',?_⟩;rw[<-ho1,<-hG1]at h';obtain⟨Jq,g2,h2,hcase⟩:=Oj h';obtain⟨rfl,rfl⟩:=jE h h2;rcases hcase with⟨p,hp,rfl,rfl,rfl⟩|⟨hno,rfl,⟨hiu,rfl⟩|⟨hiu,rfl⟩⟩
  .obtain ⟨b1,b2,b3,_⟩:=ZW hp h;exact⟨λ_=>b1,rfl,rfl,rfl,rfl,b3.symm,rfl,λhn=>absurd (hNu p hp) hn⟩
  .exact ⟨λh=>by simp at h,rfl,rfl,rfl,rfl,rfl,rfl,λhn=>absurd hiu hn⟩
  .exact ⟨λh=>by rw[kQ]at h;exact h,KJ _ _,RS _ _,rfl,rfl,KM _ _,KL _ _,λ_=>⟨rfl,kQ _ _⟩⟩
 have O3:∀{i ob g b},look s.o G i ob g->ob.live=true->g.F b->i∉u->¬Of s.o G u b:=by intro i ob g b hl hlive hF hiu hO;obtain⟨j,oj,gj,hj,hlj,hjl,Ir⟩:=hO;exact hiu (rr.apart i j _ _ _ _ b hl hlj hlive hjl hF Ir▸hj)
 have aG8:∀{i ob g b},look s.o G i ob g->ob.live=true->g.F b->i∉u->b∉xW.flatten++fp:=by
  intro i ob g b hl hlive hF hiu hX;rcases(blk b hX).1 with h|h
  .exact O3 hl hlive hF hiu h
  .have:=(rr.fresh _ _ _ b hl hlive hF).2;omega
 have BP:∀i ob g b,look s.o G i ob g->ob.live=true->g.F b->i∉u->w'.heap[b]? =w.heap[b]?:=λi ob g b hl hlive hF hiu=>
  iN b (rr.fresh _ _ _ b hl hlive hF).2 (λhm=>O3 hl hlive hF hiu (MU b hm))
 let Er:Env:={env B s.o G w with D:=λi b=>i∉u/\(env B s.o G w).D i b}
 have yx:jX (iV u) true (env B s.o G w) Er (λ_=>True):=by
  refine⟨λt e=>by simp[iV]at e,λt e=>by simp only[iV,cQ]at e;exact⟨e.symm,λb hb=>hb⟩,λi t e=> ?_,λ_ _ _ _ h=>h,λ_ _ _ _ _ _ h=>h⟩;simp only[iV]at e;split at e
  .cases e
  .rename_i hiu;obtain rfl:=cD e;refine⟨by simp,?_,λb hb=>⟨hiu,hb⟩⟩;by_cases hV:(env B s.o G w).V i
   .exact .inl hV
   .exact .inr hV
 have k2:bR w Er w' (env B (o1++news) (G1++Gs) w'):=by
  refine⟨λb hb=> ?_,λi h ob qX=> ?_,λi b hV h=> ?_,λi ver x h=> ?_,λi ver j q x h=> ?_⟩
  .have hb':(env B s.o G w).A b:=hb;have hbl:=lY rr hb';have hnO:¬Of s.o G u b:=λ⟨i,ob,g,_,hl,hlive,hF⟩=>hb'.2 i ob g hl hlive hF
   have hnX:b∉xW.flatten++fp:=λhX=>by
    rcases(blk b hX).1 with h|h
    .exact hnO h
    .omega
   refine⟨⟨?_,λi dH g' hl hlive hF=> ?_⟩,iN b hbl (λh=>hnO (MU b h))⟩
   .rcases hb'.1 with h|h
    .exact .inl h
    .exact .inr ⟨h.1,by omega⟩
   .rcases lk hl with⟨j,_,hl2⟩|⟨_,ob,g,hl0,⟨p,hp,rfl,_,rfl⟩|⟨_,rfl,⟨_,rfl⟩|⟨_,rfl⟩⟩⟩
    .exact hnX (aAi (zF hl2 hF))
    .obtain ⟨b1,b2,b3,b0,f0,b4,b5,b6,_⟩:=ZW hp hl0;obtain⟨a0,O4,rfl⟩:=hF;rw[b4]at O4;obtain rfl:=cD O4;exact hb'.2 _ ob g hl0 b1 b5
    .simp at hlive
    .refine hb'.2 i ob g' hl0 ?_ hF;rw[kQ]at hlive;exact hlive
  .have hi:i<G.length:=by rw[rr.len];exact(cA.1 qX).1
   obtain⟨dH,g',hl,h1,_⟩:=kl (i:=i) (ob:=ob) (g:=G[i]) ⟨qX,aE hi⟩;exact h1 (h dH hl.1)
  .obtain ⟨hiu,ob,g,hl,hlive,hF,hne⟩:=h;obtain⟨dH,g',xY,_,_,_,_,_,_,_,h7⟩:=kl hl;obtain⟨rfl,h8⟩:=h7 hiu;exact⟨⟨dH,g',xY,by rw[h8];exact hlive,hF,hne⟩,BP i ob g' b hl hlive hF hiu⟩
  .obtain ⟨ob,g,hl,Al,hh,hz⟩:=h;obtain⟨dH,g',xY,h1,h2,h3,h4,h5,h6,_⟩:=kl hl;exact⟨dH,g',xY,by omega,λhlive Py=>by rw[h4,h5,h6];exact hh (h1 hlive) (by omega),hz⟩
  .obtain ⟨ob,g,hl,Al,hh,hz⟩:=h;obtain⟨dH,g',xY,h1,h2,h3,h4,h5,h6,h8,_⟩:=kl hl;exact⟨dH,g',xY,by omega,λhlive Py=>by rw[h4,h3];exact hh (h1 hlive) (by omega),
    λe e2 e3 e4 y hy=>⟨(hz (by rw[<-h8];exact e) e2 e3 e4 y hy).1,λhlive Py=>by rw[h5];exact(hz (by rw[<-h8];exact e) e2 e3 e4 y hy).2 (h1 hlive) (by omega)⟩⟩
 have tm:Rc w' (env B (o1++news) (G1++Gs) w') (pM (iV u) true s.t) a.tmps.toList []:=
  dC k2 _ _ _ (by simp) (uD yx _ _ _ (by simp) rr.tmps)
 have kn:∀E':Env,bR w' kZ w' E':=λE'=>⟨λ_ h=>h.elim,λ_ _=>trivial,λ_ _ _ h=>h.elim,λ_ _ _ h=>h.elim,λ_ _ _ _ _ h=>h.elim⟩
 have hfin:=vH (env B (o1++news) (G1++Gs) w') (kn _) (λj ob g hl=>by
  obtain⟨_,_,h3,_⟩:=rJ _ _ _ hl;refine⟨ob,g,?_,rB h3.symm,λ_ _=>rfl,λh=>absurd h (by decide)⟩;have:=jF (o:=o1) (G:=G1) uw hl
  rwa[hl1]at this)
 obtain⟨Dv,mD⟩:=hfin;have rel:bU B ⟨pM (iV u) true s.t,o1++news⟩ (G1++Gs) a w':=by
  refine {len:=by simp[uw,hlen],defs:=rr.defs,ok:= ?_,apart:= ?_,fresh:= ?_,tmps:=tm,size:=fW rr.size hsz,frame:= ?_,base:=rr.base,same:=rr.same.trans wW}
  .intro i dH g' hl hlive;rcases lk hl with⟨j,_,hl2⟩|⟨_,ob,g,hl0,⟨p,hp,rfl,rfl,rfl⟩|⟨_,rfl,⟨_,rfl⟩|⟨hiu,rfl⟩⟩⟩
   .obtain ⟨h1,h2,_,f',hown,h3,h4,h5⟩:=rJ _ _ _ hl2;refine⟨f',?_,h3,λb hb=>(h4 b).2 hb⟩;rw[h2];exact hown.keeps (kn _).plain (λ_ _=>rfl)
   .obtain ⟨b1,b2,b3,b0,f0,b4,b5,b6,_⟩:=ZW hp hl0;have:=Dv p hp ob g b0 f0 hl0 b4;refine⟨[b0],?_,by simp,?_⟩
    .simp only[b2,Env.of,eI];exact this
    .intro b hb;simp only[pB]at hb;subst hb;exact⟨_,b4,rfl⟩
   .simp at hlive
   .rw [kQ]at hlive;obtain⟨ZK,hown,Em,JV⟩:=rr.ok i ob g' hl0 hlive;by_cases Dv:ob.box=true
    .simp only[Dv,Env.of,eI]at hown;obtain⟨hlen,hown⟩:=hown;by_cases hall:Au ob.dY=true
     .have ZQ:ob.forget u=ob:=by unfold aD.forget;simp[Dv,hall]
      rw[ZQ];refine⟨ZK,?_,Em,JV⟩;simp only[Dv,Env.of,eI];refine⟨hlen,?_⟩;rcases hown with h|⟨b,off,C,e,fz,ZR,ha,hb,hz,h1,h2,h3,rfl,UU⟩
      .exact .inl h
      .have hbs:=BP i ob g' b hl0 hlive (JV b (by simp)) hiu;exact .inr ⟨b,off,C,e,fz,ZR,ha,by rw[hbs];exact hb,hz,h1,h2,h3,rfl,kP k2 _ _ _ _ _ hbs (λx hx=>BP i ob g' x hl0 hlive (JV x (by simp[hx])) hiu) (ZM hall UU)⟩
     .have ZQ:ob.forget u={ob with dY:=iL (iV u) true ob.dY}:=by unfold aD.forget;rw[eA Dv,cU hall]
      rw[ZQ];rcases hown with⟨h1,h2,h3⟩|⟨b,off,C,e,fz,ZR,ha,hb,hz,h1,h2,h3,rfl,UU⟩
      .exact ⟨[],⟨by simp[jD];exact hlen,.inl ⟨by simp[h1,iL],h2,rfl⟩⟩,by simp,by simp⟩
      .have zO:=JV b (by simp);have hbs:=BP i ob g' b hl0 hlive zO hiu;refine⟨[b],⟨by simp[jD];exact hlen,.inr ⟨b,off,C,e,fz,[],ha,by rw[hbs];exact hb,hz,h1,by simpa [jD]using h2,h3,rfl,?_⟩⟩,by simp,by simpa using zO⟩;simp only[Dv,Env.of,eI];exact kP k2 _ _ _ _ _ hbs (by simp) (Du yx _ _ _ _ _ (by simp) UU)
    .have ZT:ob.box=false:=by simpa using Dv
     have ZQ:ob.forget u=ob:=by unfold aD.forget;simp[ZT]
     rw[ZQ];refine⟨ZK,?_,Em,JV⟩;simp only[ZT,Env.of,cJ,eK]at hown⊢;have kp:bR w (env B s.o G w).plain w' (env B (o1++news) (G1++Gs) w').plain:=k2.plain;exact hown.keeps kp (λb hb=>BP i ob g' b hl0 hlive (JV b hb) hiu)
  .-- every object its own blocks
   have cls:∀{i dH g' b},look (o1++news) (G1++Gs) i dH g'->dH.live=true->g'.F b->(∃j,i=s.o.length+j/\look news Gs j dH g'/\b∈inner++fp)\/
     (i<s.o.length/\∃ob g,look s.o G i ob g/\ob.live=true/\g.F b/\((b∈xW.flatten/\b∉inner)\/b∉xW.flatten++fp)):=by
    intro i dH g' b hl hlive hF;rcases lk hl with⟨j,hj,hl2⟩|⟨hi,ob,g,hl0,⟨p,hp,rfl,rfl,rfl⟩|⟨_,rfl,⟨_,rfl⟩|⟨hiu,rfl⟩⟩⟩
    .exact .inl ⟨j,hj,hl2,zF hl2 hF⟩
    .obtain ⟨b1,b2,b3,b0,f0,b4,b5,b6,b7⟩:=ZW hp hl0;obtain⟨a0,O4,rfl⟩:=hF;rw[b4]at O4;obtain rfl:=cD O4;exact .inr ⟨hi,ob,g,hl0,b1,b5,.inl ⟨b6,b7⟩⟩
    .simp at hlive
    .rw [kQ]at hlive;exact .inr ⟨hi,ob,g',hl0,hlive,hF,.inr (aG8 hl0 hlive hF hiu)⟩
   have mixed:∀{b},b∈inner++fp->((b∈xW.flatten/\b∉inner)\/b∉xW.flatten++fp)->False:=by
    rintro b hb (⟨h1,h2⟩|h)
    .rcases fR.1 hb with h|h
     .exact h2 h
     .exact PM.2.2 b h1 b h rfl
    .exact h (aAi hb)
   intro i j oi oj gi gj b hi hj hil hjl Ei GG;rcases cls hi hil Ei with⟨i',rfl,hi',hbi⟩|⟨aAd,Od,g1,hl1,aG9,hF1,hc1⟩<;>rcases cls hj hjl GG with⟨j',rfl,XA,hbj⟩|⟨aAc,Jq,g2,hl2,aHa,RJ,Rq⟩
   .rw [hap _ _ _ _ _ _ b hi' XA Ei GG]
   .exact (mixed hbi Rq).elim
   .exact (mixed hbj hc1).elim
   .exact rr.apart _ _ _ _ _ _ b hl1 hl2 aG9 aHa hF1 RJ
  .intro i dH g' b hl hlive hF;have ofX:b∈xW.flatten++fp->(B.O0 b\/B.w0.heap.size<=b)/\b<w'.heap.size:=λhX=>by
    obtain⟨h1,h2⟩:=blk b hX;refine⟨?_,h2⟩;rcases h1 with⟨j,oj,gj,_,hlj,hjl,Ir⟩|h
    .exact (rr.fresh _ _ _ b hlj hjl Ir).1
    .exact .inr (fW rr.size h)
   rcases lk hl with⟨j,hj,hl2⟩|⟨hi,ob,g,hl0,⟨p,hp,rfl,rfl,rfl⟩|⟨_,rfl,⟨_,rfl⟩|⟨hiu,rfl⟩⟩⟩
   .exact ofX (aAi (zF hl2 hF))
   .obtain ⟨b1,b2,b3,b0,f0,b4,b5,b6,b7⟩:=ZW hp hl0;obtain⟨a0,O4,rfl⟩:=hF;rw[b4]at O4;obtain rfl:=cD O4;exact ofX (pA _ b6)
   .simp at hlive
   .rw [kQ]at hlive;have:=rr.fresh _ _ _ b hl0 hlive hF;exact⟨this.1,by omega⟩
  .intro b hb hO;rw[<-rr.frame b hb hO];refine iN b (fS hb rr.size) (λhm=> ?_);obtain⟨j,oj,gj,_,hlj,hjl,Ir⟩:=MU b hm;rcases(rr.fresh _ _ _ b hlj hjl Ir).1 with h|h
   .exact hO h
   .omega
 exact⟨_,rel.put dst mD⟩
mutual
def pW(i ver:Nat)(y:AV):AV->AV
 | .obj j v=>if j=i/\v=ver then y else .obj j v
 | .agg c=> .agg (rW i ver y c)
 | .fH c=> .fH (rW i ver y c)
 |x=>x
def rW(i ver:Nat)(y:AV):List AV->List AV
 |[]=>[]
 |x::xs=>pW i ver y x::rW i ver y xs
end
def rX(i ver:Nat)(y:AV):List (List AV)->List (List AV)
 |[]=>[]
 |e::es=>rW i ver y e::rX i ver y es
theorem yD(i ver:Nat)(y:AV):∀l,(rX i ver y l).length=l.length
 |[]=>rfl
 |_::l=>by simp[rX,yD i ver y l]
def aD.pW(i ver:Nat)(y:AV)(ob:aD):aD:=if ob.box=true then {ob with dY:=rX i ver y ob.dY}else ob
def rM(i ver:Nat)(y:AV):Nat->List aD->List aD
 |_,[]=>[]
 |k,ob::r=>(if k=i then ob.kill else ob.pW i ver y)::rM i ver y (k+1) r
theorem KS(i ver:Nat)(y:AV):∀(o:List aD) (k j:Nat),(rM i ver y k o)[j]? =(o[j]?).map λob=>if k+j=i then ob.kill else ob.pW i ver y
 |[],_,_=>by simp[rM]
 |ob::r,k,0=>by simp[rM]
 |ob::r,k,j+1=>by simp only[rM,sE];rw[KS i ver y r (k+1) j,show k+1+j=k+(j+1)by omega]
theorem Iy(i ver:Nat)(y:AV):∀(o:List aD) (k:Nat),(rM i ver y k o).length=o.length
 |[],_=>rfl
 |ob::r,k=>by simp[rM,Iy i ver y r]
def AS.frozen(s:AS)(i ver:Nat)(ob:aD):AS:=
 ⟨rW i ver (.sl .view ob.n (iL (λ_=>some .view) false ob.dY)) s.t,rM i ver (.sl .view ob.n (iL (λ_=>some .view) false ob.dY)) 0 s.o⟩
mutual
theorem aDn{w:World}{E E':Env}{i ver:Nat}{y:AV}(k:bR w E w E')(hy:∀v,E.H i ver v->R w E' y v []):∀(x:AV) (v:Value) (fp:List Nat),R w E x v fp->R w E' (pW i ver y x) v fp
 | .obj j u,v,fp,h=>by
  simp only[pW];split
  .rename_i e;obtain⟨rfl,rfl⟩:=e;simp only[R]at h;obtain⟨rfl,h⟩:=h;exact hy v h
  .exact jS k _ _ _ (λ_ _=>rfl) h
 | .agg c,v,fp,h=>by simp only[R,pW]at h⊢;obtain⟨cs,h1,h2,h3⟩:=h;exact⟨cs,h1,h2,KT k hy c cs fp h3⟩
 | .fH c,v,fp,h=>by simp only[R,pW]at h⊢;obtain⟨cs,h1,h3⟩:=h;exact⟨cs,h1,KT k hy c cs fp h3⟩
 | .int _ _,v,fp,h=>by simp only[pW];exact jS k _ _ _ (λ_ _=>rfl) h
 | .bool _,v,fp,h=>by simp only[pW];exact jS k _ _ _ (λ_ _=>rfl) h
 | .str _,v,fp,h=>by simp only[pW];exact jS k _ _ _ (λ_ _=>rfl) h
 | .sl _ _ _,v,fp,h=>by simp only[pW];exact jS k _ _ _ (λ_ _=>rfl) h
 | .eF _ _ _,v,fp,h=>by simp only[pW];exact jS k _ _ _ (λ_ _=>rfl) h
 | .ptr _ _ _ _,v,fp,h=>by simp only[pW];exact jS k _ _ _ (λ_ _=>rfl) h
 | .fn _ _,v,fp,h=>by simp only[pW];exact jS k _ _ _ (λ_ _=>rfl) h
 | .undef,v,fp,h=>by simp only[pW];exact jS k _ _ _ (λ_ _=>rfl) h
theorem KT{w:World}{E E':Env}{i ver:Nat}{y:AV}(k:bR w E w E')(hy:∀v,E.H i ver v->R w E' y v []):∀(c:List AV) (cs:List Value) (fp:List Nat),Rc w E c cs fp->Rc w E' (rW i ver y c) cs fp
 |[],[],_,h=>by simpa [Rc,rW]using h
 |[],_::_,_,h=>by simp[Rc]at h
 |_::_,[],_,h=>by simp[Rc]at h
 |x::xs,c::cs,fp,h=>by simp only[Rc,rW]at h⊢;obtain⟨f1,f2,h1,h2,h3⟩:=h;exact⟨f1,f2,aDn k hy x c f1 h1,KT k hy xs cs f2 h2,h3⟩
end
theorem ZX{w:World}{E E':Env}{i ver:Nat}{y:AV}(k:bR w E w E')(hy:∀v,E.H i ver v->R w E' y v []):∀(l:List (List AV)) (b off n:Nat) (fp:List Nat),Rr w E l b off n fp->Rr w E' (rX i ver y l) b off n fp
 |[],_,_,_,_,h=>by simpa [Rr,rX]using h
 |e::es,b,off,n,fp,h=>by simp only[Rr,rX]at h⊢;obtain⟨cs,f1,f2,h1,h2,h3,h4,h5,h6⟩:=h;exact⟨cs,f1,f2,h1,h2,h3,KT k hy e cs f1 h4,ZX k hy es b (off+n) n f2 h5,h6⟩
theorem WN{P:Program}[aB P]{B:eP P}{s:AS}{a:Act}{w:World}{i ver:Nat}{ob:aD}(qX:AV.isObj s.o i ver=some ob)(rV:ob.box=false)(hr:Rel B s a w):Rel B (s.frozen i ver ob) a w:=by
 obtain⟨G,r⟩:=hr;obtain⟨h1,h2,h3⟩:=iG qX;generalize hyy:AV.sl .view ob.n (iL (λ_=>some .view) false ob.dY)=y;generalize ho':rM i ver y 0 s.o=o';have back:∀{j dH g},look o' G j dH g->∃uC,look s.o G j uC g/\((j=i/\dH=uC.kill)\/(j≠i/\dH=uC.pW i ver y)):=by
  rintro j dH g ⟨e1,e2⟩;rw[<-ho',KS,gE]at e1;cases hx:s.o[j]? with
  |none=>rw[hx]at e1;cases e1
  |some uC=>
   rw[hx]at e1;simp only[lR,cQ]at e1;refine⟨uC,⟨hx,e2⟩,?_⟩;by_cases hj:j=i
   .rw [eA hj]at e1;exact .inl ⟨hj,e1.symm⟩
   .rw [cU hj]at e1;exact .inr ⟨hj,e1.symm⟩
 have Ol:∀{j uC g},look s.o G j uC g->look o' G j (if j=i then uC.kill else uC.pW i ver y) g:=by rintro j uC g ⟨e1,e2⟩;refine⟨?_,e2⟩;rw[<-ho',KS,gE,e1];rfl
 have fz:∀uC:aD,(uC.pW i ver y).live=uC.live/\(uC.pW i ver y).box=uC.box/\(uC.pW i ver y).n=uC.n/\(uC.pW i ver y).ver=uC.ver/\(uC.pW i ver y).dY.length=uC.dY.length:=by intro uC;unfold aD.pW;split<;>simp[yD]
 have k:bR w (env B s.o G w) w (env B o' G w):=by
  refine uF (cX _) (λb hb=>⟨lY r hb,rfl⟩) r.len ?_ ?_
  .intro j uC g hl;have hf:=fz uC;by_cases hj:j=i
   .refine ⟨_,g,Ol hl,?_⟩;rw[eA hj];refine⟨cX _,λhb=> .inl hb,λEs=> ?_⟩;simp[aD.kill]at Es
   .refine ⟨_,g,Ol hl,?_⟩;rw[cU hj];exact⟨by rw[hf.2.2.2.1];exact cX _,λhb=> .inl (by rw[<-hf.2.1];exact hb),λEs=>⟨by rw[<-hf.1];exact Es,hf.2.2.1,λ_=>⟨rfl,rfl,hf.2.2.2.2⟩,λb hb hne=>⟨hb,hne,rfl⟩⟩⟩
  .intro j dH g b hl Es hF;obtain⟨uC,hl0,h⟩:=back hl;rcases h with⟨_,rfl⟩|⟨_,rfl⟩
   .simp [aD.kill]at Es
   .exact .inr ⟨j,uC,g,hl0,by rw[<-(fz uC).1];exact Es,hF⟩
 have hy:∀v,(env B s.o G w).H i ver v->R w (env B o' G w) y v []:=by
  intro v hv;obtain⟨Od,g,hl,_,hh,_⟩:=hv;obtain rfl:=cD (hl.1.symm.trans h1);have hv:=hh h2 h3;obtain⟨fp,⟨hlen,hown⟩,hnd,hF⟩:=r.ok i _ g hl h2;rw[rV]at hown;rw[<-hyy];simp only[R,jD];refine .inr ⟨g.a,g.cap,hv,⟨hlen,by rcases hown with h|⟨_,_,_,_,_,_,_,_,_,_,h,_⟩;simp[h.1];exact h⟩,.inr (.inr ⟨by simp,trivial,?_⟩)⟩;rcases hown with⟨h5,_⟩|⟨b,off,C,e,MZ,nA,ha,hbk,hz,k1,k2,k3,rfl,Jn⟩
  .left;rw[h5];rfl
  .right;have hA:∀x,g.F x->(env B o' G w).A x:=by
    intro x hx;have hfr:=r.fresh _ _ _ x hl h2 hx;refine⟨hfr.1.elim (λh=> .inl (B.gA x h)) (λh=> .inr ⟨h,hfr.2⟩),λj dH g' xY Es yh=> ?_⟩;obtain⟨uC,hl0,h⟩:=back xY;rcases h with⟨_,rfl⟩|⟨hj,rfl⟩
    .simp [aD.kill]at Es
    .exact hj (r.apart j i _ _ _ _ x hl0 hl (by rw[<-(fz uC).1];exact Es) h2 yh hx)
   have rt:jX (λ_=>some .view) false (env B s.o G w).plain (env B o' G w).plain g.F:=
    {own:=λt e=>by obtain rfl:=cD e;exact⟨by simp,λb hb=>hA b hb⟩
     view:=λt e=>by obtain rfl:=cD e;exact⟨rfl,λb hb=>(k.a b hb).1⟩
     iF:=λj t e=>by obtain rfl:=cD e;exact⟨by simp,.inl trivial,λb hb=>hb.elim⟩
     hh:=λh=>by cases h
     hl:=λh=>by cases h}
   exact⟨b,off,ha,hA b (hF b (by simp)),Du rt _ _ _ _ nA (λx hx=>hF x (by simp[hx])) Jn⟩
 refine⟨G,{len:= ?_,defs:=r.defs,ok:= ?_,apart:= ?_,fresh:= ?_,tmps:= ?_,size:=r.size,frame:=r.frame,base:=r.base,same:=r.same}⟩
 .simp only[AS.frozen,Iy];exact r.len
 .simp only[AS.frozen,hyy,ho'];intro j dH g hl Es;obtain⟨uC,hl0,h⟩:=back hl;rcases h with⟨_,rfl⟩|⟨hj,rfl⟩
  .simp [aD.kill]at Es
  obtain⟨fp,hown,hnd,hF⟩:=r.ok j _ g hl0 (by rw[<-(fz uC).1];exact Es);refine⟨fp,?_,hnd,hF⟩;cases hb0:uC.box with
  |false=>
   have e:uC.pW i ver y=uC:=by unfold aD.pW;rw[cU (by simp[hb0])]
   rw[e];rw[hb0]at hown⊢;exact hown.keeps k.plain (λ_ _=>rfl)
  |true=>
   have e:uC.pW i ver y={uC with dY:=rX i ver y uC.dY}:=by unfold aD.pW;rw[eA hb0]
   rw[e];simp only[hb0]at hown⊢;simp only[Env.of,eI]at hown⊢;obtain⟨hlen,hown⟩:=hown;refine⟨by rw[yD];exact hlen,?_⟩;rcases hown with h|⟨b,off,C,e,MZ,nA,ha,hbk,hz,k1,k2,k3,rfl,Jn⟩
   .exact .inl ⟨by rw[h.1];rfl,h.2⟩
   .exact .inr ⟨b,off,C,e,MZ,nA,ha,hbk,hz,k1,by rw[yD];exact k2,k3,rfl,ZX k hy _ _ _ _ _ Jn⟩
 .simp only[AS.frozen,hyy,ho'];intro p q op oq gp gq b hp hq hlp YU hFp hFq;obtain⟨op0,WJ,h⟩:=back hp;obtain⟨oq0,hq0,h'⟩:=back hq;rcases h with⟨_,rfl⟩|⟨_,rfl⟩
  .simp [aD.kill]at hlp
  rcases h' with⟨_,rfl⟩|⟨_,rfl⟩
  .simp [aD.kill]at YU
  exact r.apart p q _ _ _ _ b WJ hq0 (by rw[<-(fz op0).1];exact hlp) (by rw[<-(fz oq0).1];exact YU) hFp hFq
 .simp only[AS.frozen,hyy,ho'];intro j dH g b hl Es hF;obtain⟨uC,hl0,h⟩:=back hl;rcases h with⟨_,rfl⟩|⟨_,rfl⟩
  .simp [aD.kill]at Es
  exact r.fresh j _ g b hl0 (by rw[<-(fz uC).1];exact Es) hF
 .simp only[AS.frozen,hyy,ho'];exact KT k hy _ _ _ r.tmps
def aAj(P:Program)[aB P](o:Oper)(s:AS)(K:AS->Prop):Prop:=
 match o.op with
 | .slice _ x _ _ none=>match s.ev x with
  | .obj i ver=>match AV.isObj s.o i ver with
   |some ob=>ob.box=false/\nL P o (s.frozen i ver ob) K
   |none=>False
  |_=>False
 |_=>False
attribute [simp] pW rW rX rM aD.pW AS.frozen
mutual
def BQ:AV->Bool
 | .int _ _=>true
 | .bool _=>true
 | .str _=>true
 | .agg c=>Et c
 |_=>false
def Et:List AV->Bool
 |[]=>true
 |x::xs=>BQ x&&Et xs
end
mutual
theorem XN{w w':World}{E E':Env}:∀(x:AV) (v:Value) (fp:List Nat),BQ x=true->R w E x v fp->R w' E' x v fp
 | .int _ _,_,_,_,h=>by simpa [R]using h
 | .bool _,_,_,_,h=>by simpa [R]using h
 | .str _,_,_,_,h=>by simpa [R]using h
 | .agg c,v,fp,hc,h=>by simp only[R]at h⊢;obtain⟨cs,h1,h2,h3⟩:=h;exact⟨cs,h1,h2,Eu c cs fp (by simpa [BQ]using hc) h3⟩
 | .sl _ _ _,_,_,hc,_=>by simp[BQ]at hc
 | .eF _ _ _,_,_,hc,_=>by simp[BQ]at hc
 | .obj _ _,_,_,hc,_=>by simp[BQ]at hc
 | .ptr _ _ _ _,_,_,hc,_=>by simp[BQ]at hc
 | .fH _,_,_,hc,_=>by simp[BQ]at hc
 | .fn _ _,_,_,hc,_=>by simp[BQ]at hc
 | .undef,_,_,hc,_=>by simp[BQ]at hc
theorem Eu{w w':World}{E E':Env}:∀(c:List AV) (cs:List Value) (fp:List Nat),Et c=true->Rc w E c cs fp->Rc w' E' c cs fp
 |[],[],_,_,h=>by simpa [Rc]using h
 |[],_::_,_,_,h=>by simp[Rc]at h
 |_::_,[],_,_,h=>by simp[Rc]at h
 |x::xs,c::cs,fp,hc,h=>by simp only[Et,eC]at hc;simp only[Rc]at h⊢;obtain⟨f1,f2,h1,h2,h3⟩:=h;exact⟨f1,f2,XN x c f1 hc.1 h1,Eu xs cs f2 hc.2 h2,h3⟩
end
def qF(S:Nat->Prop):Env:=⟨S,λ_=>True,λ_ _=>False,λ_ _ _=>False,λ_ _ _ _ _=>False⟩
def aU(code:List UInt8)(i h:Int):List AV:=[.sl .view 1 (aR code),.int .i64 i,.int .i64 h]
theorem JY{w:World}{E E':Env}{n:Nat}{l:List (List AV)}{v:Value}{fp:List Nat}(k:bR w E.plain w E'.plain)(h:R w E (.sl .view n l) v fp):R w E' (.sl .view n l) v fp:=by
 simp only[R]at h⊢;rcases h with h|⟨a,cap,hv,hl,h⟩
 .exact h.1.elim
 .refine .inr ⟨a,cap,hv,hl,?_⟩;rcases h with h|h|⟨hg,Ec,h⟩
  .exact absurd h.1 (by simp)
  .exact absurd h.1 (by simp)
  .refine .inr (.inr ⟨hg,Ec,?_⟩);rcases h with h|⟨b,off,ha,ht,hr⟩
   .exact .inl h
   .refine .inr ⟨b,off,ha,(k.a b ht).1,?_⟩;exact kP k _ _ _ _ _ rfl (by simp) hr
theorem sZ{w:World}{E E':Env}{code:List UInt8}{i h:Int}{a:Option Addr}{cap:Nat}{fp:List Nat}(k:bR w E.plain w E'.plain)(ho:oD w E 3 [aU code i h] a cap fp):oD w E' 3 [aU code i h] a cap fp:=by
 refine⟨ho.1,?_⟩;rcases ho.2 with h0|⟨b,off,C,e,fz,nA,ha,hb,hz,h1,h2,h3,hf,hr⟩
 .exact absurd h0.1 (by simp)
 .refine .inr ⟨b,off,C,e,fz,nA,ha,hb,hz,h1,h2,h3,hf,?_⟩;simp only[Rr,aU,Rc]at hr⊢;obtain⟨cs,f1,f2,hn,hc,hone,rF,hf2,hfe⟩:=hr;refine⟨cs,f1,f2,hn,hc,hone,?_,hf2,hfe⟩;cases cs with
  |nil=>simp at hn
  |cons v0 cs=>
   cases cs with
   |nil=>simp at hn
   |cons v1 cs=>
    cases cs with
    |nil=>simp at hn
    |cons v2 cs=>
     simp only[Rc]at rF⊢;obtain⟨g1,g2,r1,r2,e1⟩:=rF;refine⟨g1,g2,JY k r1,?_,e1⟩;cases cs with
     |nil=>simpa [R,Rc]using r2
     |cons _ _=>simp at hn
theorem wZ{w:World}{E:Env}{code:List UInt8}{i h:Int}{a:Option Addr}{cap:Nat}{fp:List Nat}(ho:oD w E 3 [aU code i h] a cap fp):∃b off,a=some ⟨b,off,none⟩/\fp=[b]:=by
 rcases ho.2 with h0|⟨b,off,C,e,fz,nA,ha,hb,hz,h1,h2,h3,hf,hr⟩
 .exact absurd h0.1 (by simp)
 .refine ⟨b,off,ha,?_⟩;simp only[Rr,aU]at hr;obtain⟨cs,f1,f2,hn,hc,hone,rF,hf2,hfe⟩:=hr;cases cs with
  |nil=>simp at hn
  |cons v0 cs=>
   cases cs with
   |nil=>simp at hn
   |cons v1 cs=>
    cases cs with
    |nil=>simp at hn
    |cons v2 cs=>
     simp only[Rc,R]at rF;obtain⟨g1,g2,r1,⟨g3,g4,⟨_,r3⟩,⟨g5,g6,⟨_,r5⟩,r6,e3⟩,e2⟩,e1⟩:=rF;have hg1:g1=[]:=by
      rcases r1 with h|⟨_,_,_,_,h|h|h⟩
      .exact h.1.elim
      .exact absurd h.1 (by simp)
      .exact absurd h.1 (by simp)
      .exact h.2.1
     have hg6:g6=[]:=by cases cs with
      |nil=>simpa [Rc]using r6
      |cons _ _=>simp at hn
     subst hg1 r3 r5 hg6 e3 e2 e1 hf2 hfe;simp[hf]
mutual
def dO:AV->Bool
 | .int _ _=>true
 | .bool _=>true
 | .str _=>true
 | .sl .view _ _=>true
 | .sl .own _ []=>true
 | .agg c=>nR c
 |_=>false
def nR:List AV->Bool
 |[]=>true
 |x::xs=>dO x&&nR xs
end
mutual
theorem aDp{w:World}{E E':Env}(k:bR w E.plain w E'.plain):∀(x:AV) (v:Value) (fp:List Nat),dO x=true->R w E x v fp->R w E' x v fp
 | .int _ _,_,_,_,h=>by simpa [R]using h
 | .bool _,_,_,_,h=>by simpa [R]using h
 | .str _,_,_,_,h=>by simpa [R]using h
 | .sl .view _ _,_,_,_,h=>JY k h
 | .sl .own _ [],_,_,_,h=>by simpa [R,Rr,Env.dead]using h
 | .sl .own _ (_::_),_,_,hc,_=>by simp[dO]at hc
 | .sl (.iF _) _ _,_,_,hc,_=>by simp[dO]at hc
 | .agg c,v,fp,hc,h=>by simp only[R]at h⊢;obtain⟨cs,h1,h2,h3⟩:=h;exact⟨cs,h1,h2,O5 k c cs fp (by simpa [dO]using hc) h3⟩
 | .eF _ _ _,_,_,hc,_=>by simp[dO]at hc
 | .obj _ _,_,_,hc,_=>by simp[dO]at hc
 | .ptr _ _ _ _,_,_,hc,_=>by simp[dO]at hc
 | .fH _,_,_,hc,_=>by simp[dO]at hc
 | .fn _ _,_,_,hc,_=>by simp[dO]at hc
 | .undef,_,_,hc,_=>by simp[dO]at hc
theorem O5{w:World}{E E':Env}(k:bR w E.plain w E'.plain):∀(c:List AV) (cs:List Value) (fp:List Nat),nR c=true->Rc w E c cs fp->Rc w E' c cs fp
 |[],[],_,_,h=>by simpa [Rc]using h
 |[],_::_,_,_,h=>by simp[Rc]at h
 |_::_,[],_,_,h=>by simp[Rc]at h
 |x::xs,c::cs,fp,hc,h=>by simp only[nR,eC]at hc;simp only[Rc]at h⊢;obtain⟨f1,f2,h1,h2,h3⟩:=h;exact⟨f1,f2,aDp k x c f1 hc.1 h1,O5 k xs cs f2 hc.2 h2,h3⟩
end
theorem KU{w:World}{E E':Env}(k:bR w E.plain w E'.plain):∀{xs:List AV} {vs:List Value} {fp:List Nat},xs.all dO=true->Rc w E xs vs fp->Rc w E' xs vs fp
 |[],[],_,_,h=>by simpa [Rc]using h
 |[],_::_,_,_,h=>by simp[Rc]at h
 |_::_,[],_,_,h=>by simp[Rc]at h
 |x::xs,v::vs,fp,hx,h=>by simp only[CD,eC]at hx;simp only[Rc]at h⊢;obtain⟨f1,f2,h1,h2,e⟩:=h;exact⟨f1,f2,aDp k _ _ _ hx.1 h1,KU k hx.2 h2,e⟩
def Dx(w:World)(S:Nat->Prop)(b fo cap:Nat)(code:List UInt8):Prop:=
 ∃i h:Int,0<=i/\oD w (qF S) 3 [aU code i h] (some ⟨b,fo,none⟩) cap [b]
def Iz(P:Program)[aB P](f:FuncId)(xs:List AV)(Q:AV->Prop):Prop:=
 ∀(w:World) (S:Nat->Prop) (b fo cap:Nat) (code:List UInt8) (vs:List Value),aB.holds P w->aB.low P<=b->b<w.heap.size->¬S b->(∀x,S x->x<w.heap.size)->Dx w S b fo cap code->Rc w (qF S) xs vs []->
  Calls P f (.pointer (some ⟨b,fo,none⟩)::vs).toArray w λe w'=>∃r v fp,e= .returned v/\Q r/\R w' (qF λx=>(S x\/(w.heap.size<=x/\x<w'.heap.size))/\x∉fp) r v fp/\fp.Nodup/\(∀x∈fp,w.heap.size<=x/\x<w'.heap.size)/\w.heap.size<=w'.heap.size/\
   (∀x,x<w.heap.size->x≠b->w'.heap[x]? =w.heap[x]?)/\iW w w'/\Dx w' (λx=>(S x\/(w.heap.size<=x/\x<w'.heap.size))/\x∉fp) b fo cap code
def AS.drew(s:AS)(dst:Option Tmp)(k ver:Nat)(code:List UInt8)(i h:Int)(r:AV):AS:=AS.called ⟨s.t,s.o.set k ⟨true,true,3,ver,[aU code i h]⟩⟩ dst r
theorem Om{o:List aD}{G:List CO}{k i:Nat}{dH Jq:aD}{g2:CO}(h:look (o.set k dH) G i Jq g2):(i=k/\Jq=dH/\k<o.length/\G[k]? =some g2)\/(i≠k/\look o G i Jq g2):=by
 obtain⟨h1,h2⟩:=h;by_cases hik:i=k
 .subst hik;have hl:i<o.length:=by have:=(cA.1 h1).1;simpa using this
  rw[nF hl]at h1;exact .inl ⟨rfl,(cD h1).symm,hl,h2⟩
 .rw [gO (λh=>hik h.symm)]at h1
  exact .inr ⟨hik,h1,h2⟩
theorem ZY(f x:Operand)(ys:List Operand)(Fj:Array TypeId){g:FuncId}{k ver:Nat}{code:List UInt8}{i h:Int}{Q:AV->Prop}(hf:s.ev f= .fn g [])(hc:bJ P g=true)
  (hx:s.ev x= .ptr k ver 0 0) (ho:AV.isObj s.o k ver=some ⟨true,true,3,ver,[aU code i h]⟩) (h0:0<=i) (hfl:(ys.map s.ev).all dO=true) (qD:Iz P g (ys.map s.ev) Q)
  (a:Act) (w:World) (next:Act->World->Prop) (X:Exit->Act->World->Prop) (hr:Rel B s a w)
  (hn:∀r i' h' a' w',Q r->0<=i'->Rel B (s.drew dst k ver code i' h' r) a' w'->next a' w'):
  Oper.wp P ⟨dst,.call {callee:= .value f,args:=⟨x::ys⟩,argTypes:=Fj},ty,pos,after,gd⟩ a w next X:=by
 obtain⟨G,r⟩:=hr;have h1:=r.ev f;rw[hf]at h1;simp only[R]at h1;obtain⟨_,cs,hv,nQ⟩:=h1;have hcs:cs=[]:=by cases cs with
  |nil=>rfl
  |cons _ _=>simp[Rc]at nQ
 subst hcs;obtain⟨go,b,fo,hl,hlive,hga,hpv⟩:=r.ptr hx ho;obtain⟨Jr,hown,aAa,hF0⟩:=r.ok k _ go hl rfl;have hb1:AV.isObj s.o k ver=some ⟨true,true,3,ver,[aU code i h]⟩:=ho;simp only[Env.of,eI]at hown;obtain⟨b2,aHg,ZI,rfl⟩:=wZ hown;rw[hga]at ZI;simp only[cQ,lA,mN]at ZI;obtain⟨rfl,rfl⟩:=ZI;have zO:go.F b:=hF0 b (by simp);have Ev:=r.fresh k _ go b hl rfl zO;have za:¬(env B s.o G w).A b:=λhA=>hA.2 k _ go hl rfl zO
 have hS:∀x,(env B s.o G w).A x->x<w.heap.size:=λx hx=>lY r hx
 have Va:Dx w (env B s.o G w).A b fo go.cap code:=by refine⟨i,h,h0,?_⟩;rw[hga]at hown;exact sZ (E:=env B s.o G w) ⟨λ_ h=>⟨h,rfl⟩,λ_ _=>trivial,λ_ _ _ h=>h.elim,λ_ _ _ h=>h.elim,λ_ _ _ _ _ h=>h.elim⟩ hown
 have hargs:Rc w (env B s.o G w) (ys.map s.ev) (ys.map a.eval) []:=qN r ys;have zR:=qD w _ b fo go.cap code _ r.holds (r.Il Ev.1) Ev.2 za hS Va (KU (E:=env B s.o G w) (E':=qF (env B s.o G w).A) ⟨λ_ h=>⟨h,rfl⟩,λ_ _=>trivial,λ_ _ _ h=>h.elim,λ_ _ _ h=>h.elim,λ_ _ _ _ _ h=>h.elim⟩ hfl hargs);unfold Oper.wp;have hrun:(execOp a.eval ⟨dst,.call {callee:= .value f,args:=⟨x::ys⟩,argTypes:=Fj},ty,pos,after,gd⟩).run P w= .ok (.enter g (.pointer (some ⟨b,fo,none⟩)::ys.map a.eval).toArray) w:=by
  have e:(⟨x::ys⟩:Array Operand).map a.eval=(.pointer (some ⟨b,fo,none⟩)::ys.map a.eval).toArray:=by apply AM;simp[hpv]
  simp[execOp,resolve,hv,Deferred.ofValue,invoke,oK hc,e]
 rw[hrun,tU];refine zR.mono λe w' hp=> ?_
 obtain⟨rv,v,fp,rfl,hQ,Jn,hnd,hfr,hsz,iN,wW,i',h',hi',ZZ⟩:=hp;refine hn rv i' h' _ _ hQ hi' ?_;obtain⟨Gs,hlen,rJ,hap,vH⟩:=vG (q:=1) rv v fp s.o.length Jn hnd;generalize qC:(⟨true,true,3,ver,[aU code i' h']⟩:aD)=dH;have JZ:(s.o.set k dH).length=s.o.length:=by simp
 have uw:G.length=(s.o.set k dH).length:=by rw[JZ,r.len]
 generalize xZ:(bV 1 s.o.length rv).2=news at*;have zF:∀{j ob g2 x},look news Gs j ob g2->g2.F x->x∈fp:=by intro j ob g2 x hl2 hF;obtain⟨_,_,_,f',_,_,h3,h4⟩:=rJ _ _ _ hl2;exact h4 _ ((h3 _).1 hF)
 have lk:∀{j ob g2},look (s.o.set k dH++news) (G++Gs) j ob g2->(∃j',look news Gs j' ob g2/\j=s.o.length+j')\/(j=k/\ob=dH/\g2=go)\/(j≠k/\look s.o G j ob g2):=by
  intro j ob g2 h2;rcases jV uw h2 with⟨_,h2⟩|⟨hj,h2⟩
  .rcases Om h2 with⟨rfl,rfl,_,hg⟩|⟨hne,h2⟩
   .exact .inr (.inl ⟨rfl,rfl,cD (hg.symm.trans hl.2)⟩)
   .exact .inr (.inr ⟨hne,h2⟩)
  .exact .inl ⟨_,h2,by rw[JZ]at hj⊢;omega⟩
 have back:∀{j ob g2},look s.o G j ob g2->j≠k->look (s.o.set k dH++news) (G++Gs) j ob g2:=by intro j ob g2 h2 hne;refine iO ⟨?_,h2.2⟩;rw[gO (λh=>hne h.symm)];exact h2.1
 have hkl:k<s.o.length:=(cA.1 hl.1).1;have aa:look (s.o.set k dH++news) (G++Gs) k dH go:=iO ⟨nF hkl,hl.2⟩;have Ew:∀j ob g2 x,look s.o G j ob g2->ob.live=true->g2.F x->x≠b->w'.heap[x]? =w.heap[x]?:=λj ob g2 x h2 dZ hF hne=>iN x (r.fresh j ob g2 x h2 dZ hF).2 hne
 have hE:bR w (env B s.o G w) w' (env B (s.o.set k dH++news) (G++Gs) w'):=by
  refine uF hsz (λx hA=>⟨lY r hA,iN x (lY r hA) (λe=>za (e▸hA))⟩) r.len ?_ ?_
  .intro j ob g2 h2;by_cases hjk:j=k
   .rw [hjk]at h2⊢;obtain⟨rfl,rfl⟩:=jE h2 hl;refine⟨dH,g2,aa,by rw[<-qC];exact cX _,λ_=> .inl rfl,λ_=>⟨rfl,by rw[<-qC],λ_=>⟨rfl,rfl,by rw[<-qC];rfl⟩,λx hF hne=>⟨hF,hne,?_⟩⟩⟩;exact Ew _ _ _ x h2 rfl hF (λe=>hne _ hga (by rw[e]))
   .refine ⟨ob,g2,back h2 hjk,cX _,λh=> .inl h,λdZ=>⟨dZ,rfl,λ_=>⟨rfl,rfl,rfl⟩,λx hF hne=>⟨hF,hne,?_⟩⟩⟩
    exact Ew _ _ _ x h2 dZ hF (λe=>hjk (r.apart _ _ _ _ _ _ b h2 hl dZ rfl (e▸hF) zO))
  .intro j ob g2 x h2 dZ hF;rcases lk h2 with⟨j',h3,_⟩|⟨e1,e2,e3⟩|⟨_,h3⟩
   .exact .inl (hfr _ (zF h3 hF)).1
   .exact .inr ⟨_,_,_,hl,rfl,e3▸hF⟩
   .exact .inr ⟨j,ob,g2,h3,dZ,hF⟩
 have hA':∀x,((env B s.o G w).A x\/(w.heap.size<=x/\x<w'.heap.size))/\x∉fp->(env B (s.o.set k dH++news) (G++Gs) w').A x:=by
  rintro x ⟨hx,hxf⟩;refine⟨?_,λj ob g2 h2 dZ hF=> ?_⟩
  .rcases hx with hx|hx
   .rcases hx.1 with h|h
    .exact .inl h
    .exact .inr ⟨h.1,fS h.2 hsz⟩
   .exact .inr ⟨fW r.size hx.1,hx.2⟩
  .rcases lk h2 with⟨j',h3,_⟩|⟨e1,e2,e3⟩|⟨_,h3⟩
   .exact hxf (zF h3 hF)
   .rw [e3]at hF;rcases hx with hx|hx
    .exact hx.2 _ _ _ hl rfl hF
    .have:=(r.fresh _ _ _ x hl rfl hF).2;omega
   .rcases hx with hx|hx
    .exact hx.2 _ _ _ h3 dZ hF
    .have:=(r.fresh _ _ _ x h3 dZ hF).2;omega
 have kn:bR w' (qF λx=>((env B s.o G w).A x\/(w.heap.size<=x/\x<w'.heap.size))/\x∉fp) w' (env B (s.o.set k dH++news) (G++Gs) w'):=
  ⟨λx hx=>⟨hA' x hx,rfl⟩,λ_ _=>trivial,λ_ _ _ h=>h.elim,λ_ _ _ h=>h.elim,λ_ _ _ _ _ h=>h.elim⟩
 have kp:bR w' (qF λx=>((env B s.o G w).A x\/(w.heap.size<=x/\x<w'.heap.size))/\x∉fp).plain w' (env B (s.o.set k dH++news) (G++Gs) w').plain:=
  ⟨λx hx=>⟨hA' x hx,rfl⟩,λ_ _=>trivial,λ_ _ _ h=>h.elim,λ_ _ _ h=>h.elim,λ_ _ _ _ _ h=>h.elim⟩
 have zb:∀{j ob g2 x},look s.o G j ob g2->ob.live=true->g2.F x->j≠k->x≠b:=λh2 dZ hF hne e=>hne (r.apart _ _ _ _ _ _ b h2 hl dZ rfl (e▸hF) zO)
 have hnext:bU B ⟨s.t,s.o.set k dH++news⟩ (G++Gs) a w':=by
  refine r.next hE (by simp[r.len,hlen]) ?_ ?_ ?_ hsz ?_ wW
  .intro j ob g2 h2 dZ;rcases lk h2 with⟨j',h3,_⟩|⟨e1,e2,e3⟩|⟨hne,h3⟩
   .obtain ⟨q1,q2,_,f',sV,q3,q4,q5⟩:=rJ _ _ _ h3;refine⟨f',?_,q3,λx hx=>(q4 x).2 hx⟩;have:=sV.keeps kn.plain (λ_ _=>rfl);rw[q2];exact this
   .rw [e2,e3];refine⟨[b],?_,by simp,by simpa using zO⟩;have h5:dH.box=true/\dH.n=3/\dH.dY=[aU code i' h']:=by rw[<-qC];exact⟨rfl,rfl,rfl⟩
    rw[h5.1,h5.2.1,h5.2.2,hga];simp only[Env.of,eI];exact sZ kp ZZ
   .exact (r.ok j ob g2 h3 dZ).keeps hE λx hx=>Ew j ob g2 x h3 dZ hx (zb h3 dZ hx hne)
  .intro j1 j2 o1 o2 g1 g2 x a1 a2 l1 l2 f1 f2;rcases lk a1 with⟨j',c1,d1⟩|⟨d1,d2,d3⟩|⟨d1,c1⟩<;>rcases lk a2 with⟨j'',c2,d4⟩|⟨d4,d5,d6⟩|⟨d4,c2⟩
   .have:=hap _ _ _ _ _ _ x c1 c2 f1 f2;omega
   .have q1:=(hfr _ (zF c1 f1)).1;have q2:=(r.fresh _ _ _ x hl rfl (d6▸f2)).2;omega
   .have q1:=(hfr _ (zF c1 f1)).1;have q2:=(r.fresh _ _ _ x c2 l2 f2).2;omega
   .have q1:=(hfr _ (zF c2 f2)).1;have q2:=(r.fresh _ _ _ x hl rfl (d3▸f1)).2;omega
   .omega
   .exact absurd (r.apart _ _ _ _ _ _ x c2 hl l2 rfl f2 (d3▸f1)) d4
   .have q1:=(hfr _ (zF c2 f2)).1;have q2:=(r.fresh _ _ _ x c1 l1 f1).2;omega
   .exact absurd (r.apart _ _ _ _ _ _ x c1 hl l1 rfl f1 (d6▸f2)) d1
   .exact r.apart _ _ _ _ _ _ x c1 c2 l1 l2 f1 f2
  .intro j ob g2 x h2 dZ hF;rcases lk h2 with⟨j',h3,_⟩|⟨e1,e2,e3⟩|⟨hne,h3⟩
   .have:=hfr _ (zF h3 hF);exact⟨.inr (fW r.size this.1),this.2⟩
   .have:=r.fresh _ _ _ x hl rfl (e3▸hF);exact⟨this.1,fS this.2 hsz⟩
   .have:=r.fresh _ _ _ x h3 dZ hF;exact⟨this.1,fS this.2 hsz⟩
  .intro x hx hO;refine iN x (fS hx r.size) λe=> ?_
   rcases Ev.1 with h|h
   .exact hO (e▸h)
   .omega
 refine⟨G++Gs,?_⟩;have hd:s.drew dst k ver code i' h' rv=AS.put ⟨s.t,s.o.set k dH++news⟩ dst (bV 1 s.o.length rv).1:=by simp only[AS.drew,AS.called,length_set,qC,xZ]
 rw[hd];refine hnext.put dst ?_;refine vH _ kn λj ob g2 h2=> ?_
 obtain⟨_,_,q3,_⟩:=rJ _ _ _ h2;have h3:=jF (o:=s.o.set k dH) (G:=G) uw h2;rw[JZ]at h3;exact⟨ob,g2,h3,rB q3.symm,λ_ _=>rfl,λh=>absurd h (by decide)⟩
def XO(P:Program)[aB P](f:FuncId)(args:List AV)(Q:AV->Prop):Prop:=
 ∀(w:World) (S:Nat->Prop) (vs:List Value),aB.holds P w->(∀x,S x->x<w.heap.size)->Rc w (qF S) args vs []->
  Calls P f vs.toArray w λe w'=>∃r v fp,e= .returned v/\Q r/\R w' (qF λx=>(S x\/(w.heap.size<=x/\x<w'.heap.size))/\x∉fp) r v fp/\fp.Nodup/\
   (∀b∈fp,w.heap.size<=b/\b<w'.heap.size)/\w.heap.size<=w'.heap.size/\(∀b,b<w.heap.size->w'.heap[b]? =w.heap[b]?)/\iW w w'
def XP(P:Program)[aB P](f:FuncId):Prop:=
 ∀(w:World) (S:Nat->Prop) (v:Value) (code:List UInt8),aB.holds P w->(∀x,S x->x<w.heap.size)->R w (qF S) (.sl .view 1 (aR code)) v []->
  Calls P f #[v] w λe w'=>∃b fo cap,e= .returned (.pointer (some ⟨b,fo,none⟩))/\w.heap.size<=b/\b<w'.heap.size/\Dx w' (λx=>(S x\/(w.heap.size<=x/\x<w'.heap.size))/\x≠b) b fo cap code/\
   w.heap.size<=w'.heap.size/\(∀b,b<w.heap.size->w'.heap[b]? =w.heap[b]?)/\iW w w'
def AS.KV(s:AS)(dst:Option Tmp)(code:List UInt8)(i h:Int):AS:=AS.put ⟨s.t,s.o++[⟨true,true,3,0,[aU code i h]⟩]⟩ dst (.ptr s.o.length 0 0 0)
theorem Vb(f:Operand)(ys:List Operand)(Fj:Array TypeId){g:FuncId}{Q:AV->Prop}(hf:s.ev f= .fn g [])(hc:bJ P g=true)
  (hfl:(ys.map s.ev).all dO=true) (qD:XO P g (ys.map s.ev) Q) (a:Act) (w:World) (next:Act->World->Prop) (X:Exit->Act->World->Prop) (hr:Rel B s a w)
  (hn:∀r a' w',Q r->Rel B (s.called dst r) a' w'->next a' w'):
  Oper.wp P ⟨dst,.call {callee:= .value f,args:=⟨ys⟩,argTypes:=Fj},ty,pos,after,gd⟩ a w next X:=by
 obtain⟨G,r⟩:=hr;have h1:=r.ev f;rw[hf]at h1;simp only[R]at h1;obtain⟨_,cs,hv,nQ⟩:=h1;have hcs:cs=[]:=by cases cs with
  |nil=>rfl
  |cons _ _=>simp[Rc]at nQ
 subst hcs;have hargs:Rc w (env B s.o G w) (ys.map s.ev) (ys.map a.eval) []:=qN r ys;have zR:=qD w (env B s.o G w).A _ r.holds (λx hx=>lY r hx) (KU (E:=env B s.o G w) (E':=qF (env B s.o G w).A) ⟨λ_ h=>⟨h,rfl⟩,λ_ _=>trivial,λ_ _ _ h=>h.elim,λ_ _ _ h=>h.elim,λ_ _ _ _ _ h=>h.elim⟩ hfl hargs);unfold Oper.wp;have hrun:(execOp a.eval ⟨dst,.call {callee:= .value f,args:=⟨ys⟩,argTypes:=Fj},ty,pos,after,gd⟩).run P w= .ok (.enter g (ys.map a.eval).toArray) w:=by
  have e:(⟨ys⟩:Array Operand).map a.eval=(ys.map a.eval).toArray:=by apply AM;simp
  simp[execOp,resolve,hv,Deferred.ofValue,invoke,oK hc,e]
 rw[hrun,tU];refine zR.mono λe w' h=> ?_
 obtain⟨rr,v,fp,rfl,hQ,Jn,hnd,hfr,hsz,iN,wW⟩:=h;refine hn rr _ _ hQ ?_;obtain⟨Gs,hlen,rJ,hap,vH⟩:=vG (q:=1) rr v fp s.o.length Jn hnd;have kn:bR w' (qF λx=>((env B s.o G w).A x\/(w.heap.size<=x/\x<w'.heap.size))/\x∉fp) w' (env B (s.o++(bV 1 s.o.length rr).2) (G++Gs) w'):=by
  refine⟨λb hb=>⟨⟨?_,λi ob g hl hlive hF=> ?_⟩,rfl⟩,λ_ _=>trivial,λ_ _ _ h=>h.elim,λ_ _ _ h=>h.elim,λ_ _ _ _ _ h=>h.elim⟩
  .rcases hb.1 with h|h
   .rcases h.1 with h|h
    .exact .inl h
    .exact .inr ⟨h.1,fS h.2 hsz⟩
   .exact .inr ⟨fW r.size h.1,h.2⟩
  .rcases jV r.len hl with⟨_,h⟩|⟨_,h⟩
   .rcases hb.1 with h1|h1
    .exact h1.2 _ _ _ h hlive hF
    .have:=(r.fresh _ _ _ b h hlive hF).2;omega
   .obtain ⟨_,_,_,f,_,_,h3,h4⟩:=rJ _ _ _ h;exact hb.2 (h4 _ ((h3 _).1 hF))
 have hadd:=r.add (bV 1 s.o.length rr).2 Gs w' hlen hsz iN (λj ob g b hl _ hF=>by
   obtain⟨_,_,_,f,_,_,h3,h4⟩:=rJ _ _ _ hl;exact hfr _ (h4 _ ((h3 _).1 hF))) (λi j oi oj gi gj b hi hj _ _ Ei GG=>hap _ _ _ _ _ _ b hi hj Ei GG) (λk j ob g hl _=>by
   obtain⟨h1,h2,_,f,hown,h3,h4,h5⟩:=rJ _ _ _ hl;refine⟨f,?_,h3,λb hb=>(h4 b).2 hb⟩;have:=hown.keeps kn.plain (λ_ _=>rfl);rw[h2];exact this) wW
 refine⟨G++Gs,hadd.1.put dst ?_⟩;refine vH _ kn λj ob g hl=> ?_
 obtain⟨_,_,h3,_⟩:=rJ _ _ _ hl;exact⟨ob,g,jF r.len hl,rB h3.symm,λ_ _=>rfl,λh=>absurd h (by decide)⟩
theorem Sc(f x:Operand)(Fj:Array TypeId){g:FuncId}{code:List UInt8}(hf:s.ev f= .fn g [])(hc:bJ P g=true)(hx:s.ev x= .sl .view 1 (aR code))
  (qD:XP P g) (a:Act) (w:World) (next:Act->World->Prop) (X:Exit->Act->World->Prop) (hr:Rel B s a w)
  (hn:∀i h a' w',0<=i->Rel B (s.KV dst code i h) a' w'->next a' w'):
  Oper.wp P ⟨dst,.call {callee:= .value f,args:=#[x],argTypes:=Fj},ty,pos,after,gd⟩ a w next X:=by
 obtain⟨G,r⟩:=hr;have h1:=r.ev f;rw[hf]at h1;simp only[R]at h1;obtain⟨_,cs,hv,nQ⟩:=h1;have hcs:cs=[]:=by cases cs with
  |nil=>rfl
  |cons _ _=>simp[Rc]at nQ
 subst hcs;have hxv:=r.ev x;rw[hx]at hxv;have zR:=qD w (env B s.o G w).A _ code r.holds (λx hx=>lY r hx) (JY (E:=env B s.o G w) (E':=qF (env B s.o G w).A) ⟨λb hb=>⟨hb,rfl⟩,λ_ _=>trivial,λ_ _ _ h=>h.elim,λ_ _ _ h=>h.elim,λ_ _ _ _ _ h=>h.elim⟩ hxv);unfold Oper.wp;have hrun:(execOp a.eval ⟨dst,.call {callee:= .value f,args:=#[x],argTypes:=Fj},ty,pos,after,gd⟩).run P w= .ok (.enter g #[a.eval x]) w:=by simp[execOp,resolve,hv,Deferred.ofValue,invoke,oK hc]
 rw[hrun,tU];refine zR.mono λe w' h=> ?_
 obtain⟨b,fo,cap,rfl,hb1,hb2,⟨i,h,hi,hown⟩,hsz,iN,wW⟩:=h;refine hn i h _ _ hi ?_;have hadd:=r.add [⟨true,true,3,0,[aU code i h]⟩] [⟨some ⟨b,fo,none⟩,cap,(· =b)⟩] w' rfl hsz iN
  (by
   rintro j ob g2 x ⟨q1,q2⟩ _ hF;cases j with
   |zero=>simp at q2;subst q2;simp at hF;subst hF;exact⟨hb1,hb2⟩
   |succ j=>simp at q2)
  (by
   rintro i j _ _ _ _ _ ⟨q1,_⟩ ⟨q2,_⟩ _ _ _ _;cases i<;>cases j<;>simp_all)
  (by
   rintro k j ob g2 ⟨q1,q2⟩ _;cases j with
   |zero=>
    simp at q1 q2;subst q1;subst q2;refine⟨[b],?_,by simp,by simp⟩;simp only[Env.of,eI];refine sZ ⟨λx hx=>⟨⟨?_,λj ob g2 h2 dZ hF=> ?_⟩,rfl⟩,λ_ _=>trivial,λ_ _ _ h=>h.elim,λ_ _ _ h=>h.elim,λ_ _ _ _ _ h=>h.elim⟩ hown
    .rcases hx.1 with h|h
     .rcases h.1 with h|h
      .exact .inl h
      .exact .inr ⟨h.1,fS h.2 hsz⟩
     .exact .inr ⟨fW r.size h.1,h.2⟩
    .rcases jV r.len h2 with⟨_,h2⟩|⟨_,h2⟩
     .rcases hx.1 with h|h
      .exact h.2 _ _ _ h2 dZ hF
      .have:=(r.fresh _ _ _ x h2 dZ hF).2;omega
     .obtain ⟨q1,q2⟩:=h2;generalize j-s.o.length=jj at*;cases jj with
      |zero=>simp at q2;subst q2;exact hx.2 hF
      |succ j=>simp at q2
   |succ j=>simp at q1) wW
 have hp:R w' (env B (s.o++[⟨true,true,3,0,[aU code i h]⟩]) (G++[⟨some ⟨b,fo,none⟩,cap,(· =b)⟩]) w') (.ptr s.o.length 0 0 0) (.pointer (some ⟨b,fo,none⟩)) []:=by simp only[R];exact⟨trivial,⟨true,true,3,0,[aU code i h]⟩,⟨some ⟨b,fo,none⟩,cap,(· =b)⟩,⟨by simp,by rw[<-r.len];simp⟩,cX _,λ_ _=>⟨b,fo,rfl,by simp⟩,λ_ h=>by cases h⟩
 exact⟨_,hadd.1.put dst hp⟩
theorem GQ:∀(u:List Nat) (o:List aD),(qY u o).length=o.length
 |[],_=>rfl
 |j::u,o=>by rw[qY,GQ u];unfold BJ;split<;>simp
theorem Ex:∀(u:List Nat) (o:List aD) {i:Nat} {ob:aD},i∈u->(qY u o)[i]? =some ob->ob.live=false
 |[],_,_,_,h,_=>by simp at h
 |j::u,o,i,ob,h,hk=>by
  rw[qY]at hk;by_cases hi:i∈u
  .exact Ex u _ hi hk
  .obtain rfl:i=j:=by simpa [hi]using h
   rw[CP i u _ hi]at hk;unfold BJ at hk;split at hk
   .rename_i uC h0;rw[nF (cA.1 h0).1]at hk;obtain rfl:=cD hk;rfl
   .rename_i h0;rw[h0]at hk;cases hk
theorem KW:∀(u:List Nat) (o:List aD) {i:Nat} {ob:aD},o[i]? =some ob->∃Jq,(qY u o)[i]? =some Jq/\Jq.ver=ob.ver/\Jq.box=ob.box
 |[],_,_,ob,h=>⟨ob,h,rfl,rfl⟩
 |j::u,o,i,ob,h=>by
  rw[qY];have:∃Od,(BJ j o)[i]? =some Od/\Od.ver=ob.ver/\Od.box=ob.box:=by
   by_cases hij:i=j
   .subst hij;refine⟨ob.kill,?_,rfl,rfl⟩;unfold BJ;rw[h];exact nF (cA.1 h).1
   .exact ⟨ob,by rw[NZ j i o hij];exact h,rfl,rfl⟩
  obtain⟨Od,h1,h2,h3⟩:=this;obtain⟨Jq,g1,g2,g3⟩:=KW u _ h1;exact⟨Jq,g1,g2.trans h2,g3.trans h3⟩
def OkX(P:Program)[aB P](f:FuncId)(x:AV)(zs:List AV)(Q:AV->Prop):Prop:=
 ∀(w:World) (S:Nat->Prop) (b fo cap:Nat) (code:List UInt8) (v:Value) (Jr:List Nat) (vs:List Value),aB.holds P w->aB.low P<=b->b<w.heap.size->¬S b->(∀x,S x->x<w.heap.size)->Dx w S b fo cap code->
  (∀y∈Jr,aB.low P<=y/\y<w.heap.size/\y≠b/\¬S y)->Jr.Nodup->R w (qF S) x v Jr->Rc w (qF S) zs vs []->
  Calls P f (.pointer (some ⟨b,fo,none⟩)::v::vs).toArray w λe w'=>∃r u fp,e= .returned u/\Q r/\R w' (qF λx=>(S x\/x∈Jr\/(w.heap.size<=x/\x<w'.heap.size))/\x∉fp) r u fp/\fp.Nodup/\
   (∀x∈fp,(x∈Jr\/w.heap.size<=x)/\x<w'.heap.size)/\w.heap.size<=w'.heap.size/\(∀x,x<w.heap.size->x≠b->x∉Jr->w'.heap[x]? =w.heap[x]?)/\iW w w'/\
   Dx w' (λx=>(S x\/x∈Jr\/(w.heap.size<=x/\x<w'.heap.size))/\x∉fp) b fo cap code
def AS.Oo(s:AS)(dst:Option Tmp)(k ver:Nat)(code:List UInt8)(i h:Int)(u:List Nat)(r:AV):AS:=AS.called ⟨s.t,(qY u s.o).set k ⟨true,true,3,ver,[aU code i h]⟩⟩ dst r
theorem XQ(f x y:Operand)(ys:List Operand)(Fj:Array TypeId){g:FuncId}{k ver:Nat}{code:List UInt8}{i h:Int}{xv:AV}{Q:AV->Prop}(hf:s.ev f= .fn g [])(hc:bJ P g=true)
  (hx:s.ev x= .ptr k ver 0 0) (ho:AV.isObj s.o k ver=some ⟨true,true,3,ver,[aU code i h]⟩) (h0:0<=i) (hry:gG s.o (s.ev y)=true) (huy:(k::iB (s.ev y)).Nodup) (hxv:res s.o (s.ev y)=xv)
  (hfl:(ys.map s.ev).all dO=true) (qD:OkX P g xv (ys.map s.ev) Q)
  (a:Act) (w:World) (next:Act->World->Prop) (X:Exit->Act->World->Prop) (hr:Rel B s a w)
  (hn:∀r i' h' a' w',Q r->0<=i'->Rel B (s.Oo dst k ver code i' h' (iB (s.ev y)) r) a' w'->next a' w'):
  Oper.wp P ⟨dst,.call {callee:= .value f,args:=⟨x::y::ys⟩,argTypes:=Fj},ty,pos,after,gd⟩ a w next X:=by
 obtain⟨G,r⟩:=hr;have h1:=r.ev f;rw[hf]at h1;simp only[R]at h1;obtain⟨_,cs,hv,nQ⟩:=h1;have hcs:cs=[]:=by cases cs with
  |nil=>rfl
  |cons _ _=>simp[Rc]at nQ
 subst hcs;obtain⟨go,b,fo,hl,hlive,hga,hpv⟩:=r.ptr hx ho;obtain⟨Jr,hown,aAa,hF0⟩:=r.ok k _ go hl rfl;simp only[Env.of,eI]at hown;obtain⟨b2,aHg,ZI,rfl⟩:=wZ hown;rw[hga]at ZI;simp only[cQ,lA,mN]at ZI;obtain⟨rfl,rfl⟩:=ZI;have zO:go.F b:=hF0 b (by simp);have Ev:=r.fresh k _ go b hl rfl zO;have za:¬(env B s.o G w).A b:=λhA=>hA.2 k _ go hl rfl zO
 have hS:∀x,(env B s.o G w).A x->x<w.heap.size:=λx hx=>lY r hx
 have Va:Dx w (env B s.o G w).A b fo go.cap code:=by refine⟨i,h,h0,?_⟩;rw[hga]at hown;exact sZ (E:=env B s.o G w) ⟨λ_ h=>⟨h,rfl⟩,λ_ _=>trivial,λ_ _ _ h=>h.elim,λ_ _ _ h=>h.elim,λ_ _ _ _ _ h=>h.elim⟩ hown
 rw[hY]at huy;generalize hu:iB (s.ev y)=u at*;obtain⟨Oq,hRx,aAk,ze⟩:=Bp r (s.ev y) _ hry (hu▸huy.2) (r.ev y);rw[hxv]at hRx;rw[hu]at ze;have Sa:=huy.1;have Rs:∀z∈Oq,((B.O0 z\/B.w0.heap.size<=z)/\z<w.heap.size)/\z≠b/\¬(env B s.o G w).A z:=λz hz=>by obtain⟨j,oj,gj,hj,hlj,hjl,Ir⟩:=ze z hz;refine⟨r.fresh _ _ _ z hlj hjl Ir,λe=> ?_,λhA=>hA.2 _ _ _ hlj hjl Ir⟩;have:=r.apart _ _ _ _ _ _ b hlj hl hjl rfl (e▸Ir) zO;exact Sa (this▸hj)
 have zN:∀{j ob g2 z},look s.o G j ob g2->ob.live=true->g2.F z->j∉u->z∉Oq:=fun {j ob g2 z} h2 hl2 hF Ka hz=>by obtain⟨j',oj,gj,hj,hlj,hjl,Ir⟩:=ze z hz;exact Ka (r.apart _ _ _ _ _ _ z h2 hlj hl2 hjl hF Ir▸hj)
 have hargs:Rc w (env B s.o G w) (ys.map s.ev) (ys.map a.eval) []:=qN r ys;have kS:bR w (env B s.o G w).plain w (qF (env B s.o G w).A):=⟨λ_ h=>⟨h,rfl⟩,λ_ _=>trivial,λ_ _ _ h=>h.elim,λ_ _ _ h=>h.elim,λ_ _ _ _ _ h=>h.elim⟩;have zR:=qD w _ b fo go.cap code _ Oq _ r.holds (r.Il Ev.1) Ev.2 za hS Va (λz hz=>⟨r.Il (Rs z hz).1.1,(Rs z hz).1.2,(Rs z hz).2⟩) aAk (jS kS _ _ _ (λ_ _=>rfl) hRx)
  (KU (E:=env B s.o G w) (E':=qF (env B s.o G w).A) kS hfl hargs)
 unfold Oper.wp;have hrun:(execOp a.eval ⟨dst,.call {callee:= .value f,args:=⟨x::y::ys⟩,argTypes:=Fj},ty,pos,after,gd⟩).run P w= .ok (.enter g (.pointer (some ⟨b,fo,none⟩)::a.eval y::ys.map a.eval).toArray) w:=by
  have e:(⟨x::y::ys⟩:Array Operand).map a.eval=(.pointer (some ⟨b,fo,none⟩)::a.eval y::ys.map a.eval).toArray:=by apply AM;simp[hpv]
  simp[execOp,resolve,hv,Deferred.ofValue,invoke,oK hc,e]
 rw[hrun,tU];refine zR.mono λe w' hp=> ?_
 obtain⟨rv,v,fp,rfl,hQ,Jn,hnd,hfr,hsz,iN,wW,i',h',hi',ZZ⟩:=hp;refine hn rv i' h' _ _ hQ hi' ?_;obtain⟨Gs,hlen,rJ,hap,vH⟩:=vG (q:=1) rv v fp s.o.length Jn hnd;generalize qC:(⟨true,true,3,ver,[aU code i' h']⟩:aD)=dH;generalize ae:(qY u s.o).set k dH=o1;have JZ:o1.length=s.o.length:=by rw[<-ae];simp[GQ]
 have uw:G.length=o1.length:=by rw[JZ,r.len]
 generalize xZ:(bV 1 s.o.length rv).2=news at*;have zF:∀{j ob g2 x},look news Gs j ob g2->g2.F x->x∈fp:=by intro j ob g2 x hl2 hF;obtain⟨_,_,_,f',_,_,h3,h4⟩:=rJ _ _ _ hl2;exact h4 _ ((h3 _).1 hF)
 have lk:∀{j ob g2},look (o1++news) (G++Gs) j ob g2->ob.live=true->(∃j',look news Gs j' ob g2/\j=s.o.length+j')\/(j=k/\ob=dH/\g2=go)\/(j≠k/\j∉u/\look s.o G j ob g2):=by
  intro j ob g2 h2 hl2;rcases jV uw h2 with⟨_,h2⟩|⟨hj,h2⟩
  .rw [<-ae]at h2;rcases Om h2 with⟨rfl,rfl,_,hg⟩|⟨hne,h2⟩
   .exact .inr (.inl ⟨rfl,rfl,cD (hg.symm.trans hl.2)⟩)
   .by_cases Ka:j∈u
    .rw [Ex u _ Ka h2.1]at hl2;cases hl2
    .exact .inr (.inr ⟨hne,Ka,by have:=h2.1;rwa[CP j u _ Ka]at this,h2.2⟩)
  .exact .inl ⟨_,h2,by rw[JZ]at hj⊢;omega⟩
 have back:∀{j ob g2},look s.o G j ob g2->j≠k->∃Jq,look (o1++news) (G++Gs) j Jq g2/\Jq.ver=ob.ver/\Jq.box=ob.box/\(j∉u->Jq=ob)/\(j∈u->Jq.live=false):=by
  intro j ob g2 h2 hne;obtain⟨Jq,q1,q2,q3⟩:=KW u s.o h2.1;refine⟨Jq,iO ⟨?_,h2.2⟩,q2,q3,λhj=> ?_,λhj=>Ex u _ hj q1⟩
  .rw [<-ae,gO (λh=>hne h.symm)]
   exact q1
  .rw [CP j u _ hj,h2.1]at q1;exact(cD q1).symm
 have hkl:k<s.o.length:=(cA.1 hl.1).1;have aa:look (o1++news) (G++Gs) k dH go:=iO ⟨by rw[<-ae];exact nF (by rw[GQ];exact hkl),hl.2⟩;have hkx:∀{z},go.F z->z∉Oq:=λhF=>zN hl rfl hF Sa
 have Ew:∀j ob g2 x,look s.o G j ob g2->ob.live=true->g2.F x->j∉u->x≠b->w'.heap[x]? =w.heap[x]?:=λj ob g2 x h2 dZ hF Ka hne=>iN x (r.fresh j ob g2 x h2 dZ hF).2 hne (zN h2 dZ hF Ka)
 have zb:∀{j ob g2 x},look s.o G j ob g2->ob.live=true->g2.F x->j≠k->x≠b:=λh2 dZ hF hne e=>hne (r.apart _ _ _ _ _ _ b h2 hl dZ rfl (e▸hF) zO)
 have hE:bR w (env B s.o G w) w' (env B (o1++news) (G++Gs) w'):=by
  refine uF hsz (λx hA=>⟨lY r hA,iN x (lY r hA) (λe=>za (e▸hA)) (λhz=>(Rs x hz).2.2 hA)⟩) r.len ?_ ?_
  .intro j ob g2 h2;by_cases hjk:j=k
   .rw [hjk]at h2⊢;obtain⟨rfl,rfl⟩:=jE h2 hl;refine⟨dH,g2,aa,by rw[<-qC];exact cX _,λ_=> .inl rfl,λ_=>⟨rfl,by rw[<-qC],λ_=>⟨rfl,rfl,by rw[<-qC];rfl⟩,λx hF hne=>⟨hF,hne,?_⟩⟩⟩;exact Ew _ _ _ x h2 rfl hF Sa (λe=>hne _ hga (by rw[e]))
   .obtain ⟨Jq,q1,q2,q3,q4,q5⟩:=back h2 hjk;refine⟨Jq,g2,q1,rB q2.symm,λh=> .inl (q3▸h),λdZ=> ?_⟩;by_cases Ka:j∈u
    .rw [q5 Ka]at dZ;cases dZ
    .obtain rfl:=q4 Ka;refine⟨dZ,rfl,λ_=>⟨rfl,rfl,rfl⟩,λx hF hne=>⟨hF,hne,?_⟩⟩;exact Ew _ _ _ x h2 dZ hF Ka (zb h2 dZ hF hjk)
  .intro j ob g2 x h2 dZ hF;rcases lk h2 dZ with⟨j',h3,_⟩|⟨e1,e2,e3⟩|⟨_,_,h3⟩
   .rcases (hfr _ (zF h3 hF)).1 with h|h
    .obtain ⟨j2,oj,gj,hj,hlj,hjl,Ir⟩:=ze x h;exact .inr ⟨_,_,_,hlj,hjl,Ir⟩
    .exact .inl h
   .exact .inr ⟨_,_,_,hl,rfl,e3▸hF⟩
   .exact .inr ⟨j,ob,g2,h3,dZ,hF⟩
 have hA':∀x,((env B s.o G w).A x\/x∈Oq\/(w.heap.size<=x/\x<w'.heap.size))/\x∉fp->(env B (o1++news) (G++Gs) w').A x:=by
  rintro x ⟨hx,hxf⟩;refine⟨?_,λj ob g2 h2 dZ hF=> ?_⟩
  .rcases hx with hx|hx|hx
   .rcases hx.1 with h|h
    .exact .inl h
    .exact .inr ⟨h.1,fS h.2 hsz⟩
   .have:=(Rs x hx).1;rcases this.1 with h|h
    .exact .inl (B.gA x h)
    .exact .inr ⟨h,fS this.2 hsz⟩
   .exact .inr ⟨fW r.size hx.1,hx.2⟩
  .rcases lk h2 dZ with⟨j',h3,_⟩|⟨e1,e2,e3⟩|⟨_,Ka,h3⟩
   .exact hxf (zF h3 hF)
   .rw [e3]at hF;rcases hx with hx|hx|hx
    .exact hx.2 _ _ _ hl rfl hF
    .exact hkx hF hx
    .have:=(r.fresh _ _ _ x hl rfl hF).2;omega
   .rcases hx with hx|hx|hx
    .exact hx.2 _ _ _ h3 dZ hF
    .exact zN h3 dZ hF Ka hx
    .have:=(r.fresh _ _ _ x h3 dZ hF).2;omega
 have kn:bR w' (qF λx=>((env B s.o G w).A x\/x∈Oq\/(w.heap.size<=x/\x<w'.heap.size))/\x∉fp) w' (env B (o1++news) (G++Gs) w'):=
  ⟨λx hx=>⟨hA' x hx,rfl⟩,λ_ _=>trivial,λ_ _ _ h=>h.elim,λ_ _ _ h=>h.elim,λ_ _ _ _ _ h=>h.elim⟩
 have kp:bR w' (qF λx=>((env B s.o G w).A x\/x∈Oq\/(w.heap.size<=x/\x<w'.heap.size))/\x∉fp).plain w' (env B (o1++news) (G++Gs) w').plain:=
  ⟨λx hx=>⟨hA' x hx,rfl⟩,λ_ _=>trivial,λ_ _ _ h=>h.elim,λ_ _ _ h=>h.elim,λ_ _ _ _ _ h=>h.elim⟩
 have zf:∀{j ob g2 j2 o2 g3 x},look news Gs j ob g2->g2.F x->look s.o G j2 o2 g3->o2.live=true->g3.F x->j2∉u->False:=fun {j ob g2 j2 o2 g3 x} c1 f1 c2 l2 f2 Ka=>by
  rcases(hfr _ (zF c1 f1)).1 with h|h
  .exact zN c2 l2 f2 Ka h
  .have:=(r.fresh _ _ _ x c2 l2 f2).2;omega
 have hnext:bU B ⟨s.t,o1++news⟩ (G++Gs) a w':=by
  refine r.next hE (by simp[uw,hlen]) ?_ ?_ ?_ hsz ?_ wW
  .intro j ob g2 h2 dZ;rcases lk h2 dZ with⟨j',h3,_⟩|⟨e1,e2,e3⟩|⟨hne,Ka,h3⟩
   .obtain ⟨q1,q2,_,f',sV,q3,q4,q5⟩:=rJ _ _ _ h3;refine⟨f',?_,q3,λx hx=>(q4 x).2 hx⟩;have:=sV.keeps kn.plain (λ_ _=>rfl);rw[q2];exact this
   .rw [e2,e3];refine⟨[b],?_,by simp,by simpa using zO⟩;have h5:dH.box=true/\dH.n=3/\dH.dY=[aU code i' h']:=by rw[<-qC];exact⟨rfl,rfl,rfl⟩
    rw[h5.1,h5.2.1,h5.2.2,hga];simp only[Env.of,eI];exact sZ kp ZZ
   .exact (r.ok j ob g2 h3 dZ).keeps hE λx hx=>Ew j ob g2 x h3 dZ hx Ka (zb h3 dZ hx hne)
  .intro j1 j2 o1 o2 g1 g2 x a1 a2 l1 l2 f1 f2;rcases lk a1 l1 with⟨j',c1,d1⟩|⟨d1,d2,d3⟩|⟨d1,d2,c1⟩<;>rcases lk a2 l2 with⟨j'',c2,d4⟩|⟨d4,d5,d6⟩|⟨d4,d5,c2⟩
   .have:=hap _ _ _ _ _ _ x c1 c2 f1 f2;omega
   .exact (zf c1 f1 hl rfl (d6▸f2) Sa).elim
   .exact (zf c1 f1 c2 l2 f2 d5).elim
   .exact (zf c2 f2 hl rfl (d3▸f1) Sa).elim
   .omega
   .exact absurd (r.apart _ _ _ _ _ _ x c2 hl l2 rfl f2 (d3▸f1)) d4
   .exact (zf c2 f2 c1 l1 f1 d2).elim
   .exact absurd (r.apart _ _ _ _ _ _ x c1 hl l1 rfl f1 (d6▸f2)) d1
   .exact r.apart _ _ _ _ _ _ x c1 c2 l1 l2 f1 f2
  .intro j ob g2 x h2 dZ hF;rcases lk h2 dZ with⟨j',h3,_⟩|⟨e1,e2,e3⟩|⟨hne,_,h3⟩
   .have:=hfr _ (zF h3 hF);refine⟨?_,this.2⟩;rcases this.1 with h|h
    .exact (Rs x h).1.1
    .exact .inr (fW r.size h)
   .have:=r.fresh _ _ _ x hl rfl (e3▸hF);exact⟨this.1,fS this.2 hsz⟩
   .have:=r.fresh _ _ _ x h3 dZ hF;exact⟨this.1,fS this.2 hsz⟩
  .intro x hx hO;refine iN x (fS hx r.size) (λe=> ?_) (λhz=> ?_)
   .rcases Ev.1 with h|h
    .exact hO (e▸h)
    .omega
   .rcases (Rs x hz).1.1 with h|h
    .exact hO h
    .omega
 refine⟨G++Gs,?_⟩;have hd:s.Oo dst k ver code i' h' u rv=AS.put ⟨s.t,o1++news⟩ dst (bV 1 s.o.length rv).1:=by simp only[AS.Oo,AS.called,qC,ae,JZ,xZ]
 rw[hd];refine hnext.put dst ?_;refine vH _ kn λj ob g2 h2=> ?_
 obtain⟨_,_,q3,_⟩:=rJ _ _ _ h2;have h3:=jF (o:=o1) (G:=G) uw h2;rw[JZ]at h3;exact⟨ob,g2,h3,rB q3.symm,λ_ _=>rfl,λh=>absurd h (by decide)⟩
def KX(P:Program)[aB P](o:Oper)(s:AS)(K:AS -> Prop): Prop :=
  match o.op with
  | .call ⟨.value f, ⟨ys⟩, _⟩ => match s.ev f with
    | .fn g [] => bJ P g = true /\
        ((∃ x zs k ver code, ∃ i h:Int, ∃ Q:AV -> Prop, ys = x :: zs /\ s.ev x = .ptr k ver 0 0 /\ AV.isObj s.o k ver = some ⟨true, true, 3, ver, [aU code i h]⟩ /\ 0 <= i /\ (zs.map s.ev).all dO = true /\ Iz P g (zs.map s.ev) Q /\ ∀ r i' h', Q r -> 0 <= i' -> K (s.drew o.dst k ver code i' h' r)) \/
         (∃ x code, ys = [x] /\ s.ev x = .sl .view 1 (aR code) /\ XP P g /\ ∀ i h, 0 <= i -> K (s.KV o.dst code i h)) \/
         (∃ Q:AV -> Prop, ((ys.map s.ev).all dO = true /\ XO P g (ys.map s.ev) Q) /\ ∀ r, Q r -> K (s.called o.dst r)) \/
         (∃ x y zs k ver code xv, ∃ i h:Int, ∃ Q:AV -> Prop, ys = x :: y :: zs /\ s.ev x = .ptr k ver 0 0 /\ AV.isObj s.o k ver = some ⟨true, true, 3, ver, [aU code i h]⟩ /\ 0 <= i /\ (gG s.o (s.ev y) = true /\ (k :: iB (s.ev y)).Nodup /\ res s.o (s.ev y) = xv) /\ (zs.map s.ev).all dO = true /\ OkX P g xv (zs.map s.ev) Q /\
           ∀ r i' h', Q r -> 0 <= i' -> K (s.Oo o.dst k ver code i' h' (iB (s.ev y)) r)))
    | _ => False
  | _ => False
theorem Vd{P:Program}[aB P]{B:eP P}{o:Oper}{s:AS}{K:AS->Prop}(h:KX P o s K)(a:Act)(w:World)(next:Act->World->Prop)(X:Exit->Act->World->Prop)(hr:Rel B s a w)
  (hn:∀a' w' s',K s'->Rel B s' a' w'->next a' w'):o.wp P a w next X:=by
 obtain⟨dst,op,ty,pos,after,gd⟩:=o;unfold KX at h;dsimp only at h;split at h
 .split at h
  .rename_i hf;obtain⟨hc,⟨x,zs,k,ver,code,i,h',Q,rfl,h1,h2,h3,h4,h5,h6⟩|⟨x,code,rfl,h1,h2,h3⟩|⟨Q,h1,h2⟩|⟨x,y,zs,k,ver,code,xv,i,h',Q,rfl,h1,h2,h3,⟨h7,h8,h9⟩,h4,h5,h6⟩⟩:=h
   .exact ZY _ _ _ _ hf hc h1 h2 h3 h4 h5 a w next X hr λr i' h' a' w' hq hi hrel=>hn _ _ _ (h6 r i' h' hq hi) hrel
   .exact Sc _ _ _ hf hc h1 h2 a w next X hr λi h a' w' hi hrel=>hn _ _ _ (h3 i h hi) hrel
   .exact Vb _ _ _ hf hc h1.1 h1.2 a w next X hr λr a' w' hq hrel=>hn _ _ _ (h2 r hq) hrel
   .exact XQ _ _ _ _ _ hf hc h1 h2 h3 h7 h8 h9 h4 h5 a w next X hr λr i' h' a' w' hq hi hrel=>hn _ _ _ (h6 r i' h' hq hi) hrel
  .exact h.elim
 .exact h.elim
end
end Go.Aw
