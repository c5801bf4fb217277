/- Proved here: steps towards the statement of this claim. No condition. -/
import Derived.Test.YtnkpkklemmgapaaGreatDoorZF2
set_option linter.all false
namespace Go.Aw
open List
def rowOf(o:List aD)(i:Nat):List AV:=match o[i]? with
 |some ob=>ob.dM.headD []
 |none=>[]
def TC(o:List aD):AV->List Nat
 | .ptr i _ _ _=>i::jF (rowOf o i)
 |_=>[]
def takes(o:List aD):List AV->List GA->List Nat
 |x::xs,.view _::gs=>takes o xs gs
 |x::xs,.rQ _::gs=>iN x++takes o xs gs
 |x::xs,.xH _ _::gs=>TC o x++takes o xs gs
 |_,_=>[]
def aGl(o:List aD)(c:List AV):AV->Prop
 | .ptr i ver 0 0=>∃ob,AV.isObj o i ver=some ob/\ob.box=true/\∃cells,ob.dM=[cells]/\lM o cells=true/\rC o cells=c
 |_=>False
def handed(o:List aD)(u:List Nat):List AV->List GA->Prop
 |[],[]=>True
 |x::xs,.view y::gs=>Pb u x=true/\arg o x=y/\handed o u xs gs
 |x::xs,.rQ y::gs=>gP o x=true/\res o x=y/\handed o u xs gs
 |x::xs,.xH c _::gs=>aGl o c x/\handed o u xs gs
 |_,_=>False
def az(o:List aD)(G:List CO)(c:List AV)(v:Value)(cap:Nat):AV->Prop
 | .ptr i _ _ _=>∃ob g b f,look o G i ob g/\ob.live=true/\ob.box=true/\ob.n=c.length/\ob.dM.length=1/\g.a=some ⟨b,f,none⟩/\v= .pointer (some ⟨b,f,none⟩)/\g.F b/\g.cap=cap
 |_=>False
def nS(o:List aD)(G:List CO):List AV->List GA->List Value->List Nat->Prop
 |[],[],[],[]=>True
 |x::xs,.xH c _::gs,v::vs,cap::iT=>az o G c v cap x/\nS o G xs gs vs iT
 |x::xs,.view _::gs,v::vs,cap::iT=>nS o G xs gs vs iT
 |x::xs,.rQ _::gs,v::vs,cap::iT=>nS o G xs gs vs iT
 |_,_,_,_=>False
section
variable{P:Program}[aB P]{B:fM P}{s:AS}{G:List CO}{a:Act}{w:World}
theorem Jy(r:dN B s G a w){u1 u2:List Nat}(hd:∀i∈u1,∀j∈u2,i≠j){b:Nat}(h1:Of s.o G u1 b)(h2:Of s.o G u2 b):False:=by obtain⟨i,ob,g,hi,hl,hlive,hF⟩:=h1;obtain⟨j,ob',g',hj,BU,wC,hF'⟩:=h2;exact hd i hi j hj (r.apart i j _ _ _ _ b hl BU hlive wC hF hF')
theorem Bd{o:List aD}{u1 u2:List Nat}(h:∀i∈u1,i∈u2){b:Nat}(h1:Of o G u1 b):Of o G u2 b:=by obtain⟨i,ob,g,hi,k⟩:=h1;exact⟨i,ob,g,h i hi,k⟩
theorem TD(r:dN B s G a w){Z:Nat->Prop}{U:List Nat}(hZ:∀b,Z b->Of s.o G U b):dF w (env B s.o G w).plain w (sD w Z):=
 ⟨λb hb=>⟨Xe r hZ hb,rfl⟩,λ_ _=>trivial,λ_ _ _ h=>h.elim,λ_ _ _ h=>h.elim,λ_ _ _ _ _ h=>h.elim⟩
theorem bf(r:dN B s G a w){c:List AV}{x:AV}{v:Value}(h:aGl s.o c x)(hx:R w (env B s.o G w) x v [])
  {us:List Nat} (hus:TC s.o x=us) (hnd:us.Nodup):
  ∃fp cap,fp.Nodup/\(∀b∈fp,Of s.o G us b)/\az s.o G c v cap x/\∀c' Z U,(∀b,Z b->Of s.o G U b)->RG w Z (.xH c c') v fp cap:=by
 unfold aGl at h;split at h
 .rename_i i ver;obtain⟨ob,tX,tY,cells,hels,qE,lC⟩:=h;obtain⟨h1,h2,h3⟩:=jB tX;simp only[R]at hx;obtain⟨_,ob',g,hl,_,hh,_⟩:=hx;obtain rfl:=cU (hl.1.symm.trans h1);obtain⟨b,f,hga,hv⟩:=hh h2 h3;have hrow:rowOf s.o i=cells:=by simp[rowOf,h1,hels]
  simp only[TC,hrow]at hus;subst hus;simp only[mC]at hnd;obtain⟨Rw,⟨hlen,hown⟩,HV,Oi⟩:=r.ok i _ g hl h2;rw[hels]at hown;simp only[tY,Env.of,eV]at hown;rcases hown with⟨h5,_⟩|⟨b',f',C,ty,fz,nU,vB,hbk,hz,k1,k2,k3,rfl,hr⟩
  .cases h5
  .rw [hga]at vB;simp only[eA,nB,qT]at vB;obtain⟨rfl,rfl⟩:=vB;simp only[Rr]at hr;obtain⟨cs,f1,f2,hn,hc,hone,sK,rfl,e⟩:=hr;have e:nU=f1:=by simpa using e
   subst e;simp only[mC]at HV;obtain⟨AX,q1,q2,q3⟩:=Jw r hl h2 cells cs nU qE hnd.2 hnd.1 HV.2 (λx hx=>Oi x (by simp[hx])) sK;have DF:g.F b:=Oi b (by simp);have hbn:b∉AX:=λhb=>by
    rcases q3 b hb with h|h
    .exact HV.1 h
    .obtain ⟨j,oj,gj,hj,hlj,hjl,Jn⟩:=h;have:=r.apart i j _ _ _ _ b hl hlj h2 hjl DF Jn;exact hnd.1 (this▸hj)
   have Ea:cells.length=ob'.n:=by have:=fA sK;omega
   have bg:c.length=ob'.n:=by rw[<-lC,<-Ea];clear q1 qE lC;induction cells with
    |nil=>rfl
    |cons _ _ _=>simp[rC,Ei]
   refine⟨b::AX,g.cap,mC.2 ⟨hbn,q2⟩,?_,?_,?_⟩
   .intro x hx;rcases gE.1 hx with rfl|hx
    .exact ⟨i,ob',g,by simp,hl,h2,DF⟩
    .rcases q3 x hx with h|h
     .exact ⟨i,ob',g,by simp,hl,h2,Oi x (by simp[h])⟩
     .exact Bd (λj hj=>by simp[hj]) h
   .exact ⟨ob',g,b,f,hl,h2,tY,bg.symm,by rw[hels];rfl,hga,by simpa using hv,DF,rfl⟩
   .intro c' Z U hZ;simp only[RG];refine⟨b,f,by simpa using hv,by simp[maxLen],.inr ⟨b,f,C,ty,fz,AX,rfl,hbk,by rw[bg];exact hz,by rw[bg];exact k1,by simpa using k2,k3,rfl,?_⟩⟩;simp only[Rr];refine⟨cs,AX,[],by rw[bg];exact hn,hc,hone,?_,rfl,by simp⟩;rw[<-lC];exact dX (TD r hZ) _ _ _ (λ_ _=>rfl) q1
 .exact h.elim
theorem zK(r:dN B s G a w){U:List Nat}:∀(xs:List AV) (gs:List GA) (vs:List Value),handed s.o U xs gs->(takes s.o xs gs).Nodup->(∀i∈takes s.o xs gs,i∈U)->Rc w (env B s.o G w) xs vs []->
  ∃tV iT,tV.flatten.Nodup/\(∀b∈tV.flatten,Of s.o G (takes s.o xs gs) b)/\nS s.o G xs gs vs iT/\∀Z,(∀b,Z b->Of s.o G U b)->CP w Z gs vs tV iT
 |[],[],[],_,_,_,_=>⟨[],[],by simp,by simp,by simp[nS],λ_ _=>by simp[CP]⟩
 |[],[],_::_,_,_,_,h=>by simp[Rc]at h
 |[],_::_,_,h,_,_,_=>by simp[handed]at h
 |_::_,[],_,h,_,_,_=>by simp[handed]at h
 |_::_,_::_,[],_,_,_,h=>by simp[Rc]at h
 |x::xs,.view y::gs,v::vs,h,hn,hu,hr=>by
  simp only[handed]at h;obtain⟨h1,h2,h3⟩:=h;simp only[Rc]at hr;obtain⟨f1,f2,hr1,hr2,e⟩:=hr;obtain⟨rfl,rfl⟩:f1=[]/\f2=[]:=by simpa using e
  simp only[takes]at hn hu⊢;obtain⟨tV,iT,q1,q2,q3,q4⟩:=zK r xs gs vs h3 hn hu hr2;refine⟨[]::tV,0::iT,by simpa using q1,by simpa using q2,by simpa [nS]using q3,λZ hZ=> ?_⟩;simp only[CP,RG];refine⟨⟨trivial,?_⟩,q4 Z hZ⟩;rw[<-h2];exact aA3 r hZ x v h1 hr1
 |x::xs,.rQ y::gs,v::vs,h,hn,hu,hr=>by
  simp only[handed]at h;obtain⟨h1,h2,h3⟩:=h;simp only[Rc]at hr;obtain⟨f1,f2,hr1,hr2,e⟩:=hr;obtain⟨rfl,rfl⟩:f1=[]/\f2=[]:=by simpa using e
  simp only[takes,gS]at hn hu⊢;obtain⟨tV,iT,q1,q2,q3,q4⟩:=zK r xs gs vs h3 hn.2.1 (λi hi=>hu i (by simp[hi])) hr2;obtain⟨fp,p1,p2,p3⟩:=Ee r x v h1 hn.1 hr1;refine⟨fp::tV,0::iT,?_,?_,by simpa [nS]using q3,λZ hZ=> ?_⟩
  .simp only[pH,gS];refine⟨p2,q1,λb hb b' hb' e=> ?_⟩;subst e;exact Jy r (λi hi j hj=>hn.2.2 i hi j hj) (p3 b hb) (q2 b hb')
  .intro b hb;simp only[pH,fS]at hb;rcases hb with hb|hb
   .exact Bd (λi hi=>by simp[hi]) (p3 b hb)
   .exact Bd (λi hi=>by simp[hi]) (q2 b hb)
  .simp only[CP,RG];refine⟨?_,q4 Z hZ⟩;rw[<-h2];exact lF (TD r hZ) _ _ _ (λ_ _=>rfl) p1
 |x::xs,.xH c c'::gs,v::vs,h,hn,hu,hr=>by
  simp only[handed]at h;obtain⟨h1,h3⟩:=h;simp only[Rc]at hr;obtain⟨f1,f2,hr1,hr2,e⟩:=hr;obtain⟨rfl,rfl⟩:f1=[]/\f2=[]:=by simpa using e
  simp only[takes]at hn hu⊢;generalize hus:TC s.o x=us at hn hu⊢;simp only[gS]at hn;obtain⟨tV,iT,q1,q2,q3,q4⟩:=zK r xs gs vs h3 hn.2.1 (λi hi=>hu i (by simp[hi])) hr2;obtain⟨fp,cap,p1,p2,p3,p4⟩:=bf r h1 hr1 hus hn.1;refine⟨fp::tV,cap::iT,?_,?_,by simp only[nS];exact⟨p3,q3⟩,λZ hZ=> ?_⟩
  .simp only[pH,gS];refine⟨p1,q1,λb hb b' hb' e=> ?_⟩;subst e;exact Jy r (λi hi j hj=>hn.2.2 i hi j hj) (p2 b hb) (q2 b hb')
  .intro b hb;simp only[pH,fS]at hb;rcases hb with hb|hb
   .exact Bd (λi hi=>by simp[hi]) (p2 b hb)
   .exact Bd (λi hi=>by simp[hi]) (q2 b hb)
  .simp only[CP];exact⟨p4 c' Z U hZ,q4 Z hZ⟩
end
def Ia:Nat->List GA->List aD
 |_,[]=>[]
 |k,.xH _ c'::gs=>(eF 1 k c').2++Ia (k+(eF 1 k c').2.length) gs
 |k,.view _::gs=>Ia k gs
 |k,.rQ _::gs=>Ia k gs
def BJ:Nat->List AV->List GA->List (Nat×List (List AV))
 |k,x::xs,.xH _ c'::gs=>(match x with
  | .ptr i _ _ _=>[(i,[(eF 1 k c').1])]
  |_=>[])++BJ (k+(eF 1 k c').2.length) xs gs
 |k,_::xs,.view _::gs=>BJ k xs gs
 |k,_::xs,.rQ _::gs=>BJ k xs gs
 |_,_,_=>[]
def aD.uf(ob:aD)(N:List (Nat×List (List AV)))(u:List Nat)(i:Nat):aD:=
 match N.find? (λp=>p.1 == i)with
 |some p=>{ob with dM:=p.2}
 |none=>if u.contains i=true then {ob with live:=false}else ob.forget u
def DK(N:List (Nat×List (List AV)))(u:List Nat):Nat->List aD->List aD
 |_,[]=>[]
 |i,ob::r=>ob.uf N u i::DK N u (i+1) r
theorem TE(N:List (Nat×List (List AV)))(u:List Nat):∀(o:List aD) (k i:Nat),(DK N u k o)[i]? =(o[i]?).map λob=>ob.uf N u (k+i)
 |[],_,_=>by simp[DK]
 |ob::r,k,0=>by simp[DK]
 |ob::r,k,i+1=>by simp only[DK,AD];rw[TE N u r (k+1) i,show k+1+i=k+(i+1)by omega]
theorem CQ(N:List (Nat×List (List AV)))(u:List Nat):∀(o:List aD) (k:Nat),(DK N u k o).length=o.length
 |[],_=>rfl
 |g::r,k=>by simp[DK,CQ N u r]
def GD(N:List (Nat×List (List AV))):Nat->List CO->List CO
 |_,[]=>[]
 |i,g::r=>(match N.find? (λp=>p.1 == i)with
  |some _=>{g with F:=λb=>∃a,g.a=some a/\b=a.block}
  |none=>g)::GD N (i+1) r
theorem TF(N:List (Nat×List (List AV))):∀(G:List CO) (k i:Nat),(GD N k G)[i]? =(G[i]?).map λg=>match N.find? (λp=>p.1 == k+i)with
  |some _=>{g with F:=λb=>∃a,g.a=some a/\b=a.block}
  |none=>g
 |[],_,_=>by simp[GD]
 |g::r,k,0=>by simp[GD]
 |g::r,k,i+1=>by simp only[GD,AD];rw[TF N r (k+1) i,show k+1+i=k+(i+1)by omega]
theorem CR(N:List (Nat×List (List AV))):∀(o:List CO) (k:Nat),(GD N k o).length=o.length
 |[],_=>rfl
 |g::r,k=>by simp[GD,CR N r]
theorem TG{o:List aD}{G:List CO}{N:List (Nat×List (List AV))}{u:List Nat}{i:Nat}{ob':aD}{g':CO}(h:look (DK N u 0 o) (GD N 0 G) i ob' g'):
  ∃ob g,look o G i ob g/\((∃p∈N,p.1=i/\ob'={ob with dM:=p.2}/\g'={g with F:=λb=>∃a,g.a=some a/\b=a.block})\/
   ((∀p∈N,p.1≠i)/\g'=g/\((i∈u/\ob'={ob with live:=false})\/(i∉u/\ob'=ob.forget u)))):=by
 obtain⟨h1,h2⟩:=h;rw[TE,lO]at h1;rw[TF,lO]at h2;cases ho:o[i]? with
 |none=>simp[ho]at h1
 |some ob=>
  cases hg:G[i]? with
  |none=>simp[hg]at h2
  |some g=>
   rw[ho]at h1;rw[hg]at h2;simp only[mA,eA]at h1 h2;refine⟨ob,g,⟨ho,hg⟩,?_⟩;unfold aD.uf at h1;cases hf:N.find? (λp=>p.1 == i)with
   |some p=>rw[hf]at h1 h2;left;exact⟨p,pZ hf,by have:=Fl hf;simpa using this,h1.symm,h2.symm⟩
   |none=>
    rw[hf]at h1 h2;right;refine⟨λp hp e=> ?_,h2.symm,?_⟩
    .have:=Dg.1 hf p hp;simp[e]at this
    .simp only at h1;by_cases hiu:i∈u
     .rw [eW (by simpa using hiu)]at h1;exact .inl ⟨hiu,h1.symm⟩
     .rw [eK (by simpa using hiu)]at h1;exact .inr ⟨hiu,h1.symm⟩
theorem zt{o:List aD}{G:List CO}{N:List (Nat×List (List AV))}{u:List Nat}{i:Nat}{ob:aD}{g:CO}(h:look o G i ob g):
  ∃ob' g',look (DK N u 0 o) (GD N 0 G) i ob' g':=by
 have h1:=(cQ.1 h.1).1;have h2:=(cQ.1 h.2).1;exact⟨_,_,aE (by rw[CQ];exact h1),aE (by rw[CR];exact h2)⟩
theorem zL{w:World}{s:AS}{G:List CO}:∀(xs:List AV) (gs:List GA) (vs:List Value) (tV:List (List Nat)) (iT:List Nat) (k:Nat),nS s.o G xs gs vs iT->Ru w gs vs tV iT->tV.flatten.Nodup->
  ∃inner,inner.Nodup/\(∀b∈inner,b∈tV.flatten)/\
   (∀p∈BJ k xs gs,∃ob g b f,look s.o G p.1 ob g/\ob.live=true/\ob.box=true/\ob.dM.length=p.2.length/\g.a=some ⟨b,f,none⟩/\g.F b/\b∈tV.flatten/\b∉inner)/\
   jT 1 w oO k (Ia k gs) inner (λE'=>∀p∈BJ k xs gs,∀ob g b f,look s.o G p.1 ob g->g.a=some ⟨b,f,none⟩->qH w E' ob.n p.2 g.a g.cap [b])
 |[],[],[],[],[],k,_,_,_=>⟨[],by simp,by simp,by simp[BJ],⟨[],rfl,λj ob g hl=>by simp[look,Ia]at hl,λi j oi oj gi gj b hl=>by simp[look,Ia]at hl,λE' _ _ p hp=>by simp[BJ]at hp⟩⟩
 |x::xs,.view y::gs,v::vs,fp::tV,cap::iT,k,hl,hp,hn=>by simp only[Ru,RP]at hp;obtain⟨rfl,hp⟩:=hp;simp only[Ia,BJ];have:=zL xs gs vs tV iT k (by simpa [nS]using hl) hp (by simpa using hn);simpa using this
 |x::xs,.rQ y::gs,v::vs,fp::tV,cap::iT,k,hl,hp,hn=>by simp only[Ru,RP]at hp;obtain⟨rfl,hp⟩:=hp;simp only[Ia,BJ];have:=zL xs gs vs tV iT k (by simpa [nS]using hl) hp (by simpa using hn);simpa using this
 |x::xs,.xH c c'::gs,v::vs,fp::tV,cap::iT,k,hl,hp,hn=>by
  simp only[Ru,RP]at hp;obtain⟨⟨b0,f0,hv0,hlen,hown⟩,hp⟩:=hp;simp only[nS]at hl;obtain⟨hl0,hl⟩:=hl;simp only[pH,gS]at hn;obtain⟨inner,i1,i2,i3,i4⟩:=zL xs gs vs tV iT (k+(eF 1 k c').2.length) hl hp hn.2.1;unfold az at hl0;split at hl0
  .rename_i i ver idx off;obtain⟨ob,g,b,f,hlk,hlive,tY,hcn,WC,hga,hv,hF,rfl⟩:=hl0;rw[hv]at hv0;simp only[AW,eA,nB,qT]at hv0;obtain⟨rfl,rfl⟩:=hv0;rcases hown with⟨h5,_⟩|⟨b',f',C,ty,fz,nU,vB,hbk,hz,k1,k2,k3,rfl,hr⟩
   .cases h5
   simp only[eA,nB,qT]at vB;obtain⟨rfl,rfl⟩:=vB;simp only[Rr]at hr;obtain⟨cs,f1,f2,Ea,hc,hone,sK,rfl,e⟩:=hr;have e:nU=f1:=by simpa using e
   subst e;have hnb:=hn.1;simp only[mC]at hnb;have hab:=BZ (q:=1) c' cs nU k sK hnb.2;have zn:(nU++inner).Nodup:=gS.2 ⟨hnb.2,i1,λx hx y hy e=>hn.2.2 x (by simp[hx]) y (i2 y hy) e⟩;obtain⟨Gs,a1,a2,a3,a4⟩:=hab.append i4 zn;have hbi:b∉inner:=λh=>hn.2.2 b (by simp) b (i2 b h) rfl
   refine⟨nU++inner,zn,?_,?_,⟨Gs,a1,a2,a3,λE' hk hh=> ?_⟩⟩
   .intro x hx;simp only[pH,fS];rcases fS.1 hx with hx|hx
    .exact .inl (by simp[hx])
    .exact .inr (i2 x hx)
   .intro p hp;simp only[BJ,fS]at hp;rcases hp with hp|hp
    .simp only[nF]at hp;subst hp;exact⟨ob,g,b,f,hlk,hlive,tY,by simpa using WC,hga,hF,by simp,by simp only[fS,not_or];exact⟨hnb.1,hbi⟩⟩
    .obtain ⟨ZN,g1,b1,f1,q1,q2,q3,q4,q5,q6,q7,q8⟩:=i3 p hp;refine⟨ZN,g1,b1,f1,q1,q2,q3,q4,q5,q6,by simp[q7],?_⟩;simp only[fS,not_or];exact⟨λh=>hn.2.2 b1 (by simp[h]) b1 q7 rfl,q8⟩
   .obtain ⟨d1,d2⟩:=a4 E' hk hh;intro p hp ZN g1 b1 f1 q1 q2;simp only[BJ,fS]at hp;rcases hp with hp|hp
    .simp only[nF]at hp;subst hp;obtain⟨rfl,rfl⟩:=iD hlk q1;rw[hga]at q2;simp only[eA,nB,qT]at q2;obtain⟨rfl,rfl⟩:=q2;refine⟨by simp[maxLen],.inr ⟨b,f,C,ty,fz,[],hga,hbk,by rw[hcn];exact hz,by rw[hcn];exact k1,by simpa using k2,k3,rfl,?_⟩⟩;simp only[Rr];exact⟨cs,[],[],by rw[hcn];exact Ea,hc,hone,d1,rfl,rfl⟩
    .exact d2 p hp ZN g1 b1 f1 q1 q2
  .exact hl0.elim
 |[],[],[],[],_::_,_,hl,_,_=>by simp[nS]at hl
 |[],[],[],_::_,_,_,_,hp,_=>by simp[Ru]at hp
 |[],[],_::_,_,_,_,_,hp,_=>by simp[Ru]at hp
 |[],_::_,_,_,_,_,hl,_,_=>by simp[nS]at hl
 |_::_,[],_,_,_,_,hl,_,_=>by simp[nS]at hl
 |_::_,.view _::_,[],_,_,_,hl,_,_=>by simp[nS]at hl
 |_::_,.view _::_,_::_,[],_,_,_,hp,_=>by simp[Ru]at hp
 |_::_,.view _::_,_::_,_::_,[],_,_,hp,_=>by simp[Ru]at hp
 |_::_,.rQ _::_,[],_,_,_,hl,_,_=>by simp[nS]at hl
 |_::_,.rQ _::_,_::_,[],_,_,_,hp,_=>by simp[Ru]at hp
 |_::_,.rQ _::_,_::_,_::_,[],_,_,hp,_=>by simp[Ru]at hp
 |_::_,.xH _ _::_,[],_,_,_,hl,_,_=>by simp[nS]at hl
 |_::_,.xH _ _::_,_::_,[],_,_,_,hp,_=>by simp[Ru]at hp
 |_::_,.xH _ _::_,_::_,_::_,[],_,_,hp,_=>by simp[Ru]at hp
theorem Jz(o:List aD):∀(xs:List AV) (gs:List GA) (k:Nat),∀p∈BJ k xs gs,p.1∈takes o xs gs
 |[],[],_,p,hp=>by simp[BJ]at hp
 |[],_::_,_,p,hp=>by simp[BJ]at hp
 |_::_,[],_,p,hp=>by simp[BJ]at hp
 |x::xs,.view _::gs,k,p,hp=>by simp only[BJ]at hp;simpa [takes]using Jz o xs gs k p hp
 |x::xs,.rQ _::gs,k,p,hp=>by simp only[BJ]at hp;simp only[takes,fS];exact .inr (Jz o xs gs k p hp)
 |x::xs,.xH _ c'::gs,k,p,hp=>by
  simp only[BJ,fS]at hp;simp only[takes,fS];rcases hp with hp|hp
  .left;cases x<;>simp at hp;subst hp;simp[TC]
  .exact .inr (Jz o xs gs _ p hp)
def AS.given(s:AS)(d:Option Tmp)(xs:List AV)(gs:List GA)(r:AV):AS:=
 AS.put ⟨qD (gU (takes s.o xs gs)) true s.t,DK (BJ s.o.length xs gs) (takes s.o xs gs) 0 s.o++Ia s.o.length gs++(eB 1 (s.o.length+(Ia s.o.length gs).length) r).2⟩ d
  (eB 1 (s.o.length+(Ia s.o.length gs).length) r).1
section
variable{P:Program}[aB P]{B:fM P}{s:AS}{dst:Option Tmp}{ty:TypeId}{pos:String}{after:Array Edge}{gd:Option (Nat × Bool)}
theorem zu(f:Operand)(args:Array Operand)(KS:Array TypeId){gf:FuncId}{gs:List GA}{rv:AV}(hf:s.ev f= .fn gf [])(hc:aT P gf=true)
  (hu:(takes s.o (s.args args) gs).Nodup) (hh:handed s.o (takes s.o (s.args args) gs) (s.args args) gs) (qE:ax P gf gs rv):
  Step P B ⟨dst,.call {callee:= .value f,args:=args,argTypes:=KS},ty,pos,after,gd⟩ s (s.given dst (s.args args) gs rv):=by
 rintro a w next Q ⟨G,rr⟩ hn
 have h1:=rr.ev f;rw[hf]at h1;simp only[R]at h1;obtain⟨_,cs,hv,sP⟩:=h1;have hcs:cs=[]:=by cases cs with
  |nil=>rfl
  |cons _ _=>simp[Rc]at sP
 subst hcs;have oP:Rc w (env B s.o G w) (s.args args) (args.toList.map a.eval) []:=by simpa [AS.args]using qJ rr args.toList
 generalize hxs:s.args args=xs at*;obtain⟨tV,iT,hnd,Mk,aKr,aKs⟩:=zK rr (U:=takes s.o xs gs) xs gs _ hh hu (λi h=>h) oP;generalize huu:takes s.o xs gs=u at*;have hlt:∀b∈tV.flatten,b<w.heap.size:=λb hb=>by obtain⟨i,ob,g,_,hl,hlive,hF⟩:=Mk b hb;exact(rr.fresh _ _ _ b hl hlive hF).2
 have hab:∀b∈tV.flatten,aB.low P<=b/\b<w.heap.size:=λb hb=>by obtain⟨i,ob,g,_,hl,hlive,hF⟩:=Mk b hb;exact⟨rr.Mc (rr.fresh _ _ _ b hl hlive hF).1,hlt b hb⟩
 have Cb:=qE w _ tV iT rr.holds hab hnd (aKs _ Mk);unfold Oper.wp;have fV:(execOp a.eval ⟨dst,.call {callee:= .value f,args:=args,argTypes:=KS},ty,pos,after,gd⟩).run P w= .ok (.enter gf (args.toList.map a.eval).toArray) w:=by
  have e:args.map a.eval=(args.toList.map a.eval).toArray:=by apply AM;simp
  simp[execOp,resolve,hv,Deferred.ofValue,invoke,rD hc,e]
 rw[fV,AH];refine Cb.mono λe w' h=> ?_
 obtain⟨v,fp,AZ,rfl,Nu,hrp,hnd',La,hsz,iH,zJ⟩:=h;refine hn _ _ ?_;have Vh:=gS.1 hnd';obtain⟨inner,i1,i2,i3,i4⟩:=zL (s:=s) (G:=G) xs gs _ AZ iT s.o.length aKr hrp Vh.1;have zn:(inner++fp).Nodup:=gS.2 ⟨i1,Vh.2.1,λx hx y hy e=>Vh.2.2 x (i2 x hx) y hy e⟩;obtain⟨Gs,hlen,vZ,hap,vO⟩:=i4.append (Af (q:=1) rv v fp (s.o.length+(Ia s.o.length gs).length) Nu Vh.2.1) zn;have hNu:=Jz s.o xs gs s.o.length;rw[huu]at hNu;unfold AS.given;rw[huu];generalize hN:BJ s.o.length xs gs=N at*;rw[sB];generalize Ad:Ia s.o.length gs++(eB 1 (s.o.length+(Ia s.o.length gs).length) rv).2=news at*;generalize ho1:DK N u 0 s.o=o1;generalize hG1:GD N 0 G=G1;have hl1:o1.length=s.o.length:=by rw[<-ho1,CQ]
 have aR6:G1.length=G.length:=by rw[<-hG1,CR]
 have hlG:G1.length=o1.length:=by rw[aR6,hl1,rr.len]
 have blk:∀b,b∈AZ.flatten++fp->(Of s.o G u b\/w.heap.size<=b)/\b<w'.heap.size:=λb hb=>by
  have:=La b hb;refine⟨?_,this.2⟩;rcases this.1 with h|h
  .exact .inl (Mk b h)
  .exact .inr h
 have Gm:∀{j ob g b},look news Gs j ob g->g.F b->b∈inner++fp:=by intro j ob g b hl hF;obtain⟨_,_,_,f',_,_,h3,h4⟩:=vZ _ _ _ hl;exact h4 _ ((h3 _).1 hF)
 have aKt:∀{b},b∈inner++fp->b∈AZ.flatten++fp:=by
  intro b hb;rcases fS.1 hb with h|h
  .exact oB _ (i2 b h)
  .exact tD _ h
 have lk:∀{i ob' g'},look (o1++news) (G1++Gs) i ob' g'->(∃j,i=s.o.length+j/\look news Gs j ob' g')\/(i<s.o.length/\∃ob g,look s.o G i ob g/\
   ((∃p∈N,p.1=i/\ob'={ob with dM:=p.2}/\g'={g with F:=λb=>∃a,g.a=some a/\b=a.block})\/
   ((∀p∈N,p.1≠i)/\g'=g/\((i∈u/\ob'={ob with live:=false})\/(i∉u/\ob'=ob.forget u))))):=by
  intro i ob' g' h;rcases lH hlG h with⟨hi,h⟩|⟨hi,h⟩
  .right;refine⟨by omega,?_⟩;rw[<-ho1,<-hG1]at h;exact TG h
  .left;exact⟨i-o1.length,by omega,h⟩
 have aA4:∀{p},p∈N->∀{ob g},look s.o G p.1 ob g->ob.live=true/\ob.box=true/\ob.dM.length=p.2.length/\∃b f,g.a=some ⟨b,f,none⟩/\g.F b/\b∈AZ.flatten/\b∉inner:=by intro p hp ob g hl;obtain⟨Mm,g2,b,f,q1,q2,q3,q4,q5,q6,q7,q8⟩:=i3 p hp;obtain⟨rfl,rfl⟩:=iD hl q1;exact⟨q2,q3,q4,b,f,q5,q6,q7,q8⟩
 have kl:∀{i ob g},look s.o G i ob g->∃ob' g',look (o1++news) (G1++Gs) i ob' g'/\(ob'.live=true->ob.live=true)/\ob'.ver=ob.ver/\ob'.n=ob.n/\g'.a=g.a/\g'.cap=g.cap/\ob'.dM.length=ob.dM.length/\ob'.box=ob.box/\
   (i∉u->g'=g/\ob'.live=ob.live):=by
  intro i ob g h;obtain⟨ob',g',h'⟩:=zt (N:=N) (u:=u) h;rw[ho1,hG1]at h';have h'':=jK (o2:=news) (G2:=Gs) h';refine⟨ob',g',h'',?_⟩;rw[<-ho1,<-hG1]at h';obtain⟨Mm,g2,h2,hcase⟩:=TG h';obtain⟨rfl,rfl⟩:=iD h h2;rcases hcase with⟨p,hp,rfl,rfl,rfl⟩|⟨Rt,rfl,⟨hiu,rfl⟩|⟨hiu,rfl⟩⟩
  .obtain ⟨b1,b2,b3,_⟩:=aA4 hp h;exact⟨λ_=>b1,rfl,rfl,rfl,rfl,b3.symm,rfl,λhn=>absurd (hNu p hp) hn⟩
  .exact ⟨λh=>by simp at h,rfl,rfl,rfl,rfl,rfl,rfl,λhn=>absurd hiu hn⟩
  .exact ⟨λh=>by rw[lX]at h;exact h,OV _ _,Xa _ _,rfl,rfl,OX _ _,OW _ _,λ_=>⟨rfl,lX _ _⟩⟩
 have aI6:∀{i ob g b},look s.o G i ob g->ob.live=true->g.F b->i∉u->¬Of s.o G u b:=by intro i ob g b hl hlive hF hiu hO;obtain⟨j,oj,gj,hj,hlj,hjl,Jn⟩:=hO;exact hiu (rr.apart i j _ _ _ _ b hl hlj hlive hjl hF Jn▸hj)
 have aR8:∀{i ob g b},look s.o G i ob g->ob.live=true->g.F b->i∉u->b∉AZ.flatten++fp:=by
  intro i ob g b hl hlive hF hiu hX;rcases(blk b hX).1 with h|h
  .exact aI6 hl hlive hF hiu h
  .have:=(rr.fresh _ _ _ b hl hlive hF).2;omega
 have Em:∀i ob g b,look s.o G i ob g->ob.live=true->g.F b->i∉u->w'.heap[b]? =w.heap[b]?:=λi ob g b hl hlive hF hiu=>
  iH b (rr.fresh _ _ _ b hl hlive hF).2 (λhm=>aI6 hl hlive hF hiu (Mk b hm))
 let Er:Env:={env B s.o G w with D:=λi b=>i∉u/\(env B s.o G w).D i b}
 have rt1:lK (gU u) true (env B s.o G w) Er (λ_=>True):=by
  refine⟨λt e=>by simp[gU]at e,λt e=>by simp only[gU,eA]at e;exact⟨e.symm,λb hb=>hb⟩,λi t e=> ?_,λ_ _ _ _ h=>h,λ_ _ _ _ _ _ h=>h⟩;simp only[gU]at e;split at e
  .cases e
  .rename_i hiu;obtain rfl:=cU e;refine⟨by simp,?_,λb hb=>⟨hiu,hb⟩⟩;by_cases hV:(env B s.o G w).V i
   .exact .inl hV
   .exact .inr hV
 have k2:dF w Er w' (env B (o1++news) (G1++Gs) w'):=by
  refine⟨λb hb=> ?_,λi h ob tX=> ?_,λi b hV h=> ?_,λi ver x h=> ?_,λi ver j q x h=> ?_⟩
  .have hb':(env B s.o G w).A b:=hb;have hbl:=nH rr hb';have hnO:¬Of s.o G u b:=λ⟨i,ob,g,_,hl,hlive,hF⟩=>hb'.2 i ob g hl hlive hF
   have hnX:b∉AZ.flatten++fp:=λhX=>by
    rcases(blk b hX).1 with h|h
    .exact hnO h
    .omega
   refine⟨⟨?_,λi ob' g' hl hlive hF=> ?_⟩,iH b hbl (λh=>hnO (Mk b h))⟩
   .rcases hb'.1 with h|h
    .exact .inl h
    .exact .inr ⟨h.1,by omega⟩
   .rcases lk hl with⟨j,_,hl2⟩|⟨_,ob,g,hl0,⟨p,hp,rfl,_,rfl⟩|⟨_,rfl,⟨_,rfl⟩|⟨_,rfl⟩⟩⟩
    .exact hnX (aKt (Gm hl2 hF))
    .obtain ⟨b1,b2,b3,b0,f0,b4,b5,b6,_⟩:=aA4 hp hl0;obtain⟨a0,ha0,rfl⟩:=hF;rw[b4]at ha0;obtain rfl:=cU ha0;exact hb'.2 _ ob g hl0 b1 b5
    .simp at hlive
    .refine hb'.2 i ob g' hl0 ?_ hF;rw[lX]at hlive;exact hlive
  .have hi:i<G.length:=by rw[rr.len];exact(cQ.1 tX).1
   obtain⟨ob',g',hl,h1,_⟩:=kl (i:=i) (ob:=ob) (g:=G[i]) ⟨tX,aE hi⟩;exact h1 (h ob' hl.1)
  .obtain ⟨hiu,ob,g,hl,hlive,hF,hne⟩:=h;obtain⟨ob',g',BU,_,_,_,_,_,_,_,h7⟩:=kl hl;obtain⟨rfl,h8⟩:=h7 hiu;exact⟨⟨ob',g',BU,by rw[h8];exact hlive,hF,hne⟩,Em i ob g' b hl hlive hF hiu⟩
  .obtain ⟨ob,g,hl,wW,hh,hz⟩:=h;obtain⟨ob',g',BU,h1,h2,h3,h4,h5,h6,_⟩:=kl hl;exact⟨ob',g',BU,by omega,λhlive UY=>by rw[h4,h5,h6];exact hh (h1 hlive) (by omega),hz⟩
  .obtain ⟨ob,g,hl,wW,hh,hz⟩:=h;obtain⟨ob',g',BU,h1,h2,h3,h4,h5,h6,h8,_⟩:=kl hl;exact⟨ob',g',BU,by omega,λhlive UY=>by rw[h4,h3];exact hh (h1 hlive) (by omega),
    λe e2 e3 e4 y hy=>⟨(hz (by rw[<-h8];exact e) e2 e3 e4 y hy).1,λhlive UY=>by rw[h5];exact(hz (by rw[<-h8];exact e) e2 e3 e4 y hy).2 (h1 hlive) (by omega)⟩⟩
 have tm:Rc w' (env B (o1++news) (G1++Gs) w') (qD (gU u) true s.t) a.tmps.toList []:=
  dX k2 _ _ _ (by simp) (xA rt1 _ _ _ (by simp) rr.tmps)
 have kn:∀E':Env,dF w' oO w' E':=λE'=>⟨λ_ h=>h.elim,λ_ _=>trivial,λ_ _ _ h=>h.elim,λ_ _ _ h=>h.elim,λ_ _ _ _ _ h=>h.elim⟩
 have hfin:=vO (env B (o1++news) (G1++Gs) w') (kn _) (λj ob g hl=>by
  obtain⟨_,_,h3,_⟩:=vZ _ _ _ hl;refine⟨ob,g,?_,tP h3.symm,λ_ _=>rfl,λh=>absurd h (by decide)⟩;have:=kK (o:=o1) (G:=G1) hlG hl
  rwa[hl1]at this)
 obtain⟨hbx,lC⟩:=hfin;have rel:dN B ⟨qD (gU u) true s.t,o1++news⟩ (G1++Gs) a w':=by
  refine {len:=by simp[hlG,hlen],defs:=rr.defs,ok:= ?_,apart:= ?_,fresh:= ?_,tmps:=tm,size:=kO rr.size hsz,frame:= ?_,base:=rr.base,same:=rr.same.trans zJ}
  .intro i ob' g' hl hlive;rcases lk hl with⟨j,_,hl2⟩|⟨_,ob,g,hl0,⟨p,hp,rfl,rfl,rfl⟩|⟨_,rfl,⟨_,rfl⟩|⟨hiu,rfl⟩⟩⟩
   .obtain ⟨h1,h2,_,f',hown,h3,h4,h5⟩:=vZ _ _ _ hl2;refine⟨f',?_,h3,λb hb=>(h4 b).2 hb⟩;rw[h2];exact hown.keeps (kn _).plain (λ_ _=>rfl)
   .obtain ⟨b1,b2,b3,b0,f0,b4,b5,b6,_⟩:=aA4 hp hl0;have:=hbx p hp ob g b0 f0 hl0 b4;refine⟨[b0],?_,by simp,?_⟩
    .simp only[b2,Env.of,eV];exact this
    .intro b hb;simp only[nF]at hb;subst hb;exact⟨_,b4,rfl⟩
   .simp at hlive
   .rw [lX]at hlive;obtain⟨fpo,hown,HV,Oi⟩:=rr.ok i ob g' hl0 hlive;by_cases hbx:ob.box=true
    .simp only[hbx,Env.of,eV]at hown;obtain⟨hlen,hown⟩:=hown;by_cases hall:CL ob.dM=true
     .have hfo:ob.forget u=ob:=by unfold aD.forget;simp[hbx,hall]
      rw[hfo];refine⟨fpo,?_,HV,Oi⟩;simp only[hbx,Env.of,eV];refine⟨hlen,?_⟩;rcases hown with h|⟨b,off,C,e,fz,aA1,ha,hb,hz,h1,h2,h3,rfl,au⟩
      .exact .inl h
      .have hbs:=Em i ob g' b hl0 hlive (Oi b (by simp)) hiu;exact .inr ⟨b,off,C,e,fz,aA1,ha,by rw[hbs];exact hb,hz,h1,h2,h3,rfl,lW k2 _ _ _ _ _ hbs (λx hx=>Em i ob g' x hl0 hlive (Oi x (by simp[hx])) hiu) (aAv hall au)⟩
     .have hfo:ob.forget u={ob with dM:=iI (gU u) true ob.dM}:=by unfold aD.forget;rw[eW hbx,eK hall]
      rw[hfo];rcases hown with⟨h1,h2,h3⟩|⟨b,off,C,e,fz,aA1,ha,hb,hz,h1,h2,h3,rfl,au⟩
      .exact ⟨[],⟨by simp[kJ];exact hlen,.inl ⟨by simp[h1,iI],h2,rfl⟩⟩,by simp,by simp⟩
      .have DF:=Oi b (by simp);have hbs:=Em i ob g' b hl0 hlive DF hiu;refine⟨[b],⟨by simp[kJ];exact hlen,.inr ⟨b,off,C,e,fz,[],ha,by rw[hbs];exact hb,hz,h1,by simpa [kJ]using h2,h3,rfl,?_⟩⟩,by simp,by simpa using DF⟩;simp only[hbx,Env.of,eV];exact lW k2 _ _ _ _ _ hbs (by simp) (Gy rt1 _ _ _ _ _ (by simp) au)
    .have aA2:ob.box=false:=by simpa using hbx
     have hfo:ob.forget u=ob:=by unfold aD.forget;simp[aA2]
     rw[hfo];refine⟨fpo,?_,HV,Oi⟩;simp only[aA2,Env.of,cX,eS]at hown⊢;have kp:dF w (env B s.o G w).plain w' (env B (o1++news) (G1++Gs) w').plain:=k2.plain;exact hown.keeps kp (λb hb=>Em i ob g' b hl0 hlive (Oi b hb) hiu)
  .-- every object its own blocks
   have cls:∀{i ob' g' b},look (o1++news) (G1++Gs) i ob' g'->ob'.live=true->g'.F b->(∃j,i=s.o.length+j/\look news Gs j ob' g'/\b∈inner++fp)\/
     (i<s.o.length/\∃ob g,look s.o G i ob g/\ob.live=true/\g.F b/\((b∈AZ.flatten/\b∉inner)\/b∉AZ.flatten++fp)):=by
    intro i ob' g' b hl hlive hF;rcases lk hl with⟨j,hj,hl2⟩|⟨hi,ob,g,hl0,⟨p,hp,rfl,rfl,rfl⟩|⟨_,rfl,⟨_,rfl⟩|⟨hiu,rfl⟩⟩⟩
    .exact .inl ⟨j,hj,hl2,Gm hl2 hF⟩
    .obtain ⟨b1,b2,b3,b0,f0,b4,b5,b6,b7⟩:=aA4 hp hl0;obtain⟨a0,ha0,rfl⟩:=hF;rw[b4]at ha0;obtain rfl:=cU ha0;exact .inr ⟨hi,ob,g,hl0,b1,b5,.inl ⟨b6,b7⟩⟩
    .simp at hlive
    .rw [lX]at hlive;exact .inr ⟨hi,ob,g',hl0,hlive,hF,.inr (aR8 hl0 hlive hF hiu)⟩
   have mixed:∀{b},b∈inner++fp->((b∈AZ.flatten/\b∉inner)\/b∉AZ.flatten++fp)->False:=by
    rintro b hb (⟨h1,h2⟩|h)
    .rcases fS.1 hb with h|h
     .exact h2 h
     .exact Vh.2.2 b h1 b h rfl
    .exact h (aKt hb)
   intro i j oi oj gi gj b hi hj hil hjl Ef KZ;rcases cls hi hil Ef with⟨i',rfl,hi',hbi⟩|⟨aKq,ZN,g1,hl1,aR9,hF1,WB⟩<;>rcases cls hj hjl KZ with⟨j',rfl,ZM,hbj⟩|⟨aKp,Mm,g2,hl2,aSa,ae,ry⟩
   .rw [hap _ _ _ _ _ _ b hi' ZM Ef KZ]
   .exact (mixed hbi ry).elim
   .exact (mixed hbj WB).elim
   .exact rr.apart _ _ _ _ _ _ b hl1 hl2 aR9 aSa hF1 ae
  .intro i ob' g' b hl hlive hF;have ofX:b∈AZ.flatten++fp->(B.O0 b\/B.w0.heap.size<=b)/\b<w'.heap.size:=λhX=>by
    obtain⟨h1,h2⟩:=blk b hX;refine⟨?_,h2⟩;rcases h1 with⟨j,oj,gj,_,hlj,hjl,Jn⟩|h
    .exact (rr.fresh _ _ _ b hlj hjl Jn).1
    .exact .inr (kO rr.size h)
   rcases lk hl with⟨j,hj,hl2⟩|⟨hi,ob,g,hl0,⟨p,hp,rfl,rfl,rfl⟩|⟨_,rfl,⟨_,rfl⟩|⟨hiu,rfl⟩⟩⟩
   .exact ofX (aKt (Gm hl2 hF))
   .obtain ⟨b1,b2,b3,b0,f0,b4,b5,b6,b7⟩:=aA4 hp hl0;obtain⟨a0,ha0,rfl⟩:=hF;rw[b4]at ha0;obtain rfl:=cU ha0;exact ofX (oB _ b6)
   .simp at hlive
   .rw [lX]at hlive;have:=rr.fresh _ _ _ b hl0 hlive hF;exact⟨this.1,by omega⟩
  .intro b hb hO;rw[<-rr.frame b hb hO];refine iH b (gO hb rr.size) (λhm=> ?_);obtain⟨j,oj,gj,_,hlj,hjl,Jn⟩:=Mk b hm;rcases(rr.fresh _ _ _ b hlj hjl Jn).1 with h|h
   .exact hO h
   .omega
 exact⟨_,rel.put dst lC⟩
mutual
def rW(i ver:Nat)(y:AV):AV->AV
 | .obj j v=>if j=i/\v=ver then y else .obj j v
 | .agg c=> .agg (uL i ver y c)
 | .iP c=> .iP (uL i ver y c)
 |x=>x
def uL(i ver:Nat)(y:AV):List AV->List AV
 |[]=>[]
 |x::xs=>rW i ver y x::uL i ver y xs
end
def uT(i ver:Nat)(y:AV):List (List AV)->List (List AV)
 |[]=>[]
 |e::es=>uL i ver y e::uT i ver y es
theorem Be(i ver:Nat)(y:AV):∀l,(uT i ver y l).length=l.length
 |[]=>rfl
 |_::l=>by simp[uT,Be i ver y l]
def aD.rW(i ver:Nat)(y:AV)(ob:aD):aD:=if ob.box=true then {ob with dM:=uT i ver y ob.dM}else ob
def tZ(i ver:Nat)(y:AV):Nat->List aD->List aD
 |_,[]=>[]
 |k,ob::r=>(if k=i then ob.kill else ob.rW i ver y)::tZ i ver y (k+1) r
theorem Pf(i ver:Nat)(y:AV):∀(o:List aD) (k j:Nat),(tZ i ver y k o)[j]? =(o[j]?).map λob=>if k+j=i then ob.kill else ob.rW i ver y
 |[],_,_=>by simp[tZ]
 |ob::r,k,0=>by simp[tZ]
 |ob::r,k,j+1=>by simp only[tZ,AD];rw[Pf i ver y r (k+1) j,show k+1+j=k+(j+1)by omega]
theorem Mo(i ver:Nat)(y:AV):∀(o:List aD) (k:Nat),(tZ i ver y k o).length=o.length
 |[],_=>rfl
 |ob::r,k=>by simp[tZ,Mo i ver y r]
def AS.frozen(s:AS)(i ver:Nat)(ob:aD):AS:=
 ⟨uL i ver (.sl .view ob.n (iI (λ_=>some .view) false ob.dM)) s.t,tZ i ver (.sl .view ob.n (iI (λ_=>some .view) false ob.dM)) 0 s.o⟩
mutual
theorem aOe{w:World}{E E':Env}{i ver:Nat}{y:AV}(k:dF w E w E')(hy:∀v,E.H i ver v->R w E' y v []):∀(x:AV) (v:Value) (fp:List Nat),R w E x v fp->R w E' (rW i ver y x) v fp
 | .obj j u,v,fp,h=>by
  simp only[rW];split
  .rename_i e;obtain⟨rfl,rfl⟩:=e;simp only[R]at h;obtain⟨rfl,h⟩:=h;exact hy v h
  .exact lF k _ _ _ (λ_ _=>rfl) h
 | .agg c,v,fp,h=>by simp only[R,rW]at h⊢;obtain⟨cs,h1,h2,h3⟩:=h;exact⟨cs,h1,h2,Pg k hy c cs fp h3⟩
 | .iP c,v,fp,h=>by simp only[R,rW]at h⊢;obtain⟨cs,h1,h3⟩:=h;exact⟨cs,h1,Pg k hy c cs fp h3⟩
 | .int _ _,v,fp,h=>by simp only[rW];exact lF k _ _ _ (λ_ _=>rfl) h
 | .bool _,v,fp,h=>by simp only[rW];exact lF k _ _ _ (λ_ _=>rfl) h
 | .str _,v,fp,h=>by simp only[rW];exact lF k _ _ _ (λ_ _=>rfl) h
 | .sl _ _ _,v,fp,h=>by simp only[rW];exact lF k _ _ _ (λ_ _=>rfl) h
 | .fH _ _ _,v,fp,h=>by simp only[rW];exact lF k _ _ _ (λ_ _=>rfl) h
 | .ptr _ _ _ _,v,fp,h=>by simp only[rW];exact lF k _ _ _ (λ_ _=>rfl) h
 | .fn _ _,v,fp,h=>by simp only[rW];exact lF k _ _ _ (λ_ _=>rfl) h
 | .undef,v,fp,h=>by simp only[rW];exact lF k _ _ _ (λ_ _=>rfl) h
theorem Pg{w:World}{E E':Env}{i ver:Nat}{y:AV}(k:dF w E w E')(hy:∀v,E.H i ver v->R w E' y v []):∀(c:List AV) (cs:List Value) (fp:List Nat),Rc w E c cs fp->Rc w E' (uL i ver y c) cs fp
 |[],[],_,h=>by simpa [Rc,uL]using h
 |[],_::_,_,h=>by simp[Rc]at h
 |_::_,[],_,h=>by simp[Rc]at h
 |x::xs,c::cs,fp,h=>by simp only[Rc,uL]at h⊢;obtain⟨f1,f2,h1,h2,h3⟩:=h;exact⟨f1,f2,aOe k hy x c f1 h1,Pg k hy xs cs f2 h2,h3⟩
end
theorem aA5{w:World}{E E':Env}{i ver:Nat}{y:AV}(k:dF w E w E')(hy:∀v,E.H i ver v->R w E' y v []):∀(l:List (List AV)) (b off n:Nat) (fp:List Nat),Rr w E l b off n fp->Rr w E' (uT i ver y l) b off n fp
 |[],_,_,_,_,h=>by simpa [Rr,uT]using h
 |e::es,b,off,n,fp,h=>by simp only[Rr,uT]at h⊢;obtain⟨cs,f1,f2,h1,h2,h3,h4,h5,h6⟩:=h;exact⟨cs,f1,f2,h1,h2,h3,Pg k hy e cs f1 h4,aA5 k hy es b (off+n) n f2 h5,h6⟩
theorem Vm{P:Program}[aB P]{B:fM P}{s:AS}{a:Act}{w:World}{i ver:Nat}{ob:aD}(tX:AV.isObj s.o i ver=some ob)(tY:ob.box=false)(hr:Rel B s a w):Rel B (s.frozen i ver ob) a w:=by
 obtain⟨G,r⟩:=hr;obtain⟨h1,h2,h3⟩:=jB tX;generalize hyy:AV.sl .view ob.n (iI (λ_=>some .view) false ob.dM)=y;generalize ho':tZ i ver y 0 s.o=o';have back:∀{j ob' g},look o' G j ob' g->∃wX,look s.o G j wX g/\((j=i/\ob'=wX.kill)\/(j≠i/\ob'=wX.rW i ver y)):=by
  rintro j ob' g ⟨e1,e2⟩;rw[<-ho',Pf,lO]at e1;cases hx:s.o[j]? with
  |none=>rw[hx]at e1;cases e1
  |some wX=>
   rw[hx]at e1;simp only[mA,eA]at e1;refine⟨wX,⟨hx,e2⟩,?_⟩;by_cases hj:j=i
   .rw [eW hj]at e1;exact .inl ⟨hj,e1.symm⟩
   .rw [eK hj]at e1;exact .inr ⟨hj,e1.symm⟩
 have TH:∀{j wX g},look s.o G j wX g->look o' G j (if j=i then wX.kill else wX.rW i ver y) g:=by rintro j wX g ⟨e1,e2⟩;refine⟨?_,e2⟩;rw[<-ho',Pf,lO,e1];rfl
 have fz:∀wX:aD,(wX.rW i ver y).live=wX.live/\(wX.rW i ver y).box=wX.box/\(wX.rW i ver y).n=wX.n/\(wX.rW i ver y).ver=wX.ver/\(wX.rW i ver y).dM.length=wX.dM.length:=by intro wX;unfold aD.rW;split<;>simp[Be]
 have k:dF w (env B s.o G w) w (env B o' G w):=by
  refine xG (eE _) (λb hb=>⟨nH r hb,rfl⟩) r.len ?_ ?_
  .intro j wX g hl;have hf:=fz wX;by_cases hj:j=i
   .refine ⟨_,g,TH hl,?_⟩;rw[eW hj];refine⟨eE _,λhb=> .inl hb,λIb=> ?_⟩;simp[aD.kill]at Ib
   .refine ⟨_,g,TH hl,?_⟩;rw[eK hj];exact⟨by rw[hf.2.2.2.1];exact eE _,λhb=> .inl (by rw[<-hf.2.1];exact hb),λIb=>⟨by rw[<-hf.1];exact Ib,hf.2.2.1,λ_=>⟨rfl,rfl,hf.2.2.2.2⟩,λb hb hne=>⟨hb,hne,rfl⟩⟩⟩
  .intro j ob' g b hl Ib hF;obtain⟨wX,hl0,h⟩:=back hl;rcases h with⟨_,rfl⟩|⟨_,rfl⟩
   .simp [aD.kill]at Ib
   .exact .inr ⟨j,wX,g,hl0,by rw[<-(fz wX).1];exact Ib,hF⟩
 have hy:∀v,(env B s.o G w).H i ver v->R w (env B o' G w) y v []:=by
  intro v hv;obtain⟨ZN,g,hl,_,hh,_⟩:=hv;obtain rfl:=cU (hl.1.symm.trans h1);have hv:=hh h2 h3;obtain⟨fp,⟨hlen,hown⟩,hnd,hF⟩:=r.ok i _ g hl h2;rw[tY]at hown;rw[<-hyy];simp only[R,kJ];refine .inr ⟨g.a,g.cap,hv,⟨hlen,by rcases hown with h|⟨_,_,_,_,_,_,_,_,_,_,h,_⟩;simp[h.1];exact h⟩,.inr (.inr ⟨by simp,trivial,?_⟩)⟩;rcases hown with⟨h5,_⟩|⟨b,off,C,e,fz',nU,ha,hbk,hz,k1,k2,k3,rfl,Nu⟩
  .left;rw[h5];rfl
  .right;have hA:∀x,g.F x->(env B o' G w).A x:=by
    intro x hx;have La:=r.fresh _ _ _ x hl h2 hx;refine⟨La.1.elim (λh=> .inl (B.gA x h)) (λh=> .inr ⟨h,La.2⟩),λj ob' g' BU Ib hF'=> ?_⟩;obtain⟨wX,hl0,h⟩:=back BU;rcases h with⟨_,rfl⟩|⟨hj,rfl⟩
    .simp [aD.kill]at Ib
    .exact hj (r.apart j i _ _ _ _ x hl0 hl (by rw[<-(fz wX).1];exact Ib) h2 hF' hx)
   have rt:lK (λ_=>some .view) false (env B s.o G w).plain (env B o' G w).plain g.F:=
    {own:=λt e=>by obtain rfl:=cU e;exact⟨by simp,λb hb=>hA b hb⟩
     view:=λt e=>by obtain rfl:=cU e;exact⟨rfl,λb hb=>(k.a b hb).1⟩
     iZ:=λj t e=>by obtain rfl:=cU e;exact⟨by simp,.inl trivial,λb hb=>hb.elim⟩
     hh:=λh=>by cases h
     hl:=λh=>by cases h}
   exact⟨b,off,ha,hA b (hF b (by simp)),Gy rt _ _ _ _ nU (λx hx=>hF x (by simp[hx])) Nu⟩
 refine⟨G,{len:= ?_,defs:=r.defs,ok:= ?_,apart:= ?_,fresh:= ?_,tmps:= ?_,size:=r.size,frame:=r.frame,base:=r.base,same:=r.same}⟩
 .simp only[AS.frozen,Mo];exact r.len
 .simp only[AS.frozen,hyy,ho'];intro j ob' g hl Ib;obtain⟨wX,hl0,h⟩:=back hl;rcases h with⟨_,rfl⟩|⟨hj,rfl⟩
  .simp [aD.kill]at Ib
  obtain⟨fp,hown,hnd,hF⟩:=r.ok j _ g hl0 (by rw[<-(fz wX).1];exact Ib);refine⟨fp,?_,hnd,hF⟩;cases hb0:wX.box with
  |false=>
   have e:wX.rW i ver y=wX:=by unfold aD.rW;rw[eK (by simp[hb0])]
   rw[e];rw[hb0]at hown⊢;exact hown.keeps k.plain (λ_ _=>rfl)
  |true=>
   have e:wX.rW i ver y={wX with dM:=uT i ver y wX.dM}:=by unfold aD.rW;rw[eW hb0]
   rw[e];simp only[hb0]at hown⊢;simp only[Env.of,eV]at hown⊢;obtain⟨hlen,hown⟩:=hown;refine⟨by rw[Be];exact hlen,?_⟩;rcases hown with h|⟨b,off,C,e,fz',nU,ha,hbk,hz,k1,k2,k3,rfl,Nu⟩
   .exact .inl ⟨by rw[h.1];rfl,h.2⟩
   .exact .inr ⟨b,off,C,e,fz',nU,ha,hbk,hz,k1,by rw[Be];exact k2,k3,rfl,aA5 k hy _ _ _ _ _ Nu⟩
 .simp only[AS.frozen,hyy,ho'];intro p q op oq gp gq b hp hq hlp U6 hFp hFq;obtain⟨op0,hp0,h⟩:=back hp;obtain⟨oq0,hq0,h'⟩:=back hq;rcases h with⟨_,rfl⟩|⟨_,rfl⟩
  .simp [aD.kill]at hlp
  rcases h' with⟨_,rfl⟩|⟨_,rfl⟩
  .simp [aD.kill]at U6
  exact r.apart p q _ _ _ _ b hp0 hq0 (by rw[<-(fz op0).1];exact hlp) (by rw[<-(fz oq0).1];exact U6) hFp hFq
 .simp only[AS.frozen,hyy,ho'];intro j ob' g b hl Ib hF;obtain⟨wX,hl0,h⟩:=back hl;rcases h with⟨_,rfl⟩|⟨_,rfl⟩
  .simp [aD.kill]at Ib
  exact r.fresh j _ g b hl0 (by rw[<-(fz wX).1];exact Ib) hF
 .simp only[AS.frozen,hyy,ho'];exact Pg k hy _ _ _ r.tmps
def aKu(P:Program)[aB P](o:Oper)(s:AS)(K:AS->Prop):Prop:=
 match o.op with
 | .slice _ x _ _ none=>match s.ev x with
  | .obj i ver=>match AV.isObj s.o i ver with
   |some ob=>ob.box=false/\rM P o (s.frozen i ver ob) K
   |none=>False
  |_=>False
 |_=>False
attribute [simp] rW uL uT tZ aD.rW AS.frozen
mutual
def sW:AV->Bool
 | .int _ _=>true
 | .bool _=>true
 | .str _=>true
 | .agg c=>Ic c
 |_=>false
def Ic:List AV->Bool
 |[]=>true
 |x::xs=>sW x&&Ic xs
end
mutual
theorem zw{w w':World}{E E':Env}:∀(x:AV) (v:Value) (fp:List Nat),sW x=true->R w E x v fp->R w' E' x v fp
 | .int _ _,_,_,_,h=>by simpa [R]using h
 | .bool _,_,_,_,h=>by simpa [R]using h
 | .str _,_,_,_,h=>by simpa [R]using h
 | .agg c,v,fp,hc,h=>by simp only[R]at h⊢;obtain⟨cs,h1,h2,h3⟩:=h;exact⟨cs,h1,h2,Ie c cs fp (by simpa [sW]using hc) h3⟩
 | .sl _ _ _,_,_,hc,_=>by simp[sW]at hc
 | .fH _ _ _,_,_,hc,_=>by simp[sW]at hc
 | .obj _ _,_,_,hc,_=>by simp[sW]at hc
 | .ptr _ _ _ _,_,_,hc,_=>by simp[sW]at hc
 | .iP _,_,_,hc,_=>by simp[sW]at hc
 | .fn _ _,_,_,hc,_=>by simp[sW]at hc
 | .undef,_,_,hc,_=>by simp[sW]at hc
theorem Ie{w w':World}{E E':Env}:∀(c:List AV) (cs:List Value) (fp:List Nat),Ic c=true->Rc w E c cs fp->Rc w' E' c cs fp
 |[],[],_,_,h=>by simpa [Rc]using h
 |[],_::_,_,_,h=>by simp[Rc]at h
 |_::_,[],_,_,h=>by simp[Rc]at h
 |x::xs,c::cs,fp,hc,h=>by simp only[Ic,eI]at hc;simp only[Rc]at h⊢;obtain⟨f1,f2,h1,h2,h3⟩:=h;exact⟨f1,f2,zw x c f1 hc.1 h1,Ie xs cs f2 hc.2 h2,h3⟩
end
def wB(S:Nat->Prop):Env:=⟨S,λ_=>True,λ_ _=>False,λ_ _ _=>False,λ_ _ _ _ _=>False⟩
def aV(code:List UInt8)(i h:Int):List AV:=[.sl .view 1 (bA code),.int .i64 i,.int .i64 h]
theorem Oo{w:World}{E E':Env}{n:Nat}{l:List (List AV)}{v:Value}{fp:List Nat}(k:dF w E.plain w E'.plain)(h:R w E (.sl .view n l) v fp):R w E' (.sl .view n l) v fp:=by
 simp only[R]at h⊢;rcases h with h|⟨a,cap,hv,hl,h⟩
 .exact h.1.elim
 .refine .inr ⟨a,cap,hv,hl,?_⟩;rcases h with h|h|⟨hg,Gj,h⟩
  .exact absurd h.1 (by simp)
  .exact absurd h.1 (by simp)
  .refine .inr (.inr ⟨hg,Gj,?_⟩);rcases h with h|⟨b,off,ha,ht,hr⟩
   .exact .inl h
   .refine .inr ⟨b,off,ha,(k.a b ht).1,?_⟩;exact lW k _ _ _ _ _ rfl (by simp) hr
theorem zM{w:World}{E E':Env}{code:List UInt8}{i h:Int}{a:Option Addr}{cap:Nat}{fp:List Nat}(k:dF w E.plain w E'.plain)(ho:qH w E 3 [aV code i h] a cap fp):qH w E' 3 [aV code i h] a cap fp:=by
 refine⟨ho.1,?_⟩;rcases ho.2 with h0|⟨b,off,C,e,fz,nU,ha,hb,hz,h1,h2,h3,hf,hr⟩
 .exact absurd h0.1 (by simp)
 .refine .inr ⟨b,off,C,e,fz,nU,ha,hb,hz,h1,h2,h3,hf,?_⟩;simp only[Rr,aV,Rc]at hr⊢;obtain⟨cs,f1,f2,hn,hc,hone,sK,hf2,hfe⟩:=hr;refine⟨cs,f1,f2,hn,hc,hone,?_,hf2,hfe⟩;cases cs with
  |nil=>simp at hn
  |cons v0 cs=>
   cases cs with
   |nil=>simp at hn
   |cons v1 cs=>
    cases cs with
    |nil=>simp at hn
    |cons v2 cs=>
     simp only[Rc]at sK⊢;obtain⟨g1,g2,r1,r2,e1⟩:=sK;refine⟨g1,g2,Oo k r1,?_,e1⟩;cases cs with
     |nil=>simpa [R,Rc]using r2
     |cons _ _=>simp at hn
theorem CS{w:World}{E:Env}{code:List UInt8}{i h:Int}{a:Option Addr}{cap:Nat}{fp:List Nat}(ho:qH w E 3 [aV code i h] a cap fp):∃b off,a=some ⟨b,off,none⟩/\fp=[b]:=by
 rcases ho.2 with h0|⟨b,off,C,e,fz,nU,ha,hb,hz,h1,h2,h3,hf,hr⟩
 .exact absurd h0.1 (by simp)
 .refine ⟨b,off,ha,?_⟩;simp only[Rr,aV]at hr;obtain⟨cs,f1,f2,hn,hc,hone,sK,hf2,hfe⟩:=hr;cases cs with
  |nil=>simp at hn
  |cons v0 cs=>
   cases cs with
   |nil=>simp at hn
   |cons v1 cs=>
    cases cs with
    |nil=>simp at hn
    |cons v2 cs=>
     simp only[Rc,R]at sK;obtain⟨g1,g2,r1,⟨g3,g4,⟨_,r3⟩,⟨g5,g6,⟨_,r5⟩,r6,e3⟩,e2⟩,e1⟩:=sK;have hg1:g1=[]:=by
      rcases r1 with h|⟨_,_,_,_,h|h|h⟩
      .exact h.1.elim
      .exact absurd h.1 (by simp)
      .exact absurd h.1 (by simp)
      .exact h.2.1
     have hg6:g6=[]:=by cases cs with
      |nil=>simpa [Rc]using r6
      |cons _ _=>simp at hn
     subst hg1 r3 r5 hg6 e3 e2 e1 hf2 hfe;simp[hf]
mutual
def fF:AV->Bool
 | .int _ _=>true
 | .bool _=>true
 | .str _=>true
 | .sl .view _ _=>true
 | .sl .own _ []=>true
 | .agg c=>rX c
 |_=>false
def rX:List AV->Bool
 |[]=>true
 |x::xs=>fF x&&rX xs
end
mutual
theorem aOg{w:World}{E E':Env}(k:dF w E.plain w E'.plain):∀(x:AV) (v:Value) (fp:List Nat),fF x=true->R w E x v fp->R w E' x v fp
 | .int _ _,_,_,_,h=>by simpa [R]using h
 | .bool _,_,_,_,h=>by simpa [R]using h
 | .str _,_,_,_,h=>by simpa [R]using h
 | .sl .view _ _,_,_,_,h=>Oo k h
 | .sl .own _ [],_,_,_,h=>by simpa [R,Rr,Env.dead]using h
 | .sl .own _ (_::_),_,_,hc,_=>by simp[fF]at hc
 | .sl (.iZ _) _ _,_,_,hc,_=>by simp[fF]at hc
 | .agg c,v,fp,hc,h=>by simp only[R]at h⊢;obtain⟨cs,h1,h2,h3⟩:=h;exact⟨cs,h1,h2,aI8 k c cs fp (by simpa [fF]using hc) h3⟩
 | .fH _ _ _,_,_,hc,_=>by simp[fF]at hc
 | .obj _ _,_,_,hc,_=>by simp[fF]at hc
 | .ptr _ _ _ _,_,_,hc,_=>by simp[fF]at hc
 | .iP _,_,_,hc,_=>by simp[fF]at hc
 | .fn _ _,_,_,hc,_=>by simp[fF]at hc
 | .undef,_,_,hc,_=>by simp[fF]at hc
theorem aI8{w:World}{E E':Env}(k:dF w E.plain w E'.plain):∀(c:List AV) (cs:List Value) (fp:List Nat),rX c=true->Rc w E c cs fp->Rc w E' c cs fp
 |[],[],_,_,h=>by simpa [Rc]using h
 |[],_::_,_,_,h=>by simp[Rc]at h
 |_::_,[],_,_,h=>by simp[Rc]at h
 |x::xs,c::cs,fp,hc,h=>by simp only[rX,eI]at hc;simp only[Rc]at h⊢;obtain⟨f1,f2,h1,h2,h3⟩:=h;exact⟨f1,f2,aOg k x c f1 hc.1 h1,aI8 k xs cs f2 hc.2 h2,h3⟩
end
theorem TI{w:World}{E E':Env}(k:dF w E.plain w E'.plain):∀{xs:List AV} {vs:List Value} {fp:List Nat},xs.all fF=true->Rc w E xs vs fp->Rc w E' xs vs fp
 |[],[],_,_,h=>by simpa [Rc]using h
 |[],_::_,_,_,h=>by simp[Rc]at h
 |_::_,[],_,_,h=>by simp[Rc]at h
 |x::xs,v::vs,fp,hx,h=>by simp only[BY,eI]at hx;simp only[Rc]at h⊢;obtain⟨f1,f2,h1,h2,e⟩:=h;exact⟨f1,f2,aOg k _ _ _ hx.1 h1,TI k hx.2 h2,e⟩
def JA(w:World)(S:Nat->Prop)(b fo cap:Nat)(code:List UInt8):Prop:=
 ∃i h:Int,0<=i/\qH w (wB S) 3 [aV code i h] (some ⟨b,fo,none⟩) cap [b]
def Jo(P:Program)[aB P](f:FuncId)(xs:List AV)(Q:AV->Prop):Prop:=
 ∀(w:World) (S:Nat->Prop) (b fo cap:Nat) (code:List UInt8) (vs:List Value),aB.holds P w->aB.low P<=b->b<w.heap.size->¬S b->(∀x,S x->x<w.heap.size)->JA w S b fo cap code->Rc w (wB S) xs vs []->
  Calls P f (.pointer (some ⟨b,fo,none⟩)::vs).toArray w λe w'=>∃r v fp,e= .returned v/\Q r/\R w' (wB λx=>(S x\/(w.heap.size<=x/\x<w'.heap.size))/\x∉fp) r v fp/\fp.Nodup/\(∀x∈fp,w.heap.size<=x/\x<w'.heap.size)/\w.heap.size<=w'.heap.size/\
   (∀x,x<w.heap.size->x≠b->w'.heap[x]? =w.heap[x]?)/\nV w w'/\JA w' (λx=>(S x\/(w.heap.size<=x/\x<w'.heap.size))/\x∉fp) b fo cap code
def AS.drew(s:AS)(dst:Option Tmp)(k ver:Nat)(code:List UInt8)(i h:Int)(r:AV):AS:=AS.called ⟨s.t,s.o.set k ⟨true,true,3,ver,[aV code i h]⟩⟩ dst r
theorem TJ{o:List aD}{G:List CO}{k i:Nat}{ob' Mm:aD}{g2:CO}(h:look (o.set k ob') G i Mm g2):(i=k/\Mm=ob'/\k<o.length/\G[k]? =some g2)\/(i≠k/\look o G i Mm g2):=by
 obtain⟨h1,h2⟩:=h;by_cases hik:i=k
 .subst hik;have hl:i<o.length:=by have:=(cQ.1 h1).1;simpa using this
  rw[lR hl]at h1;exact .inl ⟨rfl,(cU h1).symm,hl,h2⟩
 .rw [gR (λh=>hik h.symm)]at h1
  exact .inr ⟨hik,h1,h2⟩
theorem aA6(f x:Operand)(ys:List Operand)(KS:Array TypeId){g:FuncId}{k ver:Nat}{code:List UInt8}{i h:Int}{Q:AV->Prop}(hf:s.ev f= .fn g [])(hc:aT P g=true)
  (hx:s.ev x= .ptr k ver 0 0) (ho:AV.isObj s.o k ver=some ⟨true,true,3,ver,[aV code i h]⟩) (h0:0<=i) (hfl:(ys.map s.ev).all fF=true) (qE:Jo P g (ys.map s.ev) Q)
  (a:Act) (w:World) (next:Act->World->Prop) (X:Exit->Act->World->Prop) (hr:Rel B s a w)
  (hn:∀r i' h' a' w',Q r->0<=i'->Rel B (s.drew dst k ver code i' h' r) a' w'->next a' w'):
  Oper.wp P ⟨dst,.call {callee:= .value f,args:=⟨x::ys⟩,argTypes:=KS},ty,pos,after,gd⟩ a w next X:=by
 obtain⟨G,r⟩:=hr;have h1:=r.ev f;rw[hf]at h1;simp only[R]at h1;obtain⟨_,cs,hv,sP⟩:=h1;have hcs:cs=[]:=by cases cs with
  |nil=>rfl
  |cons _ _=>simp[Rc]at sP
 subst hcs;obtain⟨go,b,fo,hl,hlive,hga,hpv⟩:=r.ptr hx ho;obtain⟨Rw,hown,aKm,hF0⟩:=r.ok k _ go hl rfl;have hb1:AV.isObj s.o k ver=some ⟨true,true,3,ver,[aV code i h]⟩:=ho;simp only[Env.of,eV]at hown;obtain⟨b2,aSg,ha2,rfl⟩:=CS hown;rw[hga]at ha2;simp only[eA,nB,qT]at ha2;obtain⟨rfl,rfl⟩:=ha2;have DF:go.F b:=hF0 b (by simp);have Ig:=r.fresh k _ go b hl rfl DF;have hSb:¬(env B s.o G w).A b:=λhA=>hA.2 k _ go hl rfl DF
 have hS:∀x,(env B s.o G w).A x->x<w.heap.size:=λx hx=>nH r hx
 have aA7:JA w (env B s.o G w).A b fo go.cap code:=by refine⟨i,h,h0,?_⟩;rw[hga]at hown;exact zM (E:=env B s.o G w) ⟨λ_ h=>⟨h,rfl⟩,λ_ _=>trivial,λ_ _ _ h=>h.elim,λ_ _ _ h=>h.elim,λ_ _ _ _ _ h=>h.elim⟩ hown
 have oP:Rc w (env B s.o G w) (ys.map s.ev) (ys.map a.eval) []:=qJ r ys;have Cb:=qE w _ b fo go.cap code _ r.holds (r.Mc Ig.1) Ig.2 hSb hS aA7 (TI (E:=env B s.o G w) (E':=wB (env B s.o G w).A) ⟨λ_ h=>⟨h,rfl⟩,λ_ _=>trivial,λ_ _ _ h=>h.elim,λ_ _ _ h=>h.elim,λ_ _ _ _ _ h=>h.elim⟩ hfl oP);unfold Oper.wp;have fV:(execOp a.eval ⟨dst,.call {callee:= .value f,args:=⟨x::ys⟩,argTypes:=KS},ty,pos,after,gd⟩).run P w= .ok (.enter g (.pointer (some ⟨b,fo,none⟩)::ys.map a.eval).toArray) w:=by
  have e:(⟨x::ys⟩:Array Operand).map a.eval=(.pointer (some ⟨b,fo,none⟩)::ys.map a.eval).toArray:=by apply AM;simp[hpv]
  simp[execOp,resolve,hv,Deferred.ofValue,invoke,rD hc,e]
 rw[fV,AH];refine Cb.mono λe w' hp=> ?_
 obtain⟨rv,v,fp,rfl,hQ,Nu,hnd,La,hsz,iH,zJ,i',h',hi',aA8⟩:=hp;refine hn rv i' h' _ _ hQ hi' ?_;obtain⟨Gs,hlen,vZ,hap,vO⟩:=Af (q:=1) rv v fp s.o.length Nu hnd;generalize qC:(⟨true,true,3,ver,[aV code i' h']⟩:aD)=ob';have Mq:(s.o.set k ob').length=s.o.length:=by simp
 have hlG:G.length=(s.o.set k ob').length:=by rw[Mq,r.len]
 generalize Ad:(eB 1 s.o.length rv).2=news at*;have Gm:∀{j ob g2 x},look news Gs j ob g2->g2.F x->x∈fp:=by intro j ob g2 x hl2 hF;obtain⟨_,_,_,f',_,_,h3,h4⟩:=vZ _ _ _ hl2;exact h4 _ ((h3 _).1 hF)
 have lk:∀{j ob g2},look (s.o.set k ob'++news) (G++Gs) j ob g2->(∃j',look news Gs j' ob g2/\j=s.o.length+j')\/(j=k/\ob=ob'/\g2=go)\/(j≠k/\look s.o G j ob g2):=by
  intro j ob g2 h2;rcases lH hlG h2 with⟨_,h2⟩|⟨hj,h2⟩
  .rcases TJ h2 with⟨rfl,rfl,_,hg⟩|⟨hne,h2⟩
   .exact .inr (.inl ⟨rfl,rfl,cU (hg.symm.trans hl.2)⟩)
   .exact .inr (.inr ⟨hne,h2⟩)
  .exact .inl ⟨_,h2,by rw[Mq]at hj⊢;omega⟩
 have back:∀{j ob g2},look s.o G j ob g2->j≠k->look (s.o.set k ob'++news) (G++Gs) j ob g2:=by intro j ob g2 h2 hne;refine jK ⟨?_,h2.2⟩;rw[gR (λh=>hne h.symm)];exact h2.1
 have hkl:k<s.o.length:=(cQ.1 hl.1).1;have aA9:look (s.o.set k ob'++news) (G++Gs) k ob' go:=jK ⟨lR hkl,hl.2⟩;have Ih:∀j ob g2 x,look s.o G j ob g2->ob.live=true->g2.F x->x≠b->w'.heap[x]? =w.heap[x]?:=λj ob g2 x h2 fD hF hne=>iH x (r.fresh j ob g2 x h2 fD hF).2 hne
 have hE:dF w (env B s.o G w) w' (env B (s.o.set k ob'++news) (G++Gs) w'):=by
  refine xG hsz (λx hA=>⟨nH r hA,iH x (nH r hA) (λe=>hSb (e▸hA))⟩) r.len ?_ ?_
  .intro j ob g2 h2;by_cases hjk:j=k
   .rw [hjk]at h2⊢;obtain⟨rfl,rfl⟩:=iD h2 hl;refine⟨ob',g2,aA9,by rw[<-qC];exact eE _,λ_=> .inl rfl,λ_=>⟨rfl,by rw[<-qC],λ_=>⟨rfl,rfl,by rw[<-qC];rfl⟩,λx hF hne=>⟨hF,hne,?_⟩⟩⟩;exact Ih _ _ _ x h2 rfl hF (λe=>hne _ hga (by rw[e]))
   .refine ⟨ob,g2,back h2 hjk,eE _,λh=> .inl h,λfD=>⟨fD,rfl,λ_=>⟨rfl,rfl,rfl⟩,λx hF hne=>⟨hF,hne,?_⟩⟩⟩
    exact Ih _ _ _ x h2 fD hF (λe=>hjk (r.apart _ _ _ _ _ _ b h2 hl fD rfl (e▸hF) DF))
  .intro j ob g2 x h2 fD hF;rcases lk h2 with⟨j',h3,_⟩|⟨e1,e2,e3⟩|⟨_,h3⟩
   .exact .inl (La _ (Gm h3 hF)).1
   .exact .inr ⟨_,_,_,hl,rfl,e3▸hF⟩
   .exact .inr ⟨j,ob,g2,h3,fD,hF⟩
 have hA':∀x,((env B s.o G w).A x\/(w.heap.size<=x/\x<w'.heap.size))/\x∉fp->(env B (s.o.set k ob'++news) (G++Gs) w').A x:=by
  rintro x ⟨hx,hxf⟩;refine⟨?_,λj ob g2 h2 fD hF=> ?_⟩
  .rcases hx with hx|hx
   .rcases hx.1 with h|h
    .exact .inl h
    .exact .inr ⟨h.1,gO h.2 hsz⟩
   .exact .inr ⟨kO r.size hx.1,hx.2⟩
  .rcases lk h2 with⟨j',h3,_⟩|⟨e1,e2,e3⟩|⟨_,h3⟩
   .exact hxf (Gm h3 hF)
   .rw [e3]at hF;rcases hx with hx|hx
    .exact hx.2 _ _ _ hl rfl hF
    .have:=(r.fresh _ _ _ x hl rfl hF).2;omega
   .rcases hx with hx|hx
    .exact hx.2 _ _ _ h3 fD hF
    .have:=(r.fresh _ _ _ x h3 fD hF).2;omega
 have kn:dF w' (wB λx=>((env B s.o G w).A x\/(w.heap.size<=x/\x<w'.heap.size))/\x∉fp) w' (env B (s.o.set k ob'++news) (G++Gs) w'):=
  ⟨λx hx=>⟨hA' x hx,rfl⟩,λ_ _=>trivial,λ_ _ _ h=>h.elim,λ_ _ _ h=>h.elim,λ_ _ _ _ _ h=>h.elim⟩
 have kp:dF w' (wB λx=>((env B s.o G w).A x\/(w.heap.size<=x/\x<w'.heap.size))/\x∉fp).plain w' (env B (s.o.set k ob'++news) (G++Gs) w').plain:=
  ⟨λx hx=>⟨hA' x hx,rfl⟩,λ_ _=>trivial,λ_ _ _ h=>h.elim,λ_ _ _ h=>h.elim,λ_ _ _ _ _ h=>h.elim⟩
 have aGn:∀{j ob g2 x},look s.o G j ob g2->ob.live=true->g2.F x->j≠k->x≠b:=λh2 fD hF hne e=>hne (r.apart _ _ _ _ _ _ b h2 hl fD rfl (e▸hF) DF)
 have hnext:dN B ⟨s.t,s.o.set k ob'++news⟩ (G++Gs) a w':=by
  refine r.next hE (by simp[r.len,hlen]) ?_ ?_ ?_ hsz ?_ zJ
  .intro j ob g2 h2 fD;rcases lk h2 with⟨j',h3,_⟩|⟨e1,e2,e3⟩|⟨hne,h3⟩
   .obtain ⟨q1,q2,_,f',DJ,q3,q4,q5⟩:=vZ _ _ _ h3;refine⟨f',?_,q3,λx hx=>(q4 x).2 hx⟩;have:=DJ.keeps kn.plain (λ_ _=>rfl);rw[q2];exact this
   .rw [e2,e3];refine⟨[b],?_,by simp,by simpa using DF⟩;have h5:ob'.box=true/\ob'.n=3/\ob'.dM=[aV code i' h']:=by rw[<-qC];exact⟨rfl,rfl,rfl⟩
    rw[h5.1,h5.2.1,h5.2.2,hga];simp only[Env.of,eV];exact zM kp aA8
   .exact (r.ok j ob g2 h3 fD).keeps hE λx hx=>Ih j ob g2 x h3 fD hx (aGn h3 fD hx hne)
  .intro j1 j2 o1 o2 g1 g2 x a1 a2 l1 l2 f1 f2;rcases lk a1 with⟨j',c1,d1⟩|⟨d1,d2,d3⟩|⟨d1,c1⟩<;>rcases lk a2 with⟨j'',c2,d4⟩|⟨d4,d5,d6⟩|⟨d4,c2⟩
   .have:=hap _ _ _ _ _ _ x c1 c2 f1 f2;omega
   .have q1:=(La _ (Gm c1 f1)).1;have q2:=(r.fresh _ _ _ x hl rfl (d6▸f2)).2;omega
   .have q1:=(La _ (Gm c1 f1)).1;have q2:=(r.fresh _ _ _ x c2 l2 f2).2;omega
   .have q1:=(La _ (Gm c2 f2)).1;have q2:=(r.fresh _ _ _ x hl rfl (d3▸f1)).2;omega
   .omega
   .exact absurd (r.apart _ _ _ _ _ _ x c2 hl l2 rfl f2 (d3▸f1)) d4
   .have q1:=(La _ (Gm c2 f2)).1;have q2:=(r.fresh _ _ _ x c1 l1 f1).2;omega
   .exact absurd (r.apart _ _ _ _ _ _ x c1 hl l1 rfl f1 (d6▸f2)) d1
   .exact r.apart _ _ _ _ _ _ x c1 c2 l1 l2 f1 f2
  .intro j ob g2 x h2 fD hF;rcases lk h2 with⟨j',h3,_⟩|⟨e1,e2,e3⟩|⟨hne,h3⟩
   .have:=La _ (Gm h3 hF);exact⟨.inr (kO r.size this.1),this.2⟩
   .have:=r.fresh _ _ _ x hl rfl (e3▸hF);exact⟨this.1,gO this.2 hsz⟩
   .have:=r.fresh _ _ _ x h3 fD hF;exact⟨this.1,gO this.2 hsz⟩
  .intro x hx hO;refine iH x (gO hx r.size) λe=> ?_
   rcases Ig.1 with h|h
   .exact hO (e▸h)
   .omega
 refine⟨G++Gs,?_⟩;have hd:s.drew dst k ver code i' h' rv=AS.put ⟨s.t,s.o.set k ob'++news⟩ dst (eB 1 s.o.length rv).1:=by simp only[AS.drew,AS.called,CC,qC,Ad]
 rw[hd];refine hnext.put dst ?_;refine vO _ kn λj ob g2 h2=> ?_
 obtain⟨_,_,q3,_⟩:=vZ _ _ _ h2;have h3:=kK (o:=s.o.set k ob') (G:=G) hlG h2;rw[Mq]at h3;exact⟨ob,g2,h3,tP q3.symm,λ_ _=>rfl,λh=>absurd h (by decide)⟩
def ug(P:Program)[aB P](f:FuncId)(args:List AV)(Q:AV->Prop):Prop:=
 ∀(w:World) (S:Nat->Prop) (vs:List Value),aB.holds P w->(∀x,S x->x<w.heap.size)->Rc w (wB S) args vs []->
  Calls P f vs.toArray w λe w'=>∃r v fp,e= .returned v/\Q r/\R w' (wB λx=>(S x\/(w.heap.size<=x/\x<w'.heap.size))/\x∉fp) r v fp/\fp.Nodup/\
   (∀b∈fp,w.heap.size<=b/\b<w'.heap.size)/\w.heap.size<=w'.heap.size/\(∀b,b<w.heap.size->w'.heap[b]? =w.heap[b]?)/\nV w w'
def zx(P:Program)[aB P](f:FuncId):Prop:=
 ∀(w:World) (S:Nat->Prop) (v:Value) (code:List UInt8),aB.holds P w->(∀x,S x->x<w.heap.size)->R w (wB S) (.sl .view 1 (bA code)) v []->
  Calls P f #[v] w λe w'=>∃b fo cap,e= .returned (.pointer (some ⟨b,fo,none⟩))/\w.heap.size<=b/\b<w'.heap.size/\JA w' (λx=>(S x\/(w.heap.size<=x/\x<w'.heap.size))/\x≠b) b fo cap code/\
   w.heap.size<=w'.heap.size/\(∀b,b<w.heap.size->w'.heap[b]? =w.heap[b]?)/\nV w w'
def AS.Ph(s:AS)(dst:Option Tmp)(code:List UInt8)(i h:Int):AS:=AS.put ⟨s.t,s.o++[⟨true,true,3,0,[aV code i h]⟩]⟩ dst (.ptr s.o.length 0 0 0)
theorem bq(f:Operand)(ys:List Operand)(KS:Array TypeId){g:FuncId}{Q:AV->Prop}(hf:s.ev f= .fn g [])(hc:aT P g=true)
  (hfl:(ys.map s.ev).all fF=true) (qE:ug P g (ys.map s.ev) Q) (a:Act) (w:World) (next:Act->World->Prop) (X:Exit->Act->World->Prop) (hr:Rel B s a w)
  (hn:∀r a' w',Q r->Rel B (s.called dst r) a' w'->next a' w'):
  Oper.wp P ⟨dst,.call {callee:= .value f,args:=⟨ys⟩,argTypes:=KS},ty,pos,after,gd⟩ a w next X:=by
 obtain⟨G,r⟩:=hr;have h1:=r.ev f;rw[hf]at h1;simp only[R]at h1;obtain⟨_,cs,hv,sP⟩:=h1;have hcs:cs=[]:=by cases cs with
  |nil=>rfl
  |cons _ _=>simp[Rc]at sP
 subst hcs;have oP:Rc w (env B s.o G w) (ys.map s.ev) (ys.map a.eval) []:=qJ r ys;have Cb:=qE w (env B s.o G w).A _ r.holds (λx hx=>nH r hx) (TI (E:=env B s.o G w) (E':=wB (env B s.o G w).A) ⟨λ_ h=>⟨h,rfl⟩,λ_ _=>trivial,λ_ _ _ h=>h.elim,λ_ _ _ h=>h.elim,λ_ _ _ _ _ h=>h.elim⟩ hfl oP);unfold Oper.wp;have fV:(execOp a.eval ⟨dst,.call {callee:= .value f,args:=⟨ys⟩,argTypes:=KS},ty,pos,after,gd⟩).run P w= .ok (.enter g (ys.map a.eval).toArray) w:=by
  have e:(⟨ys⟩:Array Operand).map a.eval=(ys.map a.eval).toArray:=by apply AM;simp
  simp[execOp,resolve,hv,Deferred.ofValue,invoke,rD hc,e]
 rw[fV,AH];refine Cb.mono λe w' h=> ?_
 obtain⟨rr,v,fp,rfl,hQ,Nu,hnd,La,hsz,iH,zJ⟩:=h;refine hn rr _ _ hQ ?_;obtain⟨Gs,hlen,vZ,hap,vO⟩:=Af (q:=1) rr v fp s.o.length Nu hnd;have kn:dF w' (wB λx=>((env B s.o G w).A x\/(w.heap.size<=x/\x<w'.heap.size))/\x∉fp) w' (env B (s.o++(eB 1 s.o.length rr).2) (G++Gs) w'):=by
  refine⟨λb hb=>⟨⟨?_,λi ob g hl hlive hF=> ?_⟩,rfl⟩,λ_ _=>trivial,λ_ _ _ h=>h.elim,λ_ _ _ h=>h.elim,λ_ _ _ _ _ h=>h.elim⟩
  .rcases hb.1 with h|h
   .rcases h.1 with h|h
    .exact .inl h
    .exact .inr ⟨h.1,gO h.2 hsz⟩
   .exact .inr ⟨kO r.size h.1,h.2⟩
  .rcases lH r.len hl with⟨_,h⟩|⟨_,h⟩
   .rcases hb.1 with h1|h1
    .exact h1.2 _ _ _ h hlive hF
    .have:=(r.fresh _ _ _ b h hlive hF).2;omega
   .obtain ⟨_,_,_,f,_,_,h3,h4⟩:=vZ _ _ _ h;exact hb.2 (h4 _ ((h3 _).1 hF))
 have Hu:=r.add (eB 1 s.o.length rr).2 Gs w' hlen hsz iH (λj ob g b hl _ hF=>by
   obtain⟨_,_,_,f,_,_,h3,h4⟩:=vZ _ _ _ hl;exact La _ (h4 _ ((h3 _).1 hF))) (λi j oi oj gi gj b hi hj _ _ Ef KZ=>hap _ _ _ _ _ _ b hi hj Ef KZ) (λk j ob g hl _=>by
   obtain⟨h1,h2,_,f,hown,h3,h4,h5⟩:=vZ _ _ _ hl;refine⟨f,?_,h3,λb hb=>(h4 b).2 hb⟩;have:=hown.keeps kn.plain (λ_ _=>rfl);rw[h2];exact this) zJ
 refine⟨G++Gs,Hu.1.put dst ?_⟩;refine vO _ kn λj ob g hl=> ?_
 obtain⟨_,_,h3,_⟩:=vZ _ _ _ hl;exact⟨ob,g,kK r.len hl,tP h3.symm,λ_ _=>rfl,λh=>absurd h (by decide)⟩
theorem Xi(f x:Operand)(KS:Array TypeId){g:FuncId}{code:List UInt8}(hf:s.ev f= .fn g [])(hc:aT P g=true)(hx:s.ev x= .sl .view 1 (bA code))
  (qE:zx P g) (a:Act) (w:World) (next:Act->World->Prop) (X:Exit->Act->World->Prop) (hr:Rel B s a w)
  (hn:∀i h a' w',0<=i->Rel B (s.Ph dst code i h) a' w'->next a' w'):
  Oper.wp P ⟨dst,.call {callee:= .value f,args:=#[x],argTypes:=KS},ty,pos,after,gd⟩ a w next X:=by
 obtain⟨G,r⟩:=hr;have h1:=r.ev f;rw[hf]at h1;simp only[R]at h1;obtain⟨_,cs,hv,sP⟩:=h1;have hcs:cs=[]:=by cases cs with
  |nil=>rfl
  |cons _ _=>simp[Rc]at sP
 subst hcs;have hxv:=r.ev x;rw[hx]at hxv;have Cb:=qE w (env B s.o G w).A _ code r.holds (λx hx=>nH r hx) (Oo (E:=env B s.o G w) (E':=wB (env B s.o G w).A) ⟨λb hb=>⟨hb,rfl⟩,λ_ _=>trivial,λ_ _ _ h=>h.elim,λ_ _ _ h=>h.elim,λ_ _ _ _ _ h=>h.elim⟩ hxv);unfold Oper.wp;have fV:(execOp a.eval ⟨dst,.call {callee:= .value f,args:=#[x],argTypes:=KS},ty,pos,after,gd⟩).run P w= .ok (.enter g #[a.eval x]) w:=by simp[execOp,resolve,hv,Deferred.ofValue,invoke,rD hc]
 rw[fV,AH];refine Cb.mono λe w' h=> ?_
 obtain⟨b,fo,cap,rfl,hb1,hb2,⟨i,h,hi,hown⟩,hsz,iH,zJ⟩:=h;refine hn i h _ _ hi ?_;have Hu:=r.add [⟨true,true,3,0,[aV code i h]⟩] [⟨some ⟨b,fo,none⟩,cap,(· =b)⟩] w' rfl hsz iH
  (by
   rintro j ob g2 x ⟨q1,q2⟩ _ hF;cases j with
   |zero=>simp at q2;subst q2;simp at hF;subst hF;exact⟨hb1,hb2⟩
   |succ j=>simp at q2)
  (by
   rintro i j _ _ _ _ _ ⟨q1,_⟩ ⟨q2,_⟩ _ _ _ _;cases i<;>cases j<;>simp_all)
  (by
   rintro k j ob g2 ⟨q1,q2⟩ _;cases j with
   |zero=>
    simp at q1 q2;subst q1;subst q2;refine⟨[b],?_,by simp,by simp⟩;simp only[Env.of,eV];refine zM ⟨λx hx=>⟨⟨?_,λj ob g2 h2 fD hF=> ?_⟩,rfl⟩,λ_ _=>trivial,λ_ _ _ h=>h.elim,λ_ _ _ h=>h.elim,λ_ _ _ _ _ h=>h.elim⟩ hown
    .rcases hx.1 with h|h
     .rcases h.1 with h|h
      .exact .inl h
      .exact .inr ⟨h.1,gO h.2 hsz⟩
     .exact .inr ⟨kO r.size h.1,h.2⟩
    .rcases lH r.len h2 with⟨_,h2⟩|⟨_,h2⟩
     .rcases hx.1 with h|h
      .exact h.2 _ _ _ h2 fD hF
      .have:=(r.fresh _ _ _ x h2 fD hF).2;omega
     .obtain ⟨q1,q2⟩:=h2;generalize j-s.o.length=jj at*;cases jj with
      |zero=>simp at q2;subst q2;exact hx.2 hF
      |succ j=>simp at q2
   |succ j=>simp at q1) zJ
 have hp:R w' (env B (s.o++[⟨true,true,3,0,[aV code i h]⟩]) (G++[⟨some ⟨b,fo,none⟩,cap,(· =b)⟩]) w') (.ptr s.o.length 0 0 0) (.pointer (some ⟨b,fo,none⟩)) []:=by simp only[R];exact⟨trivial,⟨true,true,3,0,[aV code i h]⟩,⟨some ⟨b,fo,none⟩,cap,(· =b)⟩,⟨by simp,by rw[<-r.len];simp⟩,eE _,λ_ _=>⟨b,fo,rfl,by simp⟩,λ_ h=>by cases h⟩
 exact⟨_,Hu.1.put dst hp⟩
theorem Li:∀(u:List Nat) (o:List aD),(uS u o).length=o.length
 |[],_=>rfl
 |j::u,o=>by rw[uS,Li u];unfold Gz;split<;>simp
theorem Ii:∀(u:List Nat) (o:List aD) {i:Nat} {ob:aD},i∈u->(uS u o)[i]? =some ob->ob.live=false
 |[],_,_,_,h,_=>by simp at h
 |j::u,o,i,ob,h,hk=>by
  rw[uS]at hk;by_cases hi:i∈u
  .exact Ii u _ hi hk
  .obtain rfl:i=j:=by simpa [hi]using h
   rw[FK i u _ hi]at hk;unfold Gz at hk;split at hk
   .rename_i wX h0;rw[lR (cQ.1 h0).1]at hk;obtain rfl:=cU hk;rfl
   .rename_i h0;rw[h0]at hk;cases hk
theorem Pj:∀(u:List Nat) (o:List aD) {i:Nat} {ob:aD},o[i]? =some ob->∃Mm,(uS u o)[i]? =some Mm/\Mm.ver=ob.ver/\Mm.box=ob.box
 |[],_,_,ob,h=>⟨ob,h,rfl,rfl⟩
 |j::u,o,i,ob,h=>by
  rw[uS];have:∃ZN,(Gz j o)[i]? =some ZN/\ZN.ver=ob.ver/\ZN.box=ob.box:=by
   by_cases hij:i=j
   .subst hij;refine⟨ob.kill,?_,rfl,rfl⟩;unfold Gz;rw[h];exact lR (cQ.1 h).1
   .exact ⟨ob,by rw[Ty j i o hij];exact h,rfl,rfl⟩
  obtain⟨ZN,h1,h2,h3⟩:=this;obtain⟨Mm,g1,g2,g3⟩:=Pj u _ h1;exact⟨Mm,g1,g2.trans h2,g3.trans h3⟩
def OkX(P:Program)[aB P](f:FuncId)(x:AV)(zs:List AV)(Q:AV->Prop):Prop:=
 ∀(w:World) (S:Nat->Prop) (b fo cap:Nat) (code:List UInt8) (v:Value) (Rw:List Nat) (vs:List Value),aB.holds P w->aB.low P<=b->b<w.heap.size->¬S b->(∀x,S x->x<w.heap.size)->JA w S b fo cap code->
  (∀y∈Rw,aB.low P<=y/\y<w.heap.size/\y≠b/\¬S y)->Rw.Nodup->R w (wB S) x v Rw->Rc w (wB S) zs vs []->
  Calls P f (.pointer (some ⟨b,fo,none⟩)::v::vs).toArray w λe w'=>∃r u fp,e= .returned u/\Q r/\R w' (wB λx=>(S x\/x∈Rw\/(w.heap.size<=x/\x<w'.heap.size))/\x∉fp) r u fp/\fp.Nodup/\
   (∀x∈fp,(x∈Rw\/w.heap.size<=x)/\x<w'.heap.size)/\w.heap.size<=w'.heap.size/\(∀x,x<w.heap.size->x≠b->x∉Rw->w'.heap[x]? =w.heap[x]?)/\nV w w'/\
   JA w' (λx=>(S x\/x∈Rw\/(w.heap.size<=x/\x<w'.heap.size))/\x∉fp) b fo cap code
def AS.uh(s:AS)(dst:Option Tmp)(k ver:Nat)(code:List UInt8)(i h:Int)(u:List Nat)(r:AV):AS:=AS.called ⟨s.t,(uS u s.o).set k ⟨true,true,3,ver,[aV code i h]⟩⟩ dst r
theorem zy(f x y:Operand)(ys:List Operand)(KS:Array TypeId){g:FuncId}{k ver:Nat}{code:List UInt8}{i h:Int}{xv:AV}{Q:AV->Prop}(hf:s.ev f= .fn g [])(hc:aT P g=true)
  (hx:s.ev x= .ptr k ver 0 0) (ho:AV.isObj s.o k ver=some ⟨true,true,3,ver,[aV code i h]⟩) (h0:0<=i) (hry:gP s.o (s.ev y)=true) (huy:(k::iN (s.ev y)).Nodup) (hxv:res s.o (s.ev y)=xv)
  (hfl:(ys.map s.ev).all fF=true) (qE:OkX P g xv (ys.map s.ev) Q)
  (a:Act) (w:World) (next:Act->World->Prop) (X:Exit->Act->World->Prop) (hr:Rel B s a w)
  (hn:∀r i' h' a' w',Q r->0<=i'->Rel B (s.uh dst k ver code i' h' (iN (s.ev y)) r) a' w'->next a' w'):
  Oper.wp P ⟨dst,.call {callee:= .value f,args:=⟨x::y::ys⟩,argTypes:=KS},ty,pos,after,gd⟩ a w next X:=by
 obtain⟨G,r⟩:=hr;have h1:=r.ev f;rw[hf]at h1;simp only[R]at h1;obtain⟨_,cs,hv,sP⟩:=h1;have hcs:cs=[]:=by cases cs with
  |nil=>rfl
  |cons _ _=>simp[Rc]at sP
 subst hcs;obtain⟨go,b,fo,hl,hlive,hga,hpv⟩:=r.ptr hx ho;obtain⟨Rw,hown,aKm,hF0⟩:=r.ok k _ go hl rfl;simp only[Env.of,eV]at hown;obtain⟨b2,aSg,ha2,rfl⟩:=CS hown;rw[hga]at ha2;simp only[eA,nB,qT]at ha2;obtain⟨rfl,rfl⟩:=ha2;have DF:go.F b:=hF0 b (by simp);have Ig:=r.fresh k _ go b hl rfl DF;have hSb:¬(env B s.o G w).A b:=λhA=>hA.2 k _ go hl rfl DF
 have hS:∀x,(env B s.o G w).A x->x<w.heap.size:=λx hx=>nH r hx
 have aA7:JA w (env B s.o G w).A b fo go.cap code:=by refine⟨i,h,h0,?_⟩;rw[hga]at hown;exact zM (E:=env B s.o G w) ⟨λ_ h=>⟨h,rfl⟩,λ_ _=>trivial,λ_ _ _ h=>h.elim,λ_ _ _ h=>h.elim,λ_ _ _ _ _ h=>h.elim⟩ hown
 rw[mC]at huy;generalize hu:iN (s.ev y)=u at*;obtain⟨fpx,hRx,aSj,aGo⟩:=Ee r (s.ev y) _ hry (hu▸huy.2) (r.ev y);rw[hxv]at hRx;rw[hu]at aGo;have Xg:=huy.1;have hfx:∀z∈fpx,((B.O0 z\/B.w0.heap.size<=z)/\z<w.heap.size)/\z≠b/\¬(env B s.o G w).A z:=λz hz=>by obtain⟨j,oj,gj,hj,hlj,hjl,Jn⟩:=aGo z hz;refine⟨r.fresh _ _ _ z hlj hjl Jn,λe=> ?_,λhA=>hA.2 _ _ _ hlj hjl Jn⟩;have:=r.apart _ _ _ _ _ _ b hlj hl hjl rfl (e▸Jn) DF;exact Xg (this▸hj)
 have BX:∀{j ob g2 z},look s.o G j ob g2->ob.live=true->g2.F z->j∉u->z∉fpx:=fun {j ob g2 z} h2 hl2 hF Oq hz=>by obtain⟨j',oj,gj,hj,hlj,hjl,Jn⟩:=aGo z hz;exact Oq (r.apart _ _ _ _ _ _ z h2 hlj hl2 hjl hF Jn▸hj)
 have oP:Rc w (env B s.o G w) (ys.map s.ev) (ys.map a.eval) []:=qJ r ys;have kS:dF w (env B s.o G w).plain w (wB (env B s.o G w).A):=⟨λ_ h=>⟨h,rfl⟩,λ_ _=>trivial,λ_ _ _ h=>h.elim,λ_ _ _ h=>h.elim,λ_ _ _ _ _ h=>h.elim⟩;have Cb:=qE w _ b fo go.cap code _ fpx _ r.holds (r.Mc Ig.1) Ig.2 hSb hS aA7 (λz hz=>⟨r.Mc (hfx z hz).1.1,(hfx z hz).1.2,(hfx z hz).2⟩) aSj (lF kS _ _ _ (λ_ _=>rfl) hRx)
  (TI (E:=env B s.o G w) (E':=wB (env B s.o G w).A) kS hfl oP)
 unfold Oper.wp;have fV:(execOp a.eval ⟨dst,.call {callee:= .value f,args:=⟨x::y::ys⟩,argTypes:=KS},ty,pos,after,gd⟩).run P w= .ok (.enter g (.pointer (some ⟨b,fo,none⟩)::a.eval y::ys.map a.eval).toArray) w:=by
  have e:(⟨x::y::ys⟩:Array Operand).map a.eval=(.pointer (some ⟨b,fo,none⟩)::a.eval y::ys.map a.eval).toArray:=by apply AM;simp[hpv]
  simp[execOp,resolve,hv,Deferred.ofValue,invoke,rD hc,e]
 rw[fV,AH];refine Cb.mono λe w' hp=> ?_
 obtain⟨rv,v,fp,rfl,hQ,Nu,hnd,La,hsz,iH,zJ,i',h',hi',aA8⟩:=hp;refine hn rv i' h' _ _ hQ hi' ?_;obtain⟨Gs,hlen,vZ,hap,vO⟩:=Af (q:=1) rv v fp s.o.length Nu hnd;generalize qC:(⟨true,true,3,ver,[aV code i' h']⟩:aD)=ob';generalize aBa:(uS u s.o).set k ob'=o1;have Mq:o1.length=s.o.length:=by rw[<-aBa];simp[Li]
 have hlG:G.length=o1.length:=by rw[Mq,r.len]
 generalize Ad:(eB 1 s.o.length rv).2=news at*;have Gm:∀{j ob g2 x},look news Gs j ob g2->g2.F x->x∈fp:=by intro j ob g2 x hl2 hF;obtain⟨_,_,_,f',_,_,h3,h4⟩:=vZ _ _ _ hl2;exact h4 _ ((h3 _).1 hF)
 have lk:∀{j ob g2},look (o1++news) (G++Gs) j ob g2->ob.live=true->(∃j',look news Gs j' ob g2/\j=s.o.length+j')\/(j=k/\ob=ob'/\g2=go)\/(j≠k/\j∉u/\look s.o G j ob g2):=by
  intro j ob g2 h2 hl2;rcases lH hlG h2 with⟨_,h2⟩|⟨hj,h2⟩
  .rw [<-aBa]at h2;rcases TJ h2 with⟨rfl,rfl,_,hg⟩|⟨hne,h2⟩
   .exact .inr (.inl ⟨rfl,rfl,cU (hg.symm.trans hl.2)⟩)
   .by_cases Oq:j∈u
    .rw [Ii u _ Oq h2.1]at hl2;cases hl2
    .exact .inr (.inr ⟨hne,Oq,by have:=h2.1;rwa[FK j u _ Oq]at this,h2.2⟩)
  .exact .inl ⟨_,h2,by rw[Mq]at hj⊢;omega⟩
 have back:∀{j ob g2},look s.o G j ob g2->j≠k->∃Mm,look (o1++news) (G++Gs) j Mm g2/\Mm.ver=ob.ver/\Mm.box=ob.box/\(j∉u->Mm=ob)/\(j∈u->Mm.live=false):=by
  intro j ob g2 h2 hne;obtain⟨Mm,q1,q2,q3⟩:=Pj u s.o h2.1;refine⟨Mm,jK ⟨?_,h2.2⟩,q2,q3,λhj=> ?_,λhj=>Ii u _ hj q1⟩
  .rw [<-aBa,gR (λh=>hne h.symm)]
   exact q1
  .rw [FK j u _ hj,h2.1]at q1;exact(cU q1).symm
 have hkl:k<s.o.length:=(cQ.1 hl.1).1;have aA9:look (o1++news) (G++Gs) k ob' go:=jK ⟨by rw[<-aBa];exact lR (by rw[Li];exact hkl),hl.2⟩;have hkx:∀{z},go.F z->z∉fpx:=λhF=>BX hl rfl hF Xg
 have Ih:∀j ob g2 x,look s.o G j ob g2->ob.live=true->g2.F x->j∉u->x≠b->w'.heap[x]? =w.heap[x]?:=λj ob g2 x h2 fD hF Oq hne=>iH x (r.fresh j ob g2 x h2 fD hF).2 hne (BX h2 fD hF Oq)
 have aGn:∀{j ob g2 x},look s.o G j ob g2->ob.live=true->g2.F x->j≠k->x≠b:=λh2 fD hF hne e=>hne (r.apart _ _ _ _ _ _ b h2 hl fD rfl (e▸hF) DF)
 have hE:dF w (env B s.o G w) w' (env B (o1++news) (G++Gs) w'):=by
  refine xG hsz (λx hA=>⟨nH r hA,iH x (nH r hA) (λe=>hSb (e▸hA)) (λhz=>(hfx x hz).2.2 hA)⟩) r.len ?_ ?_
  .intro j ob g2 h2;by_cases hjk:j=k
   .rw [hjk]at h2⊢;obtain⟨rfl,rfl⟩:=iD h2 hl;refine⟨ob',g2,aA9,by rw[<-qC];exact eE _,λ_=> .inl rfl,λ_=>⟨rfl,by rw[<-qC],λ_=>⟨rfl,rfl,by rw[<-qC];rfl⟩,λx hF hne=>⟨hF,hne,?_⟩⟩⟩;exact Ih _ _ _ x h2 rfl hF Xg (λe=>hne _ hga (by rw[e]))
   .obtain ⟨Mm,q1,q2,q3,q4,q5⟩:=back h2 hjk;refine⟨Mm,g2,q1,tP q2.symm,λh=> .inl (q3▸h),λfD=> ?_⟩;by_cases Oq:j∈u
    .rw [q5 Oq]at fD;cases fD
    .obtain rfl:=q4 Oq;refine⟨fD,rfl,λ_=>⟨rfl,rfl,rfl⟩,λx hF hne=>⟨hF,hne,?_⟩⟩;exact Ih _ _ _ x h2 fD hF Oq (aGn h2 fD hF hjk)
  .intro j ob g2 x h2 fD hF;rcases lk h2 fD with⟨j',h3,_⟩|⟨e1,e2,e3⟩|⟨_,_,h3⟩
   .rcases (La _ (Gm h3 hF)).1 with h|h
    .obtain ⟨j2,oj,gj,hj,hlj,hjl,Jn⟩:=aGo x h;exact .inr ⟨_,_,_,hlj,hjl,Jn⟩
    .exact .inl h
   .exact .inr ⟨_,_,_,hl,rfl,e3▸hF⟩
   .exact .inr ⟨j,ob,g2,h3,fD,hF⟩
 have hA':∀x,((env B s.o G w).A x\/x∈fpx\/(w.heap.size<=x/\x<w'.heap.size))/\x∉fp->(env B (o1++news) (G++Gs) w').A x:=by
  rintro x ⟨hx,hxf⟩;refine⟨?_,λj ob g2 h2 fD hF=> ?_⟩
  .rcases hx with hx|hx|hx
   .rcases hx.1 with h|h
    .exact .inl h
    .exact .inr ⟨h.1,gO h.2 hsz⟩
   .have:=(hfx x hx).1;rcases this.1 with h|h
    .exact .inl (B.gA x h)
    .exact .inr ⟨h,gO this.2 hsz⟩
   .exact .inr ⟨kO r.size hx.1,hx.2⟩
  .rcases lk h2 fD with⟨j',h3,_⟩|⟨e1,e2,e3⟩|⟨_,Oq,h3⟩
   .exact hxf (Gm h3 hF)
   .rw [e3]at hF;rcases hx with hx|hx|hx
    .exact hx.2 _ _ _ hl rfl hF
    .exact hkx hF hx
    .have:=(r.fresh _ _ _ x hl rfl hF).2;omega
   .rcases hx with hx|hx|hx
    .exact hx.2 _ _ _ h3 fD hF
    .exact BX h3 fD hF Oq hx
    .have:=(r.fresh _ _ _ x h3 fD hF).2;omega
 have kn:dF w' (wB λx=>((env B s.o G w).A x\/x∈fpx\/(w.heap.size<=x/\x<w'.heap.size))/\x∉fp) w' (env B (o1++news) (G++Gs) w'):=
  ⟨λx hx=>⟨hA' x hx,rfl⟩,λ_ _=>trivial,λ_ _ _ h=>h.elim,λ_ _ _ h=>h.elim,λ_ _ _ _ _ h=>h.elim⟩
 have kp:dF w' (wB λx=>((env B s.o G w).A x\/x∈fpx\/(w.heap.size<=x/\x<w'.heap.size))/\x∉fp).plain w' (env B (o1++news) (G++Gs) w').plain:=
  ⟨λx hx=>⟨hA' x hx,rfl⟩,λ_ _=>trivial,λ_ _ _ h=>h.elim,λ_ _ _ h=>h.elim,λ_ _ _ _ _ h=>h.elim⟩
 have aGp:∀{j ob g2 j2 o2 g3 x},look news Gs j ob g2->g2.F x->look s.o G j2 o2 g3->o2.live=true->g3.F x->j2∉u->False:=fun {j ob g2 j2 o2 g3 x} c1 f1 c2 l2 f2 Oq=>by
  rcases(La _ (Gm c1 f1)).1 with h|h
  .exact BX c2 l2 f2 Oq h
  .have:=(r.fresh _ _ _ x c2 l2 f2).2;omega
 have hnext:dN B ⟨s.t,o1++news⟩ (G++Gs) a w':=by
  refine r.next hE (by simp[hlG,hlen]) ?_ ?_ ?_ hsz ?_ zJ
  .intro j ob g2 h2 fD;rcases lk h2 fD with⟨j',h3,_⟩|⟨e1,e2,e3⟩|⟨hne,Oq,h3⟩
   .obtain ⟨q1,q2,_,f',DJ,q3,q4,q5⟩:=vZ _ _ _ h3;refine⟨f',?_,q3,λx hx=>(q4 x).2 hx⟩;have:=DJ.keeps kn.plain (λ_ _=>rfl);rw[q2];exact this
   .rw [e2,e3];refine⟨[b],?_,by simp,by simpa using DF⟩;have h5:ob'.box=true/\ob'.n=3/\ob'.dM=[aV code i' h']:=by rw[<-qC];exact⟨rfl,rfl,rfl⟩
    rw[h5.1,h5.2.1,h5.2.2,hga];simp only[Env.of,eV];exact zM kp aA8
   .exact (r.ok j ob g2 h3 fD).keeps hE λx hx=>Ih j ob g2 x h3 fD hx Oq (aGn h3 fD hx hne)
  .intro j1 j2 o1 o2 g1 g2 x a1 a2 l1 l2 f1 f2;rcases lk a1 l1 with⟨j',c1,d1⟩|⟨d1,d2,d3⟩|⟨d1,d2,c1⟩<;>rcases lk a2 l2 with⟨j'',c2,d4⟩|⟨d4,d5,d6⟩|⟨d4,d5,c2⟩
   .have:=hap _ _ _ _ _ _ x c1 c2 f1 f2;omega
   .exact (aGp c1 f1 hl rfl (d6▸f2) Xg).elim
   .exact (aGp c1 f1 c2 l2 f2 d5).elim
   .exact (aGp c2 f2 hl rfl (d3▸f1) Xg).elim
   .omega
   .exact absurd (r.apart _ _ _ _ _ _ x c2 hl l2 rfl f2 (d3▸f1)) d4
   .exact (aGp c2 f2 c1 l1 f1 d2).elim
   .exact absurd (r.apart _ _ _ _ _ _ x c1 hl l1 rfl f1 (d6▸f2)) d1
   .exact r.apart _ _ _ _ _ _ x c1 c2 l1 l2 f1 f2
  .intro j ob g2 x h2 fD hF;rcases lk h2 fD with⟨j',h3,_⟩|⟨e1,e2,e3⟩|⟨hne,_,h3⟩
   .have:=La _ (Gm h3 hF);refine⟨?_,this.2⟩;rcases this.1 with h|h
    .exact (hfx x h).1.1
    .exact .inr (kO r.size h)
   .have:=r.fresh _ _ _ x hl rfl (e3▸hF);exact⟨this.1,gO this.2 hsz⟩
   .have:=r.fresh _ _ _ x h3 fD hF;exact⟨this.1,gO this.2 hsz⟩
  .intro x hx hO;refine iH x (gO hx r.size) (λe=> ?_) (λhz=> ?_)
   .rcases Ig.1 with h|h
    .exact hO (e▸h)
    .omega
   .rcases (hfx x hz).1.1 with h|h
    .exact hO h
    .omega
 refine⟨G++Gs,?_⟩;have hd:s.uh dst k ver code i' h' u rv=AS.put ⟨s.t,o1++news⟩ dst (eB 1 s.o.length rv).1:=by simp only[AS.uh,AS.called,qC,aBa,Mq,Ad]
 rw[hd];refine hnext.put dst ?_;refine vO _ kn λj ob g2 h2=> ?_
 obtain⟨_,_,q3,_⟩:=vZ _ _ _ h2;have h3:=kK (o:=o1) (G:=G) hlG h2;rw[Mq]at h3;exact⟨ob,g2,h3,tP q3.symm,λ_ _=>rfl,λh=>absurd h (by decide)⟩
def RU(P:Program)[aB P](o:Oper)(s:AS)(K:AS -> Prop): Prop :=
  match o.op with
  | .call ⟨.value f, ⟨ys⟩, _⟩ => match s.ev f with
    | .fn g [] => aT P g = true /\
        ((∃ x zs k ver code, ∃ i h:Int, ∃ Q:AV -> Prop, ys = x :: zs /\ s.ev x = .ptr k ver 0 0 /\ AV.isObj s.o k ver = some ⟨true, true, 3, ver, [aV code i h]⟩ /\ 0 <= i /\ (zs.map s.ev).all fF = true /\ Jo P g (zs.map s.ev) Q /\ ∀ r i' h', Q r -> 0 <= i' -> K (s.drew o.dst k ver code i' h' r)) \/
         (∃ x code, ys = [x] /\ s.ev x = .sl .view 1 (bA code) /\ zx P g /\ ∀ i h, 0 <= i -> K (s.Ph o.dst code i h)) \/
         (∃ Q:AV -> Prop, ((ys.map s.ev).all fF = true /\ ug P g (ys.map s.ev) Q) /\ ∀ r, Q r -> K (s.called o.dst r)) \/
         (∃ x y zs k ver code xv, ∃ i h:Int, ∃ Q:AV -> Prop, ys = x :: y :: zs /\ s.ev x = .ptr k ver 0 0 /\ AV.isObj s.o k ver = some ⟨true, true, 3, ver, [aV code i h]⟩ /\ 0 <= i /\ (gP s.o (s.ev y) = true /\ (k :: iN (s.ev y)).Nodup /\ res s.o (s.ev y) = xv) /\ (zs.map s.ev).all fF = true /\ OkX P g xv (zs.map s.ev) Q /\
           ∀ r i' h', Q r -> 0 <= i' -> K (s.uh o.dst k ver code i' h' (iN (s.ev y)) r)))
    | _ => False
  | _ => False
theorem bu{P:Program}[aB P]{B:fM P}{o:Oper}{s:AS}{K:AS->Prop}(h:RU P o s K)(a:Act)(w:World)(next:Act->World->Prop)(X:Exit->Act->World->Prop)(hr:Rel B s a w)
  (hn:∀a' w' s',K s'->Rel B s' a' w'->next a' w'):o.wp P a w next X:=by
 obtain⟨dst,op,ty,pos,after,gd⟩:=o;unfold RU at h;dsimp only at h;split at h
 .split at h
  .rename_i hf;obtain⟨hc,⟨x,zs,k,ver,code,i,h',Q,rfl,h1,h2,h3,h4,h5,h6⟩|⟨x,code,rfl,h1,h2,h3⟩|⟨Q,h1,h2⟩|⟨x,y,zs,k,ver,code,xv,i,h',Q,rfl,h1,h2,h3,⟨h7,h8,h9⟩,h4,h5,h6⟩⟩:=h
   .exact aA6 _ _ _ _ hf hc h1 h2 h3 h4 h5 a w next X hr λr i' h' a' w' hq hi Hg=>hn _ _ _ (h6 r i' h' hq hi) Hg
   .exact Xi _ _ _ hf hc h1 h2 a w next X hr λi h a' w' hi Hg=>hn _ _ _ (h3 i h hi) Hg
   .exact bq _ _ _ hf hc h1.1 h1.2 a w next X hr λr a' w' hq Hg=>hn _ _ _ (h2 r hq) Hg
   .exact zy _ _ _ _ _ hf hc h1 h2 h3 h7 h8 h9 h4 h5 a w next X hr λr i' h' a' w' hq hi Hg=>hn _ _ _ (h6 r i' h' hq hi) Hg
  .exact h.elim
 .exact h.elim
end
end Go.Aw
