/- Proved here: steps towards the statement of this claim. No condition. -/
import Derived.Test.YtdcpobkemdacnaaGreatDoorZF2
set_option linter.all false
namespace Go.Aw
open List
def rowOf (o:List aN) (i:Nat):List AV:=match o[i]? with
 |some ob=>ob.eQ.headD []
 |none=>[]
def Vf (o:List aN):AV->List Nat
 | .ptr i _ _ _=>i::kJ (rowOf o i)
 |_=>[]
def takes (o:List aN):List AV->List GA->List Nat
 |x::xs,.view _::gs=>takes o xs gs
 |x::xs,.oK _::gs=>lT x++takes o xs gs
 |x::xs,.tY _ _::gs=>Vf o x++takes o xs gs
 |_,_=>[]
def aGf (o:List aN) (c:List AV):AV->Prop
 | .ptr i cZ 0 0=>∃ob,AV.isObj o i cZ=some ob/\ob.box=true/\∃cells,ob.eQ=[cells]/\mV o cells=true/\uR o cells=c
 |_=>False
def handed (o:List aN) (u:List Nat):List AV->List GA->Prop
 |[],[]=>True
 |x::xs,.view y::gs=>QB u x=true/\arg o x=y/\handed o u xs gs
 |x::xs,.oK y::gs=>jR o x=true/\res o x=y/\handed o u xs gs
 |x::xs,.tY c _::gs=>aGf o c x/\handed o u xs gs
 |_,_=>False
def jm (o:List aN) (G:List CO) (c:List AV) (v:Value) (cap:Nat):AV->Prop
 | .ptr i _ _ _=>∃ob g b f,look o G i ob g/\ob.live=true/\ob.box=true/\ob.n=c.length/\ob.eQ.length=1/\g.a=some ⟨b,f,none⟩/\v= .pointer (some ⟨b,f,none⟩)/\g.F b/\g.cap=cap
 |_=>False
def pU (o:List aN) (G:List CO):List AV->List GA->List Value->List Nat->Prop
 |[],[],[],[]=>True
 |x::xs,.tY c _::gs,v::vs,cap::jF=>jm o G c v cap x/\pU o G xs gs vs jF
 |x::xs,.view _::gs,v::vs,cap::jF=>pU o G xs gs vs jF
 |x::xs,.oK _::gs,v::vs,cap::jF=>pU o G xs gs vs jF
 |_,_,_,_=>False
section
variable {P : Program} [aC P] {B : gV P} {s : AS} {G : List CO} {a : Act} {w : World}
theorem Kb (r:eF B s G a w) {u1 u2:List Nat} (hd:∀i∈u1,∀j∈u2,i≠j) {b:Nat} (h1:Of s.o G u1 b) (h2:Of s.o G u2 b):False:=by obtain ⟨i,ob,g,hi,hl,hlive,hF⟩:=h1;obtain ⟨j,fZ,g',hj,BZ,xP,hF'⟩:=h2;exact hd i hi j hj (r.apart i j _ _ _ _ b hl BZ hlive xP hF hF')
theorem Ca {o:List aN} {u1 u2:List Nat} (h:∀i∈u1,i∈u2) {b:Nat} (h1:Of o G u1 b):Of o G u2 b:=by obtain ⟨i,ob,g,hi,k⟩:=h1;exact ⟨i,ob,g,h i hi,k⟩
theorem Vg (r:eF B s G a w) {Z:Nat->Prop} {U:List Nat} (hZ:∀b,Z b->Of s.o G U b):fK w (env B s.o G w).plain w (sW w Z):=
 ⟨λb hb=>⟨YA r hZ hb,rfl⟩,λ_ _=>trivial,λ_ _ _ h=>h.elim,λ_ _ _ h=>h.elim,λ_ _ _ _ _ h=>h.elim⟩
theorem jo (r:eF B s G a w) {c:List AV} {x:AV} {v:Value} (h:aGf s.o c x) (hx:R w (env B s.o G w) x v [])
  {us:List Nat} (hus:Vf s.o x=us) (hnd:us.Nodup):
  ∃fp cap,fp.Nodup/\(∀b∈fp,Of s.o G us b)/\jm s.o G c v cap x/\∀c' Z U,(∀b,Z b->Of s.o G U b)->RG w Z (.tY c c') v fp cap:=by
 unfold aGf at h;split at h
 .rename_i i cZ;obtain ⟨ob,wG,vP,cells,hels,nT,jU⟩:=h;obtain ⟨h1,h2,h3⟩:=lC wG;simp only [R] at hx;obtain ⟨_,fZ,g,hl,_,hh,_⟩:=hx;obtain rfl:=cQ (hl.1.symm.trans h1);obtain ⟨b,f,hga,hv⟩:=hh h2 h3;have hrow:rowOf s.o i=cells:=by simp [rowOf,h1,hels]
  simp only [Vf,hrow] at hus;subst hus;simp only [lR] at hnd;obtain ⟨fp0,⟨hlen,hown⟩,IY,PM⟩:=r.ok i _ g hl h2;rw [hels] at hown;simp only [vP,Env.of,gO] at hown;rcases hown with ⟨h5,_⟩|⟨b',f',C,ty,fz,rD,wN,hbk,hz,k1,k2,k3,rfl,hr⟩
  .cases h5
  .rw [hga] at wN;simp only [eC,pC,rK] at wN;obtain ⟨rfl,rfl⟩:=wN;simp only [Rr] at hr;obtain ⟨cs,f1,f2,hn,hc,hone,wH,rfl,e⟩:=hr;have e:rD=f1:=by simpa using e
   subst e;simp only [lR] at IY;obtain ⟨BS,q1,q2,q3⟩:=Ka r hl h2 cells cs rD nT hnd.2 hnd.1 IY.2 (λx hx=>PM x (by simp [hx])) wH;have UZ:g.F b:=PM b (by simp);have hbn:b∉BS:=λhb=>by
    rcases q3 b hb with h|h
    .exact IY.1 h
    .obtain ⟨j,oj,gj,hj,hlj,hjl,WQ⟩:=h;have:=r.apart i j _ _ _ _ b hl hlj h2 hjl UZ WQ;exact hnd.1 (this▸hj)
   have hcl:cells.length=fZ.n:=by have:=gN wH;omega
   have TS:c.length=fZ.n:=by rw [<-jU,<-hcl];clear q1 nT jU;induction cells with
    |nil=>rfl
    |cons _ _ _=>simp [uR,Fx]
   refine ⟨b::BS,g.cap,lR.2 ⟨hbn,q2⟩,?_,?_,?_⟩
   .intro x hx;rcases lE.1 hx with rfl|hx
    .exact ⟨i,fZ,g,by simp,hl,h2,UZ⟩
    .rcases q3 x hx with h|h
     .exact ⟨i,fZ,g,by simp,hl,h2,PM x (by simp [h])⟩
     .exact Ca (λj hj=>by simp [hj]) h
   .exact ⟨fZ,g,b,f,hl,h2,vP,TS.symm,by rw [hels];rfl,hga,by simpa using hv,UZ,rfl⟩
   .intro c' Z U hZ;simp only [RG];refine ⟨b,f,by simpa using hv,by simp [maxLen],.inr ⟨b,f,C,ty,fz,BS,rfl,hbk,by rw [TS];exact hz,by rw [TS];exact k1,by simpa using k2,k3,rfl,?_⟩⟩;simp only [Rr];refine ⟨cs,BS,[],by rw [TS];exact hn,hc,hone,?_,rfl,by simp⟩;rw [<-jU];exact fB (Vg r hZ) _ _ _ (λ_ _=>rfl) q1
 .exact h.elim
theorem AA (r:eF B s G a w) {U:List Nat}:∀(xs:List AV) (gs:List GA) (vs:List Value),handed s.o U xs gs->(takes s.o xs gs).Nodup->(∀i∈takes s.o xs gs,i∈U)->Rc w (env B s.o G w) xs vs []->
  ∃uF jF,uF.flatten.Nodup/\(∀b∈uF.flatten,Of s.o G (takes s.o xs gs) b)/\pU s.o G xs gs vs jF/\∀Z,(∀b,Z b->Of s.o G U b)->Ec w Z gs vs uF jF
 |[],[],[],_,_,_,_=>⟨[],[],by simp,by simp,by simp [pU],λ_ _=>by simp [Ec]⟩
 |[],[],_::_,_,_,_,h=>by simp [Rc] at h
 |[],_::_,_,h,_,_,_=>by simp [handed] at h
 |_::_,[],_,h,_,_,_=>by simp [handed] at h
 |_::_,_::_,[],_,_,_,h=>by simp [Rc] at h
 |x::xs,.view y::gs,v::vs,h,hn,hu,hr=>by
  simp only [handed] at h;obtain ⟨h1,h2,h3⟩:=h;simp only [Rc] at hr;obtain ⟨f1,f2,hr1,hr2,e⟩:=hr;obtain ⟨rfl,rfl⟩:f1=[]/\f2=[]:=by simpa using e
  simp only [takes] at hn hu⊢;obtain ⟨uF,jF,q1,q2,q3,q4⟩:=AA r xs gs vs h3 hn hu hr2;refine ⟨[]::uF,0::jF,by simpa using q1,by simpa using q2,by simpa [pU] using q3,λZ hZ=> ?_⟩;simp only [Ec,RG];refine ⟨⟨trivial,?_⟩,q4 Z hZ⟩;rw [<-h2];exact aBh r hZ x v h1 hr1
 |x::xs,.oK y::gs,v::vs,h,hn,hu,hr=>by
  simp only [handed] at h;obtain ⟨h1,h2,h3⟩:=h;simp only [Rc] at hr;obtain ⟨f1,f2,hr1,hr2,e⟩:=hr;obtain ⟨rfl,rfl⟩:f1=[]/\f2=[]:=by simpa using e
  simp only [takes,gR] at hn hu⊢;obtain ⟨uF,jF,q1,q2,q3,q4⟩:=AA r xs gs vs h3 hn.2.1 (λi hi=>hu i (by simp [hi])) hr2;obtain ⟨fp,p1,p2,p3⟩:=Nz r x v h1 hn.1 hr1;refine ⟨fp::uF,0::jF,?_,?_,by simpa [pU] using q3,λZ hZ=> ?_⟩
  .simp only [pL,gR];refine ⟨p2,q1,λb hb b' hb' e=> ?_⟩;subst e;exact Kb r (λi hi j hj=>hn.2.2 i hi j hj) (p3 b hb) (q2 b hb')
  .intro b hb;simp only [pL,fL] at hb;rcases hb with hb|hb
   .exact Ca (λi hi=>by simp [hi]) (p3 b hb)
   .exact Ca (λi hi=>by simp [hi]) (q2 b hb)
  .simp only [Ec,RG];refine ⟨?_,q4 Z hZ⟩;rw [<-h2];exact pR (Vg r hZ) _ _ _ (λ_ _=>rfl) p1
 |x::xs,.tY c c'::gs,v::vs,h,hn,hu,hr=>by
  simp only [handed] at h;obtain ⟨h1,h3⟩:=h;simp only [Rc] at hr;obtain ⟨f1,f2,hr1,hr2,e⟩:=hr;obtain ⟨rfl,rfl⟩:f1=[]/\f2=[]:=by simpa using e
  simp only [takes] at hn hu⊢;generalize hus:Vf s.o x=us at hn hu⊢;simp only [gR] at hn;obtain ⟨uF,jF,q1,q2,q3,q4⟩:=AA r xs gs vs h3 hn.2.1 (λi hi=>hu i (by simp [hi])) hr2;obtain ⟨fp,cap,p1,p2,p3,p4⟩:=jo r h1 hr1 hus hn.1;refine ⟨fp::uF,cap::jF,?_,?_,by simp only [pU];exact ⟨p3,q3⟩,λZ hZ=> ?_⟩
  .simp only [pL,gR];refine ⟨p1,q1,λb hb b' hb' e=> ?_⟩;subst e;exact Kb r (λi hi j hj=>hn.2.2 i hi j hj) (p2 b hb) (q2 b hb')
  .intro b hb;simp only [pL,fL] at hb;rcases hb with hb|hb
   .exact Ca (λi hi=>by simp [hi]) (p2 b hb)
   .exact Ca (λi hi=>by simp [hi]) (q2 b hb)
  .simp only [Ec];exact ⟨p4 c' Z U hZ,q4 Z hZ⟩
end
def Jb:Nat->List GA->List aN
 |_,[]=>[]
 |k,.tY _ c'::gs=>(fE 1 k c').2++Jb (k+(fE 1 k c').2.length) gs
 |k,.view _::gs=>Jb k gs
 |k,.oK _::gs=>Jb k gs
def CV:Nat->List AV->List GA->List (Nat×List (List AV))
 |k,x::xs,.tY _ c'::gs=>(match x with
  | .ptr i _ _ _=>[(i,[(fE 1 k c').1])]
  |_=>[])++CV (k+(fE 1 k c').2.length) xs gs
 |k,_::xs,.view _::gs=>CV k xs gs
 |k,_::xs,.oK _::gs=>CV k xs gs
 |_,_,_=>[]
def aN.xq (ob:aN) (N:List (Nat×List (List AV))) (u:List Nat) (i:Nat):aN:=
 match N.find? (λp=>p.1 == i) with
 |some p=>{ob with eQ:=p.2}
 |none=>if u.contains i=true then {ob with live:=false} else ob.forget u
def EL (N:List (Nat×List (List AV))) (u:List Nat):Nat->List aN->List aN
 |_,[]=>[]
 |i,ob::r=>ob.xq N u i::EL N u (i+1) r
theorem Vh (N:List (Nat×List (List AV))) (u:List Nat):∀(o:List aN) (k i:Nat),(EL N u k o)[i]? =(o[i]?).map λob=>ob.xq N u (k+i)
 |[],_,_=>by simp [EL]
 |ob::r,k,0=>by simp [EL]
 |ob::r,k,i+1=>by simp only [EL,tU];rw [Vh N u r (k+1) i,show k+1+i=k+(i+1) by omega]
theorem Ed (N:List (Nat×List (List AV))) (u:List Nat):∀(o:List aN) (k:Nat),(EL N u k o).length=o.length
 |[],_=>rfl
 |g::r,k=>by simp [EL,Ed N u r]
def HY (N:List (Nat×List (List AV))):Nat->List CO->List CO
 |_,[]=>[]
 |i,g::r=>(match N.find? (λp=>p.1 == i) with
  |some _=>{g with F:=λb=>∃a,g.a=some a/\b=a.block}
  |none=>g)::HY N (i+1) r
theorem Vi (N:List (Nat×List (List AV))):∀(G:List CO) (k i:Nat),(HY N k G)[i]? =(G[i]?).map λg=>match N.find? (λp=>p.1 == k+i) with
  |some _=>{g with F:=λb=>∃a,g.a=some a/\b=a.block}
  |none=>g
 |[],_,_=>by simp [HY]
 |g::r,k,0=>by simp [HY]
 |g::r,k,i+1=>by simp only [HY,tU];rw [Vi N r (k+1) i,show k+1+i=k+(i+1) by omega]
theorem Ee (N:List (Nat×List (List AV))):∀(o:List CO) (k:Nat),(HY N k o).length=o.length
 |[],_=>rfl
 |g::r,k=>by simp [HY,Ee N r]
theorem Vj {o:List aN} {G:List CO} {N:List (Nat×List (List AV))} {u:List Nat} {i:Nat} {fZ:aN} {g':CO} (h:look (EL N u 0 o) (HY N 0 G) i fZ g'):
  ∃ob g,look o G i ob g/\((∃p∈N,p.1=i/\fZ={ob with eQ:=p.2}/\g'={g with F:=λb=>∃a,g.a=some a/\b=a.block})\/
   ((∀p∈N,p.1≠i)/\g'=g/\((i∈u/\fZ={ob with live:=false})\/(i∉u/\fZ=ob.forget u)))):=by
 obtain ⟨h1,h2⟩:=h;rw [Vh,lA] at h1;rw [Vi,lA] at h2;cases ho:o[i]? with
 |none=>simp [ho] at h1
 |some ob=>
  cases hg:G[i]? with
  |none=>simp [hg] at h2
  |some g=>
   rw [ho] at h1;rw [hg] at h2;simp only [mC,eC] at h1 h2;refine ⟨ob,g,⟨ho,hg⟩,?_⟩;unfold aN.xq at h1;cases hf:N.find? (λp=>p.1 == i) with
   |some p=>rw [hf] at h1 h2;left;exact ⟨p,oY hf,by have:=DG hf;simpa using this,h1.symm,h2.symm⟩
   |none=>
    rw [hf] at h1 h2;right;refine ⟨λp hp e=> ?_,h2.symm,?_⟩
    .have:=CT.1 hf p hp;simp [e] at this
    .simp only at h1;by_cases hiu:i∈u
     .rw [eI (by simpa using hiu)] at h1;exact .inl ⟨hiu,h1.symm⟩
     .rw [cX (by simpa using hiu)] at h1;exact .inr ⟨hiu,h1.symm⟩
theorem F9 {o:List aN} {G:List CO} {N:List (Nat×List (List AV))} {u:List Nat} {i:Nat} {ob:aN} {g:CO} (h:look o G i ob g):
  ∃fZ g',look (EL N u 0 o) (HY N 0 G) i fZ g':=by
 have h1:=(cH.1 h.1).1;have h2:=(cH.1 h.2).1;exact ⟨_,_,aE (by rw [Ed];exact h1),aE (by rw [Ee];exact h2)⟩
theorem AB {w:World} {s:AS} {G:List CO}:∀(xs:List AV) (gs:List GA) (vs:List Value) (uF:List (List Nat)) (jF:List Nat) (k:Nat),pU s.o G xs gs vs jF->TR w gs vs uF jF->uF.flatten.Nodup->
  ∃inner,inner.Nodup/\(∀b∈inner,b∈uF.flatten)/\
   (∀p∈CV k xs gs,∃ob g b f,look s.o G p.1 ob g/\ob.live=true/\ob.box=true/\ob.eQ.length=p.2.length/\g.a=some ⟨b,f,none⟩/\g.F b/\b∈uF.flatten/\b∉inner)/\
   lG 1 w nH k (Jb k gs) inner (λE'=>∀p∈CV k xs gs,∀ob g b f,look s.o G p.1 ob g->g.a=some ⟨b,f,none⟩->wF w E' ob.n p.2 g.a g.cap [b])
 |[],[],[],[],[],k,_,_,_=>⟨[],by simp,by simp,by simp [CV],⟨[],rfl,λj ob g hl=>by simp [look,Jb] at hl,λi j oi oj gi gj b hl=>by simp [look,Jb] at hl,λE' _ _ p hp=>by simp [CV] at hp⟩⟩
 |x::xs,.view y::gs,v::vs,fp::uF,cap::jF,k,hl,hp,hn=>by simp only [TR,RP] at hp;obtain ⟨rfl,hp⟩:=hp;simp only [Jb,CV];have:=AB xs gs vs uF jF k (by simpa [pU] using hl) hp (by simpa using hn);simpa using this
 |x::xs,.oK y::gs,v::vs,fp::uF,cap::jF,k,hl,hp,hn=>by simp only [TR,RP] at hp;obtain ⟨rfl,hp⟩:=hp;simp only [Jb,CV];have:=AB xs gs vs uF jF k (by simpa [pU] using hl) hp (by simpa using hn);simpa using this
 |x::xs,.tY c c'::gs,v::vs,fp::uF,cap::jF,k,hl,hp,hn=>by
  simp only [TR,RP] at hp;obtain ⟨⟨b0,f0,hv0,hlen,hown⟩,hp⟩:=hp;simp only [pU] at hl;obtain ⟨hl0,hl⟩:=hl;simp only [pL,gR] at hn;obtain ⟨inner,i1,i2,i3,i4⟩:=AB xs gs vs uF jF (k+(fE 1 k c').2.length) hl hp hn.2.1;unfold jm at hl0;split at hl0
  .rename_i i cZ idx off;obtain ⟨ob,g,b,f,hlk,hlive,vP,hcn,hel,hga,hv,hF,rfl⟩:=hl0;rw [hv] at hv0;simp only [CH,eC,pC,rK] at hv0;obtain ⟨rfl,rfl⟩:=hv0;rcases hown with ⟨h5,_⟩|⟨b',f',C,ty,fz,rD,wN,hbk,hz,k1,k2,k3,rfl,hr⟩
   .cases h5
   simp only [eC,pC,rK] at wN;obtain ⟨rfl,rfl⟩:=wN;simp only [Rr] at hr;obtain ⟨cs,f1,f2,hcl,hc,hone,wH,rfl,e⟩:=hr;have e:rD=f1:=by simpa using e
   subst e;have hnb:=hn.1;simp only [lR] at hnb;have hab:=Dh (q:=1) c' cs rD k wH hnb.2;have F6:(rD++inner).Nodup:=gR.2 ⟨hnb.2,i1,λx hx y hy e=>hn.2.2 x (by simp [hx]) y (i2 y hy) e⟩;obtain ⟨Gs,a1,a2,a3,a4⟩:=hab.append i4 F6;have hbi:b∉inner:=λh=>hn.2.2 b (by simp) b (i2 b h) rfl
   refine ⟨rD++inner,F6,?_,?_,⟨Gs,a1,a2,a3,λE' hk hh=> ?_⟩⟩
   .intro x hx;simp only [pL,fL];rcases fL.1 hx with hx|hx
    .exact .inl (by simp [hx])
    .exact .inr (i2 x hx)
   .intro p hp;simp only [CV,fL] at hp;rcases hp with hp|hp
    .simp only [pZ] at hp;subst hp;exact ⟨ob,g,b,f,hlk,hlive,vP,by simpa using hel,hga,hF,by simp,by simp only [fL,not_or];exact ⟨hnb.1,hbi⟩⟩
    .obtain ⟨ob1,g1,b1,f1,q1,q2,q3,q4,q5,q6,q7,q8⟩:=i3 p hp;refine ⟨ob1,g1,b1,f1,q1,q2,q3,q4,q5,q6,by simp [q7],?_⟩;simp only [fL,not_or];exact ⟨λh=>hn.2.2 b1 (by simp [h]) b1 q7 rfl,q8⟩
   .obtain ⟨d1,d2⟩:=a4 E' hk hh;intro p hp ob1 g1 b1 f1 q1 q2;simp only [CV,fL] at hp;rcases hp with hp|hp
    .simp only [pZ] at hp;subst hp;obtain ⟨rfl,rfl⟩:=nK hlk q1;rw [hga] at q2;simp only [eC,pC,rK] at q2;obtain ⟨rfl,rfl⟩:=q2;refine ⟨by simp [maxLen],.inr ⟨b,f,C,ty,fz,[],hga,hbk,by rw [hcn];exact hz,by rw [hcn];exact k1,by simpa using k2,k3,rfl,?_⟩⟩;simp only [Rr];exact ⟨cs,[],[],by rw [hcn];exact hcl,hc,hone,d1,rfl,rfl⟩
    .exact d2 p hp ob1 g1 b1 f1 q1 q2
  .exact hl0.elim
 |[],[],[],[],_::_,_,hl,_,_=>by simp [pU] at hl
 |[],[],[],_::_,_,_,_,hp,_=>by simp [TR] at hp
 |[],[],_::_,_,_,_,_,hp,_=>by simp [TR] at hp
 |[],_::_,_,_,_,_,hl,_,_=>by simp [pU] at hl
 |_::_,[],_,_,_,_,hl,_,_=>by simp [pU] at hl
 |_::_,.view _::_,[],_,_,_,hl,_,_=>by simp [pU] at hl
 |_::_,.view _::_,_::_,[],_,_,_,hp,_=>by simp [TR] at hp
 |_::_,.view _::_,_::_,_::_,[],_,_,hp,_=>by simp [TR] at hp
 |_::_,.oK _::_,[],_,_,_,hl,_,_=>by simp [pU] at hl
 |_::_,.oK _::_,_::_,[],_,_,_,hp,_=>by simp [TR] at hp
 |_::_,.oK _::_,_::_,_::_,[],_,_,hp,_=>by simp [TR] at hp
 |_::_,.tY _ _::_,[],_,_,_,hl,_,_=>by simp [pU] at hl
 |_::_,.tY _ _::_,_::_,[],_,_,_,hp,_=>by simp [TR] at hp
 |_::_,.tY _ _::_,_::_,_::_,[],_,_,hp,_=>by simp [TR] at hp
theorem Ke (o:List aN):∀(xs:List AV) (gs:List GA) (k:Nat),∀p∈CV k xs gs,p.1∈takes o xs gs
 |[],[],_,p,hp=>by simp [CV] at hp
 |[],_::_,_,p,hp=>by simp [CV] at hp
 |_::_,[],_,p,hp=>by simp [CV] at hp
 |x::xs,.view _::gs,k,p,hp=>by simp only [CV] at hp;simpa [takes] using Ke o xs gs k p hp
 |x::xs,.oK _::gs,k,p,hp=>by simp only [CV] at hp;simp only [takes,fL];exact .inr (Ke o xs gs k p hp)
 |x::xs,.tY _ c'::gs,k,p,hp=>by
  simp only [CV,fL] at hp;simp only [takes,fL];rcases hp with hp|hp
  .left;cases x<;>simp at hp;subst hp;simp [Vf]
  .exact .inr (Ke o xs gs _ p hp)
def AS.given (s:AS) (d:Option Tmp) (xs:List AV) (gs:List GA) (r:AV):AS:=
 AS.put ⟨xM (jV (takes s.o xs gs)) true s.t,EL (CV s.o.length xs gs) (takes s.o xs gs) 0 s.o++Jb s.o.length gs++(gH 1 (s.o.length+(Jb s.o.length gs).length) r).2⟩ d
  (gH 1 (s.o.length+(Jb s.o.length gs).length) r).1
section
variable {P : Program} [aC P] {B : gV P} {s : AS} {dst : Option Tmp} {ty : TypeId} {pos : String} {after : Array Edge} {gd : Option (Nat × Bool)}
theorem G5 (f:Operand) (args:Array Operand) (X7:Array TypeId) {gf:FuncId} {gs:List GA} {rv:AV} (hf:s.ev f= .fn gf []) (hc:aT P gf=true)
  (hu:(takes s.o (s.args args) gs).Nodup) (hh:handed s.o (takes s.o (s.args args) gs) (s.args args) gs) (nT:Ma P gf gs rv):
  Step P B ⟨dst,.call {callee:= .value f,args:=args,argTypes:=X7},ty,pos,after,gd⟩ s (s.given dst (s.args args) gs rv):=by
 rintro a w next Q ⟨G,rr⟩ hn
 have h1:=rr.ev f;rw [hf] at h1;simp only [R] at h1;obtain ⟨_,cs,hv,wS⟩:=h1;have hcs:cs=[]:=by cases cs with
  |nil=>rfl
  |cons _ _=>simp [Rc] at wS
 subst hcs;have hargs:Rc w (env B s.o G w) (s.args args) (args.toList.map a.eval) []:=by simpa [AS.args] using xE rr args.toList
 generalize hxs:s.args args=xs at *;obtain ⟨uF,jF,hnd,ND,aJ1,aJ2⟩:=AA rr (U:=takes s.o xs gs) xs gs _ hh hu (λi h=>h) hargs;generalize huu:takes s.o xs gs=u at *;have hlt:∀b∈uF.flatten,b < w.heap.size:=λb hb=>by obtain ⟨i,ob,g,_,hl,hlive,hF⟩:=ND b hb;exact (rr.fresh _ _ _ b hl hlive hF).2
 have hab:∀b∈uF.flatten,aC.low P<=b/\b < w.heap.size:=λb hb=>by obtain ⟨i,ob,g,_,hl,hlive,hF⟩:=ND b hb;exact ⟨rr.Yc (rr.fresh _ _ _ b hl hlive hF).1,hlt b hb⟩
 have Yh:=nT w _ uF jF rr.holds hab hnd (aJ2 _ ND);unfold Oper.wp;have hrun:(execOp a.eval ⟨dst,.call {callee:= .value f,args:=args,argTypes:=X7},ty,pos,after,gd⟩).run P w= .ok (.enter gf (args.toList.map a.eval).toArray) w:=by
  have e:args.map a.eval=(args.toList.map a.eval).toArray:=by apply DE;simp
  simp [execOp,resolve,hv,Deferred.ofValue,invoke,DY hc,e]
 rw [hrun,Oper.upon_enter];refine Yh.mono λe w' h=> ?_
 obtain ⟨v,fp,BX,rfl,WJ,hrp,hnd',hfr,hsz,nU,Fg⟩:=h;refine hn _ _ ?_;have WO:=gR.1 hnd';obtain ⟨inner,i1,i2,i3,i4⟩:=AB (s:=s) (G:=G) xs gs _ BX jF s.o.length aJ1 hrp WO.1;have F6:(inner++fp).Nodup:=gR.2 ⟨i1,WO.2.1,λx hx y hy e=>WO.2.2 x (i2 x hx) y hy e⟩;obtain ⟨Gs,hlen,Fu,hap,sO⟩:=i4.append (JW (q:=1) rv v fp (s.o.length+(Jb s.o.length gs).length) WJ WO.2.1) F6;have hNu:=Ke s.o xs gs s.o.length;rw [huu] at hNu;unfold AS.given;rw [huu];generalize hN:CV s.o.length xs gs=N at *;rw [xF];generalize Fs:Jb s.o.length gs++(gH 1 (s.o.length+(Jb s.o.length gs).length) rv).2=news at *;generalize ho1:EL N u 0 s.o=o1;generalize hG1:HY N 0 G=G1;have hl1:o1.length=s.o.length:=by rw [<-ho1,Ed]
 have aQ0:G1.length=G.length:=by rw [<-hG1,Ee]
 have hlG:G1.length=o1.length:=by rw [aQ0,hl1,rr.len]
 have blk:∀b,b∈BX.flatten++fp->(Of s.o G u b\/w.heap.size<=b)/\b < w'.heap.size:=λb hb=>by
  have:=hfr b hb;refine ⟨?_,this.2⟩;rcases this.1 with h|h
  .exact .inl (ND b h)
  .exact .inr h
 have aJ3:∀{j ob g b},look news Gs j ob g->g.F b->b∈inner++fp:=by intro j ob g b hl hF;obtain ⟨_,_,_,f',_,_,h3,h4⟩:=Fu _ _ _ hl;exact h4 _ ((h3 _).1 hF)
 have aJ4:∀{b},b∈inner++fp->b∈BX.flatten++fp:=by
  intro b hb;rcases fL.1 hb with h|h
  .exact mN _ (i2 b h)
  .exact sE _ h
 have lk:∀{i fZ g'},look (o1++news) (G1++Gs) i fZ g'->(∃j,i=s.o.length+j/\look news Gs j fZ g')\/(i < s.o.length/\∃ob g,look s.o G i ob g/\
   ((∃p∈N,p.1=i/\fZ={ob with eQ:=p.2}/\g'={g with F:=λb=>∃a,g.a=some a/\b=a.block})\/
   ((∀p∈N,p.1≠i)/\g'=g/\((i∈u/\fZ={ob with live:=false})\/(i∉u/\fZ=ob.forget u))))):=by
  intro i fZ g' h;rcases qJ hlG h with ⟨hi,h⟩|⟨hi,h⟩
  .right;refine ⟨by omega,?_⟩;rw [<-ho1,<-hG1] at h;exact Vj h
  .left;exact ⟨i - o1.length,by omega,h⟩
 have aBj:∀{p},p∈N->∀{ob g},look s.o G p.1 ob g->ob.live=true/\ob.box=true/\ob.eQ.length=p.2.length/\∃b f,g.a=some ⟨b,f,none⟩/\g.F b/\b∈BX.flatten/\b∉inner:=by intro p hp ob g hl;obtain ⟨ob2,g2,b,f,q1,q2,q3,q4,q5,q6,q7,q8⟩:=i3 p hp;obtain ⟨rfl,rfl⟩:=nK hl q1;exact ⟨q2,q3,q4,b,f,q5,q6,q7,q8⟩
 have kl:∀{i ob g},look s.o G i ob g->∃fZ g',look (o1++news) (G1++Gs) i fZ g'/\(fZ.live=true->ob.live=true)/\fZ.cZ=ob.cZ/\fZ.n=ob.n/\g'.a=g.a/\g'.cap=g.cap/\fZ.eQ.length=ob.eQ.length/\fZ.box=ob.box/\
   (i∉u->g'=g/\fZ.live=ob.live):=by
  intro i ob g h;obtain ⟨fZ,g',h'⟩:=F9 (N:=N) (u:=u) h;rw [ho1,hG1] at h';have h'':=qQ (o2:=news) (G2:=Gs) h';refine ⟨fZ,g',h'',?_⟩;rw [<-ho1,<-hG1] at h';obtain ⟨ob2,g2,h2,hcase⟩:=Vj h';obtain ⟨rfl,rfl⟩:=nK h h2;rcases hcase with ⟨p,hp,rfl,rfl,rfl⟩|⟨Dc,rfl,⟨hiu,rfl⟩|⟨hiu,rfl⟩⟩
  .obtain ⟨b1,b2,b3,_⟩:=aBj hp h;exact ⟨λ_=>b1,rfl,rfl,rfl,rfl,b3.symm,rfl,λhn=>absurd (hNu p hp) hn⟩
  .exact ⟨λh=>by simp at h,rfl,rfl,rfl,rfl,rfl,rfl,λhn=>absurd hiu hn⟩
  .exact ⟨λh=>by rw [nL] at h;exact h,Qv _ _,Yw _ _,rfl,rfl,Qx _ _,Qw _ _,λ_=>⟨rfl,nL _ _⟩⟩
 have aIm:∀{i ob g b},look s.o G i ob g->ob.live=true->g.F b->i∉u->¬Of s.o G u b:=by intro i ob g b hl hlive hF hiu hO;obtain ⟨j,oj,gj,hj,hlj,hjl,WQ⟩:=hO;exact hiu (rr.apart i j _ _ _ _ b hl hlj hlive hjl hF WQ▸hj)
 have aQ2:∀{i ob g b},look s.o G i ob g->ob.live=true->g.F b->i∉u->b∉BX.flatten++fp:=by
  intro i ob g b hl hlive hF hiu hX;rcases (blk b hX).1 with h|h
  .exact aIm hl hlive hF hiu h
  .have:=(rr.fresh _ _ _ b hl hlive hF).2;omega
 have FC:∀i ob g b,look s.o G i ob g->ob.live=true->g.F b->i∉u->w'.heap[b]? =w.heap[b]?:=λi ob g b hl hlive hF hiu=>
  nU b (rr.fresh _ _ _ b hl hlive hF).2 (λhm=>aIm hl hlive hF hiu (ND b hm))
 let Er:Env:={env B s.o G w with D:=λi b=>i∉u/\(env B s.o G w).D i b}
 have rt1:nJ (jV u) true (env B s.o G w) Er (λ_=>True):=by
  refine ⟨λt e=>by simp [jV] at e,λt e=>by simp only [jV,eC] at e;exact ⟨e.symm,λb hb=>hb⟩,λi t e=> ?_,λ_ _ _ _ h=>h,λ_ _ _ _ _ _ h=>h⟩;simp only [jV] at e;split at e
  .cases e
  .rename_i hiu;obtain rfl:=cQ e;refine ⟨by simp,?_,λb hb=>⟨hiu,hb⟩⟩;by_cases hV:(env B s.o G w).V i
   .exact .inl hV
   .exact .inr hV
 have k2:fK w Er w' (env B (o1++news) (G1++Gs) w'):=by
  refine ⟨λb hb=> ?_,λi h ob wG=> ?_,λi b hV h=> ?_,λi cZ x h=> ?_,λi cZ j q x h=> ?_⟩
  .have hb':(env B s.o G w).A b:=hb;have hbl:=wR rr hb';have hnO:¬Of s.o G u b:=λ⟨i,ob,g,_,hl,hlive,hF⟩=>hb'.2 i ob g hl hlive hF
   have hnX:b∉BX.flatten++fp:=λhX=>by
    rcases (blk b hX).1 with h|h
    .exact hnO h
    .omega
   refine ⟨⟨?_,λi fZ g' hl hlive hF=> ?_⟩,nU b hbl (λh=>hnO (ND b h))⟩
   .rcases hb'.1 with h|h
    .exact .inl h
    .exact .inr ⟨h.1,by omega⟩
   .rcases lk hl with ⟨j,_,hl2⟩|⟨_,ob,g,hl0,⟨p,hp,rfl,_,rfl⟩|⟨_,rfl,⟨_,rfl⟩|⟨_,rfl⟩⟩⟩
    .exact hnX (aJ4 (aJ3 hl2 hF))
    .obtain ⟨b1,b2,b3,b0,f0,b4,b5,b6,_⟩:=aBj hp hl0;obtain ⟨a0,ha0,rfl⟩:=hF;rw [b4] at ha0;obtain rfl:=cQ ha0;exact hb'.2 _ ob g hl0 b1 b5
    .simp at hlive
    .refine hb'.2 i ob g' hl0 ?_ hF;rw [nL] at hlive;exact hlive
  .have hi:i < G.length:=by rw [rr.len];exact (cH.1 wG).1
   obtain ⟨fZ,g',hl,h1,_⟩:=kl (i:=i) (ob:=ob) (g:=G[i]) ⟨wG,aE hi⟩;exact h1 (h fZ hl.1)
  .obtain ⟨hiu,ob,g,hl,hlive,hF,hne⟩:=h;obtain ⟨fZ,g',BZ,_,_,_,_,_,_,_,h7⟩:=kl hl;obtain ⟨rfl,h8⟩:=h7 hiu;exact ⟨⟨fZ,g',BZ,by rw [h8];exact hlive,hF,hne⟩,FC i ob g' b hl hlive hF hiu⟩
  .obtain ⟨ob,g,hl,DU,hh,hz⟩:=h;obtain ⟨fZ,g',BZ,h1,h2,h3,h4,h5,h6,_⟩:=kl hl;exact ⟨fZ,g',BZ,by omega,λhlive WC=>by rw [h4,h5,h6];exact hh (h1 hlive) (by omega),hz⟩
  .obtain ⟨ob,g,hl,DU,hh,hz⟩:=h;obtain ⟨fZ,g',BZ,h1,h2,h3,h4,h5,h6,h8,_⟩:=kl hl;exact ⟨fZ,g',BZ,by omega,λhlive WC=>by rw [h4,h3];exact hh (h1 hlive) (by omega),
    λe e2 e3 e4 y hy=>⟨(hz (by rw [<-h8];exact e) e2 e3 e4 y hy).1,λhlive WC=>by rw [h5];exact (hz (by rw [<-h8];exact e) e2 e3 e4 y hy).2 (h1 hlive) (by omega)⟩⟩
 have tm:Rc w' (env B (o1++news) (G1++Gs) w') (xM (jV u) true s.t) a.tmps.toList []:=
  fB k2 _ _ _ (by simp) (yN rt1 _ _ _ (by simp) rr.tmps)
 have kn:∀E':Env,fK w' nH w' E':=λE'=>⟨λ_ h=>h.elim,λ_ _=>trivial,λ_ _ _ h=>h.elim,λ_ _ _ h=>h.elim,λ_ _ _ _ _ h=>h.elim⟩
 have hfin:=sO (env B (o1++news) (G1++Gs) w') (kn _) (λj ob g hl=>by
  obtain ⟨_,_,h3,_⟩:=Fu _ _ _ hl;refine ⟨ob,g,?_,CA h3.symm,λ_ _=>rfl,λh=>absurd h (by decide)⟩;have:=rP (o:=o1) (G:=G1) hlG hl
  rwa [hl1] at this)
 obtain ⟨JN,jU⟩:=hfin;have rel:eF B ⟨xM (jV u) true s.t,o1++news⟩ (G1++Gs) a w':=by
  refine {len:=by simp [hlG,hlen],defs:=rr.defs,ok:= ?_,apart:= ?_,fresh:= ?_,tmps:=tm,size:=hM rr.size hsz,frame:= ?_,base:=rr.base,same:=rr.same.trans Fg}
  .intro i fZ g' hl hlive;rcases lk hl with ⟨j,_,hl2⟩|⟨_,ob,g,hl0,⟨p,hp,rfl,rfl,rfl⟩|⟨_,rfl,⟨_,rfl⟩|⟨hiu,rfl⟩⟩⟩
   .obtain ⟨h1,h2,_,f',hown,h3,h4,h5⟩:=Fu _ _ _ hl2;refine ⟨f',?_,h3,λb hb=>(h4 b).2 hb⟩;rw [h2];exact hown.keeps (kn _).plain (λ_ _=>rfl)
   .obtain ⟨b1,b2,b3,b0,f0,b4,b5,b6,_⟩:=aBj hp hl0;have:=JN p hp ob g b0 f0 hl0 b4;refine ⟨[b0],?_,by simp,?_⟩
    .simp only [b2,Env.of,gO];exact this
    .intro b hb;simp only [pZ] at hb;subst hb;exact ⟨_,b4,rfl⟩
   .simp at hlive
   .rw [nL] at hlive;obtain ⟨fpo,hown,IY,PM⟩:=rr.ok i ob g' hl0 hlive;by_cases JN:ob.box=true
    .simp only [JN,Env.of,gO] at hown;obtain ⟨hlen,hown⟩:=hown;by_cases hall:Eb ob.eQ=true
     .have hfo:ob.forget u=ob:=by unfold aN.forget;simp [JN,hall]
      rw [hfo];refine ⟨fpo,?_,IY,PM⟩;simp only [JN,Env.of,gO];refine ⟨hlen,?_⟩;rcases hown with h|⟨b,off,C,e,fz,aBf,ha,hb,hz,h1,h2,h3,rfl,ji⟩
      .exact .inl h
      .have hbs:=FC i ob g' b hl0 hlive (PM b (by simp)) hiu;exact .inr ⟨b,off,C,e,fz,aBf,ha,by rw [hbs];exact hb,hz,h1,h2,h3,rfl,oI k2 _ _ _ _ _ hbs (λx hx=>FC i ob g' x hl0 hlive (PM x (by simp [hx])) hiu) (aBa hall ji)⟩
     .have hfo:ob.forget u={ob with eQ:=mM (jV u) true ob.eQ}:=by unfold aN.forget;rw [eI JN,cX hall]
      rw [hfo];rcases hown with ⟨h1,h2,h3⟩|⟨b,off,C,e,fz,aBf,ha,hb,hz,h1,h2,h3,rfl,ji⟩
      .exact ⟨[],⟨by simp [lV];exact hlen,.inl ⟨by simp [h1,mM],h2,rfl⟩⟩,by simp,by simp⟩
      .have UZ:=PM b (by simp);have hbs:=FC i ob g' b hl0 hlive UZ hiu;refine ⟨[b],⟨by simp [lV];exact hlen,.inr ⟨b,off,C,e,fz,[],ha,by rw [hbs];exact hb,hz,h1,by simpa [lV] using h2,h3,rfl,?_⟩⟩,by simp,by simpa using UZ⟩;simp only [JN,Env.of,gO];exact oI k2 _ _ _ _ _ hbs (by simp) (HV rt1 _ _ _ _ _ (by simp) ji)
    .have aBg:ob.box=false:=by simpa using JN
     have hfo:ob.forget u=ob:=by unfold aN.forget;simp [aBg]
     rw [hfo];refine ⟨fpo,?_,IY,PM⟩;simp only [aBg,Env.of,eS,hH] at hown⊢;have kp:fK w (env B s.o G w).plain w' (env B (o1++news) (G1++Gs) w').plain:=k2.plain;exact hown.keeps kp (λb hb=>FC i ob g' b hl0 hlive (PM b hb) hiu)
  .-- every object its own blocks
   have cls:∀{i fZ g' b},look (o1++news) (G1++Gs) i fZ g'->fZ.live=true->g'.F b->(∃j,i=s.o.length+j/\look news Gs j fZ g'/\b∈inner++fp)\/
     (i < s.o.length/\∃ob g,look s.o G i ob g/\ob.live=true/\g.F b/\((b∈BX.flatten/\b∉inner)\/b∉BX.flatten++fp)):=by
    intro i fZ g' b hl hlive hF;rcases lk hl with ⟨j,hj,hl2⟩|⟨hi,ob,g,hl0,⟨p,hp,rfl,rfl,rfl⟩|⟨_,rfl,⟨_,rfl⟩|⟨hiu,rfl⟩⟩⟩
    .exact .inl ⟨j,hj,hl2,aJ3 hl2 hF⟩
    .obtain ⟨b1,b2,b3,b0,f0,b4,b5,b6,b7⟩:=aBj hp hl0;obtain ⟨a0,ha0,rfl⟩:=hF;rw [b4] at ha0;obtain rfl:=cQ ha0;exact .inr ⟨hi,ob,g,hl0,b1,b5,.inl ⟨b6,b7⟩⟩
    .simp at hlive
    .rw [nL] at hlive;exact .inr ⟨hi,ob,g',hl0,hlive,hF,.inr (aQ2 hl0 hlive hF hiu)⟩
   have mixed:∀{b},b∈inner++fp->((b∈BX.flatten/\b∉inner)\/b∉BX.flatten++fp)->False:=by
    rintro b hb (⟨h1,h2⟩|h)
    .rcases fL.1 hb with h|h
     .exact h2 h
     .exact WO.2.2 b h1 b h rfl
    .exact h (aJ4 hb)
   intro i j oi oj gi gj b hi hj hil hjl Fp OG;rcases cls hi hil Fp with ⟨i',rfl,hi',hbi⟩|⟨aJ0,ob1,g1,hl1,aQ3,hF1,hc1⟩<;>rcases cls hj hjl OG with ⟨j',rfl,D8,hbj⟩|⟨aJz,ob2,g2,hl2,aQ4,F4,XZ⟩
   .rw [hap _ _ _ _ _ _ b hi' D8 Fp OG]
   .exact (mixed hbi XZ).elim
   .exact (mixed hbj hc1).elim
   .exact rr.apart _ _ _ _ _ _ b hl1 hl2 aQ3 aQ4 hF1 F4
  .intro i fZ g' b hl hlive hF;have ofX:b∈BX.flatten++fp->(B.O0 b\/B.w0.heap.size<=b)/\b < w'.heap.size:=λhX=>by
    obtain ⟨h1,h2⟩:=blk b hX;refine ⟨?_,h2⟩;rcases h1 with ⟨j,oj,gj,_,hlj,hjl,WQ⟩|h
    .exact (rr.fresh _ _ _ b hlj hjl WQ).1
    .exact .inr (hM rr.size h)
   rcases lk hl with ⟨j,hj,hl2⟩|⟨hi,ob,g,hl0,⟨p,hp,rfl,rfl,rfl⟩|⟨_,rfl,⟨_,rfl⟩|⟨hiu,rfl⟩⟩⟩
   .exact ofX (aJ4 (aJ3 hl2 hF))
   .obtain ⟨b1,b2,b3,b0,f0,b4,b5,b6,b7⟩:=aBj hp hl0;obtain ⟨a0,ha0,rfl⟩:=hF;rw [b4] at ha0;obtain rfl:=cQ ha0;exact ofX (mN _ b6)
   .simp at hlive
   .rw [nL] at hlive;have:=rr.fresh _ _ _ b hl0 hlive hF;exact ⟨this.1,by omega⟩
  .intro b hb hO;rw [<-rr.frame b hb hO];refine nU b (oT hb rr.size) (λhm=> ?_);obtain ⟨j,oj,gj,_,hlj,hjl,WQ⟩:=ND b hm;rcases (rr.fresh _ _ _ b hlj hjl WQ).1 with h|h
   .exact hO h
   .omega
 exact ⟨_,rel.put dst jU⟩
mutual
def JO (i cZ:Nat) (y:AV):AV->AV
 | .obj j v=>if j=i/\v=cZ then y else .obj j v
 | .agg c=> .agg (WW i cZ y c)
 | .gZ c=> .gZ (WW i cZ y c)
 |x=>x
def WW (i cZ:Nat) (y:AV):List AV->List AV
 |[]=>[]
 |x::xs=>JO i cZ y x::WW i cZ y xs
end
def WX (i cZ:Nat) (y:AV):List (List AV)->List (List AV)
 |[]=>[]
 |e::es=>WW i cZ y e::WX i cZ y es
theorem Cb (i cZ:Nat) (y:AV):∀l,(WX i cZ y l).length=l.length
 |[]=>rfl
 |_::l=>by simp [WX,Cb i cZ y l]
def aN.JO (i cZ:Nat) (y:AV) (ob:aN):aN:=if ob.box=true then {ob with eQ:=WX i cZ y ob.eQ} else ob
def Uf (i cZ:Nat) (y:AV):Nat->List aN->List aN
 |_,[]=>[]
 |k,ob::r=>(if k=i then ob.kill else ob.JO i cZ y)::Uf i cZ y (k+1) r
theorem QD (i cZ:Nat) (y:AV):∀(o:List aN) (k j:Nat),(Uf i cZ y k o)[j]? =(o[j]?).map λob=>if k+j=i then ob.kill else ob.JO i cZ y
 |[],_,_=>by simp [Uf]
 |ob::r,k,0=>by simp [Uf]
 |ob::r,k,j+1=>by simp only [Uf,tU];rw [QD i cZ y r (k+1) j,show k+1+j=k+(j+1) by omega]
theorem NH (i cZ:Nat) (y:AV):∀(o:List aN) (k:Nat),(Uf i cZ y k o).length=o.length
 |[],_=>rfl
 |ob::r,k=>by simp [Uf,NH i cZ y r]
def AS.frozen (s:AS) (i cZ:Nat) (ob:aN):AS:=
 ⟨WW i cZ (.sl .view ob.n (mM (λ_=>some .view) false ob.eQ)) s.t,Uf i cZ (.sl .view ob.n (mM (λ_=>some .view) false ob.eQ)) 0 s.o⟩
mutual
theorem aNz {w:World} {E E':Env} {i cZ:Nat} {y:AV} (k:fK w E w E') (hy:∀v,E.H i cZ v->R w E' y v []):∀(x:AV) (v:Value) (fp:List Nat),R w E x v fp->R w E' (JO i cZ y x) v fp
 | .obj j u,v,fp,h=>by
  simp only [JO];split
  .rename_i e;obtain ⟨rfl,rfl⟩:=e;simp only [R] at h;obtain ⟨rfl,h⟩:=h;exact hy v h
  .exact pR k _ _ _ (λ_ _=>rfl) h
 | .agg c,v,fp,h=>by simp only [R,JO] at h⊢;obtain ⟨cs,h1,h2,h3⟩:=h;exact ⟨cs,h1,h2,QE k hy c cs fp h3⟩
 | .gZ c,v,fp,h=>by simp only [R,JO] at h⊢;obtain ⟨cs,h1,h3⟩:=h;exact ⟨cs,h1,QE k hy c cs fp h3⟩
 | .int _ _,v,fp,h=>by simp only [JO];exact pR k _ _ _ (λ_ _=>rfl) h
 | .bool _,v,fp,h=>by simp only [JO];exact pR k _ _ _ (λ_ _=>rfl) h
 | .str _,v,fp,h=>by simp only [JO];exact pR k _ _ _ (λ_ _=>rfl) h
 | .sl _ _ _,v,fp,h=>by simp only [JO];exact pR k _ _ _ (λ_ _=>rfl) h
 | .fA _ _ _,v,fp,h=>by simp only [JO];exact pR k _ _ _ (λ_ _=>rfl) h
 | .ptr _ _ _ _,v,fp,h=>by simp only [JO];exact pR k _ _ _ (λ_ _=>rfl) h
 | .fn _ _,v,fp,h=>by simp only [JO];exact pR k _ _ _ (λ_ _=>rfl) h
 | .undef,v,fp,h=>by simp only [JO];exact pR k _ _ _ (λ_ _=>rfl) h
theorem QE {w:World} {E E':Env} {i cZ:Nat} {y:AV} (k:fK w E w E') (hy:∀v,E.H i cZ v->R w E' y v []):∀(c:List AV) (cs:List Value) (fp:List Nat),Rc w E c cs fp->Rc w E' (WW i cZ y c) cs fp
 |[],[],_,h=>by simpa [Rc,WW] using h
 |[],_::_,_,h=>by simp [Rc] at h
 |_::_,[],_,h=>by simp [Rc] at h
 |x::xs,c::cs,fp,h=>by simp only [Rc,WW] at h⊢;obtain ⟨f1,f2,h1,h2,h3⟩:=h;exact ⟨f1,f2,aNz k hy x c f1 h1,QE k hy xs cs f2 h2,h3⟩
end
theorem aBk {w:World} {E E':Env} {i cZ:Nat} {y:AV} (k:fK w E w E') (hy:∀v,E.H i cZ v->R w E' y v []):∀(l:List (List AV)) (b off n:Nat) (fp:List Nat),Rr w E l b off n fp->Rr w E' (WX i cZ y l) b off n fp
 |[],_,_,_,_,h=>by simpa [Rr,WX] using h
 |e::es,b,off,n,fp,h=>by simp only [Rr,WX] at h⊢;obtain ⟨cs,f1,f2,h1,h2,h3,h4,h5,h6⟩:=h;exact ⟨cs,f1,f2,h1,h2,h3,QE k hy e cs f1 h4,aBk k hy es b (off+n) n f2 h5,h6⟩
theorem aGh {P:Program} [aC P] {B:gV P} {s:AS} {a:Act} {w:World} {i cZ:Nat} {ob:aN} (wG:AV.isObj s.o i cZ=some ob) (vP:ob.box=false) (hr:Rel B s a w):Rel B (s.frozen i cZ ob) a w:=by
 obtain ⟨G,r⟩:=hr;obtain ⟨h1,h2,h3⟩:=lC wG;generalize hyy:AV.sl .view ob.n (mM (λ_=>some .view) false ob.eQ)=y;generalize ho':Uf i cZ y 0 s.o=o';have back:∀{j fZ g},look o' G j fZ g->∃yP,look s.o G j yP g/\((j=i/\fZ=yP.kill)\/(j≠i/\fZ=yP.JO i cZ y)):=by
  rintro j fZ g ⟨e1,e2⟩;rw [<-ho',QD,lA] at e1;cases hx:s.o[j]? with
  |none=>rw [hx] at e1;cases e1
  |some yP=>
   rw [hx] at e1;simp only [mC,eC] at e1;refine ⟨yP,⟨hx,e2⟩,?_⟩;by_cases hj:j=i
   .rw [eI hj] at e1;exact .inl ⟨hj,e1.symm⟩
   .rw [cX hj] at e1;exact .inr ⟨hj,e1.symm⟩
 have Vk:∀{j yP g},look s.o G j yP g->look o' G j (if j=i then yP.kill else yP.JO i cZ y) g:=by rintro j yP g ⟨e1,e2⟩;refine ⟨?_,e2⟩;rw [<-ho',QD,lA,e1];rfl
 have fz:∀yP:aN,(yP.JO i cZ y).live=yP.live/\(yP.JO i cZ y).box=yP.box/\(yP.JO i cZ y).n=yP.n/\(yP.JO i cZ y).cZ=yP.cZ/\(yP.JO i cZ y).eQ.length=yP.eQ.length:=by intro yP;unfold aN.JO;split<;>simp [Cb]
 have k:fK w (env B s.o G w) w (env B o' G w):=by
  refine De (eE _) (λb hb=>⟨wR r hb,rfl⟩) r.len ?_ ?_
  .intro j yP g hl;have hf:=fz yP;by_cases hj:j=i
   .refine ⟨_,g,Vk hl,?_⟩;rw [eI hj];refine ⟨eE _,λhb=> .inl hb,λKg=> ?_⟩;simp [aN.kill] at Kg
   .refine ⟨_,g,Vk hl,?_⟩;rw [cX hj];exact ⟨by rw [hf.2.2.2.1];exact eE _,λhb=> .inl (by rw [<-hf.2.1];exact hb),λKg=>⟨by rw [<-hf.1];exact Kg,hf.2.2.1,λ_=>⟨rfl,rfl,hf.2.2.2.2⟩,λb hb hne=>⟨hb,hne,rfl⟩⟩⟩
  .intro j fZ g b hl Kg hF;obtain ⟨yP,hl0,h⟩:=back hl;rcases h with ⟨_,rfl⟩|⟨_,rfl⟩
   .simp [aN.kill] at Kg
   .exact .inr ⟨j,yP,g,hl0,by rw [<-(fz yP).1];exact Kg,hF⟩
 have hy:∀v,(env B s.o G w).H i cZ v->R w (env B o' G w) y v []:=by
  intro v hv;obtain ⟨ob1,g,hl,_,hh,_⟩:=hv;obtain rfl:=cQ (hl.1.symm.trans h1);have hv:=hh h2 h3;obtain ⟨fp,⟨hlen,hown⟩,hnd,hF⟩:=r.ok i _ g hl h2;rw [vP] at hown;rw [<-hyy];simp only [R,lV];refine .inr ⟨g.a,g.cap,hv,⟨hlen,by rcases hown with h|⟨_,_,_,_,_,_,_,_,_,_,h,_⟩;simp [h.1];exact h⟩,.inr (.inr ⟨by simp,trivial,?_⟩)⟩;rcases hown with ⟨h5,_⟩|⟨b,off,C,e,TT,rD,ha,hbk,hz,k1,k2,k3,rfl,WJ⟩
  .left;rw [h5];rfl
  .right;have hA:∀x,g.F x->(env B o' G w).A x:=by
    intro x hx;have hfr:=r.fresh _ _ _ x hl h2 hx;refine ⟨hfr.1.elim (λh=> .inl (B.gA x h)) (λh=> .inr ⟨h,hfr.2⟩),λj fZ g' BZ Kg hF'=> ?_⟩;obtain ⟨yP,hl0,h⟩:=back BZ;rcases h with ⟨_,rfl⟩|⟨hj,rfl⟩
    .simp [aN.kill] at Kg
    .exact hj (r.apart j i _ _ _ _ x hl0 hl (by rw [<-(fz yP).1];exact Kg) h2 hF' hx)
   have rt:nJ (λ_=>some .view) false (env B s.o G w).plain (env B o' G w).plain g.F:=
    {own:=λt e=>by obtain rfl:=cQ e;exact ⟨by simp,λb hb=>hA b hb⟩
     view:=λt e=>by obtain rfl:=cQ e;exact ⟨rfl,λb hb=>(k.a b hb).1⟩
     kG:=λj t e=>by obtain rfl:=cQ e;exact ⟨by simp,.inl trivial,λb hb=>hb.elim⟩
     hh:=λh=>by cases h
     hl:=λh=>by cases h}
   exact ⟨b,off,ha,hA b (hF b (by simp)),HV rt _ _ _ _ rD (λx hx=>hF x (by simp [hx])) WJ⟩
 refine ⟨G,{len:= ?_,defs:=r.defs,ok:= ?_,apart:= ?_,fresh:= ?_,tmps:= ?_,size:=r.size,frame:=r.frame,base:=r.base,same:=r.same}⟩
 .simp only [AS.frozen,NH];exact r.len
 .simp only [AS.frozen,hyy,ho'];intro j fZ g hl Kg;obtain ⟨yP,hl0,h⟩:=back hl;rcases h with ⟨_,rfl⟩|⟨hj,rfl⟩
  .simp [aN.kill] at Kg
  obtain ⟨fp,hown,hnd,hF⟩:=r.ok j _ g hl0 (by rw [<-(fz yP).1];exact Kg);refine ⟨fp,?_,hnd,hF⟩;cases hb0:yP.box with
  |false=>
   have e:yP.JO i cZ y=yP:=by unfold aN.JO;rw [cX (by simp [hb0])]
   rw [e];rw [hb0] at hown⊢;exact hown.keeps k.plain (λ_ _=>rfl)
  |true=>
   have e:yP.JO i cZ y={yP with eQ:=WX i cZ y yP.eQ}:=by unfold aN.JO;rw [eI hb0]
   rw [e];simp only [hb0] at hown⊢;simp only [Env.of,gO] at hown⊢;obtain ⟨hlen,hown⟩:=hown;refine ⟨by rw [Cb];exact hlen,?_⟩;rcases hown with h|⟨b,off,C,e,TT,rD,ha,hbk,hz,k1,k2,k3,rfl,WJ⟩
   .exact .inl ⟨by rw [h.1];rfl,h.2⟩
   .exact .inr ⟨b,off,C,e,TT,rD,ha,hbk,hz,k1,by rw [Cb];exact k2,k3,rfl,aBk k hy _ _ _ _ _ WJ⟩
 .simp only [AS.frozen,hyy,ho'];intro p q op oq gp gq b hp hq hlp hlq hFp hFq;obtain ⟨op0,hp0,h⟩:=back hp;obtain ⟨oq0,hq0,h'⟩:=back hq;rcases h with ⟨_,rfl⟩|⟨_,rfl⟩
  .simp [aN.kill] at hlp
  rcases h' with ⟨_,rfl⟩|⟨_,rfl⟩
  .simp [aN.kill] at hlq
  exact r.apart p q _ _ _ _ b hp0 hq0 (by rw [<-(fz op0).1];exact hlp) (by rw [<-(fz oq0).1];exact hlq) hFp hFq
 .simp only [AS.frozen,hyy,ho'];intro j fZ g b hl Kg hF;obtain ⟨yP,hl0,h⟩:=back hl;rcases h with ⟨_,rfl⟩|⟨_,rfl⟩
  .simp [aN.kill] at Kg
  exact r.fresh j _ g b hl0 (by rw [<-(fz yP).1];exact Kg) hF
 .simp only [AS.frozen,hyy,ho'];exact QE k hy _ _ _ r.tmps
def aJ5 (P:Program) [aC P] (o:Oper) (s:AS) (K:AS->Prop):Prop:=
 match o.op with
 | .slice _ x _ _ none=>match s.ev x with
  | .obj i cZ=>match AV.isObj s.o i cZ with
   |some ob=>ob.box=false/\rM P o (s.frozen i cZ ob) K
   |none=>False
  |_=>False
 |_=>False
attribute [simp] JO WW WX Uf aN.JO AS.frozen
mutual
def uU:AV->Bool
 | .int _ _=>true
 | .bool _=>true
 | .str _=>true
 | .agg c=>Jc c
 |_=>false
def Jc:List AV->Bool
 |[]=>true
 |x::xs=>uU x&&Jc xs
end
mutual
theorem G6 {w w':World} {E E':Env}:∀(x:AV) (v:Value) (fp:List Nat),uU x=true->R w E x v fp->R w' E' x v fp
 | .int _ _,_,_,_,h=>by simpa [R] using h
 | .bool _,_,_,_,h=>by simpa [R] using h
 | .str _,_,_,_,h=>by simpa [R] using h
 | .agg c,v,fp,hc,h=>by simp only [R] at h⊢;obtain ⟨cs,h1,h2,h3⟩:=h;exact ⟨cs,h1,h2,Jd c cs fp (by simpa [uU] using hc) h3⟩
 | .sl _ _ _,_,_,hc,_=>by simp [uU] at hc
 | .fA _ _ _,_,_,hc,_=>by simp [uU] at hc
 | .obj _ _,_,_,hc,_=>by simp [uU] at hc
 | .ptr _ _ _ _,_,_,hc,_=>by simp [uU] at hc
 | .gZ _,_,_,hc,_=>by simp [uU] at hc
 | .fn _ _,_,_,hc,_=>by simp [uU] at hc
 | .undef,_,_,hc,_=>by simp [uU] at hc
theorem Jd {w w':World} {E E':Env}:∀(c:List AV) (cs:List Value) (fp:List Nat),Jc c=true->Rc w E c cs fp->Rc w' E' c cs fp
 |[],[],_,_,h=>by simpa [Rc] using h
 |[],_::_,_,_,h=>by simp [Rc] at h
 |_::_,[],_,_,h=>by simp [Rc] at h
 |x::xs,c::cs,fp,hc,h=>by simp only [Jc,eJ] at hc;simp only [Rc] at h⊢;obtain ⟨f1,f2,h1,h2,h3⟩:=h;exact ⟨f1,f2,G6 x c f1 hc.1 h1,Jd xs cs f2 hc.2 h2,h3⟩
end
def aJ6 (code:List UInt8) (i h:Int):List AV:=[.sl .view 1 (dQ code),.int .i64 i,.int .i64 h]
def AS.drew (s:AS) (dst:Option Tmp) (k cZ:Nat) (code:List UInt8) (i h:Int) (r:AV):AS:=AS.called ⟨s.t,s.o.set k ⟨true,true,3,cZ,[aJ6 code i h]⟩⟩ dst r
def aGi (P:Program) [aC P] (o:Oper) (s:AS) (K:AS->Prop):Prop:=False
theorem jr {P:Program} [aC P] {B:gV P} {o:Oper} {s:AS} {K:AS->Prop} (h:aGi P o s K) (a:Act) (w:World) (next:Act->World->Prop) (X:Exit->Act->World->Prop) (hr:Rel B s a w)
  (hn:∀a' w' s',K s'->Rel B s' a' w'->next a' w'):o.wp P a w next X:=False.elim h
end
end Go.Aw
