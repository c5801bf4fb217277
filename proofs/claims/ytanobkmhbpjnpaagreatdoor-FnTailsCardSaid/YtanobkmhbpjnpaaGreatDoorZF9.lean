/- Steps. No condition. -/
import Derived.Test.YtanobkmhbpjnpaaGreatDoorZF2
set_option linter.all false
namespace Go.Aw
open List
def rowOf(o:List aI)(i:Nat):List AV:=match o[i]? with
 |some ob=>ob.fM.headD []
 |none=>[]
def WH(o:List aI):AV->List Nat
 | .ptr i _ _ _=>i::mX (rowOf o i)
 |_=>[]
def takes(o:List aI):List AV->List GA->List Nat
 |x::xs,.view _::gs=>takes o xs gs
 |x::xs,.rF _::gs=>mG x++takes o xs gs
 |x::xs,.vX _ _::gs=>WH o x++takes o xs gs
 |_,_=>[]
def aK8(o:List aI)(c:List AV):AV->Prop
 | .ptr i bY 0 0=>∃ob,AV.gB o i bY=some ob/\ob.box=true/\∃cells,ob.fM=[cells]/\pI o cells=true/\vH o cells=c
 |_=>False
def handed(o:List aI)(u:List Nat):List AV->List GA->Prop
 |[],[]=>True
 |x::xs,.view y::gs=>SF u x=true/\arg o x=y/\handed o u xs gs
 |x::xs,.rF y::gs=>kV o x=true/\res o x=y/\handed o u xs gs
 |x::xs,.vX c _::gs=>aK8 o c x/\handed o u xs gs
 |_,_=>False
def C8(o:List aI)(G:List CO)(c:List AV)(v:Value)(cap:Nat):AV->Prop
 | .ptr i _ _ _=>∃ob g b f,look o G i ob g/\ob.fT=true/\ob.box=true/\ob.n=c.length/\ob.fM.length=1/\g.a=some ⟨b,f,none⟩/\v= .pointer (some ⟨b,f,none⟩)/\g.F b/\g.cap=cap
 |_=>False
def rZ(o:List aI)(G:List CO):List AV->List GA->List Value->List Nat->Prop
 |[],[],[],[]=>True
 |x::xs,.vX c _::gs,v::vs,cap::lN=>C8 o G c v cap x/\rZ o G xs gs vs lN
 |x::xs,.view _::gs,v::vs,cap::lN=>rZ o G xs gs vs lN
 |x::xs,.rF _::gs,v::vs,cap::lN=>rZ o G xs gs vs lN
 |_,_,_,_=>False
section
variable{P:Program}[aG P]{B:gL P}{s:AS}{G:List CO}{a:Act}{w:World}
def LY(r:fZ B s G a w){u1 u2:List Nat}(hd:∀i∈u1,∀j∈u2,i≠j){b:Nat}(h1:Of s.o G u1 b)(h2:Of s.o G u2 b):False:=by obtain⟨i,ob,g,hi,hl,aY,hF⟩:=h1;obtain⟨j,ob',g',hj,Dw,zP,hF'⟩:=h2;exact hd i hi j hj (r.fV i j _ _ _ _ b hl Dw aY zP hF hF')
def Dy{o:List aI}{u1 u2:List Nat}(h:∀i∈u1,i∈u2){b:Nat}(h1:Of o G u1 b):Of o G u2 b:=by obtain⟨i,ob,g,hi,k⟩:=h1;exact⟨i,ob,g,h i hi,k⟩
def WI(r:fZ B s G a w){Z:Nat->Prop}{U:List Nat}(hZ:∀b,Z b->Of s.o G U b):fG w (env B s.o G w).plain w (vJ w Z):=
 ⟨λb hb=>⟨ai r hZ hb,rfl⟩,λ_ _=>trivial,λ_ _ _ h=>h.elim,λ_ _ _ h=>h.elim,λ_ _ _ _ _ h=>h.elim⟩
def C9(r:fZ B s G a w){c:List AV}{x:AV}{v:Value}(h:aK8 s.o c x)(hx:R w (env B s.o G w) x v [])
  {us:List Nat} (hus:WH s.o x=us) (hnd:us.Nodup):
  ∃fp cap,fp.Nodup/\(∀b∈fp,Of s.o G us b)/\C8 s.o G c v cap x/\∀c' Z U,(∀b,Z b->Of s.o G U b)->RG w Z (.vX c c') v fp cap:=by
 unfold aK8 at h;split at h
 .rename_i i bY;obtain⟨ob,wF,xL,cells,hels,rP,lI⟩:=h;obtain⟨h1,h2,h3⟩:=mV wF;simp only[R]at hx;obtain⟨_,ob',g,hl,_,hh,_⟩:=hx;obtain rfl:=cX (hl.1.symm.trans h1);obtain⟨b,f,hga,hv⟩:=hh h2 h3;have hrow:rowOf s.o i=cells:=by simp[rowOf,h1,hels]
  simp only[WH,hrow]at hus;subst hus;simp only[nF]at hnd;obtain⟨Vx,⟨dF,eQ⟩,Kq,Rw⟩:=r.ok i _ g hl h2;rw[hels]at eQ;simp only[xL,Env.of,eS]at eQ;rcases eQ with⟨h5,_⟩|⟨b',f',C,ty,fz,sH,yM,hbk,hz,k1,k2,k3,rfl,hr⟩
  .cases h5
  .rw [hga]at yM;simp only[eI,oS,pS]at yM;obtain⟨rfl,rfl⟩:=yM;simp only[Rr]at hr;obtain⟨cs,f1,f2,hn,hc,hone,wK,rfl,e⟩:=hr;have e:sH=f1:=by simpa using e
   subst e;simp only[nF]at Kq;obtain⟨Dr,q1,q2,q3⟩:=LX r hl h2 cells cs sH rP hnd.2 hnd.1 Kq.2 (λx hx=>Rw x (by simp[hx])) wK;have Gj:g.F b:=Rw b (by simp);have hbn:b∉Dr:=λhb=>by
    rcases q3 b hb with h|h
    .exact Kq.1 h
    .obtain ⟨j,oj,gj,hj,hlj,hjl,LJ⟩:=h;have:=r.fV i j _ _ _ _ b hl hlj h2 hjl Gj LJ;exact hnd.1 (this▸hj)
   have IU:cells.length=ob'.n:=by have:=iY wK;omega
   have Vy:c.length=ob'.n:=by rw[<-lI,<-IU];clear q1 rP lI;induction cells with
    |nil=>rfl
    |cons _ _ _=>simp[vH,GY]
   refine⟨b::Dr,g.cap,nF.2 ⟨hbn,q2⟩,?_,?_,?_⟩
   .intro x hx;rcases mC.1 hx with rfl|hx
    .exact ⟨i,ob',g,by simp,hl,h2,Gj⟩
    .rcases q3 x hx with h|h
     .exact ⟨i,ob',g,by simp,hl,h2,Rw x (by simp[h])⟩
     .exact Dy (λj hj=>by simp[hj]) h
   .exact ⟨ob',g,b,f,hl,h2,xL,Vy.symm,by rw[hels];rfl,hga,by simpa using hv,Gj,rfl⟩
   .intro c' Z U hZ;simp only[RG];refine⟨b,f,by simpa using hv,by simp[maxLen],.inr ⟨b,f,C,ty,fz,Dr,rfl,hbk,by rw[Vy];exact hz,by rw[Vy];exact k1,by simpa using k2,k3,rfl,?_⟩⟩;simp only[Rr];refine⟨cs,Dr,[],by rw[Vy];exact hn,hc,hone,?_,rfl,by simp⟩;rw[<-lI];exact gQ (WI r hZ) _ _ _ (λ_ _=>rfl) q1
 .exact h.elim
def BV(r:fZ B s G a w){U:List Nat}:∀(xs:List AV) (gs:List GA) (vs:List Value),handed s.o U xs gs->(takes s.o xs gs).Nodup->(∀i∈takes s.o xs gs,i∈U)->Rc w (env B s.o G w) xs vs []->
  ∃wG lN,wG.flatten.Nodup/\(∀b∈wG.flatten,Of s.o G (takes s.o xs gs) b)/\rZ s.o G xs gs vs lN/\∀Z,(∀b,Z b->Of s.o G U b)->Fx w Z gs vs wG lN
 |[],[],[],_,_,_,_=>⟨[],[],by simp,by simp,by simp[rZ],λ_ _=>by simp[Fx]⟩
 |[],[],_::_,_,_,_,h=>by simp[Rc]at h
 |[],_::_,_,h,_,_,_=>by simp[handed]at h
 |_::_,[],_,h,_,_,_=>by simp[handed]at h
 |_::_,_::_,[],_,_,_,h=>by simp[Rc]at h
 |x::xs,.view y::gs,v::vs,h,hn,hu,hr=>by
  simp only[handed]at h;obtain⟨h1,h2,h3⟩:=h;simp only[Rc]at hr;obtain⟨f1,f2,hr1,hr2,e⟩:=hr;obtain⟨rfl,rfl⟩:f1=[]/\f2=[]:=by simpa using e
  simp only[takes]at hn hu⊢;obtain⟨wG,lN,q1,q2,q3,q4⟩:=BV r xs gs vs h3 hn hu hr2;refine⟨[]::wG,0::lN,by simpa using q1,by simpa using q2,by simpa [rZ]using q3,λZ hZ=> ?_⟩;simp only[Fx,RG];refine⟨⟨trivial,?_⟩,q4 Z hZ⟩;rw[<-h2];exact aFo r hZ x v h1 hr1
 |x::xs,.rF y::gs,v::vs,h,hn,hu,hr=>by
  simp only[handed]at h;obtain⟨h1,h2,h3⟩:=h;simp only[Rc]at hr;obtain⟨f1,f2,hr1,hr2,e⟩:=hr;obtain⟨rfl,rfl⟩:f1=[]/\f2=[]:=by simpa using e
  simp only[takes,lE]at hn hu⊢;obtain⟨wG,lN,q1,q2,q3,q4⟩:=BV r xs gs vs h3 hn.2.1 (λi hi=>hu i (by simp[hi])) hr2;obtain⟨fp,p1,p2,p3⟩:=GU r x v h1 hn.1 hr1;refine⟨fp::wG,0::lN,?_,?_,by simpa [rZ]using q3,λZ hZ=> ?_⟩
  .simp only[pZ,lE];refine⟨p2,q1,λb hb b' hb' e=> ?_⟩;subst e;exact LY r (λi hi j hj=>hn.2.2 i hi j hj) (p3 b hb) (q2 b hb')
  .intro b hb;simp only[pZ,fR]at hb;rcases hb with hb|hb
   .exact Dy (λi hi=>by simp[hi]) (p3 b hb)
   .exact Dy (λi hi=>by simp[hi]) (q2 b hb)
  .simp only[Fx,RG];refine⟨?_,q4 Z hZ⟩;rw[<-h2];exact oV (WI r hZ) _ _ _ (λ_ _=>rfl) p1
 |x::xs,.vX c c'::gs,v::vs,h,hn,hu,hr=>by
  simp only[handed]at h;obtain⟨h1,h3⟩:=h;simp only[Rc]at hr;obtain⟨f1,f2,hr1,hr2,e⟩:=hr;obtain⟨rfl,rfl⟩:f1=[]/\f2=[]:=by simpa using e
  simp only[takes]at hn hu⊢;generalize hus:WH s.o x=us at hn hu⊢;simp only[lE]at hn;obtain⟨wG,lN,q1,q2,q3,q4⟩:=BV r xs gs vs h3 hn.2.1 (λi hi=>hu i (by simp[hi])) hr2;obtain⟨fp,cap,p1,p2,p3,p4⟩:=C9 r h1 hr1 hus hn.1;refine⟨fp::wG,cap::lN,?_,?_,by simp only[rZ];exact⟨p3,q3⟩,λZ hZ=> ?_⟩
  .simp only[pZ,lE];refine⟨p1,q1,λb hb b' hb' e=> ?_⟩;subst e;exact LY r (λi hi j hj=>hn.2.2 i hi j hj) (p2 b hb) (q2 b hb')
  .intro b hb;simp only[pZ,fR]at hb;rcases hb with hb|hb
   .exact Dy (λi hi=>by simp[hi]) (p2 b hb)
   .exact Dy (λi hi=>by simp[hi]) (q2 b hb)
  .simp only[Fx];exact⟨p4 c' Z U hZ,q4 Z hZ⟩
end
def Ku:Nat->List GA->List aI
 |_,[]=>[]
 |k,.vX _ c'::gs=>(iE 1 k c').2++Ku (k+(iE 1 k c').2.length) gs
 |k,.view _::gs=>Ku k gs
 |k,.rF _::gs=>Ku k gs
def Ew:Nat->List AV->List GA->List (Nat×List (List AV))
 |k,x::xs,.vX _ c'::gs=>(match x with
  | .ptr i _ _ _=>[(i,[(iE 1 k c').1])]
  |_=>[])++Ew (k+(iE 1 k c').2.length) xs gs
 |k,_::xs,.view _::gs=>Ew k xs gs
 |k,_::xs,.rF _::gs=>Ew k xs gs
 |_,_,_=>[]
def aI.aAl(ob:aI)(N:List (Nat×List (List AV)))(u:List Nat)(i:Nat):aI:=
 match N.find? (λp=>p.1 == i)with
 |some p=>{ob with fM:=p.2}
 |none=>if u.contains i=true then {ob with fT:=false}else ob.forget u
def Gp(N:List (Nat×List (List AV)))(u:List Nat):Nat->List aI->List aI
 |_,[]=>[]
 |i,ob::r=>ob.aAl N u i::Gp N u (i+1) r
def WJ(N:List (Nat×List (List AV)))(u:List Nat):∀(o:List aI) (k i:Nat),(Gp N u k o)[i]? =(o[i]?).map λob=>ob.aAl N u (k+i)
 |[],_,_=>by simp[Gp]
 |ob::r,k,0=>by simp[Gp]
 |ob::r,k,i+1=>by simp only[Gp,AE];rw[WJ N u r (k+1) i,show k+1+i=k+(i+1)by omega]
def Fy(N:List (Nat×List (List AV)))(u:List Nat):∀(o:List aI) (k:Nat),(Gp N u k o).length=o.length
 |[],_=>rfl
 |g::r,k=>by simp[Gp,Fy N u r]
def JF(N:List (Nat×List (List AV))):Nat->List CO->List CO
 |_,[]=>[]
 |i,g::r=>(match N.find? (λp=>p.1 == i)with
  |some _=>{g with F:=λb=>∃a,g.a=some a/\b=a.block}
  |none=>g)::JF N (i+1) r
def WK(N:List (Nat×List (List AV))):∀(G:List CO) (k i:Nat),(JF N k G)[i]? =(G[i]?).map λg=>match N.find? (λp=>p.1 == k+i)with
  |some _=>{g with F:=λb=>∃a,g.a=some a/\b=a.block}
  |none=>g
 |[],_,_=>by simp[JF]
 |g::r,k,0=>by simp[JF]
 |g::r,k,i+1=>by simp only[JF,AE];rw[WK N r (k+1) i,show k+1+i=k+(i+1)by omega]
def Fz(N:List (Nat×List (List AV))):∀(o:List CO) (k:Nat),(JF N k o).length=o.length
 |[],_=>rfl
 |g::r,k=>by simp[JF,Fz N r]
def WM{o:List aI}{G:List CO}{N:List (Nat×List (List AV))}{u:List Nat}{i:Nat}{ob':aI}{g':CO}(h:look (Gp N u 0 o) (JF N 0 G) i ob' g'):
  ∃ob g,look o G i ob g/\((∃p∈N,p.1=i/\ob'={ob with fM:=p.2}/\g'={g with F:=λb=>∃a,g.a=some a/\b=a.block})\/
   ((∀p∈N,p.1≠i)/\g'=g/\((i∈u/\ob'={ob with fT:=false})\/(i∉u/\ob'=ob.forget u)))):=by
 obtain⟨h1,h2⟩:=h;rw[WJ,lR]at h1;rw[WK,lR]at h2;cases ho:o[i]? with
 |none=>simp[ho]at h1
 |some ob=>
  cases hg:G[i]? with
  |none=>simp[hg]at h2
  |some g=>
   rw[ho]at h1;rw[hg]at h2;simp only[oR,eI]at h1 h2;refine⟨ob,g,⟨ho,hg⟩,?_⟩;unfold aI.aAl at h1;cases hf:N.find? (λp=>p.1 == i)with
   |some p=>rw[hf]at h1 h2;left;exact⟨p,pN hf,by have:=FA hf;simpa using this,h1.symm,h2.symm⟩
   |none=>
    rw[hf]at h1 h2;right;refine⟨λp hp e=> ?_,h2.symm,?_⟩
    .have:=Fi.1 hf p hp;simp[e]at this
    .simp only at h1;by_cases hiu:i∈u
     .rw [eM (by simpa using hiu)]at h1;exact .inl ⟨hiu,h1.symm⟩
     .rw [eC (by simpa using hiu)]at h1;exact .inr ⟨hiu,h1.symm⟩
def aB7{o:List aI}{G:List CO}{N:List (Nat×List (List AV))}{u:List Nat}{i:Nat}{ob:aI}{g:CO}(h:look o G i ob g):
  ∃ob' g',look (Gp N u 0 o) (JF N 0 G) i ob' g':=by
 have h1:=(cU.1 h.1).1;have h2:=(cU.1 h.2).1;exact⟨_,_,aE (by rw[Fy];exact h1),aE (by rw[Fz];exact h2)⟩
def BX{w:World}{s:AS}{G:List CO}:∀(xs:List AV) (gs:List GA) (vs:List Value) (wG:List (List Nat)) (lN:List Nat) (k:Nat),rZ s.o G xs gs vs lN->Vw w gs vs wG lN->wG.flatten.Nodup->
  ∃inner,inner.Nodup/\(∀b∈inner,b∈wG.flatten)/\
   (∀p∈Ew k xs gs,∃ob g b f,look s.o G p.1 ob g/\ob.fT=true/\ob.box=true/\ob.fM.length=p.2.length/\g.a=some ⟨b,f,none⟩/\g.F b/\b∈wG.flatten/\b∉inner)/\
   nQ 1 w pY k (Ku k gs) inner (λE'=>∀p∈Ew k xs gs,∀ob g b f,look s.o G p.1 ob g->g.a=some ⟨b,f,none⟩->uH w E' ob.n p.2 g.a g.cap [b])
 |[],[],[],[],[],k,_,_,_=>⟨[],by simp,by simp,by simp[Ew],⟨[],rfl,λj ob g hl=>by simp[look,Ku]at hl,λi j oi oj gi gj b hl=>by simp[look,Ku]at hl,λE' _ _ p hp=>by simp[Ew]at hp⟩⟩
 |x::xs,.view y::gs,v::vs,fp::wG,cap::lN,k,hl,hp,hn=>by simp only[Vw,RP]at hp;obtain⟨rfl,hp⟩:=hp;simp only[Ku,Ew];have:=BX xs gs vs wG lN k (by simpa [rZ]using hl) hp (by simpa using hn);simpa using this
 |x::xs,.rF y::gs,v::vs,fp::wG,cap::lN,k,hl,hp,hn=>by simp only[Vw,RP]at hp;obtain⟨rfl,hp⟩:=hp;simp only[Ku,Ew];have:=BX xs gs vs wG lN k (by simpa [rZ]using hl) hp (by simpa using hn);simpa using this
 |x::xs,.vX c c'::gs,v::vs,fp::wG,cap::lN,k,hl,hp,hn=>by
  simp only[Vw,RP]at hp;obtain⟨⟨b0,f0,hv0,dF,eQ⟩,hp⟩:=hp;simp only[rZ]at hl;obtain⟨hl0,hl⟩:=hl;simp only[pZ,lE]at hn;obtain⟨inner,i1,i2,i3,i4⟩:=BX xs gs vs wG lN (k+(iE 1 k c').2.length) hl hp hn.2.1;unfold C8 at hl0;split at hl0
  .rename_i i bY idx off;obtain⟨ob,g,b,f,hlk,aY,xL,hcn,hel,hga,hv,hF,rfl⟩:=hl0;rw[hv]at hv0;simp only[CN,eI,oS,pS]at hv0;obtain⟨rfl,rfl⟩:=hv0;rcases eQ with⟨h5,_⟩|⟨b',f',C,ty,fz,sH,yM,hbk,hz,k1,k2,k3,rfl,hr⟩
   .cases h5
   simp only[eI,oS,pS]at yM;obtain⟨rfl,rfl⟩:=yM;simp only[Rr]at hr;obtain⟨cs,f1,f2,IU,hc,hone,wK,rfl,e⟩:=hr;have e:sH=f1:=by simpa using e
   subst e;have hnb:=hn.1;simp only[nF]at hnb;have hab:=EH (q:=1) c' cs sH k wK hnb.2;have aB4:(sH++inner).Nodup:=lE.2 ⟨hnb.2,i1,λx hx y hy e=>hn.2.2 x (by simp[hx]) y (i2 y hy) e⟩;obtain⟨Gs,a1,a2,a3,a4⟩:=hab.append i4 aB4;have hbi:b∉inner:=λh=>hn.2.2 b (by simp) b (i2 b h) rfl
   refine⟨sH++inner,aB4,?_,?_,⟨Gs,a1,a2,a3,λE' hk hh=> ?_⟩⟩
   .intro x hx;simp only[pZ,fR];rcases fR.1 hx with hx|hx
    .exact .inl (by simp[hx])
    .exact .inr (i2 x hx)
   .intro p hp;simp only[Ew,fR]at hp;rcases hp with hp|hp
    .simp only[mS]at hp;subst hp;exact⟨ob,g,b,f,hlk,aY,xL,by simpa using hel,hga,hF,by simp,by simp only[fR,not_or];exact⟨hnb.1,hbi⟩⟩
    .obtain ⟨zf,g1,b1,f1,q1,q2,q3,q4,q5,q6,q7,q8⟩:=i3 p hp;refine⟨zf,g1,b1,f1,q1,q2,q3,q4,q5,q6,by simp[q7],?_⟩;simp only[fR,not_or];exact⟨λh=>hn.2.2 b1 (by simp[h]) b1 q7 rfl,q8⟩
   .obtain ⟨d1,d2⟩:=a4 E' hk hh;intro p hp zf g1 b1 f1 q1 q2;simp only[Ew,fR]at hp;rcases hp with hp|hp
    .simp only[mS]at hp;subst hp;obtain⟨rfl,rfl⟩:=lT hlk q1;rw[hga]at q2;simp only[eI,oS,pS]at q2;obtain⟨rfl,rfl⟩:=q2;refine⟨by simp[maxLen],.inr ⟨b,f,C,ty,fz,[],hga,hbk,by rw[hcn];exact hz,by rw[hcn];exact k1,by simpa using k2,k3,rfl,?_⟩⟩;simp only[Rr];exact⟨cs,[],[],by rw[hcn];exact IU,hc,hone,d1,rfl,rfl⟩
    .exact d2 p hp zf g1 b1 f1 q1 q2
  .exact hl0.elim
 |[],[],[],[],_::_,_,hl,_,_=>by simp[rZ]at hl
 |[],[],[],_::_,_,_,_,hp,_=>by simp[Vw]at hp
 |[],[],_::_,_,_,_,_,hp,_=>by simp[Vw]at hp
 |[],_::_,_,_,_,_,hl,_,_=>by simp[rZ]at hl
 |_::_,[],_,_,_,_,hl,_,_=>by simp[rZ]at hl
 |_::_,.view _::_,[],_,_,_,hl,_,_=>by simp[rZ]at hl
 |_::_,.view _::_,_::_,[],_,_,_,hp,_=>by simp[Vw]at hp
 |_::_,.view _::_,_::_,_::_,[],_,_,hp,_=>by simp[Vw]at hp
 |_::_,.rF _::_,[],_,_,_,hl,_,_=>by simp[rZ]at hl
 |_::_,.rF _::_,_::_,[],_,_,_,hp,_=>by simp[Vw]at hp
 |_::_,.rF _::_,_::_,_::_,[],_,_,hp,_=>by simp[Vw]at hp
 |_::_,.vX _ _::_,[],_,_,_,hl,_,_=>by simp[rZ]at hl
 |_::_,.vX _ _::_,_::_,[],_,_,_,hp,_=>by simp[Vw]at hp
 |_::_,.vX _ _::_,_::_,_::_,[],_,_,hp,_=>by simp[Vw]at hp
def LZ(o:List aI):∀(xs:List AV) (gs:List GA) (k:Nat),∀p∈Ew k xs gs,p.1∈takes o xs gs
 |[],[],_,p,hp=>by simp[Ew]at hp
 |[],_::_,_,p,hp=>by simp[Ew]at hp
 |_::_,[],_,p,hp=>by simp[Ew]at hp
 |x::xs,.view _::gs,k,p,hp=>by simp only[Ew]at hp;simpa [takes]using LZ o xs gs k p hp
 |x::xs,.rF _::gs,k,p,hp=>by simp only[Ew]at hp;simp only[takes,fR];exact .inr (LZ o xs gs k p hp)
 |x::xs,.vX _ c'::gs,k,p,hp=>by
  simp only[Ew,fR]at hp;simp only[takes,fR];rcases hp with hp|hp
  .left;cases x<;>simp at hp;subst hp;simp[WH]
  .exact .inr (LZ o xs gs _ p hp)
def AS.given(s:AS)(d:Option Tmp)(xs:List AV)(gs:List GA)(r:AV):AS:=
 AS.put ⟨tJ (lV (takes s.o xs gs)) true s.t,Gp (Ew s.o.length xs gs) (takes s.o xs gs) 0 s.o++Ku s.o.length gs++(iA 1 (s.o.length+(Ku s.o.length gs).length) r).2⟩ d
  (iA 1 (s.o.length+(Ku s.o.length gs).length) r).1
section
variable{P:Program}[aG P]{B:gL P}{s:AS}{dst:Option Tmp}{ty:TypeId}{pos:String}{after:Array Edge}{gd:Option (Nat × Bool)}
def aB8(f:Operand)(args:Array Operand)(NL:Array TypeId){gf:FuncId}{gs:List GA}{rv:AV}(hf:s.ev f= .fn gf [])(hc:bV P gf=true)
  (hu:(takes s.o (s.args args) gs).Nodup) (hh:handed s.o (takes s.o (s.args args) gs) (s.args args) gs) (rP:Ob P gf gs rv):
  Step P B ⟨dst,.call {callee:= .value f,args:=args,argTypes:=NL},ty,pos,after,gd⟩ s (s.given dst (s.args args) gs rv):=by
 rintro a w next Q ⟨G,rr⟩ hn
 have h1:=rr.ev f;rw[hf]at h1;simp only[R]at h1;obtain⟨_,cs,hv,uJ⟩:=h1;have hcs:cs=[]:=by cases cs with
  |nil=>rfl
  |cons _ _=>simp[Rc]at uJ
 subst hcs;have hargs:Rc w (env B s.o G w) (s.args args) (args.toList.map a.eval) []:=by simpa [AS.args]using uK rr args.toList
 generalize hxs:s.args args=xs at*;obtain⟨wG,lN,hnd,Pz,aPq,aPr⟩:=BV rr (U:=takes s.o xs gs) xs gs _ hh hu (λi h=>h) hargs;generalize huu:takes s.o xs gs=u at*;have hlt:∀b∈wG.flatten,b<w.heap.size:=λb hb=>by obtain⟨i,ob,g,_,hl,aY,hF⟩:=Pz b hb;exact(rr.eB _ _ _ b hl aY hF).2
 have hab:∀b∈wG.flatten,aG.low P<=b/\b<w.heap.size:=λb hb=>by obtain⟨i,ob,g,_,hl,aY,hF⟩:=Pz b hb;exact⟨rr.Pp (rr.eB _ _ _ b hl aY hF).1,hlt b hb⟩
 have EJ:=rP w _ wG lN rr.holds hab hnd (aPr _ Pz);unfold Oper.wp;have hrun:(execOp a.eval ⟨dst,.call {callee:= .value f,args:=args,argTypes:=NL},ty,pos,after,gd⟩).run P w= .ok (.enter gf (args.toList.map a.eval).toArray) w:=by
  have e:args.map a.eval=(args.toList.map a.eval).toArray:=by apply CH;simp
  simp[execOp,resolve,hv,Deferred.ofValue,invoke,vI hc,e]
 rw[hrun,BY];refine EJ.mono λe w' h=> ?_
 obtain⟨v,fp,Dv,rfl,QF,hrp,hnd',hfr,hsz,mI,BG⟩:=h;refine hn _ _ ?_;have Yo:=lE.1 hnd';obtain⟨inner,i1,i2,i3,i4⟩:=BX (s:=s) (G:=G) xs gs _ Dv lN s.o.length aPq hrp Yo.1;have aB4:(inner++fp).Nodup:=lE.2 ⟨i1,Yo.2.1,λx hx y hy e=>Yo.2.2 x (i2 x hx) y hy e⟩;obtain⟨Gs,dF,zL,hap,rA⟩:=i4.append (CE (q:=1) rv v fp (s.o.length+(Ku s.o.length gs).length) QF Yo.2.1) aB4;have hNu:=LZ s.o xs gs s.o.length;rw[huu]at hNu;unfold AS.given;rw[huu];generalize hN:Ew s.o.length xs gs=N at*;rw[rL];generalize Cz:Ku s.o.length gs++(iA 1 (s.o.length+(Ku s.o.length gs).length) rv).2=eO at*;generalize ho1:Gp N u 0 s.o=o1;generalize hG1:JF N 0 G=G1;have hl1:o1.length=s.o.length:=by rw[<-ho1,Fy]
 have aXo:G1.length=G.length:=by rw[<-hG1,Fz]
 have hlG:G1.length=o1.length:=by rw[aXo,hl1,rr.len]
 have blk:∀b,b∈Dv.flatten++fp->(Of s.o G u b\/w.heap.size<=b)/\b<w'.heap.size:=λb hb=>by
  have:=hfr b hb;refine⟨?_,this.2⟩;rcases this.1 with h|h
  .exact .inl (Pz b h)
  .exact .inr h
 have Js:∀{j ob g b},look eO Gs j ob g->g.F b->b∈inner++fp:=by intro j ob g b hl hF;obtain⟨_,_,_,f',_,_,h3,h4⟩:=zL _ _ _ hl;exact h4 _ ((h3 _).1 hF)
 have aPs:∀{b},b∈inner++fp->b∈Dv.flatten++fp:=by
  intro b hb;rcases fR.1 hb with h|h
  .exact pA _ (i2 b h)
  .exact tW _ h
 have lk:∀{i ob' g'},look (o1++eO) (G1++Gs) i ob' g'->(∃j,i=s.o.length+j/\look eO Gs j ob' g')\/(i<s.o.length/\∃ob g,look s.o G i ob g/\
   ((∃p∈N,p.1=i/\ob'={ob with fM:=p.2}/\g'={g with F:=λb=>∃a,g.a=some a/\b=a.block})\/
   ((∀p∈N,p.1≠i)/\g'=g/\((i∈u/\ob'={ob with fT:=false})\/(i∉u/\ob'=ob.forget u))))):=by
  intro i ob' g' h;rcases pE hlG h with⟨hi,h⟩|⟨hi,h⟩
  .right;refine⟨by omega,?_⟩;rw[<-ho1,<-hG1]at h;exact WM h
  .left;exact⟨i-o1.length,by omega,h⟩
 have aFp:∀{p},p∈N->∀{ob g},look s.o G p.1 ob g->ob.fT=true/\ob.box=true/\ob.fM.length=p.2.length/\∃b f,g.a=some ⟨b,f,none⟩/\g.F b/\b∈Dv.flatten/\b∉inner:=by intro p hp ob g hl;obtain⟨PE,g2,b,f,q1,q2,q3,q4,q5,q6,q7,q8⟩:=i3 p hp;obtain⟨rfl,rfl⟩:=lT hl q1;exact⟨q2,q3,q4,b,f,q5,q6,q7,q8⟩
 have kl:∀{i ob g},look s.o G i ob g->∃ob' g',look (o1++eO) (G1++Gs) i ob' g'/\(ob'.fT=true->ob.fT=true)/\ob'.bY=ob.bY/\ob'.n=ob.n/\g'.a=g.a/\g'.cap=g.cap/\ob'.fM.length=ob.fM.length/\ob'.box=ob.box/\
   (i∉u->g'=g/\ob'.fT=ob.fT):=by
  intro i ob g h;obtain⟨ob',g',h'⟩:=aB7 (N:=N) (u:=u) h;rw[ho1,hG1]at h';have h'':=nC (o2:=eO) (G2:=Gs) h';refine⟨ob',g',h'',?_⟩;rw[<-ho1,<-hG1]at h';obtain⟨PE,g2,h2,hcase⟩:=WM h';obtain⟨rfl,rfl⟩:=lT h h2;rcases hcase with⟨p,hp,rfl,rfl,rfl⟩|⟨NM,rfl,⟨hiu,rfl⟩|⟨hiu,rfl⟩⟩
  .obtain ⟨b1,b2,b3,_⟩:=aFp hp h;exact⟨λ_=>b1,rfl,rfl,rfl,rfl,b3.symm,rfl,λhn=>absurd (hNu p hp) hn⟩
  .exact ⟨λh=>by simp at h,rfl,rfl,rfl,rfl,rfl,rfl,λhn=>absurd hiu hn⟩
  .exact ⟨λh=>by rw[qE]at h;exact h,Sy _ _,ae _ _,rfl,rfl,SA _ _,Sz _ _,λ_=>⟨rfl,qE _ _⟩⟩
 have aN6:∀{i ob g b},look s.o G i ob g->ob.fT=true->g.F b->i∉u->¬Of s.o G u b:=by intro i ob g b hl aY hF hiu hO;obtain⟨j,oj,gj,hj,hlj,hjl,LJ⟩:=hO;exact hiu (rr.fV i j _ _ _ _ b hl hlj aY hjl hF LJ▸hj)
 have aXp:∀{i ob g b},look s.o G i ob g->ob.fT=true->g.F b->i∉u->b∉Dv.flatten++fp:=by
  intro i ob g b hl aY hF hiu hX;rcases(blk b hX).1 with h|h
  .exact aN6 hl aY hF hiu h
  .have:=(rr.eB _ _ _ b hl aY hF).2;omega
 have He:∀i ob g b,look s.o G i ob g->ob.fT=true->g.F b->i∉u->w'.heap[b]? =w.heap[b]?:=λi ob g b hl aY hF hiu=>
  mI b (rr.eB _ _ _ b hl aY hF).2 (λhm=>aN6 hl aY hF hiu (Pz b hm))
 let Er:Env:={env B s.o G w with D:=λi b=>i∉u/\(env B s.o G w).D i b}
 have rt1:pG (lV u) true (env B s.o G w) Er (λ_=>True):=by
  refine⟨λt e=>by simp[lV]at e,λt e=>by simp only[lV,eI]at e;exact⟨e.symm,λb hb=>hb⟩,λi t e=> ?_,λ_ _ _ _ h=>h,λ_ _ _ _ _ _ h=>h⟩;simp only[lV]at e;split at e
  .cases e
  .rename_i hiu;obtain rfl:=cX e;refine⟨by simp,?_,λb hb=>⟨hiu,hb⟩⟩;by_cases hV:(env B s.o G w).V i
   .exact .inl hV
   .exact .inr hV
 have k2:fG w Er w' (env B (o1++eO) (G1++Gs) w'):=by
  refine⟨λb hb=> ?_,λi h ob wF=> ?_,λi b hV h=> ?_,λi bY x h=> ?_,λi bY j q x h=> ?_⟩
  .have hb':(env B s.o G w).A b:=hb;have hbl:=rQ rr hb';have hnO:¬Of s.o G u b:=λ⟨i,ob,g,_,hl,aY,hF⟩=>hb'.2 i ob g hl aY hF
   have hnX:b∉Dv.flatten++fp:=λhX=>by
    rcases(blk b hX).1 with h|h
    .exact hnO h
    .omega
   refine⟨⟨?_,λi ob' g' hl aY hF=> ?_⟩,mI b hbl (λh=>hnO (Pz b h))⟩
   .rcases hb'.1 with h|h
    .exact .inl h
    .exact .inr ⟨h.1,by omega⟩
   .rcases lk hl with⟨j,_,hl2⟩|⟨_,ob,g,hl0,⟨p,hp,rfl,_,rfl⟩|⟨_,rfl,⟨_,rfl⟩|⟨_,rfl⟩⟩⟩
    .exact hnX (aPs (Js hl2 hF))
    .obtain ⟨b1,b2,b3,b0,f0,b4,b5,b6,_⟩:=aFp hp hl0;obtain⟨a0,ha0,rfl⟩:=hF;rw[b4]at ha0;obtain rfl:=cX ha0;exact hb'.2 _ ob g hl0 b1 b5
    .simp at aY
    .refine hb'.2 i ob g' hl0 ?_ hF;rw[qE]at aY;exact aY
  .have hi:i<G.length:=by rw[rr.len];exact(cU.1 wF).1
   obtain⟨ob',g',hl,h1,_⟩:=kl (i:=i) (ob:=ob) (g:=G[i]) ⟨wF,aE hi⟩;exact h1 (h ob' hl.1)
  .obtain ⟨hiu,ob,g,hl,aY,hF,jE⟩:=h;obtain⟨ob',g',Dw,_,_,_,_,_,_,_,h7⟩:=kl hl;obtain⟨rfl,h8⟩:=h7 hiu;exact⟨⟨ob',g',Dw,by rw[h8];exact aY,hF,jE⟩,He i ob g' b hl aY hF hiu⟩
  .obtain ⟨ob,g,hl,Ap,hh,hz⟩:=h;obtain⟨ob',g',Dw,h1,h2,h3,h4,h5,h6,_⟩:=kl hl;exact⟨ob',g',Dw,by omega,λaY Yg=>by rw[h4,h5,h6];exact hh (h1 aY) (by omega),hz⟩
  .obtain ⟨ob,g,hl,Ap,hh,hz⟩:=h;obtain⟨ob',g',Dw,h1,h2,h3,h4,h5,h6,h8,_⟩:=kl hl;exact⟨ob',g',Dw,by omega,λaY Yg=>by rw[h4,h3];exact hh (h1 aY) (by omega),
    λe e2 e3 e4 y hy=>⟨(hz (by rw[<-h8];exact e) e2 e3 e4 y hy).1,λaY Yg=>by rw[h5];exact(hz (by rw[<-h8];exact e) e2 e3 e4 y hy).2 (h1 aY) (by omega)⟩⟩
 have tm:Rc w' (env B (o1++eO) (G1++Gs) w') (tJ (lV u) true s.t) a.tmps.toList []:=
  gQ k2 _ _ _ (by simp) (Ar rt1 _ _ _ (by simp) rr.tmps)
 have kn:∀E':Env,fG w' pY w' E':=λE'=>⟨λ_ h=>h.elim,λ_ _=>trivial,λ_ _ _ h=>h.elim,λ_ _ _ h=>h.elim,λ_ _ _ _ _ h=>h.elim⟩
 have hfin:=rA (env B (o1++eO) (G1++Gs) w') (kn _) (λj ob g hl=>by
  obtain⟨_,_,h3,_⟩:=zL _ _ _ hl;refine⟨ob,g,?_,AI h3.symm,λ_ _=>rfl,λh=>absurd h (by decide)⟩;have:=oF (o:=o1) (G:=G1) hlG hl
  rwa[hl1]at this)
 obtain⟨hbx,lI⟩:=hfin;have rel:fZ B ⟨tJ (lV u) true s.t,o1++eO⟩ (G1++Gs) a w':=by
  refine {len:=by simp[hlG,dF],defs:=rr.defs,ok:= ?_,fV:= ?_,eB:= ?_,tmps:=tm,size:=iS rr.size hsz,frame:= ?_,base:=rr.base,same:=rr.same.trans BG}
  .intro i ob' g' hl aY;rcases lk hl with⟨j,_,hl2⟩|⟨_,ob,g,hl0,⟨p,hp,rfl,rfl,rfl⟩|⟨_,rfl,⟨_,rfl⟩|⟨hiu,rfl⟩⟩⟩
   .obtain ⟨h1,h2,_,f',eQ,h3,h4,h5⟩:=zL _ _ _ hl2;refine⟨f',?_,h3,λb hb=>(h4 b).2 hb⟩;rw[h2];exact eQ.keeps (kn _).plain (λ_ _=>rfl)
   .obtain ⟨b1,b2,b3,b0,f0,b4,b5,b6,_⟩:=aFp hp hl0;have:=hbx p hp ob g b0 f0 hl0 b4;refine⟨[b0],?_,by simp,?_⟩
    .simp only[b2,Env.of,eS];exact this
    .intro b hb;simp only[mS]at hb;subst hb;exact⟨_,b4,rfl⟩
   .simp at aY
   .rw [qE]at aY;obtain⟨fpo,eQ,Kq,Rw⟩:=rr.ok i ob g' hl0 aY;by_cases hbx:ob.box=true
    .simp only[hbx,Env.of,eS]at eQ;obtain⟨dF,eQ⟩:=eQ;by_cases hall:Fw ob.fM=true
     .have hfo:ob.forget u=ob:=by unfold aI.forget;simp[hbx,hall]
      rw[hfo];refine⟨fpo,?_,Kq,Rw⟩;simp only[hbx,Env.of,eS];refine⟨dF,?_⟩;rcases eQ with h|⟨b,off,C,e,fz,aFm,ha,hb,hz,h1,h2,h3,rfl,A8⟩
      .exact .inl h
      .have hbs:=He i ob g' b hl0 aY (Rw b (by simp)) hiu;exact .inr ⟨b,off,C,e,fz,aFm,ha,by rw[hbs];exact hb,hz,h1,h2,h3,rfl,qD k2 _ _ _ _ _ hbs (λx hx=>He i ob g' x hl0 aY (Rw x (by simp[hx])) hiu) (aFh hall A8)⟩
     .have hfo:ob.forget u={ob with fM:=lW (lV u) true ob.fM}:=by unfold aI.forget;rw[eM hbx,eC hall]
      rw[hfo];rcases eQ with⟨h1,h2,h3⟩|⟨b,off,C,e,fz,aFm,ha,hb,hz,h1,h2,h3,rfl,A8⟩
      .exact ⟨[],⟨by simp[oD];exact dF,.inl ⟨by simp[h1,lW],h2,rfl⟩⟩,by simp,by simp⟩
      .have Gj:=Rw b (by simp);have hbs:=He i ob g' b hl0 aY Gj hiu;refine⟨[b],⟨by simp[oD];exact dF,.inr ⟨b,off,C,e,fz,[],ha,by rw[hbs];exact hb,hz,h1,by simpa [oD]using h2,h3,rfl,?_⟩⟩,by simp,by simpa using Gj⟩;simp only[hbx,Env.of,eS];exact qD k2 _ _ _ _ _ hbs (by simp) (JD rt1 _ _ _ _ _ (by simp) A8)
    .have aFn:ob.box=false:=by simpa using hbx
     have hfo:ob.forget u=ob:=by unfold aI.forget;simp[aFn]
     rw[hfo];refine⟨fpo,?_,Kq,Rw⟩;simp only[aFn,Env.of,cY,eW]at eQ⊢;have kp:fG w (env B s.o G w).plain w' (env B (o1++eO) (G1++Gs) w').plain:=k2.plain;exact eQ.keeps kp (λb hb=>He i ob g' b hl0 aY (Rw b hb) hiu)
  .-- every object its own blocks
   have cls:∀{i ob' g' b},look (o1++eO) (G1++Gs) i ob' g'->ob'.fT=true->g'.F b->(∃j,i=s.o.length+j/\look eO Gs j ob' g'/\b∈inner++fp)\/
     (i<s.o.length/\∃ob g,look s.o G i ob g/\ob.fT=true/\g.F b/\((b∈Dv.flatten/\b∉inner)\/b∉Dv.flatten++fp)):=by
    intro i ob' g' b hl aY hF;rcases lk hl with⟨j,hj,hl2⟩|⟨hi,ob,g,hl0,⟨p,hp,rfl,rfl,rfl⟩|⟨_,rfl,⟨_,rfl⟩|⟨hiu,rfl⟩⟩⟩
    .exact .inl ⟨j,hj,hl2,Js hl2 hF⟩
    .obtain ⟨b1,b2,b3,b0,f0,b4,b5,b6,b7⟩:=aFp hp hl0;obtain⟨a0,ha0,rfl⟩:=hF;rw[b4]at ha0;obtain rfl:=cX ha0;exact .inr ⟨hi,ob,g,hl0,b1,b5,.inl ⟨b6,b7⟩⟩
    .simp at aY
    .rw [qE]at aY;exact .inr ⟨hi,ob,g',hl0,aY,hF,.inr (aXp hl0 aY hF hiu)⟩
   have mixed:∀{b},b∈inner++fp->((b∈Dv.flatten/\b∉inner)\/b∉Dv.flatten++fp)->False:=by
    rintro b hb (⟨h1,h2⟩|h)
    .rcases fR.1 hb with h|h
     .exact h2 h
     .exact Yo.2.2 b h1 b h rfl
    .exact h (aPs hb)
   intro i j oi oj gi gj b hi hj hil hjl Gl NS;rcases cls hi hil Gl with⟨i',rfl,hi',hbi⟩|⟨aPp,zf,g1,hl1,aXq,hF1,hc1⟩<;>rcases cls hj hjl NS with⟨j',rfl,hj',hbj⟩|⟨aPo,PE,g2,hl2,aXr,zt,LH⟩
   .rw [hap _ _ _ _ _ _ b hi' hj' Gl NS]
   .exact (mixed hbi LH).elim
   .exact (mixed hbj hc1).elim
   .exact rr.fV _ _ _ _ _ _ b hl1 hl2 aXq aXr hF1 zt
  .intro i ob' g' b hl aY hF;have ofX:b∈Dv.flatten++fp->(B.O0 b\/B.w0.heap.size<=b)/\b<w'.heap.size:=λhX=>by
    obtain⟨h1,h2⟩:=blk b hX;refine⟨?_,h2⟩;rcases h1 with⟨j,oj,gj,_,hlj,hjl,LJ⟩|h
    .exact (rr.eB _ _ _ b hlj hjl LJ).1
    .exact .inr (iS rr.size h)
   rcases lk hl with⟨j,hj,hl2⟩|⟨hi,ob,g,hl0,⟨p,hp,rfl,rfl,rfl⟩|⟨_,rfl,⟨_,rfl⟩|⟨hiu,rfl⟩⟩⟩
   .exact ofX (aPs (Js hl2 hF))
   .obtain ⟨b1,b2,b3,b0,f0,b4,b5,b6,b7⟩:=aFp hp hl0;obtain⟨a0,ha0,rfl⟩:=hF;rw[b4]at ha0;obtain rfl:=cX ha0;exact ofX (pA _ b6)
   .simp at aY
   .rw [qE]at aY;have:=rr.eB _ _ _ b hl0 aY hF;exact⟨this.1,by omega⟩
  .intro b hb hO;rw[<-rr.frame b hb hO];refine mI b (lP hb rr.size) (λhm=> ?_);obtain⟨j,oj,gj,_,hlj,hjl,LJ⟩:=Pz b hm;rcases(rr.eB _ _ _ b hlj hjl LJ).1 with h|h
   .exact hO h
   .omega
 exact⟨_,rel.put dst lI⟩
mutual
def tH(i bY:Nat)(y:AV):AV->AV
 | .obj j v=>if j=i/\v=bY then y else .obj j v
 | .agg c=> .agg (vK i bY y c)
 | .iL c=> .iL (vK i bY y c)
 |x=>x
def vK(i bY:Nat)(y:AV):List AV->List AV
 |[]=>[]
 |x::xs=>tH i bY y x::vK i bY y xs
end
def vY(i bY:Nat)(y:AV):List (List AV)->List (List AV)
 |[]=>[]
 |e::es=>vK i bY y e::vY i bY y es
def Dz(i bY:Nat)(y:AV):∀l,(vY i bY y l).length=l.length
 |[]=>rfl
 |_::l=>by simp[vY,Dz i bY y l]
def aI.tH(i bY:Nat)(y:AV)(ob:aI):aI:=if ob.box=true then {ob with fM:=vY i bY y ob.fM}else ob
def uZ(i bY:Nat)(y:AV):Nat->List aI->List aI
 |_,[]=>[]
 |k,ob::r=>(if k=i then ob.kill else ob.tH i bY y)::uZ i bY y (k+1) r
def SI(i bY:Nat)(y:AV):∀(o:List aI) (k j:Nat),(uZ i bY y k o)[j]? =(o[j]?).map λob=>if k+j=i then ob.kill else ob.tH i bY y
 |[],_,_=>by simp[uZ]
 |ob::r,k,0=>by simp[uZ]
 |ob::r,k,j+1=>by simp only[uZ,AE];rw[SI i bY y r (k+1) j,show k+1+j=k+(j+1)by omega]
def PG(i bY:Nat)(y:AV):∀(o:List aI) (k:Nat),(uZ i bY y k o).length=o.length
 |[],_=>rfl
 |ob::r,k=>by simp[uZ,PG i bY y r]
def AS.frozen(s:AS)(i bY:Nat)(ob:aI):AS:=
 ⟨vK i bY (.sl .view ob.n (lW (λ_=>some .view) false ob.fM)) s.t,uZ i bY (.sl .view ob.n (lW (λ_=>some .view) false ob.fM)) 0 s.o⟩
mutual
theorem aTs{w:World}{E E':Env}{i bY:Nat}{y:AV}(k:fG w E w E')(hy:∀v,E.H i bY v->R w E' y v []):∀(x:AV) (v:Value) (fp:List Nat),R w E x v fp->R w E' (tH i bY y x) v fp
 | .obj j u,v,fp,h=>by
  simp only[tH];split
  .rename_i e;obtain⟨rfl,rfl⟩:=e;simp only[R]at h;obtain⟨rfl,h⟩:=h;exact hy v h
  .exact oV k _ _ _ (λ_ _=>rfl) h
 | .agg c,v,fp,h=>by simp only[R,tH]at h⊢;obtain⟨cs,h1,h2,h3⟩:=h;exact⟨cs,h1,h2,SK k hy c cs fp h3⟩
 | .iL c,v,fp,h=>by simp only[R,tH]at h⊢;obtain⟨cs,h1,h3⟩:=h;exact⟨cs,h1,SK k hy c cs fp h3⟩
 | .int _ _,v,fp,h=>by simp only[tH];exact oV k _ _ _ (λ_ _=>rfl) h
 | .bool _,v,fp,h=>by simp only[tH];exact oV k _ _ _ (λ_ _=>rfl) h
 | .str _,v,fp,h=>by simp only[tH];exact oV k _ _ _ (λ_ _=>rfl) h
 | .sl _ _ _,v,fp,h=>by simp only[tH];exact oV k _ _ _ (λ_ _=>rfl) h
 | .iW _ _ _,v,fp,h=>by simp only[tH];exact oV k _ _ _ (λ_ _=>rfl) h
 | .ptr _ _ _ _,v,fp,h=>by simp only[tH];exact oV k _ _ _ (λ_ _=>rfl) h
 | .fn _ _,v,fp,h=>by simp only[tH];exact oV k _ _ _ (λ_ _=>rfl) h
 | .aB,v,fp,h=>by simp only[tH];exact oV k _ _ _ (λ_ _=>rfl) h
theorem SK{w:World}{E E':Env}{i bY:Nat}{y:AV}(k:fG w E w E')(hy:∀v,E.H i bY v->R w E' y v []):∀(c:List AV) (cs:List Value) (fp:List Nat),Rc w E c cs fp->Rc w E' (vK i bY y c) cs fp
 |[],[],_,h=>by simpa [Rc,vK]using h
 |[],_::_,_,h=>by simp[Rc]at h
 |_::_,[],_,h=>by simp[Rc]at h
 |x::xs,c::cs,fp,h=>by simp only[Rc,vK]at h⊢;obtain⟨f1,f2,h1,h2,h3⟩:=h;exact⟨f1,f2,aTs k hy x c f1 h1,SK k hy xs cs f2 h2,h3⟩
end
def aFq{w:World}{E E':Env}{i bY:Nat}{y:AV}(k:fG w E w E')(hy:∀v,E.H i bY v->R w E' y v []):∀(l:List (List AV)) (b off n:Nat) (fp:List Nat),Rr w E l b off n fp->Rr w E' (vY i bY y l) b off n fp
 |[],_,_,_,_,h=>by simpa [Rr,vY]using h
 |e::es,b,off,n,fp,h=>by simp only[Rr,vY]at h⊢;obtain⟨cs,f1,f2,h1,h2,h3,h4,h5,h6⟩:=h;exact⟨cs,f1,f2,h1,h2,h3,SK k hy e cs f1 h4,aFq k hy es b (off+n) n f2 h5,h6⟩
def Yv{P:Program}[aG P]{B:gL P}{s:AS}{a:Act}{w:World}{i bY:Nat}{ob:aI}(wF:AV.gB s.o i bY=some ob)(xL:ob.box=false)(hr:Rel B s a w):Rel B (s.frozen i bY ob) a w:=by
 obtain⟨G,r⟩:=hr;obtain⟨h1,h2,h3⟩:=mV wF;generalize hyy:AV.sl .view ob.n (lW (λ_=>some .view) false ob.fM)=y;generalize ho':uZ i bY y 0 s.o=o';have back:∀{j ob' g},look o' G j ob' g->∃Aq,look s.o G j Aq g/\((j=i/\ob'=Aq.kill)\/(j≠i/\ob'=Aq.tH i bY y)):=by
  rintro j ob' g ⟨e1,e2⟩;rw[<-ho',SI,lR]at e1;cases hx:s.o[j]? with
  |none=>rw[hx]at e1;cases e1
  |some Aq=>
   rw[hx]at e1;simp only[oR,eI]at e1;refine⟨Aq,⟨hx,e2⟩,?_⟩;by_cases hj:j=i
   .rw [eM hj]at e1;exact .inl ⟨hj,e1.symm⟩
   .rw [eC hj]at e1;exact .inr ⟨hj,e1.symm⟩
 have WN:∀{j Aq g},look s.o G j Aq g->look o' G j (if j=i then Aq.kill else Aq.tH i bY y) g:=by rintro j Aq g ⟨e1,e2⟩;refine⟨?_,e2⟩;rw[<-ho',SI,lR,e1];rfl
 have fz:∀Aq:aI,(Aq.tH i bY y).fT=Aq.fT/\(Aq.tH i bY y).box=Aq.box/\(Aq.tH i bY y).n=Aq.n/\(Aq.tH i bY y).bY=Aq.bY/\(Aq.tH i bY y).fM.length=Aq.fM.length:=by intro Aq;unfold aI.tH;split<;>simp[Dz]
 have k:fG w (env B s.o G w) w (env B o' G w):=by
  refine Ay (eJ _) (λb hb=>⟨rQ r hb,rfl⟩) r.len ?_ ?_
  .intro j Aq g hl;have hf:=fz Aq;by_cases hj:j=i
   .refine ⟨_,g,WN hl,?_⟩;rw[eM hj];refine⟨eJ _,λhb=> .inl hb,λKv=> ?_⟩;simp[aI.kill]at Kv
   .refine ⟨_,g,WN hl,?_⟩;rw[eC hj];exact⟨by rw[hf.2.2.2.1];exact eJ _,λhb=> .inl (by rw[<-hf.2.1];exact hb),λKv=>⟨by rw[<-hf.1];exact Kv,hf.2.2.1,λ_=>⟨rfl,rfl,hf.2.2.2.2⟩,λb hb jE=>⟨hb,jE,rfl⟩⟩⟩
  .intro j ob' g b hl Kv hF;obtain⟨Aq,hl0,h⟩:=back hl;rcases h with⟨_,rfl⟩|⟨_,rfl⟩
   .simp [aI.kill]at Kv
   .exact .inr ⟨j,Aq,g,hl0,by rw[<-(fz Aq).1];exact Kv,hF⟩
 have hy:∀v,(env B s.o G w).H i bY v->R w (env B o' G w) y v []:=by
  intro v hv;obtain⟨zf,g,hl,_,hh,_⟩:=hv;obtain rfl:=cX (hl.1.symm.trans h1);have hv:=hh h2 h3;obtain⟨fp,⟨dF,eQ⟩,hnd,hF⟩:=r.ok i _ g hl h2;rw[xL]at eQ;rw[<-hyy];simp only[R,oD];refine .inr ⟨g.a,g.cap,hv,⟨dF,by rcases eQ with h|⟨_,_,_,_,_,_,_,_,_,_,h,_⟩;simp[h.1];exact h⟩,.inr (.inr ⟨by simp,trivial,?_⟩)⟩;rcases eQ with⟨h5,_⟩|⟨b,off,C,e,Vz,sH,ha,hbk,hz,k1,k2,k3,rfl,QF⟩
  .left;rw[h5];rfl
  .right;have hA:∀x,g.F x->(env B o' G w).A x:=by
    intro x hx;have hfr:=r.eB _ _ _ x hl h2 hx;refine⟨hfr.1.elim (λh=> .inl (B.gA x h)) (λh=> .inr ⟨h,hfr.2⟩),λj ob' g' Dw Kv hF'=> ?_⟩;obtain⟨Aq,hl0,h⟩:=back Dw;rcases h with⟨_,rfl⟩|⟨hj,rfl⟩
    .simp [aI.kill]at Kv
    .exact hj (r.fV j i _ _ _ _ x hl0 hl (by rw[<-(fz Aq).1];exact Kv) h2 hF' hx)
   have rt:pG (λ_=>some .view) false (env B s.o G w).plain (env B o' G w).plain g.F:=
    {own:=λt e=>by obtain rfl:=cX e;exact⟨by simp,λb hb=>hA b hb⟩
     view:=λt e=>by obtain rfl:=cX e;exact⟨rfl,λb hb=>(k.a b hb).1⟩
     mQ:=λj t e=>by obtain rfl:=cX e;exact⟨by simp,.inl trivial,λb hb=>hb.elim⟩
     hh:=λh=>by cases h
     hl:=λh=>by cases h}
   exact⟨b,off,ha,hA b (hF b (by simp)),JD rt _ _ _ _ sH (λx hx=>hF x (by simp[hx])) QF⟩
 refine⟨G,{len:= ?_,defs:=r.defs,ok:= ?_,fV:= ?_,eB:= ?_,tmps:= ?_,size:=r.size,frame:=r.frame,base:=r.base,same:=r.same}⟩
 .simp only[AS.frozen,PG];exact r.len
 .simp only[AS.frozen,hyy,ho'];intro j ob' g hl Kv;obtain⟨Aq,hl0,h⟩:=back hl;rcases h with⟨_,rfl⟩|⟨hj,rfl⟩
  .simp [aI.kill]at Kv
  obtain⟨fp,eQ,hnd,hF⟩:=r.ok j _ g hl0 (by rw[<-(fz Aq).1];exact Kv);refine⟨fp,?_,hnd,hF⟩;cases hb0:Aq.box with
  |false=>
   have e:Aq.tH i bY y=Aq:=by unfold aI.tH;rw[eC (by simp[hb0])]
   rw[e];rw[hb0]at eQ⊢;exact eQ.keeps k.plain (λ_ _=>rfl)
  |true=>
   have e:Aq.tH i bY y={Aq with fM:=vY i bY y Aq.fM}:=by unfold aI.tH;rw[eM hb0]
   rw[e];simp only[hb0]at eQ⊢;simp only[Env.of,eS]at eQ⊢;obtain⟨dF,eQ⟩:=eQ;refine⟨by rw[Dz];exact dF,?_⟩;rcases eQ with h|⟨b,off,C,e,Vz,sH,ha,hbk,hz,k1,k2,k3,rfl,QF⟩
   .exact .inl ⟨by rw[h.1];rfl,h.2⟩
   .exact .inr ⟨b,off,C,e,Vz,sH,ha,hbk,hz,k1,by rw[Dz];exact k2,k3,rfl,aFq k hy _ _ _ _ _ QF⟩
 .simp only[AS.frozen,hyy,ho'];intro p q op oq gp gq b hp hq hlp hlq hFp hFq;obtain⟨op0,ze,h⟩:=back hp;obtain⟨oq0,hq0,h'⟩:=back hq;rcases h with⟨_,rfl⟩|⟨_,rfl⟩
  .simp [aI.kill]at hlp
  rcases h' with⟨_,rfl⟩|⟨_,rfl⟩
  .simp [aI.kill]at hlq
  exact r.fV p q _ _ _ _ b ze hq0 (by rw[<-(fz op0).1];exact hlp) (by rw[<-(fz oq0).1];exact hlq) hFp hFq
 .simp only[AS.frozen,hyy,ho'];intro j ob' g b hl Kv hF;obtain⟨Aq,hl0,h⟩:=back hl;rcases h with⟨_,rfl⟩|⟨_,rfl⟩
  .simp [aI.kill]at Kv
  exact r.eB j _ g b hl0 (by rw[<-(fz Aq).1];exact Kv) hF
 .simp only[AS.frozen,hyy,ho'];exact SK k hy _ _ _ r.tmps
def aPt(P:Program)[aG P](o:Oper)(s:AS)(K:AS->Prop):Prop:=
 match o.op with
 | .slice _ x _ _ none=>match s.ev x with
  | .obj i bY=>match AV.gB s.o i bY with
   |some ob=>ob.box=false/\uA P o (s.frozen i bY ob) K
   |none=>False
  |_=>False
 |_=>False
attribute [simp] tH vK vY uZ aI.tH AS.frozen
mutual
def wT:AV->Bool
 | .int _ _=>true
 | .bool _=>true
 | .str _=>true
 | .agg c=>Kw c
 |_=>false
def Kw:List AV->Bool
 |[]=>true
 |x::xs=>wT x&&Kw xs
end
mutual
theorem aB9{w w':World}{E E':Env}:∀(x:AV) (v:Value) (fp:List Nat),wT x=true->R w E x v fp->R w' E' x v fp
 | .int _ _,_,_,_,h=>by simpa [R]using h
 | .bool _,_,_,_,h=>by simpa [R]using h
 | .str _,_,_,_,h=>by simpa [R]using h
 | .agg c,v,fp,hc,h=>by simp only[R]at h⊢;obtain⟨cs,h1,h2,h3⟩:=h;exact⟨cs,h1,h2,Ky c cs fp (by simpa [wT]using hc) h3⟩
 | .sl _ _ _,_,_,hc,_=>by simp[wT]at hc
 | .iW _ _ _,_,_,hc,_=>by simp[wT]at hc
 | .obj _ _,_,_,hc,_=>by simp[wT]at hc
 | .ptr _ _ _ _,_,_,hc,_=>by simp[wT]at hc
 | .iL _,_,_,hc,_=>by simp[wT]at hc
 | .fn _ _,_,_,hc,_=>by simp[wT]at hc
 | .aB,_,_,hc,_=>by simp[wT]at hc
theorem Ky{w w':World}{E E':Env}:∀(c:List AV) (cs:List Value) (fp:List Nat),Kw c=true->Rc w E c cs fp->Rc w' E' c cs fp
 |[],[],_,_,h=>by simpa [Rc]using h
 |[],_::_,_,_,h=>by simp[Rc]at h
 |_::_,[],_,_,h=>by simp[Rc]at h
 |x::xs,c::cs,fp,hc,h=>by simp only[Kw,eK]at hc;simp only[Rc]at h⊢;obtain⟨f1,f2,h1,h2,h3⟩:=h;exact⟨f1,f2,aB9 x c f1 hc.1 h1,Ky xs cs f2 hc.2 h2,h3⟩
end
def zM(S:Nat->Prop):Env:=⟨S,λ_=>True,λ_ _=>False,λ_ _ _=>False,λ_ _ _ _ _=>False⟩
def bH(code:List UInt8)(i h:Int):List AV:=[.sl .view 1 (bL code),.int .i64 i,.int .i64 h]
def Rz{w:World}{E E':Env}{n:Nat}{l:List (List AV)}{v:Value}{fp:List Nat}(k:fG w E.plain w E'.plain)(h:R w E (.sl .view n l) v fp):R w E' (.sl .view n l) v fp:=by
 simp only[R]at h⊢;rcases h with h|⟨a,cap,hv,hl,h⟩
 .exact h.1.elim
 .refine .inr ⟨a,cap,hv,hl,?_⟩;rcases h with h|h|⟨hg,Jq,h⟩
  .exact absurd h.1 (by simp)
  .exact absurd h.1 (by simp)
  .refine .inr (.inr ⟨hg,Jq,?_⟩);rcases h with h|⟨b,off,ha,ht,hr⟩
   .exact .inl h
   .refine .inr ⟨b,off,ha,(k.a b ht).1,?_⟩;exact qD k _ _ _ _ _ rfl (by simp) hr
def BZ{w:World}{E E':Env}{code:List UInt8}{i h:Int}{a:Option Addr}{cap:Nat}{fp:List Nat}(k:fG w E.plain w E'.plain)(ho:uH w E 3 [bH code i h] a cap fp):uH w E' 3 [bH code i h] a cap fp:=by
 refine⟨ho.1,?_⟩;rcases ho.2 with h0|⟨b,off,C,e,fz,sH,ha,hb,hz,h1,h2,h3,hf,hr⟩
 .exact absurd h0.1 (by simp)
 .refine .inr ⟨b,off,C,e,fz,sH,ha,hb,hz,h1,h2,h3,hf,?_⟩;simp only[Rr,bH,Rc]at hr⊢;obtain⟨cs,f1,f2,hn,hc,hone,wK,hf2,hfe⟩:=hr;refine⟨cs,f1,f2,hn,hc,hone,?_,hf2,hfe⟩;cases cs with
  |nil=>simp at hn
  |cons v0 cs=>
   cases cs with
   |nil=>simp at hn
   |cons v1 cs=>
    cases cs with
    |nil=>simp at hn
    |cons v2 cs=>
     simp only[Rc]at wK⊢;obtain⟨g1,g2,r1,r2,e1⟩:=wK;refine⟨g1,g2,Rz k r1,?_,e1⟩;cases cs with
     |nil=>simpa [R,Rc]using r2
     |cons _ _=>simp at hn
def FC{w:World}{E:Env}{code:List UInt8}{i h:Int}{a:Option Addr}{cap:Nat}{fp:List Nat}(ho:uH w E 3 [bH code i h] a cap fp):∃b off,a=some ⟨b,off,none⟩/\fp=[b]:=by
 rcases ho.2 with h0|⟨b,off,C,e,fz,sH,ha,hb,hz,h1,h2,h3,hf,hr⟩
 .exact absurd h0.1 (by simp)
 .refine ⟨b,off,ha,?_⟩;simp only[Rr,bH]at hr;obtain⟨cs,f1,f2,hn,hc,hone,wK,hf2,hfe⟩:=hr;cases cs with
  |nil=>simp at hn
  |cons v0 cs=>
   cases cs with
   |nil=>simp at hn
   |cons v1 cs=>
    cases cs with
    |nil=>simp at hn
    |cons v2 cs=>
     simp only[Rc,R]at wK;obtain⟨g1,g2,r1,⟨g3,g4,⟨_,r3⟩,⟨g5,g6,⟨_,r5⟩,r6,e3⟩,e2⟩,e1⟩:=wK;have hg1:g1=[]:=by
      rcases r1 with h|⟨_,_,_,_,h|h|h⟩
      .exact h.1.elim
      .exact absurd h.1 (by simp)
      .exact absurd h.1 (by simp)
      .exact h.2.1
     have hg6:g6=[]:=by cases cs with
      |nil=>simpa [Rc]using r6
      |cons _ _=>simp at hn
     subst hg1 r3 r5 hg6 e3 e2 e1 hf2 hfe;simp[hf]
mutual
def jB:AV->Bool
 | .int _ _=>true
 | .bool _=>true
 | .str _=>true
 | .sl .view _ _=>true
 | .sl .own _ []=>true
 | .agg c=>wH c
 |_=>false
def wH:List AV->Bool
 |[]=>true
 |x::xs=>jB x&&wH xs
end
mutual
theorem aTv{w:World}{E E':Env}(k:fG w E.plain w E'.plain):∀(x:AV) (v:Value) (fp:List Nat),jB x=true->R w E x v fp->R w E' x v fp
 | .int _ _,_,_,_,h=>by simpa [R]using h
 | .bool _,_,_,_,h=>by simpa [R]using h
 | .str _,_,_,_,h=>by simpa [R]using h
 | .sl .view _ _,_,_,_,h=>Rz k h
 | .sl .own _ [],_,_,_,h=>by simpa [R,Rr,Env.dead]using h
 | .sl .own _ (_::_),_,_,hc,_=>by simp[jB]at hc
 | .sl (.mQ _) _ _,_,_,hc,_=>by simp[jB]at hc
 | .agg c,v,fp,hc,h=>by simp only[R]at h⊢;obtain⟨cs,h1,h2,h3⟩:=h;exact⟨cs,h1,h2,aN8 k c cs fp (by simpa [jB]using hc) h3⟩
 | .iW _ _ _,_,_,hc,_=>by simp[jB]at hc
 | .obj _ _,_,_,hc,_=>by simp[jB]at hc
 | .ptr _ _ _ _,_,_,hc,_=>by simp[jB]at hc
 | .iL _,_,_,hc,_=>by simp[jB]at hc
 | .fn _ _,_,_,hc,_=>by simp[jB]at hc
 | .aB,_,_,hc,_=>by simp[jB]at hc
theorem aN8{w:World}{E E':Env}(k:fG w E.plain w E'.plain):∀(c:List AV) (cs:List Value) (fp:List Nat),wH c=true->Rc w E c cs fp->Rc w E' c cs fp
 |[],[],_,_,h=>by simpa [Rc]using h
 |[],_::_,_,_,h=>by simp[Rc]at h
 |_::_,[],_,_,h=>by simp[Rc]at h
 |x::xs,c::cs,fp,hc,h=>by simp only[wH,eK]at hc;simp only[Rc]at h⊢;obtain⟨f1,f2,h1,h2,h3⟩:=h;exact⟨f1,f2,aTv k x c f1 hc.1 h1,aN8 k xs cs f2 hc.2 h2,h3⟩
end
def WO{w:World}{E E':Env}(k:fG w E.plain w E'.plain):∀{xs:List AV} {vs:List Value} {fp:List Nat},xs.all jB=true->Rc w E xs vs fp->Rc w E' xs vs fp
 |[],[],_,_,h=>by simpa [Rc]using h
 |[],_::_,_,_,h=>by simp[Rc]at h
 |_::_,[],_,_,h=>by simp[Rc]at h
 |x::xs,v::vs,fp,hx,h=>by simp only[Cl,eK]at hx;simp only[Rc]at h⊢;obtain⟨f1,f2,h1,h2,e⟩:=h;exact⟨f1,f2,aTv k _ _ _ hx.1 h1,WO k hx.2 h2,e⟩
def Ma(w:World)(S:Nat->Prop)(b fo cap:Nat)(code:List UInt8):Prop:=
 ∃i h:Int,0<=i/\uH w (zM S) 3 [bH code i h] (some ⟨b,fo,none⟩) cap [b]
def Hf(P:Program)[aG P](f:FuncId)(xs:List AV)(Q:AV->Prop):Prop:=
 ∀(w:World) (S:Nat->Prop) (b fo cap:Nat) (code:List UInt8) (vs:List Value),aG.holds P w->aG.low P<=b->b<w.heap.size->¬S b->(∀x,S x->x<w.heap.size)->Ma w S b fo cap code->Rc w (zM S) xs vs []->
  Calls P f (.pointer (some ⟨b,fo,none⟩)::vs).toArray w λe w'=>∃r v fp,e= .returned v/\Q r/\R w' (zM λx=>(S x\/(w.heap.size<=x/\x<w'.heap.size))/\x∉fp) r v fp/\fp.Nodup/\(∀x∈fp,w.heap.size<=x/\x<w'.heap.size)/\w.heap.size<=w'.heap.size/\
   (∀x,x<w.heap.size->x≠b->w'.heap[x]? =w.heap[x]?)/\nZ w w'/\Ma w' (λx=>(S x\/(w.heap.size<=x/\x<w'.heap.size))/\x∉fp) b fo cap code
def AS.drew(s:AS)(dst:Option Tmp)(k bY:Nat)(code:List UInt8)(i h:Int)(r:AV):AS:=AS.bW ⟨s.t,s.o.set k ⟨true,true,3,bY,[bH code i h]⟩⟩ dst r
def WQ{o:List aI}{G:List CO}{k i:Nat}{ob' PE:aI}{g2:CO}(h:look (o.set k ob') G i PE g2):(i=k/\PE=ob'/\k<o.length/\G[k]? =some g2)\/(i≠k/\look o G i PE g2):=by
 obtain⟨h1,h2⟩:=h;by_cases hik:i=k
 .subst hik;have hl:i<o.length:=by have:=(cU.1 h1).1;simpa using this
  rw[mN hl]at h1;exact .inl ⟨rfl,(cX h1).symm,hl,h2⟩
 .rw [lB (λh=>hik h.symm)]at h1
  exact .inr ⟨hik,h1,h2⟩
def aFr(f x:Operand)(ys:List Operand)(NL:Array TypeId){g:FuncId}{k bY:Nat}{code:List UInt8}{i h:Int}{Q:AV->Prop}(hf:s.ev f= .fn g [])(hc:bV P g=true)
  (hx:s.ev x= .ptr k bY 0 0) (ho:AV.gB s.o k bY=some ⟨true,true,3,bY,[bH code i h]⟩) (h0:0<=i) (hfl:(ys.map s.ev).all jB=true) (rP:Hf P g (ys.map s.ev) Q)
  (a:Act) (w:World) (next:Act->World->Prop) (X:Exit->Act->World->Prop) (hr:Rel B s a w)
  (hn:∀r i' h' a' w',Q r->0<=i'->Rel B (s.drew dst k bY code i' h' r) a' w'->next a' w'):
  Oper.wp P ⟨dst,.call {callee:= .value f,args:=⟨x::ys⟩,argTypes:=NL},ty,pos,after,gd⟩ a w next X:=by
 obtain⟨G,r⟩:=hr;have h1:=r.ev f;rw[hf]at h1;simp only[R]at h1;obtain⟨_,cs,hv,uJ⟩:=h1;have hcs:cs=[]:=by cases cs with
  |nil=>rfl
  |cons _ _=>simp[Rc]at uJ
 subst hcs;obtain⟨go,b,fo,hl,aY,hga,hpv⟩:=r.ptr hx ho;obtain⟨Vx,eQ,aPm,hF0⟩:=r.ok k _ go hl rfl;have hb1:AV.gB s.o k bY=some ⟨true,true,3,bY,[bH code i h]⟩:=ho;simp only[Env.of,eS]at eQ;obtain⟨b2,aXx,ha2,rfl⟩:=FC eQ;rw[hga]at ha2;simp only[eI,oS,pS]at ha2;obtain⟨rfl,rfl⟩:=ha2;have Gj:go.F b:=hF0 b (by simp);have Kz:=r.eB k _ go b hl rfl Gj;have hSb:¬(env B s.o G w).A b:=λhA=>hA.2 k _ go hl rfl Gj
 have hS:∀x,(env B s.o G w).A x->x<w.heap.size:=λx hx=>rQ r hx
 have aFs:Ma w (env B s.o G w).A b fo go.cap code:=by refine⟨i,h,h0,?_⟩;rw[hga]at eQ;exact BZ (E:=env B s.o G w) ⟨λ_ h=>⟨h,rfl⟩,λ_ _=>trivial,λ_ _ _ h=>h.elim,λ_ _ _ h=>h.elim,λ_ _ _ _ _ h=>h.elim⟩ eQ
 have hargs:Rc w (env B s.o G w) (ys.map s.ev) (ys.map a.eval) []:=uK r ys;have EJ:=rP w _ b fo go.cap code _ r.holds (r.Pp Kz.1) Kz.2 hSb hS aFs (WO (E:=env B s.o G w) (E':=zM (env B s.o G w).A) ⟨λ_ h=>⟨h,rfl⟩,λ_ _=>trivial,λ_ _ _ h=>h.elim,λ_ _ _ h=>h.elim,λ_ _ _ _ _ h=>h.elim⟩ hfl hargs);unfold Oper.wp;have hrun:(execOp a.eval ⟨dst,.call {callee:= .value f,args:=⟨x::ys⟩,argTypes:=NL},ty,pos,after,gd⟩).run P w= .ok (.enter g (.pointer (some ⟨b,fo,none⟩)::ys.map a.eval).toArray) w:=by
  have e:(⟨x::ys⟩:Array Operand).map a.eval=(.pointer (some ⟨b,fo,none⟩)::ys.map a.eval).toArray:=by apply CH;simp[hpv]
  simp[execOp,resolve,hv,Deferred.ofValue,invoke,vI hc,e]
 rw[hrun,BY];refine EJ.mono λe w' hp=> ?_
 obtain⟨rv,v,fp,rfl,hQ,QF,hnd,hfr,hsz,mI,BG,i',h',hi',aFt⟩:=hp;refine hn rv i' h' _ _ hQ hi' ?_;obtain⟨Gs,dF,zL,hap,rA⟩:=CE (q:=1) rv v fp s.o.length QF hnd;generalize uF:(⟨true,true,3,bY,[bH code i' h']⟩:aI)=ob';have RA:(s.o.set k ob').length=s.o.length:=by simp
 have hlG:G.length=(s.o.set k ob').length:=by rw[RA,r.len]
 generalize Cz:(iA 1 s.o.length rv).2=eO at*;have Js:∀{j ob g2 x},look eO Gs j ob g2->g2.F x->x∈fp:=by intro j ob g2 x hl2 hF;obtain⟨_,_,_,f',_,_,h3,h4⟩:=zL _ _ _ hl2;exact h4 _ ((h3 _).1 hF)
 have lk:∀{j ob g2},look (s.o.set k ob'++eO) (G++Gs) j ob g2->(∃j',look eO Gs j' ob g2/\j=s.o.length+j')\/(j=k/\ob=ob'/\g2=go)\/(j≠k/\look s.o G j ob g2):=by
  intro j ob g2 h2;rcases pE hlG h2 with⟨_,h2⟩|⟨hj,h2⟩
  .rcases WQ h2 with⟨rfl,rfl,_,hg⟩|⟨jE,h2⟩
   .exact .inr (.inl ⟨rfl,rfl,cX (hg.symm.trans hl.2)⟩)
   .exact .inr (.inr ⟨jE,h2⟩)
  .exact .inl ⟨_,h2,by rw[RA]at hj⊢;omega⟩
 have back:∀{j ob g2},look s.o G j ob g2->j≠k->look (s.o.set k ob'++eO) (G++Gs) j ob g2:=by intro j ob g2 h2 jE;refine nC ⟨?_,h2.2⟩;rw[lB (λh=>jE h.symm)];exact h2.1
 have hkl:k<s.o.length:=(cU.1 hl.1).1;have aFu:look (s.o.set k ob'++eO) (G++Gs) k ob' go:=nC ⟨mN hkl,hl.2⟩;have KA:∀j ob g2 x,look s.o G j ob g2->ob.fT=true->g2.F x->x≠b->w'.heap[x]? =w.heap[x]?:=λj ob g2 x h2 jA hF jE=>mI x (r.eB j ob g2 x h2 jA hF).2 jE
 have hE:fG w (env B s.o G w) w' (env B (s.o.set k ob'++eO) (G++Gs) w'):=by
  refine Ay hsz (λx hA=>⟨rQ r hA,mI x (rQ r hA) (λe=>hSb (e▸hA))⟩) r.len ?_ ?_
  .intro j ob g2 h2;by_cases hjk:j=k
   .rw [hjk]at h2⊢;obtain⟨rfl,rfl⟩:=lT h2 hl;refine⟨ob',g2,aFu,by rw[<-uF];exact eJ _,λ_=> .inl rfl,λ_=>⟨rfl,by rw[<-uF],λ_=>⟨rfl,rfl,by rw[<-uF];rfl⟩,λx hF jE=>⟨hF,jE,?_⟩⟩⟩;exact KA _ _ _ x h2 rfl hF (λe=>jE _ hga (by rw[e]))
   .refine ⟨ob,g2,back h2 hjk,eJ _,λh=> .inl h,λjA=>⟨jA,rfl,λ_=>⟨rfl,rfl,rfl⟩,λx hF jE=>⟨hF,jE,?_⟩⟩⟩
    exact KA _ _ _ x h2 jA hF (λe=>hjk (r.fV _ _ _ _ _ _ b h2 hl jA rfl (e▸hF) Gj))
  .intro j ob g2 x h2 jA hF;rcases lk h2 with⟨j',h3,_⟩|⟨e1,e2,e3⟩|⟨_,h3⟩
   .exact .inl (hfr _ (Js h3 hF)).1
   .exact .inr ⟨_,_,_,hl,rfl,e3▸hF⟩
   .exact .inr ⟨j,ob,g2,h3,jA,hF⟩
 have hA':∀x,((env B s.o G w).A x\/(w.heap.size<=x/\x<w'.heap.size))/\x∉fp->(env B (s.o.set k ob'++eO) (G++Gs) w').A x:=by
  rintro x ⟨hx,hxf⟩;refine⟨?_,λj ob g2 h2 jA hF=> ?_⟩
  .rcases hx with hx|hx
   .rcases hx.1 with h|h
    .exact .inl h
    .exact .inr ⟨h.1,lP h.2 hsz⟩
   .exact .inr ⟨iS r.size hx.1,hx.2⟩
  .rcases lk h2 with⟨j',h3,_⟩|⟨e1,e2,e3⟩|⟨_,h3⟩
   .exact hxf (Js h3 hF)
   .rw [e3]at hF;rcases hx with hx|hx
    .exact hx.2 _ _ _ hl rfl hF
    .have:=(r.eB _ _ _ x hl rfl hF).2;omega
   .rcases hx with hx|hx
    .exact hx.2 _ _ _ h3 jA hF
    .have:=(r.eB _ _ _ x h3 jA hF).2;omega
 have kn:fG w' (zM λx=>((env B s.o G w).A x\/(w.heap.size<=x/\x<w'.heap.size))/\x∉fp) w' (env B (s.o.set k ob'++eO) (G++Gs) w'):=
  ⟨λx hx=>⟨hA' x hx,rfl⟩,λ_ _=>trivial,λ_ _ _ h=>h.elim,λ_ _ _ h=>h.elim,λ_ _ _ _ _ h=>h.elim⟩
 have kp:fG w' (zM λx=>((env B s.o G w).A x\/(w.heap.size<=x/\x<w'.heap.size))/\x∉fp).plain w' (env B (s.o.set k ob'++eO) (G++Gs) w').plain:=
  ⟨λx hx=>⟨hA' x hx,rfl⟩,λ_ _=>trivial,λ_ _ _ h=>h.elim,λ_ _ _ h=>h.elim,λ_ _ _ _ _ h=>h.elim⟩
 have aLb:∀{j ob g2 x},look s.o G j ob g2->ob.fT=true->g2.F x->j≠k->x≠b:=λh2 jA hF jE e=>jE (r.fV _ _ _ _ _ _ b h2 hl jA rfl (e▸hF) Gj)
 have hnext:fZ B ⟨s.t,s.o.set k ob'++eO⟩ (G++Gs) a w':=by
  refine r.next hE (by simp[r.len,dF]) ?_ ?_ ?_ hsz ?_ BG
  .intro j ob g2 h2 jA;rcases lk h2 with⟨j',h3,_⟩|⟨e1,e2,e3⟩|⟨jE,h3⟩
   .obtain ⟨q1,q2,_,f',Gn,q3,q4,q5⟩:=zL _ _ _ h3;refine⟨f',?_,q3,λx hx=>(q4 x).2 hx⟩;have:=Gn.keeps kn.plain (λ_ _=>rfl);rw[q2];exact this
   .rw [e2,e3];refine⟨[b],?_,by simp,by simpa using Gj⟩;have h5:ob'.box=true/\ob'.n=3/\ob'.fM=[bH code i' h']:=by rw[<-uF];exact⟨rfl,rfl,rfl⟩
    rw[h5.1,h5.2.1,h5.2.2,hga];simp only[Env.of,eS];exact BZ kp aFt
   .exact (r.ok j ob g2 h3 jA).keeps hE λx hx=>KA j ob g2 x h3 jA hx (aLb h3 jA hx jE)
  .intro j1 j2 o1 o2 g1 g2 x a1 a2 l1 l2 f1 f2;rcases lk a1 with⟨j',c1,d1⟩|⟨d1,d2,d3⟩|⟨d1,c1⟩<;>rcases lk a2 with⟨j'',c2,d4⟩|⟨d4,d5,d6⟩|⟨d4,c2⟩
   .have:=hap _ _ _ _ _ _ x c1 c2 f1 f2;omega
   .have q1:=(hfr _ (Js c1 f1)).1;have q2:=(r.eB _ _ _ x hl rfl (d6▸f2)).2;omega
   .have q1:=(hfr _ (Js c1 f1)).1;have q2:=(r.eB _ _ _ x c2 l2 f2).2;omega
   .have q1:=(hfr _ (Js c2 f2)).1;have q2:=(r.eB _ _ _ x hl rfl (d3▸f1)).2;omega
   .omega
   .exact absurd (r.fV _ _ _ _ _ _ x c2 hl l2 rfl f2 (d3▸f1)) d4
   .have q1:=(hfr _ (Js c2 f2)).1;have q2:=(r.eB _ _ _ x c1 l1 f1).2;omega
   .exact absurd (r.fV _ _ _ _ _ _ x c1 hl l1 rfl f1 (d6▸f2)) d1
   .exact r.fV _ _ _ _ _ _ x c1 c2 l1 l2 f1 f2
  .intro j ob g2 x h2 jA hF;rcases lk h2 with⟨j',h3,_⟩|⟨e1,e2,e3⟩|⟨jE,h3⟩
   .have:=hfr _ (Js h3 hF);exact⟨.inr (iS r.size this.1),this.2⟩
   .have:=r.eB _ _ _ x hl rfl (e3▸hF);exact⟨this.1,lP this.2 hsz⟩
   .have:=r.eB _ _ _ x h3 jA hF;exact⟨this.1,lP this.2 hsz⟩
  .intro x hx hO;refine mI x (lP hx r.size) λe=> ?_
   rcases Kz.1 with h|h
   .exact hO (e▸h)
   .omega
 refine⟨G++Gs,?_⟩;have hd:s.drew dst k bY code i' h' rv=AS.put ⟨s.t,s.o.set k ob'++eO⟩ dst (iA 1 s.o.length rv).1:=by simp only[AS.drew,AS.bW,DE,uF,Cz]
 rw[hd];refine hnext.put dst ?_;refine rA _ kn λj ob g2 h2=> ?_
 obtain⟨_,_,q3,_⟩:=zL _ _ _ h2;have h3:=oF (o:=s.o.set k ob') (G:=G) hlG h2;rw[RA]at h3;exact⟨ob,g2,h3,AI q3.symm,λ_ _=>rfl,λh=>absurd h (by decide)⟩
def OkE(P:Program)[aG P](f:FuncId)(args:List AV)(Q:AV->Prop):Prop:=
 ∀(w:World) (S:Nat->Prop) (vs:List Value),aG.holds P w->(∀x,S x->x<w.heap.size)->Rc w (zM S) args vs []->
  Calls P f vs.toArray w λe w'=>∃r v fp,e= .returned v/\Q r/\R w' (zM λx=>(S x\/(w.heap.size<=x/\x<w'.heap.size))/\x∉fp) r v fp/\fp.Nodup/\
   (∀b∈fp,w.heap.size<=b/\b<w'.heap.size)/\w.heap.size<=w'.heap.size/\(∀b,b<w.heap.size->w'.heap[b]? =w.heap[b]?)/\nZ w w'
def aCa(P:Program)[aG P](f:FuncId):Prop:=
 ∀(w:World) (S:Nat->Prop) (v:Value) (code:List UInt8),aG.holds P w->(∀x,S x->x<w.heap.size)->R w (zM S) (.sl .view 1 (bL code)) v []->
  Calls P f #[v] w λe w'=>∃b fo cap,e= .returned (.pointer (some ⟨b,fo,none⟩))/\w.heap.size<=b/\b<w'.heap.size/\Ma w' (λx=>(S x\/(w.heap.size<=x/\x<w'.heap.size))/\x≠b) b fo cap code/\
   w.heap.size<=w'.heap.size/\(∀b,b<w.heap.size->w'.heap[b]? =w.heap[b]?)/\nZ w w'
def AS.SN(s:AS)(dst:Option Tmp)(code:List UInt8)(i h:Int):AS:=AS.put ⟨s.t,s.o++[⟨true,true,3,0,[bH code i h]⟩]⟩ dst (.ptr s.o.length 0 0 0)
def D7(f:Operand)(ys:List Operand)(NL:Array TypeId){g:FuncId}{Q:AV->Prop}(hf:s.ev f= .fn g [])(hc:bV P g=true)
  (hfl:(ys.map s.ev).all jB=true) (rP:OkE P g (ys.map s.ev) Q) (a:Act) (w:World) (next:Act->World->Prop) (X:Exit->Act->World->Prop) (hr:Rel B s a w)
  (hn:∀r a' w',Q r->Rel B (s.bW dst r) a' w'->next a' w'):
  Oper.wp P ⟨dst,.call {callee:= .value f,args:=⟨ys⟩,argTypes:=NL},ty,pos,after,gd⟩ a w next X:=by
 obtain⟨G,r⟩:=hr;have h1:=r.ev f;rw[hf]at h1;simp only[R]at h1;obtain⟨_,cs,hv,uJ⟩:=h1;have hcs:cs=[]:=by cases cs with
  |nil=>rfl
  |cons _ _=>simp[Rc]at uJ
 subst hcs;have hargs:Rc w (env B s.o G w) (ys.map s.ev) (ys.map a.eval) []:=uK r ys;have EJ:=rP w (env B s.o G w).A _ r.holds (λx hx=>rQ r hx) (WO (E:=env B s.o G w) (E':=zM (env B s.o G w).A) ⟨λ_ h=>⟨h,rfl⟩,λ_ _=>trivial,λ_ _ _ h=>h.elim,λ_ _ _ h=>h.elim,λ_ _ _ _ _ h=>h.elim⟩ hfl hargs);unfold Oper.wp;have hrun:(execOp a.eval ⟨dst,.call {callee:= .value f,args:=⟨ys⟩,argTypes:=NL},ty,pos,after,gd⟩).run P w= .ok (.enter g (ys.map a.eval).toArray) w:=by
  have e:(⟨ys⟩:Array Operand).map a.eval=(ys.map a.eval).toArray:=by apply CH;simp
  simp[execOp,resolve,hv,Deferred.ofValue,invoke,vI hc,e]
 rw[hrun,BY];refine EJ.mono λe w' h=> ?_
 obtain⟨rr,v,fp,rfl,hQ,QF,hnd,hfr,hsz,mI,BG⟩:=h;refine hn rr _ _ hQ ?_;obtain⟨Gs,dF,zL,hap,rA⟩:=CE (q:=1) rr v fp s.o.length QF hnd;have kn:fG w' (zM λx=>((env B s.o G w).A x\/(w.heap.size<=x/\x<w'.heap.size))/\x∉fp) w' (env B (s.o++(iA 1 s.o.length rr).2) (G++Gs) w'):=by
  refine⟨λb hb=>⟨⟨?_,λi ob g hl aY hF=> ?_⟩,rfl⟩,λ_ _=>trivial,λ_ _ _ h=>h.elim,λ_ _ _ h=>h.elim,λ_ _ _ _ _ h=>h.elim⟩
  .rcases hb.1 with h|h
   .rcases h.1 with h|h
    .exact .inl h
    .exact .inr ⟨h.1,lP h.2 hsz⟩
   .exact .inr ⟨iS r.size h.1,h.2⟩
  .rcases pE r.len hl with⟨_,h⟩|⟨_,h⟩
   .rcases hb.1 with h1|h1
    .exact h1.2 _ _ _ h aY hF
    .have:=(r.eB _ _ _ b h aY hF).2;omega
   .obtain ⟨_,_,_,f,_,_,h3,h4⟩:=zL _ _ _ h;exact hb.2 (h4 _ ((h3 _).1 hF))
 have hadd:=r.add (iA 1 s.o.length rr).2 Gs w' dF hsz mI (λj ob g b hl _ hF=>by
   obtain⟨_,_,_,f,_,_,h3,h4⟩:=zL _ _ _ hl;exact hfr _ (h4 _ ((h3 _).1 hF))) (λi j oi oj gi gj b hi hj _ _ Gl NS=>hap _ _ _ _ _ _ b hi hj Gl NS) (λk j ob g hl _=>by
   obtain⟨h1,h2,_,f,eQ,h3,h4,h5⟩:=zL _ _ _ hl;refine⟨f,?_,h3,λb hb=>(h4 b).2 hb⟩;have:=eQ.keeps kn.plain (λ_ _=>rfl);rw[h2];exact this) BG
 refine⟨G++Gs,hadd.1.put dst ?_⟩;refine rA _ kn λj ob g hl=> ?_
 obtain⟨_,_,h3,_⟩:=zL _ _ _ hl;exact⟨ob,g,oF r.len hl,AI h3.symm,λ_ _=>rfl,λh=>absurd h (by decide)⟩
def ax(f x:Operand)(NL:Array TypeId){g:FuncId}{code:List UInt8}(hf:s.ev f= .fn g [])(hc:bV P g=true)(hx:s.ev x= .sl .view 1 (bL code))
  (rP:aCa P g) (a:Act) (w:World) (next:Act->World->Prop) (X:Exit->Act->World->Prop) (hr:Rel B s a w)
  (hn:∀i h a' w',0<=i->Rel B (s.SN dst code i h) a' w'->next a' w'):
  Oper.wp P ⟨dst,.call {callee:= .value f,args:=#[x],argTypes:=NL},ty,pos,after,gd⟩ a w next X:=by
 obtain⟨G,r⟩:=hr;have h1:=r.ev f;rw[hf]at h1;simp only[R]at h1;obtain⟨_,cs,hv,uJ⟩:=h1;have hcs:cs=[]:=by cases cs with
  |nil=>rfl
  |cons _ _=>simp[Rc]at uJ
 subst hcs;have hxv:=r.ev x;rw[hx]at hxv;have EJ:=rP w (env B s.o G w).A _ code r.holds (λx hx=>rQ r hx) (Rz (E:=env B s.o G w) (E':=zM (env B s.o G w).A) ⟨λb hb=>⟨hb,rfl⟩,λ_ _=>trivial,λ_ _ _ h=>h.elim,λ_ _ _ h=>h.elim,λ_ _ _ _ _ h=>h.elim⟩ hxv);unfold Oper.wp;have hrun:(execOp a.eval ⟨dst,.call {callee:= .value f,args:=#[x],argTypes:=NL},ty,pos,after,gd⟩).run P w= .ok (.enter g #[a.eval x]) w:=by simp[execOp,resolve,hv,Deferred.ofValue,invoke,vI hc]
 rw[hrun,BY];refine EJ.mono λe w' h=> ?_
 obtain⟨b,fo,cap,rfl,hb1,hb2,⟨i,h,hi,eQ⟩,hsz,mI,BG⟩:=h;refine hn i h _ _ hi ?_;have hadd:=r.add [⟨true,true,3,0,[bH code i h]⟩] [⟨some ⟨b,fo,none⟩,cap,(· =b)⟩] w' rfl hsz mI
  (by
   rintro j ob g2 x ⟨q1,q2⟩ _ hF;cases j with
   |zero=>simp at q2;subst q2;simp at hF;subst hF;exact⟨hb1,hb2⟩
   |succ j=>simp at q2)
  (by
   rintro i j _ _ _ _ _ ⟨q1,_⟩ ⟨q2,_⟩ _ _ _ _;cases i<;>cases j<;>simp_all)
  (by
   rintro k j ob g2 ⟨q1,q2⟩ _;cases j with
   |zero=>
    simp at q1 q2;subst q1;subst q2;refine⟨[b],?_,by simp,by simp⟩;simp only[Env.of,eS];refine BZ ⟨λx hx=>⟨⟨?_,λj ob g2 h2 jA hF=> ?_⟩,rfl⟩,λ_ _=>trivial,λ_ _ _ h=>h.elim,λ_ _ _ h=>h.elim,λ_ _ _ _ _ h=>h.elim⟩ eQ
    .rcases hx.1 with h|h
     .rcases h.1 with h|h
      .exact .inl h
      .exact .inr ⟨h.1,lP h.2 hsz⟩
     .exact .inr ⟨iS r.size h.1,h.2⟩
    .rcases pE r.len h2 with⟨_,h2⟩|⟨_,h2⟩
     .rcases hx.1 with h|h
      .exact h.2 _ _ _ h2 jA hF
      .have:=(r.eB _ _ _ x h2 jA hF).2;omega
     .obtain ⟨q1,q2⟩:=h2;generalize j-s.o.length=jj at*;cases jj with
      |zero=>simp at q2;subst q2;exact hx.2 hF
      |succ j=>simp at q2
   |succ j=>simp at q1) BG
 have hp:R w' (env B (s.o++[⟨true,true,3,0,[bH code i h]⟩]) (G++[⟨some ⟨b,fo,none⟩,cap,(· =b)⟩]) w') (.ptr s.o.length 0 0 0) (.pointer (some ⟨b,fo,none⟩)) []:=by simp only[R];exact⟨trivial,⟨true,true,3,0,[bH code i h]⟩,⟨some ⟨b,fo,none⟩,cap,(· =b)⟩,⟨by simp,by rw[<-r.len];simp⟩,eJ _,λ_ _=>⟨b,fo,rfl,by simp⟩,λ_ h=>by cases h⟩
 exact⟨_,hadd.1.put dst hp⟩
def Od:∀(u:List Nat) (o:List aI),(yC u o).length=o.length
 |[],_=>rfl
 |j::u,o=>by rw[yC,Od u];unfold JE;split<;>simp
def KC:∀(u:List Nat) (o:List aI) {i:Nat} {ob:aI},i∈u->(yC u o)[i]? =some ob->ob.fT=false
 |[],_,_,_,h,_=>by simp at h
 |j::u,o,i,ob,h,hk=>by
  rw[yC]at hk;by_cases hi:i∈u
  .exact KC u _ hi hk
  .obtain rfl:i=j:=by simpa [hi]using h
   rw[IW i u _ hi]at hk;unfold JE at hk;split at hk
   .rename_i Aq h0;rw[mN (cU.1 h0).1]at hk;obtain rfl:=cX hk;rfl
   .rename_i h0;rw[h0]at hk;cases hk
def SQ:∀(u:List Nat) (o:List aI) {i:Nat} {ob:aI},o[i]? =some ob->∃PE,(yC u o)[i]? =some PE/\PE.bY=ob.bY/\PE.box=ob.box
 |[],_,_,ob,h=>⟨ob,h,rfl,rfl⟩
 |j::u,o,i,ob,h=>by
  rw[yC];have:∃zf,(JE j o)[i]? =some zf/\zf.bY=ob.bY/\zf.box=ob.box:=by
   by_cases hij:i=j
   .subst hij;refine⟨ob.kill,?_,rfl,rfl⟩;unfold JE;rw[h];exact mN (cU.1 h).1
   .exact ⟨ob,by rw[WA j i o hij];exact h,rfl,rfl⟩
  obtain⟨zf,h1,h2,h3⟩:=this;obtain⟨PE,g1,g2,g3⟩:=SQ u _ h1;exact⟨PE,g1,g2.trans h2,g3.trans h3⟩
def OkX(P:Program)[aG P](f:FuncId)(x:AV)(zs:List AV)(Q:AV->Prop):Prop:=
 ∀(w:World) (S:Nat->Prop) (b fo cap:Nat) (code:List UInt8) (v:Value) (Vx:List Nat) (vs:List Value),aG.holds P w->aG.low P<=b->b<w.heap.size->¬S b->(∀x,S x->x<w.heap.size)->Ma w S b fo cap code->
  (∀y∈Vx,aG.low P<=y/\y<w.heap.size/\y≠b/\¬S y)->Vx.Nodup->R w (zM S) x v Vx->Rc w (zM S) zs vs []->
  Calls P f (.pointer (some ⟨b,fo,none⟩)::v::vs).toArray w λe w'=>∃r u fp,e= .returned u/\Q r/\R w' (zM λx=>(S x\/x∈Vx\/(w.heap.size<=x/\x<w'.heap.size))/\x∉fp) r u fp/\fp.Nodup/\
   (∀x∈fp,(x∈Vx\/w.heap.size<=x)/\x<w'.heap.size)/\w.heap.size<=w'.heap.size/\(∀x,x<w.heap.size->x≠b->x∉Vx->w'.heap[x]? =w.heap[x]?)/\nZ w w'/\
   Ma w' (λx=>(S x\/x∈Vx\/(w.heap.size<=x/\x<w'.heap.size))/\x∉fp) b fo cap code
def AS.aAn(s:AS)(dst:Option Tmp)(k bY:Nat)(code:List UInt8)(i h:Int)(u:List Nat)(r:AV):AS:=AS.bW ⟨s.t,(yC u s.o).set k ⟨true,true,3,bY,[bH code i h]⟩⟩ dst r
def aCb(f x y:Operand)(ys:List Operand)(NL:Array TypeId){g:FuncId}{k bY:Nat}{code:List UInt8}{i h:Int}{xv:AV}{Q:AV->Prop}(hf:s.ev f= .fn g [])(hc:bV P g=true)
  (hx:s.ev x= .ptr k bY 0 0) (ho:AV.gB s.o k bY=some ⟨true,true,3,bY,[bH code i h]⟩) (h0:0<=i) (hry:kV s.o (s.ev y)=true) (huy:(k::mG (s.ev y)).Nodup) (hxv:res s.o (s.ev y)=xv)
  (hfl:(ys.map s.ev).all jB=true) (rP:OkX P g xv (ys.map s.ev) Q)
  (a:Act) (w:World) (next:Act->World->Prop) (X:Exit->Act->World->Prop) (hr:Rel B s a w)
  (hn:∀r i' h' a' w',Q r->0<=i'->Rel B (s.aAn dst k bY code i' h' (mG (s.ev y)) r) a' w'->next a' w'):
  Oper.wp P ⟨dst,.call {callee:= .value f,args:=⟨x::y::ys⟩,argTypes:=NL},ty,pos,after,gd⟩ a w next X:=by
 obtain⟨G,r⟩:=hr;have h1:=r.ev f;rw[hf]at h1;simp only[R]at h1;obtain⟨_,cs,hv,uJ⟩:=h1;have hcs:cs=[]:=by cases cs with
  |nil=>rfl
  |cons _ _=>simp[Rc]at uJ
 subst hcs;obtain⟨go,b,fo,hl,aY,hga,hpv⟩:=r.ptr hx ho;obtain⟨Vx,eQ,aPm,hF0⟩:=r.ok k _ go hl rfl;simp only[Env.of,eS]at eQ;obtain⟨b2,aXx,ha2,rfl⟩:=FC eQ;rw[hga]at ha2;simp only[eI,oS,pS]at ha2;obtain⟨rfl,rfl⟩:=ha2;have Gj:go.F b:=hF0 b (by simp);have Kz:=r.eB k _ go b hl rfl Gj;have hSb:¬(env B s.o G w).A b:=λhA=>hA.2 k _ go hl rfl Gj
 have hS:∀x,(env B s.o G w).A x->x<w.heap.size:=λx hx=>rQ r hx
 have aFs:Ma w (env B s.o G w).A b fo go.cap code:=by refine⟨i,h,h0,?_⟩;rw[hga]at eQ;exact BZ (E:=env B s.o G w) ⟨λ_ h=>⟨h,rfl⟩,λ_ _=>trivial,λ_ _ _ h=>h.elim,λ_ _ _ h=>h.elim,λ_ _ _ _ _ h=>h.elim⟩ eQ
 rw[nF]at huy;generalize hu:mG (s.ev y)=u at*;obtain⟨fpx,hRx,aX0,aLc⟩:=GU r (s.ev y) _ hry (hu▸huy.2) (r.ev y);rw[hxv]at hRx;rw[hu]at aLc;have ak:=huy.1;have hfx:∀z∈fpx,((B.O0 z\/B.w0.heap.size<=z)/\z<w.heap.size)/\z≠b/\¬(env B s.o G w).A z:=λz hz=>by obtain⟨j,oj,gj,hj,hlj,hjl,LJ⟩:=aLc z hz;refine⟨r.eB _ _ _ z hlj hjl LJ,λe=> ?_,λhA=>hA.2 _ _ _ hlj hjl LJ⟩;have:=r.fV _ _ _ _ _ _ b hlj hl hjl rfl (e▸LJ) Gj;exact ak (this▸hj)
 have EG:∀{j ob g2 z},look s.o G j ob g2->ob.fT=true->g2.F z->j∉u->z∉fpx:=fun {j ob g2 z} h2 hl2 hF RB hz=>by obtain⟨j',oj,gj,hj,hlj,hjl,LJ⟩:=aLc z hz;exact RB (r.fV _ _ _ _ _ _ z h2 hlj hl2 hjl hF LJ▸hj)
 have hargs:Rc w (env B s.o G w) (ys.map s.ev) (ys.map a.eval) []:=uK r ys;have kS:fG w (env B s.o G w).plain w (zM (env B s.o G w).A):=⟨λ_ h=>⟨h,rfl⟩,λ_ _=>trivial,λ_ _ _ h=>h.elim,λ_ _ _ h=>h.elim,λ_ _ _ _ _ h=>h.elim⟩;have EJ:=rP w _ b fo go.cap code _ fpx _ r.holds (r.Pp Kz.1) Kz.2 hSb hS aFs (λz hz=>⟨r.Pp (hfx z hz).1.1,(hfx z hz).1.2,(hfx z hz).2⟩) aX0 (oV kS _ _ _ (λ_ _=>rfl) hRx)
  (WO (E:=env B s.o G w) (E':=zM (env B s.o G w).A) kS hfl hargs)
 unfold Oper.wp;have hrun:(execOp a.eval ⟨dst,.call {callee:= .value f,args:=⟨x::y::ys⟩,argTypes:=NL},ty,pos,after,gd⟩).run P w= .ok (.enter g (.pointer (some ⟨b,fo,none⟩)::a.eval y::ys.map a.eval).toArray) w:=by
  have e:(⟨x::y::ys⟩:Array Operand).map a.eval=(.pointer (some ⟨b,fo,none⟩)::a.eval y::ys.map a.eval).toArray:=by apply CH;simp[hpv]
  simp[execOp,resolve,hv,Deferred.ofValue,invoke,vI hc,e]
 rw[hrun,BY];refine EJ.mono λe w' hp=> ?_
 obtain⟨rv,v,fp,rfl,hQ,QF,hnd,hfr,hsz,mI,BG,i',h',hi',aFt⟩:=hp;refine hn rv i' h' _ _ hQ hi' ?_;obtain⟨Gs,dF,zL,hap,rA⟩:=CE (q:=1) rv v fp s.o.length QF hnd;generalize uF:(⟨true,true,3,bY,[bH code i' h']⟩:aI)=ob';generalize aFw:(yC u s.o).set k ob'=o1;have RA:o1.length=s.o.length:=by rw[<-aFw];simp[Od]
 have hlG:G.length=o1.length:=by rw[RA,r.len]
 generalize Cz:(iA 1 s.o.length rv).2=eO at*;have Js:∀{j ob g2 x},look eO Gs j ob g2->g2.F x->x∈fp:=by intro j ob g2 x hl2 hF;obtain⟨_,_,_,f',_,_,h3,h4⟩:=zL _ _ _ hl2;exact h4 _ ((h3 _).1 hF)
 have lk:∀{j ob g2},look (o1++eO) (G++Gs) j ob g2->ob.fT=true->(∃j',look eO Gs j' ob g2/\j=s.o.length+j')\/(j=k/\ob=ob'/\g2=go)\/(j≠k/\j∉u/\look s.o G j ob g2):=by
  intro j ob g2 h2 hl2;rcases pE hlG h2 with⟨_,h2⟩|⟨hj,h2⟩
  .rw [<-aFw]at h2;rcases WQ h2 with⟨rfl,rfl,_,hg⟩|⟨jE,h2⟩
   .exact .inr (.inl ⟨rfl,rfl,cX (hg.symm.trans hl.2)⟩)
   .by_cases RB:j∈u
    .rw [KC u _ RB h2.1]at hl2;cases hl2
    .exact .inr (.inr ⟨jE,RB,by have:=h2.1;rwa[IW j u _ RB]at this,h2.2⟩)
  .exact .inl ⟨_,h2,by rw[RA]at hj⊢;omega⟩
 have back:∀{j ob g2},look s.o G j ob g2->j≠k->∃PE,look (o1++eO) (G++Gs) j PE g2/\PE.bY=ob.bY/\PE.box=ob.box/\(j∉u->PE=ob)/\(j∈u->PE.fT=false):=by
  intro j ob g2 h2 jE;obtain⟨PE,q1,q2,q3⟩:=SQ u s.o h2.1;refine⟨PE,nC ⟨?_,h2.2⟩,q2,q3,λhj=> ?_,λhj=>KC u _ hj q1⟩
  .rw [<-aFw,lB (λh=>jE h.symm)]
   exact q1
  .rw [IW j u _ hj,h2.1]at q1;exact(cX q1).symm
 have hkl:k<s.o.length:=(cU.1 hl.1).1;have aFu:look (o1++eO) (G++Gs) k ob' go:=nC ⟨by rw[<-aFw];exact mN (by rw[Od];exact hkl),hl.2⟩;have hkx:∀{z},go.F z->z∉fpx:=λhF=>EG hl rfl hF ak
 have KA:∀j ob g2 x,look s.o G j ob g2->ob.fT=true->g2.F x->j∉u->x≠b->w'.heap[x]? =w.heap[x]?:=λj ob g2 x h2 jA hF RB jE=>mI x (r.eB j ob g2 x h2 jA hF).2 jE (EG h2 jA hF RB)
 have aLb:∀{j ob g2 x},look s.o G j ob g2->ob.fT=true->g2.F x->j≠k->x≠b:=λh2 jA hF jE e=>jE (r.fV _ _ _ _ _ _ b h2 hl jA rfl (e▸hF) Gj)
 have hE:fG w (env B s.o G w) w' (env B (o1++eO) (G++Gs) w'):=by
  refine Ay hsz (λx hA=>⟨rQ r hA,mI x (rQ r hA) (λe=>hSb (e▸hA)) (λhz=>(hfx x hz).2.2 hA)⟩) r.len ?_ ?_
  .intro j ob g2 h2;by_cases hjk:j=k
   .rw [hjk]at h2⊢;obtain⟨rfl,rfl⟩:=lT h2 hl;refine⟨ob',g2,aFu,by rw[<-uF];exact eJ _,λ_=> .inl rfl,λ_=>⟨rfl,by rw[<-uF],λ_=>⟨rfl,rfl,by rw[<-uF];rfl⟩,λx hF jE=>⟨hF,jE,?_⟩⟩⟩;exact KA _ _ _ x h2 rfl hF ak (λe=>jE _ hga (by rw[e]))
   .obtain ⟨PE,q1,q2,q3,q4,q5⟩:=back h2 hjk;refine⟨PE,g2,q1,AI q2.symm,λh=> .inl (q3▸h),λjA=> ?_⟩;by_cases RB:j∈u
    .rw [q5 RB]at jA;cases jA
    .obtain rfl:=q4 RB;refine⟨jA,rfl,λ_=>⟨rfl,rfl,rfl⟩,λx hF jE=>⟨hF,jE,?_⟩⟩;exact KA _ _ _ x h2 jA hF RB (aLb h2 jA hF hjk)
  .intro j ob g2 x h2 jA hF;rcases lk h2 jA with⟨j',h3,_⟩|⟨e1,e2,e3⟩|⟨_,_,h3⟩
   .rcases (hfr _ (Js h3 hF)).1 with h|h
    .obtain ⟨j2,oj,gj,hj,hlj,hjl,LJ⟩:=aLc x h;exact .inr ⟨_,_,_,hlj,hjl,LJ⟩
    .exact .inl h
   .exact .inr ⟨_,_,_,hl,rfl,e3▸hF⟩
   .exact .inr ⟨j,ob,g2,h3,jA,hF⟩
 have hA':∀x,((env B s.o G w).A x\/x∈fpx\/(w.heap.size<=x/\x<w'.heap.size))/\x∉fp->(env B (o1++eO) (G++Gs) w').A x:=by
  rintro x ⟨hx,hxf⟩;refine⟨?_,λj ob g2 h2 jA hF=> ?_⟩
  .rcases hx with hx|hx|hx
   .rcases hx.1 with h|h
    .exact .inl h
    .exact .inr ⟨h.1,lP h.2 hsz⟩
   .have:=(hfx x hx).1;rcases this.1 with h|h
    .exact .inl (B.gA x h)
    .exact .inr ⟨h,lP this.2 hsz⟩
   .exact .inr ⟨iS r.size hx.1,hx.2⟩
  .rcases lk h2 jA with⟨j',h3,_⟩|⟨e1,e2,e3⟩|⟨_,RB,h3⟩
   .exact hxf (Js h3 hF)
   .rw [e3]at hF;rcases hx with hx|hx|hx
    .exact hx.2 _ _ _ hl rfl hF
    .exact hkx hF hx
    .have:=(r.eB _ _ _ x hl rfl hF).2;omega
   .rcases hx with hx|hx|hx
    .exact hx.2 _ _ _ h3 jA hF
    .exact EG h3 jA hF RB hx
    .have:=(r.eB _ _ _ x h3 jA hF).2;omega
 have kn:fG w' (zM λx=>((env B s.o G w).A x\/x∈fpx\/(w.heap.size<=x/\x<w'.heap.size))/\x∉fp) w' (env B (o1++eO) (G++Gs) w'):=
  ⟨λx hx=>⟨hA' x hx,rfl⟩,λ_ _=>trivial,λ_ _ _ h=>h.elim,λ_ _ _ h=>h.elim,λ_ _ _ _ _ h=>h.elim⟩
 have kp:fG w' (zM λx=>((env B s.o G w).A x\/x∈fpx\/(w.heap.size<=x/\x<w'.heap.size))/\x∉fp).plain w' (env B (o1++eO) (G++Gs) w').plain:=
  ⟨λx hx=>⟨hA' x hx,rfl⟩,λ_ _=>trivial,λ_ _ _ h=>h.elim,λ_ _ _ h=>h.elim,λ_ _ _ _ _ h=>h.elim⟩
 have aLd:∀{j ob g2 j2 o2 g3 x},look eO Gs j ob g2->g2.F x->look s.o G j2 o2 g3->o2.fT=true->g3.F x->j2∉u->False:=fun {j ob g2 j2 o2 g3 x} c1 f1 c2 l2 f2 RB=>by
  rcases(hfr _ (Js c1 f1)).1 with h|h
  .exact EG c2 l2 f2 RB h
  .have:=(r.eB _ _ _ x c2 l2 f2).2;omega
 have hnext:fZ B ⟨s.t,o1++eO⟩ (G++Gs) a w':=by
  refine r.next hE (by simp[hlG,dF]) ?_ ?_ ?_ hsz ?_ BG
  .intro j ob g2 h2 jA;rcases lk h2 jA with⟨j',h3,_⟩|⟨e1,e2,e3⟩|⟨jE,RB,h3⟩
   .obtain ⟨q1,q2,_,f',Gn,q3,q4,q5⟩:=zL _ _ _ h3;refine⟨f',?_,q3,λx hx=>(q4 x).2 hx⟩;have:=Gn.keeps kn.plain (λ_ _=>rfl);rw[q2];exact this
   .rw [e2,e3];refine⟨[b],?_,by simp,by simpa using Gj⟩;have h5:ob'.box=true/\ob'.n=3/\ob'.fM=[bH code i' h']:=by rw[<-uF];exact⟨rfl,rfl,rfl⟩
    rw[h5.1,h5.2.1,h5.2.2,hga];simp only[Env.of,eS];exact BZ kp aFt
   .exact (r.ok j ob g2 h3 jA).keeps hE λx hx=>KA j ob g2 x h3 jA hx RB (aLb h3 jA hx jE)
  .intro j1 j2 o1 o2 g1 g2 x a1 a2 l1 l2 f1 f2;rcases lk a1 l1 with⟨j',c1,d1⟩|⟨d1,d2,d3⟩|⟨d1,d2,c1⟩<;>rcases lk a2 l2 with⟨j'',c2,d4⟩|⟨d4,d5,d6⟩|⟨d4,d5,c2⟩
   .have:=hap _ _ _ _ _ _ x c1 c2 f1 f2;omega
   .exact (aLd c1 f1 hl rfl (d6▸f2) ak).elim
   .exact (aLd c1 f1 c2 l2 f2 d5).elim
   .exact (aLd c2 f2 hl rfl (d3▸f1) ak).elim
   .omega
   .exact absurd (r.fV _ _ _ _ _ _ x c2 hl l2 rfl f2 (d3▸f1)) d4
   .exact (aLd c2 f2 c1 l1 f1 d2).elim
   .exact absurd (r.fV _ _ _ _ _ _ x c1 hl l1 rfl f1 (d6▸f2)) d1
   .exact r.fV _ _ _ _ _ _ x c1 c2 l1 l2 f1 f2
  .intro j ob g2 x h2 jA hF;rcases lk h2 jA with⟨j',h3,_⟩|⟨e1,e2,e3⟩|⟨jE,_,h3⟩
   .have:=hfr _ (Js h3 hF);refine⟨?_,this.2⟩;rcases this.1 with h|h
    .exact (hfx x h).1.1
    .exact .inr (iS r.size h)
   .have:=r.eB _ _ _ x hl rfl (e3▸hF);exact⟨this.1,lP this.2 hsz⟩
   .have:=r.eB _ _ _ x h3 jA hF;exact⟨this.1,lP this.2 hsz⟩
  .intro x hx hO;refine mI x (lP hx r.size) (λe=> ?_) (λhz=> ?_)
   .rcases Kz.1 with h|h
    .exact hO (e▸h)
    .omega
   .rcases (hfx x hz).1.1 with h|h
    .exact hO h
    .omega
 refine⟨G++Gs,?_⟩;have hd:s.aAn dst k bY code i' h' u rv=AS.put ⟨s.t,o1++eO⟩ dst (iA 1 s.o.length rv).1:=by simp only[AS.aAn,AS.bW,uF,aFw,RA,Cz]
 rw[hd];refine hnext.put dst ?_;refine rA _ kn λj ob g2 h2=> ?_
 obtain⟨_,_,q3,_⟩:=zL _ _ _ h2;have h3:=oF (o:=o1) (G:=G) hlG h2;rw[RA]at h3;exact⟨ob,g2,h3,AI q3.symm,λ_ _=>rfl,λh=>absurd h (by decide)⟩
def VK(P:Program)[aG P](o:Oper)(s:AS)(K:AS -> Prop): Prop :=
  match o.op with
  | .call ⟨.value f, ⟨ys⟩, _⟩ => match s.ev f with
    | .fn g [] => bV P g = true /\
        ((∃ x zs k bY code, ∃ i h:Int, ∃ Q:AV -> Prop, ys = x :: zs /\ s.ev x = .ptr k bY 0 0 /\ AV.gB s.o k bY = some ⟨true, true, 3, bY, [bH code i h]⟩ /\ 0 <= i /\ (zs.map s.ev).all jB = true /\ Hf P g (zs.map s.ev) Q /\ ∀ r i' h', Q r -> 0 <= i' -> K (s.drew o.dst k bY code i' h' r)) \/
         (∃ x code, ys = [x] /\ s.ev x = .sl .view 1 (bL code) /\ aCa P g /\ ∀ i h, 0 <= i -> K (s.SN o.dst code i h)) \/
         (∃ Q:AV -> Prop, ((ys.map s.ev).all jB = true /\ OkE P g (ys.map s.ev) Q) /\ ∀ r, Q r -> K (s.bW o.dst r)) \/
         (∃ x y zs k bY code xv, ∃ i h:Int, ∃ Q:AV -> Prop, ys = x :: y :: zs /\ s.ev x = .ptr k bY 0 0 /\ AV.gB s.o k bY = some ⟨true, true, 3, bY, [bH code i h]⟩ /\ 0 <= i /\ (kV s.o (s.ev y) = true /\ (k :: mG (s.ev y)).Nodup /\ res s.o (s.ev y) = xv) /\ (zs.map s.ev).all jB = true /\ OkX P g xv (zs.map s.ev) Q /\
           ∀ r i' h', Q r -> 0 <= i' -> K (s.aAn o.dst k bY code i' h' (mG (s.ev y)) r)))
    | _ => False
  | _ => False
def D8{P:Program}[aG P]{B:gL P}{o:Oper}{s:AS}{K:AS->Prop}(h:VK P o s K)(a:Act)(w:World)(next:Act->World->Prop)(X:Exit->Act->World->Prop)(hr:Rel B s a w)
  (hn:∀a' w' s',K s'->Rel B s' a' w'->next a' w'):o.wp P a w next X:=by
 obtain⟨dst,op,ty,pos,after,gd⟩:=o;unfold VK at h;dsimp only at h;split at h
 .split at h
  .rename_i hf;obtain⟨hc,⟨x,zs,k,bY,code,i,h',Q,rfl,h1,h2,h3,h4,h5,h6⟩|⟨x,code,rfl,h1,h2,h3⟩|⟨Q,h1,h2⟩|⟨x,y,zs,k,bY,code,xv,i,h',Q,rfl,h1,h2,h3,⟨h7,h8,h9⟩,h4,h5,h6⟩⟩:=h
   .exact aFr _ _ _ _ hf hc h1 h2 h3 h4 h5 a w next X hr λr i' h' a' w' hq hi hrel=>hn _ _ _ (h6 r i' h' hq hi) hrel
   .exact ax _ _ _ hf hc h1 h2 a w next X hr λi h a' w' hi hrel=>hn _ _ _ (h3 i h hi) hrel
   .exact D7 _ _ _ hf hc h1.1 h1.2 a w next X hr λr a' w' hq hrel=>hn _ _ _ (h2 r hq) hrel
   .exact aCb _ _ _ _ _ hf hc h1 h2 h3 h7 h8 h9 h4 h5 a w next X hr λr i' h' a' w' hq hi hrel=>hn _ _ _ (h6 r i' h' hq hi) hrel
  .exact h.elim
 .exact h.elim
end
end Go.Aw
