/- Steps. No condition. -/
import Derived.Test.YtanobkmhbpjnpaaGreatDoorZQCTK
set_option linter.all false
set_option maxRecDepth 8000
set_option maxHeartbeats 8000000
namespace Go.Proofs.YtanobkmhbpjnpaaGreatDoor
open Go.Aw Proofs.Tryz List IntKind
def mD(p:aF):aF×Bool:=if (iC p).2=true then iC p else iJ p
def kX:Nat->aF->aF
 |0,p=>p
 |n+1,p=>if (mD p).2=true then kX n (mD p).1 else p
def fD(p:aF):aF:=kX 2000 p
def aBn(s b:bE):aW (dR s b).1<=16:=by
 unfold dR;split
 .rename_i h;simp only[xV,dW,eK,fY]at h;simp only[aW];omega
 .simp [aW,yR]
def mY(p:aF):Prop:=(∀nd∈p.aC.aJ,bU rR nd.iH<=1048576)/\∀t∈p.bT,bU rR t.iH<=1048576
def uX(r:List aR)(m:fO):Nat:=if r.any (kR m.to)=true then 0 else 1+aW m.to
def vT(p:aF):Nat:=bU (uX p.uN) p.aL
def qI(p:aF):Nat:=Lb p+vT p+1048593*(20-p.aD.length)+51*(20-p.bJ.length)
def zN(p:aF):Nat:=dS cB p.aL+dS aW p.bJ+34*(20-p.bJ.length)
def keeps(p q:aF):Prop:=mY q/\qI q<=qI p/\zN q<=zN p/\q.aD.length<=max p.aD.length 20
def Eg(p q:aF):Prop:=mY q/\qI q<=qI p+721/\zN q<=zN p/\q.aD.length<=max p.aD.length 20
def XL{p:aF}(h:mY p):keeps p p:=⟨h,eJ _,eJ _,by omega⟩
def rM{p:aF}(h:mY p):Eg p p:=⟨h,by omega,by omega,by omega⟩
def Bl(p:aF)(md:Int)(tx dg:bE)(nd:Int)(hd:dg.length<=1048576):qI (gJ p md tx dg nd).1<=qI p/\zN (gJ p md tx dg nd).1=zN p/\(gJ p md tx dg nd).1.aD.length<=max p.aD.length 20/\(gJ p md tx dg nd).1.aC=p.aC/\(gJ p md tx dg nd).1.bT=p.bT:=by
 have h16:=aBn tx p.gZ.bN;unfold gJ;split
 .exact ⟨eJ _,rfl,by simp only;omega,rfl,rfl⟩
 .rename_i h;have hn:p.aD.length<20:=by
   by_cases h2:20<=p.aD.length
   .exact (h (.inl h2)).elim
   .omega
  split
  .refine ⟨?_,rfl,by simp only[eR,eL,fL];omega,rfl,rfl⟩;simp only[qI,Lb,vT,aM,dS,eR,lL,bU,nO,eL,fL];omega
  .refine ⟨?_,rfl,by simp only[eR,eL,fL];omega,rfl,rfl⟩;simp only[qI,Lb,vT,aM,dS,eR,lL,bU,nO,eL,fL];omega
def aDg(p:aF)(a:aR):(CZ p a).to=a/\cB (CZ p a)=aW a:=by unfold CZ;split<;>exact⟨rfl,by simp[cB]⟩
def Fe(p:aF)(a:aR):∃X,fF p a={p with aL:=X}/\dS cB X<=dS cB p.aL+1+aW a/\bU (uX p.uN) X<=bU (uX p.uN) p.aL+1+aW a:=by
 obtain⟨h1,h2⟩:=aDg p a;have h3:uX p.uN (CZ p a)<=1+aW a:=by unfold uX;rw[h1];split<;>omega
 have key:∀k,dS cB (xQ p a k)<=dS cB p.aL+1+aW a/\bU (uX p.uN) (xQ p a k)<=bU (uX p.uN) p.aL+1+aW a:=by
  intro k;have e1:bU cB (p.aL.take k)+bU cB (p.aL.drop k)=bU cB p.aL:=by rw[<-lL,pC]
  have e2:bU (uX p.uN) (p.aL.take k)+bU (uX p.uN) (p.aL.drop k)=bU (uX p.uN) p.aL:=by rw[<-lL,pC]
  have e3:(p.aL.take k).length+(p.aL.drop k).length=p.aL.length:=by rw[<-eR,pC]
  unfold xQ;simp only[dS,eR,eL,lL,bU];omega
 unfold fF;split
 .split
  .exact ⟨p.aL,rfl,by omega,by omega⟩
  .exact ⟨_,rfl,(key _).1,(key _).2⟩
 .exact ⟨_,rfl,(key _).1,(key _).2⟩
def Iy(p:aF)(tx:bE):qI (addEntry p tx)<=qI p/\zN (addEntry p tx)<=zN p/\(addEntry p tx).aD=p.aD/\(addEntry p tx).aC=p.aC/\(addEntry p tx).bT=p.bT:=by
 have h16:=aBn tx p.gZ.bN;obtain⟨X,hX,x1,x2⟩:=Fe p (dR tx p.gZ.bN).1;unfold addEntry;split
 .exact ⟨eJ _,eJ _,rfl,rfl,rfl⟩
 .rename_i h;have hn:p.bJ.length<20:=by
   by_cases h2:20<=p.bJ.length
   .exact (h (.inr h2)).elim
   .omega
  rw[hX];generalize (dR tx p.gZ.bN).1=a at*;refine⟨?_,?_,rfl,rfl,rfl⟩
  .simp only[dS]at x1;simp only[qI,Lb,vT,aM,dS,eR,lL,bU,eL,fL];omega
  .simp only[dS]at x1;simp only[zN,dS,eR,lL,bU,eL,fL];omega
def AZ{p q:aF}(h:mY p)(h1:q.aC=p.aC)(h2:q.bT=p.bT):mY q:=by unfold mY at*;rw[h1,h2];exact h
def qm(p:aF)(t:bM)(n:Int)(h:mY p)(ht:bU rR t.iH<=1048576):keeps p (xC p t n):=by
 have z1:=oQ t.iH fC;obtain⟨a1,a2,a3,a4,a5⟩:=Bl p 2 (aX t.iH Bz).1 (aX t.iH fC).1 n (by omega);obtain⟨b1,b2,b3,b4,b5⟩:=Bl p 1 (aX t.iH qB).1 (aX t.iH fC).1 n (by omega);unfold xC;split
 .exact ⟨AZ h a4 a5,by omega,by omega,a3⟩
 .split
  .exact ⟨AZ h b4 b5,by omega,by omega,b3⟩
  .exact XL h
def Ur(p:aF)(k:Nat)(l:List pV)(h:mY p)(hl:bU rR l<=1048576):keeps p (pQ p k l):=by
 have z1:=oQ l fC;obtain⟨a1,a2,a3,a4,a5⟩:=Bl p 4 (aX l qB).1 (aX l fC).1 ((k:Nat):Int) (by omega);obtain⟨b1,b2,b3,b4,b5⟩:=Bl p 3 (aX l qB).1 (aX l fC).1 ((k:Nat):Int) (by omega);obtain⟨e1,e2,e3,e4,e5⟩:=Iy p (aX l qB).1;unfold pQ;split
 .split
  .exact ⟨h,by show qI p<=_;omega,by show zN p<=_;omega,by show p.aD.length<=_;omega⟩
  .exact XL h
 .split
  .exact ⟨AZ h a4 a5,by omega,by omega,a3⟩
  .split
   .exact ⟨AZ h e4 e5,by omega,e2,by rw[e3];omega⟩
   .refine ⟨AZ h b4 b5,?_,?_,b3⟩
    .show qI (gJ p 3 (aX l qB).1 (aX l fC).1 ((k:Nat):Int)).1<=_;omega
    .show zN (gJ p 3 (aX l qB).1 (aX l fC).1 ((k:Nat):Int)).1<=_;omega
def Us(b:bC)(t:bM):(cZ b t).1.aJ=b.aJ\/(cZ b t).1.aJ=b.aJ++[nY b t]:=by
 unfold cZ;split
 .exact .inl rfl
 .split
  .exact .inl rfl
  .split
   .exact .inl rfl
   .exact .inr rfl
def qo{p:aF}{t:bM}{q:List bM}(hq:p.bT=t::q)(h:mY p):Eg p {p with bT:=q,aC:=(cZ p.aC t).1}/\qI {p with bT:=q,aC:=(cZ p.aC t).1}<=qI p+2:=by
 have h1:=wD hq;have ht:bU rR t.iH<=1048576:=h.2 t (by rw[hq];simp);have hn:=Us p.aC t;have hg:qI {p with bT:=q,aC:=(cZ p.aC t).1}<=qI p+2:=by
  have hl:p.aC.aJ.length<=(cZ p.aC t).1.aJ.length:=by
   rcases hn with hn|hn<;>rw[hn]
   .exact eJ _
   .simp
  simp only[qI,Lb,vT]at*;omega
 refine⟨⟨⟨?_,λx hx=>h.2 x (by rw[hq];simp[show x∈q from hx])⟩,by omega,eJ _,by simp only;omega⟩,hg⟩;intro nd hnd;rcases hn with hn|hn
 .exact h.1 nd (by rw[<-hn];exact hnd)
 .have Yo:nd∈p.aC.aJ++[nY p.aC t]:=by rw[<-hn];exact hnd
  rcases fR.1 Yo with h2|h2
  .exact h.1 nd h2
  .simp only[mS]at h2;subst h2;unfold nY;split
   .exact ht
   .simp [bU]
def Ut{p q r:aF}(h1:qI q<=qI p+2/\zN q<=zN p/\q.aD.length<=max p.aD.length 20)(hr:mY r)(h2:qI r<=qI q)(h3:zN r<=zN q)(h4:r.aD.length<=max q.aD.length 20):Eg p r:=⟨hr,by omega,by omega,by omega⟩
def QT(p:aF)(h:mY p):Eg p (iB p).1:=by
 unfold iB;split
 .exact rM h
 .rename_i t q hq;split
  .obtain ⟨⟨g1,g2,g3,g4⟩,g5⟩:=qo hq h;have ht:bU rR t.iH<=1048576:=h.2 t (by rw[hq];simp);simp only;unfold iV;generalize hp1:({p with bT:=q,aC:=(cZ p.aC t).1}:aF)=p1 at*;split
   .rename_i k hk;have hl:bU rR ((p.aC.aJ[k]?).elim [] (·.iH))<=1048576:=by
     cases hg:p.aC.aJ[k]? with
     |none=>simp[bU]
     |some nd=>exact h.1 nd (nB hg)
    obtain⟨e1,e2,e3,e4⟩:=Ur p1 k ((p.aC.aJ[k]?).elim [] (·.iH)) g1 hl;exact Ut ⟨g5,g3,g4⟩ e1 e2 e3 e4
   .split
    .obtain ⟨e1,e2,e3,e4⟩:=qm p1 t (cZ p.aC t).2 g1 ht;exact Ut ⟨g5,g3,g4⟩ e1 e2 e3 e4
    .exact ⟨g1,g2,g3,g4⟩
  .exact rM h
def QU(b:bC)(ss:List iX)(l:List jV):∀nd∈(fQ b ss l).1.aJ,nd∈b.aJ\/nd.iH=[]:=by
 have one:∀(c:bC) (x:jV),∀nd∈(dE c ss x).1.aJ,nd∈c.aJ\/nd.iH=[]:=by
  intro c x nd h;unfold dE at h;split at h
  .exact .inl h
  .split at h
   .split at h
    .rcases fR.1 h with h|h
     .exact .inl h
     .simp only[mS]at h;subst h;exact .inr rfl
    .exact .inl h
   .split at h
    .exact .inl h
    .split at h
     .exact .inl h
     .split at h<;>exact .inl h
 have key:∀(l:List jV) (s:bC×bE×List bE),(∀nd∈s.1.aJ,nd∈b.aJ\/nd.iH=[])->∀nd∈(l.foldl (oW ss) s).1.aJ,nd∈b.aJ\/nd.iH=[]:=by
  intro l;induction l with
  |nil=>intro s h;exact h
  |cons x l ih=>
   intro s h;refine ih (oW ss s x) (λnd hn=> ?_);rcases one s.1 x nd hn with h2|h2
   .exact h nd h2
   .exact .inr h2
 exact key l (b,[],[]) (λnd h=> .inl h)
def JZ(p:aF)(l:List jV)(wr:Bool)(hs:aM p<=536870912)(h6:l.length<=6)(hx:∀x∈l,x.text.length<=60)(h:mY p):mY (jN p l wr)/\Lb (jN p l wr)<=Lb p+(if wr=true then 721 else 0):=by
 have hsb:aV p.aC<=536870912:=by simp only[aM]at hs;omega
 obtain⟨z1,z2,z3,z4⟩:=CP 60 p.aC (eX p) l (by omega) h6 hx (zH p) (by omega) l.length (eJ _);have hend:uU p.aC (eX p) l l.length=fQ p.aC (eX p) l:=by simp[uU]
 rw[hend]at z2;have hnd:=QU p.aC (eX p) l;obtain⟨y1,y2⟩:=Ih (fQ p.aC (eX p) l).2.1;have hp:=Ni p l hs hx;unfold jN at hp⊢;generalize fQ p.aC (eX p) l=g at*;obtain⟨b,w,lg⟩:=g;simp only[cY,eW]at*;generalize hk:pF w=tk at*;refine⟨⟨?_,?_⟩,?_⟩
 .intro nd hn;rcases hnd nd hn with h2|h2
  .exact h.1 nd h2
  .rw [h2];simp[bU]
 .intro t ht;simp only at ht;have h1:t∈tk\/t∈p.bT:=by
   split at ht
   .exact fR.1 ht
   .exact .inr ht
  rcases h1 with h1|h1
  .have h2:=dJ dU h1;have h3:bU rR t.iH<=dU t:=by simp only[dU,dS];omega
   omega
  .exact h.2 t h1
 .cases wr
  .simpa using hp
  .simp only[Lb,aM,dS,eS,eR,lL]at hp⊢;omega
def Lc(l:List bE)(s:bE)(h:s.length<=90):dS iM (mO l s)+91*(40-(mO l s).length)<=dS iM l+91*(40-l.length):=Un l [s] (by simpa using h)
def EA(p:aF)(c:bE)(wr:Bool)(hs:aM p<=536870912)(h:mY p):Eg p (gI p c wr):=by
 obtain⟨b1,b2⟩:=Bi c;unfold gI;split
 .obtain ⟨h1,h2⟩:=JZ p (gM c).1 wr hs b1 b2 h;refine⟨h1,?_,eJ _,by show p.aD.length<=_;omega⟩;have e:vT (jN p (gM c).1 wr)=vT p:=rfl;have e2:(jN p (gM c).1 wr).aD=p.aD:=rfl;have e3:(jN p (gM c).1 wr).bJ=p.bJ:=rfl;have h3:(if wr=true then 721 else 0)<=721:=by split<;>omega
  simp only[qI,e,e2,e3];omega
 .have h1:=Lc p.log OH (by simp[OH]);refine⟨h,?_,eJ _,by show p.aD.length<=_;omega⟩;simp only[qI,Lb,vT,aM]at*;omega
def qp(r:List aR)(b:aR)(m:fO):uX (r++[b]) m<=uX r m:=by unfold uX;rw[any_append];cases r.any (kR m.to)<;>simp;split<;>omega
def XM(r:List aR)(b:aR):∀l:List fO,bU (uX (r++[b])) l<=bU (uX r) l
 |[]=>eJ _
 |m::l=>by have:=qp r b m;have:=XM r b l;simp only[bU];omega
def XN(r:List aR)(b:aR)(hr:r.any (kR b)=false):∀l:List fO,b∈l.map (·.to)->bU (uX (r++[b])) l+1+aW b<=bU (uX r) l
 |[],h=>by simp at h
 |m::l,h=>by
  simp only[oE,mC]at h;by_cases hb:b=m.to
  .have h1:=XM r b l;have e1:uX r m=1+aW b:=by unfold uX;rw[<-hb,hr];simp
   have e2:uX (r++[b]) m=0:=by unfold uX;rw[<-hb,any_append];simp[kR]
   simp only[bU];omega
  .have h1:=XN r b hr l (by rcases h with h|h;exact(hb h).elim;exact h);have h2:=qp r b m;simp only[bU];omega
def qw(q:aF)(b:aR)(hs:aM q+1+aW b<=536870912)(hm:b∈q.aL.map (·.to))(h:mY q):mY (kU q b)/\Lb (kU q b)+vT (kU q b)<=Lb q+vT q:=by
 unfold kU;split
 .exact ⟨h,eJ _⟩
 .rename_i hr;obtain⟨b1,b2⟩:=Ef (AY q b) b.bN;have hr2:q.uN.any (kR b)=false:=by simpa using hr
  have h3:=XN q.uN b hr2 q.aL hm;have hz:aM {q with uN:=q.uN++[b]}=aM q+1+aW b:=by simp only[aM,dS,eR,lL,bU,eL,fL];omega
  obtain⟨k1,k2⟩:=JZ {q with uN:=q.uN++[b]} (bQ (AY q b) b.bN).2.1 false (by omega) b1 b2 h;refine⟨k1,?_⟩;have e:vT (jN {q with uN:=q.uN++[b]} (bQ (AY q b) b.bN).2.1 false)=bU (uX (q.uN++[b])) q.aL:=rfl;have e2:Lb {q with uN:=q.uN++[b]}=Lb q+1+aW b:=by simp only[Lb,hz];omega
  have e3:vT q=bU (uX q.uN) q.aL:=rfl;rw[e,e3];rw[e2]at k2;simp only[cY,eW]at k2;omega
def Nj(p:aF)(L:List aR)(hL:aM p+6120+dS aW L<=536870912)(hm:∀b∈L,b∈p.aL.map (·.to))(h:mY p):∀k,k<=L.length->mY (iR p L k)/\Lb (iR p L k)+vT (iR p L k)<=Lb p+vT p/\(iR p L k).bJ=p.bJ
 |0,_=>⟨h,eJ _,rfl⟩
 |k+1,hk=>by
  obtain⟨h1,h2,h3⟩:=Nj p L hL hm h k (by omega);obtain⟨f1,f2,f3⟩:=yK p L hL k (by omega);have hp:=(Di p).2;have hq:=(Di (iR p L k)).1;have hb:=hm L[k] (gR (by omega));have e1:dS aW (L.take (k+1))=dS aW (L.take k)+1+aW L[k]:=by rw[fN (show k<L.length by omega)];simp only[dS,eR,eL,fL,lL,bU];omega
  have e2:dS aW (L.take (k+1))<=dS aW L:=by have:=AU aW L (k+1);simp only[dS,pL];omega
  obtain⟨k1,k2⟩:=qw (iR p L k) L[k] (by omega) (by rw[f2];exact hb) h1;rw[Ch p L k (by omega)];refine⟨k1,by omega,?_⟩;rw[<-h3];unfold kU jN;split<;>rfl
def qz(p:aF)(a:aR)(hs:aM p<=500000000)(hm:dS cB p.aL+aW a<=16777216)(h:mY p):keeps p (nU p a):=by
 unfold nU;split
 .have hf:=Dc a;have h1:=Lc p.log (Um++oG a) (by simp only[Um,eR,eL,fL];omega);refine⟨h,?_,eJ _,by show p.aD.length<=_;omega⟩;simp only[qI,Lb,vT,aM]at*;omega
 .rename_i hf;obtain⟨r1,r2,r3⟩:=Iw p a hm (by simpa using hf);obtain⟨k1,k2,k3⟩:=Nj p (fP p a) (by omega) (λb hb=>Uo (r3 b hb)) h _ (eJ _);obtain⟨f1,f2,f3⟩:=yK p (fP p a) (by omega) _ (eJ _);generalize iR p (fP p a) (fP p a).length=q at*;refine⟨k1,?_,?_,by rw[f3];omega⟩
  .simp only[qI,f3,k3];omega
  .simp only[zN,f2,k3];omega
def QV(p:aF)(k:Int)(hs:aM p<=536870912)(h:mY p):Eg p (xR p k).1:=by
 have hb:∀q:aF,Eg p q->Eg p {q with block:=0}:=λq hq=>hq
 unfold xR;split
 .split
  .rename_i s _;split
   .simp only;split
    .exact hb _ (EA p s.body true hs h)
    .exact hb _ (rM h)
   .exact rM h
  .exact hb _ (rM h)
 .exact hb _ (rM h)
def OT(p:aF)(hs:aM p<=536870912)(h:mY p):Eg p (iC p).1:=by
 unfold iC;split
 .split
  .exact (show Eg p {gI p (pR p.aC p.dZ) true with dZ:=0}from EA p _ true hs h)
  .exact rM h
 .split
  .exact QV p _ hs h
  .exact QT p h
def Uu(p:aF)(hs:aM p<=500000000)(hme:dS cB p.aL+dS aW p.bJ<=16777216)(h:mY p):Eg p (iJ p).1:=by
 unfold iJ;split
 .split
  .split
   .rename_i s _;unfold Ci;split
    .simp only;split
     .exact (show Eg p {gI p s.body false with eH:=p.eH+1}from EA p s.body false (by omega) h)
     .exact (show Eg p {p with eH:=p.eH+1}from rM h)
    .exact rM h
   .exact rM h
  .split
   .rename_i a hg;have h1:=dJ aW (nB hg);have h2:bU aW p.bJ<=dS aW p.bJ:=by simp only[dS];omega
    obtain⟨k1,k2,k3,k4⟩:=qz p a hs (by omega) h;unfold Cj;split
    .refine ⟨k1,?_,k3,k4⟩;show qI (nU p a)<=_;omega
    .exact rM h
   .unfold Ck;split
    .have h1:=Lc p.log Uq (by simp[Uq]);refine⟨h,?_,eJ _,by show p.aD.length<=_;omega⟩;simp only[qI,Lb,vT,aM]at*;omega
    .exact rM h
 .exact rM h
structure aO1(k:Nat)(q:aF): Prop where
  at_:mY q
  ga:qI q <= 25000000+721*k
  en:zN q <= 2000000
  sl:q.aD.length <= 1048576
def aO1.sz{k:Nat}{q:aF}(h:aO1 k q)(hk:k<=2000):aM q<=27000000/\dS cB q.aL+dS aW q.bJ<=16777216:=by have h1:=h.ga;have h2:=h.en;have h3:=(Di q).1;simp only[qI,zN]at h1 h2;omega
def aIj{k:Nat}{q:aF}{r:aF}(hk:k<2000)(h:kX (2000-k) q=r):((mD q).2=true->kX (2000-(k+1)) (mD q).1=r)/\((mD q).2=false->q=r):=by
 obtain⟨n,hn⟩:∃n,2000-k=n+1:=⟨1999-k,by omega⟩;rw[hn]at h;have e:2000-(k+1)=n:=by omega
 rw[e];unfold kX at h;constructor
 .intro h2;rw[eM h2]at h;exact h
 .intro h2;rw[h2]at h;simpa using h
def sP:List (Nat×Nat):=[(4,20),(5,21),(6,22),(7,23),(8,24),(9,25),(10,26),(11,27),(12,28),(13,29),(14,30)]
def V7{t t':List AV}{o o':List aI}{o0 o1 o2 o3 m0 m1 m2 e0:aI}{q0 q:aF}(ho:o=[o0,o1,o2,o3]++nW q0++[⟨true,true,22,0,[lQ 20 q]⟩,m0,m1,m2,e0]++nW q)(ho':o'=[o0,o1,o2,o3]++nW q++[⟨true,true,22,0,[lQ 4 q]⟩,m0,m1,m2])
  (ht:∀z∈sP,wk (uG z.1 z.2 t') t') (hf:∀z∈sP,o0.oM z.1 z.2=o0/\o1.oM z.1 z.2=o1/\o2.oM z.1 z.2=o2/\o3.oM z.1 z.2=o3/\m0.oM z.1 z.2=m0/\m1.oM z.1 z.2=m1/\m2.oM z.1 z.2=m2) (hw:wk t t') (hc:iK 19 t'=true) (hc0:eU 19 [o0,o1,o2,o3,m0,m1,m2]=true):mZ ⟨t,o⟩ ⟨t',o'⟩:=by
 subst ho;subst ho';have e:=λi j (h:(i,j)∈sP)=>hf (i,j) h
 have h:=λi j (h:(i,j)∈sP)=>ht (i,j) h
 simp only[nW,lQ,cW,eA];refine(zS hw).trans ?_;refine(bI 4 20 rfl rfl ⟨rfl,rfl⟩ (by simp[(e 4 20 (by decide))];rfl) (h 4 20 (by decide))).trans ?_;refine(bI 5 21 rfl rfl ⟨rfl,rfl⟩ (by simp[(e 5 21 (by decide))];rfl) (h 5 21 (by decide))).trans ?_;refine(bI 6 22 rfl rfl ⟨rfl,rfl⟩ (by simp[(e 6 22 (by decide))];rfl) (h 6 22 (by decide))).trans ?_;refine(bI 7 23 rfl rfl ⟨rfl,rfl⟩ (by simp[(e 7 23 (by decide))];rfl) (h 7 23 (by decide))).trans ?_;refine(bI 8 24 rfl rfl ⟨rfl,rfl⟩ (by simp[(e 8 24 (by decide))];rfl) (h 8 24 (by decide))).trans ?_;refine(bI 9 25 rfl rfl ⟨rfl,rfl⟩ (by simp[(e 9 25 (by decide))];rfl) (h 9 25 (by decide))).trans ?_;refine(bI 10 26 rfl rfl ⟨rfl,rfl⟩ (by simp[(e 10 26 (by decide))];rfl) (h 10 26 (by decide))).trans ?_;refine(bI 11 27 rfl rfl ⟨rfl,rfl⟩ (by simp[(e 11 27 (by decide))];rfl) (h 11 27 (by decide))).trans ?_;refine(bI 12 28 rfl rfl ⟨rfl,rfl⟩ (by simp[(e 12 28 (by decide))];rfl) (h 12 28 (by decide))).trans ?_;refine(bI 13 29 rfl rfl ⟨rfl,rfl⟩ (by simp[(e 13 29 (by decide))];rfl) (h 13 29 (by decide))).trans ?_;refine(bI 14 30 rfl rfl ⟨rfl,rfl⟩ (by simp[(e 14 30 (by decide))];rfl) (h 14 30 (by decide))).trans ?_;refine aQ 19 (by simp) (oH _) hc ?_;simpa [eU,iK,closed]using hc0
def Lr{q:aF}{a:aR}{m:fO}(hf:q.aL.find? (mR a)=some m):jU q a=if m.done=true/\m.code=1 then(bQ m.body a.bN).1 else []:=by unfold jU;rw[hf]
def Qr{q:aF}{a:aR}{m:fO}(hf:q.aL.find? (mR a)=some m)(hb:m.body.length<=400):(jU q a).length<=57/\∀b∈jU q a,aW b<=16:=by
 refine⟨?_,aIr q a⟩;rw[Lr hf];split
 .obtain ⟨h1,_,h3⟩:=Af m.body a.bN;omega
 .simp
def Qs{q:aF}{l:List aR}(h0:aM q<=536871424)(h1:l.length<=57)(h2:∀b∈l,aW b<=16)(i:Nat):aM (lH q (l.take i))<=536872448:=by
 have h:=UF 16 (l.take i) q (λx hx=>h2 x (tA hx));have h3:(l.take i).length<=57:=by rw[pL];omega
 have h4:=mB (16+1) h3;omega
def Np[aG prog][dG prog][fI prog](p:aF)(a:aR)(x:bG)(hs:aM p<=536870912/\aW a<=536870912)(hx:dC x<=1048576):Ok prog 47 [.agg (aH .view p),.agg (aS a),.agg (bR x)] (.agg (aH .own (kM p a x))):=by
 have hs1:=hs.1;have hml:p.aL.length<=536870912:=by simp only[aM,dS]at hs1;omega
 have Il:eT p.bO<=274877906944:=by simp only[aM]at hs1;omega
 have c1:=lM p (by omega);have c2:=Ae p a (by omega);rcases oL (mR a) p.aL with⟨hi,hf⟩|⟨k,hk,hi,hf⟩
 .rw [Ba hi];rw[hi]at c2;simp only[aH,aS]at c1 c2;refine dN aK func47 ntmps47 ?_;refine bK ?_;exact aO results47
 .have hg:=aE hk;rw[hi]at c2;have hk0:¬((k:Nat):Int)<0:=by omega
  cases hd:p.aL[k].done
  .rw [Cx hi hg hd];have cR:=wN p k (by omega) (by omega) (by omega);have e:qY p (k:Int)=gV p p.aL[k]:=by simp[qY,hg]
   rw[e]at cR;have hrq:lZ (gV p p.aL[k])<=1073741824:=by have hm:=dJ cB (gR hk);simp only[cB]at hm;simp only[lZ,gV,fL];simp only[aM,dS,aW]at hs1 hm⊢;omega
   have c3:=xJ p.bO (gV p p.aL[k]) x Il (by omega) hx;have c4:=Em p.bO (gV p p.aL[k]) x Il (by omega) hx;simp only[aH,eG]at cR;simp only[dA,eG,bR]at c3 c4;simp only[aH,aS]at c1 c2;clear e;have Gl:=IC (x:=x) hi hk hf;have hqs:=Zi p k hk x;have hub:=Ff p.bO (gV p p.aL[k]) x;have hset:(p.aL.map gH).set k [.str p.aL[k].to.bN,.str p.aL[k].to.iD,.bool true,.int .i64 (fE p.bO (gV p p.aL[k]) x),.str (lG p.bO (gV p p.aL[k]) x)]=(p.aL.set k (jP p p.aL[k] x)).map gH:=by rw[map_set];rfl
   have hg3:(p.aL.set k (jP p p.aL[k] x))[k]? =some (jP p p.aL[k] x):=by rw[mN hk]
   unfold Gg;have hfm:(jP p p.aL[k] x).done=true/\(jP p p.aL[k] x).code=fE p.bO (gV p p.aL[k]) x/\(jP p p.aL[k] x).body=lG p.bO (gV p p.aL[k]) x:=⟨rfl,rfl,rfl⟩;have hl3:(p.aL.set k (jP p p.aL[k] x)).length=p.aL.length:=by simp
   generalize fE p.bO (gV p p.aL[k]) x=c at*;generalize lG p.bO (gV p p.aL[k]) x=y at*;generalize gV p p.aL[k]=rq at*;generalize jP p p.aL[k] x=m3 at*;generalize p.aL.set k m3=L3 at*;obtain⟨f1,f2,f3⟩:=hfm;have aNc:k<L3.length:=by omega
   have e3:∀h,(L3[k]'h)=m3:=λh=>by rw[aE h]at hg3;exact cX hg3
   obtain⟨b1,b2⟩:=Qr (q:={p with aL:=L3}) Gl (by rw[f3];exact hub);have hv:=Lr (q:={p with aL:=L3}) Gl;generalize jU {p with aL:=L3} a=L at*;by_cases hc1:c=1
   .rw [eM ⟨f1,by rw[f2];exact hc1⟩,f3]at hv;have cP:=vR y a.bN (by omega) (by simp only[aW]at hs;omega);generalize bQ y a.bN=u at*;obtain⟨u1,u2,u3⟩:=u;simp only at hv cP;subst hv;subst hc1;refine dN aK func47 ntmps47 ?_;have W:=aA hk0 (aA hg (aA hd (aA hk (aA hset (aA aNc (aA e3 (aA f1 (aA f2 f3))))))));refine we ?_;have hq0:aM {p with aL:=L3}<=536871424:=by omega
    have hts:=Qs hq0 b1 b2;have Oz:=λi (h:i<L.length)=>show lH {p with aL:=L3} (L.take (i+1))=fF (lH {p with aL:=L3} (L.take i)) L[i]by rw[fN h,Qq]
    have h00:lH {p with aL:=L3} (L.take 0)={p with aL:=L3}:=by simp[lH]
    have hall:L.length<=1099511627776:=by omega
    refine aT (ι:={k:Nat // k<=L.length}) (λt o i=>⟨bP t [(84,.int .i64 i.1),(14,.aB),(16,.aB),(35,.aB),(37,.aB),(38,.aB),(40,.aB),(47,.aB),(48,.aB),(51,.aB),(60,.aB),(61,.aB),(63,.aB),(65,.aB),(66,.aB),(71,.aB),(73,.aB),(74,.aB)],o.take 4++nW (lH {p with aL:=L3} (L.take i.1))++[⟨true,true,22,0,[lQ 4 (lH {p with aL:=L3} (L.take i.1))]⟩]++o.drop 16⟩)
     (λi=>L.length-i.1) ⟨0,by simp⟩ (aP (by simp only[h00];simp[nW,lQ]) (by simp)) ?_
    rintro⟨i,hi2⟩ K1 hK1;have hi1:i64.wrap ((i:Int)+1)=((i+1:Nat):Int):=by rw[wrap64]<;>omega
    by_cases hlt:i<L.length
    .have hgi:=aE hlt;have cA:=EZ (lH {p with aL:=L3} (L.take i)) L[i] (by have:=hts i;omega) (by have:=b2 _ (gR hlt);omega);have hnext:=Oz i hlt;rw[<-hnext]at cA;have hK2:=hK1;simp only[bP,cH,cQ,eV,gS,cW,eA,sX,DP,nW,lQ]at hK1⊢;clear Oz h00 hnext hts;generalize hq1:lH {p with aL:=L3} (L.take i)=q at*;generalize hq2:lH {p with aL:=L3} (L.take (i+1))=q' at*;simp only[aH,aS]at cA;have W:=aA hi1 (aA hgi hlt);refine we ?_;refine hK2 _ ⟨i+1,by omega⟩ ?_ (by simp only;omega);simp only[hq2];exact V7 (q0:=q) (q:=q') rfl (by simp[nW,lQ]) (by simp[sP]) (by simp[sP]) (by simp) (by simp) (by simp)
    .have htk:L.take i=L:=eN (by omega);have hK2:=hK1;simp only[bP,cH,cQ,eV,gS,cW,eA,sX,DP,nW,lQ,htk]at hK1⊢;clear Oz h00 hts hK2 hK1;generalize lH {p with aL:=L3} L=q at*;have W:=aA hi1 hlt;refine we ?_;exact aO results47
   .rw [eC (λh=>hc1 (by rw[<-f2];exact h.2))]at hv
    subst hv;have hnil:lH {p with aL:=L3} []={p with aL:=L3}:=rfl;rw[hnil];refine dN aK func47 ntmps47 ?_;have W:=aA hk0 (aA hg (aA hd (aA hk (aA hset (aA aNc (aA e3 (aA f1 (aA f2 (aA f3 hc1)))))))));refine we ?_;exact aO results47
  .rw [Bb hi hg hd];simp only[aH,aS]at c1 c2;refine dN aK func47 ntmps47 ?_;have W:=aA hk0 (aA hg (aA hd hk));refine we ?_;exact aO results47
def aBp(p:aF)(a:aR):(fF p a).bO=p.bO/\(fF p a).gZ=p.gZ/\(fF p a).aD=p.aD:=by rcases ask_cases p a with⟨e,_⟩|⟨e,_⟩<;>rw[e]<;>exact⟨rfl,rfl,rfl⟩
structure Rh(n e s:Nat)(q:aF): Prop where
  at_:mY q
  ga:qI q <= n
  en:zN q <= e
  sl:q.aD.length <= s
def Rh.up{n e s n2 e2:Nat}{q:aF}(h:Rh n e s q)(h1:n<=n2)(h2:e<=e2):Rh n2 e2 s q:=⟨h.at_,iS h.ga h1,iS h.en h2,h.sl⟩
def Rh.sz{n e s:Nat}{q:aF}(h:Rh n e s q):aM q<=n/\dS cB q.aL+dS aW q.bJ<=e:=by have h1:=h.ga;have h2:=h.en;have h3:=(Di q).1;simp only[qI,zN]at h1 h2;omega
def Zj{n e s:Nat}{q:aF}(h:Rh n e s q)(hn:n<=500000000)(he:e<=16777216)(Ju:20<=s):Rh (n+721) e s (mD q).1:=by
 obtain⟨h1,h2⟩:=h.sz;have h3:Eg q (mD q).1:=by
  unfold mD;split
  .exact OT q (by omega) h.at_
  .exact Uu q (by omega) (by omega) h.at_
 obtain⟨g1,g2,g3,g4⟩:=h3;have h4:=h.ga;have h5:=h.en;have h6:=h.sl;exact⟨g1,by omega,by omega,by omega⟩
def aBq{e s:Nat}(he:e<=16777216)(Ju:20<=s):∀(m n:Nat) (q:aF),Rh n e s q->n+721*m<=500000000->Rh (n+721*m) e s (kX m q)
 |0,n,q,h,_=>h.up (by omega) (eJ _)
 |m+1,n,q,h,hk=>by
  unfold kX;split
  .exact (aBq he Ju m (n+721) _ (Zj h (by omega) he Ju) (by omega)).up (by omega) (eJ _)
  .exact h.up (by omega) (eJ _)
def UG{n e s:Nat}{q:aF}(h:Rh n e s q)(hn:n+1442000<=500000000)(he:e<=16777216)(Ju:20<=s):Rh (n+1442000) e s (fD q):=by have:=aBq he Ju 2000 n q h (by omega);exact this
def Wn(p:aF)(k:Int)(x:bG):(jO p k x).aC=p.aC/\(jO p k x).bT=p.bT/\(jO p k x).log=p.log/\(jO p k x).aL=p.aL/\(jO p k x).uN=p.uN/\(jO p k x).bJ=p.bJ:=by
 unfold jO;split
 .split
  .split<;>exact⟨rfl,rfl,rfl,rfl,rfl,rfl⟩
  .exact ⟨rfl,rfl,rfl,rfl,rfl,rfl⟩
 .exact ⟨rfl,rfl,rfl,rfl,rfl,rfl⟩
def IE(p:aF)(a:aR)(x:bG):∀k,(jJ p a x k).aC=p.aC/\(jJ p a x k).bT=p.bT/\(jJ p a x k).log=p.log/\(jJ p a x k).aL=p.aL/\(jJ p a x k).uN=p.uN/\(jJ p a x k).bJ=p.bJ
 |0=>⟨rfl,rfl,rfl,rfl,rfl,rfl⟩
 |k+1=>by
  obtain⟨i1,i2,i3,i4,i5,i6⟩:=IE p a x k;simp only[jJ];split
  .split
   .obtain ⟨r1,r2,r3,r4,r5,r6⟩:=Wn (jJ p a x k) k x;exact⟨r1.trans i1,r2.trans i2,r3.trans i3,r4.trans i4,r5.trans i5,r6.trans i6⟩
   .exact ⟨i1,i2,i3,i4,i5,i6⟩
  .exact ⟨i1,i2,i3,i4,i5,i6⟩
def Ls{n e s:Nat}{p:aF}(a:aR)(x:bG)(h:Rh n e s p):Rh (n+400*s) e s (nK p a x):=by
 obtain⟨r1,r2,r3,r4,r5,r6⟩:=IE p a x p.aD.length;have h1:=V6 p a x;have h2:=su p a x;have h3:=h.sl;have h4:p.aD.length*400<=400*s:=by omega
 change (nK p a x).aC=p.aC at r1;change (nK p a x).bT=p.bT at r2;change (nK p a x).log=p.log at r3;change (nK p a x).aL=p.aL at r4;change (nK p a x).uN=p.uN at r5;change (nK p a x).bJ=p.bJ at r6;refine⟨AZ h.at_ r1 r2,?_,?_,by omega⟩
 .have:=h.ga;simp only[qI,Lb,vT,r1,r3,r4,r5,r6,h2]at this⊢;omega
 .have:=h.en;simp only[zN,r4,r6]at this⊢;exact this
def XT{f:fO->Nat}:∀(l:List fO) (k:Nat) (hk:k<l.length) (m:fO),f m=f l[k]->bU f (l.set k m)=bU f l
 |x::l,0,hk,m,h=>by simp only[cQ,bU];simp only[getElem_cons_zero]at h;omega
 |x::l,k+1,hk,m,h=>by simp only[cH,bU];rw[XT l k (by simpa using hk) m (by simpa using h)]
def Qt:∀(l:List aR) (p:aF),(∀b∈l,aW b<=16)->∃X,lH p l={p with aL:=X}/\dS cB X<=dS cB p.aL+l.length*17/\bU (uX p.uN) X<=bU (uX p.uN) p.aL+l.length*17
 |[],p,_=>⟨p.aL,rfl,by simp,by simp⟩
 |b::l,p,h=>by
  obtain⟨X,e1,h1,h2⟩:=Fe p b;have hb:=h b (by simp);obtain⟨Y,e2,h3,h4⟩:=Qt l (fF p b) (λc hc=>h c (by simp[hc]));refine⟨Y,?_,?_,?_⟩
  .show lH (fF p b) l=_;rw[e2,e1]
  .rw [e1]at h3;simp only[eL]at h3⊢;omega
  .rw [e1]at h4;simp only[eL]at h4⊢;omega
def UH{n e s:Nat}{p:aF}(a:aR)(x:bG)(h:Rh n e s p):Rh (n+2800) (e+1400) s (kM p a x):=by
 rcases oL (mR a) p.aL with⟨hi,hf⟩|⟨k,hk,hi,hf⟩
 .rw [Ba hi];exact h.up (by omega) (by omega)
 .have hg:=aE hk;cases hd:p.aL[k].done
  .rw [Cx hi hg hd];have Gl:=IC (x:=x) hi hk hf;have hqs:=Zi p k hk x;have hub:=Ff p.bO (gV p p.aL[k]) x;have b1:(jU {p with aL:=p.aL.set k (jP p p.aL[k] x)} a).length<=57:=by
    rw[Lr Gl];split
    .obtain ⟨h1,_,h3⟩:=Af (jP p p.aL[k] x).body a.bN;have h4:(jP p p.aL[k] x).body.length<=400:=hub;omega
    .simp
   obtain⟨X,e1,h1,h2⟩:=Qt (jU {p with aL:=p.aL.set k (jP p p.aL[k] x)} a) {p with aL:=p.aL.set k (jP p p.aL[k] x)} (aIr _ _);have hu:bU (uX p.uN) (p.aL.set k (jP p p.aL[k] x))=bU (uX p.uN) p.aL:=XT _ _ hk _ rfl;unfold Gg;generalize (jU {p with aL:=p.aL.set k (jP p p.aL[k] x)} a).length=c at*;rw[e1];simp only at h1 h2;rw[hu]at h2;have hc:c*17<=969:=by have:=mB 17 b1;omega
   have hm:dS cB (p.aL.set k (jP p p.aL[k] x))<=dS cB p.aL+400:=by simp only[aM]at hqs;omega
   have h3:=h.ga;have h4:=h.en;refine⟨h.at_,?_,?_,h.sl⟩
   .simp only[qI,Lb,vT,aM]at h3⊢;omega
   .simp only[zN]at h4⊢;omega
  .rw [Bb hi hg hd];exact h.up (by omega) (by omega)
def lS(p:aF)(a:aR)(x:bG):aF:=fD (kM (nK p a x) a x)
def XU{n e s:Nat}{p:aF}(a:aR)(x:bG)(h:Rh n e s p)(hn:n+400*s+1445000<=500000000)(he:e+1400<=16777216)(Ju:20<=s):Rh (n+400*s+1445000) (e+1400) s (lS p a x):=by have h1:=Ls a x h;have h2:=UH a x h1;have h3:=UG h2 (by omega) he Ju;unfold lS;exact h3.up (by omega) (by omega)
def aIs{p:aF}(hs:aM p<=10000)(h1:p.aL=[])(h2:p.aD=[])(h3:p.bJ=[]):Rh 21000000 680 20 p:=by
 have OA:mY p:=by
  constructor
  .intro nd hn;have h1:=dJ qP hn;simp only[aM,aV,dS,qP]at hs h1;omega
  .intro t ht;have h1:=dJ dU ht;simp only[aM,dS,dU]at hs h1;omega
 have hp:=(Di p).2;refine⟨OA,?_,?_,by rw[h2];simp⟩
 .simp only[qI,vT,h1,h2,h3,bU,fL];omega
 .simp only[zN,h1,h3,dS,bU,fL];omega
def Eo(b:bC)(m:bE):∀k,∀x∈oZ b m k,x∈b.bD
 |0,x,h=>h
 |k+1,x,h=>by
  unfold oZ at h;split at h
  .exact tA h
  .exact Eo b m k x h
def aNf{b:bC}(t:bM)(h:IG b):IG (cZ b t).1:=by
 unfold cZ;split
 .exact ⟨h.len,h.rg.1,λy hy=>h.rg.2 y (Eo _ _ _ _ hy)⟩
 .split
  .exact h
  .split
   .exact h
   .rename_i hf;have hl:b.aJ.length<40:=by
     by_cases hh:40<=b.aJ.length
     .exact (hf (.inl hh)).elim
     .omega
    have hp:K6 (b.bD.getLastD 0):=by
     rw[getLastD_eq_getLast?];cases hg:b.bD.getLast? with
     |none=>exact UU
     |some x=>exact h.rg.2 x (mem_of_getLast? hg)
    refine⟨by simp only[eR,tB];omega,?_,?_⟩
    .intro y hy;rcases fR.1 hy with hy|hy
     .exact h.rg.1 y hy
     .simp only[mS]at hy;subst hy;unfold aHk nY;split<;>exact hp
    .intro y hy;simp only at hy;split at hy
     .rcases fR.1 hy with hy|hy
      .exact h.rg.2 y hy
      .simp only[mS]at hy;subst hy;exact aNd (by omega)
     .exact h.rg.2 y hy
def aI4{b:bC}(ss:List iX)(x:jV)(h:IG b):IG (dE b ss x).1:=by
 unfold dE;split
 .exact h
 .split
  .split
   .rename_i hn;refine⟨by simp only[eR,tB];omega,?_,h.rg.2⟩;intro y hy;rcases fR.1 hy with hy|hy
    .exact h.rg.1 y hy
    .simp only[mS]at hy;subst hy;exact UU
   .exact h
  .split
   .exact h
   .split
    .exact h
    .split<;>exact h
def X3{b:bC}(ss:List iX)(l:List jV)(h:IG b):IG (fQ b ss l).1:=by
 have key:∀(l:List jV) (s:bC×bE×List bE),IG s.1->IG (l.foldl (oW ss) s).1:=by
  intro l;induction l with
  |nil=>intro s h;exact h
  |cons x l ih=>intro s h;exact ih (oW ss s x) (aI4 ss x h)
 exact key l (b,[],[]) h
def aBr{p:aF}(l:List jV)(w:Bool)(h:IG p.aC):IG (jN p l w).aC:=X3 _ _ h
def UW{p:aF}(c:bE)(w:Bool)(h:IG p.aC):IG (gI p c w).aC:=by
 unfold gI;split
 .exact aBr _ _ h
 .exact h
def Jp(p:aF)(m:Int)(a b:bE)(n:Int):(gJ p m a b n).1.aC=p.aC:=by
 unfold gJ;split
 .rfl
 .split<;>rfl
def aI5(p:aF)(t:bM)(n:Int):(xC p t n).aC=p.aC:=by
 unfold xC;split
 .exact Jp ..
 .split
  .exact Jp ..
  .rfl
def ui(p:aF)(k:Nat)(l:List pV):(pQ p k l).aC=p.aC:=by
 unfold pQ;split
 .split<;>rfl
 .split
  .exact Jp ..
  .split
   .exact (Iy _ _).2.2.2.1
   .exact Jp ..
def aDp(p:aF)(t:bM)(q:List bM):(iV p t q).aC=(cZ p.aC t).1:=by
 unfold iV;split
 .exact ui ..
 .split
  .exact aI5 ..
  .rfl
def aI6{p:aF}(h:IG p.aC):IG (iB p).1.aC:=by
 unfold iB;split
 .exact h
 .split
  .rw [aDp];exact aNf _ h
  .exact h
def X4{p:aF}(h:IG p.aC):IG (iC p).1.aC:=by
 unfold iC;split
 .split
  .exact UW (p:=p) _ _ h
  .exact h
 .split
  .unfold xR;split
   .split
    .split
     .simp only;split
      .exact UW (p:=p) _ _ h
      .exact h
     .exact h
    .exact h
   .exact h
  .exact aI6 h
def aNg{q:aF}(b:aR)(h:IG q.aC):IG (kU q b).aC:=by
 unfold kU;split
 .exact h
 .exact aBr (p:={q with uN:=q.uN++[b]}) _ _ h
def aI7{p:aF}(L:List aR)(h:IG p.aC):∀k,IG (iR p L k).aC:=by
 have key:∀(l:List aR) (q:aF),IG q.aC->IG (l.foldl kU q).aC:=by
  intro l;induction l with
  |nil=>intro q h;exact h
  |cons x l ih=>intro q h;exact ih _ (aNg x h)
 exact λk=>key _ _ h
def aI8{p:aF}(h:IG p.aC):IG (iJ p).1.aC:=by
 unfold iJ;split
 .split
  .split
   .unfold Ci;split
    .simp only;split
     .exact UW (p:=p) _ _ h
     .exact h
    .exact h
   .exact h
  .split
   .unfold Cj;split
    .simp only;unfold nU;split
     .exact h
     .exact aI7 _ h _
    .exact h
   .unfold Ck;split<;>exact h
 .exact h
def aNh{p:aF}(h:IG p.aC):IG (mD p).1.aC:=by
 unfold mD;split
 .exact X4 h
 .exact aI8 h
def UX:∀(n:Nat) {p:aF},IG p.aC->IG (kX n p).aC
 |0,_,h=>h
 |n+1,p,h=>by
  unfold kX;split
  .exact UX n (aNh h)
  .exact h
def aI9(p:aF)(a:aR):(fF p a).aC=p.aC:=by obtain⟨X,e,_⟩:=Fe p a;rw[e]
def aNi(p:aF)(a:aR)(x:bG):(kM p a x).aC=p.aC:=by
 have key:∀(l:List aR) (q:aF),(lH q l).aC=q.aC:=by
  intro l;induction l with
  |nil=>intro q;rfl
  |cons y l ih=>intro q;exact(ih (fF q y)).trans (aI9 q y)
 rcases oL (mR a) p.aL with⟨hi,hf⟩|⟨k,hk,hi,hf⟩
 .rw [Ba hi]
 .have hg:=aE hk;cases hd:p.aL[k].done
  .rw [Cx hi hg hd];unfold Gg;rw[key]
  .rw [Bb hi hg hd]
def X5{p:aF}(a:aR)(x:bG)(h:IG p.aC):IG (lS p a x).aC:=by unfold lS fD;refine UX 2000 ?_;rw[aNi];have e:(nK p a x).aC=p.aC:=(IE p a x p.aD.length).1;rw[e];exact h
def aJa{p:aF}(h:(iJ p).2=false):(iJ p).1=p:=by
 unfold iJ at*;split at h
 .rename_i hc;rw[eM hc];split at h
  .split at h
   .unfold Ci at*;split at h
    .cases h
    .rename_i hd;rw[eC hd]
   .rfl
  .split at h
   .unfold Cj at*;split at h
    .cases h
    .rename_i hd;rw[eC hd]
   .unfold Ck at*;split at h
    .cases h
    .rename_i hd;rw[eC hd]
 .rename_i hc;rw[eC hc]
def XX{p:aF}(h:(mD p).2=false):∀n,kX n p=p
 |0=>rfl
 |n+1=>by unfold kX;rw[eC (by rw[h];simp)]
structure aNj(x:aF): Prop where
  ps:qW x = true
  os:dO sZ 0 x.aD = []
  om:dO tC 0 x.aL = []
  de:((dO jY 0 x.aD).length:Int) <= x.eH
  en:(x.bJ.length:Int) <= x.fA
  ld:x.dX = true
def Zn{x:aF}(h:qW x=true)(hl:x.dX=true):(mD x).2=false:=by
 have h0:=h;unfold qW at h;simp only[eK,fY]at h;obtain⟨⟨⟨h1,h2⟩,h3⟩,h4⟩:=h;have hq:x.bT=[]:=gO h2;have e1:iC x=(x,false):=by unfold iC;rw[eC (by simpa using h4),eC (by simpa using h3)];unfold iB;rw[hq]
 unfold mD;rw[e1,eC (by simp)];unfold iJ;rw[eC (by rw[hl];simp)]
def Dm(p:aF)(c:bE)(w:Bool):(gI p c w).dX=p.dX:=by unfold gI jN;split<;>rfl
def UY(p:aF)(L:List aR)(k:Nat):(iR p L k).dX=p.dX:=by
 unfold iR;have key:∀(l:List aR) (q:aF),(l.foldl kU q).dX=q.dX:=by
  intro l;induction l with
  |nil=>intro q;rfl
  |cons x l ih=>intro q;refine(ih (kU q x)).trans ?_;unfold kU jN;split<;>rfl
 exact key _ _
def Al(p:aF)(m:Int)(a b:bE)(n:Int):(gJ p m a b n).1.dX=p.dX:=by
 unfold gJ;split
 .rfl
 .split<;>rfl
def Wt(p:aF)(a:aR):(fF p a).dX=p.dX:=by obtain⟨X,e,_⟩:=Fe p a;rw[e]
def Pd(p:aF):(iB p).1.dX=p.dX:=by
 unfold iB;split
 .rfl
 .split
  .unfold iV;split
   .unfold pQ;split
    .split<;>rfl
    .split
     .exact Al ..
     .split
      .unfold addEntry;split
       .rfl
       .exact Wt _ _
      .exact Al ..
   .split
    .unfold xC;split
     .exact Al ..
     .split
      .exact Al ..
      .rfl
    .rfl
  .rfl
def Nt(p:aF):(iC p).1.dX=p.dX:=by
 unfold iC;split
 .split
  .exact Dm ..
  .rfl
 .split
  .unfold xR;split
   .split
    .split
     .simp only;split
      .exact Dm ..
      .rfl
     .rfl
    .rfl
   .rfl
  .exact Pd p
def Rn{p:aF}(h0:p.dX=false)(h:(iJ p).1.dX=true):aNj (iJ p).1:=by
 unfold iJ at*;split at h
 .rename_i hc;obtain⟨c1,c2,c3,c4⟩:=hc;rw[eM ⟨c1,c2,c3,c4⟩];split at h
  .split at h
   .exfalso;unfold Ci at h;split at h
    .simp only at h;split at h
     .rw [Dm,h0]at h;cases h
     .rw [h0]at h;cases h
    .rw [h0]at h;cases h
   .rw [h0]at h;cases h
  .rename_i hd;split at h
   .exfalso;unfold Cj nU at h;split at h
    .simp only at h;split at h
     .simp only at h;rw[h0]at h;cases h
     .rw [UY,h0]at h;cases h
    .rw [h0]at h;cases h
   .rename_i he;rw[tD]at hd he;unfold Ck at*;split at h
    .rename_i hz;rw[eM hz];refine⟨c1,gO hz.1,gO hz.2,?_,?_,rfl⟩
     .simp only;omega
     .simp only;omega
    .rw [h0]at h;cases h
 .rw [h0]at h;cases h
def Qw:∀(n:Nat) {p:aF},p.dX=false->(kX n p).dX=true->aNj (kX n p)
 |0,p,h0,h=>by rw[show(kX 0 p).dX=p.dX from rfl,h0]at h;cases h
 |n+1,p,h0,h=>by
  unfold kX at*;split at h
  .rename_i hs;rw[eM hs];cases hl:(mD p).1.dX
   .exact Qw n hl h
   .have e:aNj (mD p).1:=by
     unfold mD at*;split at hl
     .rw [Nt,h0]at hl;cases hl
     .rename_i hp;rw[eC hp];exact Rn h0 hl
    rw[XX (Zn e.ps e.ld)];exact e
  .rw [h0]at h;cases h
def Nu(b:bC)(ss:List iX)(l:List jV):(fQ b ss l).2.1=(l.map aDq).flatten:=by
 have one:∀(c:bC) (x:jV),(dE c ss x).2.1=aDq x:=by
  intro c x;unfold dE aDq;split
  .rfl
  .split
   .split<;>rfl
   .split
    .rfl
    .split
     .rfl
     .split<;>rfl
 have key:∀(l:List jV) (s:bC×bE×List bE),(l.foldl (oW ss) s).2.1=s.2.1++(l.map aDq).flatten:=by
  intro l;induction l with
  |nil=>intro s;simp
  |cons x l ih=>intro s;refine(ih (oW ss s x)).trans ?_;unfold oW;simp[one,rL]
 exact(key l (b,[],[])).trans (by simp)
def Grown(b b':bC):Prop:=b'.bD=b.bD/\∃X,b'.aJ=b.aJ++X/\∀x∈X,x.wV=0
def Grown.rfl'(b:bC):Grown b b:=⟨rfl,[],by simp,by simp⟩
def Grown.trans{a b c:bC}(h:Grown a b)(k:Grown b c):Grown a c:=by obtain⟨h1,X,h2,h3⟩:=h;obtain⟨k1,Y,k2,k3⟩:=k;exact⟨k1.trans h1,X++Y,by rw[k2,h2,rL],λx hx=>(fR.1 hx).elim (h3 x) (k3 x)⟩
def X6(b:bC)(ss:List iX)(x:jV):Grown b (dE b ss x).1:=by
 unfold dE;split
 .exact Grown.rfl' b
 .split
  .split
   .exact ⟨rfl,[⟨x.text,[],0,[]⟩],rfl,by simp⟩
   .exact Grown.rfl' b
  .split
   .exact Grown.rfl' b
   .split
    .exact Grown.rfl' b
    .split<;>exact Grown.rfl' b
def Nv(b:bC)(ss:List iX)(l:List jV):Grown b (fQ b ss l).1:=by
 have key:∀(l:List jV) (s:bC×bE×List bE),Grown b s.1->Grown b (l.foldl (oW ss) s).1:=by
  intro l;induction l with
  |nil=>intro s h;exact h
  |cons x l ih=>intro s h;exact ih (oW ss s x) (h.trans (X6 s.1 ss x))
 exact key l (b,[],[]) (Grown.rfl' b)
def Lu(p:aF)(c:bE)(w:Bool):Grown p.aC (gI p c w).aC:=by
 unfold gI;split
 .exact Nv _ _ _
 .exact Grown.rfl' _
def X7(p:aF)(L:List aR)(k:Nat):Grown p.aC (iR p L k).aC:=by
 have key:∀(l:List aR) (q:aF),Grown p.aC q.aC->Grown p.aC (l.foldl kU q).aC:=by
  intro l;induction l with
  |nil=>intro q h;exact h
  |cons x l ih=>
   intro q h;refine ih (kU q x) (h.trans ?_);unfold kU;split
   .exact Grown.rfl' _
   .exact Nv _ _ _
 exact key _ _ (Grown.rfl' _)
def Dp(b:bC)(os:List Int):Prop:=∀o∈os,∀x,b.aJ[o.toNat]? =some x->x.name≠dY
structure gL(p:aF): Prop where
  nd:∀ x ∈ p.aC.aJ, x.wV<(p.aC.aJ.length:Int) \/ x.wV = 0
  op:∀ o ∈ p.aC.bD, 0 <= o /\ o<(p.aC.aJ.length:Int)
  sl:∀ s ∈ p.aD, s.nI = 3 -> s.code = 1 -> NW s.body
  bl:p.block ≠ 0 -> 0<p.block /\ p.block <= 20 /\ ∃ s, p.aD[(p.block-1).toNat]? = some s /\ s.nI = 3
  il:p.dZ ≠ 0 -> NW (pR p.aC p.dZ)
  ns:p.aD.length <= 20
  ne:p.bJ.length <= 20
def BF(p:aF):Nat:=(if p.dZ=0 then 0 else 11)+(if p.block=0 then 0 else 11)
def sJ(p:aF):Nat:=(20-p.eH.toNat)+(20-p.fA.toNat)+(if p.dX=true then 0 else 1)
def Mid(p:aF):Prop:=p.dZ=0/\p.block=0/\∃os k x,p.aC.bD=os++[k]/\os≠[]/\Dp p.aC os/\1<=k/\p.aC.aJ[k.toNat]? =some x/\x.name=dY/\
 ∃c q,c.kind=2/\c.name=dY/\QB q/\((p.bT=c::q/\NW (pR p.aC k))\/∃u,p.bT=⟨3,[],[],u⟩::c::q/\NW u/\pR p.aC k=[])
def Bd(n:Nat)(p:aF):Prop:=gL p/\((QB p.bT/\Dp p.aC p.aC.bD/\mq p.bT+BF p+sJ p<=n)\/(Mid p/\mq p.bT+11+sJ p<=n))
def Bd.up{n m:Nat}{p:aF}(h:Bd n p)(hn:n<=m):Bd m p:=⟨h.1,h.2.imp (λ⟨a,b,c⟩=>⟨a,b,by omega⟩) (λ⟨a,b⟩=>⟨a,by omega⟩)⟩
def X8:NW []:=by
 intro _;have e:Qx []=[]:=by unfold Qx gM;simp
 rw[e];have e2:pF []=[]:=by unfold pF lJ Gx lD;simp
 rw[e2];simp
def Ep{b b':bC}{os:List Int}(h:Dp b os)(ho:∀o∈os,0<=o/\o<(b.aJ.length:Int))(hg:∃X,b'.aJ=b.aJ++X):Dp b' os:=by obtain⟨X,e⟩:=hg;intro o hm x hx;rw[e,oA (by have:=ho o hm;omega)]at hx;exact h o hm x hx
def gL.grown{p q:aF}(h:gL p)(hg:Grown p.aC q.aC)(h1:q.aD=p.aD)(h2:q.bJ=p.bJ)(hi:q.dZ=0)(hb:q.block=0\/q.block=p.block):gL q:=by
 obtain⟨g1,X,g2,g3⟩:=hg;refine⟨?_,?_,by rw[h1];exact h.sl,?_,λe=>(e hi).elim,by rw[h1];exact h.ns,by rw[h2];exact h.ne⟩
 .intro x hx;rw[g2]at hx⊢;rcases fR.1 hx with hx|hx
  .rcases h.nd x hx with h3|h3
   .exact .inl (by simp only[eR];omega)
   .exact .inr h3
  .exact .inr (g3 x hx)
 .rw [g1,g2];intro o ho;have:=h.op o ho;exact⟨this.1,by simp only[eR];omega⟩
 .intro jE;rcases hb with hb|hb
  .exact (jE hb).elim
  .rw [hb,h1];exact h.bl (by rw[<-hb];exact jE)
def aRo{n:Nat}{p:aF}{c:bE}(hb:gL p)(hq:QB p.bT)(hns:Dp p.aC p.aC.bD)(hc:NW c):
  QB (gI p c true).bT/\mq (gI p c true).bT<=mq p.bT+9/\Dp (gI p c true).aC (gI p c true).aC.bD:=by
 have hg:=Lu p c true;have h3:Dp (gI p c true).aC (gI p c true).aC.bD:=by rw[hg.1];exact Ep hns hb.op ⟨hg.2.choose,hg.2.choose_spec.1⟩
 refine⟨?_,?_,h3⟩
 .unfold gI;split
  .rename_i rP;show QB (jN p (gM c).1 true).bT;unfold jN;simp only[eS,Nu];exact(aBs (hc rP).2).app hq
  .exact hq
 .unfold gI;split
  .rename_i rP;show mq (jN p (gM c).1 true).bT<=_;unfold jN;simp only[eS,Nu];have h1:=(hc rP).1;have h2:=aBt (hc rP).2;change mq (pF (Qx c)++p.bT)<=_;rw[Zo];omega
  .show mq p.bT<=_;omega
def gL.slot{p:aF}(h:gL p)(m:Int)(a b:bE)(n:Int):gL (gJ p m a b n).1:=by
 have key:∀s:qF,s.code≠1->p.aD.length<20->gL {p with aD:=p.aD++[s]}:=by
  intro s hs hl;refine⟨h.nd,h.op,?_,?_,h.il,by simp only[eR,tB];omega,h.ne⟩
  .intro x hx;rcases fR.1 hx with hx|hx
   .exact h.sl x hx
   .simp only[mS]at hx;subst hx;exact λ_ hc=>(hs hc).elim
  .intro hb;obtain⟨h1,h2,s0,h3,h4⟩:=h.bl hb;exact⟨h1,h2,s0,by rw[oA (cU.1 h3).1];exact h3,h4⟩
 unfold gJ;split
 .exact h
 .rename_i hf;have hl:p.aD.length<20:=by
   by_cases h2:20<=p.aD.length
   .exact (hf (.inl h2)).elim
   .omega
  split
  .exact key _ (by simp) hl
  .exact key _ (by simp) hl
def Cn(p:aF)(m:Int)(a b:bE)(n:Int):(gJ p m a b n).1.aC=p.aC/\(gJ p m a b n).1.bT=p.bT/\(gJ p m a b n).1.dZ=p.dZ/\(gJ p m a b n).1.block=p.block/\sJ (gJ p m a b n).1=sJ p:=by
 unfold gJ;split
 .exact ⟨rfl,rfl,rfl,rfl,rfl⟩
 .split<;>exact⟨rfl,rfl,rfl,rfl,rfl⟩
def gL.tree{p:aF}{b:bC}(h:gL p)(q:List bM)(hi:p.dZ=0)(hn:∀x∈b.aJ,x.wV<(b.aJ.length:Int)\/x.wV=0)(ho:∀o∈b.bD,0<=o/\o<(b.aJ.length:Int)):gL {p with bT:=q,aC:=b}:=
 ⟨hn,ho,h.sl,h.bl,λe=>(e hi).elim,h.ns,h.ne⟩
def uj{os:List Int}(h:os≠[]):os.getLastD 0∈os:=by
 rw[getLastD_eq_getLast?];cases hg:os.getLast? with
 |none=>rw[getLast?_eq_none_iff]at hg;exact(h hg).elim
 |some x=>exact mem_of_getLast? hg
def Qy(b:bC)(t:bM):(nY b t).wV=b.bD.getLastD 0:=by unfold nY;split<;>rfl
def UZ{p:aF}(h:gL p)(t:bM)(q:List bM)(hi:p.dZ=0):gL {p with bT:=q,aC:=(cZ p.aC t).1}:=by
 unfold cZ;split
 .exact h.tree q hi h.nd λo ho=>h.op o (Eo _ _ _ _ ho)
 .split
  .exact h.tree q hi h.nd h.op
  .split
   .exact h.tree q hi h.nd h.op
   .rename_i hf;have jE:p.aC.bD≠[]:=λe=>hf (.inr (.inl e))
    refine h.tree q hi ?_ ?_
    .intro x hx;rcases fR.1 hx with hx|hx
     .rcases h.nd x hx with h3|h3
      .exact .inl (by simp only[eR,tB];omega)
      .exact .inr h3
     .simp only[mS]at hx;subst hx;have:=(h.op _ (uj jE)).2;rw[Qy];exact .inl (by simp only[eR,tB];omega)
    .intro o ho;simp only[eR,tB];simp only at ho;split at ho
     .rcases fR.1 ho with ho|ho
      .have:=h.op o ho;omega
      .simp only[mS]at ho;subst ho;omega
     .have:=h.op o ho;omega
def aDr{p:aF}(h:gL p)(hns:Dp p.aC p.aC.bD)(t:bM)(ht:t.name≠dY\/t.kind=2):Dp (cZ p.aC t).1 (cZ p.aC t).1.bD:=by
 unfold cZ;split
 .exact λo ho=>hns o (Eo _ _ _ _ ho)
 .rename_i hk;have ht:t.name≠dY:=ht.resolve_right hk;split
  .exact hns
  .split
   .exact hns
   .intro o ho x hx;simp only at ho hx;have old:o∈p.aC.bD->x.name≠dY:=λhm=>by
     rw[oA (by have:=h.op o hm;omega)]at hx;exact hns o hm x hx
    split at ho
    .rcases fR.1 ho with ho|ho
     .exact old ho
     .simp only[mS]at ho;subst ho;simp only[oB,lO (eJ _),tU,sR,eI]at hx;subst hx;unfold nY;split
      .exact ht
      .simp [dY]
    .exact old ho
def II{b:bC}{t:bM}(h:Dp b b.bD):qH b t=none:=by
 unfold qH;split
 .split
  .rename_i n hn;rw[eC];rintro⟨h1,h2⟩;rw[Option.any_eq_true]at h2;obtain⟨x,hx,he⟩:=h2;exact h n (mem_of_getLast? hn) x hx (by simpa using he)
  .rfl
 .rfl
def aRp(t:bM)(q:List bM):mq q+1<=mq (t::q):=by rw[mq];split<;>omega
def uk{n:Nat}{p:aF}{t:bM}{q:List bM}(h:gL p)(hi:p.dZ=0)(hb:p.block=0)(hq:p.bT=t::q)(XY:QB q)(hns:Dp p.aC p.aC.bD)(ht:t.name≠dY\/t.kind=2)
  (hn:mq p.bT+BF p+sJ p<=n):0<n/\Bd (n-1) (iV p t q):=by
 have hp:=aRp t q;rw[hq]at hn;have hb1:=UZ h t q hi;have hn1:=aDr h hns t ht;unfold iV;rw[II hns];simp only;have fin:∀r:aF,gL r->r.bT=q->r.aC=(cZ p.aC t).1->r.dZ=p.dZ->r.block=p.block->sJ r=sJ p->Bd (n-1) r:=by
  intro r h1 h2 h3 h4 h5 h6;refine⟨h1,.inl ⟨by rw[h2];exact XY,by rw[h3];exact hn1,?_⟩⟩;have:BF r=BF p:=by unfold BF;rw[h4,h5]
  rw[h2,this,h6];omega
 refine⟨by omega,?_⟩;split
 .unfold xC;split
  .obtain ⟨a1,a2,a3,a4,a5⟩:=Cn {p with bT:=q,aC:=(cZ p.aC t).1} 2 (aX t.iH Bz).1 (aX t.iH fC).1 (cZ p.aC t).2;exact fin _ (hb1.slot ..) a2 a1 a3 a4 a5
  .split
   .obtain ⟨a1,a2,a3,a4,a5⟩:=Cn {p with bT:=q,aC:=(cZ p.aC t).1} 1 (aX t.iH qB).1 (aX t.iH fC).1 (cZ p.aC t).2;exact fin _ (hb1.slot ..) a2 a1 a3 a4 a5
   .exact fin _ hb1 rfl rfl rfl rfl rfl
 .exact fin _ hb1 rfl rfl rfl rfl rfl
end Go.Proofs.YtanobkmhbpjnpaaGreatDoor
