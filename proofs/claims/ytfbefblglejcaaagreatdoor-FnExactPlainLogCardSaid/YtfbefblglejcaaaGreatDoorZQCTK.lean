/-
  Proved here: steps towards the statement of this claim, text QCTK.
  No condition beyond what each statement spells out.
-/
import Derived.Test.YtfbefblglejcaaaGreatDoorZQSTP
import Derived.Test.YtfbefblglejcaaaGreatDoorZQJ7
import Derived.Test.YtfbefblglejcaaaGreatDoorZQKE0
set_option linter.all false
set_option maxRecDepth 8000
set_option maxHeartbeats 8000000
namespace Go.Proofs.YtfbefblglejcaaaGreatDoor
open Go.Aw Proofs.Tryz List IntKind
def wV(p:aG):aG×Bool:=if (jE p).2=true then jE p else nX p
def qA:Nat->aG->aG
 |0,p=>p
 |n+1,p=>if (wV p).2=true then qA n (wV p).1 else p
def advance(p:aG):aG:=qA 2000 p
theorem T9(s b:bB):aR (bZ s b).1<=16:=by
 unfold bZ;split
 .rename_i h;simp only[oZ,dA,eJ,fR]at h;simp only[aR];omega
 .simp [aR,wZ]
def kW(p:aG):Prop:=(∀nd∈p.builder.nodes,bA oU nd.attrs<=1048576)/\∀t∈p.queue,bA oU t.attrs<=1048576
def tC(r:List aK)(m:dX):Nat:=if r.any (iO m.to)=true then 0 else 1+aR m.to
def uF(p:aG):Nat:=bA (tC p.tX) p.aN
def nY(p:aG):Nat:=Km p+uF p+1048593*(20-p.aB.length)+51*(20-p.entries.length)
def Cn(p:aG):Nat:=bQ bK p.aN+bQ aR p.entries+34*(20-p.entries.length)
def keeps(p q:aG):Prop:=kW q/\nY q<=nY p/\Cn q<=Cn p/\q.aB.length<=max p.aB.length 20
def Dj(p q:aG):Prop:=kW q/\nY q<=nY p+721/\Cn q<=Cn p/\q.aB.length<=max p.aB.length 20
theorem WW{p:aG}(h:kW p):keeps p p:=⟨h,eE _,eE _,by omega⟩
theorem pR{p:aG}(h:kW p):Dj p p:=⟨h,by omega,by omega,by omega⟩
theorem zZ(p:aG)(md:Int)(tx dg:bB)(nd:Int)(hd:dg.length<=1048576):nY (gP p md tx dg nd).1<=nY p/\Cn (gP p md tx dg nd).1=Cn p/\(gP p md tx dg nd).1.aB.length<=max p.aB.length 20/\(gP p md tx dg nd).1.builder=p.builder/\(gP p md tx dg nd).1.queue=p.queue:=by
 have h16:=T9 tx p.addr.host;unfold gP;split
 .exact ⟨eE _,rfl,by simp only;omega,rfl,rfl⟩
 .rename_i h;have hn:p.aB.length<20:=by
   by_cases h2:20<=p.aB.length
   .exact (h (.inl h2)).elim
   .omega
  split
  .refine ⟨?_,rfl,by simp only[eR,eN,eV];omega,rfl,rfl⟩;simp only[nY,Km,uF,aI,bQ,eR,jA,bA,kZ,eN,eV];omega
  .refine ⟨?_,rfl,by simp only[eR,eN,eV];omega,rfl,rfl⟩;simp only[nY,Km,uF,aI,bQ,eR,jA,bA,kZ,eN,eV];omega
theorem aBq(p:aG)(a:aK):(Cc p a).to=a/\bK (Cc p a)=aR a:=by unfold Cc;split<;>exact⟨rfl,by simp[bK]⟩
theorem ko(p:aG)(a:aK):∃X,eP p a={p with aN:=X}/\bQ bK X<=bQ bK p.aN+1+aR a/\bA (tC p.tX) X<=bA (tC p.tX) p.aN+1+aR a:=by
 obtain⟨h1,h2⟩:=aBq p a;have h3:tC p.tX (Cc p a)<=1+aR a:=by unfold tC;rw[h1];split<;>omega
 have key:∀k,bQ bK (wC p a k)<=bQ bK p.aN+1+aR a/\bA (tC p.tX) (wC p a k)<=bA (tC p.tX) p.aN+1+aR a:=by
  intro k;have e1:bA bK (p.aN.take k)+bA bK (p.aN.drop k)=bA bK p.aN:=by rw[<-jA,oA]
  have e2:bA (tC p.tX) (p.aN.take k)+bA (tC p.tX) (p.aN.drop k)=bA (tC p.tX) p.aN:=by rw[<-jA,oA]
  have e3:(p.aN.take k).length+(p.aN.drop k).length=p.aN.length:=by rw[<-eR,oA]
  unfold wC;simp only[bQ,eR,eN,jA,bA];omega
 unfold eP;split
 .split
  .exact ⟨p.aN,rfl,by omega,by omega⟩
  .exact ⟨_,rfl,(key _).1,(key _).2⟩
 .exact ⟨_,rfl,(key _).1,(key _).2⟩
theorem TN(p:aG)(tx:bB):nY (addEntry p tx)<=nY p/\Cn (addEntry p tx)<=Cn p/\(addEntry p tx).aB=p.aB/\(addEntry p tx).builder=p.builder/\(addEntry p tx).queue=p.queue:=by
 have h16:=T9 tx p.addr.host;obtain⟨X,hX,x1,x2⟩:=ko p (bZ tx p.addr.host).1;unfold addEntry;split
 .exact ⟨eE _,eE _,rfl,rfl,rfl⟩
 .rename_i h;have hn:p.entries.length<20:=by
   by_cases h2:20<=p.entries.length
   .exact (h (.inr h2)).elim
   .omega
  rw[hX];generalize (bZ tx p.addr.host).1=a at*;refine⟨?_,?_,rfl,rfl,rfl⟩
  .simp only[bQ]at x1;simp only[nY,Km,uF,aI,bQ,eR,jA,bA,eN,eV];omega
  .simp only[bQ]at x1;simp only[Cn,bQ,eR,jA,bA,eN,eV];omega
theorem zR{p q:aG}(h:kW p)(h1:q.builder=p.builder)(h2:q.queue=p.queue):kW q:=by unfold kW at*;rw[h1,h2];exact h
theorem kr(p:aG)(t:bT)(n:Int)(h:kW p)(ht:bA oU t.attrs<=1048576):keeps p (AQ p t n):=by
 have z1:=mW t.attrs dR;obtain⟨a1,a2,a3,a4,a5⟩:=zZ p 2 (aW t.attrs Bd).1 (aW t.attrs dR).1 n (by omega);obtain⟨b1,b2,b3,b4,b5⟩:=zZ p 1 (aW t.attrs oP).1 (aW t.attrs dR).1 n (by omega);unfold AQ;split
 .exact ⟨zR h a4 a5,by omega,by omega,a3⟩
 .split
  .exact ⟨zR h b4 b5,by omega,by omega,b3⟩
  .exact WW h
theorem TP(p:aG)(k:Nat)(l:List oN)(h:kW p)(hl:bA oU l<=1048576):keeps p (sV p k l):=by
 have z1:=mW l dR;obtain⟨a1,a2,a3,a4,a5⟩:=zZ p 4 (aW l oP).1 (aW l dR).1 ((k:Nat):Int) (by omega);obtain⟨b1,b2,b3,b4,b5⟩:=zZ p 3 (aW l oP).1 (aW l dR).1 ((k:Nat):Int) (by omega);obtain⟨e1,e2,e3,e4,e5⟩:=TN p (aW l oP).1;unfold sV;split
 .split
  .exact ⟨h,by show nY p<=_;omega,by show Cn p<=_;omega,by show p.aB.length<=_;omega⟩
  .exact WW h
 .split
  .exact ⟨zR h a4 a5,by omega,by omega,a3⟩
  .split
   .exact ⟨zR h e4 e5,by omega,e2,by rw[e3];omega⟩
   .refine ⟨zR h b4 b5,?_,?_,b3⟩
    .show nY (gP p 3 (aW l oP).1 (aW l dR).1 ((k:Nat):Int)).1<=_;omega
    .show Cn (gP p 3 (aW l oP).1 (aW l dR).1 ((k:Nat):Int)).1<=_;omega
theorem TQ(b:bE)(t:bT):(addToken b t).1.nodes=b.nodes\/(addToken b t).1.nodes=b.nodes++[uB b t]:=by
 unfold addToken;split
 .exact .inl rfl
 .split
  .exact .inl rfl
  .split
   .exact .inl rfl
   .exact .inr rfl
theorem ku{p:aG}{t:bT}{q:List bT}(hq:p.queue=t::q)(h:kW p):Dj p {p with queue:=q,builder:=(addToken p.builder t).1}/\nY {p with queue:=q,builder:=(addToken p.builder t).1}<=nY p+2:=by
 have h1:=uM hq;have ht:bA oU t.attrs<=1048576:=h.2 t (by rw[hq];simp);have hn:=TQ p.builder t;have hg:nY {p with queue:=q,builder:=(addToken p.builder t).1}<=nY p+2:=by
  have hl:p.builder.nodes.length<=(addToken p.builder t).1.nodes.length:=by
   rcases hn with hn|hn<;>rw[hn]
   .exact eE _
   .simp
  simp only[nY,Km,uF]at*;omega
 refine⟨⟨⟨?_,λx hx=>h.2 x (by rw[hq];simp[show x∈q from hx])⟩,by omega,eE _,by simp only;omega⟩,hg⟩;intro nd hnd;rcases hn with hn|hn
 .exact h.1 nd (by rw[<-hn];exact hnd)
 .have Xn:nd∈p.builder.nodes++[uB p.builder t]:=by rw[<-hn];exact hnd
  rcases fL.1 Xn with h2|h2
  .exact h.1 nd h2
  .simp only[rI]at h2;subst h2;unfold uB;split
   .exact ht
   .simp [bA]
theorem TR{p q r:aG}(h1:nY q<=nY p+2/\Cn q<=Cn p/\q.aB.length<=max p.aB.length 20)(hr:kW r)(h2:nY r<=nY q)(h3:Cn r<=Cn q)(h4:r.aB.length<=max q.aB.length 20):Dj p r:=⟨hr,by omega,by omega,by omega⟩
theorem Qd(p:aG)(h:kW p):Dj p (iJ p).1:=by
 unfold iJ;split
 .exact pR h
 .rename_i t q hq;split
  .obtain ⟨⟨g1,g2,g3,g4⟩,g5⟩:=ku hq h;have ht:bA oU t.attrs<=1048576:=h.2 t (by rw[hq];simp);simp only;unfold jP;generalize hp1:({p with queue:=q,builder:=(addToken p.builder t).1}:aG)=p1 at*;split
   .rename_i k hk;have hl:bA oU ((p.builder.nodes[k]?).elim [] (·.attrs))<=1048576:=by
     cases hg:p.builder.nodes[k]? with
     |none=>simp[bA]
     |some nd=>exact h.1 nd (mT hg)
    obtain⟨e1,e2,e3,e4⟩:=TP p1 k ((p.builder.nodes[k]?).elim [] (·.attrs)) g1 hl;exact TR ⟨g5,g3,g4⟩ e1 e2 e3 e4
   .split
    .obtain ⟨e1,e2,e3,e4⟩:=kr p1 t (addToken p.builder t).2 g1 ht;exact TR ⟨g5,g3,g4⟩ e1 e2 e3 e4
    .exact ⟨g1,g2,g3,g4⟩
  .exact pR h
theorem Qe(b:bE)(ss:List gQ)(l:List jT):∀nd∈(eF b ss l).1.nodes,nd∈b.nodes\/nd.attrs=[]:=by
 have one:∀(c:bE) (x:jT),∀nd∈(bU c ss x).1.nodes,nd∈c.nodes\/nd.attrs=[]:=by
  intro c x nd h;unfold bU at h;split at h
  .exact .inl h
  .split at h
   .split at h
    .rcases fL.1 h with h|h
     .exact .inl h
     .simp only[rI]at h;subst h;exact .inr rfl
    .exact .inl h
   .split at h
    .exact .inl h
    .split at h
     .exact .inl h
     .split at h<;>exact .inl h
 have key:∀(l:List jT) (s:bE×bB×List bB),(∀nd∈s.1.nodes,nd∈b.nodes\/nd.attrs=[])->∀nd∈(l.foldl (tZ ss) s).1.nodes,nd∈b.nodes\/nd.attrs=[]:=by
  intro l;induction l with
  |nil=>intro s h;exact h
  |cons x l ih=>
   intro s h;refine ih (tZ ss s x) (λnd hn=> ?_);rcases one s.1 x nd hn with h2|h2
   .exact h nd h2
   .exact .inr h2
 exact key l (b,[],[]) (λnd h=> .inl h)
theorem Jl(p:aG)(l:List jT)(wr:Bool)(hs:aI p<=536870912)(h6:l.length<=6)(hx:∀x∈l,x.text.length<=60)(h:kW p):kW (lN p l wr)/\Km (lN p l wr)<=Km p+(if wr=true then 721 else 0):=by
 have hsb:aT p.builder<=536870912:=by simp only[aI]at hs;omega
 obtain⟨z1,z2,z3,z4⟩:=BQ 60 p.builder (dG p) l (by omega) h6 hx (xN p) (by omega) l.length (eE _);have hend:sU p.builder (dG p) l l.length=eF p.builder (dG p) l:=by simp[sU]
 rw[hend]at z2;have hnd:=Qe p.builder (dG p) l;obtain⟨y1,y2⟩:=GH (eF p.builder (dG p) l).2.1;have hp:=Mq p l hs hx;unfold lN at hp⊢;generalize eF p.builder (dG p) l=g at*;obtain⟨b,w,lg⟩:=g;simp only[eS,gS]at*;generalize hk:vN w=tk at*;refine⟨⟨?_,?_⟩,?_⟩
 .intro nd hn;rcases hnd nd hn with h2|h2
  .exact h.1 nd h2
  .rw [h2];simp[bA]
 .intro t ht;simp only at ht;have h1:t∈tk\/t∈p.queue:=by
   split at ht
   .exact fL.1 ht
   .exact .inr ht
  rcases h1 with h1|h1
  .have h2:=bS bX h1;have h3:bA oU t.attrs<=bX t:=by simp only[bX,bQ];omega
   omega
  .exact h.2 t h1
 .cases wr
  .simpa using hp
  .simp only[Km,aI,bQ,gC,eR,jA]at hp⊢;omega
theorem Kn(l:List bB)(s:bB)(h:s.length<=90):bQ gG (jY l s)+91*(40-(jY l s).length)<=bQ gG l+91*(40-l.length):=TK l [s] (by simpa using h)
theorem Du(p:aG)(c:bB)(wr:Bool)(hs:aI p<=536870912)(h:kW p):Dj p (lT p c wr):=by
 obtain⟨b1,b2⟩:=zX c;unfold lT;split
 .obtain ⟨h1,h2⟩:=Jl p (fZ c).1 wr hs b1 b2 h;refine⟨h1,?_,eE _,by show p.aB.length<=_;omega⟩;have e:uF (lN p (fZ c).1 wr)=uF p:=rfl;have e2:(lN p (fZ c).1 wr).aB=p.aB:=rfl;have e3:(lN p (fZ c).1 wr).entries=p.entries:=rfl;have h3:(if wr=true then 721 else 0)<=721:=by split<;>omega
  simp only[nY,e,e2,e3];omega
 .have h1:=Kn p.log NR (by simp[NR]);refine⟨h,?_,eE _,by show p.aB.length<=_;omega⟩;simp only[nY,Km,uF,aI]at*;omega
theorem kz(r:List aK)(b:aK)(m:dX):tC (r++[b]) m<=tC r m:=by unfold tC;rw[any_append];cases r.any (iO m.to)<;>simp;split<;>omega
theorem WX(r:List aK)(b:aK):∀l:List dX,bA (tC (r++[b])) l<=bA (tC r) l
 |[]=>eE _
 |m::l=>by have:=kz r b m;have:=WX r b l;simp only[bA];omega
theorem WY(r:List aK)(b:aK)(hr:r.any (iO b)=false):∀l:List dX,b∈l.map (·.to)->bA (tC (r++[b])) l+1+aR b<=bA (tC r) l
 |[],h=>by simp at h
 |m::l,h=>by
  simp only[mC,lB]at h;by_cases hb:b=m.to
  .have h1:=WX r b l;have e1:tC r m=1+aR b:=by unfold tC;rw[<-hb,hr];simp
   have e2:tC (r++[b]) m=0:=by unfold tC;rw[<-hb,any_append];simp[iO]
   simp only[bA];omega
  .have h1:=WY r b hr l (by rcases h with h|h;exact(hb h).elim;exact h);have h2:=kz r b m;simp only[bA];omega
theorem ll(q:aG)(b:aK)(hs:aI q+1+aR b<=536870912)(hm:b∈q.aN.map (·.to))(h:kW q):kW (rV q b)/\Km (rV q b)+uF (rV q b)<=Km q+uF q:=by
 unfold rV;split
 .exact ⟨h,eE _⟩
 .rename_i hr;obtain⟨b1,b2⟩:=Di (zQ q b) b.host;have hr2:q.tX.any (iO b)=false:=by simpa using hr
  have h3:=WY q.tX b hr2 q.aN hm;have hz:aI {q with tX:=q.tX++[b]}=aI q+1+aR b:=by simp only[aI,bQ,eR,jA,bA,eN,eV];omega
  obtain⟨k1,k2⟩:=Jl {q with tX:=q.tX++[b]} (bH (zQ q b) b.host).2.1 false (by omega) b1 b2 h;refine⟨k1,?_⟩;have e:uF (lN {q with tX:=q.tX++[b]} (bH (zQ q b) b.host).2.1 false)=bA (tC (q.tX++[b])) q.aN:=rfl;have e2:Km {q with tX:=q.tX++[b]}=Km q+1+aR b:=by simp only[Km,hz];omega
  have e3:uF q=bA (tC q.tX) q.aN:=rfl;rw[e,e3];rw[e2]at k2;simp only[eS,gS]at k2;omega
theorem Mv(p:aG)(L:List aK)(hL:aI p+6120+bQ aR L<=536870912)(hm:∀b∈L,b∈p.aN.map (·.to))(h:kW p):∀k,k<=L.length->kW (jH p L k)/\Km (jH p L k)+uF (jH p L k)<=Km p+uF p/\(jH p L k).entries=p.entries
 |0,_=>⟨h,eE _,rfl⟩
 |k+1,hk=>by
  obtain⟨h1,h2,h3⟩:=Mv p L hL hm h k (by omega);obtain⟨f1,f2,f3⟩:=wQ p L hL k (by omega);have hp:=(Cm p).2;have hq:=(Cm (jH p L k)).1;have hb:=hm L[k] (fS (by omega));have e1:bQ aR (L.take (k+1))=bQ aR (L.take k)+1+aR L[k]:=by rw[eI (show k<L.length by omega)];simp only[bQ,eR,eN,eV,jA,bA];omega
  have e2:bQ aR (L.take (k+1))<=bQ aR L:=by have:=zO aR L (k+1);simp only[bQ,oS];omega
  obtain⟨k1,k2⟩:=ll (jH p L k) L[k] (by omega) (by rw[f2];exact hb) h1;rw[Bp p L k (by omega)];refine⟨k1,by omega,?_⟩;rw[<-h3];unfold rV lN;split<;>rfl
theorem lq(p:aG)(a:aK)(hs:aI p<=500000000)(hm:bQ bK p.aN+aR a<=16777216)(h:kW p):keeps p (oH p a):=by
 unfold oH;split
 .have hf:=Ch a;have h1:=Kn p.log (TJ++mK a) (by simp only[TJ,eR,eN,eV];omega);refine⟨h,?_,eE _,by show p.aB.length<=_;omega⟩;simp only[nY,Km,uF,aI]at*;omega
 .rename_i hf;obtain⟨r1,r2,r3⟩:=GZ p a hm (by simpa using hf);obtain⟨k1,k2,k3⟩:=Mv p (dY p a) (by omega) (λb hb=>TL (r3 b hb)) h _ (eE _);obtain⟨f1,f2,f3⟩:=wQ p (dY p a) (by omega) _ (eE _);generalize jH p (dY p a) (dY p a).length=q at*;refine⟨k1,?_,?_,by rw[f3];omega⟩
  .simp only[nY,f3,k3];omega
  .simp only[Cn,f2,k3];omega
theorem Qf(p:aG)(k:Int)(hs:aI p<=536870912)(h:kW p):Dj p (BB p k).1:=by
 have hb:∀q:aG,Dj p q->Dj p {q with block:=0}:=λq hq=>hq
 unfold BB;split
 .split
  .rename_i s _;split
   .simp only;split
    .exact hb _ (Du p s.body true hs h)
    .exact hb _ (pR h)
   .exact pR h
  .exact hb _ (pR h)
 .exact hb _ (pR h)
theorem Oa(p:aG)(hs:aI p<=536870912)(h:kW p):Dj p (jE p).1:=by
 unfold jE;split
 .split
  .exact (show Dj p {lT p (Cg p.builder p.inline) true with inline:=0}from Du p _ true hs h)
  .exact pR h
 .split
  .exact Qf p _ hs h
  .exact Qd p h
theorem TS(p:aG)(hs:aI p<=500000000)(hme:bQ bK p.aN+bQ aR p.entries<=16777216)(h:kW p):Dj p (nX p).1:=by
 unfold nX;split
 .split
  .split
   .rename_i s _;unfold Mr;split
    .simp only;split
     .exact (show Dj p {lT p s.body false with deferred:=p.deferred+1}from Du p s.body false (by omega) h)
     .exact (show Dj p {p with deferred:=p.deferred+1}from pR h)
    .exact pR h
   .exact pR h
  .split
   .rename_i a hg;have h1:=bS aR (mT hg);have h2:bA aR p.entries<=bQ aR p.entries:=by simp only[bQ];omega
    obtain⟨k1,k2,k3,k4⟩:=lq p a hs (by omega) h;unfold Ms;split
    .refine ⟨k1,?_,k3,k4⟩;show nY (oH p a)<=_;omega
    .exact pR h
   .unfold Mt;split
    .have h1:=Kn p.log TM (by simp[TM]);refine⟨h,?_,eE _,by show p.aB.length<=_;omega⟩;simp only[nY,Km,uF,aI]at*;omega
    .exact pR h
 .exact pR h
structure aLn(k:Nat)(q:aG): Prop where
  at_:kW q
  ga:nY q <= 25000000+721*k
  en:Cn q <= 2000000
  sl:q.aB.length <= 1048576
theorem aLn.sz{k:Nat}{q:aG}(h:aLn k q)(hk:k<=2000):aI q<=27000000/\bQ bK q.aN+bQ aR q.entries<=16777216:=by have h1:=h.ga;have h2:=h.en;have h3:=(Cm q).1;simp only[nY,Cn]at h1 h2;omega
theorem aGp{k:Nat}{q:aG}{r:aG}(hk:k<2000)(h:qA (2000-k) q=r):((wV q).2=true->qA (2000-(k+1)) (wV q).1=r)/\((wV q).2=false->q=r):=by
 obtain⟨n,hn⟩:∃n,2000-k=n+1:=⟨1999-k,by omega⟩;rw[hn]at h;have e:2000-(k+1)=n:=by omega
 rw[e];unfold qA at h;constructor
 .intro h2;rw[eK h2]at h;exact h
 .intro h2;rw[h2]at h;simpa using h
def gZ(p:aG)(a:aK)(x:aZ):Nat->aG
 |0=>p
 |k+1=>match p.aB[k]? with
  |some s=>if s.to=a then iL (gZ p a x k) k x else gZ p a x k
  |none=>gZ p a x k
def lU(p:aG)(a:aK)(x:aZ):aG:=gZ p a x p.aB.length
theorem WZ(p:aG)(k:Int)(x:aZ):(iL p k x).aB.length=p.aB.length/\(iL p k x).bD=p.bD/\(iL p k x).addr=p.addr:=by
 unfold iL;split
 .split
  .split
   .exact ⟨rfl,rfl,rfl⟩
   .simp
  .exact ⟨rfl,rfl,rfl⟩
 .exact ⟨rfl,rfl,rfl⟩
theorem aKe(p:aG)(k:Int)(x:aZ)(j:Nat)(h:(j:Int)≠k):(iL p k x).aB[j]? =p.aB[j]?:=by
 unfold iL;split
 .split
  .split
   .rfl
   .simp only;rw[lE (by omega)]
  .rfl
 .rfl
theorem En(p:eU)(r:fV)(x:aZ):(jF p r x).length<=400:=by
 unfold jF;split
 .rename_i h;unfold dS at h;split at h
  .omega
  .split at h
   .omega
   .rename_i h2;have h3:fQ x=true:=by
     cases h4:fQ x with
     |true=>rfl
     |false=>exact absurd (.inl h4) h2
    simp only[fQ,eJ,fR]at h3;exact h3.1.1.2
 .simp
theorem aGr(p:aG)(k:Int)(x:aZ):aI (iL p k x)<=aI p+400:=by
 unfold iL;split
 .split
  .rename_i s hg;split
   .omega
   .have hb:=En p.bD (fM p s) x;have h1:bA kZ (p.aB.set k.toNat (filled p s x))<=bA kZ p.aB+400:=by
     have:∀(l:List pJ) (i:Nat) (s s':pJ),l[i]? =some s->kZ s'<=kZ s+400->bA kZ (l.set i s')<=bA kZ l+400:=by
      intro l;induction l with
      |nil=>intro i s s' h;simp at h
      |cons y l ih=>
       intro i s s' h hs;cases i with
       |zero=>simp at h;subst h;simp only[cU,bA];omega
       |succ i=>have:=ih i s s' (by simpa using h) hs;simp only[cW,bA];omega
     refine this _ _ s _ hg ?_;simp only[kZ,filled];omega
    simp only[aI,bQ,length_set]at*;omega
  .omega
 .omega
theorem yX(p:aG)(a:aK)(x:aZ):∀k,(gZ p a x k).aB.length=p.aB.length/\(∀j,k<=j->(gZ p a x k).aB[j]? =p.aB[j]?)/\aI (gZ p a x k)<=aI p+k*400
 |0=>⟨rfl,λ_ _=>rfl,by simp[gZ]⟩
 |k+1=>by
  obtain⟨h1,h2,h3⟩:=yX p a x k;simp only[gZ];split
  .split
   .refine ⟨by rw[(WZ _ _ _).1];exact h1,λj hj=>by rw[aKe _ _ _ _ (by omega)];exact h2 j (by omega),?_⟩
    have:=aGr (gZ p a x k) k x;omega
   .exact ⟨h1,λj hj=>h2 j (by omega),by omega⟩
  .exact ⟨h1,λj hj=>h2 j (by omega),by omega⟩
theorem Ps{p:aG}{a:aK}{x:aZ}{k:Nat}(h:k<p.aB.length):gZ p a x (k+1)=if p.aB[k].to=a then iL (gZ p a x k) k x else gZ p a x k:=by simp only[gZ];rw[aE h]
def lQ(q:aG):List aM:=[⟨true,false,1,1,q.bD.fC.map bW⟩,⟨true,false,1,1,q.bD.gX.map bW⟩,⟨true,false,1,1,q.bD.gY.map bW⟩,⟨true,false,4,1,q.queue.map (cZ .own)⟩,⟨true,false,4,1,q.builder.nodes.map (fA .own)⟩,⟨true,false,1,1,q.builder.opens.map mG⟩,⟨true,false,8,1,q.aB.map vC⟩,⟨true,false,5,1,q.aN.map eX⟩,⟨true,false,2,1,q.entries.map aL⟩,⟨true,false,2,1,q.tX.map aL⟩,⟨true,false,1,1,q.log.map bW⟩]
def jG(b:Nat)(q:aG):List AV:=[.str q.addr.host,.str q.addr.path,.bool q.bD.isSet,.obj b 1,.obj (b+1) 1,.obj (b+2) 1,.str q.bD.tK,.str q.tok.rest,.obj (b+3) 1,.bool q.ended,.obj (b+4) 1,.obj (b+5) 1,.obj (b+6) 1,.obj (b+7) 1,.obj (b+8) 1,.int .i64 q.block,.int .i64 q.inline,.int .i64 q.deferred,.int .i64 q.iA,.obj (b+9) 1,.obj (b+10) 1,.bool q.oW]
def Dv:List (Nat×Nat):=[(4,16),(5,17),(6,18),(7,19),(8,20),(9,21),(10,22),(11,23),(12,24),(13,25),(14,26)]
theorem E5{t t':List AV}{o0 o1 o2 o3:aM}(q0 q:aG)(ht:∀z∈Dv,wk (rD z.1 z.2 t') t')(hf:∀z∈Dv,o0.lL z.1 z.2=o0/\o1.lL z.1 z.2=o1/\o2.lL z.1 z.2=o2/\o3.lL z.1 z.2=o3)(hw:wk t t')(hc:eT 16 t'=true)(hc0:dC 16 [o0,o1,o2,o3]=true):
  lY ⟨t,[o0,o1,o2,o3]++lQ q0++[⟨true,true,22,0,[jG 16 q]⟩]++lQ q⟩ ⟨t',[o0,o1,o2,o3]++lQ q++[⟨true,true,22,0,[jG 4 q]⟩]⟩:=by
 have e:=λi j (h:(i,j)∈Dv)=>hf (i,j) h
 have h:=λi j (h:(i,j)∈Dv)=>ht (i,j) h
 simp only[lQ,jG,eA,eM];refine(wF hw).trans ?_;refine(aS 4 16 rfl rfl ⟨rfl,rfl⟩ (by simp[(e 4 16 (by decide))];rfl) (h 4 16 (by decide))).trans ?_;refine(aS 5 17 rfl rfl ⟨rfl,rfl⟩ (by simp[(e 5 17 (by decide))];rfl) (h 5 17 (by decide))).trans ?_;refine(aS 6 18 rfl rfl ⟨rfl,rfl⟩ (by simp[(e 6 18 (by decide))];rfl) (h 6 18 (by decide))).trans ?_;refine(aS 7 19 rfl rfl ⟨rfl,rfl⟩ (by simp[(e 7 19 (by decide))];rfl) (h 7 19 (by decide))).trans ?_;refine(aS 8 20 rfl rfl ⟨rfl,rfl⟩ (by simp[(e 8 20 (by decide))];rfl) (h 8 20 (by decide))).trans ?_;refine(aS 9 21 rfl rfl ⟨rfl,rfl⟩ (by simp[(e 9 21 (by decide))];rfl) (h 9 21 (by decide))).trans ?_;refine(aS 10 22 rfl rfl ⟨rfl,rfl⟩ (by simp[(e 10 22 (by decide))];rfl) (h 10 22 (by decide))).trans ?_;refine(aS 11 23 rfl rfl ⟨rfl,rfl⟩ (by simp[(e 11 23 (by decide))];rfl) (h 11 23 (by decide))).trans ?_;refine(aS 12 24 rfl rfl ⟨rfl,rfl⟩ (by simp[(e 12 24 (by decide))];rfl) (h 12 24 (by decide))).trans ?_;refine(aS 13 25 rfl rfl ⟨rfl,rfl⟩ (by simp[(e 13 25 (by decide))];rfl) (h 13 25 (by decide))).trans ?_;refine(aS 14 26 rfl rfl ⟨rfl,rfl⟩ (by simp[(e 14 26 (by decide))];rfl) (h 14 26 (by decide))).trans ?_;refine aV 16 (by simp) (lC _) hc ?_;simpa [dC,eT,closed]using hc0
theorem yY{α:Type}{f:α->List AV}{i j:Nat}(h:∀x,rD i j (f x)=f x):∀l:List α,qK i j (l.map f)=l.map f
 |[]=>rfl
 |x::l=>by simp only[mC,qK,h,yY h l]
@[simp] theorem aPf(i j:Nat)(l:List bB):qK i j (l.map bW)=l.map bW:=yY (λ_=>rfl) l
@[simp] theorem aPg(i j:Nat)(l:List Int):qK i j (l.map mG)=l.map mG:=yY (λ_=>rfl) l
@[simp] theorem aN8(i j:Nat)(l:List aK):qK i j (l.map aL)=l.map aL:=yY (λ_=>rfl) l
@[simp] theorem aN9(i j:Nat)(l:List oN):qK i j (l.map uR)=l.map uR:=yY (λ_=>rfl) l
@[simp] theorem aOa(i j:Nat)(l:List pJ):qK i j (l.map vC)=l.map vC:=yY (λ_=>rfl) l
@[simp] theorem aKf(i j:Nat)(l:List dX):qK i j (l.map eX)=l.map eX:=yY (λ_=>rfl) l
@[simp] theorem aKg(i j:Nat)(l:List bT):qK i j (l.map (cZ .view))=l.map (cZ .view):=yY (λ_=>by simp) l
@[simp] theorem aLp(i j:Nat)(l:List jK):qK i j (l.map (fA .view))=l.map (fA .view):=yY (λ_=>by simp) l
theorem TV{t t':List AV}{o o':List aM}{o0 o1 o2 o3:aM}{q0 q:aG}(ho:o=[o0,o1,o2,o3]++lQ q0++[⟨true,true,22,0,[jG 16 q]⟩]++lQ q)(ho':o'=[o0,o1,o2,o3]++lQ q++[⟨true,true,22,0,[jG 4 q]⟩])
  (ht:∀z∈Dv,wk (rD z.1 z.2 t') t') (hf:∀z∈Dv,o0.lL z.1 z.2=o0/\o1.lL z.1 z.2=o1/\o2.lL z.1 z.2=o2/\o3.lL z.1 z.2=o3) (hw:wk t t') (hc:eT 16 t'=true) (hc0:dC 16 [o0,o1,o2,o3]=true):lY ⟨t,o⟩ ⟨t',o'⟩:=by
 subst ho;subst ho';exact E5 q0 q ht hf hw hc hc0
theorem TW[aC prog][bP prog][dL prog](p:aG)(a:aK)(x:aZ)(hs:aI p+400*p.aB.length<=137438953472)(hx:bG x<=1048576):Ok prog 162 [.agg (aH .view p),.agg (aL a),.agg (bF x)] (.agg (aH .own (lU p a x))):=by
 have c1:=iG p (by omega);have NB:p.aB.length<=343597383:=by omega
 simp only[aH]at c1;unfold lU;refine bM aF func162 ntmps162 ?_;refine aY ?_;refine aO (ι:={k:Nat // k<=p.aB.length}) (λt o i=>⟨bC t [(14,.int .i64 i.1),(10,.undef)],o.take 4++lQ (gZ p a x i.1)++[⟨true,true,22,0,[jG 4 (gZ p a x i.1)]⟩]⟩)
  (λi=>p.aB.length-i.1) ⟨0,by simp⟩ (aJ (by simp[lQ,jG,gZ]) (by simp)) ?_
 rintro⟨k,hk⟩ K1 hK1;have hf:=yX p a x k;obtain⟨f1,f2,f3⟩:=hf;have c2:=Qk (gZ p a x k) k x (by omega) hx;have Ku:= @Ps p a x k;have hk1:=oQ (k:=k);by_cases hlt:k<p.aB.length
 .have hg:=aE hlt;have hnext:=Ku hlt;clear Ku;by_cases hto:p.aB[k].to=a
  .rw [eK hto]at hnext;generalize hq':iL (gZ p a x k) k x=q' at*;have hK2:=hK1;simp only[bC,cW,cU,eL,fX,eA,eM,lQ,jG]at hK1⊢;clear hq' f2;generalize hqq:gZ p a x k=q at*;simp only[aH,bF]at c2;have W:=aA hk1 (aA hg (aA hlt hto));have c0:=oC a a;refine we ?_;refine hK2 _ ⟨k+1,by omega⟩ ?_ (by simp only;omega);simp only[hnext];exact TV (q0:=q) (q:=q') rfl (by simp[lQ,jG,hnext]) (by simp[Dv]) (by simp[Dv]) (by simp) (by simp) (by simp)
  .rw [cX hto]at hnext;have hK2:=hK1;simp only[bC,cW,cU,eL,fX,eA,eM,lQ,jG]at hK1⊢;clear f2 c2;generalize hqq:gZ p a x k=q at*;have W:=aA hk1 (aA hg (aA hlt hto));have c0:=oC p.aB[k].to a;repeat' first|refine wf ?_|(refine sq ?_ ?_<;>intro hc<;>try exact hc.elim)|fail
   all_goals first
    |exact absurd (by assumption) hto
    |exact hK2 _ ⟨k+1,by omega⟩ (by simp only[hnext];exact aJ (by simp[lQ,jG,hnext]) (by simp)) (by simp only;omega)
 .have htk:k=p.aB.length:=by omega
  subst htk;simp only[bC,cW,cU,eL,fX,eA,eM,lQ,jG]at hK1⊢;generalize gZ p a x p.aB.length=q at*;clear Ku f2 c2 hK1;have W:=hk1;refine we ?_;exact aD results162
theorem TY[aC prog][bP prog][dL prog](p:aG)(a:aK)(x:aZ)(hs:aI p+400*p.aB.length<=137438953472)(hx:bG x<=1048576):Ok prog 75 [.agg (aH .view p),.agg (aL a),.agg (bF x)] (.agg (aH .own (lU p a x))):=by
 have c1:=gK p (by omega);have NB:p.aB.length<=343597383:=by omega
 simp only[aH]at c1;unfold lU;refine bM aF func75 ntmps75 ?_;refine aY ?_;refine aO (ι:={k:Nat // k<=p.aB.length}) (λt o i=>⟨bC t [(8,.int .i64 i.1),(10,.undef)],o.take 4++lQ (gZ p a x i.1)++[⟨true,true,22,0,[jG 4 (gZ p a x i.1)]⟩]⟩)
  (λi=>p.aB.length-i.1) ⟨0,by simp⟩ (aJ (by simp[lQ,jG,gZ]) (by simp)) ?_
 rintro⟨k,hk⟩ K1 hK1;have hf:=yX p a x k;obtain⟨f1,f2,f3⟩:=hf;have c2:=Ql (gZ p a x k) k x (by omega) hx;have Ku:= @Ps p a x k;have hk1:=oQ (k:=k);by_cases hlt:k<p.aB.length
 .have hg:=aE hlt;have hnext:=Ku hlt;clear Ku;by_cases FP:p.aB[k].done=true
  .have nZ:gZ p a x (k+1)=gZ p a x k:=by
    rw[hnext];split
    .exact Ob (s:=p.aB[k]) (by rw[mA,f2 k (eE k)];exact hg) FP
    .rfl
   have hK2:=hK1;simp only[bC,cW,cU,eL,fX,eA,eM,lQ,jG]at hK1⊢;clear f2 c2 hnext;generalize hqq:gZ p a x k=q at*;have W:=aA hk1 (aA hg (aA hlt FP));refine we ?_;refine hK2 _ ⟨k+1,by omega⟩ ?_ (by simp only;omega);simp only[nZ];exact aJ (by simp[lQ,jG,nZ]) (by simp)
  .simp only[yW]at FP;by_cases hto:p.aB[k].to=a
   .rw [eK hto]at hnext;generalize hq':iL (gZ p a x k) k x=q' at*;have hK2:=hK1;simp only[bC,cW,cU,eL,fX,eA,eM,lQ,jG]at hK1⊢;clear hq' f2;generalize hqq:gZ p a x k=q at*;simp only[aH,bF]at c2;have W:=aA hk1 (aA hg (aA hlt (aA FP hto)));have c0:=oC a a;refine we ?_;refine hK2 _ ⟨k+1,by omega⟩ ?_ (by simp only;omega);simp only[hnext];exact TV (q0:=q) (q:=q') rfl (by simp[lQ,jG,hnext]) (by simp[Dv]) (by simp[Dv]) (by simp) (by simp) (by simp)
   .rw [cX hto]at hnext;have hK2:=hK1;simp only[bC,cW,cU,eL,fX,eA,eM,lQ,jG]at hK1⊢;clear f2 c2;generalize hqq:gZ p a x k=q at*;have W:=aA hk1 (aA hg (aA hlt (aA FP hto)));have c0:=oC p.aB[k].to a;refine we ?_;all_goals first
     |exact absurd (by assumption) hto
     |exact hK2 _ ⟨k+1,by omega⟩ (by simp only[hnext];exact aJ (by simp[lQ,jG,hnext]) (by simp)) (by simp only;omega)
 .have htk:k=p.aB.length:=by omega
  subst htk;simp only[bC,cW,cU,eL,fX,eA,eM,lQ,jG]at hK1⊢;generalize gZ p a x p.aB.length=q at*;clear Ku f2 c2 hK1;have W:=hk1;refine we ?_;exact aD results75
theorem mi(p:aG)(a:aK)(x:aZ):(lU p a x).aB.length=p.aB.length:=(yX p a x _).1
theorem E8(p:aG)(a:aK)(x:aZ):aI (lU p a x)<=aI p+p.aB.length*400:=(yX p a x _).2.2
def iU(p:aG)(m:dX)(x:aZ):dX:={m with done:=true,code:=dS p.bD (eG p m) x,body:=jF p.bD (eG p m) x}
def kR(q:aG)(l:List aK):aG:=l.foldl eP q
def Mw(p:aG)(a:aK)(x:aZ)(k:Nat)(m:dX):aG:=kR {p with aN:=p.aN.set k (iU p m x)} (iK {p with aN:=p.aN.set k (iU p m x)} a)
def jS(p:aG)(a:aK)(x:aZ):aG:=
 if qF (kM a) p.aN<0 then p else match p.aN[(qF (kM a) p.aN).toNat]? with
 |some m=>if m.done=true then p else Mw p a x (qF (kM a) p.aN).toNat m
 |none=>p
theorem Fg{p:aG}{a:aK}{x:aZ}(h:qF (kM a) p.aN= -1):jS p a x=p:=by unfold jS;rw[h];rfl
theorem Fh{p:aG}{a:aK}{x:aZ}{k:Nat}{m:dX}(h:qF (kM a) p.aN=(k:Int))(hg:p.aN[k]? =some m)(hd:m.done=true):jS p a x=p:=by unfold jS;rw[h,cX (by omega),mA,hg];simp[hd]
theorem Il{p:aG}{a:aK}{x:aZ}{k:Nat}{m:dX}(h:qF (kM a) p.aN=(k:Int))(hg:p.aN[k]? =some m)(hd:m.done=false):jS p a x=Mw p a x k m:=by unfold jS;rw[h,cX (by omega),mA,hg];simp[hd]
theorem mo{α:Type}(f:α->Bool)(y:α):∀(l:List α) (k:Nat) (h:k<l.length),f y=true->l.find? f=some l[k]->(∀j (hj:j<k),f (l[j]'(Nat.lt_trans hj h))=false)->(l.set k y).find? f=some y
 |[],k,h,_,_,_=>by simp at h
 |z::l,0,h,hy,_,_=>by simp[hy]
 |z::l,k+1,h,hy,hf,hn=>by have hz:f z=false:=hn 0 (by omega);rw[cW,find?_cons,hz];rw[find?_cons,hz]at hf;exact mo f y l k (by simpa using h) hy (by simpa using hf) (λj hj=>by have:=hn (j+1) (by omega);simpa using this)
theorem aOb{α:Type}{f:α->Bool}{l:List α}{k:Nat}(h:qF f l=(k:Int))(hk:k<l.length):f l[k]=true/\∀j (hj:j<k),f (l[j]'(Nat.lt_trans hj hk))=false:=by
 unfold qF at h;split at h
 .rename_i ha;have hk2:l.findIdx f=k:=by omega
  rw[findIdx_eq hk]at hk2;exact hk2
 .omega
theorem Ha{p:aG}{a:aK}{x:aZ}{k:Nat}(h:qF (kM a) p.aN=(k:Int))(hk:k<p.aN.length)(hf:p.aN.find? (kM a)=some p.aN[k]):(p.aN.set k (iU p p.aN[k] x)).find? (kM a)=some (iU p p.aN[k] x):=by obtain⟨h1,h2⟩:=aOb h hk;exact mo _ _ _ _ hk (by simp only[kM]at h1⊢;exact h1) hf h2
theorem U0{α:Type}(f:α->Nat)(c:Nat):∀(l:List α) (i:Nat) (y:α) (h:i<l.length),f y<=f l[i]+c->bA f (l.set i y)<=bA f l+c
 |[],i,y,h,_=>by simp at h
 |z::l,0,y,h,hs=>by simp only[cU,bA,getElem_cons_zero]at hs⊢;omega
 |z::l,i+1,y,h,hs=>by have:=U0 f c l i y (by simpa using h) (by simpa using hs);simp only[cW,bA];omega
theorem Yp(p:aG)(k:Nat)(hk:k<p.aN.length)(x:aZ):aI {p with aN:=p.aN.set k (iU p p.aN[k] x)}<=aI p+400:=by have hb:=En p.bD (eG p p.aN[k]) x;have h:=U0 bK 400 p.aN k (iU p p.aN[k] x) hk (by simp only[bK,iU];omega);simp only[aI,bQ,length_set];omega
theorem TZ(N:Nat):∀(l:List aK) (q:aG),(∀x∈l,aR x<=N)->aI (kR q l)<=aI q+l.length*(N+1)
 |[],q,_=>by simp[kR]
 |b::l,q,h=>by have h1:=TZ N l (eP q b) (λx hx=>h x (by simp[hx]));have h2:=aN7 q b;have h3:=h b (by simp);simp only[kR,foldl_cons,eN,AG]at h1⊢;omega
theorem Pt(q:aG)(l:List aK)(b:aK):kR q (l++[b])=eP (kR q l) b:=by simp[kR]
theorem aGs(s b:bB):aR (bZ s b).1<=16:=by
 unfold bZ;split
 .rename_i h;simp only[oZ,dA,eJ,fR]at h;simp only[aR];omega
 .simp [aR,wZ]
theorem mq(base:bB):∀(ps:List bB) (l:List aK) (r:List bB),oL base ps=some (l,r)->∀b∈l,aR b<=16
 |[],l,r,h=>by simp only[oL,eC,oR]at h;obtain⟨rfl,_⟩:=h;simp
 |p::ps,l,r,h=>by
  simp only[oL]at h;split at h
  .split at h
   .cases hq:oL base ps with
    |none=>rw[hq]at h;simp at h
    |some q=>
     rw[hq]at h;simp only[mS,eC,oR]at h;obtain⟨rfl,_⟩:=h;intro b hb;rcases lB.1 hb with rfl|hb
     .exact aGs _ _
     .exact mq base ps q.1 q.2 (by rw[hq]) b hb
   .cases h
  .simp only[eC,oR]at h;obtain⟨rfl,_⟩:=h;simp
theorem aGt(s b:bB):∀a∈(bH s b).1,aR a<=16:=by
 unfold bH;split
 .simp
 .rename_i l r h;split
  .exact mq b _ l r h
  .simp
theorem aGu(q:aG)(a:aK):∀b∈iK q a,aR b<=16:=by
 unfold iK;split
 .split
  .exact aGt _ _
  .simp
 .simp
def qQ:List (Nat×Nat):=[(4,20),(5,21),(6,22),(7,23),(8,24),(9,25),(10,26),(11,27),(12,28),(13,29),(14,30)]
theorem E9{t t':List AV}{o o':List aM}{o0 o1 o2 o3 m0 m1 m2 e0:aM}{q0 q:aG}(ho:o=[o0,o1,o2,o3]++lQ q0++[⟨true,true,22,0,[jG 20 q]⟩,m0,m1,m2,e0]++lQ q)(ho':o'=[o0,o1,o2,o3]++lQ q++[⟨true,true,22,0,[jG 4 q]⟩,m0,m1,m2])
  (ht:∀z∈qQ,wk (rD z.1 z.2 t') t') (hf:∀z∈qQ,o0.lL z.1 z.2=o0/\o1.lL z.1 z.2=o1/\o2.lL z.1 z.2=o2/\o3.lL z.1 z.2=o3/\m0.lL z.1 z.2=m0/\m1.lL z.1 z.2=m1/\m2.lL z.1 z.2=m2) (hw:wk t t') (hc:eT 19 t'=true) (hc0:dC 19 [o0,o1,o2,o3,m0,m1,m2]=true):lY ⟨t,o⟩ ⟨t',o'⟩:=by
 subst ho;subst ho';have e:=λi j (h:(i,j)∈qQ)=>hf (i,j) h
 have h:=λi j (h:(i,j)∈qQ)=>ht (i,j) h
 simp only[lQ,jG,eA,eM];refine(wF hw).trans ?_;refine(aS 4 20 rfl rfl ⟨rfl,rfl⟩ (by simp[(e 4 20 (by decide))];rfl) (h 4 20 (by decide))).trans ?_;refine(aS 5 21 rfl rfl ⟨rfl,rfl⟩ (by simp[(e 5 21 (by decide))];rfl) (h 5 21 (by decide))).trans ?_;refine(aS 6 22 rfl rfl ⟨rfl,rfl⟩ (by simp[(e 6 22 (by decide))];rfl) (h 6 22 (by decide))).trans ?_;refine(aS 7 23 rfl rfl ⟨rfl,rfl⟩ (by simp[(e 7 23 (by decide))];rfl) (h 7 23 (by decide))).trans ?_;refine(aS 8 24 rfl rfl ⟨rfl,rfl⟩ (by simp[(e 8 24 (by decide))];rfl) (h 8 24 (by decide))).trans ?_;refine(aS 9 25 rfl rfl ⟨rfl,rfl⟩ (by simp[(e 9 25 (by decide))];rfl) (h 9 25 (by decide))).trans ?_;refine(aS 10 26 rfl rfl ⟨rfl,rfl⟩ (by simp[(e 10 26 (by decide))];rfl) (h 10 26 (by decide))).trans ?_;refine(aS 11 27 rfl rfl ⟨rfl,rfl⟩ (by simp[(e 11 27 (by decide))];rfl) (h 11 27 (by decide))).trans ?_;refine(aS 12 28 rfl rfl ⟨rfl,rfl⟩ (by simp[(e 12 28 (by decide))];rfl) (h 12 28 (by decide))).trans ?_;refine(aS 13 29 rfl rfl ⟨rfl,rfl⟩ (by simp[(e 13 29 (by decide))];rfl) (h 13 29 (by decide))).trans ?_;refine(aS 14 30 rfl rfl ⟨rfl,rfl⟩ (by simp[(e 14 30 (by decide))];rfl) (h 14 30 (by decide))).trans ?_;refine aV 19 (by simp) (lC _) hc ?_;simpa [dC,eT,closed]using hc0
theorem Kv{q:aG}{a:aK}{m:dX}(hf:q.aN.find? (kM a)=some m):iK q a=if m.done=true/\m.code=1 then(bH m.body a.host).1 else []:=by unfold iK;rw[hf]
theorem Pv{q:aG}{a:aK}{m:dX}(hf:q.aN.find? (kM a)=some m)(hb:m.body.length<=400):(iK q a).length<=57/\∀b∈iK q a,aR b<=16:=by
 refine⟨?_,aGu q a⟩;rw[Kv hf];split
 .obtain ⟨h1,_,h3⟩:=yU m.body a.host;omega
 .simp
theorem Pw{q:aG}{l:List aK}(h0:aI q<=536871424)(h1:l.length<=57)(h2:∀b∈l,aR b<=16)(i:Nat):aI (kR q (l.take i))<=536872448:=by
 have h:=TZ 16 (l.take i) q (λx hx=>h2 x (sC hx));have h3:(l.take i).length<=57:=by rw[oS];omega
 have h4:=lA (16+1) h3;omega
theorem Mx[aC prog][bP prog][dL prog](p:aG)(a:aK)(x:aZ)(hs:aI p<=536870912/\aR a<=536870912)(hx:bG x<=1048576):Ok prog 161 [.agg (aH .view p),.agg (aL a),.agg (bF x)] (.agg (aH .own (jS p a x))):=by
 have hs1:=hs.1;have MQ:p.aN.length<=536870912:=by simp only[aI,bQ]at hs1;omega
 have GN:eD p.bD<=274877906944:=by simp only[aI]at hs1;omega
 have c1:=iG p (by omega);have c2:=yT p a (by omega);rcases lJ (kM a) p.aN with⟨hi,hf⟩|⟨k,hk,hi,hf⟩
 .rw [Fg hi];rw[hi]at c2;simp only[aH,aL]at c1 c2;refine bM aF func161 ntmps161 ?_;refine aY ?_;exact aD results161
 .have hg:=aE hk;rw[hi]at c2;have hk0:¬((k:Nat):Int)<0:=by omega
  cases hd:p.aN[k].done
  .rw [Il hi hg hd];have cR:=uU p k (by omega) (by omega) (by omega);have e:pF p (k:Int)=eG p p.aN[k]:=by simp[pF,hg]
   rw[e]at cR;have hrq:jL (eG p p.aN[k])<=1073741824:=by have hm:=bS bK (fS hk);simp only[bK]at hm;simp only[jL,eG,eV];simp only[aI,bQ,aR]at hs1 hm⊢;omega
   have c3:=vS p.bD (eG p p.aN[k]) x GN (by omega) hx;have c4:=Dl p.bD (eG p p.aN[k]) x GN (by omega) hx;simp only[aH,dD]at cR;simp only[bN,dD,bF]at c3 c4;simp only[aH,aL]at c1 c2;clear e;have Fp:=Ha (x:=x) hi hk hf;have hqs:=Yp p k hk x;have hub:=En p.bD (eG p p.aN[k]) x;have hset:(p.aN.map eX).set k [.str p.aN[k].to.host,.str p.aN[k].to.path,.bool true,.int .i64 (dS p.bD (eG p p.aN[k]) x),.str (jF p.bD (eG p p.aN[k]) x)]=(p.aN.set k (iU p p.aN[k] x)).map eX:=by rw[map_set];rfl
   have hg3:(p.aN.set k (iU p p.aN[k] x))[k]? =some (iU p p.aN[k] x):=by rw[mB hk]
   unfold Mw;have hfm:(iU p p.aN[k] x).done=true/\(iU p p.aN[k] x).code=dS p.bD (eG p p.aN[k]) x/\(iU p p.aN[k] x).body=jF p.bD (eG p p.aN[k]) x:=⟨rfl,rfl,rfl⟩;have X9:(p.aN.set k (iU p p.aN[k] x)).length=p.aN.length:=by simp
   generalize dS p.bD (eG p p.aN[k]) x=c at*;generalize jF p.bD (eG p p.aN[k]) x=y at*;generalize eG p p.aN[k]=rq at*;generalize iU p p.aN[k] x=m3 at*;generalize p.aN.set k m3=L3 at*;obtain⟨f1,f2,f3⟩:=hfm;have aKh:k<L3.length:=by omega
   have e3:∀h,(L3[k]'h)=m3:=λh=>by rw[aE h]at hg3;exact cQ hg3
   obtain⟨b1,b2⟩:=Pv (q:={p with aN:=L3}) Fp (by rw[f3];exact hub);have hv:=Kv (q:={p with aN:=L3}) Fp;generalize iK {p with aN:=L3} a=L at*;by_cases hc1:c=1
   .rw [eK ⟨f1,by rw[f2];exact hc1⟩,f3]at hv;have cP:=uD y a.host (by omega) (by simp only[aR]at hs;omega);generalize bH y a.host=u at*;obtain⟨u1,u2,u3⟩:=u;simp only at hv cP;subst hv;subst hc1;refine bM aF func161 ntmps161 ?_;have W:=aA hk0 (aA hg (aA hd (aA hk (aA hset (aA aKh (aA e3 (aA f1 (aA f2 f3))))))));refine we ?_;have hq0:aI {p with aN:=L3}<=536871424:=by omega
    have hts:=Pw hq0 b1 b2;have NB:=λi (h:i<L.length)=>show kR {p with aN:=L3} (L.take (i+1))=eP (kR {p with aN:=L3} (L.take i)) L[i]by rw[eI h,Pt]
    have h00:kR {p with aN:=L3} (L.take 0)={p with aN:=L3}:=by simp[kR]
    have hall:L.length<=1099511627776:=by omega
    refine aO (ι:={k:Nat // k<=L.length}) (λt o i=>⟨bC t [(84,.int .i64 i.1),(14,.undef),(16,.undef),(35,.undef),(37,.undef),(38,.undef),(40,.undef),(47,.undef),(48,.undef),(51,.undef),(60,.undef),(61,.undef),(63,.undef),(65,.undef),(66,.undef),(71,.undef),(73,.undef),(74,.undef)],o.take 4++lQ (kR {p with aN:=L3} (L.take i.1))++[⟨true,true,22,0,[jG 4 (kR {p with aN:=L3} (L.take i.1))]⟩]++o.drop 16⟩)
     (λi=>L.length-i.1) ⟨0,by simp⟩ (aJ (by simp only[h00];simp[lQ,jG]) (by simp)) ?_
    rintro⟨i,hi2⟩ K1 hK1;have hi1:i64.wrap ((i:Int)+1)=((i+1:Nat):Int):=by rw[wrap64]<;>omega
    by_cases hlt:i<L.length
    .have hgi:=aE hlt;have cA:=Ej (kR {p with aN:=L3} (L.take i)) L[i] (by have:=hts i;omega) (by have:=b2 _ (fS hlt);omega);have hnext:=NB i hlt;rw[<-hnext]at cA;have hK2:=hK1;simp only[bC,cW,cU,eL,fX,eA,eM,pC,AI,lQ,jG]at hK1⊢;clear NB h00 hnext hts;generalize hq1:kR {p with aN:=L3} (L.take i)=q at*;generalize hq2:kR {p with aN:=L3} (L.take (i+1))=q' at*;simp only[aH,aL]at cA;have W:=aA hi1 (aA hgi hlt);refine we ?_;refine hK2 _ ⟨i+1,by omega⟩ ?_ (by simp only;omega);simp only[hq2];exact E9 (q0:=q) (q:=q') rfl (by simp[lQ,jG]) (by simp[qQ]) (by simp[qQ]) (by simp) (by simp) (by simp)
    .have htk:L.take i=L:=cY (by omega);have hK2:=hK1;simp only[bC,cW,cU,eL,fX,eA,eM,pC,AI,lQ,jG,htk]at hK1⊢;clear NB h00 hts hK2 hK1;generalize kR {p with aN:=L3} L=q at*;have W:=aA hi1 hlt;refine we ?_;exact aD results161
   .rw [cX (λh=>hc1 (by rw[<-f2];exact h.2))]at hv
    subst hv;have hnil:kR {p with aN:=L3} []={p with aN:=L3}:=rfl;rw[hnil];refine bM aF func161 ntmps161 ?_;have W:=aA hk0 (aA hg (aA hd (aA hk (aA hset (aA aKh (aA e3 (aA f1 (aA f2 (aA f3 hc1)))))))));refine we ?_;exact aD results161
  .rw [Fh hi hg hd];simp only[aH,aL]at c1 c2;refine bM aF func161 ntmps161 ?_;have W:=aA hk0 (aA hg (aA hd hk));refine we ?_;exact aD results161
theorem U6(p:aG)(a:aK):(eP p a).bD=p.bD/\(eP p a).addr=p.addr/\(eP p a).aB=p.aB:=by rcases ask_cases p a with⟨e,_⟩|⟨e,_⟩<;>rw[e]<;>exact⟨rfl,rfl,rfl⟩
def qR(p:aG):List fV:=yZ (iZ p) (places rY 0 p.aB)++yZ (pF p) (places rZ 0 p.aN)
theorem Oc[aC prog](p:aG)(hl:p.aB.length<=1048576)(hm:p.aN.length<=1048576):Ok prog 38 [.agg (aH .view p)] (.sl .own 5 ((qR p).map dD)):=by
 have k1:=Eh p (by omega);have k2:=FJ p (by omega);have m1:=Ca rY p.aB 0;have m2:=Ca rZ p.aN 0;have n1:=jB rY p.aB 0;have n2:=jB rZ p.aN 0;unfold qR;generalize places rY 0 p.aB=ps at*;generalize places rZ 0 p.aN=pm at*;refine bM aF func38 ntmps38 ?_;refine iF ?_;refine aO (ι:={q:Nat×Nat // q.1<=ps.length/\1<=q.2}) (λt o i=>⟨bC t [(3,.obj 1 i.1.2),(5,.int .i64 i.1.1)],o.take 1++[⟨true,false,5,i.1.2,(yZ (iZ p) (ps.take i.1.1)).map dD⟩]++[⟨true,false,1,1,ps.map mG⟩]⟩)
  (λi=>ps.length-i.1.1) ⟨(0,1),by simp,by first|(simp;done)|(simp only;omega)⟩ aJ ?_
 rintro⟨⟨k,v⟩,hk,hv⟩ K1 hK1;simp only at hk hv;simp only[bC,cW,cU,eL,fX,eA,eM]at hK1⊢;have hk1:=oQ (k:=k);by_cases hlt:k<ps.length
 .have hg:=aE hlt;have hps:=zH (iZ p) ps k hlt;have hpl:=qZ (iZ p) (ps.take k);have htl:(ps.take k).length=k:=by simp;omega
  generalize yZ (iZ p) (ps.take k)=g at*;have hb1:(g.length+1)*72<=140737488355328:=by omega
  have hb2:g.length+1<=9223372036854775807:=by omega
  have hb3:g.length<=9223372036854775806:=by omega
  have hz:=m1 _ (fS hlt);have c1:=xE p ps[k] (by omega) (by omega) (by omega);simp only[aH,dD]at c1;have W:=aA hk1 (aA hg (aA hlt (aA hb1 (aA hb2 hb3))));refine wl ?_;refine hK1 _ ⟨(k+1,v+1),by simp only;omega,by simp only;omega⟩ (aV 3 (by simp[hps])) (by simp only;omega)
 .have htk:ps.take k=ps:=cY (by omega);rw[htk];have jf:=qZ (iZ p) ps;generalize hG:yZ (iZ p) ps=G at*;have W:=hk1;refine wl ?_;refine aO (ι:={q:Nat×Nat // q.1<=pm.length/\1<=q.2}) (λt o i=>⟨bC t [(3,.obj 1 i.1.2),(7,.int .i64 i.1.1)],o.take 1++[⟨true,false,5,i.1.2,(G++yZ (pF p) (pm.take i.1.1)).map dD⟩]++[⟨true,false,1,1,ps.map mG⟩,⟨true,false,1,1,pm.map mG⟩]⟩)
   (λi=>pm.length-i.1.1) ⟨(0,v),by simp,by first|(simp;done)|(simp only;omega)⟩ aJ ?_
  rintro⟨⟨k,v⟩,hk,hv⟩ K1 hK1;simp only at hk hv;simp only[bC,cW,cU,eL,fX,eA,eM]at hK1⊢;have hk1:=oQ (k:=k);by_cases hlt:k<pm.length
  .have hg:=aE hlt;have hps:=zH (pF p) pm k hlt;have hpl:=qZ (pF p) (pm.take k);have htl:(pm.take k).length=k:=by simp;omega
   generalize yZ (pF p) (pm.take k)=g at*;have hb1:(G.length+g.length+1)*72<=140737488355328:=by omega
   have hb2:G.length+g.length+1<=9223372036854775807:=by omega
   have hb3:G.length+g.length<=9223372036854775806:=by omega
   have hz:=m2 _ (fS hlt);have c1:=Df p pm[k] (by omega) (by omega) (by omega);simp only[aH,dD]at c1;have W:=aA hk1 (aA hg (aA hlt (aA hb1 (aA hb2 hb3))));refine wl ?_;refine hK1 _ ⟨(k+1,v+1),by simp only;omega,by simp only;omega⟩ (aV 4 (by simp[hps])) (by simp only;omega)
  .have htk:pm.take k=pm:=cY (by omega);rw[htk];have W:=hk1;refine wl ?_;all_goals try(refine aQ ?_;simp[aP,results38])
   all_goals first|(rw[<-oT];exact yC _)|(simp[hG];rw[<-oT];exact yC _)|fail
theorem Od[aC prog](p:aG)(hl:p.aB.length<=1048576)(hm:p.aN.length<=1048576):Ok prog 92 [.agg (aH .view p)] (.sl .own 5 ((qR p).map dD)):=by
 have k1:=Ei p (by omega);have k2:=FK p (by omega);have m1:=Ca rY p.aB 0;have m2:=Ca rZ p.aN 0;have n1:=jB rY p.aB 0;have n2:=jB rZ p.aN 0;unfold qR;generalize places rY 0 p.aB=ps at*;generalize places rZ 0 p.aN=pm at*;refine bM aF func92 ntmps92 ?_;refine iF ?_;refine aO (ι:={q:Nat×Nat // q.1<=ps.length/\1<=q.2}) (λt o i=>⟨bC t [(3,.obj 1 i.1.2),(12,.int .i64 i.1.1)],o.take 1++[⟨true,false,5,i.1.2,(yZ (iZ p) (ps.take i.1.1)).map dD⟩]++[⟨true,false,1,1,ps.map mG⟩]⟩)
  (λi=>ps.length-i.1.1) ⟨(0,1),by simp,by first|(simp;done)|(simp only;omega)⟩ aJ ?_
 rintro⟨⟨k,v⟩,hk,hv⟩ K1 hK1;simp only at hk hv;simp only[bC,cW,cU,eL,fX,eA,eM]at hK1⊢;have hk1:=oQ (k:=k);by_cases hlt:k<ps.length
 .have hg:=aE hlt;have hps:=zH (iZ p) ps k hlt;have hpl:=qZ (iZ p) (ps.take k);have htl:(ps.take k).length=k:=by simp;omega
  generalize yZ (iZ p) (ps.take k)=g at*;have hb1:(g.length+1)*72<=140737488355328:=by omega
  have hb2:g.length+1<=9223372036854775807:=by omega
  have hb3:g.length<=9223372036854775806:=by omega
  have hz:=m1 _ (fS hlt);have c1:=xG p ps[k] (by omega) (by omega) (by omega);simp only[aH,dD]at c1;have W:=aA hk1 (aA hg (aA hlt (aA hb1 (aA hb2 hb3))));refine wl ?_;refine hK1 _ ⟨(k+1,v+1),by simp only;omega,by simp only;omega⟩ (aV 3 (by simp[hps])) (by simp only;omega)
 .have htk:ps.take k=ps:=cY (by omega);rw[htk];have jf:=qZ (iZ p) ps;generalize hG:yZ (iZ p) ps=G at*;have W:=hk1;refine wl ?_;refine aO (ι:={q:Nat×Nat // q.1<=pm.length/\1<=q.2}) (λt o i=>⟨bC t [(3,.obj 1 i.1.2),(26,.int .i64 i.1.1)],o.take 1++[⟨true,false,5,i.1.2,(G++yZ (pF p) (pm.take i.1.1)).map dD⟩]++[⟨true,false,1,1,ps.map mG⟩,⟨true,false,1,1,pm.map mG⟩]⟩)
   (λi=>pm.length-i.1.1) ⟨(0,v),by simp,by first|(simp;done)|(simp only;omega)⟩ aJ ?_
  rintro⟨⟨k,v⟩,hk,hv⟩ K1 hK1;simp only at hk hv;simp only[bC,cW,cU,eL,fX,eA,eM]at hK1⊢;have hk1:=oQ (k:=k);by_cases hlt:k<pm.length
  .have hg:=aE hlt;have hps:=zH (pF p) pm k hlt;have hpl:=qZ (pF p) (pm.take k);have htl:(pm.take k).length=k:=by simp;omega
   generalize yZ (pF p) (pm.take k)=g at*;have hb1:(G.length+g.length+1)*72<=140737488355328:=by omega
   have hb2:G.length+g.length+1<=9223372036854775807:=by omega
   have hb3:G.length+g.length<=9223372036854775806:=by omega
   have hz:=m2 _ (fS hlt);have c1:=uU p pm[k] (by omega) (by omega) (by omega);simp only[aH,dD]at c1;have W:=aA hk1 (aA hg (aA hlt (aA hb1 (aA hb2 hb3))));refine wl ?_;refine hK1 _ ⟨(k+1,v+1),by simp only;omega,by simp only;omega⟩ (aV 4 (by simp[hps])) (by simp only;omega)
  .have htk:pm.take k=pm:=cY (by omega);rw[htk];have W:=hk1;refine wl ?_;all_goals try(refine aQ ?_;simp[aP,results92])
   all_goals first|(rw[<-oT];exact yC _)|(simp[hG];rw[<-oT];exact yC _)|fail
def kX(p:aG):aG:=if p.ended=true then p else {p with queue:=p.queue++kG p.tok,tok:=⟨[]⟩,ended:=true}
theorem PE(t:nI):(kG t).length<=1:=by unfold kG;split<;>simp
theorem Uf[aC prog](a:aG)(hs:aI a<=274877906):Ok prog 46 [.agg (aH .view a)] (.agg (aH .own (kX a))):=by
 have c1:=iG a (by omega);simp only[aI,bQ,lH]at hs;have c2:=Gx a.tok (by omega);simp only[dO]at c2;have hE:=PE a.tok;simp only[aH]at c1;unfold kX;generalize kG a.tok=g at*;by_cases he:a.ended=true
 .rw [eK he];simp only[he]at c1;refine bM aF func46 ntmps46 ?_;have W:=he;refine we ?_;all_goals try(refine aQ ?_;simp[aP,results46])
  all_goals exact he
 .rw [cX he];replace he:a.ended=false:=by simpa using he
  simp only[he]at c1;refine bM aF func46 ntmps46 ?_;have W:=he;refine we ?_;all_goals try(refine aQ ?_;simp[aP,results46])
  all_goals (rw[<-oT];exact mH _)
theorem Ug[aC prog](a:aG)(hs:aI a<=274877906):Ok prog 36 [.agg (aH .view a)] (.agg (aH .own (kX a))):=by
 have c1:=gK a (by omega);simp only[aI,bQ,lH]at hs;have c2:=Gy a.tok (by omega);simp only[dO]at c2;have hE:=PE a.tok;simp only[aH]at c1;unfold kX;generalize kG a.tok=g at*;by_cases he:a.ended=true
 .rw [eK he];simp only[he]at c1;refine bM aF func36 ntmps36 ?_;have W:=he;refine we ?_;all_goals try(refine aQ ?_;simp[aP,results36])
  all_goals exact he
 .rw [cX he];replace he:a.ended=false:=by simpa using he
  simp only[he]at c1;refine bM aF func36 ntmps36 ?_;have W:=he;refine we ?_;all_goals try(refine aQ ?_;simp[aP,results36])
  all_goals (rw[<-oT];exact mH _)
end Go.Proofs.YtfbefblglejcaaaGreatDoor
