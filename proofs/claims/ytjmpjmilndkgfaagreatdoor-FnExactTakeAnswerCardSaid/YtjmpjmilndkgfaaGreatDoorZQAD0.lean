/- Proved here: steps towards the statement of this claim. No condition. -/
import Derived.Test.YtjmpjmilndkgfaaGreatDoorZQSPP
import Derived.Test.YtjmpjmilndkgfaaGreatDoorZQZ9
import Derived.Test.YtjmpjmilndkgfaaGreatDoorZTKA
set_option linter.all false
set_option maxRecDepth 8000
set_option maxHeartbeats 8000000
namespace Go.Proofs.YtjmpjmilndkgfaaGreatDoor
open Go.Aw Proofs.Tryz List IntKind
def yX (p:aI):aI×Bool:=if (kC p).2=true then kC p else oM p
def rD:Nat->aI->aI
 |0,p=>p
 |n+1,p=>if (yX p).2=true then rD n (yX p).1 else p
def advance (p:aI):aI:=rD 2000 p
theorem zg (s b:bF):aU (bZ s b).1<=16:=by
 unfold bZ;split
 .rename_i h;simp only [zZ,dA,eJ,fN] at h;simp only [aU];omega
 .simp [aU,vS]
def kK (p:aI):Prop:=(∀nd∈p.builder.nodes,aQ gY nd.attrs<=1048576)/\∀t∈p.queue,aQ gY t.attrs<=1048576
def oV (r:List aT) (m:dB):Nat:=if r.any (iT m.to)=true then 0 else 1+aU m.to
def rE (p:aI):Nat:=aQ (oV p.oD) p.aN
def nK (p:aI):Nat:=IL p+rE p+1048593 * (20 - p.aB.length)+51 * (20 - p.entries.length)
def BJ (p:aI):Nat:=bV bE p.aN+bV aU p.entries+34 * (20 - p.entries.length)
def keeps (p q:aI):Prop:=kK q/\nK q<=nK p/\BJ q<=BJ p/\q.aB.length<=max p.aB.length 20
def Cr (p q:aI):Prop:=kK q/\nK q<=nK p+721/\BJ q<=BJ p/\q.aB.length<=max p.aB.length 20
theorem VL {p:aI} (h:kK p):keeps p p:=⟨h,eE _,eE _,by omega⟩
theorem oC {p:aI} (h:kK p):Cr p p:=⟨h,by omega,by omega,by omega⟩
theorem yY (p:aI) (md:Int) (tx dg:bF) (nd:Int) (hd:dg.length<=1048576):nK (iB p md tx dg nd).1<=nK p/\BJ (iB p md tx dg nd).1=BJ p/\(iB p md tx dg nd).1.aB.length<=max p.aB.length 20/\(iB p md tx dg nd).1.builder=p.builder/\(iB p md tx dg nd).1.queue=p.queue:=by
 have h16:=zg tx p.addr.host;unfold iB;split
 .exact ⟨eE _,rfl,by simp only;omega,rfl,rfl⟩
 .rename_i h;have hn:p.aB.length < 20:=by
   by_cases h2:20<=p.aB.length
   .exact (h (.inl h2)).elim
   .omega
  split
  .refine ⟨?_,rfl,by simp only [eR,eL,eW];omega,rfl,rfl⟩;simp only [nK,IL,rE,aF,bV,eR,jA,aQ,gQ,eL,eW];omega
  .refine ⟨?_,rfl,by simp only [eR,eL,eW];omega,rfl,rfl⟩;simp only [nK,IL,rE,aF,bV,eR,jA,aQ,gQ,eL,eW];omega
theorem Q7 (p:aI) (a:aT):(Bz p a).to=a/\bE (Bz p a)=aU a:=by unfold Bz;split<;>exact ⟨rfl,by simp [bE]⟩
theorem ZW (p:aI) (a:aT):∃X,gT p a={p with aN:=X}/\bV bE X<=bV bE p.aN+1+aU a/\aQ (oV p.oD) X<=aQ (oV p.oD) p.aN+1+aU a:=by
 obtain ⟨h1,h2⟩:=Q7 p a;have h3:oV p.oD (Bz p a)<=1+aU a:=by unfold oV;rw [h1];split<;>omega
 have key:∀k,bV bE (vN p a k)<=bV bE p.aN+1+aU a/\aQ (oV p.oD) (vN p a k)<=aQ (oV p.oD) p.aN+1+aU a:=by
  intro k;have e1:aQ bE (p.aN.take k)+aQ bE (p.aN.drop k)=aQ bE p.aN:=by rw [<-jA,oA]
  have e2:aQ (oV p.oD) (p.aN.take k)+aQ (oV p.oD) (p.aN.drop k)=aQ (oV p.oD) p.aN:=by rw [<-jA,oA]
  have e3:(p.aN.take k).length+(p.aN.drop k).length=p.aN.length:=by rw [<-eR,oA]
  unfold vN;simp only [bV,eR,eL,jA,aQ];omega
 unfold gT;split
 .split
  .exact ⟨p.aN,rfl,by omega,by omega⟩
  .exact ⟨_,rfl,(key _).1,(key _).2⟩
 .exact ⟨_,rfl,(key _).1,(key _).2⟩
theorem Rz (p:aI) (tx:bF):nK (addEntry p tx)<=nK p/\BJ (addEntry p tx)<=BJ p/\(addEntry p tx).aB=p.aB/\(addEntry p tx).builder=p.builder/\(addEntry p tx).queue=p.queue:=by
 have h16:=zg tx p.addr.host;obtain ⟨X,hX,x1,x2⟩:=ZW p (bZ tx p.addr.host).1;unfold addEntry;split
 .exact ⟨eE _,eE _,rfl,rfl,rfl⟩
 .rename_i h;have hn:p.entries.length < 20:=by
   by_cases h2:20<=p.entries.length
   .exact (h (.inr h2)).elim
   .omega
  rw [hX];generalize (bZ tx p.addr.host).1=a at *;refine ⟨?_,?_,rfl,rfl,rfl⟩
  .simp only [bV] at x1;simp only [nK,IL,rE,aF,bV,eR,jA,aQ,eL,eW];omega
  .simp only [bV] at x1;simp only [BJ,bV,eR,jA,aQ,eL,eW];omega
theorem yN {p q:aI} (h:kK p) (h1:q.builder=p.builder) (h2:q.queue=p.queue):kK q:=by unfold kK at *;rw [h1,h2];exact h
theorem ZX (p:aI) (t:bP) (n:Int) (h:kK p) (ht:aQ gY t.attrs<=1048576):keeps p (CF p t n):=by
 have z1:=mJ t.attrs dU;obtain ⟨a1,a2,a3,a4,a5⟩:=yY p 2 (aV t.attrs Al).1 (aV t.attrs dU).1 n (by omega);obtain ⟨b1,b2,b3,b4,b5⟩:=yY p 1 (aV t.attrs nR).1 (aV t.attrs dU).1 n (by omega);unfold CF;split
 .exact ⟨yN h a4 a5,by omega,by omega,a3⟩
 .split
  .exact ⟨yN h b4 b5,by omega,by omega,b3⟩
  .exact VL h
theorem RA (p:aI) (k:Nat) (l:List jY) (h:kK p) (hl:aQ gY l<=1048576):keeps p (uP p k l):=by
 have z1:=mJ l dU;obtain ⟨a1,a2,a3,a4,a5⟩:=yY p 4 (aV l nR).1 (aV l dU).1 ((k:Nat):Int) (by omega);obtain ⟨b1,b2,b3,b4,b5⟩:=yY p 3 (aV l nR).1 (aV l dU).1 ((k:Nat):Int) (by omega);obtain ⟨e1,e2,e3,e4,e5⟩:=Rz p (aV l nR).1;unfold uP;split
 .split
  .exact ⟨h,by show nK p<=_;omega,by show BJ p<=_;omega,by show p.aB.length<=_;omega⟩
  .exact VL h
 .split
  .exact ⟨yN h a4 a5,by omega,by omega,a3⟩
  .split
   .exact ⟨yN h e4 e5,by omega,e2,by rw [e3];omega⟩
   .refine ⟨yN h b4 b5,?_,?_,b3⟩
    .show nK (iB p 3 (aV l nR).1 (aV l dU).1 ((k:Nat):Int)).1<=_;omega
    .show BJ (iB p 3 (aV l nR).1 (aV l dU).1 ((k:Nat):Int)).1<=_;omega
theorem RB (b:bC) (t:bP):(addToken b t).1.nodes=b.nodes\/(addToken b t).1.nodes=b.nodes++[rW b t]:=by
 unfold addToken;split
 .exact .inl rfl
 .split
  .exact .inl rfl
  .split
   .exact .inl rfl
   .exact .inr rfl
theorem ZY {p:aI} {t:bP} {q:List bP} (hq:p.queue=t::q) (h:kK p):Cr p {p with queue:=q,builder:=(addToken p.builder t).1}/\nK {p with queue:=q,builder:=(addToken p.builder t).1}<=nK p+2:=by
 have h1:=sK hq;have ht:aQ gY t.attrs<=1048576:=h.2 t (by rw [hq];simp);have hn:=RB p.builder t;have hg:nK {p with queue:=q,builder:=(addToken p.builder t).1}<=nK p+2:=by
  have hl:p.builder.nodes.length<=(addToken p.builder t).1.nodes.length:=by
   rcases hn with hn|hn<;>rw [hn]
   .exact eE _
   .simp
  simp only [nK,IL,rE] at *;omega
 refine ⟨⟨⟨?_,λx hx=>h.2 x (by rw [hq];simp [show x∈q from hx])⟩,by omega,eE _,by simp only;omega⟩,hg⟩;intro nd hnd;rcases hn with hn|hn
 .exact h.1 nd (by rw [<-hn];exact hnd)
 .have Wj:nd∈p.builder.nodes++[rW p.builder t]:=by rw [<-hn];exact hnd
  rcases fL.1 Wj with h2|h2
  .exact h.1 nd h2
  .simp only [sA] at h2;subst h2;unfold rW;split
   .exact ht
   .simp [aQ]
theorem RD {p q r:aI} (h1:nK q<=nK p+2/\BJ q<=BJ p/\q.aB.length<=max p.aB.length 20) (hr:kK r) (h2:nK r<=nK q) (h3:BJ r<=BJ q) (h4:r.aB.length<=max q.aB.length 20):Cr p r:=⟨hr,by omega,by omega,by omega⟩
theorem NY (p:aI) (h:kK p):Cr p (jB p).1:=by
 unfold jB;split
 .exact oC h
 .rename_i t q hq;split
  .obtain ⟨⟨g1,g2,g3,g4⟩,g5⟩:=ZY hq h;have ht:aQ gY t.attrs<=1048576:=h.2 t (by rw [hq];simp);simp only;unfold jW;generalize hp1:({p with queue:=q,builder:=(addToken p.builder t).1}:aI)=p1 at *;split
   .rename_i k hk;have hl:aQ gY ((p.builder.nodes[k]?).elim [] (·.attrs))<=1048576:=by
     cases hg:p.builder.nodes[k]? with
     |none=>simp [aQ]
     |some nd=>exact h.1 nd (oE hg)
    obtain ⟨e1,e2,e3,e4⟩:=RA p1 k ((p.builder.nodes[k]?).elim [] (·.attrs)) g1 hl;exact RD ⟨g5,g3,g4⟩ e1 e2 e3 e4
   .split
    .obtain ⟨e1,e2,e3,e4⟩:=ZX p1 t (addToken p.builder t).2 g1 ht;exact RD ⟨g5,g3,g4⟩ e1 e2 e3 e4
    .exact ⟨g1,g2,g3,g4⟩
  .exact oC h
theorem NZ (b:bC) (ss:List gP) (l:List jP):∀nd∈(eU b ss l).1.nodes,nd∈b.nodes\/nd.attrs=[]:=by
 have one:∀(c:bC) (x:jP),∀nd∈(bX c ss x).1.nodes,nd∈c.nodes\/nd.attrs=[]:=by
  intro c x nd h;unfold bX at h;split at h
  .exact .inl h
  .split at h
   .split at h
    .rcases fL.1 h with h|h
     .exact .inl h
     .simp only [sA] at h;subst h;exact .inr rfl
    .exact .inl h
   .split at h
    .exact .inl h
    .split at h
     .exact .inl h
     .split at h<;>exact .inl h
 have key:∀(l:List jP) (s:bC×bF×List bF),(∀nd∈s.1.nodes,nd∈b.nodes\/nd.attrs=[])->∀nd∈(l.foldl (rV ss) s).1.nodes,nd∈b.nodes\/nd.attrs=[]:=by
  intro l;induction l with
  |nil=>intro s h;exact h
  |cons x l ih=>
   intro s h;refine ih (rV ss s x) (λnd hn=> ?_);rcases one s.1 x nd hn with h2|h2
   .exact h nd h2
   .exact .inr h2
 exact key l (b,[],[]) (λnd h=> .inl h)
theorem Hf (p:aI) (l:List jP) (wr:Bool) (hs:aF p<=536870912) (h6:l.length<=6) (hx:∀x∈l,x.text.length<=60) (h:kK p):kK (lL p l wr)/\IL (lL p l wr)<=IL p+(if wr=true then 721 else 0):=by
 have hsb:aP p.builder<=536870912:=by simp only [aF] at hs;omega
 obtain ⟨z1,z2,z3,z4⟩:=Bi 60 p.builder (dI p) l (by omega) h6 hx (wK p) (by omega) l.length (eE _);have hend:qY p.builder (dI p) l l.length=eU p.builder (dI p) l:=by simp [qY]
 rw [hend] at z2;have hnd:=NZ p.builder (dI p) l;obtain ⟨y1,y2⟩:=Fu (eU p.builder (dI p) l).2.1;have hp:=KA p l hs hx;unfold lL at hp⊢;generalize eU p.builder (dI p) l=g at *;obtain ⟨b,w,lg⟩:=g;simp only [eS,gS] at *;generalize hk:tY w=tk at *;refine ⟨⟨?_,?_⟩,?_⟩
 .intro nd hn;rcases hnd nd hn with h2|h2
  .exact h.1 nd h2
  .rw [h2];simp [aQ]
 .intro t ht;simp only at ht;have h1:t∈tk\/t∈p.queue:=by
   split at ht
   .exact fL.1 ht
   .exact .inr ht
  rcases h1 with h1|h1
  .have h2:=cB bO h1;have h3:aQ gY t.attrs<=bO t:=by simp only [bO,bV];omega
   omega
  .exact h.2 t h1
 .cases wr
  .simpa using hp
  .simp only [IL,aF,bV,gE,eR,jA] at hp⊢;omega
theorem IM (l:List bF) (s:bF) (h:s.length<=90):bV eX (jV l s)+91 * (40 - (jV l s).length)<=bV eX l+91 * (40 - l.length):=Rw l [s] (by simpa using h)
theorem CJ (p:aI) (c:bF) (wr:Bool) (hs:aF p<=536870912) (h:kK p):Cr p (mM p c wr):=by
 obtain ⟨b1,b2⟩:=yU c;unfold mM;split
 .obtain ⟨h1,h2⟩:=Hf p (fZ c).1 wr hs b1 b2 h;refine ⟨h1,?_,eE _,by show p.aB.length<=_;omega⟩;have e:rE (lL p (fZ c).1 wr)=rE p:=rfl;have e2:(lL p (fZ c).1 wr).aB=p.aB:=rfl;have e3:(lL p (fZ c).1 wr).entries=p.entries:=rfl;have h3:(if wr=true then 721 else 0)<=721:=by split<;>omega
  simp only [nK,e,e2,e3];omega
 .have h1:=IM p.log LZ (by simp [LZ]);refine ⟨h,?_,eE _,by show p.aB.length<=_;omega⟩;simp only [nK,IL,rE,aF] at *;omega
theorem ZZ (r:List aT) (b:aT) (m:dB):oV (r++[b]) m<=oV r m:=by unfold oV;rw [any_append];cases r.any (iT m.to)<;>simp;split<;>omega
theorem VM (r:List aT) (b:aT):∀l:List dB,aQ (oV (r++[b])) l<=aQ (oV r) l
 |[]=>eE _
 |m::l=>by have:=ZZ r b m;have:=VM r b l;simp only [aQ];omega
theorem VN (r:List aT) (b:aT) (hr:r.any (iT b)=false):∀l:List dB,b∈l.map (·.to)->aQ (oV (r++[b])) l+1+aU b<=aQ (oV r) l
 |[],h=>by simp at h
 |m::l,h=>by
  simp only [mT,lB] at h;by_cases hb:b=m.to
  .have h1:=VM r b l;have e1:oV r m=1+aU b:=by unfold oV;rw [<-hb,hr];simp
   have e2:oV (r++[b]) m=0:=by unfold oV;rw [<-hb,any_append];simp [iT]
   simp only [aQ];omega
  .have h1:=VN r b hr l (by rcases h with h|h;exact (hb h).elim;exact h);have h2:=ZZ r b m;simp only [aQ];omega
theorem aa (q:aI) (b:aT) (hs:aF q+1+aU b<=536870912) (hm:b∈q.aN.map (·.to)) (h:kK q):kK (uB q b)/\IL (uB q b)+rE (uB q b)<=IL q+rE q:=by
 unfold uB;split
 .exact ⟨h,eE _⟩
 .rename_i hr;obtain ⟨b1,b2⟩:=Cq (yM q b) b.host;have hr2:q.oD.any (iT b)=false:=by simpa using hr
  have h3:=VN q.oD b hr2 q.aN hm;have hz:aF {q with oD:=q.oD++[b]}=aF q+1+aU b:=by simp only [aF,bV,eR,jA,aQ,eL,eW];omega
  obtain ⟨k1,k2⟩:=Hf {q with oD:=q.oD++[b]} (bI (yM q b) b.host).2.1 false (by omega) b1 b2 h;refine ⟨k1,?_⟩;have e:rE (lL {q with oD:=q.oD++[b]} (bI (yM q b) b.host).2.1 false)=aQ (oV (q.oD++[b])) q.aN:=rfl;have e2:IL {q with oD:=q.oD++[b]}=IL q+1+aU b:=by simp only [IL,hz];omega
  have e3:rE q=aQ (oV q.oD) q.aN:=rfl;rw [e,e3];rw [e2] at k2;simp only [eS,gS] at k2;omega
theorem KC (p:aI) (L:List aT) (hL:aF p+6120+bV aU L<=536870912) (hm:∀b∈L,b∈p.aN.map (·.to)) (h:kK p):∀k,k<=L.length->kK (jH p L k)/\IL (jH p L k)+rE (jH p L k)<=IL p+rE p/\(jH p L k).entries=p.entries
 |0,_=>⟨h,eE _,rfl⟩
 |k+1,hk=>by
  obtain ⟨h1,h2,h3⟩:=KC p L hL hm h k (by omega);obtain ⟨f1,f2,f3⟩:=vI p L hL k (by omega);have hp:=(BI p).2;have hq:=(BI (jH p L k)).1;have hb:=hm L[k] (fR (by omega));have e1:bV aU (L.take (k+1))=bV aU (L.take k)+1+aU L[k]:=by rw [eA (show k < L.length by omega)];simp only [bV,eR,eL,eW,jA,aQ];omega
  have e2:bV aU (L.take (k+1))<=bV aU L:=by have:=yK aU L (k+1);simp only [bV,oT];omega
  obtain ⟨k1,k2⟩:=aa (jH p L k) L[k] (by omega) (by rw [f2];exact hb) h1;rw [AL p L k (by omega)];refine ⟨k1,by omega,?_⟩;rw [<-h3];unfold uB lL;split<;>rfl
theorem ae (p:aI) (a:aT) (hs:aF p<=500000000) (hm:bV bE p.aN+aU a<=16777216) (h:kK p):keeps p (pI p a):=by
 unfold pI;split
 .have hf:=BD a;have h1:=IM p.log (Ru++lX a) (by simp only [Ru,eR,eL,eW];omega);refine ⟨h,?_,eE _,by show p.aB.length<=_;omega⟩;simp only [nK,IL,rE,aF] at *;omega
 .rename_i hf;obtain ⟨r1,r2,r3⟩:=FM p a hm (by simpa using hf);obtain ⟨k1,k2,k3⟩:=KC p (eF p a) (by omega) (λb hb=>Rx (r3 b hb)) h _ (eE _);obtain ⟨f1,f2,f3⟩:=vI p (eF p a) (by omega) _ (eE _);generalize jH p (eF p a) (eF p a).length=q at *;refine ⟨k1,?_,?_,by rw [f3];omega⟩
  .simp only [nK,f3,k3];omega
  .simp only [BJ,f2,k3];omega
theorem Oa (p:aI) (k:Int) (hs:aF p<=536870912) (h:kK p):Cr p (Dp p k).1:=by
 have hb:∀q:aI,Cr p q->Cr p {q with block:=0}:=λq hq=>hq
 unfold Dp;split
 .split
  .rename_i s _;split
   .simp only;split
    .exact hb _ (CJ p s.body true hs h)
    .exact hb _ (oC h)
   .exact oC h
  .exact hb _ (oC h)
 .exact hb _ (oC h)
theorem Mk (p:aI) (hs:aF p<=536870912) (h:kK p):Cr p (kC p).1:=by
 unfold kC;split
 .split
  .exact (show Cr p {mM p (BC p.builder p.inline) true with inline:=0} from CJ p _ true hs h)
  .exact oC h
 .split
  .exact Oa p _ hs h
  .exact NY p h
theorem RF (p:aI) (hs:aF p<=500000000) (hme:bV bE p.aN+bV aU p.entries<=16777216) (h:kK p):Cr p (oM p).1:=by
 unfold oM;split
 .split
  .split
   .rename_i s _;unfold OW;split
    .simp only;split
     .exact (show Cr p {mM p s.body false with deferred:=p.deferred+1} from CJ p s.body false (by omega) h)
     .exact (show Cr p {p with deferred:=p.deferred+1} from oC h)
    .exact oC h
   .exact oC h
  .split
   .rename_i a hg;have h1:=cB aU (oE hg);have h2:aQ aU p.entries<=bV aU p.entries:=by simp only [bV];omega
    obtain ⟨k1,k2,k3,k4⟩:=ae p a hs (by omega) h;unfold OX;split
    .refine ⟨k1,?_,k3,k4⟩;show nK (pI p a)<=_;omega
    .exact oC h
   .unfold OY;split
    .have h1:=IM p.log Ry (by simp [Ry]);refine ⟨h,?_,eE _,by show p.aB.length<=_;omega⟩;simp only [nK,IL,rE,aF] at *;omega
    .exact oC h
 .exact oC h
structure aEc (k : Nat) (q : aI) : Prop where
  at_ : kK q
  ga : nK q <= 25000000 + 721 * k
  en : BJ q <= 2000000
  sl : q.aB.length <= 1048576
theorem aEc.sz {k:Nat} {q:aI} (h:aEc k q) (hk:k<=2000):aF q<=27000000/\bV bE q.aN+bV aU q.entries<=16777216:=by have h1:=h.ga;have h2:=h.en;have h3:=(BI q).1;simp only [nK,BJ] at h1 h2;omega
theorem Q8 (p:aI) (hs:aF p<=1048576):aEc 0 p:=by
 have LP:kK p:=by
  constructor
  .intro nd hn;have h1:=cB iF hn;simp only [aF,aP,bV,iF] at hs h1;omega
  .intro t ht;have h1:=cB bO ht;simp only [aF,bV,bO] at hs h1;omega
 have hp:=(BI p).2;have hr:rE p<=aF p:=by
  have key:∀l:List dB,aQ (oV p.oD) l<=bV bE l:=by
   intro l;induction l with
   |nil=>exact eE _
   |cons m l ih=>
    have:oV p.oD m<=1+aU m.to:=by unfold oV;split<;>omega
    simp only [bV,aQ,eL,bE] at ih⊢;omega
  have:=key p.aN;simp only [rE,aF];omega
 have hsl:p.aB.length<=aF p:=by simp only [aF,bV];omega
 have KV:bV bE p.aN+bV aU p.entries<=aF p:=by simp only [aF];omega
 exact ⟨LP,by simp only [nK];omega,by simp only [BJ];omega,by omega⟩
theorem aEd {k:Nat} {q:aI} {r:aI} (hk:k < 2000) (h:rD (2000 - k) q=r):((yX q).2=true->rD (2000 - (k+1)) (yX q).1=r)/\((yX q).2=false->q=r):=by
 obtain ⟨n,hn⟩:∃n,2000 - k=n+1:=⟨1999 - k,by omega⟩;rw [hn] at h;have e:2000 - (k+1)=n:=by omega
 rw [e];unfold rD at h;constructor
 .intro h2;rw [eK h2] at h;exact h
 .intro h2;rw [h2] at h;simpa using h
structure Pd (n e s : Nat) (q : aI) : Prop where
  at_ : kK q
  ga : nK q <= n
  en : BJ q <= e
  sl : q.aB.length <= s
theorem Pd.up {n e s n2 e2:Nat} {q:aI} (h:Pd n e s q) (h1:n<=n2) (h2:e<=e2):Pd n2 e2 s q:=⟨h.at_,lO h.ga h1,lO h.en h2,h.sl⟩
theorem Pd.sz {n e s:Nat} {q:aI} (h:Pd n e s q):aF q<=n/\bV bE q.aN+bV aU q.entries<=e:=by have h1:=h.ga;have h2:=h.en;have h3:=(BI q).1;simp only [nK,BJ] at h1 h2;omega
theorem Xt {n e s:Nat} {q:aI} (h:Pd n e s q) (hn:n<=500000000) (he:e<=16777216) (Fg:20<=s):Pd (n+721) e s (yX q).1:=by
 obtain ⟨h1,h2⟩:=h.sz;have h3:Cr q (yX q).1:=by
  unfold yX;split
  .exact Mk q (by omega) h.at_
  .exact RF q (by omega) (by omega) h.at_
 obtain ⟨g1,g2,g3,g4⟩:=h3;have h4:=h.ga;have h5:=h.en;have h6:=h.sl;exact ⟨g1,by omega,by omega,by omega⟩
theorem zi {e s:Nat} (he:e<=16777216) (Fg:20<=s):∀(m n:Nat) (q:aI),Pd n e s q->n+721 * m<=500000000->Pd (n+721 * m) e s (rD m q)
 |0,n,q,h,_=>h.up (by omega) (eE _)
 |m+1,n,q,h,hk=>by
  unfold rD;split
  .exact (zi he Fg m (n+721) _ (Xt h (by omega) he Fg) (by omega)).up (by omega) (eE _)
  .exact h.up (by omega) (eE _)
theorem uj {n e s:Nat} {q:aI} (h:Pd n e s q) (hn:n+1442000<=500000000) (he:e<=16777216) (Fg:20<=s):Pd (n+1442000) e s (advance q):=by have:=zi he Fg 2000 n q h (by omega);exact this
theorem Ue (p:aI) (k:Int) (x:bL):(iO p k x).builder=p.builder/\(iO p k x).queue=p.queue/\(iO p k x).log=p.log/\(iO p k x).aN=p.aN/\(iO p k x).oD=p.oD/\(iO p k x).entries=p.entries:=by
 unfold iO;split
 .split
  .split<;>exact ⟨rfl,rfl,rfl,rfl,rfl,rfl⟩
  .exact ⟨rfl,rfl,rfl,rfl,rfl,rfl⟩
 .exact ⟨rfl,rfl,rfl,rfl,rfl,rfl⟩
theorem Nz (p:aI) (a:aT) (x:bL):∀k,(iP p a x k).builder=p.builder/\(iP p a x k).queue=p.queue/\(iP p a x k).log=p.log/\(iP p a x k).aN=p.aN/\(iP p a x k).oD=p.oD/\(iP p a x k).entries=p.entries
 |0=>⟨rfl,rfl,rfl,rfl,rfl,rfl⟩
 |k+1=>by
  obtain ⟨i1,i2,i3,i4,i5,i6⟩:=Nz p a x k;simp only [iP];split
  .split
   .obtain ⟨r1,r2,r3,r4,r5,r6⟩:=Ue (iP p a x k) k x;exact ⟨r1.trans i1,r2.trans i2,r3.trans i3,r4.trans i4,r5.trans i5,r6.trans i6⟩
   .exact ⟨i1,i2,i3,i4,i5,i6⟩
  .exact ⟨i1,i2,i3,i4,i5,i6⟩
theorem Je {n e s:Nat} {p:aI} (a:aT) (x:bL) (h:Pd n e s p):Pd (n+400 * s) e s (lQ p a x):=by
 obtain ⟨r1,r2,r3,r4,r5,r6⟩:=Nz p a x p.aB.length;have h1:=uh p a x;have h2:=au p a x;have h3:=h.sl;have h4:p.aB.length * 400<=400 * s:=by omega
 change (lQ p a x).builder=p.builder at r1;change (lQ p a x).queue=p.queue at r2;change (lQ p a x).log=p.log at r3;change (lQ p a x).aN=p.aN at r4;change (lQ p a x).oD=p.oD at r5;change (lQ p a x).entries=p.entries at r6;refine ⟨yN h.at_ r1 r2,?_,?_,by omega⟩
 .have:=h.ga;simp only [nK,IL,rE,r1,r3,r4,r5,r6,h2] at this⊢;omega
 .have:=h.en;simp only [BJ,r4,r6] at this⊢;exact this
theorem VQ {f:dB->Nat}:∀(l:List dB) (k:Nat) (hk:k < l.length) (m:dB),f m=f l[k]->aQ f (l.set k m)=aQ f l
 |x::l,0,hk,m,h=>by simp only [cU,aQ];simp only [getElem_cons_zero] at h;omega
 |x::l,k+1,hk,m,h=>by simp only [cW,aQ];rw [VQ l k (by simpa using hk) m (by simpa using h)]
theorem NA:∀(l:List aT) (p:aI),(∀b∈l,aU b<=16)->∃X,lF p l={p with aN:=X}/\bV bE X<=bV bE p.aN+l.length * 17/\aQ (oV p.oD) X<=aQ (oV p.oD) p.aN+l.length * 17
 |[],p,_=>⟨p.aN,rfl,by simp,by simp⟩
 |b::l,p,h=>by
  obtain ⟨X,e1,h1,h2⟩:=ZW p b;have hb:=h b (by simp);obtain ⟨Y,e2,h3,h4⟩:=NA l (gT p b) (λc hc=>h c (by simp [hc]));refine ⟨Y,?_,?_,?_⟩
  .show lF (gT p b) l=_;rw [e2,e1]
  .rw [e1] at h3;simp only [eL] at h3⊢;omega
  .rw [e1] at h4;simp only [eL] at h4⊢;omega
theorem RY {n e s:Nat} {p:aI} (a:aT) (x:bL) (h:Pd n e s p):Pd (n+2800) (e+1400) s (kG p a x):=by
 rcases uA (kX a) p.aN with ⟨hi,hf⟩|⟨k,hk,hi,hf⟩
 .rw [Jb hi];exact h.up (by omega) (by omega)
 .have hg:=aE hk;cases hd:p.aN[k].done
  .rw [Mq hi hg hd];have Es:=FP (x:=x) hi hk hf;have hqs:=Xr p k hk x;have hub:=Dt p.bG (fF p p.aN[k]) x;have b1:(iN {p with aN:=p.aN.set k (iX p p.aN[k] x)} a).length<=57:=by
    rw [Jd Es];split
    .obtain ⟨h1,_,h3⟩:=xM (iX p p.aN[k] x).body a.host;have h4:(iX p p.aN[k] x).body.length<=400:=hub;omega
    .simp
   obtain ⟨X,e1,h1,h2⟩:=NA (iN {p with aN:=p.aN.set k (iX p p.aN[k] x)} a) {p with aN:=p.aN.set k (iX p p.aN[k] x)} (aEn _ _);have hu:aQ (oV p.oD) (p.aN.set k (iX p p.aN[k] x))=aQ (oV p.oD) p.aN:=VQ _ _ hk _ rfl;unfold KH;generalize (iN {p with aN:=p.aN.set k (iX p p.aN[k] x)} a).length=c at *;rw [e1];simp only at h1 h2;rw [hu] at h2;have hc:c * 17<=969:=by have:=kO 17 b1;omega
   have hm:bV bE (p.aN.set k (iX p p.aN[k] x))<=bV bE p.aN+400:=by simp only [aF] at hqs;omega
   have h3:=h.ga;have h4:=h.en;refine ⟨h.at_,?_,?_,h.sl⟩
   .simp only [nK,IL,rE,aF] at h3⊢;omega
   .simp only [BJ] at h4⊢;omega
  .rw [Jc hi hg hd];exact h.up (by omega) (by omega)
def vZ (p:aI) (a:aT) (x:bL):aI:=advance (kG (lQ p a x) a x)
theorem V4 {n e s:Nat} {p:aI} (a:aT) (x:bL) (h:Pd n e s p) (hn:n+400 * s+1445000<=500000000) (he:e+1400<=16777216) (Fg:20<=s):Pd (n+400 * s+1445000) (e+1400) s (vZ p a x):=by have h1:=Je a x h;have h2:=RY a x h1;have h3:=uj h2 (by omega) he Fg;unfold vZ;exact h3.up (by omega) (by omega)
theorem aL0 (p:aI) (hs:aF p<=1048576):Pd 25000000 2000000 1048576 p:=by have h:=Q8 p hs;exact ⟨h.at_,by have:=h.ga;omega,h.en,h.sl⟩
theorem KJ [aC prog] [eH prog] [dD prog] [qQ prog] (p:aI) (hs:aF p<=536870912):Ok prog 66 [.agg (aJ .view p)] (.iJ [.agg (aJ .own (kC p).1),.bool (kC p).2]):=by
 have c1:=iI p (by omega);have hsb:aP p.builder<=536870912:=by simp only [aF] at hs;omega
 have hsl:p.aB.length<=536870912:=by simp only [aF,bV] at hs;omega
 have c2:=BA p (by omega);have hbd:∀s∈p.aB,s.body.length<=536870912:=λs hm=>by have:=Rn gQ hm;simp only [aF,bV,gQ] at hs this;omega
 unfold kC;by_cases hin:p.inline=0
 .rw [cY (by simp [hin])];by_cases hbk:p.block=0
  .rw [cY (by simp [hbk])];have c3:=Mr p hs;generalize jB p=r at *;obtain ⟨q,b⟩:=r;simp only [aJ,hin,hbk] at c1 c2 c3⊢;clear hbd;refine bR aD func66 ntmps66 ?_;have W:=aA hin hbk;refine we ?_;exact aK results66
  .rw [eK hbk];generalize hk:i64.wrap (p.block - 1)=k;unfold Dp;by_cases h0:0<=k
   .rw [eK h0];obtain ⟨kn,rfl⟩:=mN h0;rw [mC];have hk0:¬(kn:Int) < 0:=by omega
    by_cases hlt:kn < p.aB.length
    .have hg:=aE hlt;have hlen:¬(p.aB.length:Int)<=(kn:Int):=by omega
     rw [hg];simp only;have aEq:=hbd _ (fR hlt);have hw1:i64.wrap ((p.aB.length:Int) - 1)=(p.aB.length:Int) - 1:=by rw [wrap64]<;>omega
     have c5:=gM (kn:Int) 0 ((p.aB.length:Int) - 1);rw [show (decide ((0:Int)<=(kn:Int))&&decide ((kn:Int)<=(p.aB.length:Int) - 1))=true from by simp;omega] at c5;cases hd:p.aB[kn].done
     .rw [cY (by simp)];simp only [aJ,hin] at c1 c2⊢;clear hbd;refine bR aD func66 ntmps66 ?_;have W:=aA hin (aA hbk (aA hk (aA hk0 (aA hlen (aA hg (aA hlt (aA hd hw1)))))));refine we ?_;exact aK results66
     .generalize p.aB.all nO=uk at *;cases uk
      .rw [cY (by simp)];simp only [aJ,hin] at c1 c2⊢;clear hbd;refine bR aD func66 ntmps66 ?_;have W:=aA hin (aA hbk (aA hk (aA hk0 (aA hlen (aA hg (aA hlt (aA hd hw1)))))));refine we ?_;exact aK results66
      .rw [eK ⟨rfl,rfl⟩];by_cases Xu:p.aB[kn].code=1
       .rw [eK Xu];have c4:=Bp p p.aB[kn].body true hs (by omega);generalize mM p p.aB[kn].body true=q at *;simp only [aJ,hin] at c1 c2 c4⊢;clear hbd;refine bR aD func66 ntmps66 ?_;have W:=aA hin (aA hbk (aA hk (aA hk0 (aA hlen (aA hg (aA hlt (aA hd (aA Xu hw1))))))));refine we ?_;exact aK results66
       .rw [cY Xu];simp only [aJ,hin] at c1 c2⊢;clear hbd;refine bR aD func66 ntmps66 ?_;have W:=aA hin (aA hbk (aA hk (aA hk0 (aA hlen (aA hg (aA hlt (aA hd (aA Xu hw1))))))));refine we ?_;exact aK results66
    .have hg:p.aB[kn]? =none:=oY (by omega);have hlen:(p.aB.length:Int)<=(kn:Int):=by omega
     rw [hg];simp only;have hw1:i64.wrap ((p.aB.length:Int) - 1)=(p.aB.length:Int) - 1:=by rw [wrap64]<;>omega
     have c5:=gM (kn:Int) 0 ((p.aB.length:Int) - 1);rw [show (decide ((0:Int)<=(kn:Int))&&decide ((kn:Int)<=(p.aB.length:Int) - 1))=false from by simp;omega] at c5;simp only [aJ,hin] at c1 c2⊢;clear hbd;refine bR aD func66 ntmps66 ?_;have W:=aA hin (aA hbk (aA hk (aA hk0 (aA hlen hw1))));refine we ?_;exact aK results66
   .rw [cY h0];have hk0:k < 0:=by omega
    have hw1:i64.wrap ((p.aB.length:Int) - 1)=(p.aB.length:Int) - 1:=by rw [wrap64]<;>omega
    have c5:=gM k 0 ((p.aB.length:Int) - 1);rw [show (decide ((0:Int)<=k)&&decide (k<=(p.aB.length:Int) - 1))=false from by simp;omega] at c5;simp only [aJ,hin] at c1 c2⊢;clear hbd;refine bR aD func66 ntmps66 ?_;have W:=aA hin (aA hbk (aA hk (aA hk0 hw1)));refine we ?_;exact aK results66
 .rw [eK hin];generalize p.aB.all nO=uk at *;cases uk
  .rw [cY (by simp)];simp only [aJ] at c1 c2⊢;clear hbd;refine bR aD func66 ntmps66 ?_;have W:=hin;refine we ?_;exact aK results66
  .rw [eK rfl];have c3:=TZ p.builder p.inline (by omega);have htl:=Rm p.builder p.inline;generalize BC p.builder p.inline=tx at *;have c4:=Bp p tx true hs (by omega);generalize mM p tx true=q at *;simp only [aJ,aS] at c1 c2 c3 c4⊢;clear hbd;refine bR aD func66 ntmps66 ?_;have W:=hin;refine we ?_;exact aK results66
end Go.Proofs.YtjmpjmilndkgfaaGreatDoor
