/-
  Proved here: steps towards the statement of this claim, text QCTK.
  No condition beyond what each statement spells out.
-/
import Derived.Test.YthddijamfbfibaaGreatDoorZQTK7
import Derived.Test.YthddijamfbfibaaGreatDoorZQJ7
import Derived.Test.YthddijamfbfibaaGreatDoorZQKE0
set_option linter.all false
set_option maxRecDepth 8000
set_option maxHeartbeats 8000000
namespace Go.Proofs.YthddijamfbfibaaGreatDoor
open Go.Aw Proofs.Tryz List IntKind
def xA(p:aI):aI×Bool:=if (jH p).2=true then jH p else nZ p
def qI:Nat->aI->aI
 |0,p=>p
 |n+1,p=>if (xA p).2=true then qI n (xA p).1 else p
def advance(p:aI):aI:=qI 2000 p
theorem aA0(s b:bB):aQ (bY s b).1<=16:=by
 unfold bY;split
 .rename_i h;simp only[pG,cZ,eI,fN]at h;simp only[aQ];omega
 .simp [aQ,xD]
def lG(p:aI):Prop:=(∀nd∈p.builder.nodes,aY oZ nd.attrs<=1048576)/\∀t∈p.queue,aY oZ t.attrs<=1048576
def tN(r:List aD)(m:dX):Nat:=if r.any (iA m.to)=true then 0 else 1+aQ m.to
def uI(p:aI):Nat:=aY (tN p.uA) p.aO
def oC(p:aI):Nat:=KG p+uI p+1048593*(20-p.aC.length)+51*(20-p.entries.length)
def CE(p:aI):Nat:=bP bL p.aO+bP aQ p.entries+34*(20-p.entries.length)
def keeps(p q:aI):Prop:=lG q/\oC q<=oC p/\CE q<=CE p/\q.aC.length<=max p.aC.length 20
def Dx(p q:aI):Prop:=lG q/\oC q<=oC p+721/\CE q<=CE p/\q.aC.length<=max p.aC.length 20
theorem Yh{p:aI}(h:lG p):keeps p p:=⟨h,eC _,eC _,by omega⟩
theorem pY{p:aI}(h:lG p):Dx p p:=⟨h,by omega,by omega,by omega⟩
theorem Ag(p:aI)(md:Int)(tx dg:bB)(nd:Int)(hd:dg.length<=1048576):oC (gQ p md tx dg nd).1<=oC p/\CE (gQ p md tx dg nd).1=CE p/\(gQ p md tx dg nd).1.aC.length<=max p.aC.length 20/\(gQ p md tx dg nd).1.builder=p.builder/\(gQ p md tx dg nd).1.queue=p.queue:=by
 have h16:=aA0 tx p.addr.host;unfold gQ;split
 .exact ⟨eC _,rfl,by simp only;omega,rfl,rfl⟩
 .rename_i h;have hn:p.aC.length<20:=by
   by_cases h2:20<=p.aC.length
   .exact (h (.inl h2)).elim
   .omega
  split
  .refine ⟨?_,rfl,by simp only[eR,eN,eV];omega,rfl,rfl⟩;simp only[oC,KG,uI,aL,bP,eR,jE,aY,lJ,eN,eV];omega
  .refine ⟨?_,rfl,by simp only[eR,eN,eV];omega,rfl,rfl⟩;simp only[oC,KG,uI,aL,bP,eR,jE,aY,lJ,eN,eV];omega
theorem aC4(p:aI)(a:aD):(Cr p a).to=a/\bL (Cr p a)=aQ a:=by unfold Cr;split<;>exact⟨rfl,by simp[bL]⟩
theorem su(p:aI)(a:aD):∃X,eT p a={p with aO:=X}/\bP bL X<=bP bL p.aO+1+aQ a/\aY (tN p.uA) X<=aY (tN p.uA) p.aO+1+aQ a:=by
 obtain⟨h1,h2⟩:=aC4 p a;have h3:tN p.uA (Cr p a)<=1+aQ a:=by unfold tN;rw[h1];split<;>omega
 have key:∀k,bP bL (wJ p a k)<=bP bL p.aO+1+aQ a/\aY (tN p.uA) (wJ p a k)<=aY (tN p.uA) p.aO+1+aQ a:=by
  intro k;have e1:aY bL (p.aO.take k)+aY bL (p.aO.drop k)=aY bL p.aO:=by rw[<-jE,oA]
  have e2:aY (tN p.uA) (p.aO.take k)+aY (tN p.uA) (p.aO.drop k)=aY (tN p.uA) p.aO:=by rw[<-jE,oA]
  have e3:(p.aO.take k).length+(p.aO.drop k).length=p.aO.length:=by rw[<-eR,oA]
  unfold wJ;simp only[bP,eR,eN,jE,aY];omega
 unfold eT;split
 .split
  .exact ⟨p.aO,rfl,by omega,by omega⟩
  .exact ⟨_,rfl,(key _).1,(key _).2⟩
 .exact ⟨_,rfl,(key _).1,(key _).2⟩
theorem Ut(p:aI)(tx:bB):oC (addEntry p tx)<=oC p/\CE (addEntry p tx)<=CE p/\(addEntry p tx).aC=p.aC/\(addEntry p tx).builder=p.builder/\(addEntry p tx).queue=p.queue:=by
 have h16:=aA0 tx p.addr.host;obtain⟨X,hX,x1,x2⟩:=su p (bY tx p.addr.host).1;unfold addEntry;split
 .exact ⟨eC _,eC _,rfl,rfl,rfl⟩
 .rename_i h;have hn:p.entries.length<20:=by
   by_cases h2:20<=p.entries.length
   .exact (h (.inr h2)).elim
   .omega
  rw[hX];generalize (bY tx p.addr.host).1=a at*;refine⟨?_,?_,rfl,rfl,rfl⟩
  .simp only[bP]at x1;simp only[oC,KG,uI,aL,bP,eR,jE,aY,eN,eV];omega
  .simp only[bP]at x1;simp only[CE,bP,eR,jE,aY,eN,eV];omega
theorem zW{p q:aI}(h:lG p)(h1:q.builder=p.builder)(h2:q.queue=p.queue):lG q:=by unfold lG at*;rw[h1,h2];exact h
theorem sw(p:aI)(t:bT)(n:Int)(h:lG p)(ht:aY oZ t.attrs<=1048576):keeps p (Be p t n):=by
 have z1:=nE t.attrs dR;obtain⟨a1,a2,a3,a4,a5⟩:=Ag p 2 (aW t.attrs Bp).1 (aW t.attrs dR).1 n (by omega);obtain⟨b1,b2,b3,b4,b5⟩:=Ag p 1 (aW t.attrs oW).1 (aW t.attrs dR).1 n (by omega);unfold Be;split
 .exact ⟨zW h a4 a5,by omega,by omega,a3⟩
 .split
  .exact ⟨zW h b4 b5,by omega,by omega,b3⟩
  .exact Yh h
theorem Uu(p:aI)(k:Nat)(l:List oU)(h:lG p)(hl:aY oZ l<=1048576):keeps p (tJ p k l):=by
 have z1:=nE l dR;obtain⟨a1,a2,a3,a4,a5⟩:=Ag p 4 (aW l oW).1 (aW l dR).1 ((k:Nat):Int) (by omega);obtain⟨b1,b2,b3,b4,b5⟩:=Ag p 3 (aW l oW).1 (aW l dR).1 ((k:Nat):Int) (by omega);obtain⟨e1,e2,e3,e4,e5⟩:=Ut p (aW l oW).1;unfold tJ;split
 .split
  .exact ⟨h,by show oC p<=_;omega,by show CE p<=_;omega,by show p.aC.length<=_;omega⟩
  .exact Yh h
 .split
  .exact ⟨zW h a4 a5,by omega,by omega,a3⟩
  .split
   .exact ⟨zW h e4 e5,by omega,e2,by rw[e3];omega⟩
   .refine ⟨zW h b4 b5,?_,?_,b3⟩
    .show oC (gQ p 3 (aW l oW).1 (aW l dR).1 ((k:Nat):Int)).1<=_;omega
    .show CE (gQ p 3 (aW l oW).1 (aW l dR).1 ((k:Nat):Int)).1<=_;omega
theorem Uv(b:bE)(t:bT):(addToken b t).1.nodes=b.nodes\/(addToken b t).1.nodes=b.nodes++[uE b t]:=by
 unfold addToken;split
 .exact .inl rfl
 .split
  .exact .inl rfl
  .split
   .exact .inl rfl
   .exact .inr rfl
theorem tq{p:aI}{t:bT}{q:List bT}(hq:p.queue=t::q)(h:lG p):Dx p {p with queue:=q,builder:=(addToken p.builder t).1}/\oC {p with queue:=q,builder:=(addToken p.builder t).1}<=oC p+2:=by
 have h1:=uR hq;have ht:aY oZ t.attrs<=1048576:=h.2 t (by rw[hq];simp);have hn:=Uv p.builder t;have hg:oC {p with queue:=q,builder:=(addToken p.builder t).1}<=oC p+2:=by
  have hl:p.builder.nodes.length<=(addToken p.builder t).1.nodes.length:=by
   rcases hn with hn|hn<;>rw[hn]
   .exact eC _
   .simp
  simp only[oC,KG,uI]at*;omega
 refine⟨⟨⟨?_,λx hx=>h.2 x (by rw[hq];simp[show x∈q from hx])⟩,by omega,eC _,by simp only;omega⟩,hg⟩;intro nd hnd;rcases hn with hn|hn
 .exact h.1 nd (by rw[<-hn];exact hnd)
 .have YB:nd∈p.builder.nodes++[uE p.builder t]:=by rw[<-hn];exact hnd
  rcases eW.1 YB with h2|h2
  .exact h.1 nd h2
  .simp only[rS]at h2;subst h2;unfold uE;split
   .exact ht
   .simp [aY]
theorem Uw{p q r:aI}(h1:oC q<=oC p+2/\CE q<=CE p/\q.aC.length<=max p.aC.length 20)(hr:lG r)(h2:oC r<=oC q)(h3:CE r<=CE q)(h4:r.aC.length<=max q.aC.length 20):Dx p r:=⟨hr,by omega,by omega,by omega⟩
theorem QB(p:aI)(h:lG p):Dx p (iN p).1:=by
 unfold iN;split
 .exact pY h
 .rename_i t q hq;split
  .obtain ⟨⟨g1,g2,g3,g4⟩,g5⟩:=tq hq h;have ht:aY oZ t.attrs<=1048576:=h.2 t (by rw[hq];simp);simp only;unfold jS;generalize hp1:({p with queue:=q,builder:=(addToken p.builder t).1}:aI)=p1 at*;split
   .rename_i k hk;have hl:aY oZ ((p.builder.nodes[k]?).elim [] (·.attrs))<=1048576:=by
     cases hg:p.builder.nodes[k]? with
     |none=>simp[aY]
     |some nd=>exact h.1 nd (nB hg)
    obtain⟨e1,e2,e3,e4⟩:=Uu p1 k ((p.builder.nodes[k]?).elim [] (·.attrs)) g1 hl;exact Uw ⟨g5,g3,g4⟩ e1 e2 e3 e4
   .split
    .obtain ⟨e1,e2,e3,e4⟩:=sw p1 t (addToken p.builder t).2 g1 ht;exact Uw ⟨g5,g3,g4⟩ e1 e2 e3 e4
    .exact ⟨g1,g2,g3,g4⟩
  .exact pY h
theorem QC(b:bE)(ss:List gT)(l:List jW):∀nd∈(eH b ss l).1.nodes,nd∈b.nodes\/nd.attrs=[]:=by
 have one:∀(c:bE) (x:jW),∀nd∈(bV c ss x).1.nodes,nd∈c.nodes\/nd.attrs=[]:=by
  intro c x nd h;unfold bV at h;split at h
  .exact .inl h
  .split at h
   .split at h
    .rcases eW.1 h with h|h
     .exact .inl h
     .simp only[rS]at h;subst h;exact .inr rfl
    .exact .inl h
   .split at h
    .exact .inl h
    .split at h
     .exact .inl h
     .split at h<;>exact .inl h
 have key:∀(l:List jW) (s:bE×bB×List bB),(∀nd∈s.1.nodes,nd∈b.nodes\/nd.attrs=[])->∀nd∈(l.foldl (uC ss) s).1.nodes,nd∈b.nodes\/nd.attrs=[]:=by
  intro l;induction l with
  |nil=>intro s h;exact h
  |cons x l ih=>
   intro s h;refine ih (uC ss s x) (λnd hn=> ?_);rcases one s.1 x nd hn with h2|h2
   .exact h nd h2
   .exact .inr h2
 exact key l (b,[],[]) (λnd h=> .inl h)
theorem JA(p:aI)(l:List jW)(wr:Bool)(hs:aL p<=536870912)(h6:l.length<=6)(hx:∀x∈l,x.text.length<=60)(h:lG p):lG (lX p l wr)/\KG (lX p l wr)<=KG p+(if wr=true then 721 else 0):=by
 have hsb:aU p.builder<=536870912:=by simp only[aL]at hs;omega
 obtain⟨z1,z2,z3,z4⟩:=Cg 60 p.builder (dG p) l (by omega) h6 hx (xU p) (by omega) l.length (eC _);have hend:tH p.builder (dG p) l l.length=eH p.builder (dG p) l:=by simp[tH]
 rw[hend]at z2;have hnd:=QC p.builder (dG p) l;obtain⟨y1,y2⟩:=He (eH p.builder (dG p) l).2.1;have hp:=MI p l hs hx;unfold lX at hp⊢;generalize eH p.builder (dG p) l=g at*;obtain⟨b,w,lg⟩:=g;simp only[eS,hM]at*;generalize hk:vS w=tk at*;refine⟨⟨?_,?_⟩,?_⟩
 .intro nd hn;rcases hnd nd hn with h2|h2
  .exact h.1 nd h2
  .rw [h2];simp[aY]
 .intro t ht;simp only at ht;have h1:t∈tk\/t∈p.queue:=by
   split at ht
   .exact eW.1 ht
   .exact .inr ht
  rcases h1 with h1|h1
  .have h2:=bS bW h1;have h3:aY oZ t.attrs<=bW t:=by simp only[bW,bP];omega
   omega
  .exact h.2 t h1
 .cases wr
  .simpa using hp
  .simp only[KG,aL,bP,gE,eR,jE]at hp⊢;omega
theorem KH(l:List bB)(s:bB)(h:s.length<=90):bP gJ (kC l s)+91*(40-(kC l s).length)<=bP gJ l+91*(40-l.length):=Uq l [s] (by simpa using h)
theorem DL(p:aI)(c:bB)(wr:Bool)(hs:aL p<=536870912)(h:lG p):Dx p (lZ p c wr):=by
 obtain⟨b1,b2⟩:=Ad c;unfold lZ;split
 .obtain ⟨h1,h2⟩:=JA p (fZ c).1 wr hs b1 b2 h;refine⟨h1,?_,eC _,by show p.aC.length<=_;omega⟩;have e:uI (lX p (fZ c).1 wr)=uI p:=rfl;have e2:(lX p (fZ c).1 wr).aC=p.aC:=rfl;have e3:(lX p (fZ c).1 wr).entries=p.entries:=rfl;have h3:(if wr=true then 721 else 0)<=721:=by split<;>omega
  simp only[oC,e,e2,e3];omega
 .have h1:=KH p.log Ot (by simp[Ot]);refine⟨h,?_,eC _,by show p.aC.length<=_;omega⟩;simp only[oC,KG,uI,aL]at*;omega
theorem uf(r:List aD)(b:aD)(m:dX):tN (r++[b]) m<=tN r m:=by unfold tN;rw[any_append];cases r.any (iA m.to)<;>simp;split<;>omega
theorem Yi(r:List aD)(b:aD):∀l:List dX,aY (tN (r++[b])) l<=aY (tN r) l
 |[]=>eC _
 |m::l=>by have:=uf r b m;have:=Yi r b l;simp only[aY];omega
theorem Yj(r:List aD)(b:aD)(hr:r.any (iA b)=false):∀l:List dX,b∈l.map (·.to)->aY (tN (r++[b])) l+1+aQ b<=aY (tN r) l
 |[],h=>by simp at h
 |m::l,h=>by
  simp only[mB,gS]at h;by_cases hb:b=m.to
  .have h1:=Yi r b l;have e1:tN r m=1+aQ b:=by unfold tN;rw[<-hb,hr];simp
   have e2:tN (r++[b]) m=0:=by unfold tN;rw[<-hb,any_append];simp[iA]
   simp only[aY];omega
  .have h1:=Yj r b hr l (by rcases h with h|h;exact(hb h).elim;exact h);have h2:=uf r b m;simp only[aY];omega
theorem ug(q:aI)(b:aD)(hs:aL q+1+aQ b<=536870912)(hm:b∈q.aO.map (·.to))(h:lG q):lG (sG q b)/\KG (sG q b)+uI (sG q b)<=KG q+uI q:=by
 unfold sG;split
 .exact ⟨h,eC _⟩
 .rename_i hr;obtain⟨b1,b2⟩:=Dw (zV q b) b.host;have hr2:q.uA.any (iA b)=false:=by simpa using hr
  have h3:=Yj q.uA b hr2 q.aO hm;have hz:aL {q with uA:=q.uA++[b]}=aL q+1+aQ b:=by simp only[aL,bP,eR,jE,aY,eN,eV];omega
  obtain⟨k1,k2⟩:=JA {q with uA:=q.uA++[b]} (bH (zV q b) b.host).2.1 false (by omega) b1 b2 h;refine⟨k1,?_⟩;have e:uI (lX {q with uA:=q.uA++[b]} (bH (zV q b) b.host).2.1 false)=aY (tN (q.uA++[b])) q.aO:=rfl;have e2:KG {q with uA:=q.uA++[b]}=KG q+1+aQ b:=by simp only[KG,hz];omega
  have e3:uI q=aY (tN q.uA) q.aO:=rfl;rw[e,e3];rw[e2]at k2;simp only[eS,hM]at k2;omega
theorem MM(p:aI)(L:List aD)(hL:aL p+6120+bP aQ L<=536870912)(hm:∀b∈L,b∈p.aO.map (·.to))(h:lG p):∀k,k<=L.length->lG (jM p L k)/\KG (jM p L k)+uI (jM p L k)<=KG p+uI p/\(jM p L k).entries=p.entries
 |0,_=>⟨h,eC _,rfl⟩
 |k+1,hk=>by
  obtain⟨h1,h2,h3⟩:=MM p L hL hm h k (by omega);obtain⟨f1,f2,f3⟩:=wV p L hL k (by omega);have hp:=(CB p).2;have hq:=(CB (jM p L k)).1;have hb:=hm L[k] (fS (by omega));have e1:bP aQ (L.take (k+1))=bP aQ (L.take k)+1+aQ L[k]:=by rw[eJ (show k<L.length by omega)];simp only[bP,eR,eN,eV,jE,aY];omega
  have e2:bP aQ (L.take (k+1))<=bP aQ L:=by have:=zT aQ L (k+1);simp only[bP,oT];omega
  obtain⟨k1,k2⟩:=ug (jM p L k) L[k] (by omega) (by rw[f2];exact hb) h1;rw[BC p L k (by omega)];refine⟨k1,by omega,?_⟩;rw[<-h3];unfold sG lX;split<;>rfl
theorem ui(p:aI)(a:aD)(hs:aL p<=500000000)(hm:bP bL p.aO+aQ a<=16777216)(h:lG p):keeps p (oL p a):=by
 unfold oL;split
 .have hf:=Cw a;have h1:=KH p.log (Uo++mQ a) (by simp only[Uo,eR,eN,eV];omega);refine⟨h,?_,eC _,by show p.aC.length<=_;omega⟩;simp only[oC,KG,uI,aL]at*;omega
 .rename_i hf;obtain⟨r1,r2,r3⟩:=HY p a hm (by simpa using hf);obtain⟨k1,k2,k3⟩:=MM p (dY p a) (by omega) (λb hb=>Ur (r3 b hb)) h _ (eC _);obtain⟨f1,f2,f3⟩:=wV p (dY p a) (by omega) _ (eC _);generalize jM p (dY p a) (dY p a).length=q at*;refine⟨k1,?_,?_,by rw[f3];omega⟩
  .simp only[oC,f3,k3];omega
  .simp only[CE,f2,k3];omega
theorem QD(p:aI)(k:Int)(hs:aL p<=536870912)(h:lG p):Dx p (BM p k).1:=by
 have hb:∀q:aI,Dx p q->Dx p {q with block:=0}:=λq hq=>hq
 unfold BM;split
 .split
  .rename_i s _;split
   .simp only;split
    .exact hb _ (DL p s.body true hs h)
    .exact hb _ (pY h)
   .exact pY h
  .exact hb _ (pY h)
 .exact hb _ (pY h)
theorem OC(p:aI)(hs:aL p<=536870912)(h:lG p):Dx p (jH p).1:=by
 unfold jH;split
 .split
  .exact (show Dx p {lZ p (Cu p.builder p.inline) true with inline:=0}from DL p _ true hs h)
  .exact pY h
 .split
  .exact QD p _ hs h
  .exact QB p h
theorem Ux(p:aI)(hs:aL p<=500000000)(hme:bP bL p.aO+bP aQ p.entries<=16777216)(h:lG p):Dx p (nZ p).1:=by
 unfold nZ;split
 .split
  .split
   .rename_i s _;unfold MJ;split
    .simp only;split
     .exact (show Dx p {lZ p s.body false with deferred:=p.deferred+1}from DL p s.body false (by omega) h)
     .exact (show Dx p {p with deferred:=p.deferred+1}from pY h)
    .exact pY h
   .exact pY h
  .split
   .rename_i a hg;have h1:=bS aQ (nB hg);have h2:aY aQ p.entries<=bP aQ p.entries:=by simp only[bP];omega
    obtain⟨k1,k2,k3,k4⟩:=ui p a hs (by omega) h;unfold MK;split
    .refine ⟨k1,?_,k3,k4⟩;show oC (oL p a)<=_;omega
    .exact pY h
   .unfold ML;split
    .have h1:=KH p.log Us (by simp[Us]);refine⟨h,?_,eC _,by show p.aC.length<=_;omega⟩;simp only[oC,KG,uI,aL]at*;omega
    .exact pY h
 .exact pY h
structure aNp(k:Nat)(q:aI): Prop where
  at_:lG q
  ga:oC q <= 25000000+721*k
  en:CE q <= 2000000
  sl:q.aC.length <= 1048576
theorem aNp.sz{k:Nat}{q:aI}(h:aNp k q)(hk:k<=2000):aL q<=27000000/\bP bL q.aO+bP aQ q.entries<=16777216:=by have h1:=h.ga;have h2:=h.en;have h3:=(CB q).1;simp only[oC,CE]at h1 h2;omega
theorem aIa{k:Nat}{q:aI}{r:aI}(hk:k<2000)(h:qI (2000-k) q=r):((xA q).2=true->qI (2000-(k+1)) (xA q).1=r)/\((xA q).2=false->q=r):=by
 obtain⟨n,hn⟩:∃n,2000-k=n+1:=⟨1999-k,by omega⟩;rw[hn]at h;have e:2000-(k+1)=n:=by omega
 rw[e];unfold qI at h;constructor
 .intro h2;rw[eK h2]at h;exact h
 .intro h2;rw[h2]at h;simpa using h
theorem uu(p:aI)(a:aD)(x:bA):(mD p a x).aC.length=p.aC.length:=(zB p a x _).1
theorem Q0(p:aI)(a:aD)(x:bA):aL (mD p a x)<=aL p+p.aC.length*400:=(zB p a x _).2.2
theorem aA2(p:aI)(a:aD):(eT p a).bD=p.bD/\(eT p a).addr=p.addr/\(eT p a).aC=p.aC:=by rcases ask_cases p a with⟨e,_⟩|⟨e,_⟩<;>rw[e]<;>exact⟨rfl,rfl,rfl⟩
structure QK(n e s:Nat)(q:aI): Prop where
  at_:lG q
  ga:oC q <= n
  en:CE q <= e
  sl:q.aC.length <= s
theorem QK.up{n e s n2 e2:Nat}{q:aI}(h:QK n e s q)(h1:n<=n2)(h2:e<=e2):QK n2 e2 s q:=⟨h.at_,lB h.ga h1,lB h.en h2,h.sl⟩
theorem QK.sz{n e s:Nat}{q:aI}(h:QK n e s q):aL q<=n/\bP bL q.aO+bP aQ q.entries<=e:=by have h1:=h.ga;have h2:=h.en;have h3:=(CB q).1;simp only[oC,CE]at h1 h2;omega
theorem ZF{n e s:Nat}{q:aI}(h:QK n e s q)(hn:n<=500000000)(he:e<=16777216)(IY:20<=s):QK (n+721) e s (xA q).1:=by
 obtain⟨h1,h2⟩:=h.sz;have h3:Dx q (xA q).1:=by
  unfold xA;split
  .exact OC q (by omega) h.at_
  .exact Ux q (by omega) (by omega) h.at_
 obtain⟨g1,g2,g3,g4⟩:=h3;have h4:=h.ga;have h5:=h.en;have h6:=h.sl;exact⟨g1,by omega,by omega,by omega⟩
theorem aA3{e s:Nat}(he:e<=16777216)(IY:20<=s):∀(m n:Nat) (q:aI),QK n e s q->n+721*m<=500000000->QK (n+721*m) e s (qI m q)
 |0,n,q,h,_=>h.up (by omega) (eC _)
 |m+1,n,q,h,hk=>by
  unfold qI;split
  .exact (aA3 he IY m (n+721) _ (ZF h (by omega) he IY) (by omega)).up (by omega) (eC _)
  .exact h.up (by omega) (eC _)
theorem UF{n e s:Nat}{q:aI}(h:QK n e s q)(hn:n+1442000<=500000000)(he:e<=16777216)(IY:20<=s):QK (n+1442000) e s (advance q):=by have:=aA3 he IY 2000 n q h (by omega);exact this
theorem Ww(p:aI)(k:Int)(x:bA):(iP p k x).builder=p.builder/\(iP p k x).queue=p.queue/\(iP p k x).log=p.log/\(iP p k x).aO=p.aO/\(iP p k x).uA=p.uA/\(iP p k x).entries=p.entries:=by
 unfold iP;split
 .split
  .split<;>exact⟨rfl,rfl,rfl,rfl,rfl,rfl⟩
  .exact ⟨rfl,rfl,rfl,rfl,rfl,rfl⟩
 .exact ⟨rfl,rfl,rfl,rfl,rfl,rfl⟩
theorem Qb(p:aI)(a:aD)(x:bA):∀k,(iB p a x k).builder=p.builder/\(iB p a x k).queue=p.queue/\(iB p a x k).log=p.log/\(iB p a x k).aO=p.aO/\(iB p a x k).uA=p.uA/\(iB p a x k).entries=p.entries
 |0=>⟨rfl,rfl,rfl,rfl,rfl,rfl⟩
 |k+1=>by
  obtain⟨i1,i2,i3,i4,i5,i6⟩:=Qb p a x k;simp only[iB];split
  .split
   .obtain ⟨r1,r2,r3,r4,r5,r6⟩:=Ww (iB p a x k) k x;exact⟨r1.trans i1,r2.trans i2,r3.trans i3,r4.trans i4,r5.trans i5,r6.trans i6⟩
   .exact ⟨i1,i2,i3,i4,i5,i6⟩
  .exact ⟨i1,i2,i3,i4,i5,i6⟩
theorem KP{n e s:Nat}{p:aI}(a:aD)(x:bA)(h:QK n e s p):QK (n+400*s) e s (mD p a x):=by
 obtain⟨r1,r2,r3,r4,r5,r6⟩:=Qb p a x p.aC.length;have h1:=Q0 p a x;have h2:=uu p a x;have h3:=h.sl;have h4:p.aC.length*400<=400*s:=by omega
 change (mD p a x).builder=p.builder at r1;change (mD p a x).queue=p.queue at r2;change (mD p a x).log=p.log at r3;change (mD p a x).aO=p.aO at r4;change (mD p a x).uA=p.uA at r5;change (mD p a x).entries=p.entries at r6;refine⟨zW h.at_ r1 r2,?_,?_,by omega⟩
 .have:=h.ga;simp only[oC,KG,uI,r1,r3,r4,r5,r6,h2]at this⊢;omega
 .have:=h.en;simp only[CE,r4,r6]at this⊢;exact this
theorem Yl{f:dX->Nat}:∀(l:List dX) (k:Nat) (hk:k<l.length) (m:dX),f m=f l[k]->aY f (l.set k m)=aY f l
 |x::l,0,hk,m,h=>by simp only[cU,aY];simp only[getElem_cons_zero]at h;omega
 |x::l,k+1,hk,m,h=>by simp only[cW,aY];rw[Yl l k (by simpa using hk) m (by simpa using h)]
theorem Qc:∀(l:List aD) (p:aI),(∀b∈l,aQ b<=16)->∃X,kZ p l={p with aO:=X}/\bP bL X<=bP bL p.aO+l.length*17/\aY (tN p.uA) X<=aY (tN p.uA) p.aO+l.length*17
 |[],p,_=>⟨p.aO,rfl,by simp,by simp⟩
 |b::l,p,h=>by
  obtain⟨X,e1,h1,h2⟩:=su p b;have hb:=h b (by simp);obtain⟨Y,e2,h3,h4⟩:=Qc l (eT p b) (λc hc=>h c (by simp[hc]));refine⟨Y,?_,?_,?_⟩
  .show kZ (eT p b) l=_;rw[e2,e1]
  .rw [e1]at h3;simp only[eN]at h3⊢;omega
  .rw [e1]at h4;simp only[eN]at h4⊢;omega
theorem UG{n e s:Nat}{p:aI}(a:aD)(x:bA)(h:QK n e s p):QK (n+2800) (e+1400) s (jV p a x):=by
 rcases lT (kW a) p.aO with⟨hi,hf⟩|⟨k,hk,hi,hf⟩
 .rw [FC hi];exact h.up (by omega) (by omega)
 .have hg:=aE hk;cases hd:p.aO[k].done
  .rw [IL hi hg hd];have FH:=HZ (x:=x) hi hk hf;have hqs:=ZE p k hk x;have hub:=EA p.bD (eQ p p.aO[k]) x;have b1:(iO {p with aO:=p.aO.set k (iZ p p.aO[k] x)} a).length<=57:=by
    rw[KO FH];split
    .obtain ⟨h1,_,h3⟩:=yY (iZ p p.aO[k] x).body a.host;have h4:(iZ p p.aO[k] x).body.length<=400:=hub;omega
    .simp
   obtain⟨X,e1,h1,h2⟩:=Qc (iO {p with aO:=p.aO.set k (iZ p p.aO[k] x)} a) {p with aO:=p.aO.set k (iZ p p.aO[k] x)} (aIf _ _);have hu:aY (tN p.uA) (p.aO.set k (iZ p p.aO[k] x))=aY (tN p.uA) p.aO:=Yl _ _ hk _ rfl;unfold MN;generalize (iO {p with aO:=p.aO.set k (iZ p p.aO[k] x)} a).length=c at*;rw[e1];simp only at h1 h2;rw[hu]at h2;have hc:c*17<=969:=by have:=lE 17 b1;omega
   have hm:bP bL (p.aO.set k (iZ p p.aO[k] x))<=bP bL p.aO+400:=by simp only[aL]at hqs;omega
   have h3:=h.ga;have h4:=h.en;refine⟨h.at_,?_,?_,h.sl⟩
   .simp only[oC,KG,uI,aL]at h3⊢;omega
   .simp only[CE]at h4⊢;omega
  .rw [FD hi hg hd];exact h.up (by omega) (by omega)
def mW(p:aI)(a:aD)(x:bA):aI:=advance (jV (mD p a x) a x)
theorem aC5{n e s:Nat}{p:aI}(a:aD)(x:bA)(h:QK n e s p)(hn:n+400*s+1445000<=500000000)(he:e+1400<=16777216)(IY:20<=s):QK (n+400*s+1445000) (e+1400) s (mW p a x):=by have h1:=KP a x h;have h2:=UG a x h1;have h3:=UF h2 (by omega) he IY;unfold mW;exact h3.up (by omega) (by omega)
def rD(p:aI):List fV:=zF (jD p) (places sJ 0 p.aC)++zF (pJ p) (places sK 0 p.aO)
theorem OE[aB prog](p:aI)(hl:p.aC.length<=1048576)(hm:p.aO.length<=1048576):Ok prog 42 [.agg (aJ .view p)] (.sl .own 5 ((rD p).map dD)):=by
 have k1:=Ev p (by omega);have k2:=FX p (by omega);have m1:=Co sJ p.aC 0;have m2:=Co sK p.aO 0;have n1:=jF sJ p.aC 0;have n2:=jF sK p.aO 0;unfold rD;generalize places sJ 0 p.aC=ps at*;generalize places sK 0 p.aO=pm at*;refine bM aG func42 ntmps42 ?_;refine gV ?_;refine aM (ι:={q:Nat×Nat // q.1<=ps.length/\1<=q.2}) (λt o i=>⟨bC t [(3,.obj 1 i.1.2),(5,.int .i64 i.1.1)],o.take 1++[⟨true,false,5,i.1.2,(zF (jD p) (ps.take i.1.1)).map dD⟩]++[⟨true,false,1,1,ps.map mM⟩]⟩)
  (λi=>ps.length-i.1.1) ⟨(0,1),by simp,by first|(simp;done)|(simp only;omega)⟩ aK ?_
 rintro⟨⟨k,v⟩,hk,hv⟩ K1 hK1;simp only at hk hv;simp only[bC,cW,cU,eL,fW,eA,eM]at hK1⊢;have hk1:=oQ (k:=k);by_cases hlt:k<ps.length
 .have hg:=aE hlt;have hps:=zM (jD p) ps k hlt;have hpl:=rJ (jD p) (ps.take k);have htl:(ps.take k).length=k:=by simp;omega
  generalize zF (jD p) (ps.take k)=g at*;have hb1:(g.length+1)*72<=140737488355328:=by omega
  have hb2:g.length+1<=9223372036854775807:=by omega
  have hb3:g.length<=9223372036854775806:=by omega
  have hz:=m1 _ (fS hlt);have c1:=xK p ps[k] (by omega) (by omega) (by omega);simp only[aJ,dD]at c1;have W:=aA hk1 (aA hg (aA hlt (aA hb1 (aA hb2 hb3))));refine wl ?_;refine hK1 _ ⟨(k+1,v+1),by simp only;omega,by simp only;omega⟩ (aT 3 (by simp[hps])) (by simp only;omega)
 .have htk:ps.take k=ps:=cX (by omega);rw[htk];have qh:=rJ (jD p) ps;generalize hG:zF (jD p) ps=G at*;have W:=hk1;refine wl ?_;refine aM (ι:={q:Nat×Nat // q.1<=pm.length/\1<=q.2}) (λt o i=>⟨bC t [(3,.obj 1 i.1.2),(7,.int .i64 i.1.1)],o.take 1++[⟨true,false,5,i.1.2,(G++zF (pJ p) (pm.take i.1.1)).map dD⟩]++[⟨true,false,1,1,ps.map mM⟩,⟨true,false,1,1,pm.map mM⟩]⟩)
   (λi=>pm.length-i.1.1) ⟨(0,v),by simp,by first|(simp;done)|(simp only;omega)⟩ aK ?_
  rintro⟨⟨k,v⟩,hk,hv⟩ K1 hK1;simp only at hk hv;simp only[bC,cW,cU,eL,fW,eA,eM]at hK1⊢;have hk1:=oQ (k:=k);by_cases hlt:k<pm.length
  .have hg:=aE hlt;have hps:=zM (pJ p) pm k hlt;have hpl:=rJ (pJ p) (pm.take k);have htl:(pm.take k).length=k:=by simp;omega
   generalize zF (pJ p) (pm.take k)=g at*;have hb1:(G.length+g.length+1)*72<=140737488355328:=by omega
   have hb2:G.length+g.length+1<=9223372036854775807:=by omega
   have hb3:G.length+g.length<=9223372036854775806:=by omega
   have hz:=m2 _ (fS hlt);have c1:=Du p pm[k] (by omega) (by omega) (by omega);simp only[aJ,dD]at c1;have W:=aA hk1 (aA hg (aA hlt (aA hb1 (aA hb2 hb3))));refine wl ?_;refine hK1 _ ⟨(k+1,v+1),by simp only;omega,by simp only;omega⟩ (aT 4 (by simp[hps])) (by simp only;omega)
  .have htk:pm.take k=pm:=cX (by omega);rw[htk];have W:=hk1;refine wl ?_;all_goals try(refine aR ?_;simp[aP,results42])
   all_goals first|(rw[<-oY];exact yG _)|(simp[hG];rw[<-oY];exact yG _)|fail
theorem OG[aB prog](p:aI)(hl:p.aC.length<=1048576)(hm:p.aO.length<=1048576):Ok prog 100 [.agg (aJ .view p)] (.sl .own 5 ((rD p).map dD)):=by
 have k1:=Ew p (by omega);have k2:=FY p (by omega);have m1:=Co sJ p.aC 0;have m2:=Co sK p.aO 0;have n1:=jF sJ p.aC 0;have n2:=jF sK p.aO 0;unfold rD;generalize places sJ 0 p.aC=ps at*;generalize places sK 0 p.aO=pm at*;refine bM aG func100 ntmps100 ?_;refine gV ?_;refine aM (ι:={q:Nat×Nat // q.1<=ps.length/\1<=q.2}) (λt o i=>⟨bC t [(3,.obj 1 i.1.2),(12,.int .i64 i.1.1)],o.take 1++[⟨true,false,5,i.1.2,(zF (jD p) (ps.take i.1.1)).map dD⟩]++[⟨true,false,1,1,ps.map mM⟩]⟩)
  (λi=>ps.length-i.1.1) ⟨(0,1),by simp,by first|(simp;done)|(simp only;omega)⟩ aK ?_
 rintro⟨⟨k,v⟩,hk,hv⟩ K1 hK1;simp only at hk hv;simp only[bC,cW,cU,eL,fW,eA,eM]at hK1⊢;have hk1:=oQ (k:=k);by_cases hlt:k<ps.length
 .have hg:=aE hlt;have hps:=zM (jD p) ps k hlt;have hpl:=rJ (jD p) (ps.take k);have htl:(ps.take k).length=k:=by simp;omega
  generalize zF (jD p) (ps.take k)=g at*;have hb1:(g.length+1)*72<=140737488355328:=by omega
  have hb2:g.length+1<=9223372036854775807:=by omega
  have hb3:g.length<=9223372036854775806:=by omega
  have hz:=m1 _ (fS hlt);have c1:=xL p ps[k] (by omega) (by omega) (by omega);simp only[aJ,dD]at c1;have W:=aA hk1 (aA hg (aA hlt (aA hb1 (aA hb2 hb3))));refine wl ?_;refine hK1 _ ⟨(k+1,v+1),by simp only;omega,by simp only;omega⟩ (aT 3 (by simp[hps])) (by simp only;omega)
 .have htk:ps.take k=ps:=cX (by omega);rw[htk];have qh:=rJ (jD p) ps;generalize hG:zF (jD p) ps=G at*;have W:=hk1;refine wl ?_;refine aM (ι:={q:Nat×Nat // q.1<=pm.length/\1<=q.2}) (λt o i=>⟨bC t [(3,.obj 1 i.1.2),(26,.int .i64 i.1.1)],o.take 1++[⟨true,false,5,i.1.2,(G++zF (pJ p) (pm.take i.1.1)).map dD⟩]++[⟨true,false,1,1,ps.map mM⟩,⟨true,false,1,1,pm.map mM⟩]⟩)
   (λi=>pm.length-i.1.1) ⟨(0,v),by simp,by first|(simp;done)|(simp only;omega)⟩ aK ?_
  rintro⟨⟨k,v⟩,hk,hv⟩ K1 hK1;simp only at hk hv;simp only[bC,cW,cU,eL,fW,eA,eM]at hK1⊢;have hk1:=oQ (k:=k);by_cases hlt:k<pm.length
  .have hg:=aE hlt;have hps:=zM (pJ p) pm k hlt;have hpl:=rJ (pJ p) (pm.take k);have htl:(pm.take k).length=k:=by simp;omega
   generalize zF (pJ p) (pm.take k)=g at*;have hb1:(G.length+g.length+1)*72<=140737488355328:=by omega
   have hb2:G.length+g.length+1<=9223372036854775807:=by omega
   have hb3:G.length+g.length<=9223372036854775806:=by omega
   have hz:=m2 _ (fS hlt);have c1:=vB p pm[k] (by omega) (by omega) (by omega);simp only[aJ,dD]at c1;have W:=aA hk1 (aA hg (aA hlt (aA hb1 (aA hb2 hb3))));refine wl ?_;refine hK1 _ ⟨(k+1,v+1),by simp only;omega,by simp only;omega⟩ (aT 4 (by simp[hps])) (by simp only;omega)
  .have htk:pm.take k=pm:=cX (by omega);rw[htk];have W:=hk1;refine wl ?_;all_goals try(refine aR ?_;simp[aP,results100])
   all_goals first|(rw[<-oY];exact yG _)|(simp[hG];rw[<-oY];exact yG _)|fail
def OO(rv:Nat)(q:aI):List aN:=[⟨true,false,1,1,q.bD.fC.map dC⟩,⟨true,false,1,1,q.bD.gY.map dC⟩,⟨true,false,1,1,q.bD.gZ.map dC⟩,⟨true,false,4,1,q.queue.map (cB .own)⟩,⟨true,false,4,1,q.builder.nodes.map (fA .own)⟩,⟨true,false,1,1,q.builder.opens.map mM⟩,⟨true,false,8,1,q.aC.map vH⟩,⟨true,false,5,1,q.aO.map eY⟩,⟨true,false,2,1,q.entries.map aH⟩,⟨true,false,2,rv,q.uA.map aH⟩,⟨true,false,1,1,q.log.map dC⟩]
def OP(rv:Nat)(q:aI):List AV:=[.str q.addr.host,.str q.addr.path,.bool q.bD.isSet,.obj 3 1,.obj 4 1,.obj 5 1,.str q.bD.tQ,.str q.tok.rest,.obj 6 1,.bool q.ended,.obj 7 1,.obj 8 1,.obj 9 1,.obj 10 1,.obj 11 1,.int .i64 q.block,.int .i64 q.inline,.int .i64 q.deferred,.int .i64 q.iC,.obj 12 rv,.obj 13 1,.bool q.pF]
theorem ZO[aB prog][dM prog][bQ prog][oO prog](p:aI)(a:aD)(hs:aL p<=500000000)(hm:bP bL p.aO+aQ a<=16777216):
  Ok prog 128 [.agg (aJ .view p),.agg (aH a)] (.agg (aJ .own (oL p a))):=by
 have c0:=gK p (by omega);have c1:=MH p a hm;unfold oL;cases hfl:uH p a
 .rw [cY (by simp)];obtain⟨r1,r2,r3⟩:=HY p a hm hfl;obtain⟨hB,_⟩:=HV p a hm;have c2:=Cz p _ hB a (by simp);have KT:=wV p (dY p a) (by omega);have Ol:=BC p (dY p a);have hz0:jM p (dY p a) 0=p:=rfl;have hsz:∀k,k<=(dY p a).length->aL (jM p (dY p a) k)<=520000000:=λk hk=>by
   have h1:=(KT k hk).1;have h2:=(CB (jM p (dY p a) k)).1;have h3:=(CB p).2;have h4:=zT aQ (dY p a) k;simp only[bP,oT]at h1 r2 hm;omega
  have Va:∀k,k<=(dY p a).length->(jM p (dY p a) k).aO=p.aO:=λk hk=>(KT k hk).2.1
  have hmem:∀b∈dY p a,∃(j:Nat) (m:dX),qO (kW b) p.aO=(j:Int)/\p.aO[j]? =some m/\j<p.aO.length/\zV p b=m.body:=λb hb=>by
   have h1:=r3 b hb;rcases lT (kW b) p.aO with⟨hi,hf⟩|⟨j,hj,hi,hf⟩
   .unfold lL at h1;rw[hf]at h1;cases h1
   .exact ⟨j,p.aO[j],hi,aE hj,hj,by unfold zV;rw[hf]⟩
  have Og:∀b∈dY p a,aQ b<=16777215:=λb hb=>by have:=bS aQ hb;have:=length_pos_of_mem hb;simp only[bP]at r2 hm;omega
  have T9:∀m∈p.aO,m.body.length<=16777216:=λm hx=>by have:=bS bL hx;simp only[bP,bL]at hm this;omega
  have Nn:p.aO.length<=16777216:=by simp only[bP]at hm;omega
  clear r2 r3 hB KT;generalize dY p a=L at*;generalize jM p L=Q at*;simp only[aJ,aH]at c0 c1 c2;rw[hfl]at c1;refine uP aG [3,16] func128 ntmps128 ?_;refine aZ ?_;refine aM (ι:={q:Nat×Nat // q.1<=L.length}) (λt o i=>⟨bC t [(7,.int .i64 i.1.1),(16,.undef)],o.take 3++OO i.1.2 (Q i.1.1)++[⟨true,true,22,0,[OP i.1.2 (Q i.1.1)]⟩,⟨true,false,2,1,L.map aH⟩]⟩)
   (λi=>L.length-i.1.1) ⟨(0,1),by simp⟩ (aK (by simp[OP,OO,hz0]) (by simp)) ?_
  rintro⟨⟨k,v⟩,hk⟩ K1 hK1;simp only at hk;have hk1:=oQ (k:=k);by_cases hlt:k<L.length
  .have hg:=aE hlt;have hbm:=fS hlt;have hnext:=Ol k hlt;have hq1:=hsz k hk;have hqm:=Va k hk;obtain⟨j,m,hi,hgm,hjl,hbd⟩:=hmem L[k] hbm;have hsb:=Og L[k] hbm;rw[<-hqm]at hi hgm hjl;have hbq:zV (Q k) L[k]=m.body:=by rw[<-hbd];unfold zV;rw[hqm]
   have hmb:m.body.length<=16777216:=T9 m (by rw[<-hqm];exact nB hgm);unfold sG at hnext;rw[hbq]at hnext;have hK2:=hK1;clear Ol hsz Va hmem Og T9 hbd hqm hbm c1 c2;generalize hq':Q (k+1)=q' at*;generalize hq:Q k=q at*;have hrl:q.uA.length<=520000000:=by simp only[aL,bP]at hq1;omega
   have c3:=yN q.uA L[k] (by omega);simp only[bC,cW,cU,eL,fW,eA,eM,OO,OP]at hK1⊢;cases hh:q.uA.any (iA L[k])
   .rw [hh]at hnext c3;rw[cY (by simp)]at hnext;obtain⟨rn,hrn⟩:∃rn,rn=q.uA++[L[k]]:=⟨_,rfl⟩;have hap:q.uA.map aH++[[.str L[k].host,.str L[k].path]]=rn.map aH:=by rw[hrn];simp
    rw[<-hrn]at hnext;have hsq:aL {q with uA:=rn}<=536870912:=by simp only[aL,bP,hrn,eR,eN,eV,jE,aY]at hq1⊢;omega
    have c4:=Ar {q with uA:=rn} L[k] (by simp only;simp only[aL,bP]at hq1;omega);have hbh:L[k].host.length<=16777216:=by simp only[aQ]at hsb;omega
    have c5:=xM m.body L[k].host (by omega) (by omega);obtain⟨l6,lx⟩:=Dw m.body L[k].host;have hsl:bP lJ q.aC<=1073741824:=by simp only[aL,bP]at*;omega
    have bAf:aU q.builder<=536870912:=by simp only[aL]at hq1;omega
    have xg:q.log.length<=536870912:=by simp only[aL,bP]at hq1;omega
    have c6:=FT {q with uA:=rn} hsl;obtain⟨hb1,hb2⟩:=DJ {q with uA:=rn};have hb1':(dG {q with uA:=rn}).length<=536870912:=by simp only[aL,bP]at hq1 hb1;omega
    have c7:=En q.builder (dG {q with uA:=rn}) (bH m.body L[k].host).2.1 (by omega) l6 (λx hm=>by have:=lx x hm;omega) (by omega) (λx hm=>by have:=hb2 x hm;omega) (xU _);obtain⟨z1,z2,z3,z4⟩:=Cg 60 q.builder (dG {q with uA:=rn}) (bH m.body L[k].host).2.1 (by omega) l6 lx (xU _) (by omega) (bH m.body L[k].host).2.1.length (eC _);have hend:tH q.builder (dG {q with uA:=rn}) (bH m.body L[k].host).2.1 (bH m.body L[k].host).2.1.length=eH q.builder (dG {q with uA:=rn}) (bH m.body L[k].host).2.1:=by simp[tH]
    rw[hend]at z1 z2 z3 z4;unfold lX at hnext;simp only[hi]at c4;simp only[eS,hM]at hnext;clear hrn hsq lx hq1 hend hb1 hb2;generalize dG {q with uA:=rn}=ss at*;generalize bH m.body L[k].host=g at*;obtain⟨im,ln,bk⟩:=g;simp only at c5 c7 z1 z2 z3 z4 l6 hnext;generalize eH q.builder ss ln=g at*;obtain⟨b,wr,lg⟩:=g;simp only at c7 z1 z2 z3 z4 hnext;have hj0:¬(j:Int)<0:=by omega
    simp only[aJ,aH,aV]at c3 c4 c5 c6 c7;have W:=aA hk1 (aA hg (aA hap (aA hgm (aA hj0 hrl))));have V:=aA hlt (aA hjl hj0);refine we ?_;obtain⟨P,hP⟩:∃P:Nat->aI,∀i,P i={q with uA:=rn,builder:=b,log:=nP q.log (lg.take i)}:=⟨_,λ_=>rfl⟩;have hP0:P 0={q with uA:=rn,builder:=b}:=by rw[hP];rfl
    have hPn:P lg.length=q':=by rw[hP,hnext,vA]
    have hPl:∀i,i<=lg.length->(P i).log.length<=1099511627776:=λi hi=>by rw[hP];have:=KA q.log (lg.take i);simp only[oT]at this⊢;omega
    have hPs:∀i (h:i<lg.length),P (i+1)={P i with log:=kC (P i).log lg[i]}:=λi h=>by rw[hP,hP,Hf _ _ _ h]
    clear c3 c4 c5 c6 c7 hP hnext;refine aM (ι:={q:Nat×Nat // q.1<=lg.length}) (λt o i=>⟨bC t [(14,.int .i64 i.1.1),(11,.ptr 19 1 0 0),(50,.undef),(52,.undef),(53,.undef),(59,.undef),(60,.undef),(77,.undef),(71,.undef),(74,.undef),(78,.undef),(73,.undef),(81,.undef),(42,.undef),(48,.undef),(35,.undef),(16,.undef)],o.take 3++OO i.1.2 (P i.1.1)++[⟨true,true,22,0,[OP i.1.2 (P i.1.1)]⟩,⟨true,false,2,1,L.map aH⟩,⟨false,false,2,1,[[.str L[k].host,.str L[k].path]]⟩,⟨true,false,2,1,im.map aH⟩,⟨true,false,2,1,ln.map lS⟩,⟨false,false,0,1,[]⟩,⟨true,false,1,1,ss.map (dZ .own)⟩,⟨true,false,4,1,q.builder.nodes.map (fA .own)⟩,⟨true,false,1,1,q.builder.opens.map mM⟩,⟨true,false,1,1,lg.map dC⟩]⟩)
     (λi=>lg.length-i.1.1) ⟨(0,v+1),by simp⟩ ?_ ?_
    .simp only[hP0,OP,OO,bC,cW,cU,eL,fW,eA,eM];exact aIw 7 21 8 22 19 rfl rfl ⟨rfl,rfl⟩ (by simp;rfl) rfl rfl ⟨rfl,rfl⟩ (by simp;rfl) rfl (by simp) (by simp) (by simp)
    rintro⟨⟨i,rv⟩,hil⟩ K2 hK3;simp only at hil;have hk2:i64.wrap ((i:Int)+1)=((i+1:Nat):Int):=by rw[wrap64]<;>omega
    by_cases hit:i<lg.length
    .have hgi:=aE hit;have hnx:=hPs i hit;have c4:=KE (P i) lg[i] (hPl i hil);rw[<-hnx]at c4;have hK4:=hK3;clear hP0 hPn hPl hPs hnx;generalize hp':P (i+1)=p' at*;generalize hpi:P i=pi at*;simp only[bC,cW,cU,eL,fW,eA,eM,OO,OP]at hK3⊢;simp only[aJ]at c4;have W:=aA hk2 (aA hgi hit);refine we ?_;rw[yP];refine go_drawn (by simp;rfl) (by simp;rfl) (by decide+kernel) (by decide) (by first|rfl|(simp[jd];done)) (by simp) (by simp) ?_;iterate 5 (
      refine go_draw rfl (by first|rfl|(simp;done)) (by simp[Region.binds];rfl) (by decide) (by simp[Region.binds];rfl) (by simp;rfl) ?_ ?_
      .first|rfl|(simp[nW];done)
      refine nx ?_;refine so ?_;refine kN ?_;refine go_next (by simp;done) (by simp;rfl) (by simp;rfl) ?_)
     refine EU (s1:= ?s1) (by decide+kernel) (by simp[uT,reach,nI,Region.binds,Dd];rfl) ?ha ?hk;case ha=>
      repeat' (first|refine st ?_|(refine nx ?_;first|refine so ?_|refine sg (hc:=c4) (h:= ?_))|refine sx ?_ ?_|refine sy ?_ ?_|fail)
      all_goals rfl
     case hk=>
      have W:=hk2;refine we ?_;refine hK4 _ ⟨(i+1,1),by simp only;omega⟩ ?_ (by simp only;omega);simp only[hp'];exact aDb (q:=p') rfl (by simp[OO,OP,zJ,zK,hp']) (by simp[xW]) (by simp[xW]) (by simp) (by simp) (by simp[dB])
    .have hie:i=lg.length:=by omega
     subst hie;simp only[hPn,bC,cW,cU,eL,fW,eA,eM,OO,OP]at hK3⊢;clear hP0 hPn hPl hPs hK3;have W:=aA hk1 hit;refine we ?_;refine hK2 _ ⟨(k+1,rv),by simp only;omega⟩ ?_ (by simp only;omega);exact aT 16 (by simp[OO,OP,hq']) (by simp) (by simp) (by simp[dB,OO,OP,hq'])
   .rw [hh]at hnext c3;rw[eK rfl]at hnext;simp only[aH]at c3;have W:=aA hk1 (aA hg hlt);refine we ?_;refine hK2 _ ⟨(k+1,v),by simp only;omega⟩ ?_ (by simp only;omega);exact aT 16 (by simp[OO,OP,hq',hnext]) (by simp) (by simp) (by simp[dB,OO,OP,hq',hnext])
  .have hkl:k=L.length:=by omega
   subst hkl;simp only[bC,cW,cU,eL,fW,eA,eM,OO,OP]at hK1⊢;clear Ol hsz Va hmem Og T9 hK1 c1 c2;generalize Q L.length=q at*;have W:=aA hk1 hlt;refine we ?_;exact aF results128
 .rw [eK rfl];rw[hfl]at c1;have hfm:=Cw a;have xg:p.log.length<=500000000:=by simp only[aL,bP]at hs;omega
  have c2:=Ms a (by omega);have c3:=KE p (Uo++mQ a) (by omega);simp only[Uo]at c3⊢;generalize mQ a=fa at*;simp only[aJ,aH]at c0 c1 c2 c3⊢;refine uP aG [3] func128 ntmps128 ?_;have W:=hfm;refine we ?_;rw[yP];refine go_drawn (by simp;rfl) (by simp;rfl) (by decide+kernel) (by decide) (by first|rfl|(simp[jd];done)) (by simp) (by simp) ?_;iterate 4 (
   refine go_draw rfl (by first|rfl|(simp;done)) (by simp[Region.binds];rfl) (by decide) (by simp[Region.binds];rfl) (by simp;rfl) ?_ ?_
   .first|rfl|(simp[nW];done)
   refine nx ?_;refine so ?_;refine kN ?_;refine go_next (by simp;done) (by simp;rfl) (by simp;rfl) ?_)
  refine EU (s1:= ?s2) (by decide+kernel) (by simp[uT,reach,nI,Region.binds,Dd];rfl) ?ha2 ?hk2;case ha2=>
   repeat' (first|refine st ?_|(refine nx ?_;first|refine so ?_|refine sg (hc:=c3) (h:= ?_))|refine sx ?_ ?_|refine sy ?_ ?_|fail)
   all_goals rfl
  case hk2=>
   refine aZ ?_;exact aF results128
theorem QO[aB prog][dM prog][bQ prog][oO prog](p:aI)(hs:aL p<=500000000)(hn1:p.aC.length<=16777216)(hme:bP bL p.aO+bP aQ p.entries<=16777216):Ok prog 73 [.agg (aJ .view p)] (.gM [.agg (aJ .own (nZ p).1),.bool (nZ p).2]):=by
 have c1:=gK p (by omega);have hn2:p.aO.length<=16777216:=by simp only[bP]at hme;omega
 have cP:=Qz p;have cS:=Cs p (by omega);have cD:=Hm p hn1;have hbd:∀s∈p.aC,s.body.length<=500000000:=λs hm=>by have:=bS lJ hm;simp only[aL,bP,lJ]at hs this;omega
 have hed:∀a∈p.entries,bP bL p.aO+aQ a<=16777216:=λa hm=>by
  have h1:=bS aQ hm;have h2:aY aQ p.entries<=bP aQ p.entries:=by simp only[bP];omega
  omega
 have aXb:p.entries.length<=16777216:=by
  have:p.entries.length<=bP aQ p.entries:=by simp only[bP];omega
  omega
 have aQj:=jF jU p.aC 0;have Qp:=OA jU p.aC 0;unfold nZ;by_cases hpre:yZ p=true/\p.pF=false/\0<=p.deferred/\0<=p.iC
 .rw [eK hpre];obtain⟨h1,h2,h3,h4⟩:=hpre;obtain⟨dn,Gf⟩:=mS h3;obtain⟨en,Ov⟩:=mS h4;rw[Gf,Ov,mA,mA];rw[h1]at cP;by_cases hdl:dn<(places jU 0 p.aC).length
  .have ZP:=aE hdl;obtain⟨sn,Oa,_,hsl⟩:=Qp _ (fS hdl);rw[hY]at hsl;rw[Oa]at ZP;rw[ZP];simp only[mA];have hgS:=aE hsl;rw[hgS];simp only;have aIv:=hbd _ (fS hsl);have hkd:i64.wrap ((dn:Int)+1)=(dn:Int)+1:=by rw[wrap64]<;>omega
   have hdi:(dn:Int)<((places jU 0 p.aC).length:Int):=by omega
   unfold MJ;have c4:=Cm p p.aC[sn].body false (by omega) (by omega);have hqd:=(Jz p p.aC[sn].body false).1.trans Gf;clear hbd hed Qp Oa aQj;generalize places jU 0 p.aC=D at*;cases hd:p.aC[sn].done
   .rw [cY (by simp)];simp only[aJ,h2,Gf,Ov]at c1 cP cS cD⊢;refine bM aG func73 ntmps73 ?_;have W:=aA hdi (aA ZP (aA hgS hd));have V:=aA hdl hsl;refine we ?_;exact aF results73
   .generalize p.aC.all oK=S9 at*;cases S9
    .rw [cY (by simp)];simp only[aJ,h2,Gf,Ov]at c1 cP cS cD⊢;refine bM aG func73 ntmps73 ?_;have W:=aA hdi (aA ZP (aA hgS hd));have V:=aA hdl hsl;refine we ?_;exact aF results73
    .rw [eK ⟨rfl,rfl⟩];by_cases ZN:p.aC[sn].code=1
     .rw [eK ZN];generalize lZ p p.aC[sn].body false=q at*;simp only[aJ,h2,Gf,Ov,hqd]at c1 cP cS cD c4⊢;refine bM aG func73 ntmps73 ?_;have W:=aA hdi (aA ZP (aA hgS (aA hd (aA ZN hkd))));have V:=aA hdl hsl;refine we ?_;exact aF results73
     .rw [cY ZN];simp only[aJ,h2,Gf,Ov]at c1 cP cS cD⊢;refine bM aG func73 ntmps73 ?_;have W:=aA hdi (aA ZP (aA hgS (aA hd (aA ZN hkd))));have V:=aA hdl hsl;refine we ?_;exact aF results73
  .have ZP:(places jU 0 p.aC)[dn]? =none:=pC (by omega);rw[ZP];simp only;have hdl:¬(dn:Int)<((places jU 0 p.aC).length:Int):=by omega
   clear hbd Qp ZP;generalize places jU 0 p.aC=D at*;by_cases hlE:en<p.entries.length
   .have hgE:=aE hlE;rw[hgE];simp only;have hsa:=hed _ (fS hlE);have hel:(en:Int)<(p.entries.length:Int):=by omega
    have hke:i64.wrap ((en:Int)+1)=(en:Int)+1:=by rw[wrap64]<;>omega
    have cG:=MF p p.entries[en] hsa;have c5:=ZO p p.entries[en] hs hsa;have hqe:=(Yg p p.entries[en]).trans Ov;clear hed;unfold MK;generalize xN p p.entries[en]=gr at*;cases gr
    .rw [cY (by simp)];simp only[aJ,aH,h2,Gf,Ov]at c1 cP cS cD cG⊢;refine bM aG func73 ntmps73 ?_;have W:=aA hdl (aA hel (aA hgE hlE));refine we ?_;exact aF results73
    .generalize p.aC.all oK=S9 at*;cases S9
     .rw [cY (by simp)];simp only[aJ,aH,h2,Gf,Ov]at c1 cP cS cD cG⊢;refine bM aG func73 ntmps73 ?_;have W:=aA hdl (aA hel (aA hgE hlE));refine we ?_;exact aF results73
     .rw [eK ⟨rfl,rfl⟩];generalize oL p p.entries[en]=q at*;simp only[aJ,aH,h2,Gf,Ov,hqe]at c1 cP cS cD cG c5⊢;refine bM aG func73 ntmps73 ?_;have W:=aA hdl (aA hel (aA hke (aA hgE hlE)));refine we ?_;exact aF results73
   .have hgE:p.entries[en]? =none:=pC (by omega);rw[hgE];simp only;have hel:¬(en:Int)<(p.entries.length:Int):=by omega
    clear hed;have cO:=Ev p hn1;have cM:=FX p hn2;have xg:p.log.length<=500000000:=by simp only[aL,bP]at hs;omega
    have c5:=KE p Us (by omega);unfold ML;simp only[Us]at c5⊢;generalize places sJ 0 p.aC=O at*;generalize places sK 0 p.aO=M at*;by_cases ho:O.length=0
    .obtain rfl:=Ax.1 ho;by_cases hm:M.length=0
     .obtain rfl:=Ax.1 hm;rw[eK ⟨rfl,rfl⟩];simp only[aJ,h2,Gf,Ov]at c1 cP cS cD cO cM c5⊢;refine bM aG func73 ntmps73 ?_;have W:=aA hdl hel;repeat' first|refine wf ?_|(refine nx ?_;refine sg (hc:=c5) (h:=?_))|(refine sq ?_ ?_<;>intro hc<;>try exact hc.elim)|fail
      exact aF results73
     .rw [cY (by omega)];have hm2:¬M=[]:=λh=>hm (by rw[h];rfl)
      have hm3:(0:Int)<(M.length:Int):=by omega
      simp only[aJ,h2,Gf,Ov]at c1 cP cS cD cO cM⊢;refine bM aG func73 ntmps73 ?_;have W:=aA hdl (aA hel (aA hm2 hm3));repeat' first|refine wf ?_|(refine sq ?_ ?_<;>intro hc<;>try exact hc.elim)|fail
      all_goals (try exact(hm2 (by assumption)).elim)
      all_goals (try exact aF results73)
    .rw [cY (by omega)];have ho2:¬O=[]:=λh=>ho (by rw[h];rfl)
     have ho3:(0:Int)<(O.length:Int):=by omega
     simp only[aJ,h2,Gf,Ov]at c1 cP cS cD cO cM⊢;refine bM aG func73 ntmps73 ?_;have W:=aA hdl (aA hel (aA ho2 ho3));repeat' first|refine wf ?_|(refine sq ?_ ?_<;>intro hc<;>try exact hc.elim)|fail
     all_goals (try exact(ho2 (by assumption)).elim)
     all_goals (try exact aF results73)
 .rw [cY hpre];clear hbd hed Qp;cases h1:yZ p
  .rw [h1]at cP;simp only[aJ]at c1 cP cS cD⊢;refine bM aG func73 ntmps73 ?_;refine aZ ?_;exact aF results73
  .rw [h1]at cP;cases h2:p.pF
   .by_cases h3:p.deferred<0
    .simp only[aJ,h2]at c1 cP cS cD⊢;refine bM aG func73 ntmps73 ?_;have W:=h3;refine we ?_;exact aF results73
    .have h4:p.iC<0:=by
      rw[h1,h2]at hpre;by_cases h4:p.iC<0
      .exact h4
      .exact (hpre ⟨rfl,rfl,by omega,by omega⟩).elim
     simp only[aJ,h2]at c1 cP cS cD⊢;refine bM aG func73 ntmps73 ?_;have W:=aA h3 h4;refine we ?_;exact aF results73
   .simp only[aJ,h2]at c1 cP cS cD⊢;refine bM aG func73 ntmps73 ?_;refine aZ ?_;exact aF results73
def rE:List (Nat×Nat):=[(4,18),(5,19),(6,20),(7,21),(8,22),(9,23),(10,24),(11,25),(12,26),(13,27),(14,28)]
theorem U0{t t':List AV}{o o':List aN}{o0 o1 o2 o3 m0 m1:aN}{q0 q:aI}(ho:o=[o0,o1,o2,o3]++lY q0++[⟨true,true,22,0,[jJ 18 q]⟩,m0,m1]++lY q)(ho':o'=[o0,o1,o2,o3]++lY q++[⟨true,true,22,0,[jJ 4 q]⟩,m0,m1])
  (ht:∀z∈rE,wk (rP z.1 z.2 t') t') (hf:∀z∈rE,o0.lV z.1 z.2=o0/\o1.lV z.1 z.2=o1/\o2.lV z.1 z.2=o2/\o3.lV z.1 z.2=o3/\m0.lV z.1 z.2=m0/\m1.lV z.1 z.2=m1) (hw:wk t t') (hc:eP 18 t'=true) (hc0:dB 18 [o0,o1,o2,o3,m0,m1]=true):lC ⟨t,o⟩ ⟨t',o'⟩:=by
 subst ho;subst ho';have e:=λi j (h:(i,j)∈rE)=>hf (i,j) h
 have h:=λi j (h:(i,j)∈rE)=>ht (i,j) h
 simp only[lY,jJ,eA,eM];refine(wN hw).trans ?_;refine(aS 4 18 rfl rfl ⟨rfl,rfl⟩ (by simp[(e 4 18 (by decide))];rfl) (h 4 18 (by decide))).trans ?_;refine(aS 5 19 rfl rfl ⟨rfl,rfl⟩ (by simp[(e 5 19 (by decide))];rfl) (h 5 19 (by decide))).trans ?_;refine(aS 6 20 rfl rfl ⟨rfl,rfl⟩ (by simp[(e 6 20 (by decide))];rfl) (h 6 20 (by decide))).trans ?_;refine(aS 7 21 rfl rfl ⟨rfl,rfl⟩ (by simp[(e 7 21 (by decide))];rfl) (h 7 21 (by decide))).trans ?_;refine(aS 8 22 rfl rfl ⟨rfl,rfl⟩ (by simp[(e 8 22 (by decide))];rfl) (h 8 22 (by decide))).trans ?_;refine(aS 9 23 rfl rfl ⟨rfl,rfl⟩ (by simp[(e 9 23 (by decide))];rfl) (h 9 23 (by decide))).trans ?_;refine(aS 10 24 rfl rfl ⟨rfl,rfl⟩ (by simp[(e 10 24 (by decide))];rfl) (h 10 24 (by decide))).trans ?_;refine(aS 11 25 rfl rfl ⟨rfl,rfl⟩ (by simp[(e 11 25 (by decide))];rfl) (h 11 25 (by decide))).trans ?_;refine(aS 12 26 rfl rfl ⟨rfl,rfl⟩ (by simp[(e 12 26 (by decide))];rfl) (h 12 26 (by decide))).trans ?_;refine(aS 13 27 rfl rfl ⟨rfl,rfl⟩ (by simp[(e 13 27 (by decide))];rfl) (h 13 27 (by decide))).trans ?_;refine(aS 14 28 rfl rfl ⟨rfl,rfl⟩ (by simp[(e 14 28 (by decide))];rfl) (h 14 28 (by decide))).trans ?_;refine aT 18 (by simp) (lK _) hc ?_;simpa [dB,eP,closed]using hc0
theorem QP[aB prog][bQ prog][dM prog](p:aI)(a:aD)(hps:aL p<=1073741824)(hha:a.host.length<=1073741824):Ok prog 136 [.agg (aJ .view p),.agg (aH a)] (.gM [.sl .own 2 ((iO p a).map aH),.bool (lL p a)]):=by
 simp only[aL,bP]at hps;have c2:=Ar p a (by omega);unfold iO lL;rcases lT (kW a) p.aO with⟨hi,hf⟩|⟨k,hk,hi,hf⟩
 .rw [hf];rw[hi]at c2;simp only[aH,aJ]at c2;refine bM aG func136 ntmps136 ?_;refine aZ ?_;exact aF results136
 .rw [hf];rw[hi]at c2;have hm:=fS hk;have hz:=bS bL hm;have hg:=aE hk;simp only[bL,aQ]at hz;have cp:=xM p.aO[k].body a.host (by omega) hha;simp only[aH,aJ]at c2;simp only;generalize bH p.aO[k].body a.host=w at*;obtain⟨w1,w2,w3⟩:=w;simp only at cp;have hk0:¬((k:Nat):Int)<0:=by omega
  cases hd1:p.aO[k].done
  .refine bM aG func136 ntmps136 ?_;have W:=aA hk0 (aA hg (aA hk hd1));refine we ?_;exact aF results136
  .by_cases hd2:p.aO[k].code=1
   .simp only[hd2,GP,gE];refine bM aG func136 ntmps136 ?_;have W:=aA hk0 (aA hg (aA hk (aA hd1 hd2)));refine we ?_;exact aF results136
   .simp only[hd2,and_false,hM];refine bM aG func136 ntmps136 ?_;have W:=aA hk0 (aA hg (aA hk (aA hd1 hd2)));refine we ?_;exact aF results136
theorem Nc[aB prog][bQ prog][dM prog](p:aI)(a:aD)(x:bA)(hs:aL p<=536870912/\aQ a<=536870912)(hx:bG x<=1048576):Ok prog 80 [.agg (aJ .view p),.agg (aH a),.agg (bF x)] (.agg (aJ .own (jV p a x))):=by
 have hs1:=hs.1;have Nn:p.aO.length<=536870912:=by simp only[aL,bP]at hs1;omega
 have Hq:eF p.bD<=274877906944:=by simp only[aL]at hs1;omega
 have c1:=gK p (by omega);have c2:=Ar p a (by omega);rcases lT (kW a) p.aO with⟨hi,hf⟩|⟨k,hk,hi,hf⟩
 .rw [FC hi];rw[hi]at c2;simp only[aJ,aH]at c1 c2;refine bM aG func80 ntmps80 ?_;refine aZ ?_;exact aF results80
 .have hg:=aE hk;rw[hi]at c2;have hk0:¬((k:Nat):Int)<0:=by omega
  cases hd:p.aO[k].done
  .rw [IL hi hg hd];have cR:=Du p k (by omega) (by omega) (by omega);have e:pJ p (k:Int)=eQ p p.aO[k]:=by simp[pJ,hg]
   rw[e]at cR;have hrq:jQ (eQ p p.aO[k])<=1073741824:=by have hm:=bS bL (fS hk);simp only[bL]at hm;simp only[jQ,eQ,eV];simp only[aL,bP,aQ]at hs1 hm⊢;omega
   have c3:=vW p.bD (eQ p p.aO[k]) x Hq (by omega) hx;have c4:=Dy p.bD (eQ p p.aO[k]) x Hq (by omega) hx;simp only[aJ,dD]at cR;simp only[bN,dD,bF]at c3 c4;simp only[aJ,aH]at c1 c2;clear e;have FH:=HZ (x:=x) hi hk hf;have hqs:=ZE p k hk x;have hub:=EA p.bD (eQ p p.aO[k]) x;have hset:(p.aO.map eY).set k [.str p.aO[k].to.host,.str p.aO[k].to.path,.bool true,.int .i64 (dS p.bD (eQ p p.aO[k]) x),.str (jI p.bD (eQ p p.aO[k]) x)]=(p.aO.set k (iZ p p.aO[k] x)).map eY:=by rw[map_set];rfl
   have hg3:(p.aO.set k (iZ p p.aO[k] x))[k]? =some (iZ p p.aO[k] x):=by rw[mN hk]
   unfold MN;have hfm:(iZ p p.aO[k] x).done=true/\(iZ p p.aO[k] x).code=dS p.bD (eQ p p.aO[k]) x/\(iZ p p.aO[k] x).body=jI p.bD (eQ p p.aO[k]) x:=⟨rfl,rfl,rfl⟩;have hl3:(p.aO.set k (iZ p p.aO[k] x)).length=p.aO.length:=by simp
   generalize dS p.bD (eQ p p.aO[k]) x=c at*;generalize jI p.bD (eQ p p.aO[k]) x=y at*;generalize eQ p p.aO[k]=rq at*;generalize iZ p p.aO[k] x=m3 at*;generalize p.aO.set k m3=L3 at*;obtain⟨f1,f2,f3⟩:=hfm;have aMg:k<L3.length:=by omega
   have e3:∀h,(L3[k]'h)=m3:=λh=>by rw[aE h]at hg3;exact cQ hg3
   obtain⟨b1,b2⟩:=PZ (q:={p with aO:=L3}) FH (by rw[f3];exact hub);have cI:=QP {p with aO:=L3} a (by omega) (by simp only[aQ]at hs;omega);generalize iO {p with aO:=L3} a=L at*;generalize lL {p with aO:=L3} a=ok at*;simp only[aJ,aH]at cI;refine bM aG func80 ntmps80 ?_;have W:=aA hk0 (aA hg (aA hd (aA hk (aA hset (aA aMg (aA e3 (aA f1 (aA f2 f3))))))));refine we ?_;have W9:aL {p with aO:=L3}<=536871424:=by omega
   have hts:=Qa W9 b1 b2;have Oa:=λi (h:i<L.length)=>show kZ {p with aO:=L3} (L.take (i+1))=eT (kZ {p with aO:=L3} (L.take i)) L[i]by rw[eJ h,PY]
   have h00:kZ {p with aO:=L3} (L.take 0)={p with aO:=L3}:=by simp[kZ]
   have hall:L.length<=1099511627776:=by omega
   refine aM (ι:={k:Nat // k<=L.length}) (λt o i=>⟨bC t [(12,.int .i64 i.1),(14,.undef),(33,.undef),(35,.undef),(36,.undef),(38,.undef),(45,.undef),(46,.undef),(49,.undef),(58,.undef),(59,.undef),(61,.undef)],o.take 4++lY (kZ {p with aO:=L3} (L.take i.1))++[⟨true,true,22,0,[jJ 4 (kZ {p with aO:=L3} (L.take i.1))]⟩]++o.drop 16⟩)
    (λi=>L.length-i.1) ⟨0,by simp⟩ (aK (by simp only[h00];simp[lY,jJ]) (by simp)) ?_
   rintro⟨i,hi2⟩ K1 hK1;have hi1:i64.wrap ((i:Int)+1)=((i+1:Nat):Int):=by rw[wrap64]<;>omega
   by_cases hlt:i<L.length
   .have hgi:=aE hlt;have cA:=Ey (kZ {p with aO:=L3} (L.take i)) L[i] (by have:=hts i;omega) (by have:=b2 _ (fS hlt);omega);have hnext:=Oa i hlt;rw[<-hnext]at cA;have hK2:=hK1;simp only[bC,cW,cU,eL,fW,eA,eM,pL,AW,lY,jJ]at hK1⊢;clear Oa h00 hnext hts;generalize hq1:kZ {p with aO:=L3} (L.take i)=q at*;generalize hq2:kZ {p with aO:=L3} (L.take (i+1))=q' at*;simp only[aJ,aH]at cA;have W:=aA hi1 (aA hgi hlt);refine we ?_;refine hK2 _ ⟨i+1,by omega⟩ ?_ (by simp only;omega);simp only[hq2];exact U0 (q0:=q) (q:=q') rfl (by simp[lY,jJ]) (by simp[rE]) (by simp[rE]) (by simp) (by simp) (by simp)
   .have htk:L.take i=L:=cX (by omega);have hK2:=hK1;simp only[bC,cW,cU,eL,fW,eA,eM,pL,AW,lY,jJ,htk]at hK1⊢;clear Oa h00 hts hK2 hK1;generalize kZ {p with aO:=L3} L=q at*;have W:=aA hi1 hlt;refine we ?_;exact aF results80
  .rw [FD hi hg hd];simp only[aJ,aH]at c1 c2;refine bM aG func80 ntmps80 ?_;have W:=aA hk0 (aA hg (aA hd hk));refine we ?_;exact aF results80
end Go.Proofs.YthddijamfbfibaaGreatDoor
