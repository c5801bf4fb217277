/- Proved here: steps towards the statement of this claim. No condition. -/
import Derived.Test.YtdcpobkemdacnaaGreatDoorZQSP2
import Derived.Test.YtdcpobkemdacnaaGreatDoorZQST2
set_option linter.all false
set_option maxRecDepth 8000
set_option maxHeartbeats 8000000
namespace Go.Proofs.YtdcpobkemdacnaaGreatDoor
open Go.Aw Proofs.Tryz List IntKind
structure Pq (n e s : Nat) (q : aG) : Prop where
  at_ : kY q
  ga : nS q <= n
  en : BQ q <= e
  sl : q.aB.length <= s
theorem Pq.up {n e s n2 e2:Nat} {q:aG} (h:Pq n e s q) (h1:n<=n2) (h2:e<=e2):Pq n2 e2 s q:=⟨h.at_,hM h.ga h1,hM h.en h2,h.sl⟩
theorem Pq.sz {n e s:Nat} {q:aG} (h:Pq n e s q):aJ q<=n/\bT bL q.aM+bT aQ q.entries<=e:=by have h1:=h.ga;have h2:=h.en;have h3:=(BP q).1;simp only [nS,BQ] at h1 h2;omega
theorem XT {n e s:Nat} {q:aG} (h:Pq n e s q) (hn:n<=500000000) (he:e<=16777216) (Ht:20<=s):Pq (n+721) e s (wQ q).1:=by
 obtain ⟨h1,h2⟩:=h.sz;have h3:CP q (wQ q).1:=by
  unfold wQ;split
  .exact Nj q (by omega) h.at_
  .exact SE q (by omega) (by omega) h.at_
 obtain ⟨g1,g2,g3,g4⟩:=h3;have h4:=h.ga;have h5:=h.en;have h6:=h.sl;exact ⟨g1,by omega,by omega,by omega⟩
theorem A9 {e s:Nat} (he:e<=16777216) (Ht:20<=s):∀(m n:Nat) (q:aG),Pq n e s q->n+721 * m<=500000000->Pq (n+721 * m) e s (pQ m q)
 |0,n,q,h,_=>h.up (by omega) (eE _)
 |m+1,n,q,h,hk=>by
  unfold pQ;split
  .exact (A9 he Ht m (n+721) _ (XT h (by omega) he Ht) (by omega)).up (by omega) (eE _)
  .exact h.up (by omega) (eE _)
theorem SQ {n e s:Nat} {q:aG} (h:Pq n e s q) (hn:n+1442000<=500000000) (he:e<=16777216) (Ht:20<=s):Pq (n+1442000) e s (advance q):=by have:=A9 he Ht 2000 n q h (by omega);exact this
theorem UE (p:aG) (k:Int) (x:bA):(iP p k x).builder=p.builder/\(iP p k x).queue=p.queue/\(iP p k x).log=p.log/\(iP p k x).aM=p.aM/\(iP p k x).tH=p.tH/\(iP p k x).entries=p.entries:=by
 unfold iP;split
 .split
  .split<;>exact ⟨rfl,rfl,rfl,rfl,rfl,rfl⟩
  .exact ⟨rfl,rfl,rfl,rfl,rfl,rfl⟩
 .exact ⟨rfl,rfl,rfl,rfl,rfl,rfl⟩
theorem Oy (p:aG) (a:aK) (x:bA):∀k,(iD p a x k).builder=p.builder/\(iD p a x k).queue=p.queue/\(iD p a x k).log=p.log/\(iD p a x k).aM=p.aM/\(iD p a x k).tH=p.tH/\(iD p a x k).entries=p.entries
 |0=>⟨rfl,rfl,rfl,rfl,rfl,rfl⟩
 |k+1=>by
  obtain ⟨i1,i2,i3,i4,i5,i6⟩:=Oy p a x k;simp only [iD];split
  .split
   .obtain ⟨r1,r2,r3,r4,r5,r6⟩:=UE (iD p a x k) k x;exact ⟨r1.trans i1,r2.trans i2,r3.trans i3,r4.trans i4,r5.trans i5,r6.trans i6⟩
   .exact ⟨i1,i2,i3,i4,i5,i6⟩
  .exact ⟨i1,i2,i3,i4,i5,i6⟩
theorem JK {n e s:Nat} {p:aG} (a:aK) (x:bA) (h:Pq n e s p):Pq (n+400 * s) e s (lS p a x):=by
 obtain ⟨r1,r2,r3,r4,r5,r6⟩:=Oy p a x p.aB.length;have h1:=vk p a x;have h2:=eu p a x;have h3:=h.sl;have h4:p.aB.length * 400<=400 * s:=by omega
 change (lS p a x).builder=p.builder at r1;change (lS p a x).queue=p.queue at r2;change (lS p a x).log=p.log at r3;change (lS p a x).aM=p.aM at r4;change (lS p a x).tH=p.tH at r5;change (lS p a x).entries=p.entries at r6;refine ⟨zF h.at_ r1 r2,?_,?_,by omega⟩
 .have:=h.ga;simp only [nS,JC,tT,r1,r3,r4,r5,r6,h2] at this⊢;omega
 .have:=h.en;simp only [BQ,r4,r6] at this⊢;exact this
theorem Wx {f:dY->Nat}:∀(l:List dY) (k:Nat) (hk:k < l.length) (m:dY),f m=f l[k]->bH f (l.set k m)=bH f l
 |x::l,0,hk,m,h=>by simp only [cU,bH];simp only [getElem_cons_zero] at h;omega
 |x::l,k+1,hk,m,h=>by simp only [cW,bH];rw [Wx l k (by simpa using hk) m (by simpa using h)]
theorem Oz:∀(l:List aK) (p:aG),(∀b∈l,aQ b<=16)->∃X,kV p l={p with aM:=X}/\bT bL X<=bT bL p.aM+l.length * 17/\bH (sM p.tH) X<=bH (sM p.tH) p.aM+l.length * 17
 |[],p,_=>⟨p.aM,rfl,by simp,by simp⟩
 |b::l,p,h=>by
  obtain ⟨X,e1,h1,h2⟩:=bz p b;have hb:=h b (by simp);obtain ⟨Y,e2,h3,h4⟩:=Oz l (eU p b) (λc hc=>h c (by simp [hc]));refine ⟨Y,?_,?_,?_⟩
  .show kV (eU p b) l=_;rw [e2,e1]
  .rw [e1] at h3;simp only [eN] at h3⊢;omega
  .rw [e1] at h4;simp only [eN] at h4⊢;omega
theorem SS {n e s:Nat} {p:aG} (a:aK) (x:bA) (h:Pq n e s p):Pq (n+2800) (e+1400) s (jT p a x):=by
 rcases lI (kQ a) p.aM with ⟨hi,hf⟩|⟨k,hk,hi,hf⟩
 .rw [EH hi];exact h.up (by omega) (by omega)
 .have hg:=aE hk;cases hd:p.aM[k].done
  .rw [Hg hi hg hd];have Fp:=Gr (x:=x) hi hk hf;have hqs:=XR p k hk x;have hub:=DN p.bD (eP p p.aM[k]) x;have b1:(iO {p with aM:=p.aM.set k (jA p p.aM[k] x)} a).length<=57:=by
    rw [JJ Fp];split
    .obtain ⟨h1,_,h3⟩:=yI (jA p p.aM[k] x).body a.host;have h4:(jA p p.aM[k] x).body.length<=400:=hub;omega
    .simp
   obtain ⟨X,e1,h1,h2⟩:=Oz (iO {p with aM:=p.aM.set k (jA p p.aM[k] x)} a) {p with aM:=p.aM.set k (jA p p.aM[k] x)} (aEt _ _);have hu:bH (sM p.tH) (p.aM.set k (jA p p.aM[k] x))=bH (sM p.tH) p.aM:=Wx _ _ hk _ rfl;unfold Lx;generalize (iO {p with aM:=p.aM.set k (jA p p.aM[k] x)} a).length=c at *;rw [e1];simp only at h1 h2;rw [hu] at h2;have hc:c * 17<=969:=by have:=hY 17 b1;omega
   have hm:bT bL (p.aM.set k (jA p p.aM[k] x))<=bT bL p.aM+400:=by simp only [aJ] at hqs;omega
   have h3:=h.ga;have h4:=h.en;refine ⟨h.at_,?_,?_,h.sl⟩
   .simp only [nS,JC,tT,aJ] at h3⊢;omega
   .simp only [BQ] at h4⊢;omega
  .rw [EI hi hg hd];exact h.up (by omega) (by omega)
def nE (p:aG) (a:aK) (x:bA):aG:=advance (jT (lS p a x) a x)
theorem X3 {n e s:Nat} {p:aG} (a:aK) (x:bA) (h:Pq n e s p) (hn:n+400 * s+1445000<=500000000) (he:e+1400<=16777216) (Ht:20<=s):Pq (n+400 * s+1445000) (e+1400) s (nE p a x):=by have h1:=JK a x h;have h2:=SS a x h1;have h3:=SQ h2 (by omega) he Ht;unfold nE;exact h3.up (by omega) (by omega)
theorem AU (p:aG) (m:Int) (a b:bB) (n:Int):(gU p m a b n).1.addr=p.addr:=by
 unfold gU;split
 .rfl
 .split<;>rfl
theorem UF (p:aG) (tx:bB):(addEntry p tx).addr=p.addr:=by
 unfold addEntry;split
 .rfl
 .exact (A8 p _).2.1
theorem fw (p:aG) (t:bV) (n:Int):(Aj p t n).addr=p.addr:=by
 unfold Aj;split
 .exact AU ..
 .split
  .exact AU ..
  .rfl
theorem SV (p:aG) (k:Nat) (l:List oL):(sI p k l).addr=p.addr:=by
 unfold sI;split
 .split<;>rfl
 .split
  .exact AU ..
  .split
   .exact UF ..
   .exact AU ..
theorem SX (p:aG):(iN p).1.addr=p.addr:=by
 unfold iN;split
 .rfl
 .split
  .simp only [jP];split
   .exact SV ..
   .split
    .exact fw ..
    .rfl
  .rfl
theorem EJ (p:aG) (c:bB) (w:Bool):(lQ p c w).addr=p.addr:=by unfold lQ;split<;>rfl
theorem gm (p:aG) (b:aK):(rC p b).addr=p.addr:=by unfold rC;split<;>rfl
theorem LB:∀(L:List aK) (p:aG),(L.foldl rC p).addr=p.addr
 |[],_=>rfl
 |b::L,p=>(LB L (rC p b)).trans (gm p b)
theorem SY (p:aG) (a:aK):(oC p a).addr=p.addr:=by
 unfold oC;split
 .rfl
 .exact LB _ p
theorem Ps (p:aG):(jG p).1.addr=p.addr:=by
 unfold jG;split
 .split
  .exact EJ p _ true
  .rfl
 .split
  .unfold Be;split
   .split
    .split
     .simp only;split
      .exact EJ ..
      .rfl
     .rfl
    .rfl
   .rfl
  .exact SX p
theorem UG (p:aG):(nR p).1.addr=p.addr:=by
 unfold nR;split
 .split
  .split
   .unfold Ls;split
    .simp only;split
     .exact EJ ..
     .rfl
    .rfl
   .rfl
  .split
   .unfold Lt;split
    .exact SY ..
    .rfl
   .unfold Lu;split<;>rfl
 .rfl
theorem XU (p:aG):(wQ p).1.addr=p.addr:=by
 unfold wQ;split
 .exact Ps p
 .exact UG p
theorem Db:∀(n:Nat) (p:aG),(pQ n p).addr=p.addr
 |0,_=>rfl
 |n+1,p=>by
  unfold pQ;split
  .exact (Db n _).trans (XU p)
  .rfl
theorem OA (p:aG) (a:aK) (x:bA):∀k,(iD p a x k).addr=p.addr
 |0=>rfl
 |k+1=>by
  have ih:=OA p a x k;simp only [iD];split
  .split
   .exact (Ww _ _ _).2.2.trans ih
   .exact ih
  .exact ih
theorem OB:∀(l:List aK) (p:aG),(kV p l).addr=p.addr
 |[],_=>rfl
 |b::l,p=>(OB l (eU p b)).trans (A8 p b).2.1
theorem vz (p:aG) (a:aK) (x:bA):(jT p a x).addr=p.addr:=by
 rcases lI (kQ a) p.aM with ⟨hi,hf⟩|⟨k,hk,hi,hf⟩
 .rw [EH hi]
 .have hg:=aE hk;cases hd:p.aM[k].done
  .rw [Hg hi hg hd];exact OB _ _
  .rw [EI hi hg hd]
theorem Pt (p:aG) (a:aK) (x:bA):(nE p a x).addr=p.addr:=
 (Db 2000 _).trans ((vz _ a x).trans (OA p a x _))
def vO:Nat->bB->nN->aG->nN×aG
 |0,_,n,p=>(n,p)
 |k+1,h,n,p=>match qH p with
  |[]=>(n,p)
  |r::_=>vO k h (jY n h r.to) (nE p r.to (fC n h r.to))
def DR (a:aK) (x:bA):aG:=advance (kZ (dN (dS a x).1 x.body))
def iZ (n:nN) (a:aK):(nN×aG)×Bool:=
 if (dS a (fC n a.host a)).2=false then ((jY n a.host a,rZ),false) else (vO 200 a.host (jY n a.host a) (DR a (fC n a.host a)),true)
theorem Np {p:aG} {r:gD} (h:r∈qH p):aQ r.to<=aJ p:=by
 unfold qH at h;rcases fL.1 h with h|h
 .obtain ⟨x,hx,rfl⟩:=AH.1 h;unfold jC;split
  .rename_i s hs;have h7:=bU lD (mS hs);simp only [lD,fQ,aJ,bT] at *;omega
  .simp [aQ,zq]
 .obtain ⟨x,hx,rfl⟩:=AH.1 h;unfold oU;split
  .rename_i s hs;have h7:=bU bL (mS hs);simp only [bL,eP,aJ,bT] at *;omega
  .simp [aQ,zq]
structure OD (i : Nat) (h : bB) (n : nN) (p : aG) : Prop where
  on : Pq (40000000 + 1453000 * i) (680 + 1400 * i) 20 p
  ho : p.addr.host = h
  net : MO (20000000 + 700000000 * i) n
  hl : h.length <= 1048576
theorem OD.sz {i:Nat} {h:bB} {n:nN} {p:aG} (hi:i<=210) (l:OD i h n p):aJ p<=346000000/\nO n<=274877906944:=by have h1:=l.on.sz.1;have h2:=l.net.sz;omega
theorem Wy {i:Nat} {h:bB} {n:nN} {p:aG} {r:gD} {m:List gD} (hi:i < 210) (l:OD i h n p) (hr:qH p=r::m):OD (i+1) h (jY n h r.to) (nE p r.to (fC n h r.to)):=by have hz:=Np (p:=p) (r:=r) (by rw [hr];simp);have hp:=(l.sz (by omega)).1;refine ⟨(X3 r.to (fC n h r.to) l.on (by omega) (by omega) (by decide)).up (by omega) (by omega),?_,(VT l.net h r.to).up (by have:=l.hl;omega),l.hl⟩;rw [Pt];exact l.ho
theorem gu (a:aK) (x:bA):aJ (dS a x).1<=aQ a+7 * bI x+100:=by
 unfold dS;have hp:eO (fV x.bD).1<=7 * x.bD.length+3:=by
  unfold fV uY;split
  .simp [oM,eO,bT,bH]
  .split
   .simp [oM,eO,bT,bH]
   .rename_i h3;split
    .exact Jq pX VP h3
    .simp [oM,eO,bT,bH]
 split
 .simp only [aJ,Bt,mI,bT,aS,mE,rU,bI,bH,eN,eW] at *;omega
 .simp only [aJ,rZ,oM,eO,aQ,mI,bT,aS,bH,eW];omega
theorem Td (a:aK) (x:bA) (ha:aQ a<=1048576) (hx:bI x<=1048576):aJ (dS a x).1<=8400000/\aJ (dN (dS a x).1 x.body)<=18900000/\aJ (kZ (dN (dS a x).1 x.body))<=19000000:=by
 have h1:=gu a x;have h2:=X4 (dS a x).1 x.body;have h3:=aIe (dN (dS a x).1 x.body);have h4:x.body.length<=bI x:=by simp only [bI];omega
 omega
theorem Te (a:aK) (x:bA) (ha:aQ a<=1048576) (hx:bI x<=1048576) (nT:(dS a x).2=true):Pq 41000000 680 20 (kZ (dN (dS a x).1 x.body)):=by
 have hz:=(Td a x ha hx).2.2;have hn:(dS a x).1=Bt a (fV x.bD).1:=by
  unfold dS at nT⊢;split
  .rfl
  .rename_i h;rw [cX h] at nT;cases nT
 rw [hn] at hz⊢;generalize (fV x.bD).1=C9 at *;have hb:x.body.length<=1048576:=by simp only [bI] at hx;omega
 generalize x.body=s at *;have e:kZ (dN (Bt a C9) s)=⟨a,C9,⟨[]⟩,(feed s).1++kK ⟨(feed s).2⟩,true,mE,[],[],[],0,0,0,0,[],[],false⟩:=by simp [kZ,dN,Bt]
 obtain ⟨f1,f2⟩:=CB s.length s (eE _);have f3:=C8 ⟨(feed s).2⟩;have hp:=(BP (kZ (dN (Bt a C9) s))).2;rw [e] at hp hz⊢;refine ⟨⟨λnd hn=> ?_,λt ht=> ?_⟩,?_,?_,by simp⟩
 .simp only [mE,pZ] at hn;rw [hn];simp [bH]
 .have h1:bX t<=1048577:=by
   rcases fL.1 ht with ht|ht
   .have:=bU bX ht;omega
   .have:=bU bX ht;simp only [bT,mI] at f3;omega
  have h2:bT oO t.attrs<=bX t:=by simp only [bX];omega
  simp only [bT] at h2;cases ha:t.attrs with
  |nil=>simp [bH]
  |cons y l=>rw [ha] at h2;simp only [eN] at h2;omega
 .simp only [nS,tT,bH,eW] at hp⊢;omega
 .simp only [BQ,bT,bH,eW];omega
theorem Tf (n:nN) (a:aK) (hs:nO n+aQ a<=1048576) (nT:(dS a (fC n a.host a)).2=true):OD 2 a.host (jY n a.host a) (DR a (fC n a.host a)):=by
 have hn:=Xz n (by omega);have hx:=zZ hn a.host a;have ha:a.host.length<=aQ a:=by simp only [aQ];omega
 have hb:=Te a (fC n a.host a) (by omega) hx nT;refine ⟨(SQ hb (by omega) (by omega) (by decide)).up (by omega) (by omega),?_,(VT hn a.host a).up (by omega),by omega⟩;rw [show (DR a (fC n a.host a)).addr=(kZ (dN (dS a (fC n a.host a)).1 (fC n a.host a).body)).addr from Db 2000 _];have h1:∀p s,(dN p s).addr=p.addr:=λp s=>by unfold dN;split<;>rfl
 have h2:∀p,(kZ p).addr=p.addr:=λp=>by unfold kZ;split<;>rfl
 rw [h2,h1];unfold dS at nT⊢;split
 .rfl
 .rename_i h;rw [cX h] at nT;cases nT
theorem Fe [aC prog] [dK prog] [bR prog] [mZ prog] {n e s:Nat} (p:aG) (h0:Pq n e s p) (hn:n+1442000<=500000000) (he:e<=16777216) (Ht:20<=s) (aE1:s<=16777216):Ok prog 29 [.agg (aI .view p)] (.agg (aI .own (advance p))):=by
 have hs:=h0.sz.1;have c1:=gP p (by omega);unfold advance;generalize hr:pQ 2000 p=r at *;simp only [aI] at c1;refine bO aD func29 ntmps29 ?_;refine gY ?_;refine aP (ι:={x:Nat×aG // x.1<=2000/\Pq (n+721 * x.1) e s x.2/\pQ (2000 - x.1) x.2=r}) (λt o i=>⟨bE t [(4,.int .i64 i.1.1),(5,.undef),(6,.undef),(8,.undef)],o.take 2++yQ i.1.2++[⟨true,true,22,0,[yR 2 i.1.2]⟩]⟩)
  (λi=>2000 - i.1.1) ⟨(0,p),by simp,h0.up (by omega) (eE _),hr⟩ (aO (by simp [yQ,yR]) (by simp)) ?_
 rintro ⟨⟨k,q⟩,hk,nT,Tp⟩ K1 hK1;simp only at hk nT Tp;clear h0 hr hs c1;have hk1:=oW (k:=k);by_cases hlt:k < 2000
 .have hki:(k:Int) < 2000:=by omega
  obtain ⟨hz,hme⟩:=nT.sz;have c2:=LM q (by omega);have c3:=Pw q (by omega) (by have:=nT.sl;omega) (by omega);obtain ⟨g1,g2⟩:=aEo hlt Tp;have hnx:=(XT nT (by omega) he Ht).up (n2:=n+721 * (k+1)) (by omega) (eE _);unfold wQ at g1 g2 hnx;have hK2:=hK1;simp only [bE,cW,cU,eL,fS,eA,eM,yQ,yR] at hK1⊢;cases hb:(jG q).2
  .rw [hb] at c2;rw [cX (by rw [hb];simp)] at g1 g2 hnx;generalize (jG q).1=q1 at *;cases hb2:(nR q).2
   .rw [hb2] at c3;have hq:=g2 hb2;clear g1 g2 hnx hK2 hK1 nT Tp hz hme;generalize (nR q).1=q2 at *;subst hq;simp only [aI] at c2 c3⊢;have W:=hki;refine wl ?_;exact aF results29
   .rw [hb2] at c3;have hq:=g1 hb2;clear g1 g2 hz hme;generalize (nR q).1=q2 at *;simp only [aI] at c2 c3;have W:=aA hki hk1;refine wl ?_;refine hK2 _ ⟨(k+1,q2),by simp only;omega,hnx,hq⟩ ?_ (by simp only;omega);exact WA (q:=q2) rfl (by simp [yQ,yR]) (by simp [sU]) (by simp [sU]) (by simp) (by simp) (by simp [dE])
  .rw [hb] at c2;rw [eI hb] at g1 g2 hnx;have hq:=g1 hb;clear g1 g2 hz hme c3;generalize (jG q).1=q1 at *;simp only [aI] at c2;have W:=aA hki hk1;refine wl ?_;refine hK2 _ ⟨(k+1,q1),by simp only;omega,hnx,hq⟩ ?_ (by simp only;omega);exact Wz (q:=q1) rfl (by simp [yQ,yR]) (by simp [sS]) (by simp [sS]) (by simp) (by simp) (by simp [dE])
 .have hki:¬(k:Int) < 2000:=by omega
  obtain rfl:k=2000:=by omega
  have hq:q=r:=by simpa [pQ] using Tp
  simp only [bE,cW,cU,eL,fS,eA,eM,yQ,yR] at hK1⊢;clear hK1 nT Tp;subst hq;simp only [aI];refine gY ?_;exact aF results29
def qI:List (Nat×Nat):=[(4,18),(5,19),(6,20),(7,21),(8,22),(9,23),(10,24),(11,25),(12,26),(13,27),(14,28)]
theorem wu {t t':List AV} {o o':List aN} {o0 o1 o2 o3 m0 m1:aN} {q0 q:aG} (ho:o=[o0,o1,o2,o3]++lN q0++[⟨true,true,22,0,[jI 18 q]⟩,m0,m1]++lN q) (ho':o'=[o0,o1,o2,o3]++lN q++[⟨true,true,22,0,[jI 4 q]⟩,m0,m1])
  (ht:∀z∈qI,wk (qP z.1 z.2 t') t') (hf:∀z∈qI,o0.lK z.1 z.2=o0/\o1.lK z.1 z.2=o1/\o2.lK z.1 z.2=o2/\o3.lK z.1 z.2=o3/\m0.lK z.1 z.2=m0/\m1.lK z.1 z.2=m1) (hw:wk t t') (hc:eX 18 t'=true) (hc0:dE 18 [o0,o1,o2,o3,m0,m1]=true):mX ⟨t,o⟩ ⟨t',o'⟩:=by
 subst ho;subst ho';have e:=λi j (h:(i,j)∈qI)=>hf (i,j) h
 have h:=λi j (h:(i,j)∈qI)=>ht (i,j) h
 simp only [lN,jI,eA,eM];refine (wT hw).trans ?_;refine (aR 4 18 rfl rfl ⟨rfl,rfl⟩ (by simp [(e 4 18 (by decide))];rfl) (h 4 18 (by decide))).trans ?_;refine (aR 5 19 rfl rfl ⟨rfl,rfl⟩ (by simp [(e 5 19 (by decide))];rfl) (h 5 19 (by decide))).trans ?_;refine (aR 6 20 rfl rfl ⟨rfl,rfl⟩ (by simp [(e 6 20 (by decide))];rfl) (h 6 20 (by decide))).trans ?_;refine (aR 7 21 rfl rfl ⟨rfl,rfl⟩ (by simp [(e 7 21 (by decide))];rfl) (h 7 21 (by decide))).trans ?_;refine (aR 8 22 rfl rfl ⟨rfl,rfl⟩ (by simp [(e 8 22 (by decide))];rfl) (h 8 22 (by decide))).trans ?_;refine (aR 9 23 rfl rfl ⟨rfl,rfl⟩ (by simp [(e 9 23 (by decide))];rfl) (h 9 23 (by decide))).trans ?_;refine (aR 10 24 rfl rfl ⟨rfl,rfl⟩ (by simp [(e 10 24 (by decide))];rfl) (h 10 24 (by decide))).trans ?_;refine (aR 11 25 rfl rfl ⟨rfl,rfl⟩ (by simp [(e 11 25 (by decide))];rfl) (h 11 25 (by decide))).trans ?_;refine (aR 12 26 rfl rfl ⟨rfl,rfl⟩ (by simp [(e 12 26 (by decide))];rfl) (h 12 26 (by decide))).trans ?_;refine (aR 13 27 rfl rfl ⟨rfl,rfl⟩ (by simp [(e 13 27 (by decide))];rfl) (h 13 27 (by decide))).trans ?_;refine (aR 14 28 rfl rfl ⟨rfl,rfl⟩ (by simp [(e 14 28 (by decide))];rfl) (h 14 28 (by decide))).trans ?_;refine aX 18 (by simp) (mD _) hc ?_;simpa [dE,eX,closed] using hc0
theorem Px [aC prog] [bR prog] [dK prog] (p:aG) (a:aK) (hps:aJ p<=1073741824) (hha:a.host.length<=1073741824):Ok prog 118 [.agg (aI .view p),.agg (aL a)] (.gZ [.sl .own 2 ((iO p a).map aL),.bool (lF p a)]):=by
 simp only [aJ,bT] at hps;have c2:=zV p a (by omega);unfold iO lF;rcases lI (kQ a) p.aM with ⟨hi,hf⟩|⟨k,hk,hi,hf⟩
 .rw [hf];rw [hi] at c2;simp only [aL,aI] at c2;refine bO aD func118 ntmps118 ?_;refine aZ ?_;exact aF results118
 .rw [hf];rw [hi] at c2;have hm:=fN hk;have hz:=bU bL hm;have hg:=aE hk;simp only [bL,aQ] at hz;have cp:=xC p.aM[k].body a.host (by omega) hha;simp only [aL,aI] at c2;simp only;generalize bJ p.aM[k].body a.host=w at *;obtain ⟨w1,w2,w3⟩:=w;simp only at cp;have hk0:¬((k:Nat):Int) < 0:=by omega
  cases hd1:p.aM[k].done
  .refine bO aD func118 ntmps118 ?_;have W:=aA hk0 (aA hg (aA hk hd1));refine we ?_;exact aF results118
  .by_cases hd2:p.aM[k].code=1
   .simp only [hd2,Fm,gO];refine bO aD func118 ntmps118 ?_;have W:=aA hk0 (aA hg (aA hk (aA hd1 hd2)));refine we ?_;exact aF results118
   .simp only [hd2,and_false,hH];refine bO aD func118 ntmps118 ?_;have W:=aA hk0 (aA hg (aA hk (aA hd1 hd2)));refine we ?_;exact aF results118
theorem LP [aC prog] [bR prog] [dK prog] (p:aG) (a:aK) (x:bA) (hs:aJ p<=536870912/\aQ a<=536870912) (hx:bI x<=1048576):Ok prog 66 [.agg (aI .view p),.agg (aL a),.agg (bG x)] (.agg (aI .own (jT p a x))):=by
 have hs1:=hs.1;have hml:p.aM.length<=536870912:=by simp only [aJ,bT] at hs1;omega
 have Gh:eO p.bD<=274877906944:=by simp only [aJ] at hs1;omega
 have c1:=gP p (by omega);have c2:=zV p a (by omega);rcases lI (kQ a) p.aM with ⟨hi,hf⟩|⟨k,hk,hi,hf⟩
 .rw [EH hi];rw [hi] at c2;simp only [aI,aL] at c1 c2;refine bO aD func66 ntmps66 ?_;refine aZ ?_;exact aF results66
 .have hg:=aE hk;rw [hi] at c2;have hk0:¬((k:Nat):Int) < 0:=by omega
  cases hd:p.aM[k].done
  .rw [Hg hi hg hd];have cR:=CJ p k (by omega) (by omega) (by omega);have e:oU p (k:Int)=eP p p.aM[k]:=by simp [oU,hg]
   rw [e] at cR;have hrq:jM (eP p p.aM[k])<=1073741824:=by have hm:=bU bL (fN hk);simp only [bL] at hm;simp only [jM,eP,eW];simp only [aJ,bT,aQ] at hs1 hm⊢;omega
   have c3:=vM p.bD (eP p p.aM[k]) x Gh (by omega) hx;have c4:=CQ p.bD (eP p p.aM[k]) x Gh (by omega) hx;simp only [aI,dF] at cR;simp only [bP,dF,bG] at c3 c4;simp only [aI,aL] at c1 c2;clear e;have Fp:=Gr (x:=x) hi hk hf;have hqs:=XR p k hk x;have hub:=DN p.bD (eP p p.aM[k]) x;have hset:(p.aM.map eZ).set k [.str p.aM[k].to.host,.str p.aM[k].to.path,.bool true,.int .i64 (dV p.bD (eP p p.aM[k]) x),.str (jH p.bD (eP p p.aM[k]) x)]=(p.aM.set k (jA p p.aM[k] x)).map eZ:=by rw [map_set];rfl
   have hg3:(p.aM.set k (jA p p.aM[k] x))[k]? =some (jA p p.aM[k] x):=by rw [nB hk]
   unfold Lx;have hfm:(jA p p.aM[k] x).done=true/\(jA p p.aM[k] x).code=dV p.bD (eP p p.aM[k]) x/\(jA p p.aM[k] x).body=jH p.bD (eP p p.aM[k]) x:=⟨rfl,rfl,rfl⟩;have F8:(p.aM.set k (jA p p.aM[k] x)).length=p.aM.length:=by simp
   generalize dV p.bD (eP p p.aM[k]) x=c at *;generalize jH p.bD (eP p p.aM[k]) x=y at *;generalize eP p p.aM[k]=rq at *;generalize jA p p.aM[k] x=m3 at *;generalize p.aM.set k m3=L3 at *;obtain ⟨f1,f2,f3⟩:=hfm;have aId:k < L3.length:=by omega
   have e3:∀h,(L3[k]'h)=m3:=λh=>by rw [aE h] at hg3;exact cQ hg3
   obtain ⟨b1,b2⟩:=Ow (q:={p with aM:=L3}) Fp (by rw [f3];exact hub);have cI:=Px {p with aM:=L3} a (by omega) (by simp only [aQ] at hs;omega);generalize iO {p with aM:=L3} a=L at *;generalize lF {p with aM:=L3} a=ok at *;simp only [aI,aL] at cI;refine bO aD func66 ntmps66 ?_;have W:=aA hk0 (aA hg (aA hd (aA hk (aA hset (aA aId (aA e3 (aA f1 (aA f2 f3))))))));refine we ?_;have hq0:aJ {p with aM:=L3}<=536871424:=by omega
   have hts:=Ox hq0 b1 b2;have ML:=λi (h:i < L.length)=>show kV {p with aM:=L3} (L.take (i+1))=eU (kV {p with aM:=L3} (L.take i)) L[i] by rw [eK h,Ov]
   have h00:kV {p with aM:=L3} (L.take 0)={p with aM:=L3}:=by simp [kV]
   have hall:L.length<=1099511627776:=by omega
   refine aP (ι:={k:Nat // k<=L.length}) (λt o i=>⟨bE t [(12,.int .i64 i.1),(14,.undef),(33,.undef),(35,.undef),(36,.undef),(38,.undef),(45,.undef),(46,.undef),(49,.undef),(58,.undef),(59,.undef),(61,.undef)],o.take 4++lN (kV {p with aM:=L3} (L.take i.1))++[⟨true,true,22,0,[jI 4 (kV {p with aM:=L3} (L.take i.1))]⟩]++o.drop 16⟩)
    (λi=>L.length - i.1) ⟨0,by simp⟩ (aO (by simp only [h00];simp [lN,jI]) (by simp)) ?_
   rintro ⟨i,hi2⟩ K1 hK1;have hi1:i64.wrap ((i:Int)+1)=((i+1:Nat):Int):=by rw [wrap64]<;>omega
   by_cases hlt:i < L.length
   .have hgi:=aE hlt;have cA:=DK (kV {p with aM:=L3} (L.take i)) L[i] (by have:=hts i;omega) (by have:=b2 _ (fN hlt);omega);have hnext:=ML i hlt;rw [<-hnext] at cA;have hK2:=hK1;simp only [bE,cW,cU,eL,fS,eA,eM,pB,AF,lN,jI] at hK1⊢;clear ML h00 hnext hts;generalize hq1:kV {p with aM:=L3} (L.take i)=q at *;generalize hq2:kV {p with aM:=L3} (L.take (i+1))=q' at *;simp only [aI,aL] at cA;have W:=aA hi1 (aA hgi hlt);refine we ?_;refine hK2 _ ⟨i+1,by omega⟩ ?_ (by simp only;omega);simp only [hq2];exact wu (q0:=q) (q:=q') rfl (by simp [lN,jI]) (by simp [qI]) (by simp [qI]) (by simp) (by simp) (by simp)
   .have htk:L.take i=L:=cY (by omega);have hK2:=hK1;simp only [bE,cW,cU,eL,fS,eA,eM,pB,AF,lN,jI,htk] at hK1⊢;clear ML h00 hts hK2 hK1;generalize kV {p with aM:=L3} L=q at *;have W:=aA hi1 hlt;refine we ?_;exact aF results66
  .rw [EI hi hg hd];simp only [aI,aL] at c1 c2;refine bO aD func66 ntmps66 ?_;have W:=aA hk0 (aA hg (aA hd hk));refine we ?_;exact aF results66
theorem LQ [aC prog] [dK prog] [bR prog] [mZ prog] {n e s:Nat} (p:aG) (a:aK) (x:bA) (h:Pq n e s p) (hn:n+400 * s+1445000<=500000000) (he:e+1400<=16777216) (Ht:20<=s) (aE1:s<=16777216) (ha:aQ a<=500000000) (hx:bI x<=1048576):Ok prog 33 [.agg (aI .view p),.agg (aL a),.agg (bG x)] (.agg (aI .own (nE p a x))):=by have h1:=JK a x h;have h2:=SS a x h1;have c1:=SK p a x (by have h5:=h.sz.1;have h6:=h.sl;omega) hx;have c2:=LP (lS p a x) a x (by have:=h1.sz.1;omega) hx;have c3:=Fe (jT (lS p a x) a x) h2 (by omega) he Ht aE1;unfold nE;generalize advance (jT (lS p a x) a x)=r at *;clear h1 h2 h;generalize jT (lS p a x) a x=q2 at *;generalize lS p a x=q1 at *;simp only [aI,aL,bG] at c1 c2 c3⊢;refine bO aD func33 ntmps33 ?_;refine gY ?_;exact aF results33
theorem Ff [aC prog] [dK prog] [bR prog] [mZ prog] {n e s:Nat} (p:aG) (h0:Pq n e s p) (hn:n+1442000<=500000000) (he:e<=16777216) (Ht:20<=s) (aE1:s<=16777216):Ok prog 39 [.agg (aI .view p)] (.agg (aI .own (advance p))):=by
 have hs:=h0.sz.1;have c1:=iK p (by omega);unfold advance;generalize hr:pQ 2000 p=r at *;simp only [aI] at c1;refine bO aD func39 ntmps39 ?_;refine gY ?_;refine aP (ι:={x:Nat×aG // x.1<=2000/\Pq (n+721 * x.1) e s x.2/\pQ (2000 - x.1) x.2=r}) (λt o i=>⟨bE t [(4,.int .i64 i.1.1),(5,.undef),(6,.undef),(8,.undef)],o.take 2++yQ i.1.2++[⟨true,true,22,0,[yR 2 i.1.2]⟩]⟩)
  (λi=>2000 - i.1.1) ⟨(0,p),by simp,h0.up (by omega) (eE _),hr⟩ (aO (by simp [yQ,yR]) (by simp)) ?_
 rintro ⟨⟨k,q⟩,hk,nT,Tp⟩ K1 hK1;simp only at hk nT Tp;clear h0 hr hs c1;have hk1:=oW (k:=k);by_cases hlt:k < 2000
 .have hki:(k:Int) < 2000:=by omega
  obtain ⟨hz,hme⟩:=nT.sz;have c2:=LU q (by omega);have c3:=Pz q (by omega) (by have:=nT.sl;omega) (by omega);obtain ⟨g1,g2⟩:=aEo hlt Tp;have hnx:=(XT nT (by omega) he Ht).up (n2:=n+721 * (k+1)) (by omega) (eE _);unfold wQ at g1 g2 hnx;have hK2:=hK1;simp only [bE,cW,cU,eL,fS,eA,eM,yQ,yR] at hK1⊢;cases hb:(jG q).2
  .rw [hb] at c2;rw [cX (by rw [hb];simp)] at g1 g2 hnx;generalize (jG q).1=q1 at *;cases hb2:(nR q).2
   .rw [hb2] at c3;have hq:=g2 hb2;clear g1 g2 hnx hK2 hK1 nT Tp hz hme;generalize (nR q).1=q2 at *;subst hq;simp only [aI] at c2 c3⊢;have W:=hki;refine wl ?_;exact aF results39
   .rw [hb2] at c3;have hq:=g1 hb2;clear g1 g2 hz hme;generalize (nR q).1=q2 at *;simp only [aI] at c2 c3;have W:=aA hki hk1;refine wl ?_;refine hK2 _ ⟨(k+1,q2),by simp only;omega,hnx,hq⟩ ?_ (by simp only;omega);exact WA (q:=q2) rfl (by simp [yQ,yR]) (by simp [sU]) (by simp [sU]) (by simp) (by simp) (by simp [dE])
  .rw [hb] at c2;rw [eI hb] at g1 g2 hnx;have hq:=g1 hb;clear g1 g2 hz hme c3;generalize (jG q).1=q1 at *;simp only [aI] at c2;have W:=aA hki hk1;refine wl ?_;refine hK2 _ ⟨(k+1,q1),by simp only;omega,hnx,hq⟩ ?_ (by simp only;omega);exact Wz (q:=q1) rfl (by simp [yQ,yR]) (by simp [sS]) (by simp [sS]) (by simp) (by simp) (by simp [dE])
 .have hki:¬(k:Int) < 2000:=by omega
  obtain rfl:k=2000:=by omega
  have hq:q=r:=by simpa [pQ] using Tp
  simp only [bE,cW,cU,eL,fS,eA,eM,yQ,yR] at hK1⊢;clear hK1 nT Tp;subst hq;simp only [aI];refine gY ?_;exact aF results39
theorem LV [aC prog] [dK prog] [bR prog] [mZ prog] {n e s:Nat} (p:aG) (a:aK) (x:bA) (h:Pq n e s p) (hn:n+400 * s+1445000<=500000000) (he:e+1400<=16777216) (Ht:20<=s) (aE1:s<=16777216) (ha:aQ a<=500000000) (hx:bI x<=1048576):Ok prog 85 [.agg (aI .view p),.agg (aL a),.agg (bG x)] (.agg (aI .own (nE p a x))):=by have h1:=JK a x h;have h2:=SS a x h1;have c1:=SI p a x (by have h5:=h.sz.1;have h6:=h.sl;omega) hx;have c2:=LA (lS p a x) a x (by have:=h1.sz.1;omega) hx;have c3:=Ff (jT (lS p a x) a x) h2 (by omega) he Ht aE1;unfold nE;generalize advance (jT (lS p a x) a x)=r at *;clear h1 h2 h;generalize jT (lS p a x) a x=q2 at *;generalize lS p a x=q1 at *;simp only [aI,aL,bG] at c1 c2 c3⊢;refine bO aD func85 ntmps85 ?_;refine gY ?_;exact aF results85
end Go.Proofs.YtdcpobkemdacnaaGreatDoor
