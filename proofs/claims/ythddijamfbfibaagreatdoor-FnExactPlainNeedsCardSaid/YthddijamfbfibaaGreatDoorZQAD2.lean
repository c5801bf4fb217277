/- Proved here: steps towards the statement of this claim. No condition. -/
import Derived.Test.YthddijamfbfibaaGreatDoorZQCTK
import Derived.Test.YthddijamfbfibaaGreatDoorZQTKA
import Derived.Test.YthddijamfbfibaaGreatDoorZQTK9
import Derived.Test.YthddijamfbfibaaGreatDoorZQST1
set_option linter.all false
set_option maxRecDepth 8000
set_option maxHeartbeats 8000000
namespace Go.Proofs.YthddijamfbfibaaGreatDoor
open Go.Aw Proofs.Tryz List IntKind
theorem BD(p:aI)(m:Int)(a b:bB)(n:Int):(gQ p m a b n).1.addr=p.addr:=by
 unfold gQ;split
 .rfl
 .split<;>rfl
theorem Wx(p:aI)(tx:bB):(addEntry p tx).addr=p.addr:=by
 unfold addEntry;split
 .rfl
 .exact (aA2 p _).2.1
theorem uz(p:aI)(t:bT)(n:Int):(Be p t n).addr=p.addr:=by
 unfold Be;split
 .exact BD ..
 .split
  .exact BD ..
  .rfl
theorem UH(p:aI)(k:Nat)(l:List oU):(tJ p k l).addr=p.addr:=by
 unfold tJ;split
 .split<;>rfl
 .split
  .exact BD ..
  .split
   .exact Wx ..
   .exact BD ..
theorem UI(p:aI):(iN p).1.addr=p.addr:=by
 unfold iN;split
 .rfl
 .split
  .simp only[jS];split
   .exact UH ..
   .split
    .exact uz ..
    .rfl
  .rfl
theorem FE(p:aI)(c:bB)(w:Bool):(lZ p c w).addr=p.addr:=by unfold lZ;split<;>rfl
theorem ve(p:aI)(b:aD):(sG p b).addr=p.addr:=by unfold sG;split<;>rfl
theorem MP:∀(L:List aD) (p:aI),(L.foldl sG p).addr=p.addr
 |[],_=>rfl
 |b::L,p=>(MP L (sG p b)).trans (ve p b)
theorem UJ(p:aI)(a:aD):(oL p a).addr=p.addr:=by
 unfold oL;split
 .rfl
 .exact MP _ p
theorem QL(p:aI):(jH p).1.addr=p.addr:=by
 unfold jH;split
 .split
  .exact FE p _ true
  .rfl
 .split
  .unfold BM;split
   .split
    .split
     .simp only;split
      .exact FE ..
      .rfl
     .rfl
    .rfl
   .rfl
  .exact UI p
theorem Wy(p:aI):(nZ p).1.addr=p.addr:=by
 unfold nZ;split
 .split
  .split
   .unfold MJ;split
    .simp only;split
     .exact FE ..
     .rfl
    .rfl
   .rfl
  .split
   .unfold MK;split
    .exact UJ ..
    .rfl
   .unfold ML;split<;>rfl
 .rfl
theorem ZG(p:aI):(xA p).1.addr=p.addr:=by
 unfold xA;split
 .exact QL p
 .exact Wy p
theorem DR:∀(n:Nat) (p:aI),(qI n p).addr=p.addr
 |0,_=>rfl
 |n+1,p=>by
  unfold qI;split
  .exact (DR n _).trans (ZG p)
  .rfl
theorem Qd(p:aI)(a:aD)(x:bA):∀k,(iB p a x k).addr=p.addr
 |0=>rfl
 |k+1=>by
  have ih:=Qd p a x k;simp only[iB];split
  .split
   .exact (Yk _ _ _).2.2.trans ih
   .exact ih
  .exact ih
theorem Qe:∀(l:List aD) (p:aI),(kZ p l).addr=p.addr
 |[],_=>rfl
 |b::l,p=>(Qe l (eT p b)).trans (aA2 p b).2.1
theorem Q6(p:aI)(a:aD)(x:bA):(jV p a x).addr=p.addr:=by
 rcases lT (kW a) p.aO with⟨hi,hf⟩|⟨k,hk,hi,hf⟩
 .rw [FC hi]
 .have hg:=aE hk;cases hd:p.aO[k].done
  .rw [IL hi hg hd];exact Qe _ _
  .rw [FD hi hg hd]
theorem QM(p:aI)(a:aD)(x:bA):(mW p a x).addr=p.addr:=
 (DR 2000 _).trans ((Q6 _ a x).trans (Qd p a x _))
theorem KQ{α:Type}(f:α->Nat):∀a b:List α,aY f (a++b)=aY f a+aY f b
 |[],b=>by simp[aY]
 |x::xs,b=>by simp only[eA,aY,KQ f xs b];omega
theorem aA4(t:nM):bP bW (kM t)<=1+lQ t:=by
 unfold kM;split
 .simp [bP,aY]
 .simp [bP,aY,bW,lQ]
theorem aMh(p:aI):aL (lH p)<=aL p+1:=by
 unfold lH;split
 .omega
 .have h:=aA4 p.tok;simp only[aL,bP,lQ,eR,KQ,eV]at h⊢;omega
theorem aC6(p:aI)(s:bB):aL (dL p s)<=2*aL p+2*s.length:=by
 unfold dL;split
 .omega
 .obtain ⟨h1,h2⟩:=Dp (p.tok.rest++s).length (p.tok.rest++s) (eC _);simp only[eR]at h1 h2;simp only[aL,bP,lQ,eR,KQ]at*;omega
def qJ:Nat->bB->kU->aI->kU×aI
 |0,_,n,p=>(n,p)
 |k+1,h,n,p=>match rD p with
  |[]=>(n,p)
  |r::_=>qJ k h (iM n h r.to) (mW p r.to (eG n h r.to))
def BO(a:aD)(x:bA):aI:=advance (lH (dL (dQ a x).1 x.body))
def iD(n:kU)(a:aD):(kU×aI)×Bool:=
 if (dQ a (eG n a.host a)).2=false then((iM n a.host a,qR),false)else(qJ 200 a.host (iM n a.host a) (BO a (eG n a.host a)),true)
theorem OH{p:aI}{r:fV}(h:r∈rD p):aQ r.to<=aL p:=by
 unfold rD at h;rcases eW.1 h with h|h
 .obtain ⟨x,hx,rfl⟩:=AG.1 h;unfold jD;split
  .rename_i s hs;have h7:=bS lJ (nB hs);simp only[lJ,fM,aL,bP]at*;omega
  .simp [aQ,aAu]
 .obtain ⟨x,hx,rfl⟩:=AG.1 h;unfold pJ;split
  .rename_i s hs;have h7:=bS bL (nB hs);simp only[bL,eQ,aL,bP]at*;omega
  .simp [aQ,aAu]
structure JC(i:Nat)(h:bB)(n:kU)(p:aI): Prop where
  on:QK (40000000+1453000*i) (680+1400*i) 20 p
  ho:p.addr.host = h
  net:Od (20000000+700000000*i) n
  hl:h.length <= 1048576
theorem JC.sz{i:Nat}{h:bB}{n:kU}{p:aI}(hi:i<=210)(l:JC i h n p):aL p<=346000000/\kV n<=274877906944:=by have h1:=l.on.sz.1;have h2:=l.net.sz;omega
theorem OI{i:Nat}{h:bB}{n:kU}{p:aI}{r:fV}{m:List fV}(hi:i<210)(l:JC i h n p)(hr:rD p=r::m):JC (i+1) h (iM n h r.to) (mW p r.to (eG n h r.to)):=by have hz:=OH (p:=p) (r:=r) (by rw[hr];simp);have hp:=(l.sz (by omega)).1;refine⟨(aC5 r.to (eG n h r.to) l.on (by omega) (by omega) (by decide)).up (by omega) (by omega),?_,(Oe l.net h r.to).up (by have:=l.hl;omega),l.hl⟩;rw[QM];exact l.ho
theorem vg(a:aD)(x:bA):aL (dQ a x).1<=aQ a+7*bG x+100:=by
 unfold dQ;have hp:eF (fT x.bD).1<=7*x.bD.length+3:=by
  unfold fT vJ;split
  .simp [oV,eF,bP,aY]
  .split
   .simp [oV,eF,bP,aY]
   .rename_i h3;split
    .exact Kt qP XK h3
    .simp [oV,eF,bP,aY]
 split
 .simp only[aL,Cb,lQ,bP,aU,mR,sU,bG,aY,eN,eV]at*;omega
 .simp only[aL,qR,oV,eF,aQ,lQ,bP,aU,aY,eV];omega
theorem UM(a:aD)(x:bA)(ha:aQ a<=1048576)(hx:bG x<=1048576):aL (dQ a x).1<=8400000/\aL (dL (dQ a x).1 x.body)<=18900000/\aL (lH (dL (dQ a x).1 x.body))<=19000000:=by
 have h1:=vg a x;have h2:=aC6 (dQ a x).1 x.body;have h3:=aMh (dL (dQ a x).1 x.body);have h4:x.body.length<=bG x:=by simp only[bG];omega
 omega
theorem UN(a:aD)(x:bA)(ha:aQ a<=1048576)(hx:bG x<=1048576)(nU:(dQ a x).2=true):QK 41000000 680 20 (lH (dL (dQ a x).1 x.body)):=by
 have hz:=(UM a x ha hx).2.2;have hn:(dQ a x).1=Cb a (fT x.bD).1:=by
  unfold dQ at nU⊢;split
  .rfl
  .rename_i h;rw[cY h]at nU;cases nU
 rw[hn]at hz⊢;generalize (fT x.bD).1=pol at*;have hb:x.body.length<=1048576:=by simp only[bG]at hx;omega
 generalize x.body=s at*;have e:lH (dL (Cb a pol) s)=⟨a,pol,⟨[]⟩,(feed s).1++kM ⟨(feed s).2⟩,true,mR,[],[],[],0,0,0,0,[],[],false⟩:=by simp[lH,dL,Cb]
 obtain⟨f1,f2⟩:=Dp s.length s (eC _);have f3:=aA4 ⟨(feed s).2⟩;have hp:=(CB (lH (dL (Cb a pol) s))).2;rw[e]at hp hz⊢;refine⟨⟨λnd hn=> ?_,λt ht=> ?_⟩,?_,?_,by simp⟩
 .simp only[mR,rS]at hn;rw[hn];simp[aY]
 .have h1:bW t<=1048577:=by
   rcases eW.1 ht with ht|ht
   .have:=bS bW ht;omega
   .have:=bS bW ht;simp only[bP,lQ]at f3;omega
  have h2:bP oZ t.attrs<=bW t:=by simp only[bW];omega
  simp only[bP]at h2;cases ha:t.attrs with
  |nil=>simp[aY]
  |cons y l=>rw[ha]at h2;simp only[eN]at h2;omega
 .simp only[oC,uI,aY,eV]at hp⊢;omega
 .simp only[CE,bP,aY,eV];omega
theorem KR(n:kU)(a:aD)(hs:kV n+aQ a<=1048576)(nU:(dQ a (eG n a.host a)).2=true):JC 2 a.host (iM n a.host a) (BO a (eG n a.host a)):=by
 have hn:=Ri n (by omega);have hx:=AA hn a.host a;have ha:a.host.length<=aQ a:=by simp only[aQ];omega
 have hb:=UN a (eG n a.host a) (by omega) hx nU;refine⟨(UF hb (by omega) (by omega) (by decide)).up (by omega) (by omega),?_,(Oe hn a.host a).up (by omega),by omega⟩;rw[show(BO a (eG n a.host a)).addr=(lH (dL (dQ a (eG n a.host a)).1 (eG n a.host a).body)).addr from DR 2000 _];have h1:∀p s,(dL p s).addr=p.addr:=λp s=>by unfold dL;split<;>rfl
 have h2:∀p,(lH p).addr=p.addr:=λp=>by unfold lH;split<;>rfl
 rw[h2,h1];unfold dQ at nU⊢;split
 .rfl
 .rename_i h;rw[cY h]at nU;cases nU
theorem vk{h:bB}:∀(k i:Nat) (n:kU) (p:aI),JC i h n p->i+k<=210->∃j,j<=210/\JC j h (qJ k h n p).1 (qJ k h n p).2
 |0,i,n,p,hl,hi=>⟨i,by omega,hl⟩
 |k+1,i,n,p,hl,hi=>by
  unfold qJ;split
  .exact ⟨i,by omega,hl⟩
  .rename_i r l hr;exact vk k (i+1) _ _ (OI (by omega) hl hr) (by omega)
theorem aMi(n:kU)(a:aD)(hs:kV n+aQ a<=1048576):aL (iD n a).1.2<=346000000/\kV (iD n a).1.1<=274877906944:=by
 unfold iD;split
 .have h1:=(Oe (Ri n (by omega)) a.host a).sz;have h2:a.host.length<=aQ a:=by simp only[aQ];omega
  have h3:aL qR<=1000:=by simp only[aL,qR,oV,eF,aQ,lQ,bP,aU,aY,eV];omega
  exact⟨by simp only;omega,by simp only;omega⟩
 .rename_i h;obtain⟨j,hj,hl⟩:=vk 200 2 _ _ (KR n a hs (by simpa using h)) (by omega);exact hl.sz hj
theorem wm{l:List aD}{a:aD}:l.any (iA a)=true↔a∈l:=by simp[iA]
theorem aMl{l:List aD}{a:aD}{k:Nat}(x:aD):x∈l.take k++a::l.drop k↔x∈l\/x=a:=by
 refine⟨aMj,λh=> ?_⟩;rcases h with h|rfl
 .rw [<-oA k l]at h;rcases eW.1 h with h|h
  .exact eW.2 (.inl h)
  .exact eW.2 (.inr (AK _ h))
 .simp
theorem aIq{L:List aD}{k:Nat}(hk:k<L.length)(x:aD):x∈L.take (k+1)↔x∈L.take k\/x=L[k]:=by rw[take_succ,aE hk,eW];simp[Option.toList]
theorem ZI[aB prog](L:List aD)(hL:L.length<=1048576):Ok prog 44 [.sl .view 2 (L.map aH)] (.sl .own 2 ((CG L).map aH)):=by
 refine bM aG func44 ntmps44 ?_;refine gV ?_;refine aM (ι:={x:(Nat×Nat)×List aD // x.1.1<=L.length/\x.2.length<=x.1.1/\upA x.2/\∀a,a∈x.2↔a∈L.take x.1.1}) (λt o y=>⟨bC t [(3,.obj 0 y.1.1.2),(4,.int .i64 (y.1.1.1:Int)),(7,.undef)],[⟨true,false,2,y.1.1.2,y.1.2.map aH⟩]⟩)
  (λy=>L.length-y.1.1.1) ⟨((0,1),[]),by simp,by simp,Pairwise.nil,by simp⟩ aK ?_
 rintro⟨⟨⟨k,v⟩,l⟩,hk,hlk,hup,hsub⟩ K1 hK1;simp only at hk hlk hup hsub;have hK2:=hK1;simp only[bC,cW,cU]at hK1⊢;clear hK1;have hk1:=oQ (k:=k);by_cases hlt:k<L.length
 .have hki:(k:Int)<(L.length:Int):=by omega
  have hg:=aE hlt;have hti:=aIq hlt;have ch:=yN l L[k] (by omega);generalize L[k]=a at*;cases ha:l.any (iA a)with
  |true=>
   rw[ha]at ch;have ham:=wm.1 ha;have hsub2:∀x,x∈l↔x∈L.take (k+1):=λx=>by rw[hti,hsub];refine⟨.inl,λh=>h.elim id λe=>e▸(hsub a).1 ham⟩
   have W:=aA hki (aA hg (aA ch hk1));refine wl ?_;refine hK2 _ ⟨((k+1,v),l),by simp only;omega,by simp only;omega,hup,hsub2⟩ (aT 1) (by simp only;omega)
  |false=>
   rw[ha]at ch;have W:=aA hki (aA hg ch);refine wl ?_;have hna:a∉l:=λh=>by have:=wm.2 h;rw[ha]at this;cases this
   refine aM (ι:={q:Nat // q<=l.length/\∀x∈l.drop q,uS a x=true}) (λt o y=>⟨bC t [(3,.sl .view 2 (l.map aH)),(5,.int .i64 (y.1:Int)),(14,.undef),(20,.undef)],[]⟩)
    (λy=>y.1) ⟨l.length,by simp,by simp⟩ (aDa 0 v 0 (by simp;rfl) (by rfl) (by simp) (by simp[Sj,JY]) (by simp) (by simp)) ?_
   rintro⟨q,hq,hd⟩ K3 hK3;have hK4:=hK3;simp only[bC,cW,cU]at hK3⊢;clear hK3;have fin:(∀y,0<q->l[q-1]? =some y->uS y a=true)->upA (l.take q++a::l.drop q)/\(l.take q++a::l.drop q).length=l.length+1/\∀x,x∈l.take q++a::l.drop q↔x∈L.take (k+1):=λht=>
    ⟨aQb hup hq hd ht,by simp;omega,λx=>by rw[aMl,hti,hsub]⟩
   by_cases h0:0<q
   .have W9:(q:Int) > 0:=by omega
    have hq2:(0:Int)<(q:Int):=by omega
    have TI:0<q:=h0;have hq1:i64.wrap ((q:Int)-1)=((q-1:Nat):Int):=by rw[wrap64]<;>omega
    have hlq:q-1<l.length:=by omega
    have hgq:=aE hlq;have hyl:l[q-1]∈l:=fS hlq;have cc:=Bq a l[q-1];simp only[aH]at cc;have hdq:l.drop (q-1)=l[q-1]::l.drop q:=by rw[mC hlq,show q-1+1=q by omega]
    generalize l[q-1]=y at*;by_cases hc:kG a y<0
    .have W:=aA W9 (aA hq2 (aA TI (aA hq1 (aA hgq (aA hg (aA cc hc))))));refine wl ?_;refine hK4 _ ⟨q-1,by omega,λx hx=> ?_⟩ aK (by simp only;omega);rw[hdq]at hx;rcases gS.1 hx with rfl|hx
     .exact (Rq _ _).1 hc
     .exact hd x hx
    .obtain ⟨f1,f2,f3⟩:=fin (λz _ hz=>by rw[hgq]at hz;obtain rfl:=cQ hz;exact aMk hc (λe=>hna (e▸hyl)))
     have W:=aA W9 (aA hq2 (aA TI (aA hq1 (aA hgq (aA hg (aA cc hc))))));refine wl ?_;have hrow:List.take q (map aH l)++[.str a.host,.str a.path]::List.drop q (List.take l.length (map aH l))=(l.take q++a::l.drop q).map aH:=by rw[show List.take l.length (map aH l)=map aH l from cX (by simp)];simp[aH]
     rw[hrow];clear hrow;generalize l.take q++a::l.drop q=l2 at*;exact hK2 _ ⟨((k+1,4),l2),by simp only;omega,by simp only;omega,f1,f3⟩ (aT 1) (by simp only;omega)
   .obtain rfl:q=0:=by omega
    obtain⟨f1,f2,f3⟩:=fin (λz hz=>absurd hz (by omega));have W9:¬((0:Nat):Int) > 0:=by omega
    have W:=aA W9 hg;refine wl ?_;have hrow:([.str a.host,.str a.path]:List AV)::List.take l.length (map aH l)=(l.take 0++a::l.drop 0).map aH:=by rw[show List.take l.length (map aH l)=map aH l from cX (by simp)];simp[aH]
    rw[hrow];clear hrow;generalize l.take 0++a::l.drop 0=l2 at*;exact hK2 _ ⟨((k+1,4),l2),by simp only;omega,by simp only;omega,f1,f3⟩ (aT 1) (by simp only;omega)
 .have hki:¬(k:Int)<(L.length:Int):=by omega
  have hkL:k=L.length:=by omega
  have jK:l=CG L:=aIn hup λx=>by rw[hsub,hkL,vA]
  rw[<-jK];have W:=hki;refine wl ?_;exact aF results44
theorem Gb[aB prog][dM prog][bQ prog][oO prog]{n e s:Nat}(p:aI)(h0:QK n e s p)(hn:n+1442000<=500000000)(he:e<=16777216)(IY:20<=s)(aI0:s<=16777216):Ok prog 39 [.agg (aJ .view p)] (.agg (aJ .own (advance p))):=by
 have hs:=h0.sz.1;have c1:=gK p (by omega);unfold advance;generalize hr:qI 2000 p=r at*;simp only[aJ]at c1;refine bM aG func39 ntmps39 ?_;refine gV ?_;refine aM (ι:={x:Nat×aI // x.1<=2000/\QK (n+721*x.1) e s x.2/\qI (2000-x.1) x.2=r}) (λt o i=>⟨bC t [(4,.int .i64 i.1.1),(5,.undef),(6,.undef),(8,.undef)],o.take 2++zJ i.1.2++[⟨true,true,22,0,[zK 2 i.1.2]⟩]⟩)
  (λi=>2000-i.1.1) ⟨(0,p),by simp,h0.up (by omega) (eC _),hr⟩ (aK (by simp[zJ,zK]) (by simp)) ?_
 rintro⟨⟨k,q⟩,hk,nU,Vb⟩ K1 hK1;simp only at hk nU Vb;clear h0 hr hs c1;have hk1:=oQ (k:=k);by_cases hlt:k<2000
 .have hki:(k:Int)<2000:=by omega
  obtain⟨hz,hme⟩:=nU.sz;have c2:=Nb q (by omega);have c3:=QO q (by omega) (by have:=nU.sl;omega) (by omega);obtain⟨g1,g2⟩:=aIa hlt Vb;have hnx:=(ZF nU (by omega) he IY).up (n2:=n+721*(k+1)) (by omega) (eC _);unfold xA at g1 g2 hnx;have hK2:=hK1;simp only[bC,cW,cU,eL,fW,eA,eM,zJ,zK]at hK1⊢;cases hb:(jH q).2
  .rw [hb]at c2;rw[cY (by rw[hb];simp)]at g1 g2 hnx;generalize (jH q).1=q1 at*;cases hb2:(nZ q).2
   .rw [hb2]at c3;have hq:=g2 hb2;clear g1 g2 hnx hK2 hK1 nU Vb hz hme;generalize (nZ q).1=q2 at*;subst hq;simp only[aJ]at c2 c3⊢;have W:=hki;refine wl ?_;exact aF results39
   .rw [hb2]at c3;have hq:=g1 hb2;clear g1 g2 hz hme;generalize (nZ q).1=q2 at*;simp only[aJ]at c2 c3;have W:=aA hki hk1;refine wl ?_;refine hK2 _ ⟨(k+1,q2),by simp only;omega,hnx,hq⟩ ?_ (by simp only;omega);exact Yq (q:=q2) rfl (by simp[zJ,zK]) (by simp[tY]) (by simp[tY]) (by simp) (by simp) (by simp[dB])
  .rw [hb]at c2;rw[eK hb]at g1 g2 hnx;have hq:=g1 hb;clear g1 g2 hz hme c3;generalize (jH q).1=q1 at*;simp only[aJ]at c2;have W:=aA hki hk1;refine wl ?_;refine hK2 _ ⟨(k+1,q1),by simp only;omega,hnx,hq⟩ ?_ (by simp only;omega);exact Yp (q:=q1) rfl (by simp[zJ,zK]) (by simp[tX]) (by simp[tX]) (by simp) (by simp) (by simp[dB])
 .have hki:¬(k:Int)<2000:=by omega
  obtain rfl:k=2000:=by omega
  have hq:q=r:=by simpa [qI]using Vb
  simp only[bC,cW,cU,eL,fW,eA,eM,zJ,zK]at hK1⊢;clear hK1 nU Vb;subst hq;simp only[aJ];refine gV ?_;exact aF results39
theorem Nf[aB prog][dM prog][bQ prog][oO prog]{n e s:Nat}(p:aI)(a:aD)(x:bA)(h:QK n e s p)(hn:n+400*s+1445000<=500000000)(he:e+1400<=16777216)(IY:20<=s)(aI0:s<=16777216)(ha:aQ a<=500000000)(hx:bG x<=1048576):Ok prog 43 [.agg (aJ .view p),.agg (aH a),.agg (bF x)] (.agg (aJ .own (mW p a x))):=by have h1:=KP a x h;have h2:=UG a x h1;have c1:=UC p a x (by have h5:=h.sz.1;have h6:=h.sl;omega) hx;have c2:=Nc (mD p a x) a x (by have:=h1.sz.1;omega) hx;have c3:=Gb (jV (mD p a x) a x) h2 (by omega) he IY aI0;unfold mW;generalize advance (jV (mD p a x) a x)=r at*;clear h1 h2 h;generalize jV (mD p a x) a x=q2 at*;generalize mD p a x=q1 at*;simp only[aJ,aH,bF]at c1 c2 c3⊢;refine bM aG func43 ntmps43 ?_;refine gV ?_;exact aF results43
theorem Gc[aB prog][dM prog][bQ prog][oO prog]{n e s:Nat}(p:aI)(h0:QK n e s p)(hn:n+1442000<=500000000)(he:e<=16777216)(IY:20<=s)(aI0:s<=16777216):Ok prog 50 [.agg (aJ .view p)] (.agg (aJ .own (advance p))):=by
 have hs:=h0.sz.1;have c1:=iI p (by omega);unfold advance;generalize hr:qI 2000 p=r at*;simp only[aJ]at c1;refine bM aG func50 ntmps50 ?_;refine gV ?_;refine aM (ι:={x:Nat×aI // x.1<=2000/\QK (n+721*x.1) e s x.2/\qI (2000-x.1) x.2=r}) (λt o i=>⟨bC t [(4,.int .i64 i.1.1),(5,.undef),(6,.undef),(8,.undef)],o.take 2++zJ i.1.2++[⟨true,true,22,0,[zK 2 i.1.2]⟩]⟩)
  (λi=>2000-i.1.1) ⟨(0,p),by simp,h0.up (by omega) (eC _),hr⟩ (aK (by simp[zJ,zK]) (by simp)) ?_
 rintro⟨⟨k,q⟩,hk,nU,Vb⟩ K1 hK1;simp only at hk nU Vb;clear h0 hr hs c1;have hk1:=oQ (k:=k);by_cases hlt:k<2000
 .have hki:(k:Int)<2000:=by omega
  obtain⟨hz,hme⟩:=nU.sz;have c2:=Ng q (by omega);have c3:=QR q (by omega) (by have:=nU.sl;omega) (by omega);obtain⟨g1,g2⟩:=aIa hlt Vb;have hnx:=(ZF nU (by omega) he IY).up (n2:=n+721*(k+1)) (by omega) (eC _);unfold xA at g1 g2 hnx;have hK2:=hK1;simp only[bC,cW,cU,eL,fW,eA,eM,zJ,zK]at hK1⊢;cases hb:(jH q).2
  .rw [hb]at c2;rw[cY (by rw[hb];simp)]at g1 g2 hnx;generalize (jH q).1=q1 at*;cases hb2:(nZ q).2
   .rw [hb2]at c3;have hq:=g2 hb2;clear g1 g2 hnx hK2 hK1 nU Vb hz hme;generalize (nZ q).1=q2 at*;subst hq;simp only[aJ]at c2 c3⊢;have W:=hki;refine wl ?_;exact aF results50
   .rw [hb2]at c3;have hq:=g1 hb2;clear g1 g2 hz hme;generalize (nZ q).1=q2 at*;simp only[aJ]at c2 c3;have W:=aA hki hk1;refine wl ?_;refine hK2 _ ⟨(k+1,q2),by simp only;omega,hnx,hq⟩ ?_ (by simp only;omega);exact Yq (q:=q2) rfl (by simp[zJ,zK]) (by simp[tY]) (by simp[tY]) (by simp) (by simp) (by simp[dB])
  .rw [hb]at c2;rw[eK hb]at g1 g2 hnx;have hq:=g1 hb;clear g1 g2 hz hme c3;generalize (jH q).1=q1 at*;simp only[aJ]at c2;have W:=aA hki hk1;refine wl ?_;refine hK2 _ ⟨(k+1,q1),by simp only;omega,hnx,hq⟩ ?_ (by simp only;omega);exact Yp (q:=q1) rfl (by simp[zJ,zK]) (by simp[tX]) (by simp[tX]) (by simp) (by simp) (by simp[dB])
 .have hki:¬(k:Int)<2000:=by omega
  obtain rfl:k=2000:=by omega
  have hq:q=r:=by simpa [qI]using Vb
  simp only[bC,cW,cU,eL,fW,eA,eM,zJ,zK]at hK1⊢;clear hK1 nU Vb;subst hq;simp only[aJ];refine gV ?_;exact aF results50
theorem Nh[aB prog][dM prog][bQ prog][oO prog]{n e s:Nat}(p:aI)(a:aD)(x:bA)(h:QK n e s p)(hn:n+400*s+1445000<=500000000)(he:e+1400<=16777216)(IY:20<=s)(aI0:s<=16777216)(ha:aQ a<=500000000)(hx:bG x<=1048576):Ok prog 101 [.agg (aJ .view p),.agg (aH a),.agg (bF x)] (.agg (aJ .own (mW p a x))):=by have h1:=KP a x h;have h2:=UG a x h1;have c1:=UB p a x (by have h5:=h.sz.1;have h6:=h.sl;omega) hx;have c2:=MO (mD p a x) a x (by have:=h1.sz.1;omega) hx;have c3:=Gc (jV (mD p a x) a x) h2 (by omega) he IY aI0;unfold mW;generalize advance (jV (mD p a x) a x)=r at*;clear h1 h2 h;generalize jV (mD p a x) a x=q2 at*;generalize mD p a x=q1 at*;simp only[aJ,aH,bF]at c1 c2 c3⊢;refine bM aG func101 ntmps101 ?_;refine gV ?_;exact aF results101
theorem Ni[aB prog][dM prog][bQ prog][oO prog]{h:bB}(n:kU)(p:aI)(KW:JC 2 h n p):Lf prog 53 [.oN (.agg (nA .own n)),.oN (.agg (aJ .own p))] (.gM [.agg (nA .own (qJ 200 h n p).1),.agg (aJ .own (qJ 200 h n p).2)]):=by
 obtain⟨r,hr⟩:∃r,r=qJ 200 h n p:=⟨_,rfl⟩;rw[<-hr];refine sN aG func53 ntmps53 ?_;refine gV ?_;refine aM (ι:={x:Nat×kU×aI // x.1<=200/\JC (2+x.1) h x.2.1 x.2.2/\qJ (200-x.1) h x.2.1 x.2.2=r}) (λt o i=>⟨bC t [(0,.undef),(1,.undef),(6,.int .i64 i.1.1),(7,.undef),(8,.undef),(9,.undef)],xk i.1.2.1++zJ i.1.2.2++[⟨true,true,4,0,[xm 0 i.1.2.1]⟩,⟨true,true,22,0,[zK 3 i.1.2.2]⟩]++o.drop 16⟩)
  (λi=>200-i.1.1) ⟨(0,n,p),by simp,KW,hr.symm⟩ (aK (by simp[zJ,zK,xk,xm]) (by simp)) ?_
 rintro⟨⟨k,n1,p1⟩,hk,nU,rO⟩ K1 hK1;simp only at hk nU rO;clear KW hr;have hk1:=oQ (k:=k);by_cases hlt:k<200
 .have hki:(k:Int)<200:=by omega
  obtain⟨hz,hnz⟩:=nU.sz (by omega);have hsl:=nU.on.sl;have hmz:=nU.on.sz.2;have c6:=(OG p1 (by omega) (by simp only[bP]at hmz;omega)).EY (r':= .sl .view 5 ((rD p1).map dD)) (by simp[rt]);have hK2:=hK1;simp only[bC,cW,cU,pL,AW,eA,eM,zJ,zK,xk,xm]at hK1⊢;cases RO:rD p1 with
  |nil=>
   have hge:(n1,p1)=r:=by rw[<-rO,show 200-k=(200-(k+1))+1 by omega,qJ,RO]
   clear hK2 hK1 nU rO;subst hge;rw[RO]at c6;simp only[aJ]at c6⊢;have W:=hki;refine wl ?_;all_goals (try exact kP (by simp[gF,dJ,dH,rowOf,results53];done))
  |cons r1 rs=>
   have hnx:=OI (by omega) nU RO;have hra:=OH (p:=p1) (r:=r1) (by rw[RO];simp);have hho:=nU.ho;have c7:=JE n1 h r1.to nU.net (by omega) (by have:=nU.hl;omega);rw[<-hho]at c7;have hxr:=AA nU.net h r1.to;have c8:=Nh p1 r1.to (eG n1 h r1.to) nU.on (by omega) (by omega) (by decide) (by decide) (by omega) hxr;have hgn:qJ (200-(k+1)) h (iM n1 h r1.to) (mW p1 r1.to (eG n1 h r1.to))=r:=by rw[<-rO,show 200-k=(200-(k+1))+1 by omega,qJ,RO]
   rw[RO]at c6;rw[hho]at c7;generalize eG n1 h r1.to=y at*;generalize iM n1 h r1.to=n2 at*;rw[<-hho]at c7;generalize mW p1 r1.to y=p2 at*;clear hz hnz hsl hmz hra RO hxr hho;simp only[aJ,nA,aH,bF]at c6 c7 c8;have W:=aA hki hk1;refine wl ?_;refine hK2 _ ⟨(k+1,n2,p2),by simp only;omega,hnx,hgn⟩ ?_ (by simp only;omega);exact aI2 (m:=n2) (q:=p2) rfl (by simp[zJ,zK,xk,xm]) (by simp[zY]) (by simp[zY]) (by simp) (by simp) (by simp[dB])
 .have hki:¬(k:Int)<200:=by omega
  obtain rfl:k=200:=by omega
  have hge:(n1,p1)=r:=by simpa [qJ]using rO
  simp only[bC,cW,cU,pL,AW,eA,eM,zJ,zK,xk,xm]at hK1⊢;clear hK1 nU rO;subst hge;simp only[aJ,nA];refine gV ?_;all_goals (try exact kP (by simp[gF,dJ,dH,rowOf,results53];done))
theorem OU[aB prog][dM prog][bQ prog][oO prog](n:kU)(a:aD)(hs:kV n+aQ a<=1048576):Ok prog 24 [.agg (nA .view n),.agg (aH a)] (.gM [.agg (nA .own (iD n a).1.1),.agg (aJ .own (iD n a).1.2),.bool (iD n a).2]):=by
 have hn:=Ri n (by omega);have hah:a.host.length<=aQ a:=by simp only[aQ];omega
 have c1:=JE n a.host a hn (by omega) (by omega);have hx:=AA hn a.host a;have KW:=KR n a hs;unfold iD;have hst:BO a (eG n a.host a)=advance (lH (dL (dQ a (eG n a.host a)).1 (eG n a.host a).body)):=rfl;generalize eG n a.host a=x at*;have c2:=(TA a x (by omega) (by omega)).EY (r':= .gM [.agg (aJ .view (dQ a x).1),.bool (dQ a x).2]) (by simp[rt,xO]);obtain⟨z1,z2,z3⟩:=UM a x (by omega) hx;have hbe:=UN a x (by omega) hx;have c3:=(MQ (dQ a x).1 x.body (by omega) (by simp only[bG]at hx;omega)).EY (r':= .agg (aJ .view (dL (dQ a x).1 x.body))) (by simp[rt]);have c4:=(UK (dL (dQ a x).1 x.body) (by omega)).EY (r':= .agg (aJ .view (lH (dL (dQ a x).1 x.body)))) (by simp[rt]);cases nU:(dQ a x).2
 .rw [eK rfl];rw[nU]at c2;generalize (dQ a x).1=p0 at*;generalize iM n a.host a=m at*;clear c3 c4 KW hbe;simp only[nA,aH,aJ,bF]at c1 c2⊢;refine xZ aG func24 ntmps24 ?_;refine gV ?_;all_goals try(first|(refine⟨.inr rfl,.inl ?_⟩;simp[aP,results24,qR,oV];done)|(refine⟨.inr rfl,.inr (dN ?_)⟩;simp[AS.yO,AS.wY,AS.rv,results24,qR,oV];done)|(refine⟨.inr rfl,.inr (Eh ?_)⟩;simp[AS.rvC,AS.yO,AS.wY,AS.rv,results24,qR,oV];done)|(refine⟨.inr rfl,.inl ?_⟩;simp[aP,results24,qR,oV]))
 .rw [cY (by simp)];rw[nU]at c2;have KW:=KW nU;have c5:=Gc (lH (dL (dQ a x).1 x.body)) (hbe nU) (by omega) (by omega) (by decide) (by decide);rw[hst]at KW⊢;generalize advance (lH (dL (dQ a x).1 x.body))=q0 at*;generalize lH (dL (dQ a x).1 x.body)=p2 at*;generalize dL (dQ a x).1 x.body=p1 at*;generalize (dQ a x).1=p0 at*;generalize iM n a.host a=m at*;have c6:=Ni m q0 KW;generalize qJ 200 a.host m q0=g at*;clear hbe hst z1 z2 z3 hx nU KW;simp only[nA,aH,aJ,bF]at c1 c2 c3 c4 c5 c6⊢;refine xZ aG func24 ntmps24 ?_;have W:=trivial;repeat' first|refine wg ?_|(refine nx ?_;refine sg (hc:=c6) (h:=?_))|(refine sq ?_ ?_<;>intro hc<;>try exact hc.elim)|fail
  all_goals try(first|(refine⟨.inr rfl,.inl ?_⟩;simp[aP,results24];done)|(refine⟨.inr rfl,.inr (dN ?_)⟩;simp[AS.yO,AS.wY,AS.rv,results24];done)|(refine⟨.inr rfl,.inr (Eh ?_)⟩;simp[AS.rvC,AS.yO,AS.wY,AS.rv,results24];done)|(refine⟨.inr rfl,.inl ?_⟩;simp[aP,results24]))
end Go.Proofs.YthddijamfbfibaaGreatDoor
