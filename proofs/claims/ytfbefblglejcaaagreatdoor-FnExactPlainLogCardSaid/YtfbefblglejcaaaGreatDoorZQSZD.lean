/- Proved here: steps towards the statement of this claim. No condition. -/
import Derived.Test.YtfbefblglejcaaaGreatDoorZQAD1
import Derived.Test.YtfbefblglejcaaaGreatDoorZQKE3
import Derived.Test.YtfbefblglejcaaaGreatDoorZQTK9
import Derived.Test.YtfbefblglejcaaaGreatDoorZST3
set_option linter.all false
set_option maxRecDepth 8000
set_option maxHeartbeats 8000000
namespace Go.Proofs.YtfbefblglejcaaaGreatDoor
open Go.Aw Proofs.Tryz List IntKind
theorem Ky{α:Type}(f:α->Nat):∀a b:List α,bA f (a++b)=bA f a+bA f b
 |[],b=>by simp[bA]
 |x::xs,b=>by simp only[eA,bA,Ky f xs b];omega
theorem V3(t:nI):bQ bX (kG t)<=1+lH t:=by
 unfold kG;split
 .simp [bQ,bA]
 .simp [bQ,bA,bX,lH]
theorem aKi(p:aG):aI (kX p)<=aI p+1:=by
 unfold kX;split
 .omega
 .have h:=V3 p.tok;simp only[aI,bQ,lH,eR,Ky,eV]at h⊢;omega
theorem aBs(p:aG)(s:bB):aI (dJ p s)<=2*aI p+2*s.length:=by
 unfold dJ;split
 .omega
 .obtain ⟨h1,h2⟩:=Da (p.tok.rest++s).length (p.tok.rest++s) (eE _);simp only[eR]at h1 h2;simp only[aI,bQ,lH,eR,Ky]at*;omega
def tF:Nat->bB->lW->aG->lW×aG
 |0,_,n,p=>(n,p)
 |k+1,h,n,p=>match qR p with
  |[]=>(n,p)
  |r::_=>tF k h (jW n h r.to) (nM p r.to (eZ n h r.to))
def Eo(a:aK)(x:aZ):aG:=advance (kX (dJ (dQ a x).1 x.body))
def jN(n:lW)(a:aK):(lW×aG)×Bool:=
 if (dQ a (eZ n a.host a)).2=false then((jW n a.host a,qI),false)else(tF 200 a.host (jW n a.host a) (Eo a (eZ n a.host a)),true)
theorem Oe{p:aG}{r:fV}(h:r∈qR p):aR r.to<=aI p:=by
 unfold qR at h;rcases fL.1 h with h|h
 .obtain ⟨x,hx,rfl⟩:=AM.1 h;unfold iZ;split
  .rename_i s hs;have h7:=bS kZ (mT hs);simp only[kZ,fM,aI,bQ]at*;omega
  .simp [aR,Q5]
 .obtain ⟨x,hx,rfl⟩:=AM.1 h;unfold pF;split
  .rename_i s hs;have h7:=bS bK (mT hs);simp only[bK,eG,aI,bQ]at*;omega
  .simp [aR,Q5]
structure Jn(i:Nat)(h:bB)(n:lW)(p:aG): Prop where
  on:Qm (40000000+1453000*i) (680+1400*i) 20 p
  ho:p.addr.host = h
  net:NG (20000000+700000000*i) n
  hl:h.length <= 1048576
theorem Jn.sz{i:Nat}{h:bB}{n:lW}{p:aG}(hi:i<=210)(l:Jn i h n p):aI p<=346000000/\lX n<=274877906944:=by have h1:=l.on.sz.1;have h2:=l.net.sz;omega
theorem Og{i:Nat}{h:bB}{n:lW}{p:aG}{r:fV}{m:List fV}(hi:i<210)(l:Jn i h n p)(hr:qR p=r::m):Jn (i+1) h (jW n h r.to) (nM p r.to (eZ n h r.to)):=by have hz:=Oe (p:=p) (r:=r) (by rw[hr];simp);have hp:=(l.sz (by omega)).1;refine⟨(aBr r.to (eZ n h r.to) l.on (by omega) (by omega) (by decide)).up (by omega) (by omega),?_,(NH l.net h r.to).up (by have:=l.hl;omega),l.hl⟩;rw[Qo];exact l.ho
theorem ni(a:aK)(x:aZ):aI (dQ a x).1<=aR a+7*bG x+100:=by
 unfold dQ;have hp:eD (fT x.bD).1<=7*x.bD.length+3:=by
  unfold fT vE;split
  .simp [oO,eD,bQ,bA]
  .split
   .simp [oO,eD,bQ,bA]
   .rename_i h3;split
    .exact JY qG Wv h3
    .simp [oO,eD,bQ,bA]
 split
 .simp only[aI,BN,lH,bQ,aT,mM,sM,bG,bA,eN,eV]at*;omega
 .simp only[aI,qI,oO,eD,aR,lH,bQ,aT,bA,eV];omega
theorem Uh(a:aK)(x:aZ)(ha:aR a<=1048576)(hx:bG x<=1048576):aI (dQ a x).1<=8400000/\aI (dJ (dQ a x).1 x.body)<=18900000/\aI (kX (dJ (dQ a x).1 x.body))<=19000000:=by
 have h1:=ni a x;have h2:=aBs (dQ a x).1 x.body;have h3:=aKi (dJ (dQ a x).1 x.body);have h4:x.body.length<=bG x:=by simp only[bG];omega
 omega
theorem Ui(a:aK)(x:aZ)(ha:aR a<=1048576)(hx:bG x<=1048576)(nR:(dQ a x).2=true):Qm 41000000 680 20 (kX (dJ (dQ a x).1 x.body)):=by
 have hz:=(Uh a x ha hx).2.2;have hn:(dQ a x).1=BN a (fT x.bD).1:=by
  unfold dQ at nR⊢;split
  .rfl
  .rename_i h;rw[cX h]at nR;cases nR
 rw[hn]at hz⊢;generalize (fT x.bD).1=V4 at*;have hb:x.body.length<=1048576:=by simp only[bG]at hx;omega
 generalize x.body=s at*;have e:kX (dJ (BN a V4) s)=⟨a,V4,⟨[]⟩,(feed s).1++kG ⟨(feed s).2⟩,true,mM,[],[],[],0,0,0,0,[],[],false⟩:=by simp[kX,dJ,BN]
 obtain⟨f1,f2⟩:=Da s.length s (eE _);have f3:=V3 ⟨(feed s).2⟩;have hp:=(Cm (kX (dJ (BN a V4) s))).2;rw[e]at hp hz⊢;refine⟨⟨λnd hn=> ?_,λt ht=> ?_⟩,?_,?_,by simp⟩
 .simp only[mM,rI]at hn;rw[hn];simp[bA]
 .have h1:bX t<=1048577:=by
   rcases fL.1 ht with ht|ht
   .have:=bS bX ht;omega
   .have:=bS bX ht;simp only[bQ,lH]at f3;omega
  have h2:bQ oU t.attrs<=bX t:=by simp only[bX];omega
  simp only[bQ]at h2;cases ha:t.attrs with
  |nil=>simp[bA]
  |cons y l=>rw[ha]at h2;simp only[eN]at h2;omega
 .simp only[nY,uF,bA,eV]at hp⊢;omega
 .simp only[Cn,bQ,bA,eV];omega
theorem Kz(n:lW)(a:aK)(hs:lX n+aR a<=1048576)(nR:(dQ a (eZ n a.host a)).2=true):Jn 2 a.host (jW n a.host a) (Eo a (eZ n a.host a)):=by
 have hn:=QI n (by omega);have hx:=Am hn a.host a;have ha:a.host.length<=aR a:=by simp only[aR];omega
 have hb:=Ui a (eZ n a.host a) (by omega) hx nR;refine⟨(Ua hb (by omega) (by omega) (by decide)).up (by omega) (by omega),?_,(NH hn a.host a).up (by omega),by omega⟩;rw[show(Eo a (eZ n a.host a)).addr=(kX (dJ (dQ a (eZ n a.host a)).1 (eZ n a.host a).body)).addr from Dw 2000 _];have h1:∀p s,(dJ p s).addr=p.addr:=λp s=>by unfold dJ;split<;>rfl
 have h2:∀p,(kX p).addr=p.addr:=λp=>by unfold kX;split<;>rfl
 rw[h2,h1];unfold dQ at nR⊢;split
 .rfl
 .rename_i h;rw[cX h]at nR;cases nR
theorem nk{h:bB}:∀(k i:Nat) (n:lW) (p:aG),Jn i h n p->i+k<=210->∃j,j<=210/\Jn j h (tF k h n p).1 (tF k h n p).2
 |0,i,n,p,hl,hi=>⟨i,by omega,hl⟩
 |k+1,i,n,p,hl,hi=>by
  unfold tF;split
  .exact ⟨i,by omega,hl⟩
  .rename_i r l hr;exact nk k (i+1) _ _ (Og (by omega) hl hr) (by omega)
theorem aKj(n:lW)(a:aK)(hs:lX n+aR a<=1048576):aI (jN n a).1.2<=346000000/\lX (jN n a).1.1<=274877906944:=by
 unfold jN;split
 .have h1:=(NH (QI n (by omega)) a.host a).sz;have h2:a.host.length<=aR a:=by simp only[aR];omega
  have h3:aI qI<=1000:=by simp only[aI,qI,oO,eD,aR,lH,bQ,aT,bA,eV];omega
  exact⟨by simp only;omega,by simp only;omega⟩
 .rename_i h;obtain⟨j,hj,hl⟩:=nk 200 2 _ _ (Kz n a hs (by simpa using h)) (by omega);exact hl.sz hj
theorem ML[aC prog][dL prog][bP prog][oK prog]{n e s:Nat}(p:aG)(a:aK)(x:aZ)(h:Qm n e s p)(hn:n+400*s+1445000<=500000000)(he:e+1400<=16777216)(Iy:20<=s)(aG2:s<=16777216)(ha:aR a<=500000000)(hx:bG x<=1048576):Ok prog 39 [.agg (aH .view p),.agg (aL a),.agg (bF x)] (.agg (aH .own (nM p a x))):=by have h1:=Kw a x h;have h2:=Ub a x h1;have c1:=TY p a x (by have h5:=h.sz.1;have h6:=h.sl;omega) hx;have c2:=MK (lU p a x) a x (by have:=h1.sz.1;omega) hx;have c3:=FM (jS (lU p a x) a x) h2 (by omega) he Iy aG2;unfold nM;generalize advance (jS (lU p a x) a x)=r at*;clear h1 h2 h;generalize jS (lU p a x) a x=q2 at*;generalize lU p a x=q1 at*;simp only[aH,aL,bF]at c1 c2 c3⊢;refine bM aF func39 ntmps39 ?_;refine iF ?_;exact aD results39
theorem Ol[aC prog][dL prog][bP prog][oK prog](n:lW)(a:aK)(hs:lX n+aR a<=1048576):Ok prog 18 [.agg (mY .view n),.agg (aL a)] (.gT [.agg (mY .own (jN n a).1.1),.agg (aH .own (jN n a).1.2),.bool (jN n a).2]):=by
 have hn:=QI n (by omega);have hah:a.host.length<=aR a:=by simp only[aR];omega
 have c1:=Jq n a.host a hn (by omega) (by omega);have hx:=Am hn a.host a;have KH:=Kz n a hs;unfold jN;have hst:Eo a (eZ n a.host a)=advance (kX (dJ (dQ a (eZ n a.host a)).1 (eZ n a.host a).body)):=rfl;generalize eZ n a.host a=x at*;have c2:=(SI a x (by omega) (by omega)).Ip (r':= .gT [.agg (aH .view (dQ a x).1),.bool (dQ a x).2]) (by simp[rt,xR]);obtain⟨z1,z2,z3⟩:=Uh a x (by omega) hx;have hbe:=Ui a x (by omega) hx;have c3:=(ME (dQ a x).1 x.body (by omega) (by simp only[bG]at hx;omega)).Ip (r':= .agg (aH .view (dJ (dQ a x).1 x.body))) (by simp[rt]);have c4:=(Ug (dJ (dQ a x).1 x.body) (by omega)).Ip (r':= .agg (aH .view (kX (dJ (dQ a x).1 x.body)))) (by simp[rt]);cases nR:(dQ a x).2
 .rw [eK rfl];rw[nR]at c2;generalize (dQ a x).1=p0 at*;generalize jW n a.host a=m at*;clear c3 c4 KH hbe;simp only[mY,aL,aH,bF]at c1 c2⊢;refine xU aF func18 ntmps18 ?_;refine iF ?_;all_goals try(first|(refine⟨.inr rfl,.inl ?_⟩;simp[aP,results18,qI,oO];done)|(refine⟨.inr rfl,.inr (dN ?_)⟩;simp[AS.yK,AS.wT,AS.rv,results18,qI,oO];done)|(refine⟨.inr rfl,.inr (DW ?_)⟩;simp[AS.rvC,AS.yK,AS.wT,AS.rv,results18,qI,oO];done)|(refine⟨.inr rfl,.inl ?_⟩;simp[aP,results18,qI,oO]))
 .rw [cX (by simp)];rw[nR]at c2;have KH:=KH nR;have c5:=FM (kX (dJ (dQ a x).1 x.body)) (hbe nR) (by omega) (by omega) (by decide) (by decide);rw[hst]at KH⊢;generalize advance (kX (dJ (dQ a x).1 x.body))=q0 at*;generalize kX (dJ (dQ a x).1 x.body)=p2 at*;generalize dJ (dQ a x).1 x.body=p1 at*;generalize (dQ a x).1=p0 at*;generalize jW n a.host a=m at*;clear hbe hst z1 z2 z3 hx nR;simp only[mY,aL,aH,bF]at c1 c2 c3 c4 c5⊢;refine xU aF func18 ntmps18 ?_;refine iF ?_;obtain⟨r,hr⟩:∃r,r=tF 200 a.host m q0:=⟨_,rfl⟩;rw[<-hr];refine aO (ι:={x:Nat×lW×aG // x.1<=200/\Jn (2+x.1) a.host x.2.1 x.2.2/\tF (200-x.1) a.host x.2.1 x.2.2=r}) (λt o i=>⟨bC t [(11,.int .i64 i.1.1),(12,.undef),(13,.undef),(14,.undef),(15,.undef),(20,.undef),(21,.undef),(38,.undef)],o.take 4++qh i.1.2.1++[⟨true,true,4,0,[qi 4 i.1.2.1]⟩]++(o.drop 8).take 1++[⟨true,true,22,0,[zF 10 i.1.2.2]⟩]++zD i.1.2.2⟩)
   (λi=>200-i.1.1) ⟨(0,m,q0),by simp,KH,hr.symm⟩ (aJ (by simp[zD,zF,qh,qi]) (by simp)) ?_
  rintro⟨⟨k,n1,p1⟩,hk,nR,rC⟩ K1 hK1;simp only at hk nR rC;clear KH hr c1 c2 c3 c4 c5 hn hs;have hk1:=oQ (k:=k);by_cases hlt:k<200
  .have hki:(k:Int)<200:=by omega
   obtain⟨hz,hnz⟩:=nR.sz (by omega);have hsl:=nR.on.sl;have hmz:=nR.on.sz.2;have c6:=(Oc p1 (by omega) (by simp only[bQ]at hmz;omega)).Ip (r':= .sl .view 5 ((qR p1).map dD)) (by simp[rt]);have hK2:=hK1;simp only[bC,cW,cU,eL,fX,pC,AI,eA,eM,zD,zF,qh,qi]at hK1⊢;cases Ri:qR p1 with
   |nil=>
    have hge:(n1,p1)=r:=by rw[<-rC,show 200-k=(200-(k+1))+1 by omega,tF,Ri]
    clear hK2 hK1 nR rC;subst hge;rw[Ri]at c6;simp only[aH]at c6⊢;have W:=hki;refine wl ?_;all_goals try(first|(refine⟨.inr rfl,.inl ?_⟩;simp[aP,results18];done)|(refine⟨.inr rfl,.inr (dN ?_)⟩;simp[AS.yK,AS.wT,AS.rv,results18];done)|(refine⟨.inr rfl,.inr (DW ?_)⟩;simp[AS.rvC,AS.yK,AS.wT,AS.rv,results18];done)|(refine⟨.inr rfl,.inl ?_⟩;simp[aP,results18]))
   |cons r1 rs=>
    have hnx:=Og (by omega) nR Ri;have hra:=Oe (p:=p1) (r:=r1) (by rw[Ri];simp);have c7:=Jq n1 a.host r1.to nR.net (by omega) (by have:=nR.hl;omega);have hxr:=Am nR.net a.host r1.to;have c8:=ML p1 r1.to (eZ n1 a.host r1.to) nR.on (by omega) (by omega) (by decide) (by decide) (by omega) hxr;have hgn:tF (200-(k+1)) a.host (jW n1 a.host r1.to) (nM p1 r1.to (eZ n1 a.host r1.to))=r:=by rw[<-rC,show 200-k=(200-(k+1))+1 by omega,tF,Ri]
    rw[Ri]at c6;generalize eZ n1 a.host r1.to=y at*;generalize jW n1 a.host r1.to=n2 at*;generalize nM p1 r1.to y=p2 at*;clear hz hnz hsl hmz hra Ri hxr;simp only[aH,mY,aL,bF]at c6 c7 c8;have W:=aA hki hk1;refine wl ?_;refine hK2 _ ⟨(k+1,n2,p2),by simp only;omega,hnx,hgn⟩ ?_ (by simp only;omega);exact aG3 (m:=n2) (q:=p2) rfl (by simp[zD,zF,qh,qi]) (by simp[zS]) (by simp[zS]) (by simp) (by simp) (by simp[dC])
  .have hki:¬(k:Int)<200:=by omega
   obtain rfl:k=200:=by omega
   have hge:(n1,p1)=r:=by simpa [tF]using rC
   simp only[bC,cW,cU,eL,fX,pC,AI,eA,eM,zD,zF,qh,qi]at hK1⊢;clear hK1 nR rC;subst hge;simp only[aH,mY];refine iF ?_;all_goals try(first|(refine⟨.inr rfl,.inl ?_⟩;simp[aP,results18];done)|(refine⟨.inr rfl,.inr (dN ?_)⟩;simp[AS.yK,AS.wT,AS.rv,results18];done)|(refine⟨.inr rfl,.inr (DW ?_)⟩;simp[AS.rvC,AS.yK,AS.wT,AS.rv,results18];done)|(refine⟨.inr rfl,.inl ?_⟩;simp[aP,results18]))
theorem FN[aC prog][dL prog][bP prog][oK prog]{n e s:Nat}(p:aG)(h0:Qm n e s p)(hn:n+1442000<=500000000)(he:e<=16777216)(Iy:20<=s)(aG2:s<=16777216):Ok prog 45 [.agg (aH .view p)] (.agg (aH .own (advance p))):=by
 have hs:=h0.sz.1;have c1:=iG p (by omega);unfold advance;generalize hr:qA 2000 p=r at*;simp only[aH]at c1;refine bM aF func45 ntmps45 ?_;refine iF ?_;refine aO (ι:={x:Nat×aG // x.1<=2000/\Qm (n+721*x.1) e s x.2/\qA (2000-x.1) x.2=r}) (λt o i=>⟨bC t [(4,.int .i64 i.1.1),(5,.undef),(6,.undef),(8,.undef)],o.take 2++zD i.1.2++[⟨true,true,22,0,[zF 2 i.1.2]⟩]⟩)
  (λi=>2000-i.1.1) ⟨(0,p),by simp,h0.up (by omega) (eE _),hr⟩ (aJ (by simp[zD,zF]) (by simp)) ?_
 rintro⟨⟨k,q⟩,hk,nR,Uo⟩ K1 hK1;simp only at hk nR Uo;clear h0 hr hs c1;have hk1:=oQ (k:=k);by_cases hlt:k<2000
 .have hki:(k:Int)<2000:=by omega
  obtain⟨hz,hme⟩:=nR.sz;have c2:=MM q (by omega);have c3:=Qt q (by omega) (by have:=nR.sl;omega) (by omega);obtain⟨g1,g2⟩:=aGp hlt Uo;have hnx:=(Yq nR (by omega) he Iy).up (n2:=n+721*(k+1)) (by omega) (eE _);unfold wV at g1 g2 hnx;have hK2:=hK1;simp only[bC,cW,cU,eL,fX,eA,eM,zD,zF]at hK1⊢;cases hb:(jE q).2
  .rw [hb]at c2;rw[cX (by rw[hb];simp)]at g1 g2 hnx;generalize (jE q).1=q1 at*;cases hb2:(nX q).2
   .rw [hb2]at c3;have hq:=g2 hb2;clear g1 g2 hnx hK2 hK1 nR Uo hz hme;generalize (nX q).1=q2 at*;subst hq;simp only[aH]at c2 c3⊢;have W:=hki;refine wl ?_;exact aD results45
   .rw [hb2]at c3;have hq:=g1 hb2;clear g1 g2 hz hme;generalize (nX q).1=q2 at*;simp only[aH]at c2 c3;have W:=aA hki hk1;refine wl ?_;refine hK2 _ ⟨(k+1,q2),by simp only;omega,hnx,hq⟩ ?_ (by simp only;omega);exact Xc (q:=q2) rfl (by simp[zD,zF]) (by simp[tO]) (by simp[tO]) (by simp) (by simp) (by simp[dC])
  .rw [hb]at c2;rw[eK hb]at g1 g2 hnx;have hq:=g1 hb;clear g1 g2 hz hme c3;generalize (jE q).1=q1 at*;simp only[aH]at c2;have W:=aA hki hk1;refine wl ?_;refine hK2 _ ⟨(k+1,q1),by simp only;omega,hnx,hq⟩ ?_ (by simp only;omega);exact Xb (q:=q1) rfl (by simp[zD,zF]) (by simp[tN]) (by simp[tN]) (by simp) (by simp) (by simp[dC])
 .have hki:¬(k:Int)<2000:=by omega
  obtain rfl:k=2000:=by omega
  have hq:q=r:=by simpa [qA]using Uo
  simp only[bC,cW,cU,eL,fX,eA,eM,zD,zF]at hK1⊢;clear hK1 nR Uo;subst hq;simp only[aH];refine iF ?_;exact aD results45
theorem MN[aC prog][dL prog][bP prog][oK prog]{n e s:Nat}(p:aG)(a:aK)(x:aZ)(h:Qm n e s p)(hn:n+400*s+1445000<=500000000)(he:e+1400<=16777216)(Iy:20<=s)(aG2:s<=16777216)(ha:aR a<=500000000)(hx:bG x<=1048576):Ok prog 93 [.agg (aH .view p),.agg (aL a),.agg (bF x)] (.agg (aH .own (nM p a x))):=by have h1:=Kw a x h;have h2:=Ub a x h1;have c1:=TW p a x (by have h5:=h.sz.1;have h6:=h.sl;omega) hx;have c2:=Mx (lU p a x) a x (by have:=h1.sz.1;omega) hx;have c3:=FN (jS (lU p a x) a x) h2 (by omega) he Iy aG2;unfold nM;generalize advance (jS (lU p a x) a x)=r at*;clear h1 h2 h;generalize jS (lU p a x) a x=q2 at*;generalize lU p a x=q1 at*;simp only[aH,aL,bF]at c1 c2 c3⊢;refine bM aF func93 ntmps93 ?_;refine iF ?_;exact aD results93
theorem MO[aC prog][dL prog][bP prog][oK prog]{h:bB}(n:lW)(p:aG)(KH:Jn 2 h n p):MP prog 48 [.oM (.agg (mY .own n)),.oM (.agg (aH .own p))] (.gT [.agg (mY .own (tF 200 h n p).1),.agg (aH .own (tF 200 h n p).2)]):=by
 obtain⟨r,hr⟩:∃r,r=tF 200 h n p:=⟨_,rfl⟩;rw[<-hr];refine sG aF func48 ntmps48 ?_;refine iF ?_;refine aO (ι:={x:Nat×lW×aG // x.1<=200/\Jn (2+x.1) h x.2.1 x.2.2/\tF (200-x.1) h x.2.1 x.2.2=r}) (λt o i=>⟨bC t [(0,.undef),(1,.undef),(6,.int .i64 i.1.1),(7,.undef),(8,.undef),(9,.undef)],qh i.1.2.1++zD i.1.2.2++[⟨true,true,4,0,[qi 0 i.1.2.1]⟩,⟨true,true,22,0,[zF 3 i.1.2.2]⟩]++o.drop 16⟩)
  (λi=>200-i.1.1) ⟨(0,n,p),by simp,KH,hr.symm⟩ (aJ (by simp[zD,zF,qh,qi]) (by simp)) ?_
 rintro⟨⟨k,n1,p1⟩,hk,nR,rC⟩ K1 hK1;simp only at hk nR rC;clear KH hr;have hk1:=oQ (k:=k);by_cases hlt:k<200
 .have hki:(k:Int)<200:=by omega
  obtain⟨hz,hnz⟩:=nR.sz (by omega);have hsl:=nR.on.sl;have hmz:=nR.on.sz.2;have c6:=(Od p1 (by omega) (by simp only[bQ]at hmz;omega)).Ip (r':= .sl .view 5 ((qR p1).map dD)) (by simp[rt]);have hK2:=hK1;simp only[bC,cW,cU,pC,AI,eA,eM,zD,zF,qh,qi]at hK1⊢;cases Ri:qR p1 with
  |nil=>
   have hge:(n1,p1)=r:=by rw[<-rC,show 200-k=(200-(k+1))+1 by omega,tF,Ri]
   clear hK2 hK1 nR rC;subst hge;rw[Ri]at c6;simp only[aH]at c6⊢;have W:=hki;refine wl ?_;all_goals (try exact kH (by simp[gF,dI,dH,rowOf,results48];done))
  |cons r1 rs=>
   have hnx:=Og (by omega) nR Ri;have hra:=Oe (p:=p1) (r:=r1) (by rw[Ri];simp);have hho:=nR.ho;have c7:=Jp n1 h r1.to nR.net (by omega) (by have:=nR.hl;omega);rw[<-hho]at c7;have hxr:=Am nR.net h r1.to;have c8:=MN p1 r1.to (eZ n1 h r1.to) nR.on (by omega) (by omega) (by decide) (by decide) (by omega) hxr;have hgn:tF (200-(k+1)) h (jW n1 h r1.to) (nM p1 r1.to (eZ n1 h r1.to))=r:=by rw[<-rC,show 200-k=(200-(k+1))+1 by omega,tF,Ri]
   rw[Ri]at c6;rw[hho]at c7;generalize eZ n1 h r1.to=y at*;generalize jW n1 h r1.to=n2 at*;rw[<-hho]at c7;generalize nM p1 r1.to y=p2 at*;clear hz hnz hsl hmz hra Ri hxr hho;simp only[aH,mY,aL,bF]at c6 c7 c8;have W:=aA hki hk1;refine wl ?_;refine hK2 _ ⟨(k+1,n2,p2),by simp only;omega,hnx,hgn⟩ ?_ (by simp only;omega);exact aG4 (m:=n2) (q:=p2) rfl (by simp[zD,zF,qh,qi]) (by simp[zT]) (by simp[zT]) (by simp) (by simp) (by simp[dC])
 .have hki:¬(k:Int)<200:=by omega
  obtain rfl:k=200:=by omega
  have hge:(n1,p1)=r:=by simpa [tF]using rC
  simp only[bC,cW,cU,pC,AI,eA,eM,zD,zF,qh,qi]at hK1⊢;clear hK1 nR rC;subst hge;simp only[aH,mY];refine iF ?_;all_goals (try exact kH (by simp[gF,dI,dH,rowOf,results48];done))
theorem Oo[aC prog][dL prog][bP prog][oK prog](n:lW)(a:aK)(hs:lX n+aR a<=1048576):Ok prog 22 [.agg (mY .view n),.agg (aL a)] (.gT [.agg (mY .own (jN n a).1.1),.agg (aH .own (jN n a).1.2),.bool (jN n a).2]):=by
 have hn:=QI n (by omega);have hah:a.host.length<=aR a:=by simp only[aR];omega
 have c1:=Jp n a.host a hn (by omega) (by omega);have hx:=Am hn a.host a;have KH:=Kz n a hs;unfold jN;have hst:Eo a (eZ n a.host a)=advance (kX (dJ (dQ a (eZ n a.host a)).1 (eZ n a.host a).body)):=rfl;generalize eZ n a.host a=x at*;have c2:=(SH a x (by omega) (by omega)).Ip (r':= .gT [.agg (aH .view (dQ a x).1),.bool (dQ a x).2]) (by simp[rt,xR]);obtain⟨z1,z2,z3⟩:=Uh a x (by omega) hx;have hbe:=Ui a x (by omega) hx;have c3:=(MC (dQ a x).1 x.body (by omega) (by simp only[bG]at hx;omega)).Ip (r':= .agg (aH .view (dJ (dQ a x).1 x.body))) (by simp[rt]);have c4:=(Uf (dJ (dQ a x).1 x.body) (by omega)).Ip (r':= .agg (aH .view (kX (dJ (dQ a x).1 x.body)))) (by simp[rt]);cases nR:(dQ a x).2
 .rw [eK rfl];rw[nR]at c2;generalize (dQ a x).1=p0 at*;generalize jW n a.host a=m at*;clear c3 c4 KH hbe;simp only[mY,aL,aH,bF]at c1 c2⊢;refine xU aF func22 ntmps22 ?_;refine iF ?_;all_goals try(first|(refine⟨.inr rfl,.inl ?_⟩;simp[aP,results22,qI,oO];done)|(refine⟨.inr rfl,.inr (dN ?_)⟩;simp[AS.yK,AS.wT,AS.rv,results22,qI,oO];done)|(refine⟨.inr rfl,.inr (DW ?_)⟩;simp[AS.rvC,AS.yK,AS.wT,AS.rv,results22,qI,oO];done)|(refine⟨.inr rfl,.inl ?_⟩;simp[aP,results22,qI,oO]))
 .rw [cX (by simp)];rw[nR]at c2;have KH:=KH nR;have c5:=FN (kX (dJ (dQ a x).1 x.body)) (hbe nR) (by omega) (by omega) (by decide) (by decide);rw[hst]at KH⊢;generalize advance (kX (dJ (dQ a x).1 x.body))=q0 at*;generalize kX (dJ (dQ a x).1 x.body)=p2 at*;generalize dJ (dQ a x).1 x.body=p1 at*;generalize (dQ a x).1=p0 at*;generalize jW n a.host a=m at*;have c6:=MO m q0 KH;generalize tF 200 a.host m q0=g at*;clear hbe hst z1 z2 z3 hx nR KH;simp only[mY,aL,aH,bF]at c1 c2 c3 c4 c5 c6⊢;refine xU aF func22 ntmps22 ?_;have W:=trivial;repeat' first|refine wg ?_|(refine nx ?_;refine sg (hc:=c6) (h:=?_))|(refine sq ?_ ?_<;>intro hc<;>try exact hc.elim)|fail
  all_goals try(first|(refine⟨.inr rfl,.inl ?_⟩;simp[aP,results22];done)|(refine⟨.inr rfl,.inr (dN ?_)⟩;simp[AS.yK,AS.wT,AS.rv,results22];done)|(refine⟨.inr rfl,.inr (DW ?_)⟩;simp[AS.rvC,AS.yK,AS.wT,AS.rv,results22];done)|(refine⟨.inr rfl,.inl ?_⟩;simp[aP,results22]))
theorem nz(n:lW)(a:aK)(hs:lX n+aR a<=1048576):bQ gG (jN n a).1.2.log<=346000000:=by have h:=(aKj n a hs).1;simp only[aI]at h;omega
theorem Qu[aC prog][dL prog][bP prog][oK prog](n:lW)(a:aK)(hs:lX n+aR a<=1048576):Ok prog 6 [.agg (mY .view n),.agg (aL a)] (.sl .own 1 ((jN n a).1.2.log.map bW)):=by have hl:=nz n a hs;have c1:=(Ol n a hs).Ip (r':= .gT [.agg (mY .view (jN n a).1.1),.agg (aH .view (jN n a).1.2),.bool (jN n a).2]) (by simp[rt,xR]);generalize jN n a=g at*;obtain⟨⟨m,p⟩,b⟩:=g;simp only[bQ]at hl;simp only[mY,aL,aH]at c1⊢;refine bM aF func6 ntmps6 ?_;refine aY ?_;exact aD results6
theorem Qv[aC prog][dL prog][bP prog][oK prog](n:lW)(a:aK)(hs:lX n+aR a<=1048576):Ok prog 9 [.agg (mY .view n),.agg (aL a)] (.sl .own 1 ((jN n a).1.2.log.map bW)):=by have c1:=Oo n a hs;generalize jN n a=g at*;obtain⟨⟨m,p⟩,b⟩:=g;simp only[mY,aL,aH]at c1⊢;refine bM aF func9 ntmps9 ?_;refine aY ?_;exact aD results9
end Go.Proofs.YtfbefblglejcaaaGreatDoor
