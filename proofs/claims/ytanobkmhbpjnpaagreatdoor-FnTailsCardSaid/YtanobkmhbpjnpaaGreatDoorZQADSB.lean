/- Steps. No condition. -/
import Derived.Test.YtanobkmhbpjnpaaGreatDoorZQAD0
import Derived.Test.YtanobkmhbpjnpaaGreatDoorZQTKA
import Derived.Test.YtanobkmhbpjnpaaGreatDoorZQSV2
set_option linter.all false
set_option maxRecDepth 100000
set_option maxHeartbeats 8000000
namespace Go.Proofs.YtanobkmhbpjnpaaGreatDoor
open Go.Aw Proofs.Tryz List IntKind
theorem BN[aG prog][fI prog][dG prog][qR prog]{n e s:Nat}(p:aF)(h0:Rh n e s p)(hn:n+1442000<=500000000)(he:e<=16777216)(Ju:20<=s)(aI1:s<=16777216):Ok prog 8 [.agg (aH .view p)] (.agg (aH .own (fD p))):=by
 have hs:=h0.sz.1;have c1:=jH p (by omega);unfold fD;generalize hr:kX 2000 p=r at*;simp only[aH]at c1;refine dN aK func8 ntmps8 ?_;refine bZ ?_;refine aT (ι:={x:Nat×aF // x.1<=2000/\Rh (n+721*x.1) e s x.2/\kX (2000-x.1) x.2=r}) (λt o i=>⟨bP t [(4,.int .i64 i.1.1),(5,.aB),(6,.aB),(8,.aB)],o.take 2++Fh i.1.2++[⟨true,true,22,0,[Fj 2 i.1.2]⟩]⟩)
  (λi=>2000-i.1.1) ⟨(0,p),by simp,h0.up (by omega) (eJ _),hr⟩ (aP (by simp[Fh,Fj]) (by simp)) ?_
 rintro⟨⟨k,q⟩,hk,rP,UO⟩ K1 hK1;simp only at hk rP UO;clear h0 hr hs c1;have hk1:=tQ (k:=k);by_cases hlt:k<2000
 .have hki:(k:Int)<2000:=by omega
  obtain⟨hz,hme⟩:=rP.sz;have c2:=Nq q (by omega);have c3:=Rj q (by omega) (by have:=rP.sl;omega) (by omega);obtain⟨g1,g2⟩:=aIj hlt UO;have hnx:=(Zj rP (by omega) he Ju).up (n2:=n+721*(k+1)) (by omega) (eJ _);unfold mD at g1 g2 hnx;have hK2:=hK1;simp only[bP,cH,cQ,eV,gS,cW,eA,Fh,Fj]at hK1⊢;cases hb:(iC q).2
  .rw [hb]at c2;rw[eC (by rw[hb];simp)]at g1 g2 hnx;generalize (iC q).1=q1 at*;cases hb2:(iJ q).2
   .rw [hb2]at c3;have hq:=g2 hb2;clear g1 g2 hnx hK2 hK1 rP UO hz hme;generalize (iJ q).1=q2 at*;subst hq;simp only[aH]at c2 c3⊢;have W:=hki;refine wl ?_;exact aO results8
   .rw [hb2]at c3;have hq:=g1 hb2;clear g1 g2 hz hme;generalize (iJ q).1=q2 at*;simp only[aH]at c2 c3;have W:=aA hki hk1;refine wl ?_;refine hK2 _ ⟨(k+1,q2),by simp only;omega,hnx,hq⟩ ?_ (by simp only;omega);exact XW (q:=q2) rfl (by simp[Fh,Fj]) (by simp[vD]) (by simp[vD]) (by simp) (by simp) (by simp[eU])
  .rw [hb]at c2;rw[eM hb]at g1 g2 hnx;have hq:=g1 hb;clear g1 g2 hz hme c3;generalize (iC q).1=q1 at*;simp only[aH]at c2;have W:=aA hki hk1;refine wl ?_;refine hK2 _ ⟨(k+1,q1),by simp only;omega,hnx,hq⟩ ?_ (by simp only;omega);exact XV (q:=q1) rfl (by simp[Fh,Fj]) (by simp[vC]) (by simp[vC]) (by simp) (by simp) (by simp[eU])
 .have hki:¬(k:Int)<2000:=by omega
  obtain rfl:k=2000:=by omega
  have hq:q=r:=by simpa [kX]using UO
  simp only[bP,cH,cQ,eV,gS,cW,eA,Fh,Fj]at hK1⊢;clear hK1 rP UO;subst hq;simp only[aH];refine bZ ?_;exact aO results8
def sQ:List (Nat×Nat):=[(4,18),(5,19),(6,20),(7,21),(8,22),(9,23),(10,24),(11,25),(12,26),(13,27),(14,28)]
theorem W9{t t':List AV}{o o':List aI}{o0 o1 o2 o3 m0 m1:aI}{q0 q:aF}(ho:o=[o0,o1,o2,o3]++nW q0++[⟨true,true,22,0,[lQ 18 q]⟩,m0,m1]++nW q)(ho':o'=[o0,o1,o2,o3]++nW q++[⟨true,true,22,0,[lQ 4 q]⟩,m0,m1])
  (ht:∀z∈sQ,wk (uG z.1 z.2 t') t') (hf:∀z∈sQ,o0.oM z.1 z.2=o0/\o1.oM z.1 z.2=o1/\o2.oM z.1 z.2=o2/\o3.oM z.1 z.2=o3/\m0.oM z.1 z.2=m0/\m1.oM z.1 z.2=m1) (hw:wk t t') (hc:iK 18 t'=true) (hc0:eU 18 [o0,o1,o2,o3,m0,m1]=true):mZ ⟨t,o⟩ ⟨t',o'⟩:=by
 subst ho;subst ho';have e:=λi j (h:(i,j)∈sQ)=>hf (i,j) h
 have h:=λi j (h:(i,j)∈sQ)=>ht (i,j) h
 simp only[nW,lQ,cW,eA];refine(zS hw).trans ?_;refine(bI 4 18 rfl rfl ⟨rfl,rfl⟩ (by simp[(e 4 18 (by decide))];rfl) (h 4 18 (by decide))).trans ?_;refine(bI 5 19 rfl rfl ⟨rfl,rfl⟩ (by simp[(e 5 19 (by decide))];rfl) (h 5 19 (by decide))).trans ?_;refine(bI 6 20 rfl rfl ⟨rfl,rfl⟩ (by simp[(e 6 20 (by decide))];rfl) (h 6 20 (by decide))).trans ?_;refine(bI 7 21 rfl rfl ⟨rfl,rfl⟩ (by simp[(e 7 21 (by decide))];rfl) (h 7 21 (by decide))).trans ?_;refine(bI 8 22 rfl rfl ⟨rfl,rfl⟩ (by simp[(e 8 22 (by decide))];rfl) (h 8 22 (by decide))).trans ?_;refine(bI 9 23 rfl rfl ⟨rfl,rfl⟩ (by simp[(e 9 23 (by decide))];rfl) (h 9 23 (by decide))).trans ?_;refine(bI 10 24 rfl rfl ⟨rfl,rfl⟩ (by simp[(e 10 24 (by decide))];rfl) (h 10 24 (by decide))).trans ?_;refine(bI 11 25 rfl rfl ⟨rfl,rfl⟩ (by simp[(e 11 25 (by decide))];rfl) (h 11 25 (by decide))).trans ?_;refine(bI 12 26 rfl rfl ⟨rfl,rfl⟩ (by simp[(e 12 26 (by decide))];rfl) (h 12 26 (by decide))).trans ?_;refine(bI 13 27 rfl rfl ⟨rfl,rfl⟩ (by simp[(e 13 27 (by decide))];rfl) (h 13 27 (by decide))).trans ?_;refine(bI 14 28 rfl rfl ⟨rfl,rfl⟩ (by simp[(e 14 28 (by decide))];rfl) (h 14 28 (by decide))).trans ?_;refine aQ 18 (by simp) (oH _) hc ?_;simpa [eU,iK,closed]using hc0
theorem Rk[aG prog][dG prog][fI prog](p:aF)(a:aR)(hps:aM p<=1073741824)(hha:a.bN.length<=1073741824):Ok prog 104 [.agg (aH .view p),.agg (aS a)] (.iL [.sl .own 2 ((jU p a).map aS),.bool (nP p a)]):=by
 simp only[aM,dS]at hps;have c2:=BA p a (by omega);unfold jU nP;rcases oL (mR a) p.aL with⟨hi,hf⟩|⟨k,hk,hi,hf⟩
 .rw [hf];rw[hi]at c2;simp only[aS,aH]at c2;refine dN aK func104 ntmps104 ?_;refine bK ?_;exact aO results104
 .rw [hf];rw[hi]at c2;have hm:=gR hk;have hz:=dJ cB hm;have hg:=aE hk;simp only[cB,aW]at hz;have cp:=yX p.aL[k].body a.bN (by omega) hha;simp only[aS,aH]at c2;simp only;generalize bQ p.aL[k].body a.bN=w at*;obtain⟨w1,w2,w3⟩:=w;simp only at cp;have hk0:¬((k:Nat):Int)<0:=by omega
  cases hd1:p.aL[k].done
  .refine dN aK func104 ntmps104 ?_;have W:=aA hk0 (aA hg (aA hk hd1));refine we ?_;exact aO results104
  .by_cases hd2:p.aL[k].code=1
   .simp only[hd2,Hn,eS];refine dN aK func104 ntmps104 ?_;have W:=aA hk0 (aA hg (aA hk (aA hd1 hd2)));refine we ?_;exact aO results104
   .simp only[hd2,and_false,eW];refine dN aK func104 ntmps104 ?_;have W:=aA hk0 (aA hg (aA hk (aA hd1 hd2)));refine we ?_;exact aO results104
theorem Nr[aG prog][dG prog][fI prog](p:aF)(a:aR)(x:bG)(hs:aM p<=536870912/\aW a<=536870912)(hx:dC x<=1048576):Ok prog 49 [.agg (aH .view p),.agg (aS a),.agg (bR x)] (.agg (aH .own (kM p a x))):=by
 have hs1:=hs.1;have hml:p.aL.length<=536870912:=by simp only[aM,dS]at hs1;omega
 have Il:eT p.bO<=274877906944:=by simp only[aM]at hs1;omega
 have c1:=jH p (by omega);have c2:=BA p a (by omega);rcases oL (mR a) p.aL with⟨hi,hf⟩|⟨k,hk,hi,hf⟩
 .rw [Ba hi];rw[hi]at c2;simp only[aH,aS]at c1 c2;refine dN aK func49 ntmps49 ?_;refine bK ?_;exact aO results49
 .have hg:=aE hk;rw[hi]at c2;have hk0:¬((k:Nat):Int)<0:=by omega
  cases hd:p.aL[k].done
  .rw [Cx hi hg hd];have cR:=Eb p k (by omega) (by omega) (by omega);have e:qY p (k:Int)=gV p p.aL[k]:=by simp[qY,hg]
   rw[e]at cR;have hrq:lZ (gV p p.aL[k])<=1073741824:=by have hm:=dJ cB (gR hk);simp only[cB]at hm;simp only[lZ,gV,fL];simp only[aM,dS,aW]at hs1 hm⊢;omega
   have c3:=xI p.bO (gV p p.aL[k]) x Il (by omega) hx;have c4:=El p.bO (gV p p.aL[k]) x Il (by omega) hx;simp only[aH,eG]at cR;simp only[dA,eG,bR]at c3 c4;simp only[aH,aS]at c1 c2;clear e;have Gl:=IC (x:=x) hi hk hf;have hqs:=Zi p k hk x;have hub:=Ff p.bO (gV p p.aL[k]) x;have hset:(p.aL.map gH).set k [.str p.aL[k].to.bN,.str p.aL[k].to.iD,.bool true,.int .i64 (fE p.bO (gV p p.aL[k]) x),.str (lG p.bO (gV p p.aL[k]) x)]=(p.aL.set k (jP p p.aL[k] x)).map gH:=by rw[map_set];rfl
   have hg3:(p.aL.set k (jP p p.aL[k] x))[k]? =some (jP p p.aL[k] x):=by rw[mN hk]
   unfold Gg;have hfm:(jP p p.aL[k] x).done=true/\(jP p p.aL[k] x).code=fE p.bO (gV p p.aL[k]) x/\(jP p p.aL[k] x).body=lG p.bO (gV p p.aL[k]) x:=⟨rfl,rfl,rfl⟩;have hl3:(p.aL.set k (jP p p.aL[k] x)).length=p.aL.length:=by simp
   generalize fE p.bO (gV p p.aL[k]) x=c at*;generalize lG p.bO (gV p p.aL[k]) x=y at*;generalize gV p p.aL[k]=rq at*;generalize jP p p.aL[k] x=m3 at*;generalize p.aL.set k m3=L3 at*;obtain⟨f1,f2,f3⟩:=hfm;have aNc:k<L3.length:=by omega
   have e3:∀h,(L3[k]'h)=m3:=λh=>by rw[aE h]at hg3;exact cX hg3
   obtain⟨b1,b2⟩:=Qr (q:={p with aL:=L3}) Gl (by rw[f3];exact hub);have cI:=Rk {p with aL:=L3} a (by omega) (by simp only[aW]at hs;omega);generalize jU {p with aL:=L3} a=L at*;generalize nP {p with aL:=L3} a=ok at*;simp only[aH,aS]at cI;refine dN aK func49 ntmps49 ?_;have W:=aA hk0 (aA hg (aA hd (aA hk (aA hset (aA aNc (aA e3 (aA f1 (aA f2 f3))))))));refine we ?_;have hq0:aM {p with aL:=L3}<=536871424:=by omega
   have hts:=Qs hq0 b1 b2;have Oz:=λi (h:i<L.length)=>show lH {p with aL:=L3} (L.take (i+1))=fF (lH {p with aL:=L3} (L.take i)) L[i]by rw[fN h,Qq]
   have h00:lH {p with aL:=L3} (L.take 0)={p with aL:=L3}:=by simp[lH]
   have hall:L.length<=1099511627776:=by omega
   refine aT (ι:={k:Nat // k<=L.length}) (λt o i=>⟨bP t [(12,.int .i64 i.1),(14,.aB),(33,.aB),(35,.aB),(36,.aB),(38,.aB),(45,.aB),(46,.aB),(49,.aB),(58,.aB),(59,.aB),(61,.aB)],o.take 4++nW (lH {p with aL:=L3} (L.take i.1))++[⟨true,true,22,0,[lQ 4 (lH {p with aL:=L3} (L.take i.1))]⟩]++o.drop 16⟩)
    (λi=>L.length-i.1) ⟨0,by simp⟩ (aP (by simp only[h00];simp[nW,lQ]) (by simp)) ?_
   rintro⟨i,hi2⟩ K1 hK1;have hi1:i64.wrap ((i:Int)+1)=((i+1:Nat):Int):=by rw[wrap64]<;>omega
   by_cases hlt:i<L.length
   .have hgi:=aE hlt;have cA:=Fa (lH {p with aL:=L3} (L.take i)) L[i] (by have:=hts i;omega) (by have:=b2 _ (gR hlt);omega);have hnext:=Oz i hlt;rw[<-hnext]at cA;have hK2:=hK1;simp only[bP,cH,cQ,eV,gS,cW,eA,sX,DP,nW,lQ]at hK1⊢;clear Oz h00 hnext hts;generalize hq1:lH {p with aL:=L3} (L.take i)=q at*;generalize hq2:lH {p with aL:=L3} (L.take (i+1))=q' at*;simp only[aH,aS]at cA;have W:=aA hi1 (aA hgi hlt);refine we ?_;refine hK2 _ ⟨i+1,by omega⟩ ?_ (by simp only;omega);simp only[hq2];exact W9 (q0:=q) (q:=q') rfl (by simp[nW,lQ]) (by simp[sQ]) (by simp[sQ]) (by simp) (by simp) (by simp)
   .have htk:L.take i=L:=eN (by omega);have hK2:=hK1;simp only[bP,cH,cQ,eV,gS,cW,eA,sX,DP,nW,lQ,htk]at hK1⊢;clear Oz h00 hts hK2 hK1;generalize lH {p with aL:=L3} L=q at*;have W:=aA hi1 hlt;refine we ?_;exact aO results49
  .rw [Bb hi hg hd];simp only[aH,aS]at c1 c2;refine dN aK func49 ntmps49 ?_;have W:=aA hk0 (aA hg (aA hd hk));refine we ?_;exact aO results49
theorem En[aG prog][fI prog][dG prog][qR prog]{n e s:Nat}(p:aF)(a:aR)(x:bG)(h:Rh n e s p)(hn:n+400*s+1445000<=500000000)(he:e+1400<=16777216)(Ju:20<=s)(aI1:s<=16777216)(ha:aW a<=500000000)(hx:dC x<=1048576):Ok prog 16 [.agg (aH .view p),.agg (aS a),.agg (bR x)] (.agg (aH .own (lS p a x))):=by have h1:=Ls a x h;have h2:=UH a x h1;have c1:=UE p a x (by have h5:=h.sz.1;have h6:=h.sl;omega) hx;have c2:=Nr (nK p a x) a x (by have:=h1.sz.1;omega) hx;have c3:=BN (kM (nK p a x) a x) h2 (by omega) he Ju aI1;unfold lS;generalize fD (kM (nK p a x) a x)=r at*;clear h1 h2 h;generalize kM (nK p a x) a x=q2 at*;generalize nK p a x=q1 at*;simp only[aH,aS,bR]at c1 c2 c3⊢;refine dN aK func16 ntmps16 ?_;refine bZ ?_;exact aO results16
theorem Cm(p:aF)(m:Int)(a b:bE)(n:Int):(gJ p m a b n).1.gZ=p.gZ:=by
 unfold gJ;split
 .rfl
 .split<;>rfl
theorem Wq(p:aF)(tx:bE):(addEntry p tx).gZ=p.gZ:=by
 unfold addEntry;split
 .rfl
 .exact (aBp p _).2.1
theorem ug(p:aF)(t:bM)(n:Int):(xC p t n).gZ=p.gZ:=by
 unfold xC;split
 .exact Cm ..
 .split
  .exact Cm ..
  .rfl
theorem UQ(p:aF)(k:Nat)(l:List pV):(pQ p k l).gZ=p.gZ:=by
 unfold pQ;split
 .split<;>rfl
 .split
  .exact Cm ..
  .split
   .exact Wq ..
   .exact Cm ..
theorem UR(p:aF):(iB p).1.gZ=p.gZ:=by
 unfold iB;split
 .rfl
 .split
  .simp only[iV];split
   .exact UQ ..
   .split
    .exact ug ..
    .rfl
  .rfl
theorem Gh(p:aF)(c:bE)(w:Bool):(gI p c w).gZ=p.gZ:=by unfold gI;split<;>rfl
theorem uh(p:aF)(b:aR):(kU p b).gZ=p.gZ:=by unfold kU;split<;>rfl
theorem Ns:∀(L:List aR) (p:aF),(L.foldl kU p).gZ=p.gZ
 |[],_=>rfl
 |b::L,p=>(Ns L (kU p b)).trans (uh p b)
theorem UT(p:aF)(a:aR):(nU p a).gZ=p.gZ:=by
 unfold nU;split
 .rfl
 .exact Ns _ p
theorem Rl(p:aF):(iC p).1.gZ=p.gZ:=by
 unfold iC;split
 .split
  .exact Gh p _ true
  .rfl
 .split
  .unfold xR;split
   .split
    .split
     .simp only;split
      .exact Gh ..
      .rfl
     .rfl
    .rfl
   .rfl
  .exact UR p
theorem Ws(p:aF):(iJ p).1.gZ=p.gZ:=by
 unfold iJ;split
 .split
  .split
   .unfold Ci;split
    .simp only;split
     .exact Gh ..
     .rfl
    .rfl
   .rfl
  .split
   .unfold Cj;split
    .exact UT ..
    .rfl
   .unfold Ck;split<;>rfl
 .rfl
theorem Zm(p:aF):(mD p).1.gZ=p.gZ:=by
 unfold mD;split
 .exact Rl p
 .exact Ws p
theorem ED:∀(n:Nat) (p:aF),(kX n p).gZ=p.gZ
 |0,_=>rfl
 |n+1,p=>by
  unfold kX;split
  .exact (ED n _).trans (Zm p)
  .rfl
theorem Qu(p:aF)(a:aR)(x:bG):∀k,(jJ p a x k).gZ=p.gZ
 |0=>rfl
 |k+1=>by
  have ih:=Qu p a x k;simp only[jJ];split
  .split
   .exact (XR _ _ _).2.2.trans ih
   .exact ih
  .exact ih
theorem Qv:∀(l:List aR) (p:aF),(lH p l).gZ=p.gZ
 |[],_=>rfl
 |b::l,p=>(Qv l (fF p b)).trans (aBp p b).2.1
theorem X0(p:aF)(a:aR)(x:bG):(kM p a x).gZ=p.gZ:=by
 rcases oL (mR a) p.aL with⟨hi,hf⟩|⟨k,hk,hi,hf⟩
 .rw [Ba hi]
 .have hg:=aE hk;cases hd:p.aL[k].done
  .rw [Cx hi hg hd];exact Qv _ _
  .rw [Bb hi hg hd]
theorem Rm(p:aF)(a:aR)(x:bG):(lS p a x).gZ=p.gZ:=
 (ED 2000 _).trans ((X0 _ a x).trans (Qu p a x _))
theorem Vp[aG prog]:Hf prog 46 [] (aO7 1300):=by
 refine EE aK func46 ntmps46 ?_;intro code i h hi hl;simp only[bH];refine bZ ?_;refine cu (mP 5) ?_;rintro _ i2 h2 ⟨x,rfl,x0,x1,x2⟩ hi2;simp only[AS.drew,AS.bW,bH,AS.put,aU,aN,gT,dM,gN,dI,gW,dL,cH,cQ,eE,eA,cW];have hx1:i64.wrap (1+x)=1+x:=by rw[wrap64]<;>omega
 have W:=hx1;refine wl ?_;refine cu (wh (1+x)) ?_;rintro _ i3 h3 ⟨y,rfl,hy⟩ hi3;simp only[AS.drew,AS.bW,bH,AS.put,aU,aN,gT,dM,gN,dI,gW,dL,cH,cQ,eE,eA,cW];simp only[bR,dC]at hy⊢;refine bZ ?_;refine cu (mP 12) ?_;rintro _ i4 h4 ⟨z,rfl,z0,z1,z2⟩ hi4;simp only[AS.drew,AS.bW,bH,AS.put,aU,aN,gT,dM,gN,dI,gW,dL,cH,cQ,eE,eA,cW];by_cases hz0:z=0
 .subst hz0;refine bZ ?_;refine oU (i:=3) (bY:=1) (by rfl) (by rfl) ?_ (by simp[AS.frozen,vK,uZ,tH,vY,aI.tH,aI.kill,lW,tJ,rt];rfl);refine cu (Bc [99,100,404,599,600] (by decide)) ?_;rintro _ i5 h5 ⟨v,hv,rfl⟩ hi5;simp only[AS.drew,AS.bW,bH,AS.put,aU,aN,gT,dM,gN,dI,gW,dL,cH,cQ,eE,eA,cW];refine bZ ?_;refine⟨.inr rfl,rW (by simp[results46];rfl) (by rfl) (by rfl) (by omega) (by simp) (by simp) ?_⟩;simp only[bX,res];exact⟨⟨v,y.kind,y.body,y.dm,y.shares,y.bO⟩,rfl,by simp only[dC];omega⟩
 .have:=hz0;by_cases hz1:z=1
  .subst hz1;refine bZ ?_;refine oU (i:=3) (bY:=1) (by rfl) (by rfl) ?_ (by simp[AS.frozen,vK,uZ,tH,vY,aI.tH,aI.kill,lW,tJ,rt];rfl);refine cu (Bc [0,6] (by decide)) ?_;rintro _ i5 h5 ⟨v,hv,rfl⟩ hi5;simp only[AS.drew,AS.bW,bH,AS.put,aU,aN,gT,dM,gN,dI,gW,dL,cH,cQ,eE,eA,cW];refine bZ ?_;refine⟨.inr rfl,rW (by simp[results46];rfl) (by rfl) (by rfl) (by omega) (by simp) (by simp) ?_⟩;simp only[bX,res];exact⟨⟨y.qQ,v,y.body,y.dm,y.shares,y.bO⟩,rfl,by simp only[dC];omega⟩
  .have:=hz1;by_cases hz2:z=2
   .subst hz2;refine bZ ?_;refine oU (i:=3) (bY:=1) (by rfl) (by rfl) ?_ (by simp[AS.frozen,vK,uZ,tH,vY,aI.tH,aI.kill,lW,tJ,rt];rfl);refine cu (Bc [-1,1000,1001] (by decide)) ?_;rintro _ i5 h5 ⟨v,hv,rfl⟩ hi5;simp only[AS.drew,AS.bW,bH,AS.put,aU,aN,gT,dM,gN,dI,gW,dL,cH,cQ,eE,eA,cW];refine bZ ?_;refine⟨.inr rfl,rW (by simp[results46];rfl) (by rfl) (by rfl) (by omega) (by simp) (by simp) ?_⟩;simp only[bX,res];exact⟨⟨y.qQ,y.kind,y.body,v,y.shares,y.bO⟩,rfl,by simp only[dC];omega⟩
   .have:=hz2;by_cases hz3:z=3
    .subst hz3;refine bZ ?_;refine oU (i:=3) (bY:=1) (by rfl) (by rfl) ?_ (by simp[AS.frozen,vK,uZ,tH,vY,aI.tH,aI.kill,lW,tJ,rt];rfl);refine cu (jK ([[120],[115,99,114,105,112,116,59,115,116,121,108,101,59,105,109,103]]:List bE) (by decide)) ?_;rintro _ i5 h5 ⟨s,hm,rfl⟩ hi5;simp only[AS.drew,AS.bW,bH,AS.put,aU,aN,gT,dM,gN,dI,gW,dL,cH,cQ,eE,eA,cW];have dF:=(by decide:∀s∈([[120],[115,99,114,105,112,116,59,115,116,121,108,101,59,105,109,103]]:List bE),s.length<=16) s hm;refine bZ ?_;refine⟨.inr rfl,rW (by simp[results46];rfl) (by rfl) (by rfl) (by omega) (by simp) (by simp) ?_⟩;simp only[bX,res];exact⟨⟨y.qQ,y.kind,y.body,y.dm,y.shares,s⟩,rfl,by simp only[dC];omega⟩
    .have:=hz3;by_cases hz4:z=4
     .subst hz4;refine bZ ?_;refine aT (ι:={s:bE // s.length<=630}) (λt o q=>⟨t,o.set 2 ⟨true,true,6,0,[[.int .i64 y.qQ,.int .i64 y.kind,.str q.1,.int .i64 y.dm,.bool y.shares,.str y.bO]]⟩⟩)
       (λq=>1000-q.1.length) ⟨y.body,by omega⟩ aP ?_
      rintro⟨s,hs⟩ K1 hK1;have hK2:=hK1;simp only[cH,cQ]at hK1⊢;clear hK1;by_cases hlt:s.length<400
      .have h1:(s.length:Int)<400:=by omega
       have h2:s.length+10<=6200:=by omega
       have W:=aA h1 h2;refine wl ?_;refine hK2 _ ⟨s++[48,49,50,51,52,53,54,55,56,57],by simp;omega⟩ ?_ (by simp only[eR,eL,fL];omega);exact aP (by simp) (by simp)
      .have h1:¬(s.length:Int)<400:=by omega
       have W:=h1;refine wl ?_;refine⟨.inr rfl,rW (by simp[results46];rfl) (by rfl) (by rfl) (by omega) (by simp) (by simp) ?_⟩;simp only[bX,res];exact⟨⟨y.qQ,y.kind,s,y.dm,y.shares,y.bO⟩,rfl,by simp only[dC];omega⟩
     .have:=hz4;have W:=aA hz0 (aA hz1 (aA hz2 (aA hz3 hz4)));refine wl ?_;refine⟨.inr rfl,rW (by simp[results46];rfl) (by rfl) (by rfl) (by omega) (by simp) (by simp) ?_⟩;simp only[bX,res];exact⟨y,rfl,by simp only[dC];omega⟩
end Go.Proofs.YtanobkmhbpjnpaaGreatDoor
