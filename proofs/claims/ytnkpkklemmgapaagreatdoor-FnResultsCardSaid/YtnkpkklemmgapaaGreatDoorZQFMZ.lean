/- Proved here: steps towards the statement of this claim. No condition. -/
import Derived.Test.YtnkpkklemmgapaaGreatDoorZQJ9
import Derived.Test.YtnkpkklemmgapaaGreatDoorZQSPP
set_option linter.all false
set_option maxRecDepth 8000
set_option maxHeartbeats 8000000
namespace Go.Proofs.YtnkpkklemmgapaaGreatDoor
open Go.Aw Proofs.Tryz List IntKind
structure RB(n e s:Nat)(q:aC): Prop where
  at_:jG q
  ga:mF q <= n
  en:wY q <= e
  sl:q.aF.length <= s
theorem RB.up{n e s n2 e2:Nat}{q:aC}(h:RB n e s q)(h1:n<=n2)(h2:e<=e2):RB n2 e2 s q:=⟨h.at_,kO h.ga h1,kO h.en h2,h.sl⟩
theorem RB.sz{n e s:Nat}{q:aC}(h:RB n e s q):aM q<=n/\bV bI q.aN+bV aP q.entries<=e:=by have h1:=h.ga;have h2:=h.en;have h3:=(Dr q).1;simp only[mF,wY]at h1 h2;omega
theorem yn{n e s:Nat}{q:aC}(h:RB n e s q)(hn:n<=500000000)(he:e<=16777216)(UB:20<=s):RB (n+721) e s (uF q).1:=by
 obtain⟨h1,h2⟩:=h.sz;have h3:Bu q (uF q).1:=by
  unfold uF;split
  .exact LM q (by omega) h.at_
  .exact Qw q (by omega) (by omega) h.at_
 obtain⟨g1,g2,g3,g4⟩:=h3;have h4:=h.ga;have h5:=h.en;have h6:=h.sl;exact⟨g1,by omega,by omega,by omega⟩
theorem yo{e s:Nat}(he:e<=16777216)(UB:20<=s):∀(m n:Nat) (q:aC),RB n e s q->n+721*m<=500000000->RB (n+721*m) e s (oZ m q)
 |0,n,q,h,_=>h.up (by omega) (eE _)
 |m+1,n,q,h,hk=>by
  unfold oZ;split
  .exact (yo he UB m (n+721) _ (yn h (by omega) he UB) (by omega)).up (by omega) (eE _)
  .exact h.up (by omega) (eE _)
theorem QD{n e s:Nat}{q:aC}(h:RB n e s q)(hn:n+1442000<=500000000)(he:e<=16777216)(UB:20<=s):RB (n+1442000) e s (advance q):=by have:=yo he UB 2000 n q h (by omega);exact this
theorem Sw(p:aC)(k:Int)(x:bE):(gY p k x).builder=p.builder/\(gY p k x).queue=p.queue/\(gY p k x).log=p.log/\(gY p k x).aN=p.aN/\(gY p k x).uI=p.uI/\(gY p k x).entries=p.entries:=by
 unfold gY;split
 .split
  .split<;>exact⟨rfl,rfl,rfl,rfl,rfl,rfl⟩
  .exact ⟨rfl,rfl,rfl,rfl,rfl,rfl⟩
 .exact ⟨rfl,rfl,rfl,rfl,rfl,rfl⟩
theorem Fp(p:aC)(a:aK)(x:bE):∀k,(iM p a x k).builder=p.builder/\(iM p a x k).queue=p.queue/\(iM p a x k).log=p.log/\(iM p a x k).aN=p.aN/\(iM p a x k).uI=p.uI/\(iM p a x k).entries=p.entries
 |0=>⟨rfl,rfl,rfl,rfl,rfl,rfl⟩
 |k+1=>by
  obtain⟨i1,i2,i3,i4,i5,i6⟩:=Fp p a x k;simp only[iM];split
  .split
   .obtain ⟨r1,r2,r3,r4,r5,r6⟩:=Sw (iM p a x k) k x;exact⟨r1.trans i1,r2.trans i2,r3.trans i3,r4.trans i4,r5.trans i5,r6.trans i6⟩
   .exact ⟨i1,i2,i3,i4,i5,i6⟩
  .exact ⟨i1,i2,i3,i4,i5,i6⟩
theorem QE{n e s:Nat}{p:aC}(a:aK)(x:bE)(h:RB n e s p):RB (n+400*s) e s (nT p a x):=by
 obtain⟨r1,r2,r3,r4,r5,r6⟩:=Fp p a x p.aF.length;have h1:=ny p a x;have h2:=YY p a x;have h3:=h.sl;have h4:p.aF.length*400<=400*s:=by omega
 change (nT p a x).builder=p.builder at r1;change (nT p a x).queue=p.queue at r2;change (nT p a x).log=p.log at r3;change (nT p a x).aN=p.aN at r4;change (nT p a x).uI=p.uI at r5;change (nT p a x).entries=p.entries at r6;refine⟨xR h.at_ r1 r2,?_,?_,by omega⟩
 .have:=h.ga;simp only[mF,IU,rH,r1,r3,r4,r5,r6,h2]at this⊢;omega
 .have:=h.en;simp only[wY,r4,r6]at this⊢;exact this
theorem UM{f:fO->Nat}:∀(l:List fO) (k:Nat) (hk:k<l.length) (m:fO),f m=f l[k]->bB f (l.set k m)=bB f l
 |x::l,0,hk,m,h=>by simp only[cJ,bB];simp only[getElem_cons_zero]at h;omega
 |x::l,k+1,hk,m,h=>by simp only[cH,bB];rw[UM l k (by simpa using hk) m (by simpa using h)]
theorem Na:∀(l:List aK) (p:aC),(∀b∈l,aP b<=16)->∃X,oH p l={p with aN:=X}/\bV bI X<=bV bI p.aN+l.length*17/\bB (qV p.uI) X<=bB (qV p.uI) p.aN+l.length*17
 |[],p,_=>⟨p.aN,rfl,by simp,by simp⟩
 |b::l,p,h=>by
  obtain⟨X,e1,h1,h2⟩:=Qs p b;have hb:=h b (by simp);obtain⟨Y,e2,h3,h4⟩:=Na l (fB p b) (λc hc=>h c (by simp[hc]));refine⟨Y,?_,?_,?_⟩
  .show oH (fB p b) l=_;rw[e2,e1]
  .rw [e1]at h3;simp only[dT]at h3⊢;omega
  .rw [e1]at h4;simp only[dT]at h4⊢;omega
theorem Ze{n e s:Nat}{p:aC}(a:aK)(x:bE)(h:RB n e s p):RB (n+2800) (e+1400) s (kV p a x):=by
 rcases qP (mP a) p.aN with⟨hi,hf⟩|⟨k,hk,hi,hf⟩
 .rw [Dv hi];exact h.up (by omega) (by omega)
 .have hg:=aE hk;cases hd:p.aN[k].done
  .rw [Gg hi hg hd];have Ef:=MZ (x:=x) hi hk hf;have hqs:=yj p k hk x;have hub:=Gf p.bM (jN p p.aN[k]) x;have b1:(jO {p with aN:=p.aN.set k (kU p p.aN[k] x)} a).length<=57:=by
    rw[QC Ef];split
    .obtain ⟨h1,_,h3⟩:=wR (kU p p.aN[k] x).body a.host;have h4:(kU p p.aN[k] x).body.length<=400:=hub;omega
    .simp
   obtain⟨X,e1,h1,h2⟩:=Na (jO {p with aN:=p.aN.set k (kU p p.aN[k] x)} a) {p with aN:=p.aN.set k (kU p p.aN[k] x)} (aD3 _ _);have hu:bB (qV p.uI) (p.aN.set k (kU p p.aN[k] x))=bB (qV p.uI) p.aN:=UM _ _ hk _ rfl;unfold Kz;generalize (jO {p with aN:=p.aN.set k (kU p p.aN[k] x)} a).length=c at*;rw[e1];simp only at h1 h2;rw[hu]at h2;have hc:c*17<=969:=by have:=pT 17 b1;omega
   have hm:bV bI (p.aN.set k (kU p p.aN[k] x))<=bV bI p.aN+400:=by simp only[aM]at hqs;omega
   have h3:=h.ga;have h4:=h.en;refine⟨h.at_,?_,?_,h.sl⟩
   .simp only[mF,IU,rH,aM]at h3⊢;omega
   .simp only[wY]at h4⊢;omega
  .rw [Dw hi hg hd];exact h.up (by omega) (by omega)
def qA(p:aC)(a:aK)(x:bE):aC:=advance (kV (nT p a x) a x)
theorem M9{n e s:Nat}{p:aC}(a:aK)(x:bE)(h:RB n e s p)(hn:n+400*s+1445000<=500000000)(he:e+1400<=16777216)(UB:20<=s):RB (n+400*s+1445000) (e+1400) s (qA p a x):=by have h1:=QE a x h;have h2:=Ze a x h1;have h3:=QD h2 (by omega) he UB;unfold qA;exact h3.up (by omega) (by omega)
theorem aD4{p:aC}(hs:aM p<=10000)(h1:p.aN=[])(h2:p.aF=[])(h3:p.entries=[]):RB 21000000 680 20 p:=by
 have Us:jG p:=by
  constructor
  .intro nd hn;have h1:=dS gK hn;simp only[aM,aS,bV,gK]at hs h1;omega
  .intro t ht;have h1:=dS dR ht;simp only[aM,bV,dR]at hs h1;omega
 have hp:=(Dr p).2;refine⟨Us,?_,?_,by rw[h2];simp⟩
 .simp only[mF,rH,h1,h2,h3,bB,eR];omega
 .simp only[wY,h1,h3,bV,bB,eR];omega
def oN:List (Nat×Nat):=[(4,18),(5,19),(6,20),(7,21),(8,22),(9,23),(10,24),(11,25),(12,26),(13,27),(14,28)]
theorem oh{t t':List AV}{o o':List aD}{o0 o1 o2 o3 m0 m1:aD}{q0 q:aC}(ho:o=[o0,o1,o2,o3]++rU q0++[⟨true,true,22,0,[oG 18 q]⟩,m0,m1]++rU q)(ho':o'=[o0,o1,o2,o3]++rU q++[⟨true,true,22,0,[oG 4 q]⟩,m0,m1])
  (ht:∀z∈oN,wk (sQ z.1 z.2 t') t') (hf:∀z∈oN,o0.qO z.1 z.2=o0/\o1.qO z.1 z.2=o1/\o2.qO z.1 z.2=o2/\o3.qO z.1 z.2=o3/\m0.qO z.1 z.2=m0/\m1.qO z.1 z.2=m1) (hw:wk t t') (hc:gH 18 t'=true) (hc0:fI 18 [o0,o1,o2,o3,m0,m1]=true):kY ⟨t,o⟩ ⟨t',o'⟩:=by
 subst ho;subst ho';have e:=λi j (h:(i,j)∈oN)=>hf (i,j) h
 have h:=λi j (h:(i,j)∈oN)=>ht (i,j) h
 simp only[rU,oG,cW,cY];refine(Ag hw).trans ?_;refine(bK 4 18 rfl rfl ⟨rfl,rfl⟩ (by simp[(e 4 18 (by decide))];rfl) (h 4 18 (by decide))).trans ?_;refine(bK 5 19 rfl rfl ⟨rfl,rfl⟩ (by simp[(e 5 19 (by decide))];rfl) (h 5 19 (by decide))).trans ?_;refine(bK 6 20 rfl rfl ⟨rfl,rfl⟩ (by simp[(e 6 20 (by decide))];rfl) (h 6 20 (by decide))).trans ?_;refine(bK 7 21 rfl rfl ⟨rfl,rfl⟩ (by simp[(e 7 21 (by decide))];rfl) (h 7 21 (by decide))).trans ?_;refine(bK 8 22 rfl rfl ⟨rfl,rfl⟩ (by simp[(e 8 22 (by decide))];rfl) (h 8 22 (by decide))).trans ?_;refine(bK 9 23 rfl rfl ⟨rfl,rfl⟩ (by simp[(e 9 23 (by decide))];rfl) (h 9 23 (by decide))).trans ?_;refine(bK 10 24 rfl rfl ⟨rfl,rfl⟩ (by simp[(e 10 24 (by decide))];rfl) (h 10 24 (by decide))).trans ?_;refine(bK 11 25 rfl rfl ⟨rfl,rfl⟩ (by simp[(e 11 25 (by decide))];rfl) (h 11 25 (by decide))).trans ?_;refine(bK 12 26 rfl rfl ⟨rfl,rfl⟩ (by simp[(e 12 26 (by decide))];rfl) (h 12 26 (by decide))).trans ?_;refine(bK 13 27 rfl rfl ⟨rfl,rfl⟩ (by simp[(e 13 27 (by decide))];rfl) (h 13 27 (by decide))).trans ?_;refine(bK 14 28 rfl rfl ⟨rfl,rfl⟩ (by simp[(e 14 28 (by decide))];rfl) (h 14 28 (by decide))).trans ?_;refine aL 18 (by simp) (mR _) hc ?_;simpa [fI,gH,closed]using hc0
theorem NV[aB prog][dY prog][eO prog](p:aC)(a:aK)(hps:aM p<=1073741824)(hha:a.host.length<=1073741824):Ok prog 160 [.agg (aQ .view p),.agg (bC a)] (.iP [.sl .own 2 ((jO p a).map bC),.bool (qR p a)]):=by
 simp only[aM,bV]at hps;have c2:=yO p a (by omega);unfold jO qR;rcases qP (mP a) p.aN with⟨hi,hf⟩|⟨k,hk,hi,hf⟩
 .rw [hf];rw[hi]at c2;simp only[bC,aQ]at c2;refine dL aO func160 ntmps160 ?_;refine dH ?_;exact aR results160
 .rw [hf];rw[hi]at c2;have hm:=hI hk;have hz:=dS bI hm;have hg:=aE hk;simp only[bI,aP]at hz;have cp:=vK p.aN[k].body a.host (by omega) hha;simp only[bC,aQ]at c2;simp only;generalize bL p.aN[k].body a.host=w at*;obtain⟨w1,w2,w3⟩:=w;simp only at cp;have hk0:¬((k:Nat):Int)<0:=by omega
  cases hd1:p.aN[k].done
  .refine dL aO func160 ntmps160 ?_;have W:=aA hk0 (aA hg (aA hk hd1));refine we ?_;exact aR results160
  .by_cases hd2:p.aN[k].code=1
   .simp only[hd2,and_self,eV];refine dL aO func160 ntmps160 ?_;have W:=aA hk0 (aA hg (aA hk (aA hd1 hd2)));refine we ?_;exact aR results160
   .simp only[hd2,and_false,eS];refine dL aO func160 ntmps160 ?_;have W:=aA hk0 (aA hg (aA hk (aA hd1 hd2)));refine we ?_;exact aR results160
theorem KC[aB prog][dY prog][eO prog](p:aC)(a:aK)(x:bE)(hs:aM p<=536870912/\aP a<=536870912)(hx:dE x<=1048576):Ok prog 112 [.agg (aQ .view p),.agg (bC a),.agg (cZ x)] (.agg (aQ .own (kV p a x))):=by
 have hs1:=hs.1;have hml:p.aN.length<=536870912:=by simp only[aM,bV]at hs1;omega
 have Yt:gF p.bM<=274877906944:=by simp only[aM]at hs1;omega
 have c1:=fQ p (by omega);have c2:=yO p a (by omega);rcases qP (mP a) p.aN with⟨hi,hf⟩|⟨k,hk,hi,hf⟩
 .rw [Dv hi];rw[hi]at c2;simp only[aQ,bC]at c1 c2;refine dL aO func112 ntmps112 ?_;refine dH ?_;exact aR results112
 .have hg:=aE hk;rw[hi]at c2;have hk0:¬((k:Nat):Int)<0:=by omega
  cases hd:p.aN[k].done
  .rw [Gg hi hg hd];have cR:=Bq p k (by omega) (by omega) (by omega);have e:Au p (k:Int)=jN p p.aN[k]:=by simp[Au,hg]
   rw[e]at cR;have hrq:qK (jN p p.aN[k])<=1073741824:=by have hm:=dS bI (hI hk);simp only[bI]at hm;simp only[qK,jN,eR];simp only[aM,bV,aP]at hs1 hm⊢;omega
   have c3:=tO p.bM (jN p p.aN[k]) x Yt (by omega) hx;have c4:=BC p.bM (jN p p.aN[k]) x Yt (by omega) hx;simp only[aQ,gW]at cR;simp only[dK,gW,cZ]at c3 c4;simp only[aQ,bC]at c1 c2;clear e;have Ef:=MZ (x:=x) hi hk hf;have hqs:=yj p k hk x;have hub:=Gf p.bM (jN p p.aN[k]) x;have hset:(p.aN.map lT).set k [.str p.aN[k].to.host,.str p.aN[k].to.path,.bool true,.int .i64 (gZ p.bM (jN p p.aN[k]) x),.str (nQ p.bM (jN p p.aN[k]) x)]=(p.aN.set k (kU p p.aN[k] x)).map lT:=by rw[map_set];rfl
   have hg3:(p.aN.set k (kU p p.aN[k] x))[k]? =some (kU p p.aN[k] x):=by rw[lR hk]
   unfold Kz;have hfm:(kU p p.aN[k] x).done=true/\(kU p p.aN[k] x).code=gZ p.bM (jN p p.aN[k]) x/\(kU p p.aN[k] x).body=nQ p.bM (jN p p.aN[k]) x:=⟨rfl,rfl,rfl⟩;have hl3:(p.aN.set k (kU p p.aN[k] x)).length=p.aN.length:=by simp
   generalize gZ p.bM (jN p p.aN[k]) x=c at*;generalize nQ p.bM (jN p p.aN[k]) x=y at*;generalize jN p p.aN[k]=rq at*;generalize kU p p.aN[k] x=m3 at*;generalize p.aN.set k m3=L3 at*;obtain⟨f1,f2,f3⟩:=hfm;have aTy:k<L3.length:=by omega
   have e3:∀h,(L3[k]'h)=m3:=λh=>by rw[aE h]at hg3;exact cU hg3
   obtain⟨b1,b2⟩:=Zc (q:={p with aN:=L3}) Ef (by rw[f3];exact hub);have cI:=NV {p with aN:=L3} a (by omega) (by simp only[aP]at hs;omega);generalize jO {p with aN:=L3} a=L at*;generalize qR {p with aN:=L3} a=ok at*;simp only[aQ,bC]at cI;refine dL aO func112 ntmps112 ?_;have W:=aA hk0 (aA hg (aA hd (aA hk (aA hset (aA aTy (aA e3 (aA f1 (aA f2 f3))))))));refine we ?_;have hq0:aM {p with aN:=L3}<=536871424:=by omega
   have hts:=Zd hq0 b1 b2;have ZO:=λi (h:i<L.length)=>show oH {p with aN:=L3} (L.take (i+1))=fB (oH {p with aN:=L3} (L.take i)) L[i]by rw[eL h,Za]
   have h00:oH {p with aN:=L3} (L.take 0)={p with aN:=L3}:=by simp[oH]
   have hall:L.length<=1099511627776:=by omega
   refine aI (ι:={k:Nat // k<=L.length}) (λt o i=>⟨bH t [(12,.int .i64 i.1),(14,.undef),(33,.undef),(35,.undef),(36,.undef),(38,.undef),(45,.undef),(46,.undef),(49,.undef),(58,.undef),(59,.undef),(61,.undef)],o.take 4++rU (oH {p with aN:=L3} (L.take i.1))++[⟨true,true,22,0,[oG 4 (oH {p with aN:=L3} (L.take i.1))]⟩]++o.drop 16⟩)
    (λi=>L.length-i.1) ⟨0,by simp⟩ (aG (by simp only[h00];simp[rU,oG]) (by simp)) ?_
   rintro⟨i,hi2⟩ K1 hK1;have hi1:i64.wrap ((i:Int)+1)=((i+1:Nat):Int):=by rw[wrap64]<;>omega
   by_cases hlt:i<L.length
   .have hgi:=aE hlt;have cA:=Ct (oH {p with aN:=L3} (L.take i)) L[i] (by have:=hts i;omega) (by have:=b2 _ (hI hlt);omega);have hnext:=ZO i hlt;rw[<-hnext]at cA;have hK2:=hK1;simp only[bH,cH,cJ,fL,lE,cW,cY,vA,DH,rU,oG]at hK1⊢;clear ZO h00 hnext hts;generalize hq1:oH {p with aN:=L3} (L.take i)=q at*;generalize hq2:oH {p with aN:=L3} (L.take (i+1))=q' at*;simp only[aQ,bC]at cA;have W:=aA hi1 (aA hgi hlt);refine we ?_;refine hK2 _ ⟨i+1,by omega⟩ ?_ (by simp only;omega);simp only[hq2];exact oh (q0:=q) (q:=q') rfl (by simp[rU,oG]) (by simp[oN]) (by simp[oN]) (by simp) (by simp) (by simp)
   .have htk:L.take i=L:=eJ (by omega);have hK2:=hK1;simp only[bH,cH,cJ,fL,lE,cW,cY,vA,DH,rU,oG,htk]at hK1⊢;clear ZO h00 hts hK2 hK1;generalize oH {p with aN:=L3} L=q at*;have W:=aA hi1 hlt;refine we ?_;exact aR results112
  .rw [Dw hi hg hd];simp only[aQ,bC]at c1 c2;refine dL aO func112 ntmps112 ?_;have W:=aA hk0 (aA hg (aA hd hk));refine we ?_;exact aR results112
theorem zV(p:aC)(m:Int)(a b:aU)(n:Int):(gN p m a b n).1.addr=p.addr:=by
 unfold gN;split
 .rfl
 .split<;>rfl
theorem SA(p:aC)(tx:aU):(addEntry p tx).addr=p.addr:=by
 unfold addEntry;split
 .rfl
 .exact (ym p _).2.1
theorem Zf(p:aC)(t:bU)(n:Int):(Av p t n).addr=p.addr:=by
 unfold Av;split
 .exact zV ..
 .split
  .exact zV ..
  .rfl
theorem QJ(p:aC)(k:Nat)(l:List nY):(rZ p k l).addr=p.addr:=by
 unfold rZ;split
 .split<;>rfl
 .split
  .exact zV ..
  .split
   .exact SA ..
   .exact zV ..
theorem QK(p:aC):(kX p).1.addr=p.addr:=by
 unfold kX;split
 .rfl
 .split
  .simp only[mW];split
   .exact QJ ..
   .split
    .exact Zf ..
    .rfl
  .rfl
theorem Dx(p:aC)(c:aU)(w:Bool):(lU p c w).addr=p.addr:=by unfold lU;split<;>rfl
theorem Zg(p:aC)(b:aK):(nP p b).addr=p.addr:=by unfold nP;split<;>rfl
theorem KE:∀(L:List aK) (p:aC),(L.foldl nP p).addr=p.addr
 |[],_=>rfl
 |b::L,p=>(KE L (nP p b)).trans (Zg p b)
theorem QL(p:aC)(a:aK):(oM p a).addr=p.addr:=by
 unfold oM;split
 .rfl
 .exact KE _ p
theorem NW(p:aC):(kR p).1.addr=p.addr:=by
 unfold kR;split
 .split
  .exact Dx p _ true
  .rfl
 .split
  .unfold Aa;split
   .split
    .split
     .simp only;split
      .exact Dx ..
      .rfl
     .rfl
    .rfl
   .rfl
  .exact QK p
theorem SB(p:aC):(qU p).1.addr=p.addr:=by
 unfold qU;split
 .split
  .split
   .unfold Kr;split
    .simp only;split
     .exact Dx ..
     .rfl
    .rfl
   .rfl
  .split
   .unfold Kt;split
    .exact QL ..
    .rfl
   .unfold Ku;split<;>rfl
 .rfl
theorem VW(p:aC):(uF p).1.addr=p.addr:=by
 unfold uF;split
 .exact NW p
 .exact SB p
theorem BS:∀(n:Nat) (p:aC),(oZ n p).addr=p.addr
 |0,_=>rfl
 |n+1,p=>by
  unfold oZ;split
  .exact (BS n _).trans (VW p)
  .rfl
theorem Nb(p:aC)(a:aK)(x:bE):∀k,(iM p a x k).addr=p.addr
 |0=>rfl
 |k+1=>by
  have ih:=Nb p a x k;simp only[iM];split
  .split
   .exact (UL _ _ _).2.2.trans ih
   .exact ih
  .exact ih
theorem Nc:∀(l:List aK) (p:aC),(oH p l).addr=p.addr
 |[],_=>rfl
 |b::l,p=>(Nc l (fB p b)).trans (ym p b).2.1
theorem oo(p:aC)(a:aK)(x:bE):(kV p a x).addr=p.addr:=by
 rcases qP (mP a) p.aN with⟨hi,hf⟩|⟨k,hk,hi,hf⟩
 .rw [Dv hi]
 .have hg:=aE hk;cases hd:p.aN[k].done
  .rw [Gg hi hg hd];exact Nc _ _
  .rw [Dw hi hg hd]
theorem NY(p:aC)(a:aK)(x:bE):(qA p a x).addr=p.addr:=
 (BS 2000 _).trans ((oo _ a x).trans (Nb p a x _))
theorem Nf(b:aY)(m:aU):∀k,∀x∈oW b m k,x∈b.opens
 |0,x,h=>h
 |k+1,x,h=>by
  unfold oW at h;split at h
  .exact pC h
  .exact Nf b m k x h
theorem aIi{b:aY}(t:bU)(h:Fs b):Fs (addToken b t).1:=by
 unfold addToken;split
 .exact ⟨h.len,h.rg.1,λy hy=>h.rg.2 y (Nf _ _ _ _ hy)⟩
 .split
  .exact h
  .split
   .exact h
   .rename_i hf;have hl:b.nodes.length<40:=by
     by_cases hh:40<=b.nodes.length
     .exact (hf (.inl hh)).elim
     .omega
    have hp:Sd (b.opens.getLastD 0):=by
     rw[getLastD_eq_getLast?];cases hg:b.opens.getLast? with
     |none=>exact QM
     |some x=>exact h.rg.2 x (mem_of_getLast? hg)
    refine⟨by simp only[eM,As];omega,?_,?_⟩
    .intro y hy;rcases fS.1 hy with hy|hy
     .exact h.rg.1 y hy
     .simp only[nF]at hy;subst hy;unfold ED vD;split<;>exact hp
    .intro y hy;simp only at hy;split at hy
     .rcases fS.1 hy with hy|hy
      .exact h.rg.2 y hy
      .simp only[nF]at hy;subst hy;exact aIg (by omega)
     .exact h.rg.2 y hy
theorem aEb{b:aY}(ss:List bW)(x:kZ)(h:Fs b):Fs (eH b ss x).1:=by
 unfold eH;split
 .exact h
 .split
  .split
   .rename_i hn;refine⟨by simp only[eM,As];omega,?_,h.rg.2⟩;intro y hy;rcases fS.1 hy with hy|hy
    .exact h.rg.1 y hy
    .simp only[nF]at hy;subst hy;exact QM
   .exact h
  .split
   .exact h
   .split
    .exact h
    .split<;>exact h
theorem ou{b:aY}(ss:List bW)(l:List kZ)(h:Fs b):Fs (fP b ss l).1:=by
 have key:∀(l:List kZ) (s:aY×aU×List aU),Fs s.1->Fs (l.foldl (qF ss) s).1:=by
  intro l;induction l with
  |nil=>intro s h;exact h
  |cons x l ih=>intro s h;exact ih (qF ss s x) (aEb ss x h)
 exact key l (b,[],[]) h
theorem yt{p:aC}(l:List kZ)(w:Bool)(h:Fs p.builder):Fs (lJ p l w).builder:=ou _ _ h
theorem QN{p:aC}(c:aU)(w:Bool)(h:Fs p.builder):Fs (lU p c w).builder:=by
 unfold lU;split
 .exact yt _ _ h
 .exact h
theorem Gh(p:aC)(m:Int)(a b:aU)(n:Int):(gN p m a b n).1.builder=p.builder:=by
 unfold gN;split
 .rfl
 .split<;>rfl
theorem aEc(p:aC)(t:bU)(n:Int):(Av p t n).builder=p.builder:=by
 unfold Av;split
 .exact Gh ..
 .split
  .exact Gh ..
  .rfl
theorem Zh(p:aC)(k:Nat)(l:List nY):(rZ p k l).builder=p.builder:=by
 unfold rZ;split
 .split<;>rfl
 .split
  .exact Gh ..
  .split
   .exact (Fe _ _).2.2.2.1
   .exact Gh ..
theorem O3(p:aC)(t:bU)(q:List bU):(mW p t q).builder=(addToken p.builder t).1:=by
 unfold mW;split
 .exact Zh ..
 .split
  .exact aEc ..
  .rfl
theorem aEd{p:aC}(h:Fs p.builder):Fs (kX p).1.builder:=by
 unfold kX;split
 .exact h
 .split
  .rw [O3];exact aIi _ h
  .exact h
theorem ow{p:aC}(h:Fs p.builder):Fs (kR p).1.builder:=by
 unfold kR;split
 .split
  .exact QN (p:=p) _ _ h
  .exact h
 .split
  .unfold Aa;split
   .split
    .split
     .simp only;split
      .exact QN (p:=p) _ _ h
      .exact h
     .exact h
    .exact h
   .exact h
  .exact aEd h
theorem aIj{q:aC}(b:aK)(h:Fs q.builder):Fs (nP q b).builder:=by
 unfold nP;split
 .exact h
 .exact yt (p:={q with uI:=q.uI++[b]}) _ _ h
theorem aEe{p:aC}(L:List aK)(h:Fs p.builder):∀k,Fs (jR p L k).builder:=by
 have key:∀(l:List aK) (q:aC),Fs q.builder->Fs (l.foldl nP q).builder:=by
  intro l;induction l with
  |nil=>intro q h;exact h
  |cons x l ih=>intro q h;exact ih _ (aIj x h)
 exact λk=>key _ _ h
theorem aEf{p:aC}(h:Fs p.builder):Fs (qU p).1.builder:=by
 unfold qU;split
 .split
  .split
   .unfold Kr;split
    .simp only;split
     .exact QN (p:=p) _ _ h
     .exact h
    .exact h
   .exact h
  .split
   .unfold Kt;split
    .simp only;unfold oM;split
     .exact h
     .exact aEe _ h _
    .exact h
   .unfold Ku;split<;>exact h
 .exact h
theorem aIk{p:aC}(h:Fs p.builder):Fs (uF p).1.builder:=by
 unfold uF;split
 .exact ow h
 .exact aEf h
theorem QO:∀(n:Nat) {p:aC},Fs p.builder->Fs (oZ n p).builder
 |0,_,h=>h
 |n+1,p,h=>by
  unfold oZ;split
  .exact QO n (aIk h)
  .exact h
theorem aEg(p:aC)(a:aK):(fB p a).builder=p.builder:=by obtain⟨X,e,_⟩:=Qs p a;rw[e]
theorem aIl(p:aC)(a:aK)(x:bE):(kV p a x).builder=p.builder:=by
 have key:∀(l:List aK) (q:aC),(oH q l).builder=q.builder:=by
  intro l;induction l with
  |nil=>intro q;rfl
  |cons y l ih=>intro q;exact(ih (fB q y)).trans (aEg q y)
 rcases qP (mP a) p.aN with⟨hi,hf⟩|⟨k,hk,hi,hf⟩
 .rw [Dv hi]
 .have hg:=aE hk;cases hd:p.aN[k].done
  .rw [Gg hi hg hd];unfold Kz;rw[key]
  .rw [Dw hi hg hd]
theorem oz{p:aC}(a:aK)(x:bE)(h:Fs p.builder):Fs (qA p a x).builder:=by unfold qA advance;refine QO 2000 ?_;rw[aIl];have e:(nT p a x).builder=p.builder:=(Fp p a x p.aF.length).1;rw[e];exact h
end Go.Proofs.YtnkpkklemmgapaaGreatDoor
