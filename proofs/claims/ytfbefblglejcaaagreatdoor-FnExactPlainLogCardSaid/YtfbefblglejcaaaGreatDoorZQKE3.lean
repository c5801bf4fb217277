/- Proved here: steps towards the statement of this claim. No condition. -/
import Derived.Test.YtfbefblglejcaaaGreatDoorZKE2
import Derived.Test.YtfbefblglejcaaaGreatDoorZQCTK
set_option linter.all false
set_option maxRecDepth 4000
set_option maxHeartbeats 4000000
namespace Go.Proofs.YtfbefblglejcaaaGreatDoor
open Go.Aw Proofs.Tryz List IntKind
theorem Jp[aC prog][bP prog]{N:Nat}(n:lW)(top:bB)(a:aK)(hn:NG N n)(hN:N<=206158430208)(ht:top.length+aR a<=17179869184):Ok prog 43 [.agg (mY .view n),.str top,.agg (aL a),.bool false] (.gT [.agg (mY .own (jW n top a)),.agg (bF (eZ n top a))]):=by
 have hs:=hn.sz;have c1:=Sr n (by omega);have c2:=rQ a (by omega);have c3:=AL;have hk:=V6 hn top a;have hx:=kO (Bl n.gD a) hn.srv;have c6:=MH (yM n top a) top a (sO n.gD a) (by have:=hk.sz;omega) hk.ca hx (by omega);simp only[lX,nP,bQ]at hs;have c4:=Ja n.cache top a n.now (by omega);have c5:=PN n.gD a (by simp only[bQ];omega);unfold jW eZ;generalize hm:yM n top a=m at*;simp only[mY]at c1 c6;simp only[aL]at c2 c4 c5 c6;simp only[bF]at c3 c4 c5 c6;simp only[gU]at c4;generalize oZ a=b at*;generalize xA n.cache top a n.now=q at*;generalize sO n.gD a=y at*;generalize CW m top a y=z at*;obtain⟨x,ok⟩:=q;simp only at c4;clear hk hx hn;cases b
 .refine xU aF func43 ntmps43 ?_;refine aY ?_;all_goals (try first|(refine aQ (.inl ?_);simp[aP,results43,notFound];done)|(refine aQ (.inr (dN ?_));simp[AS.yK,AS.wT,AS.rv,results43,notFound]))
 .cases ok
  .unfold yM at hm;by_cases h4:n.log.length<400
   .have h4':(n.log.length:Int)<400:=by omega
    rw[eK h4]at hm;obtain⟨l0,hl0⟩:∃l:List yD,l=n.log++[⟨top,a,false⟩]:=⟨_,rfl⟩;have hap:n.log.map mJ++[[.str top,.str a.host,.str a.path,.bool false]]=l0.map mJ:=by rw[hl0];simp
    rw[<-hl0]at hm;clear hl0;subst hm;simp only at c6;refine xU aF func43 ntmps43 ?_;have W:=aA h4 (aA h4' hap);refine we ?_;all_goals (try exact Gm results43)
   .have h4':¬(n.log.length:Int)<400:=by omega
    rw[cX h4]at hm;subst hm;refine xU aF func43 ntmps43 ?_;have W:=aA h4 h4';refine we ?_;all_goals (try exact Gm results43)
  .refine xU aF func43 ntmps43 ?_;refine aY ?_;all_goals (try exact Gm results43)
theorem Jq[aC prog][bP prog]{N:Nat}(n:lW)(top:bB)(a:aK)(hn:NG N n)(hN:N<=206158430208)(ht:top.length+aR a<=17179869184):Ok prog 33 [.agg (mY .view n),.str top,.agg (aL a),.bool false] (.gT [.agg (mY .own (jW n top a)),.agg (bF (eZ n top a))]):=by
 have hs:=hn.sz;have c1:=Su n (by omega);have c2:=rP a (by omega);have c3:=AO;have hk:=V6 hn top a;have hx:=kO (Bl n.gD a) hn.srv;have c6:=MI (yM n top a) top a (sO n.gD a) (by have:=hk.sz;omega) hk.ca hx (by omega);simp only[lX,nP,bQ]at hs;have c4:=Jc n.cache top a n.now (by omega);have c5:=PM n.gD a (by simp only[bQ];omega);unfold jW eZ;generalize hm:yM n top a=m at*;simp only[mY]at c1 c6;simp only[aL]at c2 c4 c5 c6;simp only[bF]at c3 c4 c5 c6;simp only[gU]at c4;generalize oZ a=b at*;generalize xA n.cache top a n.now=q at*;generalize sO n.gD a=y at*;generalize CW m top a y=z at*;obtain⟨x,ok⟩:=q;simp only at c4;clear hk hx hn;cases b
 .refine xU aF func33 ntmps33 ?_;refine aY ?_;all_goals (try first|(refine aQ (.inl ?_);simp[aP,results33,notFound];done)|(refine aQ (.inr (dN ?_));simp[AS.yK,AS.wT,AS.rv,results33,notFound]))
 .cases ok
  .unfold yM at hm;by_cases h4:n.log.length<400
   .have h4':(n.log.length:Int)<400:=by omega
    rw[eK h4]at hm;obtain⟨l0,hl0⟩:∃l:List yD,l=n.log++[⟨top,a,false⟩]:=⟨_,rfl⟩;have hap:n.log.map mJ++[[.str top,.str a.host,.str a.path,.bool false]]=l0.map mJ:=by rw[hl0];simp
    rw[<-hl0]at hm;clear hl0;subst hm;simp only at c6;refine xU aF func33 ntmps33 ?_;have W:=aA h4 (aA h4' hap);refine we ?_;all_goals (try exact Gm results33)
   .have h4':¬(n.log.length:Int)<400:=by omega
    rw[cX h4]at hm;subst hm;refine xU aF func33 ntmps33 ?_;have W:=aA h4 h4';refine we ?_;all_goals (try exact Gm results33)
  .refine xU aF func33 ntmps33 ?_;refine aY ?_;all_goals (try exact Gm results33)
def qU:List (Nat×Nat):=[(4,18),(5,19),(6,20),(7,21),(8,22),(9,23),(10,24),(11,25),(12,26),(13,27),(14,28)]
theorem F7{t t':List AV}{o o':List aM}{o0 o1 o2 o3 m0 m1:aM}{q0 q:aG}(ho:o=[o0,o1,o2,o3]++lQ q0++[⟨true,true,22,0,[jG 18 q]⟩,m0,m1]++lQ q)(ho':o'=[o0,o1,o2,o3]++lQ q++[⟨true,true,22,0,[jG 4 q]⟩,m0,m1])
  (ht:∀z∈qU,wk (rD z.1 z.2 t') t') (hf:∀z∈qU,o0.lL z.1 z.2=o0/\o1.lL z.1 z.2=o1/\o2.lL z.1 z.2=o2/\o3.lL z.1 z.2=o3/\m0.lL z.1 z.2=m0/\m1.lL z.1 z.2=m1) (hw:wk t t') (hc:eT 18 t'=true) (hc0:dC 18 [o0,o1,o2,o3,m0,m1]=true):lY ⟨t,o⟩ ⟨t',o'⟩:=by
 subst ho;subst ho';have e:=λi j (h:(i,j)∈qU)=>hf (i,j) h
 have h:=λi j (h:(i,j)∈qU)=>ht (i,j) h
 simp only[lQ,jG,eA,eM];refine(wF hw).trans ?_;refine(aS 4 18 rfl rfl ⟨rfl,rfl⟩ (by simp[(e 4 18 (by decide))];rfl) (h 4 18 (by decide))).trans ?_;refine(aS 5 19 rfl rfl ⟨rfl,rfl⟩ (by simp[(e 5 19 (by decide))];rfl) (h 5 19 (by decide))).trans ?_;refine(aS 6 20 rfl rfl ⟨rfl,rfl⟩ (by simp[(e 6 20 (by decide))];rfl) (h 6 20 (by decide))).trans ?_;refine(aS 7 21 rfl rfl ⟨rfl,rfl⟩ (by simp[(e 7 21 (by decide))];rfl) (h 7 21 (by decide))).trans ?_;refine(aS 8 22 rfl rfl ⟨rfl,rfl⟩ (by simp[(e 8 22 (by decide))];rfl) (h 8 22 (by decide))).trans ?_;refine(aS 9 23 rfl rfl ⟨rfl,rfl⟩ (by simp[(e 9 23 (by decide))];rfl) (h 9 23 (by decide))).trans ?_;refine(aS 10 24 rfl rfl ⟨rfl,rfl⟩ (by simp[(e 10 24 (by decide))];rfl) (h 10 24 (by decide))).trans ?_;refine(aS 11 25 rfl rfl ⟨rfl,rfl⟩ (by simp[(e 11 25 (by decide))];rfl) (h 11 25 (by decide))).trans ?_;refine(aS 12 26 rfl rfl ⟨rfl,rfl⟩ (by simp[(e 12 26 (by decide))];rfl) (h 12 26 (by decide))).trans ?_;refine(aS 13 27 rfl rfl ⟨rfl,rfl⟩ (by simp[(e 13 27 (by decide))];rfl) (h 13 27 (by decide))).trans ?_;refine(aS 14 28 rfl rfl ⟨rfl,rfl⟩ (by simp[(e 14 28 (by decide))];rfl) (h 14 28 (by decide))).trans ?_;refine aV 18 (by simp) (lC _) hc ?_;simpa [dC,eT,closed]using hc0
theorem Qr[aC prog][bP prog][dL prog](p:aG)(a:aK)(hps:aI p<=1073741824)(hha:a.host.length<=1073741824):Ok prog 126 [.agg (aH .view p),.agg (aL a)] (.gT [.sl .own 2 ((iK p a).map aL),.bool (lD p a)]):=by
 simp only[aI,bQ]at hps;have c2:=Ai p a (by omega);unfold iK lD;rcases lJ (kM a) p.aN with⟨hi,hf⟩|⟨k,hk,hi,hf⟩
 .rw [hf];rw[hi]at c2;simp only[aL,aH]at c2;refine bM aF func126 ntmps126 ?_;refine aY ?_;exact aD results126
 .rw [hf];rw[hi]at c2;have hm:=fS hk;have hz:=bS bK hm;have hg:=aE hk;simp only[bK,aR]at hz;have cp:=xH p.aN[k].body a.host (by omega) hha;simp only[aL,aH]at c2;simp only;generalize bH p.aN[k].body a.host=w at*;obtain⟨w1,w2,w3⟩:=w;simp only at cp;have hk0:¬((k:Nat):Int)<0:=by omega
  cases hd1:p.aN[k].done
  .refine bM aF func126 ntmps126 ?_;have W:=aA hk0 (aA hg (aA hk hd1));refine we ?_;exact aD results126
  .by_cases hd2:p.aN[k].code=1
   .simp only[hd2,FF,gC];refine bM aF func126 ntmps126 ?_;have W:=aA hk0 (aA hg (aA hk (aA hd1 hd2)));refine we ?_;exact aD results126
   .simp only[hd2,and_false,gS];refine bM aF func126 ntmps126 ?_;have W:=aA hk0 (aA hg (aA hk (aA hd1 hd2)));refine we ?_;exact aD results126
theorem MK[aC prog][bP prog][dL prog](p:aG)(a:aK)(x:aZ)(hs:aI p<=536870912/\aR a<=536870912)(hx:bG x<=1048576):Ok prog 74 [.agg (aH .view p),.agg (aL a),.agg (bF x)] (.agg (aH .own (jS p a x))):=by
 have hs1:=hs.1;have MQ:p.aN.length<=536870912:=by simp only[aI,bQ]at hs1;omega
 have GN:eD p.bD<=274877906944:=by simp only[aI]at hs1;omega
 have c1:=gK p (by omega);have c2:=Ai p a (by omega);rcases lJ (kM a) p.aN with⟨hi,hf⟩|⟨k,hk,hi,hf⟩
 .rw [Fg hi];rw[hi]at c2;simp only[aH,aL]at c1 c2;refine bM aF func74 ntmps74 ?_;refine aY ?_;exact aD results74
 .have hg:=aE hk;rw[hi]at c2;have hk0:¬((k:Nat):Int)<0:=by omega
  cases hd:p.aN[k].done
  .rw [Il hi hg hd];have cR:=Df p k (by omega) (by omega) (by omega);have e:pF p (k:Int)=eG p p.aN[k]:=by simp[pF,hg]
   rw[e]at cR;have hrq:jL (eG p p.aN[k])<=1073741824:=by have hm:=bS bK (fS hk);simp only[bK]at hm;simp only[jL,eG,eV];simp only[aI,bQ,aR]at hs1 hm⊢;omega
   have c3:=vR p.bD (eG p p.aN[k]) x GN (by omega) hx;have c4:=Dk p.bD (eG p p.aN[k]) x GN (by omega) hx;simp only[aH,dD]at cR;simp only[bN,dD,bF]at c3 c4;simp only[aH,aL]at c1 c2;clear e;have Fp:=Ha (x:=x) hi hk hf;have hqs:=Yp p k hk x;have hub:=En p.bD (eG p p.aN[k]) x;have hset:(p.aN.map eX).set k [.str p.aN[k].to.host,.str p.aN[k].to.path,.bool true,.int .i64 (dS p.bD (eG p p.aN[k]) x),.str (jF p.bD (eG p p.aN[k]) x)]=(p.aN.set k (iU p p.aN[k] x)).map eX:=by rw[map_set];rfl
   have hg3:(p.aN.set k (iU p p.aN[k] x))[k]? =some (iU p p.aN[k] x):=by rw[mB hk]
   unfold Mw;have hfm:(iU p p.aN[k] x).done=true/\(iU p p.aN[k] x).code=dS p.bD (eG p p.aN[k]) x/\(iU p p.aN[k] x).body=jF p.bD (eG p p.aN[k]) x:=⟨rfl,rfl,rfl⟩;have X9:(p.aN.set k (iU p p.aN[k] x)).length=p.aN.length:=by simp
   generalize dS p.bD (eG p p.aN[k]) x=c at*;generalize jF p.bD (eG p p.aN[k]) x=y at*;generalize eG p p.aN[k]=rq at*;generalize iU p p.aN[k] x=m3 at*;generalize p.aN.set k m3=L3 at*;obtain⟨f1,f2,f3⟩:=hfm;have aKh:k<L3.length:=by omega
   have e3:∀h,(L3[k]'h)=m3:=λh=>by rw[aE h]at hg3;exact cQ hg3
   obtain⟨b1,b2⟩:=Pv (q:={p with aN:=L3}) Fp (by rw[f3];exact hub);have cI:=Qr {p with aN:=L3} a (by omega) (by simp only[aR]at hs;omega);generalize iK {p with aN:=L3} a=L at*;generalize lD {p with aN:=L3} a=ok at*;simp only[aH,aL]at cI;refine bM aF func74 ntmps74 ?_;have W:=aA hk0 (aA hg (aA hd (aA hk (aA hset (aA aKh (aA e3 (aA f1 (aA f2 f3))))))));refine we ?_;have hq0:aI {p with aN:=L3}<=536871424:=by omega
   have hts:=Pw hq0 b1 b2;have NB:=λi (h:i<L.length)=>show kR {p with aN:=L3} (L.take (i+1))=eP (kR {p with aN:=L3} (L.take i)) L[i]by rw[eI h,Pt]
   have h00:kR {p with aN:=L3} (L.take 0)={p with aN:=L3}:=by simp[kR]
   have hall:L.length<=1099511627776:=by omega
   refine aO (ι:={k:Nat // k<=L.length}) (λt o i=>⟨bC t [(12,.int .i64 i.1),(14,.undef),(33,.undef),(35,.undef),(36,.undef),(38,.undef),(45,.undef),(46,.undef),(49,.undef),(58,.undef),(59,.undef),(61,.undef)],o.take 4++lQ (kR {p with aN:=L3} (L.take i.1))++[⟨true,true,22,0,[jG 4 (kR {p with aN:=L3} (L.take i.1))]⟩]++o.drop 16⟩)
    (λi=>L.length-i.1) ⟨0,by simp⟩ (aJ (by simp only[h00];simp[lQ,jG]) (by simp)) ?_
   rintro⟨i,hi2⟩ K1 hK1;have hi1:i64.wrap ((i:Int)+1)=((i+1:Nat):Int):=by rw[wrap64]<;>omega
   by_cases hlt:i<L.length
   .have hgi:=aE hlt;have cA:=El (kR {p with aN:=L3} (L.take i)) L[i] (by have:=hts i;omega) (by have:=b2 _ (fS hlt);omega);have hnext:=NB i hlt;rw[<-hnext]at cA;have hK2:=hK1;simp only[bC,cW,cU,eL,fX,eA,eM,pC,AI,lQ,jG]at hK1⊢;clear NB h00 hnext hts;generalize hq1:kR {p with aN:=L3} (L.take i)=q at*;generalize hq2:kR {p with aN:=L3} (L.take (i+1))=q' at*;simp only[aH,aL]at cA;have W:=aA hi1 (aA hgi hlt);refine we ?_;refine hK2 _ ⟨i+1,by omega⟩ ?_ (by simp only;omega);simp only[hq2];exact F7 (q0:=q) (q:=q') rfl (by simp[lQ,jG]) (by simp[qU]) (by simp[qU]) (by simp) (by simp) (by simp)
   .have htk:L.take i=L:=cY (by omega);have hK2:=hK1;simp only[bC,cW,cU,eL,fX,eA,eM,pC,AI,lQ,jG,htk]at hK1⊢;clear NB h00 hts hK2 hK1;generalize kR {p with aN:=L3} L=q at*;have W:=aA hi1 hlt;refine we ?_;exact aD results74
  .rw [Fh hi hg hd];simp only[aH,aL]at c1 c2;refine bM aF func74 ntmps74 ?_;have W:=aA hk0 (aA hg (aA hd hk));refine we ?_;exact aD results74
theorem Uu[aC prog](l:List bB)(k:Int)(h0:0<=k)(hl:k+(bA (λ_=>1) l:Nat)<=4611686018427387000)(hll:l.length<=4611686018427387904):OkM prog 13 (.sl .own 1 (l.map bW)) (.sl .own 1 ((Pb wO (λ_=>1) k l).map bW)) [.int .i64 k] (.int .i64 (k+(bA (λ_=>1) l:Nat))):=by
 generalize hu:(Pb wO (λ_=>1) k l).map bW=l';have Iw:l'.length=(l.map bW).length:=by rw[<-hu];simp[uA]
 refine wo aF func13 ntmps13 ?_;refine iF ?_;refine aO (ι:={j:Nat // j<=l.length}) (λt o i=>⟨bC t [(1,.int .i64 (k+(bA (λ_=>1) (l.take i.1):Nat))),(5,.int .i64 i.1)],[⟨true,false,1,0,yO (l.map bW) l' i.1⟩]⟩)
  (λi=>l.length-i.1) ⟨0,by simp⟩ (aJ (by simp[Eg]) (by simp[bA])) ?_
 rintro⟨j,hj⟩ K1 hK1;simp only[bC,cW,cU]at hK1⊢;have hj1:i64.wrap ((j:Int)+1)=((j+1:Nat):Int):=by rw[wrap64]<;>omega
 have MQ:(yO (l.map bW) l' j).length=l.length:=by rw[Ap _ _ _ Iw];simp
 have hle:=jV (λ_=>1) l (j+1);by_cases hlt:j<l.length
 .have hts:=iX (λ_=>1) l j hlt
  have hmg:=GK (l.map bW) l' j (by simpa using hlt) (by rw[Iw];simpa using hlt);have Gw:=GJ (l.map bW) l' j (by simpa using hlt) (by rw[Iw];simpa using hlt);have he:l'[j]'(by rw[Iw];simpa using hlt)=bW (wO (k+(bA (λ_=>1) (l.take j):Nat)) l[j]):=by subst hu;rw[AH,EY]
  rw[he]at Gw;generalize hq:k+(bA (λ_=>1) (l.take j):Nat)=q at*;simp only[bW,wO,Pd]at Gw;have W:=aA MQ (aA hmg (aA hj1 Gw));have V:=aA MQ (aA hj1 (aA Gw hlt));repeat' first|refine wg ?_|(refine nx ?_;refine sk (hc:=xQ _ (by omega)) (h:=?_))|(refine sq ?_ ?_<;>intro hc<;>try exact hc.elim)|fail
  refine hK1 _ ⟨j+1,by omega⟩ (aJ (by simp) ?_) (by simp only;omega);simp;omega
 .have hma:=Ef (l.map bW) l' j Iw (by simp;omega);have hjl:j=l.length:=by omega
  have hcl:iV l'=true:=by rw[<-hu];simp
  have htk:l.take j=l:=cY (by omega);rw[htk]at*;have W:=aA MQ hj1;refine wl ?_;all_goals try(refine aQ ?_;simp[EI,results13,hma,hcl])
end Go.Proofs.YtfbefblglejcaaaGreatDoor
