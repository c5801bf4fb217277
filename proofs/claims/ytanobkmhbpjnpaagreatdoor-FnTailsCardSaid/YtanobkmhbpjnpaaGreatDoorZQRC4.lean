/- Steps. No condition. -/
import Derived.Test.YtanobkmhbpjnpaaGreatDoorZQT4
import Derived.Test.YtanobkmhbpjnpaaGreatDoorZQP3
import Derived.Test.YtanobkmhbpjnpaaGreatDoorZQI4
set_option linter.all false
set_option maxRecDepth 8000
set_option maxHeartbeats 8000000
namespace Go.Proofs.YtanobkmhbpjnpaaGreatDoor
open Go.Aw Proofs.Tryz List IntKind
def TU[aG prog][fI prog](b:bC)(ss:List iX)(x:jV)(hs:aV b<=274877906944)(hx:x.text.length<=268435456)(hl:ss.length<=1099511627776)(hr:∀x∈ss,x.mF.length<=1099511627776)(yO:∀n,0<=bS ss n/\bS ss n<=999):
  Ok prog 184 [.agg (aZ .view b),.sl .view 1 (ss.map (gK .view)),.agg (nR x)] (.iL [.agg (aZ .own (dE b ss x).1),.str (dE b ss x).2.1,.str (dE b ss x).2.2]):=by
 by_cases h1:x.op=1
 .exact aHq b ss x hs hx hl hr yO h1
 by_cases h2:x.op=2
 .exact aHr b ss x hs hx hl hr yO h2
 by_cases h3:x.op=3
 .exact aHt b ss x hs hx hl hr yO h3
 by_cases h4:x.op=4
 .exact aHu b ss x hs hx hl hr yO h4
 by_cases h5:x.op=5
 .exact aHv b ss x hs hx hl hr yO h5
 exact aHs b ss x hs hx hl hr yO ⟨h1,h2,h3,h4,h5⟩
def TV[aG prog][fI prog](b:bC)(ss:List iX)(x:jV)(hs:aV b<=274877906944)(hx:x.text.length<=268435456)(hl:ss.length<=1099511627776)(hr:∀x∈ss,x.mF.length<=1099511627776)(yO:∀n,0<=bS ss n/\bS ss n<=999):
  Ok prog 165 [.agg (aZ .view b),.sl .view 1 (ss.map (gK .view)),.agg (nR x)] (.iL [.agg (aZ .own (dE b ss x).1),.str (dE b ss x).2.1,.str (dE b ss x).2.2]):=by
 by_cases h1:x.op=1
 .exact aHw b ss x hs hx hl hr yO h1
 by_cases h2:x.op=2
 .exact aHx b ss x hs hx hl hr yO h2
 by_cases h3:x.op=3
 .exact aHz b ss x hs hx hl hr yO h3
 by_cases h4:x.op=4
 .exact aH0 b ss x hs hx hl hr yO h4
 by_cases h5:x.op=5
 .exact aH1 b ss x hs hx hl hr yO h5
 exact aHy b ss x hs hx hl hr yO ⟨h1,h2,h3,h4,h5⟩
def zF{α:Type}{f:α->List AV}{i j:Nat}(h:∀x,uG i j (f x)=f x):∀l:List α,uT i j (l.map f)=l.map f
 |[]=>rfl
 |x::l=>by simp only[oE,uT,h,zF h l]
@[simp] def aSv(i j:Nat)(l:List bE):uT i j (l.map eD)=l.map eD:=zF (λ_=>rfl) l
@[simp] def aSw(i j:Nat)(l:List Int):uT i j (l.map nM)=l.map nM:=zF (λ_=>rfl) l
@[simp] def aQy(i j:Nat)(l:List pV):uT i j (l.map uB)=l.map uB:=zF (λ_=>rfl) l
@[simp] def aQz(i j:Nat)(l:List jV):uT i j (l.map nR)=l.map nR:=zF (λ_=>rfl) l
@[simp] def aQ0(i j:Nat)(l:List Gr):uT i j (l.map Bt)=l.map Bt:=zF (λ_=>rfl) l
@[simp] def aMm(i j:Nat)(l:List iX):uT i j (l.map (gK .view))=l.map (gK .view):=zF (λ_=>by simp) l
@[simp] def aOy(i j:Nat)(l:List kG):uT i j (l.map (gU .view))=l.map (gU .view):=zF (λ_=>by simp) l
def mf{t t':List AV}{o o':List aI}{v:Nat}{n0 p0 n1 p1 lg:List (List AV)}{o0 o1 o6:aI}
  (ho:o.take 10=[o0,o1,⟨true,false,4,1,n0⟩,⟨true,false,1,1,p0⟩,⟨true,true,2,0,[[.obj 7 1,.obj 8 1]]⟩,⟨true,false,1,v,lg⟩,o6,⟨true,false,4,1,n1⟩,⟨true,false,1,1,p1⟩,⟨true,true,2,0,[[.obj 7 1,.obj 8 1]]⟩])
  (ho':o'=[o0,o1,⟨true,false,4,1,n1⟩,⟨true,false,1,1,p1⟩,⟨true,true,2,0,[[.obj 2 1,.obj 3 1]]⟩,⟨true,false,1,v,lg⟩])
  (hf:(o0.oM 2 7=o0/\o1.oM 2 7=o1/\o6.oM 2 7=o6)/\(o0.oM 3 8=o0/\o1.oM 3 8=o1/\o6.oM 3 8=o6)) (hw:wk t t') (h1:wk (uG 2 7 t') t') (h3:wk (uG 3 8 t') t') (hc:iK 6 t'=true) (hc1:iK 10 t'=true) (hc0:eU 6 [o0,o1]=true) (LH:eU 10 [o0,o1,o6]=true):mZ ⟨t,o⟩ ⟨t',o'⟩:=by
 subst ho';obtain⟨⟨a0,a1,a6⟩,b0,b1,b6⟩:=hf;refine(aQ 10 ho hw hc1 (by simpa [eU,iK,closed,GP]using LH)).trans ?_;refine(bI 2 7 rfl rfl ⟨rfl,rfl⟩ (by simp[a0,a1,a6];rfl) h1).trans ?_;refine(bI 3 8 rfl rfl ⟨rfl,rfl⟩ (by simp[b0,b1,b6];rfl) h3).trans ?_;refine aQ 6 (by simp) (oH _) hc ?_;simpa [eU,iK,closed]using hc0
def oW(ss:List iX)(s:bC×bE×List bE)(x:jV):bC×bE×List bE:=
 ((dE s.1 ss x).1,s.2.1++(dE s.1 ss x).2.1,if (dE s.1 ss x).2.2=[]then s.2.2 else s.2.2++[(dE s.1 ss x).2.2])
def fQ(b:bC)(ss:List iX)(l:List jV):bC×bE×List bE:=l.foldl (oW ss) (b,[],[])
def KT{α:Type}(f:α->Nat):∀a b:List α,bU f (a++b)=bU f a+bU f b
 |[],b=>by simp[bU]
 |x::xs,b=>by simp only[cW,bU,KT f xs b];omega
def TW(b:bC)(ss:List iX)(x:jV)(hx:x.text.length<=268435456)(yO:∀n,0<=bS ss n/\bS ss n<=999)(hn:b.aJ.length<=274877906944):
  aV (dE b ss x).1<=aV b+x.text.length+1/\(dE b ss x).2.1.length<=x.text.length/\(dE b ss x).2.2.length<=x.text.length+30:=by
 have z7:=kK (bF b x.text) (by unfold bF;omega) (by
  unfold bF;have:=pD (λy:kG=>decide (y.name=x.text)) b.aJ;omega)
 have hc:=yO x.text;have z8:=kK (bS ss x.text) (by omega) (by omega);unfold dE;split
 .refine ⟨by simp only;omega,by simp,by simp⟩
 .split
  .split
   .refine ⟨?_,by simp,by simp⟩;simp only[aV,dS,eR,KT,bU,qP,eL,fL];omega
   .simp only[fL];omega
  .split
   .refine ⟨by simp only;omega,by simp,?_⟩;simp only[eR,zY,eL,fL];omega
   .split
    .refine ⟨by simp only;omega,by simp,?_⟩;simp only[eR,DT,eL,fL];omega
    .split
     .refine ⟨by simp only;omega,by simp,?_⟩;simp only[eR,MC,eL,fL];omega
     .simp only[fL];omega
def uU(b:bC)(ss:List iX)(l:List jV)(k:Nat):bC×bE×List bE:=fQ b ss (l.take k)
def KU(b:bC)(ss:List iX)(l:List jV)(k:Nat)(h:k<l.length):uU b ss l (k+1)=oW ss (uU b ss l k) l[k]:=by unfold uU fQ;rw[fN h,DQ];rfl
def CP(N:Nat)(b:bC)(ss:List iX)(l:List jV)(hN:N<=268435456)(hl:l.length<=6)(hx:∀x∈l,x.text.length<=N)(yO:∀n,0<=bS ss n/\bS ss n<=999)(hb:aV b<=68719476736):
  ∀k,k<=l.length->aV (uU b ss l k).1<=aV b+k*(N+1)/\(uU b ss l k).2.1.length<=k*N/\(uU b ss l k).2.2.length<=k/\bU iM (uU b ss l k).2.2<=k*(N+30)
 |0,_=>by simp[uU,fQ,bU]
 |k+1,h=>by
  obtain⟨h1,h2,h3,h4⟩:=CP N b ss l hN hl hx yO hb k (by omega);rw[KU b ss l k (by omega)];have hxk:=hx _ (gR (show k<l.length by omega));have hkN:k*(N+1)<=6*(268435456+1):=Nat.mul_le_mul (by omega) (by omega);have hn:(uU b ss l k).1.aJ.length<=274877906944:=by simp only[aV,dS]at h1 hb;omega
  obtain⟨z1,z2,z3⟩:=TW (uU b ss l k).1 ss l[k] (by omega) yO hn;generalize uU b ss l k=g at*;have e1:(k+1)*(N+1)=k*(N+1)+(N+1):=by rw[rK];omega
  have e2:(k+1)*N=k*N+N:=by rw[rK];omega
  have e3:(k+1)*(N+30)=k*(N+30)+(N+30):=by rw[rK];omega
  rw[e1,e2,e3];refine⟨?_,?_,?_,?_⟩
  .simp only[oW];omega
  .simp only[oW,eR];omega
  .simp only[oW];split
   .omega
   .simp only[eR,eL,fL];omega
  .simp only[oW];split
   .omega
   .simp only[KT,bU,iM];omega
def XA{t t':List AV}{o o':List aI}{v u:Nat}{n0 p0 n1 p1 lg:List (List AV)}{o0 o1:aI}
  (ho:o.take 9=[o0,o1,⟨true,false,4,1,n0⟩,⟨true,false,1,1,p0⟩,⟨true,true,2,0,[[.obj 7 1,.obj 8 1]]⟩,⟨true,false,1,v,lg⟩,⟨true,true,2,u,[[.obj 7 1,.obj 8 1]]⟩,⟨true,false,4,1,n1⟩,⟨true,false,1,1,p1⟩])
  (ho':o'=[o0,o1,⟨true,false,4,1,n1⟩,⟨true,false,1,1,p1⟩,⟨true,true,2,0,[[.obj 2 1,.obj 3 1]]⟩,⟨true,false,1,v,lg⟩])
  (hf:(o0.oM 2 7=o0/\o1.oM 2 7=o1)/\(o0.oM 3 8=o0/\o1.oM 3 8=o1)) (hw:wk t t') (h1:wk (uG 2 7 t') t') (h3:wk (uG 3 8 t') t') (hc:iK 6 t'=true) (hc1:iK 9 t'=true) (hc0:eU 6 [o0,o1]=true) (LH:eU 9 [o0,o1]=true):mZ ⟨t,o⟩ ⟨t',o'⟩:=by
 subst ho';obtain⟨⟨a0,a1⟩,b0,b1⟩:=hf;refine(aQ 9 ho hw hc1 (by simpa [eU,iK,closed,GP]using LH)).trans ?_;refine(bI 2 7 rfl rfl ⟨rfl,rfl⟩ (by simp[a0,a1];rfl) h1).trans ?_;refine(bI 3 8 rfl rfl ⟨rfl,rfl⟩ (by simp[b0,b1];rfl) h3).trans ?_;refine aQ 6 (by simp) (oH _) hc ?_;simpa [eU,iK,closed]using hc0
def OC[aG prog][fI prog](b:bC)(ss:List iX)(l:List jV)(hb:aV b<=68719476736)(h6:l.length<=6)(hx:∀x∈l,x.text.length<=268435456)(hl:ss.length<=1099511627776)(hr:∀x∈ss,x.mF.length<=1099511627776)(yO:∀n,0<=bS ss n/\bS ss n<=999):
  Ok prog 126 [.agg (aZ .view b),.sl .view 1 (ss.map (gK .view)),.sl .view 2 (l.map nR)] (.iL [.agg (aZ .own (fQ b ss l).1),.str (fQ b ss l).2.1,.sl .own 1 ((fQ b ss l).2.2.map eD)]):=by
 have c0:=nE b (by omega);have hsz:=CP 268435456 b ss l (by omega) h6 hx yO hb;have OD:=KU b ss l;have hend:uU b ss l l.length=fQ b ss l:=by simp[uU]
 have hz0:uU b ss l 0=(b,[],[]):=rfl;rw[<-hend];clear hend;have cR:=λ(b:bC) (x:jV) (h1:aV b<=274877906944) (h2:x.text.length<=268435456)=>TU b ss x h1 h2 hl hr yO
 clear hr yO;generalize uU b ss l=G at*;simp only[aZ]at c0;refine dN aK func126 ntmps126 ?_;refine bZ ?_;refine aT (ι:={q:Nat×Nat // q.1<=l.length/\1<=q.2}) (λt o i=>⟨bP t [(22,.int .i64 i.1.1),(10,.str (G i.1.1).2.1),(11,.obj 5 i.1.2),(13,.aB),(14,.aB),(15,.aB),(16,.aB),(18,.aB)],o.take 2++[⟨true,false,4,1,(G i.1.1).1.aJ.map (gU .own)⟩,⟨true,false,1,1,(G i.1.1).1.bD.map nM⟩,⟨true,true,2,0,[[.obj 2 1,.obj 3 1]]⟩,⟨true,false,1,i.1.2,(G i.1.1).2.2.map eD⟩]⟩)
  (λi=>l.length-i.1.1) ⟨(0,1),by simp,by simp⟩ (aP (by simp[hz0]) (by simp[hz0])) ?_
 rintro⟨⟨k,v⟩,hk,hv⟩ K1 hK1;simp only at hk hv;simp only[bP,cH,cQ,eV,gS,cW,eA]at hK1⊢;have hk1:=tQ (k:=k);by_cases hlt:k<l.length
 .have hg:=aE hlt;have hxk:=hx _ (gR hlt);obtain⟨s1,s2,s3,_⟩:=hsz k hk;have hk6:k*(268435456+1)<=6*(268435456+1):=mB _ (by omega);have hk7:k*268435456<=6*268435456:=mB _ (by omega);have hnext:=OD k hlt;have cL:=cR (G k).1 l[k] (by omega) hxk;have ht1:=(hsz (k+1) (by omega)).2.1;obtain⟨n1,p1,mw,ms,hR⟩:∃n1 p1 mw ms,dE (G k).1 ss l[k]=(⟨n1,p1⟩,mw,ms):=⟨_,_,_,_,rfl⟩;rw[hR]at cL;simp only[oW,hR]at hnext;rw[hnext]at ht1;clear hR cR hsz OD hx;generalize hGk:G k=g at*;obtain⟨⟨n0,p0⟩,w0,lg0⟩:=g;simp only at s1 s2 s3 ht1 hnext cL;have hwl:w0.length+mw.length<=1610612736:=by rw[eR]at ht1;have:(k+1)*268435456<=6*268435456:=mB _ (by omega);omega
  have zh:lg0.length<=6:=by omega
  clear s1 s2 s3 ht1;simp only[aZ,nR]at cL;by_cases hms:ms=[]
  .rw [eM hms]at hnext;subst hms;have W:=aA hk1 (aA hg hwl);have V:=hlt;refine wl ?_;all_goals refine hK1 _ ⟨(k+1,v),by simp only;omega,by simp only;omega⟩ ?_ (by simp only;omega)
   all_goals exact mf rfl (by simp[hnext]) (by simp) (by simp[hnext]) (by simp) (by simp) (by simp) (by simp) (by simp[eU]) (by simp[eU])
  .rw [eC hms]at hnext;have hmb:ms.isEmpty=false:=by cases ms with|nil=>exact absurd rfl hms|cons _ _=>rfl
   have W:=aA hk1 (aA hg (aA hwl (aA hms (aA hmb zh))));have V:=hlt;refine wl ?_;all_goals refine hK1 _ ⟨(k+1,v+1),by simp only;omega,by simp only;omega⟩ ?_ (by simp only;omega)
   all_goals exact mf rfl (by simp[hnext]) (by simp) (by simp[hnext]) (by simp) (by simp) (by simp) (by simp) (by simp[eU]) (by simp[eU])
 .have hkl:k=l.length:=by omega
  subst hkl;have W:=hk1;refine wl ?_;exact aO results126
def EU[aG prog][fI prog](b:bC)(ss:List iX)(l:List jV)(hb:aV b<=68719476736)(h6:l.length<=6)(hx:∀x∈l,x.text.length<=268435456)(hl:ss.length<=1099511627776)(hr:∀x∈ss,x.mF.length<=1099511627776)(yO:∀n,0<=bS ss n/\bS ss n<=999):
  Ok prog 113 [.agg (aZ .view b),.sl .view 1 (ss.map (gK .view)),.sl .view 2 (l.map nR)] (.iL [.agg (aZ .own (fQ b ss l).1),.str (fQ b ss l).2.1,.sl .own 1 ((fQ b ss l).2.2.map eD)]):=by
 have c0:=nG b (by omega);have hsz:=CP 268435456 b ss l (by omega) h6 hx yO hb;have OD:=KU b ss l;have hend:uU b ss l l.length=fQ b ss l:=by simp[uU]
 have hz0:uU b ss l 0=(b,[],[]):=rfl;rw[<-hend];clear hend;have cR:=λ(b:bC) (x:jV) (h1:aV b<=274877906944) (h2:x.text.length<=268435456)=>TV b ss x h1 h2 hl hr yO
 clear hr yO;generalize uU b ss l=G at*;simp only[aZ]at c0;refine dN aK func113 ntmps113 ?_;refine bZ ?_;refine aT (ι:={q:Nat×Nat // q.1<=l.length/\1<=q.2}) (λt o i=>⟨bP t [(12,.int .i64 i.1.1),(10,.str (G i.1.1).2.1),(11,.obj 5 i.1.2),(13,.aB),(13,.aB),(14,.aB),(15,.aB),(17,.aB)],o.take 2++[⟨true,false,4,1,(G i.1.1).1.aJ.map (gU .own)⟩,⟨true,false,1,1,(G i.1.1).1.bD.map nM⟩,⟨true,true,2,0,[[.obj 2 1,.obj 3 1]]⟩,⟨true,false,1,i.1.2,(G i.1.1).2.2.map eD⟩]⟩)
  (λi=>l.length-i.1.1) ⟨(0,1),by simp,by simp⟩ (aP (by simp[hz0]) (by simp[hz0])) ?_
 rintro⟨⟨k,v⟩,hk,hv⟩ K1 hK1;simp only at hk hv;simp only[bP,cH,cQ,eV,gS,cW,eA]at hK1⊢;have hk1:=tQ (k:=k);by_cases hlt:k<l.length
 .have hg:=aE hlt;have hxk:=hx _ (gR hlt);obtain⟨s1,s2,s3,_⟩:=hsz k hk;have hk6:k*(268435456+1)<=6*(268435456+1):=mB _ (by omega);have hk7:k*268435456<=6*268435456:=mB _ (by omega);have hnext:=OD k hlt;have cL:=cR (G k).1 l[k] (by omega) hxk;have ht1:=(hsz (k+1) (by omega)).2.1;obtain⟨n1,p1,mw,ms,hR⟩:∃n1 p1 mw ms,dE (G k).1 ss l[k]=(⟨n1,p1⟩,mw,ms):=⟨_,_,_,_,rfl⟩;rw[hR]at cL;simp only[oW,hR]at hnext;rw[hnext]at ht1;clear hR cR hsz OD hx;generalize hGk:G k=g at*;obtain⟨⟨n0,p0⟩,w0,lg0⟩:=g;simp only at s1 s2 s3 ht1 hnext cL;have hwl:w0.length+mw.length<=1610612736:=by rw[eR]at ht1;have:(k+1)*268435456<=6*268435456:=mB _ (by omega);omega
  have zh:lg0.length<=6:=by omega
  clear s1 s2 s3 ht1;simp only[aZ,nR]at cL;by_cases hms:ms=[]
  .rw [eM hms]at hnext;subst hms;have W:=aA hk1 (aA hg hwl);have V:=hlt;refine wl ?_;all_goals refine hK1 _ ⟨(k+1,v),by simp only;omega,by simp only;omega⟩ ?_ (by simp only;omega)
   all_goals exact XA rfl (by simp[hnext]) (by simp) (by simp[hnext]) (by simp) (by simp) (by simp) (by simp) (by simp[eU]) (by simp[eU])
  .rw [eC hms]at hnext;have hmb:ms.isEmpty=false:=by cases ms with|nil=>exact absurd rfl hms|cons _ _=>rfl
   have W:=aA hk1 (aA hg (aA hwl (aA hms (aA hmb zh))));have V:=hlt;refine wl ?_;all_goals refine hK1 _ ⟨(k+1,v+1),by simp only;omega,by simp only;omega⟩ ?_ (by simp only;omega)
   all_goals exact XA rfl (by simp[hnext]) (by simp) (by simp[hnext]) (by simp) (by simp) (by simp) (by simp) (by simp[eU]) (by simp[eU])
 .have hkl:k=l.length:=by omega
  subst hkl;have W:=hk1;refine wl ?_;exact aO results113
def mO(l:List bE)(s:bE):List bE:=if l.length<40 then l++[s]else l
def FZ[aG prog][fI prog](p:aF)(s:bE)(hs:p.log.length<=1099511627776):Ob prog 39 [.vX (aH .own p) (aH .own {p with log:=mO p.log s}),.view (.str s)] (.iL []):=by
 by_cases h:p.log.length<40
 .have hi:(p.log.length:Int)<40:=by omega
  obtain⟨l1,hl1⟩:∃l,l=p.log++[s]:=⟨_,rfl⟩;have hap:p.log.map eD++[[.str s]]=l1.map eD:=by rw[hl1];simp
  have e:mO p.log s=l1:=by unfold mO;rw[eM h,hl1]
  rw[e];clear e hl1;refine uQ aK func39 ntmps39 ?_;have W:=aA hi (aA hap hs);refine wl ?_;all_goals (try exact nL (by simp[jF,fK,fH,rowOf,results39];done))
 .have hi:¬(p.log.length:Int)<40:=by omega
  have e:mO p.log s=p.log:=by unfold mO;rw[eC h]
  rw[e];clear e;refine uQ aK func39 ntmps39 ?_;have W:=hi;refine wl ?_;all_goals (try exact nL (by simp[jF,fK,fH,rowOf,results39];done))
def Fh(q:aF):List aI:=[⟨true,false,1,1,q.bO.iN.map eD⟩,⟨true,false,1,1,q.bO.kH.map eD⟩,⟨true,false,1,1,q.bO.kJ.map eD⟩,⟨true,false,4,1,q.bT.map (dK .own)⟩,⟨true,false,4,1,q.aC.aJ.map (gU .own)⟩,⟨true,false,1,1,q.aC.bD.map nM⟩,⟨true,false,8,1,q.aD.map uL⟩,⟨true,false,5,1,q.aL.map gH⟩,⟨true,false,2,1,q.bJ.map aS⟩,⟨true,false,2,1,q.uN.map aS⟩,⟨true,false,1,1,q.log.map eD⟩]
def Fj(b:Nat)(q:aF):List AV:=[.str q.gZ.bN,.str q.gZ.iD,.bool q.bO.zD,.obj b 1,.obj (b+1) 1,.obj (b+2) 1,.str q.bO.uC,.str q.tok.rest,.obj (b+3) 1,.bool q.uM,.obj (b+4) 1,.obj (b+5) 1,.obj (b+6) 1,.obj (b+7) 1,.obj (b+8) 1,.int .i64 q.block,.int .i64 q.dZ,.int .i64 q.eH,.int .i64 q.fA,.obj (b+9) 1,.obj (b+10) 1,.bool q.dX]
def OG:List (Nat×Nat):=[(1,17),(2,18),(3,19),(4,20),(5,21),(6,22),(7,23),(8,24),(9,25),(10,26),(11,27)]
def aH6{t t':List AV}{o o':List aI}{n1 v1 n2 v2 n3 v3 n4 v4 n5 v5 n6 v6 n7 v7 n8 v8 n9 v9 n10 v10 n11 v11:Nat}{e1 e2 e3 e4 e5 e6 e7 e8 e9 e10 e11:List (List AV)}{o12 o13 o14 o15 o16:aI}{q:aF}(ho:o=[⟨true,true,22,2,[Fj 17 q]⟩,⟨false,false,n1,v1,e1⟩,⟨false,false,n2,v2,e2⟩,⟨false,false,n3,v3,e3⟩,⟨false,false,n4,v4,e4⟩,⟨false,false,n5,v5,e5⟩,⟨false,false,n6,v6,e6⟩,⟨false,false,n7,v7,e7⟩,⟨false,false,n8,v8,e8⟩,⟨false,false,n9,v9,e9⟩,⟨false,false,n10,v10,e10⟩,⟨false,false,n11,v11,e11⟩,o12,o13,o14,o15,o16]++Fh q)
  (ho':o'=[⟨true,true,22,2,[Fj 1 q]⟩]++Fh q++[o12,o13,o14,o15,o16]) (ht:∀z∈OG,wk (uG z.1 z.2 t') t') (hf:∀z∈OG,o12.oM z.1 z.2=o12/\o13.oM z.1 z.2=o13/\o14.oM z.1 z.2=o14/\o15.oM z.1 z.2=o15/\o16.oM z.1 z.2=o16) (hw:wk t t') (hc:iK 17 t'=true) (hc0:eU 17 [o12,o13,o14,o15,o16]=true):mZ ⟨t,o⟩ ⟨t',o'⟩:=by
 subst ho;subst ho';have e:=λi j (h:(i,j)∈OG)=>hf (i,j) h
 have h:=λi j (h:(i,j)∈OG)=>ht (i,j) h
 simp only[Fh,Fj,cW,eA];refine(zS hw).trans ?_;refine(bI 1 17 rfl rfl ⟨rfl,rfl⟩ (by simp[(e 1 17 (by decide))];rfl) (h 1 17 (by decide))).trans ?_;refine(bI 2 18 rfl rfl ⟨rfl,rfl⟩ (by simp[(e 2 18 (by decide))];rfl) (h 2 18 (by decide))).trans ?_;refine(bI 3 19 rfl rfl ⟨rfl,rfl⟩ (by simp[(e 3 19 (by decide))];rfl) (h 3 19 (by decide))).trans ?_;refine(bI 4 20 rfl rfl ⟨rfl,rfl⟩ (by simp[(e 4 20 (by decide))];rfl) (h 4 20 (by decide))).trans ?_;refine(bI 5 21 rfl rfl ⟨rfl,rfl⟩ (by simp[(e 5 21 (by decide))];rfl) (h 5 21 (by decide))).trans ?_;refine(bI 6 22 rfl rfl ⟨rfl,rfl⟩ (by simp[(e 6 22 (by decide))];rfl) (h 6 22 (by decide))).trans ?_;refine(bI 7 23 rfl rfl ⟨rfl,rfl⟩ (by simp[(e 7 23 (by decide))];rfl) (h 7 23 (by decide))).trans ?_;refine(bI 8 24 rfl rfl ⟨rfl,rfl⟩ (by simp[(e 8 24 (by decide))];rfl) (h 8 24 (by decide))).trans ?_;refine(bI 9 25 rfl rfl ⟨rfl,rfl⟩ (by simp[(e 9 25 (by decide))];rfl) (h 9 25 (by decide))).trans ?_;refine(bI 10 26 rfl rfl ⟨rfl,rfl⟩ (by simp[(e 10 26 (by decide))];rfl) (h 10 26 (by decide))).trans ?_;refine(bI 11 27 rfl rfl ⟨rfl,rfl⟩ (by simp[(e 11 27 (by decide))];rfl) (h 11 27 (by decide))).trans ?_;refine aQ 17 (by simp) (oH _) hc ?_;simpa [eU,iK,closed]using hc0
def aMx{t t':List AV}{o o' o1 o2:List aI}{a b c d e:aI}(h5:o[5]? =some a)(h14:o[14]? =some b)(hb:a.box=false/\b.box=false)(e1:((o.set 5 b).set 14 a).map (aI.oM 5 14)=o1)(h6:o1[6]? =some c)(h15:o1[15]? =some d)(hd:c.box=false/\d.box=false)(e2:((o1.set 6 d).set 15 c).map (aI.oM 6 15)=o2)(h12:o2[12]? =some e)(e3:o2.set 12 ⟨false,false,0,e.bY,[]⟩=o')(w1:wk (uG 5 14 t) t')(w2:wk (uG 6 15 t') t'):mZ ⟨t,o⟩ ⟨t',o'⟩:=
 (bI 5 14 h5 h14 hb e1 w1).trans ((bI 6 15 h6 h15 hd e2 w2).trans (XD 12 h12 e3 (oH _)))
def pO(l ss:List bE):List bE:=ss.foldl mO l
def Ii(l ss:List bE)(k:Nat)(h:k<ss.length):pO l (ss.take (k+1))=mO (pO l (ss.take k)) ss[k]:=by unfold pO;rw[fN h,DQ];rfl
def KV(l:List bE):∀ss:List bE,(pO l ss).length<=l.length+ss.length:=by
 intro ss;induction ss generalizing l with
 |nil=>simp[pO]
 |cons s ss ih=>
  have h1:(mO l s).length<=l.length+1:=by unfold mO;split<;>simp
  have h2:=ih (mO l s);have e:pO l (s::ss)=pO (mO l s) ss:=rfl;rw[e];simp only[eL];omega
def jN(p:aF)(l:List jV)(w:Bool):aF:=
 {p with aC:=(fQ p.aC (eX p) l).1,log:=pO p.log (fQ p.aC (eX p) l).2.2,bT:=if w=true then pF (fQ p.aC (eX p) l).2.1++p.bT else p.bT}
def XE{α:Type}{f:α->Option Int}{l:List α}{k:Nat}{v:Int}(h:look f l k=some v):∃x∈l,f x=some v:=by unfold look at h;obtain⟨x,hx,hv⟩:=exists_of_findSome?_eq_some h;exact⟨x,tA (mem_reverse.1 hx),hv⟩
def O3{q:bE}{r:Gr}(h:wY q=some r):1<=r.color/\r.color<=999:=by
 unfold wY at h;split at h
 .split at h
  .rename_i hc;obtain rfl:=cX h;exact hc.2
  .cases h
 .cases h
def zH(p:aF)(n:bE):0<=bS (eX p) n/\bS (eX p) n<=999:=by
 unfold bS;cases h:look (AP n) (eX p) (eX p).length with
 |none=>simp
 |some v=>
  obtain⟨s,hs,hv⟩:=XE h;unfold AP at hv;obtain⟨r,hr,Pt⟩:=XE hv;unfold JU at Pt;split at Pt
  .obtain rfl:=cX Pt;unfold eX qG at hs;obtain⟨y,_,rfl⟩:=zE.1 hs;have h1:=tA hr;obtain⟨q,_,hq⟩:=mem_filterMap.1 h1;have:=O3 hq;simp only[sB];omega
  .cases Pt
def Ey(p:aF):(eX p).length<=p.aD.length/\∀x∈eX p,x.mF.length<=8:=by refine⟨FV _,?_⟩;intro x hx;unfold eX qG at hx;obtain⟨y,_,rfl⟩:=zE.1 hx;exact ll (dQ 59 y.body)
def aH9{s:bE}(h:dW s=true):s.length<=8:=by simp only[dW,eK,fY]at h;omega
def CS{s:bE}{op:Nat}{v:jV×Bool}(h:nT s op=some v)(hb:v.2=true):v.1.text.length<=60:=by
 unfold nT at h;split at h
 .obtain rfl:=cX h;simp only at hb⊢;unfold jX at hb;split at hb
  .simpa using hb
  .have:=aH9 hb;omega
 .cases h
def YY{α:Type}{a b:Option α}{v:α}(h:a.or b=some v):a=some v\/b=some v:=by
 cases a with
 |none=>exact .inr (by simpa using h)
 |some x=>exact .inl (by simpa using h)
def VW(p:bE)(h:(dV p).2=true):(dV p).1.text.length<=60:=by
 unfold dV at h⊢;cases hv:((((nT p 1).or (nT p 2)).or (nT p 3)).or (nT p 4)).or (nT p 5)with
 |none=>simp
 |some v=>
  rw[hv]at h;simp only[sB]at h⊢;rcases YY hv with hv|hv
  .rcases YY hv with hv|hv
   .rcases YY hv with hv|hv
    .rcases YY hv with hv|hv
     .exact CS hv h
     .exact CS hv h
    .exact CS hv h
   .exact CS hv h
  .exact CS hv h
def Bi(s:bE):(gM s).1.length<=6/\∀x∈(gM s).1,x.text.length<=60:=by
 unfold gM;split
 .simp
 .split
  .rename_i h;refine⟨by simpa using h.2,?_⟩;intro x hx;obtain⟨p,hp,rfl⟩:=zE.1 hx;exact VW p (fW.1 h.1 p hp)
  .simp
def ou(s b:bE):aW (dR s b).1<=s.length+b.length:=by have h:=vL 47 s;unfold dR addrOf;split<;>split<;>simp[aW,yR]<;>omega
def addEntry(p:aF)(tx:bE):aF:=
 if (dR tx p.gZ.bN).2=false\/20<=p.bJ.length then p else {fF p (dR tx p.gZ.bN).1 with bJ:=p.bJ++[(dR tx p.gZ.bN).1]}
def ow(p:aF)(a:aR)(e:List aR):fF {p with bJ:=e} a={fF p a with bJ:=e}:=by
 unfold fF;simp only;split
 .split<;>rfl
 .rfl
def aDd(p:aF)(a:aR):(fF p a).bJ=p.bJ:=by
 unfold fF;split
 .split<;>rfl
 .rfl
def QP[aG prog](p:aF)(tx:bE)(hs:aM p<=536870914)(hto:tx.length<=536870914):Ok prog 162 [.agg (aH .view p),.str tx] (.agg (aH .own (addEntry p tx))):=by
 have hsl:p.gZ.bN.length<=536870914:=by simp only[aM,aW]at hs;omega
 have OJ:p.bJ.length<=536870914:=by simp only[aM,dS]at hs;omega
 have c1:=lM p (by omega);have c3:=AO tx p.gZ.bN (by omega);have hsz:=ou tx p.gZ.bN;unfold addEntry;generalize dR tx p.gZ.bN=pa at*;obtain⟨a,ok⟩:=pa;simp only at c3 hsz⊢;have c4:=EZ {p with bJ:=p.bJ++[a]} a (by simp only[aM,dS,eR,lL,bU,eL,fL]at hs⊢;omega) (by omega);rw[ow]at c4;obtain⟨l1,hl1⟩:∃l,l=p.bJ++[a]:=⟨_,rfl⟩;have hap:p.bJ.map aS++[[.str a.bN,.str a.iD]]=l1.map aS:=by rw[hl1];simp
 rw[<-hl1]at c4⊢;clear hl1;generalize fF p a=g at*;simp only[aH,aS]at c1 c3 c4;cases ok
 .simp only[true_or,eS];refine dN aK func162 ntmps162 ?_;refine bK ?_;exact aO results162
 .by_cases Ju:20<=p.bJ.length
  .have O6:(20:Int)<=(p.bJ.length:Int):=by omega
   simp only[Ju,or_true,eS];refine dN aK func162 ntmps162 ?_;have W:=O6;refine we ?_;exact aO results162
  .have O6:¬(20:Int)<=(p.bJ.length:Int):=by omega
   rw[eC (by rintro(h|h);cases h;exact Ju h)];refine dN aK func162 ntmps162 ?_;have W:=aA O6 hap;refine we ?_;exact aO results162
def QQ[aG prog](p:aF)(tx:bE)(hs:aM p<=536870914)(hto:tx.length<=536870914):Ok prog 174 [.agg (aH .view p),.str tx] (.agg (aH .own (addEntry p tx))):=by
 have hsl:p.gZ.bN.length<=536870914:=by simp only[aM,aW]at hs;omega
 have OJ:p.bJ.length<=536870914:=by simp only[aM,dS]at hs;omega
 have c1:=jH p (by omega);have c3:=AL tx p.gZ.bN (by omega);have hsz:=ou tx p.gZ.bN;unfold addEntry;generalize dR tx p.gZ.bN=pa at*;obtain⟨a,ok⟩:=pa;simp only at c3 hsz⊢;have c4:=Fa p a (by omega) (by omega);have hke:=aDd p a;obtain⟨l1,hl1⟩:∃l,l=p.bJ++[a]:=⟨_,rfl⟩;have hap:p.bJ.map aS++[[.str a.bN,.str a.iD]]=l1.map aS:=by rw[hl1];simp
 rw[<-hl1];clear hl1;generalize fF p a=g at*;simp only[aH,aS]at c1 c3 c4;rw[hke]at c4;cases ok
 .simp only[true_or,eS];refine dN aK func174 ntmps174 ?_;refine bK ?_;exact aO results174
 .by_cases Ju:20<=p.bJ.length
  .have O6:(20:Int)<=(p.bJ.length:Int):=by omega
   simp only[Ju,or_true,eS];refine dN aK func174 ntmps174 ?_;have W:=O6;refine we ?_;exact aO results174
  .have O6:¬(20:Int)<=(p.bJ.length:Int):=by omega
   rw[eC (by rintro(h|h);cases h;exact Ju h)];refine dN aK func174 ntmps174 ?_;have W:=aA O6 hap;refine we ?_;exact aO results174
def vC:List (Nat×Nat):=[(2,14),(3,15),(4,16),(5,17),(6,18),(7,19),(8,20),(9,21),(10,22),(11,23),(12,24)]
def XV{t t':List AV}{o o':List aI}{l1 l2 l3 l4 l5 l6 l7 l8 l9 l10 l11:Bool}{u n1 v1 n2 v2 n3 v3 n4 v4 n5 v5 n6 v6 n7 v7 n8 v8 n9 v9 n10 v10 n11 v11:Nat}{e1 e2 e3 e4 e5 e6 e7 e8 e9 e10 e11:List (List AV)}{o0 o1 z0:aI}{q:aF}(ho:o=[o0,o1,⟨l1,false,n1,v1,e1⟩,⟨l2,false,n2,v2,e2⟩,⟨l3,false,n3,v3,e3⟩,⟨l4,false,n4,v4,e4⟩,⟨l5,false,n5,v5,e5⟩,⟨l6,false,n6,v6,e6⟩,⟨l7,false,n7,v7,e7⟩,⟨l8,false,n8,v8,e8⟩,⟨l9,false,n9,v9,e9⟩,⟨l10,false,n10,v10,e10⟩,⟨l11,false,n11,v11,e11⟩,⟨true,true,22,u,[Fj 14 q]⟩]++Fh q++[z0])
  (ho':o'=[o0,o1]++Fh q++[⟨true,true,22,u,[Fj 2 q]⟩]) (ht:∀z∈vC,wk (uG z.1 z.2 t') t') (hf:∀z∈vC,o0.oM z.1 z.2=o0/\o1.oM z.1 z.2=o1) (hw:wk t t') (hc:iK 14 t'=true) (hc0:eU 14 [o0,o1]=true):mZ ⟨t,o⟩ ⟨t',o'⟩:=by
 subst ho;subst ho';have e:=λi j (h:(i,j)∈vC)=>hf (i,j) h
 have h:=λi j (h:(i,j)∈vC)=>ht (i,j) h
 simp only[Fh,Fj,cW,eA,eE];refine(zS hw).trans ?_;refine(bI 2 14 rfl rfl ⟨rfl,rfl⟩ (by simp[(e 2 14 (by decide))];rfl) (h 2 14 (by decide))).trans ?_;refine(bI 3 15 rfl rfl ⟨rfl,rfl⟩ (by simp[(e 3 15 (by decide))];rfl) (h 3 15 (by decide))).trans ?_;refine(bI 4 16 rfl rfl ⟨rfl,rfl⟩ (by simp[(e 4 16 (by decide))];rfl) (h 4 16 (by decide))).trans ?_;refine(bI 5 17 rfl rfl ⟨rfl,rfl⟩ (by simp[(e 5 17 (by decide))];rfl) (h 5 17 (by decide))).trans ?_;refine(bI 6 18 rfl rfl ⟨rfl,rfl⟩ (by simp[(e 6 18 (by decide))];rfl) (h 6 18 (by decide))).trans ?_;refine(bI 7 19 rfl rfl ⟨rfl,rfl⟩ (by simp[(e 7 19 (by decide))];rfl) (h 7 19 (by decide))).trans ?_;refine(bI 8 20 rfl rfl ⟨rfl,rfl⟩ (by simp[(e 8 20 (by decide))];rfl) (h 8 20 (by decide))).trans ?_;refine(bI 9 21 rfl rfl ⟨rfl,rfl⟩ (by simp[(e 9 21 (by decide))];rfl) (h 9 21 (by decide))).trans ?_;refine(bI 10 22 rfl rfl ⟨rfl,rfl⟩ (by simp[(e 10 22 (by decide))];rfl) (h 10 22 (by decide))).trans ?_;refine(bI 11 23 rfl rfl ⟨rfl,rfl⟩ (by simp[(e 11 23 (by decide))];rfl) (h 11 23 (by decide))).trans ?_;refine(bI 12 24 rfl rfl ⟨rfl,rfl⟩ (by simp[(e 12 24 (by decide))];rfl) (h 12 24 (by decide))).trans ?_;refine aQ 14 (by simp) (oH _) hc ?_;simpa [eU,iK,closed,GP]using hc0
def vD:List (Nat×Nat):=[(2,26),(3,27),(4,28),(5,29),(6,30),(7,31),(8,32),(9,33),(10,34),(11,35),(12,36)]
def XW{t t':List AV}{o o':List aI}{l1 l2 l3 l4 l5 l6 l7 l8 l9 l10 l11:Bool}{u n1 v1 n2 v2 n3 v3 n4 v4 n5 v5 n6 v6 n7 v7 n8 v8 n9 v9 n10 v10 n11 v11:Nat}{e1 e2 e3 e4 e5 e6 e7 e8 e9 e10 e11:List (List AV)}{o0 o1 m0 m1 m2 m3 m4 m5 m6 m7 m8 m9 m10 m11:aI}{q:aF}(ho:o=[o0,o1,⟨l1,false,n1,v1,e1⟩,⟨l2,false,n2,v2,e2⟩,⟨l3,false,n3,v3,e3⟩,⟨l4,false,n4,v4,e4⟩,⟨l5,false,n5,v5,e5⟩,⟨l6,false,n6,v6,e6⟩,⟨l7,false,n7,v7,e7⟩,⟨l8,false,n8,v8,e8⟩,⟨l9,false,n9,v9,e9⟩,⟨l10,false,n10,v10,e10⟩,⟨l11,false,n11,v11,e11⟩,⟨true,true,22,u,[Fj 26 q]⟩,m0,m1,m2,m3,m4,m5,m6,m7,m8,m9,m10,m11]++Fh q++[])
  (ho':o'=[o0,o1]++Fh q++[⟨true,true,22,u,[Fj 2 q]⟩]) (ht:∀z∈vD,wk (uG z.1 z.2 t') t') (hf:∀z∈vD,o0.oM z.1 z.2=o0/\o1.oM z.1 z.2=o1) (hw:wk t t') (hc:iK 14 t'=true) (hc0:eU 14 [o0,o1]=true):mZ ⟨t,o⟩ ⟨t',o'⟩:=by
 subst ho;subst ho';have e:=λi j (h:(i,j)∈vD)=>hf (i,j) h
 have h:=λi j (h:(i,j)∈vD)=>ht (i,j) h
 simp only[Fh,Fj,cW,eA,eE];refine(zS hw).trans ?_;refine(bI 2 26 rfl rfl ⟨rfl,rfl⟩ (by simp[(e 2 26 (by decide))];rfl) (h 2 26 (by decide))).trans ?_;refine(bI 3 27 rfl rfl ⟨rfl,rfl⟩ (by simp[(e 3 27 (by decide))];rfl) (h 3 27 (by decide))).trans ?_;refine(bI 4 28 rfl rfl ⟨rfl,rfl⟩ (by simp[(e 4 28 (by decide))];rfl) (h 4 28 (by decide))).trans ?_;refine(bI 5 29 rfl rfl ⟨rfl,rfl⟩ (by simp[(e 5 29 (by decide))];rfl) (h 5 29 (by decide))).trans ?_;refine(bI 6 30 rfl rfl ⟨rfl,rfl⟩ (by simp[(e 6 30 (by decide))];rfl) (h 6 30 (by decide))).trans ?_;refine(bI 7 31 rfl rfl ⟨rfl,rfl⟩ (by simp[(e 7 31 (by decide))];rfl) (h 7 31 (by decide))).trans ?_;refine(bI 8 32 rfl rfl ⟨rfl,rfl⟩ (by simp[(e 8 32 (by decide))];rfl) (h 8 32 (by decide))).trans ?_;refine(bI 9 33 rfl rfl ⟨rfl,rfl⟩ (by simp[(e 9 33 (by decide))];rfl) (h 9 33 (by decide))).trans ?_;refine(bI 10 34 rfl rfl ⟨rfl,rfl⟩ (by simp[(e 10 34 (by decide))];rfl) (h 10 34 (by decide))).trans ?_;refine(bI 11 35 rfl rfl ⟨rfl,rfl⟩ (by simp[(e 11 35 (by decide))];rfl) (h 11 35 (by decide))).trans ?_;refine(bI 12 36 rfl rfl ⟨rfl,rfl⟩ (by simp[(e 12 36 (by decide))];rfl) (h 12 36 (by decide))).trans ?_;refine aQ 14 (by simp) (oH _) hc ?_;simpa [eU,iK,closed,GP]using hc0
def aNz(a b:qF):EqA prog 64 (uL a) (uL b) (decide (a=b)):=
 Ua (f:=6) (ss:=[.int .i64,.str,.str,.str,.int .i64,.bool,.int .i64,.str]) (by decide) (by kernel_rfl) (by kernel_rfl) (by kernel_rfl) (by kernel_rfl) (by simp[uV,Ga]) (by simp[uV,Ga]) (by obtain⟨m,⟨t1,t2⟩,d,n,o,c,bo⟩:=a;obtain⟨m2,⟨u1,u2⟩,d2,n2,o2,c2,bo2⟩:=b;simp[GP])
def aD9(a b:fO):EqA prog 67 (gH a) (gH b) (decide (a=b)):=
 Ua (f:=6) (ss:=[.str,.str,.bool,.int .i64,.str]) (by decide) (by kernel_rfl) (by kernel_rfl) (by kernel_rfl) (by kernel_rfl) (by simp[uV,Ga]) (by simp[uV,Ga]) (by obtain⟨⟨t1,t2⟩,o,c,bo⟩:=a;obtain⟨⟨u1,u2⟩,o2,c2,bo2⟩:=b;simp[GP])
def ZF[aG prog](a b:List qF)(hl:a.length<=1099511627776):Ok prog 24 [.sl .view 8 (a.map uL),.sl .view 8 (b.map uL)] (.bool (decide (a=b))):=by
 refine dN aK func24 ntmps24 ?_;have W:=trivial;repeat' first|refine wg ?_|(refine sq ?_ ?_<;>intro hc<;>try exact hc.elim)|fail
 .all_goals try(refine bA ?_;simp[bB,results24])
  exact IM (by omega)
 .have dF:=hc;refine aT (ι:={k:Nat // k<=a.length/\a.take k=b.take k}) (λt o i=>⟨bP t [(13,.int .i64 i.1),(5,.aB)],o⟩)
   (λi=>a.length-i.1) ⟨0,by simp,by simp⟩ aP ?_
  rintro⟨k,hk,hi⟩ K1 hK1;simp only[bP,cH,cQ]at hK1⊢;have hk1:=tQ (k:=k);by_cases hlt:k<a.length
  .have hg:=aE hlt;have hg2:=aE (show k<b.length by omega);have yA:k<b.length:=by omega
   have W:=aA hk1 (aA hg (aA hg2 (aA hlt yA)));repeat' first|refine wg ?_|(refine nx ?_;refine sk (hc:=aNz a[k] (b[k]'(by omega))) (h:=?_))|(refine sq ?_ ?_<;>intro hc<;>try exact hc.elim)|fail
   .all_goals try(refine bA ?_;simp[bB,results24])
    exact QD hlt yA hc
   .exact hK1 _ ⟨k+1,by omega,tF hi hlt yA hc⟩ aP (by simp only;omega)
  .have W:=hk1;refine wl ?_;all_goals try(refine bA ?_;simp[bB,results24])
   exact vF (by omega) hlt hi
def Vq[aG prog](a b:List fO)(hl:a.length<=1099511627776):Ok prog 25 [.sl .view 5 (a.map gH),.sl .view 5 (b.map gH)] (.bool (decide (a=b))):=by
 refine dN aK func25 ntmps25 ?_;have W:=trivial;repeat' first|refine wg ?_|(refine sq ?_ ?_<;>intro hc<;>try exact hc.elim)|fail
 .all_goals try(refine bA ?_;simp[bB,results25])
  exact IM (by omega)
 .have dF:=hc;refine aT (ι:={k:Nat // k<=a.length/\a.take k=b.take k}) (λt o i=>⟨bP t [(13,.int .i64 i.1),(5,.aB)],o⟩)
   (λi=>a.length-i.1) ⟨0,by simp,by simp⟩ aP ?_
  rintro⟨k,hk,hi⟩ K1 hK1;simp only[bP,cH,cQ]at hK1⊢;have hk1:=tQ (k:=k);by_cases hlt:k<a.length
  .have hg:=aE hlt;have hg2:=aE (show k<b.length by omega);have yA:k<b.length:=by omega
   have W:=aA hk1 (aA hg (aA hg2 (aA hlt yA)));repeat' first|refine wg ?_|(refine nx ?_;refine sk (hc:=aD9 a[k] (b[k]'(by omega))) (h:=?_))|(refine sq ?_ ?_<;>intro hc<;>try exact hc.elim)|fail
   .all_goals try(refine bA ?_;simp[bB,results25])
    exact QD hlt yA hc
   .exact hK1 _ ⟨k+1,by omega,tF hi hlt yA hc⟩ aP (by simp only;omega)
  .have W:=hk1;refine wl ?_;all_goals try(refine bA ?_;simp[bB,results25])
   exact vF (by omega) hlt hi
def ND[aG prog](a b:List aR)(hl:a.length<=1099511627776):Ok prog 26 [.sl .view 2 (a.map aS),.sl .view 2 (b.map aS)] (.bool (decide (a=b))):=by
 refine dN aK func26 ntmps26 ?_;have W:=trivial;repeat' first|refine wg ?_|(refine sq ?_ ?_<;>intro hc<;>try exact hc.elim)|fail
 .all_goals try(refine bA ?_;simp[bB,results26])
  exact IM (by omega)
 .have dF:=hc;refine aT (ι:={k:Nat // k<=a.length/\a.take k=b.take k}) (λt o i=>⟨bP t [(13,.int .i64 i.1),(5,.aB)],o⟩)
   (λi=>a.length-i.1) ⟨0,by simp,by simp⟩ aP ?_
  rintro⟨k,hk,hi⟩ K1 hK1;simp only[bP,cH,cQ]at hK1⊢;have hk1:=tQ (k:=k);by_cases hlt:k<a.length
  .have hg:=aE hlt;have hg2:=aE (show k<b.length by omega);have yA:k<b.length:=by omega
   have W:=aA hk1 (aA hg (aA hg2 (aA hlt yA)));repeat' first|refine wg ?_|(refine nx ?_;refine sk (hc:=vP a[k] (b[k]'(by omega))) (h:=?_))|(refine sq ?_ ?_<;>intro hc<;>try exact hc.elim)|fail
   .all_goals try(refine bA ?_;simp[bB,results26])
    exact QD hlt yA hc
   .exact hK1 _ ⟨k+1,by omega,tF hi hlt yA hc⟩ aP (by simp only;omega)
  .have W:=hk1;refine wl ?_;all_goals try(refine bA ?_;simp[bB,results26])
   exact vF (by omega) hlt hi
def aJt{a b:bM}:a=b↔a.kind=b.kind/\a.name=b.name/\a.iH=b.iH/\a.text=b.text:=by cases a;cases b;simp
def Vr[aG prog](a b:bM)(hl:a.iH.length<=1099511627776):Ok prog 22 [.agg (dK .view a),.agg (dK .view b)] (.bool (decide (a=b))):=by
 have c1:=NC a.iH b.iH hl;rw[show decide (a=b)=decide (a.kind=b.kind/\a.name=b.name/\a.iH=b.iH/\a.text=b.text)by rw[sC];exact aJt];refine dN aK func22 ntmps22 ?_;have W:=trivial;repeat' first|refine wg ?_|(refine sq ?_ ?_<;>intro hc<;>try exact hc.elim)|fail
 all_goals try(refine bA ?_;simp[bB,results22])
 all_goals (first|(simp_all;done)|(simp_all;rw[Hi];simp))
def NG[aG prog](a b:List bM)(hl:dS dU a<=1099511627776):Ok prog 21 [.sl .view 4 (a.map (dK .view)),.sl .view 4 (b.map (dK .view)),.fn 22 []] (.bool (decide (a=b))):=by
 simp only[dS]at hl;refine dN aK func21 ntmps21 ?_;have W:=trivial;repeat' first|refine wg ?_|(refine sq ?_ ?_<;>intro hc<;>try exact hc.elim)|fail
 .all_goals try(refine bA ?_;simp[bB,results21])
  exact IM (by omega)
 .have dF:=hc;refine aT (ι:={k:Nat // k<=a.length/\a.take k=b.take k}) (λt o i=>⟨bP t [(17,.int .i64 i.1),(7,.aB)],o⟩)
   (λi=>a.length-i.1) ⟨0,by simp,by simp⟩ aP ?_
  rintro⟨k,hk,hi⟩ K1 hK1;simp only[bP,cH,cQ]at hK1⊢;have hk1:=tQ (k:=k);by_cases hlt:k<a.length
  .have hg:=aE hlt;have yA:k<b.length:=by omega
   have hg2:=aE yA;have hz:=iU dU a k hlt;simp only[dU,dS]at hz;have c1:=Vr a[k] b[k] (by omega);simp only[dK]at c1;have W:=aA hk1 (aA hg (aA hg2 (aA hlt yA)));repeat' first|refine wg ?_|(refine sq ?_ ?_<;>intro hc<;>try exact hc.elim)|fail
   .all_goals try(refine bA ?_;simp[bB,results21])
    exact QD hlt yA (by simpa using hc)
   .exact hK1 _ ⟨k+1,by omega,tF hi hlt yA (by simpa using hc)⟩ (aQ 0) (by simp only;omega)
  .have W:=hk1;refine wl ?_;all_goals try(refine bA ?_;simp[bB,results21])
   exact vF (by omega) hlt hi
def w9{a b:bC}:a=b↔a.aJ=b.aJ/\a.bD=b.bD:=by cases a;cases b;simp
def Pm[aG prog](a b:bC)(hl:aV a<=1099511627776):Ok prog 23 [.agg (aZ .view a),.agg (aZ .view b)] (.bool (decide (a=b))):=by
 have c1:=Pk a.aJ b.aJ (by simp only[aV]at hl;omega);have c2:=xm a.bD b.bD (by simp only[aV]at hl;omega);rw[show decide (a=b)=decide (a.aJ=b.aJ/\a.bD=b.bD)by rw[sC];exact w9];refine dN aK func23 ntmps23 ?_;have W:=trivial;repeat' first|refine wg ?_|(refine sq ?_ ?_<;>intro hc<;>try exact hc.elim)|fail
 all_goals try(refine bA ?_;simp[bB,results23])
 all_goals simp_all
def Pn[aG prog](a:gG)(hl:eT a<=1099511627776):Ok prog 20 [.agg (dA .view a),.agg (dA .view a)] (.bool true):=by have c1:=Eu a.iN a.iN (by simp only[eT,dS]at hl;omega);have c2:=Eu a.kH a.kH (by simp only[eT,dS]at hl;omega);have c3:=Eu a.kJ a.kJ (by simp only[eT,dS]at hl;omega);simp only[Dg]at c1 c2 c3;refine dN aK func20 ntmps20 ?_;refine bZ ?_;exact aO results20
def ZG(a b:nN):EqA prog 30 (fU a) (fU b) (decide (a=b)):=
 Ua (f:=6) (ss:=[.str]) (by decide) (by kernel_rfl) (by kernel_rfl) (by kernel_rfl) (by kernel_rfl) (by simp[uV,Ga]) (by simp[uV,Ga]) (by obtain⟨x⟩:=a;obtain⟨y⟩:=b;simp)
def Ke[aG prog](a:aF)(hl:aM a<=1099511627776):Ok prog 7 [.agg (aH .view a),.agg (aH .view a)] (.bool true):=by have c0:=Pn a.bO (by simp only[aM]at hl;omega);have c1:=NG a.bT a.bT (by simp only[aM]at hl;omega);have c2:=Pm a.aC a.aC (by simp only[aM]at hl;omega);have c3:=ZF a.aD a.aD (by simp only[aM,dS]at hl;omega);have c4:=Vq a.aL a.aL (by simp only[aM,dS]at hl;omega);have c5:=ND a.bJ a.bJ (by simp only[aM,dS]at hl;omega);have c6:=ND a.uN a.uN (by simp only[aM,dS]at hl;omega);have c7:=Eu a.log a.log (by simp only[aM,dS]at hl;omega);simp only[Dg,dA,aZ]at c0 c1 c2 c3 c4 c5 c6 c7;refine dN aK func7 ntmps7 ?_;have c0:=vP a.gZ a.gZ;have c1:=ZG a.tok a.tok;refine bZ ?_;exact aO results7
end Go.Proofs.YtanobkmhbpjnpaaGreatDoor
