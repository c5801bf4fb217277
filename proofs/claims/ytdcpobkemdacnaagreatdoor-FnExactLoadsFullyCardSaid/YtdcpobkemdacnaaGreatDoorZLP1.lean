/-
  Proved here: steps towards the statement of this claim, text LP1.
  No condition beyond what each statement spells out.
-/
import Derived.Test.YtdcpobkemdacnaaGreatDoorZQAD1
import Derived.Test.YtdcpobkemdacnaaGreatDoorZQKE1
set_option linter.all false
set_option maxRecDepth 8000
set_option maxHeartbeats 8000000
namespace Go.Proofs.YtdcpobkemdacnaaGreatDoor
open Go.Aw Proofs.Tryz List IntKind
theorem Nt [aC prog] [dK prog] [bR prog] [mZ prog] (n:nN) (a:aK) (hs:nO n+aQ a<=1048576):Ok prog 14 [.agg (mP .view n),.agg (aL a)] (.gZ [.agg (mP .own (iZ n a).1.1),.agg (aI .own (iZ n a).1.2),.bool (iZ n a).2]):=by
 have hn:=Xz n (by omega);have hah:a.host.length<=aQ a:=by simp only [aQ];omega
 have c1:=IG n a.host a hn (by omega) (by omega);have hx:=zZ hn a.host a;have JQ:=Tf n a hs;unfold iZ;have hst:DR a (fC n a.host a)=advance (kZ (dN (dS a (fC n a.host a)).1 (fC n a.host a).body)):=rfl;generalize fC n a.host a=x at *;have c2:=(Ry a x (by omega) (by omega)).FP (r':= .gZ [.agg (aI .view (dS a x).1),.bool (dS a x).2]) (by simp [rt,xM]);obtain ⟨z1,z2,z3⟩:=Td a x (by omega) hx;have hbe:=Te a x (by omega) hx;have c3:=(LD (dS a x).1 x.body (by omega) (by simp only [bI] at hx;omega)).FP (r':= .agg (aI .view (dN (dS a x).1 x.body))) (by simp [rt]);have c4:=(Tc (dN (dS a x).1 x.body) (by omega)).FP (r':= .agg (aI .view (kZ (dN (dS a x).1 x.body)))) (by simp [rt]);cases nT:(dS a x).2
 .rw [eI rfl];rw [nT] at c2;generalize (dS a x).1=p0 at *;generalize jY n a.host a=m at *;clear c3 c4 JQ hbe;simp only [mP,aL,aI,bG] at c1 c2⊢;refine xL aD func14 ntmps14 ?_;refine gY ?_;all_goals try(first|(refine ⟨.inr rfl,.inl ?_⟩;simp [aH,results14,rZ,oM];done)|(refine ⟨.inr rfl,.inr (dA ?_)⟩;simp [AS.vV,AS.uS,AS.rv,results14,rZ,oM];done)|(refine ⟨.inr rfl,.inr (Dt ?_)⟩;simp [AS.rvC,AS.vV,AS.uS,AS.rv,results14,rZ,oM];done)|(refine ⟨.inr rfl,.inl ?_⟩;simp [aH,results14,rZ,oM]))
 .rw [cX (by simp)];rw [nT] at c2;have JQ:=JQ nT;have c5:=Fe (kZ (dN (dS a x).1 x.body)) (hbe nT) (by omega) (by omega) (by decide) (by decide);rw [hst] at JQ⊢;generalize advance (kZ (dN (dS a x).1 x.body))=q0 at *;generalize kZ (dN (dS a x).1 x.body)=p2 at *;generalize dN (dS a x).1 x.body=p1 at *;generalize (dS a x).1=p0 at *;generalize jY n a.host a=m at *;clear hbe hst z1 z2 z3 hx nT;simp only [mP,aL,aI,bG] at c1 c2 c3 c4 c5⊢;refine xL aD func14 ntmps14 ?_;refine gY ?_;obtain ⟨r,hr⟩:∃r,r=vO 200 a.host m q0:=⟨_,rfl⟩;rw [<-hr];refine aP (ι:={x:Nat×nN×aG // x.1<=200/\OD (2+x.1) a.host x.2.1 x.2.2/\vO (200 - x.1) a.host x.2.1 x.2.2=r}) (λt o i=>⟨bE t [(11,.int .i64 i.1.1),(12,.undef),(13,.undef),(14,.undef),(15,.undef),(20,.undef),(21,.undef),(38,.undef)],o.take 4++ic i.1.2.1++[⟨true,true,4,0,[ig 4 i.1.2.1]⟩]++(o.drop 8).take 1++[⟨true,true,22,0,[yR 10 i.1.2.2]⟩]++yQ i.1.2.2⟩)
   (λi=>200 - i.1.1) ⟨(0,m,q0),by simp,JQ,hr.symm⟩ (aO (by simp [yQ,yR,ic,ig]) (by simp)) ?_
  rintro ⟨⟨k,n1,p1⟩,hk,nT,qO⟩ K1 hK1;simp only at hk nT qO;clear JQ hr c1 c2 c3 c4 c5 hn hs;have hk1:=oW (k:=k);by_cases hlt:k < 200
  .have hki:(k:Int) < 200:=by omega
   obtain ⟨hz,hnz⟩:=nT.sz (by omega);have hsl:=nT.on.sl;have hmz:=nT.on.sz.2;have c6:=(Nl p1 (by omega) (by simp only [bT] at hmz;omega)).FP (r':= .sl .view 5 ((qH p1).map dF)) (by simp [rt]);have hK2:=hK1;simp only [bE,cW,cU,eL,fS,pB,AF,eA,eM,yQ,yR,ic,ig] at hK1⊢;cases Qo:qH p1 with
   |nil=>
    have hge:(n1,p1)=r:=by rw [<-qO,show 200 - k=(200 - (k+1))+1 by omega,vO,Qo]
    clear hK2 hK1 nT qO;subst hge;rw [Qo] at c6;simp only [aI] at c6⊢;have W:=hki;refine wl ?_;all_goals try(first|(refine ⟨.inr rfl,.inl ?_⟩;simp [aH,results14];done)|(refine ⟨.inr rfl,.inr (dA ?_)⟩;simp [AS.vV,AS.uS,AS.rv,results14];done)|(refine ⟨.inr rfl,.inr (Dt ?_)⟩;simp [AS.rvC,AS.vV,AS.uS,AS.rv,results14];done)|(refine ⟨.inr rfl,.inl ?_⟩;simp [aH,results14]))
   |cons r1 rs=>
    have hnx:=Wy (by omega) nT Qo;have hra:=Np (p:=p1) (r:=r1) (by rw [Qo];simp);have c7:=IG n1 a.host r1.to nT.net (by omega) (by have:=nT.hl;omega);have hxr:=zZ nT.net a.host r1.to;have c8:=LQ p1 r1.to (fC n1 a.host r1.to) nT.on (by omega) (by omega) (by decide) (by decide) (by omega) hxr;have hgn:vO (200 - (k+1)) a.host (jY n1 a.host r1.to) (nE p1 r1.to (fC n1 a.host r1.to))=r:=by rw [<-qO,show 200 - k=(200 - (k+1))+1 by omega,vO,Qo]
    rw [Qo] at c6;generalize fC n1 a.host r1.to=y at *;generalize jY n1 a.host r1.to=n2 at *;generalize nE p1 r1.to y=p2 at *;clear hz hnz hsl hmz hra Qo hxr;simp only [aI,mP,aL,bG] at c6 c7 c8;have W:=aA hki hk1;refine wl ?_;refine hK2 _ ⟨(k+1,n2,p2),by simp only;omega,hnx,hgn⟩ ?_ (by simp only;omega);exact aE2 (m:=n2) (q:=p2) rfl (by simp [yQ,yR,ic,ig]) (by simp [zG]) (by simp [zG]) (by simp) (by simp) (by simp [dE])
  .have hki:¬(k:Int) < 200:=by omega
   obtain rfl:k=200:=by omega
   have hge:(n1,p1)=r:=by simpa [vO] using qO
   simp only [bE,cW,cU,eL,fS,pB,AF,eA,eM,yQ,yR,ic,ig] at hK1⊢;clear hK1 nT qO;subst hge;simp only [aI,mP];refine gY ?_;all_goals try(first|(refine ⟨.inr rfl,.inl ?_⟩;simp [aH,results14];done)|(refine ⟨.inr rfl,.inr (dA ?_)⟩;simp [AS.vV,AS.uS,AS.rv,results14];done)|(refine ⟨.inr rfl,.inr (Dt ?_)⟩;simp [AS.rvC,AS.vV,AS.uS,AS.rv,results14];done)|(refine ⟨.inr rfl,.inl ?_⟩;simp [aH,results14]))
end Go.Proofs.YtdcpobkemdacnaaGreatDoor
