/-
  Proved here: steps towards the statement of this claim, text LP2.
  No condition beyond what each statement spells out.
-/
import Derived.Test.YtdcpobkemdacnaaGreatDoorZQAD1
import Derived.Test.YtdcpobkemdacnaaGreatDoorZQKE1
set_option linter.all false
set_option maxRecDepth 8000
set_option maxHeartbeats 8000000
namespace Go.Proofs.YtdcpobkemdacnaaGreatDoor
open Go.Aw Proofs.Tryz List IntKind
theorem LW [aC prog] [dK prog] [bR prog] [mZ prog] {h:bB} (n:nN) (p:aG) (JQ:OD 2 h n p):Ma prog 42 [.oK (.agg (mP .own n)),.oK (.agg (aI .own p))] (.gZ [.agg (mP .own (vO 200 h n p).1),.agg (aI .own (vO 200 h n p).2)]):=by
 obtain ⟨r,hr⟩:∃r,r=vO 200 h n p:=⟨_,rfl⟩;rw [<-hr];refine rO aD func42 ntmps42 ?_;refine gY ?_;refine aP (ι:={x:Nat×nN×aG // x.1<=200/\OD (2+x.1) h x.2.1 x.2.2/\vO (200 - x.1) h x.2.1 x.2.2=r}) (λt o i=>⟨bE t [(0,.undef),(1,.undef),(6,.int .i64 i.1.1),(7,.undef),(8,.undef),(9,.undef)],ic i.1.2.1++yQ i.1.2.2++[⟨true,true,4,0,[ig 0 i.1.2.1]⟩,⟨true,true,22,0,[yR 3 i.1.2.2]⟩]++o.drop 16⟩)
  (λi=>200 - i.1.1) ⟨(0,n,p),by simp,JQ,hr.symm⟩ (aO (by simp [yQ,yR,ic,ig]) (by simp)) ?_
 rintro ⟨⟨k,n1,p1⟩,hk,nT,qO⟩ K1 hK1;simp only at hk nT qO;clear JQ hr;have hk1:=oW (k:=k);by_cases hlt:k < 200
 .have hki:(k:Int) < 200:=by omega
  obtain ⟨hz,hnz⟩:=nT.sz (by omega);have hsl:=nT.on.sl;have hmz:=nT.on.sz.2;have c6:=(Nn p1 (by omega) (by simp only [bT] at hmz;omega)).FP (r':= .sl .view 5 ((qH p1).map dF)) (by simp [rt]);have hK2:=hK1;simp only [bE,cW,cU,pB,AF,eA,eM,yQ,yR,ic,ig] at hK1⊢;cases Qo:qH p1 with
  |nil=>
   have hge:(n1,p1)=r:=by rw [<-qO,show 200 - k=(200 - (k+1))+1 by omega,vO,Qo]
   clear hK2 hK1 nT qO;subst hge;rw [Qo] at c6;simp only [aI] at c6⊢;have W:=hki;refine wl ?_;all_goals try(refine ⟨by first|exact .inr rfl|exact .inl rfl,?_⟩;simp [gJ,dL,dJ,rowOf,results42])
  |cons r1 rs=>
   have hnx:=Wy (by omega) nT Qo;have hra:=Np (p:=p1) (r:=r1) (by rw [Qo];simp);have hho:=nT.ho;have c7:=IE n1 h r1.to nT.net (by omega) (by have:=nT.hl;omega);rw [<-hho] at c7;have hxr:=zZ nT.net h r1.to;have c8:=LV p1 r1.to (fC n1 h r1.to) nT.on (by omega) (by omega) (by decide) (by decide) (by omega) hxr;have hgn:vO (200 - (k+1)) h (jY n1 h r1.to) (nE p1 r1.to (fC n1 h r1.to))=r:=by rw [<-qO,show 200 - k=(200 - (k+1))+1 by omega,vO,Qo]
   rw [Qo] at c6;rw [hho] at c7;generalize fC n1 h r1.to=y at *;generalize jY n1 h r1.to=n2 at *;rw [<-hho] at c7;generalize nE p1 r1.to y=p2 at *;clear hz hnz hsl hmz hra Qo hxr hho;simp only [aI,mP,aL,bG] at c6 c7 c8;have W:=aA hki hk1;refine wl ?_;refine hK2 _ ⟨(k+1,n2,p2),by simp only;omega,hnx,hgn⟩ ?_ (by simp only;omega);exact aE3 (m:=n2) (q:=p2) rfl (by simp [yQ,yR,ic,ig]) (by simp [zH]) (by simp [zH]) (by simp) (by simp) (by simp [dE])
 .have hki:¬(k:Int) < 200:=by omega
  obtain rfl:k=200:=by omega
  have hge:(n1,p1)=r:=by simpa [vO] using qO
  simp only [bE,cW,cU,pB,AF,eA,eM,yQ,yR,ic,ig] at hK1⊢;clear hK1 nT qO;subst hge;simp only [aI,mP];refine gY ?_;all_goals try(refine ⟨by first|exact .inr rfl|exact .inl rfl,?_⟩;simp [gJ,dL,dJ,rowOf,results42])
theorem Nv [aC prog] [dK prog] [bR prog] [mZ prog] (n:nN) (a:aK) (hs:nO n+aQ a<=1048576):Ok prog 19 [.agg (mP .view n),.agg (aL a)] (.gZ [.agg (mP .own (iZ n a).1.1),.agg (aI .own (iZ n a).1.2),.bool (iZ n a).2]):=by
 have hn:=Xz n (by omega);have hah:a.host.length<=aQ a:=by simp only [aQ];omega
 have c1:=IE n a.host a hn (by omega) (by omega);have hx:=zZ hn a.host a;have JQ:=Tf n a hs;unfold iZ;have hst:DR a (fC n a.host a)=advance (kZ (dN (dS a (fC n a.host a)).1 (fC n a.host a).body)):=rfl;generalize fC n a.host a=x at *;have c2:=(Rx a x (by omega) (by omega)).FP (r':= .gZ [.agg (aI .view (dS a x).1),.bool (dS a x).2]) (by simp [rt,xM]);obtain ⟨z1,z2,z3⟩:=Td a x (by omega) hx;have hbe:=Te a x (by omega) hx;have c3:=(LC (dS a x).1 x.body (by omega) (by simp only [bI] at hx;omega)).FP (r':= .agg (aI .view (dN (dS a x).1 x.body))) (by simp [rt]);have c4:=(Ta (dN (dS a x).1 x.body) (by omega)).FP (r':= .agg (aI .view (kZ (dN (dS a x).1 x.body)))) (by simp [rt]);cases nT:(dS a x).2
 .rw [eI rfl];rw [nT] at c2;generalize (dS a x).1=p0 at *;generalize jY n a.host a=m at *;clear c3 c4 JQ hbe;simp only [mP,aL,aI,bG] at c1 c2⊢;refine xL aD func19 ntmps19 ?_;refine gY ?_;all_goals try(first|(refine ⟨.inr rfl,.inl ?_⟩;simp [aH,results19,rZ,oM];done)|(refine ⟨.inr rfl,.inr (dA ?_)⟩;simp [AS.vV,AS.uS,AS.rv,results19,rZ,oM];done)|(refine ⟨.inr rfl,.inr (Dt ?_)⟩;simp [AS.rvC,AS.vV,AS.uS,AS.rv,results19,rZ,oM];done)|(refine ⟨.inr rfl,.inl ?_⟩;simp [aH,results19,rZ,oM]))
 .rw [cX (by simp)];rw [nT] at c2;have JQ:=JQ nT;have c5:=Ff (kZ (dN (dS a x).1 x.body)) (hbe nT) (by omega) (by omega) (by decide) (by decide);rw [hst] at JQ⊢;generalize advance (kZ (dN (dS a x).1 x.body))=q0 at *;generalize kZ (dN (dS a x).1 x.body)=p2 at *;generalize dN (dS a x).1 x.body=p1 at *;generalize (dS a x).1=p0 at *;generalize jY n a.host a=m at *;have c6:=LW m q0 JQ;generalize vO 200 a.host m q0=g at *;clear hbe hst z1 z2 z3 hx nT JQ;simp only [mP,aL,aI,bG] at c1 c2 c3 c4 c5 c6⊢;refine xL aD func19 ntmps19 ?_;have W:=trivial;repeat' first|refine wg ?_|(refine nx ?_;refine sg (hc:=c6) (h:=?_))|(refine sq ?_ ?_<;>intro hc<;>try exact hc.elim)|fail
  all_goals try(first|(refine ⟨.inr rfl,.inl ?_⟩;simp [aH,results19];done)|(refine ⟨.inr rfl,.inr (dA ?_)⟩;simp [AS.vV,AS.uS,AS.rv,results19];done)|(refine ⟨.inr rfl,.inr (Dt ?_)⟩;simp [AS.rvC,AS.vV,AS.uS,AS.rv,results19];done)|(refine ⟨.inr rfl,.inl ?_⟩;simp [aH,results19]))
end Go.Proofs.YtdcpobkemdacnaaGreatDoor
