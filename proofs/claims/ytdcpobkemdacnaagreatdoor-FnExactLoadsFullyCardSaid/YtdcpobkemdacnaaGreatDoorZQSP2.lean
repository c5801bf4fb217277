/- Proved here: steps towards the statement of this claim. No condition. -/
import Derived.Test.YtdcpobkemdacnaaGreatDoorZQRCB
import Derived.Test.YtdcpobkemdacnaaGreatDoorZTKA
import Derived.Test.YtdcpobkemdacnaaGreatDoorZTK9
set_option linter.all false
set_option maxRecDepth 8000
set_option maxHeartbeats 8000000
namespace Go.Proofs.YtdcpobkemdacnaaGreatDoor
open Go.Aw Proofs.Tryz List IntKind
theorem LM [aC prog] [dK prog] [bR prog] [mZ prog] (p:aG) (hs:aJ p<=536870912):Ok prog 58 [.agg (aI .view p)] (.gZ [.agg (aI .own (jG p).1),.bool (jG p).2]):=by
 have c1:=gP p (by omega);have hsb:aS p.builder<=536870912:=by simp only [aJ] at hs;omega
 have hsl:p.aB.length<=536870912:=by simp only [aJ,bT] at hs;omega
 have c2:=BI p (by omega);have hbd:∀s∈p.aB,s.body.length<=536870912:=λs hm=>by have:=Sk lD hm;simp only [aJ,bT,lD] at hs this;omega
 unfold jG;by_cases hin:p.inline=0
 .rw [cX (by simp [hin])];by_cases hbk:p.block=0
  .rw [cX (by simp [hbk])];have c3:=Nq p hs;generalize iN p=r at *;obtain ⟨q,b⟩:=r;simp only [aI,hin,hbk] at c1 c2 c3⊢;clear hbd;refine bO aD func58 ntmps58 ?_;have W:=aA hin hbk;refine we ?_;exact aF results58
  .rw [eI hbk];generalize hk:i64.wrap (p.block - 1)=k;unfold Be;by_cases h0:0<=k
   .rw [eI h0];obtain ⟨kn,rfl⟩:=mB h0;rw [lP];have hk0:¬(kn:Int) < 0:=by omega
    by_cases hlt:kn < p.aB.length
    .have hg:=aE hlt;have hlen:¬(p.aB.length:Int)<=(kn:Int):=by omega
     rw [hg];simp only;have aEw:=hbd _ (fN hlt);have hw1:i64.wrap ((p.aB.length:Int) - 1)=(p.aB.length:Int) - 1:=by rw [wrap64]<;>omega
     have c5:=gK (kn:Int) 0 ((p.aB.length:Int) - 1);rw [show (decide ((0:Int)<=(kn:Int))&&decide ((kn:Int)<=(p.aB.length:Int) - 1))=true from by simp;omega] at c5;cases hd:p.aB[kn].done
     .rw [cX (by simp)];simp only [aI,hin] at c1 c2⊢;clear hbd;refine bO aD func58 ntmps58 ?_;have W:=aA hin (aA hbk (aA hk (aA hk0 (aA hlen (aA hg (aA hlt (aA hd hw1)))))));refine we ?_;exact aF results58
     .generalize p.aB.all nZ=wm at *;cases wm
      .rw [cX (by simp)];simp only [aI,hin] at c1 c2⊢;clear hbd;refine bO aD func58 ntmps58 ?_;have W:=aA hin (aA hbk (aA hk (aA hk0 (aA hlen (aA hg (aA hlt (aA hd hw1)))))));refine we ?_;exact aF results58
      .rw [eI ⟨rfl,rfl⟩];by_cases XV:p.aB[kn].code=1
       .rw [eI XV];have c4:=BD p p.aB[kn].body true hs (by omega);generalize lQ p p.aB[kn].body true=q at *;simp only [aI,hin] at c1 c2 c4⊢;clear hbd;refine bO aD func58 ntmps58 ?_;have W:=aA hin (aA hbk (aA hk (aA hk0 (aA hlen (aA hg (aA hlt (aA hd (aA XV hw1))))))));refine we ?_;exact aF results58
       .rw [cX XV];simp only [aI,hin] at c1 c2⊢;clear hbd;refine bO aD func58 ntmps58 ?_;have W:=aA hin (aA hbk (aA hk (aA hk0 (aA hlen (aA hg (aA hlt (aA hd (aA XV hw1))))))));refine we ?_;exact aF results58
    .have hg:p.aB[kn]? =none:=pA (by omega);have hlen:(p.aB.length:Int)<=(kn:Int):=by omega
     rw [hg];simp only;have hw1:i64.wrap ((p.aB.length:Int) - 1)=(p.aB.length:Int) - 1:=by rw [wrap64]<;>omega
     have c5:=gK (kn:Int) 0 ((p.aB.length:Int) - 1);rw [show (decide ((0:Int)<=(kn:Int))&&decide ((kn:Int)<=(p.aB.length:Int) - 1))=false from by simp;omega] at c5;simp only [aI,hin] at c1 c2⊢;clear hbd;refine bO aD func58 ntmps58 ?_;have W:=aA hin (aA hbk (aA hk (aA hk0 (aA hlen hw1))));refine we ?_;exact aF results58
   .rw [cX h0];have hk0:k < 0:=by omega
    have hw1:i64.wrap ((p.aB.length:Int) - 1)=(p.aB.length:Int) - 1:=by rw [wrap64]<;>omega
    have c5:=gK k 0 ((p.aB.length:Int) - 1);rw [show (decide ((0:Int)<=k)&&decide (k<=(p.aB.length:Int) - 1))=false from by simp;omega] at c5;simp only [aI,hin] at c1 c2⊢;clear hbd;refine bO aD func58 ntmps58 ?_;have W:=aA hin (aA hbk (aA hk (aA hk0 hw1)));refine we ?_;exact aF results58
 .rw [eI hin];generalize p.aB.all nZ=wm at *;cases wm
  .rw [cX (by simp)];simp only [aI] at c1 c2⊢;clear hbd;refine bO aD func58 ntmps58 ?_;have W:=hin;refine we ?_;exact aF results58
  .rw [eI rfl];have c3:=UA p.builder p.inline (by omega);have htl:=Sj p.builder p.inline;generalize BK p.builder p.inline=tx at *;have c4:=BD p tx true hs (by omega);generalize lQ p tx true=q at *;simp only [aI,aU] at c1 c2 c3 c4⊢;clear hbd;refine bO aD func58 ntmps58 ?_;have W:=hin;refine we ?_;exact aF results58
theorem LU [aC prog] [dK prog] [bR prog] [mZ prog] (p:aG) (hs:aJ p<=536870912):Ok prog 80 [.agg (aI .view p)] (.gZ [.agg (aI .own (jG p).1),.bool (jG p).2]):=by
 have c1:=iK p (by omega);have hsb:aS p.builder<=536870912:=by simp only [aJ] at hs;omega
 have hsl:p.aB.length<=536870912:=by simp only [aJ,bT] at hs;omega
 have c2:=BJ p (by omega);have hbd:∀s∈p.aB,s.body.length<=536870912:=λs hm=>by have:=Sk lD hm;simp only [aJ,bT,lD] at hs this;omega
 unfold jG;by_cases hin:p.inline=0
 .rw [cX (by simp [hin])];by_cases hbk:p.block=0
  .rw [cX (by simp [hbk])];have c3:=Nu p hs;generalize iN p=r at *;obtain ⟨q,b⟩:=r;simp only [aI,hin,hbk] at c1 c2 c3⊢;clear hbd;refine bO aD func80 ntmps80 ?_;have W:=aA hin hbk;refine we ?_;exact aF results80
  .rw [eI hbk];generalize hk:i64.wrap (p.block - 1)=k;unfold Be;by_cases h0:0<=k
   .rw [eI h0];obtain ⟨kn,rfl⟩:=mB h0;rw [lP];have hk0:¬(kn:Int) < 0:=by omega
    by_cases hlt:kn < p.aB.length
    .have hg:=aE hlt;have hlen:¬(p.aB.length:Int)<=(kn:Int):=by omega
     rw [hg];simp only;have aEw:=hbd _ (fN hlt);cases hd:p.aB[kn].done
     .rw [cX (by simp)];simp only [aI,hin] at c1 c2⊢;clear hbd;refine bO aD func80 ntmps80 ?_;have W:=aA hin (aA hbk (aA hk (aA hk0 (aA hlen (aA hg (aA hlt hd))))));refine we ?_;exact aF results80
     .generalize p.aB.all nZ=wm at *;cases wm
      .rw [cX (by simp)];simp only [aI,hin] at c1 c2⊢;clear hbd;refine bO aD func80 ntmps80 ?_;have W:=aA hin (aA hbk (aA hk (aA hk0 (aA hlen (aA hg (aA hlt hd))))));refine we ?_;exact aF results80
      .rw [eI ⟨rfl,rfl⟩];by_cases XV:p.aB[kn].code=1
       .rw [eI XV];have c4:=BC p p.aB[kn].body true hs (by omega);generalize lQ p p.aB[kn].body true=q at *;simp only [aI,hin] at c1 c2 c4⊢;clear hbd;refine bO aD func80 ntmps80 ?_;have W:=aA hin (aA hbk (aA hk (aA hk0 (aA hlen (aA hg (aA hlt (aA hd XV)))))));refine we ?_;exact aF results80
       .rw [cX XV];simp only [aI,hin] at c1 c2⊢;clear hbd;refine bO aD func80 ntmps80 ?_;have W:=aA hin (aA hbk (aA hk (aA hk0 (aA hlen (aA hg (aA hlt (aA hd XV)))))));refine we ?_;exact aF results80
    .have hg:p.aB[kn]? =none:=pA (by omega);have hlen:(p.aB.length:Int)<=(kn:Int):=by omega
     rw [hg];simp only;simp only [aI,hin] at c1 c2⊢;clear hbd;refine bO aD func80 ntmps80 ?_;have W:=aA hin (aA hbk (aA hk (aA hk0 hlen)));refine we ?_;exact aF results80
   .rw [cX h0];have hk0:k < 0:=by omega
    simp only [aI,hin] at c1 c2⊢;clear hbd;refine bO aD func80 ntmps80 ?_;have W:=aA hin (aA hbk (aA hk hk0));refine we ?_;exact aF results80
 .rw [eI hin];generalize p.aB.all nZ=wm at *;cases wm
  .rw [cX (by simp)];simp only [aI] at c1 c2⊢;clear hbd;refine bO aD func80 ntmps80 ?_;have W:=hin;refine we ?_;exact aF results80
  .rw [eI rfl];have c3:=Uz p.builder p.inline (by omega);have htl:=Sj p.builder p.inline;generalize BK p.builder p.inline=tx at *;have c4:=BC p tx true hs (by omega);generalize lQ p tx true=q at *;simp only [aI,aU] at c1 c2 c3 c4⊢;clear hbd;refine bO aD func80 ntmps80 ?_;have W:=hin;refine we ?_;exact aF results80
end Go.Proofs.YtdcpobkemdacnaaGreatDoor
