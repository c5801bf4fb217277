/- Proved here: steps towards the statement of this claim. No condition. -/
import Derived.Test.YtjmpjmilndkgfaaGreatDoorZQSPP
import Derived.Test.YtjmpjmilndkgfaaGreatDoorZTK9
set_option linter.all false
set_option maxRecDepth 8000
set_option maxHeartbeats 8000000
namespace Go.Proofs.YtjmpjmilndkgfaaGreatDoor
open Go.Aw Proofs.Tryz List IntKind
theorem KN [aC prog] [eH prog] [dD prog] [qQ prog] (p:aI) (hs:aF p<=536870912):Ok prog 81 [.agg (aJ .view p)] (.iJ [.agg (aJ .own (kC p).1),.bool (kC p).2]):=by
 have c1:=jC p (by omega);have hsb:aP p.builder<=536870912:=by simp only [aF] at hs;omega
 have hsl:p.aB.length<=536870912:=by simp only [aF,bV] at hs;omega
 have c2:=BB p (by omega);have hbd:∀s∈p.aB,s.body.length<=536870912:=λs hm=>by have:=Rn gQ hm;simp only [aF,bV,gQ] at hs this;omega
 unfold kC;by_cases hin:p.inline=0
 .rw [cY (by simp [hin])];by_cases hbk:p.block=0
  .rw [cY (by simp [hbk])];have c3:=Mv p hs;generalize jB p=r at *;obtain ⟨q,b⟩:=r;simp only [aJ,hin,hbk] at c1 c2 c3⊢;clear hbd;refine bR aD func81 ntmps81 ?_;have W:=aA hin hbk;refine we ?_;exact aK results81
  .rw [eK hbk];generalize hk:i64.wrap (p.block - 1)=k;unfold Dp;by_cases h0:0<=k
   .rw [eK h0];obtain ⟨kn,rfl⟩:=mN h0;rw [mC];have hk0:¬(kn:Int) < 0:=by omega
    by_cases hlt:kn < p.aB.length
    .have hg:=aE hlt;have hlen:¬(p.aB.length:Int)<=(kn:Int):=by omega
     rw [hg];simp only;have aEq:=hbd _ (fR hlt);cases hd:p.aB[kn].done
     .rw [cY (by simp)];simp only [aJ,hin] at c1 c2⊢;clear hbd;refine bR aD func81 ntmps81 ?_;have W:=aA hin (aA hbk (aA hk (aA hk0 (aA hlen (aA hg (aA hlt hd))))));refine we ?_;exact aK results81
     .generalize p.aB.all nO=uk at *;cases uk
      .rw [cY (by simp)];simp only [aJ,hin] at c1 c2⊢;clear hbd;refine bR aD func81 ntmps81 ?_;have W:=aA hin (aA hbk (aA hk (aA hk0 (aA hlen (aA hg (aA hlt hd))))));refine we ?_;exact aK results81
      .rw [eK ⟨rfl,rfl⟩];by_cases Xu:p.aB[kn].code=1
       .rw [eK Xu];have c4:=Bo p p.aB[kn].body true hs (by omega);generalize mM p p.aB[kn].body true=q at *;simp only [aJ,hin] at c1 c2 c4⊢;clear hbd;refine bR aD func81 ntmps81 ?_;have W:=aA hin (aA hbk (aA hk (aA hk0 (aA hlen (aA hg (aA hlt (aA hd Xu)))))));refine we ?_;exact aK results81
       .rw [cY Xu];simp only [aJ,hin] at c1 c2⊢;clear hbd;refine bR aD func81 ntmps81 ?_;have W:=aA hin (aA hbk (aA hk (aA hk0 (aA hlen (aA hg (aA hlt (aA hd Xu)))))));refine we ?_;exact aK results81
    .have hg:p.aB[kn]? =none:=oY (by omega);have hlen:(p.aB.length:Int)<=(kn:Int):=by omega
     rw [hg];simp only;simp only [aJ,hin] at c1 c2⊢;clear hbd;refine bR aD func81 ntmps81 ?_;have W:=aA hin (aA hbk (aA hk (aA hk0 hlen)));refine we ?_;exact aK results81
   .rw [cY h0];have hk0:k < 0:=by omega
    simp only [aJ,hin] at c1 c2⊢;clear hbd;refine bR aD func81 ntmps81 ?_;have W:=aA hin (aA hbk (aA hk hk0));refine we ?_;exact aK results81
 .rw [eK hin];generalize p.aB.all nO=uk at *;cases uk
  .rw [cY (by simp)];simp only [aJ] at c1 c2⊢;clear hbd;refine bR aD func81 ntmps81 ?_;have W:=hin;refine we ?_;exact aK results81
  .rw [eK rfl];have c3:=TY p.builder p.inline (by omega);have htl:=Rm p.builder p.inline;generalize BC p.builder p.inline=tx at *;have c4:=Bo p tx true hs (by omega);generalize mM p tx true=q at *;simp only [aJ,aS] at c1 c2 c3 c4⊢;clear hbd;refine bR aD func81 ntmps81 ?_;have W:=hin;refine we ?_;exact aK results81
end Go.Proofs.YtjmpjmilndkgfaaGreatDoor
