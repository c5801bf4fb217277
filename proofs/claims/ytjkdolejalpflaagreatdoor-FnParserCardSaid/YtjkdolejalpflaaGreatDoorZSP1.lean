/- Proved here: steps towards the statement of this claim. No condition. -/
import Derived.Test.YtjkdolejalpflaaGreatDoorZQRCA
import Derived.Test.YtjkdolejalpflaaGreatDoorZTK9
set_option linter.all false
set_option maxRecDepth 8000
set_option maxHeartbeats 8000000
namespace Go.Proofs.YtjkdolejalpflaaGreatDoor
open Go.Aw Proofs.Tryz List IntKind
theorem Gu[aB prog][eD prog][eZ prog][oO prog](p:aW)(hs:aK p<=536870912):Ok prog 6 [.agg (aL .view p)] (.fH [.agg (aL .own (eO p).1),.bool (eO p).2]):=by
 have c1:=kV p (by omega);have hsb:aF p.builder<=536870912:=by simp only[aK]at hs;omega
 have hsl:p.aG.length<=536870912:=by simp only[aK,dL]at hs;omega
 have c2:=xL p (by omega);have NS:∀s∈p.aG,s.body.length<=536870912:=λs hm=>by have:=Ms lN hm;simp only[aK,dL,lN]at hs this;omega
 unfold eO;by_cases hin:p.inline=0
 .rw [cU (by simp[hin])];by_cases hbk:p.block=0
  .rw [cU (by simp[hbk])];have c3:=Ak p hs;generalize dJ p=r at*;obtain⟨q,b⟩:=r;simp only[aL,hin,hbk]at c1 c2 c3⊢;clear NS;refine dA aJ func6 ntmps6 ?_;have W:=aA hin hbk;refine we ?_;exact aO results6
  .rw [eA hbk];generalize hk:i64.wrap (p.block-1)=k;unfold uR;by_cases h0:0<=k
   .rw [eA h0];obtain⟨kn,rfl⟩:=fX h0;rw[rK];have hk0:¬(kn:Int)<0:=by omega
    by_cases hlt:kn<p.aG.length
    .have hg:=aE hlt;have hlen:¬(p.aG.length:Int)<=(kn:Int):=by omega
     rw[hg];simp only;have aFm:=NS _ (mL hlt);cases hd:p.aG[kn].done
     .rw [cU (by simp)];simp only[aL,hin]at c1 c2⊢;clear NS;refine dA aJ func6 ntmps6 ?_;have W:=aA hin (aA hbk (aA hk (aA hk0 (aA hlen (aA hg (aA hlt hd))))));refine we ?_;exact aO results6
     .generalize p.aG.all oW=rdy at*;cases rdy
      .rw [cU (by simp)];simp only[aL,hin]at c1 c2⊢;clear NS;refine dA aJ func6 ntmps6 ?_;have W:=aA hin (aA hbk (aA hk (aA hk0 (aA hlen (aA hg (aA hlt hd))))));refine we ?_;exact aO results6
      .rw [eA ⟨rfl,rfl⟩];by_cases L9:p.aG[kn].code=1
       .rw [eA L9];have c4:=xH p p.aG[kn].body true hs (by omega);generalize jU p p.aG[kn].body true=q at*;simp only[aL,hin]at c1 c2 c4⊢;clear NS;refine dA aJ func6 ntmps6 ?_;have W:=aA hin (aA hbk (aA hk (aA hk0 (aA hlen (aA hg (aA hlt (aA hd L9)))))));refine we ?_;exact aO results6
       .rw [cU L9];simp only[aL,hin]at c1 c2⊢;clear NS;refine dA aJ func6 ntmps6 ?_;have W:=aA hin (aA hbk (aA hk (aA hk0 (aA hlen (aA hg (aA hlt (aA hd L9)))))));refine we ?_;exact aO results6
    .have hg:p.aG[kn]? =none:=pH (by omega);have hlen:(p.aG.length:Int)<=(kn:Int):=by omega
     rw[hg];simp only;simp only[aL,hin]at c1 c2⊢;clear NS;refine dA aJ func6 ntmps6 ?_;have W:=aA hin (aA hbk (aA hk (aA hk0 hlen)));refine we ?_;exact aO results6
   .rw [cU h0];have hk0:k<0:=by omega
    simp only[aL,hin]at c1 c2⊢;clear NS;refine dA aJ func6 ntmps6 ?_;have W:=aA hin (aA hbk (aA hk hk0));refine we ?_;exact aO results6
 .rw [eA hin];generalize p.aG.all oW=rdy at*;cases rdy
  .rw [cU (by simp)];simp only[aL]at c1 c2⊢;clear NS;refine dA aJ func6 ntmps6 ?_;have W:=hin;refine we ?_;exact aO results6
  .rw [eA rfl];have c3:=NG p.builder p.inline (by omega);have htl:=Mr p.builder p.inline;generalize xM p.builder p.inline=tx at*;have c4:=xH p tx true hs (by omega);generalize jU p tx true=q at*;simp only[aL,aH]at c1 c2 c3 c4⊢;clear NS;refine dA aJ func6 ntmps6 ?_;have W:=hin;refine we ?_;exact aO results6
end Go.Proofs.YtjkdolejalpflaaGreatDoor
