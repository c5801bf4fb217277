/- Proved here: steps towards the statement of this claim. No condition. -/
import Derived.Test.YtnkpkklemmgapaaGreatDoorZQSPP
import Derived.Test.YtnkpkklemmgapaaGreatDoorZTKA
set_option linter.all false
set_option maxRecDepth 8000
set_option maxHeartbeats 8000000
namespace Go.Proofs.YtnkpkklemmgapaaGreatDoor
open Go.Aw Proofs.Tryz List IntKind
theorem KA[aB prog][eO prog][dY prog][pM prog](p:aC)(hs:aM p<=536870912):Ok prog 106 [.agg (aQ .view p)] (.iP [.agg (aQ .own (kR p).1),.bool (kR p).2]):=by
 have c1:=fQ p (by omega);have hsb:aS p.builder<=536870912:=by simp only[aM]at hs;omega
 have hsl:p.aF.length<=536870912:=by simp only[aM,bV]at hs;omega
 have c2:=Az p (by omega);have hbd:∀s∈p.aF,s.body.length<=536870912:=λs hm=>by have:=Yy iU hm;simp only[aM,bV,iU]at hs this;omega
 unfold kR;by_cases hin:p.inline=0
 .rw [eK (by simp[hin])];by_cases hbk:p.block=0
  .rw [eK (by simp[hbk])];have c3:=LU p hs;generalize kX p=r at*;obtain⟨q,b⟩:=r;simp only[aQ,hin,hbk]at c1 c2 c3⊢;clear hbd;refine dL aO func106 ntmps106 ?_;have W:=aA hin hbk;refine we ?_;exact aR results106
  .rw [eW hbk];generalize hk:i64.wrap (p.block-1)=k;unfold Aa;by_cases h0:0<=k
   .rw [eW h0];obtain⟨kn,rfl⟩:=iS h0;rw[pD];have hk0:¬(kn:Int)<0:=by omega
    by_cases hlt:kn<p.aF.length
    .have hg:=aE hlt;have hlen:¬(p.aF.length:Int)<=(kn:Int):=by omega
     rw[hg];simp only;have aPy:=hbd _ (hI hlt);have wu:i64.wrap ((p.aF.length:Int)-1)=(p.aF.length:Int)-1:=by rw[wrap64]<;>omega
     have c5:=eX (kn:Int) 0 ((p.aF.length:Int)-1);rw[show(decide ((0:Int)<=(kn:Int))&&decide ((kn:Int)<=(p.aF.length:Int)-1))=true from by simp;omega]at c5;cases hd:p.aF[kn].done
     .rw [eK (by simp)];simp only[aQ,hin]at c1 c2⊢;clear hbd;refine dL aO func106 ntmps106 ?_;have W:=aA hin (aA hbk (aA hk (aA hk0 (aA hlen (aA hg (aA hlt (aA hd wu)))))));refine we ?_;exact aR results106
     .generalize p.aF.all vE=rdy at*;cases rdy
      .rw [eK (by simp)];simp only[aQ,hin]at c1 c2⊢;clear hbd;refine dL aO func106 ntmps106 ?_;have W:=aA hin (aA hbk (aA hk (aA hk0 (aA hlen (aA hg (aA hlt (aA hd wu)))))));refine we ?_;exact aR results106
      .rw [eW ⟨rfl,rfl⟩];by_cases hcd:p.aF[kn].code=1
       .rw [eW hcd];have c4:=Ao p p.aF[kn].body true hs (by omega);generalize lU p p.aF[kn].body true=q at*;simp only[aQ,hin]at c1 c2 c4⊢;clear hbd;refine dL aO func106 ntmps106 ?_;have W:=aA hin (aA hbk (aA hk (aA hk0 (aA hlen (aA hg (aA hlt (aA hd (aA hcd wu))))))));refine we ?_;exact aR results106
       .rw [eK hcd];simp only[aQ,hin]at c1 c2⊢;clear hbd;refine dL aO func106 ntmps106 ?_;have W:=aA hin (aA hbk (aA hk (aA hk0 (aA hlen (aA hg (aA hlt (aA hd (aA hcd wu))))))));refine we ?_;exact aR results106
    .have hg:p.aF[kn]? =none:=pP (by omega);have hlen:(p.aF.length:Int)<=(kn:Int):=by omega
     rw[hg];simp only;have wu:i64.wrap ((p.aF.length:Int)-1)=(p.aF.length:Int)-1:=by rw[wrap64]<;>omega
     have c5:=eX (kn:Int) 0 ((p.aF.length:Int)-1);rw[show(decide ((0:Int)<=(kn:Int))&&decide ((kn:Int)<=(p.aF.length:Int)-1))=false from by simp;omega]at c5;simp only[aQ,hin]at c1 c2⊢;clear hbd;refine dL aO func106 ntmps106 ?_;have W:=aA hin (aA hbk (aA hk (aA hk0 (aA hlen wu))));refine we ?_;exact aR results106
   .rw [eK h0];have hk0:k<0:=by omega
    have wu:i64.wrap ((p.aF.length:Int)-1)=(p.aF.length:Int)-1:=by rw[wrap64]<;>omega
    have c5:=eX k 0 ((p.aF.length:Int)-1);rw[show(decide ((0:Int)<=k)&&decide (k<=(p.aF.length:Int)-1))=false from by simp;omega]at c5;simp only[aQ,hin]at c1 c2⊢;clear hbd;refine dL aO func106 ntmps106 ?_;have W:=aA hin (aA hbk (aA hk (aA hk0 wu)));refine we ?_;exact aR results106
 .rw [eW hin];generalize p.aF.all vE=rdy at*;cases rdy
  .rw [eK (by simp)];simp only[aQ]at c1 c2⊢;clear hbd;refine dL aO func106 ntmps106 ?_;have W:=hin;refine we ?_;exact aR results106
  .rw [eW rfl];have c3:=Sn p.builder p.inline (by omega);have htl:=kr p.builder p.inline;generalize IJ p.builder p.inline=tx at*;have c4:=Ao p tx true hs (by omega);generalize lU p tx true=q at*;simp only[aQ,aW]at c1 c2 c3 c4⊢;clear hbd;refine dL aO func106 ntmps106 ?_;have W:=hin;refine we ?_;exact aR results106
end Go.Proofs.YtnkpkklemmgapaaGreatDoor
