/- Proved here: steps towards the statement of this claim. No condition. -/
import Derived.Test.YtfbefblglejcaaaGreatDoorZQB4
set_option linter.all false
set_option maxRecDepth 4000
set_option maxHeartbeats 4000000
namespace Go.Proofs.YtfbefblglejcaaaGreatDoor
open Go.Aw Proofs.Tryz List IntKind
theorem Jc[aC prog](c:oV)(top:bB)(a:aK)(now:Int)(hl:c.entries.length<=1099511627776):Ok prog 59 [.agg (gU .view c),.str top,.agg (aL a),.int .i64 now] (.gT [.agg (bF (xA c top a now).1),.bool (xA c top a now).2]):=by
 have c2:=AO;simp only[bF]at c2;unfold xA;refine bM aF func59 ntmps59 ?_;refine aY ?_;refine aO (ι:={k:Nat // k<=c.entries.length/\∀x∈c.entries.take k,Bb top a now x=false}) (λt o i=>⟨bC t [(10,.int .i64 i.1)],o⟩)
  (λi=>c.entries.length-i.1) ⟨0,by simp,by simp⟩ aJ ?_
 rintro⟨k,hk,hi⟩ K1 hK1;simp only[bC,cW,cU]at hK1⊢;have hk1:=oQ (k:=k);by_cases hlt:k<c.entries.length
 .have hg:=aE hlt;have hnx:Bb top a now c.entries[k]=false->∀x∈c.entries.take (k+1),Bb top a now x=false:=λh=>cB hlt hi h
  have hfd:Bb top a now c.entries[k]=true->c.entries.find? (Bb top a now)=some c.entries[k]:=λh=>O1 hlt h hi
  by_cases h1:c.entries[k].top=top
  .have KG:(c.entries[k].top == top)=true:=by simp[h1]
   by_cases h2:c.entries[k].to=a
   .by_cases h3:now<=c.entries[k].til
    .rw [hfd (by simp[Bb,h1,h2,h3])];have W:=aA hk1 (aA hg (aA hlt (aA KG (aA h2 h3))));have c0:=oC a a;refine we ?_;exact aD results59
    .have hnx:=hnx (by simp[Bb,h3]);have W:=aA hk1 (aA hg (aA hlt (aA KG (aA h2 h3))));have c0:=oC a a;refine we ?_;exact hK1 _ ⟨k+1,by omega,hnx⟩ aJ (by simp only;omega)
   .have hnx:=hnx (by simp[Bb,h2]);have W:=aA hk1 (aA hg (aA hlt (aA KG h2)));have c0:=oC c.entries[k].to a;refine we ?_;exact hK1 _ ⟨k+1,by omega,hnx⟩ aJ (by simp only;omega)
  .have KG:(c.entries[k].top == top)=false:=by simp[h1]
   have hnx:=hnx (by simp[Bb,KG]);have W:=aA hk1 (aA hg (aA hlt KG));refine we ?_;exact hK1 _ ⟨k+1,by omega,hnx⟩ aJ (by simp only;omega)
 .rw [N9 (iR (by omega) hi)];have W:=hk1;refine we ?_;exact aD results59
def eZ(n:lW)(top:bB)(a:aK):aZ:=
 if oZ a=false then notFound else if (xA n.cache top a n.now).2=true then(xA n.cache top a n.now).1 else sO n.gD a
end Go.Proofs.YtfbefblglejcaaaGreatDoor
