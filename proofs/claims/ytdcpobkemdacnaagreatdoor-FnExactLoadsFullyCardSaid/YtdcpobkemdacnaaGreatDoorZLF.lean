/-
  Proved here: steps towards the statement of this claim, text LF.
  No condition beyond what each statement spells out.
-/
import Derived.Test.YtdcpobkemdacnaaGreatDoorZLP1
import Derived.Test.YtdcpobkemdacnaaGreatDoorZLP2
set_option linter.all false
set_option maxRecDepth 8000
set_option maxHeartbeats 8000000
namespace Go.Proofs.YtdcpobkemdacnaaGreatDoor
open Go.Aw Proofs.Tryz List IntKind
theorem PD [aC prog] [dK prog] [bR prog] [mZ prog] (p:aG):Ok prog 15 [.agg (aI .view p)] (.bool p.lY):=by refine bO aD func15 ntmps15 ?_;refine gY ?_;exact aF results15
theorem PE [aC prog] [dK prog] [bR prog] [mZ prog] (p:aG):Ok prog 20 [.agg (aI .view p)] (.bool p.lY):=by refine bO aD func20 ntmps20 ?_;refine gY ?_;exact aF results20
theorem LX [aC prog] [dK prog] [bR prog] [mZ prog] (n:nN) (a:aK) (hs:nO n+aQ a<=1048576):Ok prog 6 [.agg (mP .view n),.agg (aL a)] (.bool ((iZ n a).2&&(iZ n a).1.2.lY)):=by
 have c1:=(Nt n a hs).FP (r':= .gZ [.agg (mP .view (iZ n a).1.1),.agg (aI .view (iZ n a).1.2),.bool (iZ n a).2]) (by simp [rt,xM]);generalize iZ n a=g at *;obtain ⟨⟨m,p⟩,b⟩:=g;have c2:=PD p;simp only [mP,aL,aI] at c1 c2⊢;cases b
 .refine bO aD func6 ntmps6 ?_;refine gY ?_;exact aF results6
 .refine bO aD func6 ntmps6 ?_;refine gY ?_;exact aF results6
theorem LY [aC prog] [dK prog] [bR prog] [mZ prog] (n:nN) (a:aK) (hs:nO n+aQ a<=1048576):Ok prog 9 [.agg (mP .view n),.agg (aL a)] (.bool ((iZ n a).2&&(iZ n a).1.2.lY)):=by
 have c1:=(Nv n a hs).FP (r':= .gZ [.agg (mP .view (iZ n a).1.1),.agg (aI .view (iZ n a).1.2),.bool (iZ n a).2]) (by simp [rt,xM]);generalize iZ n a=g at *;obtain ⟨⟨m,p⟩,b⟩:=g;have c2:=PE p;simp only [mP,aL,aI] at c1 c2⊢;cases b
 .refine bO aD func9 ntmps9 ?_;refine gY ?_;exact aF results9
 .refine bO aD func9 ntmps9 ?_;refine gY ?_;exact aF results9
end Go.Proofs.YtdcpobkemdacnaaGreatDoor
