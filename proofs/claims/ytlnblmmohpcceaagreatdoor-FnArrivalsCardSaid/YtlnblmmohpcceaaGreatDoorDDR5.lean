/-
  Proved here: steps towards the statement of this claim, text DR5.
  No condition beyond what each statement spells out.
-/
import Derived.Test.YtlnblmmohpcceaaGreatDoorDDR4
import Derived.Test.YtlnblmmohpcceaaGreatDoorDF8
set_option linter.all false
set_option maxRecDepth 4000
set_option maxHeartbeats 4000000
namespace Go.Proofs.YtlnblmmohpcceaaGreatDoor
open Go.Aw
theorem zL [aB Tryz.prog]:aAs Tryz.prog 27:=by
 refine aP4 Tryz.mix Tryz.func27 Tryz.ntmps27 ?_
 intro code hl
 simp only [maxLen] at hl
 have W:=trivial
 repeat' first|refine wl ?_|(refine sq (fun hc=>?_) (fun hc=>?_)<;>try exact hc.elim)|fail
 refine aS (ι:={x:Nat×Int // x.1≤code.length}) (fun t o y=>⟨aP t [(3,.int .i64 y.1.2),(4,.int .i64 (y.1.1:Int))],o⟩)
  (fun y=>code.length - y.1.1) ⟨(0,IntKind.i64.wrap (193017+(code.length:Int))),by simp⟩ (aL (by simp) (by simp)) ?_
 rintro ⟨⟨k,g⟩,hk⟩ K1 hK1
 simp only at hk
 simp only [aP,List.set_cons_succ,List.set_cons_zero] at hK1⊢
 by_cases hlt:k < code.length
 ·have h1:(k:Int) < (code.length:Int):=by omega
  by_cases h2:(k:Int) < 4000
  ·have hg:=aB1 (List.getElem?_eq_getElem hlt)
   generalize code[k]=c at *
   have hk1:IntKind.i64.wrap ((k:Int)+1)=((k+1:Nat):Int):=by rw [wrap64]<;>omega
   have W:=And.intro h1 (And.intro h2 (And.intro hg hk1))
   repeat' first|refine wl ?_|(refine sq (fun hc=>?_) (fun hc=>?_)<;>try exact hc.elim)|fail
   refine hK1 _ ⟨(k+1,mR .and .i64 (IntKind.i64.wrap (IntKind.i64.wrap (IntKind.i64.wrap (g * 137)+IntKind.i64.wrap (c.toNat:Int))+11)) 1073741823),by simp only;omega⟩ ?_ (by simp only;omega)
   exact aL (by simp) (by simp)
  ·have W:=And.intro h1 h2
   repeat' first|refine wl ?_|(refine sq (fun hc=>?_) (fun hc=>?_)<;>try exact hc.elim)|fail
   refine ⟨.inr rfl,0,0,0,_,by first|(simp [Tryz.results27];done)|(simp [Tryz.results27];rfl),by first|rfl|(simp [aD];done)|(simp [aD];rfl),by omega⟩
 ·have h1:¬(k:Int) < (code.length:Int):=by omega
  have W:=h1
  repeat' first|refine wl ?_|(refine sq (fun hc=>?_) (fun hc=>?_)<;>try exact hc.elim)|fail
  refine ⟨.inr rfl,0,0,0,_,by first|(simp [Tryz.results27];done)|(simp [Tryz.results27];rfl),by first|rfl|(simp [aD];done)|(simp [aD];rfl),by omega⟩
end Go.Proofs.YtlnblmmohpcceaaGreatDoor
