/-
  Proved here: steps towards the statement of this claim, text QDR5.
  No condition beyond what each statement spells out.
-/
import Derived.Test.YtejigeoigebhcaaGreatADR4
import Derived.Test.YtejigeoigebhcaaGreatAF8
set_option linter.all false
set_option maxRecDepth 4000
set_option maxHeartbeats 4000000
namespace Go.Proofs.YtejigeoigebhcaaGreat
open Go.Aw
theorem vP [aB Tryz.prog]:aCk Tryz.prog 18:=by
 refine aR6 Tryz.mix Tryz.func18 Tryz.ntmps18 ?_
 intro code hl
 simp only [maxLen] at hl
 have W:=trivial
 repeat' first|refine st ?_|(refine nx ?_;refine so ?_)|(refine cx ?_;refine sc (fun hc=>?_) (fun hc=>?_)<;>try exact hc.elim)|(refine lx ?_;refine sp (fun hc=>?_) (fun hc=>?_)<;>try exact hc.elim)|refine sx ?_ ?_|refine sy ?_ ?_|fail
 refine aQ (ι:={x:Nat×Int // x.1≤code.length}) (fun t o y=>⟨bB t [(3,.int .i64 y.1.2),(4,.int .i64 (y.1.1:Int))],o⟩)
  (fun y=>code.length - y.1.1) ⟨(0,IntKind.i64.wrap (193017+(code.length:Int))),by simp⟩ (aY (by simp) (by simp)) ?_
 rintro ⟨⟨k,g⟩,hk⟩ K1 hK1
 simp only at hk
 simp only [bB,List.set_cons_succ,List.set_cons_zero] at hK1⊢
 by_cases hlt:k < code.length
 ·have h1:(k:Int) < (code.length:Int):=by omega
  by_cases h2:(k:Int) < 4000
  ·have hg:=aDt (List.getElem?_eq_getElem hlt)
   generalize code[k]=c at *
   have hk1:IntKind.i64.wrap ((k:Int)+1)=((k+1:Nat):Int):=by rw [wrap64]<;>omega
   have W:=And.intro h1 (And.intro h2 (And.intro hg hk1))
   repeat' first|refine st ?_|(refine nx ?_;refine so ?_)|(refine cx ?_;refine sc (fun hc=>?_) (fun hc=>?_)<;>try exact hc.elim)|(refine lx ?_;refine sp (fun hc=>?_) (fun hc=>?_)<;>try exact hc.elim)|refine sx ?_ ?_|refine sy ?_ ?_|fail
   refine hK1 _ ⟨(k+1,oD .and .i64 (IntKind.i64.wrap (IntKind.i64.wrap (IntKind.i64.wrap (g * 137)+IntKind.i64.wrap (c.toNat:Int))+11)) 1073741823),by simp only;omega⟩ ?_ (by simp only;omega)
   exact aY (by simp) (by simp)
  ·have W:=And.intro h1 h2
   repeat' first|refine st ?_|(refine nx ?_;refine so ?_)|(refine cx ?_;refine sc (fun hc=>?_) (fun hc=>?_)<;>try exact hc.elim)|(refine lx ?_;refine sp (fun hc=>?_) (fun hc=>?_)<;>try exact hc.elim)|refine sx ?_ ?_|refine sy ?_ ?_|fail
   refine ⟨.inr rfl,0,0,0,_,by first|(simp [Tryz.results18];done)|(simp [Tryz.results18];rfl),by first|rfl|(simp [aD];done)|(simp [aD];rfl),by omega⟩
 ·have h1:¬(k:Int) < (code.length:Int):=by omega
  have W:=h1
  repeat' first|refine st ?_|(refine nx ?_;refine so ?_)|(refine cx ?_;refine sc (fun hc=>?_) (fun hc=>?_)<;>try exact hc.elim)|(refine lx ?_;refine sp (fun hc=>?_) (fun hc=>?_)<;>try exact hc.elim)|refine sx ?_ ?_|refine sy ?_ ?_|fail
  refine ⟨.inr rfl,0,0,0,_,by first|(simp [Tryz.results18];done)|(simp [Tryz.results18];rfl),by first|rfl|(simp [aD];done)|(simp [aD];rfl),by omega⟩
end Go.Proofs.YtejigeoigebhcaaGreat
