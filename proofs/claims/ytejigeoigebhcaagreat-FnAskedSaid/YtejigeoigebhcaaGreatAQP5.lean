/-
  Proved here: steps towards the statement of this claim, text QP5.
  No condition beyond what each statement spells out.
-/
import Derived.Test.YtejigeoigebhcaaGreatAQD1
import Derived.Test.YtejigeoigebhcaaGreatAF5
import Derived.Test.YtejigeoigebhcaaGreatAQU1
set_option linter.all false
set_option maxRecDepth 4000
set_option maxHeartbeats 4000000
namespace Go.Proofs.YtejigeoigebhcaaGreat
open Go.Aw
theorem aBj [aB Tryz.prog] (s:Str) (c:UInt8) (hl:s.length≤1099511627776):Ok Tryz.prog 102 [.str s,.int .u8 c.toNat] (.int .i64 (ixB c s:Nat)):=by
 refine ent Tryz.mix Tryz.func102 Tryz.ntmps102 ?_
 have W:=trivial
 repeat' first|refine st ?_|(refine nx ?_;first|refine se ?_|refine so ?_)|(refine cx ?_;refine sc (fun hc=>?_) (fun hc=>?_)<;>try exact hc.elim)|(refine lx ?_;refine sp (fun hc=>?_) (fun hc=>?_)<;>try exact hc.elim)|refine sx ?_ ?_|refine sy ?_ ?_|fail
 refine aQ (ι:={k:Nat // k≤s.length∧∀x∈s.take k,x≠c}) (fun t o i=>⟨bB t [(5,.int .i64 i.1)],o⟩)
  (fun i=>s.length - i.1) ⟨0,by simp,by simp⟩ (aY (by simp) (by simp)) ?_
 rintro ⟨k,hk,hi⟩ K1 hK1
 simp only [bB,List.set_cons_succ,List.set_cons_zero] at hK1⊢
 have hk1:IntKind.i64.wrap ((k:Int)+1)=((k+1:Nat):Int):=by rw [wrap64]<;>omega
 by_cases hlt:k < s.length
 ·have hg:=List.getElem?_eq_getElem hlt
  have W:=And.intro hk1 (And.intro hg hlt)
  repeat' first|refine st ?_|(refine nx ?_;first|refine se ?_|refine so ?_)|(refine cx ?_;refine sc (fun hc=>?_) (fun hc=>?_)<;>try exact hc.elim)|(refine lx ?_;refine sp (fun hc=>?_) (fun hc=>?_)<;>try exact hc.elim)|refine sx ?_ ?_|refine sy ?_ ?_|fail
  ·have e:=aK0 hlt (UInt8.toNat_inj.1 (by omega)) hi
   rw [e]
   all_goals (try (refine ⟨.inr rfl,?_⟩;simp [Hands,Tryz.results102]))
  ·exact hK1 _ ⟨k+1,by omega,dZ hlt hi (fun h=>hc (by rw [h]))⟩ (aY (by simp) (by simp)) (by simp only;omega)
 ·have e:=aE4 (jA (by omega) hi)
  rw [e]
  have W:=hk1
  repeat' first|refine st ?_|(refine nx ?_;first|refine se ?_|refine so ?_)|(refine cx ?_;refine sc (fun hc=>?_) (fun hc=>?_)<;>try exact hc.elim)|(refine lx ?_;refine sp (fun hc=>?_) (fun hc=>?_)<;>try exact hc.elim)|refine sx ?_ ?_|refine sy ?_ ?_|fail
  all_goals (try (refine ⟨.inr rfl,?_⟩;simp [Hands,Tryz.results102]))
def pfx (p s:Str):Bool:=decide (p.length≤s.length)&&(s.take p.length == p)
theorem aP0 {p s:Str} (h:pfx p s=true):p.length≤s.length:=by
 simp only [pfx,Bool.and_eq_true,decide_eq_true_eq] at h
 exact h.1
end Go.Proofs.YtejigeoigebhcaaGreat
