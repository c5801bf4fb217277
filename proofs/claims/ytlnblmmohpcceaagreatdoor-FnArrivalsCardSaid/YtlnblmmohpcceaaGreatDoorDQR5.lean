/-
  Proved here: steps towards the statement of this claim, text QR5.
  No condition beyond what each statement spells out.
-/
import Derived.Test.YtlnblmmohpcceaaGreatDoorDR4
import Derived.Test.YtlnblmmohpcceaaGreatDoorDF4
set_option linter.all false
set_option maxRecDepth 4000
set_option maxHeartbeats 400000
namespace Go.Proofs.YtlnblmmohpcceaaGreatDoor
open Go.Aw
theorem nA [aB Tryz.prog] (s:Str) (c:UInt8):Ok Tryz.prog 196 [.str s,.int .u8 c.toNat] (.int .i64 (ixI c s)):=by
 have h1:=vT s c
 refine ent Tryz.mix Tryz.func196 Tryz.ntmps196 ?_
 have W:=trivial
 repeat' first|refine wl ?_|(refine sq (fun hc=>?_) (fun hc=>?_)<;>try exact hc.elim)|fail
 all_goals (try (refine ⟨.inr rfl,?_⟩;simp [Hands,Tryz.results196]))
theorem yQ [aB Tryz.prog] (s:Str) (c:UInt8):Ok Tryz.prog 284 [.str s,.str [c]] (.int .i64 (ixI c s)):=by
 have h1:=nA s c
 refine ent Tryz.mix Tryz.func284 Tryz.ntmps284 ?_
 have W:=trivial
 repeat' first|refine wl ?_|(refine sq (fun hc=>?_) (fun hc=>?_)<;>try exact hc.elim)|fail
 all_goals (try (refine ⟨.inr rfl,?_⟩;simp [Hands,Tryz.results284]))
 all_goals (subst hc;simp [ixI,lI])
theorem aH5 [aB Tryz.prog] (s:Str) (c:UInt8) (hl:s.length≤1099511627776):Ok Tryz.prog 254 [.str s,.str [c]] (.tup [.str (s.take (ixB c s)),.str (s.drop (ixB c s+1)),.bool (decide (ixB c s < s.length))]):=by
 have h1:=yQ s c
 have hle:=pU c s
 by_cases h:ixB c s < s.length
 ·have e:ixI c s=ixB c s:=if_pos h
  rw [e] at h1
  generalize ixB c s=k at *
  refine ent Tryz.mix Tryz.func254 Tryz.ntmps254 ?_
  have W:=h
  repeat' first|refine wl ?_|(refine sq (fun hc=>?_) (fun hc=>?_)<;>try exact hc.elim)|fail
  all_goals (try (refine ⟨.inr rfl,?_⟩;simp [Hands,Tryz.results254]))
  all_goals simp_all
 ·have e:ixI c s= -1:=if_neg h
  rw [e] at h1
  have e2:ixB c s=s.length:=by omega
  rw [e2]
  refine ent Tryz.mix Tryz.func254 Tryz.ntmps254 ?_
  have W:=trivial
  repeat' first|refine wl ?_|(refine sq (fun hc=>?_) (fun hc=>?_)<;>try exact hc.elim)|fail
  all_goals (try (refine ⟨.inr rfl,?_⟩;simp [Hands,Tryz.results254]))
  all_goals simp
theorem aCu [aB Tryz.prog] (s:Str) (c:UInt8) (hl:s.length≤1099511627776):Ok Tryz.prog 198 [.str s,.str [c]] (.tup [.str (s.take (ixB c s)),.str (s.drop (ixB c s+1)),.bool (decide (ixB c s < s.length))]):=by
 have h1:=aH5 s c hl
 refine ent Tryz.mix Tryz.func198 Tryz.ntmps198 ?_
 have W:=trivial
 repeat' first|refine wl ?_|(refine sq (fun hc=>?_) (fun hc=>?_)<;>try exact hc.elim)|fail
 all_goals (try (refine ⟨.inr rfl,?_⟩;simp [Hands,Tryz.results198]))
end Go.Proofs.YtlnblmmohpcceaaGreatDoor
