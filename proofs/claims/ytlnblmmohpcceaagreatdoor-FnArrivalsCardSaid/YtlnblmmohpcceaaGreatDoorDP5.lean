/-
  Proved here: steps towards the statement of this claim, text P5.
  No condition beyond what each statement spells out.
-/
import Derived.Test.YtlnblmmohpcceaaGreatDoorDP1
import Derived.Test.YtlnblmmohpcceaaGreatDoorDF5
set_option linter.all false
set_option maxRecDepth 4000
set_option maxHeartbeats 4000000
namespace Go.Proofs.YtlnblmmohpcceaaGreatDoor
open Go.Aw
def pfx (p s:Str):Bool:=decide (p.length≤s.length)&&(s.take p.length == p)
theorem vU [aB Tryz.prog] (s p:Str) (hl:s.length≤1099511627776) (hp:p.length≤1099511627776):Ok Tryz.prog 247 [.str s,.str p] (.bool (pfx p s)):=by
 by_cases h:p.length≤s.length
 ·have hi:(p.length:Int)≤(s.length:Int):=by omega
  have hr:pfx p s=(s.take p.length == p):=by simp [pfx,h]
  rw [hr]
  refine ent Tryz.mix Tryz.func247 Tryz.ntmps247 ?_
  have W:=And.intro h hi
  repeat' first|refine we ?_|(refine sq (fun hc=>?_) (fun hc=>?_)<;>try exact hc.elim)|fail
  all_goals (try (refine ⟨.inr rfl,?_⟩;simp [Hands,Tryz.results247]))
 ·have hi:¬(p.length:Int)≤(s.length:Int):=by omega
  have hr:pfx p s=false:=by simp [pfx,h]
  rw [hr]
  refine ent Tryz.mix Tryz.func247 Tryz.ntmps247 ?_
  have W:=And.intro h hi
  repeat' first|refine we ?_|(refine sq (fun hc=>?_) (fun hc=>?_)<;>try exact hc.elim)|fail
  all_goals (try (refine ⟨.inr rfl,?_⟩;simp [Hands,Tryz.results247]))
theorem aJ3 {p s:Str} (h:pfx p s=true):p.length≤s.length:=by
 simp only [pfx,Bool.and_eq_true,decide_eq_true_eq] at h
 exact h.1
theorem aDe [aB Tryz.prog] (s p:Str) (hl:s.length≤1099511627776) (hp:p.length≤1099511627776):Ok Tryz.prog 253 [.str s,.str p] (.tup [.str (if pfx p s=true then s.drop p.length else s),.bool (pfx p s)]):=by
 have c1:=vU s p hl hp
 have h1:= @aJ3 p s
 generalize pfx p s=b at *
 cases b
 ·refine ent Tryz.mix Tryz.func253 Tryz.ntmps253 ?_
  have W:=trivial
  repeat' first|refine we ?_|(refine sq (fun hc=>?_) (fun hc=>?_)<;>try exact hc.elim)|fail
  all_goals (try (refine ⟨.inr rfl,?_⟩;simp [Hands,Tryz.results253]))
 ·have h2:=h1 rfl
  refine ent Tryz.mix Tryz.func253 Tryz.ntmps253 ?_
  have W:=h2
  repeat' first|refine we ?_|(refine sq (fun hc=>?_) (fun hc=>?_)<;>try exact hc.elim)|fail
  all_goals (try (refine ⟨.inr rfl,?_⟩;simp [Hands,Tryz.results253]))
theorem aEb [aB Tryz.prog] (s p:Str) (hl:s.length≤1099511627776) (hp:p.length≤1099511627776):Ok Tryz.prog 197 [.str s,.str p] (.tup [.str (if pfx p s=true then s.drop p.length else s),.bool (pfx p s)]):=by
 have c1:=aDe s p hl hp
 generalize (if pfx p s=true then s.drop p.length else s)=q at *
 generalize pfx p s=b at *
 refine ent Tryz.mix Tryz.func197 Tryz.ntmps197 ?_
 have W:=trivial
 repeat' first|refine we ?_|(refine sq (fun hc=>?_) (fun hc=>?_)<;>try exact hc.elim)|fail
 all_goals (try (refine ⟨.inr rfl,?_⟩;simp [Hands,Tryz.results197]))
end Go.Proofs.YtlnblmmohpcceaaGreatDoor
