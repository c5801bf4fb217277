/-
  Proved here: contracts of EndText, in the reference and in the program.
  No condition beyond what each statement spells out.
-/
import Derived.Test.YtlnblmmohpcceaaGreatDoorDY1
set_option linter.all false
set_option maxRecDepth 4000
set_option maxHeartbeats 4000000
namespace Go.Proofs.YtlnblmmohpcceaaGreatDoor
open Go.Aw
theorem aBb [aB Tryz.prog] (t:fU) (hs:t.rest.length≤1048576):Ok Tryz.prog 36 [.agg (iF t)] (.sl .own 4 ((iM t).map (bP .own))):=by
 obtain ⟨s⟩:=t
 simp only at hs
 cases s with
 |nil=>
  simp only [iM,true_or,if_true,List.map_nil]
  refine ent Tryz.mix Tryz.func36 Tryz.ntmps36 ?_
  have W:=trivial
  repeat' first|refine we ?_|(refine sq (fun hc=>?_) (fun hc=>?_)<;>try exact hc.elim)|fail
  all_goals (try (refine ⟨.inr rfl,?_⟩;simp [Hands,Tryz.results36]))
 |cons c r=>
  by_cases hc:c=60
  ·subst hc
   have he:iM ⟨60::r⟩=[]:=by simp [iM]
   rw [he]
   refine ent Tryz.mix Tryz.func36 Tryz.ntmps36 ?_
   have W:=trivial
   repeat' first|refine we ?_|(refine sq (fun hc=>?_) (fun hc=>?_)<;>try exact hc.elim)|fail
   all_goals (try (refine ⟨.inr rfl,?_⟩;simp [Hands,Tryz.results36]))
  ·have he:iM ⟨c::r⟩=[⟨3,[],[],c::r⟩]:=by simp [iM,hc]
   rw [he]
   have hn:¬((c.toNat:Int)=60):=fun h=>hc (UInt8.toNat_inj.1 (by simp;omega))
   refine ent Tryz.mix Tryz.func36 Tryz.ntmps36 ?_
   have W:=hn
   repeat' first|refine we ?_|(refine sq (fun hc=>?_) (fun hc=>?_)<;>try exact hc.elim)|fail
   all_goals (try (refine ⟨.inr rfl,?_⟩;simp [Hands,Tryz.results36]))
end Go.Proofs.YtlnblmmohpcceaaGreatDoor
