/-
  Proved here: contracts of EndText, in the reference and in the program.
  No condition beyond what each statement spells out.
-/
import Derived.Test.YtgkcdgaljknohaaGreatDoorSU5
set_option linter.all false
set_option maxRecDepth 4000
set_option maxHeartbeats 4000000
namespace Go.Proofs.YtgkcdgaljknohaaGreatDoor
open Go.Aw
theorem implEndText_ok [Tabs Tryz.prog] (t:DTokenizer) (hs:t.rest.length≤1048576):Ok Tryz.prog 189 [.agg (eTokenizer t)] (.sl .own 4 ((endText t).map (eToken .own))):=by
 obtain ⟨s⟩:=t
 simp only at hs
 cases s with
 |nil=>
  simp only [endText,true_or,if_true,List.map_nil]
  refine ent Tryz.mix Tryz.func189 Tryz.ntmps189 ?_
  have W:=trivial
  repeat' first|refine we ?_|(refine sq (fun hc=>?_) (fun hc=>?_)<;>try exact hc.elim)|fail
  all_goals (try (refine ⟨.inr rfl,?_⟩;simp [Hands,Tryz.results189]))
 |cons c r=>
  by_cases hc:c=60
  ·subst hc
   have he:endText ⟨60::r⟩=[]:=by simp [endText]
   rw [he]
   refine ent Tryz.mix Tryz.func189 Tryz.ntmps189 ?_
   have W:=trivial
   repeat' first|refine we ?_|(refine sq (fun hc=>?_) (fun hc=>?_)<;>try exact hc.elim)|fail
   all_goals (try (refine ⟨.inr rfl,?_⟩;simp [Hands,Tryz.results189]))
  ·have he:endText ⟨c::r⟩=[⟨3,[],[],c::r⟩]:=by simp [endText,hc]
   rw [he]
   have hn:¬((c.toNat:Int)=60):=fun h=>hc (UInt8.toNat_inj.1 (by simp;omega))
   refine ent Tryz.mix Tryz.func189 Tryz.ntmps189 ?_
   have W:=hn
   repeat' first|refine we ?_|(refine sq (fun hc=>?_) (fun hc=>?_)<;>try exact hc.elim)|fail
   all_goals (try (refine ⟨.inr rfl,?_⟩;simp [Hands,Tryz.results189]))
theorem specEndText_ok [Tabs Tryz.prog] (t:DTokenizer) (hs:t.rest.length≤1048576):Ok Tryz.prog 112 [.agg (eTokenizer t)] (.sl .own 4 ((endText t).map (eToken .own))):=by
 obtain ⟨s⟩:=t
 simp only at hs
 cases s with
 |nil=>
  simp only [endText,true_or,if_true,List.map_nil]
  refine ent Tryz.mix Tryz.func112 Tryz.ntmps112 ?_
  have W:=trivial
  repeat' first|refine we ?_|(refine sq (fun hc=>?_) (fun hc=>?_)<;>try exact hc.elim)|fail
  all_goals (try (refine ⟨.inr rfl,?_⟩;simp [Hands,Tryz.results112]))
 |cons c r=>
  by_cases hc:c=60
  ·subst hc
   have he:endText ⟨60::r⟩=[]:=by simp [endText]
   rw [he]
   refine ent Tryz.mix Tryz.func112 Tryz.ntmps112 ?_
   have W:=trivial
   repeat' first|refine we ?_|(refine sq (fun hc=>?_) (fun hc=>?_)<;>try exact hc.elim)|fail
   all_goals (try (refine ⟨.inr rfl,?_⟩;simp [Hands,Tryz.results112]))
  ·have he:endText ⟨c::r⟩=[⟨3,[],[],c::r⟩]:=by simp [endText,hc]
   rw [he]
   have hn:¬((c.toNat:Int)=60):=fun h=>hc (UInt8.toNat_inj.1 (by simp;omega))
   refine ent Tryz.mix Tryz.func112 Tryz.ntmps112 ?_
   have W:=hn
   repeat' first|refine we ?_|(refine sq (fun hc=>?_) (fun hc=>?_)<;>try exact hc.elim)|fail
   all_goals (try (refine ⟨.inr rfl,?_⟩;simp [Hands,Tryz.results112]))
end Go.Proofs.YtgkcdgaljknohaaGreatDoor
