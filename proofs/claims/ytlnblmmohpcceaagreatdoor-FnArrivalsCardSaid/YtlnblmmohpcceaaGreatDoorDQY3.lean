/-
  Proved here: contracts of the copies of a page.
  No condition beyond what each statement spells out.
-/
import Derived.Test.YtlnblmmohpcceaaGreatDoorDY2
import Derived.Test.YtlnblmmohpcceaaGreatDoorDS3
set_option linter.all false
set_option maxRecDepth 4000
set_option maxHeartbeats 4000000
namespace Go.Proofs.YtlnblmmohpcceaaGreatDoor
open Go.Aw
theorem xL [aB Tryz.prog] (a:dS) (hs:dV a≤274877906944):Ok Tryz.prog 34 [.agg (cZ .view a)] (.agg (cZ .own a)):=by
 simp only [dV] at hs
 have c1:=uJ a.policy (by omega)
 have c2:=aDh a.queue (by omega)
 have c3:=aAr a.builder (by omega)
 simp only [szL] at hs
 simp only [aX] at c1
 simp only [bS] at c3
 refine ent Tryz.mix Tryz.func34 Tryz.ntmps34 ?_
 have W:=trivial
 repeat' first|refine we ?_|(refine sq (fun hc=>?_) (fun hc=>?_)<;>try exact hc.elim)|fail
 all_goals (try (refine ⟨.inr rfl,?_⟩;simp [Hands,Tryz.results34]))
def bM (p:dS) (s:Str):dS:=if p.ended=true then p else {p with queue:=p.queue++(feed (p.tok.rest++s)).1,tok:=⟨(feed (p.tok.rest++s)).2⟩}
theorem wU [aB Tryz.prog] [dO Tryz.prog] (a:dS) (s:Str) (hs:dV a≤274877906) (hl:s.length≤274877906):Ok Tryz.prog 11 [.agg (cZ .view a),.str s] (.agg (cZ .own (bM a s))):=by
 have c1:=xL a (by omega)
 simp only [dV,szL,iV] at hs
 have c2:=yN a.tok s (by omega)
 obtain ⟨h1,h2⟩:=aAl (a.tok.rest++s).length (a.tok.rest++s) (Nat.le_refl _)
 simp only [iF] at c2
 simp only [cZ] at c1
 unfold bM
 simp only [List.length_append] at h1 h2
 generalize feed (a.tok.rest++s)=g at *
 obtain ⟨l,x⟩:=g
 simp only at c2 h1 h2⊢
 have hb1:(a.queue.length+l.length) * 64≤140737488355328:=by omega
 by_cases he:a.ended=true
 ·rw [if_pos he]
  simp only [he] at c1
  refine ent Tryz.mix Tryz.func11 Tryz.ntmps11 ?_
  have W:=he
  repeat' first|refine we ?_|(refine sq (fun hc=>?_) (fun hc=>?_)<;>try exact hc.elim)|fail
  all_goals (try (refine ⟨.inr rfl,?_⟩;simp [Hands,Tryz.results11]))
  all_goals exact he
 ·rw [if_neg he]
  replace he:a.ended=false:=by simpa using he
  simp only [he] at c1
  refine ent Tryz.mix Tryz.func11 Tryz.ntmps11 ?_
  have W:=And.intro he hb1
  repeat' first|refine we ?_|(refine sq (fun hc=>?_) (fun hc=>?_)<;>try exact hc.elim)|fail
  all_goals (try (refine ⟨.inr rfl,?_⟩;simp [Hands,Tryz.results11]))
  all_goals (rw [←List.map_append];first|exact qK _|exact ⟨he,qK _⟩)
end Go.Proofs.YtlnblmmohpcceaaGreatDoor
