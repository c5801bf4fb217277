/-
  Proved here: contracts of the copies of a page.
  No condition beyond what each statement spells out.
-/
import Derived.Test.YtejigeoigebhcaaGreatAY2
import Derived.Test.YtejigeoigebhcaaGreatAS3
import Derived.Test.YtejigeoigebhcaaGreatAY4
import Derived.Test.YtejigeoigebhcaaGreatAQJ5
set_option linter.all false
set_option maxRecDepth 8000
set_option maxHeartbeats 8000000
namespace Go.Proofs.YtejigeoigebhcaaGreat
open Go.Aw
theorem uR [aB Tryz.prog] (a:aS) (hs:aJ a≤274877906944):Ok Tryz.prog 24 [.agg (aR .view a)] (.agg (aR .own a)):=by
 simp only [aJ] at hs
 have c1:=aEg a.policy (by omega)
 have c2:=aEb a.queue (by omega)
 have c3:=aC2 a.builder (by omega)
 simp only [szL] at hs
 simp only [bD] at c1
 simp only [cO] at c3
 refine ent Tryz.mix Tryz.func24 Tryz.ntmps24 ?_
 have W:=trivial
 repeat' first|refine st ?_|(refine nx ?_;first|refine se ?_|refine so ?_)|(refine cx ?_;refine sc (fun hc=>?_) (fun hc=>?_)<;>try exact hc.elim)|(refine lx ?_;refine sp (fun hc=>?_) (fun hc=>?_)<;>try exact hc.elim)|refine sx ?_ ?_|refine sy ?_ ?_|fail
 all_goals (try (refine ⟨.inr rfl,?_⟩;simp [Hands,Tryz.results24]))
theorem mM [aB Tryz.prog] (a:aS) (hs:aJ a≤274877906944):Ok Tryz.prog 27 [.agg (aR .view a)] (.agg (aR .own a)):=by
 simp only [aJ] at hs
 have c1:=aEc a.policy (by omega)
 have c2:=aEa a.queue (by omega)
 have c3:=aCb a.builder (by omega)
 simp only [szL] at hs
 simp only [bD] at c1
 simp only [cO] at c3
 refine ent Tryz.mix Tryz.func27 Tryz.ntmps27 ?_
 have W:=trivial
 repeat' first|refine st ?_|(refine nx ?_;first|refine se ?_|refine so ?_)|(refine cx ?_;refine sc (fun hc=>?_) (fun hc=>?_)<;>try exact hc.elim)|(refine lx ?_;refine sp (fun hc=>?_) (fun hc=>?_)<;>try exact hc.elim)|refine sx ?_ ?_|refine sy ?_ ?_|fail
 all_goals (try (refine ⟨.inr rfl,?_⟩;simp [Hands,Tryz.results27]))
def kW (p:aS) (s:Str):aS:=if p.ended=true then p else {p with queue:=p.queue++(feed (p.tok.rest++s)).1,tok:=⟨(feed (p.tok.rest++s)).2⟩}
theorem zI [aB Tryz.prog] (a:aS) (s:Str) (hs:aJ a≤274877906) (hl:s.length≤274877906):Ok Tryz.prog 77 [.agg (aR .view a),.str s] (.agg (aR .own (kW a s))):=by
 have c1:=mM a (by omega)
 simp only [aJ,szL,iD] at hs
 have c2:=aB4 a.tok s (by omega)
 obtain ⟨h1,h2⟩:=aCg (a.tok.rest++s).length (a.tok.rest++s) (Nat.le_refl _)
 simp only [iT] at c2
 simp only [aR] at c1
 unfold kW
 simp only [List.length_append] at h1 h2
 generalize feed (a.tok.rest++s)=g at *
 obtain ⟨l,x⟩:=g
 simp only at c2 h1 h2⊢
 have hb1:(a.queue.length+l.length) * 64≤140737488355328:=by omega
 by_cases he:a.ended=true
 ·rw [if_pos he]
  simp only [he] at c1
  refine ent Tryz.mix Tryz.func77 Tryz.ntmps77 ?_
  have W:=he
  repeat' first|refine st ?_|(refine nx ?_;first|refine se ?_|refine so ?_)|(refine cx ?_;refine sc (fun hc=>?_) (fun hc=>?_)<;>try exact hc.elim)|(refine lx ?_;refine sp (fun hc=>?_) (fun hc=>?_)<;>try exact hc.elim)|refine sx ?_ ?_|refine sy ?_ ?_|fail
  all_goals (try (refine ⟨.inr rfl,?_⟩;simp [Hands,Tryz.results77]))
  all_goals exact he
 ·rw [if_neg he]
  replace he:a.ended=false:=by simpa using he
  simp only [he] at c1
  refine ent Tryz.mix Tryz.func77 Tryz.ntmps77 ?_
  have W:=And.intro he hb1
  repeat' first|refine st ?_|(refine nx ?_;first|refine se ?_|refine so ?_)|(refine cx ?_;refine sc (fun hc=>?_) (fun hc=>?_)<;>try exact hc.elim)|(refine lx ?_;refine sp (fun hc=>?_) (fun hc=>?_)<;>try exact hc.elim)|refine sx ?_ ?_|refine sy ?_ ?_|fail
  all_goals (try (refine ⟨.inr rfl,?_⟩;simp [Hands,Tryz.results77]))
  all_goals (rw [←List.map_append];first|exact tC _|exact ⟨he,tC _⟩)
def pE (p:aS):aS:=if p.ended=true then p else {p with queue:=p.queue++jI p.tok,tok:=⟨[]⟩,ended:=true}
theorem aHz (t:gJ):(jI t).length≤1:=by unfold jI;split<;>simp
theorem aCj [aB Tryz.prog] (a:aS) (hs:aJ a≤1048576):Ok Tryz.prog 80 [.agg (aR .view a)] (.agg (aR .own (pE a))):=by
 have c1:=mM a (by omega)
 simp only [aJ,szL,iD] at hs
 have c2:=aCp a.tok (by omega)
 simp only [iT] at c2
 have hE:=aHz a.tok
 simp only [aR] at c1
 unfold pE
 generalize jI a.tok=g at *
 by_cases he:a.ended=true
 ·rw [if_pos he]
  simp only [he] at c1
  refine ent Tryz.mix Tryz.func80 Tryz.ntmps80 ?_
  have W:=he
  repeat' first|refine st ?_|(refine nx ?_;first|refine se ?_|refine so ?_)|(refine cx ?_;refine sc (fun hc=>?_) (fun hc=>?_)<;>try exact hc.elim)|(refine lx ?_;refine sp (fun hc=>?_) (fun hc=>?_)<;>try exact hc.elim)|refine sx ?_ ?_|refine sy ?_ ?_|fail
  all_goals (try (refine ⟨.inr rfl,?_⟩;simp [Hands,Tryz.results80]))
  all_goals exact he
 ·rw [if_neg he]
  replace he:a.ended=false:=by simpa using he
  simp only [he] at c1
  refine ent Tryz.mix Tryz.func80 Tryz.ntmps80 ?_
  have W:=he
  repeat' first|refine st ?_|(refine nx ?_;first|refine se ?_|refine so ?_)|(refine cx ?_;refine sc (fun hc=>?_) (fun hc=>?_)<;>try exact hc.elim)|(refine lx ?_;refine sp (fun hc=>?_) (fun hc=>?_)<;>try exact hc.elim)|refine sx ?_ ?_|refine sy ?_ ?_|fail
  all_goals (try (refine ⟨.inr rfl,?_⟩;simp [Hands,Tryz.results80]))
  all_goals (rw [←List.map_append];exact tC _)
theorem mF {α:Type} (f:α→Nat):∀a b:List α,aZ f (a++b)=aZ f a+aZ f b
 |[],b=>by simp [aZ]
 |x::xs,b=>by simp only [List.cons_append,aZ,mF f xs b];omega
theorem aOx (t:gJ):szL dR (jI t)≤1+iD t:=by
 unfold jI
 split
 ·simp [szL,aZ]
 ·simp [szL,aZ,dR,iD]
theorem aOf (p:aS):aJ (pE p)≤aJ p+1:=by
 unfold pE
 split
 ·omega
 ·have h:=aOx p.tok
  simp only [aJ,szL,iD,List.length_append,mF,List.length_nil] at h⊢
  omega
theorem aLn (p:aS) (s:Str):aJ (kW p s)≤2 * aJ p+2 * s.length:=by
 unfold kW
 split
 ·omega
 ·obtain ⟨h1,h2⟩:=aCg (p.tok.rest++s).length (p.tok.rest++s) (Nat.le_refl _)
  simp only [List.length_append] at h1 h2
  simp only [aJ,szL,iD,List.length_append,mF] at *
  omega
end Go.Proofs.YtejigeoigebhcaaGreat
