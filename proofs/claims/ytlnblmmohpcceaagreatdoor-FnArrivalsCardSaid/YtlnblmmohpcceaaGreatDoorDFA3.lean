/-
  Proved here: steps towards the statement of this claim, text FA3.
  No condition beyond what each statement spells out.
-/
import Derived.Test.YtlnblmmohpcceaaGreatDoorDFA0
import Derived.Test.YtlnblmmohpcceaaGreatDoorDFA2
import Derived.Test.YtlnblmmohpcceaaGreatDoorDJ6
import Derived.Test.YtlnblmmohpcceaaGreatDoorDDR6
import Derived.Test.YtlnblmmohpcceaaGreatDoorDDR10
set_option linter.all false
set_option maxRecDepth 8000
set_option maxHeartbeats 8000000
namespace Go.Proofs.YtlnblmmohpcceaaGreatDoor
open Go.Aw
theorem aOh [aB Tryz.prog] [dO Tryz.prog] (d:List UInt8) (hd:d.length≤9223372036854775807):Ok Tryz.prog 7 [.sl .view 1 (aO d)] (.bool (decide (1048576 < (d.length:Int)))):=by
 refine ent Tryz.mix Tryz.func7 Tryz.ntmps7 ?_
 have hb:(aO d).length=d.length:=by simp [aO]
 have W:=hb
 repeat' first|refine st ?_|(refine nx ?_;refine so ?_)|(refine cx ?_;refine sc (fun hc=>?_) (fun hc=>?_)<;>try exact hc.elim)|(refine lx ?_;refine sp (fun hc=>?_) (fun hc=>?_)<;>try exact hc.elim)|refine sx ?_ ?_|refine sy ?_ ?_|fail
 all_goals (try (refine ⟨.inr rfl,?_⟩;simp [Hands,Tryz.results7]))
theorem aGe [aB Tryz.prog] [dO Tryz.prog] (l:List Int) (n:Int) (hl:l.length≤1099511627776):Ok Tryz.prog 10 [.sl .view 1 (l.map kW),.int .i64 n] (.bool (decide (n∈l))):=by
 refine ent Tryz.mix Tryz.func10 Tryz.ntmps10 ?_
 have W:=trivial
 repeat' first|refine st ?_|(refine nx ?_;refine so ?_)|(refine cx ?_;refine sc (fun hc=>?_) (fun hc=>?_)<;>try exact hc.elim)|(refine lx ?_;refine sp (fun hc=>?_) (fun hc=>?_)<;>try exact hc.elim)|refine sx ?_ ?_|refine sy ?_ ?_|fail
 refine aS (ι:={k:Nat // k≤l.length∧n∉l.take k}) (fun t o i=>⟨aP t [(5,.int .i64 i.1)],o⟩)
  (fun i=>l.length - i.1) ⟨0,by simp,by simp⟩ (aL (by simp) (by simp)) ?_
 rintro ⟨k,hk,hi⟩ K1 hK1
 simp only [aP,List.set_cons_succ,List.set_cons_zero] at hK1⊢
 have hk1:IntKind.i64.wrap ((k:Int)+1)=((k+1:Nat):Int):=by rw [wrap64]<;>omega
 by_cases hlt:k < l.length
 ·have hg:=List.getElem?_eq_getElem hlt
  have W:=And.intro hk1 (And.intro hg hlt)
  repeat' first|refine st ?_|(refine nx ?_;refine so ?_)|(refine cx ?_;refine sc (fun hc=>?_) (fun hc=>?_)<;>try exact hc.elim)|(refine lx ?_;refine sp (fun hc=>?_) (fun hc=>?_)<;>try exact hc.elim)|refine sx ?_ ?_|refine sy ?_ ?_|fail
  ·all_goals (try (refine ⟨.inr rfl,?_⟩;simp [Hands,Tryz.results10]))
   exact hc▸List.getElem_mem hlt
  ·refine hK1 _ ⟨k+1,by omega,?_⟩ (aL (by simp) (by simp)) (by simp only;omega)
   rw [List.take_succ_eq_append_getElem hlt,List.mem_append,List.mem_singleton]
   exact fun h=>h.elim hi fun e=>hc e.symm
 ·have W:=hk1
  repeat' first|refine st ?_|(refine nx ?_;refine so ?_)|(refine cx ?_;refine sc (fun hc=>?_) (fun hc=>?_)<;>try exact hc.elim)|(refine lx ?_;refine sp (fun hc=>?_) (fun hc=>?_)<;>try exact hc.elim)|refine sx ?_ ?_|refine sy ?_ ?_|fail
  all_goals (try (refine ⟨.inr rfl,?_⟩;simp [Hands,Tryz.results10]))
  have:k=l.length:=by omega
  subst this
  simpa using hi
theorem aM2:jF ⟨[104,111,109,101],[105,110,100,101,120]⟩ ⟨200,1,[],0,false,[]⟩=(oH ⟨[104,111,109,101],[105,110,100,101,120]⟩ (bI []).1,true):=by
 unfold jF
 exact if_pos ⟨by kernel_rfl,by kernel_rfl,rfl,rfl⟩
theorem tC {α:Type} (f:α→Nat):∀a b:List α,bC f (a++b)=bC f a+bC f b
 |[],b=>by simp [bC]
 |x::xs,b=>by simp only [List.cons_append,bC,tC f xs b];omega
theorem aNb (t:fU):szL dW (iM t)≤1+iV t:=by
 unfold iM
 split
 ·simp [szL,bC]
 ·simp [szL,bC,dW,iV]
theorem aMu (p:dS):dV (gH p)≤dV p+1:=by
 unfold gH
 split
 ·omega
 ·have h:=aNb p.tok
  simp only [dV,szL,iV,List.length_append,tC,List.length_nil] at h⊢
  omega
theorem aJf (p:dS) (s:Str):dV (bM p s)≤2 * dV p+2 * s.length:=by
 unfold bM
 split
 ·omega
 ·obtain ⟨h1,h2⟩:=aAl (p.tok.rest++s).length (p.tok.rest++s) (Nat.le_refl _)
  simp only [List.length_append] at h1 h2
  simp only [dV,szL,iV,List.length_append,tC] at *
  omega
theorem uG [aB Tryz.prog] [dO Tryz.prog] (a:dS) (s:Str) (hs:dV a≤274877906) (hl:s.length≤274877906):Ok Tryz.prog 11 [.agg (cZ .view a),.str s] (.agg (cZ .view (bM a s))):=
 (wU a s hs hl).vwas (by simp [rt])
theorem aGp [aB Tryz.prog] [dO Tryz.prog] (a:dS) (hs:dV a≤1048576):Ok Tryz.prog 12 [.agg (cZ .view a)] (.agg (cZ .view (gH a))):=
 (aBr a hs).vwas (by simp [rt])
theorem aHc [aB Tryz.prog] [dO Tryz.prog] (a:eH) (x:dG) (ha:gD a≤1073741824) (hl:bO x≤1073741824):Ok Tryz.prog 9 [.agg (eX a),.agg (bV x)] (.tup [.agg (cZ .view (jF a x).1),.bool (jF a x).2]):=
 (aA5 a x ha hl).vwas (by simp [rt,rtc])
def home:dS:=oH ⟨[104,111,109,101],[105,110,100,101,120]⟩ (bI []).1
theorem aM3:dV home≤100:=by decide
theorem aJ2:feed home.tok.rest=([],home.tok.rest):=by
 have h:home.tok.rest=[]:=rfl
 rw [h,lZ]
 rfl
end Go.Proofs.YtlnblmmohpcceaaGreatDoor
