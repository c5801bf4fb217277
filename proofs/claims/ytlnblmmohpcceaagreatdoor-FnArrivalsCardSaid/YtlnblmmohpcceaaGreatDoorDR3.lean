/-
  Proved here: steps towards the statement of this claim, text R3.
  No condition beyond what each statement spells out.
-/
import Derived.Test.YtlnblmmohpcceaaGreatDoorDQA0
import Derived.Test.YtlnblmmohpcceaaGreatDoorDF4
set_option linter.all false
set_option maxRecDepth 4000
set_option maxHeartbeats 400000
namespace Go.Proofs.YtlnblmmohpcceaaGreatDoor
open Go.Aw
theorem oF [aB Tryz.prog] (a b c:Int):Ok Tryz.prog 114 [.int .i64 a,.int .i64 b,.int .i64 c] (.bool (decide (b≤a)&&decide (a≤c))):=by
 refine ent Tryz.mix Tryz.func114 Tryz.ntmps114 ?_
 have W:=trivial
 repeat' first|refine wl ?_|(refine sq (fun hc=>?_) (fun hc=>?_)<;>try exact hc.elim)|fail
 all_goals (try (refine ⟨.inr rfl,?_⟩;simp [Hands,Tryz.results114]))
 all_goals (first|(simp_all;done)|(simp_all;omega))
theorem oI [aB Tryz.prog] (a b c:Int):Ok Tryz.prog 122 [.int .i64 a,.int .i64 b,.int .i64 c] (.bool (decide (b≤a)&&decide (a≤c))):=by
 refine ent Tryz.mix Tryz.func122 Tryz.ntmps122 ?_
 have W:=trivial
 repeat' first|refine wl ?_|(refine sq (fun hc=>?_) (fun hc=>?_)<;>try exact hc.elim)|fail
 all_goals (try (refine ⟨.inr rfl,?_⟩;simp [Hands,Tryz.results122]))
 all_goals (first|(simp_all;done)|(simp_all;omega))
theorem aG9 {s:Str} {k:Nat} (h:k < s.length) (hc:lowerB s[k]=false):bK s=false:=by
 have:s.all lowerB=false:=by
  rw [List.all_eq_false]
  exact ⟨s[k],List.getElem_mem h,by simp [hc]⟩
 simp [bK,this]
theorem aG0 {s:Str} {k:Nat} (h:k < s.length) (hc:(s[k].toNat:Int) < 97):bK s=false:=aG9 h (by simp [lowerB];omega)
theorem aGr {s:Str} {k:Nat} (h:k < s.length) (hc:122 < (s[k].toNat:Int)):bK s=false:=aG9 h (by simp [lowerB];omega)
theorem aCr {c:UInt8} (h:97≤(c.toNat:Int)) (hc:(c.toNat:Int)≤122):lowerB c=true:=by simp [lowerB];omega
theorem aD3 {s:Str} (h:∀x∈s,lowerB x=true):bK s=(decide ((1:Int)≤s.length)&&decide ((s.length:Int)≤8)):=by
 have:s.all lowerB=true:=List.all_eq_true.2 h
 have h1:decide ((1:Int)≤s.length)=decide (1≤s.length):=by simp only [decide_eq_decide];omega
 have h2:decide ((s.length:Int)≤8)=decide (s.length≤8):=by simp only [decide_eq_decide];omega
 rw [bK,this,h1,h2,Bool.true_and]
theorem oO [aB Tryz.prog] (s:Str) (hl:s.length≤1099511627776):Ok Tryz.prog 137 [.str s] (.bool (bK s)):=by
 have h1:=oF s.length 1 8
 refine ent Tryz.mix Tryz.func137 Tryz.ntmps137 ?_
 have W:=trivial
 repeat' first|refine wl ?_|(refine sq (fun hc=>?_) (fun hc=>?_)<;>try exact hc.elim)|fail
 refine aS (ι:={k:Nat // k≤s.length∧∀x∈s.take k,lowerB x=true}) (fun t o i=>⟨aP t [(3,.int .i64 i.1)],o⟩)
  (fun i=>s.length - i.1) ⟨0,by simp,by simp⟩ (aL (by simp) (by simp)) ?_
 rintro ⟨k,hk,hi⟩ K1 hK1
 simp only [aP,List.set_cons_succ,List.set_cons_zero] at hK1⊢
 have hk1:IntKind.i64.wrap ((k:Int)+1)=((k+1:Nat):Int):=by rw [wrap64]<;>omega
 by_cases hlt:k < s.length
 ·have hg:=List.getElem?_eq_getElem hlt
  have W:=And.intro hk1 (And.intro hg hlt)
  repeat' first|refine wl ?_|(refine sq (fun hc=>?_) (fun hc=>?_)<;>try exact hc.elim)|fail
  ·skip
   all_goals (try (refine ⟨.inr rfl,?_⟩;simp [Hands,Tryz.results137]))
   rw [aG0 hlt (by assumption)]
  ·skip
   all_goals (try (refine ⟨.inr rfl,?_⟩;simp [Hands,Tryz.results137]))
   rw [aGr hlt (by assumption)]
  ·skip
   exact hK1 _ ⟨k+1,by omega,iA hlt hi (aCr (by assumption) (by assumption))⟩ (aL (by simp) (by simp)) (by simp only;omega)
 ·have W:=hk1
  repeat' first|refine wl ?_|(refine sq (fun hc=>?_) (fun hc=>?_)<;>try exact hc.elim)|fail
  all_goals (try (refine ⟨.inr rfl,?_⟩;simp [Hands,Tryz.results137]))
  rw [aD3 (lL (by omega) hi)]
theorem iL [aB Tryz.prog] (s:Str) (hl:s.length≤1099511627776):Ok Tryz.prog 121 [.str s] (.bool (bK s)):=by
 have h1:=oI s.length 1 8
 refine ent Tryz.mix Tryz.func121 Tryz.ntmps121 ?_
 have W:=trivial
 repeat' first|refine wl ?_|(refine sq (fun hc=>?_) (fun hc=>?_)<;>try exact hc.elim)|fail
 refine aS (ι:={k:Nat // k≤s.length∧∀x∈s.take k,lowerB x=true}) (fun t o i=>⟨aP t [(3,.int .i64 i.1)],o⟩)
  (fun i=>s.length - i.1) ⟨0,by simp,by simp⟩ (aL (by simp) (by simp)) ?_
 rintro ⟨k,hk,hi⟩ K1 hK1
 simp only [aP,List.set_cons_succ,List.set_cons_zero] at hK1⊢
 have hk1:IntKind.i64.wrap ((k:Int)+1)=((k+1:Nat):Int):=by rw [wrap64]<;>omega
 by_cases hlt:k < s.length
 ·have hg:=List.getElem?_eq_getElem hlt
  have W:=And.intro hk1 (And.intro hg hlt)
  repeat' first|refine wl ?_|(refine sq (fun hc=>?_) (fun hc=>?_)<;>try exact hc.elim)|fail
  ·skip
   all_goals (try (refine ⟨.inr rfl,?_⟩;simp [Hands,Tryz.results121]))
   rw [aG0 hlt (by assumption)]
  ·skip
   all_goals (try (refine ⟨.inr rfl,?_⟩;simp [Hands,Tryz.results121]))
   rw [aGr hlt (by assumption)]
  ·skip
   exact hK1 _ ⟨k+1,by omega,iA hlt hi (aCr (by assumption) (by assumption))⟩ (aL (by simp) (by simp)) (by simp only;omega)
 ·have W:=hk1
  repeat' first|refine wl ?_|(refine sq (fun hc=>?_) (fun hc=>?_)<;>try exact hc.elim)|fail
  all_goals (try (refine ⟨.inr rfl,?_⟩;simp [Hands,Tryz.results121]))
  rw [aD3 (lL (by omega) hi)]
theorem aC6 [aB Tryz.prog] (a:eH) (hl:gD a≤1099511627776):Ok Tryz.prog 42 [.agg (eX a)] (.bool (mG a)):=by
 simp only [gD] at hl
 have h1:=oO a.host (by omega)
 have h2:=oO a.path (by omega)
 refine ent Tryz.mix Tryz.func42 Tryz.ntmps42 ?_
 have W:=trivial
 repeat' first|refine wl ?_|(refine sq (fun hc=>?_) (fun hc=>?_)<;>try exact hc.elim)|fail
 all_goals (try (refine ⟨.inr rfl,?_⟩;simp [Hands,Tryz.results42]))
 all_goals simp_all [mG]
theorem aDn [aB Tryz.prog] (a:eH) (hl:gD a≤1099511627776):Ok Tryz.prog 30 [.agg (eX a)] (.bool (mG a)):=by
 simp only [gD] at hl
 have h1:=iL a.host (by omega)
 have h2:=iL a.path (by omega)
 refine ent Tryz.mix Tryz.func30 Tryz.ntmps30 ?_
 have W:=trivial
 repeat' first|refine wl ?_|(refine sq (fun hc=>?_) (fun hc=>?_)<;>try exact hc.elim)|fail
 all_goals (try (refine ⟨.inr rfl,?_⟩;simp [Hands,Tryz.results30]))
 all_goals simp_all [mG]
end Go.Proofs.YtlnblmmohpcceaaGreatDoor
