/-
  Proved here: steps towards the statement of this claim, text QE2.
  No condition beyond what each statement spells out.
-/
import Derived.Test.YtlnblmmohpcceaaGreatDoorDE1
import Derived.Test.YtlnblmmohpcceaaGreatDoorDQ1
import Derived.Test.YtlnblmmohpcceaaGreatDoorDQA0
import Derived.Test.YtlnblmmohpcceaaGreatDoorDF6
set_option linter.all false
set_option maxRecDepth 4000
set_option maxHeartbeats 4000000
namespace Go.Proofs.YtlnblmmohpcceaaGreatDoor
open Go.Aw
theorem aMh {a b:jV}:a=b↔a.name=b.name∧a.text=b.text∧a.parent=b.parent∧a.attrs=b.attrs:=by
 cases a;cases b;simp
theorem aDl [aB Tryz.prog] (a b:jV) (hl:a.attrs.length≤1099511627776):Ok Tryz.prog 140 [.agg (dQ .view a),.agg (dQ .view b)] (.bool (decide (a=b))):=by
 have c1:=uX a.attrs b.attrs hl
 rw [show decide (a=b)=decide (a.name=b.name∧a.text=b.text∧a.parent=b.parent∧a.attrs=b.attrs) by rw [decide_eq_decide];exact aMh]
 refine ent Tryz.mix Tryz.func140 Tryz.ntmps140 ?_
 have W:=trivial
 repeat' first|refine wl ?_|(refine sq (fun hc=>?_) (fun hc=>?_)<;>try exact hc.elim)|fail
 all_goals (try (refine ⟨.inr rfl,?_⟩;simp [Hands,Tryz.results140]))
 all_goals simp_all
theorem xU [aB Tryz.prog] (a b:List jV) (hl:szL sM a≤1099511627776):Ok Tryz.prog 139 [.sl .view 4 (a.map (dQ .view)),.sl .view 4 (b.map (dQ .view)),.fn 140 []] (.bool (decide (a=b))):=by
 simp only [szL] at hl
 refine ent Tryz.mix Tryz.func139 Tryz.ntmps139 ?_
 have W:=trivial
 repeat' first|refine wl ?_|(refine sq (fun hc=>?_) (fun hc=>?_)<;>try exact hc.elim)|fail
 ·all_goals (try (refine ⟨.inr rfl,?_⟩;simp [Hands,Tryz.results139]))
  exact oC (by omega)
 ·have hlen:=hc
  refine aS (ι:={k:Nat // k≤a.length∧a.take k=b.take k}) (fun t o i=>⟨aP t [(17,.int .i64 i.1),(7,.undef)],o⟩)
   (fun i=>a.length - i.1) ⟨0,by simp,by simp⟩ (aL (by simp) (by simp)) ?_
  rintro ⟨k,hk,hi⟩ K1 hK1
  simp only [aP,List.set_cons_succ,List.set_cons_zero] at hK1⊢
  have hk1:IntKind.i64.wrap ((k:Int)+1)=((k+1:Nat):Int):=by rw [wrap64]<;>omega
  by_cases hlt:k < a.length
  ·have hg:=List.getElem?_eq_getElem hlt
   have hltb:k < b.length:=by omega
   have hg2:=List.getElem?_eq_getElem hltb
   have hz:=gN sM a k hlt
   simp only [sM,szL] at hz
   have c1:=aDl a[k] b[k] (by omega)
   simp only [dQ] at c1
   have W:=And.intro hk1 (And.intro hg (And.intro hg2 (And.intro hlt hltb)))
   repeat' first|refine wl ?_|(refine sq (fun hc=>?_) (fun hc=>?_)<;>try exact hc.elim)|fail
   ·all_goals (try (refine ⟨.inr rfl,?_⟩;simp [Hands,Tryz.results139]))
    exact rC hlt hltb (by simpa using hc)
   ·exact hK1 _ ⟨k+1,by omega,gX hi hlt hltb (by simpa using hc)⟩ (bX 0 (by simp) (by simp) (by simp) (by simp)) (by simp only;omega)
  ·have W:=hk1
   repeat' first|refine wl ?_|(refine sq (fun hc=>?_) (fun hc=>?_)<;>try exact hc.elim)|fail
   all_goals (try (refine ⟨.inr rfl,?_⟩;simp [Hands,Tryz.results139]))
   exact take_eq_all (by omega) hlt hi
theorem aJl {a b:eH}:eX a=eX b↔a=b:=by
 obtain ⟨a1,a2⟩:=a
 obtain ⟨b1,b2⟩:=b
 simp
theorem aG7 (a b:eH):EqA Tryz.prog 28 (eX a) (eX b) (decide (a=b)):=
 vV (f:=6) (ss:=[.str,.str]) (by decide) (by kernel_rfl) (by kernel_rfl) (by kernel_rfl) (by kernel_rfl) (by simp [eQ,jO]) (by simp [eQ,jO]) (by rw [aJl,decide_eq_true_iff])
end Go.Proofs.YtlnblmmohpcceaaGreatDoor
