/-
  Proved here: steps towards the statement of this claim, text FA1.
  No condition beyond what each statement spells out.
-/
import Derived.Test.YtlnblmmohpcceaaGreatDoorDQE2
set_option linter.all false
set_option maxRecDepth 4000
set_option maxHeartbeats 4000000
namespace Go.Proofs.YtlnblmmohpcceaaGreatDoor
open Go.Aw
theorem aM8 (a b:uI):EqA Tryz.prog 95 (qN a) (qN b) (decide (a=b)):=
 vV (f:=6) (ss:=[.int .i64,.str,.str,.str,.int .i64,.bool,.int .i64,.str]) (by decide) (by kernel_rfl) (by kernel_rfl) (by kernel_rfl) (by kernel_rfl) (by simp [eQ,jO]) (by simp [eQ,jO]) (by obtain ⟨m,⟨t1,t2⟩,d,n,o,c,bo⟩:=a;obtain ⟨m2,⟨u1,u2⟩,d2,n2,o2,c2,bo2⟩:=b;simp [and_assoc])
theorem aJ0 (a b:nK):EqA Tryz.prog 98 (lV a) (lV b) (decide (a=b)):=
 vV (f:=6) (ss:=[.str,.str,.bool,.int .i64,.str]) (by decide) (by kernel_rfl) (by kernel_rfl) (by kernel_rfl) (by kernel_rfl) (by simp [eQ,jO]) (by simp [eQ,jO]) (by obtain ⟨⟨t1,t2⟩,o,c,bo⟩:=a;obtain ⟨⟨u1,u2⟩,o2,c2,bo2⟩:=b;simp [and_assoc])
theorem aEy [aB Tryz.prog] (a b:List uI) (hl:a.length≤1099511627776):Ok Tryz.prog 49 [.sl .view 8 (a.map qN),.sl .view 8 (b.map qN)] (.bool (decide (a=b))):=by
 refine ent Tryz.mix Tryz.func49 Tryz.ntmps49 ?_
 have W:=trivial
 repeat' first|refine wl ?_|(refine sq (fun hc=>?_) (fun hc=>?_)<;>try exact hc.elim)|fail
 ·all_goals (try (refine ⟨.inr rfl,?_⟩;simp [Hands,Tryz.results49]))
  exact oC (by omega)
 ·have hlen:=hc
  refine aS (ι:={k:Nat // k≤a.length∧a.take k=b.take k}) (fun t o i=>⟨aP t [(13,.int .i64 i.1),(5,.undef)],o⟩)
   (fun i=>a.length - i.1) ⟨0,by simp,by simp⟩ (aL (by simp) (by simp)) ?_
  rintro ⟨k,hk,hi⟩ K1 hK1
  simp only [aP,List.set_cons_succ,List.set_cons_zero] at hK1⊢
  have hk1:IntKind.i64.wrap ((k:Int)+1)=((k+1:Nat):Int):=by rw [wrap64]<;>omega
  by_cases hlt:k < a.length
  ·have hg:=List.getElem?_eq_getElem hlt
   have hg2:=List.getElem?_eq_getElem (show k < b.length by omega)
   have hltb:k < b.length:=by omega
   have W:=And.intro hk1 (And.intro hg (And.intro hg2 (And.intro hlt hltb)))
   repeat' first|refine wl ?_|(refine nx ?_;refine sk (hc:=aM8 a[k] (b[k]'(by omega))) (h:=?_))|(refine sq (fun hc=>?_) (fun hc=>?_)<;>try exact hc.elim)|fail
   ·all_goals (try (refine ⟨.inr rfl,?_⟩;simp [Hands,Tryz.results49]))
    exact rC hlt hltb hc
   ·exact hK1 _ ⟨k+1,by omega,gX hi hlt hltb hc⟩ (aL (by simp) (by simp)) (by simp only;omega)
  ·have W:=hk1
   repeat' first|refine wl ?_|(refine sq (fun hc=>?_) (fun hc=>?_)<;>try exact hc.elim)|fail
   all_goals (try (refine ⟨.inr rfl,?_⟩;simp [Hands,Tryz.results49]))
   exact take_eq_all (by omega) hlt hi
theorem aAo [aB Tryz.prog] (a b:List nK) (hl:a.length≤1099511627776):Ok Tryz.prog 50 [.sl .view 5 (a.map lV),.sl .view 5 (b.map lV)] (.bool (decide (a=b))):=by
 refine ent Tryz.mix Tryz.func50 Tryz.ntmps50 ?_
 have W:=trivial
 repeat' first|refine wl ?_|(refine sq (fun hc=>?_) (fun hc=>?_)<;>try exact hc.elim)|fail
 ·all_goals (try (refine ⟨.inr rfl,?_⟩;simp [Hands,Tryz.results50]))
  exact oC (by omega)
 ·have hlen:=hc
  refine aS (ι:={k:Nat // k≤a.length∧a.take k=b.take k}) (fun t o i=>⟨aP t [(13,.int .i64 i.1),(5,.undef)],o⟩)
   (fun i=>a.length - i.1) ⟨0,by simp,by simp⟩ (aL (by simp) (by simp)) ?_
  rintro ⟨k,hk,hi⟩ K1 hK1
  simp only [aP,List.set_cons_succ,List.set_cons_zero] at hK1⊢
  have hk1:IntKind.i64.wrap ((k:Int)+1)=((k+1:Nat):Int):=by rw [wrap64]<;>omega
  by_cases hlt:k < a.length
  ·have hg:=List.getElem?_eq_getElem hlt
   have hg2:=List.getElem?_eq_getElem (show k < b.length by omega)
   have hltb:k < b.length:=by omega
   have W:=And.intro hk1 (And.intro hg (And.intro hg2 (And.intro hlt hltb)))
   repeat' first|refine wl ?_|(refine nx ?_;refine sk (hc:=aJ0 a[k] (b[k]'(by omega))) (h:=?_))|(refine sq (fun hc=>?_) (fun hc=>?_)<;>try exact hc.elim)|fail
   ·all_goals (try (refine ⟨.inr rfl,?_⟩;simp [Hands,Tryz.results50]))
    exact rC hlt hltb hc
   ·exact hK1 _ ⟨k+1,by omega,gX hi hlt hltb hc⟩ (aL (by simp) (by simp)) (by simp only;omega)
  ·have W:=hk1
   repeat' first|refine wl ?_|(refine sq (fun hc=>?_) (fun hc=>?_)<;>try exact hc.elim)|fail
   all_goals (try (refine ⟨.inr rfl,?_⟩;simp [Hands,Tryz.results50]))
   exact take_eq_all (by omega) hlt hi
theorem vR [aB Tryz.prog] (a b:List eH) (hl:a.length≤1099511627776):Ok Tryz.prog 51 [.sl .view 2 (a.map eX),.sl .view 2 (b.map eX)] (.bool (decide (a=b))):=by
 refine ent Tryz.mix Tryz.func51 Tryz.ntmps51 ?_
 have W:=trivial
 repeat' first|refine wl ?_|(refine sq (fun hc=>?_) (fun hc=>?_)<;>try exact hc.elim)|fail
 ·all_goals (try (refine ⟨.inr rfl,?_⟩;simp [Hands,Tryz.results51]))
  exact oC (by omega)
 ·have hlen:=hc
  refine aS (ι:={k:Nat // k≤a.length∧a.take k=b.take k}) (fun t o i=>⟨aP t [(13,.int .i64 i.1),(5,.undef)],o⟩)
   (fun i=>a.length - i.1) ⟨0,by simp,by simp⟩ (aL (by simp) (by simp)) ?_
  rintro ⟨k,hk,hi⟩ K1 hK1
  simp only [aP,List.set_cons_succ,List.set_cons_zero] at hK1⊢
  have hk1:IntKind.i64.wrap ((k:Int)+1)=((k+1:Nat):Int):=by rw [wrap64]<;>omega
  by_cases hlt:k < a.length
  ·have hg:=List.getElem?_eq_getElem hlt
   have hg2:=List.getElem?_eq_getElem (show k < b.length by omega)
   have hltb:k < b.length:=by omega
   have W:=And.intro hk1 (And.intro hg (And.intro hg2 (And.intro hlt hltb)))
   repeat' first|refine wl ?_|(refine nx ?_;refine sk (hc:=aG7 a[k] (b[k]'(by omega))) (h:=?_))|(refine sq (fun hc=>?_) (fun hc=>?_)<;>try exact hc.elim)|fail
   ·all_goals (try (refine ⟨.inr rfl,?_⟩;simp [Hands,Tryz.results51]))
    exact rC hlt hltb hc
   ·exact hK1 _ ⟨k+1,by omega,gX hi hlt hltb hc⟩ (aL (by simp) (by simp)) (by simp only;omega)
  ·have W:=hk1
   repeat' first|refine wl ?_|(refine sq (fun hc=>?_) (fun hc=>?_)<;>try exact hc.elim)|fail
   all_goals (try (refine ⟨.inr rfl,?_⟩;simp [Hands,Tryz.results51]))
   exact take_eq_all (by omega) hlt hi
theorem aKh {a b:bY}:a=b↔a.kind=b.kind∧a.name=b.name∧a.attrs=b.attrs∧a.text=b.text:=by
 cases a;cases b;simp
theorem aBn [aB Tryz.prog] (a b:bY) (hl:a.attrs.length≤1099511627776):Ok Tryz.prog 47 [.agg (bP .view a),.agg (bP .view b)] (.bool (decide (a=b))):=by
 have c1:=uX a.attrs b.attrs hl
 rw [show decide (a=b)=decide (a.kind=b.kind∧a.name=b.name∧a.attrs=b.attrs∧a.text=b.text) by rw [decide_eq_decide];exact aKh]
 refine ent Tryz.mix Tryz.func47 Tryz.ntmps47 ?_
 have W:=trivial
 repeat' first|refine wl ?_|(refine sq (fun hc=>?_) (fun hc=>?_)<;>try exact hc.elim)|fail
 all_goals (try (refine ⟨.inr rfl,?_⟩;simp [Hands,Tryz.results47]))
 all_goals (first|(simp_all;done)|(simp_all;rw [Bool.eq_iff_iff];simp))
theorem wR [aB Tryz.prog] (a b:List bY) (hl:szL dW a≤1099511627776):Ok Tryz.prog 46 [.sl .view 4 (a.map (bP .view)),.sl .view 4 (b.map (bP .view)),.fn 47 []] (.bool (decide (a=b))):=by
 simp only [szL] at hl
 refine ent Tryz.mix Tryz.func46 Tryz.ntmps46 ?_
 have W:=trivial
 repeat' first|refine wl ?_|(refine sq (fun hc=>?_) (fun hc=>?_)<;>try exact hc.elim)|fail
 ·all_goals (try (refine ⟨.inr rfl,?_⟩;simp [Hands,Tryz.results46]))
  exact oC (by omega)
 ·have hlen:=hc
  refine aS (ι:={k:Nat // k≤a.length∧a.take k=b.take k}) (fun t o i=>⟨aP t [(17,.int .i64 i.1),(7,.undef)],o⟩)
   (fun i=>a.length - i.1) ⟨0,by simp,by simp⟩ (aL (by simp) (by simp)) ?_
  rintro ⟨k,hk,hi⟩ K1 hK1
  simp only [aP,List.set_cons_succ,List.set_cons_zero] at hK1⊢
  have hk1:IntKind.i64.wrap ((k:Int)+1)=((k+1:Nat):Int):=by rw [wrap64]<;>omega
  by_cases hlt:k < a.length
  ·have hg:=List.getElem?_eq_getElem hlt
   have hltb:k < b.length:=by omega
   have hg2:=List.getElem?_eq_getElem hltb
   have hz:=gN dW a k hlt
   simp only [dW,szL] at hz
   have c1:=aBn a[k] b[k] (by omega)
   simp only [bP] at c1
   have W:=And.intro hk1 (And.intro hg (And.intro hg2 (And.intro hlt hltb)))
   repeat' first|refine wl ?_|(refine sq (fun hc=>?_) (fun hc=>?_)<;>try exact hc.elim)|fail
   ·all_goals (try (refine ⟨.inr rfl,?_⟩;simp [Hands,Tryz.results46]))
    exact rC hlt hltb (by simpa using hc)
   ·exact hK1 _ ⟨k+1,by omega,gX hi hlt hltb (by simpa using hc)⟩ (bX 0 (by simp) (by simp) (by simp) (by simp)) (by simp only;omega)
  ·have W:=hk1
   repeat' first|refine wl ?_|(refine sq (fun hc=>?_) (fun hc=>?_)<;>try exact hc.elim)|fail
   all_goals (try (refine ⟨.inr rfl,?_⟩;simp [Hands,Tryz.results46]))
   exact take_eq_all (by omega) hlt hi
theorem aIu {a b:fI}:a=b↔a.nodes=b.nodes∧a.opens=b.opens:=by
 cases a;cases b;simp
theorem yA [aB Tryz.prog] (a b:fI) (hl:lX a≤1099511627776):Ok Tryz.prog 48 [.agg (bS .view a),.agg (bS .view b)] (.bool (decide (a=b))):=by
 have c1:=xU a.nodes b.nodes (by simp only [lX] at hl;omega)
 have c2:=aF8 a.opens b.opens (by simp only [lX] at hl;omega)
 rw [show decide (a=b)=decide (a.nodes=b.nodes∧a.opens=b.opens) by rw [decide_eq_decide];exact aIu]
 refine ent Tryz.mix Tryz.func48 Tryz.ntmps48 ?_
 have W:=trivial
 repeat' first|refine wl ?_|(refine sq (fun hc=>?_) (fun hc=>?_)<;>try exact hc.elim)|fail
 all_goals (try (refine ⟨.inr rfl,?_⟩;simp [Hands,Tryz.results48]))
 all_goals simp_all
end Go.Proofs.YtlnblmmohpcceaaGreatDoor
