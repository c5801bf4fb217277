/-
  Proved here: steps towards the statement of this claim, text FA1.
  No condition beyond what each statement spells out.
-/
import Derived.Test.YtkidoegojckmiaaGreatDoorAQE1
import Derived.Test.YtkidoegojckmiaaGreatDoorAQN1
set_option linter.all false
set_option maxRecDepth 4000
set_option maxHeartbeats 4000000
namespace Go.Proofs.YtkidoegojckmiaaGreatDoor
open Go.Aw
theorem aMx (a b:dR):EqA Tryz.prog 49 (jG a) (jG b) (decide (a=b)):=
 xK (f:=6) (ss:=[.int .i64,.str,.str,.str,.int .i64,.bool,.int .i64,.str]) (by decide) (by kernel_rfl) (by kernel_rfl) (by kernel_rfl) (by kernel_rfl) (by simp [fK,kZ]) (by simp [fK,kZ]) (by obtain ⟨m,⟨t1,t2⟩,d,n,o,c,bo⟩:=a;obtain ⟨m2,⟨u1,u2⟩,d2,n2,o2,c2,bo2⟩:=b;simp [and_assoc])
theorem aOy (a b:kP):EqA Tryz.prog 84 (jB a) (jB b) (decide (a=b)):=
 xK (f:=6) (ss:=[.str,.str,.bool,.int .i64,.str]) (by decide) (by kernel_rfl) (by kernel_rfl) (by kernel_rfl) (by kernel_rfl) (by simp [fK,kZ]) (by simp [fK,kZ]) (by obtain ⟨⟨t1,t2⟩,o,c,bo⟩:=a;obtain ⟨⟨u1,u2⟩,o2,c2,bo2⟩:=b;simp [and_assoc])
theorem aI6 [aB Tryz.prog] (a b:List dR) (hl:a.length≤1099511627776):Ok Tryz.prog 33 [.sl .view 8 (a.map jG),.sl .view 8 (b.map jG)] (.bool (decide (a=b))):=by
 refine ent Tryz.mix Tryz.func33 Tryz.ntmps33 ?_
 have W:=trivial
 repeat' first|refine st ?_|(refine nx ?_;refine so ?_)|(refine cx ?_;refine sc (fun hc=>?_) (fun hc=>?_)<;>try exact hc.elim)|(refine lx ?_;refine sp (fun hc=>?_) (fun hc=>?_)<;>try exact hc.elim)|refine sx ?_ ?_|refine sy ?_ ?_|fail
 ·all_goals (try (refine ⟨.inr rfl,?_⟩;simp [Hands,Tryz.results33]))
  exact nZ (by omega)
 ·have hlen:=hc
  refine aJ (ι:={k:Nat // k≤a.length∧a.take k=b.take k}) (fun t o i=>⟨aL t [(13,.int .i64 i.1),(5,.undef)],o⟩)
   (fun i=>a.length - i.1) ⟨0,by simp,by simp⟩ (aH (by simp) (by simp)) ?_
  rintro ⟨k,hk,hi⟩ K1 hK1
  simp only [aL,List.set_cons_succ,List.set_cons_zero] at hK1⊢
  have hk1:IntKind.i64.wrap ((k:Int)+1)=((k+1:Nat):Int):=by rw [wrap64]<;>omega
  by_cases hlt:k < a.length
  ·have hg:=List.getElem?_eq_getElem hlt
   have hg2:=List.getElem?_eq_getElem (show k < b.length by omega)
   have hltb:k < b.length:=by omega
   have W:=And.intro hk1 (And.intro hg (And.intro hg2 (And.intro hlt hltb)))
   repeat' first|refine st ?_|(refine nx ?_;first|refine so ?_|refine sk (hc:=aMx a[k] (b[k]'(by omega))) (h:=?_))|(refine cx ?_;refine sc (fun hc=>?_) (fun hc=>?_)<;>try exact hc.elim)|(refine lx ?_;refine sp (fun hc=>?_) (fun hc=>?_)<;>try exact hc.elim)|refine sx ?_ ?_|refine sy ?_ ?_|fail
   ·all_goals (try (refine ⟨.inr rfl,?_⟩;simp [Hands,Tryz.results33]))
    exact rJ hlt hltb hc
   ·exact hK1 _ ⟨k+1,by omega,gN hi hlt hltb hc⟩ (aH (by simp) (by simp)) (by simp only;omega)
  ·have W:=hk1
   repeat' first|refine st ?_|(refine nx ?_;refine so ?_)|(refine cx ?_;refine sc (fun hc=>?_) (fun hc=>?_)<;>try exact hc.elim)|(refine lx ?_;refine sp (fun hc=>?_) (fun hc=>?_)<;>try exact hc.elim)|refine sx ?_ ?_|refine sy ?_ ?_|fail
   all_goals (try (refine ⟨.inr rfl,?_⟩;simp [Hands,Tryz.results33]))
   exact take_eq_all (by omega) hlt hi
theorem aE2 [aB Tryz.prog] (a b:List kP) (hl:a.length≤1099511627776):Ok Tryz.prog 34 [.sl .view 5 (a.map jB),.sl .view 5 (b.map jB)] (.bool (decide (a=b))):=by
 refine ent Tryz.mix Tryz.func34 Tryz.ntmps34 ?_
 have W:=trivial
 repeat' first|refine st ?_|(refine nx ?_;refine so ?_)|(refine cx ?_;refine sc (fun hc=>?_) (fun hc=>?_)<;>try exact hc.elim)|(refine lx ?_;refine sp (fun hc=>?_) (fun hc=>?_)<;>try exact hc.elim)|refine sx ?_ ?_|refine sy ?_ ?_|fail
 ·all_goals (try (refine ⟨.inr rfl,?_⟩;simp [Hands,Tryz.results34]))
  exact nZ (by omega)
 ·have hlen:=hc
  refine aJ (ι:={k:Nat // k≤a.length∧a.take k=b.take k}) (fun t o i=>⟨aL t [(13,.int .i64 i.1),(5,.undef)],o⟩)
   (fun i=>a.length - i.1) ⟨0,by simp,by simp⟩ (aH (by simp) (by simp)) ?_
  rintro ⟨k,hk,hi⟩ K1 hK1
  simp only [aL,List.set_cons_succ,List.set_cons_zero] at hK1⊢
  have hk1:IntKind.i64.wrap ((k:Int)+1)=((k+1:Nat):Int):=by rw [wrap64]<;>omega
  by_cases hlt:k < a.length
  ·have hg:=List.getElem?_eq_getElem hlt
   have hg2:=List.getElem?_eq_getElem (show k < b.length by omega)
   have hltb:k < b.length:=by omega
   have W:=And.intro hk1 (And.intro hg (And.intro hg2 (And.intro hlt hltb)))
   repeat' first|refine st ?_|(refine nx ?_;first|refine so ?_|refine sk (hc:=aOy a[k] (b[k]'(by omega))) (h:=?_))|(refine cx ?_;refine sc (fun hc=>?_) (fun hc=>?_)<;>try exact hc.elim)|(refine lx ?_;refine sp (fun hc=>?_) (fun hc=>?_)<;>try exact hc.elim)|refine sx ?_ ?_|refine sy ?_ ?_|fail
   ·all_goals (try (refine ⟨.inr rfl,?_⟩;simp [Hands,Tryz.results34]))
    exact rJ hlt hltb hc
   ·exact hK1 _ ⟨k+1,by omega,gN hi hlt hltb hc⟩ (aH (by simp) (by simp)) (by simp only;omega)
  ·have W:=hk1
   repeat' first|refine st ?_|(refine nx ?_;refine so ?_)|(refine cx ?_;refine sc (fun hc=>?_) (fun hc=>?_)<;>try exact hc.elim)|(refine lx ?_;refine sp (fun hc=>?_) (fun hc=>?_)<;>try exact hc.elim)|refine sx ?_ ?_|refine sy ?_ ?_|fail
   all_goals (try (refine ⟨.inr rfl,?_⟩;simp [Hands,Tryz.results34]))
   exact take_eq_all (by omega) hlt hi
theorem zS [aB Tryz.prog] (a b:List bC) (hl:a.length≤1099511627776):Ok Tryz.prog 35 [.sl .view 2 (a.map bF),.sl .view 2 (b.map bF)] (.bool (decide (a=b))):=by
 refine ent Tryz.mix Tryz.func35 Tryz.ntmps35 ?_
 have W:=trivial
 repeat' first|refine st ?_|(refine nx ?_;refine so ?_)|(refine cx ?_;refine sc (fun hc=>?_) (fun hc=>?_)<;>try exact hc.elim)|(refine lx ?_;refine sp (fun hc=>?_) (fun hc=>?_)<;>try exact hc.elim)|refine sx ?_ ?_|refine sy ?_ ?_|fail
 ·all_goals (try (refine ⟨.inr rfl,?_⟩;simp [Hands,Tryz.results35]))
  exact nZ (by omega)
 ·have hlen:=hc
  refine aJ (ι:={k:Nat // k≤a.length∧a.take k=b.take k}) (fun t o i=>⟨aL t [(13,.int .i64 i.1),(5,.undef)],o⟩)
   (fun i=>a.length - i.1) ⟨0,by simp,by simp⟩ (aH (by simp) (by simp)) ?_
  rintro ⟨k,hk,hi⟩ K1 hK1
  simp only [aL,List.set_cons_succ,List.set_cons_zero] at hK1⊢
  have hk1:IntKind.i64.wrap ((k:Int)+1)=((k+1:Nat):Int):=by rw [wrap64]<;>omega
  by_cases hlt:k < a.length
  ·have hg:=List.getElem?_eq_getElem hlt
   have hg2:=List.getElem?_eq_getElem (show k < b.length by omega)
   have hltb:k < b.length:=by omega
   have W:=And.intro hk1 (And.intro hg (And.intro hg2 (And.intro hlt hltb)))
   repeat' first|refine st ?_|(refine nx ?_;first|refine so ?_|refine sk (hc:=pM a[k] (b[k]'(by omega))) (h:=?_))|(refine cx ?_;refine sc (fun hc=>?_) (fun hc=>?_)<;>try exact hc.elim)|(refine lx ?_;refine sp (fun hc=>?_) (fun hc=>?_)<;>try exact hc.elim)|refine sx ?_ ?_|refine sy ?_ ?_|fail
   ·all_goals (try (refine ⟨.inr rfl,?_⟩;simp [Hands,Tryz.results35]))
    exact rJ hlt hltb hc
   ·exact hK1 _ ⟨k+1,by omega,gN hi hlt hltb hc⟩ (aH (by simp) (by simp)) (by simp only;omega)
  ·have W:=hk1
   repeat' first|refine st ?_|(refine nx ?_;refine so ?_)|(refine cx ?_;refine sc (fun hc=>?_) (fun hc=>?_)<;>try exact hc.elim)|(refine lx ?_;refine sp (fun hc=>?_) (fun hc=>?_)<;>try exact hc.elim)|refine sx ?_ ?_|refine sy ?_ ?_|fail
   all_goals (try (refine ⟨.inr rfl,?_⟩;simp [Hands,Tryz.results35]))
   exact take_eq_all (by omega) hlt hi
theorem aR8 {a b:dM}:a=b↔a.kind=b.kind∧a.name=b.name∧a.attrs=b.attrs∧a.text=b.text:=by
 cases a;cases b;simp
theorem aFs [aB Tryz.prog] (a b:dM) (hl:a.attrs.length≤1099511627776):Ok Tryz.prog 31 [.agg (bP .view a),.agg (bP .view b)] (.bool (decide (a=b))):=by
 have c1:=aAz a.attrs b.attrs hl
 rw [show decide (a=b)=decide (a.kind=b.kind∧a.name=b.name∧a.attrs=b.attrs∧a.text=b.text) by rw [decide_eq_decide];exact aR8]
 refine ent Tryz.mix Tryz.func31 Tryz.ntmps31 ?_
 have W:=trivial
 repeat' first|refine st ?_|(refine nx ?_;refine so ?_)|(refine cx ?_;refine sc (fun hc=>?_) (fun hc=>?_)<;>try exact hc.elim)|(refine lx ?_;refine sp (fun hc=>?_) (fun hc=>?_)<;>try exact hc.elim)|refine sx ?_ ?_|refine sy ?_ ?_|fail
 all_goals (try (refine ⟨.inr rfl,?_⟩;simp [Hands,Tryz.results31]))
 all_goals (first|(simp_all;done)|(simp_all;rw [Bool.eq_iff_iff];simp))
theorem aBo [aB Tryz.prog] (a b:List dM) (hl:szL eO a≤1099511627776):Ok Tryz.prog 30 [.sl .view 4 (a.map (bP .view)),.sl .view 4 (b.map (bP .view)),.fn 31 []] (.bool (decide (a=b))):=by
 simp only [szL] at hl
 refine ent Tryz.mix Tryz.func30 Tryz.ntmps30 ?_
 have W:=trivial
 repeat' first|refine st ?_|(refine nx ?_;refine so ?_)|(refine cx ?_;refine sc (fun hc=>?_) (fun hc=>?_)<;>try exact hc.elim)|(refine lx ?_;refine sp (fun hc=>?_) (fun hc=>?_)<;>try exact hc.elim)|refine sx ?_ ?_|refine sy ?_ ?_|fail
 ·all_goals (try (refine ⟨.inr rfl,?_⟩;simp [Hands,Tryz.results30]))
  exact nZ (by omega)
 ·have hlen:=hc
  refine aJ (ι:={k:Nat // k≤a.length∧a.take k=b.take k}) (fun t o i=>⟨aL t [(17,.int .i64 i.1),(7,.undef)],o⟩)
   (fun i=>a.length - i.1) ⟨0,by simp,by simp⟩ (aH (by simp) (by simp)) ?_
  rintro ⟨k,hk,hi⟩ K1 hK1
  simp only [aL,List.set_cons_succ,List.set_cons_zero] at hK1⊢
  have hk1:IntKind.i64.wrap ((k:Int)+1)=((k+1:Nat):Int):=by rw [wrap64]<;>omega
  by_cases hlt:k < a.length
  ·have hg:=List.getElem?_eq_getElem hlt
   have hltb:k < b.length:=by omega
   have hg2:=List.getElem?_eq_getElem hltb
   have hz:=dJ eO a k hlt
   simp only [eO,szL] at hz
   have c1:=aFs a[k] b[k] (by omega)
   simp only [bP] at c1
   have W:=And.intro hk1 (And.intro hg (And.intro hg2 (And.intro hlt hltb)))
   repeat' first|refine st ?_|(refine nx ?_;refine so ?_)|(refine cx ?_;refine sc (fun hc=>?_) (fun hc=>?_)<;>try exact hc.elim)|(refine lx ?_;refine sp (fun hc=>?_) (fun hc=>?_)<;>try exact hc.elim)|refine sx ?_ ?_|refine sy ?_ ?_|fail
   ·all_goals (try (refine ⟨.inr rfl,?_⟩;simp [Hands,Tryz.results30]))
    exact rJ hlt hltb (by simpa using hc)
   ·exact hK1 _ ⟨k+1,by omega,gN hi hlt hltb (by simpa using hc)⟩ (aG 0 (by simp) (by simp) (by simp) (by simp)) (by simp only;omega)
  ·have W:=hk1
   repeat' first|refine st ?_|(refine nx ?_;refine so ?_)|(refine cx ?_;refine sc (fun hc=>?_) (fun hc=>?_)<;>try exact hc.elim)|(refine lx ?_;refine sp (fun hc=>?_) (fun hc=>?_)<;>try exact hc.elim)|refine sx ?_ ?_|refine sy ?_ ?_|fail
   all_goals (try (refine ⟨.inr rfl,?_⟩;simp [Hands,Tryz.results30]))
   exact take_eq_all (by omega) hlt hi
theorem aNd {a b:gD}:a=b↔a.nodes=b.nodes∧a.opens=b.opens:=by
 cases a;cases b;simp
theorem aCv [aB Tryz.prog] (a b:gD) (hl:jP a≤1099511627776):Ok Tryz.prog 32 [.agg (dG .view a),.agg (dG .view b)] (.bool (decide (a=b))):=by
 have c1:=aCr a.nodes b.nodes (by simp only [jP] at hl;omega)
 have c2:=aKr a.opens b.opens (by simp only [jP] at hl;omega)
 rw [show decide (a=b)=decide (a.nodes=b.nodes∧a.opens=b.opens) by rw [decide_eq_decide];exact aNd]
 refine ent Tryz.mix Tryz.func32 Tryz.ntmps32 ?_
 have W:=trivial
 repeat' first|refine st ?_|(refine nx ?_;refine so ?_)|(refine cx ?_;refine sc (fun hc=>?_) (fun hc=>?_)<;>try exact hc.elim)|(refine lx ?_;refine sp (fun hc=>?_) (fun hc=>?_)<;>try exact hc.elim)|refine sx ?_ ?_|refine sy ?_ ?_|fail
 all_goals (try (refine ⟨.inr rfl,?_⟩;simp [Hands,Tryz.results32]))
 all_goals simp_all
end Go.Proofs.YtkidoegojckmiaaGreatDoor
