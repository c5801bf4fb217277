/-
  Proved here: steps towards the statement of this claim, text QE1.
  No condition beyond what each statement spells out.
-/
import Derived.Test.YtkidoegojckmiaaGreatDoorAQP5
import Derived.Test.YtkidoegojckmiaaGreatDoorAF6
set_option linter.all false
set_option maxRecDepth 4000
set_option maxHeartbeats 400000
namespace Go.Proofs.YtkidoegojckmiaaGreatDoor
open Go.Aw
theorem gN {α:Type} {a b:List α} {k:Nat} (h1:a.take k=b.take k) (ha:k < a.length) (hb:k < b.length) (h:a[k]=b[k]):a.take (k+1)=b.take (k+1):=by
 rw [List.take_succ_eq_append_getElem ha,List.take_succ_eq_append_getElem hb,h1,h]
theorem take_eq_all {α:Type} {a b:List α} {k:Nat} (hl:a.length=b.length) (hk:¬k < a.length) (h:a.take k=b.take k):a=b:=by
 rw [List.take_of_length_le (by omega),List.take_of_length_le (by omega)] at h
 exact h
theorem rJ {α:Type} {a b:List α} {k:Nat} (ha:k < a.length) (hb:k < b.length) (h:¬a[k]=b[k]):¬a=b:=by
 rintro rfl;exact h rfl
theorem nZ {α:Type} {a b:List α} (h:¬a.length=b.length):¬a=b:=by
 rintro rfl;exact h rfl
theorem aUj (a b:nN):EqA Tryz.prog 127 (jJ a) (jJ b) (decide (a=b)):=
 xK (f:=6) (ss:=[.str,.int .i64]) (by decide) (by kernel_rfl) (by kernel_rfl) (by kernel_rfl) (by kernel_rfl) (by simp [fK,kZ]) (by simp [fK,kZ]) (by cases a;cases b;simp)
theorem aUi (a b:iF):EqA Tryz.prog 112 (lN a) (lN b) (decide (a=b)):=
 xK (f:=6) (ss:=[.str,.str]) (by decide) (by kernel_rfl) (by kernel_rfl) (by kernel_rfl) (by kernel_rfl) (by simp [fK,kZ]) (by simp [fK,kZ]) (by cases a;cases b;simp)
theorem rP [aB Tryz.prog] (a b:List Str) (hl:a.length≤1099511627776):Ok Tryz.prog 36 [.sl .view 1 (a.map aK),.sl .view 1 (b.map aK)] (.bool (decide (a=b))):=by
 refine ent Tryz.mix Tryz.func36 Tryz.ntmps36 ?_
 have W:=trivial
 repeat' first|refine st ?_|(refine nx ?_;refine so ?_)|(refine cx ?_;refine sc (fun hc=>?_) (fun hc=>?_)<;>try exact hc.elim)|(refine lx ?_;refine sp (fun hc=>?_) (fun hc=>?_)<;>try exact hc.elim)|refine sx ?_ ?_|refine sy ?_ ?_|fail
 ·all_goals (try (refine ⟨.inr rfl,?_⟩;simp [Hands,Tryz.results36]))
  exact nZ (by omega)
 ·have hlen:=hc
  refine aJ (ι:={k:Nat // k≤a.length∧a.take k=b.take k}) (fun t o i=>⟨aL t [(13,.int .i64 i.1),(5,.undef)],o⟩)
   (fun i=>a.length - i.1) ⟨0,by simp,by simp⟩ (aH (by simp) (by simp)) ?_
  rintro ⟨k,hk,hi⟩ K1 hK1
  simp only [aL,List.set_cons_succ,List.set_cons_zero] at hK1⊢
  have hk1:IntKind.i64.wrap ((k:Int)+1)=((k+1:Nat):Int):=by rw [wrap64]<;>omega
  by_cases hlt:k < a.length
  ·have hg:=List.getElem?_eq_getElem hlt
   have hg2:=List.getElem?_eq_getElem (show k < b.length by omega)
   have hltb:k < b.length:=by omega
   have W:=And.intro hk1 (And.intro hg (And.intro hg2 (And.intro hlt hltb)))
   repeat' first|refine st ?_|(refine nx ?_;refine so ?_)|(refine cx ?_;refine sc (fun hc=>?_) (fun hc=>?_)<;>try exact hc.elim)|(refine lx ?_;refine sp (fun hc=>?_) (fun hc=>?_)<;>try exact hc.elim)|refine sx ?_ ?_|refine sy ?_ ?_|fail
   ·all_goals (try (refine ⟨.inr rfl,?_⟩;simp [Hands,Tryz.results36]))
    exact rJ hlt hltb hc
   ·exact hK1 _ ⟨k+1,by omega,gN hi hlt hltb hc⟩ (aH (by simp) (by simp)) (by simp only;omega)
  ·have W:=hk1
   repeat' first|refine st ?_|(refine nx ?_;refine so ?_)|(refine cx ?_;refine sc (fun hc=>?_) (fun hc=>?_)<;>try exact hc.elim)|(refine lx ?_;refine sp (fun hc=>?_) (fun hc=>?_)<;>try exact hc.elim)|refine sx ?_ ?_|refine sy ?_ ?_|fail
   all_goals (try (refine ⟨.inr rfl,?_⟩;simp [Hands,Tryz.results36]))
   exact take_eq_all (by omega) hlt hi
theorem aKr [aB Tryz.prog] (a b:List Int) (hl:a.length≤1099511627776):Ok Tryz.prog 64 [.sl .view 1 (a.map jT),.sl .view 1 (b.map jT)] (.bool (decide (a=b))):=by
 refine ent Tryz.mix Tryz.func64 Tryz.ntmps64 ?_
 have W:=trivial
 repeat' first|refine st ?_|(refine nx ?_;refine so ?_)|(refine cx ?_;refine sc (fun hc=>?_) (fun hc=>?_)<;>try exact hc.elim)|(refine lx ?_;refine sp (fun hc=>?_) (fun hc=>?_)<;>try exact hc.elim)|refine sx ?_ ?_|refine sy ?_ ?_|fail
 ·all_goals (try (refine ⟨.inr rfl,?_⟩;simp [Hands,Tryz.results64]))
  exact nZ (by omega)
 ·have hlen:=hc
  refine aJ (ι:={k:Nat // k≤a.length∧a.take k=b.take k}) (fun t o i=>⟨aL t [(13,.int .i64 i.1),(5,.undef)],o⟩)
   (fun i=>a.length - i.1) ⟨0,by simp,by simp⟩ (aH (by simp) (by simp)) ?_
  rintro ⟨k,hk,hi⟩ K1 hK1
  simp only [aL,List.set_cons_succ,List.set_cons_zero] at hK1⊢
  have hk1:IntKind.i64.wrap ((k:Int)+1)=((k+1:Nat):Int):=by rw [wrap64]<;>omega
  by_cases hlt:k < a.length
  ·have hg:=List.getElem?_eq_getElem hlt
   have hg2:=List.getElem?_eq_getElem (show k < b.length by omega)
   have hltb:k < b.length:=by omega
   have W:=And.intro hk1 (And.intro hg (And.intro hg2 (And.intro hlt hltb)))
   repeat' first|refine st ?_|(refine nx ?_;refine so ?_)|(refine cx ?_;refine sc (fun hc=>?_) (fun hc=>?_)<;>try exact hc.elim)|(refine lx ?_;refine sp (fun hc=>?_) (fun hc=>?_)<;>try exact hc.elim)|refine sx ?_ ?_|refine sy ?_ ?_|fail
   ·all_goals (try (refine ⟨.inr rfl,?_⟩;simp [Hands,Tryz.results64]))
    exact rJ hlt hltb hc
   ·exact hK1 _ ⟨k+1,by omega,gN hi hlt hltb hc⟩ (aH (by simp) (by simp)) (by simp only;omega)
  ·have W:=hk1
   repeat' first|refine st ?_|(refine nx ?_;refine so ?_)|(refine cx ?_;refine sc (fun hc=>?_) (fun hc=>?_)<;>try exact hc.elim)|(refine lx ?_;refine sp (fun hc=>?_) (fun hc=>?_)<;>try exact hc.elim)|refine sx ?_ ?_|refine sy ?_ ?_|fail
   all_goals (try (refine ⟨.inr rfl,?_⟩;simp [Hands,Tryz.results64]))
   exact take_eq_all (by omega) hlt hi
theorem aKg [aB Tryz.prog] (a b:List nN) (hl:a.length≤1099511627776):Ok Tryz.prog 80 [.sl .view 2 (a.map jJ),.sl .view 2 (b.map jJ)] (.bool (decide (a=b))):=by
 refine ent Tryz.mix Tryz.func80 Tryz.ntmps80 ?_
 have W:=trivial
 repeat' first|refine st ?_|(refine nx ?_;refine so ?_)|(refine cx ?_;refine sc (fun hc=>?_) (fun hc=>?_)<;>try exact hc.elim)|(refine lx ?_;refine sp (fun hc=>?_) (fun hc=>?_)<;>try exact hc.elim)|refine sx ?_ ?_|refine sy ?_ ?_|fail
 ·all_goals (try (refine ⟨.inr rfl,?_⟩;simp [Hands,Tryz.results80]))
  exact nZ (by omega)
 ·have hlen:=hc
  refine aJ (ι:={k:Nat // k≤a.length∧a.take k=b.take k}) (fun t o i=>⟨aL t [(13,.int .i64 i.1),(5,.undef)],o⟩)
   (fun i=>a.length - i.1) ⟨0,by simp,by simp⟩ (aH (by simp) (by simp)) ?_
  rintro ⟨k,hk,hi⟩ K1 hK1
  simp only [aL,List.set_cons_succ,List.set_cons_zero] at hK1⊢
  have hk1:IntKind.i64.wrap ((k:Int)+1)=((k+1:Nat):Int):=by rw [wrap64]<;>omega
  by_cases hlt:k < a.length
  ·have hg:=List.getElem?_eq_getElem hlt
   have hg2:=List.getElem?_eq_getElem (show k < b.length by omega)
   have hltb:k < b.length:=by omega
   have W:=And.intro hk1 (And.intro hg (And.intro hg2 (And.intro hlt hltb)))
   repeat' first|refine st ?_|(refine nx ?_;first|refine so ?_|refine sk (hc:=aUj a[k] (b[k]'(by omega))) (h:=?_))|(refine cx ?_;refine sc (fun hc=>?_) (fun hc=>?_)<;>try exact hc.elim)|(refine lx ?_;refine sp (fun hc=>?_) (fun hc=>?_)<;>try exact hc.elim)|refine sx ?_ ?_|refine sy ?_ ?_|fail
   ·all_goals (try (refine ⟨.inr rfl,?_⟩;simp [Hands,Tryz.results80]))
    exact rJ hlt hltb hc
   ·exact hK1 _ ⟨k+1,by omega,gN hi hlt hltb hc⟩ (aH (by simp) (by simp)) (by simp only;omega)
  ·have W:=hk1
   repeat' first|refine st ?_|(refine nx ?_;refine so ?_)|(refine cx ?_;refine sc (fun hc=>?_) (fun hc=>?_)<;>try exact hc.elim)|(refine lx ?_;refine sp (fun hc=>?_) (fun hc=>?_)<;>try exact hc.elim)|refine sx ?_ ?_|refine sy ?_ ?_|fail
   all_goals (try (refine ⟨.inr rfl,?_⟩;simp [Hands,Tryz.results80]))
   exact take_eq_all (by omega) hlt hi
theorem aAz [aB Tryz.prog] (a b:List iF) (hl:a.length≤1099511627776):Ok Tryz.prog 61 [.sl .view 2 (a.map lN),.sl .view 2 (b.map lN)] (.bool (decide (a=b))):=by
 refine ent Tryz.mix Tryz.func61 Tryz.ntmps61 ?_
 have W:=trivial
 repeat' first|refine st ?_|(refine nx ?_;refine so ?_)|(refine cx ?_;refine sc (fun hc=>?_) (fun hc=>?_)<;>try exact hc.elim)|(refine lx ?_;refine sp (fun hc=>?_) (fun hc=>?_)<;>try exact hc.elim)|refine sx ?_ ?_|refine sy ?_ ?_|fail
 ·all_goals (try (refine ⟨.inr rfl,?_⟩;simp [Hands,Tryz.results61]))
  exact nZ (by omega)
 ·have hlen:=hc
  refine aJ (ι:={k:Nat // k≤a.length∧a.take k=b.take k}) (fun t o i=>⟨aL t [(13,.int .i64 i.1),(5,.undef)],o⟩)
   (fun i=>a.length - i.1) ⟨0,by simp,by simp⟩ (aH (by simp) (by simp)) ?_
  rintro ⟨k,hk,hi⟩ K1 hK1
  simp only [aL,List.set_cons_succ,List.set_cons_zero] at hK1⊢
  have hk1:IntKind.i64.wrap ((k:Int)+1)=((k+1:Nat):Int):=by rw [wrap64]<;>omega
  by_cases hlt:k < a.length
  ·have hg:=List.getElem?_eq_getElem hlt
   have hg2:=List.getElem?_eq_getElem (show k < b.length by omega)
   have hltb:k < b.length:=by omega
   have W:=And.intro hk1 (And.intro hg (And.intro hg2 (And.intro hlt hltb)))
   repeat' first|refine st ?_|(refine nx ?_;first|refine so ?_|refine sk (hc:=aUi a[k] (b[k]'(by omega))) (h:=?_))|(refine cx ?_;refine sc (fun hc=>?_) (fun hc=>?_)<;>try exact hc.elim)|(refine lx ?_;refine sp (fun hc=>?_) (fun hc=>?_)<;>try exact hc.elim)|refine sx ?_ ?_|refine sy ?_ ?_|fail
   ·all_goals (try (refine ⟨.inr rfl,?_⟩;simp [Hands,Tryz.results61]))
    exact rJ hlt hltb hc
   ·exact hK1 _ ⟨k+1,by omega,gN hi hlt hltb hc⟩ (aH (by simp) (by simp)) (by simp only;omega)
  ·have W:=hk1
   repeat' first|refine st ?_|(refine nx ?_;refine so ?_)|(refine cx ?_;refine sc (fun hc=>?_) (fun hc=>?_)<;>try exact hc.elim)|(refine lx ?_;refine sp (fun hc=>?_) (fun hc=>?_)<;>try exact hc.elim)|refine sx ?_ ?_|refine sy ?_ ?_|fail
   all_goals (try (refine ⟨.inr rfl,?_⟩;simp [Hands,Tryz.results61]))
   exact take_eq_all (by omega) hlt hi
theorem aUp {a b:lJ}:a=b↔a.name=b.name∧a.text=b.text∧a.parent=b.parent∧a.attrs=b.attrs:=by
 cases a;cases b;simp
theorem aHa [aB Tryz.prog] (a b:lJ) (hl:a.attrs.length≤1099511627776):Ok Tryz.prog 63 [.agg (dE .view a),.agg (dE .view b)] (.bool (decide (a=b))):=by
 have c1:=aAz a.attrs b.attrs hl
 rw [show decide (a=b)=decide (a.name=b.name∧a.text=b.text∧a.parent=b.parent∧a.attrs=b.attrs) by rw [decide_eq_decide];exact aUp]
 refine ent Tryz.mix Tryz.func63 Tryz.ntmps63 ?_
 have W:=trivial
 repeat' first|refine st ?_|(refine nx ?_;refine so ?_)|(refine cx ?_;refine sc (fun hc=>?_) (fun hc=>?_)<;>try exact hc.elim)|(refine lx ?_;refine sp (fun hc=>?_) (fun hc=>?_)<;>try exact hc.elim)|refine sx ?_ ?_|refine sy ?_ ?_|fail
 all_goals (try (refine ⟨.inr rfl,?_⟩;simp [Hands,Tryz.results63]))
 all_goals simp_all
theorem aCr [aB Tryz.prog] (a b:List lJ) (hl:szL qJ a≤1099511627776):Ok Tryz.prog 62 [.sl .view 4 (a.map (dE .view)),.sl .view 4 (b.map (dE .view)),.fn 63 []] (.bool (decide (a=b))):=by
 simp only [szL] at hl
 refine ent Tryz.mix Tryz.func62 Tryz.ntmps62 ?_
 have W:=trivial
 repeat' first|refine st ?_|(refine nx ?_;refine so ?_)|(refine cx ?_;refine sc (fun hc=>?_) (fun hc=>?_)<;>try exact hc.elim)|(refine lx ?_;refine sp (fun hc=>?_) (fun hc=>?_)<;>try exact hc.elim)|refine sx ?_ ?_|refine sy ?_ ?_|fail
 ·all_goals (try (refine ⟨.inr rfl,?_⟩;simp [Hands,Tryz.results62]))
  exact nZ (by omega)
 ·have hlen:=hc
  refine aJ (ι:={k:Nat // k≤a.length∧a.take k=b.take k}) (fun t o i=>⟨aL t [(17,.int .i64 i.1),(7,.undef)],o⟩)
   (fun i=>a.length - i.1) ⟨0,by simp,by simp⟩ (aH (by simp) (by simp)) ?_
  rintro ⟨k,hk,hi⟩ K1 hK1
  simp only [aL,List.set_cons_succ,List.set_cons_zero] at hK1⊢
  have hk1:IntKind.i64.wrap ((k:Int)+1)=((k+1:Nat):Int):=by rw [wrap64]<;>omega
  by_cases hlt:k < a.length
  ·have hg:=List.getElem?_eq_getElem hlt
   have hltb:k < b.length:=by omega
   have hg2:=List.getElem?_eq_getElem hltb
   have hz:=dJ qJ a k hlt
   simp only [qJ,szL] at hz
   have c1:=aHa a[k] b[k] (by omega)
   simp only [dE] at c1
   have W:=And.intro hk1 (And.intro hg (And.intro hg2 (And.intro hlt hltb)))
   repeat' first|refine st ?_|(refine nx ?_;refine so ?_)|(refine cx ?_;refine sc (fun hc=>?_) (fun hc=>?_)<;>try exact hc.elim)|(refine lx ?_;refine sp (fun hc=>?_) (fun hc=>?_)<;>try exact hc.elim)|refine sx ?_ ?_|refine sy ?_ ?_|fail
   ·all_goals (try (refine ⟨.inr rfl,?_⟩;simp [Hands,Tryz.results62]))
    exact rJ hlt hltb (by simpa using hc)
   ·exact hK1 _ ⟨k+1,by omega,gN hi hlt hltb (by simpa using hc)⟩ (aG 0 (by simp) (by simp) (by simp) (by simp)) (by simp only;omega)
  ·have W:=hk1
   repeat' first|refine st ?_|(refine nx ?_;refine so ?_)|(refine cx ?_;refine sc (fun hc=>?_) (fun hc=>?_)<;>try exact hc.elim)|(refine lx ?_;refine sp (fun hc=>?_) (fun hc=>?_)<;>try exact hc.elim)|refine sx ?_ ?_|refine sy ?_ ?_|fail
   all_goals (try (refine ⟨.inr rfl,?_⟩;simp [Hands,Tryz.results62]))
   exact take_eq_all (by omega) hlt hi
end Go.Proofs.YtkidoegojckmiaaGreatDoor
