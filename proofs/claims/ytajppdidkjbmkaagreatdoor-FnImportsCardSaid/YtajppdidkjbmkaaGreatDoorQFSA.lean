/-
  Proved here: steps towards the statement of this claim, text QFSA.
  No condition beyond what each statement spells out.
-/
import Derived.Test.YtajppdidkjbmkaaGreatDoorQDRG
import Derived.Test.YtajppdidkjbmkaaGreatDoorF6
set_option linter.all false
set_option maxRecDepth 4000
set_option maxHeartbeats 4000000
namespace Go.Proofs.YtajppdidkjbmkaaGreatDoor
open Go.Aw
theorem aJ1 [aB Tryz.prog] (l:List aH) (hl:l.length≤1099511627776):Ok Tryz.prog 8 [.sl .view 2 (l.map aL),.sl .view 2 (l.map aL)] (.bool true):=by
 refine ent Tryz.mix Tryz.func8 Tryz.ntmps8 ?_
 have W:=trivial
 repeat' first|refine st ?_|(refine nx ?_;refine so ?_)|(refine cx ?_;refine sc (fun hc=>?_) (fun hc=>?_)<;>try exact hc.elim)|(refine lx ?_;refine sp (fun hc=>?_) (fun hc=>?_)<;>try exact hc.elim)|refine sx ?_ ?_|refine sy ?_ ?_|fail
 refine aJ (ι:={k:Nat // k≤l.length}) (fun t o i=>⟨aS t [(5,.int .i64 i.1)],o⟩)
  (fun i=>l.length - i.1) ⟨0,by simp⟩ (aD (by simp) (by simp)) ?_
 rintro ⟨k,hk⟩ K1 hK1
 simp only [aS,List.set_cons_succ,List.set_cons_zero] at hK1⊢
 have hk1:IntKind.i64.wrap ((k:Int)+1)=((k+1:Nat):Int):=by rw [wrap64]<;>omega
 by_cases hlt:k < l.length
 ·have hg:=List.getElem?_eq_getElem hlt
  have he:=kV l[k] l[k]
  rw [decide_eq_true rfl] at he
  generalize l[k]=a at *
  simp only [aL] at he
  have hli:(k:Int) < (l.length:Int):=by omega
  clear hlt
  have W:=And.intro hk1 (And.intro hg hli)
  have c0:=he
  repeat' first|refine st ?_|(refine nx ?_;refine so ?_)|(refine cx ?_;refine sc (fun hc=>?_) (fun hc=>?_)<;>try exact hc.elim)|(refine lx ?_;refine sp (fun hc=>?_) (fun hc=>?_)<;>try exact hc.elim)|refine sx ?_ ?_|refine sy ?_ ?_|fail
  exact hK1 _ ⟨k+1,by omega⟩ (aD (by simp) (by simp)) (by simp only;omega)
 ·have W:=hk1
  repeat' first|refine st ?_|(refine nx ?_;refine so ?_)|(refine cx ?_;refine sc (fun hc=>?_) (fun hc=>?_)<;>try exact hc.elim)|(refine lx ?_;refine sp (fun hc=>?_) (fun hc=>?_)<;>try exact hc.elim)|refine sx ?_ ?_|refine sy ?_ ?_|fail
  all_goals (try (refine ⟨.inr rfl,?_⟩;simp [Hands,Tryz.results8]))
theorem jT {α:Type} {a b:List α} {k:Nat} (h1:a.take k=b.take k) (ha:k < a.length) (hb:k < b.length) (h:a[k]=b[k]):a.take (k+1)=b.take (k+1):=by
 rw [List.take_succ_eq_append_getElem ha,List.take_succ_eq_append_getElem hb,h1,h]
theorem take_eq_all {α:Type} {a b:List α} {k:Nat} (hl:a.length=b.length) (hk:¬k < a.length) (h:a.take k=b.take k):a=b:=by
 rw [List.take_of_length_le (by omega),List.take_of_length_le (by omega)] at h
 exact h
theorem wU {α:Type} {a b:List α} {k:Nat} (ha:k < a.length) (hb:k < b.length) (h:¬a[k]=b[k]):¬a=b:=by
 rintro rfl;exact h rfl
theorem uK {α:Type} {a b:List α} (h:¬a.length=b.length):¬a=b:=by
 rintro rfl;exact h rfl
theorem aVt (a b:sV):EqA Tryz.prog 147 (oN a) (oN b) (decide (a=b)):=
 aB2 (f:=6) (ss:=[.str,.str]) (by decide) (by kernel_rfl) (by kernel_rfl) (by kernel_rfl) (by kernel_rfl) (by simp [iA,nD]) (by simp [iA,nD]) (by cases a;cases b;simp)
theorem sW [aB Tryz.prog] (a b:List Str) (hl:a.length≤1099511627776):Ok Tryz.prog 46 [.sl .view 1 (a.map aU),.sl .view 1 (b.map aU)] (.bool (decide (a=b))):=by
 refine ent Tryz.mix Tryz.func46 Tryz.ntmps46 ?_
 have W:=trivial
 repeat' first|refine st ?_|(refine nx ?_;refine so ?_)|(refine cx ?_;refine sc (fun hc=>?_) (fun hc=>?_)<;>try exact hc.elim)|(refine lx ?_;refine sp (fun hc=>?_) (fun hc=>?_)<;>try exact hc.elim)|refine sx ?_ ?_|refine sy ?_ ?_|fail
 ·all_goals (try (refine ⟨.inr rfl,?_⟩;simp [Hands,Tryz.results46]))
  exact uK (by omega)
 ·have hlen:=hc
  refine aJ (ι:={k:Nat // k≤a.length∧a.take k=b.take k}) (fun t o i=>⟨aS t [(13,.int .i64 i.1),(5,.undef)],o⟩)
   (fun i=>a.length - i.1) ⟨0,by simp,by simp⟩ (aD (by simp) (by simp)) ?_
  rintro ⟨k,hk,hi⟩ K1 hK1
  simp only [aS,List.set_cons_succ,List.set_cons_zero] at hK1⊢
  have hk1:IntKind.i64.wrap ((k:Int)+1)=((k+1:Nat):Int):=by rw [wrap64]<;>omega
  by_cases hlt:k < a.length
  ·have hg:=List.getElem?_eq_getElem hlt
   have hg2:=List.getElem?_eq_getElem (show k < b.length by omega)
   have hltb:k < b.length:=by omega
   have W:=And.intro hk1 (And.intro hg (And.intro hg2 (And.intro hlt hltb)))
   repeat' first|refine st ?_|(refine nx ?_;refine so ?_)|(refine cx ?_;refine sc (fun hc=>?_) (fun hc=>?_)<;>try exact hc.elim)|(refine lx ?_;refine sp (fun hc=>?_) (fun hc=>?_)<;>try exact hc.elim)|refine sx ?_ ?_|refine sy ?_ ?_|fail
   ·all_goals (try (refine ⟨.inr rfl,?_⟩;simp [Hands,Tryz.results46]))
    exact wU hlt hltb hc
   ·exact hK1 _ ⟨k+1,by omega,jT hi hlt hltb hc⟩ (aD (by simp) (by simp)) (by simp only;omega)
  ·have W:=hk1
   repeat' first|refine st ?_|(refine nx ?_;refine so ?_)|(refine cx ?_;refine sc (fun hc=>?_) (fun hc=>?_)<;>try exact hc.elim)|(refine lx ?_;refine sp (fun hc=>?_) (fun hc=>?_)<;>try exact hc.elim)|refine sx ?_ ?_|refine sy ?_ ?_|fail
   all_goals (try (refine ⟨.inr rfl,?_⟩;simp [Hands,Tryz.results46]))
   exact take_eq_all (by omega) hlt hi
theorem aMy [aB Tryz.prog] (a b:List Int) (hl:a.length≤1099511627776):Ok Tryz.prog 93 [.sl .view 1 (a.map gY),.sl .view 1 (b.map gY)] (.bool (decide (a=b))):=by
 refine ent Tryz.mix Tryz.func93 Tryz.ntmps93 ?_
 have W:=trivial
 repeat' first|refine st ?_|(refine nx ?_;refine so ?_)|(refine cx ?_;refine sc (fun hc=>?_) (fun hc=>?_)<;>try exact hc.elim)|(refine lx ?_;refine sp (fun hc=>?_) (fun hc=>?_)<;>try exact hc.elim)|refine sx ?_ ?_|refine sy ?_ ?_|fail
 ·all_goals (try (refine ⟨.inr rfl,?_⟩;simp [Hands,Tryz.results93]))
  exact uK (by omega)
 ·have hlen:=hc
  refine aJ (ι:={k:Nat // k≤a.length∧a.take k=b.take k}) (fun t o i=>⟨aS t [(13,.int .i64 i.1),(5,.undef)],o⟩)
   (fun i=>a.length - i.1) ⟨0,by simp,by simp⟩ (aD (by simp) (by simp)) ?_
  rintro ⟨k,hk,hi⟩ K1 hK1
  simp only [aS,List.set_cons_succ,List.set_cons_zero] at hK1⊢
  have hk1:IntKind.i64.wrap ((k:Int)+1)=((k+1:Nat):Int):=by rw [wrap64]<;>omega
  by_cases hlt:k < a.length
  ·have hg:=List.getElem?_eq_getElem hlt
   have hg2:=List.getElem?_eq_getElem (show k < b.length by omega)
   have hltb:k < b.length:=by omega
   have W:=And.intro hk1 (And.intro hg (And.intro hg2 (And.intro hlt hltb)))
   repeat' first|refine st ?_|(refine nx ?_;refine so ?_)|(refine cx ?_;refine sc (fun hc=>?_) (fun hc=>?_)<;>try exact hc.elim)|(refine lx ?_;refine sp (fun hc=>?_) (fun hc=>?_)<;>try exact hc.elim)|refine sx ?_ ?_|refine sy ?_ ?_|fail
   ·all_goals (try (refine ⟨.inr rfl,?_⟩;simp [Hands,Tryz.results93]))
    exact wU hlt hltb hc
   ·exact hK1 _ ⟨k+1,by omega,jT hi hlt hltb hc⟩ (aD (by simp) (by simp)) (by simp only;omega)
  ·have W:=hk1
   repeat' first|refine st ?_|(refine nx ?_;refine so ?_)|(refine cx ?_;refine sc (fun hc=>?_) (fun hc=>?_)<;>try exact hc.elim)|(refine lx ?_;refine sp (fun hc=>?_) (fun hc=>?_)<;>try exact hc.elim)|refine sx ?_ ?_|refine sy ?_ ?_|fail
   all_goals (try (refine ⟨.inr rfl,?_⟩;simp [Hands,Tryz.results93]))
   exact take_eq_all (by omega) hlt hi
theorem aA2 [aB Tryz.prog] (a b:List sV) (hl:a.length≤1099511627776):Ok Tryz.prog 90 [.sl .view 2 (a.map oN),.sl .view 2 (b.map oN)] (.bool (decide (a=b))):=by
 refine ent Tryz.mix Tryz.func90 Tryz.ntmps90 ?_
 have W:=trivial
 repeat' first|refine st ?_|(refine nx ?_;refine so ?_)|(refine cx ?_;refine sc (fun hc=>?_) (fun hc=>?_)<;>try exact hc.elim)|(refine lx ?_;refine sp (fun hc=>?_) (fun hc=>?_)<;>try exact hc.elim)|refine sx ?_ ?_|refine sy ?_ ?_|fail
 ·all_goals (try (refine ⟨.inr rfl,?_⟩;simp [Hands,Tryz.results90]))
  exact uK (by omega)
 ·have hlen:=hc
  refine aJ (ι:={k:Nat // k≤a.length∧a.take k=b.take k}) (fun t o i=>⟨aS t [(13,.int .i64 i.1),(5,.undef)],o⟩)
   (fun i=>a.length - i.1) ⟨0,by simp,by simp⟩ (aD (by simp) (by simp)) ?_
  rintro ⟨k,hk,hi⟩ K1 hK1
  simp only [aS,List.set_cons_succ,List.set_cons_zero] at hK1⊢
  have hk1:IntKind.i64.wrap ((k:Int)+1)=((k+1:Nat):Int):=by rw [wrap64]<;>omega
  by_cases hlt:k < a.length
  ·have hg:=List.getElem?_eq_getElem hlt
   have hg2:=List.getElem?_eq_getElem (show k < b.length by omega)
   have hltb:k < b.length:=by omega
   have W:=And.intro hk1 (And.intro hg (And.intro hg2 (And.intro hlt hltb)))
   repeat' first|refine st ?_|(refine nx ?_;first|refine so ?_|refine sk (hc:=aVt a[k] (b[k]'(by omega))) (h:=?_))|(refine cx ?_;refine sc (fun hc=>?_) (fun hc=>?_)<;>try exact hc.elim)|(refine lx ?_;refine sp (fun hc=>?_) (fun hc=>?_)<;>try exact hc.elim)|refine sx ?_ ?_|refine sy ?_ ?_|fail
   ·all_goals (try (refine ⟨.inr rfl,?_⟩;simp [Hands,Tryz.results90]))
    exact wU hlt hltb hc
   ·exact hK1 _ ⟨k+1,by omega,jT hi hlt hltb hc⟩ (aD (by simp) (by simp)) (by simp only;omega)
  ·have W:=hk1
   repeat' first|refine st ?_|(refine nx ?_;refine so ?_)|(refine cx ?_;refine sc (fun hc=>?_) (fun hc=>?_)<;>try exact hc.elim)|(refine lx ?_;refine sp (fun hc=>?_) (fun hc=>?_)<;>try exact hc.elim)|refine sx ?_ ?_|refine sy ?_ ?_|fail
   all_goals (try (refine ⟨.inr rfl,?_⟩;simp [Hands,Tryz.results90]))
   exact take_eq_all (by omega) hlt hi
theorem aVy {a b:mK}:a=b↔a.name=b.name∧a.text=b.text∧a.parent=b.parent∧a.attrs=b.attrs:=by
 cases a;cases b;simp
theorem aJj [aB Tryz.prog] (a b:mK) (hl:a.attrs.length≤1099511627776):Ok Tryz.prog 92 [.agg (dW .view a),.agg (dW .view b)] (.bool (decide (a=b))):=by
 have c1:=aA2 a.attrs b.attrs hl
 rw [show decide (a=b)=decide (a.name=b.name∧a.text=b.text∧a.parent=b.parent∧a.attrs=b.attrs) by rw [decide_eq_decide];exact aVy]
 refine ent Tryz.mix Tryz.func92 Tryz.ntmps92 ?_
 have W:=trivial
 repeat' first|refine st ?_|(refine nx ?_;refine so ?_)|(refine cx ?_;refine sc (fun hc=>?_) (fun hc=>?_)<;>try exact hc.elim)|(refine lx ?_;refine sp (fun hc=>?_) (fun hc=>?_)<;>try exact hc.elim)|refine sx ?_ ?_|refine sy ?_ ?_|fail
 all_goals (try (refine ⟨.inr rfl,?_⟩;simp [Hands,Tryz.results92]))
 all_goals simp_all
theorem aEp [aB Tryz.prog] (a b:List mK) (hl:szL rV a≤1099511627776):Ok Tryz.prog 91 [.sl .view 4 (a.map (dW .view)),.sl .view 4 (b.map (dW .view)),.fn 92 []] (.bool (decide (a=b))):=by
 simp only [szL] at hl
 refine ent Tryz.mix Tryz.func91 Tryz.ntmps91 ?_
 have W:=trivial
 repeat' first|refine st ?_|(refine nx ?_;refine so ?_)|(refine cx ?_;refine sc (fun hc=>?_) (fun hc=>?_)<;>try exact hc.elim)|(refine lx ?_;refine sp (fun hc=>?_) (fun hc=>?_)<;>try exact hc.elim)|refine sx ?_ ?_|refine sy ?_ ?_|fail
 ·all_goals (try (refine ⟨.inr rfl,?_⟩;simp [Hands,Tryz.results91]))
  exact uK (by omega)
 ·have hlen:=hc
  refine aJ (ι:={k:Nat // k≤a.length∧a.take k=b.take k}) (fun t o i=>⟨aS t [(17,.int .i64 i.1),(7,.undef)],o⟩)
   (fun i=>a.length - i.1) ⟨0,by simp,by simp⟩ (aD (by simp) (by simp)) ?_
  rintro ⟨k,hk,hi⟩ K1 hK1
  simp only [aS,List.set_cons_succ,List.set_cons_zero] at hK1⊢
  have hk1:IntKind.i64.wrap ((k:Int)+1)=((k+1:Nat):Int):=by rw [wrap64]<;>omega
  by_cases hlt:k < a.length
  ·have hg:=List.getElem?_eq_getElem hlt
   have hltb:k < b.length:=by omega
   have hg2:=List.getElem?_eq_getElem hltb
   have hz:=eX rV a k hlt
   simp only [rV,szL] at hz
   have c1:=aJj a[k] b[k] (by omega)
   simp only [dW] at c1
   have W:=And.intro hk1 (And.intro hg (And.intro hg2 (And.intro hlt hltb)))
   repeat' first|refine st ?_|(refine nx ?_;refine so ?_)|(refine cx ?_;refine sc (fun hc=>?_) (fun hc=>?_)<;>try exact hc.elim)|(refine lx ?_;refine sp (fun hc=>?_) (fun hc=>?_)<;>try exact hc.elim)|refine sx ?_ ?_|refine sy ?_ ?_|fail
   ·all_goals (try (refine ⟨.inr rfl,?_⟩;simp [Hands,Tryz.results91]))
    exact wU hlt hltb (by simpa using hc)
   ·exact hK1 _ ⟨k+1,by omega,jT hi hlt hltb (by simpa using hc)⟩ (aQ 0 (by simp) (by simp) (by simp) (by simp)) (by simp only;omega)
  ·have W:=hk1
   repeat' first|refine st ?_|(refine nx ?_;refine so ?_)|(refine cx ?_;refine sc (fun hc=>?_) (fun hc=>?_)<;>try exact hc.elim)|(refine lx ?_;refine sp (fun hc=>?_) (fun hc=>?_)<;>try exact hc.elim)|refine sx ?_ ?_|refine sy ?_ ?_|fail
   all_goals (try (refine ⟨.inr rfl,?_⟩;simp [Hands,Tryz.results91]))
   exact take_eq_all (by omega) hlt hi
end Go.Proofs.YtajppdidkjbmkaaGreatDoor
