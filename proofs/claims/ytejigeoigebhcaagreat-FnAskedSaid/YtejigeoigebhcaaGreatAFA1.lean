/-
  Proved here: steps towards the statement of this claim, text FA1.
  No condition beyond what each statement spells out.
-/
import Derived.Test.YtejigeoigebhcaaGreatAE2
import Derived.Test.YtejigeoigebhcaaGreatAQN1
set_option linter.all false
set_option maxRecDepth 4000
set_option maxHeartbeats 4000000
namespace Go.Proofs.YtejigeoigebhcaaGreat
open Go.Aw
theorem aN8 (a b:iC):EqA Tryz.prog 51 (gG a) (gG b) (decide (a=b)):=
 yG (f:=6) (ss:=[.int .i64,.str,.str,.str,.int .i64,.bool,.int .i64,.str]) (by decide) (by kernel_rfl) (by kernel_rfl) (by kernel_rfl) (by kernel_rfl) (by simp [eX,kX]) (by simp [eX,kX]) (by obtain ⟨m,⟨t1,t2⟩,d,n,o,c,bo⟩:=a;obtain ⟨m2,⟨u1,u2⟩,d2,n2,o2,c2,bo2⟩:=b;simp [and_assoc])
theorem aKw (a b:bT):EqA Tryz.prog 57 (bL a) (bL b) (decide (a=b)):=
 yG (f:=6) (ss:=[.str,.str,.bool,.int .i64,.str]) (by decide) (by kernel_rfl) (by kernel_rfl) (by kernel_rfl) (by kernel_rfl) (by simp [eX,kX]) (by simp [eX,kX]) (by obtain ⟨⟨t1,t2⟩,o,c,bo⟩:=a;obtain ⟨⟨u1,u2⟩,o2,c2,bo2⟩:=b;simp [and_assoc])
theorem aE9 [aB Tryz.prog] (a b:List iC) (hl:a.length≤1099511627776):Ok Tryz.prog 36 [.sl .view 8 (a.map gG),.sl .view 8 (b.map gG)] (.bool (decide (a=b))):=by
 refine ent Tryz.mix Tryz.func36 Tryz.ntmps36 ?_
 have W:=trivial
 repeat' first|refine st ?_|(refine nx ?_;refine so ?_)|(refine cx ?_;refine sc (fun hc=>?_) (fun hc=>?_)<;>try exact hc.elim)|(refine lx ?_;refine sp (fun hc=>?_) (fun hc=>?_)<;>try exact hc.elim)|refine sx ?_ ?_|refine sy ?_ ?_|fail
 ·all_goals (try (refine ⟨.inr rfl,?_⟩;simp [Hands,Tryz.results36]))
  exact qF (by omega)
 ·have hlen:=hc
  refine aQ (ι:={k:Nat // k≤a.length∧a.take k=b.take k}) (fun t o i=>⟨bB t [(13,.int .i64 i.1),(5,.undef)],o⟩)
   (fun i=>a.length - i.1) ⟨0,by simp,by simp⟩ (aY (by simp) (by simp)) ?_
  rintro ⟨k,hk,hi⟩ K1 hK1
  simp only [bB,List.set_cons_succ,List.set_cons_zero] at hK1⊢
  have hk1:IntKind.i64.wrap ((k:Int)+1)=((k+1:Nat):Int):=by rw [wrap64]<;>omega
  by_cases hlt:k < a.length
  ·have hg:=List.getElem?_eq_getElem hlt
   have hg2:=List.getElem?_eq_getElem (show k < b.length by omega)
   have hltb:k < b.length:=by omega
   have W:=And.intro hk1 (And.intro hg (And.intro hg2 (And.intro hlt hltb)))
   repeat' first|refine st ?_|(refine nx ?_;first|refine so ?_|refine sk (hc:=aN8 a[k] (b[k]'(by omega))) (h:=?_))|(refine cx ?_;refine sc (fun hc=>?_) (fun hc=>?_)<;>try exact hc.elim)|(refine lx ?_;refine sp (fun hc=>?_) (fun hc=>?_)<;>try exact hc.elim)|refine sx ?_ ?_|refine sy ?_ ?_|fail
   ·all_goals (try (refine ⟨.inr rfl,?_⟩;simp [Hands,Tryz.results36]))
    exact uH hlt hltb hc
   ·exact hK1 _ ⟨k+1,by omega,iI hi hlt hltb hc⟩ (aY (by simp) (by simp)) (by simp only;omega)
  ·have W:=hk1
   repeat' first|refine st ?_|(refine nx ?_;refine so ?_)|(refine cx ?_;refine sc (fun hc=>?_) (fun hc=>?_)<;>try exact hc.elim)|(refine lx ?_;refine sp (fun hc=>?_) (fun hc=>?_)<;>try exact hc.elim)|refine sx ?_ ?_|refine sy ?_ ?_|fail
   all_goals (try (refine ⟨.inr rfl,?_⟩;simp [Hands,Tryz.results36]))
   exact take_eq_all (by omega) hlt hi
theorem aCt [aB Tryz.prog] (a b:List bT) (hl:a.length≤1099511627776):Ok Tryz.prog 37 [.sl .view 5 (a.map bL),.sl .view 5 (b.map bL)] (.bool (decide (a=b))):=by
 refine ent Tryz.mix Tryz.func37 Tryz.ntmps37 ?_
 have W:=trivial
 repeat' first|refine st ?_|(refine nx ?_;refine so ?_)|(refine cx ?_;refine sc (fun hc=>?_) (fun hc=>?_)<;>try exact hc.elim)|(refine lx ?_;refine sp (fun hc=>?_) (fun hc=>?_)<;>try exact hc.elim)|refine sx ?_ ?_|refine sy ?_ ?_|fail
 ·all_goals (try (refine ⟨.inr rfl,?_⟩;simp [Hands,Tryz.results37]))
  exact qF (by omega)
 ·have hlen:=hc
  refine aQ (ι:={k:Nat // k≤a.length∧a.take k=b.take k}) (fun t o i=>⟨bB t [(13,.int .i64 i.1),(5,.undef)],o⟩)
   (fun i=>a.length - i.1) ⟨0,by simp,by simp⟩ (aY (by simp) (by simp)) ?_
  rintro ⟨k,hk,hi⟩ K1 hK1
  simp only [bB,List.set_cons_succ,List.set_cons_zero] at hK1⊢
  have hk1:IntKind.i64.wrap ((k:Int)+1)=((k+1:Nat):Int):=by rw [wrap64]<;>omega
  by_cases hlt:k < a.length
  ·have hg:=List.getElem?_eq_getElem hlt
   have hg2:=List.getElem?_eq_getElem (show k < b.length by omega)
   have hltb:k < b.length:=by omega
   have W:=And.intro hk1 (And.intro hg (And.intro hg2 (And.intro hlt hltb)))
   repeat' first|refine st ?_|(refine nx ?_;first|refine so ?_|refine sk (hc:=aKw a[k] (b[k]'(by omega))) (h:=?_))|(refine cx ?_;refine sc (fun hc=>?_) (fun hc=>?_)<;>try exact hc.elim)|(refine lx ?_;refine sp (fun hc=>?_) (fun hc=>?_)<;>try exact hc.elim)|refine sx ?_ ?_|refine sy ?_ ?_|fail
   ·all_goals (try (refine ⟨.inr rfl,?_⟩;simp [Hands,Tryz.results37]))
    exact uH hlt hltb hc
   ·exact hK1 _ ⟨k+1,by omega,iI hi hlt hltb hc⟩ (aY (by simp) (by simp)) (by simp only;omega)
  ·have W:=hk1
   repeat' first|refine st ?_|(refine nx ?_;refine so ?_)|(refine cx ?_;refine sc (fun hc=>?_) (fun hc=>?_)<;>try exact hc.elim)|(refine lx ?_;refine sp (fun hc=>?_) (fun hc=>?_)<;>try exact hc.elim)|refine sx ?_ ?_|refine sy ?_ ?_|fail
   all_goals (try (refine ⟨.inr rfl,?_⟩;simp [Hands,Tryz.results37]))
   exact take_eq_all (by omega) hlt hi
theorem xS [aB Tryz.prog] (a b:List aP) (hl:a.length≤1099511627776):Ok Tryz.prog 38 [.sl .view 2 (a.map aO),.sl .view 2 (b.map aO)] (.bool (decide (a=b))):=by
 refine ent Tryz.mix Tryz.func38 Tryz.ntmps38 ?_
 have W:=trivial
 repeat' first|refine st ?_|(refine nx ?_;refine so ?_)|(refine cx ?_;refine sc (fun hc=>?_) (fun hc=>?_)<;>try exact hc.elim)|(refine lx ?_;refine sp (fun hc=>?_) (fun hc=>?_)<;>try exact hc.elim)|refine sx ?_ ?_|refine sy ?_ ?_|fail
 ·all_goals (try (refine ⟨.inr rfl,?_⟩;simp [Hands,Tryz.results38]))
  exact qF (by omega)
 ·have hlen:=hc
  refine aQ (ι:={k:Nat // k≤a.length∧a.take k=b.take k}) (fun t o i=>⟨bB t [(13,.int .i64 i.1),(5,.undef)],o⟩)
   (fun i=>a.length - i.1) ⟨0,by simp,by simp⟩ (aY (by simp) (by simp)) ?_
  rintro ⟨k,hk,hi⟩ K1 hK1
  simp only [bB,List.set_cons_succ,List.set_cons_zero] at hK1⊢
  have hk1:IntKind.i64.wrap ((k:Int)+1)=((k+1:Nat):Int):=by rw [wrap64]<;>omega
  by_cases hlt:k < a.length
  ·have hg:=List.getElem?_eq_getElem hlt
   have hg2:=List.getElem?_eq_getElem (show k < b.length by omega)
   have hltb:k < b.length:=by omega
   have W:=And.intro hk1 (And.intro hg (And.intro hg2 (And.intro hlt hltb)))
   repeat' first|refine st ?_|(refine nx ?_;first|refine so ?_|refine sk (hc:=lD a[k] (b[k]'(by omega))) (h:=?_))|(refine cx ?_;refine sc (fun hc=>?_) (fun hc=>?_)<;>try exact hc.elim)|(refine lx ?_;refine sp (fun hc=>?_) (fun hc=>?_)<;>try exact hc.elim)|refine sx ?_ ?_|refine sy ?_ ?_|fail
   ·all_goals (try (refine ⟨.inr rfl,?_⟩;simp [Hands,Tryz.results38]))
    exact uH hlt hltb hc
   ·exact hK1 _ ⟨k+1,by omega,iI hi hlt hltb hc⟩ (aY (by simp) (by simp)) (by simp only;omega)
  ·have W:=hk1
   repeat' first|refine st ?_|(refine nx ?_;refine so ?_)|(refine cx ?_;refine sc (fun hc=>?_) (fun hc=>?_)<;>try exact hc.elim)|(refine lx ?_;refine sp (fun hc=>?_) (fun hc=>?_)<;>try exact hc.elim)|refine sx ?_ ?_|refine sy ?_ ?_|fail
   all_goals (try (refine ⟨.inr rfl,?_⟩;simp [Hands,Tryz.results38]))
   exact take_eq_all (by omega) hlt hi
theorem aMz {a b:dE}:a=b↔a.kind=b.kind∧a.name=b.name∧a.attrs=b.attrs∧a.text=b.text:=by
 cases a;cases b;simp
theorem aC0 [aB Tryz.prog] (a b:dE) (hl:a.attrs.length≤1099511627776):Ok Tryz.prog 34 [.agg (bQ .view a),.agg (bQ .view b)] (.bool (decide (a=b))):=by
 have c1:=wW a.attrs b.attrs hl
 rw [show decide (a=b)=decide (a.kind=b.kind∧a.name=b.name∧a.attrs=b.attrs∧a.text=b.text) by rw [decide_eq_decide];exact aMz]
 refine ent Tryz.mix Tryz.func34 Tryz.ntmps34 ?_
 have W:=trivial
 repeat' first|refine st ?_|(refine nx ?_;refine so ?_)|(refine cx ?_;refine sc (fun hc=>?_) (fun hc=>?_)<;>try exact hc.elim)|(refine lx ?_;refine sp (fun hc=>?_) (fun hc=>?_)<;>try exact hc.elim)|refine sx ?_ ?_|refine sy ?_ ?_|fail
 all_goals (try (refine ⟨.inr rfl,?_⟩;simp [Hands,Tryz.results34]))
 all_goals (first|(simp_all;done)|(simp_all;rw [Bool.eq_iff_iff];simp))
theorem zK [aB Tryz.prog] (a b:List dE) (hl:szL dR a≤1099511627776):Ok Tryz.prog 33 [.sl .view 4 (a.map (bQ .view)),.sl .view 4 (b.map (bQ .view)),.fn 34 []] (.bool (decide (a=b))):=by
 simp only [szL] at hl
 refine ent Tryz.mix Tryz.func33 Tryz.ntmps33 ?_
 have W:=trivial
 repeat' first|refine st ?_|(refine nx ?_;refine so ?_)|(refine cx ?_;refine sc (fun hc=>?_) (fun hc=>?_)<;>try exact hc.elim)|(refine lx ?_;refine sp (fun hc=>?_) (fun hc=>?_)<;>try exact hc.elim)|refine sx ?_ ?_|refine sy ?_ ?_|fail
 ·all_goals (try (refine ⟨.inr rfl,?_⟩;simp [Hands,Tryz.results33]))
  exact qF (by omega)
 ·have hlen:=hc
  refine aQ (ι:={k:Nat // k≤a.length∧a.take k=b.take k}) (fun t o i=>⟨bB t [(17,.int .i64 i.1),(7,.undef)],o⟩)
   (fun i=>a.length - i.1) ⟨0,by simp,by simp⟩ (aY (by simp) (by simp)) ?_
  rintro ⟨k,hk,hi⟩ K1 hK1
  simp only [bB,List.set_cons_succ,List.set_cons_zero] at hK1⊢
  have hk1:IntKind.i64.wrap ((k:Int)+1)=((k+1:Nat):Int):=by rw [wrap64]<;>omega
  by_cases hlt:k < a.length
  ·have hg:=List.getElem?_eq_getElem hlt
   have hltb:k < b.length:=by omega
   have hg2:=List.getElem?_eq_getElem hltb
   have hz:=fK dR a k hlt
   simp only [dR,szL] at hz
   have c1:=aC0 a[k] b[k] (by omega)
   simp only [bQ] at c1
   have W:=And.intro hk1 (And.intro hg (And.intro hg2 (And.intro hlt hltb)))
   repeat' first|refine st ?_|(refine nx ?_;refine so ?_)|(refine cx ?_;refine sc (fun hc=>?_) (fun hc=>?_)<;>try exact hc.elim)|(refine lx ?_;refine sp (fun hc=>?_) (fun hc=>?_)<;>try exact hc.elim)|refine sx ?_ ?_|refine sy ?_ ?_|fail
   ·all_goals (try (refine ⟨.inr rfl,?_⟩;simp [Hands,Tryz.results33]))
    exact uH hlt hltb (by simpa using hc)
   ·exact hK1 _ ⟨k+1,by omega,iI hi hlt hltb (by simpa using hc)⟩ (aW 0 (by simp) (by simp) (by simp) (by simp)) (by simp only;omega)
  ·have W:=hk1
   repeat' first|refine st ?_|(refine nx ?_;refine so ?_)|(refine cx ?_;refine sc (fun hc=>?_) (fun hc=>?_)<;>try exact hc.elim)|(refine lx ?_;refine sp (fun hc=>?_) (fun hc=>?_)<;>try exact hc.elim)|refine sx ?_ ?_|refine sy ?_ ?_|fail
   all_goals (try (refine ⟨.inr rfl,?_⟩;simp [Hands,Tryz.results33]))
   exact take_eq_all (by omega) hlt hi
theorem aJr {a b:fB}:a=b↔a.nodes=b.nodes∧a.opens=b.opens:=by
 cases a;cases b;simp
theorem aAj [aB Tryz.prog] (a b:fB) (hl:iX a≤1099511627776):Ok Tryz.prog 35 [.agg (cO .view a),.agg (cO .view b)] (.bool (decide (a=b))):=by
 have c1:=aA0 a.nodes b.nodes (by simp only [iX] at hl;omega)
 have c2:=aHi a.opens b.opens (by simp only [iX] at hl;omega)
 rw [show decide (a=b)=decide (a.nodes=b.nodes∧a.opens=b.opens) by rw [decide_eq_decide];exact aJr]
 refine ent Tryz.mix Tryz.func35 Tryz.ntmps35 ?_
 have W:=trivial
 repeat' first|refine st ?_|(refine nx ?_;refine so ?_)|(refine cx ?_;refine sc (fun hc=>?_) (fun hc=>?_)<;>try exact hc.elim)|(refine lx ?_;refine sp (fun hc=>?_) (fun hc=>?_)<;>try exact hc.elim)|refine sx ?_ ?_|refine sy ?_ ?_|fail
 all_goals (try (refine ⟨.inr rfl,?_⟩;simp [Hands,Tryz.results35]))
 all_goals simp_all
end Go.Proofs.YtejigeoigebhcaaGreat
