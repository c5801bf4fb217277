/-
  Proved here: steps towards the statement of this claim, text E2.
  No condition beyond what each statement spells out.
-/
import Derived.Test.YtejigeoigebhcaaGreatAE1
set_option linter.all false
set_option maxRecDepth 4000
set_option maxHeartbeats 400000
namespace Go.Proofs.YtejigeoigebhcaaGreat
open Go.Aw
theorem aOm {a b:kK}:a=b↔a.name=b.name∧a.text=b.text∧a.parent=b.parent∧a.attrs=b.attrs:=by
 cases a;cases b;simp
theorem aEi [aB Tryz.prog] (a b:kK) (hl:a.attrs.length≤1099511627776):Ok Tryz.prog 65 [.agg (dC .view a),.agg (dC .view b)] (.bool (decide (a=b))):=by
 have c1:=wW a.attrs b.attrs hl
 rw [show decide (a=b)=decide (a.name=b.name∧a.text=b.text∧a.parent=b.parent∧a.attrs=b.attrs) by rw [decide_eq_decide];exact aOm]
 refine ent Tryz.mix Tryz.func65 Tryz.ntmps65 ?_
 have W:=trivial
 repeat' first|refine st ?_|(refine nx ?_;refine so ?_)|(refine cx ?_;refine sc (fun hc=>?_) (fun hc=>?_)<;>try exact hc.elim)|(refine lx ?_;refine sp (fun hc=>?_) (fun hc=>?_)<;>try exact hc.elim)|refine sx ?_ ?_|refine sy ?_ ?_|fail
 all_goals (try (refine ⟨.inr rfl,?_⟩;simp [Hands,Tryz.results65]))
 all_goals simp_all
theorem aA0 [aB Tryz.prog] (a b:List kK) (hl:szL oI a≤1099511627776):Ok Tryz.prog 64 [.sl .view 4 (a.map (dC .view)),.sl .view 4 (b.map (dC .view)),.fn 65 []] (.bool (decide (a=b))):=by
 simp only [szL] at hl
 refine ent Tryz.mix Tryz.func64 Tryz.ntmps64 ?_
 have W:=trivial
 repeat' first|refine st ?_|(refine nx ?_;refine so ?_)|(refine cx ?_;refine sc (fun hc=>?_) (fun hc=>?_)<;>try exact hc.elim)|(refine lx ?_;refine sp (fun hc=>?_) (fun hc=>?_)<;>try exact hc.elim)|refine sx ?_ ?_|refine sy ?_ ?_|fail
 ·all_goals (try (refine ⟨.inr rfl,?_⟩;simp [Hands,Tryz.results64]))
  exact qF (by omega)
 ·have hlen:=hc
  refine aQ (ι:={k:Nat // k≤a.length∧a.take k=b.take k}) (fun t o i=>⟨bB t [(17,.int .i64 i.1),(7,.undef)],o⟩)
   (fun i=>a.length - i.1) ⟨0,by simp,by simp⟩ (aY (by simp) (by simp)) ?_
  rintro ⟨k,hk,hi⟩ K1 hK1
  simp only [bB,List.set_cons_succ,List.set_cons_zero] at hK1⊢
  have hk1:IntKind.i64.wrap ((k:Int)+1)=((k+1:Nat):Int):=by rw [wrap64]<;>omega
  by_cases hlt:k < a.length
  ·have hg:=List.getElem?_eq_getElem hlt
   have hltb:k < b.length:=by omega
   have hg2:=List.getElem?_eq_getElem hltb
   have hz:=fK oI a k hlt
   simp only [oI,szL] at hz
   have c1:=aEi a[k] b[k] (by omega)
   simp only [dC] at c1
   have W:=And.intro hk1 (And.intro hg (And.intro hg2 (And.intro hlt hltb)))
   repeat' first|refine st ?_|(refine nx ?_;refine so ?_)|(refine cx ?_;refine sc (fun hc=>?_) (fun hc=>?_)<;>try exact hc.elim)|(refine lx ?_;refine sp (fun hc=>?_) (fun hc=>?_)<;>try exact hc.elim)|refine sx ?_ ?_|refine sy ?_ ?_|fail
   ·all_goals (try (refine ⟨.inr rfl,?_⟩;simp [Hands,Tryz.results64]))
    exact uH hlt hltb (by simpa using hc)
   ·exact hK1 _ ⟨k+1,by omega,iI hi hlt hltb (by simpa using hc)⟩ (aW 0 (by simp) (by simp) (by simp) (by simp)) (by simp only;omega)
  ·have W:=hk1
   repeat' first|refine st ?_|(refine nx ?_;refine so ?_)|(refine cx ?_;refine sc (fun hc=>?_) (fun hc=>?_)<;>try exact hc.elim)|(refine lx ?_;refine sp (fun hc=>?_) (fun hc=>?_)<;>try exact hc.elim)|refine sx ?_ ?_|refine sy ?_ ?_|fail
   all_goals (try (refine ⟨.inr rfl,?_⟩;simp [Hands,Tryz.results64]))
   exact take_eq_all (by omega) hlt hi
end Go.Proofs.YtejigeoigebhcaaGreat
