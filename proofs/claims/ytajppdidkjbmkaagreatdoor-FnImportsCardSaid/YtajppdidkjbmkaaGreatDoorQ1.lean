/-
  Proved here: steps towards the statement of this claim, text Q1.
  No condition beyond what each statement spells out.
-/
import Derived.Test.YtajppdidkjbmkaaGreatDoorQDR8
set_option linter.all false
set_option maxRecDepth 4000
set_option maxHeartbeats 4000000
namespace Go.Proofs.YtajppdidkjbmkaaGreatDoor
open Go.Aw
def lS (c:UInt8):Bool:=(decide (97≤c.toNat)&&decide (c.toNat≤122)) || (decide (48≤c.toNat)&&decide (c.toNat≤57)) || decide (c.toNat=47)
def iH (s:Str):Bool:=s.all lS&&(decide (1≤s.length)&&decide (s.length≤20))
theorem aLw {s:Str} {k:Nat} (h:k < s.length) (hc:lS s[k]=false):iH s=false:=by
 have:s.all lS=false:=by
  rw [List.all_eq_false]
  exact ⟨s[k],List.getElem_mem h,by simp [hc]⟩
 simp [iH,this]
theorem aIf {s:Str} (h:∀x∈s,lS x=true):iH s=(decide ((1:Int)≤s.length)&&decide ((s.length:Int)≤20)):=by
 have:s.all lS=true:=List.all_eq_true.2 h
 have h1:decide ((1:Int)≤s.length)=decide (1≤s.length):=by simp only [decide_eq_decide];omega
 have h2:decide ((s.length:Int)≤20)=decide (s.length≤20):=by simp only [decide_eq_decide];omega
 rw [iH,this,h1,h2,Bool.true_and]
theorem yT [aB Tryz.prog] (s : Str) (hl : s.length ≤ 1099511627776) : Ok Tryz.prog 157 [.str s] (.bool (iH s)) := by
  have h1 := mZ s.length 1 20
  refine ent Tryz.mix Tryz.func157 Tryz.ntmps157 ?_
  have W := trivial
  repeat' first|refine st ?_|(refine nx ?_;first|refine se ?_|refine so ?_)|(refine cx ?_;refine sc (fun hc=>?_) (fun hc=>?_)<;>try exact hc.elim)|(refine lx ?_;refine sp (fun hc=>?_) (fun hc=>?_)<;>try exact hc.elim)|refine sx ?_ ?_|refine sy ?_ ?_|fail
  refine aJ (ι := { k : Nat // k ≤ s.length ∧ ∀ x ∈ s.take k, lS x = true }) (fun t o i => ⟨aS t [(3, .int .i64 i.1)], o⟩)
    (fun i => s.length - i.1) ⟨0, by simp, by simp⟩ (aD (by simp) (by simp)) ?_
  rintro ⟨k, hk, hi⟩ K1 hK1
  simp only [aS, List.set_cons_succ, List.set_cons_zero] at hK1 ⊢
  have hk1 : IntKind.i64.wrap ((k : Int) + 1) = ((k + 1 : Nat) : Int) := by rw [wrap64] <;> omega
  by_cases hlt : k < s.length
  · have hg := List.getElem?_eq_getElem hlt
    have W := And.intro hk1 (And.intro hg hlt)
    repeat' first|refine st ?_|(refine nx ?_;first|refine se ?_|refine so ?_)|(refine cx ?_;refine sc (fun hc=>?_) (fun hc=>?_)<;>try exact hc.elim)|(refine lx ?_;refine sp (fun hc=>?_) (fun hc=>?_)<;>try exact hc.elim)|refine sx ?_ ?_|refine sy ?_ ?_|fail
    all_goals first
      | exact hK1 _ ⟨k + 1, by omega, dX hlt hi (by simp [lS]; omega)⟩ (aD (by simp) (by simp)) (by simp only; omega)
      | (rw [aLw hlt (by simp [lS]; omega)]
         all_goals (try (refine ⟨.inr rfl, ?_⟩; simp [Hands, Tryz.results157]))
         done)
  · have W := hk1
    repeat' first|refine st ?_|(refine nx ?_;first|refine se ?_|refine so ?_)|(refine cx ?_;refine sc (fun hc=>?_) (fun hc=>?_)<;>try exact hc.elim)|(refine lx ?_;refine sp (fun hc=>?_) (fun hc=>?_)<;>try exact hc.elim)|refine sx ?_ ?_|refine sy ?_ ?_|fail
    all_goals (try (refine ⟨.inr rfl, ?_⟩; simp [Hands, Tryz.results157]))
    rw [aIf (jB (by omega) hi)]
theorem yS [aB Tryz.prog] (s : Str) (hl : s.length ≤ 1099511627776) : Ok Tryz.prog 148 [.str s] (.bool (iH s)) := by
  have h1 := jF s.length 1 20
  refine ent Tryz.mix Tryz.func148 Tryz.ntmps148 ?_
  have W := trivial
  repeat' first|refine st ?_|(refine nx ?_;first|refine se ?_|refine so ?_)|(refine cx ?_;refine sc (fun hc=>?_) (fun hc=>?_)<;>try exact hc.elim)|(refine lx ?_;refine sp (fun hc=>?_) (fun hc=>?_)<;>try exact hc.elim)|refine sx ?_ ?_|refine sy ?_ ?_|fail
  refine aJ (ι := { k : Nat // k ≤ s.length ∧ ∀ x ∈ s.take k, lS x = true }) (fun t o i => ⟨aS t [(3, .int .i64 i.1)], o⟩)
    (fun i => s.length - i.1) ⟨0, by simp, by simp⟩ (aD (by simp) (by simp)) ?_
  rintro ⟨k, hk, hi⟩ K1 hK1
  simp only [aS, List.set_cons_succ, List.set_cons_zero] at hK1 ⊢
  have hk1 : IntKind.i64.wrap ((k : Int) + 1) = ((k + 1 : Nat) : Int) := by rw [wrap64] <;> omega
  by_cases hlt : k < s.length
  · have hg := List.getElem?_eq_getElem hlt
    have W := And.intro hk1 (And.intro hg hlt)
    repeat' first|refine st ?_|(refine nx ?_;first|refine se ?_|refine so ?_)|(refine cx ?_;refine sc (fun hc=>?_) (fun hc=>?_)<;>try exact hc.elim)|(refine lx ?_;refine sp (fun hc=>?_) (fun hc=>?_)<;>try exact hc.elim)|refine sx ?_ ?_|refine sy ?_ ?_|fail
    all_goals first
      | exact hK1 _ ⟨k + 1, by omega, dX hlt hi (by simp [lS]; omega)⟩ (aD (by simp) (by simp)) (by simp only; omega)
      | (rw [aLw hlt (by simp [lS]; omega)]
         all_goals (try (refine ⟨.inr rfl, ?_⟩; simp [Hands, Tryz.results148]))
         done)
  · have W := hk1
    repeat' first|refine st ?_|(refine nx ?_;first|refine se ?_|refine so ?_)|(refine cx ?_;refine sc (fun hc=>?_) (fun hc=>?_)<;>try exact hc.elim)|(refine lx ?_;refine sp (fun hc=>?_) (fun hc=>?_)<;>try exact hc.elim)|refine sx ?_ ?_|refine sy ?_ ?_|fail
    all_goals (try (refine ⟨.inr rfl, ?_⟩; simp [Hands, Tryz.results148]))
    rw [aIf (jB (by omega) hi)]
def uF (r:eT):Bool:=(decide (1≤r.kind)&&decide (r.kind≤5))&&mR r.to&&bV r.frm&&(r.digest == [] || iH r.digest)
theorem aD4 [aB Tryz.prog] (r:eT) (hl:gK r≤1099511627776):Ok Tryz.prog 131 [.agg (dL r)] (.bool (uF r)):=by
 simp only [gK] at hl
 have c1:=mZ r.kind 1 5
 have c2:=pW r.to (by omega)
 have c3:=iQ r.frm (by omega)
 have c4:=yT r.digest (by omega)
 simp only [aL] at c2
 unfold uF
 generalize (decide (1≤r.kind)&&decide (r.kind≤5))=b1 at *
 generalize mR r.to=b2 at *
 generalize bV r.frm=b3 at *
 generalize iH r.digest=b4 at *
 refine ent Tryz.mix Tryz.func131 Tryz.ntmps131 ?_
 have W:=trivial
 repeat' first|refine st ?_|(refine nx ?_;first|refine se ?_|refine so ?_)|(refine cx ?_;refine sc (fun hc=>?_) (fun hc=>?_)<;>try exact hc.elim)|(refine lx ?_;refine sp (fun hc=>?_) (fun hc=>?_)<;>try exact hc.elim)|refine sx ?_ ?_|refine sy ?_ ?_|fail
 all_goals (try (refine ⟨.inr rfl,?_⟩;simp [Hands,Tryz.results131]))
 all_goals simp_all
theorem aD6 [aB Tryz.prog] (r:eT) (hl:gK r≤1099511627776):Ok Tryz.prog 121 [.agg (dL r)] (.bool (uF r)):=by
 simp only [gK] at hl
 have c1:=jF r.kind 1 5
 have c2:=uP r.to (by omega)
 have c3:=nM r.frm (by omega)
 have c4:=yS r.digest (by omega)
 simp only [aL] at c2
 unfold uF
 generalize (decide (1≤r.kind)&&decide (r.kind≤5))=b1 at *
 generalize mR r.to=b2 at *
 generalize bV r.frm=b3 at *
 generalize iH r.digest=b4 at *
 refine ent Tryz.mix Tryz.func121 Tryz.ntmps121 ?_
 have W:=trivial
 repeat' first|refine st ?_|(refine nx ?_;first|refine se ?_|refine so ?_)|(refine cx ?_;refine sc (fun hc=>?_) (fun hc=>?_)<;>try exact hc.elim)|(refine lx ?_;refine sp (fun hc=>?_) (fun hc=>?_)<;>try exact hc.elim)|refine sx ?_ ?_|refine sy ?_ ?_|fail
 all_goals (try (refine ⟨.inr rfl,?_⟩;simp [Hands,Tryz.results121]))
 all_goals simp_all
def allows (p:bR) (kind:Int) (host:Str):Bool:=
 if p.isSet=false then true else if kind=2∨kind=5 then p.scripts.any (fun x=>x == host) else if kind=3 then p.styles.any (fun x=>x == host) else if kind=4 then p.images.any (fun x=>x == host) else false
theorem aXn {l:List Str} {k:Nat} (h:k < l.length) {n:Str} (hc:l[k]=n):l.any (fun x=>x == n)=true:=
 List.any_eq_true.2 ⟨_,List.getElem_mem h,by simp [hc]⟩
theorem zM [aB Tryz.prog] (l:List Str) (n:Str) (hl:l.length≤1099511627776):Ok Tryz.prog 158 [.sl .view 1 (l.map aU),.str n] (.bool (l.any (fun x=>x == n))):=by
 refine ent Tryz.mix Tryz.func158 Tryz.ntmps158 ?_
 have W:=trivial
 repeat' first|refine st ?_|(refine nx ?_;first|refine se ?_|refine so ?_)|(refine cx ?_;refine sc (fun hc=>?_) (fun hc=>?_)<;>try exact hc.elim)|(refine lx ?_;refine sp (fun hc=>?_) (fun hc=>?_)<;>try exact hc.elim)|refine sx ?_ ?_|refine sy ?_ ?_|fail
 refine aJ (ι:={k:Nat // k≤l.length∧∀x∈l.take k,(x == n)=false}) (fun t o i=>⟨aS t [(5,.int .i64 i.1)],o⟩)
  (fun i=>l.length - i.1) ⟨0,by simp,by simp⟩ (aD (by simp) (by simp)) ?_
 rintro ⟨k,hk,hi⟩ K1 hK1
 simp only [aS,List.set_cons_succ,List.set_cons_zero] at hK1⊢
 have hk1:IntKind.i64.wrap ((k:Int)+1)=((k+1:Nat):Int):=by rw [wrap64]<;>omega
 by_cases hlt:k < l.length
 ·have hg:=List.getElem?_eq_getElem hlt
  have W:=And.intro hk1 (And.intro hg hlt)
  repeat' first|refine st ?_|(refine nx ?_;first|refine se ?_|refine so ?_)|(refine cx ?_;refine sc (fun hc=>?_) (fun hc=>?_)<;>try exact hc.elim)|(refine lx ?_;refine sp (fun hc=>?_) (fun hc=>?_)<;>try exact hc.elim)|refine sx ?_ ?_|refine sy ?_ ?_|fail
  ·rw [aXn hlt hc]
   all_goals (try (refine ⟨.inr rfl,?_⟩;simp [Hands,Tryz.results158]))
  ·exact hK1 _ ⟨k+1,by omega,dX hlt hi (by simpa using hc)⟩ (aD (by simp) (by simp)) (by simp only;omega)
 ·have W:=hk1
  repeat' first|refine st ?_|(refine nx ?_;first|refine se ?_|refine so ?_)|(refine cx ?_;refine sc (fun hc=>?_) (fun hc=>?_)<;>try exact hc.elim)|(refine lx ?_;refine sp (fun hc=>?_) (fun hc=>?_)<;>try exact hc.elim)|refine sx ?_ ?_|refine sy ?_ ?_|fail
  all_goals (try (refine ⟨.inr rfl,?_⟩;simp [Hands,Tryz.results158]))
  have:=jB (by omega) hi
  simpa using this
theorem aM5 [aB Tryz.prog] (l:List Str) (n:Str) (hl:l.length≤1099511627776):Ok Tryz.prog 167 [.sl .view 1 (l.map aU),.str n] (.int .i64 (iT (fun x=>x == n) l)):=by
 refine ent Tryz.mix Tryz.func167 Tryz.ntmps167 ?_
 have W:=trivial
 repeat' first|refine st ?_|(refine nx ?_;first|refine se ?_|refine so ?_)|(refine cx ?_;refine sc (fun hc=>?_) (fun hc=>?_)<;>try exact hc.elim)|(refine lx ?_;refine sp (fun hc=>?_) (fun hc=>?_)<;>try exact hc.elim)|refine sx ?_ ?_|refine sy ?_ ?_|fail
 refine aJ (ι:={k:Nat // k≤l.length∧∀x∈l.take k,(x == n)=false}) (fun t o i=>⟨aS t [(8,.int .i64 i.1),(5,.undef)],o⟩)
  (fun i=>l.length - i.1) ⟨0,by simp,by simp⟩ (aD (by simp) (by simp)) ?_
 rintro ⟨k,hk,hi⟩ K1 hK1
 simp only [aS,List.set_cons_succ,List.set_cons_zero] at hK1⊢
 have hk1:IntKind.i64.wrap ((k:Int)+1)=((k+1:Nat):Int):=by rw [wrap64]<;>omega
 by_cases hlt:k < l.length
 ·have hg:=List.getElem?_eq_getElem hlt
  have W:=And.intro hk1 (And.intro hg hlt)
  repeat' first|refine st ?_|(refine nx ?_;first|refine se ?_|refine so ?_)|(refine cx ?_;refine sc (fun hc=>?_) (fun hc=>?_)<;>try exact hc.elim)|(refine lx ?_;refine sp (fun hc=>?_) (fun hc=>?_)<;>try exact hc.elim)|refine sx ?_ ?_|refine sy ?_ ?_|fail
  ·all_goals (try (refine ⟨.inr rfl,?_⟩;simp [Hands,Tryz.results167]))
   rw [sO hlt (by simp [hc]) hi]
  ·exact hK1 _ ⟨k+1,by omega,dX hlt hi (by simp only [beq_eq_false_iff_ne];intro h;exact hc h.symm)⟩ (aD (by simp) (by simp)) (by simp only;omega)
 ·have W:=hk1
  repeat' first|refine st ?_|(refine nx ?_;first|refine se ?_|refine so ?_)|(refine cx ?_;refine sc (fun hc=>?_) (fun hc=>?_)<;>try exact hc.elim)|(refine lx ?_;refine sp (fun hc=>?_) (fun hc=>?_)<;>try exact hc.elim)|refine sx ?_ ?_|refine sy ?_ ?_|fail
  all_goals (try (refine ⟨.inr rfl,?_⟩;simp [Hands,Tryz.results167]))
  rw [oF (jB (by omega) hi)]
theorem sJ [aB Tryz.prog] (l:List Str) (n:Str) (hl:l.length≤1099511627776):Ok Tryz.prog 149 [.sl .view 1 (l.map aU),.str n] (.bool (l.any (fun x=>x == n))):=by
 have c1:=aM5 l n hl
 refine ent Tryz.mix Tryz.func149 Tryz.ntmps149 ?_
 have W:=trivial
 repeat' first|refine st ?_|(refine nx ?_;first|refine se ?_|refine so ?_)|(refine cx ?_;refine sc (fun hc=>?_) (fun hc=>?_)<;>try exact hc.elim)|(refine lx ?_;refine sp (fun hc=>?_) (fun hc=>?_)<;>try exact hc.elim)|refine sx ?_ ?_|refine sy ?_ ?_|fail
 all_goals (try (refine ⟨.inr rfl,?_⟩;simp [Hands,Tryz.results149]))
 exact aDe _ _
theorem aI9 [aB Tryz.prog] (p:bR) (kind:Int) (host:Str) (hs:bM p≤1099511627776):Ok Tryz.prog 132 [.agg (bD .view p),.int .i64 kind,.str host] (.bool (allows p kind host)):=by
 simp only [bM,szL] at hs
 have c1:=zM p.scripts host (by omega)
 have c2:=zM p.styles host (by omega)
 have c3:=zM p.images host (by omega)
 unfold allows
 refine ent Tryz.mix Tryz.func132 Tryz.ntmps132 ?_
 have W:=trivial
 repeat' first|refine st ?_|(refine nx ?_;first|refine se ?_|refine so ?_)|(refine cx ?_;refine sc (fun hc=>?_) (fun hc=>?_)<;>try exact hc.elim)|(refine lx ?_;refine sp (fun hc=>?_) (fun hc=>?_)<;>try exact hc.elim)|refine sx ?_ ?_|refine sy ?_ ?_|fail
 all_goals (try (refine ⟨.inr rfl,?_⟩;simp [Hands,Tryz.results132]))
 all_goals simp_all
theorem aIy [aB Tryz.prog] (p:bR) (kind:Int) (host:Str) (hs:bM p≤1099511627776):Ok Tryz.prog 122 [.agg (bD .view p),.int .i64 kind,.str host] (.bool (allows p kind host)):=by
 simp only [bM,szL] at hs
 have c1:=sJ p.scripts host (by omega)
 have c2:=sJ p.styles host (by omega)
 have c3:=sJ p.images host (by omega)
 unfold allows
 refine ent Tryz.mix Tryz.func122 Tryz.ntmps122 ?_
 have W:=trivial
 repeat' first|refine st ?_|(refine nx ?_;first|refine se ?_|refine so ?_)|(refine cx ?_;refine sc (fun hc=>?_) (fun hc=>?_)<;>try exact hc.elim)|(refine lx ?_;refine sp (fun hc=>?_) (fun hc=>?_)<;>try exact hc.elim)|refine sx ?_ ?_|refine sy ?_ ?_|fail
 all_goals (try (refine ⟨.inr rfl,?_⟩;simp [Hands,Tryz.results122]))
 all_goals simp_all
def dZ (p:bR) (r:eT):Int:=if uF r=false∨(r.kind≠1∧allows p r.kind r.to.host=false) then 2 else 1
theorem sF [aB Tryz.prog] (p:bR) (r:eT) (hs:bM p≤1099511627776) (hl:gK r≤1099511627776):Ok Tryz.prog 98 [.agg (bD .view p),.agg (dL r)] (.int .i64 (dZ p r)):=by
 have c1:=aD4 r hl
 have c2:=aI9 p r.kind r.to.host hs
 simp only [dL] at c1
 simp only [bD] at c2
 unfold dZ
 refine ent Tryz.mix Tryz.func98 Tryz.ntmps98 ?_
 have W:=trivial
 repeat' first|refine st ?_|(refine nx ?_;first|refine se ?_|refine so ?_)|(refine cx ?_;refine sc (fun hc=>?_) (fun hc=>?_)<;>try exact hc.elim)|(refine lx ?_;refine sp (fun hc=>?_) (fun hc=>?_)<;>try exact hc.elim)|refine sx ?_ ?_|refine sy ?_ ?_|fail
 all_goals (try (refine ⟨.inr rfl,?_⟩;simp [Hands,Tryz.results98]))
 all_goals simp_all
theorem sG [aB Tryz.prog] (p:bR) (r:eT) (hs:bM p≤1099511627776) (hl:gK r≤1099511627776):Ok Tryz.prog 84 [.agg (bD .view p),.agg (dL r)] (.int .i64 (dZ p r)):=by
 have c1:=aD6 r hl
 have c2:=aIy p r.kind r.to.host hs
 simp only [dL] at c1
 simp only [bD] at c2
 unfold dZ
 refine ent Tryz.mix Tryz.func84 Tryz.ntmps84 ?_
 have W:=trivial
 repeat' first|refine st ?_|(refine nx ?_;first|refine se ?_|refine so ?_)|(refine cx ?_;refine sc (fun hc=>?_) (fun hc=>?_)<;>try exact hc.elim)|(refine lx ?_;refine sp (fun hc=>?_) (fun hc=>?_)<;>try exact hc.elim)|refine sx ?_ ?_|refine sy ?_ ?_|fail
 all_goals (try (refine ⟨.inr rfl,?_⟩;simp [Hands,Tryz.results84]))
 all_goals simp_all
end Go.Proofs.YtajppdidkjbmkaaGreatDoor
