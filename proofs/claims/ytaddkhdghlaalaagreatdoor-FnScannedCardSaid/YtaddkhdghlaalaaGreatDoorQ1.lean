/-
  Proved here: steps towards the statement of this claim, text Q1.
  No condition beyond what each statement spells out.
-/
import Derived.Test.YtaddkhdghlaalaaGreatDoorQD1
set_option linter.all false
set_option maxRecDepth 4000
set_option maxHeartbeats 4000000
namespace Go.Proofs.YtaddkhdghlaalaaGreatDoor
open Go.Aw
def qK (c:UInt8):Bool:=(decide (97≤c.toNat)&&decide (c.toNat≤122)) || (decide (48≤c.toNat)&&decide (c.toNat≤57)) || decide (c.toNat=47)
def gG (s:Str):Bool:=s.all qK&&(decide (1≤s.length)&&decide (s.length≤20))
theorem aR8 {s:Str} {k:Nat} (h:k < s.length) (hc:qK s[k]=false):gG s=false:=by
 have:s.all qK=false:=by
  rw [List.all_eq_false]
  exact ⟨s[k],List.getElem_mem h,by simp [hc]⟩
 simp [gG,this]
theorem aO2 {s:Str} (h:∀x∈s,qK x=true):gG s=(decide ((1:Int)≤s.length)&&decide ((s.length:Int)≤20)):=by
 have:s.all qK=true:=List.all_eq_true.2 h
 have h1:decide ((1:Int)≤s.length)=decide (1≤s.length):=by simp only [decide_eq_decide];omega
 have h2:decide ((s.length:Int)≤20)=decide (s.length≤20):=by simp only [decide_eq_decide];omega
 rw [gG,this,h1,h2,Bool.true_and]
theorem uS [aB Tryz.prog] (s : Str) (hl : s.length ≤ 1099511627776) : Ok Tryz.prog 66 [.str s] (.bool (gG s)) := by
  have h1 := eQ s.length 1 20
  refine ent Tryz.mix Tryz.func66 Tryz.ntmps66 ?_
  refine aW ?_
  refine aR (ι := { k : Nat // k ≤ s.length ∧ ∀ x ∈ s.take k, qK x = true }) (fun t o i => ⟨aS t [(3, .int .i64 i.1)], o⟩)
    (fun i => s.length - i.1) ⟨0, by simp, by simp⟩ aO ?_
  rintro ⟨k, hk, hi⟩ K1 hK1
  simp only [aS, List.set_cons_succ, List.set_cons_zero] at hK1 ⊢
  have hk1 := wk1 (k := k) (by omega)
  by_cases hlt : k < s.length
  · have hg := List.getElem?_eq_getElem hlt
    have W := And.intro hk1 (And.intro hg hlt)
    repeat' first|refine st ?_|(refine nx ?_;first|refine se ?_|refine so ?_)|(refine cx ?_;refine sc (fun hc=>?_) (fun hc=>?_)<;>try exact hc.elim)|(refine lx ?_;refine sp (fun hc=>?_) (fun hc=>?_)<;>try exact hc.elim)|refine sx ?_ ?_|refine sy ?_ ?_|fail
    all_goals first
      | exact hK1 _ ⟨k + 1, by omega, dK hlt hi (by simp [qK]; omega)⟩ aO (by simp only; omega)
      | (rw [aR8 hlt (by simp [qK]; omega)]
         all_goals (try (refine ⟨.inr rfl, ?_⟩; simp [Hands, Tryz.results66]))
         done)
  · have W := hk1
    refine we ?_
    all_goals (try (refine ⟨.inr rfl, ?_⟩; simp [Hands, Tryz.results66]))
    rw [aO2 (iQ (by omega) hi)]
theorem aD1 [aB Tryz.prog] (s : Str) (hl : s.length ≤ 1099511627776) : Ok Tryz.prog 83 [.str s] (.bool (gG s)) := by
  have h1 := aGq s.length 1 20
  refine ent Tryz.mix Tryz.func83 Tryz.ntmps83 ?_
  refine aW ?_
  refine aR (ι := { k : Nat // k ≤ s.length ∧ ∀ x ∈ s.take k, qK x = true }) (fun t o i => ⟨aS t [(3, .int .i64 i.1)], o⟩)
    (fun i => s.length - i.1) ⟨0, by simp, by simp⟩ aO ?_
  rintro ⟨k, hk, hi⟩ K1 hK1
  simp only [aS, List.set_cons_succ, List.set_cons_zero] at hK1 ⊢
  have hk1 := wk1 (k := k) (by omega)
  by_cases hlt : k < s.length
  · have hg := List.getElem?_eq_getElem hlt
    have W := And.intro hk1 (And.intro hg hlt)
    repeat' first|refine st ?_|(refine nx ?_;first|refine se ?_|refine so ?_)|(refine cx ?_;refine sc (fun hc=>?_) (fun hc=>?_)<;>try exact hc.elim)|(refine lx ?_;refine sp (fun hc=>?_) (fun hc=>?_)<;>try exact hc.elim)|refine sx ?_ ?_|refine sy ?_ ?_|fail
    all_goals first
      | exact hK1 _ ⟨k + 1, by omega, dK hlt hi (by simp [qK]; omega)⟩ aO (by simp only; omega)
      | (rw [aR8 hlt (by simp [qK]; omega)]
         all_goals (try (refine ⟨.inr rfl, ?_⟩; simp [Hands, Tryz.results83]))
         done)
  · have W := hk1
    refine we ?_
    all_goals (try (refine ⟨.inr rfl, ?_⟩; simp [Hands, Tryz.results83]))
    rw [aO2 (iQ (by omega) hi)]
def wH (r:dA):Bool:=(decide (1≤r.kind)&&decide (r.kind≤5))&&nT r.to&&bU r.frm&&(r.digest == [] || gG r.digest)
theorem aBr [aB Tryz.prog] (r:dA) (hl:fE r≤1099511627776):Ok Tryz.prog 51 [.agg (bT r)] (.bool (wH r)):=by
 simp only [fE] at hl
 have c1:=eQ r.kind 1 5
 have c2:=sQ r.to (by omega)
 have c3:=dW r.frm (by omega)
 have c4:=uS r.digest (by omega)
 simp only [aF] at c2
 unfold wH
 generalize (decide (1≤r.kind)&&decide (r.kind≤5))=b1 at *
 generalize nT r.to=b2 at *
 generalize bU r.frm=b3 at *
 generalize gG r.digest=b4 at *
 refine ent Tryz.mix Tryz.func51 Tryz.ntmps51 ?_
 have W:=trivial
 repeat' first|refine st ?_|(refine nx ?_;first|refine se ?_|refine so ?_)|(refine cx ?_;refine sc (fun hc=>?_) (fun hc=>?_)<;>try exact hc.elim)|(refine lx ?_;refine sp (fun hc=>?_) (fun hc=>?_)<;>try exact hc.elim)|refine sx ?_ ?_|refine sy ?_ ?_|fail
 all_goals (try (refine ⟨.inr rfl,?_⟩;simp [Hands,Tryz.results51]))
 all_goals simp_all
theorem aBp [aB Tryz.prog] (r:dA) (hl:fE r≤1099511627776):Ok Tryz.prog 48 [.agg (bT r)] (.bool (wH r)):=by
 simp only [fE] at hl
 have c1:=aGq r.kind 1 5
 have c2:=aAj r.to (by omega)
 have c3:=qH r.frm (by omega)
 have c4:=aD1 r.digest (by omega)
 simp only [aF] at c2
 unfold wH
 generalize (decide (1≤r.kind)&&decide (r.kind≤5))=b1 at *
 generalize nT r.to=b2 at *
 generalize bU r.frm=b3 at *
 generalize gG r.digest=b4 at *
 refine ent Tryz.mix Tryz.func48 Tryz.ntmps48 ?_
 have W:=trivial
 repeat' first|refine st ?_|(refine nx ?_;first|refine se ?_|refine so ?_)|(refine cx ?_;refine sc (fun hc=>?_) (fun hc=>?_)<;>try exact hc.elim)|(refine lx ?_;refine sp (fun hc=>?_) (fun hc=>?_)<;>try exact hc.elim)|refine sx ?_ ?_|refine sy ?_ ?_|fail
 all_goals (try (refine ⟨.inr rfl,?_⟩;simp [Hands,Tryz.results48]))
 all_goals simp_all
def tV (r:dA):Bool:=wH r&&decide (r.kind≠1)&&(r.to.host == r.frm)
theorem aLx [aB Tryz.prog] (r:dA) (hl:fE r≤1099511627776):Ok Tryz.prog 25 [.agg (bT r)] (.bool (tV r)):=by
 have c1:=aBr r hl
 simp only [bT] at c1
 unfold tV
 refine ent Tryz.mix Tryz.func25 Tryz.ntmps25 ?_
 have W:=trivial
 repeat' first|refine st ?_|(refine nx ?_;first|refine se ?_|refine so ?_)|(refine cx ?_;refine sc (fun hc=>?_) (fun hc=>?_)<;>try exact hc.elim)|(refine lx ?_;refine sp (fun hc=>?_) (fun hc=>?_)<;>try exact hc.elim)|refine sx ?_ ?_|refine sy ?_ ?_|fail
 all_goals (try (refine ⟨.inr rfl,?_⟩;simp [Hands,Tryz.results25]))
 all_goals simp_all
theorem aK0 [aB Tryz.prog] (r:dA) (hl:fE r≤1099511627776):Ok Tryz.prog 21 [.agg (bT r)] (.bool (tV r)):=by
 have c1:=aBp r hl
 simp only [bT] at c1
 unfold tV
 refine ent Tryz.mix Tryz.func21 Tryz.ntmps21 ?_
 have W:=trivial
 repeat' first|refine st ?_|(refine nx ?_;first|refine se ?_|refine so ?_)|(refine cx ?_;refine sc (fun hc=>?_) (fun hc=>?_)<;>try exact hc.elim)|(refine lx ?_;refine sp (fun hc=>?_) (fun hc=>?_)<;>try exact hc.elim)|refine sx ?_ ?_|refine sy ?_ ?_|fail
 all_goals (try (refine ⟨.inr rfl,?_⟩;simp [Hands,Tryz.results21]))
 all_goals simp_all
def allows (p:dU) (kind:Int) (host:Str):Bool:=
 if p.isSet=false then true else if kind=2∨kind=5 then p.scripts.any (fun x=>x == host) else if kind=3 then p.styles.any (fun x=>x == host) else if kind=4 then p.images.any (fun x=>x == host) else false
theorem bGx {l:List Str} {k:Nat} (h:k < l.length) {n:Str} (hc:l[k]=n):l.any (fun x=>x == n)=true:=
 List.any_eq_true.2 ⟨_,List.getElem_mem h,by simp [hc]⟩
theorem aE1 [aB Tryz.prog] (l:List Str) (n:Str) (hl:l.length≤1099511627776):Ok Tryz.prog 87 [.sl .view 1 (l.map bX),.str n] (.bool (l.any (fun x=>x == n))):=by
 refine ent Tryz.mix Tryz.func87 Tryz.ntmps87 ?_
 refine aW ?_
 refine aR (ι:={k:Nat // k≤l.length∧∀x∈l.take k,(x == n)=false}) (fun t o i=>⟨aS t [(5,.int .i64 i.1)],o⟩)
  (fun i=>l.length - i.1) ⟨0,by simp,by simp⟩ aO ?_
 rintro ⟨k,hk,hi⟩ K1 hK1
 simp only [aS,List.set_cons_succ,List.set_cons_zero] at hK1⊢
 have hk1:=wk1 (k:=k) (by omega)
 by_cases hlt:k < l.length
 ·have hg:=List.getElem?_eq_getElem hlt
  have W:=And.intro hk1 (And.intro hg hlt)
  repeat' first|refine st ?_|(refine nx ?_;first|refine se ?_|refine so ?_)|(refine cx ?_;refine sc (fun hc=>?_) (fun hc=>?_)<;>try exact hc.elim)|(refine lx ?_;refine sp (fun hc=>?_) (fun hc=>?_)<;>try exact hc.elim)|refine sx ?_ ?_|refine sy ?_ ?_|fail
  ·rw [bGx hlt hc]
   all_goals (try (refine ⟨.inr rfl,?_⟩;simp [Hands,Tryz.results87]))
  ·exact hK1 _ ⟨k+1,by omega,dK hlt hi (by simpa using hc)⟩ aO (by simp only;omega)
 ·have W:=hk1
  refine we ?_
  all_goals (try (refine ⟨.inr rfl,?_⟩;simp [Hands,Tryz.results87]))
  have:=iQ (by omega) hi
  simpa using this
theorem aUd [aB Tryz.prog] (l:List Str) (n:Str) (hl:l.length≤1099511627776):Ok Tryz.prog 120 [.sl .view 1 (l.map bX),.str n] (.int .i64 (kP (fun x=>x == n) l)):=by
 refine ent Tryz.mix Tryz.func120 Tryz.ntmps120 ?_
 refine aW ?_
 refine aR (ι:={k:Nat // k≤l.length∧∀x∈l.take k,(x == n)=false}) (fun t o i=>⟨aS t [(8,.int .i64 i.1),(5,.undef)],o⟩)
  (fun i=>l.length - i.1) ⟨0,by simp,by simp⟩ aO ?_
 rintro ⟨k,hk,hi⟩ K1 hK1
 simp only [aS,List.set_cons_succ,List.set_cons_zero] at hK1⊢
 have hk1:=wk1 (k:=k) (by omega)
 by_cases hlt:k < l.length
 ·have hg:=List.getElem?_eq_getElem hlt
  have W:=And.intro hk1 (And.intro hg hlt)
  repeat' first|refine st ?_|(refine nx ?_;first|refine se ?_|refine so ?_)|(refine cx ?_;refine sc (fun hc=>?_) (fun hc=>?_)<;>try exact hc.elim)|(refine lx ?_;refine sp (fun hc=>?_) (fun hc=>?_)<;>try exact hc.elim)|refine sx ?_ ?_|refine sy ?_ ?_|fail
  ·all_goals (try (refine ⟨.inr rfl,?_⟩;simp [Hands,Tryz.results120]))
   rw [uQ hlt (by simp [hc]) hi]
  ·exact hK1 _ ⟨k+1,by omega,dK hlt hi (by simp only [beq_eq_false_iff_ne];intro h;exact hc h.symm)⟩ aO (by simp only;omega)
 ·have W:=hk1
  refine we ?_
  all_goals (try (refine ⟨.inr rfl,?_⟩;simp [Hands,Tryz.results120]))
  rw [pI (iQ (by omega) hi)]
theorem yN [aB Tryz.prog] (l:List Str) (n:Str) (hl:l.length≤1099511627776):Ok Tryz.prog 84 [.sl .view 1 (l.map bX),.str n] (.bool (l.any (fun x=>x == n))):=by
 have c1:=aUd l n hl
 refine ent Tryz.mix Tryz.func84 Tryz.ntmps84 ?_
 refine aW ?_
 all_goals (try (refine ⟨.inr rfl,?_⟩;simp [Hands,Tryz.results84]))
 exact vL _ _
theorem aPa [aB Tryz.prog] (p:dU) (kind:Int) (host:Str) (hs:dX p≤1099511627776):Ok Tryz.prog 52 [.agg (bY .view p),.int .i64 kind,.str host] (.bool (allows p kind host)):=by
 simp only [dX,szL] at hs
 have c1:=aE1 p.scripts host (by omega)
 have c2:=aE1 p.styles host (by omega)
 have c3:=aE1 p.images host (by omega)
 unfold allows
 refine ent Tryz.mix Tryz.func52 Tryz.ntmps52 ?_
 have W:=trivial
 repeat' first|refine st ?_|(refine nx ?_;first|refine se ?_|refine so ?_)|(refine cx ?_;refine sc (fun hc=>?_) (fun hc=>?_)<;>try exact hc.elim)|(refine lx ?_;refine sp (fun hc=>?_) (fun hc=>?_)<;>try exact hc.elim)|refine sx ?_ ?_|refine sy ?_ ?_|fail
 all_goals (try (refine ⟨.inr rfl,?_⟩;simp [Hands,Tryz.results52]))
 all_goals simp_all
theorem aO9 [aB Tryz.prog] (p:dU) (kind:Int) (host:Str) (hs:dX p≤1099511627776):Ok Tryz.prog 49 [.agg (bY .view p),.int .i64 kind,.str host] (.bool (allows p kind host)):=by
 simp only [dX,szL] at hs
 have c1:=yN p.scripts host (by omega)
 have c2:=yN p.styles host (by omega)
 have c3:=yN p.images host (by omega)
 unfold allows
 refine ent Tryz.mix Tryz.func49 Tryz.ntmps49 ?_
 have W:=trivial
 repeat' first|refine st ?_|(refine nx ?_;first|refine se ?_|refine so ?_)|(refine cx ?_;refine sc (fun hc=>?_) (fun hc=>?_)<;>try exact hc.elim)|(refine lx ?_;refine sp (fun hc=>?_) (fun hc=>?_)<;>try exact hc.elim)|refine sx ?_ ?_|refine sy ?_ ?_|fail
 all_goals (try (refine ⟨.inr rfl,?_⟩;simp [Hands,Tryz.results49]))
 all_goals simp_all
def eY (p:dU) (r:dA):Int:=if wH r=false∨(r.kind≠1∧allows p r.kind r.to.host=false) then 2 else 1
theorem qC [aB Tryz.prog] (p:dU) (r:dA) (hs:dX p≤1099511627776) (hl:fE r≤1099511627776):Ok Tryz.prog 26 [.agg (bY .view p),.agg (bT r)] (.int .i64 (eY p r)):=by
 have c1:=aBr r hl
 have c2:=aPa p r.kind r.to.host hs
 simp only [bT] at c1
 simp only [bY] at c2
 unfold eY
 refine ent Tryz.mix Tryz.func26 Tryz.ntmps26 ?_
 have W:=trivial
 repeat' first|refine st ?_|(refine nx ?_;first|refine se ?_|refine so ?_)|(refine cx ?_;refine sc (fun hc=>?_) (fun hc=>?_)<;>try exact hc.elim)|(refine lx ?_;refine sp (fun hc=>?_) (fun hc=>?_)<;>try exact hc.elim)|refine sx ?_ ?_|refine sy ?_ ?_|fail
 all_goals (try (refine ⟨.inr rfl,?_⟩;simp [Hands,Tryz.results26]))
 all_goals simp_all
theorem aFt [aB Tryz.prog] (p:dU) (r:dA) (hs:dX p≤1099511627776) (hl:fE r≤1099511627776):Ok Tryz.prog 22 [.agg (bY .view p),.agg (bT r)] (.int .i64 (eY p r)):=by
 have c1:=aBp r hl
 have c2:=aO9 p r.kind r.to.host hs
 simp only [bT] at c1
 simp only [bY] at c2
 unfold eY
 refine ent Tryz.mix Tryz.func22 Tryz.ntmps22 ?_
 have W:=trivial
 repeat' first|refine st ?_|(refine nx ?_;first|refine se ?_|refine so ?_)|(refine cx ?_;refine sc (fun hc=>?_) (fun hc=>?_)<;>try exact hc.elim)|(refine lx ?_;refine sp (fun hc=>?_) (fun hc=>?_)<;>try exact hc.elim)|refine sx ?_ ?_|refine sy ?_ ?_|fail
 all_goals (try (refine ⟨.inr rfl,?_⟩;simp [Hands,Tryz.results22]))
 all_goals simp_all
end Go.Proofs.YtaddkhdghlaalaaGreatDoor
