/-
  Proved here: steps towards the statement of this claim, text Q1.
  No condition beyond what each statement spells out.
-/
import Derived.Test.YtkidoegojckmiaaGreatDoorAQU1
set_option linter.all false
set_option maxRecDepth 4000
set_option maxHeartbeats 4000000
namespace Go.Proofs.YtkidoegojckmiaaGreatDoor
open Go.Aw
def jX (c:UInt8):Bool:=(decide (97≤c.toNat)&&decide (c.toNat≤122)) || (decide (48≤c.toNat)&&decide (c.toNat≤57)) || decide (c.toNat=47)
def dB (s:Str):Bool:=s.all jX&&(decide (1≤s.length)&&decide (s.length≤20))
theorem aKd {s:Str} {k:Nat} (h:k < s.length) (hc:jX s[k]=false):dB s=false:=by
 have:s.all jX=false:=by
  rw [List.all_eq_false]
  exact ⟨s[k],List.getElem_mem h,by simp [hc]⟩
 simp [dB,this]
theorem aGa {s:Str} (h:∀x∈s,jX x=true):dB s=(decide ((1:Int)≤s.length)&&decide ((s.length:Int)≤20)):=by
 have:s.all jX=true:=List.all_eq_true.2 h
 have h1:decide ((1:Int)≤s.length)=decide (1≤s.length):=by simp only [decide_eq_decide];omega
 have h2:decide ((s.length:Int)≤20)=decide (s.length≤20):=by simp only [decide_eq_decide];omega
 rw [dB,this,h1,h2,Bool.true_and]
theorem nS [aB Tryz.prog] (s : Str) (hl : s.length ≤ 1099511627776) : Ok Tryz.prog 124 [.str s] (.bool (dB s)) := by
  have h1 := gH s.length 1 20
  refine ent Tryz.mix Tryz.func124 Tryz.ntmps124 ?_
  have W := trivial
  repeat' first|refine st ?_|(refine nx ?_;first|refine se ?_|refine so ?_)|(refine cx ?_;refine sc (fun hc=>?_) (fun hc=>?_)<;>try exact hc.elim)|(refine lx ?_;refine sp (fun hc=>?_) (fun hc=>?_)<;>try exact hc.elim)|refine sx ?_ ?_|refine sy ?_ ?_|fail
  refine aJ (ι := { k : Nat // k ≤ s.length ∧ ∀ x ∈ s.take k, jX x = true }) (fun t o i => ⟨aL t [(3, .int .i64 i.1)], o⟩)
    (fun i => s.length - i.1) ⟨0, by simp, by simp⟩ (aH (by simp) (by simp)) ?_
  rintro ⟨k, hk, hi⟩ K1 hK1
  simp only [aL, List.set_cons_succ, List.set_cons_zero] at hK1 ⊢
  have hk1 : IntKind.i64.wrap ((k : Int) + 1) = ((k + 1 : Nat) : Int) := by rw [wrap64] <;> omega
  by_cases hlt : k < s.length
  · have hg := List.getElem?_eq_getElem hlt
    have W := And.intro hk1 (And.intro hg hlt)
    repeat' first|refine st ?_|(refine nx ?_;first|refine se ?_|refine so ?_)|(refine cx ?_;refine sc (fun hc=>?_) (fun hc=>?_)<;>try exact hc.elim)|(refine lx ?_;refine sp (fun hc=>?_) (fun hc=>?_)<;>try exact hc.elim)|refine sx ?_ ?_|refine sy ?_ ?_|fail
    all_goals first
      | exact hK1 _ ⟨k + 1, by omega, dP hlt hi (by simp [jX]; omega)⟩ (aH (by simp) (by simp)) (by simp only; omega)
      | (rw [aKd hlt (by simp [jX]; omega)]
         all_goals (try (refine ⟨.inr rfl, ?_⟩; simp [Hands, Tryz.results124]))
         done)
  · have W := hk1
    repeat' first|refine st ?_|(refine nx ?_;first|refine se ?_|refine so ?_)|(refine cx ?_;refine sc (fun hc=>?_) (fun hc=>?_)<;>try exact hc.elim)|(refine lx ?_;refine sp (fun hc=>?_) (fun hc=>?_)<;>try exact hc.elim)|refine sx ?_ ?_|refine sy ?_ ?_|fail
    all_goals (try (refine ⟨.inr rfl, ?_⟩; simp [Hands, Tryz.results124]))
    rw [aGa (iP (by omega) hi)]
theorem wZ [aB Tryz.prog] (s : Str) (hl : s.length ≤ 1099511627776) : Ok Tryz.prog 106 [.str s] (.bool (dB s)) := by
  have h1 := lW s.length 1 20
  refine ent Tryz.mix Tryz.func106 Tryz.ntmps106 ?_
  have W := trivial
  repeat' first|refine st ?_|(refine nx ?_;first|refine se ?_|refine so ?_)|(refine cx ?_;refine sc (fun hc=>?_) (fun hc=>?_)<;>try exact hc.elim)|(refine lx ?_;refine sp (fun hc=>?_) (fun hc=>?_)<;>try exact hc.elim)|refine sx ?_ ?_|refine sy ?_ ?_|fail
  refine aJ (ι := { k : Nat // k ≤ s.length ∧ ∀ x ∈ s.take k, jX x = true }) (fun t o i => ⟨aL t [(3, .int .i64 i.1)], o⟩)
    (fun i => s.length - i.1) ⟨0, by simp, by simp⟩ (aH (by simp) (by simp)) ?_
  rintro ⟨k, hk, hi⟩ K1 hK1
  simp only [aL, List.set_cons_succ, List.set_cons_zero] at hK1 ⊢
  have hk1 : IntKind.i64.wrap ((k : Int) + 1) = ((k + 1 : Nat) : Int) := by rw [wrap64] <;> omega
  by_cases hlt : k < s.length
  · have hg := List.getElem?_eq_getElem hlt
    have W := And.intro hk1 (And.intro hg hlt)
    repeat' first|refine st ?_|(refine nx ?_;first|refine se ?_|refine so ?_)|(refine cx ?_;refine sc (fun hc=>?_) (fun hc=>?_)<;>try exact hc.elim)|(refine lx ?_;refine sp (fun hc=>?_) (fun hc=>?_)<;>try exact hc.elim)|refine sx ?_ ?_|refine sy ?_ ?_|fail
    all_goals first
      | exact hK1 _ ⟨k + 1, by omega, dP hlt hi (by simp [jX]; omega)⟩ (aH (by simp) (by simp)) (by simp only; omega)
      | (rw [aKd hlt (by simp [jX]; omega)]
         all_goals (try (refine ⟨.inr rfl, ?_⟩; simp [Hands, Tryz.results106]))
         done)
  · have W := hk1
    repeat' first|refine st ?_|(refine nx ?_;first|refine se ?_|refine so ?_)|(refine cx ?_;refine sc (fun hc=>?_) (fun hc=>?_)<;>try exact hc.elim)|(refine lx ?_;refine sp (fun hc=>?_) (fun hc=>?_)<;>try exact hc.elim)|refine sx ?_ ?_|refine sy ?_ ?_|fail
    all_goals (try (refine ⟨.inr rfl, ?_⟩; simp [Hands, Tryz.results106]))
    rw [aGa (iP (by omega) hi)]
def sG (r:dU):Bool:=(decide (1≤r.kind)&&decide (r.kind≤5))&&mY r.to&&bL r.frm&&(r.digest == [] || dB r.digest)
theorem aC2 [aB Tryz.prog] (r:dU) (hl:gJ r≤1099511627776):Ok Tryz.prog 100 [.agg (dI r)] (.bool (sG r)):=by
 simp only [gJ] at hl
 have c1:=gH r.kind 1 5
 have c2:=yV r.to (by omega)
 have c3:=gU r.frm (by omega)
 have c4:=nS r.digest (by omega)
 simp only [bF] at c2
 unfold sG
 generalize (decide (1≤r.kind)&&decide (r.kind≤5))=b1 at *
 generalize mY r.to=b2 at *
 generalize bL r.frm=b3 at *
 generalize dB r.digest=b4 at *
 refine ent Tryz.mix Tryz.func100 Tryz.ntmps100 ?_
 have W:=trivial
 repeat' first|refine st ?_|(refine nx ?_;first|refine se ?_|refine so ?_)|(refine cx ?_;refine sc (fun hc=>?_) (fun hc=>?_)<;>try exact hc.elim)|(refine lx ?_;refine sp (fun hc=>?_) (fun hc=>?_)<;>try exact hc.elim)|refine sx ?_ ?_|refine sy ?_ ?_|fail
 all_goals (try (refine ⟨.inr rfl,?_⟩;simp [Hands,Tryz.results100]))
 all_goals simp_all
theorem aCq [aB Tryz.prog] (r:dU) (hl:gJ r≤1099511627776):Ok Tryz.prog 72 [.agg (dI r)] (.bool (sG r)):=by
 simp only [gJ] at hl
 have c1:=lW r.kind 1 5
 have c2:=aHf r.to (by omega)
 have c3:=mM r.frm (by omega)
 have c4:=wZ r.digest (by omega)
 simp only [bF] at c2
 unfold sG
 generalize (decide (1≤r.kind)&&decide (r.kind≤5))=b1 at *
 generalize mY r.to=b2 at *
 generalize bL r.frm=b3 at *
 generalize dB r.digest=b4 at *
 refine ent Tryz.mix Tryz.func72 Tryz.ntmps72 ?_
 have W:=trivial
 repeat' first|refine st ?_|(refine nx ?_;first|refine se ?_|refine so ?_)|(refine cx ?_;refine sc (fun hc=>?_) (fun hc=>?_)<;>try exact hc.elim)|(refine lx ?_;refine sp (fun hc=>?_) (fun hc=>?_)<;>try exact hc.elim)|refine sx ?_ ?_|refine sy ?_ ?_|fail
 all_goals (try (refine ⟨.inr rfl,?_⟩;simp [Hands,Tryz.results72]))
 all_goals simp_all
def allows (p:bH) (kind:Int) (host:Str):Bool:=
 if p.isSet=false then true else if kind=2∨kind=5 then p.scripts.any (fun x=>x == host) else if kind=3 then p.styles.any (fun x=>x == host) else if kind=4 then p.images.any (fun x=>x == host) else false
theorem aVv {l:List Str} {k:Nat} (h:k < l.length) {n:Str} (hc:l[k]=n):l.any (fun x=>x == n)=true:=
 List.any_eq_true.2 ⟨_,List.getElem_mem h,by simp [hc]⟩
theorem xY [aB Tryz.prog] (l:List Str) (n:Str) (hl:l.length≤1099511627776):Ok Tryz.prog 126 [.sl .view 1 (l.map aK),.str n] (.bool (l.any (fun x=>x == n))):=by
 refine ent Tryz.mix Tryz.func126 Tryz.ntmps126 ?_
 have W:=trivial
 repeat' first|refine st ?_|(refine nx ?_;first|refine se ?_|refine so ?_)|(refine cx ?_;refine sc (fun hc=>?_) (fun hc=>?_)<;>try exact hc.elim)|(refine lx ?_;refine sp (fun hc=>?_) (fun hc=>?_)<;>try exact hc.elim)|refine sx ?_ ?_|refine sy ?_ ?_|fail
 refine aJ (ι:={k:Nat // k≤l.length∧∀x∈l.take k,(x == n)=false}) (fun t o i=>⟨aL t [(5,.int .i64 i.1)],o⟩)
  (fun i=>l.length - i.1) ⟨0,by simp,by simp⟩ (aH (by simp) (by simp)) ?_
 rintro ⟨k,hk,hi⟩ K1 hK1
 simp only [aL,List.set_cons_succ,List.set_cons_zero] at hK1⊢
 have hk1:IntKind.i64.wrap ((k:Int)+1)=((k+1:Nat):Int):=by rw [wrap64]<;>omega
 by_cases hlt:k < l.length
 ·have hg:=List.getElem?_eq_getElem hlt
  have W:=And.intro hk1 (And.intro hg hlt)
  repeat' first|refine st ?_|(refine nx ?_;first|refine se ?_|refine so ?_)|(refine cx ?_;refine sc (fun hc=>?_) (fun hc=>?_)<;>try exact hc.elim)|(refine lx ?_;refine sp (fun hc=>?_) (fun hc=>?_)<;>try exact hc.elim)|refine sx ?_ ?_|refine sy ?_ ?_|fail
  ·rw [aVv hlt hc]
   all_goals (try (refine ⟨.inr rfl,?_⟩;simp [Hands,Tryz.results126]))
  ·exact hK1 _ ⟨k+1,by omega,dP hlt hi (by simpa using hc)⟩ (aH (by simp) (by simp)) (by simp only;omega)
 ·have W:=hk1
  repeat' first|refine st ?_|(refine nx ?_;first|refine se ?_|refine so ?_)|(refine cx ?_;refine sc (fun hc=>?_) (fun hc=>?_)<;>try exact hc.elim)|(refine lx ?_;refine sp (fun hc=>?_) (fun hc=>?_)<;>try exact hc.elim)|refine sx ?_ ?_|refine sy ?_ ?_|fail
  all_goals (try (refine ⟨.inr rfl,?_⟩;simp [Hands,Tryz.results126]))
  have:=iP (by omega) hi
  simpa using this
theorem aLb [aB Tryz.prog] (l:List Str) (n:Str) (hl:l.length≤1099511627776):Ok Tryz.prog 129 [.sl .view 1 (l.map aK),.str n] (.int .i64 (zW (fun x=>x == n) l)):=by
 refine ent Tryz.mix Tryz.func129 Tryz.ntmps129 ?_
 have W:=trivial
 repeat' first|refine st ?_|(refine nx ?_;first|refine se ?_|refine so ?_)|(refine cx ?_;refine sc (fun hc=>?_) (fun hc=>?_)<;>try exact hc.elim)|(refine lx ?_;refine sp (fun hc=>?_) (fun hc=>?_)<;>try exact hc.elim)|refine sx ?_ ?_|refine sy ?_ ?_|fail
 refine aJ (ι:={k:Nat // k≤l.length∧∀x∈l.take k,(x == n)=false}) (fun t o i=>⟨aL t [(8,.int .i64 i.1),(5,.undef)],o⟩)
  (fun i=>l.length - i.1) ⟨0,by simp,by simp⟩ (aH (by simp) (by simp)) ?_
 rintro ⟨k,hk,hi⟩ K1 hK1
 simp only [aL,List.set_cons_succ,List.set_cons_zero] at hK1⊢
 have hk1:IntKind.i64.wrap ((k:Int)+1)=((k+1:Nat):Int):=by rw [wrap64]<;>omega
 by_cases hlt:k < l.length
 ·have hg:=List.getElem?_eq_getElem hlt
  have W:=And.intro hk1 (And.intro hg hlt)
  repeat' first|refine st ?_|(refine nx ?_;first|refine se ?_|refine so ?_)|(refine cx ?_;refine sc (fun hc=>?_) (fun hc=>?_)<;>try exact hc.elim)|(refine lx ?_;refine sp (fun hc=>?_) (fun hc=>?_)<;>try exact hc.elim)|refine sx ?_ ?_|refine sy ?_ ?_|fail
  ·all_goals (try (refine ⟨.inr rfl,?_⟩;simp [Hands,Tryz.results129]))
   rw [aMn hlt (by simp [hc]) hi]
  ·exact hK1 _ ⟨k+1,by omega,dP hlt hi (by simp only [beq_eq_false_iff_ne];intro h;exact hc h.symm)⟩ (aH (by simp) (by simp)) (by simp only;omega)
 ·have W:=hk1
  repeat' first|refine st ?_|(refine nx ?_;first|refine se ?_|refine so ?_)|(refine cx ?_;refine sc (fun hc=>?_) (fun hc=>?_)<;>try exact hc.elim)|(refine lx ?_;refine sp (fun hc=>?_) (fun hc=>?_)<;>try exact hc.elim)|refine sx ?_ ?_|refine sy ?_ ?_|fail
  all_goals (try (refine ⟨.inr rfl,?_⟩;simp [Hands,Tryz.results129]))
  rw [aF0 (iP (by omega) hi)]
theorem qU [aB Tryz.prog] (l:List Str) (n:Str) (hl:l.length≤1099511627776):Ok Tryz.prog 107 [.sl .view 1 (l.map aK),.str n] (.bool (l.any (fun x=>x == n))):=by
 have c1:=aLb l n hl
 refine ent Tryz.mix Tryz.func107 Tryz.ntmps107 ?_
 have W:=trivial
 repeat' first|refine st ?_|(refine nx ?_;first|refine se ?_|refine so ?_)|(refine cx ?_;refine sc (fun hc=>?_) (fun hc=>?_)<;>try exact hc.elim)|(refine lx ?_;refine sp (fun hc=>?_) (fun hc=>?_)<;>try exact hc.elim)|refine sx ?_ ?_|refine sy ?_ ?_|fail
 all_goals (try (refine ⟨.inr rfl,?_⟩;simp [Hands,Tryz.results107]))
 exact aCj _ _
theorem aG9 [aB Tryz.prog] (p:bH) (kind:Int) (host:Str) (hs:bB p≤1099511627776):Ok Tryz.prog 101 [.agg (aS .view p),.int .i64 kind,.str host] (.bool (allows p kind host)):=by
 simp only [bB,szL] at hs
 have c1:=xY p.scripts host (by omega)
 have c2:=xY p.styles host (by omega)
 have c3:=xY p.images host (by omega)
 unfold allows
 refine ent Tryz.mix Tryz.func101 Tryz.ntmps101 ?_
 have W:=trivial
 repeat' first|refine st ?_|(refine nx ?_;first|refine se ?_|refine so ?_)|(refine cx ?_;refine sc (fun hc=>?_) (fun hc=>?_)<;>try exact hc.elim)|(refine lx ?_;refine sp (fun hc=>?_) (fun hc=>?_)<;>try exact hc.elim)|refine sx ?_ ?_|refine sy ?_ ?_|fail
 all_goals (try (refine ⟨.inr rfl,?_⟩;simp [Hands,Tryz.results101]))
 all_goals simp_all
theorem aHk [aB Tryz.prog] (p:bH) (kind:Int) (host:Str) (hs:bB p≤1099511627776):Ok Tryz.prog 73 [.agg (aS .view p),.int .i64 kind,.str host] (.bool (allows p kind host)):=by
 simp only [bB,szL] at hs
 have c1:=qU p.scripts host (by omega)
 have c2:=qU p.styles host (by omega)
 have c3:=qU p.images host (by omega)
 unfold allows
 refine ent Tryz.mix Tryz.func73 Tryz.ntmps73 ?_
 have W:=trivial
 repeat' first|refine st ?_|(refine nx ?_;first|refine se ?_|refine so ?_)|(refine cx ?_;refine sc (fun hc=>?_) (fun hc=>?_)<;>try exact hc.elim)|(refine lx ?_;refine sp (fun hc=>?_) (fun hc=>?_)<;>try exact hc.elim)|refine sx ?_ ?_|refine sy ?_ ?_|fail
 all_goals (try (refine ⟨.inr rfl,?_⟩;simp [Hands,Tryz.results73]))
 all_goals simp_all
def gT (p:bH) (r:dU):Int:=if sG r=false∨(r.kind≠1∧allows p r.kind r.to.host=false) then 2 else 1
theorem zG [aB Tryz.prog] (p:bH) (r:dU) (hs:bB p≤1099511627776) (hl:gJ r≤1099511627776):Ok Tryz.prog 68 [.agg (aS .view p),.agg (dI r)] (.int .i64 (gT p r)):=by
 have c1:=aC2 r hl
 have c2:=aG9 p r.kind r.to.host hs
 simp only [dI] at c1
 simp only [aS] at c2
 unfold gT
 refine ent Tryz.mix Tryz.func68 Tryz.ntmps68 ?_
 have W:=trivial
 repeat' first|refine st ?_|(refine nx ?_;first|refine se ?_|refine so ?_)|(refine cx ?_;refine sc (fun hc=>?_) (fun hc=>?_)<;>try exact hc.elim)|(refine lx ?_;refine sp (fun hc=>?_) (fun hc=>?_)<;>try exact hc.elim)|refine sx ?_ ?_|refine sy ?_ ?_|fail
 all_goals (try (refine ⟨.inr rfl,?_⟩;simp [Hands,Tryz.results68]))
 all_goals simp_all
theorem zL [aB Tryz.prog] (p:bH) (r:dU) (hs:bB p≤1099511627776) (hl:gJ r≤1099511627776):Ok Tryz.prog 42 [.agg (aS .view p),.agg (dI r)] (.int .i64 (gT p r)):=by
 have c1:=aCq r hl
 have c2:=aHk p r.kind r.to.host hs
 simp only [dI] at c1
 simp only [aS] at c2
 unfold gT
 refine ent Tryz.mix Tryz.func42 Tryz.ntmps42 ?_
 have W:=trivial
 repeat' first|refine st ?_|(refine nx ?_;first|refine se ?_|refine so ?_)|(refine cx ?_;refine sc (fun hc=>?_) (fun hc=>?_)<;>try exact hc.elim)|(refine lx ?_;refine sp (fun hc=>?_) (fun hc=>?_)<;>try exact hc.elim)|refine sx ?_ ?_|refine sy ?_ ?_|fail
 all_goals (try (refine ⟨.inr rfl,?_⟩;simp [Hands,Tryz.results42]))
 all_goals simp_all
end Go.Proofs.YtkidoegojckmiaaGreatDoor
