/-
  Proved here: steps towards the statement of this claim, text Q1.
  No condition beyond what each statement spells out.
-/
import Derived.Test.YtejigeoigebhcaaGreatAQU1
set_option linter.all false
set_option maxRecDepth 4000
set_option maxHeartbeats 4000000
namespace Go.Proofs.YtejigeoigebhcaaGreat
open Go.Aw
def jJ (c:UInt8):Bool:=(decide (97≤c.toNat)&&decide (c.toNat≤122)) || (decide (48≤c.toNat)&&decide (c.toNat≤57)) || decide (c.toNat=47)
def dJ (s:Str):Bool:=s.all jJ&&(decide (1≤s.length)&&decide (s.length≤20))
theorem aG3 {s:Str} {k:Nat} (h:k < s.length) (hc:jJ s[k]=false):dJ s=false:=by
 have:s.all jJ=false:=by
  rw [List.all_eq_false]
  exact ⟨s[k],List.getElem_mem h,by simp [hc]⟩
 simp [dJ,this]
theorem aDm {s:Str} (h:∀x∈s,jJ x=true):dJ s=(decide ((1:Int)≤s.length)&&decide ((s.length:Int)≤20)):=by
 have:s.all jJ=true:=List.all_eq_true.2 h
 have h1:decide ((1:Int)≤s.length)=decide (1≤s.length):=by simp only [decide_eq_decide];omega
 have h2:decide ((s.length:Int)≤20)=decide (s.length≤20):=by simp only [decide_eq_decide];omega
 rw [dJ,this,h1,h2,Bool.true_and]
theorem mI [aB Tryz.prog] (s : Str) (hl : s.length ≤ 1099511627776) : Ok Tryz.prog 89 [.str s] (.bool (dJ s)) := by
  have h1 := lM s.length 1 20
  refine ent Tryz.mix Tryz.func89 Tryz.ntmps89 ?_
  have W := trivial
  repeat' first|refine st ?_|(refine nx ?_;first|refine se ?_|refine so ?_)|(refine cx ?_;refine sc (fun hc=>?_) (fun hc=>?_)<;>try exact hc.elim)|(refine lx ?_;refine sp (fun hc=>?_) (fun hc=>?_)<;>try exact hc.elim)|refine sx ?_ ?_|refine sy ?_ ?_|fail
  refine aQ (ι := { k : Nat // k ≤ s.length ∧ ∀ x ∈ s.take k, jJ x = true }) (fun t o i => ⟨bB t [(3, .int .i64 i.1)], o⟩)
    (fun i => s.length - i.1) ⟨0, by simp, by simp⟩ (aY (by simp) (by simp)) ?_
  rintro ⟨k, hk, hi⟩ K1 hK1
  simp only [bB, List.set_cons_succ, List.set_cons_zero] at hK1 ⊢
  have hk1 : IntKind.i64.wrap ((k : Int) + 1) = ((k + 1 : Nat) : Int) := by rw [wrap64] <;> omega
  by_cases hlt : k < s.length
  · have hg := List.getElem?_eq_getElem hlt
    have W := And.intro hk1 (And.intro hg hlt)
    repeat' first|refine st ?_|(refine nx ?_;first|refine se ?_|refine so ?_)|(refine cx ?_;refine sc (fun hc=>?_) (fun hc=>?_)<;>try exact hc.elim)|(refine lx ?_;refine sp (fun hc=>?_) (fun hc=>?_)<;>try exact hc.elim)|refine sx ?_ ?_|refine sy ?_ ?_|fail
    all_goals first
      | exact hK1 _ ⟨k + 1, by omega, dZ hlt hi (by simp [jJ]; omega)⟩ (aY (by simp) (by simp)) (by simp only; omega)
      | (rw [aG3 hlt (by simp [jJ]; omega)]
         all_goals (try (refine ⟨.inr rfl, ?_⟩; simp [Hands, Tryz.results89]))
         done)
  · have W := hk1
    repeat' first|refine st ?_|(refine nx ?_;first|refine se ?_|refine so ?_)|(refine cx ?_;refine sc (fun hc=>?_) (fun hc=>?_)<;>try exact hc.elim)|(refine lx ?_;refine sp (fun hc=>?_) (fun hc=>?_)<;>try exact hc.elim)|refine sx ?_ ?_|refine sy ?_ ?_|fail
    all_goals (try (refine ⟨.inr rfl, ?_⟩; simp [Hands, Tryz.results89]))
    rw [aDm (jA (by omega) hi)]
theorem aCv [aB Tryz.prog] (s : Str) (hl : s.length ≤ 1099511627776) : Ok Tryz.prog 69 [.str s] (.bool (dJ s)) := by
  have h1 := xZ s.length 1 20
  refine ent Tryz.mix Tryz.func69 Tryz.ntmps69 ?_
  have W := trivial
  repeat' first|refine st ?_|(refine nx ?_;first|refine se ?_|refine so ?_)|(refine cx ?_;refine sc (fun hc=>?_) (fun hc=>?_)<;>try exact hc.elim)|(refine lx ?_;refine sp (fun hc=>?_) (fun hc=>?_)<;>try exact hc.elim)|refine sx ?_ ?_|refine sy ?_ ?_|fail
  refine aQ (ι := { k : Nat // k ≤ s.length ∧ ∀ x ∈ s.take k, jJ x = true }) (fun t o i => ⟨bB t [(3, .int .i64 i.1)], o⟩)
    (fun i => s.length - i.1) ⟨0, by simp, by simp⟩ (aY (by simp) (by simp)) ?_
  rintro ⟨k, hk, hi⟩ K1 hK1
  simp only [bB, List.set_cons_succ, List.set_cons_zero] at hK1 ⊢
  have hk1 : IntKind.i64.wrap ((k : Int) + 1) = ((k + 1 : Nat) : Int) := by rw [wrap64] <;> omega
  by_cases hlt : k < s.length
  · have hg := List.getElem?_eq_getElem hlt
    have W := And.intro hk1 (And.intro hg hlt)
    repeat' first|refine st ?_|(refine nx ?_;first|refine se ?_|refine so ?_)|(refine cx ?_;refine sc (fun hc=>?_) (fun hc=>?_)<;>try exact hc.elim)|(refine lx ?_;refine sp (fun hc=>?_) (fun hc=>?_)<;>try exact hc.elim)|refine sx ?_ ?_|refine sy ?_ ?_|fail
    all_goals first
      | exact hK1 _ ⟨k + 1, by omega, dZ hlt hi (by simp [jJ]; omega)⟩ (aY (by simp) (by simp)) (by simp only; omega)
      | (rw [aG3 hlt (by simp [jJ]; omega)]
         all_goals (try (refine ⟨.inr rfl, ?_⟩; simp [Hands, Tryz.results69]))
         done)
  · have W := hk1
    repeat' first|refine st ?_|(refine nx ?_;first|refine se ?_|refine so ?_)|(refine cx ?_;refine sc (fun hc=>?_) (fun hc=>?_)<;>try exact hc.elim)|(refine lx ?_;refine sp (fun hc=>?_) (fun hc=>?_)<;>try exact hc.elim)|refine sx ?_ ?_|refine sy ?_ ?_|fail
    all_goals (try (refine ⟨.inr rfl, ?_⟩; simp [Hands, Tryz.results69]))
    rw [aDm (jA (by omega) hi)]
def qK (r:fC):Bool:=(decide (1≤r.kind)&&decide (r.kind≤5))&&lC r.to&&bY r.frm&&(r.digest == [] || dJ r.digest)
theorem aAs [aB Tryz.prog] (r:fC) (hl:fF r≤1099511627776):Ok Tryz.prog 60 [.agg (dH r)] (.bool (qK r)):=by
 simp only [fF] at hl
 have c1:=lM r.kind 1 5
 have c2:=mW r.to (by omega)
 have c3:=gQ r.frm (by omega)
 have c4:=mI r.digest (by omega)
 simp only [aO] at c2
 unfold qK
 generalize (decide (1≤r.kind)&&decide (r.kind≤5))=b1 at *
 generalize lC r.to=b2 at *
 generalize bY r.frm=b3 at *
 generalize dJ r.digest=b4 at *
 refine ent Tryz.mix Tryz.func60 Tryz.ntmps60 ?_
 have W:=trivial
 repeat' first|refine st ?_|(refine nx ?_;first|refine se ?_|refine so ?_)|(refine cx ?_;refine sc (fun hc=>?_) (fun hc=>?_)<;>try exact hc.elim)|(refine lx ?_;refine sp (fun hc=>?_) (fun hc=>?_)<;>try exact hc.elim)|refine sx ?_ ?_|refine sy ?_ ?_|fail
 all_goals (try (refine ⟨.inr rfl,?_⟩;simp [Hands,Tryz.results60]))
 all_goals simp_all
theorem aA2 [aB Tryz.prog] (r:fC) (hl:fF r≤1099511627776):Ok Tryz.prog 40 [.agg (dH r)] (.bool (qK r)):=by
 simp only [fF] at hl
 have c1:=xZ r.kind 1 5
 have c2:=qP r.to (by omega)
 have c3:=qQ r.frm (by omega)
 have c4:=aCv r.digest (by omega)
 simp only [aO] at c2
 unfold qK
 generalize (decide (1≤r.kind)&&decide (r.kind≤5))=b1 at *
 generalize lC r.to=b2 at *
 generalize bY r.frm=b3 at *
 generalize dJ r.digest=b4 at *
 refine ent Tryz.mix Tryz.func40 Tryz.ntmps40 ?_
 have W:=trivial
 repeat' first|refine st ?_|(refine nx ?_;first|refine se ?_|refine so ?_)|(refine cx ?_;refine sc (fun hc=>?_) (fun hc=>?_)<;>try exact hc.elim)|(refine lx ?_;refine sp (fun hc=>?_) (fun hc=>?_)<;>try exact hc.elim)|refine sx ?_ ?_|refine sy ?_ ?_|fail
 all_goals (try (refine ⟨.inr rfl,?_⟩;simp [Hands,Tryz.results40]))
 all_goals simp_all
def allows (p:bX) (kind:Int) (host:Str):Bool:=
 if p.isSet=false then true else if kind=2∨kind=5 then p.scripts.any (fun x=>x == host) else if kind=3 then p.styles.any (fun x=>x == host) else if kind=4 then p.images.any (fun x=>x == host) else false
theorem aQf {l:List Str} {k:Nat} (h:k < l.length) {n:Str} (hc:l[k]=n):l.any (fun x=>x == n)=true:=
 List.any_eq_true.2 ⟨_,List.getElem_mem h,by simp [hc]⟩
theorem vU [aB Tryz.prog] (l:List Str) (n:Str) (hl:l.length≤1099511627776):Ok Tryz.prog 90 [.sl .view 1 (l.map bS),.str n] (.bool (l.any (fun x=>x == n))):=by
 refine ent Tryz.mix Tryz.func90 Tryz.ntmps90 ?_
 have W:=trivial
 repeat' first|refine st ?_|(refine nx ?_;first|refine se ?_|refine so ?_)|(refine cx ?_;refine sc (fun hc=>?_) (fun hc=>?_)<;>try exact hc.elim)|(refine lx ?_;refine sp (fun hc=>?_) (fun hc=>?_)<;>try exact hc.elim)|refine sx ?_ ?_|refine sy ?_ ?_|fail
 refine aQ (ι:={k:Nat // k≤l.length∧∀x∈l.take k,(x == n)=false}) (fun t o i=>⟨bB t [(5,.int .i64 i.1)],o⟩)
  (fun i=>l.length - i.1) ⟨0,by simp,by simp⟩ (aY (by simp) (by simp)) ?_
 rintro ⟨k,hk,hi⟩ K1 hK1
 simp only [bB,List.set_cons_succ,List.set_cons_zero] at hK1⊢
 have hk1:IntKind.i64.wrap ((k:Int)+1)=((k+1:Nat):Int):=by rw [wrap64]<;>omega
 by_cases hlt:k < l.length
 ·have hg:=List.getElem?_eq_getElem hlt
  have W:=And.intro hk1 (And.intro hg hlt)
  repeat' first|refine st ?_|(refine nx ?_;first|refine se ?_|refine so ?_)|(refine cx ?_;refine sc (fun hc=>?_) (fun hc=>?_)<;>try exact hc.elim)|(refine lx ?_;refine sp (fun hc=>?_) (fun hc=>?_)<;>try exact hc.elim)|refine sx ?_ ?_|refine sy ?_ ?_|fail
  ·rw [aQf hlt hc]
   all_goals (try (refine ⟨.inr rfl,?_⟩;simp [Hands,Tryz.results90]))
  ·exact hK1 _ ⟨k+1,by omega,dZ hlt hi (by simpa using hc)⟩ (aY (by simp) (by simp)) (by simp only;omega)
 ·have W:=hk1
  repeat' first|refine st ?_|(refine nx ?_;first|refine se ?_|refine so ?_)|(refine cx ?_;refine sc (fun hc=>?_) (fun hc=>?_)<;>try exact hc.elim)|(refine lx ?_;refine sp (fun hc=>?_) (fun hc=>?_)<;>try exact hc.elim)|refine sx ?_ ?_|refine sy ?_ ?_|fail
  all_goals (try (refine ⟨.inr rfl,?_⟩;simp [Hands,Tryz.results90]))
  have:=jA (by omega) hi
  simpa using this
theorem aHj [aB Tryz.prog] (l:List Str) (n:Str) (hl:l.length≤1099511627776):Ok Tryz.prog 91 [.sl .view 1 (l.map bS),.str n] (.int .i64 (aAq (fun x=>x == n) l)):=by
 refine ent Tryz.mix Tryz.func91 Tryz.ntmps91 ?_
 have W:=trivial
 repeat' first|refine st ?_|(refine nx ?_;first|refine se ?_|refine so ?_)|(refine cx ?_;refine sc (fun hc=>?_) (fun hc=>?_)<;>try exact hc.elim)|(refine lx ?_;refine sp (fun hc=>?_) (fun hc=>?_)<;>try exact hc.elim)|refine sx ?_ ?_|refine sy ?_ ?_|fail
 refine aQ (ι:={k:Nat // k≤l.length∧∀x∈l.take k,(x == n)=false}) (fun t o i=>⟨bB t [(8,.int .i64 i.1),(5,.undef)],o⟩)
  (fun i=>l.length - i.1) ⟨0,by simp,by simp⟩ (aY (by simp) (by simp)) ?_
 rintro ⟨k,hk,hi⟩ K1 hK1
 simp only [bB,List.set_cons_succ,List.set_cons_zero] at hK1⊢
 have hk1:IntKind.i64.wrap ((k:Int)+1)=((k+1:Nat):Int):=by rw [wrap64]<;>omega
 by_cases hlt:k < l.length
 ·have hg:=List.getElem?_eq_getElem hlt
  have W:=And.intro hk1 (And.intro hg hlt)
  repeat' first|refine st ?_|(refine nx ?_;first|refine se ?_|refine so ?_)|(refine cx ?_;refine sc (fun hc=>?_) (fun hc=>?_)<;>try exact hc.elim)|(refine lx ?_;refine sp (fun hc=>?_) (fun hc=>?_)<;>try exact hc.elim)|refine sx ?_ ?_|refine sy ?_ ?_|fail
  ·all_goals (try (refine ⟨.inr rfl,?_⟩;simp [Hands,Tryz.results91]))
   rw [aOk hlt (by simp [hc]) hi]
  ·exact hK1 _ ⟨k+1,by omega,dZ hlt hi (by simp only [beq_eq_false_iff_ne];intro h;exact hc h.symm)⟩ (aY (by simp) (by simp)) (by simp only;omega)
 ·have W:=hk1
  repeat' first|refine st ?_|(refine nx ?_;first|refine se ?_|refine so ?_)|(refine cx ?_;refine sc (fun hc=>?_) (fun hc=>?_)<;>try exact hc.elim)|(refine lx ?_;refine sp (fun hc=>?_) (fun hc=>?_)<;>try exact hc.elim)|refine sx ?_ ?_|refine sy ?_ ?_|fail
  all_goals (try (refine ⟨.inr rfl,?_⟩;simp [Hands,Tryz.results91]))
  rw [aKe (jA (by omega) hi)]
theorem pG [aB Tryz.prog] (l:List Str) (n:Str) (hl:l.length≤1099511627776):Ok Tryz.prog 70 [.sl .view 1 (l.map bS),.str n] (.bool (l.any (fun x=>x == n))):=by
 have c1:=aHj l n hl
 refine ent Tryz.mix Tryz.func70 Tryz.ntmps70 ?_
 have W:=trivial
 repeat' first|refine st ?_|(refine nx ?_;first|refine se ?_|refine so ?_)|(refine cx ?_;refine sc (fun hc=>?_) (fun hc=>?_)<;>try exact hc.elim)|(refine lx ?_;refine sp (fun hc=>?_) (fun hc=>?_)<;>try exact hc.elim)|refine sx ?_ ?_|refine sy ?_ ?_|fail
 all_goals (try (refine ⟨.inr rfl,?_⟩;simp [Hands,Tryz.results70]))
 exact aHe _ _
theorem aEd [aB Tryz.prog] (p:bX) (kind:Int) (host:Str) (hs:bE p≤1099511627776):Ok Tryz.prog 61 [.agg (bD .view p),.int .i64 kind,.str host] (.bool (allows p kind host)):=by
 simp only [bE,szL] at hs
 have c1:=vU p.scripts host (by omega)
 have c2:=vU p.styles host (by omega)
 have c3:=vU p.images host (by omega)
 unfold allows
 refine ent Tryz.mix Tryz.func61 Tryz.ntmps61 ?_
 have W:=trivial
 repeat' first|refine st ?_|(refine nx ?_;first|refine se ?_|refine so ?_)|(refine cx ?_;refine sc (fun hc=>?_) (fun hc=>?_)<;>try exact hc.elim)|(refine lx ?_;refine sp (fun hc=>?_) (fun hc=>?_)<;>try exact hc.elim)|refine sx ?_ ?_|refine sy ?_ ?_|fail
 all_goals (try (refine ⟨.inr rfl,?_⟩;simp [Hands,Tryz.results61]))
 all_goals simp_all
theorem aEo [aB Tryz.prog] (p:bX) (kind:Int) (host:Str) (hs:bE p≤1099511627776):Ok Tryz.prog 41 [.agg (bD .view p),.int .i64 kind,.str host] (.bool (allows p kind host)):=by
 simp only [bE,szL] at hs
 have c1:=pG p.scripts host (by omega)
 have c2:=pG p.styles host (by omega)
 have c3:=pG p.images host (by omega)
 unfold allows
 refine ent Tryz.mix Tryz.func41 Tryz.ntmps41 ?_
 have W:=trivial
 repeat' first|refine st ?_|(refine nx ?_;first|refine se ?_|refine so ?_)|(refine cx ?_;refine sc (fun hc=>?_) (fun hc=>?_)<;>try exact hc.elim)|(refine lx ?_;refine sp (fun hc=>?_) (fun hc=>?_)<;>try exact hc.elim)|refine sx ?_ ?_|refine sy ?_ ?_|fail
 all_goals (try (refine ⟨.inr rfl,?_⟩;simp [Hands,Tryz.results41]))
 all_goals simp_all
def bR (p:bX) (r:fC):Int:=if qK r=false∨(r.kind≠1∧allows p r.kind r.to.host=false) then 2 else 1
theorem oM [aB Tryz.prog] (p:bX) (r:fC) (hs:bE p≤1099511627776) (hl:fF r≤1099511627776):Ok Tryz.prog 30 [.agg (bD .view p),.agg (dH r)] (.int .i64 (bR p r)):=by
 have c1:=aAs r hl
 have c2:=aEd p r.kind r.to.host hs
 simp only [dH] at c1
 simp only [bD] at c2
 unfold bR
 refine ent Tryz.mix Tryz.func30 Tryz.ntmps30 ?_
 have W:=trivial
 repeat' first|refine st ?_|(refine nx ?_;first|refine se ?_|refine so ?_)|(refine cx ?_;refine sc (fun hc=>?_) (fun hc=>?_)<;>try exact hc.elim)|(refine lx ?_;refine sp (fun hc=>?_) (fun hc=>?_)<;>try exact hc.elim)|refine sx ?_ ?_|refine sy ?_ ?_|fail
 all_goals (try (refine ⟨.inr rfl,?_⟩;simp [Hands,Tryz.results30]))
 all_goals simp_all
theorem jF [aB Tryz.prog] (p:bX) (r:fC) (hs:bE p≤1099511627776) (hl:fF r≤1099511627776):Ok Tryz.prog 9 [.agg (bD .view p),.agg (dH r)] (.int .i64 (bR p r)):=by
 have c1:=aA2 r hl
 have c2:=aEo p r.kind r.to.host hs
 simp only [dH] at c1
 simp only [bD] at c2
 unfold bR
 refine ent Tryz.mix Tryz.func9 Tryz.ntmps9 ?_
 have W:=trivial
 repeat' first|refine st ?_|(refine nx ?_;first|refine se ?_|refine so ?_)|(refine cx ?_;refine sc (fun hc=>?_) (fun hc=>?_)<;>try exact hc.elim)|(refine lx ?_;refine sp (fun hc=>?_) (fun hc=>?_)<;>try exact hc.elim)|refine sx ?_ ?_|refine sy ?_ ?_|fail
 all_goals (try (refine ⟨.inr rfl,?_⟩;simp [Hands,Tryz.results9]))
 all_goals simp_all
end Go.Proofs.YtejigeoigebhcaaGreat
