/-
  Proved here: the order of evaluation that the translated program follows.
  No condition beyond what each statement spells out.
-/
import Derived.Test.YtgkllebnnakojaaGreatDoorYFacts
import Derived.Test.YtgkllebnnakojaaGreatDoorF3
import Derived.Test.YtgkllebnnakojaaGreatDoorF6
import Derived.Test.YtgkllebnnakojaaGreatDoorF4
set_option linter.all false
set_option maxRecDepth 4000
set_option maxHeartbeats 4000000
namespace Go.Proofs.YtgkllebnnakojaaGreatDoor
open Go.Aw
theorem Tryz.mix:Tryz.prog.follows .mixedOrders=true:=by kernel_rfl
theorem mD [aB Tryz.prog] (a b c:Int):Ok Tryz.prog 115 [.int .i64 a,.int .i64 b,.int .i64 c] (.bool (decide (b≤a)&&decide (a≤c))):=by
 refine ent Tryz.mix Tryz.func115 Tryz.ntmps115 ?_
 have W:=trivial
 repeat' first|refine st ?_|(refine nx ?_;refine so ?_)|(refine cx ?_;refine sc (fun hc=>?_) (fun hc=>?_)<;>try exact hc.elim)|(refine lx ?_;refine sp (fun hc=>?_) (fun hc=>?_)<;>try exact hc.elim)|refine sx ?_ ?_|refine sy ?_ ?_|fail
 all_goals (try (refine ⟨.inr rfl,?_⟩;simp [Hands,Tryz.results115]))
 all_goals (first|(simp_all;done)|(simp_all;omega))
theorem pU [aB Tryz.prog] (a b c:Int):Ok Tryz.prog 128 [.int .i64 a,.int .i64 b,.int .i64 c] (.bool (decide (b≤a)&&decide (a≤c))):=by
 refine ent Tryz.mix Tryz.func128 Tryz.ntmps128 ?_
 have W:=trivial
 repeat' first|refine st ?_|(refine nx ?_;refine so ?_)|(refine cx ?_;refine sc (fun hc=>?_) (fun hc=>?_)<;>try exact hc.elim)|(refine lx ?_;refine sp (fun hc=>?_) (fun hc=>?_)<;>try exact hc.elim)|refine sx ?_ ?_|refine sy ?_ ?_|fail
 all_goals (try (refine ⟨.inr rfl,?_⟩;simp [Hands,Tryz.results128]))
 all_goals (first|(simp_all;done)|(simp_all;omega))
theorem aMn {s:Str} {k:Nat} (h:k < s.length) (hc:lowerB s[k]=false):dA s=false:=by
 have:s.all lowerB=false:=by
  rw [List.all_eq_false]
  exact ⟨s[k],List.getElem_mem h,by simp [hc]⟩
 simp [dA,this]
theorem aM2 {s:Str} {k:Nat} (h:k < s.length) (hc:(s[k].toNat:Int) < 97):dA s=false:=aMn h (by simp [lowerB];omega)
theorem aNe {s:Str} {k:Nat} (h:k < s.length) (hc:122 < (s[k].toNat:Int)):dA s=false:=aMn h (by simp [lowerB];omega)
theorem aGo {c:UInt8} (h:97≤(c.toNat:Int)) (hc:(c.toNat:Int)≤122):lowerB c=true:=by simp [lowerB];omega
theorem aKy {s:Str} (h:∀x∈s,lowerB x=true):dA s=(decide ((1:Int)≤s.length)&&decide ((s.length:Int)≤8)):=by
 have:s.all lowerB=true:=List.all_eq_true.2 h
 have h1:decide ((1:Int)≤s.length)=decide (1≤s.length):=by simp only [decide_eq_decide];omega
 have h2:decide ((s.length:Int)≤8)=decide (s.length≤8):=by simp only [decide_eq_decide];omega
 rw [dA,this,h1,h2,Bool.true_and]
theorem gY [aB Tryz.prog] (s:Str) (hl:s.length≤1099511627776):Ok Tryz.prog 133 [.str s] (.bool (dA s)):=by
 have h1:=mD s.length 1 8
 refine ent Tryz.mix Tryz.func133 Tryz.ntmps133 ?_
 have W:=trivial
 repeat' first|refine st ?_|(refine nx ?_;refine so ?_)|(refine cx ?_;refine sc (fun hc=>?_) (fun hc=>?_)<;>try exact hc.elim)|(refine lx ?_;refine sp (fun hc=>?_) (fun hc=>?_)<;>try exact hc.elim)|refine sx ?_ ?_|refine sy ?_ ?_|fail
 refine aT (ι:={k:Nat // k≤s.length∧∀x∈s.take k,lowerB x=true}) (fun t o i=>⟨bB t [(3,.int .i64 i.1)],o⟩)
  (fun i=>s.length - i.1) ⟨0,by simp,by simp⟩ (aI (by simp) (by simp)) ?_
 rintro ⟨k,hk,hi⟩ K1 hK1
 simp only [bB,List.set_cons_succ,List.set_cons_zero] at hK1⊢
 have hk1:IntKind.i64.wrap ((k:Int)+1)=((k+1:Nat):Int):=by rw [wrap64]<;>omega
 by_cases hlt:k < s.length
 ·have hg:=List.getElem?_eq_getElem hlt
  have W:=And.intro hk1 (And.intro hg hlt)
  repeat' first|refine st ?_|(refine nx ?_;refine so ?_)|(refine cx ?_;refine sc (fun hc=>?_) (fun hc=>?_)<;>try exact hc.elim)|(refine lx ?_;refine sp (fun hc=>?_) (fun hc=>?_)<;>try exact hc.elim)|refine sx ?_ ?_|refine sy ?_ ?_|fail
  ·skip
   all_goals (try (refine ⟨.inr rfl,?_⟩;simp [Hands,Tryz.results133]))
   rw [aM2 hlt (by assumption)]
  ·skip
   all_goals (try (refine ⟨.inr rfl,?_⟩;simp [Hands,Tryz.results133]))
   rw [aNe hlt (by assumption)]
  ·skip
   exact hK1 _ ⟨k+1,by omega,dD hlt hi (aGo (by assumption) (by assumption))⟩ (aI (by simp) (by simp)) (by simp only;omega)
 ·have W:=hk1
  repeat' first|refine st ?_|(refine nx ?_;refine so ?_)|(refine cx ?_;refine sc (fun hc=>?_) (fun hc=>?_)<;>try exact hc.elim)|(refine lx ?_;refine sp (fun hc=>?_) (fun hc=>?_)<;>try exact hc.elim)|refine sx ?_ ?_|refine sy ?_ ?_|fail
  all_goals (try (refine ⟨.inr rfl,?_⟩;simp [Hands,Tryz.results133]))
  rw [aKy (iL (by omega) hi)]
theorem tO [aB Tryz.prog] (s:Str) (hl:s.length≤1099511627776):Ok Tryz.prog 92 [.str s] (.bool (dA s)):=by
 have h1:=pU s.length 1 8
 refine ent Tryz.mix Tryz.func92 Tryz.ntmps92 ?_
 have W:=trivial
 repeat' first|refine st ?_|(refine nx ?_;refine so ?_)|(refine cx ?_;refine sc (fun hc=>?_) (fun hc=>?_)<;>try exact hc.elim)|(refine lx ?_;refine sp (fun hc=>?_) (fun hc=>?_)<;>try exact hc.elim)|refine sx ?_ ?_|refine sy ?_ ?_|fail
 refine aT (ι:={k:Nat // k≤s.length∧∀x∈s.take k,lowerB x=true}) (fun t o i=>⟨bB t [(3,.int .i64 i.1)],o⟩)
  (fun i=>s.length - i.1) ⟨0,by simp,by simp⟩ (aI (by simp) (by simp)) ?_
 rintro ⟨k,hk,hi⟩ K1 hK1
 simp only [bB,List.set_cons_succ,List.set_cons_zero] at hK1⊢
 have hk1:IntKind.i64.wrap ((k:Int)+1)=((k+1:Nat):Int):=by rw [wrap64]<;>omega
 by_cases hlt:k < s.length
 ·have hg:=List.getElem?_eq_getElem hlt
  have W:=And.intro hk1 (And.intro hg hlt)
  repeat' first|refine st ?_|(refine nx ?_;refine so ?_)|(refine cx ?_;refine sc (fun hc=>?_) (fun hc=>?_)<;>try exact hc.elim)|(refine lx ?_;refine sp (fun hc=>?_) (fun hc=>?_)<;>try exact hc.elim)|refine sx ?_ ?_|refine sy ?_ ?_|fail
  ·skip
   all_goals (try (refine ⟨.inr rfl,?_⟩;simp [Hands,Tryz.results92]))
   rw [aM2 hlt (by assumption)]
  ·skip
   all_goals (try (refine ⟨.inr rfl,?_⟩;simp [Hands,Tryz.results92]))
   rw [aNe hlt (by assumption)]
  ·skip
   exact hK1 _ ⟨k+1,by omega,dD hlt hi (aGo (by assumption) (by assumption))⟩ (aI (by simp) (by simp)) (by simp only;omega)
 ·have W:=hk1
  repeat' first|refine st ?_|(refine nx ?_;refine so ?_)|(refine cx ?_;refine sc (fun hc=>?_) (fun hc=>?_)<;>try exact hc.elim)|(refine lx ?_;refine sp (fun hc=>?_) (fun hc=>?_)<;>try exact hc.elim)|refine sx ?_ ?_|refine sy ?_ ?_|fail
  all_goals (try (refine ⟨.inr rfl,?_⟩;simp [Hands,Tryz.results92]))
  rw [aKy (iL (by omega) hi)]
theorem oN [aB Tryz.prog] (a:aC) (hl:aK a≤1099511627776):Ok Tryz.prog 104 [.agg (aD a)] (.bool (mR a)):=by
 simp only [aK] at hl
 have h1:=gY a.host (by omega)
 have h2:=gY a.path (by omega)
 refine ent Tryz.mix Tryz.func104 Tryz.ntmps104 ?_
 have W:=trivial
 repeat' first|refine st ?_|(refine nx ?_;refine so ?_)|(refine cx ?_;refine sc (fun hc=>?_) (fun hc=>?_)<;>try exact hc.elim)|(refine lx ?_;refine sp (fun hc=>?_) (fun hc=>?_)<;>try exact hc.elim)|refine sx ?_ ?_|refine sy ?_ ?_|fail
 all_goals (try (refine ⟨.inr rfl,?_⟩;simp [Hands,Tryz.results104]))
 all_goals simp_all [mR]
theorem zM [aB Tryz.prog] (a:aC) (hl:aK a≤1099511627776):Ok Tryz.prog 52 [.agg (aD a)] (.bool (mR a)):=by
 simp only [aK] at hl
 have h1:=tO a.host (by omega)
 have h2:=tO a.path (by omega)
 refine ent Tryz.mix Tryz.func52 Tryz.ntmps52 ?_
 have W:=trivial
 repeat' first|refine st ?_|(refine nx ?_;refine so ?_)|(refine cx ?_;refine sc (fun hc=>?_) (fun hc=>?_)<;>try exact hc.elim)|(refine lx ?_;refine sp (fun hc=>?_) (fun hc=>?_)<;>try exact hc.elim)|refine sx ?_ ?_|refine sy ?_ ?_|fail
 all_goals (try (refine ⟨.inr rfl,?_⟩;simp [Hands,Tryz.results52]))
 all_goals simp_all [mR]
def oK (c:UInt8):Bool:=(decide (97≤c.toNat)&&decide (c.toNat≤122)) || (decide (48≤c.toNat)&&decide (c.toNat≤57)) || decide (c.toNat=47)
def kR (s:Str):Bool:=s.all oK&&(decide (1≤s.length)&&decide (s.length≤20))
theorem aS4 {s:Str} {k:Nat} (h:k < s.length) (hc:oK s[k]=false):kR s=false:=by
 have:s.all oK=false:=by
  rw [List.all_eq_false]
  exact ⟨s[k],List.getElem_mem h,by simp [hc]⟩
 simp [kR,this]
theorem aQn {s:Str} (h:∀x∈s,oK x=true):kR s=(decide ((1:Int)≤s.length)&&decide ((s.length:Int)≤20)):=by
 have:s.all oK=true:=List.all_eq_true.2 h
 have h1:decide ((1:Int)≤s.length)=decide (1≤s.length):=by simp only [decide_eq_decide];omega
 have h2:decide ((s.length:Int)≤20)=decide (s.length≤20):=by simp only [decide_eq_decide];omega
 rw [kR,this,h1,h2,Bool.true_and]
theorem xL [aB Tryz.prog] (s : Str) (hl : s.length ≤ 1099511627776) : Ok Tryz.prog 138 [.str s] (.bool (kR s)) := by
  have h1 := mD s.length 1 20
  refine ent Tryz.mix Tryz.func138 Tryz.ntmps138 ?_
  have W := trivial
  repeat' first|refine st ?_|(refine nx ?_;first|refine se ?_|refine so ?_)|(refine cx ?_;refine sc (fun hc=>?_) (fun hc=>?_)<;>try exact hc.elim)|(refine lx ?_;refine sp (fun hc=>?_) (fun hc=>?_)<;>try exact hc.elim)|refine sx ?_ ?_|refine sy ?_ ?_|fail
  refine aT (ι := { k : Nat // k ≤ s.length ∧ ∀ x ∈ s.take k, oK x = true }) (fun t o i => ⟨bB t [(3, .int .i64 i.1)], o⟩)
    (fun i => s.length - i.1) ⟨0, by simp, by simp⟩ (aI (by simp) (by simp)) ?_
  rintro ⟨k, hk, hi⟩ K1 hK1
  simp only [bB, List.set_cons_succ, List.set_cons_zero] at hK1 ⊢
  have hk1 : IntKind.i64.wrap ((k : Int) + 1) = ((k + 1 : Nat) : Int) := by rw [wrap64] <;> omega
  by_cases hlt : k < s.length
  · have hg := List.getElem?_eq_getElem hlt
    have W := And.intro hk1 (And.intro hg hlt)
    repeat' first|refine st ?_|(refine nx ?_;first|refine se ?_|refine so ?_)|(refine cx ?_;refine sc (fun hc=>?_) (fun hc=>?_)<;>try exact hc.elim)|(refine lx ?_;refine sp (fun hc=>?_) (fun hc=>?_)<;>try exact hc.elim)|refine sx ?_ ?_|refine sy ?_ ?_|fail
    all_goals first
      | exact hK1 _ ⟨k + 1, by omega, dD hlt hi (by simp [oK]; omega)⟩ (aI (by simp) (by simp)) (by simp only; omega)
      | (rw [aS4 hlt (by simp [oK]; omega)]
         all_goals (try (refine ⟨.inr rfl, ?_⟩; simp [Hands, Tryz.results138]))
         done)
  · have W := hk1
    repeat' first|refine st ?_|(refine nx ?_;first|refine se ?_|refine so ?_)|(refine cx ?_;refine sc (fun hc=>?_) (fun hc=>?_)<;>try exact hc.elim)|(refine lx ?_;refine sp (fun hc=>?_) (fun hc=>?_)<;>try exact hc.elim)|refine sx ?_ ?_|refine sy ?_ ?_|fail
    all_goals (try (refine ⟨.inr rfl, ?_⟩; simp [Hands, Tryz.results138]))
    rw [aQn (iL (by omega) hi)]
def aAl (r:gG):Bool:=(decide (1≤r.kind)&&decide (r.kind≤5))&&mR r.to&&dA r.frm&&(r.digest == [] || kR r.digest)
theorem aDh [aB Tryz.prog] (r:gG) (hl:lZ r≤1099511627776):Ok Tryz.prog 140 [.agg (iM r)] (.bool (aAl r)):=by
 simp only [lZ] at hl
 have c1:=mD r.kind 1 5
 have c2:=oN r.to (by omega)
 have c3:=gY r.frm (by omega)
 have c4:=xL r.digest (by omega)
 simp only [aD] at c2
 unfold aAl
 generalize (decide (1≤r.kind)&&decide (r.kind≤5))=b1 at *
 generalize mR r.to=b2 at *
 generalize dA r.frm=b3 at *
 generalize kR r.digest=b4 at *
 refine ent Tryz.mix Tryz.func140 Tryz.ntmps140 ?_
 have W:=trivial
 repeat' first|refine st ?_|(refine nx ?_;first|refine se ?_|refine so ?_)|(refine cx ?_;refine sc (fun hc=>?_) (fun hc=>?_)<;>try exact hc.elim)|(refine lx ?_;refine sp (fun hc=>?_) (fun hc=>?_)<;>try exact hc.elim)|refine sx ?_ ?_|refine sy ?_ ?_|fail
 all_goals (try (refine ⟨.inr rfl,?_⟩;simp [Hands,Tryz.results140]))
 all_goals simp_all
def allows (p:dE) (kind:Int) (host:Str):Bool:=
 if p.isSet=false then true else if kind=2∨kind=5 then p.scripts.any (fun x=>x == host) else if kind=3 then p.styles.any (fun x=>x == host) else if kind=4 then p.images.any (fun x=>x == host) else false
theorem aV1 {l:List Str} {k:Nat} (h:k < l.length) {n:Str} (hc:l[k]=n):l.any (fun x=>x == n)=true:=
 List.any_eq_true.2 ⟨_,List.getElem_mem h,by simp [hc]⟩
theorem yI [aB Tryz.prog] (l:List Str) (n:Str) (hl:l.length≤1099511627776):Ok Tryz.prog 152 [.sl .view 1 (l.map bZ),.str n] (.bool (l.any (fun x=>x == n))):=by
 refine ent Tryz.mix Tryz.func152 Tryz.ntmps152 ?_
 have W:=trivial
 repeat' first|refine st ?_|(refine nx ?_;first|refine se ?_|refine so ?_)|(refine cx ?_;refine sc (fun hc=>?_) (fun hc=>?_)<;>try exact hc.elim)|(refine lx ?_;refine sp (fun hc=>?_) (fun hc=>?_)<;>try exact hc.elim)|refine sx ?_ ?_|refine sy ?_ ?_|fail
 refine aT (ι:={k:Nat // k≤l.length∧∀x∈l.take k,(x == n)=false}) (fun t o i=>⟨bB t [(5,.int .i64 i.1)],o⟩)
  (fun i=>l.length - i.1) ⟨0,by simp,by simp⟩ (aI (by simp) (by simp)) ?_
 rintro ⟨k,hk,hi⟩ K1 hK1
 simp only [bB,List.set_cons_succ,List.set_cons_zero] at hK1⊢
 have hk1:IntKind.i64.wrap ((k:Int)+1)=((k+1:Nat):Int):=by rw [wrap64]<;>omega
 by_cases hlt:k < l.length
 ·have hg:=List.getElem?_eq_getElem hlt
  have W:=And.intro hk1 (And.intro hg hlt)
  repeat' first|refine st ?_|(refine nx ?_;first|refine se ?_|refine so ?_)|(refine cx ?_;refine sc (fun hc=>?_) (fun hc=>?_)<;>try exact hc.elim)|(refine lx ?_;refine sp (fun hc=>?_) (fun hc=>?_)<;>try exact hc.elim)|refine sx ?_ ?_|refine sy ?_ ?_|fail
  ·rw [aV1 hlt hc]
   all_goals (try (refine ⟨.inr rfl,?_⟩;simp [Hands,Tryz.results152]))
  ·exact hK1 _ ⟨k+1,by omega,dD hlt hi (by simpa using hc)⟩ (aI (by simp) (by simp)) (by simp only;omega)
 ·have W:=hk1
  repeat' first|refine st ?_|(refine nx ?_;first|refine se ?_|refine so ?_)|(refine cx ?_;refine sc (fun hc=>?_) (fun hc=>?_)<;>try exact hc.elim)|(refine lx ?_;refine sp (fun hc=>?_) (fun hc=>?_)<;>try exact hc.elim)|refine sx ?_ ?_|refine sy ?_ ?_|fail
  all_goals (try (refine ⟨.inr rfl,?_⟩;simp [Hands,Tryz.results152]))
  have:=iL (by omega) hi
  simpa using this
theorem aIc [aB Tryz.prog] (p:dE) (kind:Int) (host:Str) (hs:dK p≤1099511627776):Ok Tryz.prog 141 [.agg (cB .view p),.int .i64 kind,.str host] (.bool (allows p kind host)):=by
 simp only [dK,szL] at hs
 have c1:=yI p.scripts host (by omega)
 have c2:=yI p.styles host (by omega)
 have c3:=yI p.images host (by omega)
 unfold allows
 refine ent Tryz.mix Tryz.func141 Tryz.ntmps141 ?_
 have W:=trivial
 repeat' first|refine st ?_|(refine nx ?_;first|refine se ?_|refine so ?_)|(refine cx ?_;refine sc (fun hc=>?_) (fun hc=>?_)<;>try exact hc.elim)|(refine lx ?_;refine sp (fun hc=>?_) (fun hc=>?_)<;>try exact hc.elim)|refine sx ?_ ?_|refine sy ?_ ?_|fail
 all_goals (try (refine ⟨.inr rfl,?_⟩;simp [Hands,Tryz.results141]))
 all_goals simp_all
def kJ (p:dE) (r:gG):Int:=if aAl r=false∨(r.kind≠1∧allows p r.kind r.to.host=false) then 2 else 1
theorem qZ [aB Tryz.prog] (p:dE) (r:gG) (hs:dK p≤1099511627776) (hl:lZ r≤1099511627776):Ok Tryz.prog 114 [.agg (cB .view p),.agg (iM r)] (.int .i64 (kJ p r)):=by
 have c1:=aDh r hl
 have c2:=aIc p r.kind r.to.host hs
 simp only [iM] at c1
 simp only [cB] at c2
 unfold kJ
 refine ent Tryz.mix Tryz.func114 Tryz.ntmps114 ?_
 have W:=trivial
 repeat' first|refine st ?_|(refine nx ?_;first|refine se ?_|refine so ?_)|(refine cx ?_;refine sc (fun hc=>?_) (fun hc=>?_)<;>try exact hc.elim)|(refine lx ?_;refine sp (fun hc=>?_) (fun hc=>?_)<;>try exact hc.elim)|refine sx ?_ ?_|refine sy ?_ ?_|fail
 all_goals (try (refine ⟨.inr rfl,?_⟩;simp [Hands,Tryz.results114]))
 all_goals simp_all
end Go.Proofs.YtgkllebnnakojaaGreatDoor
