/-
  Proved here: steps towards the statement of this claim, text QJ5.
  No condition beyond what each statement spells out.
-/
import Derived.Test.YtejigeoigebhcaaGreatAQDR9
import Derived.Test.YtejigeoigebhcaaGreatAJ4
import Derived.Test.YtejigeoigebhcaaGreatAQP5
import Derived.Test.YtejigeoigebhcaaGreatAY1
import Derived.Test.YtejigeoigebhcaaGreatAF6
set_option linter.all false
set_option maxRecDepth 4000
set_option maxHeartbeats 4000000
namespace Go.Proofs.YtejigeoigebhcaaGreat
open Go.Aw
def jN (x:fE):Bool:=
 (decide (100≤x.status)&&decide (x.status≤599))&&(decide (1≤x.kind)&&decide (x.kind≤5))&&decide (x.body.length≤400)&&(decide (0≤x.age)&&decide (x.age≤1000))&&(dU x.policy).2
theorem zM [aB Tryz.prog] (x:fE) (hl:iR x≤1073741824):Ok Tryz.prog 105 [.agg (jK x)] (.bool (jN x)):=by
 simp only [iR] at hl
 have c0:Ok Tryz.prog 104 [.str x.policy] (.tup [.agg (bD .view (dU x.policy).1),.bool (dU x.policy).2]):=qM x.policy (by omega)
 have c1:=lM x.status 100 599
 have c2:=lM x.kind 1 5
 have c3:=lM x.age 0 1000
 have e:decide (x.body.length≤400)=decide ((x.body.length:Int)≤400):=by simp only [decide_eq_decide];omega
 unfold jN
 rw [e]
 generalize (decide (100≤x.status)&&decide (x.status≤599))=b1 at *
 generalize (decide (1≤x.kind)&&decide (x.kind≤5))=b2 at *
 generalize (decide (0≤x.age)&&decide (x.age≤1000))=b3 at *
 generalize (dU x.policy).1=q at *
 generalize (dU x.policy).2=b4 at *
 simp only [bD] at c0
 refine ent Tryz.mix Tryz.func105 Tryz.ntmps105 ?_
 have W:=trivial
 repeat' first|refine st ?_|(refine nx ?_;first|refine se ?_|refine so ?_)|(refine cx ?_;refine sc (fun hc=>?_) (fun hc=>?_)<;>try exact hc.elim)|(refine lx ?_;refine sp (fun hc=>?_) (fun hc=>?_)<;>try exact hc.elim)|refine sx ?_ ?_|refine sy ?_ ?_|fail
 all_goals (try (refine ⟨.inr rfl,?_⟩;simp [Hands,Tryz.results105]))
 all_goals first|(simp_all;done)|(simp_all;omega)|(simp_all;intros;omega)
def lZ:fB:=⟨[⟨[112,97,103,101],[], -1,[]⟩],[0]⟩
theorem zJ [aB Tryz.prog]:Ok Tryz.prog 106 [] (.agg (cO .own lZ)):=by
 refine ent Tryz.mix Tryz.func106 Tryz.ntmps106 ?_
 have W:=trivial
 repeat' first|refine st ?_|(refine nx ?_;first|refine se ?_|refine so ?_)|(refine cx ?_;refine sc (fun hc=>?_) (fun hc=>?_)<;>try exact hc.elim)|(refine lx ?_;refine sp (fun hc=>?_) (fun hc=>?_)<;>try exact hc.elim)|refine sx ?_ ?_|refine sy ?_ ?_|fail
 all_goals (try (refine ⟨.inr rfl,?_⟩;simp [Hands,Tryz.results106,lZ]))
def qG:aS:=⟨⟨[],[]⟩,kR,⟨[]⟩,[],false,⟨[],[]⟩,[],[],[],0,0,0,0,[],[],false⟩
def aBa (a:aP) (p:bX):aS:=⟨a,p,⟨[]⟩,[],false,lZ,[],[],[],0,0,0,0,[],[],false⟩
def mE (a:aP) (x:fE):aS×Bool:=
 if lC a=true∧jN x=true∧x.status=200∧x.kind=1 then (aBa a (dU x.policy).1,true) else (qG,false)
theorem aI2 (a:aP) (x:fE):mE a x=if (!lC a || !jN x || !decide (x.status=200) || !decide (x.kind=1))=true then (qG,false) else (aBa a (dU x.policy).1,true):=by
 unfold mE
 cases lC a<;>cases jN x<;>by_cases h1:x.status=200<;>by_cases h2:x.kind=1<;>simp [h1,h2]
theorem aCd [aB Tryz.prog] (a : aP) (x : fE) (ha : bG a ≤ 1073741824) (hl : iR x ≤ 1073741824) : Ok Tryz.prog 95 [.agg (aO a), .agg (jK x)] (.tup [.agg (aR .view (mE a x).1), .bool (mE a x).2]) := by
  have c1 := mW a (by omega)
  simp only [bG] at ha
  have c2 := zM x hl
  have c4 := zJ
  have hb : jN x = true → (dU x.policy).2 = true := by
    intro h
    simp only [jN, Bool.and_eq_true] at h
    exact h.2
  simp only [iR] at hl
  have c3 : Ok Tryz.prog 104 [.str x.policy] (.tup [.agg (bD .view (dU x.policy).1), .bool (dU x.policy).2]) := qM x.policy (by omega)
  simp only [aO] at c1
  simp only [jK] at c2
  simp only [bD] at c3
  simp only [cO, lZ, List.map_cons, List.map_nil, dC, sW] at c4
  rw [aI2]
  generalize lC a = b1 at *
  generalize jN x = b2 at *
  generalize (dU x.policy).1 = q at *
  generalize (dU x.policy).2 = b4 at *
  have bad : (b1 = false ∨ b2 = false ∨ x.status ≠ 200 ∨ x.kind ≠ 1) → Ok Tryz.prog 95 [.agg (aO a), .agg (jK x)] (.tup [.agg (aR .own qG), .bool false]) := by
    intro h
    by_cases h1 : x.status = 200 <;> by_cases h2 : x.kind = 1 <;> cases b1 <;> cases b2 <;> cases b4
    all_goals first
      | exact (Bool.false_ne_true (hb rfl)).elim
      | (exfalso; simp_all; done)
      | ((try rw [h1] at c2)
         (try rw [h2] at c2)
         refine uW Tryz.mix Tryz.func95 Tryz.ntmps95 ?_
         have W := And.intro h1 h2
         repeat' first|refine st ?_|(refine nx ?_;first|refine se ?_|refine so ?_)|(refine cx ?_;refine sc (fun hc=>?_) (fun hc=>?_)<;>try exact hc.elim)|(refine lx ?_;refine sp (fun hc=>?_) (fun hc=>?_)<;>try exact hc.elim)|refine sx ?_ ?_|refine sy ?_ ?_|fail
         all_goals (try (first | (refine ⟨.inr rfl, .inl ?_⟩; simp [dF, Tryz.results95, qG, kR, h1, h2]; done) | (refine ⟨.inr rfl, .inr (gZ ?_)⟩; simp [AS.rvB, AS.rvs, AS.rv, Tryz.results95, qG, kR, h1, h2]; done) | (refine ⟨.inr rfl, .inl ?_⟩; simp [dF, Tryz.results95, qG, kR, h1, h2])))
         done)
  have good : b1 = true → b2 = true → x.status = 200 → x.kind = 1 → Ok Tryz.prog 95 [.agg (aO a), .agg (jK x)] (.tup [.agg [.str a.host, .str a.path, .bool q.isSet, .sl .view 1 (q.scripts.map bS), .sl .view 1 (q.styles.map bS), .sl .view 1 (q.images.map bS), .str q.nonce, .str [], .sl .own 4 [], .bool false, .sl .own 4 [[.str [112, 97, 103, 101], .str [], .int .i64 (-1), .sl .own 2 []]], .sl .own 1 [[.int .i64 0]], .sl .own 8 [], .sl .own 5 [], .sl .own 2 [], .int .i64 0, .int .i64 0, .int .i64 0, .int .i64 0, .sl .own 2 [], .sl .own 1 [], .bool false], .bool true]) := by
    intro h1 h2 h3 h4
    have hb' := hb h2
    subst h1; subst h2; subst hb'
    rw [h3, h4] at c2
    refine uW Tryz.mix Tryz.func95 Tryz.ntmps95 ?_
    have W := And.intro h3 h4
    repeat' first|refine st ?_|(refine nx ?_;first|refine se ?_|refine so ?_)|(refine cx ?_;refine sc (fun hc=>?_) (fun hc=>?_)<;>try exact hc.elim)|(refine lx ?_;refine sp (fun hc=>?_) (fun hc=>?_)<;>try exact hc.elim)|refine sx ?_ ?_|refine sy ?_ ?_|fail
    all_goals (try (first | (refine ⟨.inr rfl, .inl ?_⟩; simp [dF, Tryz.results95, h3, h4]; done) | (refine ⟨.inr rfl, .inr (gZ ?_)⟩; simp [AS.rvB, AS.rvs, AS.rv, Tryz.results95, h3, h4]; done) | (refine ⟨.inr rfl, .inl ?_⟩; simp [dF, Tryz.results95, h3, h4])))
  by_cases hc : (!b1 || !b2 || !decide (x.status = 200) || !decide (x.kind = 1)) = true
  · rw [if_pos hc]
    refine (bad ?_).vwas (by simp [rt, rtc, rtr, qG, kR])
    simp only [Bool.or_eq_true, Bool.not_eq_true', decide_eq_false_iff_not] at hc
    rcases hc with ((h | h) | h) | h
    · exact .inl h
    · exact .inr (.inl h)
    · exact .inr (.inr (.inl h))
    · exact .inr (.inr (.inr h))
  · rw [if_neg hc]
    simp only [Bool.or_eq_true, Bool.not_eq_true', decide_eq_false_iff_not, not_or, Bool.not_eq_false, Decidable.not_not] at hc
    exact (good hc.1.1.1 hc.1.1.2 hc.1.2 hc.2).vwas (by simp [rt, rtc, rtr, aBa, lZ])
end Go.Proofs.YtejigeoigebhcaaGreat
