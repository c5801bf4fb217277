/-
  Proved here: steps towards the statement of this claim, text J6.
  No condition beyond what each statement spells out.
-/
import Derived.Test.YtajppdidkjbmkaaGreatDoorJ5
import Derived.Test.YtajppdidkjbmkaaGreatDoorF6
set_option linter.all false
set_option maxRecDepth 4000
set_option maxHeartbeats 4000000
namespace Go.Proofs.YtajppdidkjbmkaaGreatDoor
open Go.Aw
def dS (x:bA):Bool:=
 (decide (100≤x.status)&&decide (x.status≤599))&&(decide (1≤x.kind)&&decide (x.kind≤5))&&decide (x.body.length≤400)&&(decide (0≤x.age)&&decide (x.age≤1000))&&(dP x.policy).2
theorem aB3 [aB Tryz.prog] [cZ Tryz.prog] (s:Str) (hl:s.length≤1073741824):Ok Tryz.prog 123 [.str s] (.tup [.agg (bD .own (dP s).1),.bool (dP s).2]):=by
 have h:=aAv s hl
 rw [aPo s] at h
 exact h
theorem pF [aB Tryz.prog] [cZ Tryz.prog] (x:bA) (hl:bB x≤1073741824):Ok Tryz.prog 99 [.agg (aV x)] (.bool (dS x)):=by
 simp only [bB] at hl
 have c0:Ok Tryz.prog 133 [.str x.policy] (.tup [.agg (bD .view (dP x.policy).1),.bool (dP x.policy).2]):=uB x.policy (by omega)
 have c1:=mZ x.status 100 599
 have c2:=mZ x.kind 1 5
 have c3:=mZ x.age 0 1000
 have e:decide (x.body.length≤400)=decide ((x.body.length:Int)≤400):=by simp only [decide_eq_decide];omega
 unfold dS
 rw [e]
 generalize (decide (100≤x.status)&&decide (x.status≤599))=b1 at *
 generalize (decide (1≤x.kind)&&decide (x.kind≤5))=b2 at *
 generalize (decide (0≤x.age)&&decide (x.age≤1000))=b3 at *
 generalize (dP x.policy).1=q at *
 generalize (dP x.policy).2=b4 at *
 simp only [bD] at c0
 refine ent Tryz.mix Tryz.func99 Tryz.ntmps99 ?_
 have W:=trivial
 repeat' first|refine st ?_|(refine nx ?_;first|refine se ?_|refine so ?_)|(refine cx ?_;refine sc (fun hc=>?_) (fun hc=>?_)<;>try exact hc.elim)|(refine lx ?_;refine sp (fun hc=>?_) (fun hc=>?_)<;>try exact hc.elim)|refine sx ?_ ?_|refine sy ?_ ?_|fail
 all_goals (try (refine ⟨.inr rfl,?_⟩;simp [Hands,Tryz.results99]))
 all_goals first|(simp_all;done)|(simp_all;omega)|(simp_all;intros;omega)
theorem aCx [aB Tryz.prog] [cZ Tryz.prog] (x:bA) (hl:bB x≤1073741824):Ok Tryz.prog 85 [.agg (aV x)] (.bool (dS x)):=by
 simp only [bB] at hl
 have c0:=aB3 x.policy (by omega)
 have c1:=jF x.status 100 599
 have c2:=jF x.kind 1 5
 have c3:=jF x.age 0 1000
 have e:decide (x.body.length≤400)=decide ((x.body.length:Int)≤400):=by simp only [decide_eq_decide];omega
 unfold dS
 rw [e]
 generalize (decide (100≤x.status)&&decide (x.status≤599))=b1 at *
 generalize (decide (1≤x.kind)&&decide (x.kind≤5))=b2 at *
 generalize (decide (0≤x.age)&&decide (x.age≤1000))=b3 at *
 generalize (dP x.policy).1=q at *
 generalize (dP x.policy).2=b4 at *
 simp only [bD] at c0
 refine ent Tryz.mix Tryz.func85 Tryz.ntmps85 ?_
 have W:=trivial
 repeat' first|refine st ?_|(refine nx ?_;first|refine se ?_|refine so ?_)|(refine cx ?_;refine sc (fun hc=>?_) (fun hc=>?_)<;>try exact hc.elim)|(refine lx ?_;refine sp (fun hc=>?_) (fun hc=>?_)<;>try exact hc.elim)|refine sx ?_ ?_|refine sy ?_ ?_|fail
 all_goals (try (refine ⟨.inr rfl,?_⟩;simp [Hands,Tryz.results85]))
 all_goals first|(simp_all;done)|(simp_all;omega)|(simp_all;intros;omega)
def oM:iF:=⟨[⟨[112,97,103,101],[], -1,[]⟩],[0]⟩
theorem aCu [aB Tryz.prog] [cZ Tryz.prog]:Ok Tryz.prog 144 [] (.agg (dU .own oM)):=by
 refine ent Tryz.mix Tryz.func144 Tryz.ntmps144 ?_
 have W:=trivial
 repeat' first|refine st ?_|(refine nx ?_;first|refine se ?_|refine so ?_)|(refine cx ?_;refine sc (fun hc=>?_) (fun hc=>?_)<;>try exact hc.elim)|(refine lx ?_;refine sp (fun hc=>?_) (fun hc=>?_)<;>try exact hc.elim)|refine sx ?_ ?_|refine sy ?_ ?_|fail
 all_goals (try (refine ⟨.inr rfl,?_⟩;simp [Hands,Tryz.results144,oM]))
def uG:aY:=⟨⟨[],[]⟩,jG,⟨[]⟩,[],false,⟨[],[]⟩,[],[],[],0,0,0,0,[],[],false⟩
def aFo (a:aH) (p:bR):aY:=⟨a,p,⟨[]⟩,[],false,oM,[],[],[],0,0,0,0,[],[],false⟩
def oP (a:aH) (x:bA):aY×Bool:=
 if mR a=true∧dS x=true∧x.status=200∧x.kind=1 then (aFo a (dP x.policy).1,true) else (uG,false)
theorem aP9 (a:aH) (x:bA):oP a x=if (!mR a || !dS x || !decide (x.status=200) || !decide (x.kind=1))=true then (uG,false) else (aFo a (dP x.policy).1,true):=by
 unfold oP
 cases mR a<;>cases dS x<;>by_cases h1:x.status=200<;>by_cases h2:x.kind=1<;>simp [h1,h2]
theorem aGe [aB Tryz.prog] [cZ Tryz.prog] (a : aH) (x : bA) (ha : aO a ≤ 1073741824) (hl : bB x ≤ 1073741824) : Ok Tryz.prog 117 [.agg (aL a), .agg (aV x)] (.tup [.agg (aI .view (oP a x).1), .bool (oP a x).2]) := by
  have c1 := pW a (by omega)
  simp only [aO] at ha
  have c2 := pF x hl
  have c4 := aCu
  have hb : dS x = true → (dP x.policy).2 = true := by
    intro h
    simp only [dS, Bool.and_eq_true] at h
    exact h.2
  simp only [bB] at hl
  have c3 : Ok Tryz.prog 133 [.str x.policy] (.tup [.agg (bD .view (dP x.policy).1), .bool (dP x.policy).2]) := uB x.policy (by omega)
  simp only [aL] at c1
  simp only [aV] at c2
  simp only [bD] at c3
  simp only [dU, oM, List.map_cons, List.map_nil, dW, gY] at c4
  rw [aP9]
  generalize mR a = b1 at *
  generalize dS x = b2 at *
  generalize (dP x.policy).1 = q at *
  generalize (dP x.policy).2 = b4 at *
  have bad : (b1 = false ∨ b2 = false ∨ x.status ≠ 200 ∨ x.kind ≠ 1) → Ok Tryz.prog 117 [.agg (aL a), .agg (aV x)] (.tup [.agg (aI .own uG), .bool false]) := by
    intro h
    by_cases h1 : x.status = 200 <;> by_cases h2 : x.kind = 1 <;> cases b1 <;> cases b2 <;> cases b4
    all_goals first
      | exact (Bool.false_ne_true (hb rfl)).elim
      | (exfalso; simp_all; done)
      | ((try rw [h1] at c2)
         (try rw [h2] at c2)
         refine xQ Tryz.mix Tryz.func117 Tryz.ntmps117 ?_
         have W := And.intro h1 h2
         repeat' first|refine st ?_|(refine nx ?_;first|refine se ?_|refine so ?_)|(refine cx ?_;refine sc (fun hc=>?_) (fun hc=>?_)<;>try exact hc.elim)|(refine lx ?_;refine sp (fun hc=>?_) (fun hc=>?_)<;>try exact hc.elim)|refine sx ?_ ?_|refine sy ?_ ?_|fail
         all_goals (try (first | (refine ⟨.inr rfl, .inl ?_⟩; simp [fK, Tryz.results117, uG, jG, h1, h2]; done) | (refine ⟨.inr rfl, .inr (jP ?_)⟩; simp [AS.rvB, AS.rvs, AS.rv, Tryz.results117, uG, jG, h1, h2]; done) | (refine ⟨.inr rfl, .inl ?_⟩; simp [fK, Tryz.results117, uG, jG, h1, h2])))
         done)
  have good : b1 = true → b2 = true → x.status = 200 → x.kind = 1 → Ok Tryz.prog 117 [.agg (aL a), .agg (aV x)] (.tup [.agg [.str a.host, .str a.path, .bool q.isSet, .sl .view 1 (q.scripts.map aU), .sl .view 1 (q.styles.map aU), .sl .view 1 (q.images.map aU), .str q.nonce, .str [], .sl .own 4 [], .bool false, .sl .own 4 [[.str [112, 97, 103, 101], .str [], .int .i64 (-1), .sl .own 2 []]], .sl .own 1 [[.int .i64 0]], .sl .own 8 [], .sl .own 5 [], .sl .own 2 [], .int .i64 0, .int .i64 0, .int .i64 0, .int .i64 0, .sl .own 2 [], .sl .own 1 [], .bool false], .bool true]) := by
    intro h1 h2 h3 h4
    have hb' := hb h2
    subst h1; subst h2; subst hb'
    rw [h3, h4] at c2
    refine xQ Tryz.mix Tryz.func117 Tryz.ntmps117 ?_
    have W := And.intro h3 h4
    repeat' first|refine st ?_|(refine nx ?_;first|refine se ?_|refine so ?_)|(refine cx ?_;refine sc (fun hc=>?_) (fun hc=>?_)<;>try exact hc.elim)|(refine lx ?_;refine sp (fun hc=>?_) (fun hc=>?_)<;>try exact hc.elim)|refine sx ?_ ?_|refine sy ?_ ?_|fail
    all_goals (try (first | (refine ⟨.inr rfl, .inl ?_⟩; simp [fK, Tryz.results117, h3, h4]; done) | (refine ⟨.inr rfl, .inr (jP ?_)⟩; simp [AS.rvB, AS.rvs, AS.rv, Tryz.results117, h3, h4]; done) | (refine ⟨.inr rfl, .inl ?_⟩; simp [fK, Tryz.results117, h3, h4])))
  by_cases hc : (!b1 || !b2 || !decide (x.status = 200) || !decide (x.kind = 1)) = true
  · rw [if_pos hc]
    refine (bad ?_).vwas (by simp [rt, rtc, rtr, uG, jG])
    simp only [Bool.or_eq_true, Bool.not_eq_true', decide_eq_false_iff_not] at hc
    rcases hc with ((h | h) | h) | h
    · exact .inl h
    · exact .inr (.inl h)
    · exact .inr (.inr (.inl h))
    · exact .inr (.inr (.inr h))
  · rw [if_neg hc]
    simp only [Bool.or_eq_true, Bool.not_eq_true', decide_eq_false_iff_not, not_or, Bool.not_eq_false, Decidable.not_not] at hc
    exact (good hc.1.1.1 hc.1.1.2 hc.1.2 hc.2).vwas (by simp [rt, rtc, rtr, aFo, oM])
end Go.Proofs.YtajppdidkjbmkaaGreatDoor
