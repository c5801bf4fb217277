/-
  Proved here: steps towards the statement of this claim, text J6.
  No condition beyond what each statement spells out.
-/
import Derived.Test.YtlnblmmohpcceaaGreatDoorDJ5
import Derived.Test.YtlnblmmohpcceaaGreatDoorDF6
set_option linter.all false
set_option maxRecDepth 4000
set_option maxHeartbeats 4000000
namespace Go.Proofs.YtlnblmmohpcceaaGreatDoor
open Go.Aw
def gG (x:dG):Bool:=
 (decide (100≤x.status)&&decide (x.status≤599))&&(decide (1≤x.kind)&&decide (x.kind≤5))&&decide (x.body.length≤400)&&(decide (0≤x.age)&&decide (x.age≤1000))&&(bI x.policy).2
theorem oG [aB Tryz.prog] [dO Tryz.prog] (s:Str) (hl:s.length≤1073741824):Ok Tryz.prog 32 [.str s] (.tup [.agg (aX .own (bI s).1),.bool (bI s).2]):=by
 have h:=uP s hl
 rw [aHf s] at h
 exact h
theorem wY [aB Tryz.prog] [dO Tryz.prog] (x:dG) (hl:bO x≤1073741824):Ok Tryz.prog 43 [.agg (bV x)] (.bool (gG x)):=by
 simp only [bO] at hl
 have c0:Ok Tryz.prog 41 [.str x.policy] (.tup [.agg (aX .view (bI x.policy).1),.bool (bI x.policy).2]):=nZ x.policy (by omega)
 have c1:=oF x.status 100 599
 have c2:=oF x.kind 1 5
 have c3:=oF x.age 0 1000
 have e:decide (x.body.length≤400)=decide ((x.body.length:Int)≤400):=by simp only [decide_eq_decide];omega
 unfold gG
 rw [e]
 generalize (decide (100≤x.status)&&decide (x.status≤599))=b1 at *
 generalize (decide (1≤x.kind)&&decide (x.kind≤5))=b2 at *
 generalize (decide (0≤x.age)&&decide (x.age≤1000))=b3 at *
 generalize (bI x.policy).1=q at *
 generalize (bI x.policy).2=b4 at *
 simp only [aX] at c0
 refine ent Tryz.mix Tryz.func43 Tryz.ntmps43 ?_
 have W:=trivial
 repeat' first|refine st ?_|(refine nx ?_;first|refine se ?_|refine so ?_)|(refine cx ?_;refine sc (fun hc=>?_) (fun hc=>?_)<;>try exact hc.elim)|(refine lx ?_;refine sp (fun hc=>?_) (fun hc=>?_)<;>try exact hc.elim)|refine sx ?_ ?_|refine sy ?_ ?_|fail
 all_goals (try (refine ⟨.inr rfl,?_⟩;simp [Hands,Tryz.results43]))
 all_goals first|(simp_all;done)|(simp_all;omega)|(simp_all;intros;omega)
theorem wS [aB Tryz.prog] [dO Tryz.prog] (x:dG) (hl:bO x≤1073741824):Ok Tryz.prog 31 [.agg (bV x)] (.bool (gG x)):=by
 simp only [bO] at hl
 have c0:=oG x.policy (by omega)
 have c1:=oI x.status 100 599
 have c2:=oI x.kind 1 5
 have c3:=oI x.age 0 1000
 have e:decide (x.body.length≤400)=decide ((x.body.length:Int)≤400):=by simp only [decide_eq_decide];omega
 unfold gG
 rw [e]
 generalize (decide (100≤x.status)&&decide (x.status≤599))=b1 at *
 generalize (decide (1≤x.kind)&&decide (x.kind≤5))=b2 at *
 generalize (decide (0≤x.age)&&decide (x.age≤1000))=b3 at *
 generalize (bI x.policy).1=q at *
 generalize (bI x.policy).2=b4 at *
 simp only [aX] at c0
 refine ent Tryz.mix Tryz.func31 Tryz.ntmps31 ?_
 have W:=trivial
 repeat' first|refine st ?_|(refine nx ?_;first|refine se ?_|refine so ?_)|(refine cx ?_;refine sc (fun hc=>?_) (fun hc=>?_)<;>try exact hc.elim)|(refine lx ?_;refine sp (fun hc=>?_) (fun hc=>?_)<;>try exact hc.elim)|refine sx ?_ ?_|refine sy ?_ ?_|fail
 all_goals (try (refine ⟨.inr rfl,?_⟩;simp [Hands,Tryz.results31]))
 all_goals first|(simp_all;done)|(simp_all;omega)|(simp_all;intros;omega)
def gF:fI:=⟨[⟨[112,97,103,101],[], -1,[]⟩],[0]⟩
theorem wT [aB Tryz.prog] [dO Tryz.prog]:Ok Tryz.prog 33 [] (.agg (bS .own gF)):=by
 refine ent Tryz.mix Tryz.func33 Tryz.ntmps33 ?_
 have W:=trivial
 repeat' first|refine st ?_|(refine nx ?_;first|refine se ?_|refine so ?_)|(refine cx ?_;refine sc (fun hc=>?_) (fun hc=>?_)<;>try exact hc.elim)|(refine lx ?_;refine sp (fun hc=>?_) (fun hc=>?_)<;>try exact hc.elim)|refine sx ?_ ?_|refine sy ?_ ?_|fail
 all_goals (try (refine ⟨.inr rfl,?_⟩;simp [Hands,Tryz.results33,gF]))
theorem wX [aB Tryz.prog] [dO Tryz.prog]:Ok Tryz.prog 44 [] (.agg (bS .own gF)):=by
 refine ent Tryz.mix Tryz.func44 Tryz.ntmps44 ?_
 have W:=trivial
 repeat' first|refine st ?_|(refine nx ?_;first|refine se ?_|refine so ?_)|(refine cx ?_;refine sc (fun hc=>?_) (fun hc=>?_)<;>try exact hc.elim)|(refine lx ?_;refine sp (fun hc=>?_) (fun hc=>?_)<;>try exact hc.elim)|refine sx ?_ ?_|refine sy ?_ ?_|fail
 all_goals (try (refine ⟨.inr rfl,?_⟩;simp [Hands,Tryz.results44,gF]))
def kZ:dS:=⟨⟨[],[]⟩,gM,⟨[]⟩,[],false,⟨[],[]⟩,[],[],[],0,0,0,0,[],[],false⟩
def oH (a:eH) (p:bN):dS:=⟨a,p,⟨[]⟩,[],false,gF,[],[],[],0,0,0,0,[],[],false⟩
def jF (a:eH) (x:dG):dS×Bool:=
 if mG a=true∧gG x=true∧x.status=200∧x.kind=1 then (oH a (bI x.policy).1,true) else (kZ,false)
theorem zA (a:eH) (x:dG):jF a x=if (!mG a || !gG x || !decide (x.status=200) || !decide (x.kind=1))=true then (kZ,false) else (oH a (bI x.policy).1,true):=by
 unfold jF
 cases mG a<;>cases gG x<;>by_cases h1:x.status=200<;>by_cases h2:x.kind=1<;>simp [h1,h2]
theorem aA5 [aB Tryz.prog] [dO Tryz.prog] (a:eH) (x:dG) (ha:gD a≤1073741824) (hl:bO x≤1073741824):Ok Tryz.prog 9 [.agg (eX a),.agg (bV x)] (.tup [.agg (cZ .own (jF a x).1),.bool (jF a x).2]):=by
 have c1:=aDn a (by omega)
 simp only [gD] at ha
 have c2:=wS x hl
 have c4:=wT
 simp only [bO] at hl
 have c3:=oG x.policy (by omega)
 simp only [eX] at c1
 simp only [bV] at c2
 simp only [aX] at c3
 simp only [bS,gF,List.map_cons,List.map_nil,dQ,kW] at c4
 rw [zA]
 generalize mG a=b1 at *
 generalize gG x=b2 at *
 generalize (bI x.policy).1=q at *
 generalize (bI x.policy).2=b4 at *
 by_cases h1:x.status=200<;>by_cases h2:x.kind=1<;>cases b1<;>cases b2
 all_goals simp only [h1,h2,decide_true,decide_false,Bool.not_true,Bool.not_false,Bool.or_true,Bool.or_false,Bool.true_or,Bool.false_or,Bool.false_eq_true,if_true,if_false]
 all_goals (
  (try rw [h1] at c2)
  (try rw [h2] at c2)
  refine nJ Tryz.mix Tryz.func9 Tryz.ntmps9 ?_
  have W:=And.intro h1 h2
  repeat' first|refine st ?_|(refine nx ?_;first|refine se ?_|refine so ?_)|(refine cx ?_;refine sc (fun hc=>?_) (fun hc=>?_)<;>try exact hc.elim)|(refine lx ?_;refine sp (fun hc=>?_) (fun hc=>?_)<;>try exact hc.elim)|refine sx ?_ ?_|refine sy ?_ ?_|fail
  all_goals (try (first|(refine ⟨.inr rfl,.inl ?_⟩;simp [Hands,Tryz.results9,kZ,gM,oH,gF,h1,h2];done)|(refine ⟨.inr rfl,.inr (dH ?_)⟩;simp [AS.rvB,AS.rvs,AS.rv,Tryz.results9,kZ,gM,oH,gF,h1,h2];done)|(refine ⟨.inr rfl,.inl ?_⟩;simp [Hands,Tryz.results9,kZ,gM,oH,gF,h1,h2])))
  skip)
theorem aAk [aB Tryz.prog] [dO Tryz.prog] (a : eH) (x : dG) (ha : gD a ≤ 1073741824) (hl : bO x ≤ 1073741824) : Ok Tryz.prog 14 [.agg (eX a), .agg (bV x)] (.tup [.agg (cZ .view (jF a x).1), .bool (jF a x).2]) := by
  have c1 := aC6 a (by omega)
  simp only [gD] at ha
  have c2 := wY x hl
  have c4 := wX
  have hb : gG x = true → (bI x.policy).2 = true := by
    intro h
    simp only [gG, Bool.and_eq_true] at h
    exact h.2
  simp only [bO] at hl
  have c3 : Ok Tryz.prog 41 [.str x.policy] (.tup [.agg (aX .view (bI x.policy).1), .bool (bI x.policy).2]) := nZ x.policy (by omega)
  simp only [eX] at c1
  simp only [bV] at c2
  simp only [aX] at c3
  simp only [bS, gF, List.map_cons, List.map_nil, dQ, kW] at c4
  rw [zA]
  generalize mG a = b1 at *
  generalize gG x = b2 at *
  generalize (bI x.policy).1 = q at *
  generalize (bI x.policy).2 = b4 at *
  have bad : (b1 = false ∨ b2 = false ∨ x.status ≠ 200 ∨ x.kind ≠ 1) → Ok Tryz.prog 14 [.agg (eX a), .agg (bV x)] (.tup [.agg (cZ .own kZ), .bool false]) := by
    intro h
    by_cases h1 : x.status = 200 <;> by_cases h2 : x.kind = 1 <;> cases b1 <;> cases b2 <;> cases b4
    all_goals first
      | exact (Bool.false_ne_true (hb rfl)).elim
      | (exfalso; simp_all; done)
      | ((try rw [h1] at c2)
         (try rw [h2] at c2)
         refine rW Tryz.mix Tryz.func14 Tryz.ntmps14 ?_
         have W := And.intro h1 h2
         repeat' first|refine st ?_|(refine nx ?_;first|refine se ?_|refine so ?_)|(refine cx ?_;refine sc (fun hc=>?_) (fun hc=>?_)<;>try exact hc.elim)|(refine lx ?_;refine sp (fun hc=>?_) (fun hc=>?_)<;>try exact hc.elim)|refine sx ?_ ?_|refine sy ?_ ?_|fail
         all_goals (try (first | (refine ⟨.inr rfl, .inl ?_⟩; simp [eU, Tryz.results14, kZ, gM, h1, h2]; done) | (refine ⟨.inr rfl, .inr (gQ ?_)⟩; simp [AS.rvB, AS.rvs, AS.rv, Tryz.results14, kZ, gM, h1, h2]; done) | (refine ⟨.inr rfl, .inl ?_⟩; simp [eU, Tryz.results14, kZ, gM, h1, h2])))
         done)
  have good : b1 = true → b2 = true → x.status = 200 → x.kind = 1 → Ok Tryz.prog 14 [.agg (eX a), .agg (bV x)] (.tup [.agg [.str a.host, .str a.path, .bool q.isSet, .sl .view 1 (q.scripts.map aI), .sl .view 1 (q.styles.map aI), .sl .view 1 (q.images.map aI), .str q.nonce, .str [], .sl .own 4 [], .bool false, .sl .own 4 [[.str [112, 97, 103, 101], .str [], .int .i64 (-1), .sl .own 2 []]], .sl .own 1 [[.int .i64 0]], .sl .own 8 [], .sl .own 5 [], .sl .own 2 [], .int .i64 0, .int .i64 0, .int .i64 0, .int .i64 0, .sl .own 2 [], .sl .own 1 [], .bool false], .bool true]) := by
    intro h1 h2 h3 h4
    have hb' := hb h2
    subst h1; subst h2; subst hb'
    rw [h3, h4] at c2
    refine rW Tryz.mix Tryz.func14 Tryz.ntmps14 ?_
    have W := And.intro h3 h4
    repeat' first|refine st ?_|(refine nx ?_;first|refine se ?_|refine so ?_)|(refine cx ?_;refine sc (fun hc=>?_) (fun hc=>?_)<;>try exact hc.elim)|(refine lx ?_;refine sp (fun hc=>?_) (fun hc=>?_)<;>try exact hc.elim)|refine sx ?_ ?_|refine sy ?_ ?_|fail
    all_goals (try (first | (refine ⟨.inr rfl, .inl ?_⟩; simp [eU, Tryz.results14, h3, h4]; done) | (refine ⟨.inr rfl, .inr (gQ ?_)⟩; simp [AS.rvB, AS.rvs, AS.rv, Tryz.results14, h3, h4]; done) | (refine ⟨.inr rfl, .inl ?_⟩; simp [eU, Tryz.results14, h3, h4])))
  by_cases hc : (!b1 || !b2 || !decide (x.status = 200) || !decide (x.kind = 1)) = true
  · rw [if_pos hc]
    refine (bad ?_).vwas (by simp [rt, rtc, rtr, kZ, gM])
    simp only [Bool.or_eq_true, Bool.not_eq_true', decide_eq_false_iff_not] at hc
    rcases hc with ((h | h) | h) | h
    · exact .inl h
    · exact .inr (.inl h)
    · exact .inr (.inr (.inl h))
    · exact .inr (.inr (.inr h))
  · rw [if_neg hc]
    simp only [Bool.or_eq_true, Bool.not_eq_true', decide_eq_false_iff_not, not_or, Bool.not_eq_false, Decidable.not_not] at hc
    exact (good hc.1.1.1 hc.1.1.2 hc.1.2 hc.2).vwas (by simp [rt, rtc, rtr, oH, gF])
end Go.Proofs.YtlnblmmohpcceaaGreatDoor
