/-
  Proved here: steps towards the statement of this claim, text QP5.
  No condition beyond what each statement spells out.
-/
import Derived.Test.YtgkllebnnakojaaGreatDoorQD1
import Derived.Test.YtgkllebnnakojaaGreatDoorF5
import Derived.Test.YtgkllebnnakojaaGreatDoorQJ3
import Derived.Test.YtgkllebnnakojaaGreatDoorQY1
import Derived.Test.YtgkllebnnakojaaGreatDoorF6
set_option linter.all false
set_option maxRecDepth 4000
set_option maxHeartbeats 4000000
namespace Go.Proofs.YtgkllebnnakojaaGreatDoor
open Go.Aw
theorem aW1 [aB Tryz.prog] (a b:Int):Ok Tryz.prog 97 [.int .i64 a,.int .i64 b] (.int .i64 (min a b)):=by
 by_cases h:b < a
 ·have hr:min a b=b:=by omega
  rw [hr]
  refine ent Tryz.mix Tryz.func97 Tryz.ntmps97 ?_
  have W:=h
  repeat' first|refine st ?_|(refine nx ?_;first|refine se ?_|refine so ?_)|(refine cx ?_;refine sc (fun hc=>?_) (fun hc=>?_)<;>try exact hc.elim)|(refine lx ?_;refine sp (fun hc=>?_) (fun hc=>?_)<;>try exact hc.elim)|refine sx ?_ ?_|refine sy ?_ ?_|fail
  all_goals (try (refine ⟨.inr rfl,?_⟩;simp [Hands,Tryz.results97]))
 ·have hr:min a b=a:=by omega
  rw [hr]
  refine ent Tryz.mix Tryz.func97 Tryz.ntmps97 ?_
  have W:=h
  repeat' first|refine st ?_|(refine nx ?_;first|refine se ?_|refine so ?_)|(refine cx ?_;refine sc (fun hc=>?_) (fun hc=>?_)<;>try exact hc.elim)|(refine lx ?_;refine sp (fun hc=>?_) (fun hc=>?_)<;>try exact hc.elim)|refine sx ?_ ?_|refine sy ?_ ?_|fail
  all_goals (try (refine ⟨.inr rfl,?_⟩;simp [Hands,Tryz.results97]))
theorem aN0 [aB Tryz.prog] (s:Str) (c:UInt8) (hl:s.length≤1099511627776):Ok Tryz.prog 96 [.str s,.int .u8 c.toNat] (.int .i64 (ixB c s:Nat)):=by
 refine ent Tryz.mix Tryz.func96 Tryz.ntmps96 ?_
 have W:=trivial
 repeat' first|refine st ?_|(refine nx ?_;first|refine se ?_|refine so ?_)|(refine cx ?_;refine sc (fun hc=>?_) (fun hc=>?_)<;>try exact hc.elim)|(refine lx ?_;refine sp (fun hc=>?_) (fun hc=>?_)<;>try exact hc.elim)|refine sx ?_ ?_|refine sy ?_ ?_|fail
 refine aT (ι:={k:Nat // k≤s.length∧∀x∈s.take k,x≠c}) (fun t o i=>⟨bB t [(5,.int .i64 i.1)],o⟩)
  (fun i=>s.length - i.1) ⟨0,by simp,by simp⟩ (aI (by simp) (by simp)) ?_
 rintro ⟨k,hk,hi⟩ K1 hK1
 simp only [bB,List.set_cons_succ,List.set_cons_zero] at hK1⊢
 have hk1:IntKind.i64.wrap ((k:Int)+1)=((k+1:Nat):Int):=by rw [wrap64]<;>omega
 by_cases hlt:k < s.length
 ·have hg:=List.getElem?_eq_getElem hlt
  have W:=And.intro hk1 (And.intro hg hlt)
  repeat' first|refine st ?_|(refine nx ?_;first|refine se ?_|refine so ?_)|(refine cx ?_;refine sc (fun hc=>?_) (fun hc=>?_)<;>try exact hc.elim)|(refine lx ?_;refine sp (fun hc=>?_) (fun hc=>?_)<;>try exact hc.elim)|refine sx ?_ ?_|refine sy ?_ ?_|fail
  ·have e:=aJ7 hlt (UInt8.toNat_inj.1 (by omega)) hi
   rw [e]
   all_goals (try (refine ⟨.inr rfl,?_⟩;simp [Hands,Tryz.results96]))
  ·exact hK1 _ ⟨k+1,by omega,dD hlt hi (fun h=>hc (by rw [h]))⟩ (aI (by simp) (by simp)) (by simp only;omega)
 ·have e:=aK3 (iL (by omega) hi)
  rw [e]
  have W:=hk1
  repeat' first|refine st ?_|(refine nx ?_;first|refine se ?_|refine so ?_)|(refine cx ?_;refine sc (fun hc=>?_) (fun hc=>?_)<;>try exact hc.elim)|(refine lx ?_;refine sp (fun hc=>?_) (fun hc=>?_)<;>try exact hc.elim)|refine sx ?_ ?_|refine sy ?_ ?_|fail
  all_goals (try (refine ⟨.inr rfl,?_⟩;simp [Hands,Tryz.results96]))
def pfx (p s:Str):Bool:=decide (p.length≤s.length)&&(s.take p.length == p)
theorem aJy [aB Tryz.prog] (s p:Str) (hl:s.length≤1099511627776) (hp:p.length≤1099511627776):Ok Tryz.prog 90 [.str s,.str p] (.bool (pfx p s)):=by
 by_cases h:p.length≤s.length
 ·have hi:(p.length:Int)≤(s.length:Int):=by omega
  have hr:pfx p s=(s.take p.length == p):=by simp [pfx,h]
  rw [hr]
  refine ent Tryz.mix Tryz.func90 Tryz.ntmps90 ?_
  have W:=And.intro h hi
  repeat' first|refine st ?_|(refine nx ?_;first|refine se ?_|refine so ?_)|(refine cx ?_;refine sc (fun hc=>?_) (fun hc=>?_)<;>try exact hc.elim)|(refine lx ?_;refine sp (fun hc=>?_) (fun hc=>?_)<;>try exact hc.elim)|refine sx ?_ ?_|refine sy ?_ ?_|fail
  all_goals (try (refine ⟨.inr rfl,?_⟩;simp [Hands,Tryz.results90]))
 ·have hi:¬(p.length:Int)≤(s.length:Int):=by omega
  have hr:pfx p s=false:=by simp [pfx,h]
  rw [hr]
  refine ent Tryz.mix Tryz.func90 Tryz.ntmps90 ?_
  have W:=And.intro h hi
  repeat' first|refine st ?_|(refine nx ?_;first|refine se ?_|refine so ?_)|(refine cx ?_;refine sc (fun hc=>?_) (fun hc=>?_)<;>try exact hc.elim)|(refine lx ?_;refine sp (fun hc=>?_) (fun hc=>?_)<;>try exact hc.elim)|refine sx ?_ ?_|refine sy ?_ ?_|fail
  all_goals (try (refine ⟨.inr rfl,?_⟩;simp [Hands,Tryz.results90]))
theorem aJr {p s:Str} (h:pfx p s=true):p.length≤s.length:=by
 simp only [pfx,Bool.and_eq_true,decide_eq_true_eq] at h
 exact h.1
theorem aH9 [aB Tryz.prog] (s p:Str) (hl:s.length≤1099511627776) (hp:p.length≤1099511627776):Ok Tryz.prog 50 [.str s,.str p] (.tup [.str (if pfx p s=true then s.drop p.length else s),.bool (pfx p s)]):=by
 have c1:=aJy s p hl hp
 have h1:= @aJr p s
 generalize pfx p s=b at *
 cases b
 ·refine ent Tryz.mix Tryz.func50 Tryz.ntmps50 ?_
  have W:=trivial
  repeat' first|refine st ?_|(refine nx ?_;first|refine se ?_|refine so ?_)|(refine cx ?_;refine sc (fun hc=>?_) (fun hc=>?_)<;>try exact hc.elim)|(refine lx ?_;refine sp (fun hc=>?_) (fun hc=>?_)<;>try exact hc.elim)|refine sx ?_ ?_|refine sy ?_ ?_|fail
  all_goals (try (refine ⟨.inr rfl,?_⟩;simp [Hands,Tryz.results50]))
 ·have h2:=h1 rfl
  refine ent Tryz.mix Tryz.func50 Tryz.ntmps50 ?_
  have W:=h2
  repeat' first|refine st ?_|(refine nx ?_;first|refine se ?_|refine so ?_)|(refine cx ?_;refine sc (fun hc=>?_) (fun hc=>?_)<;>try exact hc.elim)|(refine lx ?_;refine sp (fun hc=>?_) (fun hc=>?_)<;>try exact hc.elim)|refine sx ?_ ?_|refine sy ?_ ?_|fail
  all_goals (try (refine ⟨.inr rfl,?_⟩;simp [Hands,Tryz.results50]))
theorem aAc [aB Tryz.prog] (s p:Str) (hl:s.length≤1099511627776) (hp:p.length≤1099511627776):Ok Tryz.prog 27 [.str s,.str p] (.tup [.str (if pfx p s=true then s.drop p.length else s),.bool (pfx p s)]):=by
 have c1:=aH9 s p hl hp
 generalize (if pfx p s=true then s.drop p.length else s)=q at *
 generalize pfx p s=b at *
 refine ent Tryz.mix Tryz.func27 Tryz.ntmps27 ?_
 have W:=trivial
 repeat' first|refine st ?_|(refine nx ?_;first|refine se ?_|refine so ?_)|(refine cx ?_;refine sc (fun hc=>?_) (fun hc=>?_)<;>try exact hc.elim)|(refine lx ?_;refine sp (fun hc=>?_) (fun hc=>?_)<;>try exact hc.elim)|refine sx ?_ ?_|refine sy ?_ ?_|fail
 all_goals (try (refine ⟨.inr rfl,?_⟩;simp [Hands,Tryz.results27]))
def eG (x:aZ):Bool:=
 (decide (100≤x.status)&&decide (x.status≤599))&&(decide (1≤x.kind)&&decide (x.kind≤5))&&decide (x.body.length≤400)&&(decide (0≤x.age)&&decide (x.age≤1000))&&(eY x.policy).2
theorem oF [aB Tryz.prog] [cO Tryz.prog] (x:aZ) (hl:bS x≤1073741824):Ok Tryz.prog 105 [.agg (bU x)] (.bool (eG x)):=by
 simp only [bS] at hl
 have c0:Ok Tryz.prog 103 [.str x.policy] (.tup [.agg (cB .view (eY x.policy).1),.bool (eY x.policy).2]):=sP x.policy (by omega)
 have c1:=mD x.status 100 599
 have c2:=mD x.kind 1 5
 have c3:=mD x.age 0 1000
 have e:decide (x.body.length≤400)=decide ((x.body.length:Int)≤400):=by simp only [decide_eq_decide];omega
 unfold eG
 rw [e]
 generalize (decide (100≤x.status)&&decide (x.status≤599))=b1 at *
 generalize (decide (1≤x.kind)&&decide (x.kind≤5))=b2 at *
 generalize (decide (0≤x.age)&&decide (x.age≤1000))=b3 at *
 generalize (eY x.policy).1=q at *
 generalize (eY x.policy).2=b4 at *
 simp only [cB] at c0
 refine ent Tryz.mix Tryz.func105 Tryz.ntmps105 ?_
 have W:=trivial
 repeat' first|refine st ?_|(refine nx ?_;first|refine se ?_|refine so ?_)|(refine cx ?_;refine sc (fun hc=>?_) (fun hc=>?_)<;>try exact hc.elim)|(refine lx ?_;refine sp (fun hc=>?_) (fun hc=>?_)<;>try exact hc.elim)|refine sx ?_ ?_|refine sy ?_ ?_|fail
 all_goals (try (refine ⟨.inr rfl,?_⟩;simp [Hands,Tryz.results105]))
 all_goals first|(simp_all;done)|(simp_all;omega)|(simp_all;intros;omega)
def nZ:iZ:=⟨[⟨[112,97,103,101],[], -1,[]⟩],[0]⟩
theorem aB5 [aB Tryz.prog] [cO Tryz.prog]:Ok Tryz.prog 106 [] (.agg (fQ .own nZ)):=by
 refine ent Tryz.mix Tryz.func106 Tryz.ntmps106 ?_
 have W:=trivial
 repeat' first|refine st ?_|(refine nx ?_;first|refine se ?_|refine so ?_)|(refine cx ?_;refine sc (fun hc=>?_) (fun hc=>?_)<;>try exact hc.elim)|(refine lx ?_;refine sp (fun hc=>?_) (fun hc=>?_)<;>try exact hc.elim)|refine sx ?_ ?_|refine sy ?_ ?_|fail
 all_goals (try (refine ⟨.inr rfl,?_⟩;simp [Hands,Tryz.results106,nZ]))
def sO:aJ:=⟨⟨[],[]⟩,mH,⟨[]⟩,[],false,⟨[],[]⟩,[],[],[],0,0,0,0,[],[],false⟩
def aDx (a:aC) (p:dE):aJ:=⟨a,p,⟨[]⟩,[],false,nZ,[],[],[],0,0,0,0,[],[],false⟩
def nV (a:aC) (x:aZ):aJ×Bool:=
 if mR a=true∧eG x=true∧x.status=200∧x.kind=1 then (aDx a (eY x.policy).1,true) else (sO,false)
theorem aNu (a:aC) (x:aZ):nV a x=if (!mR a || !eG x || !decide (x.status=200) || !decide (x.kind=1))=true then (sO,false) else (aDx a (eY x.policy).1,true):=by
 unfold nV
 cases mR a<;>cases eG x<;>by_cases h1:x.status=200<;>by_cases h2:x.kind=1<;>simp [h1,h2]
theorem aFn [aB Tryz.prog] [cO Tryz.prog] (a : aC) (x : aZ) (ha : aK a ≤ 1073741824) (hl : bS x ≤ 1073741824) : Ok Tryz.prog 63 [.agg (aD a), .agg (bU x)] (.tup [.agg (aL .view (nV a x).1), .bool (nV a x).2]) := by
  have c1 := oN a (by omega)
  simp only [aK] at ha
  have c2 := oF x hl
  have c4 := aB5
  have hb : eG x = true → (eY x.policy).2 = true := by
    intro h
    simp only [eG, Bool.and_eq_true] at h
    exact h.2
  simp only [bS] at hl
  have c3 : Ok Tryz.prog 103 [.str x.policy] (.tup [.agg (cB .view (eY x.policy).1), .bool (eY x.policy).2]) := sP x.policy (by omega)
  simp only [aD] at c1
  simp only [bU] at c2
  simp only [cB] at c3
  simp only [fQ, nZ, List.map_cons, List.map_nil, eB, kM] at c4
  rw [aNu]
  generalize mR a = b1 at *
  generalize eG x = b2 at *
  generalize (eY x.policy).1 = q at *
  generalize (eY x.policy).2 = b4 at *
  have bad : (b1 = false ∨ b2 = false ∨ x.status ≠ 200 ∨ x.kind ≠ 1) → Ok Tryz.prog 63 [.agg (aD a), .agg (bU x)] (.tup [.agg (aL .own sO), .bool false]) := by
    intro h
    by_cases h1 : x.status = 200 <;> by_cases h2 : x.kind = 1 <;> cases b1 <;> cases b2 <;> cases b4
    all_goals first
      | exact (Bool.false_ne_true (hb rfl)).elim
      | (exfalso; simp_all; done)
      | ((try rw [h1] at c2)
         (try rw [h2] at c2)
         refine xB Tryz.mix Tryz.func63 Tryz.ntmps63 ?_
         have W := And.intro h1 h2
         repeat' first|refine st ?_|(refine nx ?_;first|refine se ?_|refine so ?_)|(refine cx ?_;refine sc (fun hc=>?_) (fun hc=>?_)<;>try exact hc.elim)|(refine lx ?_;refine sp (fun hc=>?_) (fun hc=>?_)<;>try exact hc.elim)|refine sx ?_ ?_|refine sy ?_ ?_|fail
         all_goals (try (first | (refine ⟨.inr rfl, .inl ?_⟩; simp [fM, Tryz.results63, sO, mH, h1, h2]; done) | (refine ⟨.inr rfl, .inr (jE ?_)⟩; simp [AS.rvB, AS.rvs, AS.rv, Tryz.results63, sO, mH, h1, h2]; done) | (refine ⟨.inr rfl, .inl ?_⟩; simp [fM, Tryz.results63, sO, mH, h1, h2])))
         done)
  have good : b1 = true → b2 = true → x.status = 200 → x.kind = 1 → Ok Tryz.prog 63 [.agg (aD a), .agg (bU x)] (.tup [.agg [.str a.host, .str a.path, .bool q.isSet, .sl .view 1 (q.scripts.map bZ), .sl .view 1 (q.styles.map bZ), .sl .view 1 (q.images.map bZ), .str q.nonce, .str [], .sl .own 4 [], .bool false, .sl .own 4 [[.str [112, 97, 103, 101], .str [], .int .i64 (-1), .sl .own 2 []]], .sl .own 1 [[.int .i64 0]], .sl .own 8 [], .sl .own 5 [], .sl .own 2 [], .int .i64 0, .int .i64 0, .int .i64 0, .int .i64 0, .sl .own 2 [], .sl .own 1 [], .bool false], .bool true]) := by
    intro h1 h2 h3 h4
    have hb' := hb h2
    subst h1; subst h2; subst hb'
    rw [h3, h4] at c2
    refine xB Tryz.mix Tryz.func63 Tryz.ntmps63 ?_
    have W := And.intro h3 h4
    repeat' first|refine st ?_|(refine nx ?_;first|refine se ?_|refine so ?_)|(refine cx ?_;refine sc (fun hc=>?_) (fun hc=>?_)<;>try exact hc.elim)|(refine lx ?_;refine sp (fun hc=>?_) (fun hc=>?_)<;>try exact hc.elim)|refine sx ?_ ?_|refine sy ?_ ?_|fail
    all_goals (try (first | (refine ⟨.inr rfl, .inl ?_⟩; simp [fM, Tryz.results63, h3, h4]; done) | (refine ⟨.inr rfl, .inr (jE ?_)⟩; simp [AS.rvB, AS.rvs, AS.rv, Tryz.results63, h3, h4]; done) | (refine ⟨.inr rfl, .inl ?_⟩; simp [fM, Tryz.results63, h3, h4])))
  by_cases hc : (!b1 || !b2 || !decide (x.status = 200) || !decide (x.kind = 1)) = true
  · rw [if_pos hc]
    refine (bad ?_).vwas (by simp [rt, rtc, rtr, sO, mH])
    simp only [Bool.or_eq_true, Bool.not_eq_true', decide_eq_false_iff_not] at hc
    rcases hc with ((h | h) | h) | h
    · exact .inl h
    · exact .inr (.inl h)
    · exact .inr (.inr (.inl h))
    · exact .inr (.inr (.inr h))
  · rw [if_neg hc]
    simp only [Bool.or_eq_true, Bool.not_eq_true', decide_eq_false_iff_not, not_or, Bool.not_eq_false, Decidable.not_not] at hc
    exact (good hc.1.1.1 hc.1.1.2 hc.1.2 hc.2).vwas (by simp [rt, rtc, rtr, aDx, nZ])
end Go.Proofs.YtgkllebnnakojaaGreatDoor
