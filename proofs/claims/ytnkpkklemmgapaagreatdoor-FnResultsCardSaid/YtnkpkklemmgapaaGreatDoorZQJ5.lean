/- Proved here: steps towards the statement of this claim. No condition. -/
import Derived.Test.YtnkpkklemmgapaaGreatDoorZQTKB
import Derived.Test.YtnkpkklemmgapaaGreatDoorZJ4
set_option linter.all false
set_option maxRecDepth 4000
set_option maxHeartbeats 4000000
namespace Go.Proofs.YtnkpkklemmgapaaGreatDoor
open Go.Aw Proofs.Tryz List IntKind
def jD(x:bE):Bool:=
 (decide (100<=x.status)&&decide (x.status<=599))&&(decide (1<=x.kind)&&decide (x.kind<=5))&&decide (x.body.length<=400)&&(decide (0<=x.age)&&decide (x.age<=1000))&&(jH x.bM).2
theorem wT[aB prog][dY prog](x:bE)(hl:dE x<=1073741824):Ok prog 179 [.agg (cZ x)] (.bool (jD x)):=by
 simp only[dE]at hl;have c0:Ok prog 187 [.str x.bM] (.iP [.agg (dK .view (jH x.bM).1),.bool (jH x.bM).2]):=AO x.bM (by omega);have c1:=eX x.status 100 599;have c2:=eX x.kind 1 5;have c3:=eX x.age 0 1000;have e:decide (x.body.length<=400)=decide ((x.body.length:Int)<=400):=by simp only[pB];omega
 unfold jD;rw[e];generalize (decide (100<=x.status)&&decide (x.status<=599))=b1 at*;generalize (decide (1<=x.kind)&&decide (x.kind<=5))=b2 at*;generalize (decide (0<=x.age)&&decide (x.age<=1000))=b3 at*;generalize (jH x.bM).1=q at*;generalize (jH x.bM).2=b4 at*;simp only[dK]at c0;refine dL aO func179 ntmps179 ?_;have W:=trivial;repeat' first|refine wf ?_|(refine sq ?_ ?_<;>intro hc<;>try exact hc.elim)|fail
 all_goals try(refine aZ ?_;simp[aX,results179])
 all_goals first|(simp_all;done)|(simp_all;omega)|(simp_all;intros;omega)
def pY:aY:=⟨[⟨[112,97,103,101],[], -1,[]⟩],[0]⟩
theorem Kw[aB prog][dY prog]:Ok prog 188 [] (.agg (aW .own pY)):=by
 refine dL aO func188 ntmps188 ?_;have W:=trivial;repeat' first|refine st ?_|(refine nx ?_;first|refine se ?_|refine so ?_)|(refine cx ?_;refine sc (λhc=>?_) (λhc=>?_)<;>try exact hc.elim)|(refine lx ?_;refine sp (λhc=>?_) (λhc=>?_)<;>try exact hc.elim)|refine sx ?_ ?_|refine sy ?_ ?_|fail
 all_goals try(refine aZ ?_;simp[aX,results188,pY])
def Fh:aC:=⟨⟨[],[]⟩,AJ,⟨[]⟩,[],false,⟨[],[]⟩,[],[],[],0,0,0,0,[],[],false⟩
def VU(a:aK)(p:fU):aC:=⟨a,p,⟨[]⟩,[],false,pY,[],[],[],0,0,0,0,[],[],false⟩
def wU(a:aK)(x:bE):aC×Bool:=
 if vG a=true/\jD x=true/\x.status=200/\x.kind=1 then(VU a (jH x.bM).1,true)else(Fh,false)
theorem mq(a:aK)(x:bE):wU a x=if (!vG a || !jD x || !decide (x.status=200) || !decide (x.kind=1))=true then(Fh,false)else(VU a (jH x.bM).1,true):=by unfold wU;cases vG a<;>cases jD x<;>by_cases h1:x.status=200<;>by_cases h2:x.kind=1<;>simp[h1,h2]
theorem Qy[aB prog][dY prog](a:aK)(x:bE)(ha:aP a <= 1073741824)(hl:dE x <= 1073741824): Ok prog 142 [.agg (bC a), .agg (cZ x)] (.iP [.agg (aQ .view (wU a x).1), .bool (wU a x).2]) := by
  have c1 := uV a (by omega);simp only[aP]at ha;have c2 := wT x hl;have c4 := Kw;have hb:jD x = true -> (jH x.bM).2 = true := by
    intro h;simp only[jD, eI]at h;exact h.2
  simp only[dE]at hl;have c3:Ok prog 187 [.str x.bM] (.iP [.agg (dK .view (jH x.bM).1), .bool (jH x.bM).2]) := AO x.bM (by omega);simp only[bC]at c1;simp only[cZ]at c2;simp only[dK]at c3;simp only[aW, pY, lA, Ds, fC, lI]at c4;rw[mq];generalize vG a = b1 at*;generalize jD x = b2 at*;generalize (jH x.bM).1 = q at*;generalize (jH x.bM).2 = b4 at*;have bad:(b1 = false \/ b2 = false \/ x.status ≠ 200 \/ x.kind ≠ 1) -> Ok prog 142 [.agg (bC a), .agg (cZ x)] (.iP [.agg (aQ .own Fh), .bool false]) := by
    intro h;by_cases h1:x.status = 200 <;> by_cases h2:x.kind = 1 <;> cases b1 <;> cases b2 <;> cases b4;all_goals first
      | exact(Bool.false_ne_true (hb rfl)).elim
      | (exfalso; simp_all; done)
      | ((try rw[h1]at c2)
         (try rw[h2]at c2)
         refine Sv aO func142 ntmps142 ?_;have W := aA h1 h2;repeat' first|refine st ?_|(refine nx ?_;first|refine se ?_|refine so ?_)|(refine cx ?_;refine sc (λhc=>?_) (λhc=>?_)<;>try exact hc.elim)|(refine lx ?_;refine sp (λhc=>?_) (λhc=>?_)<;>try exact hc.elim)|refine sx ?_ ?_|refine sy ?_ ?_|fail
         all_goals try(first | (refine⟨.inr rfl, .inl ?_⟩; simp[mG, results142, Fh, AJ, h1, h2]; done) | (refine⟨.inr rfl, .inr (pX ?_)⟩; simp[AS.EF, AS.Ce, AS.rv, results142, Fh, AJ, h1, h2]; done) | (refine⟨.inr rfl, .inl ?_⟩; simp[mG, results142, Fh, AJ, h1, h2]))
         done)
  have Ab:b1 = true -> b2 = true -> x.status = 200 -> x.kind = 1 -> Ok prog 142 [.agg (bC a), .agg (cZ x)] (.iP [.agg [.str a.host, .str a.path, .bool q.isSet, .sl .view 1 (q.lG.map dQ), .sl .view 1 (q.oC.map dQ), .sl .view 1 (q.oD.map dQ), .str q.vQ, .str [], .sl .own 4 [], .bool false, .sl .own 4 [[.str [112, 97, 103, 101], .str [], .int .i64 (-1), .sl .own 2 []]], .sl .own 1 [[.int .i64 0]], .sl .own 8 [], .sl .own 5 [], .sl .own 2 [], .int .i64 0, .int .i64 0, .int .i64 0, .int .i64 0, .sl .own 2 [], .sl .own 1 [], .bool false], .bool true]) := by
    intro h1 h2 h3 h4;have hb' := hb h2;subst h1; subst h2; subst hb';rw[h3, h4]at c2;refine Sv aO func142 ntmps142 ?_;have W := aA h3 h4;repeat' first|refine st ?_|(refine nx ?_;first|refine se ?_|refine so ?_)|(refine cx ?_;refine sc (λhc=>?_) (λhc=>?_)<;>try exact hc.elim)|(refine lx ?_;refine sp (λhc=>?_) (λhc=>?_)<;>try exact hc.elim)|refine sx ?_ ?_|refine sy ?_ ?_|fail
    all_goals try(first | (refine⟨.inr rfl, .inl ?_⟩; simp[mG, results142, h3, h4]; done) | (refine⟨.inr rfl, .inr (pX ?_)⟩; simp[AS.EF, AS.Ce, AS.rv, results142, h3, h4]; done) | (refine⟨.inr rfl, .inl ?_⟩; simp[mG, results142, h3, h4]))
  by_cases hc:(!b1 || !b2 || !decide (x.status = 200) || !decide (x.kind = 1)) = true
  · rw[eW hc]
    refine(bad ?_).Dt (by simp[rt, qD, iI, Fh, AJ]);simp only[sE, xF, pL]at hc;rcases hc with((h | h) | h) | h
    · exact .inl h
    · exact .inr (.inl h)
    · exact .inr (.inr (.inl h))
    · exact .inr (.inr (.inr h))
  · rw[eK hc]
    simp only[sE, xF, pL, not_or, Bool.not_eq_false, Decidable.not_not]at hc;exact(Ab hc.1.1.1 hc.1.1.2 hc.1.2 hc.2).Dt (by simp[rt, qD, iI, VU, pY])
end Go.Proofs.YtnkpkklemmgapaaGreatDoor
