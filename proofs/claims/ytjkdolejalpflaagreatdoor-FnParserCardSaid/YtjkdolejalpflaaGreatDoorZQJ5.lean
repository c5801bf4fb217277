/- Proved here: steps towards the statement of this claim. No condition. -/
import Derived.Test.YtjkdolejalpflaaGreatDoorZQJ3
import Derived.Test.YtjkdolejalpflaaGreatDoorZQP5
set_option linter.all false
set_option maxRecDepth 4000
set_option maxHeartbeats 4000000
namespace Go.Proofs.YtjkdolejalpflaaGreatDoor
open Go.Aw Proofs.Tryz List IntKind
def kH(x:dB):Bool:=
 (decide (100<=x.status)&&decide (x.status<=599))&&(decide (1<=x.kind)&&decide (x.kind<=5))&&decide (x.body.length<=400)&&(decide (0<=x.zo)&&decide (x.zo<=1000))&&(iJ x.bC).2
theorem yX[aB prog][eZ prog](x:dB)(hl:gP x<=1073741824):Ok prog 158 [.agg (iD x)] (.bool (kH x)):=by
 simp only[gP]at hl;have c0:Ok prog 166 [.str x.bC] (.fH [.agg (bG .view (iJ x.bC).1),.bool (iJ x.bC).2]):=xR x.bC (by omega);have c1:=eX x.status 100 599;have c2:=eX x.kind 1 5;have c3:=eX x.zo 0 1000;have e:decide (x.body.length<=400)=decide ((x.body.length:Int)<=400):=by simp only[pZ];omega
 unfold kH;rw[e];generalize (decide (100<=x.status)&&decide (x.status<=599))=b1 at*;generalize (decide (1<=x.kind)&&decide (x.kind<=5))=b2 at*;generalize (decide (0<=x.zo)&&decide (x.zo<=1000))=b3 at*;generalize (iJ x.bC).1=q at*;generalize (iJ x.bC).2=b4 at*;simp only[bG]at c0;refine dA aJ func158 ntmps158 ?_;have W:=trivial;repeat' first|refine wf ?_|(refine sq ?_ ?_<;>intro hc<;>try exact hc.elim)|fail
 all_goals try(refine aP ?_;simp[aT,results158])
 all_goals first|(simp_all;done)|(simp_all;omega)|(simp_all;intros;omega)
def uV:aV:=⟨[⟨[112,97,103,101],[], -1,[]⟩],[0]⟩
theorem Gj[aB prog][eZ prog]:Ok prog 167 [] (.agg (aH .own uV)):=by
 refine dA aJ func167 ntmps167 ?_;have W:=trivial;repeat' first|refine st ?_|(refine nx ?_;first|refine se ?_|refine so ?_)|(refine cx ?_;refine sc (λhc=>?_) (λhc=>?_)<;>try exact hc.elim)|(refine lx ?_;refine sp (λhc=>?_) (λhc=>?_)<;>try exact hc.elim)|refine sx ?_ ?_|refine sy ?_ ?_|fail
 all_goals try(refine aP ?_;simp[aT,results167,uV])
def Cy:aW:=⟨⟨[],[]⟩,xQ,⟨[]⟩,[],false,⟨[],[]⟩,[],[],[],0,0,0,0,[],[],false⟩
def QG(a:gH)(p:dS):aW:=⟨a,p,⟨[]⟩,[],false,uV,[],[],[],0,0,0,0,[],[],false⟩
def wN(a:gH)(x:dB):aW×Bool:=
 if uK a=true/\kH x=true/\x.status=200/\x.kind=1 then(QG a (iJ x.bC).1,true)else(Cy,false)
theorem We(a:gH)(x:dB):wN a x=if (!uK a || !kH x || !decide (x.status=200) || !decide (x.kind=1))=true then(Cy,false)else(QG a (iJ x.bC).1,true):=by unfold wN;cases uK a<;>cases kH x<;>by_cases h1:x.status=200<;>by_cases h2:x.kind=1<;>simp[h1,h2]
theorem MC[aB prog][eZ prog](a:gH)(x:dB)(ha:eB a <= 1073741824)(hl:gP x <= 1073741824): Ok prog 135 [.agg (dI a), .agg (iD x)] (.fH [.agg (aL .view (wN a x).1), .bool (wN a x).2]) := by
  have c1 := uY a (by omega);simp only[eB]at ha;have c2 := yX x hl;have c4 := Gj;have hb:kH x = true -> (iJ x.bC).2 = true := by
    intro h;simp only[kH, eC]at h;exact h.2
  simp only[gP]at hl;have c3:Ok prog 166 [.str x.bC] (.fH [.agg (bG .view (iJ x.bC).1), .bool (iJ x.bC).2]) := xR x.bC (by omega);simp only[dI]at c1;simp only[iD]at c2;simp only[bG]at c3;simp only[aH, uV, mS, map_nil, dK, nP]at c4;rw[We];generalize uK a = b1 at*;generalize kH x = b2 at*;generalize (iJ x.bC).1 = q at*;generalize (iJ x.bC).2 = b4 at*;have bad:(b1 = false \/ b2 = false \/ x.status ≠ 200 \/ x.kind ≠ 1) -> Ok prog 135 [.agg (dI a), .agg (iD x)] (.fH [.agg (aL .own Cy), .bool false]) := by
    intro h;by_cases h1:x.status = 200 <;> by_cases h2:x.kind = 1 <;> cases b1 <;> cases b2 <;> cases b4;all_goals first
      | exact(Bool.false_ne_true (hb rfl)).elim
      | (exfalso; simp_all; done)
      | ((try rw[h1]at c2)
         (try rw[h2]at c2)
         refine NK aJ func135 ntmps135 ?_;have W := aA h1 h2;repeat' first|refine st ?_|(refine nx ?_;first|refine se ?_|refine so ?_)|(refine cx ?_;refine sc (λhc=>?_) (λhc=>?_)<;>try exact hc.elim)|(refine lx ?_;refine sp (λhc=>?_) (λhc=>?_)<;>try exact hc.elim)|refine sx ?_ ?_|refine sy ?_ ?_|fail
         all_goals try(first | (refine⟨.inr rfl, .inl ?_⟩; simp[kW, results135, Cy, xQ, h1, h2]; done) | (refine⟨.inr rfl, .inr (nJ ?_)⟩; simp[AS.zI, AS.wI, AS.rv, results135, Cy, xQ, h1, h2]; done) | (refine⟨.inr rfl, .inl ?_⟩; simp[kW, results135, Cy, xQ, h1, h2]))
         done)
  have Gw:b1 = true -> b2 = true -> x.status = 200 -> x.kind = 1 -> Ok prog 135 [.agg (dI a), .agg (iD x)] (.fH [.agg [.str a.host, .str a.path, .bool q.isSet, .sl .view 1 (q.iC.map dR), .sl .view 1 (q.jY.map dR), .sl .view 1 (q.jZ.map dR), .str q.pX, .str [], .sl .own 4 [], .bool false, .sl .own 4 [[.str [112, 97, 103, 101], .str [], .int .i64 (-1), .sl .own 2 []]], .sl .own 1 [[.int .i64 0]], .sl .own 8 [], .sl .own 5 [], .sl .own 2 [], .int .i64 0, .int .i64 0, .int .i64 0, .int .i64 0, .sl .own 2 [], .sl .own 1 [], .bool false], .bool true]) := by
    intro h1 h2 h3 h4;have hb' := hb h2;subst h1; subst h2; subst hb';rw[h3, h4]at c2;refine NK aJ func135 ntmps135 ?_;have W := aA h3 h4;repeat' first|refine st ?_|(refine nx ?_;first|refine se ?_|refine so ?_)|(refine cx ?_;refine sc (λhc=>?_) (λhc=>?_)<;>try exact hc.elim)|(refine lx ?_;refine sp (λhc=>?_) (λhc=>?_)<;>try exact hc.elim)|refine sx ?_ ?_|refine sy ?_ ?_|fail
    all_goals try(first | (refine⟨.inr rfl, .inl ?_⟩; simp[kW, results135, h3, h4]; done) | (refine⟨.inr rfl, .inr (nJ ?_)⟩; simp[AS.zI, AS.wI, AS.rv, results135, h3, h4]; done) | (refine⟨.inr rfl, .inl ?_⟩; simp[kW, results135, h3, h4]))
  by_cases hc:(!b1 || !b2 || !decide (x.status = 200) || !decide (x.kind = 1)) = true
  · rw[eA hc]
    refine(bad ?_).Cx (by simp[rt, pM, iL, Cy, xQ]);simp only[tW, CC, qS]at hc;rcases hc with((h | h) | h) | h
    · exact .inl h
    · exact .inr (.inl h)
    · exact .inr (.inr (.inl h))
    · exact .inr (.inr (.inr h))
  · rw[cU hc]
    simp only[tW, CC, qS, not_or, Bool.not_eq_false, Decidable.not_not]at hc;exact(Gw hc.1.1.1 hc.1.1.2 hc.1.2 hc.2).Cx (by simp[rt, pM, iL, QG, uV])
end Go.Proofs.YtjkdolejalpflaaGreatDoor
