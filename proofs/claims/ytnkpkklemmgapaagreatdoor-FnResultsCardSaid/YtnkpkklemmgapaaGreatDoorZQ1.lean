/- Proved here: steps towards the statement of this claim. No condition. -/
import Derived.Test.YtnkpkklemmgapaaGreatDoorZQA0
set_option linter.all false
set_option maxRecDepth 4000
set_option maxHeartbeats 4000000
namespace Go.Proofs.YtnkpkklemmgapaaGreatDoor
open Go.Aw Proofs.Tryz List IntKind
def Ai(c:UInt8):Bool:=(decide (97<=c.toNat)&&decide (c.toNat<=122)) || (decide (48<=c.toNat)&&decide (c.toNat<=57)) || decide (c.toNat=47)
def isValue(s:aU):Bool:=s.all Ai&&(decide (1<=s.length)&&decide (s.length<=20))
theorem aC0{s:aU}{k:Nat}(h:k<s.length)(hc:Ai s[k]=false):isValue s=false:=by
 have:s.all Ai=false:=by rw[all_eq_false];exact⟨s[k],hI h,by simp[hc]⟩
 simp[isValue,this]
theorem G8{s:aU}(h:∀x∈s,Ai x=true):isValue s=(decide ((1:Int)<=s.length)&&decide ((s.length:Int)<=20)):=by
 have:s.all Ai=true:=fW.2 h;have h1:decide ((1:Int)<=s.length)=decide (1<=s.length):=by simp only[pB];omega
 have h2:decide ((s.length:Int)<=20)=decide (s.length<=20):=by simp only[pB];omega
 rw[isValue,this,h1,h2,tR]
theorem wJ[aB prog](s:aU)(hl:s.length <= 1099511627776): Ok prog 222 [.str s] (.bool (isValue s)) := by
  have h1 := eX s.length 1 20;refine dL aO func222 ntmps222 ?_;refine dH ?_;refine aI (ι := { k:Nat // k <= s.length /\ ∀ x ∈ s.take k, Ai x = true }) (λt o i => ⟨bH t [(3, .int .i64 i.1)], o⟩)
    (λi => s.length-i.1) ⟨0, by simp, by simp⟩ aG ?_
  rintro⟨k, hk, hi⟩ K1 hK1;simp only[bH, cH, cJ]at hK1 ⊢;have hk1 := rE (k := k) (by omega);by_cases hlt:k<s.length
  · have hg := aE hlt
    have W := aA hk1 (aA hg hlt);repeat' first|refine wf ?_|(refine sq ?_ ?_<;>intro hc<;>try exact hc.elim)|fail
    all_goals first
      | exact hK1 _ ⟨k+1, by omega, gB hlt hi (by simp[Ai]; omega)⟩ aG (by simp only; omega)
      | (rw[aC0 hlt (by simp[Ai]; omega)]
         all_goals try(refine aZ ?_; simp[aX, results222])
         done)
  · have W := hk1
    refine we ?_;all_goals try(refine aZ ?_; simp[aX, results222])
    rw[G8 (qM (by omega) hi)]
def LB(r:gG):Bool:=(decide (1<=r.kind)&&decide (r.kind<=5))&&vG r.to&&dJ r.frm&&(r.digest == [] || isValue r.digest)
theorem LC[aB prog](r:gG)(hl:qK r<=1099511627776):Ok prog 234 [.agg (gW r)] (.bool (LB r)):=by
 simp only[qK]at hl;have c1:=eX r.kind 1 5;have c2:=uV r.to (by omega);have c3:=dZ r.frm (by omega);have c4:=wJ r.digest (by omega);simp only[bC]at c2;unfold LB;generalize (decide (1<=r.kind)&&decide (r.kind<=5))=b1 at*;generalize vG r.to=b2 at*;generalize dJ r.frm=b3 at*;generalize isValue r.digest=b4 at*;refine dL aO func234 ntmps234 ?_;have W:=trivial;repeat' first|refine wf ?_|(refine sq ?_ ?_<;>intro hc<;>try exact hc.elim)|fail
 all_goals try(refine aZ ?_;simp[aX,results234])
 all_goals simp_all
def jb(p:fU)(kind:Int)(host:aU):Bool:=
 if p.isSet=false then true else if kind=2\/kind=5 then p.lG.any (λx=>x == host)else if kind=3 then p.oC.any (λx=>x == host)else if kind=4 then p.oD.any (λx=>x == host)else false
theorem aLq{l:List aU}{k:Nat}(h:k<l.length){n:aU}(hc:l[k]=n):l.any (λx=>x == n)=true:=
 any_eq_true.2 ⟨_,hI h,by simp[hc]⟩
theorem Iu[aB prog](l:List aU)(n:aU)(hl:l.length<=1099511627776):Ok prog 248 [.sl .view 1 (l.map dQ),.str n] (.bool (l.any (λx=>x == n))):=by
 refine dL aO func248 ntmps248 ?_;refine dH ?_;refine aI (ι:={k:Nat // k<=l.length/\∀x∈l.take k,(x == n)=false}) (λt o i=>⟨bH t [(5,.int .i64 i.1)],o⟩)
  (λi=>l.length-i.1) ⟨0,by simp,by simp⟩ aG ?_
 rintro⟨k,hk,hi⟩ K1 hK1;simp only[bH,cH,cJ]at hK1⊢;have hk1:=rE (k:=k);by_cases hlt:k<l.length
 .have hg:=aE hlt;have W:=aA hk1 (aA hg hlt);repeat' first|refine wf ?_|(refine sq ?_ ?_<;>intro hc<;>try exact hc.elim)|fail
  .rw [aLq hlt hc];all_goals (try exact aR results248)
  .exact hK1 _ ⟨k+1,by omega,gB hlt hi (by simpa using hc)⟩ aG (by simp only;omega)
 .have W:=hk1;refine we ?_;all_goals try(refine aZ ?_;simp[aX,results248])
  have:=qM (by omega) hi;simpa using this
theorem Si[aB prog](p:fU)(kind:Int)(host:aU)(hs:gF p<=1099511627776):Ok prog 235 [.agg (dK .view p),.int .i64 kind,.str host] (.bool (jb p kind host)):=by
 simp only[gF,bV]at hs;have c1:=Iu p.lG host (by omega);have c2:=Iu p.oC host (by omega);have c3:=Iu p.oD host (by omega);unfold jb;refine dL aO func235 ntmps235 ?_;have W:=trivial;repeat' first|refine wf ?_|(refine sq ?_ ?_<;>intro hc<;>try exact hc.elim)|fail
 all_goals try(refine aZ ?_;simp[aX,results235])
 all_goals simp_all
def iW(p:fU)(r:gG):Int:=if LB r=false\/(r.kind≠1/\jb p r.kind r.to.host=false)then 2 else 1
theorem uM[aB prog](p:fU)(r:gG)(hs:gF p<=1099511627776)(hl:qK r<=1099511627776):Ok prog 199 [.agg (dK .view p),.agg (gW r)] (.int .i64 (iW p r)):=by
 have c1:=LC r hl;have c2:=Si p r.kind r.to.host hs;simp only[gW]at c1;simp only[dK]at c2;unfold iW;refine dL aO func199 ntmps199 ?_;have W:=trivial;repeat' first|refine wf ?_|(refine sq ?_ ?_<;>intro hc<;>try exact hc.elim)|fail
 all_goals try(refine aZ ?_;simp[aX,results199])
 all_goals simp_all
end Go.Proofs.YtnkpkklemmgapaaGreatDoor
