/- Proved here: steps towards the statement of this claim. No condition. -/
import Derived.Test.YthddijamfbfibaaGreatDoorZQA0
set_option linter.all false
set_option maxRecDepth 4000
set_option maxHeartbeats 4000000
namespace Go.Proofs.YthddijamfbfibaaGreatDoor
open Go.Aw Proofs.Tryz List IntKind
def xC(c:UInt8):Bool:=(decide (97<=c.toNat)&&decide (c.toNat<=122)) || (decide (48<=c.toNat)&&decide (c.toNat<=57)) || decide (c.toNat=47)
def isValue(s:bB):Bool:=s.all xC&&(decide (1<=s.length)&&decide (s.length<=20))
theorem jq{s:bB}{k:Nat}(h:k<s.length)(hc:xC s[k]=false):isValue s=false:=by
 have:s.all xC=false:=by rw[all_eq_false];exact⟨s[k],fS h,by simp[hc]⟩
 simp[isValue,this]
theorem XD{s:bB}(h:∀x∈s,xC x=true):isValue s=(decide ((1:Int)<=s.length)&&decide ((s.length:Int)<=20)):=by
 have:s.all xC=true:=fR.2 h;have h1:decide ((1:Int)<=s.length)=decide (1<=s.length):=by simp only[sR];omega
 have h2:decide ((s.length:Int)<=20)=decide (s.length<=20):=by simp only[sR];omega
 rw[isValue,this,h1,h2,CH]
theorem yK[aB prog](s:bB)(hl:s.length <= 1099511627776): Ok prog 194 [.str s] (.bool (isValue s)) := by
  have h1 := gH s.length 1 20;refine bM aG func194 ntmps194 ?_;refine aZ ?_;refine aM (ι := { k:Nat // k <= s.length /\ ∀ x ∈ s.take k, xC x = true }) (λt o i => ⟨bC t [(3, .int .i64 i.1)], o⟩)
    (λi => s.length-i.1) ⟨0, by simp, by simp⟩ aK ?_
  rintro⟨k, hk, hi⟩ K1 hK1;simp only[bC, cW, cU]at hK1 ⊢;have hk1 := oQ (k := k) (by omega);by_cases hlt:k<s.length
  · have hg := aE hlt
    have W := aA hk1 (aA hg hlt);repeat' first|refine wf ?_|(refine sq ?_ ?_<;>intro hc<;>try exact hc.elim)|fail
    all_goals first
      | exact hK1 _ ⟨k+1, by omega, bZ hlt hi (by simp[xC]; omega)⟩ aK (by simp only; omega)
      | (rw[jq hlt (by simp[xC]; omega)]
         all_goals try(refine aR ?_; simp[aP, results194])
         done)
  · have W := hk1
    refine we ?_;all_goals try(refine aR ?_; simp[aP, results194])
    rw[XD (iW (by omega) hi)]
theorem BV[aB prog](s:bB)(hl:s.length <= 1099511627776): Ok prog 225 [.str s] (.bool (isValue s)) := by
  have h1 := jR s.length 1 20;refine bM aG func225 ntmps225 ?_;refine aZ ?_;refine aM (ι := { k:Nat // k <= s.length /\ ∀ x ∈ s.take k, xC x = true }) (λt o i => ⟨bC t [(3, .int .i64 i.1)], o⟩)
    (λi => s.length-i.1) ⟨0, by simp, by simp⟩ aK ?_
  rintro⟨k, hk, hi⟩ K1 hK1;simp only[bC, cW, cU]at hK1 ⊢;have hk1 := oQ (k := k) (by omega);by_cases hlt:k<s.length
  · have hg := aE hlt
    have W := aA hk1 (aA hg hlt);repeat' first|refine wf ?_|(refine sq ?_ ?_<;>intro hc<;>try exact hc.elim)|fail
    all_goals first
      | exact hK1 _ ⟨k+1, by omega, bZ hlt hi (by simp[xC]; omega)⟩ aK (by simp only; omega)
      | (rw[jq hlt (by simp[xC]; omega)]
         all_goals try(refine aR ?_; simp[aP, results225])
         done)
  · have W := hk1
    refine we ?_;all_goals try(refine aR ?_; simp[aP, results225])
    rw[XD (iW (by omega) hi)]
def Eg(r:fV):Bool:=(decide (1<=r.kind)&&decide (r.kind<=5))&&pG r.to&&cZ r.frm&&(r.digest == [] || isValue r.digest)
theorem NV[aB prog](r:fV)(hl:jQ r<=1099511627776):Ok prog 253 [.agg (dD r)] (.bool (Eg r)):=by
 simp only[jQ]at hl;have c1:=gH r.kind 1 5;have c2:=rW r.to (by omega);have c3:=fD r.frm (by omega);have c4:=yK r.digest (by omega);simp only[aH]at c2;unfold Eg;generalize (decide (1<=r.kind)&&decide (r.kind<=5))=b1 at*;generalize pG r.to=b2 at*;generalize cZ r.frm=b3 at*;generalize isValue r.digest=b4 at*;refine bM aG func253 ntmps253 ?_;have W:=trivial;repeat' first|refine wf ?_|(refine sq ?_ ?_<;>intro hc<;>try exact hc.elim)|fail
 all_goals try(refine aR ?_;simp[aP,results253])
 all_goals simp_all
theorem NW[aB prog](r:fV)(hl:jQ r<=1099511627776):Ok prog 314 [.agg (dD r)] (.bool (Eg r)):=by
 simp only[jQ]at hl;have c1:=jR r.kind 1 5;have c2:=rX r.to (by omega);have c3:=gL r.frm (by omega);have c4:=BV r.digest (by omega);simp only[aH]at c2;unfold Eg;generalize (decide (1<=r.kind)&&decide (r.kind<=5))=b1 at*;generalize pG r.to=b2 at*;generalize cZ r.frm=b3 at*;generalize isValue r.digest=b4 at*;refine bM aG func314 ntmps314 ?_;have W:=trivial;repeat' first|refine wf ?_|(refine sq ?_ ?_<;>intro hc<;>try exact hc.elim)|fail
 all_goals try(refine aR ?_;simp[aP,results314])
 all_goals simp_all
def Tc(p:eX)(kind:Int)(host:bB):Bool:=
 if p.isSet=false then true else if kind=2\/kind=5 then p.fC.any (λx=>x == host)else if kind=3 then p.gY.any (λx=>x == host)else if kind=4 then p.gZ.any (λx=>x == host)else false
theorem aO8{l:List bB}{k:Nat}(h:k<l.length){n:bB}(hc:l[k]=n):l.any (λx=>x == n)=true:=
 any_eq_true.2 ⟨_,fS h,by simp[hc]⟩
theorem Kk[aB prog](l:List bB)(n:bB)(hl:l.length<=1099511627776):Ok prog 299 [.sl .view 1 (l.map dC),.str n] (.bool (l.any (λx=>x == n))):=by
 refine bM aG func299 ntmps299 ?_;refine aZ ?_;refine aM (ι:={k:Nat // k<=l.length/\∀x∈l.take k,(x == n)=false}) (λt o i=>⟨bC t [(5,.int .i64 i.1)],o⟩)
  (λi=>l.length-i.1) ⟨0,by simp,by simp⟩ aK ?_
 rintro⟨k,hk,hi⟩ K1 hK1;simp only[bC,cW,cU]at hK1⊢;have hk1:=oQ (k:=k);by_cases hlt:k<l.length
 .have hg:=aE hlt;have W:=aA hk1 (aA hg hlt);repeat' first|refine wf ?_|(refine sq ?_ ?_<;>intro hc<;>try exact hc.elim)|fail
  .rw [aO8 hlt hc];all_goals (try exact aF results299)
  .exact hK1 _ ⟨k+1,by omega,bZ hlt hi (by simpa using hc)⟩ aK (by simp only;omega)
 .have W:=hk1;refine we ?_;all_goals try(refine aR ?_;simp[aP,results299])
  have:=iW (by omega) hi;simpa using this
theorem jr[aB prog](l:List bB)(n:bB)(hl:l.length<=1099511627776):Ok prog 342 [.sl .view 1 (l.map dC),.str n] (.int .i64 (qO (λx=>x == n) l)):=by
 refine bM aG func342 ntmps342 ?_;refine aZ ?_;refine aM (ι:={k:Nat // k<=l.length/\∀x∈l.take k,(x == n)=false}) (λt o i=>⟨bC t [(8,.int .i64 i.1),(5,.undef)],o⟩)
  (λi=>l.length-i.1) ⟨0,by simp,by simp⟩ aK ?_
 rintro⟨k,hk,hi⟩ K1 hK1;simp only[bC,cW,cU]at hK1⊢;have hk1:=oQ (k:=k);by_cases hlt:k<l.length
 .have hg:=aE hlt;have W:=aA hk1 (aA hg hlt);repeat' first|refine wf ?_|(refine sq ?_ ?_<;>intro hc<;>try exact hc.elim)|fail
  .all_goals try(refine aR ?_;simp[aP,results342])
   rw[uY hlt (by simp[hc]) hi]
  .exact hK1 _ ⟨k+1,by omega,bZ hlt hi (by simp only[rK];intro h;exact hc h.symm)⟩ aK (by simp only;omega)
 .have W:=hk1;refine we ?_;all_goals try(refine aR ?_;simp[aP,results342])
  rw[nN (iW (by omega) hi)]
theorem BX[aB prog](l:List bB)(n:bB)(hl:l.length<=1099511627776):Ok prog 333 [.sl .view 1 (l.map dC),.str n] (.bool (l.any (λx=>x == n))):=by
 have c1:=jr l n hl;refine bM aG func333 ntmps333 ?_;refine aZ ?_;all_goals try(refine aR ?_;simp[aP,results333])
 exact GH _ _
theorem VW[aB prog](p:eX)(kind:Int)(host:bB)(hs:eF p<=1099511627776):Ok prog 254 [.agg (bN .view p),.int .i64 kind,.str host] (.bool (Tc p kind host)):=by
 simp only[eF,bP]at hs;have c1:=Kk p.fC host (by omega);have c2:=Kk p.gY host (by omega);have c3:=Kk p.gZ host (by omega);unfold Tc;refine bM aG func254 ntmps254 ?_;have W:=trivial;repeat' first|refine wf ?_|(refine sq ?_ ?_<;>intro hc<;>try exact hc.elim)|fail
 all_goals try(refine aR ?_;simp[aP,results254])
 all_goals simp_all
theorem VX[aB prog](p:eX)(kind:Int)(host:bB)(hs:eF p<=1099511627776):Ok prog 315 [.agg (bN .view p),.int .i64 kind,.str host] (.bool (Tc p kind host)):=by
 simp only[eF,bP]at hs;have c1:=BX p.fC host (by omega);have c2:=BX p.gY host (by omega);have c3:=BX p.gZ host (by omega);unfold Tc;refine bM aG func315 ntmps315 ?_;have W:=trivial;repeat' first|refine wf ?_|(refine sq ?_ ?_<;>intro hc<;>try exact hc.elim)|fail
 all_goals try(refine aR ?_;simp[aP,results315])
 all_goals simp_all
def fE(p:eX)(r:fV):Int:=if Eg r=false\/(r.kind≠1/\Tc p r.kind r.to.host=false)then 2 else 1
theorem wO[aB prog](p:eX)(r:fV)(hs:eF p<=1099511627776)(hl:jQ r<=1099511627776):Ok prog 196 [.agg (bN .view p),.agg (dD r)] (.int .i64 (fE p r)):=by
 have c1:=NV r hl;have c2:=VW p r.kind r.to.host hs;simp only[dD]at c1;simp only[bN]at c2;unfold fE;refine bM aG func196 ntmps196 ?_;have W:=trivial;repeat' first|refine wf ?_|(refine sq ?_ ?_<;>intro hc<;>try exact hc.elim)|fail
 all_goals try(refine aR ?_;simp[aP,results196])
 all_goals simp_all
theorem wP[aB prog](p:eX)(r:fV)(hs:eF p<=1099511627776)(hl:jQ r<=1099511627776):Ok prog 284 [.agg (bN .view p),.agg (dD r)] (.int .i64 (fE p r)):=by
 have c1:=NW r hl;have c2:=VX p r.kind r.to.host hs;simp only[dD]at c1;simp only[bN]at c2;unfold fE;refine bM aG func284 ntmps284 ?_;have W:=trivial;repeat' first|refine wf ?_|(refine sq ?_ ?_<;>intro hc<;>try exact hc.elim)|fail
 all_goals try(refine aR ?_;simp[aP,results284])
 all_goals simp_all
end Go.Proofs.YthddijamfbfibaaGreatDoor
