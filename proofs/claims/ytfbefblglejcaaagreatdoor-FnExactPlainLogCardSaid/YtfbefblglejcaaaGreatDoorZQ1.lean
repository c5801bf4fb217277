/- Proved here: steps towards the statement of this claim. No condition. -/
import Derived.Test.YtfbefblglejcaaaGreatDoorZQU2
set_option linter.all false
set_option maxRecDepth 4000
set_option maxHeartbeats 4000000
namespace Go.Proofs.YtfbefblglejcaaaGreatDoor
open Go.Aw Proofs.Tryz List IntKind
def wY(c:UInt8):Bool:=(decide (97<=c.toNat)&&decide (c.toNat<=122)) || (decide (48<=c.toNat)&&decide (c.toNat<=57)) || decide (c.toNat=47)
def isValue(s:bB):Bool:=s.all wY&&(decide (1<=s.length)&&decide (s.length<=20))
theorem au{s:bB}{k:Nat}(h:k<s.length)(hc:wY s[k]=false):isValue s=false:=by
 have:s.all wY=false:=by rw[all_eq_false];exact⟨s[k],fS h,by simp[hc]⟩
 simp[isValue,this]
theorem Wn{s:bB}(h:∀x∈s,wY x=true):isValue s=(decide ((1:Int)<=s.length)&&decide ((s.length:Int)<=20)):=by
 have:s.all wY=true:=fN.2 h;have h1:decide ((1:Int)<=s.length)=decide (1<=s.length):=by simp only[rS];omega
 have h2:decide ((s.length:Int)<=20)=decide (s.length<=20):=by simp only[rS];omega
 rw[isValue,this,h1,h2,Cp]
theorem yH[aC prog](s:bB)(hl:s.length <= 1099511627776): Ok prog 182 [.str s] (.bool (isValue s)) := by
  have h1 := gI s.length 1 20;refine bM aF func182 ntmps182 ?_;refine aY ?_;refine aO (ι := { k:Nat // k <= s.length /\ ∀ x ∈ s.take k, wY x = true }) (λt o i => ⟨bC t [(3, .int .i64 i.1)], o⟩)
    (λi => s.length-i.1) ⟨0, by simp, by simp⟩ aJ ?_
  rintro⟨k, hk, hi⟩ K1 hK1;simp only[bC, cW, cU]at hK1 ⊢;have hk1 := oQ (k := k) (by omega);by_cases hlt:k<s.length
  · have hg := aE hlt
    have W := aA hk1 (aA hg hlt);repeat' first|refine wf ?_|(refine sq ?_ ?_<;>intro hc<;>try exact hc.elim)|fail
    all_goals first
      | exact hK1 _ ⟨k+1, by omega, cB hlt hi (by simp[wY]; omega)⟩ aJ (by simp only; omega)
      | (rw[au hlt (by simp[wY]; omega)]
         all_goals try(refine aQ ?_; simp[aP, results182])
         done)
  · have W := hk1
    refine we ?_;all_goals try(refine aQ ?_; simp[aP, results182])
    rw[Wn (iR (by omega) hi)]
theorem BI[aC prog](s:bB)(hl:s.length <= 1099511627776): Ok prog 214 [.str s] (.bool (isValue s)) := by
  have h1 := jM s.length 1 20;refine bM aF func214 ntmps214 ?_;refine aY ?_;refine aO (ι := { k:Nat // k <= s.length /\ ∀ x ∈ s.take k, wY x = true }) (λt o i => ⟨bC t [(3, .int .i64 i.1)], o⟩)
    (λi => s.length-i.1) ⟨0, by simp, by simp⟩ aJ ?_
  rintro⟨k, hk, hi⟩ K1 hK1;simp only[bC, cW, cU]at hK1 ⊢;have hk1 := oQ (k := k) (by omega);by_cases hlt:k<s.length
  · have hg := aE hlt
    have W := aA hk1 (aA hg hlt);repeat' first|refine wf ?_|(refine sq ?_ ?_<;>intro hc<;>try exact hc.elim)|fail
    all_goals first
      | exact hK1 _ ⟨k+1, by omega, cB hlt hi (by simp[wY]; omega)⟩ aJ (by simp only; omega)
      | (rw[au hlt (by simp[wY]; omega)]
         all_goals try(refine aQ ?_; simp[aP, results214])
         done)
  · have W := hk1
    refine we ?_;all_goals try(refine aQ ?_; simp[aP, results214])
    rw[Wn (iR (by omega) hi)]
def DU(r:fV):Bool:=(decide (1<=r.kind)&&decide (r.kind<=5))&&oZ r.to&&dA r.frm&&(r.digest == [] || isValue r.digest)
theorem Nw[aC prog](r:fV)(hl:jL r<=1099511627776):Ok prog 232 [.agg (dD r)] (.bool (DU r)):=by
 simp only[jL]at hl;have c1:=gI r.kind 1 5;have c2:=rP r.to (by omega);have c3:=fD r.frm (by omega);have c4:=yH r.digest (by omega);simp only[aL]at c2;unfold DU;generalize (decide (1<=r.kind)&&decide (r.kind<=5))=b1 at*;generalize oZ r.to=b2 at*;generalize dA r.frm=b3 at*;generalize isValue r.digest=b4 at*;refine bM aF func232 ntmps232 ?_;have W:=trivial;repeat' first|refine wf ?_|(refine sq ?_ ?_<;>intro hc<;>try exact hc.elim)|fail
 all_goals try(refine aQ ?_;simp[aP,results232])
 all_goals simp_all
theorem Ny[aC prog](r:fV)(hl:jL r<=1099511627776):Ok prog 288 [.agg (dD r)] (.bool (DU r)):=by
 simp only[jL]at hl;have c1:=jM r.kind 1 5;have c2:=rQ r.to (by omega);have c3:=gL r.frm (by omega);have c4:=BI r.digest (by omega);simp only[aL]at c2;unfold DU;generalize (decide (1<=r.kind)&&decide (r.kind<=5))=b1 at*;generalize oZ r.to=b2 at*;generalize dA r.frm=b3 at*;generalize isValue r.digest=b4 at*;refine bM aF func288 ntmps288 ?_;have W:=trivial;repeat' first|refine wf ?_|(refine sq ?_ ?_<;>intro hc<;>try exact hc.elim)|fail
 all_goals try(refine aQ ?_;simp[aP,results288])
 all_goals simp_all
def Sj(p:eU)(kind:Int)(host:bB):Bool:=
 if p.isSet=false then true else if kind=2\/kind=5 then p.fC.any (λx=>x == host)else if kind=3 then p.gX.any (λx=>x == host)else if kind=4 then p.gY.any (λx=>x == host)else false
theorem aM9{l:List bB}{k:Nat}(h:k<l.length){n:bB}(hc:l[k]=n):l.any (λx=>x == n)=true:=
 any_eq_true.2 ⟨_,fS h,by simp[hc]⟩
theorem JQ[aC prog](l:List bB)(n:bB)(hl:l.length<=1099511627776):Ok prog 273 [.sl .view 1 (l.map bW),.str n] (.bool (l.any (λx=>x == n))):=by
 refine bM aF func273 ntmps273 ?_;refine aY ?_;refine aO (ι:={k:Nat // k<=l.length/\∀x∈l.take k,(x == n)=false}) (λt o i=>⟨bC t [(5,.int .i64 i.1)],o⟩)
  (λi=>l.length-i.1) ⟨0,by simp,by simp⟩ aJ ?_
 rintro⟨k,hk,hi⟩ K1 hK1;simp only[bC,cW,cU]at hK1⊢;have hk1:=oQ (k:=k);by_cases hlt:k<l.length
 .have hg:=aE hlt;have W:=aA hk1 (aA hg hlt);repeat' first|refine wf ?_|(refine sq ?_ ?_<;>intro hc<;>try exact hc.elim)|fail
  .rw [aM9 hlt hc];all_goals (try exact aD results273)
  .exact hK1 _ ⟨k+1,by omega,cB hlt hi (by simpa using hc)⟩ aJ (by simp only;omega)
 .have W:=hk1;refine we ?_;all_goals try(refine aQ ?_;simp[aP,results273])
  have:=iR (by omega) hi;simpa using this
theorem ax[aC prog](l:List bB)(n:bB)(hl:l.length<=1099511627776):Ok prog 317 [.sl .view 1 (l.map bW),.str n] (.int .i64 (qF (λx=>x == n) l)):=by
 refine bM aF func317 ntmps317 ?_;refine aY ?_;refine aO (ι:={k:Nat // k<=l.length/\∀x∈l.take k,(x == n)=false}) (λt o i=>⟨bC t [(8,.int .i64 i.1),(5,.undef)],o⟩)
  (λi=>l.length-i.1) ⟨0,by simp,by simp⟩ aJ ?_
 rintro⟨k,hk,hi⟩ K1 hK1;simp only[bC,cW,cU]at hK1⊢;have hk1:=oQ (k:=k);by_cases hlt:k<l.length
 .have hg:=aE hlt;have W:=aA hk1 (aA hg hlt);repeat' first|refine wf ?_|(refine sq ?_ ?_<;>intro hc<;>try exact hc.elim)|fail
  .all_goals try(refine aQ ?_;simp[aP,results317])
   rw[uS hlt (by simp[hc]) hi]
  .exact hK1 _ ⟨k+1,by omega,cB hlt hi (by simp only[Ds];intro h;exact hc h.symm)⟩ aJ (by simp only;omega)
 .have W:=hk1;refine we ?_;all_goals try(refine aQ ?_;simp[aP,results317])
  rw[nJ (iR (by omega) hi)]
theorem BJ[aC prog](l:List bB)(n:bB)(hl:l.length<=1099511627776):Ok prog 307 [.sl .view 1 (l.map bW),.str n] (.bool (l.any (λx=>x == n))):=by
 have c1:=ax l n hl;refine bM aF func307 ntmps307 ?_;refine aY ?_;all_goals try(refine aQ ?_;simp[aP,results307])
 exact Gj _ _
theorem UR[aC prog](p:eU)(kind:Int)(host:bB)(hs:eD p<=1099511627776):Ok prog 233 [.agg (bN .view p),.int .i64 kind,.str host] (.bool (Sj p kind host)):=by
 simp only[eD,bQ]at hs;have c1:=JQ p.fC host (by omega);have c2:=JQ p.gX host (by omega);have c3:=JQ p.gY host (by omega);unfold Sj;refine bM aF func233 ntmps233 ?_;have W:=trivial;repeat' first|refine wf ?_|(refine sq ?_ ?_<;>intro hc<;>try exact hc.elim)|fail
 all_goals try(refine aQ ?_;simp[aP,results233])
 all_goals simp_all
theorem UT[aC prog](p:eU)(kind:Int)(host:bB)(hs:eD p<=1099511627776):Ok prog 289 [.agg (bN .view p),.int .i64 kind,.str host] (.bool (Sj p kind host)):=by
 simp only[eD,bQ]at hs;have c1:=BJ p.fC host (by omega);have c2:=BJ p.gX host (by omega);have c3:=BJ p.gY host (by omega);unfold Sj;refine bM aF func289 ntmps289 ?_;have W:=trivial;repeat' first|refine wf ?_|(refine sq ?_ ?_<;>intro hc<;>try exact hc.elim)|fail
 all_goals try(refine aQ ?_;simp[aP,results289])
 all_goals simp_all
def fE(p:eU)(r:fV):Int:=if DU r=false\/(r.kind≠1/\Sj p r.kind r.to.host=false)then 2 else 1
theorem wG[aC prog](p:eU)(r:fV)(hs:eD p<=1099511627776)(hl:jL r<=1099511627776):Ok prog 184 [.agg (bN .view p),.agg (dD r)] (.int .i64 (fE p r)):=by
 have c1:=Nw r hl;have c2:=UR p r.kind r.to.host hs;simp only[dD]at c1;simp only[bN]at c2;unfold fE;refine bM aF func184 ntmps184 ?_;have W:=trivial;repeat' first|refine wf ?_|(refine sq ?_ ?_<;>intro hc<;>try exact hc.elim)|fail
 all_goals try(refine aQ ?_;simp[aP,results184])
 all_goals simp_all
theorem wH[aC prog](p:eU)(r:fV)(hs:eD p<=1099511627776)(hl:jL r<=1099511627776):Ok prog 263 [.agg (bN .view p),.agg (dD r)] (.int .i64 (fE p r)):=by
 have c1:=Ny r hl;have c2:=UT p r.kind r.to.host hs;simp only[dD]at c1;simp only[bN]at c2;unfold fE;refine bM aF func263 ntmps263 ?_;have W:=trivial;repeat' first|refine wf ?_|(refine sq ?_ ?_<;>intro hc<;>try exact hc.elim)|fail
 all_goals try(refine aQ ?_;simp[aP,results263])
 all_goals simp_all
end Go.Proofs.YtfbefblglejcaaaGreatDoor
