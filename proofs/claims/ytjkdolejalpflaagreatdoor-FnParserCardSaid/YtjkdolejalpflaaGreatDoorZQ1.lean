/- Proved here: steps towards the statement of this claim. No condition. -/
import Derived.Test.YtjkdolejalpflaaGreatDoorZQU3
set_option linter.all false
set_option maxRecDepth 4000
set_option maxHeartbeats 4000000
namespace Go.Proofs.YtjkdolejalpflaaGreatDoor
open Go.Aw Proofs.Tryz List IntKind
def tC(c:UInt8):Bool:=(decide (97<=c.toNat)&&decide (c.toNat<=122)) || (decide (48<=c.toNat)&&decide (c.toNat<=57)) || decide (c.toNat=47)
def isValue(s:aX):Bool:=s.all tC&&(decide (1<=s.length)&&decide (s.length<=20))
theorem Tw{s:aX}{k:Nat}(h:k<s.length)(hc:tC s[k]=false):isValue s=false:=by
 have:s.all tC=false:=by rw[all_eq_false];exact⟨s[k],mL h,by simp[hc]⟩
 simp[isValue,this]
theorem OZ{s:aX}(h:∀x∈s,tC x=true):isValue s=(decide ((1:Int)<=s.length)&&decide ((s.length:Int)<=20)):=by
 have:s.all tC=true:=gR.2 h;have h1:decide ((1:Int)<=s.length)=decide (1<=s.length):=by simp only[pZ];omega
 have h2:decide ((s.length:Int)<=20)=decide (s.length<=20):=by simp only[pZ];omega
 rw[isValue,this,h1,h2,AH]
theorem tJ[aB prog](s:aX)(hl:s.length <= 1099511627776): Ok prog 148 [.str s] (.bool (isValue s)) := by
  have h1 := eX s.length 1 20;refine dA aJ func148 ntmps148 ?_;refine bI ?_;refine aY (ι := { k:Nat // k <= s.length /\ ∀ x ∈ s.take k, tC x = true }) (λt o i => ⟨bN t [(3, .int .i64 i.1)], o⟩)
    (λi => s.length-i.1) ⟨0, by simp, by simp⟩ aC ?_
  rintro⟨k, hk, hi⟩ K1 hK1;simp only[bN, cH, cG]at hK1 ⊢;have hk1 := vJ (k := k) (by omega);by_cases hlt:k<s.length
  · have hg := aE hlt
    have W := aA hk1 (aA hg hlt);repeat' first|refine wf ?_|(refine sq ?_ ?_<;>intro hc<;>try exact hc.elim)|fail
    all_goals first
      | exact hK1 _ ⟨k+1, by omega, gL hlt hi (by simp[tC]; omega)⟩ aC (by simp only; omega)
      | (rw[Tw hlt (by simp[tC]; omega)]
         all_goals try(refine aP ?_; simp[aT, results148])
         done)
  · have W := hk1
    refine we ?_;all_goals try(refine aP ?_; simp[aT, results148])
    rw[OZ (nS (by omega) hi)]
theorem Cg[aB prog](s:aX)(hl:s.length <= 1099511627776): Ok prog 153 [.str s] (.bool (isValue s)) := by
  have h1 := kC s.length 1 20;refine dA aJ func153 ntmps153 ?_;refine bI ?_;refine aY (ι := { k:Nat // k <= s.length /\ ∀ x ∈ s.take k, tC x = true }) (λt o i => ⟨bN t [(3, .int .i64 i.1)], o⟩)
    (λi => s.length-i.1) ⟨0, by simp, by simp⟩ aC ?_
  rintro⟨k, hk, hi⟩ K1 hK1;simp only[bN, cH, cG]at hK1 ⊢;have hk1 := vJ (k := k) (by omega);by_cases hlt:k<s.length
  · have hg := aE hlt
    have W := aA hk1 (aA hg hlt);repeat' first|refine wf ?_|(refine sq ?_ ?_<;>intro hc<;>try exact hc.elim)|fail
    all_goals first
      | exact hK1 _ ⟨k+1, by omega, gL hlt hi (by simp[tC]; omega)⟩ aC (by simp only; omega)
      | (rw[Tw hlt (by simp[tC]; omega)]
         all_goals try(refine aP ?_; simp[aT, results153])
         done)
  · have W := hk1
    refine we ?_;all_goals try(refine aP ?_; simp[aT, results153])
    rw[OZ (nS (by omega) hi)]
def Aa(r:fK):Bool:=(decide (1<=r.kind)&&decide (r.kind<=5))&&uK r.to&&bP r.U0&&(r.digest == [] || isValue r.digest)
theorem Hg[aB prog](r:fK)(hl:lF r<=1099511627776):Ok prog 150 [.agg (fV r)] (.bool (Aa r)):=by
 simp only[lF]at hl;have c1:=eX r.kind 1 5;have c2:=uY r.to (by omega);have c3:=dX r.U0 (by omega);have c4:=tJ r.digest (by omega);simp only[dI]at c2;unfold Aa;generalize (decide (1<=r.kind)&&decide (r.kind<=5))=b1 at*;generalize uK r.to=b2 at*;generalize bP r.U0=b3 at*;generalize isValue r.digest=b4 at*;refine dA aJ func150 ntmps150 ?_;have W:=trivial;repeat' first|refine wf ?_|(refine sq ?_ ?_<;>intro hc<;>try exact hc.elim)|fail
 all_goals try(refine aP ?_;simp[aT,results150])
 all_goals simp_all
theorem Hl[aB prog](r:fK)(hl:lF r<=1099511627776):Ok prog 125 [.agg (fV r)] (.bool (Aa r)):=by
 simp only[lF]at hl;have c1:=kC r.kind 1 5;have c2:=zH r.to (by omega);have c3:=fQ r.U0 (by omega);have c4:=Cg r.digest (by omega);simp only[dI]at c2;unfold Aa;generalize (decide (1<=r.kind)&&decide (r.kind<=5))=b1 at*;generalize uK r.to=b2 at*;generalize bP r.U0=b3 at*;generalize isValue r.digest=b4 at*;refine dA aJ func125 ntmps125 ?_;have W:=trivial;repeat' first|refine wf ?_|(refine sq ?_ ?_<;>intro hc<;>try exact hc.elim)|fail
 all_goals try(refine aP ?_;simp[aT,results125])
 all_goals simp_all
def LH(p:dS)(kind:Int)(host:aX):Bool:=
 if p.isSet=false then true else if kind=2\/kind=5 then p.iC.any (λx=>x == host)else if kind=3 then p.jY.any (λx=>x == host)else if kind=4 then p.jZ.any (λx=>x == host)else false
theorem aBf{l:List aX}{k:Nat}(h:k<l.length){n:aX}(hc:l[k]=n):l.any (λx=>x == n)=true:=
 any_eq_true.2 ⟨_,mL h,by simp[hc]⟩
theorem EH[aB prog](l:List aX)(n:aX)(hl:l.length<=1099511627776):Ok prog 178 [.sl .view 1 (l.map dR),.str n] (.bool (l.any (λx=>x == n))):=by
 refine dA aJ func178 ntmps178 ?_;refine bI ?_;refine aY (ι:={k:Nat // k<=l.length/\∀x∈l.take k,(x == n)=false}) (λt o i=>⟨bN t [(5,.int .i64 i.1)],o⟩)
  (λi=>l.length-i.1) ⟨0,by simp,by simp⟩ aC ?_
 rintro⟨k,hk,hi⟩ K1 hK1;simp only[bN,cH,cG]at hK1⊢;have hk1:=vJ (k:=k);by_cases hlt:k<l.length
 .have hg:=aE hlt;have W:=aA hk1 (aA hg hlt);repeat' first|refine wf ?_|(refine sq ?_ ?_<;>intro hc<;>try exact hc.elim)|fail
  .rw [aBf hlt hc];all_goals (try exact aO results178)
  .exact hK1 _ ⟨k+1,by omega,gL hlt hi (by simpa using hc)⟩ aC (by simp only;omega)
 .have W:=hk1;refine we ?_;all_goals try(refine aP ?_;simp[aT,results178])
  have:=nS (by omega) hi;simpa using this
theorem Tx[aB prog](l:List aX)(n:aX)(hl:l.length<=1099511627776):Ok prog 179 [.sl .view 1 (l.map dR),.str n] (.int .i64 (LB (λx=>x == n) l)):=by
 refine dA aJ func179 ntmps179 ?_;refine bI ?_;refine aY (ι:={k:Nat // k<=l.length/\∀x∈l.take k,(x == n)=false}) (λt o i=>⟨bN t [(8,.int .i64 i.1),(5,.undef)],o⟩)
  (λi=>l.length-i.1) ⟨0,by simp,by simp⟩ aC ?_
 rintro⟨k,hk,hi⟩ K1 hK1;simp only[bN,cH,cG]at hK1⊢;have hk1:=vJ (k:=k);by_cases hlt:k<l.length
 .have hg:=aE hlt;have W:=aA hk1 (aA hg hlt);repeat' first|refine wf ?_|(refine sq ?_ ?_<;>intro hc<;>try exact hc.elim)|fail
  .all_goals try(refine aP ?_;simp[aT,results179])
   rw[Xj hlt (by simp[hc]) hi]
  .exact hK1 _ ⟨k+1,by omega,gL hlt hi (by simp only[Bx];intro h;exact hc h.symm)⟩ aC (by simp only;omega)
 .have W:=hk1;refine we ?_;all_goals try(refine aP ?_;simp[aT,results179])
  rw[Hf (nS (by omega) hi)]
theorem xD[aB prog](l:List aX)(n:aX)(hl:l.length<=1099511627776):Ok prog 154 [.sl .view 1 (l.map dR),.str n] (.bool (l.any (λx=>x == n))):=by
 have c1:=Tx l n hl;refine dA aJ func154 ntmps154 ?_;refine bI ?_;all_goals try(refine aP ?_;simp[aT,results154])
 exact Tc _ _
theorem Nz[aB prog](p:dS)(kind:Int)(host:aX)(hs:dD p<=1099511627776):Ok prog 151 [.agg (bG .view p),.int .i64 kind,.str host] (.bool (LH p kind host)):=by
 simp only[dD,dL]at hs;have c1:=EH p.iC host (by omega);have c2:=EH p.jY host (by omega);have c3:=EH p.jZ host (by omega);unfold LH;refine dA aJ func151 ntmps151 ?_;have W:=trivial;repeat' first|refine wf ?_|(refine sq ?_ ?_<;>intro hc<;>try exact hc.elim)|fail
 all_goals try(refine aP ?_;simp[aT,results151])
 all_goals simp_all
theorem NA[aB prog](p:dS)(kind:Int)(host:aX)(hs:dD p<=1099511627776):Ok prog 126 [.agg (bG .view p),.int .i64 kind,.str host] (.bool (LH p kind host)):=by
 simp only[dD,dL]at hs;have c1:=xD p.iC host (by omega);have c2:=xD p.jY host (by omega);have c3:=xD p.jZ host (by omega);unfold LH;refine dA aJ func126 ntmps126 ?_;have W:=trivial;repeat' first|refine wf ?_|(refine sq ?_ ?_<;>intro hc<;>try exact hc.elim)|fail
 all_goals try(refine aP ?_;simp[aT,results126])
 all_goals simp_all
def fA(p:dS)(r:fK):Int:=if Aa r=false\/(r.kind≠1/\LH p r.kind r.to.host=false)then 2 else 1
theorem rC[aB prog](p:dS)(r:fK)(hs:dD p<=1099511627776)(hl:lF r<=1099511627776):Ok prog 121 [.agg (bG .view p),.agg (fV r)] (.int .i64 (fA p r)):=by
 have c1:=Hg r hl;have c2:=Nz p r.kind r.to.host hs;simp only[fV]at c1;simp only[bG]at c2;unfold fA;refine dA aJ func121 ntmps121 ?_;have W:=trivial;repeat' first|refine wf ?_|(refine sq ?_ ?_<;>intro hc<;>try exact hc.elim)|fail
 all_goals try(refine aP ?_;simp[aT,results121])
 all_goals simp_all
theorem wD[aB prog](p:dS)(r:fK)(hs:dD p<=1099511627776)(hl:lF r<=1099511627776):Ok prog 91 [.agg (bG .view p),.agg (fV r)] (.int .i64 (fA p r)):=by
 have c1:=Hl r hl;have c2:=NA p r.kind r.to.host hs;simp only[fV]at c1;simp only[bG]at c2;unfold fA;refine dA aJ func91 ntmps91 ?_;have W:=trivial;repeat' first|refine wf ?_|(refine sq ?_ ?_<;>intro hc<;>try exact hc.elim)|fail
 all_goals try(refine aP ?_;simp[aT,results91])
 all_goals simp_all
end Go.Proofs.YtjkdolejalpflaaGreatDoor
