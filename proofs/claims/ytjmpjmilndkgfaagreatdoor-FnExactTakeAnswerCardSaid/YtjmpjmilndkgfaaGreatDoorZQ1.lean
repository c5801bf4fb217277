/- Proved here: steps towards the statement of this claim. No condition. -/
import Derived.Test.YtjmpjmilndkgfaaGreatDoorZQR3
set_option linter.all false
set_option maxRecDepth 4000
set_option maxHeartbeats 4000000
namespace Go.Proofs.YtjmpjmilndkgfaaGreatDoor
open Go.Aw Proofs.Tryz List IntKind
def vR (c:UInt8):Bool:=(decide (97<=c.toNat)&&decide (c.toNat<=122)) || (decide (48<=c.toNat)&&decide (c.toNat<=57)) || decide (c.toNat=47)
def isValue (s:bF):Bool:=s.all vR&&(decide (1<=s.length)&&decide (s.length<=20))
theorem Zg {s:bF} {k:Nat} (h:k < s.length) (hc:vR s[k]=false):isValue s=false:=by
 have:s.all vR=false:=by rw [all_eq_false];exact ⟨s[k],fR h,by simp [hc]⟩
 simp [isValue,this]
theorem Vu {s:bF} (h:∀x∈s,vR x=true):isValue s=(decide ((1:Int)<=s.length)&&decide ((s.length:Int)<=20)):=by
 have:s.all vR=true:=fS.2 h;have h1:decide ((1:Int)<=s.length)=decide (1<=s.length):=by simp only [vA];omega
 have h2:decide ((s.length:Int)<=20)=decide (s.length<=20):=by simp only [vA];omega
 rw [isValue,this,h1,h2,Cl]
theorem wY [aC prog] (s : bF) (hl : s.length <= 1099511627776) : Ok prog 224 [.str s] (.bool (isValue s)) := by
  have h1 := gM s.length 1 20;refine bR aD func224 ntmps224 ?_;refine bH ?_;refine aL (ι := { k : Nat // k <= s.length /\ ∀ x ∈ s.take k, vR x = true }) (λt o i => ⟨bD t [(3, .int .i64 i.1)], o⟩)
    (λi => s.length - i.1) ⟨0, by simp, by simp⟩ aH ?_
  rintro ⟨k, hk, hi⟩ K1 hK1;simp only [bD, cW, cU] at hK1 ⊢;have hk1 := oW (k := k) (by omega);by_cases hlt : k < s.length
  · have hg := aE hlt
    have W := aA hk1 (aA hg hlt);repeat' first|refine wf ?_|(refine sq ?_ ?_<;>intro hc<;>try exact hc.elim)|fail
    all_goals first
      | exact hK1 _ ⟨k + 1, by omega, dV hlt hi (by simp [vR]; omega)⟩ aH (by simp only; omega)
      | (rw [Zg hlt (by simp [vR]; omega)]
         all_goals try(refine aR ?_; simp [aG, results224])
         done)
  · have W := hk1
    refine we ?_;all_goals try(refine aR ?_; simp [aG, results224])
    rw [Vu (mQ (by omega) hi)]
theorem Bf [aC prog] (s : bF) (hl : s.length <= 1099511627776) : Ok prog 240 [.str s] (.bool (isValue s)) := by
  have h1 := jT s.length 1 20;refine bR aD func240 ntmps240 ?_;refine bH ?_;refine aL (ι := { k : Nat // k <= s.length /\ ∀ x ∈ s.take k, vR x = true }) (λt o i => ⟨bD t [(3, .int .i64 i.1)], o⟩)
    (λi => s.length - i.1) ⟨0, by simp, by simp⟩ aH ?_
  rintro ⟨k, hk, hi⟩ K1 hK1;simp only [bD, cW, cU] at hK1 ⊢;have hk1 := oW (k := k) (by omega);by_cases hlt : k < s.length
  · have hg := aE hlt
    have W := aA hk1 (aA hg hlt);repeat' first|refine wf ?_|(refine sq ?_ ?_<;>intro hc<;>try exact hc.elim)|fail
    all_goals first
      | exact hK1 _ ⟨k + 1, by omega, dV hlt hi (by simp [vR]; omega)⟩ aH (by simp only; omega)
      | (rw [Zg hlt (by simp [vR]; omega)]
         all_goals try(refine aR ?_; simp [aG, results240])
         done)
  · have W := hk1
    refine we ?_;all_goals try(refine aR ?_; simp [aG, results240])
    rw [Vu (mQ (by omega) hi)]
def De (r:gV):Bool:=(decide (1<=r.kind)&&decide (r.kind<=5))&&zZ r.to&&dA r.frm&&(r.digest == [] || isValue r.digest)
theorem LG [aC prog] (r:gV) (hl:jJ r<=1099511627776):Ok prog 171 [.agg (fE r)] (.bool (De r)):=by
 simp only [jJ] at hl;have c1:=gM r.kind 1 5;have c2:=yR r.to (by omega);have c3:=fU r.frm (by omega);have c4:=wY r.digest (by omega);simp only [aO] at c2;unfold De;generalize (decide (1<=r.kind)&&decide (r.kind<=5))=b1 at *;generalize zZ r.to=b2 at *;generalize dA r.frm=b3 at *;generalize isValue r.digest=b4 at *;refine bR aD func171 ntmps171 ?_;have W:=trivial;repeat' first|refine wf ?_|(refine sq ?_ ?_<;>intro hc<;>try exact hc.elim)|fail
 all_goals try(refine aR ?_;simp [aG,results171])
 all_goals simp_all
theorem LH [aC prog] (r:gV) (hl:jJ r<=1099511627776):Ok prog 190 [.agg (fE r)] (.bool (De r)):=by
 simp only [jJ] at hl;have c1:=jT r.kind 1 5;have c2:=yS r.to (by omega);have c3:=gZ r.frm (by omega);have c4:=Bf r.digest (by omega);simp only [aO] at c2;unfold De;generalize (decide (1<=r.kind)&&decide (r.kind<=5))=b1 at *;generalize zZ r.to=b2 at *;generalize dA r.frm=b3 at *;generalize isValue r.digest=b4 at *;refine bR aD func190 ntmps190 ?_;have W:=trivial;repeat' first|refine wf ?_|(refine sq ?_ ?_<;>intro hc<;>try exact hc.elim)|fail
 all_goals try(refine aR ?_;simp [aG,results190])
 all_goals simp_all
def QK (p:dL) (kind:Int) (host:bF):Bool:=
 if p.isSet=false then true else if kind=2\/kind=5 then p.dG.any (λx=>x == host) else if kind=3 then p.eZ.any (λx=>x == host) else if kind=4 then p.fD.any (λx=>x == host) else false
theorem aK8 {l:List bF} {k:Nat} (h:k < l.length) {n:bF} (hc:l[k]=n):l.any (λx=>x == n)=true:=
 any_eq_true.2 ⟨_,fR h,by simp [hc]⟩
theorem Iu [aC prog] (l:List bF) (n:bF) (hl:l.length<=1099511627776):Ok prog 225 [.sl .view 1 (l.map bW),.str n] (.bool (l.any (λx=>x == n))):=by
 refine bR aD func225 ntmps225 ?_;refine bH ?_;refine aL (ι:={k:Nat // k<=l.length/\∀x∈l.take k,(x == n)=false}) (λt o i=>⟨bD t [(5,.int .i64 i.1)],o⟩)
  (λi=>l.length - i.1) ⟨0,by simp,by simp⟩ aH ?_
 rintro ⟨k,hk,hi⟩ K1 hK1;simp only [bD,cW,cU] at hK1⊢;have hk1:=oW (k:=k);by_cases hlt:k < l.length
 .have hg:=aE hlt;have W:=aA hk1 (aA hg hlt);repeat' first|refine wf ?_|(refine sq ?_ ?_<;>intro hc<;>try exact hc.elim)|fail
  .rw [aK8 hlt hc];all_goals try(refine aR ?_;simp [aG,results225])
  .exact hK1 _ ⟨k+1,by omega,dV hlt hi (by simpa using hc)⟩ aH (by simp only;omega)
 .have W:=hk1;refine we ?_;all_goals try(refine aR ?_;simp [aG,results225])
  have:=mQ (by omega) hi;simpa using this
theorem Zh [aC prog] (l:List bF) (n:bF) (hl:l.length<=1099511627776):Ok prog 273 [.sl .view 1 (l.map bW),.str n] (.int .i64 (wX (λx=>x == n) l)):=by
 refine bR aD func273 ntmps273 ?_;refine bH ?_;refine aL (ι:={k:Nat // k<=l.length/\∀x∈l.take k,(x == n)=false}) (λt o i=>⟨bD t [(8,.int .i64 i.1),(5,.undef)],o⟩)
  (λi=>l.length - i.1) ⟨0,by simp,by simp⟩ aH ?_
 rintro ⟨k,hk,hi⟩ K1 hK1;simp only [bD,cW,cU] at hK1⊢;have hk1:=oW (k:=k);by_cases hlt:k < l.length
 .have hg:=aE hlt;have W:=aA hk1 (aA hg hlt);repeat' first|refine wf ?_|(refine sq ?_ ?_<;>intro hc<;>try exact hc.elim)|fail
  .all_goals try(refine aR ?_;simp [aG,results273])
   rw [DY hlt (by simp [hc]) hi]
  .exact hK1 _ ⟨k+1,by omega,dV hlt hi (by simp only [Dd];intro h;exact hc h.symm)⟩ aH (by simp only;omega)
 .have W:=hk1;refine we ?_;all_goals try(refine aR ?_;simp [aG,results273])
  rw [wI (mQ (by omega) hi)]
theorem Bg [aC prog] (l:List bF) (n:bF) (hl:l.length<=1099511627776):Ok prog 241 [.sl .view 1 (l.map bW),.str n] (.bool (l.any (λx=>x == n))):=by
 have c1:=Zh l n hl;refine bR aD func241 ntmps241 ?_;refine bH ?_;all_goals try(refine aR ?_;simp [aG,results241])
 exact Fb _ _
theorem TR [aC prog] (p:dL) (kind:Int) (host:bF) (hs:eB p<=1099511627776):Ok prog 172 [.agg (bM .view p),.int .i64 kind,.str host] (.bool (QK p kind host)):=by
 simp only [eB,bV] at hs;have c1:=Iu p.dG host (by omega);have c2:=Iu p.eZ host (by omega);have c3:=Iu p.fD host (by omega);unfold QK;refine bR aD func172 ntmps172 ?_;have W:=trivial;repeat' first|refine wf ?_|(refine sq ?_ ?_<;>intro hc<;>try exact hc.elim)|fail
 all_goals try(refine aR ?_;simp [aG,results172])
 all_goals simp_all
theorem TS [aC prog] (p:dL) (kind:Int) (host:bF) (hs:eB p<=1099511627776):Ok prog 191 [.agg (bM .view p),.int .i64 kind,.str host] (.bool (QK p kind host)):=by
 simp only [eB,bV] at hs;have c1:=Bg p.dG host (by omega);have c2:=Bg p.eZ host (by omega);have c3:=Bg p.fD host (by omega);unfold QK;refine bR aD func191 ntmps191 ?_;have W:=trivial;repeat' first|refine wf ?_|(refine sq ?_ ?_<;>intro hc<;>try exact hc.elim)|fail
 all_goals try(refine aR ?_;simp [aG,results191])
 all_goals simp_all
def fH (p:dL) (r:gV):Int:=if De r=false\/(r.kind≠1/\QK p r.kind r.to.host=false) then 2 else 1
theorem uU [aC prog] (p:dL) (r:gV) (hs:eB p<=1099511627776) (hl:jJ r<=1099511627776):Ok prog 119 [.agg (bM .view p),.agg (fE r)] (.int .i64 (fH p r)):=by
 have c1:=LG r hl;have c2:=TR p r.kind r.to.host hs;simp only [fE] at c1;simp only [bM] at c2;unfold fH;refine bR aD func119 ntmps119 ?_;have W:=trivial;repeat' first|refine wf ?_|(refine sq ?_ ?_<;>intro hc<;>try exact hc.elim)|fail
 all_goals try(refine aR ?_;simp [aG,results119])
 all_goals simp_all
theorem uV [aC prog] (p:dL) (r:gV) (hs:eB p<=1099511627776) (hl:jJ r<=1099511627776):Ok prog 144 [.agg (bM .view p),.agg (fE r)] (.int .i64 (fH p r)):=by
 have c1:=LH r hl;have c2:=TS p r.kind r.to.host hs;simp only [fE] at c1;simp only [bM] at c2;unfold fH;refine bR aD func144 ntmps144 ?_;have W:=trivial;repeat' first|refine wf ?_|(refine sq ?_ ?_<;>intro hc<;>try exact hc.elim)|fail
 all_goals try(refine aR ?_;simp [aG,results144])
 all_goals simp_all
end Go.Proofs.YtjmpjmilndkgfaaGreatDoor
