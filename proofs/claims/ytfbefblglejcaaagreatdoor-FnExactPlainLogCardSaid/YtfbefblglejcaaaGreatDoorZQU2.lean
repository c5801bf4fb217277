/- Proved here: steps towards the statement of this claim. No condition. -/
import Derived.Test.YtfbefblglejcaaaGreatDoorZQA0
set_option linter.all false
set_option maxRecDepth 4000
set_option maxHeartbeats 4000000
namespace Go.Proofs.YtfbefblglejcaaaGreatDoor
open Go.Aw Proofs.Tryz List IntKind
theorem gI[aC prog](a b c:Int):Ok prog 107 [.int .i64 a,.int .i64 b,.int .i64 c] (.bool (decide (b<=a)&&decide (a<=c))):=by
 refine bM aF func107 ntmps107 ?_;have W:=trivial;repeat' first|refine wg ?_|(refine sq ?_ ?_<;>intro hc<;>try exact hc.elim)|fail
 all_goals try(refine aQ ?_;simp[aP,results107])
 all_goals (first|(simp_all;done)|(simp_all;omega))
theorem jM[aC prog](a b c:Int):Ok prog 139 [.int .i64 a,.int .i64 b,.int .i64 c] (.bool (decide (b<=a)&&decide (a<=c))):=by
 refine bM aF func139 ntmps139 ?_;have W:=trivial;repeat' first|refine wg ?_|(refine sq ?_ ?_<;>intro hc<;>try exact hc.elim)|fail
 all_goals try(refine aQ ?_;simp[aP,results139])
 all_goals (first|(simp_all;done)|(simp_all;omega))
theorem M8{s:bB}{k:Nat}(h:k<s.length)(hc:lowerB s[k]=false):dA s=false:=by
 have:s.all lowerB=false:=by rw[all_eq_false];exact⟨s[k],fS h,by simp[hc]⟩
 simp[dA,this]
theorem M9{s:bB}{k:Nat}(h:k<s.length)(hc:(s[k].toNat:Int)<97):dA s=false:=M8 h (by simp[lowerB];omega)
theorem N7{s:bB}{k:Nat}(h:k<s.length)(hc:122<(s[k].toNat:Int)):dA s=false:=M8 h (by simp[lowerB];omega)
theorem Wm{c:UInt8}(h:97<=(c.toNat:Int))(hc:(c.toNat:Int)<=122):lowerB c=true:=by simp[lowerB];omega
theorem ak{s:bB}(h:∀x∈s,lowerB x=true):dA s=(decide ((1:Int)<=s.length)&&decide ((s.length:Int)<=8)):=by
 have:s.all lowerB=true:=fN.2 h;have h1:decide ((1:Int)<=s.length)=decide (1<=s.length):=by simp only[rS];omega
 have h2:decide ((s.length:Int)<=8)=decide (s.length<=8):=by simp only[rS];omega
 rw[dA,this,h1,h2,Cp]
theorem fD[aC prog](s:bB)(hl:s.length<=1099511627776):Ok prog 101 [.str s] (.bool (dA s)):=by
 have h1:=gI s.length 1 8;refine bM aF func101 ntmps101 ?_;refine iF ?_;refine aO (ι:={k:Nat // k<=s.length/\∀x∈s.take k,lowerB x=true}) (λt o i=>⟨bC t [(3,.int .i64 i.1)],o⟩)
  (λi=>s.length-i.1) ⟨0,by simp,by simp⟩ aJ ?_
 rintro⟨k,hk,hi⟩ K1 hK1;simp only[bC,cW,cU]at hK1⊢;have hk1:=oQ (k:=k);by_cases hlt:k<s.length
 .have hg:=aE hlt;have W:=aA hk1 (aA hg hlt);repeat' first|refine wg ?_|(refine sq ?_ ?_<;>intro hc<;>try exact hc.elim)|fail
  .skip
   all_goals try(refine aQ ?_;simp[aP,results101])
   rw[M9 hlt (by assumption)]
  .skip
   all_goals try(refine aQ ?_;simp[aP,results101])
   rw[N7 hlt (by assumption)]
  .skip
   exact hK1 _ ⟨k+1,by omega,cB hlt hi (Wm (by assumption) (by assumption))⟩ aJ (by simp only;omega)
 .have W:=hk1;refine wl ?_;all_goals try(refine aQ ?_;simp[aP,results101])
  rw[ak (iR (by omega) hi)]
theorem gL[aC prog](s:bB)(hl:s.length<=1099511627776):Ok prog 133 [.str s] (.bool (dA s)):=by
 have h1:=jM s.length 1 8;refine bM aF func133 ntmps133 ?_;refine iF ?_;refine aO (ι:={k:Nat // k<=s.length/\∀x∈s.take k,lowerB x=true}) (λt o i=>⟨bC t [(3,.int .i64 i.1)],o⟩)
  (λi=>s.length-i.1) ⟨0,by simp,by simp⟩ aJ ?_
 rintro⟨k,hk,hi⟩ K1 hK1;simp only[bC,cW,cU]at hK1⊢;have hk1:=oQ (k:=k);by_cases hlt:k<s.length
 .have hg:=aE hlt;have W:=aA hk1 (aA hg hlt);repeat' first|refine wg ?_|(refine sq ?_ ?_<;>intro hc<;>try exact hc.elim)|fail
  .skip
   all_goals try(refine aQ ?_;simp[aP,results133])
   rw[M9 hlt (by assumption)]
  .skip
   all_goals try(refine aQ ?_;simp[aP,results133])
   rw[N7 hlt (by assumption)]
  .skip
   exact hK1 _ ⟨k+1,by omega,cB hlt hi (Wm (by assumption) (by assumption))⟩ aJ (by simp only;omega)
 .have W:=hk1;refine wl ?_;all_goals try(refine aQ ?_;simp[aP,results133])
  rw[ak (iR (by omega) hi)]
theorem rP[aC prog](a:aK)(hl:aR a<=1099511627776):Ok prog 57 [.agg (aL a)] (.bool (oZ a)):=by
 simp only[aR]at hl;have h1:=fD a.host (by omega);have h2:=fD a.path (by omega);refine bM aF func57 ntmps57 ?_;have W:=trivial;repeat' first|refine wg ?_|(refine sq ?_ ?_<;>intro hc<;>try exact hc.elim)|fail
 all_goals try(refine aQ ?_;simp[aP,results57])
 all_goals simp_all[oZ]
theorem rQ[aC prog](a:aK)(hl:aR a<=1099511627776):Ok prog 79 [.agg (aL a)] (.bool (oZ a)):=by
 simp only[aR]at hl;have h1:=gL a.host (by omega);have h2:=gL a.path (by omega);refine bM aF func79 ntmps79 ?_;have W:=trivial;repeat' first|refine wg ?_|(refine sq ?_ ?_<;>intro hc<;>try exact hc.elim)|fail
 all_goals try(refine aQ ?_;simp[aP,results79])
 all_goals simp_all[oZ]
end Go.Proofs.YtfbefblglejcaaaGreatDoor
