/- Proved here: steps towards the statement of this claim. No condition. -/
import Derived.Test.YtfbefblglejcaaaGreatDoorZQU4
set_option linter.all false
set_option maxRecDepth 4000
set_option maxHeartbeats 4000000
namespace Go.Proofs.YtfbefblglejcaaaGreatDoor
open Go.Aw Proofs.Tryz List IntKind
theorem Vu[aC prog](l:List fH)(k:Int)(h0:0<=k)(hl:k+(bA (λ_=>10) l:Nat)<=4611686018427387000)(hll:l.length<=4611686018427387904):OkM prog 53 (.sl .own 10 (l.map fP)) (.sl .own 10 ((Pb LV (λ_=>10) k l).map fP)) [.int .i64 k] (.int .i64 (k+(bA (λ_=>10) l:Nat))):=by
 generalize hu:(Pb LV (λ_=>10) k l).map fP=l';have Iw:l'.length=(l.map fP).length:=by rw[<-hu];simp[uA]
 refine wo aF func53 ntmps53 ?_;have W:=trivial;repeat' first|refine st ?_|(refine nx ?_;refine so ?_)|(refine cx ?_;refine sc (λhc=>?_) (λhc=>?_)<;>try exact hc.elim)|(refine lx ?_;refine sp (λhc=>?_) (λhc=>?_)<;>try exact hc.elim)|refine sx ?_ ?_|refine sy ?_ ?_|fail
 refine aO (ι:={j:Nat // j<=l.length}) (λt o i=>⟨bC t [(1,.int .i64 (k+(bA (λ_=>10) (l.take i.1):Nat))),(5,.int .i64 i.1)],[⟨true,false,10,0,yO (l.map fP) l' i.1⟩]⟩)
  (λi=>l.length-i.1) ⟨0,by simp⟩ (aJ (by simp[Eg]) (by simp[bA])) ?_
 rintro⟨j,hj⟩ K1 hK1;simp only[bC,cW,cU]at hK1⊢;have hj1:i64.wrap ((j:Int)+1)=((j+1:Nat):Int):=by rw[wrap64]<;>omega
 have MQ:(yO (l.map fP) l' j).length=l.length:=by rw[Ap _ _ _ Iw];simp
 have hle:=jV (λ_=>10) l (j+1);by_cases hlt:j<l.length
 .have hts:=iX (λ_=>10) l j hlt
  have hmg:=GK (l.map fP) l' j (by simpa using hlt) (by rw[Iw];simpa using hlt);have Gw:=GJ (l.map fP) l' j (by simpa using hlt) (by rw[Iw];simpa using hlt);have he:l'[j]'(by rw[Iw];simpa using hlt)=fP (LV (k+(bA (λ_=>10) (l.take j):Nat)) l[j]):=by subst hu;rw[AH,EY]
  rw[he]at Gw;generalize hq:k+(bA (λ_=>10) (l.take j):Nat)=q at*;have e2:q+1+1=q+2:=by omega
  have e3:q+2+1=q+3:=by omega
  have e4:q+3+1=q+4:=by omega
  have e5:q+4+1=q+5:=by omega
  have e6:q+5+1=q+6:=by omega
  have e7:q+6+1=q+7:=by omega
  have e8:q+7+1=q+8:=by omega
  have e9:q+8+1=q+9:=by omega
  have qg:q+9+1=q+10:=by omega
  simp only[fP,LV,Pd]at Gw;have W:=aA MQ (aA hmg (aA hj1 (aA Gw (aA e2 (aA e3 (aA e4 (aA e5 (aA e6 (aA e7 (aA e8 (aA e9 qg)))))))))));have V:=aA MQ (aA hj1 (aA Gw (aA hlt (aA e2 (aA e3 (aA e4 (aA e5 (aA e6 (aA e7 (aA e8 (aA e9 qg)))))))))));repeat' first|refine st ?_|(refine nx ?_;first|refine so ?_|refine sk (hc:=xQ _ (by omega)) (h:=?_))|(refine cx ?_;refine sc (λhc=>?_) (λhc=>?_)<;>try exact hc.elim)|(refine lx ?_;refine sp (λhc=>?_) (λhc=>?_)<;>try exact hc.elim)|refine sx ?_ ?_|refine sy ?_ ?_|fail
  refine hK1 _ ⟨j+1,by omega⟩ (aJ (by simp) ?_) (by simp only;omega);simp;omega
 .have hma:=Ef (l.map fP) l' j Iw (by simp;omega);have hjl:j=l.length:=by omega
  have hcl:iV l'=true:=by rw[<-hu];simp
  have htk:l.take j=l:=cY (by omega);rw[htk]at*;have W:=aA MQ hj1;repeat' first|refine st ?_|(refine nx ?_;refine so ?_)|(refine cx ?_;refine sc (λhc=>?_) (λhc=>?_)<;>try exact hc.elim)|(refine lx ?_;refine sp (λhc=>?_) (λhc=>?_)<;>try exact hc.elim)|refine sx ?_ ?_|refine sy ?_ ?_|fail
  all_goals try(refine aQ ?_;simp[EI,results53,hma,hcl])
theorem Yy[aC prog](l:List xM)(k:Int)(h0:0<=k)(hl:k+(bA (λ_=>7) l:Nat)<=4611686018427387000)(hll:l.length<=4611686018427387904):OkM prog 52 (.sl .own 7 (l.map mI)) (.sl .own 7 ((Pb Tx (λ_=>7) k l).map mI)) [.int .i64 k] (.int .i64 (k+(bA (λ_=>7) l:Nat))):=by
 generalize hu:(Pb Tx (λ_=>7) k l).map mI=l';have Iw:l'.length=(l.map mI).length:=by rw[<-hu];simp[uA]
 refine wo aF func52 ntmps52 ?_;have W:=trivial;repeat' first|refine st ?_|(refine nx ?_;refine so ?_)|(refine cx ?_;refine sc (λhc=>?_) (λhc=>?_)<;>try exact hc.elim)|(refine lx ?_;refine sp (λhc=>?_) (λhc=>?_)<;>try exact hc.elim)|refine sx ?_ ?_|refine sy ?_ ?_|fail
 refine aO (ι:={j:Nat // j<=l.length}) (λt o i=>⟨bC t [(1,.int .i64 (k+(bA (λ_=>7) (l.take i.1):Nat))),(5,.int .i64 i.1)],[⟨true,false,7,0,yO (l.map mI) l' i.1⟩]⟩)
  (λi=>l.length-i.1) ⟨0,by simp⟩ (aJ (by simp[Eg]) (by simp[bA])) ?_
 rintro⟨j,hj⟩ K1 hK1;simp only[bC,cW,cU]at hK1⊢;have hj1:i64.wrap ((j:Int)+1)=((j+1:Nat):Int):=by rw[wrap64]<;>omega
 have MQ:(yO (l.map mI) l' j).length=l.length:=by rw[Ap _ _ _ Iw];simp
 have hle:=jV (λ_=>7) l (j+1);by_cases hlt:j<l.length
 .have hts:=iX (λ_=>7) l j hlt
  have hmg:=GK (l.map mI) l' j (by simpa using hlt) (by rw[Iw];simpa using hlt);have Gw:=GJ (l.map mI) l' j (by simpa using hlt) (by rw[Iw];simpa using hlt);have he:l'[j]'(by rw[Iw];simpa using hlt)=mI (Tx (k+(bA (λ_=>7) (l.take j):Nat)) l[j]):=by subst hu;rw[AH,EY]
  rw[he]at Gw;generalize hq:k+(bA (λ_=>7) (l.take j):Nat)=q at*;have e2:q+1+1=q+2:=by omega
  have e3:q+2+1=q+3:=by omega
  have e4:q+3+1=q+4:=by omega
  have e5:q+4+1=q+5:=by omega
  have e6:q+5+1=q+6:=by omega
  have e7:q+6+1=q+7:=by omega
  simp only[mI,Tx,Pd]at Gw;have W:=aA MQ (aA hmg (aA hj1 (aA Gw (aA e2 (aA e3 (aA e4 (aA e5 (aA e6 e7))))))));have V:=aA MQ (aA hj1 (aA Gw (aA hlt (aA e2 (aA e3 (aA e4 (aA e5 (aA e6 e7))))))));repeat' first|refine st ?_|(refine nx ?_;first|refine so ?_|refine sk (hc:=xQ _ (by omega)) (h:=?_))|(refine cx ?_;refine sc (λhc=>?_) (λhc=>?_)<;>try exact hc.elim)|(refine lx ?_;refine sp (λhc=>?_) (λhc=>?_)<;>try exact hc.elim)|refine sx ?_ ?_|refine sy ?_ ?_|fail
  refine hK1 _ ⟨j+1,by omega⟩ (aJ (by simp) ?_) (by simp only;omega);simp;omega
 .have hma:=Ef (l.map mI) l' j Iw (by simp;omega);have hjl:j=l.length:=by omega
  have hcl:iV l'=true:=by rw[<-hu];simp
  have htk:l.take j=l:=cY (by omega);rw[htk]at*;have W:=aA MQ hj1;repeat' first|refine st ?_|(refine nx ?_;refine so ?_)|(refine cx ?_;refine sc (λhc=>?_) (λhc=>?_)<;>try exact hc.elim)|(refine lx ?_;refine sp (λhc=>?_) (λhc=>?_)<;>try exact hc.elim)|refine sx ?_ ?_|refine sy ?_ ?_|fail
  all_goals try(refine aQ ?_;simp[EI,results52,hma,hcl])
end Go.Proofs.YtfbefblglejcaaaGreatDoor
