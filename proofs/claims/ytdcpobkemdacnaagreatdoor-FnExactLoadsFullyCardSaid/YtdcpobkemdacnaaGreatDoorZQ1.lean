/- Proved here: steps towards the statement of this claim. No condition. -/
import Derived.Test.YtdcpobkemdacnaaGreatDoorZQU2
set_option linter.all false
set_option maxRecDepth 4000
set_option maxHeartbeats 4000000
namespace Go.Proofs.YtdcpobkemdacnaaGreatDoor
open Go.Aw Proofs.Tryz List IntKind
def wU (c:UInt8):Bool:=(decide (97<=c.toNat)&&decide (c.toNat<=122)) || (decide (48<=c.toNat)&&decide (c.toNat<=57)) || decide (c.toNat=47)
def isValue (s:bB):Bool:=s.all wU&&(decide (1<=s.length)&&decide (s.length<=20))
theorem Zl {s:bB} {k:Nat} (h:k < s.length) (hc:wU s[k]=false):isValue s=false:=by
 have:s.all wU=false:=by rw [all_eq_false];exact ⟨s[k],fN h,by simp [hc]⟩
 simp [isValue,this]
theorem VJ {s:bB} (h:∀x∈s,wU x=true):isValue s=(decide ((1:Int)<=s.length)&&decide ((s.length:Int)<=20)):=by
 have:s.all wU=true:=fW.2 h;have h1:decide ((1:Int)<=s.length)=decide (1<=s.length):=by simp only [rI];omega
 have h2:decide ((s.length:Int)<=20)=decide (s.length<=20):=by simp only [rI];omega
 rw [isValue,this,h1,h2,BT]
theorem xX [aC prog] (s : bB) (hl : s.length <= 1099511627776) : Ok prog 174 [.str s] (.bool (isValue s)) := by
  have h1 := gK s.length 1 20;refine bO aD func174 ntmps174 ?_;refine aZ ?_;refine aP (ι := { k : Nat // k <= s.length /\ ∀ x ∈ s.take k, wU x = true }) (λt o i => ⟨bE t [(3, .int .i64 i.1)], o⟩)
    (λi => s.length - i.1) ⟨0, by simp, by simp⟩ aO ?_
  rintro ⟨k, hk, hi⟩ K1 hK1;simp only [bE, cW, cU] at hK1 ⊢;have hk1 := oW (k := k) (by omega);by_cases hlt : k < s.length
  · have hg := aE hlt
    have W := aA hk1 (aA hg hlt);repeat' first|refine wf ?_|(refine sq ?_ ?_<;>intro hc<;>try exact hc.elim)|fail
    all_goals first
      | exact hK1 _ ⟨k + 1, by omega, bZ hlt hi (by simp [wU]; omega)⟩ aO (by simp only; omega)
      | (rw [Zl hlt (by simp [wU]; omega)]
         all_goals try(refine aV ?_; simp [aH, results174])
         done)
  · have W := hk1
    refine we ?_;all_goals try(refine aV ?_; simp [aH, results174])
    rw [VJ (iX (by omega) hi)]
theorem Bn [aC prog] (s : bB) (hl : s.length <= 1099511627776) : Ok prog 206 [.str s] (.bool (isValue s)) := by
  have h1 := jN s.length 1 20;refine bO aD func206 ntmps206 ?_;refine aZ ?_;refine aP (ι := { k : Nat // k <= s.length /\ ∀ x ∈ s.take k, wU x = true }) (λt o i => ⟨bE t [(3, .int .i64 i.1)], o⟩)
    (λi => s.length - i.1) ⟨0, by simp, by simp⟩ aO ?_
  rintro ⟨k, hk, hi⟩ K1 hK1;simp only [bE, cW, cU] at hK1 ⊢;have hk1 := oW (k := k) (by omega);by_cases hlt : k < s.length
  · have hg := aE hlt
    have W := aA hk1 (aA hg hlt);repeat' first|refine wf ?_|(refine sq ?_ ?_<;>intro hc<;>try exact hc.elim)|fail
    all_goals first
      | exact hK1 _ ⟨k + 1, by omega, bZ hlt hi (by simp [wU]; omega)⟩ aO (by simp only; omega)
      | (rw [Zl hlt (by simp [wU]; omega)]
         all_goals try(refine aV ?_; simp [aH, results206])
         done)
  · have W := hk1
    refine we ?_;all_goals try(refine aV ?_; simp [aH, results206])
    rw [VJ (iX (by omega) hi)]
def Dq (r:gD):Bool:=(decide (1<=r.kind)&&decide (r.kind<=5))&&oP r.to&&dB r.frm&&(r.digest == [] || isValue r.digest)
theorem MI [aC prog] (r:gD) (hl:jM r<=1099511627776):Ok prog 224 [.agg (dF r)] (.bool (Dq r)):=by
 simp only [jM] at hl;have c1:=gK r.kind 1 5;have c2:=qW r.to (by omega);have c3:=fG r.frm (by omega);have c4:=xX r.digest (by omega);simp only [aL] at c2;unfold Dq;generalize (decide (1<=r.kind)&&decide (r.kind<=5))=b1 at *;generalize oP r.to=b2 at *;generalize dB r.frm=b3 at *;generalize isValue r.digest=b4 at *;refine bO aD func224 ntmps224 ?_;have W:=trivial;repeat' first|refine wf ?_|(refine sq ?_ ?_<;>intro hc<;>try exact hc.elim)|fail
 all_goals try(refine aV ?_;simp [aH,results224])
 all_goals simp_all
theorem MJ [aC prog] (r:gD) (hl:jM r<=1099511627776):Ok prog 280 [.agg (dF r)] (.bool (Dq r)):=by
 simp only [jM] at hl;have c1:=jN r.kind 1 5;have c2:=qX r.to (by omega);have c3:=gQ r.frm (by omega);have c4:=Bn r.digest (by omega);simp only [aL] at c2;unfold Dq;generalize (decide (1<=r.kind)&&decide (r.kind<=5))=b1 at *;generalize oP r.to=b2 at *;generalize dB r.frm=b3 at *;generalize isValue r.digest=b4 at *;refine bO aD func280 ntmps280 ?_;have W:=trivial;repeat' first|refine wf ?_|(refine sq ?_ ?_<;>intro hc<;>try exact hc.elim)|fail
 all_goals try(refine aV ?_;simp [aH,results280])
 all_goals simp_all
def Ra (p:eY) (kind:Int) (host:bB):Bool:=
 if p.isSet=false then true else if kind=2\/kind=5 then p.fF.any (λx=>x == host) else if kind=3 then p.iB.any (λx=>x == host) else if kind=4 then p.iC.any (λx=>x == host) else false
theorem aK1 {l:List bB} {k:Nat} (h:k < l.length) {n:bB} (hc:l[k]=n):l.any (λx=>x == n)=true:=
 any_eq_true.2 ⟨_,fN h,by simp [hc]⟩
theorem Jj [aC prog] (l:List bB) (n:bB) (hl:l.length<=1099511627776):Ok prog 265 [.sl .view 1 (l.map dD),.str n] (.bool (l.any (λx=>x == n))):=by
 refine bO aD func265 ntmps265 ?_;refine aZ ?_;refine aP (ι:={k:Nat // k<=l.length/\∀x∈l.take k,(x == n)=false}) (λt o i=>⟨bE t [(5,.int .i64 i.1)],o⟩)
  (λi=>l.length - i.1) ⟨0,by simp,by simp⟩ aO ?_
 rintro ⟨k,hk,hi⟩ K1 hK1;simp only [bE,cW,cU] at hK1⊢;have hk1:=oW (k:=k);by_cases hlt:k < l.length
 .have hg:=aE hlt;have W:=aA hk1 (aA hg hlt);repeat' first|refine wf ?_|(refine sq ?_ ?_<;>intro hc<;>try exact hc.elim)|fail
  .rw [aK1 hlt hc];all_goals try(refine aV ?_;simp [aH,results265])
  .exact hK1 _ ⟨k+1,by omega,bZ hlt hi (by simpa using hc)⟩ aO (by simp only;omega)
 .have W:=hk1;refine we ?_;all_goals try(refine aV ?_;simp [aH,results265])
  have:=iX (by omega) hi;simpa using this
theorem Zm [aC prog] (l:List bB) (n:bB) (hl:l.length<=1099511627776):Ok prog 309 [.sl .view 1 (l.map dD),.str n] (.int .i64 (pW (λx=>x == n) l)):=by
 refine bO aD func309 ntmps309 ?_;refine aZ ?_;refine aP (ι:={k:Nat // k<=l.length/\∀x∈l.take k,(x == n)=false}) (λt o i=>⟨bE t [(8,.int .i64 i.1),(5,.undef)],o⟩)
  (λi=>l.length - i.1) ⟨0,by simp,by simp⟩ aO ?_
 rintro ⟨k,hk,hi⟩ K1 hK1;simp only [bE,cW,cU] at hK1⊢;have hk1:=oW (k:=k);by_cases hlt:k < l.length
 .have hg:=aE hlt;have W:=aA hk1 (aA hg hlt);repeat' first|refine wf ?_|(refine sq ?_ ?_<;>intro hc<;>try exact hc.elim)|fail
  .all_goals try(refine aV ?_;simp [aH,results309])
   rw [uM hlt (by simp [hc]) hi]
  .exact hK1 _ ⟨k+1,by omega,bZ hlt hi (by simp only [CI];intro h;exact hc h.symm)⟩ aO (by simp only;omega)
 .have W:=hk1;refine we ?_;all_goals try(refine aV ?_;simp [aH,results309])
  rw [nA (iX (by omega) hi)]
theorem Bo [aC prog] (l:List bB) (n:bB) (hl:l.length<=1099511627776):Ok prog 299 [.sl .view 1 (l.map dD),.str n] (.bool (l.any (λx=>x == n))):=by
 have c1:=Zm l n hl;refine bO aD func299 ntmps299 ?_;refine aZ ?_;all_goals try(refine aV ?_;simp [aH,results299])
 exact FN _ _
theorem Uk [aC prog] (p:eY) (kind:Int) (host:bB) (hs:eO p<=1099511627776):Ok prog 225 [.agg (bP .view p),.int .i64 kind,.str host] (.bool (Ra p kind host)):=by
 simp only [eO,bT] at hs;have c1:=Jj p.fF host (by omega);have c2:=Jj p.iB host (by omega);have c3:=Jj p.iC host (by omega);unfold Ra;refine bO aD func225 ntmps225 ?_;have W:=trivial;repeat' first|refine wf ?_|(refine sq ?_ ?_<;>intro hc<;>try exact hc.elim)|fail
 all_goals try(refine aV ?_;simp [aH,results225])
 all_goals simp_all
theorem Ul [aC prog] (p:eY) (kind:Int) (host:bB) (hs:eO p<=1099511627776):Ok prog 281 [.agg (bP .view p),.int .i64 kind,.str host] (.bool (Ra p kind host)):=by
 simp only [eO,bT] at hs;have c1:=Bo p.fF host (by omega);have c2:=Bo p.iB host (by omega);have c3:=Bo p.iC host (by omega);unfold Ra;refine bO aD func281 ntmps281 ?_;have W:=trivial;repeat' first|refine wf ?_|(refine sq ?_ ?_<;>intro hc<;>try exact hc.elim)|fail
 all_goals try(refine aV ?_;simp [aH,results281])
 all_goals simp_all
def fH (p:eY) (r:gD):Int:=if Dq r=false\/(r.kind≠1/\Ra p r.kind r.to.host=false) then 2 else 1
theorem wD [aC prog] (p:eY) (r:gD) (hs:eO p<=1099511627776) (hl:jM r<=1099511627776):Ok prog 176 [.agg (bP .view p),.agg (dF r)] (.int .i64 (fH p r)):=by
 have c1:=MI r hl;have c2:=Uk p r.kind r.to.host hs;simp only [dF] at c1;simp only [bP] at c2;unfold fH;refine bO aD func176 ntmps176 ?_;have W:=trivial;repeat' first|refine wf ?_|(refine sq ?_ ?_<;>intro hc<;>try exact hc.elim)|fail
 all_goals try(refine aV ?_;simp [aH,results176])
 all_goals simp_all
theorem wE [aC prog] (p:eY) (r:gD) (hs:eO p<=1099511627776) (hl:jM r<=1099511627776):Ok prog 255 [.agg (bP .view p),.agg (dF r)] (.int .i64 (fH p r)):=by
 have c1:=MJ r hl;have c2:=Ul p r.kind r.to.host hs;simp only [dF] at c1;simp only [bP] at c2;unfold fH;refine bO aD func255 ntmps255 ?_;have W:=trivial;repeat' first|refine wf ?_|(refine sq ?_ ?_<;>intro hc<;>try exact hc.elim)|fail
 all_goals try(refine aV ?_;simp [aH,results255])
 all_goals simp_all
end Go.Proofs.YtdcpobkemdacnaaGreatDoor
