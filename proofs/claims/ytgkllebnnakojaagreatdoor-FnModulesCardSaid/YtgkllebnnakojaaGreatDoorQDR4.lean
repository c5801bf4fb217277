/-
  Proved here: steps towards the statement of this claim, text QDR4.
  No condition beyond what each statement spells out.
-/
import Derived.Test.YtgkllebnnakojaaGreatDoorDR3
import Derived.Test.YtgkllebnnakojaaGreatDoorF8
set_option linter.all false
set_option maxRecDepth 4000
set_option maxHeartbeats 4000000
namespace Go.Proofs.YtgkllebnnakojaaGreatDoor
open Go.Aw
theorem aJf [aB Tryz.prog] (m:Nat) (hm:m≤100):OkC Tryz.prog 136 [.int .i64 (m:Int)] (aDe (62 * m+10)):=by
 refine mZ Tryz.mix Tryz.func136 Tryz.ntmps136 ?_
 intro code i h hi hl
 simp only [aH]
 have hm1:IntKind.i64.wrap ((m:Int)+1)=(m:Int)+1:=by rw [wrap64]<;>omega
 have W:=hm1
 repeat' first|refine st ?_|(refine nx ?_;refine so ?_)|(refine cx ?_;refine sc (fun hc=>?_) (fun hc=>?_)<;>try exact hc.elim)|(refine lx ?_;refine sp (fun hc=>?_) (fun hc=>?_)<;>try exact hc.elim)|refine sx ?_ ?_|refine sy ?_ ?_|fail
 refine cu (gT ((m:Int)+1)) ?_
 rintro _ i2 h2 ⟨x,rfl,x0,x1,x2⟩ hi2
 simp only [AS.drew,AS.called,aH,AS.put,aG,aF,bE,aU,bD,aS,bH,aV,List.set_cons_succ,List.set_cons_zero,List.append_nil,List.nil_append,List.cons_append]
 obtain ⟨n,rfl⟩:=Int.eq_ofNat_of_zero_le x0
 have hn:n≤m:=by omega
 have W:=trivial
 repeat' first|refine st ?_|(refine nx ?_;refine so ?_)|(refine cx ?_;refine sc (fun hc=>?_) (fun hc=>?_)<;>try exact hc.elim)|(refine lx ?_;refine sp (fun hc=>?_) (fun hc=>?_)<;>try exact hc.elim)|refine sx ?_ ?_|refine sy ?_ ?_|fail
 refine aT (ι:={x:Nat×Str×Int×Int // x.1≤m∧x.2.1.length+62 * x.1≤62 * m∧0≤x.2.2.1}) (fun t o y=>⟨bB t [(5,.str y.1.2.1),(6,.int .i64 (y.1.1:Int))],[⟨true,true,3,2,[[.sl .view 1 (aP code),.int .i64 y.1.2.2.1,.int .i64 y.1.2.2.2]]⟩]⟩)
  (fun y=>y.1.1) ⟨(n,[],i2,h2),hn,by simp;omega,hi2⟩ (aI (by simp) (by simp)) ?_
 rintro ⟨⟨k,s,j,g⟩,hk,hs,hj⟩ K1 hK1
 simp only at hk hs hj
 by_cases h0:0 < k
 ·have hk0:(k:Int) > 0:=by omega
  have hk1:IntKind.i64.wrap ((k:Int) - 1)=((k - 1:Nat):Int):=by rw [wrap64]<;>omega
  have hK2:=hK1
  simp only [bB,List.set_cons_succ,List.set_cons_zero] at hK1⊢
  clear hK1
  have W:=hk0
  repeat' first|refine st ?_|(refine nx ?_;refine so ?_)|(refine cx ?_;refine sc (fun hc=>?_) (fun hc=>?_)<;>try exact hc.elim)|(refine lx ?_;refine sp (fun hc=>?_) (fun hc=>?_)<;>try exact hc.elim)|refine sx ?_ ?_|refine sy ?_ ?_|fail
  refine cu (eZ 3) ?_
  rintro _ j2 g2 ⟨b,rfl⟩ hj2
  simp only [AS.drew,AS.called,aH,AS.put,aG,aF,bE,aU,bD,aS,bH,aV,List.set_cons_succ,List.set_cons_zero,List.append_nil,List.nil_append,List.cons_append]
  cases b
  ·have W:=trivial
   repeat' first|refine st ?_|(refine nx ?_;refine so ?_)|(refine cx ?_;refine sc (fun hc=>?_) (fun hc=>?_)<;>try exact hc.elim)|(refine lx ?_;refine sp (fun hc=>?_) (fun hc=>?_)<;>try exact hc.elim)|refine sx ?_ ?_|refine sy ?_ ?_|fail
   refine cu (aN7) ?_
   rintro _ j3 g3 ⟨u,rfl,hu⟩ hj3
   simp only [AS.drew,AS.called,aH,AS.put,aG,aF,bE,aU,bD,aS,bH,aV,List.set_cons_succ,List.set_cons_zero,List.append_nil,List.nil_append,List.cons_append]
   have hlu:s.length+1+u.length+1≤6200:=by omega
   have W:=And.intro hk1 hlu
   repeat' first|refine st ?_|(refine nx ?_;refine so ?_)|(refine cx ?_;refine sc (fun hc=>?_) (fun hc=>?_)<;>try exact hc.elim)|(refine lx ?_;refine sp (fun hc=>?_) (fun hc=>?_)<;>try exact hc.elim)|refine sx ?_ ?_|refine sy ?_ ?_|fail
   refine hK2 _ ⟨(k - 1,s++[60]++u++[62],j3,g3),by simp only;omega,by simp;omega,hj3⟩ ?_ (by simp only;omega)
   exact aO 1 (by simp) (by simp) (by simp) (by simp)
  ·have W:=trivial
   repeat' first|refine st ?_|(refine nx ?_;refine so ?_)|(refine cx ?_;refine sc (fun hc=>?_) (fun hc=>?_)<;>try exact hc.elim)|(refine lx ?_;refine sp (fun hc=>?_) (fun hc=>?_)<;>try exact hc.elim)|refine sx ?_ ?_|refine sy ?_ ?_|fail
   refine iI (i:=1) (ver:=1) (by rfl) (by rfl) ?_ (by simp [AS.frozen,iA,gU,frz,iJ,aA.frz,aA.kill,rtr,rtc,rt];rfl)
   refine cu (dN ([[104,105],[97,32,98],[99,111,117,110,116],[120,62,121],[]]:List Str) (by decide)) ?_
   rintro _ j3 g3 ⟨u,hm3,rfl⟩ hj3
   simp only [AS.drew,AS.called,aH,AS.put,aG,aF,bE,aU,bD,aS,bH,aV,List.set_cons_succ,List.set_cons_zero,List.append_nil,List.nil_append,List.cons_append]
   have hu:=(by decide:∀s∈([[104,105],[97,32,98],[99,111,117,110,116],[120,62,121],[]]:List Str),s.length≤5) u hm3
   have hlu:s.length+u.length≤6200:=by omega
   have W:=And.intro hk1 hlu
   repeat' first|refine st ?_|(refine nx ?_;refine so ?_)|(refine cx ?_;refine sc (fun hc=>?_) (fun hc=>?_)<;>try exact hc.elim)|(refine lx ?_;refine sp (fun hc=>?_) (fun hc=>?_)<;>try exact hc.elim)|refine sx ?_ ?_|refine sy ?_ ?_|fail
   refine hK2 _ ⟨(k - 1,s++u,j3,g3),by simp only;omega,by simp;omega,hj3⟩ ?_ (by simp only;omega)
   exact aO 1 (by simp) (by simp) (by simp) (by simp)
 ·have hk0:¬(k:Int) > 0:=by omega
  simp only [bB,List.set_cons_succ,List.set_cons_zero] at hK1⊢
  clear hK1
  have W:=hk0
  repeat' first|refine st ?_|(refine nx ?_;refine so ?_)|(refine cx ?_;refine sc (fun hc=>?_) (fun hc=>?_)<;>try exact hc.elim)|(refine lx ?_;refine sp (fun hc=>?_) (fun hc=>?_)<;>try exact hc.elim)|refine sx ?_ ?_|refine sy ?_ ?_|fail
  refine cu (eZ 6) ?_
  rintro _ j2 g2 ⟨b,rfl⟩ hj2
  simp only [AS.drew,AS.called,aH,AS.put,aG,aF,bE,aU,bD,aS,bH,aV,List.set_cons_succ,List.set_cons_zero,List.append_nil,List.nil_append,List.cons_append]
  cases b
  ·have W:=trivial
   repeat' first|refine st ?_|(refine nx ?_;refine so ?_)|(refine cx ?_;refine sc (fun hc=>?_) (fun hc=>?_)<;>try exact hc.elim)|(refine lx ?_;refine sp (fun hc=>?_) (fun hc=>?_)<;>try exact hc.elim)|refine sx ?_ ?_|refine sy ?_ ?_|fail
   refine ⟨.inr rfl,gD (by simp [Tryz.results136];rfl) (by rfl) (by rfl) (by omega) (by simp) (by simp) ?_⟩
   simp only [single,res]
   exact ⟨_,rfl,by omega⟩
  ·have W:=trivial
   repeat' first|refine st ?_|(refine nx ?_;refine so ?_)|(refine cx ?_;refine sc (fun hc=>?_) (fun hc=>?_)<;>try exact hc.elim)|(refine lx ?_;refine sp (fun hc=>?_) (fun hc=>?_)<;>try exact hc.elim)|refine sx ?_ ?_|refine sy ?_ ?_|fail
   refine iI (i:=1) (ver:=1) (by rfl) (by rfl) ?_ (by simp [AS.frozen,iA,gU,frz,iJ,aA.frz,aA.kill,rtr,rtc,rt];rfl)
   refine cu (dN ([[60,112],[60],[101,110,100]]:List Str) (by decide)) ?_
   rintro _ j3 g3 ⟨u,hm3,rfl⟩ hj3
   simp only [AS.drew,AS.called,aH,AS.put,aG,aF,bE,aU,bD,aS,bH,aV,List.set_cons_succ,List.set_cons_zero,List.append_nil,List.nil_append,List.cons_append]
   have hu:=(by decide:∀s∈([[60,112],[60],[101,110,100]]:List Str),s.length≤3) u hm3
   have hlu:s.length+u.length≤6300:=by omega
   have W:=hlu
   repeat' first|refine st ?_|(refine nx ?_;refine so ?_)|(refine cx ?_;refine sc (fun hc=>?_) (fun hc=>?_)<;>try exact hc.elim)|(refine lx ?_;refine sp (fun hc=>?_) (fun hc=>?_)<;>try exact hc.elim)|refine sx ?_ ?_|refine sy ?_ ?_|fail
   refine ⟨.inr rfl,gD (by simp [Tryz.results136];rfl) (by rfl) (by rfl) (by omega) (by simp) (by simp) ?_⟩
   simp only [single,res]
   exact ⟨_,rfl,by simp;omega⟩
theorem aOw [aB Tryz.prog]:aGg Tryz.prog 17:=by
 refine aY6 Tryz.mix Tryz.func17 Tryz.ntmps17 ?_
 intro code hl
 simp only [maxLen] at hl
 have W:=trivial
 repeat' first|refine st ?_|(refine nx ?_;refine so ?_)|(refine cx ?_;refine sc (fun hc=>?_) (fun hc=>?_)<;>try exact hc.elim)|(refine lx ?_;refine sp (fun hc=>?_) (fun hc=>?_)<;>try exact hc.elim)|refine sx ?_ ?_|refine sy ?_ ?_|fail
 refine aT (ι:={x:Nat×Int // x.1≤code.length}) (fun t o y=>⟨bB t [(3,.int .i64 y.1.2),(4,.int .i64 (y.1.1:Int))],o⟩)
  (fun y=>code.length - y.1.1) ⟨(0,IntKind.i64.wrap (193017+(code.length:Int))),by simp⟩ (aI (by simp) (by simp)) ?_
 rintro ⟨⟨k,g⟩,hk⟩ K1 hK1
 simp only at hk
 simp only [bB,List.set_cons_succ,List.set_cons_zero] at hK1⊢
 by_cases hlt:k < code.length
 ·have h1:(k:Int) < (code.length:Int):=by omega
  by_cases h2:(k:Int) < 4000
  ·have hg:=aG3 (List.getElem?_eq_getElem hlt)
   generalize code[k]=c at *
   have hk1:IntKind.i64.wrap ((k:Int)+1)=((k+1:Nat):Int):=by rw [wrap64]<;>omega
   have W:=And.intro h1 (And.intro h2 (And.intro hg hk1))
   repeat' first|refine st ?_|(refine nx ?_;refine so ?_)|(refine cx ?_;refine sc (fun hc=>?_) (fun hc=>?_)<;>try exact hc.elim)|(refine lx ?_;refine sp (fun hc=>?_) (fun hc=>?_)<;>try exact hc.elim)|refine sx ?_ ?_|refine sy ?_ ?_|fail
   refine hK1 _ ⟨(k+1,qD .and .i64 (IntKind.i64.wrap (IntKind.i64.wrap (IntKind.i64.wrap (g * 137)+IntKind.i64.wrap (c.toNat:Int))+11)) 1073741823),by simp only;omega⟩ ?_ (by simp only;omega)
   exact aI (by simp) (by simp)
  ·have W:=And.intro h1 h2
   repeat' first|refine st ?_|(refine nx ?_;refine so ?_)|(refine cx ?_;refine sc (fun hc=>?_) (fun hc=>?_)<;>try exact hc.elim)|(refine lx ?_;refine sp (fun hc=>?_) (fun hc=>?_)<;>try exact hc.elim)|refine sx ?_ ?_|refine sy ?_ ?_|fail
   refine ⟨.inr rfl,0,0,0,_,by first|(simp [Tryz.results17];done)|(simp [Tryz.results17];rfl),by first|rfl|(simp [aH];done)|(simp [aH];rfl),by omega⟩
 ·have h1:¬(k:Int) < (code.length:Int):=by omega
  have W:=h1
  repeat' first|refine st ?_|(refine nx ?_;refine so ?_)|(refine cx ?_;refine sc (fun hc=>?_) (fun hc=>?_)<;>try exact hc.elim)|(refine lx ?_;refine sp (fun hc=>?_) (fun hc=>?_)<;>try exact hc.elim)|refine sx ?_ ?_|refine sy ?_ ?_|fail
  refine ⟨.inr rfl,0,0,0,_,by first|(simp [Tryz.results17];done)|(simp [Tryz.results17];rfl),by first|rfl|(simp [aH];done)|(simp [aH];rfl),by omega⟩
end Go.Proofs.YtgkllebnnakojaaGreatDoor
