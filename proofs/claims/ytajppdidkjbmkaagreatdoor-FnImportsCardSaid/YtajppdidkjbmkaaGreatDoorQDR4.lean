/-
  Proved here: steps towards the statement of this claim, text QDR4.
  No condition beyond what each statement spells out.
-/
import Derived.Test.YtajppdidkjbmkaaGreatDoorDR3
import Derived.Test.YtajppdidkjbmkaaGreatDoorF8
set_option linter.all false
set_option maxRecDepth 4000
set_option maxHeartbeats 4000000
namespace Go.Proofs.YtajppdidkjbmkaaGreatDoor
open Go.Aw
theorem aMs [aB Tryz.prog] (m:Nat) (hm:m≤100):OkC Tryz.prog 57 [.int .i64 (m:Int)] (aD3 (62 * m+10)):=by
 refine nE Tryz.mix Tryz.func57 Tryz.ntmps57 ?_
 intro code i h hi hl
 simp only [aG]
 have hm1:IntKind.i64.wrap ((m:Int)+1)=(m:Int)+1:=by rw [wrap64]<;>omega
 have W:=hm1
 repeat' first|refine st ?_|(refine nx ?_;refine so ?_)|(refine cx ?_;refine sc (fun hc=>?_) (fun hc=>?_)<;>try exact hc.elim)|(refine lx ?_;refine sp (fun hc=>?_) (fun hc=>?_)<;>try exact hc.elim)|refine sx ?_ ?_|refine sy ?_ ?_|fail
 refine cu (gF ((m:Int)+1)) ?_
 rintro _ i2 h2 ⟨x,rfl,x0,x1,x2⟩ hi2
 simp only [AS.drew,AS.called,aG,AS.put,aF,aC,bF,aR,bE,aN,bG,aP,List.set_cons_succ,List.set_cons_zero,List.append_nil,List.nil_append,List.cons_append]
 obtain ⟨n,rfl⟩:=Int.eq_ofNat_of_zero_le x0
 have hn:n≤m:=by omega
 have W:=trivial
 repeat' first|refine st ?_|(refine nx ?_;refine so ?_)|(refine cx ?_;refine sc (fun hc=>?_) (fun hc=>?_)<;>try exact hc.elim)|(refine lx ?_;refine sp (fun hc=>?_) (fun hc=>?_)<;>try exact hc.elim)|refine sx ?_ ?_|refine sy ?_ ?_|fail
 refine aJ (ι:={x:Nat×Str×Int×Int // x.1≤m∧x.2.1.length+62 * x.1≤62 * m∧0≤x.2.2.1}) (fun t o y=>⟨aS t [(5,.str y.1.2.1),(6,.int .i64 (y.1.1:Int))],[⟨true,true,3,2,[[.sl .view 1 (aK code),.int .i64 y.1.2.2.1,.int .i64 y.1.2.2.2]]⟩]⟩)
  (fun y=>y.1.1) ⟨(n,[],i2,h2),hn,by simp;omega,hi2⟩ (aD (by simp) (by simp)) ?_
 rintro ⟨⟨k,s,j,g⟩,hk,hs,hj⟩ K1 hK1
 simp only at hk hs hj
 by_cases h0:0 < k
 ·have hk0:(k:Int) > 0:=by omega
  have hk1:IntKind.i64.wrap ((k:Int) - 1)=((k - 1:Nat):Int):=by rw [wrap64]<;>omega
  have hK2:=hK1
  simp only [aS,List.set_cons_succ,List.set_cons_zero] at hK1⊢
  clear hK1
  have W:=hk0
  repeat' first|refine st ?_|(refine nx ?_;refine so ?_)|(refine cx ?_;refine sc (fun hc=>?_) (fun hc=>?_)<;>try exact hc.elim)|(refine lx ?_;refine sp (fun hc=>?_) (fun hc=>?_)<;>try exact hc.elim)|refine sx ?_ ?_|refine sy ?_ ?_|fail
  refine cu (eB 3) ?_
  rintro _ j2 g2 ⟨b,rfl⟩ hj2
  simp only [AS.drew,AS.called,aG,AS.put,aF,aC,bF,aR,bE,aN,bG,aP,List.set_cons_succ,List.set_cons_zero,List.append_nil,List.nil_append,List.cons_append]
  cases b
  ·have W:=trivial
   repeat' first|refine st ?_|(refine nx ?_;refine so ?_)|(refine cx ?_;refine sc (fun hc=>?_) (fun hc=>?_)<;>try exact hc.elim)|(refine lx ?_;refine sp (fun hc=>?_) (fun hc=>?_)<;>try exact hc.elim)|refine sx ?_ ?_|refine sy ?_ ?_|fail
   refine cu (aPx) ?_
   rintro _ j3 g3 ⟨u,rfl,hu⟩ hj3
   simp only [AS.drew,AS.called,aG,AS.put,aF,aC,bF,aR,bE,aN,bG,aP,List.set_cons_succ,List.set_cons_zero,List.append_nil,List.nil_append,List.cons_append]
   have hlu:s.length+1+u.length+1≤6200:=by omega
   have W:=And.intro hk1 hlu
   repeat' first|refine st ?_|(refine nx ?_;refine so ?_)|(refine cx ?_;refine sc (fun hc=>?_) (fun hc=>?_)<;>try exact hc.elim)|(refine lx ?_;refine sp (fun hc=>?_) (fun hc=>?_)<;>try exact hc.elim)|refine sx ?_ ?_|refine sy ?_ ?_|fail
   refine hK2 _ ⟨(k - 1,s++[60]++u++[62],j3,g3),by simp only;omega,by simp;omega,hj3⟩ ?_ (by simp only;omega)
   exact aQ 1 (by simp) (by simp) (by simp) (by simp)
  ·have W:=trivial
   repeat' first|refine st ?_|(refine nx ?_;refine so ?_)|(refine cx ?_;refine sc (fun hc=>?_) (fun hc=>?_)<;>try exact hc.elim)|(refine lx ?_;refine sp (fun hc=>?_) (fun hc=>?_)<;>try exact hc.elim)|refine sx ?_ ?_|refine sy ?_ ?_|fail
   refine fM (i:=1) (ver:=1) (by rfl) (by rfl) ?_ (by simp [AS.frozen,gM,gB,frz,gT,aA.frz,aA.kill,rtr,rtc,rt];rfl)
   refine cu (dJ ([[104,105],[97,32,98],[99,111,117,110,116],[120,62,121],[]]:List Str) (by decide)) ?_
   rintro _ j3 g3 ⟨u,hm3,rfl⟩ hj3
   simp only [AS.drew,AS.called,aG,AS.put,aF,aC,bF,aR,bE,aN,bG,aP,List.set_cons_succ,List.set_cons_zero,List.append_nil,List.nil_append,List.cons_append]
   have hu:=(by decide:∀s∈([[104,105],[97,32,98],[99,111,117,110,116],[120,62,121],[]]:List Str),s.length≤5) u hm3
   have hlu:s.length+u.length≤6200:=by omega
   have W:=And.intro hk1 hlu
   repeat' first|refine st ?_|(refine nx ?_;refine so ?_)|(refine cx ?_;refine sc (fun hc=>?_) (fun hc=>?_)<;>try exact hc.elim)|(refine lx ?_;refine sp (fun hc=>?_) (fun hc=>?_)<;>try exact hc.elim)|refine sx ?_ ?_|refine sy ?_ ?_|fail
   refine hK2 _ ⟨(k - 1,s++u,j3,g3),by simp only;omega,by simp;omega,hj3⟩ ?_ (by simp only;omega)
   exact aQ 1 (by simp) (by simp) (by simp) (by simp)
 ·have hk0:¬(k:Int) > 0:=by omega
  simp only [aS,List.set_cons_succ,List.set_cons_zero] at hK1⊢
  clear hK1
  have W:=hk0
  repeat' first|refine st ?_|(refine nx ?_;refine so ?_)|(refine cx ?_;refine sc (fun hc=>?_) (fun hc=>?_)<;>try exact hc.elim)|(refine lx ?_;refine sp (fun hc=>?_) (fun hc=>?_)<;>try exact hc.elim)|refine sx ?_ ?_|refine sy ?_ ?_|fail
  refine cu (eB 6) ?_
  rintro _ j2 g2 ⟨b,rfl⟩ hj2
  simp only [AS.drew,AS.called,aG,AS.put,aF,aC,bF,aR,bE,aN,bG,aP,List.set_cons_succ,List.set_cons_zero,List.append_nil,List.nil_append,List.cons_append]
  cases b
  ·have W:=trivial
   repeat' first|refine st ?_|(refine nx ?_;refine so ?_)|(refine cx ?_;refine sc (fun hc=>?_) (fun hc=>?_)<;>try exact hc.elim)|(refine lx ?_;refine sp (fun hc=>?_) (fun hc=>?_)<;>try exact hc.elim)|refine sx ?_ ?_|refine sy ?_ ?_|fail
   refine ⟨.inr rfl,fE (by simp [Tryz.results57];rfl) (by rfl) (by rfl) (by omega) (by simp) (by simp) ?_⟩
   simp only [single,res]
   exact ⟨_,rfl,by omega⟩
  ·have W:=trivial
   repeat' first|refine st ?_|(refine nx ?_;refine so ?_)|(refine cx ?_;refine sc (fun hc=>?_) (fun hc=>?_)<;>try exact hc.elim)|(refine lx ?_;refine sp (fun hc=>?_) (fun hc=>?_)<;>try exact hc.elim)|refine sx ?_ ?_|refine sy ?_ ?_|fail
   refine fM (i:=1) (ver:=1) (by rfl) (by rfl) ?_ (by simp [AS.frozen,gM,gB,frz,gT,aA.frz,aA.kill,rtr,rtc,rt];rfl)
   refine cu (dJ ([[60,112],[60],[101,110,100]]:List Str) (by decide)) ?_
   rintro _ j3 g3 ⟨u,hm3,rfl⟩ hj3
   simp only [AS.drew,AS.called,aG,AS.put,aF,aC,bF,aR,bE,aN,bG,aP,List.set_cons_succ,List.set_cons_zero,List.append_nil,List.nil_append,List.cons_append]
   have hu:=(by decide:∀s∈([[60,112],[60],[101,110,100]]:List Str),s.length≤3) u hm3
   have hlu:s.length+u.length≤6300:=by omega
   have W:=hlu
   repeat' first|refine st ?_|(refine nx ?_;refine so ?_)|(refine cx ?_;refine sc (fun hc=>?_) (fun hc=>?_)<;>try exact hc.elim)|(refine lx ?_;refine sp (fun hc=>?_) (fun hc=>?_)<;>try exact hc.elim)|refine sx ?_ ?_|refine sy ?_ ?_|fail
   refine ⟨.inr rfl,fE (by simp [Tryz.results57];rfl) (by rfl) (by rfl) (by omega) (by simp) (by simp) ?_⟩
   simp only [single,res]
   exact ⟨_,rfl,by simp;omega⟩
theorem aFq [aB Tryz.prog]:aG9 Tryz.prog 16:=by
 refine aZw Tryz.mix Tryz.func16 Tryz.ntmps16 ?_
 intro code hl
 simp only [maxLen] at hl
 have W:=trivial
 repeat' first|refine st ?_|(refine nx ?_;refine so ?_)|(refine cx ?_;refine sc (fun hc=>?_) (fun hc=>?_)<;>try exact hc.elim)|(refine lx ?_;refine sp (fun hc=>?_) (fun hc=>?_)<;>try exact hc.elim)|refine sx ?_ ?_|refine sy ?_ ?_|fail
 refine aJ (ι:={x:Nat×Int // x.1≤code.length}) (fun t o y=>⟨aS t [(3,.int .i64 y.1.2),(4,.int .i64 (y.1.1:Int))],o⟩)
  (fun y=>code.length - y.1.1) ⟨(0,IntKind.i64.wrap (193017+(code.length:Int))),by simp⟩ (aD (by simp) (by simp)) ?_
 rintro ⟨⟨k,g⟩,hk⟩ K1 hK1
 simp only at hk
 simp only [aS,List.set_cons_succ,List.set_cons_zero] at hK1⊢
 by_cases hlt:k < code.length
 ·have h1:(k:Int) < (code.length:Int):=by omega
  by_cases h2:(k:Int) < 4000
  ·have hg:=aHn (List.getElem?_eq_getElem hlt)
   generalize code[k]=c at *
   have hk1:IntKind.i64.wrap ((k:Int)+1)=((k+1:Nat):Int):=by rw [wrap64]<;>omega
   have W:=And.intro h1 (And.intro h2 (And.intro hg hk1))
   repeat' first|refine st ?_|(refine nx ?_;refine so ?_)|(refine cx ?_;refine sc (fun hc=>?_) (fun hc=>?_)<;>try exact hc.elim)|(refine lx ?_;refine sp (fun hc=>?_) (fun hc=>?_)<;>try exact hc.elim)|refine sx ?_ ?_|refine sy ?_ ?_|fail
   refine hK1 _ ⟨(k+1,rJ .and .i64 (IntKind.i64.wrap (IntKind.i64.wrap (IntKind.i64.wrap (g * 137)+IntKind.i64.wrap (c.toNat:Int))+11)) 1073741823),by simp only;omega⟩ ?_ (by simp only;omega)
   exact aD (by simp) (by simp)
  ·have W:=And.intro h1 h2
   repeat' first|refine st ?_|(refine nx ?_;refine so ?_)|(refine cx ?_;refine sc (fun hc=>?_) (fun hc=>?_)<;>try exact hc.elim)|(refine lx ?_;refine sp (fun hc=>?_) (fun hc=>?_)<;>try exact hc.elim)|refine sx ?_ ?_|refine sy ?_ ?_|fail
   refine ⟨.inr rfl,0,0,0,_,by first|(simp [Tryz.results16];done)|(simp [Tryz.results16];rfl),by first|rfl|(simp [aG];done)|(simp [aG];rfl),by omega⟩
 ·have h1:¬(k:Int) < (code.length:Int):=by omega
  have W:=h1
  repeat' first|refine st ?_|(refine nx ?_;refine so ?_)|(refine cx ?_;refine sc (fun hc=>?_) (fun hc=>?_)<;>try exact hc.elim)|(refine lx ?_;refine sp (fun hc=>?_) (fun hc=>?_)<;>try exact hc.elim)|refine sx ?_ ?_|refine sy ?_ ?_|fail
  refine ⟨.inr rfl,0,0,0,_,by first|(simp [Tryz.results16];done)|(simp [Tryz.results16];rfl),by first|rfl|(simp [aG];done)|(simp [aG];rfl),by omega⟩
theorem aIr [aB Tryz.prog]:OkC Tryz.prog 56 [] (aD3 40):=by
 refine nE Tryz.mix Tryz.func56 Tryz.ntmps56 ?_
 intro code i h hi hl
 simp only [aG]
 have W:=trivial
 repeat' first|refine st ?_|(refine nx ?_;refine so ?_)|(refine cx ?_;refine sc (fun hc=>?_) (fun hc=>?_)<;>try exact hc.elim)|(refine lx ?_;refine sp (fun hc=>?_) (fun hc=>?_)<;>try exact hc.elim)|refine sx ?_ ?_|refine sy ?_ ?_|fail
 refine cu (gF 4) ?_
 rintro _ i2 h2 ⟨x,rfl,x0,x1,x2⟩ hi2
 simp only [AS.drew,AS.called,aG,AS.put,aF,aC,bF,aR,bE,aN,bG,aP,List.set_cons_succ,List.set_cons_zero,List.append_nil,List.nil_append,List.cons_append]
 obtain ⟨n,rfl⟩:=Int.eq_ofNat_of_zero_le x0
 have hn:n≤3:=by omega
 have W:=trivial
 repeat' first|refine st ?_|(refine nx ?_;refine so ?_)|(refine cx ?_;refine sc (fun hc=>?_) (fun hc=>?_)<;>try exact hc.elim)|(refine lx ?_;refine sp (fun hc=>?_) (fun hc=>?_)<;>try exact hc.elim)|refine sx ?_ ?_|refine sy ?_ ?_|fail
 refine aJ (ι:={x:Nat×Str×Int×Int // x.1≤3∧x.2.1.length+10 * x.1≤30∧0≤x.2.2.1}) (fun t o y=>⟨aS t [(3,.str y.1.2.1),(4,.int .i64 (y.1.1:Int))],[⟨true,true,3,2,[[.sl .view 1 (aK code),.int .i64 y.1.2.2.1,.int .i64 y.1.2.2.2]]⟩]⟩)
  (fun y=>y.1.1) ⟨(n,[],i2,h2),hn,by simp;omega,hi2⟩ (aD (by simp) (by simp)) ?_
 rintro ⟨⟨k,s,j,g⟩,hk,hs,hj⟩ K1 hK1
 simp only at hk hs hj
 have hK2:=hK1
 simp only [aS,List.set_cons_succ,List.set_cons_zero] at hK1⊢
 clear hK1
 by_cases h0:0 < k
 ·have hk0:(k:Int) > 0:=by omega
  have hk1:IntKind.i64.wrap ((k:Int) - 1)=((k - 1:Nat):Int):=by rw [wrap64]<;>omega
  have W:=hk0
  repeat' first|refine st ?_|(refine nx ?_;refine so ?_)|(refine cx ?_;refine sc (fun hc=>?_) (fun hc=>?_)<;>try exact hc.elim)|(refine lx ?_;refine sp (fun hc=>?_) (fun hc=>?_)<;>try exact hc.elim)|refine sx ?_ ?_|refine sy ?_ ?_|fail
  refine fM (i:=1) (ver:=1) (by rfl) (by rfl) ?_ (by simp [AS.frozen,gM,gB,frz,gT,aA.frz,aA.kill,rtr,rtc,rt];rfl)
  refine cu (dJ ([[112],[98],[112,97,103,101],[80],[]]:List Str) (by decide)) ?_
  rintro _ j2 g2 ⟨u,hm2,rfl⟩ hj2
  simp only [AS.drew,AS.called,aG,AS.put,aF,aC,bF,aR,bE,aN,bG,aP,List.set_cons_succ,List.set_cons_zero,List.append_nil,List.nil_append,List.cons_append]
  have hu:=(by decide:∀s∈([[112],[98],[112,97,103,101],[80],[]]:List Str),s.length≤4) u hm2
  have hlu:s.length+u.length+1≤6200:=by omega
  have W:=hlu
  repeat' first|refine st ?_|(refine nx ?_;refine so ?_)|(refine cx ?_;refine sc (fun hc=>?_) (fun hc=>?_)<;>try exact hc.elim)|(refine lx ?_;refine sp (fun hc=>?_) (fun hc=>?_)<;>try exact hc.elim)|refine sx ?_ ?_|refine sy ?_ ?_|fail
  refine fM (i:=2) (ver:=1) (by rfl) (by rfl) ?_ (by simp [AS.frozen,gM,gB,frz,gT,aA.frz,aA.kill,rtr,rtc,rt];rfl)
  refine cu (dJ ([[49],[55],[57,57,57],[49,48,48,48],[48],[120]]:List Str) (by decide)) ?_
  rintro _ j3 g3 ⟨q,hm3,rfl⟩ hj3
  simp only [AS.drew,AS.called,aG,AS.put,aF,aC,bF,aR,bE,aN,bG,aP,List.set_cons_succ,List.set_cons_zero,List.append_nil,List.nil_append,List.cons_append]
  have hq:=(by decide:∀s∈([[49],[55],[57,57,57],[49,48,48,48],[48],[120]]:List Str),s.length≤4) q hm3
  have hlq:s.length+u.length+1+q.length+1≤6200:=by omega
  have W:=And.intro hk1 hlq
  repeat' first|refine st ?_|(refine nx ?_;refine so ?_)|(refine cx ?_;refine sc (fun hc=>?_) (fun hc=>?_)<;>try exact hc.elim)|(refine lx ?_;refine sp (fun hc=>?_) (fun hc=>?_)<;>try exact hc.elim)|refine sx ?_ ?_|refine sy ?_ ?_|fail
  refine hK2 _ ⟨(k - 1,s++u++[58]++q++[59],j3,g3),by simp only;omega,by simp;omega,hj3⟩ ?_ (by simp only;omega)
  exact aQ 1 (by simp) (by simp) (by simp) (by simp)
 ·have hk0:¬(k:Int) > 0:=by omega
  have W:=hk0
  repeat' first|refine st ?_|(refine nx ?_;refine so ?_)|(refine cx ?_;refine sc (fun hc=>?_) (fun hc=>?_)<;>try exact hc.elim)|(refine lx ?_;refine sp (fun hc=>?_) (fun hc=>?_)<;>try exact hc.elim)|refine sx ?_ ?_|refine sy ?_ ?_|fail
  refine ⟨.inr rfl,fE (by simp [Tryz.results56];rfl) (by rfl) (by rfl) (by omega) (by simp) (by simp) ?_⟩
  simp only [single,res]
  exact ⟨_,rfl,by omega⟩
theorem aGh [aB Tryz.prog] (N:Nat) (hN1:1≤N) (hN4:N≤4):OkC Tryz.prog 55 [.int .i64 (N:Int)] (aD3 (24 * N)):=by
 refine nE Tryz.mix Tryz.func55 Tryz.ntmps55 ?_
 intro code i h hi hl
 simp only [aG]
 have W:=trivial
 repeat' first|refine st ?_|(refine nx ?_;refine so ?_)|(refine cx ?_;refine sc (fun hc=>?_) (fun hc=>?_)<;>try exact hc.elim)|(refine lx ?_;refine sp (fun hc=>?_) (fun hc=>?_)<;>try exact hc.elim)|refine sx ?_ ?_|refine sy ?_ ?_|fail
 refine cu (gF (N:Int)) ?_
 rintro _ i2 h2 ⟨x,rfl,x0,x1,x2⟩ hi2
 simp only [AS.drew,AS.called,aG,AS.put,aF,aC,bF,aR,bE,aN,bG,aP,List.set_cons_succ,List.set_cons_zero,List.append_nil,List.nil_append,List.cons_append]
 obtain ⟨n,rfl⟩:=Int.eq_ofNat_of_zero_le x0
 have hn:n+1≤N:=by omega
 have hn1:IntKind.i64.wrap (1+(n:Int))=((n+1:Nat):Int):=by rw [wrap64]<;>omega
 have W:=hn1
 repeat' first|refine st ?_|(refine nx ?_;refine so ?_)|(refine cx ?_;refine sc (fun hc=>?_) (fun hc=>?_)<;>try exact hc.elim)|(refine lx ?_;refine sp (fun hc=>?_) (fun hc=>?_)<;>try exact hc.elim)|refine sx ?_ ?_|refine sy ?_ ?_|fail
 refine aJ (ι:={x:Nat×Str×Int×Int // x.1≤4∧x.2.1.length+24 * x.1≤24 * N∧0≤x.2.2.1}) (fun t o y=>⟨aS t [(5,.str y.1.2.1),(6,.int .i64 (y.1.1:Int))],[⟨true,true,3,2,[[.sl .view 1 (aK code),.int .i64 y.1.2.2.1,.int .i64 y.1.2.2.2]]⟩]⟩)
  (fun y=>y.1.1) ⟨(n+1,[],i2,h2),by simp only;omega,by simp;omega,hi2⟩ (aD (by simp) (by simp)) ?_
 rintro ⟨⟨k,s,j,g⟩,hk,hs,hj⟩ K1 hK1
 simp only at hk hs hj
 have hK2:=hK1
 simp only [aS,List.set_cons_succ,List.set_cons_zero] at hK1⊢
 clear hK1
 by_cases h0:0 < k
 ·have hk0:(k:Int) > 0:=by omega
  have hk1:IntKind.i64.wrap ((k:Int) - 1)=((k - 1:Nat):Int):=by rw [wrap64]<;>omega
  have hls:s.length+1≤6200:=by omega
  by_cases he:s=[]
  ·subst he
   have W:=hk0
   repeat' first|refine st ?_|(refine nx ?_;refine so ?_)|(refine cx ?_;refine sc (fun hc=>?_) (fun hc=>?_)<;>try exact hc.elim)|(refine lx ?_;refine sp (fun hc=>?_) (fun hc=>?_)<;>try exact hc.elim)|refine sx ?_ ?_|refine sy ?_ ?_|fail
   refine fM (i:=1) (ver:=1) (by rfl) (by rfl) ?_ (by simp [AS.frozen,gM,gB,frz,gT,aA.frz,aA.kill,rtr,rtc,rt];rfl)
   refine cu (dJ ([[115,97,121,32,104,105],[99,111,117,110,116,32,112],[99,111,117,110,116,32,115,99,114,105,112,116],[108,111,111,107,32,112],[108,111,111,107,32,98],[97,100,100,32,98],[97,100,100,32,112],[119,114,105,116,101,32,91,112,93,120,91,47,112,93],[119,114,105,116,101,32,91,105,109,103,32,115,114,99,61,108,111,103,111,93],[119,114,105,116,101,32,91,108,105,110,107,32,104,114,101,102,61,115,116,121,108,101,93],[119,114,105,116,101,32,91,98,93]]:List Str) (by decide)) ?_
   rintro _ j2 g2 ⟨u,hm2,rfl⟩ hj2
   simp only [AS.drew,AS.called,aG,AS.put,aF,aC,bF,aR,bE,aN,bG,aP,List.set_cons_succ,List.set_cons_zero,List.append_nil,List.nil_append,List.cons_append]
   have hu:=(by decide:∀s∈([[115,97,121,32,104,105],[99,111,117,110,116,32,112],[99,111,117,110,116,32,115,99,114,105,112,116],[108,111,111,107,32,112],[108,111,111,107,32,98],[97,100,100,32,98],[97,100,100,32,112],[119,114,105,116,101,32,91,112,93,120,91,47,112,93],[119,114,105,116,101,32,91,105,109,103,32,115,114,99,61,108,111,103,111,93],[119,114,105,116,101,32,91,108,105,110,107,32,104,114,101,102,61,115,116,121,108,101,93],[119,114,105,116,101,32,91,98,93]]:List Str),s.length≤23) u hm2
   have hlu:u.length≤6200:=by omega
   have W:=And.intro hk1 hlu
   repeat' first|refine st ?_|(refine nx ?_;refine so ?_)|(refine cx ?_;refine sc (fun hc=>?_) (fun hc=>?_)<;>try exact hc.elim)|(refine lx ?_;refine sp (fun hc=>?_) (fun hc=>?_)<;>try exact hc.elim)|refine sx ?_ ?_|refine sy ?_ ?_|fail
   refine hK2 _ ⟨(k - 1,u,j2,g2),by simp only;omega,by simp only [List.length_nil] at hs⊢;omega,hj2⟩ ?_ (by simp only;omega)
   exact aQ 1 (by simp) (by simp) (by simp) (by simp)
  ·have W:=And.intro hk0 (And.intro he hls)
   repeat' first|refine st ?_|(refine nx ?_;refine so ?_)|(refine cx ?_;refine sc (fun hc=>?_) (fun hc=>?_)<;>try exact hc.elim)|(refine lx ?_;refine sp (fun hc=>?_) (fun hc=>?_)<;>try exact hc.elim)|refine sx ?_ ?_|refine sy ?_ ?_|fail
   all_goals (try exact (he (by assumption)).elim)
   refine fM (i:=1) (ver:=1) (by rfl) (by rfl) ?_ (by simp [AS.frozen,gM,gB,frz,gT,aA.frz,aA.kill,rtr,rtc,rt];rfl)
   refine cu (dJ ([[115,97,121,32,104,105],[99,111,117,110,116,32,112],[99,111,117,110,116,32,115,99,114,105,112,116],[108,111,111,107,32,112],[108,111,111,107,32,98],[97,100,100,32,98],[97,100,100,32,112],[119,114,105,116,101,32,91,112,93,120,91,47,112,93],[119,114,105,116,101,32,91,105,109,103,32,115,114,99,61,108,111,103,111,93],[119,114,105,116,101,32,91,108,105,110,107,32,104,114,101,102,61,115,116,121,108,101,93],[119,114,105,116,101,32,91,98,93]]:List Str) (by decide)) ?_
   rintro _ j2 g2 ⟨u,hm2,rfl⟩ hj2
   simp only [AS.drew,AS.called,aG,AS.put,aF,aC,bF,aR,bE,aN,bG,aP,List.set_cons_succ,List.set_cons_zero,List.append_nil,List.nil_append,List.cons_append]
   have hu:=(by decide:∀s∈([[115,97,121,32,104,105],[99,111,117,110,116,32,112],[99,111,117,110,116,32,115,99,114,105,112,116],[108,111,111,107,32,112],[108,111,111,107,32,98],[97,100,100,32,98],[97,100,100,32,112],[119,114,105,116,101,32,91,112,93,120,91,47,112,93],[119,114,105,116,101,32,91,105,109,103,32,115,114,99,61,108,111,103,111,93],[119,114,105,116,101,32,91,108,105,110,107,32,104,114,101,102,61,115,116,121,108,101,93],[119,114,105,116,101,32,91,98,93]]:List Str),s.length≤23) u hm2
   have hlu:s.length+1+u.length≤6200:=by omega
   have W:=And.intro hk1 hlu
   repeat' first|refine st ?_|(refine nx ?_;refine so ?_)|(refine cx ?_;refine sc (fun hc=>?_) (fun hc=>?_)<;>try exact hc.elim)|(refine lx ?_;refine sp (fun hc=>?_) (fun hc=>?_)<;>try exact hc.elim)|refine sx ?_ ?_|refine sy ?_ ?_|fail
   refine hK2 _ ⟨(k - 1,s++[59]++u,j2,g2),by simp only;omega,by simp;omega,hj2⟩ ?_ (by simp only;omega)
   exact aQ 1 (by simp) (by simp) (by simp) (by simp)
 ·have hk0:¬(k:Int) > 0:=by omega
  have W:=hk0
  repeat' first|refine st ?_|(refine nx ?_;refine so ?_)|(refine cx ?_;refine sc (fun hc=>?_) (fun hc=>?_)<;>try exact hc.elim)|(refine lx ?_;refine sp (fun hc=>?_) (fun hc=>?_)<;>try exact hc.elim)|refine sx ?_ ?_|refine sy ?_ ?_|fail
  refine ⟨.inr rfl,fE (by simp [Tryz.results55];rfl) (by rfl) (by rfl) (by omega) (by simp) (by simp) ?_⟩
  simp only [single,res]
  exact ⟨_,rfl,by omega⟩
end Go.Proofs.YtajppdidkjbmkaaGreatDoor
