/-
  Proved here: steps towards the statement of this claim, text QDR7.
  No condition beyond what each statement spells out.
-/
import Derived.Test.YtaddkhdghlaalaaGreatDoorQDR1
import Derived.Test.YtaddkhdghlaalaaGreatDoorQJ1
set_option linter.all false
set_option maxRecDepth 4000
set_option maxHeartbeats 4000000
namespace Go.Proofs.YtaddkhdghlaalaaGreatDoor
open Go.Aw
theorem aP1 [aB Tryz.prog]:OkC Tryz.prog 163 [] (aNu 40):=by
 refine uF Tryz.mix Tryz.func163 Tryz.ntmps163 ?_
 intro code i h hi hl
 simp only [aQ]
 refine bA ?_
 refine cu (kC 4) ?_
 rintro _ i2 h2 ⟨x,rfl,x0,x1,x2⟩ hi2
 simp only [AS.drew,AS.called,aQ,AS.put,aL,aH,bS,bC,bR,bB,bV,bD,List.set_cons_succ,List.set_cons_zero,List.append_nil,List.nil_append,List.cons_append]
 obtain ⟨n,rfl⟩:=Int.eq_ofNat_of_zero_le x0
 have hn:n≤3:=by omega
 refine bA ?_
 refine aR (ι:={x:Nat×Str×Int×Int // x.1≤3∧x.2.1.length+10 * x.1≤30∧0≤x.2.2.1}) (fun t o y=>⟨aS t [(3,.str y.1.2.1),(4,.int .i64 (y.1.1:Int))],[⟨true,true,3,2,[[.sl .view 1 (aT code),.int .i64 y.1.2.2.1,.int .i64 y.1.2.2.2]]⟩]⟩)
  (fun y=>y.1.1) ⟨(n,[],i2,h2),hn,by simp;omega,hi2⟩ aO ?_
 rintro ⟨⟨k,s,j,g⟩,hk,hs,hj⟩ K1 hK1
 simp only at hk hs hj
 have hK2:=hK1
 simp only [aS,List.set_cons_succ,List.set_cons_zero] at hK1⊢
 clear hK1
 by_cases h0:0 < k
 ·have hk0:(k:Int) > 0:=by omega
  have hk1:IntKind.i64.wrap ((k:Int) - 1)=((k - 1:Nat):Int):=by rw [wrap64]<;>omega
  have W:=hk0
  refine wl ?_
  refine jR (i:=1) (ver:=1) (by rfl) (by rfl) ?_ (by simp [AS.frozen,kG,jU,frz,kW,aA.frz,aA.kill,rtr,rtc,rt];rfl)
  refine cu (fO ([[112],[98],[112,97,103,101],[80],[]]:List Str) (by decide)) ?_
  rintro _ j2 g2 ⟨u,hm2,rfl⟩ hj2
  simp only [AS.drew,AS.called,aQ,AS.put,aL,aH,bS,bC,bR,bB,bV,bD,List.set_cons_succ,List.set_cons_zero,List.append_nil,List.nil_append,List.cons_append]
  have hu:=(by decide:∀s∈([[112],[98],[112,97,103,101],[80],[]]:List Str),s.length≤4) u hm2
  have hlu:s.length+u.length+1≤6200:=by omega
  have W:=hlu
  refine wl ?_
  refine jR (i:=2) (ver:=1) (by rfl) (by rfl) ?_ (by simp [AS.frozen,kG,jU,frz,kW,aA.frz,aA.kill,rtr,rtc,rt];rfl)
  refine cu (fO ([[49],[55],[57,57,57],[49,48,48,48],[48],[120]]:List Str) (by decide)) ?_
  rintro _ j3 g3 ⟨q,hm3,rfl⟩ hj3
  simp only [AS.drew,AS.called,aQ,AS.put,aL,aH,bS,bC,bR,bB,bV,bD,List.set_cons_succ,List.set_cons_zero,List.append_nil,List.nil_append,List.cons_append]
  have hq:=(by decide:∀s∈([[49],[55],[57,57,57],[49,48,48,48],[48],[120]]:List Str),s.length≤4) q hm3
  have hlq:s.length+u.length+1+q.length+1≤6200:=by omega
  have W:=And.intro hk1 hlq
  refine wl ?_
  refine hK2 _ ⟨(k - 1,s++u++[58]++q++[59],j3,g3),by simp only;omega,by simp;omega,hj3⟩ ?_ (by simp only;omega)
  exact aN 1 (by simp) (by simp) (by simp) (by simp)
 ·have hk0:¬(k:Int) > 0:=by omega
  have W:=hk0
  refine wl ?_
  refine ⟨.inr rfl,jH (by simp [Tryz.results163];rfl) (by rfl) (by rfl) (by omega) (by simp) (by simp) ?_⟩
  simp only [single,res]
  exact ⟨_,rfl,by omega⟩
theorem aDp [aB Tryz.prog] (N:Nat) (hN1:1≤N) (hN4:N≤4):OkC Tryz.prog 61 [.int .i64 (N:Int)] (aNu (24 * N)):=by
 refine uF Tryz.mix Tryz.func61 Tryz.ntmps61 ?_
 intro code i h hi hl
 simp only [aQ]
 refine bA ?_
 refine cu (kC (N:Int)) ?_
 rintro _ i2 h2 ⟨x,rfl,x0,x1,x2⟩ hi2
 simp only [AS.drew,AS.called,aQ,AS.put,aL,aH,bS,bC,bR,bB,bV,bD,List.set_cons_succ,List.set_cons_zero,List.append_nil,List.nil_append,List.cons_append]
 obtain ⟨n,rfl⟩:=Int.eq_ofNat_of_zero_le x0
 have hn:n+1≤N:=by omega
 have hn1:IntKind.i64.wrap (1+(n:Int))=((n+1:Nat):Int):=by rw [wrap64]<;>omega
 have W:=hn1
 refine wl ?_
 refine aR (ι:={x:Nat×Str×Int×Int // x.1≤4∧x.2.1.length+24 * x.1≤24 * N∧0≤x.2.2.1}) (fun t o y=>⟨aS t [(5,.str y.1.2.1),(6,.int .i64 (y.1.1:Int))],[⟨true,true,3,2,[[.sl .view 1 (aT code),.int .i64 y.1.2.2.1,.int .i64 y.1.2.2.2]]⟩]⟩)
  (fun y=>y.1.1) ⟨(n+1,[],i2,h2),by simp only;omega,by simp;omega,hi2⟩ aO ?_
 rintro ⟨⟨k,s,j,g⟩,hk,hs,hj⟩ K1 hK1
 simp only at hk hs hj
 have hK2:=hK1
 simp only [aS,List.set_cons_succ,List.set_cons_zero] at hK1⊢
 clear hK1
 by_cases h0:0 < k
 ·have hk0:(k:Int) > 0:=by omega
  have hk1:IntKind.i64.wrap ((k:Int) - 1)=((k - 1:Nat):Int):=by rw [wrap64]<;>omega
  have hls:s.length+1≤6200:=by omega
  by_cases he:s=[]
  ·subst he
   have W:=hk0
   refine wl ?_
   refine jR (i:=1) (ver:=1) (by rfl) (by rfl) ?_ (by simp [AS.frozen,kG,jU,frz,kW,aA.frz,aA.kill,rtr,rtc,rt];rfl)
   refine cu (fO ([[115,97,121,32,104,105],[99,111,117,110,116,32,112],[99,111,117,110,116,32,115,99,114,105,112,116],[108,111,111,107,32,112],[108,111,111,107,32,98],[97,100,100,32,98],[97,100,100,32,112],[119,114,105,116,101,32,91,112,93,120,91,47,112,93],[119,114,105,116,101,32,91,105,109,103,32,115,114,99,61,108,111,103,111,93],[119,114,105,116,101,32,91,108,105,110,107,32,104,114,101,102,61,115,116,121,108,101,93],[119,114,105,116,101,32,91,98,93]]:List Str) (by decide)) ?_
   rintro _ j2 g2 ⟨u,hm2,rfl⟩ hj2
   simp only [AS.drew,AS.called,aQ,AS.put,aL,aH,bS,bC,bR,bB,bV,bD,List.set_cons_succ,List.set_cons_zero,List.append_nil,List.nil_append,List.cons_append]
   have hu:=(by decide:∀s∈([[115,97,121,32,104,105],[99,111,117,110,116,32,112],[99,111,117,110,116,32,115,99,114,105,112,116],[108,111,111,107,32,112],[108,111,111,107,32,98],[97,100,100,32,98],[97,100,100,32,112],[119,114,105,116,101,32,91,112,93,120,91,47,112,93],[119,114,105,116,101,32,91,105,109,103,32,115,114,99,61,108,111,103,111,93],[119,114,105,116,101,32,91,108,105,110,107,32,104,114,101,102,61,115,116,121,108,101,93],[119,114,105,116,101,32,91,98,93]]:List Str),s.length≤23) u hm2
   have hlu:u.length≤6200:=by omega
   have W:=And.intro hk1 hlu
   refine wl ?_
   refine hK2 _ ⟨(k - 1,u,j2,g2),by simp only;omega,by simp only [List.length_nil] at hs⊢;omega,hj2⟩ ?_ (by simp only;omega)
   exact aN 1 (by simp) (by simp) (by simp) (by simp)
  ·have W:=And.intro hk0 (And.intro he hls)
   repeat' first|refine st ?_|(refine nx ?_;refine so ?_)|(refine cx ?_;refine sc (fun hc=>?_) (fun hc=>?_)<;>try exact hc.elim)|(refine lx ?_;refine sp (fun hc=>?_) (fun hc=>?_)<;>try exact hc.elim)|refine sx ?_ ?_|refine sy ?_ ?_|fail
   all_goals (try exact (he (by assumption)).elim)
   refine jR (i:=1) (ver:=1) (by rfl) (by rfl) ?_ (by simp [AS.frozen,kG,jU,frz,kW,aA.frz,aA.kill,rtr,rtc,rt];rfl)
   refine cu (fO ([[115,97,121,32,104,105],[99,111,117,110,116,32,112],[99,111,117,110,116,32,115,99,114,105,112,116],[108,111,111,107,32,112],[108,111,111,107,32,98],[97,100,100,32,98],[97,100,100,32,112],[119,114,105,116,101,32,91,112,93,120,91,47,112,93],[119,114,105,116,101,32,91,105,109,103,32,115,114,99,61,108,111,103,111,93],[119,114,105,116,101,32,91,108,105,110,107,32,104,114,101,102,61,115,116,121,108,101,93],[119,114,105,116,101,32,91,98,93]]:List Str) (by decide)) ?_
   rintro _ j2 g2 ⟨u,hm2,rfl⟩ hj2
   simp only [AS.drew,AS.called,aQ,AS.put,aL,aH,bS,bC,bR,bB,bV,bD,List.set_cons_succ,List.set_cons_zero,List.append_nil,List.nil_append,List.cons_append]
   have hu:=(by decide:∀s∈([[115,97,121,32,104,105],[99,111,117,110,116,32,112],[99,111,117,110,116,32,115,99,114,105,112,116],[108,111,111,107,32,112],[108,111,111,107,32,98],[97,100,100,32,98],[97,100,100,32,112],[119,114,105,116,101,32,91,112,93,120,91,47,112,93],[119,114,105,116,101,32,91,105,109,103,32,115,114,99,61,108,111,103,111,93],[119,114,105,116,101,32,91,108,105,110,107,32,104,114,101,102,61,115,116,121,108,101,93],[119,114,105,116,101,32,91,98,93]]:List Str),s.length≤23) u hm2
   have hlu:s.length+1+u.length≤6200:=by omega
   have W:=And.intro hk1 hlu
   refine wl ?_
   refine hK2 _ ⟨(k - 1,s++[59]++u,j2,g2),by simp only;omega,by simp;omega,hj2⟩ ?_ (by simp only;omega)
   exact aN 1 (by simp) (by simp) (by simp) (by simp)
 ·have hk0:¬(k:Int) > 0:=by omega
  have W:=hk0
  refine wl ?_
  refine ⟨.inr rfl,jH (by simp [Tryz.results61];rfl) (by rfl) (by rfl) (by omega) (by simp) (by simp) ?_⟩
  simp only [single,res]
  exact ⟨_,rfl,by omega⟩
def aB1:List Str:=[[104,111,109,101],[99,100,110],[101,118,105,108]]
def bHb (r:AV):Prop:=∃l:List Str,r= .sl .own 1 (l.map bX)∧l.length≤3∧∀s∈l,s.length≤4
theorem aB2 [aB Tryz.prog]:OkC Tryz.prog 167 [] bHb:=by
 refine uF Tryz.mix Tryz.func167 Tryz.ntmps167 ?_
 intro code i h hi hl
 simp only [aQ]
 refine bA ?_
 refine aR (ι:={x:Nat×List Str×Nat×Int×Int // x.1≤3∧x.2.1.length≤x.1∧(∀s∈x.2.1,s.length≤4)∧1≤x.2.2.1∧0≤x.2.2.2.1}) (fun t o y=>⟨aS t [(3,.obj 1 y.1.2.2.1),(5,.undef),(9,.int .i64 (y.1.1:Int))],[⟨true,true,3,2,[[.sl .view 1 (aT code),.int .i64 y.1.2.2.2.1,.int .i64 y.1.2.2.2.2]]⟩,⟨true,false,1,y.1.2.2.1,y.1.2.1.map bX⟩,⟨true,false,1,1,aB1.map bX⟩]⟩)
  (fun y=>3 - y.1.1) ⟨(0,[],1,i,h),by simp,by simp,by simp,by simp,hi⟩ (aO (by simp [aB1]) (by simp)) ?_
 rintro ⟨⟨k,l,v,j,g⟩,hk,hlk,hs,hv,hj⟩ K1 hK1
 simp only at hk hlk hs hv hj
 have hK2:=hK1
 simp only [aS,List.set_cons_succ,List.set_cons_zero] at hK1⊢
 clear hK1
 have h3:aB1.length=3:=rfl
 by_cases h0:k < 3
 ·have hk0:(k:Int) < 3:=by omega
  have hk1:=wk1 (k:=k) (by omega)
  have hlt:k < aB1.length:=by omega
  have hg:=List.getElem?_eq_getElem hlt
  have hu:=(by decide:∀s∈aB1,s.length≤4) _ (List.getElem_mem hlt)
  generalize aB1[k]=u at *
  generalize aB1=H at *
  have W:=And.intro hk0 hg
  refine wl ?_
  refine cu (iF 2) ?_
  rintro _ j2 g2 ⟨b,rfl⟩ hj2
  simp only [AS.drew,AS.called,aQ,AS.put,aL,aH,bS,bC,bR,bB,bV,bD,List.set_cons_succ,List.set_cons_zero,List.append_nil,List.nil_append,List.cons_append]
  cases b
  ·have W:=hk1
   refine wl ?_
   refine hK2 _ ⟨(k+1,l,v,j2,g2),by simp only;omega,by simp only;omega,hs,hv,hj2⟩ ?_ (by simp only;omega)
   exact aN 3 (by simp) (by simp) (by simp) (by simp)
  ·obtain ⟨l1,hl1⟩:∃m,m=l++[u]:=⟨_,rfl⟩
   have hap:l.map bX++[[.str u]]=l1.map bX:=by rw [hl1];simp
   have hl2:l1.length=l.length+1:=by rw [hl1];simp
   have hs1:∀s∈l1,s.length≤4:=fun s hm=>by
    rw [hl1] at hm
    rcases List.mem_append.1 hm with h|h
    ·exact hs s h
    ·simp only [List.mem_singleton] at h;subst h;exact hu
   have hb1:(l.length+1) * 16≤140737488355328:=by omega
   have hb2:l.length+1≤9223372036854775807:=by omega
   have hb3:l.length≤9223372036854775806:=by omega
   have W:=And.intro hk1 (And.intro hap (And.intro hb1 (And.intro hb2 hb3)))
   refine wl ?_
   refine hK2 _ ⟨(k+1,l1,v+1,j2,g2),by simp only;omega,by simp only;omega,hs1,by simp only;omega,hj2⟩ ?_ (by simp only;omega)
   exact aN 3 (by simp) (by simp) (by simp) (by simp)
 ·have hk0:¬(k:Int) < 3:=by omega
  have W:=hk0
  refine wl ?_
  refine ⟨.inr rfl,jH (by simp [Tryz.results167];rfl) (by rfl) (by rfl) (by omega) (by simp) (by simp) ?_⟩
  simp only [single,res]
  exact ⟨l,by simp [AV.isObj],by omega,hs⟩
theorem aJw {l:List Str} (h:l.length≤3) (hs:∀s∈l,s.length≤4):szL dH l≤15:=by
 have key:∀l:List Str,(∀s∈l,s.length≤4)→aK dH l≤4 * l.length:=by
  intro l
  induction l with
  |nil=>intro _;simp [aK]
  |cons x l ih=>
   intro hs
   have h1:=hs x (by simp)
   have h2:=ih (fun s hm=>hs s (by simp [hm]))
   simp only [aK,dH,List.length_cons];omega
 have:=key l hs
 simp only [szL];omega
def bF6 (r:AV):Prop:=∃p:dU,r= .agg (bY .own p)∧dX p≤60
theorem aDz [aB Tryz.prog]:OkC Tryz.prog 135 [] bF6:=by
 refine uF Tryz.mix Tryz.func135 Tryz.ntmps135 ?_
 intro code i h hi hl
 simp only [aQ]
 refine bA ?_
 refine cu (iF 2) ?_
 rintro _ i2 h2 ⟨b,rfl⟩ hi2
 simp only [AS.drew,AS.called,aQ,AS.put,aL,aH,bS,bC,bR,bB,bV,bD,List.set_cons_succ,List.set_cons_zero,List.append_nil,List.nil_append,List.cons_append]
 cases b
 ·refine bA ?_
  refine cu (aB2) ?_
  rintro _ i3 h3 ⟨l1,rfl,n1,s1⟩ hi3
  simp only [AS.drew,AS.called,aQ,AS.put,aL,aH,bS,bC,bR,bB,bV,bD,List.set_cons_succ,List.set_cons_zero,List.append_nil,List.nil_append,List.cons_append]
  have z1:=aJw n1 s1
  refine bA ?_
  refine cu (aB2) ?_
  rintro _ i4 h4 ⟨l2,rfl,n2,s2⟩ hi4
  simp only [AS.drew,AS.called,aQ,AS.put,aL,aH,bS,bC,bR,bB,bV,bD,List.set_cons_succ,List.set_cons_zero,List.append_nil,List.nil_append,List.cons_append]
  have z2:=aJw n2 s2
  refine bA ?_
  refine cu (aB2) ?_
  rintro _ i5 h5 ⟨l3,rfl,n3,s3⟩ hi5
  simp only [AS.drew,AS.called,aQ,AS.put,aL,aH,bS,bC,bR,bB,bV,bD,List.set_cons_succ,List.set_cons_zero,List.append_nil,List.nil_append,List.cons_append]
  have z3:=aJw n3 s3
  refine bA ?_
  refine cu (iF 2) ?_
  rintro _ i6 h6 ⟨b,rfl⟩ hi6
  simp only [AS.drew,AS.called,aQ,AS.put,aL,aH,bS,bC,bR,bB,bV,bD,List.set_cons_succ,List.set_cons_zero,List.append_nil,List.nil_append,List.cons_append]
  cases b
  ·refine bA ?_
   refine ⟨.inr rfl,jH (by simp [Tryz.results135];rfl) (by rfl) (by rfl) (by omega) (by simp) (by simp) ?_⟩
   simp only [single,res]
   exact ⟨⟨true,l1,l2,l3,[]⟩,by simp [jD,res,AV.isObj],by simp only [dX,List.length_nil];omega⟩
  ·refine bA ?_
   refine ⟨.inr rfl,jH (by simp [Tryz.results135];rfl) (by rfl) (by rfl) (by omega) (by simp) (by simp) ?_⟩
   simp only [single,res]
   exact ⟨⟨true,l1,l2,l3,[110,55]⟩,by simp [jD,res,AV.isObj],by simp only [dX,List.length_cons,List.length_nil];omega⟩
 ·refine bA ?_
  refine ⟨.inr rfl,bIs (k:=1) (by simp [AS.rvB,AS.rvs,AS.rv,Tryz.results135];rfl) (by rfl) (by rfl) (by omega) (by simp) (by simp) (by simp) (by simp) ?_⟩
  simp only [single,res]
  exact ⟨⟨false,[],[],[],[]⟩,by simp [jD,res,AV.isObj],by decide⟩
theorem aUo [aB Tryz.prog] (k:Int):OkC Tryz.prog 133 [.int .i64 k] (aNu 520):=by
 refine uF Tryz.mix Tryz.func133 Tryz.ntmps133 ?_
 intro code i h hi hl
 simp only [aQ]
 by_cases k2:k=2
 ·subst k2
  refine bA ?_
  refine cu (aDp 3 (by omega) (by omega)) ?_
  rintro _ i2 h2 ⟨s,rfl,hs⟩ hi2
  simp only [AS.drew,AS.called,aQ,AS.put,aL,aH,bS,bC,bR,bB,bV,bD,List.set_cons_succ,List.set_cons_zero,List.append_nil,List.nil_append,List.cons_append]
  refine bA ?_
  refine ⟨.inr rfl,jH (by simp [Tryz.results133];rfl) (by rfl) (by rfl) (by omega) (by simp) (by simp) ?_⟩
  simp only [single,res]
  exact ⟨_,rfl,by omega⟩
 ·by_cases k3:k=3
  ·subst k3
   refine bA ?_
   refine cu (aP1) ?_
   rintro _ i2 h2 ⟨s,rfl,hs⟩ hi2
   simp only [AS.drew,AS.called,aQ,AS.put,aL,aH,bS,bC,bR,bB,bV,bD,List.set_cons_succ,List.set_cons_zero,List.append_nil,List.nil_append,List.cons_append]
   refine bA ?_
   refine ⟨.inr rfl,jH (by simp [Tryz.results133];rfl) (by rfl) (by rfl) (by omega) (by simp) (by simp) ?_⟩
   simp only [single,res]
   exact ⟨_,rfl,by omega⟩
  ·by_cases k5:k=5
   ·subst k5
    refine bA ?_
    refine jR (i:=1) (ver:=1) (by rfl) (by rfl) ?_ (by simp [AS.frozen,kG,jU,frz,kW,aA.frz,aA.kill,rtr,rtc,rt];rfl)
    refine cu (fO ([[],[105,109,112,111,114,116,32,117,116,105,108,59],[105,109,112,111,114,116,32,108,105,98,59],[105,109,112,111,114,116,32,99,100,110,47,108,105,98,59],[105,109,112,111,114,116,32,97,112,112,59,105,109,112,111,114,116,32,117,116,105,108,59]]:List Str) (by decide)) ?_
    rintro _ j2 g2 ⟨u,hm2,rfl⟩ hj2
    simp only [AS.drew,AS.called,aQ,AS.put,aL,aH,bS,bC,bR,bB,bV,bD,List.set_cons_succ,List.set_cons_zero,List.append_nil,List.nil_append,List.cons_append]
    have hu:=(by decide:∀s∈([[],[105,109,112,111,114,116,32,117,116,105,108,59],[105,109,112,111,114,116,32,108,105,98,59],[105,109,112,111,114,116,32,99,100,110,47,108,105,98,59],[105,109,112,111,114,116,32,97,112,112,59,105,109,112,111,114,116,32,117,116,105,108,59]]:List Str),s.length≤23) u hm2
    refine bA ?_
    refine jR (i:=2) (ver:=1) (by rfl) (by rfl) ?_ (by simp [AS.frozen,kG,jU,frz,kW,aA.frz,aA.kill,rtr,rtc,rt];rfl)
    refine cu (fO ([[115,97,121,32,109],[99,111,117,110,116,32,112],[97,100,100,32,98],[108,111,111,107,32,112]]:List Str) (by decide)) ?_
    rintro _ j3 g3 ⟨q,hm3,rfl⟩ hj3
    simp only [AS.drew,AS.called,aQ,AS.put,aL,aH,bS,bC,bR,bB,bV,bD,List.set_cons_succ,List.set_cons_zero,List.append_nil,List.nil_append,List.cons_append]
    have hq:=(by decide:∀s∈([[115,97,121,32,109],[99,111,117,110,116,32,112],[97,100,100,32,98],[108,111,111,107,32,112]]:List Str),s.length≤7) q hm3
    have hlq:u.length+q.length≤6200:=by omega
    have W:=hlq
    refine wl ?_
    refine ⟨.inr rfl,jH (by simp [Tryz.results133];rfl) (by rfl) (by rfl) (by omega) (by simp) (by simp) ?_⟩
    simp only [single,res]
    exact ⟨_,rfl,by simp;omega⟩
   ·by_cases k4:k=4
    ·subst k4
     refine bA ?_
     refine ⟨.inr rfl,jH (by simp [Tryz.results133];rfl) (by rfl) (by rfl) (by omega) (by simp) (by simp) ?_⟩
     simp only [single,res]
     exact ⟨_,rfl,by decide⟩
    ·have W:=And.intro k2 (And.intro k3 (And.intro k5 k4))
     refine wl ?_
     refine cu (aRf 8 (by omega)) ?_
     rintro _ i2 h2 ⟨s,rfl,hs⟩ hi2
     simp only [AS.drew,AS.called,aQ,AS.put,aL,aH,bS,bC,bR,bB,bV,bD,List.set_cons_succ,List.set_cons_zero,List.append_nil,List.nil_append,List.cons_append]
     refine bA ?_
     refine ⟨.inr rfl,jH (by simp [Tryz.results133];rfl) (by rfl) (by rfl) (by omega) (by simp) (by simp) ?_⟩
     simp only [single,res]
     exact ⟨_,rfl,by omega⟩
theorem bC1 (l:List Str):(Lib.joinTail [32] l).length=szL dH l:=by
 unfold Lib.joinTail
 induction l with
 |nil=>simp [szL,aK]
 |cons x l ih=>
  simp only [szL,aK,dH,List.length_cons] at ih⊢
  simp only [List.map_cons,List.flatten_cons,List.length_append,List.length_cons,List.length_nil,ih]
  omega
theorem aX3 (w:Str) (l:List Str):(words w l).length=w.length+szL dH l:=by
 unfold words
 rw [Lib.join_cons,List.length_append,bC1]
theorem aWr (p:dU):(lY p).length≤dX p+40:=by
 unfold lY
 split
 ·have h:(aMa p.nonce).length≤p.nonce.length+10:=by
   unfold aMa
   split<;>simp [aQ6]<;>omega
  simp only [List.length_append,List.length_cons,aX3,dX,wP,zV,aGd,List.length_nil]
  omega
 ·simp
def bIq (n:Nat) (r:AV):Prop:=∃x:aV,r= .agg (cZ x)∧dC x≤n
theorem oZ [aB Tryz.prog] (k:Int):OkC Tryz.prog 104 [.int .i64 k] (bIq 620):=by
 refine uF Tryz.mix Tryz.func104 Tryz.ntmps104 ?_
 intro code i h hi hl
 simp only [aQ]
 refine bA ?_
 refine cu (aUo k) ?_
 rintro _ i2 h2 ⟨s,rfl,hs⟩ hi2
 simp only [AS.drew,AS.called,aQ,AS.put,aL,aH,bS,bC,bR,bB,bV,bD,List.set_cons_succ,List.set_cons_zero,List.append_nil,List.nil_append,List.cons_append]
 refine bA ?_
 refine jR (i:=2) (ver:=1) (by rfl) (by rfl) ?_ (by simp [AS.frozen,kG,jU,frz,kW,aA.frz,aA.kill,rtr,rtc,rt];rfl)
 refine cu (aD7 [0,5,50] (by decide)) ?_
 rintro _ i3 h3 ⟨x,hx,rfl⟩ hi3
 simp only [AS.drew,AS.called,aQ,AS.put,aL,aH,bS,bC,bR,bB,bV,bD,List.set_cons_succ,List.set_cons_zero,List.append_nil,List.nil_append,List.cons_append]
 refine bA ?_
 refine cu (iF 2) ?_
 rintro _ i4 h4 ⟨b,rfl⟩ hi4
 simp only [AS.drew,AS.called,aQ,AS.put,aL,aH,bS,bC,bR,bB,bV,bD,List.set_cons_succ,List.set_cons_zero,List.append_nil,List.nil_append,List.cons_append]
 by_cases k1:k=1
 ·subst k1
  refine bA ?_
  refine cu (aDz) ?_
  rintro _ i5 h5 ⟨p,rfl,hp⟩ hi5
  simp only [AS.drew,AS.called,aQ,AS.put,aL,aH,bS,bC,bR,bB,bV,bD,List.set_cons_succ,List.set_cons_zero,List.append_nil,List.nil_append,List.cons_append]
  have hf:=tF p (by omega)
  have hfl:=aWr p
  generalize lY p=fp at *
  simp only [bY] at hf⊢
  refine bA ?_
  refine ⟨.inr rfl,jH (by simp [Tryz.results104];rfl) (by rfl) (by rfl) (by omega) (by simp) (by simp) ?_⟩
  simp only [single,res]
  exact ⟨⟨200,1,s,x,b,fp⟩,rfl,by simp only [dC];omega⟩
 ·have W:=k1
  refine wl ?_
  refine ⟨.inr rfl,jH (by simp [Tryz.results104];rfl) (by rfl) (by rfl) (by omega) (by simp) (by simp) ?_⟩
  simp only [single,res]
  exact ⟨⟨200,k,s,x,b,[]⟩,rfl,by simp only [dC,List.length_nil];omega⟩
end Go.Proofs.YtaddkhdghlaalaaGreatDoor
