/-
  Proved here: steps towards the statement of this claim, text DR10.
  No condition beyond what each statement spells out.
-/
import Derived.Test.YtlnblmmohpcceaaGreatDoorDDR9
set_option linter.all false
set_option maxRecDepth 4000
set_option maxHeartbeats 4000000
namespace Go.Proofs.YtlnblmmohpcceaaGreatDoor
open Go.Aw
theorem aBh [aB Tryz.prog]:OkC Tryz.prog 40 [] (aL9 1300):=by
 refine jU Tryz.mix Tryz.func40 Tryz.ntmps40 ?_
 intro code i h hi hl
 simp only [aD]
 have W:=trivial
 repeat' first|refine wl ?_|(refine sq (fun hc=>?_) (fun hc=>?_)<;>try exact hc.elim)|fail
 refine cu (dK 5) ?_
 rintro _ i2 h2 ⟨x,rfl,x0,x1,x2⟩ hi2
 simp only [AS.drew,AS.called,aD,AS.put,aF,aC,aV,aM,aU,aJ,aW,aK,List.set_cons_succ,List.set_cons_zero,List.append_nil,List.nil_append,List.cons_append]
 have hx1:IntKind.i64.wrap (1+x)=1+x:=by rw [wrap64]<;>omega
 have W:=hx1
 repeat' first|refine wl ?_|(refine sq (fun hc=>?_) (fun hc=>?_)<;>try exact hc.elim)|fail
 refine cu (xD (1+x)) ?_
 rintro _ i3 h3 ⟨y,rfl,hy⟩ hi3
 simp only [AS.drew,AS.called,aD,AS.put,aF,aC,aV,aM,aU,aJ,aW,aK,List.set_cons_succ,List.set_cons_zero,List.append_nil,List.nil_append,List.cons_append]
 simp only [bV,bO] at hy⊢
 have W:=trivial
 repeat' first|refine wl ?_|(refine sq (fun hc=>?_) (fun hc=>?_)<;>try exact hc.elim)|fail
 refine cu (dK 12) ?_
 rintro _ i4 h4 ⟨z,rfl,z0,z1,z2⟩ hi4
 simp only [AS.drew,AS.called,aD,AS.put,aF,aC,aV,aM,aU,aJ,aW,aK,List.set_cons_succ,List.set_cons_zero,List.append_nil,List.nil_append,List.cons_append]
 by_cases hz0:z=0
 ·subst hz0
  have W:=trivial
  repeat' first|refine wl ?_|(refine sq (fun hc=>?_) (fun hc=>?_)<;>try exact hc.elim)|fail
  refine dL (i:=3) (ver:=1) (by rfl) (by rfl) ?_ (by simp [AS.frozen,eO,dY,frz,eF,aA.frz,aA.kill,rtr,rtc,rt];rfl)
  refine cu (oU [99,100,404,599,600] (by decide)) ?_
  rintro _ i5 h5 ⟨v,hv,rfl⟩ hi5
  simp only [AS.drew,AS.called,aD,AS.put,aF,aC,aV,aM,aU,aJ,aW,aK,List.set_cons_succ,List.set_cons_zero,List.append_nil,List.nil_append,List.cons_append]
  have W:=trivial
  repeat' first|refine wl ?_|(refine sq (fun hc=>?_) (fun hc=>?_)<;>try exact hc.elim)|fail
  refine ⟨.inr rfl,dB (by simp [Tryz.results40];rfl) (by rfl) (by rfl) (by omega) (by simp) (by simp) (by simp) ?_⟩
  simp only [single,res]
  exact ⟨⟨v,y.kind,y.body,y.age,y.shares,y.policy⟩,rfl,by simp only [bO];omega⟩
 ·have:=hz0
  by_cases hz1:z=1
  ·subst hz1
   have W:=trivial
   repeat' first|refine wl ?_|(refine sq (fun hc=>?_) (fun hc=>?_)<;>try exact hc.elim)|fail
   refine dL (i:=3) (ver:=1) (by rfl) (by rfl) ?_ (by simp [AS.frozen,eO,dY,frz,eF,aA.frz,aA.kill,rtr,rtc,rt];rfl)
   refine cu (oU [0,6] (by decide)) ?_
   rintro _ i5 h5 ⟨v,hv,rfl⟩ hi5
   simp only [AS.drew,AS.called,aD,AS.put,aF,aC,aV,aM,aU,aJ,aW,aK,List.set_cons_succ,List.set_cons_zero,List.append_nil,List.nil_append,List.cons_append]
   have W:=trivial
   repeat' first|refine wl ?_|(refine sq (fun hc=>?_) (fun hc=>?_)<;>try exact hc.elim)|fail
   refine ⟨.inr rfl,dB (by simp [Tryz.results40];rfl) (by rfl) (by rfl) (by omega) (by simp) (by simp) (by simp) ?_⟩
   simp only [single,res]
   exact ⟨⟨y.status,v,y.body,y.age,y.shares,y.policy⟩,rfl,by simp only [bO];omega⟩
  ·have:=hz1
   by_cases hz2:z=2
   ·subst hz2
    have W:=trivial
    repeat' first|refine wl ?_|(refine sq (fun hc=>?_) (fun hc=>?_)<;>try exact hc.elim)|fail
    refine dL (i:=3) (ver:=1) (by rfl) (by rfl) ?_ (by simp [AS.frozen,eO,dY,frz,eF,aA.frz,aA.kill,rtr,rtc,rt];rfl)
    refine cu (oU [-1,1000,1001] (by decide)) ?_
    rintro _ i5 h5 ⟨v,hv,rfl⟩ hi5
    simp only [AS.drew,AS.called,aD,AS.put,aF,aC,aV,aM,aU,aJ,aW,aK,List.set_cons_succ,List.set_cons_zero,List.append_nil,List.nil_append,List.cons_append]
    have W:=trivial
    repeat' first|refine wl ?_|(refine sq (fun hc=>?_) (fun hc=>?_)<;>try exact hc.elim)|fail
    refine ⟨.inr rfl,dB (by simp [Tryz.results40];rfl) (by rfl) (by rfl) (by omega) (by simp) (by simp) (by simp) ?_⟩
    simp only [single,res]
    exact ⟨⟨y.status,y.kind,y.body,v,y.shares,y.policy⟩,rfl,by simp only [bO];omega⟩
   ·have:=hz2
    by_cases hz3:z=3
    ·subst hz3
     have W:=trivial
     repeat' first|refine wl ?_|(refine sq (fun hc=>?_) (fun hc=>?_)<;>try exact hc.elim)|fail
     refine dL (i:=3) (ver:=1) (by rfl) (by rfl) ?_ (by simp [AS.frozen,eO,dY,frz,eF,aA.frz,aA.kill,rtr,rtc,rt];rfl)
     refine cu (bL ([[120],[115,99,114,105,112,116,59,115,116,121,108,101,59,105,109,103]]:List Str) (by decide)) ?_
     rintro _ i5 h5 ⟨s,hm,rfl⟩ hi5
     simp only [AS.drew,AS.called,aD,AS.put,aF,aC,aV,aM,aU,aJ,aW,aK,List.set_cons_succ,List.set_cons_zero,List.append_nil,List.nil_append,List.cons_append]
     have hlen:=(by decide:∀s∈([[120],[115,99,114,105,112,116,59,115,116,121,108,101,59,105,109,103]]:List Str),s.length≤16) s hm
     have W:=trivial
     repeat' first|refine wl ?_|(refine sq (fun hc=>?_) (fun hc=>?_)<;>try exact hc.elim)|fail
     refine ⟨.inr rfl,dB (by simp [Tryz.results40];rfl) (by rfl) (by rfl) (by omega) (by simp) (by simp) (by simp) ?_⟩
     simp only [single,res]
     exact ⟨⟨y.status,y.kind,y.body,y.age,y.shares,s⟩,rfl,by simp only [bO];omega⟩
    ·have:=hz3
     by_cases hz4:z=4
     ·subst hz4
      have W:=trivial
      repeat' first|refine wl ?_|(refine sq (fun hc=>?_) (fun hc=>?_)<;>try exact hc.elim)|fail
      refine aS (ι:={s:Str // s.length≤630}) (fun t o q=>⟨t,o.set 2 ⟨true,true,6,0,[[.int .i64 y.status,.int .i64 y.kind,.str q.1,.int .i64 y.age,.bool y.shares,.str y.policy]]⟩⟩)
       (fun q=>1000 - q.1.length) ⟨y.body,by omega⟩ (aL (by simp) (by simp)) ?_
      rintro ⟨s,hs⟩ K1 hK1
      have hK2:=hK1
      simp only [List.set_cons_succ,List.set_cons_zero] at hK1⊢
      clear hK1
      by_cases hlt:s.length < 400
      ·have h1:(s.length:Int) < 400:=by omega
       have h2:s.length+10≤6200:=by omega
       have W:=And.intro h1 h2
       repeat' first|refine wl ?_|(refine sq (fun hc=>?_) (fun hc=>?_)<;>try exact hc.elim)|fail
       refine hK2 _ ⟨s++[48,49,50,51,52,53,54,55,56,57],by simp;omega⟩ ?_ (by simp only [List.length_append,List.length_cons,List.length_nil];omega)
       exact aL (by simp) (by simp)
      ·have h1:¬(s.length:Int) < 400:=by omega
       have W:=h1
       repeat' first|refine wl ?_|(refine sq (fun hc=>?_) (fun hc=>?_)<;>try exact hc.elim)|fail
       refine ⟨.inr rfl,dB (by simp [Tryz.results40];rfl) (by rfl) (by rfl) (by omega) (by simp) (by simp) (by simp) ?_⟩
       simp only [single,res]
       exact ⟨⟨y.status,y.kind,s,y.age,y.shares,y.policy⟩,rfl,by simp only [bO];omega⟩
     ·have:=hz4
      have W:=And.intro hz0 (And.intro hz1 (And.intro hz2 (And.intro hz3 hz4)))
      repeat' first|refine wl ?_|(refine sq (fun hc=>?_) (fun hc=>?_)<;>try exact hc.elim)|fail
      refine ⟨.inr rfl,dB (by simp [Tryz.results40];rfl) (by rfl) (by rfl) (by omega) (by simp) (by simp) (by simp) ?_⟩
      simp only [single,res]
      exact ⟨y,rfl,by simp only [bO];omega⟩
def aKo (r:AV):Prop:=∃(a:eH) (x:dG),r= .tup [.agg (eX a),.agg (bV x)]∧gD a≤40∧bO x≤1300
theorem vL [aB Tryz.prog] (code:List UInt8):OkE Tryz.prog 13 [.sl .view 1 (aO code)] aKo:=by
 refine aOu Tryz.mix Tryz.func13 Tryz.ntmps13 ?_
 have W:=trivial
 repeat' first|refine wl ?_|(refine sq (fun hc=>?_) (fun hc=>?_)<;>try exact hc.elim)|fail
 refine cn (zL) ?_
 intro i h hi
 simp only [AS.newCur,aD,AS.put,List.length_nil,List.length_cons,Nat.reduceAdd,Nat.zero_add,List.set_cons_succ,List.set_cons_zero,List.append_nil,List.nil_append,List.cons_append]
 have W:=trivial
 repeat' first|refine wl ?_|(refine sq (fun hc=>?_) (fun hc=>?_)<;>try exact hc.elim)|fail
 refine cu (aIi) ?_
 rintro _ i2 h2 ⟨a,rfl,ha⟩ hi2
 simp only [AS.drew,AS.called,aD,AS.put,aF,aC,aV,aM,aU,aJ,aW,aK,List.set_cons_succ,List.set_cons_zero,List.append_nil,List.nil_append,List.cons_append]
 simp only [eX]
 have W:=trivial
 repeat' first|refine wl ?_|(refine sq (fun hc=>?_) (fun hc=>?_)<;>try exact hc.elim)|fail
 refine cu (xD 1) ?_
 rintro _ i3 h3 ⟨x,rfl,hx⟩ hi3
 simp only [AS.drew,AS.called,aD,AS.put,aF,aC,aV,aM,aU,aJ,aW,aK,List.set_cons_succ,List.set_cons_zero,List.append_nil,List.nil_append,List.cons_append]
 simp only [bV]
 have W:=trivial
 repeat' first|refine wl ?_|(refine sq (fun hc=>?_) (fun hc=>?_)<;>try exact hc.elim)|fail
 refine cu (iU 3) ?_
 rintro _ i4 h4 ⟨b,rfl⟩ hi4
 simp only [AS.drew,AS.called,aD,AS.put,aF,aC,aV,aM,aU,aJ,aW,aK,List.set_cons_succ,List.set_cons_zero,List.append_nil,List.nil_append,List.cons_append]
 cases b
 ·have W:=trivial
  repeat' first|refine wl ?_|(refine sq (fun hc=>?_) (fun hc=>?_)<;>try exact hc.elim)|fail
  refine ⟨.inr rfl,aKl (by simp [Tryz.results13];rfl) (by simp) (by simp) (by simp) ?_⟩
  simp only [single,res]
  exact ⟨a,x,rfl,by omega,by omega⟩
 ·have W:=trivial
  repeat' first|refine wl ?_|(refine sq (fun hc=>?_) (fun hc=>?_)<;>try exact hc.elim)|fail
  refine cu (aBh) ?_
  rintro _ i5 h5 ⟨y,rfl,hy⟩ hi5
  simp only [AS.drew,AS.called,aD,AS.put,aF,aC,aV,aM,aU,aJ,aW,aK,List.set_cons_succ,List.set_cons_zero,List.append_nil,List.nil_append,List.cons_append]
  simp only [bV]
  have W:=trivial
  repeat' first|refine wl ?_|(refine sq (fun hc=>?_) (fun hc=>?_)<;>try exact hc.elim)|fail
  refine ⟨.inr rfl,aKl (by simp [Tryz.results13];rfl) (by simp) (by simp) (by simp) ?_⟩
  simp only [single,res]
  exact ⟨a,y,rfl,by omega,by omega⟩
end Go.Proofs.YtlnblmmohpcceaaGreatDoor
