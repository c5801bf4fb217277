/-
  Proved here: steps towards the statement of this claim, text QDRE.
  No condition beyond what each statement spells out.
-/
import Derived.Test.YtkidoegojckmiaaGreatDoorADRD
import Derived.Test.YtkidoegojckmiaaGreatDoorADR9
set_option linter.all false
set_option maxRecDepth 4000
set_option maxHeartbeats 4000000
namespace Go.Proofs.YtkidoegojckmiaaGreatDoor
open Go.Aw
theorem aIq [aB Tryz.prog] [bV Tryz.prog]:OkC Tryz.prog 51 [] (aSm .view):=aKj.vwas fun r ⟨p,e,h⟩=>⟨p,by subst e;simp [rt],h⟩
theorem aFt [aB Tryz.prog]:OkC Tryz.prog 23 [] (aSw 1300):=by
 refine lD Tryz.mix Tryz.func23 Tryz.ntmps23 ?_
 intro code i h hi hl
 simp only [aD]
 have W:=trivial
 repeat' first|refine st ?_|(refine nx ?_;refine so ?_)|(refine cx ?_;refine sc (fun hc=>?_) (fun hc=>?_)<;>try exact hc.elim)|(refine lx ?_;refine sp (fun hc=>?_) (fun hc=>?_)<;>try exact hc.elim)|refine sx ?_ ?_|refine sy ?_ ?_|fail
 refine cu (dF 5) ?_
 rintro _ i2 h2 ⟨x,rfl,x0,x1,x2⟩ hi2
 simp only [AS.drew,AS.called,aD,AS.put,aF,aC,aX,aP,aV,aN,aY,aQ,List.set_cons_succ,List.set_cons_zero,List.append_nil,List.nil_append,List.cons_append]
 have hx1:IntKind.i64.wrap (1+x)=1+x:=by rw [wrap64]<;>omega
 have W:=hx1
 repeat' first|refine st ?_|(refine nx ?_;refine so ?_)|(refine cx ?_;refine sc (fun hc=>?_) (fun hc=>?_)<;>try exact hc.elim)|(refine lx ?_;refine sp (fun hc=>?_) (fun hc=>?_)<;>try exact hc.elim)|refine sx ?_ ?_|refine sy ?_ ?_|fail
 refine cu (aB8 (1+x)) ?_
 rintro _ i3 h3 ⟨y,rfl,hy⟩ hi3
 simp only [AS.drew,AS.called,aD,AS.put,aF,aC,aX,aP,aV,aN,aY,aQ,List.set_cons_succ,List.set_cons_zero,List.append_nil,List.nil_append,List.cons_append]
 simp only [bA,bE] at hy⊢
 have W:=trivial
 repeat' first|refine st ?_|(refine nx ?_;refine so ?_)|(refine cx ?_;refine sc (fun hc=>?_) (fun hc=>?_)<;>try exact hc.elim)|(refine lx ?_;refine sp (fun hc=>?_) (fun hc=>?_)<;>try exact hc.elim)|refine sx ?_ ?_|refine sy ?_ ?_|fail
 refine cu (dF 12) ?_
 rintro _ i4 h4 ⟨z,rfl,z0,z1,z2⟩ hi4
 simp only [AS.drew,AS.called,aD,AS.put,aF,aC,aX,aP,aV,aN,aY,aQ,List.set_cons_succ,List.set_cons_zero,List.append_nil,List.nil_append,List.cons_append]
 by_cases hz0:z=0
 ·subst hz0
  have W:=trivial
  repeat' first|refine st ?_|(refine nx ?_;refine so ?_)|(refine cx ?_;refine sc (fun hc=>?_) (fun hc=>?_)<;>try exact hc.elim)|(refine lx ?_;refine sp (fun hc=>?_) (fun hc=>?_)<;>try exact hc.elim)|refine sx ?_ ?_|refine sy ?_ ?_|fail
  refine eD (i:=3) (ver:=1) (by rfl) (by rfl) ?_ (by simp [AS.frozen,eQ,fD,frz,fH,aA.frz,aA.kill,rtr,rtc,rt];rfl)
  refine cu (tN [99,100,404,599,600] (by decide)) ?_
  rintro _ i5 h5 ⟨v,hv,rfl⟩ hi5
  simp only [AS.drew,AS.called,aD,AS.put,aF,aC,aX,aP,aV,aN,aY,aQ,List.set_cons_succ,List.set_cons_zero,List.append_nil,List.nil_append,List.cons_append]
  have W:=trivial
  repeat' first|refine st ?_|(refine nx ?_;refine so ?_)|(refine cx ?_;refine sc (fun hc=>?_) (fun hc=>?_)<;>try exact hc.elim)|(refine lx ?_;refine sp (fun hc=>?_) (fun hc=>?_)<;>try exact hc.elim)|refine sx ?_ ?_|refine sy ?_ ?_|fail
  refine ⟨.inr rfl,dS (by simp [Tryz.results23];rfl) (by rfl) (by rfl) (by omega) (by simp) (by simp) ?_⟩
  simp only [single,res]
  exact ⟨⟨v,y.kind,y.body,y.age,y.shares,y.policy⟩,rfl,by simp only [bE];omega⟩
 ·have:=hz0
  by_cases hz1:z=1
  ·subst hz1
   have W:=trivial
   repeat' first|refine st ?_|(refine nx ?_;refine so ?_)|(refine cx ?_;refine sc (fun hc=>?_) (fun hc=>?_)<;>try exact hc.elim)|(refine lx ?_;refine sp (fun hc=>?_) (fun hc=>?_)<;>try exact hc.elim)|refine sx ?_ ?_|refine sy ?_ ?_|fail
   refine eD (i:=3) (ver:=1) (by rfl) (by rfl) ?_ (by simp [AS.frozen,eQ,fD,frz,fH,aA.frz,aA.kill,rtr,rtc,rt];rfl)
   refine cu (tN [0,6] (by decide)) ?_
   rintro _ i5 h5 ⟨v,hv,rfl⟩ hi5
   simp only [AS.drew,AS.called,aD,AS.put,aF,aC,aX,aP,aV,aN,aY,aQ,List.set_cons_succ,List.set_cons_zero,List.append_nil,List.nil_append,List.cons_append]
   have W:=trivial
   repeat' first|refine st ?_|(refine nx ?_;refine so ?_)|(refine cx ?_;refine sc (fun hc=>?_) (fun hc=>?_)<;>try exact hc.elim)|(refine lx ?_;refine sp (fun hc=>?_) (fun hc=>?_)<;>try exact hc.elim)|refine sx ?_ ?_|refine sy ?_ ?_|fail
   refine ⟨.inr rfl,dS (by simp [Tryz.results23];rfl) (by rfl) (by rfl) (by omega) (by simp) (by simp) ?_⟩
   simp only [single,res]
   exact ⟨⟨y.status,v,y.body,y.age,y.shares,y.policy⟩,rfl,by simp only [bE];omega⟩
  ·have:=hz1
   by_cases hz2:z=2
   ·subst hz2
    have W:=trivial
    repeat' first|refine st ?_|(refine nx ?_;refine so ?_)|(refine cx ?_;refine sc (fun hc=>?_) (fun hc=>?_)<;>try exact hc.elim)|(refine lx ?_;refine sp (fun hc=>?_) (fun hc=>?_)<;>try exact hc.elim)|refine sx ?_ ?_|refine sy ?_ ?_|fail
    refine eD (i:=3) (ver:=1) (by rfl) (by rfl) ?_ (by simp [AS.frozen,eQ,fD,frz,fH,aA.frz,aA.kill,rtr,rtc,rt];rfl)
    refine cu (tN [-1,1000,1001] (by decide)) ?_
    rintro _ i5 h5 ⟨v,hv,rfl⟩ hi5
    simp only [AS.drew,AS.called,aD,AS.put,aF,aC,aX,aP,aV,aN,aY,aQ,List.set_cons_succ,List.set_cons_zero,List.append_nil,List.nil_append,List.cons_append]
    have W:=trivial
    repeat' first|refine st ?_|(refine nx ?_;refine so ?_)|(refine cx ?_;refine sc (fun hc=>?_) (fun hc=>?_)<;>try exact hc.elim)|(refine lx ?_;refine sp (fun hc=>?_) (fun hc=>?_)<;>try exact hc.elim)|refine sx ?_ ?_|refine sy ?_ ?_|fail
    refine ⟨.inr rfl,dS (by simp [Tryz.results23];rfl) (by rfl) (by rfl) (by omega) (by simp) (by simp) ?_⟩
    simp only [single,res]
    exact ⟨⟨y.status,y.kind,y.body,v,y.shares,y.policy⟩,rfl,by simp only [bE];omega⟩
   ·have:=hz2
    by_cases hz3:z=3
    ·subst hz3
     have W:=trivial
     repeat' first|refine st ?_|(refine nx ?_;refine so ?_)|(refine cx ?_;refine sc (fun hc=>?_) (fun hc=>?_)<;>try exact hc.elim)|(refine lx ?_;refine sp (fun hc=>?_) (fun hc=>?_)<;>try exact hc.elim)|refine sx ?_ ?_|refine sy ?_ ?_|fail
     refine eD (i:=3) (ver:=1) (by rfl) (by rfl) ?_ (by simp [AS.frozen,eQ,fD,frz,fH,aA.frz,aA.kill,rtr,rtc,rt];rfl)
     refine cu (cO ([[120],[115,99,114,105,112,116,59,115,116,121,108,101,59,105,109,103]]:List Str) (by decide)) ?_
     rintro _ i5 h5 ⟨s,hm,rfl⟩ hi5
     simp only [AS.drew,AS.called,aD,AS.put,aF,aC,aX,aP,aV,aN,aY,aQ,List.set_cons_succ,List.set_cons_zero,List.append_nil,List.nil_append,List.cons_append]
     have hlen:=(by decide:∀s∈([[120],[115,99,114,105,112,116,59,115,116,121,108,101,59,105,109,103]]:List Str),s.length≤16) s hm
     have W:=trivial
     repeat' first|refine st ?_|(refine nx ?_;refine so ?_)|(refine cx ?_;refine sc (fun hc=>?_) (fun hc=>?_)<;>try exact hc.elim)|(refine lx ?_;refine sp (fun hc=>?_) (fun hc=>?_)<;>try exact hc.elim)|refine sx ?_ ?_|refine sy ?_ ?_|fail
     refine ⟨.inr rfl,dS (by simp [Tryz.results23];rfl) (by rfl) (by rfl) (by omega) (by simp) (by simp) ?_⟩
     simp only [single,res]
     exact ⟨⟨y.status,y.kind,y.body,y.age,y.shares,s⟩,rfl,by simp only [bE];omega⟩
    ·have:=hz3
     by_cases hz4:z=4
     ·subst hz4
      have W:=trivial
      repeat' first|refine st ?_|(refine nx ?_;refine so ?_)|(refine cx ?_;refine sc (fun hc=>?_) (fun hc=>?_)<;>try exact hc.elim)|(refine lx ?_;refine sp (fun hc=>?_) (fun hc=>?_)<;>try exact hc.elim)|refine sx ?_ ?_|refine sy ?_ ?_|fail
      refine aJ (ι:={s:Str // s.length≤630}) (fun t o q=>⟨t,o.set 2 ⟨true,true,6,0,[[.int .i64 y.status,.int .i64 y.kind,.str q.1,.int .i64 y.age,.bool y.shares,.str y.policy]]⟩⟩)
       (fun q=>1000 - q.1.length) ⟨y.body,by omega⟩ (aH (by simp) (by simp)) ?_
      rintro ⟨s,hs⟩ K1 hK1
      have hK2:=hK1
      simp only [List.set_cons_succ,List.set_cons_zero] at hK1⊢
      clear hK1
      by_cases hlt:s.length < 400
      ·have h1:(s.length:Int) < 400:=by omega
       have h2:s.length+10≤6200:=by omega
       have W:=And.intro h1 h2
       repeat' first|refine st ?_|(refine nx ?_;refine so ?_)|(refine cx ?_;refine sc (fun hc=>?_) (fun hc=>?_)<;>try exact hc.elim)|(refine lx ?_;refine sp (fun hc=>?_) (fun hc=>?_)<;>try exact hc.elim)|refine sx ?_ ?_|refine sy ?_ ?_|fail
       refine hK2 _ ⟨s++[48,49,50,51,52,53,54,55,56,57],by simp;omega⟩ ?_ (by simp only [List.length_append,List.length_cons,List.length_nil];omega)
       exact aH (by simp) (by simp)
      ·have h1:¬(s.length:Int) < 400:=by omega
       have W:=h1
       repeat' first|refine st ?_|(refine nx ?_;refine so ?_)|(refine cx ?_;refine sc (fun hc=>?_) (fun hc=>?_)<;>try exact hc.elim)|(refine lx ?_;refine sp (fun hc=>?_) (fun hc=>?_)<;>try exact hc.elim)|refine sx ?_ ?_|refine sy ?_ ?_|fail
       refine ⟨.inr rfl,dS (by simp [Tryz.results23];rfl) (by rfl) (by rfl) (by omega) (by simp) (by simp) ?_⟩
       simp only [single,res]
       exact ⟨⟨y.status,y.kind,s,y.age,y.shares,y.policy⟩,rfl,by simp only [bE];omega⟩
     ·have:=hz4
      have W:=And.intro hz0 (And.intro hz1 (And.intro hz2 (And.intro hz3 hz4)))
      repeat' first|refine st ?_|(refine nx ?_;refine so ?_)|(refine cx ?_;refine sc (fun hc=>?_) (fun hc=>?_)<;>try exact hc.elim)|(refine lx ?_;refine sp (fun hc=>?_) (fun hc=>?_)<;>try exact hc.elim)|refine sx ?_ ?_|refine sy ?_ ?_|fail
      refine ⟨.inr rfl,dS (by simp [Tryz.results23];rfl) (by rfl) (by rfl) (by omega) (by simp) (by simp) ?_⟩
      simp only [single,res]
      exact ⟨y,rfl,by simp only [bE];omega⟩
end Go.Proofs.YtkidoegojckmiaaGreatDoor
