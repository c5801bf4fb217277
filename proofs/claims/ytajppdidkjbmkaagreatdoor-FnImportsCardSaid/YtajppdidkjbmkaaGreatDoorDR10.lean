/-
  Proved here: steps towards the statement of this claim, text DR10.
  No condition beyond what each statement spells out.
-/
import Derived.Test.YtajppdidkjbmkaaGreatDoorDR9
set_option linter.all false
set_option maxRecDepth 4000
set_option maxHeartbeats 4000000
namespace Go.Proofs.YtajppdidkjbmkaaGreatDoor
open Go.Aw
theorem aHe [aB Tryz.prog]:OkC Tryz.prog 32 [] (aUx 1300):=by
 refine nE Tryz.mix Tryz.func32 Tryz.ntmps32 ?_
 intro code i h hi hl
 simp only [aG]
 have W:=trivial
 repeat' first|refine st ?_|(refine nx ?_;refine so ?_)|(refine cx ?_;refine sc (fun hc=>?_) (fun hc=>?_)<;>try exact hc.elim)|(refine lx ?_;refine sp (fun hc=>?_) (fun hc=>?_)<;>try exact hc.elim)|refine sx ?_ ?_|refine sy ?_ ?_|fail
 refine cu (gF 5) ?_
 rintro _ i2 h2 ⟨x,rfl,x0,x1,x2⟩ hi2
 simp only [AS.drew,AS.called,aG,AS.put,aF,aC,bF,aR,bE,aN,bG,aP,List.set_cons_succ,List.set_cons_zero,List.append_nil,List.nil_append,List.cons_append]
 have hx1:IntKind.i64.wrap (1+x)=1+x:=by rw [wrap64]<;>omega
 have W:=hx1
 repeat' first|refine st ?_|(refine nx ?_;refine so ?_)|(refine cx ?_;refine sc (fun hc=>?_) (fun hc=>?_)<;>try exact hc.elim)|(refine lx ?_;refine sp (fun hc=>?_) (fun hc=>?_)<;>try exact hc.elim)|refine sx ?_ ?_|refine sy ?_ ?_|fail
 refine cu (jL (1+x)) ?_
 rintro _ i3 h3 ⟨y,rfl,hy⟩ hi3
 simp only [AS.drew,AS.called,aG,AS.put,aF,aC,bF,aR,bE,aN,bG,aP,List.set_cons_succ,List.set_cons_zero,List.append_nil,List.nil_append,List.cons_append]
 simp only [aV,bB] at hy⊢
 have W:=trivial
 repeat' first|refine st ?_|(refine nx ?_;refine so ?_)|(refine cx ?_;refine sc (fun hc=>?_) (fun hc=>?_)<;>try exact hc.elim)|(refine lx ?_;refine sp (fun hc=>?_) (fun hc=>?_)<;>try exact hc.elim)|refine sx ?_ ?_|refine sy ?_ ?_|fail
 refine cu (gF 12) ?_
 rintro _ i4 h4 ⟨z,rfl,z0,z1,z2⟩ hi4
 simp only [AS.drew,AS.called,aG,AS.put,aF,aC,bF,aR,bE,aN,bG,aP,List.set_cons_succ,List.set_cons_zero,List.append_nil,List.nil_append,List.cons_append]
 by_cases hz0:z=0
 ·subst hz0
  have W:=trivial
  repeat' first|refine st ?_|(refine nx ?_;refine so ?_)|(refine cx ?_;refine sc (fun hc=>?_) (fun hc=>?_)<;>try exact hc.elim)|(refine lx ?_;refine sp (fun hc=>?_) (fun hc=>?_)<;>try exact hc.elim)|refine sx ?_ ?_|refine sy ?_ ?_|fail
  refine fM (i:=3) (ver:=1) (by rfl) (by rfl) ?_ (by simp [AS.frozen,gM,gB,frz,gT,aA.frz,aA.kill,rtr,rtc,rt];rfl)
  refine cu (uZ [99,100,404,599,600] (by decide)) ?_
  rintro _ i5 h5 ⟨v,hv,rfl⟩ hi5
  simp only [AS.drew,AS.called,aG,AS.put,aF,aC,bF,aR,bE,aN,bG,aP,List.set_cons_succ,List.set_cons_zero,List.append_nil,List.nil_append,List.cons_append]
  have W:=trivial
  repeat' first|refine st ?_|(refine nx ?_;refine so ?_)|(refine cx ?_;refine sc (fun hc=>?_) (fun hc=>?_)<;>try exact hc.elim)|(refine lx ?_;refine sp (fun hc=>?_) (fun hc=>?_)<;>try exact hc.elim)|refine sx ?_ ?_|refine sy ?_ ?_|fail
  refine ⟨.inr rfl,fE (by simp [Tryz.results32];rfl) (by rfl) (by rfl) (by omega) (by simp) (by simp) ?_⟩
  simp only [single,res]
  exact ⟨⟨v,y.kind,y.body,y.age,y.shares,y.policy⟩,rfl,by simp only [bB];omega⟩
 ·have:=hz0
  by_cases hz1:z=1
  ·subst hz1
   have W:=trivial
   repeat' first|refine st ?_|(refine nx ?_;refine so ?_)|(refine cx ?_;refine sc (fun hc=>?_) (fun hc=>?_)<;>try exact hc.elim)|(refine lx ?_;refine sp (fun hc=>?_) (fun hc=>?_)<;>try exact hc.elim)|refine sx ?_ ?_|refine sy ?_ ?_|fail
   refine fM (i:=3) (ver:=1) (by rfl) (by rfl) ?_ (by simp [AS.frozen,gM,gB,frz,gT,aA.frz,aA.kill,rtr,rtc,rt];rfl)
   refine cu (uZ [0,6] (by decide)) ?_
   rintro _ i5 h5 ⟨v,hv,rfl⟩ hi5
   simp only [AS.drew,AS.called,aG,AS.put,aF,aC,bF,aR,bE,aN,bG,aP,List.set_cons_succ,List.set_cons_zero,List.append_nil,List.nil_append,List.cons_append]
   have W:=trivial
   repeat' first|refine st ?_|(refine nx ?_;refine so ?_)|(refine cx ?_;refine sc (fun hc=>?_) (fun hc=>?_)<;>try exact hc.elim)|(refine lx ?_;refine sp (fun hc=>?_) (fun hc=>?_)<;>try exact hc.elim)|refine sx ?_ ?_|refine sy ?_ ?_|fail
   refine ⟨.inr rfl,fE (by simp [Tryz.results32];rfl) (by rfl) (by rfl) (by omega) (by simp) (by simp) ?_⟩
   simp only [single,res]
   exact ⟨⟨y.status,v,y.body,y.age,y.shares,y.policy⟩,rfl,by simp only [bB];omega⟩
  ·have:=hz1
   by_cases hz2:z=2
   ·subst hz2
    have W:=trivial
    repeat' first|refine st ?_|(refine nx ?_;refine so ?_)|(refine cx ?_;refine sc (fun hc=>?_) (fun hc=>?_)<;>try exact hc.elim)|(refine lx ?_;refine sp (fun hc=>?_) (fun hc=>?_)<;>try exact hc.elim)|refine sx ?_ ?_|refine sy ?_ ?_|fail
    refine fM (i:=3) (ver:=1) (by rfl) (by rfl) ?_ (by simp [AS.frozen,gM,gB,frz,gT,aA.frz,aA.kill,rtr,rtc,rt];rfl)
    refine cu (uZ [-1,1000,1001] (by decide)) ?_
    rintro _ i5 h5 ⟨v,hv,rfl⟩ hi5
    simp only [AS.drew,AS.called,aG,AS.put,aF,aC,bF,aR,bE,aN,bG,aP,List.set_cons_succ,List.set_cons_zero,List.append_nil,List.nil_append,List.cons_append]
    have W:=trivial
    repeat' first|refine st ?_|(refine nx ?_;refine so ?_)|(refine cx ?_;refine sc (fun hc=>?_) (fun hc=>?_)<;>try exact hc.elim)|(refine lx ?_;refine sp (fun hc=>?_) (fun hc=>?_)<;>try exact hc.elim)|refine sx ?_ ?_|refine sy ?_ ?_|fail
    refine ⟨.inr rfl,fE (by simp [Tryz.results32];rfl) (by rfl) (by rfl) (by omega) (by simp) (by simp) ?_⟩
    simp only [single,res]
    exact ⟨⟨y.status,y.kind,y.body,v,y.shares,y.policy⟩,rfl,by simp only [bB];omega⟩
   ·have:=hz2
    by_cases hz3:z=3
    ·subst hz3
     have W:=trivial
     repeat' first|refine st ?_|(refine nx ?_;refine so ?_)|(refine cx ?_;refine sc (fun hc=>?_) (fun hc=>?_)<;>try exact hc.elim)|(refine lx ?_;refine sp (fun hc=>?_) (fun hc=>?_)<;>try exact hc.elim)|refine sx ?_ ?_|refine sy ?_ ?_|fail
     refine fM (i:=3) (ver:=1) (by rfl) (by rfl) ?_ (by simp [AS.frozen,gM,gB,frz,gT,aA.frz,aA.kill,rtr,rtc,rt];rfl)
     refine cu (dJ ([[120],[115,99,114,105,112,116,59,115,116,121,108,101,59,105,109,103]]:List Str) (by decide)) ?_
     rintro _ i5 h5 ⟨s,hm,rfl⟩ hi5
     simp only [AS.drew,AS.called,aG,AS.put,aF,aC,bF,aR,bE,aN,bG,aP,List.set_cons_succ,List.set_cons_zero,List.append_nil,List.nil_append,List.cons_append]
     have hlen:=(by decide:∀s∈([[120],[115,99,114,105,112,116,59,115,116,121,108,101,59,105,109,103]]:List Str),s.length≤16) s hm
     have W:=trivial
     repeat' first|refine st ?_|(refine nx ?_;refine so ?_)|(refine cx ?_;refine sc (fun hc=>?_) (fun hc=>?_)<;>try exact hc.elim)|(refine lx ?_;refine sp (fun hc=>?_) (fun hc=>?_)<;>try exact hc.elim)|refine sx ?_ ?_|refine sy ?_ ?_|fail
     refine ⟨.inr rfl,fE (by simp [Tryz.results32];rfl) (by rfl) (by rfl) (by omega) (by simp) (by simp) ?_⟩
     simp only [single,res]
     exact ⟨⟨y.status,y.kind,y.body,y.age,y.shares,s⟩,rfl,by simp only [bB];omega⟩
    ·have:=hz3
     by_cases hz4:z=4
     ·subst hz4
      have W:=trivial
      repeat' first|refine st ?_|(refine nx ?_;refine so ?_)|(refine cx ?_;refine sc (fun hc=>?_) (fun hc=>?_)<;>try exact hc.elim)|(refine lx ?_;refine sp (fun hc=>?_) (fun hc=>?_)<;>try exact hc.elim)|refine sx ?_ ?_|refine sy ?_ ?_|fail
      refine aJ (ι:={s:Str // s.length≤630}) (fun t o q=>⟨t,o.set 2 ⟨true,true,6,0,[[.int .i64 y.status,.int .i64 y.kind,.str q.1,.int .i64 y.age,.bool y.shares,.str y.policy]]⟩⟩)
       (fun q=>1000 - q.1.length) ⟨y.body,by omega⟩ (aD (by simp) (by simp)) ?_
      rintro ⟨s,hs⟩ K1 hK1
      have hK2:=hK1
      simp only [List.set_cons_succ,List.set_cons_zero] at hK1⊢
      clear hK1
      by_cases hlt:s.length < 400
      ·have h1:(s.length:Int) < 400:=by omega
       have h2:s.length+10≤6200:=by omega
       have W:=And.intro h1 h2
       repeat' first|refine st ?_|(refine nx ?_;refine so ?_)|(refine cx ?_;refine sc (fun hc=>?_) (fun hc=>?_)<;>try exact hc.elim)|(refine lx ?_;refine sp (fun hc=>?_) (fun hc=>?_)<;>try exact hc.elim)|refine sx ?_ ?_|refine sy ?_ ?_|fail
       refine hK2 _ ⟨s++[48,49,50,51,52,53,54,55,56,57],by simp;omega⟩ ?_ (by simp only [List.length_append,List.length_cons,List.length_nil];omega)
       exact aD (by simp) (by simp)
      ·have h1:¬(s.length:Int) < 400:=by omega
       have W:=h1
       repeat' first|refine st ?_|(refine nx ?_;refine so ?_)|(refine cx ?_;refine sc (fun hc=>?_) (fun hc=>?_)<;>try exact hc.elim)|(refine lx ?_;refine sp (fun hc=>?_) (fun hc=>?_)<;>try exact hc.elim)|refine sx ?_ ?_|refine sy ?_ ?_|fail
       refine ⟨.inr rfl,fE (by simp [Tryz.results32];rfl) (by rfl) (by rfl) (by omega) (by simp) (by simp) ?_⟩
       simp only [single,res]
       exact ⟨⟨y.status,y.kind,s,y.age,y.shares,y.policy⟩,rfl,by simp only [bB];omega⟩
     ·have:=hz4
      have W:=And.intro hz0 (And.intro hz1 (And.intro hz2 (And.intro hz3 hz4)))
      repeat' first|refine st ?_|(refine nx ?_;refine so ?_)|(refine cx ?_;refine sc (fun hc=>?_) (fun hc=>?_)<;>try exact hc.elim)|(refine lx ?_;refine sp (fun hc=>?_) (fun hc=>?_)<;>try exact hc.elim)|refine sx ?_ ?_|refine sy ?_ ?_|fail
      refine ⟨.inr rfl,fE (by simp [Tryz.results32];rfl) (by rfl) (by rfl) (by omega) (by simp) (by simp) ?_⟩
      simp only [single,res]
      exact ⟨y,rfl,by simp only [bB];omega⟩
end Go.Proofs.YtajppdidkjbmkaaGreatDoor
