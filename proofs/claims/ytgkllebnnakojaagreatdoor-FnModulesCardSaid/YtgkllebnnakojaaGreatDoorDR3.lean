/-
  Proved here: steps towards the statement of this claim, text DR3.
  No condition beyond what each statement spells out.
-/
import Derived.Test.YtgkllebnnakojaaGreatDoorQDR1
set_option linter.all false
set_option maxRecDepth 4000
set_option maxHeartbeats 4000000
namespace Go.Proofs.YtgkllebnnakojaaGreatDoor
open Go.Aw
def aDe (n:Nat) (r:AV):Prop:=∃s:Str,r= .str s∧s.length≤n
def aXq (n:Nat) (r:AV):Prop:=∃a:aC,r= .agg (aD a)∧aK a≤n
theorem aL3 [aB Tryz.prog]:OkC Tryz.prog 43 [] (aDe 4):=by
 refine mZ Tryz.mix Tryz.func43 Tryz.ntmps43 ?_
 intro code i h hi hl
 simp only [aH]
 have W:=trivial
 repeat' first|refine st ?_|(refine nx ?_;refine so ?_)|(refine cx ?_;refine sc (fun hc=>?_) (fun hc=>?_)<;>try exact hc.elim)|(refine lx ?_;refine sp (fun hc=>?_) (fun hc=>?_)<;>try exact hc.elim)|refine sx ?_ ?_|refine sy ?_ ?_|fail
 refine iI (i:=1) (ver:=1) (by rfl) (by rfl) ?_ (by simp [AS.frozen,iA,gU,frz,iJ,aA.frz,aA.kill,rtr,rtc,rt];rfl)
 refine cu (dN ([[104,111,109,101],[99,100,110],[101,118,105,108],[104,111,109,101]]:List Str) (by decide)) ?_
 rintro _ i2 h2 ⟨s,hm,rfl⟩ hi2
 simp only [AS.drew,AS.called,aH,AS.put,aG,aF,bE,aU,bD,aS,bH,aV,List.set_cons_succ,List.set_cons_zero,List.append_nil,List.nil_append,List.cons_append]
 have hlen:=(by decide:∀s∈([[104,111,109,101],[99,100,110],[101,118,105,108],[104,111,109,101]]:List Str),s.length≤4) s hm
 have W:=trivial
 repeat' first|refine st ?_|(refine nx ?_;refine so ?_)|(refine cx ?_;refine sc (fun hc=>?_) (fun hc=>?_)<;>try exact hc.elim)|(refine lx ?_;refine sp (fun hc=>?_) (fun hc=>?_)<;>try exact hc.elim)|refine sx ?_ ?_|refine sy ?_ ?_|fail
 refine ⟨.inr rfl,gD (by simp [Tryz.results43];rfl) (by rfl) (by rfl) (by omega) (by simp) (by simp) ?_⟩
 simp only [single,res]
 exact ⟨_,rfl,hlen⟩
theorem aLp [aB Tryz.prog]:OkC Tryz.prog 44 [] (aDe 5):=by
 refine mZ Tryz.mix Tryz.func44 Tryz.ntmps44 ?_
 intro code i h hi hl
 simp only [aH]
 have W:=trivial
 repeat' first|refine st ?_|(refine nx ?_;refine so ?_)|(refine cx ?_;refine sc (fun hc=>?_) (fun hc=>?_)<;>try exact hc.elim)|(refine lx ?_;refine sp (fun hc=>?_) (fun hc=>?_)<;>try exact hc.elim)|refine sx ?_ ?_|refine sy ?_ ?_|fail
 refine iI (i:=1) (ver:=1) (by rfl) (by rfl) ?_ (by simp [AS.frozen,iA,gU,frz,iJ,aA.frz,aA.kill,rtr,rtc,rt];rfl)
 refine cu (dN ([[105,110,100,101,120],[97,112,112],[115,116,121,108,101],[108,105,98],[108,111,103,111],[110,101,120,116],[117,116,105,108]]:List Str) (by decide)) ?_
 rintro _ i2 h2 ⟨s,hm,rfl⟩ hi2
 simp only [AS.drew,AS.called,aH,AS.put,aG,aF,bE,aU,bD,aS,bH,aV,List.set_cons_succ,List.set_cons_zero,List.append_nil,List.nil_append,List.cons_append]
 have hlen:=(by decide:∀s∈([[105,110,100,101,120],[97,112,112],[115,116,121,108,101],[108,105,98],[108,111,103,111],[110,101,120,116],[117,116,105,108]]:List Str),s.length≤5) s hm
 have W:=trivial
 repeat' first|refine st ?_|(refine nx ?_;refine so ?_)|(refine cx ?_;refine sc (fun hc=>?_) (fun hc=>?_)<;>try exact hc.elim)|(refine lx ?_;refine sp (fun hc=>?_) (fun hc=>?_)<;>try exact hc.elim)|refine sx ?_ ?_|refine sy ?_ ?_|fail
 refine ⟨.inr rfl,gD (by simp [Tryz.results44];rfl) (by rfl) (by rfl) (by omega) (by simp) (by simp) ?_⟩
 simp only [single,res]
 exact ⟨_,rfl,hlen⟩
theorem aCt [aB Tryz.prog]:OkC Tryz.prog 20 [] (aXq 9):=by
 refine mZ Tryz.mix Tryz.func20 Tryz.ntmps20 ?_
 intro code i h hi hl
 simp only [aH]
 have W:=trivial
 repeat' first|refine st ?_|(refine nx ?_;refine so ?_)|(refine cx ?_;refine sc (fun hc=>?_) (fun hc=>?_)<;>try exact hc.elim)|(refine lx ?_;refine sp (fun hc=>?_) (fun hc=>?_)<;>try exact hc.elim)|refine sx ?_ ?_|refine sy ?_ ?_|fail
 refine cu (aL3) ?_
 rintro _ i2 h2 ⟨s,rfl,hs⟩ hi2
 simp only [AS.drew,AS.called,aH,AS.put,aG,aF,bE,aU,bD,aS,bH,aV,List.set_cons_succ,List.set_cons_zero,List.append_nil,List.nil_append,List.cons_append]
 have W:=trivial
 repeat' first|refine st ?_|(refine nx ?_;refine so ?_)|(refine cx ?_;refine sc (fun hc=>?_) (fun hc=>?_)<;>try exact hc.elim)|(refine lx ?_;refine sp (fun hc=>?_) (fun hc=>?_)<;>try exact hc.elim)|refine sx ?_ ?_|refine sy ?_ ?_|fail
 refine cu (aLp) ?_
 rintro _ i3 h3 ⟨q,rfl,hq⟩ hi3
 simp only [AS.drew,AS.called,aH,AS.put,aG,aF,bE,aU,bD,aS,bH,aV,List.set_cons_succ,List.set_cons_zero,List.append_nil,List.nil_append,List.cons_append]
 have W:=trivial
 repeat' first|refine st ?_|(refine nx ?_;refine so ?_)|(refine cx ?_;refine sc (fun hc=>?_) (fun hc=>?_)<;>try exact hc.elim)|(refine lx ?_;refine sp (fun hc=>?_) (fun hc=>?_)<;>try exact hc.elim)|refine sx ?_ ?_|refine sy ?_ ?_|fail
 refine ⟨.inr rfl,gD (by simp [Tryz.results20];rfl) (by rfl) (by rfl) (by omega) (by simp) (by simp) ?_⟩
 simp only [single,res]
 exact ⟨⟨s,q⟩,rfl,by simp only [aK];omega⟩
theorem aN7 [aB Tryz.prog]:OkC Tryz.prog 151 [] (aDe 60):=by
 refine mZ Tryz.mix Tryz.func151 Tryz.ntmps151 ?_
 intro code i h hi hl
 simp only [aH]
 have W:=trivial
 repeat' first|refine st ?_|(refine nx ?_;refine so ?_)|(refine cx ?_;refine sc (fun hc=>?_) (fun hc=>?_)<;>try exact hc.elim)|(refine lx ?_;refine sp (fun hc=>?_) (fun hc=>?_)<;>try exact hc.elim)|refine sx ?_ ?_|refine sy ?_ ?_|fail
 refine cu (gT 8) ?_
 rintro _ i2 h2 ⟨x,rfl,x0,x1,x2⟩ hi2
 simp only [AS.drew,AS.called,aH,AS.put,aG,aF,bE,aU,bD,aS,bH,aV,List.set_cons_succ,List.set_cons_zero,List.append_nil,List.nil_append,List.cons_append]
 by_cases hx0:x=0
 ·subst hx0
  have W:=trivial
  repeat' first|refine st ?_|(refine nx ?_;refine so ?_)|(refine cx ?_;refine sc (fun hc=>?_) (fun hc=>?_)<;>try exact hc.elim)|(refine lx ?_;refine sp (fun hc=>?_) (fun hc=>?_)<;>try exact hc.elim)|refine sx ?_ ?_|refine sy ?_ ?_|fail
  refine iI (i:=1) (ver:=1) (by rfl) (by rfl) ?_ (by simp [AS.frozen,iA,gU,frz,iJ,aA.frz,aA.kill,rtr,rtc,rt];rfl)
  refine cu (dN ([[112],[98],[115,99,114,105,112,116],[112,97,103,101]]:List Str) (by decide)) ?_
  rintro _ ju gu ⟨u,hmu,rfl⟩ hju
  simp only [AS.drew,AS.called,aH,AS.put,aG,aF,bE,aU,bD,aS,bH,aV,List.set_cons_succ,List.set_cons_zero,List.append_nil,List.nil_append,List.cons_append]
  have hlu:=(by decide:∀s∈([[112],[98],[115,99,114,105,112,116],[112,97,103,101]]:List Str),s.length≤6) u hmu
  have W:=hlu
  repeat' first|refine st ?_|(refine nx ?_;refine so ?_)|(refine cx ?_;refine sc (fun hc=>?_) (fun hc=>?_)<;>try exact hc.elim)|(refine lx ?_;refine sp (fun hc=>?_) (fun hc=>?_)<;>try exact hc.elim)|refine sx ?_ ?_|refine sy ?_ ?_|fail
  refine ⟨.inr rfl,gD (by simp [Tryz.results151];rfl) (by rfl) (by rfl) (by omega) (by simp) (by simp) ?_⟩
  simp only [single,res]
  exact ⟨_,rfl,by first|omega|(simp;omega)⟩
 ·have:=hx0
  by_cases hx1:x=1
  ·subst hx1
   have W:=trivial
   repeat' first|refine st ?_|(refine nx ?_;refine so ?_)|(refine cx ?_;refine sc (fun hc=>?_) (fun hc=>?_)<;>try exact hc.elim)|(refine lx ?_;refine sp (fun hc=>?_) (fun hc=>?_)<;>try exact hc.elim)|refine sx ?_ ?_|refine sy ?_ ?_|fail
   refine iI (i:=1) (ver:=1) (by rfl) (by rfl) ?_ (by simp [AS.frozen,iA,gU,frz,iJ,aA.frz,aA.kill,rtr,rtc,rt];rfl)
   refine cu (dN ([[97,112,112],[99,100,110,47,108,105,98],[108,105,98],[101,118,105,108,47,97,112,112]]:List Str) (by decide)) ?_
   rintro _ ju gu ⟨u,hmu,rfl⟩ hju
   simp only [AS.drew,AS.called,aH,AS.put,aG,aF,bE,aU,bD,aS,bH,aV,List.set_cons_succ,List.set_cons_zero,List.append_nil,List.nil_append,List.cons_append]
   have hlu:=(by decide:∀s∈([[97,112,112],[99,100,110,47,108,105,98],[108,105,98],[101,118,105,108,47,97,112,112]]:List Str),s.length≤8) u hmu
   have W:=hlu
   repeat' first|refine st ?_|(refine nx ?_;refine so ?_)|(refine cx ?_;refine sc (fun hc=>?_) (fun hc=>?_)<;>try exact hc.elim)|(refine lx ?_;refine sp (fun hc=>?_) (fun hc=>?_)<;>try exact hc.elim)|refine sx ?_ ?_|refine sy ?_ ?_|fail
   refine ⟨.inr rfl,gD (by simp [Tryz.results151];rfl) (by rfl) (by rfl) (by omega) (by simp) (by simp) ?_⟩
   simp only [single,res]
   exact ⟨_,rfl,by first|omega|(simp;omega)⟩
  ·have:=hx1
   by_cases hx2:x=2
   ·subst hx2
    have W:=trivial
    repeat' first|refine st ?_|(refine nx ?_;refine so ?_)|(refine cx ?_;refine sc (fun hc=>?_) (fun hc=>?_)<;>try exact hc.elim)|(refine lx ?_;refine sp (fun hc=>?_) (fun hc=>?_)<;>try exact hc.elim)|refine sx ?_ ?_|refine sy ?_ ?_|fail
    refine iI (i:=1) (ver:=1) (by rfl) (by rfl) ?_ (by simp [AS.frozen,iA,gU,frz,iJ,aA.frz,aA.kill,rtr,rtc,rt];rfl)
    refine cu (dN ([[97,112,112],[117,116,105,108]]:List Str) (by decide)) ?_
    rintro _ ju gu ⟨u,hmu,rfl⟩ hju
    simp only [AS.drew,AS.called,aH,AS.put,aG,aF,bE,aU,bD,aS,bH,aV,List.set_cons_succ,List.set_cons_zero,List.append_nil,List.nil_append,List.cons_append]
    have hlu:=(by decide:∀s∈([[97,112,112],[117,116,105,108]]:List Str),s.length≤4) u hmu
    have W:=hlu
    repeat' first|refine st ?_|(refine nx ?_;refine so ?_)|(refine cx ?_;refine sc (fun hc=>?_) (fun hc=>?_)<;>try exact hc.elim)|(refine lx ?_;refine sp (fun hc=>?_) (fun hc=>?_)<;>try exact hc.elim)|refine sx ?_ ?_|refine sy ?_ ?_|fail
    refine iI (i:=2) (ver:=1) (by rfl) (by rfl) ?_ (by simp [AS.frozen,iA,gU,frz,iJ,aA.frz,aA.kill,rtr,rtc,rt];rfl)
    refine cu (dN ([[100,101,102,101,114],[109,111,100,117,108,101]]:List Str) (by decide)) ?_
    rintro _ jv gv ⟨v,hmv,rfl⟩ hjv
    simp only [AS.drew,AS.called,aH,AS.put,aG,aF,bE,aU,bD,aS,bH,aV,List.set_cons_succ,List.set_cons_zero,List.append_nil,List.nil_append,List.cons_append]
    have hlv:=(by decide:∀s∈([[100,101,102,101,114],[109,111,100,117,108,101]]:List Str),s.length≤6) v hmv
    have W:=And.intro hlu hlv
    repeat' first|refine st ?_|(refine nx ?_;refine so ?_)|(refine cx ?_;refine sc (fun hc=>?_) (fun hc=>?_)<;>try exact hc.elim)|(refine lx ?_;refine sp (fun hc=>?_) (fun hc=>?_)<;>try exact hc.elim)|refine sx ?_ ?_|refine sy ?_ ?_|fail
    refine ⟨.inr rfl,gD (by simp [Tryz.results151];rfl) (by rfl) (by rfl) (by omega) (by simp) (by simp) ?_⟩
    simp only [single,res]
    exact ⟨_,rfl,by first|omega|(simp;omega)⟩
   ·have:=hx2
    by_cases hx3:x=3
    ·subst hx3
     have W:=trivial
     repeat' first|refine st ?_|(refine nx ?_;refine so ?_)|(refine cx ?_;refine sc (fun hc=>?_) (fun hc=>?_)<;>try exact hc.elim)|(refine lx ?_;refine sp (fun hc=>?_) (fun hc=>?_)<;>try exact hc.elim)|refine sx ?_ ?_|refine sy ?_ ?_|fail
     refine iI (i:=1) (ver:=1) (by rfl) (by rfl) ?_ (by simp [AS.frozen,iA,gU,frz,iJ,aA.frz,aA.kill,rtr,rtc,rt];rfl)
     refine cu (dN ([[108,111,103,111],[99,100,110,47,108,111,103,111]]:List Str) (by decide)) ?_
     rintro _ ju gu ⟨u,hmu,rfl⟩ hju
     simp only [AS.drew,AS.called,aH,AS.put,aG,aF,bE,aU,bD,aS,bH,aV,List.set_cons_succ,List.set_cons_zero,List.append_nil,List.nil_append,List.cons_append]
     have hlu:=(by decide:∀s∈([[108,111,103,111],[99,100,110,47,108,111,103,111]]:List Str),s.length≤8) u hmu
     have W:=hlu
     repeat' first|refine st ?_|(refine nx ?_;refine so ?_)|(refine cx ?_;refine sc (fun hc=>?_) (fun hc=>?_)<;>try exact hc.elim)|(refine lx ?_;refine sp (fun hc=>?_) (fun hc=>?_)<;>try exact hc.elim)|refine sx ?_ ?_|refine sy ?_ ?_|fail
     refine ⟨.inr rfl,gD (by simp [Tryz.results151];rfl) (by rfl) (by rfl) (by omega) (by simp) (by simp) ?_⟩
     simp only [single,res]
     exact ⟨_,rfl,by first|omega|(simp;omega)⟩
    ·have:=hx3
     by_cases hx4:x=4
     ·subst hx4
      have W:=trivial
      repeat' first|refine st ?_|(refine nx ?_;refine so ?_)|(refine cx ?_;refine sc (fun hc=>?_) (fun hc=>?_)<;>try exact hc.elim)|(refine lx ?_;refine sp (fun hc=>?_) (fun hc=>?_)<;>try exact hc.elim)|refine sx ?_ ?_|refine sy ?_ ?_|fail
      refine iI (i:=1) (ver:=1) (by rfl) (by rfl) ?_ (by simp [AS.frozen,iA,gU,frz,iJ,aA.frz,aA.kill,rtr,rtc,rt];rfl)
      refine cu (dN ([[115,116,121,108,101],[99,100,110,47,115,116,121,108,101]]:List Str) (by decide)) ?_
      rintro _ ju gu ⟨u,hmu,rfl⟩ hju
      simp only [AS.drew,AS.called,aH,AS.put,aG,aF,bE,aU,bD,aS,bH,aV,List.set_cons_succ,List.set_cons_zero,List.append_nil,List.nil_append,List.cons_append]
      have hlu:=(by decide:∀s∈([[115,116,121,108,101],[99,100,110,47,115,116,121,108,101]]:List Str),s.length≤9) u hmu
      have W:=hlu
      repeat' first|refine st ?_|(refine nx ?_;refine so ?_)|(refine cx ?_;refine sc (fun hc=>?_) (fun hc=>?_)<;>try exact hc.elim)|(refine lx ?_;refine sp (fun hc=>?_) (fun hc=>?_)<;>try exact hc.elim)|refine sx ?_ ?_|refine sy ?_ ?_|fail
      refine ⟨.inr rfl,gD (by simp [Tryz.results151];rfl) (by rfl) (by rfl) (by omega) (by simp) (by simp) ?_⟩
      simp only [single,res]
      exact ⟨_,rfl,by first|omega|(simp;omega)⟩
     ·have:=hx4
      by_cases hx5:x=5
      ·subst hx5
       have W:=trivial
       repeat' first|refine st ?_|(refine nx ?_;refine so ?_)|(refine cx ?_;refine sc (fun hc=>?_) (fun hc=>?_)<;>try exact hc.elim)|(refine lx ?_;refine sp (fun hc=>?_) (fun hc=>?_)<;>try exact hc.elim)|refine sx ?_ ?_|refine sy ?_ ?_|fail
       refine iI (i:=1) (ver:=1) (by rfl) (by rfl) ?_ (by simp [AS.frozen,iA,gU,frz,iJ,aA.frz,aA.kill,rtr,rtc,rt];rfl)
       refine cu (dN ([[112,32,97,61,98],[],[80],[112,32,97],[112,32,97,61],[112,32,32,97,61,98],[112,32,97,61,98,32,97,61,99],[112,32,97,61,98,32,98,61,99,32,99,61,100,32,100,61,101,32,101,61,102],[47],[112,32,97,61,98,61,99]]:List Str) (by decide)) ?_
       rintro _ ju gu ⟨u,hmu,rfl⟩ hju
       simp only [AS.drew,AS.called,aH,AS.put,aG,aF,bE,aU,bD,aS,bH,aV,List.set_cons_succ,List.set_cons_zero,List.append_nil,List.nil_append,List.cons_append]
       have hlu:=(by decide:∀s∈([[112,32,97,61,98],[],[80],[112,32,97],[112,32,97,61],[112,32,32,97,61,98],[112,32,97,61,98,32,97,61,99],[112,32,97,61,98,32,98,61,99,32,99,61,100,32,100,61,101,32,101,61,102],[47],[112,32,97,61,98,61,99]]:List Str),s.length≤21) u hmu
       have W:=hlu
       repeat' first|refine st ?_|(refine nx ?_;refine so ?_)|(refine cx ?_;refine sc (fun hc=>?_) (fun hc=>?_)<;>try exact hc.elim)|(refine lx ?_;refine sp (fun hc=>?_) (fun hc=>?_)<;>try exact hc.elim)|refine sx ?_ ?_|refine sy ?_ ?_|fail
       refine ⟨.inr rfl,gD (by simp [Tryz.results151];rfl) (by rfl) (by rfl) (by omega) (by simp) (by simp) ?_⟩
       simp only [single,res]
       exact ⟨_,rfl,by first|omega|(simp;omega)⟩
      ·have:=hx5
       have W:=And.intro hx0 (And.intro hx1 (And.intro hx2 (And.intro hx3 (And.intro hx4 hx5))))
       repeat' first|refine st ?_|(refine nx ?_;refine so ?_)|(refine cx ?_;refine sc (fun hc=>?_) (fun hc=>?_)<;>try exact hc.elim)|(refine lx ?_;refine sp (fun hc=>?_) (fun hc=>?_)<;>try exact hc.elim)|refine sx ?_ ?_|refine sy ?_ ?_|fail
       refine iI (i:=1) (ver:=1) (by rfl) (by rfl) ?_ (by simp [AS.frozen,iA,gU,frz,iJ,aA.frz,aA.kill,rtr,rtc,rt];rfl)
       refine cu (dN ([[112],[98],[112,97,103,101],[115,99,114,105,112,116]]:List Str) (by decide)) ?_
       rintro _ ju gu ⟨u,hmu,rfl⟩ hju
       simp only [AS.drew,AS.called,aH,AS.put,aG,aF,bE,aU,bD,aS,bH,aV,List.set_cons_succ,List.set_cons_zero,List.append_nil,List.nil_append,List.cons_append]
       have hlu:=(by decide:∀s∈([[112],[98],[112,97,103,101],[115,99,114,105,112,116]]:List Str),s.length≤6) u hmu
       have W:=hlu
       repeat' first|refine st ?_|(refine nx ?_;refine so ?_)|(refine cx ?_;refine sc (fun hc=>?_) (fun hc=>?_)<;>try exact hc.elim)|(refine lx ?_;refine sp (fun hc=>?_) (fun hc=>?_)<;>try exact hc.elim)|refine sx ?_ ?_|refine sy ?_ ?_|fail
       refine ⟨.inr rfl,gD (by simp [Tryz.results151];rfl) (by rfl) (by rfl) (by omega) (by simp) (by simp) ?_⟩
       simp only [single,res]
       exact ⟨_,rfl,by omega⟩
end Go.Proofs.YtgkllebnnakojaaGreatDoor
