/-
  Proved here: steps towards the statement of this claim, text DR9.
  No condition beyond what each statement spells out.
-/
import Derived.Test.YtgkllebnnakojaaGreatDoorDR8
import Derived.Test.YtgkllebnnakojaaGreatDoorJ2
set_option linter.all false
set_option maxRecDepth 4000
set_option maxHeartbeats 4000000
namespace Go.Proofs.YtgkllebnnakojaaGreatDoor
open Go.Aw
theorem aLr [aB Tryz.prog] (k:Int):OkC Tryz.prog 101 [.int .i64 k] (aDe 520):=by
 refine mZ Tryz.mix Tryz.func101 Tryz.ntmps101 ?_
 intro code i h hi hl
 simp only [aH]
 by_cases k2:k=2
 ·subst k2
  have W:=trivial
  repeat' first|refine st ?_|(refine nx ?_;refine so ?_)|(refine cx ?_;refine sc (fun hc=>?_) (fun hc=>?_)<;>try exact hc.elim)|(refine lx ?_;refine sp (fun hc=>?_) (fun hc=>?_)<;>try exact hc.elim)|refine sx ?_ ?_|refine sy ?_ ?_|fail
  refine cu (aFs 3 (by omega) (by omega)) ?_
  rintro _ i2 h2 ⟨s,rfl,hs⟩ hi2
  simp only [AS.drew,AS.called,aH,AS.put,aG,aF,bE,aU,bD,aS,bH,aV,List.set_cons_succ,List.set_cons_zero,List.append_nil,List.nil_append,List.cons_append]
  have W:=trivial
  repeat' first|refine st ?_|(refine nx ?_;refine so ?_)|(refine cx ?_;refine sc (fun hc=>?_) (fun hc=>?_)<;>try exact hc.elim)|(refine lx ?_;refine sp (fun hc=>?_) (fun hc=>?_)<;>try exact hc.elim)|refine sx ?_ ?_|refine sy ?_ ?_|fail
  refine ⟨.inr rfl,gD (by simp [Tryz.results101];rfl) (by rfl) (by rfl) (by omega) (by simp) (by simp) ?_⟩
  simp only [single,res]
  exact ⟨_,rfl,by omega⟩
 ·by_cases k3:k=3
  ·subst k3
   have W:=trivial
   repeat' first|refine st ?_|(refine nx ?_;refine so ?_)|(refine cx ?_;refine sc (fun hc=>?_) (fun hc=>?_)<;>try exact hc.elim)|(refine lx ?_;refine sp (fun hc=>?_) (fun hc=>?_)<;>try exact hc.elim)|refine sx ?_ ?_|refine sy ?_ ?_|fail
   refine cu (aHl) ?_
   rintro _ i2 h2 ⟨s,rfl,hs⟩ hi2
   simp only [AS.drew,AS.called,aH,AS.put,aG,aF,bE,aU,bD,aS,bH,aV,List.set_cons_succ,List.set_cons_zero,List.append_nil,List.nil_append,List.cons_append]
   have W:=trivial
   repeat' first|refine st ?_|(refine nx ?_;refine so ?_)|(refine cx ?_;refine sc (fun hc=>?_) (fun hc=>?_)<;>try exact hc.elim)|(refine lx ?_;refine sp (fun hc=>?_) (fun hc=>?_)<;>try exact hc.elim)|refine sx ?_ ?_|refine sy ?_ ?_|fail
   refine ⟨.inr rfl,gD (by simp [Tryz.results101];rfl) (by rfl) (by rfl) (by omega) (by simp) (by simp) ?_⟩
   simp only [single,res]
   exact ⟨_,rfl,by omega⟩
  ·by_cases k5:k=5
   ·subst k5
    have W:=trivial
    repeat' first|refine st ?_|(refine nx ?_;refine so ?_)|(refine cx ?_;refine sc (fun hc=>?_) (fun hc=>?_)<;>try exact hc.elim)|(refine lx ?_;refine sp (fun hc=>?_) (fun hc=>?_)<;>try exact hc.elim)|refine sx ?_ ?_|refine sy ?_ ?_|fail
    refine iI (i:=1) (ver:=1) (by rfl) (by rfl) ?_ (by simp [AS.frozen,iA,gU,frz,iJ,aA.frz,aA.kill,rtr,rtc,rt];rfl)
    refine cu (dN ([[],[105,109,112,111,114,116,32,117,116,105,108,59],[105,109,112,111,114,116,32,108,105,98,59],[105,109,112,111,114,116,32,99,100,110,47,108,105,98,59],[105,109,112,111,114,116,32,97,112,112,59,105,109,112,111,114,116,32,117,116,105,108,59]]:List Str) (by decide)) ?_
    rintro _ j2 g2 ⟨u,hm2,rfl⟩ hj2
    simp only [AS.drew,AS.called,aH,AS.put,aG,aF,bE,aU,bD,aS,bH,aV,List.set_cons_succ,List.set_cons_zero,List.append_nil,List.nil_append,List.cons_append]
    have hu:=(by decide:∀s∈([[],[105,109,112,111,114,116,32,117,116,105,108,59],[105,109,112,111,114,116,32,108,105,98,59],[105,109,112,111,114,116,32,99,100,110,47,108,105,98,59],[105,109,112,111,114,116,32,97,112,112,59,105,109,112,111,114,116,32,117,116,105,108,59]]:List Str),s.length≤23) u hm2
    have W:=trivial
    repeat' first|refine st ?_|(refine nx ?_;refine so ?_)|(refine cx ?_;refine sc (fun hc=>?_) (fun hc=>?_)<;>try exact hc.elim)|(refine lx ?_;refine sp (fun hc=>?_) (fun hc=>?_)<;>try exact hc.elim)|refine sx ?_ ?_|refine sy ?_ ?_|fail
    refine iI (i:=2) (ver:=1) (by rfl) (by rfl) ?_ (by simp [AS.frozen,iA,gU,frz,iJ,aA.frz,aA.kill,rtr,rtc,rt];rfl)
    refine cu (dN ([[115,97,121,32,109],[99,111,117,110,116,32,112],[97,100,100,32,98],[108,111,111,107,32,112]]:List Str) (by decide)) ?_
    rintro _ j3 g3 ⟨q,hm3,rfl⟩ hj3
    simp only [AS.drew,AS.called,aH,AS.put,aG,aF,bE,aU,bD,aS,bH,aV,List.set_cons_succ,List.set_cons_zero,List.append_nil,List.nil_append,List.cons_append]
    have hq:=(by decide:∀s∈([[115,97,121,32,109],[99,111,117,110,116,32,112],[97,100,100,32,98],[108,111,111,107,32,112]]:List Str),s.length≤7) q hm3
    have hlq:u.length+q.length≤6200:=by omega
    have W:=hlq
    repeat' first|refine st ?_|(refine nx ?_;refine so ?_)|(refine cx ?_;refine sc (fun hc=>?_) (fun hc=>?_)<;>try exact hc.elim)|(refine lx ?_;refine sp (fun hc=>?_) (fun hc=>?_)<;>try exact hc.elim)|refine sx ?_ ?_|refine sy ?_ ?_|fail
    refine ⟨.inr rfl,gD (by simp [Tryz.results101];rfl) (by rfl) (by rfl) (by omega) (by simp) (by simp) ?_⟩
    simp only [single,res]
    exact ⟨_,rfl,by simp;omega⟩
   ·by_cases k4:k=4
    ·subst k4
     have W:=trivial
     repeat' first|refine st ?_|(refine nx ?_;refine so ?_)|(refine cx ?_;refine sc (fun hc=>?_) (fun hc=>?_)<;>try exact hc.elim)|(refine lx ?_;refine sp (fun hc=>?_) (fun hc=>?_)<;>try exact hc.elim)|refine sx ?_ ?_|refine sy ?_ ?_|fail
     refine ⟨.inr rfl,gD (by simp [Tryz.results101];rfl) (by rfl) (by rfl) (by omega) (by simp) (by simp) ?_⟩
     simp only [single,res]
     exact ⟨_,rfl,by decide⟩
    ·have W:=And.intro k2 (And.intro k3 (And.intro k5 k4))
     repeat' first|refine st ?_|(refine nx ?_;refine so ?_)|(refine cx ?_;refine sc (fun hc=>?_) (fun hc=>?_)<;>try exact hc.elim)|(refine lx ?_;refine sp (fun hc=>?_) (fun hc=>?_)<;>try exact hc.elim)|refine sx ?_ ?_|refine sy ?_ ?_|fail
     refine cu (aJf 8 (by omega)) ?_
     rintro _ i2 h2 ⟨s,rfl,hs⟩ hi2
     simp only [AS.drew,AS.called,aH,AS.put,aG,aF,bE,aU,bD,aS,bH,aV,List.set_cons_succ,List.set_cons_zero,List.append_nil,List.nil_append,List.cons_append]
     have W:=trivial
     repeat' first|refine st ?_|(refine nx ?_;refine so ?_)|(refine cx ?_;refine sc (fun hc=>?_) (fun hc=>?_)<;>try exact hc.elim)|(refine lx ?_;refine sp (fun hc=>?_) (fun hc=>?_)<;>try exact hc.elim)|refine sx ?_ ?_|refine sy ?_ ?_|fail
     refine ⟨.inr rfl,gD (by simp [Tryz.results101];rfl) (by rfl) (by rfl) (by omega) (by simp) (by simp) ?_⟩
     simp only [single,res]
     exact ⟨_,rfl,by omega⟩
theorem aSo (l:List Str):(Lib.joinTail [32] l).length=szL dO l:=by
 unfold Lib.joinTail
 induction l with
 |nil=>simp [szL,bF]
 |cons x l ih=>
  simp only [szL,bF,dO,List.length_cons] at ih⊢
  simp only [List.map_cons,List.flatten_cons,List.length_append,List.length_cons,List.length_nil,ih]
  omega
theorem aPa (w:Str) (l:List Str):(words w l).length=w.length+szL dO l:=by
 unfold words
 rw [Lib.join_cons,List.length_append,aSo]
theorem aMr (p:dE):(iE p).length≤dK p+40:=by
 unfold iE
 split
 ·have h:(aFf p.nonce).length≤p.nonce.length+10:=by
   unfold aFf
   split<;>simp [aJ8]<;>omega
  simp only [List.length_append,List.length_cons,aPa,dK,pX,sW,aAr,List.length_nil]
  omega
 ·simp
def aXp (n:Nat) (r:AV):Prop:=∃x:aZ,r= .agg (bU x)∧bS x≤n
theorem jY [aB Tryz.prog] (k:Int):OkC Tryz.prog 62 [.int .i64 k] (aXp 620):=by
 refine mZ Tryz.mix Tryz.func62 Tryz.ntmps62 ?_
 intro code i h hi hl
 simp only [aH]
 have W:=trivial
 repeat' first|refine st ?_|(refine nx ?_;refine so ?_)|(refine cx ?_;refine sc (fun hc=>?_) (fun hc=>?_)<;>try exact hc.elim)|(refine lx ?_;refine sp (fun hc=>?_) (fun hc=>?_)<;>try exact hc.elim)|refine sx ?_ ?_|refine sy ?_ ?_|fail
 refine cu (aLr k) ?_
 rintro _ i2 h2 ⟨s,rfl,hs⟩ hi2
 simp only [AS.drew,AS.called,aH,AS.put,aG,aF,bE,aU,bD,aS,bH,aV,List.set_cons_succ,List.set_cons_zero,List.append_nil,List.nil_append,List.cons_append]
 have W:=trivial
 repeat' first|refine st ?_|(refine nx ?_;refine so ?_)|(refine cx ?_;refine sc (fun hc=>?_) (fun hc=>?_)<;>try exact hc.elim)|(refine lx ?_;refine sp (fun hc=>?_) (fun hc=>?_)<;>try exact hc.elim)|refine sx ?_ ?_|refine sy ?_ ?_|fail
 refine iI (i:=2) (ver:=1) (by rfl) (by rfl) ?_ (by simp [AS.frozen,iA,gU,frz,iJ,aA.frz,aA.kill,rtr,rtc,rt];rfl)
 refine cu (aNo [0,5,50] (by decide)) ?_
 rintro _ i3 h3 ⟨x,hx,rfl⟩ hi3
 simp only [AS.drew,AS.called,aH,AS.put,aG,aF,bE,aU,bD,aS,bH,aV,List.set_cons_succ,List.set_cons_zero,List.append_nil,List.nil_append,List.cons_append]
 have W:=trivial
 repeat' first|refine st ?_|(refine nx ?_;refine so ?_)|(refine cx ?_;refine sc (fun hc=>?_) (fun hc=>?_)<;>try exact hc.elim)|(refine lx ?_;refine sp (fun hc=>?_) (fun hc=>?_)<;>try exact hc.elim)|refine sx ?_ ?_|refine sy ?_ ?_|fail
 refine cu (eZ 2) ?_
 rintro _ i4 h4 ⟨b,rfl⟩ hi4
 simp only [AS.drew,AS.called,aH,AS.put,aG,aF,bE,aU,bD,aS,bH,aV,List.set_cons_succ,List.set_cons_zero,List.append_nil,List.nil_append,List.cons_append]
 by_cases k1:k=1
 ·subst k1
  have W:=trivial
  repeat' first|refine st ?_|(refine nx ?_;refine so ?_)|(refine cx ?_;refine sc (fun hc=>?_) (fun hc=>?_)<;>try exact hc.elim)|(refine lx ?_;refine sp (fun hc=>?_) (fun hc=>?_)<;>try exact hc.elim)|refine sx ?_ ?_|refine sy ?_ ?_|fail
  refine cu (xN) ?_
  rintro _ i5 h5 ⟨p,rfl,hp⟩ hi5
  simp only [AS.drew,AS.called,aH,AS.put,aG,aF,bE,aU,bD,aS,bH,aV,List.set_cons_succ,List.set_cons_zero,List.append_nil,List.nil_append,List.cons_append]
  have hf:=mY p (by omega)
  have hfl:=aMr p
  generalize iE p=fp at *
  simp only [cB] at hf⊢
  have W:=trivial
  repeat' first|refine st ?_|(refine nx ?_;refine so ?_)|(refine cx ?_;refine sc (fun hc=>?_) (fun hc=>?_)<;>try exact hc.elim)|(refine lx ?_;refine sp (fun hc=>?_) (fun hc=>?_)<;>try exact hc.elim)|refine sx ?_ ?_|refine sy ?_ ?_|fail
  refine ⟨.inr rfl,gD (by simp [Tryz.results62];rfl) (by rfl) (by rfl) (by omega) (by simp) (by simp) ?_⟩
  simp only [single,res]
  exact ⟨⟨200,1,s,x,b,fp⟩,rfl,by simp only [bS];omega⟩
 ·have W:=k1
  repeat' first|refine st ?_|(refine nx ?_;refine so ?_)|(refine cx ?_;refine sc (fun hc=>?_) (fun hc=>?_)<;>try exact hc.elim)|(refine lx ?_;refine sp (fun hc=>?_) (fun hc=>?_)<;>try exact hc.elim)|refine sx ?_ ?_|refine sy ?_ ?_|fail
  refine ⟨.inr rfl,gD (by simp [Tryz.results62];rfl) (by rfl) (by rfl) (by omega) (by simp) (by simp) ?_⟩
  simp only [single,res]
  exact ⟨⟨200,k,s,x,b,[]⟩,rfl,by simp only [bS,List.length_nil];omega⟩
end Go.Proofs.YtgkllebnnakojaaGreatDoor
