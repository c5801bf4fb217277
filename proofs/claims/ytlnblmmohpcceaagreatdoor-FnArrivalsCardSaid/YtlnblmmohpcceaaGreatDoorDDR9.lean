/-
  Proved here: steps towards the statement of this claim, text DR9.
  No condition beyond what each statement spells out.
-/
import Derived.Test.YtlnblmmohpcceaaGreatDoorDDR8
import Derived.Test.YtlnblmmohpcceaaGreatDoorDJ2
set_option linter.all false
set_option maxRecDepth 4000
set_option maxHeartbeats 4000000
namespace Go.Proofs.YtlnblmmohpcceaaGreatDoor
open Go.Aw
theorem aFz [aB Tryz.prog] (k:Int):OkC Tryz.prog 132 [.int .i64 k] (yF 520):=by
 refine jU Tryz.mix Tryz.func132 Tryz.ntmps132 ?_
 intro code i h hi hl
 simp only [aD]
 by_cases k2:k=2
 ·subst k2
  have W:=trivial
  repeat' first|refine wl ?_|(refine sq (fun hc=>?_) (fun hc=>?_)<;>try exact hc.elim)|fail
  refine cu (aAh) ?_
  rintro _ i2 h2 ⟨s,rfl,hs⟩ hi2
  simp only [AS.drew,AS.called,aD,AS.put,aF,aC,aV,aM,aU,aJ,aW,aK,List.set_cons_succ,List.set_cons_zero,List.append_nil,List.nil_append,List.cons_append]
  have W:=trivial
  repeat' first|refine wl ?_|(refine sq (fun hc=>?_) (fun hc=>?_)<;>try exact hc.elim)|fail
  refine ⟨.inr rfl,dB (by simp [Tryz.results132];rfl) (by rfl) (by rfl) (by omega) (by simp) (by simp) (by simp) ?_⟩
  simp only [single,res]
  exact ⟨_,rfl,by omega⟩
 ·by_cases k3:k=3
  ·subst k3
   have W:=trivial
   repeat' first|refine wl ?_|(refine sq (fun hc=>?_) (fun hc=>?_)<;>try exact hc.elim)|fail
   refine cu (aC3) ?_
   rintro _ i2 h2 ⟨s,rfl,hs⟩ hi2
   simp only [AS.drew,AS.called,aD,AS.put,aF,aC,aV,aM,aU,aJ,aW,aK,List.set_cons_succ,List.set_cons_zero,List.append_nil,List.nil_append,List.cons_append]
   have W:=trivial
   repeat' first|refine wl ?_|(refine sq (fun hc=>?_) (fun hc=>?_)<;>try exact hc.elim)|fail
   refine ⟨.inr rfl,dB (by simp [Tryz.results132];rfl) (by rfl) (by rfl) (by omega) (by simp) (by simp) (by simp) ?_⟩
   simp only [single,res]
   exact ⟨_,rfl,by omega⟩
  ·by_cases k5:k=5
   ·subst k5
    have W:=trivial
    repeat' first|refine wl ?_|(refine sq (fun hc=>?_) (fun hc=>?_)<;>try exact hc.elim)|fail
    refine dL (i:=1) (ver:=1) (by rfl) (by rfl) ?_ (by simp [AS.frozen,eO,dY,frz,eF,aA.frz,aA.kill,rtr,rtc,rt];rfl)
    refine cu (bL ([[],[105,109,112,111,114,116,32,117,116,105,108,59],[105,109,112,111,114,116,32,108,105,98,59],[105,109,112,111,114,116,32,99,100,110,47,108,105,98,59],[105,109,112,111,114,116,32,97,112,112,59,105,109,112,111,114,116,32,117,116,105,108,59]]:List Str) (by decide)) ?_
    rintro _ j2 g2 ⟨u,hm2,rfl⟩ hj2
    simp only [AS.drew,AS.called,aD,AS.put,aF,aC,aV,aM,aU,aJ,aW,aK,List.set_cons_succ,List.set_cons_zero,List.append_nil,List.nil_append,List.cons_append]
    have hu:=(by decide:∀s∈([[],[105,109,112,111,114,116,32,117,116,105,108,59],[105,109,112,111,114,116,32,108,105,98,59],[105,109,112,111,114,116,32,99,100,110,47,108,105,98,59],[105,109,112,111,114,116,32,97,112,112,59,105,109,112,111,114,116,32,117,116,105,108,59]]:List Str),s.length≤23) u hm2
    have W:=trivial
    repeat' first|refine wl ?_|(refine sq (fun hc=>?_) (fun hc=>?_)<;>try exact hc.elim)|fail
    refine dL (i:=2) (ver:=1) (by rfl) (by rfl) ?_ (by simp [AS.frozen,eO,dY,frz,eF,aA.frz,aA.kill,rtr,rtc,rt];rfl)
    refine cu (bL ([[115,97,121,32,109],[99,111,117,110,116,32,112],[97,100,100,32,98],[108,111,111,107,32,112]]:List Str) (by decide)) ?_
    rintro _ j3 g3 ⟨q,hm3,rfl⟩ hj3
    simp only [AS.drew,AS.called,aD,AS.put,aF,aC,aV,aM,aU,aJ,aW,aK,List.set_cons_succ,List.set_cons_zero,List.append_nil,List.nil_append,List.cons_append]
    have hq:=(by decide:∀s∈([[115,97,121,32,109],[99,111,117,110,116,32,112],[97,100,100,32,98],[108,111,111,107,32,112]]:List Str),s.length≤7) q hm3
    have hlq:u.length+q.length≤6200:=by omega
    have W:=hlq
    repeat' first|refine wl ?_|(refine sq (fun hc=>?_) (fun hc=>?_)<;>try exact hc.elim)|fail
    refine ⟨.inr rfl,dB (by simp [Tryz.results132];rfl) (by rfl) (by rfl) (by omega) (by simp) (by simp) (by simp) ?_⟩
    simp only [single,res]
    exact ⟨_,rfl,by simp;omega⟩
   ·by_cases k4:k=4
    ·subst k4
     have W:=trivial
     repeat' first|refine wl ?_|(refine sq (fun hc=>?_) (fun hc=>?_)<;>try exact hc.elim)|fail
     refine ⟨.inr rfl,dB (by simp [Tryz.results132];rfl) (by rfl) (by rfl) (by omega) (by simp) (by simp) (by simp) ?_⟩
     simp only [single,res]
     exact ⟨_,rfl,by decide⟩
    ·have W:=And.intro k2 (And.intro k3 (And.intro k5 k4))
     repeat' first|refine wl ?_|(refine sq (fun hc=>?_) (fun hc=>?_)<;>try exact hc.elim)|fail
     refine cu (vN 8 (by omega)) ?_
     rintro _ i2 h2 ⟨s,rfl,hs⟩ hi2
     simp only [AS.drew,AS.called,aD,AS.put,aF,aC,aV,aM,aU,aJ,aW,aK,List.set_cons_succ,List.set_cons_zero,List.append_nil,List.nil_append,List.cons_append]
     have W:=trivial
     repeat' first|refine wl ?_|(refine sq (fun hc=>?_) (fun hc=>?_)<;>try exact hc.elim)|fail
     refine ⟨.inr rfl,dB (by simp [Tryz.results132];rfl) (by rfl) (by rfl) (by omega) (by simp) (by simp) (by simp) ?_⟩
     simp only [single,res]
     exact ⟨_,rfl,by omega⟩
theorem aKt (l:List Str):(Lib.joinTail [32] l).length=szL bG l:=by
 unfold Lib.joinTail
 induction l with
 |nil=>simp [szL,bC]
 |cons x l ih=>
  simp only [szL,bC,bG,List.length_cons] at ih⊢
  simp only [List.map_cons,List.flatten_cons,List.length_append,List.length_cons,List.length_nil,ih]
  omega
theorem aHm (w:Str) (l:List Str):(words w l).length=w.length+szL bG l:=by
 unfold words
 rw [Lib.join_cons,List.length_append,aKt]
theorem aNm (p:bN):(bH p).length≤bU p+40:=by
 unfold bH
 split
 ·have h:(rZ p.nonce).length≤p.nonce.length+10:=by
   unfold rZ
   split<;>simp [dN]<;>omega
  simp only [List.length_append,List.length_cons,aHm,bU,gZ,iR,lK,List.length_nil]
  omega
 ·simp
def aL9 (n:Nat) (r:AV):Prop:=∃x:dG,r= .agg (bV x)∧bO x≤n
theorem xD [aB Tryz.prog] (k:Int):OkC Tryz.prog 38 [.int .i64 k] (aL9 620):=by
 refine jU Tryz.mix Tryz.func38 Tryz.ntmps38 ?_
 intro code i h hi hl
 simp only [aD]
 have W:=trivial
 repeat' first|refine wl ?_|(refine sq (fun hc=>?_) (fun hc=>?_)<;>try exact hc.elim)|fail
 refine cu (aFz k) ?_
 rintro _ i2 h2 ⟨s,rfl,hs⟩ hi2
 simp only [AS.drew,AS.called,aD,AS.put,aF,aC,aV,aM,aU,aJ,aW,aK,List.set_cons_succ,List.set_cons_zero,List.append_nil,List.nil_append,List.cons_append]
 have W:=trivial
 repeat' first|refine wl ?_|(refine sq (fun hc=>?_) (fun hc=>?_)<;>try exact hc.elim)|fail
 refine dL (i:=2) (ver:=1) (by rfl) (by rfl) ?_ (by simp [AS.frozen,eO,dY,frz,eF,aA.frz,aA.kill,rtr,rtc,rt];rfl)
 refine cu (oU [0,5,50] (by decide)) ?_
 rintro _ i3 h3 ⟨x,hx,rfl⟩ hi3
 simp only [AS.drew,AS.called,aD,AS.put,aF,aC,aV,aM,aU,aJ,aW,aK,List.set_cons_succ,List.set_cons_zero,List.append_nil,List.nil_append,List.cons_append]
 have W:=trivial
 repeat' first|refine wl ?_|(refine sq (fun hc=>?_) (fun hc=>?_)<;>try exact hc.elim)|fail
 refine cu (iU 2) ?_
 rintro _ i4 h4 ⟨b,rfl⟩ hi4
 simp only [AS.drew,AS.called,aD,AS.put,aF,aC,aV,aM,aU,aJ,aW,aK,List.set_cons_succ,List.set_cons_zero,List.append_nil,List.nil_append,List.cons_append]
 by_cases k1:k=1
 ·subst k1
  have W:=trivial
  repeat' first|refine wl ?_|(refine sq (fun hc=>?_) (fun hc=>?_)<;>try exact hc.elim)|fail
  refine cu (aBe) ?_
  rintro _ i5 h5 ⟨p,rfl,hp⟩ hi5
  simp only [AS.drew,AS.called,aD,AS.put,aF,aC,aV,aM,aU,aJ,aW,aK,List.set_cons_succ,List.set_cons_zero,List.append_nil,List.nil_append,List.cons_append]
  have hf:=nC p (by omega)
  have hfl:=aNm p
  generalize bH p=fp at *
  simp only [aX] at hf⊢
  have W:=trivial
  repeat' first|refine wl ?_|(refine sq (fun hc=>?_) (fun hc=>?_)<;>try exact hc.elim)|fail
  refine ⟨.inr rfl,dB (by simp [Tryz.results38];rfl) (by rfl) (by rfl) (by omega) (by simp) (by simp) (by simp) ?_⟩
  simp only [single,res]
  exact ⟨⟨200,1,s,x,b,fp⟩,rfl,by simp only [bO];omega⟩
 ·have W:=k1
  repeat' first|refine wl ?_|(refine sq (fun hc=>?_) (fun hc=>?_)<;>try exact hc.elim)|fail
  refine ⟨.inr rfl,dB (by simp [Tryz.results38];rfl) (by rfl) (by rfl) (by omega) (by simp) (by simp) (by simp) ?_⟩
  simp only [single,res]
  exact ⟨⟨200,k,s,x,b,[]⟩,rfl,by simp only [bO,List.length_nil];omega⟩
end Go.Proofs.YtlnblmmohpcceaaGreatDoor
