/-
  Proved here: steps towards the statement of this claim, text QDR9.
  No condition beyond what each statement spells out.
-/
import Derived.Test.YtejigeoigebhcaaGreatADR8
import Derived.Test.YtejigeoigebhcaaGreatAJ2
import Derived.Test.YtejigeoigebhcaaGreatAYShelf
import Derived.Test.YtejigeoigebhcaaGreatAF5
import Derived.Test.YtejigeoigebhcaaGreatAF8
set_option linter.all false
set_option maxRecDepth 4000
set_option maxHeartbeats 4000000
namespace Go.Proofs.YtejigeoigebhcaaGreat
open Go.Aw
theorem aG6 [aB Tryz.prog] (k:Int):OkC Tryz.prog 49 [.int .i64 k] (xK 520):=by
 refine kV Tryz.mix Tryz.func49 Tryz.ntmps49 ?_
 intro code i h hi hl
 simp only [aD]
 by_cases k2:k=2
 ·subst k2
  have W:=trivial
  repeat' first|refine st ?_|(refine nx ?_;refine so ?_)|(refine cx ?_;refine sc (fun hc=>?_) (fun hc=>?_)<;>try exact hc.elim)|(refine lx ?_;refine sp (fun hc=>?_) (fun hc=>?_)<;>try exact hc.elim)|refine sx ?_ ?_|refine sy ?_ ?_|fail
  refine cu (vJ 3 (by omega) (by omega)) ?_
  rintro _ i2 h2 ⟨s,rfl,hs⟩ hi2
  simp only [AS.drew,AS.called,aD,AS.put,aF,aC,aV,aM,aU,aK,aX,aL,List.set_cons_succ,List.set_cons_zero,List.append_nil,List.nil_append,List.cons_append]
  have W:=trivial
  repeat' first|refine st ?_|(refine nx ?_;refine so ?_)|(refine cx ?_;refine sc (fun hc=>?_) (fun hc=>?_)<;>try exact hc.elim)|(refine lx ?_;refine sp (fun hc=>?_) (fun hc=>?_)<;>try exact hc.elim)|refine sx ?_ ?_|refine sy ?_ ?_|fail
  refine ⟨.inr rfl,eT (by simp [Tryz.results49];rfl) (by rfl) (by rfl) (by omega) (by simp) (by simp) ?_⟩
  simp only [single,res]
  exact ⟨_,rfl,by omega⟩
 ·by_cases k3:k=3
  ·subst k3
   have W:=trivial
   repeat' first|refine st ?_|(refine nx ?_;refine so ?_)|(refine cx ?_;refine sc (fun hc=>?_) (fun hc=>?_)<;>try exact hc.elim)|(refine lx ?_;refine sp (fun hc=>?_) (fun hc=>?_)<;>try exact hc.elim)|refine sx ?_ ?_|refine sy ?_ ?_|fail
   refine cu (aEr) ?_
   rintro _ i2 h2 ⟨s,rfl,hs⟩ hi2
   simp only [AS.drew,AS.called,aD,AS.put,aF,aC,aV,aM,aU,aK,aX,aL,List.set_cons_succ,List.set_cons_zero,List.append_nil,List.nil_append,List.cons_append]
   have W:=trivial
   repeat' first|refine st ?_|(refine nx ?_;refine so ?_)|(refine cx ?_;refine sc (fun hc=>?_) (fun hc=>?_)<;>try exact hc.elim)|(refine lx ?_;refine sp (fun hc=>?_) (fun hc=>?_)<;>try exact hc.elim)|refine sx ?_ ?_|refine sy ?_ ?_|fail
   refine ⟨.inr rfl,eT (by simp [Tryz.results49];rfl) (by rfl) (by rfl) (by omega) (by simp) (by simp) ?_⟩
   simp only [single,res]
   exact ⟨_,rfl,by omega⟩
  ·by_cases k5:k=5
   ·subst k5
    have W:=trivial
    repeat' first|refine st ?_|(refine nx ?_;refine so ?_)|(refine cx ?_;refine sc (fun hc=>?_) (fun hc=>?_)<;>try exact hc.elim)|(refine lx ?_;refine sp (fun hc=>?_) (fun hc=>?_)<;>try exact hc.elim)|refine sx ?_ ?_|refine sy ?_ ?_|fail
    refine dQ (i:=1) (ver:=1) (by rfl) (by rfl) ?_ (by simp [AS.frozen,dV,dY,frz,eO,aA.frz,aA.kill,rtr,rtc,rt];rfl)
    refine cu (bM ([[],[105,109,112,111,114,116,32,117,116,105,108,59],[105,109,112,111,114,116,32,108,105,98,59],[105,109,112,111,114,116,32,99,100,110,47,108,105,98,59],[105,109,112,111,114,116,32,97,112,112,59,105,109,112,111,114,116,32,117,116,105,108,59]]:List Str) (by decide)) ?_
    rintro _ j2 g2 ⟨u,hm2,rfl⟩ hj2
    simp only [AS.drew,AS.called,aD,AS.put,aF,aC,aV,aM,aU,aK,aX,aL,List.set_cons_succ,List.set_cons_zero,List.append_nil,List.nil_append,List.cons_append]
    have hu:=(by decide:∀s∈([[],[105,109,112,111,114,116,32,117,116,105,108,59],[105,109,112,111,114,116,32,108,105,98,59],[105,109,112,111,114,116,32,99,100,110,47,108,105,98,59],[105,109,112,111,114,116,32,97,112,112,59,105,109,112,111,114,116,32,117,116,105,108,59]]:List Str),s.length≤23) u hm2
    have W:=trivial
    repeat' first|refine st ?_|(refine nx ?_;refine so ?_)|(refine cx ?_;refine sc (fun hc=>?_) (fun hc=>?_)<;>try exact hc.elim)|(refine lx ?_;refine sp (fun hc=>?_) (fun hc=>?_)<;>try exact hc.elim)|refine sx ?_ ?_|refine sy ?_ ?_|fail
    refine dQ (i:=2) (ver:=1) (by rfl) (by rfl) ?_ (by simp [AS.frozen,dV,dY,frz,eO,aA.frz,aA.kill,rtr,rtc,rt];rfl)
    refine cu (bM ([[115,97,121,32,109],[99,111,117,110,116,32,112],[97,100,100,32,98],[108,111,111,107,32,112]]:List Str) (by decide)) ?_
    rintro _ j3 g3 ⟨q,hm3,rfl⟩ hj3
    simp only [AS.drew,AS.called,aD,AS.put,aF,aC,aV,aM,aU,aK,aX,aL,List.set_cons_succ,List.set_cons_zero,List.append_nil,List.nil_append,List.cons_append]
    have hq:=(by decide:∀s∈([[115,97,121,32,109],[99,111,117,110,116,32,112],[97,100,100,32,98],[108,111,111,107,32,112]]:List Str),s.length≤7) q hm3
    have hlq:u.length+q.length≤6200:=by omega
    have W:=hlq
    repeat' first|refine st ?_|(refine nx ?_;refine so ?_)|(refine cx ?_;refine sc (fun hc=>?_) (fun hc=>?_)<;>try exact hc.elim)|(refine lx ?_;refine sp (fun hc=>?_) (fun hc=>?_)<;>try exact hc.elim)|refine sx ?_ ?_|refine sy ?_ ?_|fail
    refine ⟨.inr rfl,eT (by simp [Tryz.results49];rfl) (by rfl) (by rfl) (by omega) (by simp) (by simp) ?_⟩
    simp only [single,res]
    exact ⟨_,rfl,by simp;omega⟩
   ·by_cases k4:k=4
    ·subst k4
     have W:=trivial
     repeat' first|refine st ?_|(refine nx ?_;refine so ?_)|(refine cx ?_;refine sc (fun hc=>?_) (fun hc=>?_)<;>try exact hc.elim)|(refine lx ?_;refine sp (fun hc=>?_) (fun hc=>?_)<;>try exact hc.elim)|refine sx ?_ ?_|refine sy ?_ ?_|fail
     refine ⟨.inr rfl,eT (by simp [Tryz.results49];rfl) (by rfl) (by rfl) (by omega) (by simp) (by simp) ?_⟩
     simp only [single,res]
     exact ⟨_,rfl,by decide⟩
    ·have W:=And.intro k2 (And.intro k3 (And.intro k5 k4))
     repeat' first|refine st ?_|(refine nx ?_;refine so ?_)|(refine cx ?_;refine sc (fun hc=>?_) (fun hc=>?_)<;>try exact hc.elim)|(refine lx ?_;refine sp (fun hc=>?_) (fun hc=>?_)<;>try exact hc.elim)|refine sx ?_ ?_|refine sy ?_ ?_|fail
     refine cu (aE1 8 (by omega)) ?_
     rintro _ i2 h2 ⟨s,rfl,hs⟩ hi2
     simp only [AS.drew,AS.called,aD,AS.put,aF,aC,aV,aM,aU,aK,aX,aL,List.set_cons_succ,List.set_cons_zero,List.append_nil,List.nil_append,List.cons_append]
     have W:=trivial
     repeat' first|refine st ?_|(refine nx ?_;refine so ?_)|(refine cx ?_;refine sc (fun hc=>?_) (fun hc=>?_)<;>try exact hc.elim)|(refine lx ?_;refine sp (fun hc=>?_) (fun hc=>?_)<;>try exact hc.elim)|refine sx ?_ ?_|refine sy ?_ ?_|fail
     refine ⟨.inr rfl,eT (by simp [Tryz.results49];rfl) (by rfl) (by rfl) (by omega) (by simp) (by simp) ?_⟩
     simp only [single,res]
     exact ⟨_,rfl,by omega⟩
theorem aMa (l:List Str):(Lib.joinTail [32] l).length=szL bZ l:=by
 unfold Lib.joinTail
 induction l with
 |nil=>simp [szL,aZ]
 |cons x l ih=>
  simp only [szL,aZ,bZ,List.length_cons] at ih⊢
  simp only [List.map_cons,List.flatten_cons,List.length_append,List.length_cons,List.length_nil,ih]
  omega
theorem aJ4 (w:Str) (l:List Str):(words w l).length=w.length+szL bZ l:=by
 unfold words
 rw [Lib.join_cons,List.length_append,aMa]
theorem aOp (p:bX):(gL p).length≤bE p+40:=by
 unfold gL
 split
 ·have h:(aBh p.nonce).length≤p.nonce.length+10:=by
   unfold aBh
   split<;>simp [aGl]<;>omega
  simp only [List.length_append,List.length_cons,aJ4,bE,nP,qI,wV,List.length_nil]
  omega
 ·simp
end Go.Proofs.YtejigeoigebhcaaGreat
