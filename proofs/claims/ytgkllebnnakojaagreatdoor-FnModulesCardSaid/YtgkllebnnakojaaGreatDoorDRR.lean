/-
  Proved here: steps towards the statement of this claim, text DRR.
  No condition beyond what each statement spells out.
-/
import Derived.Test.YtgkllebnnakojaaGreatDoorGR
set_option linter.all false
set_option maxRecDepth 4000
set_option maxHeartbeats 8000000
namespace Go.Proofs.YtgkllebnnakojaaGreatDoor
open Go.Aw
def aWv (r:AV):Prop:=∃(p:aJ) (a:aC),r= .tup [.agg (aL .view p),.agg (aD a)]∧aDw 20000 p∧aK a≤20000
theorem aA2 [aB Tryz.prog] [cO Tryz.prog] (code:List UInt8):OkE Tryz.prog 5 [.sl .view 1 (aP code)] aWv:=by
 refine aTv Tryz.mix [4,5] Tryz.func5 Tryz.ntmps5 ?_
 have W:=trivial
 repeat' first|refine st ?_|(refine nx ?_;refine so ?_)|(refine cx ?_;refine sc (fun hc=>?_) (fun hc=>?_)<;>try exact hc.elim)|(refine lx ?_;refine sp (fun hc=>?_) (fun hc=>?_)<;>try exact hc.elim)|refine sx ?_ ?_|refine sy ?_ ?_|fail
 refine cn (aOw) ?_
 intro i h hi
 simp only [AS.newCur,aH,AS.put,List.length_nil,List.length_cons,Nat.reduceAdd,Nat.zero_add,List.set_cons_succ,List.set_cons_zero,List.append_nil,List.nil_append,List.cons_append]
 have W:=trivial
 repeat' first|refine st ?_|(refine nx ?_;refine so ?_)|(refine cx ?_;refine sc (fun hc=>?_) (fun hc=>?_)<;>try exact hc.elim)|(refine lx ?_;refine sp (fun hc=>?_) (fun hc=>?_)<;>try exact hc.elim)|refine sx ?_ ?_|refine sy ?_ ?_|fail
 refine cu (aKg) ?_
 rintro _ i2 h2 ⟨p,l,rfl,hp,hz⟩ hi2
 simp only [AS.drew,AS.called,aH,AS.put,aG,aF,bE,aU,bD,aS,bH,aV,List.set_cons_succ,List.set_cons_zero,List.append_nil,List.nil_append,List.cons_append]
 simp only [aL]
 have hps:=hp.sz
 by_cases hE:0 < p.entries.length
 ·have hEi:(p.entries.length:Int) > 0:=by omega
  have hEl:(0:Int) < (p.entries.length:Int):=by omega
  obtain ⟨e0,hE0⟩:∃e,p.entries[0]? =some e:=⟨_,List.getElem?_eq_getElem hE⟩
  have hEh:p.entries.head? =some e0:=by rw [List.head?_eq_getElem?];exact hE0
  have hez:aK e0≤20000:=by
   have h7:=gI aK (List.mem_of_getElem? hE0)
   simp only [bL,szL] at hps;omega
  have W:=And.intro hEi hE
  repeat' first|(refine aIy (by rfl) (by first|rfl|(simp [fH,W];done)|(simp [fH,W];rfl)) ?_;refine cu (eZ 4) ?_)|refine st ?_|(refine nx ?_;refine so ?_)|(refine cx ?_;refine sc (fun hc=>?_) (fun hc=>?_)<;>try exact hc.elim)|(refine lx ?_;refine sp (fun hc=>?_) (fun hc=>?_)<;>try exact hc.elim)|refine sx ?_ ?_|refine sy ?_ ?_|fail
  rintro _ i3 h3 ⟨b,rfl⟩ hi3
  simp only [AS.drew,AS.called,aH,AS.put,aG,aF,bE,aU,bD,aS,bH,aV,List.set_cons_succ,List.set_cons_zero,List.append_nil,List.nil_append,List.cons_append]
  cases b
  ·have W:=trivial
   repeat' first|refine st ?_|(refine nx ?_;refine so ?_)|(refine cx ?_;refine sc (fun hc=>?_) (fun hc=>?_)<;>try exact hc.elim)|(refine lx ?_;refine sp (fun hc=>?_) (fun hc=>?_)<;>try exact hc.elim)|refine sx ?_ ?_|refine sy ?_ ?_|fail
   refine aBv (ι:=Unit) (fun J y=>⟨[.undef,.undef,.ptr 0 0 0 0,.ptr 1 0 0 0,.ptr 2 0 0 0,.ptr 3 0 0 0,.undef,.undef,.undef,.undef,.undef,.undef,.undef,.undef,.undef,.undef,.undef,.undef,.undef,.undef,.undef,.undef,.undef,dv J 0 (.agg (aL .view p)),dv J 1 (.ptr 3 0 0 14),dv J 2 (.sl .view 2 (p.entries.map aD)),dv J 3 (.vptr .view (aD e0) 0),dv J 4 (.agg (aD e0)),.undef,.undef,.undef],[⟨true,true,22,0,[cond (J 5) (aL .view p) [.str [],.str [],.bool false,.sl .own 1 [],.sl .own 1 [],.sl .own 1 [],.str [],.str [],.sl .own 4 [],.bool false,.sl .own 4 [],.sl .own 1 [],.sl .own 8 [],.sl .own 5 [],.sl .own 2 [],.int .i64 0,.int .i64 0,.int .i64 0,.int .i64 0,.sl .own 2 [],.sl .own 1 [],.bool false]]⟩,⟨true,true,2,0,[cond (J 6) (aD e0) [.str [],.str []]]⟩,⟨true,true,3,0,[[.sl .view 1 (aP code),.int .i64 i3,.int .i64 h3]]⟩,⟨true,true,22,0,[aL .view p]⟩]⟩) (()) (aI (by simp) (by simp [dv])) ?_ ?_
   ·simp only [invS,and_true]
    refine ⟨?_,?_,?_,?_,?_,?_,?_⟩
    ·rintro J y hC hJ hP
     simp [pre,Region.binds] at hP
     simp only [dv,hJ,hP,if_true,cond_true,cond_false,Bool.false_eq_true,if_false]
     have W:=trivial
     repeat' first|refine st ?_|(refine nx ?_;refine so ?_)|fail
     exact ⟨y,aI (by simp [upd,hJ,hP]) (by simp [dv,upd,hJ,hP])⟩
    ·rintro J y hC hJ hP
     simp [pre,Region.binds] at hP
     simp only [dv,hJ,hP,if_true,cond_true,cond_false,Bool.false_eq_true,if_false]
     have W:=trivial
     repeat' first|refine st ?_|(refine nx ?_;refine so ?_)|fail
     exact ⟨y,aI (by simp [upd,hJ,hP]) (by simp [dv,upd,hJ,hP])⟩
    ·rintro J y hC hJ hP
     simp [pre,Region.binds] at hP
     simp only [dv,hJ,hP,if_true,cond_true,cond_false,Bool.false_eq_true,if_false]
     have W:=trivial
     repeat' first|refine st ?_|(refine nx ?_;refine so ?_)|fail
     exact ⟨y,aI (by simp [upd,hJ,hP]) (by simp [dv,upd,hJ,hP])⟩
    ·rintro J y hC hJ hP
     simp [pre,Region.binds] at hP
     simp only [dv,hJ,hP,if_true,cond_true,cond_false,Bool.false_eq_true,if_false]
     have W:=And.intro hEl (And.intro hE0 hEh)
     repeat' first|refine st ?_|(refine nx ?_;refine so ?_)|fail
     exact ⟨y,aI (by simp [upd,hJ,hP]) (by simp [dv,upd,hJ,hP])⟩
    ·rintro J y hC hJ hP
     simp [pre,Region.binds] at hP
     simp only [dv,hJ,hP,if_true,cond_true,cond_false,Bool.false_eq_true,if_false]
     have W:=trivial
     repeat' first|refine st ?_|(refine nx ?_;refine so ?_)|fail
     exact ⟨y,aI (by simp [upd,hJ,hP]) (by simp [dv,upd,hJ,hP])⟩
    ·rintro J y hC hJ hP
     simp [pre,Region.binds] at hP
     simp only [dv,hJ,hP,if_true,cond_true,cond_false,Bool.false_eq_true,if_false]
     have W:=trivial
     repeat' first|refine st ?_|(refine nx ?_;refine so ?_)|fail
     exact ⟨y,aI (by simp [upd,hJ,hP]) (by simp [dv,upd,hJ,hP])⟩
    ·rintro J y hC hJ hP
     simp [pre,Region.binds] at hP
     simp only [dv,hJ,hP,if_true,cond_true,cond_false,Bool.false_eq_true,if_false]
     have W:=trivial
     repeat' first|refine st ?_|(refine nx ?_;refine so ?_)|fail
     exact ⟨y,aI (by simp [upd,hJ,hP]) (by simp [dv,upd,hJ,hP])⟩
   ·rintro J y hJ
    have hJs:J 0=true∧J 1=true∧J 2=true∧J 3=true∧J 4=true∧J 5=true∧J 6=true:=⟨hJ 0 (by decide),hJ 1 (by decide),hJ 2 (by decide),hJ 3 (by decide),hJ 4 (by decide),hJ 5 (by decide),hJ 6 (by decide)⟩
    simp only [dv,hJs,if_true,cond_true,cond_false,List.cons_append,List.nil_append,List.append_nil]
    clear hJs hJ J
    simp only [aL,aD]
    have W:=trivial
    repeat' first|refine st ?_|(refine nx ?_;refine so ?_)|(refine cx ?_;refine sc (fun hc=>?_) (fun hc=>?_)<;>try exact hc.elim)|(refine lx ?_;refine sp (fun hc=>?_) (fun hc=>?_)<;>try exact hc.elim)|refine sx ?_ ?_|refine sy ?_ ?_|fail
    refine ⟨.inr rfl,pJ (by simp [Tryz.results5];rfl) (by simp) (by simp) ?_⟩
    simp only [single,res]
    exact ⟨p,e0,by simp [aL],hp,hez⟩
  ·have W:=trivial
   repeat' first|refine st ?_|(refine nx ?_;refine so ?_)|(refine cx ?_;refine sc (fun hc=>?_) (fun hc=>?_)<;>try exact hc.elim)|(refine lx ?_;refine sp (fun hc=>?_) (fun hc=>?_)<;>try exact hc.elim)|refine sx ?_ ?_|refine sy ?_ ?_|fail
   refine aBv (ι:={y:aC×Int×Int // aK y.1≤20000∧0≤y.2.1}) (fun J y=>⟨[.undef,.undef,.ptr 0 0 0 0,.ptr 1 0 0 0,.ptr 2 0 0 0,.ptr 3 0 0 0,.undef,.undef,.undef,.undef,.undef,.undef,.undef,.undef,.undef,.undef,.undef,.undef,.undef,.undef,.undef,.undef,.undef,.undef,.undef,.undef,.undef,.undef,dv J 0 (.agg (aL .view p)),dv J 1 (.ptr 2 0 0 0),dv J 2 (.agg (aD y.1.1))],[⟨true,true,22,0,[cond (J 3) (aL .view p) [.str [],.str [],.bool false,.sl .own 1 [],.sl .own 1 [],.sl .own 1 [],.str [],.str [],.sl .own 4 [],.bool false,.sl .own 4 [],.sl .own 1 [],.sl .own 8 [],.sl .own 5 [],.sl .own 2 [],.int .i64 0,.int .i64 0,.int .i64 0,.int .i64 0,.sl .own 2 [],.sl .own 1 [],.bool false]]⟩,⟨true,true,2,0,[cond (J 4) (aD y.1.1) [.str [],.str []]]⟩,⟨true,true,3,0,[[.sl .view 1 (aP code),.int .i64 (cond (J 2) y.1.2.1 i3),.int .i64 (cond (J 2) y.1.2.2 h3)]]⟩,⟨true,true,22,0,[aL .view p]⟩]⟩) (⟨(⟨[],[]⟩,i3,h3),by simp [aK],hi3⟩) (aI (by simp) (by simp [dv])) ?_ ?_
   ·simp only [invS,and_true]
    refine ⟨?_,?_,?_,?_,?_⟩
    ·rintro J ⟨⟨a,j,g⟩,ha,hj⟩ hC hJ hP
     simp [pre,Region.binds] at hP
     simp only [dv,hJ,hP,if_true,cond_true,cond_false,Bool.false_eq_true,if_false]
     have W:=trivial
     repeat' first|refine st ?_|(refine nx ?_;refine so ?_)|fail
     exact ⟨⟨⟨a,j,g⟩,ha,hj⟩,aI (by simp [upd,hJ,hP]) (by simp [dv,upd,hJ,hP])⟩
    ·rintro J ⟨⟨a,j,g⟩,ha,hj⟩ hC hJ hP
     simp [pre,Region.binds] at hP
     simp only [dv,hJ,hP,if_true,cond_true,cond_false,Bool.false_eq_true,if_false]
     have W:=trivial
     repeat' first|refine st ?_|(refine nx ?_;refine so ?_)|fail
     exact ⟨⟨⟨a,j,g⟩,ha,hj⟩,aI (by simp [upd,hJ,hP]) (by simp [dv,upd,hJ,hP])⟩
    ·rintro J ⟨⟨a,j,g⟩,ha,hj⟩ hC hJ hP
     simp [pre,Region.binds] at hP
     have hF4:J 4=false:=lD hC hJ 4 rfl (by simp [pre,Region.binds])
     simp only [dv,hJ,hP,if_true,cond_true,cond_false,hF4,Bool.false_eq_true,if_false]
     refine aIn 30 ?_
     refine cu aCt ?_
     rintro _ j2 g2 ⟨a2,rfl,ha2⟩ hj2
     simp only [AS.drew,AS.called,aH,AS.put,aG,aF,bE,aU,bD,aS,bH,aV,List.set_cons_succ,List.set_cons_zero,List.append_nil,List.nil_append,List.cons_append]
     refine rT ?_
     exact ⟨⟨(a2,j2,g2),by simp only;omega,hj2⟩,aI (by simp [upd,hJ,hP,hF4]) (by simp [dv,upd,hJ,hP,hF4])⟩
    ·rintro J ⟨⟨a,j,g⟩,ha,hj⟩ hC hJ hP
     simp [pre,Region.binds] at hP
     simp only [dv,hJ,hP,if_true,cond_true,cond_false,Bool.false_eq_true,if_false]
     have W:=trivial
     repeat' first|refine st ?_|(refine nx ?_;refine so ?_)|fail
     exact ⟨⟨⟨a,j,g⟩,ha,hj⟩,aI (by simp [upd,hJ,hP]) (by simp [dv,upd,hJ,hP])⟩
    ·rintro J ⟨⟨a,j,g⟩,ha,hj⟩ hC hJ hP
     simp [pre,Region.binds] at hP
     simp only [dv,hJ,hP,if_true,cond_true,cond_false,Bool.false_eq_true,if_false]
     have W:=trivial
     repeat' first|refine st ?_|(refine nx ?_;refine so ?_)|fail
     exact ⟨⟨⟨a,j,g⟩,ha,hj⟩,aI (by simp [upd,hJ,hP]) (by simp [dv,upd,hJ,hP])⟩
   ·rintro J ⟨⟨a,j,g⟩,ha,hj⟩ hJ
    have hJs:J 0=true∧J 1=true∧J 2=true∧J 3=true∧J 4=true:=⟨hJ 0 (by decide),hJ 1 (by decide),hJ 2 (by decide),hJ 3 (by decide),hJ 4 (by decide)⟩
    simp only [dv,hJs,if_true,cond_true,cond_false,List.cons_append,List.nil_append,List.append_nil]
    clear hJs hJ J
    simp only at ha
    simp only [aL,aD]
    have W:=trivial
    repeat' first|refine st ?_|(refine nx ?_;refine so ?_)|(refine cx ?_;refine sc (fun hc=>?_) (fun hc=>?_)<;>try exact hc.elim)|(refine lx ?_;refine sp (fun hc=>?_) (fun hc=>?_)<;>try exact hc.elim)|refine sx ?_ ?_|refine sy ?_ ?_|fail
    refine ⟨.inr rfl,pJ (by simp [Tryz.results5];rfl) (by simp) (by simp) ?_⟩
    simp only [single,res]
    exact ⟨p,a,by simp [aL],hp,ha⟩
 ·have hEi:¬(p.entries.length:Int) > 0:=by omega
  have W:=And.intro hEi hE
  repeat' first|refine st ?_|(refine nx ?_;refine so ?_)|(refine cx ?_;refine sc (fun hc=>?_) (fun hc=>?_)<;>try exact hc.elim)|(refine lx ?_;refine sp (fun hc=>?_) (fun hc=>?_)<;>try exact hc.elim)|refine sx ?_ ?_|refine sy ?_ ?_|fail
  refine aBv (ι:={y:aC×Int×Int // aK y.1≤20000∧0≤y.2.1}) (fun J y=>⟨[.undef,.undef,.ptr 0 0 0 0,.ptr 1 0 0 0,.ptr 2 0 0 0,.ptr 3 0 0 0,.undef,.undef,.undef,.undef,.undef,.undef,.undef,.undef,.undef,.undef,.undef,.undef,.undef,.undef,.undef,.undef,.undef,.undef,.undef,.undef,.undef,.undef,dv J 0 (.agg (aL .view p)),dv J 1 (.ptr 2 0 0 0),dv J 2 (.agg (aD y.1.1))],[⟨true,true,22,0,[cond (J 3) (aL .view p) [.str [],.str [],.bool false,.sl .own 1 [],.sl .own 1 [],.sl .own 1 [],.str [],.str [],.sl .own 4 [],.bool false,.sl .own 4 [],.sl .own 1 [],.sl .own 8 [],.sl .own 5 [],.sl .own 2 [],.int .i64 0,.int .i64 0,.int .i64 0,.int .i64 0,.sl .own 2 [],.sl .own 1 [],.bool false]]⟩,⟨true,true,2,0,[cond (J 4) (aD y.1.1) [.str [],.str []]]⟩,⟨true,true,3,0,[[.sl .view 1 (aP code),.int .i64 (cond (J 2) y.1.2.1 i2),.int .i64 (cond (J 2) y.1.2.2 h2)]]⟩,⟨true,true,22,0,[aL .view p]⟩]⟩) (⟨(⟨[],[]⟩,i2,h2),by simp [aK],hi2⟩) (aI (by simp) (by simp [dv])) ?_ ?_
  ·simp only [invS,and_true]
   refine ⟨?_,?_,?_,?_,?_⟩
   ·rintro J ⟨⟨a,j,g⟩,ha,hj⟩ hC hJ hP
    simp [pre,Region.binds] at hP
    simp only [dv,hJ,hP,if_true,cond_true,cond_false,Bool.false_eq_true,if_false]
    have W:=trivial
    repeat' first|refine st ?_|(refine nx ?_;refine so ?_)|fail
    exact ⟨⟨⟨a,j,g⟩,ha,hj⟩,aI (by simp [upd,hJ,hP]) (by simp [dv,upd,hJ,hP])⟩
   ·rintro J ⟨⟨a,j,g⟩,ha,hj⟩ hC hJ hP
    simp [pre,Region.binds] at hP
    simp only [dv,hJ,hP,if_true,cond_true,cond_false,Bool.false_eq_true,if_false]
    have W:=trivial
    repeat' first|refine st ?_|(refine nx ?_;refine so ?_)|fail
    exact ⟨⟨⟨a,j,g⟩,ha,hj⟩,aI (by simp [upd,hJ,hP]) (by simp [dv,upd,hJ,hP])⟩
   ·rintro J ⟨⟨a,j,g⟩,ha,hj⟩ hC hJ hP
    simp [pre,Region.binds] at hP
    have hF4:J 4=false:=lD hC hJ 4 rfl (by simp [pre,Region.binds])
    simp only [dv,hJ,hP,if_true,cond_true,cond_false,hF4,Bool.false_eq_true,if_false]
    refine aIn 30 ?_
    refine cu aCt ?_
    rintro _ j2 g2 ⟨a2,rfl,ha2⟩ hj2
    simp only [AS.drew,AS.called,aH,AS.put,aG,aF,bE,aU,bD,aS,bH,aV,List.set_cons_succ,List.set_cons_zero,List.append_nil,List.nil_append,List.cons_append]
    refine rT ?_
    exact ⟨⟨(a2,j2,g2),by simp only;omega,hj2⟩,aI (by simp [upd,hJ,hP,hF4]) (by simp [dv,upd,hJ,hP,hF4])⟩
   ·rintro J ⟨⟨a,j,g⟩,ha,hj⟩ hC hJ hP
    simp [pre,Region.binds] at hP
    simp only [dv,hJ,hP,if_true,cond_true,cond_false,Bool.false_eq_true,if_false]
    have W:=trivial
    repeat' first|refine st ?_|(refine nx ?_;refine so ?_)|fail
    exact ⟨⟨⟨a,j,g⟩,ha,hj⟩,aI (by simp [upd,hJ,hP]) (by simp [dv,upd,hJ,hP])⟩
   ·rintro J ⟨⟨a,j,g⟩,ha,hj⟩ hC hJ hP
    simp [pre,Region.binds] at hP
    simp only [dv,hJ,hP,if_true,cond_true,cond_false,Bool.false_eq_true,if_false]
    have W:=trivial
    repeat' first|refine st ?_|(refine nx ?_;refine so ?_)|fail
    exact ⟨⟨⟨a,j,g⟩,ha,hj⟩,aI (by simp [upd,hJ,hP]) (by simp [dv,upd,hJ,hP])⟩
  ·rintro J ⟨⟨a,j,g⟩,ha,hj⟩ hJ
   have hJs:J 0=true∧J 1=true∧J 2=true∧J 3=true∧J 4=true:=⟨hJ 0 (by decide),hJ 1 (by decide),hJ 2 (by decide),hJ 3 (by decide),hJ 4 (by decide)⟩
   simp only [dv,hJs,if_true,cond_true,cond_false,List.cons_append,List.nil_append,List.append_nil]
   clear hJs hJ J
   simp only at ha
   simp only [aL,aD]
   have W:=trivial
   repeat' first|refine st ?_|(refine nx ?_;refine so ?_)|(refine cx ?_;refine sc (fun hc=>?_) (fun hc=>?_)<;>try exact hc.elim)|(refine lx ?_;refine sp (fun hc=>?_) (fun hc=>?_)<;>try exact hc.elim)|refine sx ?_ ?_|refine sy ?_ ?_|fail
   refine ⟨.inr rfl,pJ (by simp [Tryz.results5];rfl) (by simp) (by simp) ?_⟩
   simp only [single,res]
   exact ⟨p,a,by simp [aL],hp,ha⟩
end Go.Proofs.YtgkllebnnakojaaGreatDoor
