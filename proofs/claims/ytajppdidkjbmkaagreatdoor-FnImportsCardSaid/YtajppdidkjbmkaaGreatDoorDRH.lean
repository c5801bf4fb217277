/-
  Proved here: steps towards the statement of this claim, text DRH.
  No condition beyond what each statement spells out.
-/
import Derived.Test.YtajppdidkjbmkaaGreatDoorGR
import Derived.Test.YtajppdidkjbmkaaGreatDoorDR10
set_option linter.all false
set_option maxRecDepth 4000
set_option maxHeartbeats 8000000
namespace Go.Proofs.YtajppdidkjbmkaaGreatDoor
open Go.Aw
def aTw (r:AV):Prop:=∃(p:aY) (a:aH) (x:bA),r= .tup [.agg (aI .view p),.agg (aL a),.agg (aV x)]∧aFm 20000 p∧aO a≤20000∧bB x≤25000
theorem zA [aB Tryz.prog] [cZ Tryz.prog] [iD Tryz.prog] (code:List UInt8):OkE Tryz.prog 9 [.sl .view 1 (aK code)] aTw:=by
 refine aUj Tryz.mix [5,6,8,10] Tryz.func9 Tryz.ntmps9 ?_
 have W:=trivial
 repeat' first|refine st ?_|(refine nx ?_;refine so ?_)|(refine cx ?_;refine sc (fun hc=>?_) (fun hc=>?_)<;>try exact hc.elim)|(refine lx ?_;refine sp (fun hc=>?_) (fun hc=>?_)<;>try exact hc.elim)|refine sx ?_ ?_|refine sy ?_ ?_|fail
 refine cn (aFq) ?_
 intro i h hi
 simp only [AS.newCur,aG,AS.put,List.length_nil,List.length_cons,Nat.reduceAdd,Nat.zero_add,List.set_cons_succ,List.set_cons_zero,List.append_nil,List.nil_append,List.cons_append]
 have W:=trivial
 repeat' first|refine st ?_|(refine nx ?_;refine so ?_)|(refine cx ?_;refine sc (fun hc=>?_) (fun hc=>?_)<;>try exact hc.elim)|(refine lx ?_;refine sp (fun hc=>?_) (fun hc=>?_)<;>try exact hc.elim)|refine sx ?_ ?_|refine sy ?_ ?_|fail
 refine cu (aKp) ?_
 rintro _ i2 h2 ⟨p,l,rfl,hp,hz⟩ hi2
 simp only [AS.drew,AS.called,aG,AS.put,aF,aC,bF,aR,bE,aN,bG,aP,List.set_cons_succ,List.set_cons_zero,List.append_nil,List.nil_append,List.cons_append]
 simp only [aI]
 have W:=trivial
 repeat' first|refine st ?_|(refine nx ?_;refine so ?_)|(refine cx ?_;refine sc (fun hc=>?_) (fun hc=>?_)<;>try exact hc.elim)|(refine lx ?_;refine sp (fun hc=>?_) (fun hc=>?_)<;>try exact hc.elim)|refine sx ?_ ?_|refine sy ?_ ?_|fail
 refine cu (aNm) ?_
 rintro _ i3 h3 ⟨a,rfl,ha⟩ hi3
 simp only [AS.drew,AS.called,aG,AS.put,aF,aC,bF,aR,bE,aN,bG,aP,List.set_cons_succ,List.set_cons_zero,List.append_nil,List.nil_append,List.cons_append]
 simp only [aL]
 have hps:=hp.sz
 have hml:p.mods.length≤16777216:=by simp only [bJ,szL] at hps;omega
 have cm:=(rA p hml).vwas (r':= .sl .view 1 ((places iC 0 p.mods).map gY)) (by simp [rt])
 have hpm:=aAa iC p.mods 0
 generalize places iC 0 p.mods=pl at *
 simp only [aI] at cm
 have W:=trivial
 repeat' first|refine st ?_|(refine nx ?_;refine so ?_)|(refine cx ?_;refine sc (fun hc=>?_) (fun hc=>?_)<;>try exact hc.elim)|(refine lx ?_;refine sp (fun hc=>?_) (fun hc=>?_)<;>try exact hc.elim)|refine sx ?_ ?_|refine sy ?_ ?_|fail
 refine aOk (fun s'=>∃(a:aH) (j g:Int),aO a≤20000∧0≤j∧dR s' ⟨[.undef,.undef,.ptr 0 0 0 0,.ptr 1 0 0 0,.ptr 2 0 0 0,.ptr 3 0 0 0,.ptr 4 0 0 0,.sl .view 2 (l.map (aW .view)),.ptr 5 0 0 0,.undef,.undef,.undef,.undef,.undef,.undef,.undef,.undef,.undef,.undef,.undef,.undef,.undef,.undef,.undef,.undef,.undef,.undef,.undef,.undef,.undef,.undef,.undef,.undef,.undef,.undef,.undef,.undef,.undef,.undef,.undef,.undef,.undef,.undef,.undef,.undef,.undef,.undef,.undef],[⟨true,true,22,0,[[.str [],.str [],.bool false,.sl .own 1 [],.sl .own 1 [],.sl .own 1 [],.str [],.str [],.sl .own 4 [],.bool false,.sl .own 4 [],.sl .own 1 [],.sl .own 8 [],.sl .own 5 [],.sl .own 2 [],.int .i64 0,.int .i64 0,.int .i64 0,.int .i64 0,.sl .own 2 [],.sl .own 1 [],.bool false]]⟩,⟨true,true,2,0,[[.str [],.str []]]⟩,⟨true,true,6,0,[[.int .i64 0,.int .i64 0,.str [],.int .i64 0,.bool false,.str []]]⟩,⟨true,true,3,0,[[.sl .view 1 (aK code),.int .i64 j,.int .i64 g]]⟩,⟨true,true,22,0,[aI .view p]⟩,⟨true,true,2,0,[aL a]⟩]⟩) ?_ ?_
 rotate_left
 ·rw [nO]
  by_cases hpl:0 < pl.length
  ·have hpi:(pl.length:Int) > 0:=by omega
   have W:=And.intro hpi hpl
   repeat' first|(refine aL7 (by rfl) (by first|rfl|(simp [gD,W];done)|(simp [gD,W];rfl)) ?_;refine cu (eB 4) ?_)|refine st ?_|(refine nx ?_;refine so ?_)|(refine cx ?_;refine sc (fun hc=>?_) (fun hc=>?_)<;>try exact hc.elim)|(refine lx ?_;refine sp (fun hc=>?_) (fun hc=>?_)<;>try exact hc.elim)|refine sx ?_ ?_|refine sy ?_ ?_|fail
   rintro _ i4 h4 ⟨b,rfl⟩ hi4
   simp only [AS.drew,AS.called,aG,AS.put,aF,aC,bF,aR,bE,aN,bG,aP,List.set_cons_succ,List.set_cons_zero,List.append_nil,List.nil_append,List.cons_append]
   cases b
   ·have W:=trivial
    repeat' first|refine st ?_|(refine nx ?_;refine so ?_)|(refine cx ?_;refine sc (fun hc=>?_) (fun hc=>?_)<;>try exact hc.elim)|(refine lx ?_;refine sp (fun hc=>?_) (fun hc=>?_)<;>try exact hc.elim)|refine sx ?_ ?_|refine sy ?_ ?_|fail
    obtain ⟨z,pt,rfl⟩:∃z pt,pl=z::pt:=by
     cases pl with
     |nil=>cases hpl
     |cons z pt=>exact ⟨z,pt,rfl⟩
    have hz1:=hpm z (by simp)
    obtain ⟨q,rfl⟩:=Int.eq_ofNat_of_zero_le (show 0≤z by omega)
    have hql:(q:Int) < (p.mods.length:Int):=by omega
    have hq0:(0:Int)≤(q:Int):=by omega
    have hmq:p.mods[q]? =some (p.mods[q]'(by omega)):=List.getElem?_eq_getElem (by omega)
    generalize p.mods[q]'(by omega)=md at *
    have hmz:aO md.to≤20000:=by
     have h7:=jN dV (List.mem_of_getElem? hmq)
     simp only [bJ,szL,dV] at hps h7;omega
    refine aHf (ι:=Unit) (fun J y=>⟨[.undef,.undef,.ptr 0 0 0 0,.ptr 1 0 0 0,.ptr 2 0 0 0,.ptr 3 0 0 0,.ptr 4 0 0 0,.sl .view 2 (l.map (aW .view)),.ptr 5 0 0 0,.sl .view 1 (((q:Int)::pt).map gY),.undef,.undef,.undef,.undef,.undef,.undef,.undef,.undef,.undef,.undef,.undef,.undef,.undef,.undef,.undef,.undef,.undef,.undef,.undef,.undef,dv J 0 (.ptr 4 0 0 13),dv J 1 (.sl .view 5 (p.mods.map bL)),dv J 2 (.sl .view 1 (((q:Int)::pt).map gY)),dv J 3 (.vptr .view (gY (q:Int)) 0),dv J 4 (.int .i64 (q:Int)),dv J 5 (.vptr .view (bL md) 0),dv J 6 (.vptr .view (bL md) 0),dv J 7 (.agg (aL md.to)),.undef,.undef,.undef,.undef,.undef,.undef,.undef,.undef,.undef,.undef],[⟨true,true,22,0,[[.str [],.str [],.bool false,.sl .own 1 [],.sl .own 1 [],.sl .own 1 [],.str [],.str [],.sl .own 4 [],.bool false,.sl .own 4 [],.sl .own 1 [],.sl .own 8 [],.sl .own 5 [],.sl .own 2 [],.int .i64 0,.int .i64 0,.int .i64 0,.int .i64 0,.sl .own 2 [],.sl .own 1 [],.bool false]]⟩,⟨true,true,2,0,[[.str [],.str []]]⟩,⟨true,true,6,0,[[.int .i64 0,.int .i64 0,.str [],.int .i64 0,.bool false,.str []]]⟩,⟨true,true,3,0,[[.sl .view 1 (aK code),.int .i64 i4,.int .i64 h4]]⟩,⟨true,true,22,0,[aI .view p]⟩,⟨true,true,2,0,[cond (J 8) (aL md.to) (aL a)]⟩]⟩) (()) (aD (by simp) (by simp [dv])) ?_ ?_
    ·simp only [invS,and_true]
     refine ⟨?_,?_,?_,?_,?_,?_,?_,?_,?_⟩
     ·rintro J y hC hJ hP
      simp [pre,Region.binds] at hP
      simp only [dv,hJ,hP,if_true,cond_true,cond_false,Bool.false_eq_true,if_false]
      have W:=trivial
      repeat' first|refine st ?_|(refine nx ?_;refine so ?_)|fail
      exact ⟨y,aD (by simp [upd,hJ,hP]) (by simp [dv,upd,hJ,hP])⟩
     ·rintro J y hC hJ hP
      simp [pre,Region.binds] at hP
      simp only [dv,hJ,hP,if_true,cond_true,cond_false,Bool.false_eq_true,if_false]
      have W:=trivial
      repeat' first|refine st ?_|(refine nx ?_;refine so ?_)|fail
      exact ⟨y,aD (by simp [upd,hJ,hP]) (by simp [dv,upd,hJ,hP])⟩
     ·rintro J y hC hJ hP
      simp [pre,Region.binds] at hP
      simp only [dv,hJ,hP,if_true,cond_true,cond_false,Bool.false_eq_true,if_false]
      have W:=trivial
      repeat' first|refine st ?_|(refine nx ?_;refine so ?_)|fail
      exact ⟨y,aD (by simp [upd,hJ,hP]) (by simp [dv,upd,hJ,hP])⟩
     ·rintro J y hC hJ hP
      simp [pre,Region.binds] at hP
      simp only [dv,hJ,hP,if_true,cond_true,cond_false,Bool.false_eq_true,if_false]
      have W:=trivial
      repeat' first|refine st ?_|(refine nx ?_;refine so ?_)|fail
      exact ⟨y,aD (by simp [upd,hJ,hP]) (by simp [dv,upd,hJ,hP])⟩
     ·rintro J y hC hJ hP
      simp [pre,Region.binds] at hP
      simp only [dv,hJ,hP,if_true,cond_true,cond_false,Bool.false_eq_true,if_false]
      have W:=trivial
      repeat' first|refine st ?_|(refine nx ?_;refine so ?_)|fail
      exact ⟨y,aD (by simp [upd,hJ,hP]) (by simp [dv,upd,hJ,hP])⟩
     ·rintro J y hC hJ hP
      simp [pre,Region.binds] at hP
      simp only [dv,hJ,hP,if_true,cond_true,cond_false,Bool.false_eq_true,if_false]
      have W:=And.intro hq0 (And.intro hql hmq)
      repeat' first|refine st ?_|(refine nx ?_;refine so ?_)|fail
      exact ⟨y,aD (by simp [upd,hJ,hP]) (by simp [dv,upd,hJ,hP])⟩
     ·rintro J y hC hJ hP
      simp [pre,Region.binds] at hP
      simp only [dv,hJ,hP,if_true,cond_true,cond_false,Bool.false_eq_true,if_false]
      have W:=trivial
      repeat' first|refine st ?_|(refine nx ?_;refine so ?_)|fail
      exact ⟨y,aD (by simp [upd,hJ,hP]) (by simp [dv,upd,hJ,hP])⟩
     ·rintro J y hC hJ hP
      simp [pre,Region.binds] at hP
      simp only [dv,hJ,hP,if_true,cond_true,cond_false,Bool.false_eq_true,if_false]
      have W:=trivial
      repeat' first|refine st ?_|(refine nx ?_;refine so ?_)|fail
      exact ⟨y,aD (by simp [upd,hJ,hP]) (by simp [dv,upd,hJ,hP])⟩
     ·rintro J y hC hJ hP
      simp [pre,Region.binds] at hP
      simp only [dv,hJ,hP,if_true,cond_true,cond_false,Bool.false_eq_true,if_false]
      have W:=trivial
      repeat' first|refine st ?_|(refine nx ?_;refine so ?_)|fail
      exact ⟨y,aD (by simp [upd,hJ,hP]) (by simp [dv,upd,hJ,hP])⟩
    ·rintro J y hJ
     have hJs:J 0=true∧J 1=true∧J 2=true∧J 3=true∧J 4=true∧J 5=true∧J 6=true∧J 7=true∧J 8=true:=⟨hJ 0 (by decide),hJ 1 (by decide),hJ 2 (by decide),hJ 3 (by decide),hJ 4 (by decide),hJ 5 (by decide),hJ 6 (by decide),hJ 7 (by decide),hJ 8 (by decide)⟩
     simp only [dv,hJs,if_true,cond_true,cond_false,List.cons_append,List.nil_append,List.append_nil]
     clear hJs hJ J
     exact ⟨trivial,md.to,i4,h4,hmz,hi4,aD (by simp) (by simp)⟩
   ·have W:=trivial
    repeat' first|refine st ?_|(refine nx ?_;refine so ?_)|(refine cx ?_;refine sc (fun hc=>?_) (fun hc=>?_)<;>try exact hc.elim)|(refine lx ?_;refine sp (fun hc=>?_) (fun hc=>?_)<;>try exact hc.elim)|refine sx ?_ ?_|refine sy ?_ ?_|fail
    exact ⟨rfl,a,i4,h4,by omega,hi4,aD (by simp) (by simp)⟩
  ·have hpi:¬(pl.length:Int) > 0:=by omega
   have W:=And.intro hpi hpl
   repeat' first|refine st ?_|(refine nx ?_;refine so ?_)|(refine cx ?_;refine sc (fun hc=>?_) (fun hc=>?_)<;>try exact hc.elim)|(refine lx ?_;refine sp (fun hc=>?_) (fun hc=>?_)<;>try exact hc.elim)|refine sx ?_ ?_|refine sy ?_ ?_|fail
   exact ⟨rfl,a,i3,h3,by omega,hi3,aD (by simp) (by simp)⟩
 ·clear ha hpm cm
  rintro s' ⟨a,j,g,ha,hj,hwk⟩
  refine aHz hwk ?_
  clear hwk
  have has:=aDi l a
  have ca:=wZ l a (by omega)
  generalize lD l a=x at *
  simp only [aL,aV] at ca⊢
  have W:=trivial
  repeat' first|refine st ?_|(refine nx ?_;refine so ?_)|(refine cx ?_;refine sc (fun hc=>?_) (fun hc=>?_)<;>try exact hc.elim)|(refine lx ?_;refine sp (fun hc=>?_) (fun hc=>?_)<;>try exact hc.elim)|refine sx ?_ ?_|refine sy ?_ ?_|fail
  refine aOk (fun s'=>∃(x:bA) (j g:Int),bB x≤25000∧0≤j∧dR s' ⟨[.undef,.undef,.ptr 0 0 0 0,.ptr 1 0 0 0,.ptr 2 0 0 0,.ptr 3 0 0 0,.ptr 4 0 0 0,.sl .view 2 (l.map (aW .view)),.ptr 5 0 0 0,.undef,.ptr 6 0 0 0,.undef,.undef,.undef,.undef,.undef,.undef,.undef,.undef,.undef,.undef,.undef,.undef,.undef,.undef,.undef,.undef,.undef,.undef,.undef,.undef,.undef,.undef,.undef,.undef,.undef,.undef,.undef,.undef,.undef,.undef,.undef,.undef,.undef,.undef,.undef,.undef,.undef],[⟨true,true,22,0,[[.str [],.str [],.bool false,.sl .own 1 [],.sl .own 1 [],.sl .own 1 [],.str [],.str [],.sl .own 4 [],.bool false,.sl .own 4 [],.sl .own 1 [],.sl .own 8 [],.sl .own 5 [],.sl .own 2 [],.int .i64 0,.int .i64 0,.int .i64 0,.int .i64 0,.sl .own 2 [],.sl .own 1 [],.bool false]]⟩,⟨true,true,2,0,[[.str [],.str []]]⟩,⟨true,true,6,0,[[.int .i64 0,.int .i64 0,.str [],.int .i64 0,.bool false,.str []]]⟩,⟨true,true,3,0,[[.sl .view 1 (aK code),.int .i64 j,.int .i64 g]]⟩,⟨true,true,22,0,[aI .view p]⟩,⟨true,true,2,0,[aL a]⟩,⟨true,true,6,0,[aV x]⟩]⟩) ?_ ?_
  rotate_left
  ·rw [nO]
   have W:=trivial
   repeat' first|refine st ?_|(refine nx ?_;refine so ?_)|(refine cx ?_;refine sc (fun hc=>?_) (fun hc=>?_)<;>try exact hc.elim)|(refine lx ?_;refine sp (fun hc=>?_) (fun hc=>?_)<;>try exact hc.elim)|refine sx ?_ ?_|refine sy ?_ ?_|fail
   refine cu (eB 4) ?_
   rintro _ i5 h5 ⟨b,rfl⟩ hi5
   simp only [AS.drew,AS.called,aG,AS.put,aF,aC,bF,aR,bE,aN,bG,aP,List.set_cons_succ,List.set_cons_zero,List.append_nil,List.nil_append,List.cons_append]
   cases b
   ·have W:=trivial
    repeat' first|refine st ?_|(refine nx ?_;refine so ?_)|(refine cx ?_;refine sc (fun hc=>?_) (fun hc=>?_)<;>try exact hc.elim)|(refine lx ?_;refine sp (fun hc=>?_) (fun hc=>?_)<;>try exact hc.elim)|refine sx ?_ ?_|refine sy ?_ ?_|fail
    exact ⟨rfl,x,i5,h5,by omega,hi5,aD (by simp) (by simp)⟩
   ·have W:=trivial
    repeat' first|refine st ?_|(refine nx ?_;refine so ?_)|(refine cx ?_;refine sc (fun hc=>?_) (fun hc=>?_)<;>try exact hc.elim)|(refine lx ?_;refine sp (fun hc=>?_) (fun hc=>?_)<;>try exact hc.elim)|refine sx ?_ ?_|refine sy ?_ ?_|fail
    refine cu (aHe) ?_
    rintro _ i6 h6 ⟨y,rfl,hy⟩ hi6
    simp only [AS.drew,AS.called,aG,AS.put,aF,aC,bF,aR,bE,aN,bG,aP,List.set_cons_succ,List.set_cons_zero,List.append_nil,List.nil_append,List.cons_append]
    simp only [aV]
    have W:=trivial
    repeat' first|refine st ?_|(refine nx ?_;refine so ?_)|(refine cx ?_;refine sc (fun hc=>?_) (fun hc=>?_)<;>try exact hc.elim)|(refine lx ?_;refine sp (fun hc=>?_) (fun hc=>?_)<;>try exact hc.elim)|refine sx ?_ ?_|refine sy ?_ ?_|fail
    exact ⟨trivial,y,i6,h6,by omega,hi6,aD (by simp) (by simp)⟩
  ·clear has ca
   rintro s' ⟨x,j,g,hx,hj,hwk⟩
   refine aQb hwk ?_
   clear hwk
   have W:=trivial
   repeat' first|refine st ?_|(refine nx ?_;refine so ?_)|(refine cx ?_;refine sc (fun hc=>?_) (fun hc=>?_)<;>try exact hc.elim)|(refine lx ?_;refine sp (fun hc=>?_) (fun hc=>?_)<;>try exact hc.elim)|refine sx ?_ ?_|refine sy ?_ ?_|fail
   refine aHf (ι:=Unit) (fun J y=>⟨[.undef,.undef,.ptr 0 0 0 0,.ptr 1 0 0 0,.ptr 2 0 0 0,.ptr 3 0 0 0,.ptr 4 0 0 0,.undef,.ptr 5 0 0 0,.undef,.ptr 6 0 0 0,.undef,.undef,.undef,.undef,.undef,.undef,.undef,.undef,.undef,.undef,.undef,.undef,.undef,.undef,.undef,.undef,.undef,.undef,.undef,.undef,.undef,.undef,.undef,.undef,.undef,.undef,.undef,.undef,.undef,.undef,.undef,.undef,.undef,.undef,dv J 0 (.agg (aI .view p)),dv J 1 (.agg (aL a)),dv J 2 (.agg (aV x))],[⟨true,true,22,0,[cond (J 3) (aI .view p) [.str [],.str [],.bool false,.sl .own 1 [],.sl .own 1 [],.sl .own 1 [],.str [],.str [],.sl .own 4 [],.bool false,.sl .own 4 [],.sl .own 1 [],.sl .own 8 [],.sl .own 5 [],.sl .own 2 [],.int .i64 0,.int .i64 0,.int .i64 0,.int .i64 0,.sl .own 2 [],.sl .own 1 [],.bool false]]⟩,⟨true,true,2,0,[cond (J 4) (aL a) [.str [],.str []]]⟩,⟨true,true,6,0,[cond (J 5) (aV x) [.int .i64 0,.int .i64 0,.str [],.int .i64 0,.bool false,.str []]]⟩,⟨true,true,3,0,[[.sl .view 1 (aK code),.int .i64 j,.int .i64 g]]⟩,⟨true,true,22,0,[aI .view p]⟩,⟨true,true,2,0,[aL a]⟩,⟨true,true,6,0,[aV x]⟩]⟩) (()) (aD (by simp) (by simp [dv])) ?_ ?_
   ·simp only [invS,and_true]
    refine ⟨?_,?_,?_,?_,?_,?_⟩
    ·rintro J y hC hJ hP
     simp [pre,Region.binds] at hP
     simp only [dv,hJ,hP,if_true,cond_true,cond_false,Bool.false_eq_true,if_false]
     have W:=trivial
     repeat' first|refine st ?_|(refine nx ?_;refine so ?_)|fail
     exact ⟨y,aD (by simp [upd,hJ,hP]) (by simp [dv,upd,hJ,hP])⟩
    ·rintro J y hC hJ hP
     simp [pre,Region.binds] at hP
     simp only [dv,hJ,hP,if_true,cond_true,cond_false,Bool.false_eq_true,if_false]
     have W:=trivial
     repeat' first|refine st ?_|(refine nx ?_;refine so ?_)|fail
     exact ⟨y,aD (by simp [upd,hJ,hP]) (by simp [dv,upd,hJ,hP])⟩
    ·rintro J y hC hJ hP
     simp [pre,Region.binds] at hP
     simp only [dv,hJ,hP,if_true,cond_true,cond_false,Bool.false_eq_true,if_false]
     have W:=trivial
     repeat' first|refine st ?_|(refine nx ?_;refine so ?_)|fail
     exact ⟨y,aD (by simp [upd,hJ,hP]) (by simp [dv,upd,hJ,hP])⟩
    ·rintro J y hC hJ hP
     simp [pre,Region.binds] at hP
     simp only [dv,hJ,hP,if_true,cond_true,cond_false,Bool.false_eq_true,if_false]
     have W:=trivial
     repeat' first|refine st ?_|(refine nx ?_;refine so ?_)|fail
     exact ⟨y,aD (by simp [upd,hJ,hP]) (by simp [dv,upd,hJ,hP])⟩
    ·rintro J y hC hJ hP
     simp [pre,Region.binds] at hP
     simp only [dv,hJ,hP,if_true,cond_true,cond_false,Bool.false_eq_true,if_false]
     have W:=trivial
     repeat' first|refine st ?_|(refine nx ?_;refine so ?_)|fail
     exact ⟨y,aD (by simp [upd,hJ,hP]) (by simp [dv,upd,hJ,hP])⟩
    ·rintro J y hC hJ hP
     simp [pre,Region.binds] at hP
     simp only [dv,hJ,hP,if_true,cond_true,cond_false,Bool.false_eq_true,if_false]
     have W:=trivial
     repeat' first|refine st ?_|(refine nx ?_;refine so ?_)|fail
     exact ⟨y,aD (by simp [upd,hJ,hP]) (by simp [dv,upd,hJ,hP])⟩
   ·rintro J y hJ
    have hJs:J 0=true∧J 1=true∧J 2=true∧J 3=true∧J 4=true∧J 5=true:=⟨hJ 0 (by decide),hJ 1 (by decide),hJ 2 (by decide),hJ 3 (by decide),hJ 4 (by decide),hJ 5 (by decide)⟩
    simp only [dv,hJs,if_true,cond_true,cond_false,List.cons_append,List.nil_append,List.append_nil]
    clear hJs hJ J
    simp only [aI,aL,aV]
    have W:=trivial
    repeat' first|refine st ?_|(refine nx ?_;refine so ?_)|(refine cx ?_;refine sc (fun hc=>?_) (fun hc=>?_)<;>try exact hc.elim)|(refine lx ?_;refine sp (fun hc=>?_) (fun hc=>?_)<;>try exact hc.elim)|refine sx ?_ ?_|refine sy ?_ ?_|fail
    refine ⟨.inr rfl,qF (by simp [Tryz.results9];rfl) (by simp) (by simp) ?_⟩
    simp only [single,res]
    exact ⟨p,a,x,by simp [aI],hp,ha,hx⟩
end Go.Proofs.YtajppdidkjbmkaaGreatDoor
