/-
  Proved here: steps towards the statement of this claim, text SV4.
  No condition beyond what each statement spells out.
-/
import Derived.Test.YtgkllebnnakojaaGreatDoorSV3
import Derived.Test.YtgkllebnnakojaaGreatDoorDR9
import Derived.Test.YtgkllebnnakojaaGreatDoorF6
set_option linter.all false
set_option maxRecDepth 4000
set_option maxHeartbeats 8000000
namespace Go.Proofs.YtgkllebnnakojaaGreatDoor
open Go.Aw
def aY3 (n:Nat) (r:AV):Prop:=∃(l':List bX) (b:Bool),r= .tup [.sl .view 2 (l'.map (aQ .view)),.bool b]∧szL aW l'≤n
theorem jV [aB Tryz.prog] [cO Tryz.prog] (l:List bX) (a:aC) (x:aZ) (hs:szL aW l+aK a+bS x≤1048576):OkE Tryz.prog 61 [.sl .view 2 (l.map (aQ .view)),.agg (aD a),.agg (bU x)] (aY3 (szL aW l+(2 * aK a+bS x+5))):=
 (aFj l a x hs).vwas fun r ⟨l',b,e,h⟩=>⟨l',b,by subst e;simp [rt,rtc],h⟩
def aJz:List Str:=[[104,111,109,101],[99,100,110],[101,118,105,108]]
def aJ0:List Str:=[[97,112,112],[108,105,98],[117,116,105,108]]
theorem aQx:∀s∈aJz,s.length≤5:=by decide
theorem aQy:∀s∈aJ0,s.length≤5:=by decide
def aY8 (n:Nat) (r:AV):Prop:=∃l:List bX,r= .sl .view 2 (l.map (aQ .view))∧szL aW l≤n
theorem aFv [aB Tryz.prog] [cO Tryz.prog]:OkC Tryz.prog 35 [] (aY8 24000):=by
 refine mZ Tryz.mix Tryz.func35 Tryz.ntmps35 ?_
 intro code i h hi hl
 simp only [aH]
 have W:=trivial
 repeat' first|refine st ?_|(refine nx ?_;first|refine se ?_|refine so ?_)|(refine cx ?_;refine sc (fun hc=>?_) (fun hc=>?_)<;>try exact hc.elim)|(refine lx ?_;refine sp (fun hc=>?_) (fun hc=>?_)<;>try exact hc.elim)|refine sx ?_ ?_|refine sy ?_ ?_|fail
 obtain ⟨H,hH,hHn,hHl⟩:∃H:List Str,aJz.map bZ=H.map bZ∧H.length=3∧∀s∈H,s.length≤5:=⟨aJz,rfl,rfl,aQx⟩
 refine aT (ι:={y:Nat×List bX×Int×Int // y.1≤3∧szL aW y.2.1≤7000 * y.1∧0≤y.2.2.1}) (fun t o y=>⟨[.ptr 0 2 0 0,.undef,.undef,.sl .view 2 (y.1.2.1.map (aQ .view)),.undef,.undef,.undef,.undef,.undef,.undef,.obj 2 1,.int .i64 3,.int .i64 (y.1.1:Int),.undef,.undef,.undef,.undef,.undef,.undef,.undef,.undef,.undef,.undef,.undef,.undef,.undef,.undef,.undef,.undef,.undef,.undef,.undef,.undef,.undef,.undef,.undef,.undef,.undef,.undef,.undef,.undef,.undef,.undef,.undef,.undef,.undef,.undef,.undef,.undef,.undef,.undef,.undef,.undef,.undef,.undef,.undef,.undef,.undef,.undef,.undef,.undef,.undef,.undef,.undef,.undef,.undef,.undef,.undef,.undef,.undef,.undef,.undef,.undef,.undef,.undef,.undef,.undef,.undef,.undef,.undef,.undef,.undef,.undef,.undef,.undef],[⟨true,true,3,2,[[.sl .view 1 (aP code),.int .i64 y.1.2.2.1,.int .i64 y.1.2.2.2]]⟩,⟨false,false,2,1,[]⟩,⟨true,false,1,1,H.map bZ⟩]⟩)
  (fun y=>3 - y.1.1) ⟨(0,[],i,h),by simp,by simp [szL,bF],hi⟩ (aRb 1 1 3 (by rfl) rfl (by rw [←hH];simp [gU,aA.kill,frz,iJ];rfl) (by simp [iA,frz]) (by simp) (by simp)) ?_
 clear hH
 rintro ⟨⟨k,sv,i,h⟩,hk,hz,hi⟩ K1 hK1
 simp only at hk hz hi
 have hK2:=hK1
 clear hK1
 simp only
 by_cases hlt:k < 3
 ·have hki:(k:Int) < 3:=by omega
  have hkl:(k:Int) < (H.length:Int):=by omega
  obtain ⟨s,hg⟩:∃s,H[k]? =some s:=⟨_,List.getElem?_eq_getElem (by omega)⟩
  have hsl:s.length≤5:=hHl s (List.mem_of_getElem? hg)
  clear hlt
  have W:=And.intro hki (And.intro hkl hg)
  repeat' first|refine st ?_|(refine nx ?_;first|refine se ?_|refine so ?_)|(refine cx ?_;refine sc (fun hc=>?_) (fun hc=>?_)<;>try exact hc.elim)|(refine lx ?_;refine sp (fun hc=>?_) (fun hc=>?_)<;>try exact hc.elim)|refine sx ?_ ?_|refine sy ?_ ?_|fail
  obtain ⟨J,hJ,hJn,hJl⟩:∃J:List Str,aJ0.map bZ=J.map bZ∧J.length=3∧∀s∈J,s.length≤5:=⟨aJ0,rfl,rfl,aQy⟩
  refine aT (ι:={y:Nat×List bX×Int×Int // y.1≤3∧szL aW y.2.1≤7000 * k+1400 * y.1∧0≤y.2.2.1}) (fun t o y=>⟨[.ptr 0 2 0 0,.undef,.undef,.sl .view 2 (y.1.2.1.map (aQ .view)),.undef,.str s,.undef,.undef,.undef,.undef,.obj 2 1,.int .i64 3,.int .i64 (k:Int),.undef,.undef,.undef,.obj 3 1,.int .i64 3,.int .i64 (y.1.1:Int),.undef,.undef,.undef,.undef,.undef,.undef,.undef,.undef,.undef,.undef,.undef,.undef,.undef,.undef,.undef,.undef,.undef,.undef,.undef,.undef,.undef,.undef,.undef,.undef,.undef,.undef,.undef,.undef,.undef,.undef,.undef,.undef,.undef,.undef,.undef,.undef,.undef,.undef,.undef,.undef,.undef,.undef,.undef,.undef,.undef,.undef,.undef,.undef,.undef,.undef,.undef,.undef,.undef,.undef,.undef,.undef,.undef,.undef,.undef,.undef,.undef,.undef,.undef,.undef,.undef,.undef],[⟨true,true,3,2,[[.sl .view 1 (aP code),.int .i64 y.1.2.2.1,.int .i64 y.1.2.2.2]]⟩,⟨false,false,2,1,[]⟩,⟨true,false,1,1,H.map bZ⟩,⟨true,false,1,1,J.map bZ⟩]⟩)
   (fun y=>3 - y.1.1) ⟨(0,sv,i,h),by simp,by simp only;omega,hi⟩ (aI (by rw [←hJ];rfl) (by simp)) ?_
  clear hJ
  rintro ⟨⟨j,sv,i,h⟩,hj,hz,hi⟩ K3 hK3
  simp only at hj hz hi
  have hK4:=hK3
  clear hK3
  simp only
  have hj1:IntKind.i64.wrap ((j:Int)+1)=((j+1:Nat):Int):=by rw [wrap64]<;>omega
  by_cases hjt:j < 3
  ·have hji:(j:Int) < 3:=by omega
   have hjl:(j:Int) < (J.length:Int):=by omega
   obtain ⟨q,hgq⟩:∃q,J[j]? =some q:=⟨_,List.getElem?_eq_getElem (by omega)⟩
   have hql:q.length≤5:=hJl q (List.mem_of_getElem? hgq)
   clear hjt
   cases hq:(q == [97,112,112])
   ·have W:=And.intro hji (And.intro hjl (And.intro hgq hq))
    repeat' first|(refine aIy (by rfl) (by first|rfl|(simp [fH,W];done)|(simp [fH,W];rfl)) ?_;refine cu (eZ 2) ?_)|refine st ?_|(refine nx ?_;refine so ?_)|(refine cx ?_;refine sc (fun hc=>?_) (fun hc=>?_)<;>try exact hc.elim)|(refine lx ?_;refine sp (fun hc=>?_) (fun hc=>?_)<;>try exact hc.elim)|refine sx ?_ ?_|refine sy ?_ ?_|fail
    rintro _ i2 h2 ⟨b,rfl⟩ hi2
    simp only [AS.drew,AS.called,aH,AS.put,aG,aF,bE,aU,bD,aS,bH,aV,List.set_cons_succ,List.set_cons_zero,List.append_nil,List.nil_append,List.cons_append]
    cases b
    ·have W:=hq
     repeat' first|refine st ?_|(refine nx ?_;first|refine se ?_|refine so ?_)|(refine cx ?_;refine sc (fun hc=>?_) (fun hc=>?_)<;>try exact hc.elim)|(refine lx ?_;refine sp (fun hc=>?_) (fun hc=>?_)<;>try exact hc.elim)|refine sx ?_ ?_|refine sy ?_ ?_|fail
     refine cu (eZ 6) ?_
     rintro _ i3 h3 ⟨b2,rfl⟩ hi3
     simp only [AS.drew,AS.called,aH,AS.put,aG,aF,bE,aU,bD,aS,bH,aV,List.set_cons_succ,List.set_cons_zero,List.append_nil,List.nil_append,List.cons_append]
     cases b2
     ·have W:=trivial
      repeat' first|refine st ?_|(refine nx ?_;first|refine se ?_|refine so ?_)|(refine cx ?_;refine sc (fun hc=>?_) (fun hc=>?_)<;>try exact hc.elim)|(refine lx ?_;refine sp (fun hc=>?_) (fun hc=>?_)<;>try exact hc.elim)|refine sx ?_ ?_|refine sy ?_ ?_|fail
      refine cu (jY 2) ?_
      rintro _ i4 h4 ⟨x,rfl,hx⟩ hi4
      simp only [AS.drew,AS.called,aH,AS.put,aG,aF,bE,aU,bD,aS,bH,aV,List.set_cons_succ,List.set_cons_zero,List.append_nil,List.nil_append,List.cons_append]
      simp only [bU]
      have W:=trivial
      repeat' first|refine st ?_|(refine nx ?_;first|refine se ?_|refine so ?_)|(refine cx ?_;refine sc (fun hc=>?_) (fun hc=>?_)<;>try exact hc.elim)|(refine lx ?_;refine sp (fun hc=>?_) (fun hc=>?_)<;>try exact hc.elim)|refine sx ?_ ?_|refine sy ?_ ?_|fail
      refine ce (jV sv ⟨s,q⟩ x (by simp only [aK,List.length_cons,List.length_nil];omega)) ?_
      rintro _ ⟨sv2,b3,rfl,hz2⟩
      simp only [AS.called,AS.put,aG,aF,bE,aU,bD,aS,bH,aV,List.set_cons_succ,List.set_cons_zero,List.append_nil,List.nil_append,List.cons_append]
      simp only [aK,List.length_cons,List.length_nil] at hz2
      have W:=hj1
      repeat' first|refine st ?_|(refine nx ?_;first|refine se ?_|refine so ?_)|(refine cx ?_;refine sc (fun hc=>?_) (fun hc=>?_)<;>try exact hc.elim)|(refine lx ?_;refine sp (fun hc=>?_) (fun hc=>?_)<;>try exact hc.elim)|refine sx ?_ ?_|refine sy ?_ ?_|fail
      exact hK4 _ ⟨(j+1,sv2,i4,h4),by simp only;omega,by simp only;omega,hi4⟩ (aO 4 (by simp) (by simp) (by simp) (by simp)) (by simp only;omega)
     ·have W:=hj1
      repeat' first|refine st ?_|(refine nx ?_;first|refine se ?_|refine so ?_)|(refine cx ?_;refine sc (fun hc=>?_) (fun hc=>?_)<;>try exact hc.elim)|(refine lx ?_;refine sp (fun hc=>?_) (fun hc=>?_)<;>try exact hc.elim)|refine sx ?_ ?_|refine sy ?_ ?_|fail
      exact hK4 _ ⟨(j+1,sv,i3,h3),by simp only;omega,by simp only;omega,hi3⟩ (aO 4 (by simp) (by simp) (by simp) (by simp)) (by simp only;omega)
    ·have W:=hq
     repeat' first|refine st ?_|(refine nx ?_;first|refine se ?_|refine so ?_)|(refine cx ?_;refine sc (fun hc=>?_) (fun hc=>?_)<;>try exact hc.elim)|(refine lx ?_;refine sp (fun hc=>?_) (fun hc=>?_)<;>try exact hc.elim)|refine sx ?_ ?_|refine sy ?_ ?_|fail
     refine cu (eZ 6) ?_
     rintro _ i3 h3 ⟨b2,rfl⟩ hi3
     simp only [AS.drew,AS.called,aH,AS.put,aG,aF,bE,aU,bD,aS,bH,aV,List.set_cons_succ,List.set_cons_zero,List.append_nil,List.nil_append,List.cons_append]
     cases b2
     ·have W:=trivial
      repeat' first|refine st ?_|(refine nx ?_;first|refine se ?_|refine so ?_)|(refine cx ?_;refine sc (fun hc=>?_) (fun hc=>?_)<;>try exact hc.elim)|(refine lx ?_;refine sp (fun hc=>?_) (fun hc=>?_)<;>try exact hc.elim)|refine sx ?_ ?_|refine sy ?_ ?_|fail
      refine cu (jY 5) ?_
      rintro _ i4 h4 ⟨x,rfl,hx⟩ hi4
      simp only [AS.drew,AS.called,aH,AS.put,aG,aF,bE,aU,bD,aS,bH,aV,List.set_cons_succ,List.set_cons_zero,List.append_nil,List.nil_append,List.cons_append]
      simp only [bU]
      have W:=trivial
      repeat' first|refine st ?_|(refine nx ?_;first|refine se ?_|refine so ?_)|(refine cx ?_;refine sc (fun hc=>?_) (fun hc=>?_)<;>try exact hc.elim)|(refine lx ?_;refine sp (fun hc=>?_) (fun hc=>?_)<;>try exact hc.elim)|refine sx ?_ ?_|refine sy ?_ ?_|fail
      refine ce (jV sv ⟨s,q⟩ x (by simp only [aK,List.length_cons,List.length_nil];omega)) ?_
      rintro _ ⟨sv2,b3,rfl,hz2⟩
      simp only [AS.called,AS.put,aG,aF,bE,aU,bD,aS,bH,aV,List.set_cons_succ,List.set_cons_zero,List.append_nil,List.nil_append,List.cons_append]
      simp only [aK,List.length_cons,List.length_nil] at hz2
      have W:=hj1
      repeat' first|refine st ?_|(refine nx ?_;first|refine se ?_|refine so ?_)|(refine cx ?_;refine sc (fun hc=>?_) (fun hc=>?_)<;>try exact hc.elim)|(refine lx ?_;refine sp (fun hc=>?_) (fun hc=>?_)<;>try exact hc.elim)|refine sx ?_ ?_|refine sy ?_ ?_|fail
      exact hK4 _ ⟨(j+1,sv2,i4,h4),by simp only;omega,by simp only;omega,hi4⟩ (aO 4 (by simp) (by simp) (by simp) (by simp)) (by simp only;omega)
     ·have W:=hj1
      repeat' first|refine st ?_|(refine nx ?_;first|refine se ?_|refine so ?_)|(refine cx ?_;refine sc (fun hc=>?_) (fun hc=>?_)<;>try exact hc.elim)|(refine lx ?_;refine sp (fun hc=>?_) (fun hc=>?_)<;>try exact hc.elim)|refine sx ?_ ?_|refine sy ?_ ?_|fail
      exact hK4 _ ⟨(j+1,sv,i3,h3),by simp only;omega,by simp only;omega,hi3⟩ (aO 4 (by simp) (by simp) (by simp) (by simp)) (by simp only;omega)
   ·have W:=And.intro hji (And.intro hjl (And.intro hgq hq))
    repeat' first|refine st ?_|(refine nx ?_;first|refine se ?_|refine so ?_)|(refine cx ?_;refine sc (fun hc=>?_) (fun hc=>?_)<;>try exact hc.elim)|(refine lx ?_;refine sp (fun hc=>?_) (fun hc=>?_)<;>try exact hc.elim)|refine sx ?_ ?_|refine sy ?_ ?_|fail
    refine cu (eZ 6) ?_
    rintro _ i3 h3 ⟨b2,rfl⟩ hi3
    simp only [AS.drew,AS.called,aH,AS.put,aG,aF,bE,aU,bD,aS,bH,aV,List.set_cons_succ,List.set_cons_zero,List.append_nil,List.nil_append,List.cons_append]
    cases b2
    ·have W:=trivial
     repeat' first|refine st ?_|(refine nx ?_;first|refine se ?_|refine so ?_)|(refine cx ?_;refine sc (fun hc=>?_) (fun hc=>?_)<;>try exact hc.elim)|(refine lx ?_;refine sp (fun hc=>?_) (fun hc=>?_)<;>try exact hc.elim)|refine sx ?_ ?_|refine sy ?_ ?_|fail
     refine cu (jY 2) ?_
     rintro _ i4 h4 ⟨x,rfl,hx⟩ hi4
     simp only [AS.drew,AS.called,aH,AS.put,aG,aF,bE,aU,bD,aS,bH,aV,List.set_cons_succ,List.set_cons_zero,List.append_nil,List.nil_append,List.cons_append]
     simp only [bU]
     have W:=trivial
     repeat' first|refine st ?_|(refine nx ?_;first|refine se ?_|refine so ?_)|(refine cx ?_;refine sc (fun hc=>?_) (fun hc=>?_)<;>try exact hc.elim)|(refine lx ?_;refine sp (fun hc=>?_) (fun hc=>?_)<;>try exact hc.elim)|refine sx ?_ ?_|refine sy ?_ ?_|fail
     refine ce (jV sv ⟨s,q⟩ x (by simp only [aK,List.length_cons,List.length_nil];omega)) ?_
     rintro _ ⟨sv2,b3,rfl,hz2⟩
     simp only [AS.called,AS.put,aG,aF,bE,aU,bD,aS,bH,aV,List.set_cons_succ,List.set_cons_zero,List.append_nil,List.nil_append,List.cons_append]
     simp only [aK,List.length_cons,List.length_nil] at hz2
     have W:=hj1
     repeat' first|refine st ?_|(refine nx ?_;first|refine se ?_|refine so ?_)|(refine cx ?_;refine sc (fun hc=>?_) (fun hc=>?_)<;>try exact hc.elim)|(refine lx ?_;refine sp (fun hc=>?_) (fun hc=>?_)<;>try exact hc.elim)|refine sx ?_ ?_|refine sy ?_ ?_|fail
     exact hK4 _ ⟨(j+1,sv2,i4,h4),by simp only;omega,by simp only;omega,hi4⟩ (aO 4 (by simp) (by simp) (by simp) (by simp)) (by simp only;omega)
    ·have W:=hj1
     repeat' first|refine st ?_|(refine nx ?_;first|refine se ?_|refine so ?_)|(refine cx ?_;refine sc (fun hc=>?_) (fun hc=>?_)<;>try exact hc.elim)|(refine lx ?_;refine sp (fun hc=>?_) (fun hc=>?_)<;>try exact hc.elim)|refine sx ?_ ?_|refine sy ?_ ?_|fail
     exact hK4 _ ⟨(j+1,sv,i3,h3),by simp only;omega,by simp only;omega,hi3⟩ (aO 4 (by simp) (by simp) (by simp) (by simp)) (by simp only;omega)
  ·have hji:¬(j:Int) < 3:=by omega
   clear hK4
   have W:=hji
   repeat' first|refine st ?_|(refine nx ?_;first|refine se ?_|refine so ?_)|(refine cx ?_;refine sc (fun hc=>?_) (fun hc=>?_)<;>try exact hc.elim)|(refine lx ?_;refine sp (fun hc=>?_) (fun hc=>?_)<;>try exact hc.elim)|refine sx ?_ ?_|refine sy ?_ ?_|fail
   have hk1:IntKind.i64.wrap ((k:Int)+1)=((k+1:Nat):Int):=by rw [wrap64]<;>omega
   refine cu (eZ 4) ?_
   rintro _ i5 h5 ⟨b5,rfl⟩ hi5
   simp only [AS.drew,AS.called,aH,AS.put,aG,aF,bE,aU,bD,aS,bH,aV,List.set_cons_succ,List.set_cons_zero,List.append_nil,List.nil_append,List.cons_append]
   cases b5
   ·have W:=trivial
    repeat' first|refine st ?_|(refine nx ?_;first|refine se ?_|refine so ?_)|(refine cx ?_;refine sc (fun hc=>?_) (fun hc=>?_)<;>try exact hc.elim)|(refine lx ?_;refine sp (fun hc=>?_) (fun hc=>?_)<;>try exact hc.elim)|refine sx ?_ ?_|refine sy ?_ ?_|fail
    refine cu (jY 3) ?_
    rintro _ i8 h8 ⟨x,rfl,hx⟩ hi8
    simp only [AS.drew,AS.called,aH,AS.put,aG,aF,bE,aU,bD,aS,bH,aV,List.set_cons_succ,List.set_cons_zero,List.append_nil,List.nil_append,List.cons_append]
    simp only [bU]
    have W:=trivial
    repeat' first|refine st ?_|(refine nx ?_;first|refine se ?_|refine so ?_)|(refine cx ?_;refine sc (fun hc=>?_) (fun hc=>?_)<;>try exact hc.elim)|(refine lx ?_;refine sp (fun hc=>?_) (fun hc=>?_)<;>try exact hc.elim)|refine sx ?_ ?_|refine sy ?_ ?_|fail
    refine ce (jV sv ⟨s,[115,116,121,108,101]⟩ x (by simp only [aK,List.length_cons,List.length_nil];omega)) ?_
    rintro _ ⟨sv8,b3,rfl,hz8⟩
    simp only [AS.called,AS.put,aG,aF,bE,aU,bD,aS,bH,aV,List.set_cons_succ,List.set_cons_zero,List.append_nil,List.nil_append,List.cons_append]
    simp only [aK,List.length_cons,List.length_nil] at hz8
    have W:=trivial
    repeat' first|refine st ?_|(refine nx ?_;first|refine se ?_|refine so ?_)|(refine cx ?_;refine sc (fun hc=>?_) (fun hc=>?_)<;>try exact hc.elim)|(refine lx ?_;refine sp (fun hc=>?_) (fun hc=>?_)<;>try exact hc.elim)|refine sx ?_ ?_|refine sy ?_ ?_|fail
    refine cu (eZ 4) ?_
    rintro _ i6 h6 ⟨b6,rfl⟩ hi6
    simp only [AS.drew,AS.called,aH,AS.put,aG,aF,bE,aU,bD,aS,bH,aV,List.set_cons_succ,List.set_cons_zero,List.append_nil,List.nil_append,List.cons_append]
    cases b6
    ·have W:=trivial
     repeat' first|refine st ?_|(refine nx ?_;first|refine se ?_|refine so ?_)|(refine cx ?_;refine sc (fun hc=>?_) (fun hc=>?_)<;>try exact hc.elim)|(refine lx ?_;refine sp (fun hc=>?_) (fun hc=>?_)<;>try exact hc.elim)|refine sx ?_ ?_|refine sy ?_ ?_|fail
     refine cu (jY 4) ?_
     rintro _ i7 h7 ⟨x,rfl,hx⟩ hi7
     simp only [AS.drew,AS.called,aH,AS.put,aG,aF,bE,aU,bD,aS,bH,aV,List.set_cons_succ,List.set_cons_zero,List.append_nil,List.nil_append,List.cons_append]
     simp only [bU]
     have W:=trivial
     repeat' first|refine st ?_|(refine nx ?_;first|refine se ?_|refine so ?_)|(refine cx ?_;refine sc (fun hc=>?_) (fun hc=>?_)<;>try exact hc.elim)|(refine lx ?_;refine sp (fun hc=>?_) (fun hc=>?_)<;>try exact hc.elim)|refine sx ?_ ?_|refine sy ?_ ?_|fail
     refine ce (jV sv8 ⟨s,[108,111,103,111]⟩ x (by simp only [aK,List.length_cons,List.length_nil];omega)) ?_
     rintro _ ⟨sv7,b3,rfl,hz7⟩
     simp only [AS.called,AS.put,aG,aF,bE,aU,bD,aS,bH,aV,List.set_cons_succ,List.set_cons_zero,List.append_nil,List.nil_append,List.cons_append]
     simp only [aK,List.length_cons,List.length_nil] at hz7
     have W:=hk1
     repeat' first|refine st ?_|(refine nx ?_;first|refine se ?_|refine so ?_)|(refine cx ?_;refine sc (fun hc=>?_) (fun hc=>?_)<;>try exact hc.elim)|(refine lx ?_;refine sp (fun hc=>?_) (fun hc=>?_)<;>try exact hc.elim)|refine sx ?_ ?_|refine sy ?_ ?_|fail
     exact hK2 _ ⟨(k+1,sv7,i7,h7),by simp only;omega,by simp only;omega,hi7⟩ (aO 3 (by simp) (by simp) (by simp) (by simp)) (by simp only;omega)
    ·skip
     have W:=hk1
     repeat' first|refine st ?_|(refine nx ?_;first|refine se ?_|refine so ?_)|(refine cx ?_;refine sc (fun hc=>?_) (fun hc=>?_)<;>try exact hc.elim)|(refine lx ?_;refine sp (fun hc=>?_) (fun hc=>?_)<;>try exact hc.elim)|refine sx ?_ ?_|refine sy ?_ ?_|fail
     exact hK2 _ ⟨(k+1,sv8,i6,h6),by simp only;omega,by simp only;omega,hi6⟩ (aO 3 (by simp) (by simp) (by simp) (by simp)) (by simp only;omega)
   ·have W:=trivial
    repeat' first|refine st ?_|(refine nx ?_;first|refine se ?_|refine so ?_)|(refine cx ?_;refine sc (fun hc=>?_) (fun hc=>?_)<;>try exact hc.elim)|(refine lx ?_;refine sp (fun hc=>?_) (fun hc=>?_)<;>try exact hc.elim)|refine sx ?_ ?_|refine sy ?_ ?_|fail
    refine cu (eZ 4) ?_
    rintro _ i6 h6 ⟨b6,rfl⟩ hi6
    simp only [AS.drew,AS.called,aH,AS.put,aG,aF,bE,aU,bD,aS,bH,aV,List.set_cons_succ,List.set_cons_zero,List.append_nil,List.nil_append,List.cons_append]
    cases b6
    ·have W:=trivial
     repeat' first|refine st ?_|(refine nx ?_;first|refine se ?_|refine so ?_)|(refine cx ?_;refine sc (fun hc=>?_) (fun hc=>?_)<;>try exact hc.elim)|(refine lx ?_;refine sp (fun hc=>?_) (fun hc=>?_)<;>try exact hc.elim)|refine sx ?_ ?_|refine sy ?_ ?_|fail
     refine cu (jY 4) ?_
     rintro _ i7 h7 ⟨x,rfl,hx⟩ hi7
     simp only [AS.drew,AS.called,aH,AS.put,aG,aF,bE,aU,bD,aS,bH,aV,List.set_cons_succ,List.set_cons_zero,List.append_nil,List.nil_append,List.cons_append]
     simp only [bU]
     have W:=trivial
     repeat' first|refine st ?_|(refine nx ?_;first|refine se ?_|refine so ?_)|(refine cx ?_;refine sc (fun hc=>?_) (fun hc=>?_)<;>try exact hc.elim)|(refine lx ?_;refine sp (fun hc=>?_) (fun hc=>?_)<;>try exact hc.elim)|refine sx ?_ ?_|refine sy ?_ ?_|fail
     refine ce (jV sv ⟨s,[108,111,103,111]⟩ x (by simp only [aK,List.length_cons,List.length_nil];omega)) ?_
     rintro _ ⟨sv7,b3,rfl,hz7⟩
     simp only [AS.called,AS.put,aG,aF,bE,aU,bD,aS,bH,aV,List.set_cons_succ,List.set_cons_zero,List.append_nil,List.nil_append,List.cons_append]
     simp only [aK,List.length_cons,List.length_nil] at hz7
     have W:=hk1
     repeat' first|refine st ?_|(refine nx ?_;first|refine se ?_|refine so ?_)|(refine cx ?_;refine sc (fun hc=>?_) (fun hc=>?_)<;>try exact hc.elim)|(refine lx ?_;refine sp (fun hc=>?_) (fun hc=>?_)<;>try exact hc.elim)|refine sx ?_ ?_|refine sy ?_ ?_|fail
     exact hK2 _ ⟨(k+1,sv7,i7,h7),by simp only;omega,by simp only;omega,hi7⟩ (aO 3 (by simp) (by simp) (by simp) (by simp)) (by simp only;omega)
    ·skip
     have W:=hk1
     repeat' first|refine st ?_|(refine nx ?_;first|refine se ?_|refine so ?_)|(refine cx ?_;refine sc (fun hc=>?_) (fun hc=>?_)<;>try exact hc.elim)|(refine lx ?_;refine sp (fun hc=>?_) (fun hc=>?_)<;>try exact hc.elim)|refine sx ?_ ?_|refine sy ?_ ?_|fail
     exact hK2 _ ⟨(k+1,sv,i6,h6),by simp only;omega,by simp only;omega,hi6⟩ (aO 3 (by simp) (by simp) (by simp) (by simp)) (by simp only;omega)
 ·have hki:¬(k:Int) < 3:=by omega
  clear hK2
  have W:=hki
  repeat' first|refine st ?_|(refine nx ?_;first|refine se ?_|refine so ?_)|(refine cx ?_;refine sc (fun hc=>?_) (fun hc=>?_)<;>try exact hc.elim)|(refine lx ?_;refine sp (fun hc=>?_) (fun hc=>?_)<;>try exact hc.elim)|refine sx ?_ ?_|refine sy ?_ ?_|fail
  refine cu (jY 1) ?_
  rintro _ i5 h5 ⟨x,rfl,hx⟩ hi5
  simp only [AS.drew,AS.called,aH,AS.put,aG,aF,bE,aU,bD,aS,bH,aV,List.set_cons_succ,List.set_cons_zero,List.append_nil,List.nil_append,List.cons_append]
  simp only [bU]
  have W:=trivial
  repeat' first|refine st ?_|(refine nx ?_;first|refine se ?_|refine so ?_)|(refine cx ?_;refine sc (fun hc=>?_) (fun hc=>?_)<;>try exact hc.elim)|(refine lx ?_;refine sp (fun hc=>?_) (fun hc=>?_)<;>try exact hc.elim)|refine sx ?_ ?_|refine sy ?_ ?_|fail
  refine ce (jV sv ⟨[104,111,109,101],[105,110,100,101,120]⟩ x (by simp only [aK,List.length_cons,List.length_nil];omega)) ?_
  rintro _ ⟨sv5,b3,rfl,hz5⟩
  simp only [AS.called,AS.put,aG,aF,bE,aU,bD,aS,bH,aV,List.set_cons_succ,List.set_cons_zero,List.append_nil,List.nil_append,List.cons_append]
  simp only [aK,List.length_cons,List.length_nil] at hz5
  have W:=trivial
  repeat' first|refine st ?_|(refine nx ?_;first|refine se ?_|refine so ?_)|(refine cx ?_;refine sc (fun hc=>?_) (fun hc=>?_)<;>try exact hc.elim)|(refine lx ?_;refine sp (fun hc=>?_) (fun hc=>?_)<;>try exact hc.elim)|refine sx ?_ ?_|refine sy ?_ ?_|fail
  refine cu (jY 1) ?_
  rintro _ i6 h6 ⟨x,rfl,hx⟩ hi6
  simp only [AS.drew,AS.called,aH,AS.put,aG,aF,bE,aU,bD,aS,bH,aV,List.set_cons_succ,List.set_cons_zero,List.append_nil,List.nil_append,List.cons_append]
  simp only [bU]
  have W:=trivial
  repeat' first|refine st ?_|(refine nx ?_;first|refine se ?_|refine so ?_)|(refine cx ?_;refine sc (fun hc=>?_) (fun hc=>?_)<;>try exact hc.elim)|(refine lx ?_;refine sp (fun hc=>?_) (fun hc=>?_)<;>try exact hc.elim)|refine sx ?_ ?_|refine sy ?_ ?_|fail
  refine ce (jV sv5 ⟨[104,111,109,101],[110,101,120,116]⟩ x (by simp only [aK,List.length_cons,List.length_nil];omega)) ?_
  rintro _ ⟨sv6,b3,rfl,hz6⟩
  simp only [AS.called,AS.put,aG,aF,bE,aU,bD,aS,bH,aV,List.set_cons_succ,List.set_cons_zero,List.append_nil,List.nil_append,List.cons_append]
  simp only [aK,List.length_cons,List.length_nil] at hz6
  have W:=trivial
  repeat' first|refine st ?_|(refine nx ?_;first|refine se ?_|refine so ?_)|(refine cx ?_;refine sc (fun hc=>?_) (fun hc=>?_)<;>try exact hc.elim)|(refine lx ?_;refine sp (fun hc=>?_) (fun hc=>?_)<;>try exact hc.elim)|refine sx ?_ ?_|refine sy ?_ ?_|fail
  refine ⟨.inr rfl,gD (by simp [Tryz.results35];rfl) (by rfl) (by rfl) (by omega) (by simp) (by simp) ?_⟩
  simp only [single,res]
  exact ⟨sv6,rfl,by omega⟩
end Go.Proofs.YtgkllebnnakojaaGreatDoor
