/-
  Proved here: steps towards the statement of this claim, text QSV4.
  No condition beyond what each statement spells out.
-/
import Derived.Test.YtaddkhdghlaalaaGreatDoorSV3
import Derived.Test.YtaddkhdghlaalaaGreatDoorQDR7
import Derived.Test.YtaddkhdghlaalaaGreatDoorF6
import Derived.Test.YtaddkhdghlaalaaGreatDoorQY4
import Derived.Test.YtaddkhdghlaalaaGreatDoorQRLsd
import Derived.Test.YtaddkhdghlaalaaGreatDoorQJ5
set_option linter.all false
set_option maxRecDepth 8000
set_option maxHeartbeats 8000000
namespace Go.Proofs.YtaddkhdghlaalaaGreatDoor
open Go.Aw
def bJp (n:Nat) (r:AV):Prop:=∃(l':List dS) (b:Bool),r= .tup [.sl .view 2 (l'.map (bJ .view)),.bool b]∧szL bQ l'≤n
theorem pJ [aB Tryz.prog] [dB Tryz.prog] (l:List dS) (a:aD) (x:aV) (hs:szL bQ l+aI a+dC x≤1048576):OkE Tryz.prog 103 [.sl .view 2 (l.map (bJ .view)),.agg (aF a),.agg (cZ x)] (bJp (szL bQ l+(2 * aI a+dC x+5))):=
 (aM1 l a x hs).vwas fun r ⟨l',b,e,h⟩=>⟨l',b,by subst e;simp [rt,rtc],h⟩
def aR0:List Str:=[[104,111,109,101],[99,100,110],[101,118,105,108]]
def aT1:List Str:=[[97,112,112],[108,105,98],[117,116,105,108]]
theorem bA6:∀s∈aR0,s.length≤5:=by decide
theorem bBn:∀s∈aT1,s.length≤5:=by decide
def bJu (n:Nat) (r:AV):Prop:=∃l:List dS,r= .sl .view 2 (l.map (bJ .view))∧szL bQ l≤n
theorem aNp [aB Tryz.prog] [dB Tryz.prog]:OkC Tryz.prog 73 [] (bJu 24000):=by
 refine uF Tryz.mix Tryz.func73 Tryz.ntmps73 ?_
 intro code i h hi hl
 simp only [aQ]
 refine aW ?_
 obtain ⟨H,hH,hHn,hHl⟩:∃H:List Str,aR0.map bX=H.map bX∧H.length=3∧∀s∈H,s.length≤5:=⟨aR0,rfl,rfl,bA6⟩
 refine aR (ι:={y:Nat×List dS×Int×Int // y.1≤3∧szL bQ y.2.1≤7000 * y.1∧0≤y.2.2.1}) (fun t o y=>⟨[.ptr 0 2 0 0,.undef,.undef,.sl .view 2 (y.1.2.1.map (bJ .view)),.undef,.undef,.undef,.undef,.undef,.undef,.obj 2 1,.int .i64 3,.int .i64 (y.1.1:Int),.undef,.undef,.undef,.undef,.undef,.undef,.undef,.undef,.undef,.undef,.undef,.undef,.undef,.undef,.undef,.undef,.undef,.undef,.undef,.undef,.undef,.undef,.undef,.undef,.undef,.undef,.undef,.undef,.undef,.undef,.undef,.undef,.undef,.undef,.undef,.undef,.undef,.undef,.undef,.undef,.undef,.undef,.undef,.undef,.undef,.undef,.undef,.undef,.undef,.undef,.undef,.undef,.undef,.undef,.undef,.undef,.undef,.undef,.undef,.undef,.undef,.undef,.undef,.undef,.undef,.undef,.undef,.undef,.undef,.undef,.undef,.undef],[⟨true,true,3,2,[[.sl .view 1 (aT code),.int .i64 y.1.2.2.1,.int .i64 y.1.2.2.2]]⟩,⟨false,false,2,1,[]⟩,⟨true,false,1,1,H.map bX⟩]⟩)
  (fun y=>3 - y.1.1) ⟨(0,[],i,h),by simp,by simp [szL,aK],hi⟩ (bA7 1 1 3 (by rfl) rfl (by rw [←hH];simp [jU,aA.kill,frz,kW];rfl) (by simp [kG,frz]) (by simp) (by simp)) ?_
 clear hH
 rintro ⟨⟨k,sv,i,h⟩,hk,hz,hi⟩ K1 hK1
 simp only at hk hz hi
 have hK2:=hK1
 clear hK1
 simp only
 by_cases hlt:k < 3
 ·have hki:(k:Int) < 3:=by omega
  have hkl:(k:Int) < (H.length:Int):=by omega
  obtain ⟨s,hg⟩:∃s,H[k]? =some s:=⟨_,List.getElem?_eq_getElem (by omega)⟩
  have hsl:s.length≤5:=hHl s (List.mem_of_getElem? hg)
  clear hlt
  have W:=And.intro hki (And.intro hkl hg)
  refine we ?_
  obtain ⟨J,hJ,hJn,hJl⟩:∃J:List Str,aT1.map bX=J.map bX∧J.length=3∧∀s∈J,s.length≤5:=⟨aT1,rfl,rfl,bBn⟩
  refine aR (ι:={y:Nat×List dS×Int×Int // y.1≤3∧szL bQ y.2.1≤7000 * k+1400 * y.1∧0≤y.2.2.1}) (fun t o y=>⟨[.ptr 0 2 0 0,.undef,.undef,.sl .view 2 (y.1.2.1.map (bJ .view)),.undef,.str s,.undef,.undef,.undef,.undef,.obj 2 1,.int .i64 3,.int .i64 (k:Int),.undef,.undef,.undef,.obj 3 1,.int .i64 3,.int .i64 (y.1.1:Int),.undef,.undef,.undef,.undef,.undef,.undef,.undef,.undef,.undef,.undef,.undef,.undef,.undef,.undef,.undef,.undef,.undef,.undef,.undef,.undef,.undef,.undef,.undef,.undef,.undef,.undef,.undef,.undef,.undef,.undef,.undef,.undef,.undef,.undef,.undef,.undef,.undef,.undef,.undef,.undef,.undef,.undef,.undef,.undef,.undef,.undef,.undef,.undef,.undef,.undef,.undef,.undef,.undef,.undef,.undef,.undef,.undef,.undef,.undef,.undef,.undef,.undef,.undef,.undef,.undef,.undef],[⟨true,true,3,2,[[.sl .view 1 (aT code),.int .i64 y.1.2.2.1,.int .i64 y.1.2.2.2]]⟩,⟨false,false,2,1,[]⟩,⟨true,false,1,1,H.map bX⟩,⟨true,false,1,1,J.map bX⟩]⟩)
   (fun y=>3 - y.1.1) ⟨(0,sv,i,h),by simp,by simp only;omega,hi⟩ (aO (by rw [←hJ];rfl) (by simp)) ?_
  clear hJ
  rintro ⟨⟨j,sv,i,h⟩,hj,hz,hi⟩ K3 hK3
  simp only at hj hz hi
  have hK4:=hK3
  clear hK3
  simp only
  have hj1:IntKind.i64.wrap ((j:Int)+1)=((j+1:Nat):Int):=by rw [wrap64]<;>omega
  by_cases hjt:j < 3
  ·have hji:(j:Int) < 3:=by omega
   have hjl:(j:Int) < (J.length:Int):=by omega
   obtain ⟨q,hgq⟩:∃q,J[j]? =some q:=⟨_,List.getElem?_eq_getElem (by omega)⟩
   have hql:q.length≤5:=hJl q (List.mem_of_getElem? hgq)
   clear hjt
   cases hq:(q == [97,112,112])
   ·have W:=And.intro hji (And.intro hjl (And.intro hgq hq))
    repeat' first|(refine bB4 (by rfl) (by first|rfl|(simp [kM,W];done)|(simp [kM,W];rfl)) ?_;refine cu (iF 2) ?_)|refine st ?_|(refine nx ?_;refine so ?_)|(refine cx ?_;refine sc (fun hc=>?_) (fun hc=>?_)<;>try exact hc.elim)|(refine lx ?_;refine sp (fun hc=>?_) (fun hc=>?_)<;>try exact hc.elim)|refine sx ?_ ?_|refine sy ?_ ?_|fail
    rintro _ i2 h2 ⟨b,rfl⟩ hi2
    simp only [AS.drew,AS.called,aQ,AS.put,aL,aH,bS,bC,bR,bB,bV,bD,List.set_cons_succ,List.set_cons_zero,List.append_nil,List.nil_append,List.cons_append]
    cases b
    ·have W:=hq
     refine we ?_
     refine cu (iF 6) ?_
     rintro _ i3 h3 ⟨b2,rfl⟩ hi3
     simp only [AS.drew,AS.called,aQ,AS.put,aL,aH,bS,bC,bR,bB,bV,bD,List.set_cons_succ,List.set_cons_zero,List.append_nil,List.nil_append,List.cons_append]
     cases b2
     ·refine aW ?_
      refine cu (oZ 2) ?_
      rintro _ i4 h4 ⟨x,rfl,hx⟩ hi4
      simp only [AS.drew,AS.called,aQ,AS.put,aL,aH,bS,bC,bR,bB,bV,bD,List.set_cons_succ,List.set_cons_zero,List.append_nil,List.nil_append,List.cons_append]
      simp only [cZ]
      refine aW ?_
      refine ce (pJ sv ⟨s,q⟩ x (by simp only [aI,List.length_cons,List.length_nil];omega)) ?_
      rintro _ ⟨sv2,b3,rfl,hz2⟩
      simp only [AS.called,AS.put,aL,aH,bS,bC,bR,bB,bV,bD,List.set_cons_succ,List.set_cons_zero,List.append_nil,List.nil_append,List.cons_append]
      simp only [aI,List.length_cons,List.length_nil] at hz2
      have W:=hj1
      refine we ?_
      exact hK4 _ ⟨(j+1,sv2,i4,h4),by simp only;omega,by simp only;omega,hi4⟩ (aN 4) (by simp only;omega)
     ·have W:=hj1
      refine we ?_
      exact hK4 _ ⟨(j+1,sv,i3,h3),by simp only;omega,by simp only;omega,hi3⟩ (aN 4) (by simp only;omega)
    ·have W:=hq
     refine we ?_
     refine cu (iF 6) ?_
     rintro _ i3 h3 ⟨b2,rfl⟩ hi3
     simp only [AS.drew,AS.called,aQ,AS.put,aL,aH,bS,bC,bR,bB,bV,bD,List.set_cons_succ,List.set_cons_zero,List.append_nil,List.nil_append,List.cons_append]
     cases b2
     ·refine aW ?_
      refine cu (oZ 5) ?_
      rintro _ i4 h4 ⟨x,rfl,hx⟩ hi4
      simp only [AS.drew,AS.called,aQ,AS.put,aL,aH,bS,bC,bR,bB,bV,bD,List.set_cons_succ,List.set_cons_zero,List.append_nil,List.nil_append,List.cons_append]
      simp only [cZ]
      refine aW ?_
      refine ce (pJ sv ⟨s,q⟩ x (by simp only [aI,List.length_cons,List.length_nil];omega)) ?_
      rintro _ ⟨sv2,b3,rfl,hz2⟩
      simp only [AS.called,AS.put,aL,aH,bS,bC,bR,bB,bV,bD,List.set_cons_succ,List.set_cons_zero,List.append_nil,List.nil_append,List.cons_append]
      simp only [aI,List.length_cons,List.length_nil] at hz2
      have W:=hj1
      refine we ?_
      exact hK4 _ ⟨(j+1,sv2,i4,h4),by simp only;omega,by simp only;omega,hi4⟩ (aN 4) (by simp only;omega)
     ·have W:=hj1
      refine we ?_
      exact hK4 _ ⟨(j+1,sv,i3,h3),by simp only;omega,by simp only;omega,hi3⟩ (aN 4) (by simp only;omega)
   ·have W:=And.intro hji (And.intro hjl (And.intro hgq hq))
    refine we ?_
    refine cu (iF 6) ?_
    rintro _ i3 h3 ⟨b2,rfl⟩ hi3
    simp only [AS.drew,AS.called,aQ,AS.put,aL,aH,bS,bC,bR,bB,bV,bD,List.set_cons_succ,List.set_cons_zero,List.append_nil,List.nil_append,List.cons_append]
    cases b2
    ·refine aW ?_
     refine cu (oZ 2) ?_
     rintro _ i4 h4 ⟨x,rfl,hx⟩ hi4
     simp only [AS.drew,AS.called,aQ,AS.put,aL,aH,bS,bC,bR,bB,bV,bD,List.set_cons_succ,List.set_cons_zero,List.append_nil,List.nil_append,List.cons_append]
     simp only [cZ]
     refine aW ?_
     refine ce (pJ sv ⟨s,q⟩ x (by simp only [aI,List.length_cons,List.length_nil];omega)) ?_
     rintro _ ⟨sv2,b3,rfl,hz2⟩
     simp only [AS.called,AS.put,aL,aH,bS,bC,bR,bB,bV,bD,List.set_cons_succ,List.set_cons_zero,List.append_nil,List.nil_append,List.cons_append]
     simp only [aI,List.length_cons,List.length_nil] at hz2
     have W:=hj1
     refine we ?_
     exact hK4 _ ⟨(j+1,sv2,i4,h4),by simp only;omega,by simp only;omega,hi4⟩ (aN 4) (by simp only;omega)
    ·have W:=hj1
     refine we ?_
     exact hK4 _ ⟨(j+1,sv,i3,h3),by simp only;omega,by simp only;omega,hi3⟩ (aN 4) (by simp only;omega)
  ·have hji:¬(j:Int) < 3:=by omega
   clear hK4
   have W:=hji
   refine we ?_
   have hk1:=wk1 (k:=k) (by omega)
   refine cu (iF 4) ?_
   rintro _ i5 h5 ⟨b5,rfl⟩ hi5
   simp only [AS.drew,AS.called,aQ,AS.put,aL,aH,bS,bC,bR,bB,bV,bD,List.set_cons_succ,List.set_cons_zero,List.append_nil,List.nil_append,List.cons_append]
   cases b5
   ·refine aW ?_
    refine cu (oZ 3) ?_
    rintro _ i8 h8 ⟨x,rfl,hx⟩ hi8
    simp only [AS.drew,AS.called,aQ,AS.put,aL,aH,bS,bC,bR,bB,bV,bD,List.set_cons_succ,List.set_cons_zero,List.append_nil,List.nil_append,List.cons_append]
    simp only [cZ]
    refine aW ?_
    refine ce (pJ sv ⟨s,[115,116,121,108,101]⟩ x (by simp only [aI,List.length_cons,List.length_nil];omega)) ?_
    rintro _ ⟨sv8,b3,rfl,hz8⟩
    simp only [AS.called,AS.put,aL,aH,bS,bC,bR,bB,bV,bD,List.set_cons_succ,List.set_cons_zero,List.append_nil,List.nil_append,List.cons_append]
    simp only [aI,List.length_cons,List.length_nil] at hz8
    refine aW ?_
    refine cu (iF 4) ?_
    rintro _ i6 h6 ⟨b6,rfl⟩ hi6
    simp only [AS.drew,AS.called,aQ,AS.put,aL,aH,bS,bC,bR,bB,bV,bD,List.set_cons_succ,List.set_cons_zero,List.append_nil,List.nil_append,List.cons_append]
    cases b6
    ·refine aW ?_
     refine cu (oZ 4) ?_
     rintro _ i7 h7 ⟨x,rfl,hx⟩ hi7
     simp only [AS.drew,AS.called,aQ,AS.put,aL,aH,bS,bC,bR,bB,bV,bD,List.set_cons_succ,List.set_cons_zero,List.append_nil,List.nil_append,List.cons_append]
     simp only [cZ]
     refine aW ?_
     refine ce (pJ sv8 ⟨s,[108,111,103,111]⟩ x (by simp only [aI,List.length_cons,List.length_nil];omega)) ?_
     rintro _ ⟨sv7,b3,rfl,hz7⟩
     simp only [AS.called,AS.put,aL,aH,bS,bC,bR,bB,bV,bD,List.set_cons_succ,List.set_cons_zero,List.append_nil,List.nil_append,List.cons_append]
     simp only [aI,List.length_cons,List.length_nil] at hz7
     have W:=hk1
     refine we ?_
     exact hK2 _ ⟨(k+1,sv7,i7,h7),by simp only;omega,by simp only;omega,hi7⟩ (aN 3) (by simp only;omega)
    ·skip
     have W:=hk1
     refine we ?_
     exact hK2 _ ⟨(k+1,sv8,i6,h6),by simp only;omega,by simp only;omega,hi6⟩ (aN 3) (by simp only;omega)
   ·refine aW ?_
    refine cu (iF 4) ?_
    rintro _ i6 h6 ⟨b6,rfl⟩ hi6
    simp only [AS.drew,AS.called,aQ,AS.put,aL,aH,bS,bC,bR,bB,bV,bD,List.set_cons_succ,List.set_cons_zero,List.append_nil,List.nil_append,List.cons_append]
    cases b6
    ·refine aW ?_
     refine cu (oZ 4) ?_
     rintro _ i7 h7 ⟨x,rfl,hx⟩ hi7
     simp only [AS.drew,AS.called,aQ,AS.put,aL,aH,bS,bC,bR,bB,bV,bD,List.set_cons_succ,List.set_cons_zero,List.append_nil,List.nil_append,List.cons_append]
     simp only [cZ]
     refine aW ?_
     refine ce (pJ sv ⟨s,[108,111,103,111]⟩ x (by simp only [aI,List.length_cons,List.length_nil];omega)) ?_
     rintro _ ⟨sv7,b3,rfl,hz7⟩
     simp only [AS.called,AS.put,aL,aH,bS,bC,bR,bB,bV,bD,List.set_cons_succ,List.set_cons_zero,List.append_nil,List.nil_append,List.cons_append]
     simp only [aI,List.length_cons,List.length_nil] at hz7
     have W:=hk1
     refine we ?_
     exact hK2 _ ⟨(k+1,sv7,i7,h7),by simp only;omega,by simp only;omega,hi7⟩ (aN 3) (by simp only;omega)
    ·skip
     have W:=hk1
     refine we ?_
     exact hK2 _ ⟨(k+1,sv,i6,h6),by simp only;omega,by simp only;omega,hi6⟩ (aN 3) (by simp only;omega)
 ·have hki:¬(k:Int) < 3:=by omega
  clear hK2
  have W:=hki
  refine we ?_
  refine cu (oZ 1) ?_
  rintro _ i5 h5 ⟨x,rfl,hx⟩ hi5
  simp only [AS.drew,AS.called,aQ,AS.put,aL,aH,bS,bC,bR,bB,bV,bD,List.set_cons_succ,List.set_cons_zero,List.append_nil,List.nil_append,List.cons_append]
  simp only [cZ]
  refine aW ?_
  refine ce (pJ sv ⟨[104,111,109,101],[105,110,100,101,120]⟩ x (by simp only [aI,List.length_cons,List.length_nil];omega)) ?_
  rintro _ ⟨sv5,b3,rfl,hz5⟩
  simp only [AS.called,AS.put,aL,aH,bS,bC,bR,bB,bV,bD,List.set_cons_succ,List.set_cons_zero,List.append_nil,List.nil_append,List.cons_append]
  simp only [aI,List.length_cons,List.length_nil] at hz5
  refine aW ?_
  refine cu (oZ 1) ?_
  rintro _ i6 h6 ⟨x,rfl,hx⟩ hi6
  simp only [AS.drew,AS.called,aQ,AS.put,aL,aH,bS,bC,bR,bB,bV,bD,List.set_cons_succ,List.set_cons_zero,List.append_nil,List.nil_append,List.cons_append]
  simp only [cZ]
  refine aW ?_
  refine ce (pJ sv5 ⟨[104,111,109,101],[110,101,120,116]⟩ x (by simp only [aI,List.length_cons,List.length_nil];omega)) ?_
  rintro _ ⟨sv6,b3,rfl,hz6⟩
  simp only [AS.called,AS.put,aL,aH,bS,bC,bR,bB,bV,bD,List.set_cons_succ,List.set_cons_zero,List.append_nil,List.nil_append,List.cons_append]
  simp only [aI,List.length_cons,List.length_nil] at hz6
  refine aW ?_
  refine ⟨.inr rfl,jH (by simp [Tryz.results73];rfl) (by rfl) (by rfl) (by omega) (by simp) (by simp) ?_⟩
  simp only [single,res]
  exact ⟨sv6,rfl,by omega⟩
def sI (p:aC) (s:Str):aC:=if p.ended=true then p else {p with queue:=p.queue++(feed (p.tok.rest++s)).1,tok:=⟨(feed (p.tok.rest++s)).2⟩}
theorem aId [aB Tryz.prog] [dB Tryz.prog] (a:aC) (s:Str) (hs:aJ a≤274877906) (hl:s.length≤274877906):Ok Tryz.prog 105 [.agg (aG .view a),.str s] (.agg (aG .own (sI a s))):=by
 have c1:=fH a (by omega)
 simp only [aJ,szL,nJ] at hs
 have c2:=aCj a.tok s (by omega)
 obtain ⟨h1,h2⟩:=aA5 (a.tok.rest++s).length (a.tok.rest++s) (Nat.le_refl _)
 simp only [fI] at c2
 simp only [aG] at c1
 unfold sI
 simp only [List.length_append] at h1 h2
 generalize feed (a.tok.rest++s)=g at *
 obtain ⟨l,x⟩:=g
 simp only at c2 h1 h2⊢
 have hb1:(a.queue.length+l.length) * 64≤140737488355328:=by omega
 by_cases he:a.ended=true
 ·rw [if_pos he]
  simp only [he] at c1
  refine ent Tryz.mix Tryz.func105 Tryz.ntmps105 ?_
  have W:=he
  refine we ?_
  all_goals (try (refine ⟨.inr rfl,?_⟩;simp [Hands,Tryz.results105]))
  all_goals exact he
 ·rw [if_neg he]
  replace he:a.ended=false:=by simpa using he
  simp only [he] at c1
  refine ent Tryz.mix Tryz.func105 Tryz.ntmps105 ?_
  have W:=And.intro he hb1
  refine we ?_
  all_goals (try (refine ⟨.inr rfl,?_⟩;simp [Hands,Tryz.results105]))
  all_goals (rw [←List.map_append];first|exact pX _|exact ⟨he,pX _⟩)
def yE (p:aC):aC:=if p.ended=true then p else {p with queue:=p.queue++iI p.tok,tok:=⟨[]⟩,ended:=true}
theorem aT8 (t:kV):(iI t).length≤1:=by unfold iI;split<;>simp
theorem aNm [aB Tryz.prog] (a:aC) (hs:aJ a≤1048576):Ok Tryz.prog 107 [.agg (aG .view a)] (.agg (aG .own (yE a))):=by
 have c1:=fH a (by omega)
 simp only [aJ,szL,nJ] at hs
 have c2:=aDv a.tok (by omega)
 simp only [fI] at c2
 have hE:=aT8 a.tok
 simp only [aG] at c1
 unfold yE
 generalize iI a.tok=g at *
 by_cases he:a.ended=true
 ·rw [if_pos he]
  simp only [he] at c1
  refine ent Tryz.mix Tryz.func107 Tryz.ntmps107 ?_
  have W:=he
  refine we ?_
  all_goals (try (refine ⟨.inr rfl,?_⟩;simp [Hands,Tryz.results107]))
  all_goals exact he
 ·rw [if_neg he]
  replace he:a.ended=false:=by simpa using he
  simp only [he] at c1
  refine ent Tryz.mix Tryz.func107 Tryz.ntmps107 ?_
  have W:=he
  refine we ?_
  all_goals (try (refine ⟨.inr rfl,?_⟩;simp [Hands,Tryz.results107]))
  all_goals (rw [←List.map_append];exact pX _)
theorem aEt {α:Type} (f:α→Nat):∀a b:List α,aK f (a++b)=aK f a+aK f b
 |[],b=>by simp [aK]
 |x::xs,b=>by simp only [List.cons_append,aK,aEt f xs b];omega
theorem bFk (t:kV):szL bN (iI t)≤1+nJ t:=by
 unfold iI
 split
 ·simp [szL,aK]
 ·simp [szL,aK,bN,nJ]
theorem bF7 (p:aC):aJ (yE p)≤aJ p+1:=by
 unfold yE
 split
 ·omega
 ·have h:=bFk p.tok
  simp only [aJ,szL,nJ,List.length_append,aEt,List.length_nil] at h⊢
  omega
theorem bAv (p:aC) (s:Str):aJ (sI p s)≤2 * aJ p+2 * s.length:=by
 unfold sI
 split
 ·omega
 ·obtain ⟨h1,h2⟩:=aA5 (p.tok.rest++s).length (p.tok.rest++s) (Nat.le_refl _)
  simp only [List.length_append] at h1 h2
  simp only [aJ,szL,nJ,List.length_append,aEt] at *
  omega
structure aF8 (n : Nat) (p : aC) : Prop where
  sz : aJ p ≤ n
  mods : p.mods = []
  slots : p.slots = []
  ents : p.entries = []
def aZf:List Str:=([[],[60,112,62,104,105,60,47,112,62],[60,108,105,110,107,32,104,114,101,102,61,115,116,121,108,101,62]]:List Str)
def aKd (u:Str):List Str:=([[60,115,99,114,105,112,116,32,115,114,99,61,97,112,112,62,60,47,115,99,114,105,112,116,62],[60,115,99,114,105,112,116,62]++u++[60,47,115,99,114,105,112,116,62],[60,115,99,114,105,112,116,32,115,114,99,61,99,100,110,47,108,105,98,62,60,47,115,99,114,105,112,116,62],[60,115,99,114,105,112,116,32,115,114,99,61,117,116,105,108,32,107,105,110,100,61,109,111,100,117,108,101,62,60,47,115,99,114,105,112,116,62],[60,115,99,114,105,112,116,32,115,114,99,61,108,105,98,32,107,105,110,100,61,100,101,102,101,114,62,60,47,115,99,114,105,112,116,62],[60,105,109,103,32,115,114,99,61,108,111,103,111,62],[60,108,105,110,107,32,104,114,101,102,61,99,100,110,47,115,116,121,108,101,62],[60,112,62,120,60,47,112,62],[60,98,62],[60,115,99,114,105,112,116,32,110,111,110,99,101,61,110,55,62,115,97,121,32,110,60,47,115,99,114,105,112,116,62],[60,115,99,114,105,112,116,32,115,114,99,61,101,118,105,108,47,97,112,112,62,60,47,115,99,114,105,112,116,62],[116,101,120,116]]:List Str)
def bA5:List Str:=([[],[],[60,112,62,101,110,100,60,47,112,62],[60,112]]:List Str)
theorem bAn {u:Str} (h:u.length≤48):∀s∈aKd u,s.length≤80:=by
 simp only [aKd,List.forall_mem_cons,List.length_append,List.length_cons,List.length_nil,List.not_mem_nil,false_implies,implies_true,and_true]
 omega
theorem aFf [aB Tryz.prog] [dB Tryz.prog]:OkC Tryz.prog 36 [] (aNu 600):=by
 refine uF Tryz.mix Tryz.func36 Tryz.ntmps36 ?_
 intro code i h hi hl
 simp only [aQ]
 refine bA ?_
 refine jR (i:=1) (ver:=1) (by rfl) (by rfl) ?_ (by simp [AS.frozen,kG,jU,frz,kW,aA.frz,aA.kill,rtr,rtc,rt];rfl)
 refine cu (fO aZf (by decide)) ?_
 rintro _ i1 h1 ⟨s0,hm0,rfl⟩ hi1
 simp only [AS.drew,AS.called,aQ,AS.put,aL,aH,bS,bC,bR,bB,bV,bD,List.set_cons_succ,List.set_cons_zero,List.append_nil,List.nil_append,List.cons_append]
 have hs0:=(by decide:∀s∈aZf,s.length≤17) s0 hm0
 refine bA ?_
 refine cu (kC 6) ?_
 rintro _ i2 h2 ⟨x,rfl,x0,x1,x2⟩ hi2
 simp only [AS.drew,AS.called,aQ,AS.put,aL,aH,bS,bC,bR,bB,bV,bD,List.set_cons_succ,List.set_cons_zero,List.append_nil,List.nil_append,List.cons_append]
 obtain ⟨n,rfl⟩:=Int.eq_ofNat_of_zero_le x0
 have hn:n≤5:=by omega
 refine bA ?_
 refine aR (ι:={x:Nat×Str×Int×Int // x.1≤5∧x.2.1.length+80 * x.1≤420∧0≤x.2.2.1}) (fun t o y=>⟨aS t [(3,.str y.1.2.1),(4,.int .i64 (y.1.1:Int))],[⟨true,true,3,2,[[.sl .view 1 (aT code),.int .i64 y.1.2.2.1,.int .i64 y.1.2.2.2]]⟩]⟩)
  (fun y=>y.1.1) ⟨(n,s0,i2,h2),hn,by simp only;omega,hi2⟩ (aN 1) ?_
 rintro ⟨⟨k,s,j,g⟩,hk,hs,hj⟩ K1 hK1
 simp only at hk hs hj
 have hK2:=hK1
 simp only [aS,List.set_cons_succ,List.set_cons_zero] at hK1⊢
 clear hK1
 by_cases h0:0 < k
 ·have hk0:(k:Int) > 0:=by omega
  have hk1:IntKind.i64.wrap ((k:Int) - 1)=((k - 1:Nat):Int):=by rw [wrap64]<;>omega
  have W:=hk0
  refine wl ?_
  refine cu (aDp 2 (by omega) (by omega)) ?_
  rintro _ j1 g1 ⟨u,rfl,hu⟩ hj1
  simp only [AS.drew,AS.called,aQ,AS.put,aL,aH,bS,bC,bR,bB,bV,bD,List.set_cons_succ,List.set_cons_zero,List.append_nil,List.nil_append,List.cons_append]
  have hb:=bAn (u:=u) (by omega)
  have hu1:u.length+8≤6200:=by omega
  have hu2:8+u.length≤6200:=by omega
  have hu3:8+u.length+9≤6200:=by omega
  have W:=And.intro hu1 (And.intro hu2 hu3)
  refine wl ?_
  refine jR (i:=1) (ver:=1) (by rfl) (by rfl) ?_ (by simp [AS.frozen,kG,jU,frz,kW,aA.frz,aA.kill,rtr,rtc,rt];rfl)
  refine cu (fO (aKd u) (by simp [aKd])) ?_
  rintro _ j2 g2 ⟨q,hm2,rfl⟩ hj2
  simp only [AS.drew,AS.called,aQ,AS.put,aL,aH,bS,bC,bR,bB,bV,bD,List.set_cons_succ,List.set_cons_zero,List.append_nil,List.nil_append,List.cons_append]
  have hq:=hb q hm2
  have hlq:s.length+q.length≤6200:=by omega
  have W:=And.intro hk1 hlq
  refine wl ?_
  refine hK2 _ ⟨(k - 1,s++q,j2,g2),by simp only;omega,by simp;omega,hj2⟩ ?_ (by simp only;omega)
  exact aN 1 (by simp) (by simp) (by simp) (by simp)
 ·have hk0:¬(k:Int) > 0:=by omega
  have W:=hk0
  refine wl ?_
  refine jR (i:=1) (ver:=1) (by rfl) (by rfl) ?_ (by simp [AS.frozen,kG,jU,frz,kW,aA.frz,aA.kill,rtr,rtc,rt];rfl)
  refine cu (fO bA5 (by decide)) ?_
  rintro _ j2 g2 ⟨q,hm2,rfl⟩ hj2
  simp only [AS.drew,AS.called,aQ,AS.put,aL,aH,bS,bC,bR,bB,bV,bD,List.set_cons_succ,List.set_cons_zero,List.append_nil,List.nil_append,List.cons_append]
  have hq:=(by decide:∀s∈bA5,s.length≤10) q hm2
  have hlq:s.length+q.length≤6200:=by omega
  have W:=hlq
  refine wl ?_
  refine ⟨.inr rfl,jH (by simp [Tryz.results36];rfl) (by rfl) (by rfl) (by omega) (by simp) (by simp) ?_⟩
  simp only [single,res]
  exact ⟨_,rfl,by simp;omega⟩
def bEd (n:Nat) (r:AV):Prop:=∃p:aC,r= .agg (aG .view p)∧aF8 n p
def bHe (n:Nat) (r:AV):Prop:=∃p:aC,r= .agg (aG .own p)∧aF8 n p
theorem aVm (a:aD) (x:aV):aJ (uW a x).1≤aI a+7 * dC x+100:=by
 unfold uW
 have hp:dX (iX x.policy).1≤7 * x.policy.length+3:=by
  unfold iX aA7
  split
  ·simp [sD,dX,szL,aK]
  ·split
   ·simp [sD,dX,szL,aK]
   ·rename_i h3
    split
    ·exact aLg mZ aOw h3
    ·simp [sD,dX,szL,aK]
 split
 ·simp only [aJ,aLo,nJ,szL,aU,uV,nU,dC,aK,List.length_cons,List.length_nil] at *
  omega
 ·simp only [aJ,aAd,sD,dX,aI,nJ,szL,aU,aK,List.length_nil]
  omega
theorem aVb (a:aD) (x:aV) (n:Nat) (h:aI a+7 * dC x+100≤n):aF8 n (uW a x).1:=by
 refine ⟨Nat.le_trans (aVm a x) h,?_,?_,?_⟩<;>(unfold uW;split<;>rfl)
theorem aR9 [aB Tryz.prog] [dB Tryz.prog]:OkC Tryz.prog 106 [] (bEd 1000):=by
 refine uF Tryz.mix Tryz.func106 Tryz.ntmps106 ?_
 intro code i h hi hl
 simp only [aQ]
 refine bA ?_
 refine cu (aDz) ?_
 rintro _ i5 h5 ⟨p,rfl,hp⟩ hi5
 simp only [AS.drew,AS.called,aQ,AS.put,aL,aH,bS,bC,bR,bB,bV,bD,List.set_cons_succ,List.set_cons_zero,List.append_nil,List.nil_append,List.cons_append]
 have hf:=tF p (by omega)
 have hfl:=aWr p
 generalize lY p=fp at *
 have c0:=aMz ⟨[104,111,109,101],[105,110,100,101,120]⟩ ⟨200,1,[],0,false,fp⟩ (by decide) (by simp only [dC,List.length_nil];omega)
 have hn:=aVb ⟨[104,111,109,101],[105,110,100,101,120]⟩ ⟨200,1,[],0,false,fp⟩ 1000 (by simp only [aI,dC,List.length_nil,List.length_cons];omega)
 generalize uW ⟨[104,111,109,101],[105,110,100,101,120]⟩ ⟨200,1,[],0,false,fp⟩=z at *
 simp only [bY] at hf⊢
 simp only [aF,cZ] at c0
 refine bA ?_
 refine ⟨.inr rfl,jH (by simp [Tryz.results106];rfl) (by rfl) (by rfl) (by omega) (by simp) (by simp) ?_⟩
 simp only [single,res]
 exact ⟨z.1,rfl,hn⟩
theorem aXk {p:aC} {n:Nat} (s:Str) (m:Nat) (h:aF8 n p) (hm:2 * n+2 * s.length≤m):aF8 m (sI p s):=by
 refine ⟨Nat.le_trans (bAv p s) (by have:=h.sz;omega),?_,?_,?_⟩<;>(unfold sI;split<;>first|exact h.mods|exact h.slots|exact h.ents)
theorem bFr {p:aC} {n:Nat} (m:Nat) (h:aF8 n p) (hm:n+1≤m):aF8 m (yE p):=by
 refine ⟨Nat.le_trans (bF7 p) (by have:=h.sz;omega),?_,?_,?_⟩<;>(unfold yE;split<;>first|exact h.mods|exact h.slots|exact h.ents)
theorem aU6 [aB Tryz.prog] [dB Tryz.prog]:OkC Tryz.prog 74 [] (bHe 4000):=by
 refine uF Tryz.mix Tryz.func74 Tryz.ntmps74 ?_
 intro code i h hi hl
 simp only [aQ]
 refine bA ?_
 refine cu (aR9) ?_
 rintro _ i1 h1 ⟨p,rfl,hp⟩ hi1
 simp only [AS.drew,AS.called,aQ,AS.put,aL,aH,bS,bC,bR,bB,bV,bD,List.set_cons_succ,List.set_cons_zero,List.append_nil,List.nil_append,List.cons_append]
 refine bA ?_
 refine cu (aFf) ?_
 rintro _ i2 h2 ⟨s,rfl,hs⟩ hi2
 simp only [AS.drew,AS.called,aQ,AS.put,aL,aH,bS,bC,bR,bB,bV,bD,List.set_cons_succ,List.set_cons_zero,List.append_nil,List.nil_append,List.cons_append]
 have ca:=aId p s (by have:=hp.sz;omega) (by omega)
 have hn:=aXk s 3200 hp (by omega)
 generalize sI p s=q at *
 have ce:=aNm q (by have:=hn.sz;omega)
 have hne:=bFr 4000 hn (by omega)
 generalize yE q=z at *
 simp only [aG] at ca ce⊢
 refine bA ?_
 refine cu (iF 3) ?_
 rintro _ i3 h3 ⟨b,rfl⟩ hi3
 simp only [AS.drew,AS.called,aQ,AS.put,aL,aH,bS,bC,bR,bB,bV,bD,List.set_cons_succ,List.set_cons_zero,List.append_nil,List.nil_append,List.cons_append]
 cases b
 ·refine bA ?_
  refine ⟨.inr rfl,jH (by simp [Tryz.results74];rfl) (by rfl) (by rfl) (by omega) (by simp) (by simp) ?_⟩
  simp only [single,res]
  exact ⟨z,rfl,hne⟩
 ·refine bA ?_
  refine ⟨.inr rfl,jH (by simp [Tryz.results74];rfl) (by rfl) (by rfl) (by omega) (by simp) (by simp) ?_⟩
  simp only [single,res]
  exact ⟨q,rfl,⟨Nat.le_trans hn.sz (by omega),hn.mods,hn.slots,hn.ents⟩⟩
theorem aTd [aB Tryz.prog] [dB Tryz.prog]:OkC Tryz.prog 74 [] (bEd 4000):=
 aU6.vwas fun r ⟨p,e,h⟩=>⟨p,by subst e;simp [rt],h⟩
end Go.Proofs.YtaddkhdghlaalaaGreatDoor
