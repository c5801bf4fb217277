/-
  Proved here: steps towards the statement of this claim, text DRS.
  No condition beyond what each statement spells out.
-/
import Derived.Test.YtkidoegojckmiaaGreatDoorAQDRE
import Derived.Test.YtkidoegojckmiaaGreatDoorAQN1
set_option linter.all false
set_option maxRecDepth 4000
set_option maxHeartbeats 4000000
namespace Go.Proofs.YtkidoegojckmiaaGreatDoor
open Go.Aw
def aIw (r:AV):Prop:=∃(p:aZ) (k:Int),r= .tup [.agg (aU .view p),.int .i64 k]∧aHz p
theorem wU [aB Tryz.prog] [bV Tryz.prog] (code:List UInt8):OkE Tryz.prog 21 [.sl .view 1 (aM code)] aIw:=by
 refine aSy Tryz.mix [3] Tryz.func21 Tryz.ntmps21 ?_
 have W:=trivial
 repeat' first|refine st ?_|(refine nx ?_;refine so ?_)|(refine cx ?_;refine sc (fun hc=>?_) (fun hc=>?_)<;>try exact hc.elim)|(refine lx ?_;refine sp (fun hc=>?_) (fun hc=>?_)<;>try exact hc.elim)|refine sx ?_ ?_|refine sy ?_ ?_|fail
 refine cn (yF) ?_
 intro i h hi
 simp only [AS.newCur,aD,AS.put,List.length_nil,List.length_cons,Nat.reduceAdd,Nat.zero_add,List.set_cons_succ,List.set_cons_zero,List.append_nil,List.nil_append,List.cons_append]
 have W:=trivial
 repeat' first|refine st ?_|(refine nx ?_;refine so ?_)|(refine cx ?_;refine sc (fun hc=>?_) (fun hc=>?_)<;>try exact hc.elim)|(refine lx ?_;refine sp (fun hc=>?_) (fun hc=>?_)<;>try exact hc.elim)|refine sx ?_ ?_|refine sy ?_ ?_|fail
 refine cu (aIq) ?_
 rintro _ i2 h2 ⟨p,rfl,hp⟩ hi2
 simp only [AS.drew,AS.called,aD,AS.put,aF,aC,aX,aP,aV,aN,aY,aQ,List.set_cons_succ,List.set_cons_zero,List.append_nil,List.nil_append,List.cons_append]
 simp only [aU]
 have W:=trivial
 repeat' first|refine st ?_|(refine nx ?_;refine so ?_)|(refine cx ?_;refine sc (fun hc=>?_) (fun hc=>?_)<;>try exact hc.elim)|(refine lx ?_;refine sp (fun hc=>?_) (fun hc=>?_)<;>try exact hc.elim)|refine sx ?_ ?_|refine sy ?_ ?_|fail
 refine tV (fun s'=>∃r,aIw r∧(dY Tryz.prog Tryz.f21 s' r∨mQ Tryz.prog Tryz.f21 s' r)) (d:=[false,false,false,false,false,false,false,false,false,false]) rfl rfl ?_ (by intro s' h;simp only [gI,AIn,awp];exact ⟨by simp,h⟩)
 refine wR 1 rfl (by decide+kernel) (by decide+kernel) (by simp only [List.set_cons_succ,List.set_cons_zero];rfl) (by simp;rfl) ?_
 refine aSc 2 rfl (by decide+kernel) (by decide+kernel) (by simp only [List.set_cons_succ,List.set_cons_zero];rfl) rfl rfl (by simp;rfl) (by simp only [AS.put,List.set_cons_succ,List.set_cons_zero];rfl) ?_
 repeat' first
  |(refine aH3 ?_;refine aCt (by simp [Tryz.results21];rfl) (by simp) (by simp) ?_;simp only [single,res];exact ⟨p,_,rfl,hp⟩)
  |refine aNv 5 rfl (by decide+kernel) (by decide+kernel) (by simp only [List.set_cons_succ,List.set_cons_zero];rfl) rfl rfl rfl (by simp only [AS.put,List.set_cons_succ,List.set_cons_zero];rfl) ?_
  |refine aH0 (by simp [Region.binds];rfl) ?_
  |refine aH1 ?_ ?_
  |refine aHx rfl (by simp only [List.set_cons_succ,List.set_cons_zero];rfl) ?_
  |refine qZ ?_
  |(refine rU 16 ?_;refine cu (dF (IntKind.i64.wrap ((p.slots.length:Int)+2))) ?_;rintro _ j2 g2 ⟨x,rfl,_,_,_⟩ hj2;simp only [AS.drew,AS.called,aD,AS.put,aF,aC,aX,aP,aV,aN,aY,aQ,List.set_cons_succ,List.set_cons_zero,List.append_nil,List.nil_append,List.cons_append])
  |(refine aBk ?_;refine st ?_)
  |(refine nx ?_;refine so ?_)
def aQf (r:AV):Prop:=∃(p:aZ) (k:Int) (x:aR),r= .tup [.agg (aU .view p),.int .i64 k,.agg (bA x)]∧aHz p∧bE x≤1300
theorem qQ [aB Tryz.prog] [bV Tryz.prog] (code:List UInt8):OkE Tryz.prog 5 [.sl .view 1 (aM code)] aQf:=by
 have cq:=wU code
 refine aVl Tryz.mix Tryz.func5 Tryz.ntmps5 ?_
 have W:=trivial
 repeat' first|refine st ?_|(refine nx ?_;refine so ?_)|(refine cx ?_;refine sc (fun hc=>?_) (fun hc=>?_)<;>try exact hc.elim)|(refine lx ?_;refine sp (fun hc=>?_) (fun hc=>?_)<;>try exact hc.elim)|refine sx ?_ ?_|refine sy ?_ ?_|fail
 refine ce (cq) ?_
 rintro _ ⟨p,k,rfl,hp⟩
 simp only [AS.called,AS.put,aF,aC,aX,aP,aV,aN,aY,aQ,List.set_cons_succ,List.set_cons_zero,List.append_nil,List.nil_append,List.cons_append]
 have hsl:=hp.sl
 have c1:=gH k 0 ((p.slots.length:Int) - 1)
 have W:=trivial
 repeat' first|refine st ?_|(refine nx ?_;refine so ?_)|(refine cx ?_;refine sc (fun hc=>?_) (fun hc=>?_)<;>try exact hc.elim)|(refine lx ?_;refine sp (fun hc=>?_) (fun hc=>?_)<;>try exact hc.elim)|refine sx ?_ ?_|refine sy ?_ ?_|fail
 refine cn (yF) ?_
 intro i h hi
 simp only [AS.newCur,aD,AS.put,List.length_nil,List.length_cons,Nat.reduceAdd,Nat.zero_add,List.set_cons_succ,List.set_cons_zero,List.append_nil,List.nil_append,List.cons_append]
 have W:=trivial
 repeat' first|refine st ?_|(refine nx ?_;refine so ?_)|(refine cx ?_;refine sc (fun hc=>?_) (fun hc=>?_)<;>try exact hc.elim)|(refine lx ?_;refine sp (fun hc=>?_) (fun hc=>?_)<;>try exact hc.elim)|refine sx ?_ ?_|refine sy ?_ ?_|fail
 refine cu (aFt) ?_
 rintro _ i2 h2 ⟨y,rfl,hy⟩ hi2
 simp only [AS.drew,AS.called,aD,AS.put,aF,aC,aX,aP,aV,aN,aY,aQ,List.set_cons_succ,List.set_cons_zero,List.append_nil,List.nil_append,List.cons_append]
 try simp only [aU,bA]
 by_cases hk:0≤k∧k≤(p.slots.length:Int) - 1
 ·rw [show (decide (0≤k)&&decide (k≤(p.slots.length:Int) - 1))=true by simp [hk]] at c1
  obtain ⟨n,rfl⟩:=Int.eq_ofNat_of_zero_le hk.1
  have hlt:n < p.slots.length:=by omega
  have hg:=List.getElem?_eq_getElem hlt
  generalize p.slots[n]=s at *
  have ck:=sZ s.mode
  have W:=trivial
  repeat' first|(refine aRb (by rfl) (by first|rfl|(simp [fQ];done)|(simp [fQ];rfl)) ?_;refine cu (iD 2) ?_)|refine st ?_|(refine nx ?_;refine so ?_)|(refine cx ?_;refine sc (fun hc=>?_) (fun hc=>?_)<;>try exact hc.elim)|(refine lx ?_;refine sp (fun hc=>?_) (fun hc=>?_)<;>try exact hc.elim)|refine sx ?_ ?_|refine sy ?_ ?_|fail
  rintro _ i3 h3 ⟨b,rfl⟩ hi3
  simp only [AS.drew,AS.called,aD,AS.put,aF,aC,aX,aP,aV,aN,aY,aQ,List.set_cons_succ,List.set_cons_zero,List.append_nil,List.nil_append,List.cons_append]
  cases b
  ·have W:=trivial
   repeat' first|refine st ?_|(refine nx ?_;refine so ?_)|(refine cx ?_;refine sc (fun hc=>?_) (fun hc=>?_)<;>try exact hc.elim)|(refine lx ?_;refine sp (fun hc=>?_) (fun hc=>?_)<;>try exact hc.elim)|refine sx ?_ ?_|refine sy ?_ ?_|fail
   refine ⟨.inr rfl,aCt (by simp [Tryz.results5];rfl) (by simp) (by simp) ?_⟩
   simp only [single,res]
   exact ⟨p,_,y,rfl,hp,by omega⟩
  ·have W:=hg
   repeat' first|refine st ?_|(refine nx ?_;refine so ?_)|(refine cx ?_;refine sc (fun hc=>?_) (fun hc=>?_)<;>try exact hc.elim)|(refine lx ?_;refine sp (fun hc=>?_) (fun hc=>?_)<;>try exact hc.elim)|refine sx ?_ ?_|refine sy ?_ ?_|fail
   refine cu (aB8 (kS s.mode)) ?_
   rintro _ i4 h4 ⟨x,rfl,hx⟩ hi4
   simp only [AS.drew,AS.called,aD,AS.put,aF,aC,aX,aP,aV,aN,aY,aQ,List.set_cons_succ,List.set_cons_zero,List.append_nil,List.nil_append,List.cons_append]
   simp only [bA]
   have W:=trivial
   repeat' first|refine st ?_|(refine nx ?_;refine so ?_)|(refine cx ?_;refine sc (fun hc=>?_) (fun hc=>?_)<;>try exact hc.elim)|(refine lx ?_;refine sp (fun hc=>?_) (fun hc=>?_)<;>try exact hc.elim)|refine sx ?_ ?_|refine sy ?_ ?_|fail
   refine ⟨.inr rfl,aCt (by simp [Tryz.results5];rfl) (by simp) (by simp) ?_⟩
   simp only [single,res]
   exact ⟨p,_,x,rfl,hp,by omega⟩
 ·rw [show (decide (0≤k)&&decide (k≤(p.slots.length:Int) - 1))=false by simp only [Bool.and_eq_false_iff,decide_eq_false_iff_not];omega] at c1
  have W:=trivial
  repeat' first|refine st ?_|(refine nx ?_;refine so ?_)|(refine cx ?_;refine sc (fun hc=>?_) (fun hc=>?_)<;>try exact hc.elim)|(refine lx ?_;refine sp (fun hc=>?_) (fun hc=>?_)<;>try exact hc.elim)|refine sx ?_ ?_|refine sy ?_ ?_|fail
  refine ⟨.inr rfl,aCt (by simp [Tryz.results5];rfl) (by simp) (by simp) ?_⟩
  simp only [single,res]
  exact ⟨p,_,y,rfl,hp,by omega⟩
def aJv (r:AV):Prop:=∃(p:aZ) (a:bC) (x:aR),r= .tup [.agg (aU .view p),.agg (bF a),.agg (bA x)]∧aHz p∧eH a≤7000∧bE x≤1300
theorem aA1 [aB Tryz.prog] [bV Tryz.prog] (code:List UInt8):OkE Tryz.prog 13 [.sl .view 1 (aM code)] aJv:=by
 have cq:=qQ code
 refine aSy Tryz.mix [4,5] Tryz.func13 Tryz.ntmps13 ?_
 have W:=trivial
 repeat' first|refine st ?_|(refine nx ?_;refine so ?_)|(refine cx ?_;refine sc (fun hc=>?_) (fun hc=>?_)<;>try exact hc.elim)|(refine lx ?_;refine sp (fun hc=>?_) (fun hc=>?_)<;>try exact hc.elim)|refine sx ?_ ?_|refine sy ?_ ?_|fail
 refine ce (cq) ?_
 rintro _ ⟨p,k,y,rfl,hp,hy⟩
 simp only [AS.called,AS.put,aF,aC,aX,aP,aV,aN,aY,aQ,List.set_cons_succ,List.set_cons_zero,List.append_nil,List.nil_append,List.cons_append]
 have hsl:=hp.sl
 have c1:=gH k 0 ((p.slots.length:Int) - 1)
 have W:=trivial
 repeat' first|refine st ?_|(refine nx ?_;refine so ?_)|(refine cx ?_;refine sc (fun hc=>?_) (fun hc=>?_)<;>try exact hc.elim)|(refine lx ?_;refine sp (fun hc=>?_) (fun hc=>?_)<;>try exact hc.elim)|refine sx ?_ ?_|refine sy ?_ ?_|fail
 refine cn (yF) ?_
 intro i h hi
 simp only [AS.newCur,aD,AS.put,List.length_nil,List.length_cons,Nat.reduceAdd,Nat.zero_add,List.set_cons_succ,List.set_cons_zero,List.append_nil,List.nil_append,List.cons_append]
 try simp only [aU,bA]
 by_cases hk:0≤k∧k≤(p.slots.length:Int) - 1
 ·rw [show (decide (0≤k)&&decide (k≤(p.slots.length:Int) - 1))=true by simp [hk]] at c1
  obtain ⟨n,rfl⟩:=Int.eq_ofNat_of_zero_le hk.1
  have hlt:n < p.slots.length:=by omega
  have hg:=List.getElem?_eq_getElem hlt
  have hz:eH p.slots[n].to≤7000:=by
   have h1:=rQ fC (List.getElem_mem hlt)
   have h2:=hp.sz
   simp only [fC,bK,szL] at h1 h2;omega
  generalize p.slots[n]=s at *
  have W:=hg
  repeat' first|refine st ?_|(refine nx ?_;refine so ?_)|(refine cx ?_;refine sc (fun hc=>?_) (fun hc=>?_)<;>try exact hc.elim)|(refine lx ?_;refine sp (fun hc=>?_) (fun hc=>?_)<;>try exact hc.elim)|refine sx ?_ ?_|refine sy ?_ ?_|fail
  refine tV (fun s'=>∃r,aJv r∧(dY Tryz.prog Tryz.f13 s' r∨mQ Tryz.prog Tryz.f13 s' r)) (d:=[false,false,false,false,false,false,false,false,false,false,false]) rfl rfl ?_ (by intro s' h;simp only [gI,AIn,awp];exact ⟨by simp,h⟩)
  refine wR 3 rfl (by decide+kernel) (by decide+kernel) (by simp only [List.set_cons_succ,List.set_cons_zero];rfl) (by simp;rfl) ?_
  refine aSc 1 rfl (by decide+kernel) (by decide+kernel) (by simp only [List.set_cons_succ,List.set_cons_zero];rfl) rfl rfl (by simp;rfl) (by simp only [AS.put,List.set_cons_succ,List.set_cons_zero];rfl) ?_
  repeat' first
   |(refine aH3 ?_;refine aCt (by simp [Tryz.results13];rfl) (by simp) (by simp) ?_;simp only [single,res];exact ⟨p,s.to,y,rfl,hp,hz,by omega⟩)
   |refine aH0 (by simp [Region.binds];rfl) ?_
   |refine aH1 ?_ ?_
   |refine aHx rfl (by simp only [List.set_cons_succ,List.set_cons_zero];rfl) ?_
   |refine qZ ?_
   |(refine aBk ?_;refine st ?_)
   |(refine nx ?_;refine so ?_)
 ·rw [show (decide (0≤k)&&decide (k≤(p.slots.length:Int) - 1))=false by simp only [Bool.and_eq_false_iff,decide_eq_false_iff_not];omega] at c1
  have W:=trivial
  repeat' first|refine st ?_|(refine nx ?_;refine so ?_)|(refine cx ?_;refine sc (fun hc=>?_) (fun hc=>?_)<;>try exact hc.elim)|(refine lx ?_;refine sp (fun hc=>?_) (fun hc=>?_)<;>try exact hc.elim)|refine sx ?_ ?_|refine sy ?_ ?_|fail
  refine tV (fun s'=>∃r,aJv r∧(dY Tryz.prog Tryz.f13 s' r∨mQ Tryz.prog Tryz.f13 s' r)) (d:=[false,false,false,false,false,false,false]) rfl rfl ?_ (by intro s' h;simp only [gI,AIn,awp];exact ⟨by simp,h⟩)
  refine wR 1 rfl (by decide+kernel) (by decide+kernel) (by simp only [List.set_cons_succ,List.set_cons_zero];rfl) (by simp;rfl) ?_
  repeat' first
   |(refine aH3 ?_;refine aCt (by simp [Tryz.results13];rfl) (by simp) (by simp) ?_;simp only [single,res];exact ⟨p,a,y,rfl,hp,by omega,by omega⟩)
   |refine aH0 (by simp [Region.binds];rfl) ?_
   |refine aH1 ?_ ?_
   |refine aHx rfl (by simp only [List.set_cons_succ,List.set_cons_zero];rfl) ?_
   |refine qZ ?_
   |(refine rU 33 ?_;refine cu (wJ) ?_;rintro _ j2 g2 ⟨a,rfl,ha⟩ hj2;simp only [bF];simp only [AS.drew,AS.called,aD,AS.put,aF,aC,aX,aP,aV,aN,aY,aQ,List.set_cons_succ,List.set_cons_zero,List.append_nil,List.nil_append,List.cons_append])
   |(refine aBk ?_;refine st ?_)
   |(refine nx ?_;refine so ?_)
end Go.Proofs.YtkidoegojckmiaaGreatDoor
