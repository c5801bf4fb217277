/-
  Proved here: the order of evaluation that the translated program follows.
  No condition beyond what each statement spells out.
-/
import Derived.Test.YtkidoegojckmiaaGreatDoorAYFacts
import Derived.Test.YtkidoegojckmiaaGreatDoorAF3
import Derived.Test.YtkidoegojckmiaaGreatDoorAF6
import Derived.Test.YtkidoegojckmiaaGreatDoorAF8
import Derived.Test.YtkidoegojckmiaaGreatDoorAF4
set_option linter.all false
set_option maxRecDepth 4000
set_option maxHeartbeats 4000000
namespace Go.Proofs.YtkidoegojckmiaaGreatDoor
open Go.Aw
theorem Tryz.mix:Tryz.prog.follows .mixedOrders=true:=by kernel_rfl
theorem aPr (a:Int):0≤qH .and .i64 a 255∧qH .and .i64 a 255≤255:=by
 unfold qH
 simp only
 have h:(BitVec.ofInt (IntKind.i64.bits) a&&& BitVec.ofInt (IntKind.i64.bits) 255).toNat≤255:=by
  rw [BitVec.toNat_and]
  exact Nat.le_trans Nat.and_le_right (by decide)
 rw [wrap64]<;>omega
@[simp] theorem aXl (t:Tg→Option Tg) (b:Bool) (l:List UInt8):rtr t b (aM l)=aM l:=by unfold aM;exact aI (by intro x;rfl) l
@[simp] theorem aXm (l:List UInt8):(aM l).length=l.length:=by simp [aM]
theorem aGw {l:List UInt8} {n:Nat} {c:UInt8} (h:l[n]? =some c):(aM l)[n]? =some [.int .u8 c.toNat]:=by simp [aM,h]
def aWy (r:AV):Prop:=∃x:Int,r= .int .i64 x∧0≤x∧x≤255
theorem rX [aB Tryz.prog]:OkC Tryz.prog 91 [] aWy:=by
 refine lD Tryz.mix Tryz.func91 Tryz.ntmps91 ?_
 intro code i h hi hl
 obtain ⟨n,rfl⟩:=Int.eq_ofNat_of_zero_le hi
 simp only [aD]
 simp only [maxLen] at hl
 by_cases hlt:n < code.length
 ·have hli:(n:Int) < (code.length:Int):=by omega
  have hg:=aGw (List.getElem?_eq_getElem hlt)
  generalize code[n]=c at *
  have hk:IntKind.i64.wrap ((n:Int)+1)=((n+1:Nat):Int):=by rw [wrap64]<;>omega
  have W:=And.intro hli (And.intro hg hk)
  repeat' first|refine st ?_|(refine nx ?_;refine so ?_)|(refine cx ?_;refine sc (fun hc=>?_) (fun hc=>?_)<;>try exact hc.elim)|(refine lx ?_;refine sp (fun hc=>?_) (fun hc=>?_)<;>try exact hc.elim)|refine sx ?_ ?_|refine sy ?_ ?_|fail
  refine ⟨.inr rfl,dS (by simp [Tryz.results91];rfl) (by rfl) (by rfl) (by omega) (by simp) (by simp) ?_⟩
  simp only [single,res]
  exact ⟨_,rfl,aPr _⟩
 ·have hli:¬(n:Int) < (code.length:Int):=by omega
  have W:=hli
  repeat' first|refine st ?_|(refine nx ?_;refine so ?_)|(refine cx ?_;refine sc (fun hc=>?_) (fun hc=>?_)<;>try exact hc.elim)|(refine lx ?_;refine sp (fun hc=>?_) (fun hc=>?_)<;>try exact hc.elim)|refine sx ?_ ?_|refine sy ?_ ?_|fail
  refine ⟨.inr rfl,dS (by simp [Tryz.results91];rfl) (by rfl) (by rfl) (by omega) (by simp) (by simp) ?_⟩
  simp only [single,res]
  exact ⟨_,rfl,aPr _⟩
def aVq (n:Int) (r:AV):Prop:=∃x:Int,r= .int .i64 x∧0≤x∧(n≤0→x=0)∧(0 < n→x < n)
theorem aEg {a n:Int} (ha:0≤a) (hn:0 < n):0≤a.tmod n∧a.tmod n < n:=by
 rw [Int.tmod_eq_emod_of_nonneg ha]
 exact ⟨Int.emod_nonneg _ (by omega),Int.emod_lt_of_pos _ hn⟩
theorem dF [aB Tryz.prog] (n:Int):OkC Tryz.prog 52 [.int .i64 n] (aVq n):=by
 refine lD Tryz.mix Tryz.func52 Tryz.ntmps52 ?_
 intro code i h hi hl
 simp only [aD]
 by_cases h0:n≤0
 ·have W:=h0
  repeat' first|refine st ?_|(refine nx ?_;refine so ?_)|(refine cx ?_;refine sc (fun hc=>?_) (fun hc=>?_)<;>try exact hc.elim)|(refine lx ?_;refine sp (fun hc=>?_) (fun hc=>?_)<;>try exact hc.elim)|refine sx ?_ ?_|refine sy ?_ ?_|fail
  refine ⟨.inr rfl,dS (by simp [Tryz.results52];rfl) (by rfl) (by rfl) (by omega) (by simp) (by simp) ?_⟩
  simp only [single,res]
  exact ⟨0,rfl,by omega,fun _=>rfl,by omega⟩
 ·have hn0:¬n=0:=by omega
  by_cases h1:n≤256
  ·have W:=And.intro h0 h1
   repeat' first|refine st ?_|(refine nx ?_;refine so ?_)|(refine cx ?_;refine sc (fun hc=>?_) (fun hc=>?_)<;>try exact hc.elim)|(refine lx ?_;refine sp (fun hc=>?_) (fun hc=>?_)<;>try exact hc.elim)|refine sx ?_ ?_|refine sy ?_ ?_|fail
   refine cu (rX) ?_
   rintro _ i2 h2 ⟨x,rfl,x0,x1⟩ hi2
   simp only [AS.drew,AS.called,aD,AS.put,aF,aC,aX,aP,aV,aN,aY,aQ,List.set_cons_succ,List.set_cons_zero,List.append_nil,List.nil_append,List.cons_append]
   obtain ⟨t0,t1⟩:=aEg x0 (show 0 < n by omega)
   have W:=hn0
   repeat' first|refine st ?_|(refine nx ?_;refine so ?_)|(refine cx ?_;refine sc (fun hc=>?_) (fun hc=>?_)<;>try exact hc.elim)|(refine lx ?_;refine sp (fun hc=>?_) (fun hc=>?_)<;>try exact hc.elim)|refine sx ?_ ?_|refine sy ?_ ?_|fail
   refine ⟨.inr rfl,dS (by simp [Tryz.results52];rfl) (by rfl) (by rfl) (by omega) (by simp) (by simp) ?_⟩
   simp only [single,res]
   exact ⟨_,rfl,t0,by omega,fun _=>t1⟩
  ·have W:=And.intro h0 h1
   repeat' first|refine st ?_|(refine nx ?_;refine so ?_)|(refine cx ?_;refine sc (fun hc=>?_) (fun hc=>?_)<;>try exact hc.elim)|(refine lx ?_;refine sp (fun hc=>?_) (fun hc=>?_)<;>try exact hc.elim)|refine sx ?_ ?_|refine sy ?_ ?_|fail
   refine cu (rX) ?_
   rintro _ i2 h2 ⟨x,rfl,x0,x1⟩ hi2
   simp only [AS.drew,AS.called,aD,AS.put,aF,aC,aX,aP,aV,aN,aY,aQ,List.set_cons_succ,List.set_cons_zero,List.append_nil,List.nil_append,List.cons_append]
   have W:=trivial
   repeat' first|refine st ?_|(refine nx ?_;refine so ?_)|(refine cx ?_;refine sc (fun hc=>?_) (fun hc=>?_)<;>try exact hc.elim)|(refine lx ?_;refine sp (fun hc=>?_) (fun hc=>?_)<;>try exact hc.elim)|refine sx ?_ ?_|refine sy ?_ ?_|fail
   refine cu (rX) ?_
   rintro _ i3 h3 ⟨y,rfl,y0,y1⟩ hi3
   simp only [AS.drew,AS.called,aD,AS.put,aF,aC,aX,aP,aV,aN,aY,aQ,List.set_cons_succ,List.set_cons_zero,List.append_nil,List.nil_append,List.cons_append]
   have W:=trivial
   repeat' first|refine st ?_|(refine nx ?_;refine so ?_)|(refine cx ?_;refine sc (fun hc=>?_) (fun hc=>?_)<;>try exact hc.elim)|(refine lx ?_;refine sp (fun hc=>?_) (fun hc=>?_)<;>try exact hc.elim)|refine sx ?_ ?_|refine sy ?_ ?_|fail
   refine cu (rX) ?_
   rintro _ i4 h4 ⟨z,rfl,z0,z1⟩ hi4
   simp only [AS.drew,AS.called,aD,AS.put,aF,aC,aX,aP,aV,aN,aY,aQ,List.set_cons_succ,List.set_cons_zero,List.append_nil,List.nil_append,List.cons_append]
   have e1:IntKind.i64.wrap (x * 65536)=x * 65536:=by rw [wrap64]<;>omega
   have e2:IntKind.i64.wrap (y * 256)=y * 256:=by rw [wrap64]<;>omega
   have e3:IntKind.i64.wrap (x * 65536+y * 256)=x * 65536+y * 256:=by rw [wrap64]<;>omega
   have e4:IntKind.i64.wrap (x * 65536+y * 256+z)=x * 65536+y * 256+z:=by rw [wrap64]<;>omega
   obtain ⟨t0,t1⟩:=aEg (show 0≤x * 65536+y * 256+z by omega) (show 0 < n by omega)
   have W:=And.intro hn0 (And.intro e1 (And.intro e2 (And.intro e3 e4)))
   repeat' first|refine st ?_|(refine nx ?_;refine so ?_)|(refine cx ?_;refine sc (fun hc=>?_) (fun hc=>?_)<;>try exact hc.elim)|(refine lx ?_;refine sp (fun hc=>?_) (fun hc=>?_)<;>try exact hc.elim)|refine sx ?_ ?_|refine sy ?_ ?_|fail
   refine ⟨.inr rfl,dS (by simp [Tryz.results52];rfl) (by rfl) (by rfl) (by omega) (by simp) (by simp) ?_⟩
   simp only [single,res]
   exact ⟨_,rfl,t0,by omega,fun _=>t1⟩
def aW9 (r:AV):Prop:=∃b:Bool,r= .bool b
theorem iD [aB Tryz.prog] (n:Int):OkC Tryz.prog 25 [.int .i64 n] aW9:=by
 refine lD Tryz.mix Tryz.func25 Tryz.ntmps25 ?_
 intro code i h hi hl
 simp only [aD]
 have W:=trivial
 repeat' first|refine st ?_|(refine nx ?_;refine so ?_)|(refine cx ?_;refine sc (fun hc=>?_) (fun hc=>?_)<;>try exact hc.elim)|(refine lx ?_;refine sp (fun hc=>?_) (fun hc=>?_)<;>try exact hc.elim)|refine sx ?_ ?_|refine sy ?_ ?_|fail
 refine cu (dF n) ?_
 rintro _ i2 h2 ⟨x,rfl,x0,x1,x2⟩ hi2
 simp only [AS.drew,AS.called,aD,AS.put,aF,aC,aX,aP,aV,aN,aY,aQ,List.set_cons_succ,List.set_cons_zero,List.append_nil,List.nil_append,List.cons_append]
 have W:=trivial
 repeat' first|refine st ?_|(refine nx ?_;refine so ?_)|(refine cx ?_;refine sc (fun hc=>?_) (fun hc=>?_)<;>try exact hc.elim)|(refine lx ?_;refine sp (fun hc=>?_) (fun hc=>?_)<;>try exact hc.elim)|refine sx ?_ ?_|refine sy ?_ ?_|fail
 refine ⟨.inr rfl,dS (by simp [Tryz.results25];rfl) (by rfl) (by rfl) (by omega) (by simp) (by simp) ?_⟩
 simp only [single,res]
 exact ⟨_,rfl⟩
def aXp (l:List Str) (r:AV):Prop:=∃s∈l,r= .str s
theorem cO [aB Tryz.prog] (l:List Str) (h0:l≠[]):OkC Tryz.prog 54 [.sl .view 1 (l.map aK)] (aXp l):=by
 refine lD Tryz.mix Tryz.func54 Tryz.ntmps54 ?_
 intro code i h hi hl
 simp only [aD]
 have W:=trivial
 repeat' first|refine st ?_|(refine nx ?_;refine so ?_)|(refine cx ?_;refine sc (fun hc=>?_) (fun hc=>?_)<;>try exact hc.elim)|(refine lx ?_;refine sp (fun hc=>?_) (fun hc=>?_)<;>try exact hc.elim)|refine sx ?_ ?_|refine sy ?_ ?_|fail
 refine cu (dF (l.length:Int)) ?_
 rintro _ i2 h2 ⟨x,rfl,x0,x1,x2⟩ hi2
 simp only [AS.drew,AS.called,aD,AS.put,aF,aC,aX,aP,aV,aN,aY,aQ,List.set_cons_succ,List.set_cons_zero,List.append_nil,List.nil_append,List.cons_append]
 have hp:0 < l.length:=List.length_pos_iff.2 h0
 obtain ⟨k,rfl⟩:=Int.eq_ofNat_of_zero_le x0
 have hlt:k < l.length:=by omega
 have hg:=List.getElem?_eq_getElem hlt
 have hm:=List.getElem_mem hlt
 generalize l[k]=s at *
 have W:=hg
 repeat' first|refine st ?_|(refine nx ?_;refine so ?_)|(refine cx ?_;refine sc (fun hc=>?_) (fun hc=>?_)<;>try exact hc.elim)|(refine lx ?_;refine sp (fun hc=>?_) (fun hc=>?_)<;>try exact hc.elim)|refine sx ?_ ?_|refine sy ?_ ?_|fail
 refine ⟨.inr rfl,dS (by simp [Tryz.results54];rfl) (by rfl) (by rfl) (by omega) (by simp) (by simp) ?_⟩
 simp only [single,res]
 exact ⟨_,hm,rfl⟩
def aXq (l:List Int) (r:AV):Prop:=∃x∈l,r= .int .i64 x
theorem tN [aB Tryz.prog] (l:List Int) (h0:l≠[]):OkC Tryz.prog 53 [.sl .view 1 (l.map jT)] (aXq l):=by
 refine lD Tryz.mix Tryz.func53 Tryz.ntmps53 ?_
 intro code i h hi hl
 simp only [aD]
 have W:=trivial
 repeat' first|refine st ?_|(refine nx ?_;refine so ?_)|(refine cx ?_;refine sc (fun hc=>?_) (fun hc=>?_)<;>try exact hc.elim)|(refine lx ?_;refine sp (fun hc=>?_) (fun hc=>?_)<;>try exact hc.elim)|refine sx ?_ ?_|refine sy ?_ ?_|fail
 refine cu (dF (l.length:Int)) ?_
 rintro _ i2 h2 ⟨x,rfl,x0,x1,x2⟩ hi2
 simp only [AS.drew,AS.called,aD,AS.put,aF,aC,aX,aP,aV,aN,aY,aQ,List.set_cons_succ,List.set_cons_zero,List.append_nil,List.nil_append,List.cons_append]
 have hp:0 < l.length:=List.length_pos_iff.2 h0
 obtain ⟨k,rfl⟩:=Int.eq_ofNat_of_zero_le x0
 have hlt:k < l.length:=by omega
 have hg:=List.getElem?_eq_getElem hlt
 have hm:=List.getElem_mem hlt
 generalize l[k]=s at *
 have W:=hg
 repeat' first|refine st ?_|(refine nx ?_;refine so ?_)|(refine cx ?_;refine sc (fun hc=>?_) (fun hc=>?_)<;>try exact hc.elim)|(refine lx ?_;refine sp (fun hc=>?_) (fun hc=>?_)<;>try exact hc.elim)|refine sx ?_ ?_|refine sy ?_ ?_|fail
 refine ⟨.inr rfl,dS (by simp [Tryz.results53];rfl) (by rfl) (by rfl) (by omega) (by simp) (by simp) ?_⟩
 simp only [single,res]
 exact ⟨_,hm,rfl⟩
end Go.Proofs.YtkidoegojckmiaaGreatDoor
