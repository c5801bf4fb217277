/-
  Proved here: steps towards the statement of this claim, text QDR1.
  No condition beyond what each statement spells out.
-/
import Derived.Test.YtgkllebnnakojaaGreatDoorQA0
import Derived.Test.YtgkllebnnakojaaGreatDoorF8
import Derived.Test.YtgkllebnnakojaaGreatDoorF6
import Derived.Test.YtgkllebnnakojaaGreatDoorF4
set_option linter.all false
set_option maxRecDepth 4000
set_option maxHeartbeats 4000000
namespace Go.Proofs.YtgkllebnnakojaaGreatDoor
open Go.Aw
theorem aP7 (a:Int):0≤qD .and .i64 a 255∧qD .and .i64 a 255≤255:=by
 unfold qD
 simp only
 have h:(BitVec.ofInt (IntKind.i64.bits) a&&& BitVec.ofInt (IntKind.i64.bits) 255).toNat≤255:=by
  rw [BitVec.toNat_and]
  exact Nat.le_trans Nat.and_le_right (by decide)
 rw [wrap64]<;>omega
@[simp] theorem aYu (t:Tg→Option Tg) (b:Bool) (l:List UInt8):rtr t b (aP l)=aP l:=by unfold aP;exact aM (by intro x;rfl) l
@[simp] theorem aYh (l:List UInt8):(aP l).length=l.length:=by simp [aP]
theorem aG3 {l:List UInt8} {n:Nat} {c:UInt8} (h:l[n]? =some c):(aP l)[n]? =some [.int .u8 c.toNat]:=by simp [aP,h]
def aXs (r:AV):Prop:=∃x:Int,r= .int .i64 x∧0≤x∧x≤255
theorem rY [aB Tryz.prog]:OkC Tryz.prog 66 [] aXs:=by
 refine mZ Tryz.mix Tryz.func66 Tryz.ntmps66 ?_
 intro code i h hi hl
 obtain ⟨n,rfl⟩:=Int.eq_ofNat_of_zero_le hi
 simp only [aH]
 simp only [maxLen] at hl
 by_cases hlt:n < code.length
 ·have hli:(n:Int) < (code.length:Int):=by omega
  have hg:=aG3 (List.getElem?_eq_getElem hlt)
  generalize code[n]=c at *
  have hk:IntKind.i64.wrap ((n:Int)+1)=((n+1:Nat):Int):=by rw [wrap64]<;>omega
  have W:=And.intro hli (And.intro hg hk)
  repeat' first|refine st ?_|(refine nx ?_;refine so ?_)|(refine cx ?_;refine sc (fun hc=>?_) (fun hc=>?_)<;>try exact hc.elim)|(refine lx ?_;refine sp (fun hc=>?_) (fun hc=>?_)<;>try exact hc.elim)|refine sx ?_ ?_|refine sy ?_ ?_|fail
  refine ⟨.inr rfl,gD (by simp [Tryz.results66];rfl) (by rfl) (by rfl) (by omega) (by simp) (by simp) ?_⟩
  simp only [single,res]
  exact ⟨_,rfl,aP7 _⟩
 ·have hli:¬(n:Int) < (code.length:Int):=by omega
  have W:=hli
  repeat' first|refine st ?_|(refine nx ?_;refine so ?_)|(refine cx ?_;refine sc (fun hc=>?_) (fun hc=>?_)<;>try exact hc.elim)|(refine lx ?_;refine sp (fun hc=>?_) (fun hc=>?_)<;>try exact hc.elim)|refine sx ?_ ?_|refine sy ?_ ?_|fail
  refine ⟨.inr rfl,gD (by simp [Tryz.results66];rfl) (by rfl) (by rfl) (by omega) (by simp) (by simp) ?_⟩
  simp only [single,res]
  exact ⟨_,rfl,aP7 _⟩
def aW6 (n:Int) (r:AV):Prop:=∃x:Int,r= .int .i64 x∧0≤x∧(n≤0→x=0)∧(0 < n→x < n)
theorem aEf {a n:Int} (ha:0≤a) (hn:0 < n):0≤a.tmod n∧a.tmod n < n:=by
 rw [Int.tmod_eq_emod_of_nonneg ha]
 exact ⟨Int.emod_nonneg _ (by omega),Int.emod_lt_of_pos _ hn⟩
theorem gT [aB Tryz.prog] (n:Int):OkC Tryz.prog 37 [.int .i64 n] (aW6 n):=by
 refine mZ Tryz.mix Tryz.func37 Tryz.ntmps37 ?_
 intro code i h hi hl
 simp only [aH]
 by_cases h0:n≤0
 ·have W:=h0
  repeat' first|refine st ?_|(refine nx ?_;refine so ?_)|(refine cx ?_;refine sc (fun hc=>?_) (fun hc=>?_)<;>try exact hc.elim)|(refine lx ?_;refine sp (fun hc=>?_) (fun hc=>?_)<;>try exact hc.elim)|refine sx ?_ ?_|refine sy ?_ ?_|fail
  refine ⟨.inr rfl,gD (by simp [Tryz.results37];rfl) (by rfl) (by rfl) (by omega) (by simp) (by simp) ?_⟩
  simp only [single,res]
  exact ⟨0,rfl,by omega,fun _=>rfl,by omega⟩
 ·have hn0:¬n=0:=by omega
  by_cases h1:n≤256
  ·have W:=And.intro h0 h1
   repeat' first|refine st ?_|(refine nx ?_;refine so ?_)|(refine cx ?_;refine sc (fun hc=>?_) (fun hc=>?_)<;>try exact hc.elim)|(refine lx ?_;refine sp (fun hc=>?_) (fun hc=>?_)<;>try exact hc.elim)|refine sx ?_ ?_|refine sy ?_ ?_|fail
   refine cu (rY) ?_
   rintro _ i2 h2 ⟨x,rfl,x0,x1⟩ hi2
   simp only [AS.drew,AS.called,aH,AS.put,aG,aF,bE,aU,bD,aS,bH,aV,List.set_cons_succ,List.set_cons_zero,List.append_nil,List.nil_append,List.cons_append]
   obtain ⟨t0,t1⟩:=aEf x0 (show 0 < n by omega)
   have W:=hn0
   repeat' first|refine st ?_|(refine nx ?_;refine so ?_)|(refine cx ?_;refine sc (fun hc=>?_) (fun hc=>?_)<;>try exact hc.elim)|(refine lx ?_;refine sp (fun hc=>?_) (fun hc=>?_)<;>try exact hc.elim)|refine sx ?_ ?_|refine sy ?_ ?_|fail
   refine ⟨.inr rfl,gD (by simp [Tryz.results37];rfl) (by rfl) (by rfl) (by omega) (by simp) (by simp) ?_⟩
   simp only [single,res]
   exact ⟨_,rfl,t0,by omega,fun _=>t1⟩
  ·have W:=And.intro h0 h1
   repeat' first|refine st ?_|(refine nx ?_;refine so ?_)|(refine cx ?_;refine sc (fun hc=>?_) (fun hc=>?_)<;>try exact hc.elim)|(refine lx ?_;refine sp (fun hc=>?_) (fun hc=>?_)<;>try exact hc.elim)|refine sx ?_ ?_|refine sy ?_ ?_|fail
   refine cu (rY) ?_
   rintro _ i2 h2 ⟨x,rfl,x0,x1⟩ hi2
   simp only [AS.drew,AS.called,aH,AS.put,aG,aF,bE,aU,bD,aS,bH,aV,List.set_cons_succ,List.set_cons_zero,List.append_nil,List.nil_append,List.cons_append]
   have W:=trivial
   repeat' first|refine st ?_|(refine nx ?_;refine so ?_)|(refine cx ?_;refine sc (fun hc=>?_) (fun hc=>?_)<;>try exact hc.elim)|(refine lx ?_;refine sp (fun hc=>?_) (fun hc=>?_)<;>try exact hc.elim)|refine sx ?_ ?_|refine sy ?_ ?_|fail
   refine cu (rY) ?_
   rintro _ i3 h3 ⟨y,rfl,y0,y1⟩ hi3
   simp only [AS.drew,AS.called,aH,AS.put,aG,aF,bE,aU,bD,aS,bH,aV,List.set_cons_succ,List.set_cons_zero,List.append_nil,List.nil_append,List.cons_append]
   have W:=trivial
   repeat' first|refine st ?_|(refine nx ?_;refine so ?_)|(refine cx ?_;refine sc (fun hc=>?_) (fun hc=>?_)<;>try exact hc.elim)|(refine lx ?_;refine sp (fun hc=>?_) (fun hc=>?_)<;>try exact hc.elim)|refine sx ?_ ?_|refine sy ?_ ?_|fail
   refine cu (rY) ?_
   rintro _ i4 h4 ⟨z,rfl,z0,z1⟩ hi4
   simp only [AS.drew,AS.called,aH,AS.put,aG,aF,bE,aU,bD,aS,bH,aV,List.set_cons_succ,List.set_cons_zero,List.append_nil,List.nil_append,List.cons_append]
   have e1:IntKind.i64.wrap (x * 65536)=x * 65536:=by rw [wrap64]<;>omega
   have e2:IntKind.i64.wrap (y * 256)=y * 256:=by rw [wrap64]<;>omega
   have e3:IntKind.i64.wrap (x * 65536+y * 256)=x * 65536+y * 256:=by rw [wrap64]<;>omega
   have e4:IntKind.i64.wrap (x * 65536+y * 256+z)=x * 65536+y * 256+z:=by rw [wrap64]<;>omega
   obtain ⟨t0,t1⟩:=aEf (show 0≤x * 65536+y * 256+z by omega) (show 0 < n by omega)
   have W:=And.intro hn0 (And.intro e1 (And.intro e2 (And.intro e3 e4)))
   repeat' first|refine st ?_|(refine nx ?_;refine so ?_)|(refine cx ?_;refine sc (fun hc=>?_) (fun hc=>?_)<;>try exact hc.elim)|(refine lx ?_;refine sp (fun hc=>?_) (fun hc=>?_)<;>try exact hc.elim)|refine sx ?_ ?_|refine sy ?_ ?_|fail
   refine ⟨.inr rfl,gD (by simp [Tryz.results37];rfl) (by rfl) (by rfl) (by omega) (by simp) (by simp) ?_⟩
   simp only [single,res]
   exact ⟨_,rfl,t0,by omega,fun _=>t1⟩
def aXm (r:AV):Prop:=∃b:Bool,r= .bool b
theorem eZ [aB Tryz.prog] (n:Int):OkC Tryz.prog 19 [.int .i64 n] aXm:=by
 refine mZ Tryz.mix Tryz.func19 Tryz.ntmps19 ?_
 intro code i h hi hl
 simp only [aH]
 have W:=trivial
 repeat' first|refine st ?_|(refine nx ?_;refine so ?_)|(refine cx ?_;refine sc (fun hc=>?_) (fun hc=>?_)<;>try exact hc.elim)|(refine lx ?_;refine sp (fun hc=>?_) (fun hc=>?_)<;>try exact hc.elim)|refine sx ?_ ?_|refine sy ?_ ?_|fail
 refine cu (gT n) ?_
 rintro _ i2 h2 ⟨x,rfl,x0,x1,x2⟩ hi2
 simp only [AS.drew,AS.called,aH,AS.put,aG,aF,bE,aU,bD,aS,bH,aV,List.set_cons_succ,List.set_cons_zero,List.append_nil,List.nil_append,List.cons_append]
 have W:=trivial
 repeat' first|refine st ?_|(refine nx ?_;refine so ?_)|(refine cx ?_;refine sc (fun hc=>?_) (fun hc=>?_)<;>try exact hc.elim)|(refine lx ?_;refine sp (fun hc=>?_) (fun hc=>?_)<;>try exact hc.elim)|refine sx ?_ ?_|refine sy ?_ ?_|fail
 refine ⟨.inr rfl,gD (by simp [Tryz.results19];rfl) (by rfl) (by rfl) (by omega) (by simp) (by simp) ?_⟩
 simp only [single,res]
 exact ⟨_,rfl⟩
def aY7 (l:List Str) (r:AV):Prop:=∃s∈l,r= .str s
theorem dN [aB Tryz.prog] (l:List Str) (h0:l≠[]):OkC Tryz.prog 39 [.sl .view 1 (l.map bZ)] (aY7 l):=by
 refine mZ Tryz.mix Tryz.func39 Tryz.ntmps39 ?_
 intro code i h hi hl
 simp only [aH]
 have W:=trivial
 repeat' first|refine st ?_|(refine nx ?_;refine so ?_)|(refine cx ?_;refine sc (fun hc=>?_) (fun hc=>?_)<;>try exact hc.elim)|(refine lx ?_;refine sp (fun hc=>?_) (fun hc=>?_)<;>try exact hc.elim)|refine sx ?_ ?_|refine sy ?_ ?_|fail
 refine cu (gT (l.length:Int)) ?_
 rintro _ i2 h2 ⟨x,rfl,x0,x1,x2⟩ hi2
 simp only [AS.drew,AS.called,aH,AS.put,aG,aF,bE,aU,bD,aS,bH,aV,List.set_cons_succ,List.set_cons_zero,List.append_nil,List.nil_append,List.cons_append]
 have hp:0 < l.length:=List.length_pos_iff.2 h0
 obtain ⟨k,rfl⟩:=Int.eq_ofNat_of_zero_le x0
 have hlt:k < l.length:=by omega
 have hg:=List.getElem?_eq_getElem hlt
 have hm:=List.getElem_mem hlt
 generalize l[k]=s at *
 have W:=hg
 repeat' first|refine st ?_|(refine nx ?_;refine so ?_)|(refine cx ?_;refine sc (fun hc=>?_) (fun hc=>?_)<;>try exact hc.elim)|(refine lx ?_;refine sp (fun hc=>?_) (fun hc=>?_)<;>try exact hc.elim)|refine sx ?_ ?_|refine sy ?_ ?_|fail
 refine ⟨.inr rfl,gD (by simp [Tryz.results39];rfl) (by rfl) (by rfl) (by omega) (by simp) (by simp) ?_⟩
 simp only [single,res]
 exact ⟨_,hm,rfl⟩
def aY1 (l:List Int) (r:AV):Prop:=∃x∈l,r= .int .i64 x
theorem aNo [aB Tryz.prog] (l:List Int) (h0:l≠[]):OkC Tryz.prog 102 [.sl .view 1 (l.map kM)] (aY1 l):=by
 refine mZ Tryz.mix Tryz.func102 Tryz.ntmps102 ?_
 intro code i h hi hl
 simp only [aH]
 have W:=trivial
 repeat' first|refine st ?_|(refine nx ?_;refine so ?_)|(refine cx ?_;refine sc (fun hc=>?_) (fun hc=>?_)<;>try exact hc.elim)|(refine lx ?_;refine sp (fun hc=>?_) (fun hc=>?_)<;>try exact hc.elim)|refine sx ?_ ?_|refine sy ?_ ?_|fail
 refine cu (gT (l.length:Int)) ?_
 rintro _ i2 h2 ⟨x,rfl,x0,x1,x2⟩ hi2
 simp only [AS.drew,AS.called,aH,AS.put,aG,aF,bE,aU,bD,aS,bH,aV,List.set_cons_succ,List.set_cons_zero,List.append_nil,List.nil_append,List.cons_append]
 have hp:0 < l.length:=List.length_pos_iff.2 h0
 obtain ⟨k,rfl⟩:=Int.eq_ofNat_of_zero_le x0
 have hlt:k < l.length:=by omega
 have hg:=List.getElem?_eq_getElem hlt
 have hm:=List.getElem_mem hlt
 generalize l[k]=s at *
 have W:=hg
 repeat' first|refine st ?_|(refine nx ?_;refine so ?_)|(refine cx ?_;refine sc (fun hc=>?_) (fun hc=>?_)<;>try exact hc.elim)|(refine lx ?_;refine sp (fun hc=>?_) (fun hc=>?_)<;>try exact hc.elim)|refine sx ?_ ?_|refine sy ?_ ?_|fail
 refine ⟨.inr rfl,gD (by simp [Tryz.results102];rfl) (by rfl) (by rfl) (by omega) (by simp) (by simp) ?_⟩
 simp only [single,res]
 exact ⟨_,hm,rfl⟩
end Go.Proofs.YtgkllebnnakojaaGreatDoor
