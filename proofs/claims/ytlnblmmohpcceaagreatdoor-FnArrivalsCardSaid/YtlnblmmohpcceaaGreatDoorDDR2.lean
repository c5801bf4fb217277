/-
  Proved here: steps towards the statement of this claim, text DR2.
  No condition beyond what each statement spells out.
-/
import Derived.Test.YtlnblmmohpcceaaGreatDoorDDR1
set_option linter.all false
set_option maxRecDepth 4000
set_option maxHeartbeats 4000000
namespace Go.Proofs.YtlnblmmohpcceaaGreatDoor
open Go.Aw
def aOe (n:Int) (r:AV):Prop:=∃x:Int,r= .int .i64 x∧0≤x∧(n≤0→x=0)∧(0 < n→x < n)
theorem zK {a n:Int} (ha:0≤a) (hn:0 < n):0≤a.tmod n∧a.tmod n < n:=by
 rw [Int.tmod_eq_emod_of_nonneg ha]
 exact ⟨Int.emod_nonneg _ (by omega),Int.emod_lt_of_pos _ hn⟩
theorem dK [aB Tryz.prog] (n:Int):OkC Tryz.prog 29 [.int .i64 n] (aOe n):=by
 refine jU Tryz.mix Tryz.func29 Tryz.ntmps29 ?_
 intro code i h hi hl
 simp only [aD]
 by_cases h0:n≤0
 ·have W:=h0
  repeat' first|refine wl ?_|(refine sq (fun hc=>?_) (fun hc=>?_)<;>try exact hc.elim)|fail
  refine ⟨.inr rfl,dB (by simp [Tryz.results29];rfl) (by rfl) (by rfl) (by omega) (by simp) (by simp) (by simp) ?_⟩
  simp only [single,res]
  exact ⟨0,rfl,by omega,fun _=>rfl,by omega⟩
 ·have hn0:¬n=0:=by omega
  by_cases h1:n≤256
  ·have W:=And.intro h0 h1
   repeat' first|refine wl ?_|(refine sq (fun hc=>?_) (fun hc=>?_)<;>try exact hc.elim)|fail
   refine cu (nW) ?_
   rintro _ i2 h2 ⟨x,rfl,x0,x1⟩ hi2
   simp only [AS.drew,AS.called,aD,AS.put,aF,aC,aV,aM,aU,aJ,aW,aK,List.set_cons_succ,List.set_cons_zero,List.append_nil,List.nil_append,List.cons_append]
   obtain ⟨t0,t1⟩:=zK x0 (show 0 < n by omega)
   have W:=hn0
   repeat' first|refine wl ?_|(refine sq (fun hc=>?_) (fun hc=>?_)<;>try exact hc.elim)|fail
   refine ⟨.inr rfl,dB (by simp [Tryz.results29];rfl) (by rfl) (by rfl) (by omega) (by simp) (by simp) (by simp) ?_⟩
   simp only [single,res]
   exact ⟨_,rfl,t0,by omega,fun _=>t1⟩
  ·have W:=And.intro h0 h1
   repeat' first|refine wl ?_|(refine sq (fun hc=>?_) (fun hc=>?_)<;>try exact hc.elim)|fail
   refine cu (nW) ?_
   rintro _ i2 h2 ⟨x,rfl,x0,x1⟩ hi2
   simp only [AS.drew,AS.called,aD,AS.put,aF,aC,aV,aM,aU,aJ,aW,aK,List.set_cons_succ,List.set_cons_zero,List.append_nil,List.nil_append,List.cons_append]
   have W:=trivial
   repeat' first|refine wl ?_|(refine sq (fun hc=>?_) (fun hc=>?_)<;>try exact hc.elim)|fail
   refine cu (nW) ?_
   rintro _ i3 h3 ⟨y,rfl,y0,y1⟩ hi3
   simp only [AS.drew,AS.called,aD,AS.put,aF,aC,aV,aM,aU,aJ,aW,aK,List.set_cons_succ,List.set_cons_zero,List.append_nil,List.nil_append,List.cons_append]
   have W:=trivial
   repeat' first|refine wl ?_|(refine sq (fun hc=>?_) (fun hc=>?_)<;>try exact hc.elim)|fail
   refine cu (nW) ?_
   rintro _ i4 h4 ⟨z,rfl,z0,z1⟩ hi4
   simp only [AS.drew,AS.called,aD,AS.put,aF,aC,aV,aM,aU,aJ,aW,aK,List.set_cons_succ,List.set_cons_zero,List.append_nil,List.nil_append,List.cons_append]
   have e1:IntKind.i64.wrap (x * 65536)=x * 65536:=by rw [wrap64]<;>omega
   have e2:IntKind.i64.wrap (y * 256)=y * 256:=by rw [wrap64]<;>omega
   have e3:IntKind.i64.wrap (x * 65536+y * 256)=x * 65536+y * 256:=by rw [wrap64]<;>omega
   have e4:IntKind.i64.wrap (x * 65536+y * 256+z)=x * 65536+y * 256+z:=by rw [wrap64]<;>omega
   obtain ⟨t0,t1⟩:=zK (show 0≤x * 65536+y * 256+z by omega) (show 0 < n by omega)
   have W:=And.intro hn0 (And.intro e1 (And.intro e2 (And.intro e3 e4)))
   repeat' first|refine wl ?_|(refine sq (fun hc=>?_) (fun hc=>?_)<;>try exact hc.elim)|fail
   refine ⟨.inr rfl,dB (by simp [Tryz.results29];rfl) (by rfl) (by rfl) (by omega) (by simp) (by simp) (by simp) ?_⟩
   simp only [single,res]
   exact ⟨_,rfl,t0,by omega,fun _=>t1⟩
def aPn (r:AV):Prop:=∃b:Bool,r= .bool b
theorem iU [aB Tryz.prog] (n:Int):OkC Tryz.prog 39 [.int .i64 n] aPn:=by
 refine jU Tryz.mix Tryz.func39 Tryz.ntmps39 ?_
 intro code i h hi hl
 simp only [aD]
 have W:=trivial
 repeat' first|refine wl ?_|(refine sq (fun hc=>?_) (fun hc=>?_)<;>try exact hc.elim)|fail
 refine cu (dK n) ?_
 rintro _ i2 h2 ⟨x,rfl,x0,x1,x2⟩ hi2
 simp only [AS.drew,AS.called,aD,AS.put,aF,aC,aV,aM,aU,aJ,aW,aK,List.set_cons_succ,List.set_cons_zero,List.append_nil,List.nil_append,List.cons_append]
 have W:=trivial
 repeat' first|refine wl ?_|(refine sq (fun hc=>?_) (fun hc=>?_)<;>try exact hc.elim)|fail
 refine ⟨.inr rfl,dB (by simp [Tryz.results39];rfl) (by rfl) (by rfl) (by omega) (by simp) (by simp) (by simp) ?_⟩
 simp only [single,res]
 exact ⟨_,rfl⟩
def aP7 (l:List Str) (r:AV):Prop:=∃s∈l,r= .str s
theorem bL [aB Tryz.prog] (l:List Str) (h0:l≠[]):OkC Tryz.prog 118 [.sl .view 1 (l.map aI)] (aP7 l):=by
 refine jU Tryz.mix Tryz.func118 Tryz.ntmps118 ?_
 intro code i h hi hl
 simp only [aD]
 have W:=trivial
 repeat' first|refine wl ?_|(refine sq (fun hc=>?_) (fun hc=>?_)<;>try exact hc.elim)|fail
 refine cu (dK (l.length:Int)) ?_
 rintro _ i2 h2 ⟨x,rfl,x0,x1,x2⟩ hi2
 simp only [AS.drew,AS.called,aD,AS.put,aF,aC,aV,aM,aU,aJ,aW,aK,List.set_cons_succ,List.set_cons_zero,List.append_nil,List.nil_append,List.cons_append]
 have hp:0 < l.length:=List.length_pos_iff.2 h0
 obtain ⟨k,rfl⟩:=Int.eq_ofNat_of_zero_le x0
 have hlt:k < l.length:=by omega
 have hg:=List.getElem?_eq_getElem hlt
 have hm:=List.getElem_mem hlt
 generalize l[k]=s at *
 have W:=hg
 repeat' first|refine wl ?_|(refine sq (fun hc=>?_) (fun hc=>?_)<;>try exact hc.elim)|fail
 refine ⟨.inr rfl,dB (by simp [Tryz.results118];rfl) (by rfl) (by rfl) (by omega) (by simp) (by simp) (by simp) ?_⟩
 simp only [single,res]
 exact ⟨_,hm,rfl⟩
def aP5 (l:List Int) (r:AV):Prop:=∃x∈l,r= .int .i64 x
theorem oU [aB Tryz.prog] (l:List Int) (h0:l≠[]):OkC Tryz.prog 133 [.sl .view 1 (l.map kW)] (aP5 l):=by
 refine jU Tryz.mix Tryz.func133 Tryz.ntmps133 ?_
 intro code i h hi hl
 simp only [aD]
 have W:=trivial
 repeat' first|refine wl ?_|(refine sq (fun hc=>?_) (fun hc=>?_)<;>try exact hc.elim)|fail
 refine cu (dK (l.length:Int)) ?_
 rintro _ i2 h2 ⟨x,rfl,x0,x1,x2⟩ hi2
 simp only [AS.drew,AS.called,aD,AS.put,aF,aC,aV,aM,aU,aJ,aW,aK,List.set_cons_succ,List.set_cons_zero,List.append_nil,List.nil_append,List.cons_append]
 have hp:0 < l.length:=List.length_pos_iff.2 h0
 obtain ⟨k,rfl⟩:=Int.eq_ofNat_of_zero_le x0
 have hlt:k < l.length:=by omega
 have hg:=List.getElem?_eq_getElem hlt
 have hm:=List.getElem_mem hlt
 generalize l[k]=s at *
 have W:=hg
 repeat' first|refine wl ?_|(refine sq (fun hc=>?_) (fun hc=>?_)<;>try exact hc.elim)|fail
 refine ⟨.inr rfl,dB (by simp [Tryz.results133];rfl) (by rfl) (by rfl) (by omega) (by simp) (by simp) (by simp) ?_⟩
 simp only [single,res]
 exact ⟨_,hm,rfl⟩
end Go.Proofs.YtlnblmmohpcceaaGreatDoor
