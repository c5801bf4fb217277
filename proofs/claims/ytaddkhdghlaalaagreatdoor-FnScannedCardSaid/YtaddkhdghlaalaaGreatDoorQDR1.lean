/-
  Proved here: steps towards the statement of this claim, text QDR1.
  No condition beyond what each statement spells out.
-/
import Derived.Test.YtaddkhdghlaalaaGreatDoorQMK1
import Derived.Test.YtaddkhdghlaalaaGreatDoorF8
import Derived.Test.YtaddkhdghlaalaaGreatDoorF6
import Derived.Test.YtaddkhdghlaalaaGreatDoorF4
set_option linter.all false
set_option maxRecDepth 4000
set_option maxHeartbeats 4000000
namespace Go.Proofs.YtaddkhdghlaalaaGreatDoor
open Go.Aw
theorem aZ5 (a:Int):0≤xW .and .i64 a 255∧xW .and .i64 a 255≤255:=by
 unfold xW
 simp only
 have h:(BitVec.ofInt (IntKind.i64.bits) a&&& BitVec.ofInt (IntKind.i64.bits) 255).toNat≤255:=by
  rw [BitVec.toNat_and]
  exact Nat.le_trans Nat.and_le_right (by decide)
 rw [wrap64]<;>omega
@[simp] theorem bI7 (t:Tg→Option Tg) (b:Bool) (l:List UInt8):rtr t b (aT l)=aT l:=by unfold aT;exact aY (by intro x;rfl) l
@[simp] theorem bJi (l:List UInt8):(aT l).length=l.length:=by simp [aT]
theorem aN9 {l:List UInt8} {n:Nat} {c:UInt8} (h:l[n]? =some c):(aT l)[n]? =some [.int .u8 c.toNat]:=by simp [aT,h]
def bIf (r:AV):Prop:=∃x:Int,r= .int .i64 x∧0≤x∧x≤255
theorem zH [aB Tryz.prog]:OkC Tryz.prog 99 [] bIf:=by
 refine uF Tryz.mix Tryz.func99 Tryz.ntmps99 ?_
 intro code i h hi hl
 obtain ⟨n,rfl⟩:=Int.eq_ofNat_of_zero_le hi
 simp only [aQ]
 simp only [maxLen] at hl
 by_cases hlt:n < code.length
 ·have hli:(n:Int) < (code.length:Int):=by omega
  have hg:=aN9 (List.getElem?_eq_getElem hlt)
  generalize code[n]=c at *
  have hk:IntKind.i64.wrap ((n:Int)+1)=((n+1:Nat):Int):=by rw [wrap64]<;>omega
  have W:=And.intro hli (And.intro hg hk)
  refine wl ?_
  refine ⟨.inr rfl,jH (by simp [Tryz.results99];rfl) (by rfl) (by rfl) (by omega) (by simp) (by simp) ?_⟩
  simp only [single,res]
  exact ⟨_,rfl,aZ5 _⟩
 ·have hli:¬(n:Int) < (code.length:Int):=by omega
  have W:=hli
  refine wl ?_
  refine ⟨.inr rfl,jH (by simp [Tryz.results99];rfl) (by rfl) (by rfl) (by omega) (by simp) (by simp) ?_⟩
  simp only [single,res]
  exact ⟨_,rfl,aZ5 _⟩
def bHv (n:Int) (r:AV):Prop:=∃x:Int,r= .int .i64 x∧0≤x∧(n≤0→x=0)∧(0 < n→x < n)
theorem aMi {a n:Int} (ha:0≤a) (hn:0 < n):0≤a.tmod n∧a.tmod n < n:=by
 rw [Int.tmod_eq_emod_of_nonneg ha]
 exact ⟨Int.emod_nonneg _ (by omega),Int.emod_lt_of_pos _ hn⟩
theorem kC [aB Tryz.prog] (n:Int):OkC Tryz.prog 60 [.int .i64 n] (bHv n):=by
 refine uF Tryz.mix Tryz.func60 Tryz.ntmps60 ?_
 intro code i h hi hl
 simp only [aQ]
 by_cases h0:n≤0
 ·have W:=h0
  refine wl ?_
  refine ⟨.inr rfl,jH (by simp [Tryz.results60];rfl) (by rfl) (by rfl) (by omega) (by simp) (by simp) ?_⟩
  simp only [single,res]
  exact ⟨0,rfl,by omega,fun _=>rfl,by omega⟩
 ·have hn0:¬n=0:=by omega
  by_cases h1:n≤256
  ·have W:=And.intro h0 h1
   refine wl ?_
   refine cu (zH) ?_
   rintro _ i2 h2 ⟨x,rfl,x0,x1⟩ hi2
   simp only [AS.drew,AS.called,aQ,AS.put,aL,aH,bS,bC,bR,bB,bV,bD,List.set_cons_succ,List.set_cons_zero,List.append_nil,List.nil_append,List.cons_append]
   obtain ⟨t0,t1⟩:=aMi x0 (show 0 < n by omega)
   have W:=hn0
   refine wl ?_
   refine ⟨.inr rfl,jH (by simp [Tryz.results60];rfl) (by rfl) (by rfl) (by omega) (by simp) (by simp) ?_⟩
   simp only [single,res]
   exact ⟨_,rfl,t0,by omega,fun _=>t1⟩
  ·have W:=And.intro h0 h1
   refine wl ?_
   refine cu (zH) ?_
   rintro _ i2 h2 ⟨x,rfl,x0,x1⟩ hi2
   simp only [AS.drew,AS.called,aQ,AS.put,aL,aH,bS,bC,bR,bB,bV,bD,List.set_cons_succ,List.set_cons_zero,List.append_nil,List.nil_append,List.cons_append]
   refine bA ?_
   refine cu (zH) ?_
   rintro _ i3 h3 ⟨y,rfl,y0,y1⟩ hi3
   simp only [AS.drew,AS.called,aQ,AS.put,aL,aH,bS,bC,bR,bB,bV,bD,List.set_cons_succ,List.set_cons_zero,List.append_nil,List.nil_append,List.cons_append]
   refine bA ?_
   refine cu (zH) ?_
   rintro _ i4 h4 ⟨z,rfl,z0,z1⟩ hi4
   simp only [AS.drew,AS.called,aQ,AS.put,aL,aH,bS,bC,bR,bB,bV,bD,List.set_cons_succ,List.set_cons_zero,List.append_nil,List.nil_append,List.cons_append]
   have e1:IntKind.i64.wrap (x * 65536)=x * 65536:=by rw [wrap64]<;>omega
   have e2:IntKind.i64.wrap (y * 256)=y * 256:=by rw [wrap64]<;>omega
   have e3:IntKind.i64.wrap (x * 65536+y * 256)=x * 65536+y * 256:=by rw [wrap64]<;>omega
   have e4:IntKind.i64.wrap (x * 65536+y * 256+z)=x * 65536+y * 256+z:=by rw [wrap64]<;>omega
   obtain ⟨t0,t1⟩:=aMi (show 0≤x * 65536+y * 256+z by omega) (show 0 < n by omega)
   have W:=And.intro hn0 (And.intro e1 (And.intro e2 (And.intro e3 e4)))
   refine wl ?_
   refine ⟨.inr rfl,jH (by simp [Tryz.results60];rfl) (by rfl) (by rfl) (by omega) (by simp) (by simp) ?_⟩
   simp only [single,res]
   exact ⟨_,rfl,t0,by omega,fun _=>t1⟩
def bI0 (r:AV):Prop:=∃b:Bool,r= .bool b
theorem iF [aB Tryz.prog] (n:Int):OkC Tryz.prog 75 [.int .i64 n] bI0:=by
 refine uF Tryz.mix Tryz.func75 Tryz.ntmps75 ?_
 intro code i h hi hl
 simp only [aQ]
 refine bA ?_
 refine cu (kC n) ?_
 rintro _ i2 h2 ⟨x,rfl,x0,x1,x2⟩ hi2
 simp only [AS.drew,AS.called,aQ,AS.put,aL,aH,bS,bC,bR,bB,bV,bD,List.set_cons_succ,List.set_cons_zero,List.append_nil,List.nil_append,List.cons_append]
 refine bA ?_
 refine ⟨.inr rfl,jH (by simp [Tryz.results75];rfl) (by rfl) (by rfl) (by omega) (by simp) (by simp) ?_⟩
 simp only [single,res]
 exact ⟨_,rfl⟩
def bJw (l:List Str) (r:AV):Prop:=∃s∈l,r= .str s
theorem fO [aB Tryz.prog] (l:List Str) (h0:l≠[]):OkC Tryz.prog 37 [.sl .view 1 (l.map bX)] (bJw l):=by
 refine uF Tryz.mix Tryz.func37 Tryz.ntmps37 ?_
 intro code i h hi hl
 simp only [aQ]
 refine bA ?_
 refine cu (kC (l.length:Int)) ?_
 rintro _ i2 h2 ⟨x,rfl,x0,x1,x2⟩ hi2
 simp only [AS.drew,AS.called,aQ,AS.put,aL,aH,bS,bC,bR,bB,bV,bD,List.set_cons_succ,List.set_cons_zero,List.append_nil,List.nil_append,List.cons_append]
 have hp:0 < l.length:=List.length_pos_iff.2 h0
 obtain ⟨k,rfl⟩:=Int.eq_ofNat_of_zero_le x0
 have hlt:k < l.length:=by omega
 have hg:=List.getElem?_eq_getElem hlt
 have hm:=List.getElem_mem hlt
 generalize l[k]=s at *
 have W:=hg
 refine wl ?_
 refine ⟨.inr rfl,jH (by simp [Tryz.results37];rfl) (by rfl) (by rfl) (by omega) (by simp) (by simp) ?_⟩
 simp only [single,res]
 exact ⟨_,hm,rfl⟩
def bJr (l:List Int) (r:AV):Prop:=∃x∈l,r= .int .i64 x
theorem aD7 [aB Tryz.prog] (l:List Int) (h0:l≠[]):OkC Tryz.prog 80 [.sl .view 1 (l.map jI)] (bJr l):=by
 refine uF Tryz.mix Tryz.func80 Tryz.ntmps80 ?_
 intro code i h hi hl
 simp only [aQ]
 refine bA ?_
 refine cu (kC (l.length:Int)) ?_
 rintro _ i2 h2 ⟨x,rfl,x0,x1,x2⟩ hi2
 simp only [AS.drew,AS.called,aQ,AS.put,aL,aH,bS,bC,bR,bB,bV,bD,List.set_cons_succ,List.set_cons_zero,List.append_nil,List.nil_append,List.cons_append]
 have hp:0 < l.length:=List.length_pos_iff.2 h0
 obtain ⟨k,rfl⟩:=Int.eq_ofNat_of_zero_le x0
 have hlt:k < l.length:=by omega
 have hg:=List.getElem?_eq_getElem hlt
 have hm:=List.getElem_mem hlt
 generalize l[k]=s at *
 have W:=hg
 refine wl ?_
 refine ⟨.inr rfl,jH (by simp [Tryz.results80];rfl) (by rfl) (by rfl) (by omega) (by simp) (by simp) ?_⟩
 simp only [single,res]
 exact ⟨_,hm,rfl⟩
def aNu (n:Nat) (r:AV):Prop:=∃s:Str,r= .str s∧s.length≤n
theorem aKo [aB Tryz.prog]:OkC Tryz.prog 40 [] (aNu 60):=by
 refine uF Tryz.mix Tryz.func40 Tryz.ntmps40 ?_
 intro code i h hi hl
 simp only [aQ]
 refine bA ?_
 refine cu (kC 8) ?_
 rintro _ i2 h2 ⟨x,rfl,x0,x1,x2⟩ hi2
 simp only [AS.drew,AS.called,aQ,AS.put,aL,aH,bS,bC,bR,bB,bV,bD,List.set_cons_succ,List.set_cons_zero,List.append_nil,List.nil_append,List.cons_append]
 by_cases hx0:x=0
 ·subst hx0
  refine bA ?_
  refine jR (i:=1) (ver:=1) (by rfl) (by rfl) ?_ (by simp [AS.frozen,kG,jU,frz,kW,aA.frz,aA.kill,rtr,rtc,rt];rfl)
  refine cu (fO ([[112],[98],[115,99,114,105,112,116],[112,97,103,101]]:List Str) (by decide)) ?_
  rintro _ ju gu ⟨u,hmu,rfl⟩ hju
  simp only [AS.drew,AS.called,aQ,AS.put,aL,aH,bS,bC,bR,bB,bV,bD,List.set_cons_succ,List.set_cons_zero,List.append_nil,List.nil_append,List.cons_append]
  have hlu:=(by decide:∀s∈([[112],[98],[115,99,114,105,112,116],[112,97,103,101]]:List Str),s.length≤6) u hmu
  have W:=hlu
  refine wl ?_
  refine ⟨.inr rfl,jH (by simp [Tryz.results40];rfl) (by rfl) (by rfl) (by omega) (by simp) (by simp) ?_⟩
  simp only [single,res]
  exact ⟨_,rfl,by first|omega|(simp;omega)⟩
 ·have:=hx0
  by_cases hx1:x=1
  ·subst hx1
   refine bA ?_
   refine jR (i:=1) (ver:=1) (by rfl) (by rfl) ?_ (by simp [AS.frozen,kG,jU,frz,kW,aA.frz,aA.kill,rtr,rtc,rt];rfl)
   refine cu (fO ([[97,112,112],[99,100,110,47,108,105,98],[108,105,98],[101,118,105,108,47,97,112,112]]:List Str) (by decide)) ?_
   rintro _ ju gu ⟨u,hmu,rfl⟩ hju
   simp only [AS.drew,AS.called,aQ,AS.put,aL,aH,bS,bC,bR,bB,bV,bD,List.set_cons_succ,List.set_cons_zero,List.append_nil,List.nil_append,List.cons_append]
   have hlu:=(by decide:∀s∈([[97,112,112],[99,100,110,47,108,105,98],[108,105,98],[101,118,105,108,47,97,112,112]]:List Str),s.length≤8) u hmu
   have W:=hlu
   refine wl ?_
   refine ⟨.inr rfl,jH (by simp [Tryz.results40];rfl) (by rfl) (by rfl) (by omega) (by simp) (by simp) ?_⟩
   simp only [single,res]
   exact ⟨_,rfl,by first|omega|(simp;omega)⟩
  ·have:=hx1
   by_cases hx2:x=2
   ·subst hx2
    refine bA ?_
    refine jR (i:=1) (ver:=1) (by rfl) (by rfl) ?_ (by simp [AS.frozen,kG,jU,frz,kW,aA.frz,aA.kill,rtr,rtc,rt];rfl)
    refine cu (fO ([[97,112,112],[117,116,105,108]]:List Str) (by decide)) ?_
    rintro _ ju gu ⟨u,hmu,rfl⟩ hju
    simp only [AS.drew,AS.called,aQ,AS.put,aL,aH,bS,bC,bR,bB,bV,bD,List.set_cons_succ,List.set_cons_zero,List.append_nil,List.nil_append,List.cons_append]
    have hlu:=(by decide:∀s∈([[97,112,112],[117,116,105,108]]:List Str),s.length≤4) u hmu
    have W:=hlu
    refine wl ?_
    refine jR (i:=2) (ver:=1) (by rfl) (by rfl) ?_ (by simp [AS.frozen,kG,jU,frz,kW,aA.frz,aA.kill,rtr,rtc,rt];rfl)
    refine cu (fO ([[100,101,102,101,114],[109,111,100,117,108,101]]:List Str) (by decide)) ?_
    rintro _ jv gv ⟨v,hmv,rfl⟩ hjv
    simp only [AS.drew,AS.called,aQ,AS.put,aL,aH,bS,bC,bR,bB,bV,bD,List.set_cons_succ,List.set_cons_zero,List.append_nil,List.nil_append,List.cons_append]
    have hlv:=(by decide:∀s∈([[100,101,102,101,114],[109,111,100,117,108,101]]:List Str),s.length≤6) v hmv
    have W:=And.intro hlu hlv
    refine wl ?_
    refine ⟨.inr rfl,jH (by simp [Tryz.results40];rfl) (by rfl) (by rfl) (by omega) (by simp) (by simp) ?_⟩
    simp only [single,res]
    exact ⟨_,rfl,by first|omega|(simp;omega)⟩
   ·have:=hx2
    by_cases hx3:x=3
    ·subst hx3
     refine bA ?_
     refine jR (i:=1) (ver:=1) (by rfl) (by rfl) ?_ (by simp [AS.frozen,kG,jU,frz,kW,aA.frz,aA.kill,rtr,rtc,rt];rfl)
     refine cu (fO ([[108,111,103,111],[99,100,110,47,108,111,103,111]]:List Str) (by decide)) ?_
     rintro _ ju gu ⟨u,hmu,rfl⟩ hju
     simp only [AS.drew,AS.called,aQ,AS.put,aL,aH,bS,bC,bR,bB,bV,bD,List.set_cons_succ,List.set_cons_zero,List.append_nil,List.nil_append,List.cons_append]
     have hlu:=(by decide:∀s∈([[108,111,103,111],[99,100,110,47,108,111,103,111]]:List Str),s.length≤8) u hmu
     have W:=hlu
     refine wl ?_
     refine ⟨.inr rfl,jH (by simp [Tryz.results40];rfl) (by rfl) (by rfl) (by omega) (by simp) (by simp) ?_⟩
     simp only [single,res]
     exact ⟨_,rfl,by first|omega|(simp;omega)⟩
    ·have:=hx3
     by_cases hx4:x=4
     ·subst hx4
      refine bA ?_
      refine jR (i:=1) (ver:=1) (by rfl) (by rfl) ?_ (by simp [AS.frozen,kG,jU,frz,kW,aA.frz,aA.kill,rtr,rtc,rt];rfl)
      refine cu (fO ([[115,116,121,108,101],[99,100,110,47,115,116,121,108,101]]:List Str) (by decide)) ?_
      rintro _ ju gu ⟨u,hmu,rfl⟩ hju
      simp only [AS.drew,AS.called,aQ,AS.put,aL,aH,bS,bC,bR,bB,bV,bD,List.set_cons_succ,List.set_cons_zero,List.append_nil,List.nil_append,List.cons_append]
      have hlu:=(by decide:∀s∈([[115,116,121,108,101],[99,100,110,47,115,116,121,108,101]]:List Str),s.length≤9) u hmu
      have W:=hlu
      refine wl ?_
      refine ⟨.inr rfl,jH (by simp [Tryz.results40];rfl) (by rfl) (by rfl) (by omega) (by simp) (by simp) ?_⟩
      simp only [single,res]
      exact ⟨_,rfl,by first|omega|(simp;omega)⟩
     ·have:=hx4
      by_cases hx5:x=5
      ·subst hx5
       refine bA ?_
       refine jR (i:=1) (ver:=1) (by rfl) (by rfl) ?_ (by simp [AS.frozen,kG,jU,frz,kW,aA.frz,aA.kill,rtr,rtc,rt];rfl)
       refine cu (fO ([[112,32,97,61,98],[],[80],[112,32,97],[112,32,97,61],[112,32,32,97,61,98],[112,32,97,61,98,32,97,61,99],[112,32,97,61,98,32,98,61,99,32,99,61,100,32,100,61,101,32,101,61,102],[47],[112,32,97,61,98,61,99]]:List Str) (by decide)) ?_
       rintro _ ju gu ⟨u,hmu,rfl⟩ hju
       simp only [AS.drew,AS.called,aQ,AS.put,aL,aH,bS,bC,bR,bB,bV,bD,List.set_cons_succ,List.set_cons_zero,List.append_nil,List.nil_append,List.cons_append]
       have hlu:=(by decide:∀s∈([[112,32,97,61,98],[],[80],[112,32,97],[112,32,97,61],[112,32,32,97,61,98],[112,32,97,61,98,32,97,61,99],[112,32,97,61,98,32,98,61,99,32,99,61,100,32,100,61,101,32,101,61,102],[47],[112,32,97,61,98,61,99]]:List Str),s.length≤21) u hmu
       have W:=hlu
       refine wl ?_
       refine ⟨.inr rfl,jH (by simp [Tryz.results40];rfl) (by rfl) (by rfl) (by omega) (by simp) (by simp) ?_⟩
       simp only [single,res]
       exact ⟨_,rfl,by first|omega|(simp;omega)⟩
      ·have:=hx5
       have W:=And.intro hx0 (And.intro hx1 (And.intro hx2 (And.intro hx3 (And.intro hx4 hx5))))
       refine wl ?_
       refine jR (i:=1) (ver:=1) (by rfl) (by rfl) ?_ (by simp [AS.frozen,kG,jU,frz,kW,aA.frz,aA.kill,rtr,rtc,rt];rfl)
       refine cu (fO ([[112],[98],[112,97,103,101],[115,99,114,105,112,116]]:List Str) (by decide)) ?_
       rintro _ ju gu ⟨u,hmu,rfl⟩ hju
       simp only [AS.drew,AS.called,aQ,AS.put,aL,aH,bS,bC,bR,bB,bV,bD,List.set_cons_succ,List.set_cons_zero,List.append_nil,List.nil_append,List.cons_append]
       have hlu:=(by decide:∀s∈([[112],[98],[112,97,103,101],[115,99,114,105,112,116]]:List Str),s.length≤6) u hmu
       have W:=hlu
       refine wl ?_
       refine ⟨.inr rfl,jH (by simp [Tryz.results40];rfl) (by rfl) (by rfl) (by omega) (by simp) (by simp) ?_⟩
       simp only [single,res]
       exact ⟨_,rfl,by omega⟩
theorem aRf [aB Tryz.prog] (m:Nat) (hm:m≤100):OkC Tryz.prog 164 [.int .i64 (m:Int)] (aNu (62 * m+10)):=by
 refine uF Tryz.mix Tryz.func164 Tryz.ntmps164 ?_
 intro code i h hi hl
 simp only [aQ]
 have hm1:IntKind.i64.wrap ((m:Int)+1)=(m:Int)+1:=by rw [wrap64]<;>omega
 have W:=hm1
 refine wl ?_
 refine cu (kC ((m:Int)+1)) ?_
 rintro _ i2 h2 ⟨x,rfl,x0,x1,x2⟩ hi2
 simp only [AS.drew,AS.called,aQ,AS.put,aL,aH,bS,bC,bR,bB,bV,bD,List.set_cons_succ,List.set_cons_zero,List.append_nil,List.nil_append,List.cons_append]
 obtain ⟨n,rfl⟩:=Int.eq_ofNat_of_zero_le x0
 have hn:n≤m:=by omega
 refine bA ?_
 refine aR (ι:={x:Nat×Str×Int×Int // x.1≤m∧x.2.1.length+62 * x.1≤62 * m∧0≤x.2.2.1}) (fun t o y=>⟨aS t [(5,.str y.1.2.1),(6,.int .i64 (y.1.1:Int))],[⟨true,true,3,2,[[.sl .view 1 (aT code),.int .i64 y.1.2.2.1,.int .i64 y.1.2.2.2]]⟩]⟩)
  (fun y=>y.1.1) ⟨(n,[],i2,h2),hn,by simp;omega,hi2⟩ aO ?_
 rintro ⟨⟨k,s,j,g⟩,hk,hs,hj⟩ K1 hK1
 simp only at hk hs hj
 by_cases h0:0 < k
 ·have hk0:(k:Int) > 0:=by omega
  have hk1:IntKind.i64.wrap ((k:Int) - 1)=((k - 1:Nat):Int):=by rw [wrap64]<;>omega
  have hK2:=hK1
  simp only [aS,List.set_cons_succ,List.set_cons_zero] at hK1⊢
  clear hK1
  have W:=hk0
  refine wl ?_
  refine cu (iF 3) ?_
  rintro _ j2 g2 ⟨b,rfl⟩ hj2
  simp only [AS.drew,AS.called,aQ,AS.put,aL,aH,bS,bC,bR,bB,bV,bD,List.set_cons_succ,List.set_cons_zero,List.append_nil,List.nil_append,List.cons_append]
  cases b
  ·refine bA ?_
   refine cu (aKo) ?_
   rintro _ j3 g3 ⟨u,rfl,hu⟩ hj3
   simp only [AS.drew,AS.called,aQ,AS.put,aL,aH,bS,bC,bR,bB,bV,bD,List.set_cons_succ,List.set_cons_zero,List.append_nil,List.nil_append,List.cons_append]
   have hlu:s.length+1+u.length+1≤6200:=by omega
   have W:=And.intro hk1 hlu
   refine wl ?_
   refine hK2 _ ⟨(k - 1,s++[60]++u++[62],j3,g3),by simp only;omega,by simp;omega,hj3⟩ ?_ (by simp only;omega)
   exact aN 1 (by simp) (by simp) (by simp) (by simp)
  ·refine bA ?_
   refine jR (i:=1) (ver:=1) (by rfl) (by rfl) ?_ (by simp [AS.frozen,kG,jU,frz,kW,aA.frz,aA.kill,rtr,rtc,rt];rfl)
   refine cu (fO ([[104,105],[97,32,98],[99,111,117,110,116],[120,62,121],[]]:List Str) (by decide)) ?_
   rintro _ j3 g3 ⟨u,hm3,rfl⟩ hj3
   simp only [AS.drew,AS.called,aQ,AS.put,aL,aH,bS,bC,bR,bB,bV,bD,List.set_cons_succ,List.set_cons_zero,List.append_nil,List.nil_append,List.cons_append]
   have hu:=(by decide:∀s∈([[104,105],[97,32,98],[99,111,117,110,116],[120,62,121],[]]:List Str),s.length≤5) u hm3
   have hlu:s.length+u.length≤6200:=by omega
   have W:=And.intro hk1 hlu
   refine wl ?_
   refine hK2 _ ⟨(k - 1,s++u,j3,g3),by simp only;omega,by simp;omega,hj3⟩ ?_ (by simp only;omega)
   exact aN 1 (by simp) (by simp) (by simp) (by simp)
 ·have hk0:¬(k:Int) > 0:=by omega
  simp only [aS,List.set_cons_succ,List.set_cons_zero] at hK1⊢
  clear hK1
  have W:=hk0
  refine wl ?_
  refine cu (iF 6) ?_
  rintro _ j2 g2 ⟨b,rfl⟩ hj2
  simp only [AS.drew,AS.called,aQ,AS.put,aL,aH,bS,bC,bR,bB,bV,bD,List.set_cons_succ,List.set_cons_zero,List.append_nil,List.nil_append,List.cons_append]
  cases b
  ·refine bA ?_
   refine ⟨.inr rfl,jH (by simp [Tryz.results164];rfl) (by rfl) (by rfl) (by omega) (by simp) (by simp) ?_⟩
   simp only [single,res]
   exact ⟨_,rfl,by omega⟩
  ·refine bA ?_
   refine jR (i:=1) (ver:=1) (by rfl) (by rfl) ?_ (by simp [AS.frozen,kG,jU,frz,kW,aA.frz,aA.kill,rtr,rtc,rt];rfl)
   refine cu (fO ([[60,112],[60],[101,110,100]]:List Str) (by decide)) ?_
   rintro _ j3 g3 ⟨u,hm3,rfl⟩ hj3
   simp only [AS.drew,AS.called,aQ,AS.put,aL,aH,bS,bC,bR,bB,bV,bD,List.set_cons_succ,List.set_cons_zero,List.append_nil,List.nil_append,List.cons_append]
   have hu:=(by decide:∀s∈([[60,112],[60],[101,110,100]]:List Str),s.length≤3) u hm3
   have hlu:s.length+u.length≤6300:=by omega
   have W:=hlu
   refine wl ?_
   refine ⟨.inr rfl,jH (by simp [Tryz.results164];rfl) (by rfl) (by rfl) (by omega) (by simp) (by simp) ?_⟩
   simp only [single,res]
   exact ⟨_,rfl,by simp;omega⟩
theorem aEk [aB Tryz.prog]:aMr Tryz.prog 35:=by
 refine bJs Tryz.mix Tryz.func35 Tryz.ntmps35 ?_
 intro code hl
 simp only [maxLen] at hl
 refine bA ?_
 refine aR (ι:={x:Nat×Int // x.1≤code.length}) (fun t o y=>⟨aS t [(3,.int .i64 y.1.2),(4,.int .i64 (y.1.1:Int))],o⟩)
  (fun y=>code.length - y.1.1) ⟨(0,IntKind.i64.wrap (193017+(code.length:Int))),by simp⟩ aO ?_
 rintro ⟨⟨k,g⟩,hk⟩ K1 hK1
 simp only at hk
 simp only [aS,List.set_cons_succ,List.set_cons_zero] at hK1⊢
 by_cases hlt:k < code.length
 ·have h1:(k:Int) < (code.length:Int):=by omega
  by_cases h2:(k:Int) < 4000
  ·have hg:=aN9 (List.getElem?_eq_getElem hlt)
   generalize code[k]=c at *
   have hk1:=wk1 (k:=k) (by omega)
   have W:=And.intro h1 (And.intro h2 (And.intro hg hk1))
   refine wl ?_
   refine hK1 _ ⟨(k+1,xW .and .i64 (IntKind.i64.wrap (IntKind.i64.wrap (IntKind.i64.wrap (g * 137)+IntKind.i64.wrap (c.toNat:Int))+11)) 1073741823),by simp only;omega⟩ ?_ (by simp only;omega)
   exact aO (by simp) (by simp)
  ·have W:=And.intro h1 h2
   refine wl ?_
   refine ⟨.inr rfl,0,0,0,_,by first|(simp [Tryz.results35];done)|(simp [Tryz.results35];rfl),by first|rfl|(simp [aQ];done)|(simp [aQ];rfl),by omega⟩
 ·have h1:¬(k:Int) < (code.length:Int):=by omega
  have W:=h1
  refine wl ?_
  refine ⟨.inr rfl,0,0,0,_,by first|(simp [Tryz.results35];done)|(simp [Tryz.results35];rfl),by first|rfl|(simp [aQ];done)|(simp [aQ];rfl),by omega⟩
end Go.Proofs.YtaddkhdghlaalaaGreatDoor
