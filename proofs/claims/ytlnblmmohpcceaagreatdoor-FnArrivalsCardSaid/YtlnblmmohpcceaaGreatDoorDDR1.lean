/-
  Proved here: steps towards the statement of this claim, text DR1.
  No condition beyond what each statement spells out.
-/
import Derived.Test.YtlnblmmohpcceaaGreatDoorDQA0
import Derived.Test.YtlnblmmohpcceaaGreatDoorDF8
import Derived.Test.YtlnblmmohpcceaaGreatDoorDF6
import Derived.Test.YtlnblmmohpcceaaGreatDoorDF4
set_option linter.all false
set_option maxRecDepth 4000
set_option maxHeartbeats 4000000
namespace Go.Proofs.YtlnblmmohpcceaaGreatDoor
open Go.Aw
theorem aJ8 (a:Int):0≤mR .and .i64 a 255∧mR .and .i64 a 255≤255:=by
 unfold mR
 simp only
 have h:(BitVec.ofInt (IntKind.i64.bits) a&&& BitVec.ofInt (IntKind.i64.bits) 255).toNat≤255:=by
  rw [BitVec.toNat_and]
  exact Nat.le_trans Nat.and_le_right (by decide)
 rw [wrap64]<;>omega
@[simp] theorem aPx (t:Tg→Option Tg) (b:Bool) (l:List UInt8):rtr t b (aO l)=aO l:=by unfold aO;exact aG (by intro x;rfl) l
@[simp] theorem aPv (l:List UInt8):(aO l).length=l.length:=by simp [aO]
theorem aB1 {l:List UInt8} {n:Nat} {c:UInt8} (h:l[n]? =some c):(aO l)[n]? =some [.int .u8 c.toNat]:=by simp [aO,h]
def aPd (r:AV):Prop:=∃x:Int,r= .int .i64 x∧0≤x∧x≤255
theorem nW [aB Tryz.prog]:OkC Tryz.prog 120 [] aPd:=by
 refine jU Tryz.mix Tryz.func120 Tryz.ntmps120 ?_
 intro code i h hi hl
 obtain ⟨n,rfl⟩:=Int.eq_ofNat_of_zero_le hi
 simp only [aD]
 simp only [maxLen] at hl
 by_cases hlt:n < code.length
 ·have hli:(n:Int) < (code.length:Int):=by omega
  have hg:=aB1 (List.getElem?_eq_getElem hlt)
  generalize code[n]=c at *
  have hk:IntKind.i64.wrap ((n:Int)+1)=((n+1:Nat):Int):=by rw [wrap64]<;>omega
  have W:=And.intro hli (And.intro hg hk)
  repeat' first|refine wl ?_|(refine sq (fun hc=>?_) (fun hc=>?_)<;>try exact hc.elim)|fail
  refine ⟨.inr rfl,dB (by simp [Tryz.results120];rfl) (by rfl) (by rfl) (by omega) (by simp) (by simp) (by simp) ?_⟩
  simp only [single,res]
  exact ⟨_,rfl,aJ8 _⟩
 ·have hli:¬(n:Int) < (code.length:Int):=by omega
  have W:=hli
  repeat' first|refine wl ?_|(refine sq (fun hc=>?_) (fun hc=>?_)<;>try exact hc.elim)|fail
  refine ⟨.inr rfl,dB (by simp [Tryz.results120];rfl) (by rfl) (by rfl) (by omega) (by simp) (by simp) (by simp) ?_⟩
  simp only [single,res]
  exact ⟨_,rfl,aJ8 _⟩
end Go.Proofs.YtlnblmmohpcceaaGreatDoor
