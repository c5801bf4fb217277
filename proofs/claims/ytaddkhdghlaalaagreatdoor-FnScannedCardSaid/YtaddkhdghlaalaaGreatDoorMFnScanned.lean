/-
  Proved here: steps towards the statement of this claim, text MFnScanned.
  No condition beyond what each statement spells out.
-/
import Derived.Test.YtaddkhdghlaalaaGreatDoorF5
import Derived.Lay
import Derived.SevenTiedAt
import Derived.Test.YtaddkhdghlaalaaGreatDoorRows
import Derived.Test.YtaddkhdghlaalaaGreatDoorCards
import Derived.Test.YtaddkhdghlaalaaGreatDoorTie
import Derived.Test.YtaddkhdghlaalaaGreatDoorLFnScanned
import Derived.Test.YtaddkhdghlaalaaGreatDoorYShelf
set_option linter.all false
set_option maxRecDepth 8000
set_option maxHeartbeats 8000000
namespace Go.Proofs.YtaddkhdghlaalaaGreatDoor
open Go.Aw
set_option maxRecDepth 100000 in
theorem law3_lifted (os:Os) (started:os.Started) (H:Type) (enc:TypeId×Value→H):
  ReturnsInHanded {} Tryz.checked os 3 .any (fun w args=>(Rows.fnScannedSpec.pre enc Tryz.prog Tryz.f3 Rows.fnScannedRow.domain false w args∧laidMetH Tryz.prog Rows.fnScannedRow.laid w)∧sizedMet enc Tryz.prog Tryz.f3 (OpenSpec.ofChange Rows.fnScannedSpec) false w args) (Rows.fnScannedSpec.post enc Tryz.prog Tryz.f3 false true false false):=by
 refine aNd (C:=Tryz.checked) (X:=fun w _=>laidMetH Tryz.prog Rows.fnScannedRow.laid w) (fun _ _ _ hh h=>h.of_heap hh) (by kernel_rfl) started (by kernel_rfl) Tryz.func3
  (ChangeSpec.witness_shaped (enc:=enc) (C:=Tryz.checked) (os:=os) (X:=fun w _=>laidMetH Tryz.prog Rows.fnScannedRow.laid w) false (World.laidAll Tryz.prog os Rows.fnScannedRow.laid) #[.slice none 0 0] 8 (World.laidAll_os _ _ _) (World.shaped_of_ZipB (by kernel_rfl) (by kernel_rfl)) (by kernel_rfl) (by kernel_rfl) (by kernel_rfl) (by rw [MakeChecks.laidMetH_plain _ _ _ (by kernel_rfl)];exact laidMet_laidAll _ (by kernel_rfl) (by kernel_rfl))) ?_
 intro W base args ds gs before hval hW hL hsh
 rw [MakeChecks.laidMetH_plain _ _ _ (by kernel_rfl)] at hL
 obtain ⟨_,hL,_⟩:=hL
 have hmax:∀g,Tryz.prog.globalNamed "internal/bytealg.MaxLen" =some g→∃m,W.cell? ⟨g,0,none⟩=some (.int .i64 m):=fun g hg=>by
  obtain rfl:=Option.some.inj ((show Tryz.prog.globalNamed "internal/bytealg.MaxLen" =some 0 by kernel_rfl).symm.trans hg)
  exact Tryz.laysM146.s1_3 W hsh
 letI T:aB Tryz.prog:={holds:=aCl Tryz.prog 1 [] ["internal/bytealg.MaxLen"],low:=1,low_le:=fun _ h=>h.1,stable:=aWz (by kernel_rfl)}
 haveI:dB Tryz.prog:=⟨fun w h g hg=>h.2.2 "internal/bytealg.MaxLen" (by simp) g hg⟩
 have hT:aCl Tryz.prog 1 [] ["internal/bytealg.MaxLen"] W:=⟨(hmax 0 (by kernel_rfl)).elim fun _ hm=>aT3 hm (by decide),by simp,fun n hn=>by (simp only [List.mem_singleton] at hn;subst hn;exact hmax)⟩
 exact bDw (C:=Tryz.checked) (T:=T) (ss:=[.one (.sl 1 [.int .u8])]) (fuel:=8) (tb:=4) (by kernel_rfl) (by decide+kernel) (by kernel_rfl) (by kernel_rfl) (by kernel_rfl) rfl
  (fun ds h=>by
   match ds,h with
   |[d0],_=>rfl)
  (fun avs hf=>by
   obtain ⟨x,r0,rfl,hx,hf1⟩:=bA2 hf
   obtain ⟨d,rfl,hwd⟩:=aXd hx
   obtain rfl:=bA1 hf1
   exact aQg d hwd) hT hval hW
end Go.Proofs.YtaddkhdghlaalaaGreatDoor
