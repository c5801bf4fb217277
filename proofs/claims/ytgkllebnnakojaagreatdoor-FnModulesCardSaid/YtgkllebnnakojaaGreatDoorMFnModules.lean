/-
  Proved here: steps towards the statement of this claim, text MFnModules.
  No condition beyond what each statement spells out.
-/
import Derived.Test.YtgkllebnnakojaaGreatDoorF5
import Derived.Lay
import Derived.SevenTiedAt
import Derived.Test.YtgkllebnnakojaaGreatDoorRows
import Derived.Test.YtgkllebnnakojaaGreatDoorCards
import Derived.Test.YtgkllebnnakojaaGreatDoorTie
import Derived.Test.YtgkllebnnakojaaGreatDoorLFnModules
import Derived.Test.YtgkllebnnakojaaGreatDoorYShelf
set_option linter.all false
set_option maxRecDepth 8000
set_option maxHeartbeats 8000000
namespace Go.Proofs.YtgkllebnnakojaaGreatDoor
open Go.Aw
set_option maxRecDepth 100000 in
theorem law3_lifted (os:Os) (started:os.Started) (H:Type) (enc:TypeId×Value→H):
  ReturnsInHanded {} Tryz.checked os 3 .any (fun w args=>(Rows.fnModulesSpec.pre enc Tryz.prog Tryz.f3 Rows.fnModulesRow.domain false w args∧laidMetH Tryz.prog Rows.fnModulesRow.laid w)∧sizedMet enc Tryz.prog Tryz.f3 (OpenSpec.ofChange Rows.fnModulesSpec) false w args) (Rows.fnModulesSpec.post enc Tryz.prog Tryz.f3 false true false false):=by
 refine aGe (C:=Tryz.checked) (X:=fun w _=>laidMetH Tryz.prog Rows.fnModulesRow.laid w) (fun _ _ _ hh h=>h.of_heap hh) (by kernel_rfl) started (by kernel_rfl) Tryz.func3
  (ChangeSpec.witness_shaped (enc:=enc) (C:=Tryz.checked) (os:=os) (X:=fun w _=>laidMetH Tryz.prog Rows.fnModulesRow.laid w) false (World.laidAll Tryz.prog os Rows.fnModulesRow.laid) #[.slice none 0 0] 8 (World.laidAll_os _ _ _) (World.shaped_of_ZipB (by kernel_rfl) (by kernel_rfl)) (by kernel_rfl) (by kernel_rfl) (by kernel_rfl) (by rw [MakeChecks.laidMetH_plain _ _ _ (by kernel_rfl)];exact laidMet_laidAll _ (by kernel_rfl) (by kernel_rfl))) ?_
 intro W base args ds gs before hval hW hL hsh
 rw [MakeChecks.laidMetH_plain _ _ _ (by kernel_rfl)] at hL
 obtain ⟨_,hL,_⟩:=hL
 have hmax:∀g,Tryz.prog.globalNamed "internal/bytealg.MaxLen" =some g→∃m,W.cell? ⟨g,0,none⟩=some (.int .i64 m):=fun g hg=>by
  obtain rfl:=Option.some.inj ((show Tryz.prog.globalNamed "internal/bytealg.MaxLen" =some 0 by kernel_rfl).symm.trans hg)
  exact Tryz.laysM146.s1_3 W hsh
 letI T:aB Tryz.prog:={holds:=vS Tryz.prog 1 [] ["internal/bytealg.MaxLen"],low:=1,low_le:=fun _ h=>h.1,stable:=aNr (by kernel_rfl)}
 haveI:cO Tryz.prog:=⟨fun w h g hg=>h.2.2 "internal/bytealg.MaxLen" (by simp) g hg⟩
 have hT:vS Tryz.prog 1 [] ["internal/bytealg.MaxLen"] W:=⟨(hmax 0 (by kernel_rfl)).elim fun _ hm=>aJh hm (by decide),by simp,fun n hn=>by (simp only [List.mem_singleton] at hn;subst hn;exact hmax)⟩
 exact aSa (C:=Tryz.checked) (T:=T) (ss:=[.one (.sl 1 [.int .u8])]) (fuel:=8) (tb:=4) (by kernel_rfl) (by decide+kernel) (by kernel_rfl) (by kernel_rfl) (by kernel_rfl) rfl
  (fun ds h=>by
   match ds,h with
   |[d0],_=>rfl)
  (fun avs hf=>by
   obtain ⟨x,r0,rfl,hx,hf1⟩:=aRc hf
   obtain ⟨d,rfl,hwd⟩:=aN9 hx
   obtain rfl:=aQi hf1
   exact aH1 d hwd) hT hval hW
end Go.Proofs.YtgkllebnnakojaaGreatDoor
