/-
  Proved here: steps towards the statement of this claim, text MFnSlots.
  No condition beyond what each statement spells out.
-/
import Derived.Test.YtkidoegojckmiaaGreatDoorAF7
import Derived.Lay
import Derived.SevenTiedAt
import Derived.Test.YtkidoegojckmiaaGreatDoorRows
import Derived.Test.YtkidoegojckmiaaGreatDoorCards
import Derived.Test.YtkidoegojckmiaaGreatDoorTie
import Derived.Test.YtkidoegojckmiaaGreatDoorALFnSlots
import Derived.Test.YtkidoegojckmiaaGreatDoorAYShelf
set_option linter.all false
set_option maxRecDepth 8000
set_option maxHeartbeats 8000000
namespace Go.Proofs.YtkidoegojckmiaaGreatDoor
open Go.Aw
set_option maxRecDepth 100000 in
theorem law3_lifted (os:Os) (started:os.Started) (H:Type) (enc:TypeId×Value→H):
  ReturnsInHanded {} Tryz.checked os 3 .any (fun w args=>(Rows.fnSlotsSpec.pre enc Tryz.prog Tryz.f3 Rows.fnSlotsRow.domain false w args∧laidMetH Tryz.prog Rows.fnSlotsRow.laid w)∧sizedMet enc Tryz.prog Tryz.f3 (OpenSpec.ofChange Rows.fnSlotsSpec) false w args) (Rows.fnSlotsSpec.post enc Tryz.prog Tryz.f3 false true false false):=by
 refine aFc (C:=Tryz.checked) (X:=fun w _=>laidMetH Tryz.prog Rows.fnSlotsRow.laid w) (fun _ _ _ hh h=>h.of_heap hh) (by kernel_rfl) started (by kernel_rfl) Tryz.func3
  (ChangeSpec.witness_shaped (enc:=enc) (C:=Tryz.checked) (os:=os) (X:=fun w _=>laidMetH Tryz.prog Rows.fnSlotsRow.laid w) false (World.laidAll Tryz.prog os Rows.fnSlotsRow.laid) #[.slice none 0 0] 8 (World.laidAll_os _ _ _) (World.shaped_of_ZipB (by kernel_rfl) (by kernel_rfl)) (by kernel_rfl) (by kernel_rfl) (by kernel_rfl) (by rw [MakeChecks.laidMetH_plain _ _ _ (by kernel_rfl)];exact laidMet_laidAll _ (by kernel_rfl) (by kernel_rfl))) ?_
 intro W base args ds gs before hval hW hL hsh
 rw [MakeChecks.laidMetH_plain _ _ _ (by kernel_rfl)] at hL
 obtain ⟨_,hL,_⟩:=hL
 have hpow:Lib.TabIs Tryz.prog W "internal/strconv.uint64pow10" .u64 Lib.pow10Tab:=zC (by kernel_rfl) hL (List.mem_of_getElem? (i:=2) (by kernel_rfl))
 have hmax:∀g,Tryz.prog.globalNamed "internal/bytealg.MaxLen" =some g→∃m,W.cell? ⟨g,0,none⟩=some (.int .i64 m):=fun g hg=>by
  obtain rfl:=Option.some.inj ((show Tryz.prog.globalNamed "internal/bytealg.MaxLen" =some 0 by kernel_rfl).symm.trans hg)
  exact Tryz.laysM146.s1_3 W hsh
 have herr:vC Tryz.prog W:=⟨sV (nm:= "*errors.errorString") (d:= .ptr (.agg [.lit (.string [105,110,118,97,108,105,100,32,115,121,110,116,97,120])])) (by kernel_rfl) hL (List.mem_of_getElem? (i:=5) (by kernel_rfl)),sV (nm:= "*errors.errorString") (d:= .ptr (.agg [.lit (.string [118,97,108,117,101,32,111,117,116,32,111,102,32,114,97,110,103,101])])) (by kernel_rfl) hL (List.mem_of_getElem? (i:=4) (by kernel_rfl))⟩
 letI T:aB Tryz.prog:={holds:=fun w=>pU Tryz.prog 4 [("internal/strconv.uint64pow10",.u64,Lib.pow10Tab)] ["internal/bytealg.MaxLen"] w∧vC Tryz.prog w,low:=4,low_le:=fun _ h=>h.1.1,stable:=aK7 (by kernel_rfl)}
 haveI:eG Tryz.prog:=⟨fun w h=>h.1.2.1 ("internal/strconv.uint64pow10",.u64,Lib.pow10Tab) (by simp)⟩
 haveI:bV Tryz.prog:=⟨fun w h g hg=>h.1.2.2 "internal/bytealg.MaxLen" (by simp) g hg⟩
 haveI:uQ Tryz.prog:=⟨fun w h=>h.2⟩
 have hT:pU Tryz.prog 4 [("internal/strconv.uint64pow10",.u64,Lib.pow10Tab)] ["internal/bytealg.MaxLen"] W∧vC Tryz.prog W:=⟨⟨aKp hpow (g:=3) (by kernel_rfl) (by decide),by simp [hpow],fun n hn=>by (simp only [List.mem_singleton] at hn;subst hn;exact hmax)⟩,herr⟩
 exact aR2 (C:=Tryz.checked) (T:=T) (ss:=[.one (.sl 1 [.int .u8])]) (fuel:=8) (tb:=4) (by kernel_rfl) (by decide+kernel) (by kernel_rfl) (by kernel_rfl) (by kernel_rfl) rfl
  (fun ds h=>by
   match ds,h with
   |[d0],_=>rfl)
  (fun avs hf=>by
   obtain ⟨x,r0,rfl,hx,hf1⟩:=aO9 hf
   obtain ⟨d,rfl,hwd⟩:=aM0 hx
   obtain rfl:=aPt hf1
   exact aLv d hwd) hT hval hW
end Go.Proofs.YtkidoegojckmiaaGreatDoor
