/-
  Proved here: steps towards the statement of this claim, text MRunCode.
  No condition beyond what each statement spells out.
-/
import Derived.Test.YtgkcdgaljknohaaGreatDoorF7
import Derived.Lay
import Derived.SevenTiedAt
import Derived.Test.YtgkcdgaljknohaaGreatDoorRows
import Derived.Test.YtgkcdgaljknohaaGreatDoorCards
import Derived.Test.YtgkcdgaljknohaaGreatDoorTie
import Derived.Test.YtgkcdgaljknohaaGreatDoorLRunCode
import Derived.Test.YtgkcdgaljknohaaGreatDoorYShelf
set_option linter.all false
set_option maxRecDepth 8000
set_option maxHeartbeats 8000000
namespace Go.Proofs.YtgkcdgaljknohaaGreatDoor
open Go.Aw
set_option maxRecDepth 100000 in
theorem law3_lifted (os:Os) (started:os.Started) (H:Type) (enc:TypeId×Value→H):
  ReturnsInHanded {} Tryz.checked os 3 .any (fun w args=>(Rows.fnExactRunCodeSpec.pre enc Tryz.prog Tryz.f3 Rows.fnExactRunCodeRow.domain false w args∧laidMetH Tryz.prog Rows.fnExactRunCodeRow.laid w)∧sizedMet enc Tryz.prog Tryz.f3 (OpenSpec.ofChange Rows.fnExactRunCodeSpec) false w args) (Rows.fnExactRunCodeSpec.post enc Tryz.prog Tryz.f3 false true false false):=by
 refine returnsIn_door (C:=Tryz.checked) (X:=fun w _=>laidMetH Tryz.prog Rows.fnExactRunCodeRow.laid w) (fun _ _ _ hh h=>h.of_heap hh) (by kernel_rfl) started (by kernel_rfl) Tryz.func3
  (ChangeSpec.witness_shaped (enc:=enc) (C:=Tryz.checked) (os:=os) (X:=fun w _=>laidMetH Tryz.prog Rows.fnExactRunCodeRow.laid w) false (World.laidAll Tryz.prog os Rows.fnExactRunCodeRow.laid) #[.agg #[.string ⟨#[]⟩,.string ⟨#[]⟩,.bool false,.slice none 0 0,.slice none 0 0,.slice none 0 0,.string ⟨#[]⟩,.string ⟨#[]⟩,.slice none 0 0,.bool false,.slice none 0 0,.slice none 0 0,.slice none 0 0,.slice none 0 0,.slice none 0 0,.int .i64 0,.int .i64 0,.int .i64 0,.int .i64 0,.slice none 0 0,.slice none 0 0,.bool false],.string ⟨#[]⟩,.bool false] 8 (World.laidAll_os _ _ _) (World.shaped_of_ZipB (by kernel_rfl) (by kernel_rfl)) (by kernel_rfl) (by kernel_rfl) (by kernel_rfl) (by rw [MakeChecks.laidMetH_plain _ _ _ (by kernel_rfl)];exact laidMet_laidAll _ (by kernel_rfl) (by kernel_rfl))) ?_
 intro W base args ds gs before hval hW hL hsh
 rw [MakeChecks.laidMetH_plain _ _ _ (by kernel_rfl)] at hL
 obtain ⟨_,hL,_⟩:=hL
 have hpow:Lib.TabIs Tryz.prog W "internal/strconv.uint64pow10" .u64 Lib.pow10Tab:=tabIs_of_vars (by kernel_rfl) hL (List.mem_of_getElem? (i:=2) (by kernel_rfl))
 have hmax:∀g,Tryz.prog.globalNamed "internal/bytealg.MaxLen" =some g→∃m,W.cell? ⟨g,0,none⟩=some (.int .i64 m):=fun g hg=>by
  obtain rfl:=Option.some.inj ((show Tryz.prog.globalNamed "internal/bytealg.MaxLen" =some 0 by kernel_rfl).symm.trans hg)
  exact Tryz.laysM146.s1_3 W hsh
 have herr:errHolds Tryz.prog W:=⟨iface_of_vars (nm:= "*errors.errorString") (d:= .ptr (.agg [.lit (.string [105,110,118,97,108,105,100,32,115,121,110,116,97,120])])) (by kernel_rfl) hL (List.mem_of_getElem? (i:=5) (by kernel_rfl)),iface_of_vars (nm:= "*errors.errorString") (d:= .ptr (.agg [.lit (.string [118,97,108,117,101,32,111,117,116,32,111,102,32,114,97,110,103,101])])) (by kernel_rfl) hL (List.mem_of_getElem? (i:=4) (by kernel_rfl))⟩
 letI T:Tabs Tryz.prog:={holds:=fun w=>doorHolds Tryz.prog 6 [("internal/strconv.uint64pow10",.u64,Lib.pow10Tab)] ["internal/bytealg.MaxLen"] w∧errHolds Tryz.prog w,low:=6,low_le:=fun _ h=>h.1.1,stable:=doorStableE (by kernel_rfl)}
 haveI:HasPow Tryz.prog:=⟨fun w h=>h.1.2.1 ("internal/strconv.uint64pow10",.u64,Lib.pow10Tab) (by simp)⟩
 haveI:HasMax Tryz.prog:=⟨fun w h g hg=>h.1.2.2 "internal/bytealg.MaxLen" (by simp) g hg⟩
 haveI:HasErr Tryz.prog:=⟨fun w h=>h.2⟩
 have hT:doorHolds Tryz.prog 6 [("internal/strconv.uint64pow10",.u64,Lib.pow10Tab)] ["internal/bytealg.MaxLen"] W∧errHolds Tryz.prog W:=⟨⟨size_of_tab hpow (g:=5) (by kernel_rfl) (by decide),by simp [hpow],fun n hn=>by (simp only [List.mem_singleton] at hn;subst hn;exact hmax)⟩,herr⟩
 exact row_true (C:=Tryz.checked) (T:=T) (ss:=[.agg shPage,.one .str,.one .bool]) (fuel:=8) (tb:=4) (by kernel_rfl) (by decide+kernel) (by kernel_rfl) (by kernel_rfl) (by kernel_rfl) rfl
  (fun ds h=>by
   match ds,h with
   |[d0,d1,d2],_=>rfl)
  (fun avs hf=>by
   obtain ⟨c,r0,rfl,hx,hf1⟩:=fitsV_agg hf
   obtain ⟨p,rfl,hwp,hrp⟩:=fits_Page c hx
   obtain ⟨x,r1,rfl,hx,hf2⟩:=fitsV_one hf1
   obtain ⟨tx,rfl,hwtx⟩:=fits_one_str hx
   obtain ⟨x,r2,rfl,hx,hf3⟩:=fitsV_one hf2
   obtain ⟨wb,rfl⟩:=fits_one_bool hx
   obtain rfl:=fitsV_nil hf3
   exact FnExactRunCode_law p hwp hrp tx hwtx wb) hT hval hW
end Go.Proofs.YtgkcdgaljknohaaGreatDoor
