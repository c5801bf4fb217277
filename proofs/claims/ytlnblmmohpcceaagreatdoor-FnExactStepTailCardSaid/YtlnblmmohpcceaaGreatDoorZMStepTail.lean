/- Proved here: steps towards the statement of this claim. No condition. -/
import Derived.Lay
import Derived.Test.YtlnblmmohpcceaaGreatDoorCards
import Derived.Test.YtlnblmmohpcceaaGreatDoorTie
import Derived.Test.YtlnblmmohpcceaaGreatDoorZLStepTail
set_option linter.all false
set_option maxRecDepth 8000
set_option maxHeartbeats 8000000
namespace Go.Proofs.YtlnblmmohpcceaaGreatDoor
open Go.Aw Proofs.Tryz List IntKind
set_option maxRecDepth 100000 in
theorem law4_lifted (os:Os) (started:os.Started) (H:Type) (enc:TypeId×Value->H):
  ReturnsInHanded {} Tryz.checked os 4 .any (fun w args=>(Rows.fnExactStepTailSpec.pre enc prog f4 Rows.fnExactStepTailRow.domain false w args/\laidMetH prog Rows.fnExactStepTailRow.laid w)/\sizedMet enc prog f4 (OpenSpec.ofChange Rows.fnExactStepTailSpec) false w args) (Rows.fnExactStepTailSpec.post enc prog f4 false true false false):=by
 refine MP (C:=Tryz.checked) (X:=fun w _=>laidMetH prog Rows.fnExactStepTailRow.laid w) (fun _ _ _ hh h=>h.of_heap hh) (by kernel_rfl) started (by kernel_rfl) func4
  (ChangeSpec.witness_shaped (enc:=enc) (C:=Tryz.checked) (os:=os) (X:=fun w _=>laidMetH prog Rows.fnExactStepTailRow.laid w) false (World.laidAll prog os Rows.fnExactStepTailRow.laid) #[.agg #[.string ⟨#[]⟩,.string ⟨#[]⟩,.bool false,.slice none 0 0,.slice none 0 0,.slice none 0 0,.string ⟨#[]⟩,.string ⟨#[]⟩,.slice none 0 0,.bool false,.slice none 0 0,.slice none 0 0,.slice none 0 0,.slice none 0 0,.slice none 0 0,.int .i64 0,.int .i64 0,.int .i64 0,.int .i64 0,.slice none 0 0,.slice none 0 0,.bool false]] 8 (World.laidAll_os _ _ _) (World.shaped_of_ZipB (by kernel_rfl) (by kernel_rfl)) (by kernel_rfl) (by kernel_rfl) (by kernel_rfl) (by rw [MakeChecks.laidMetH_plain _ _ _ (by kernel_rfl)];exact laidMet_laidAll _ (by kernel_rfl) (by kernel_rfl))) ?_
 intro W base args ds gs before hval hW hL hsh
 rw [MakeChecks.laidMetH_plain _ _ _ (by kernel_rfl)] at hL
 obtain ⟨_,hL,_⟩:=hL
 have aMp:Lib.TabIs prog W "internal/strconv.uint64pow10" .u64 Lib.pow10Tab:=EA (by kernel_rfl) hL (mem_of_getElem? (i:=2) (by kernel_rfl))
 have hmax:∀g,prog.globalNamed "internal/bytealg.MaxLen" =some g->∃m,W.cell? ⟨g,0,none⟩=some (.int .i64 m):=fun g hg=>by
  obtain rfl:=Option.some.inj ((show prog.globalNamed "internal/bytealg.MaxLen" =some 0 by kernel_rfl).symm.trans hg)
  exact Tryz.laysM146.s1_3 W hsh
 have aRf:CX prog W:=⟨Az (nm:= "*errors.errorString") (d:= .ptr (.agg [.lit (.string [105,110,118,97,108,105,100,32,115,121,110,116,97,120])])) (by kernel_rfl) hL (mem_of_getElem? (i:=5) (by kernel_rfl)),Az (nm:= "*errors.errorString") (d:= .ptr (.agg [.lit (.string [118,97,108,117,101,32,111,117,116,32,111,102,32,114,97,110,103,101])])) (by kernel_rfl) hL (mem_of_getElem? (i:=4) (by kernel_rfl))⟩
 letI T:aD prog:={holds:=fun w=>yJ prog 6 [("internal/strconv.uint64pow10",.u64,Lib.pow10Tab)] ["internal/bytealg.MaxLen"] w/\CX prog w,low:=6,LP:=fun _ h=>h.1.1,RQ:=UX (by kernel_rfl)}
 haveI:fV prog:=⟨fun w h=>h.1.2.1 ("internal/strconv.uint64pow10",.u64,Lib.pow10Tab) (by simp)⟩
 haveI:eO prog:=⟨fun w h g hg=>h.1.2.2 "internal/bytealg.MaxLen" (by simp) g hg⟩
 haveI:qF prog:=⟨fun w h=>h.2⟩
 have hT:yJ prog 6 [("internal/strconv.uint64pow10",.u64,Lib.pow10Tab)] ["internal/bytealg.MaxLen"] W/\CX prog W:=⟨⟨UR aMp (g:=5) (by kernel_rfl) (by decide),by simp [aMp],fun n hn=>by (simp only [mem_singleton] at hn;subst hn;exact hmax)⟩,aRf⟩
 exact yo (C:=Tryz.checked) (T:=T) (ss:=[.agg L6]) (fuel:=8) (tb:=4) (by kernel_rfl) (by decide+kernel) (by kernel_rfl) (by kernel_rfl) (by kernel_rfl) rfl
  (fun ds h=>by
   match ds,h with
   |[d0],_=>rfl)
  (fun QH hf=>by
   obtain ⟨c,r0,rfl,hx,hf1⟩:=dm hf
   obtain ⟨p,rfl,hwp,Tc⟩:=kr c hx
   obtain rfl:=di hf1
   exact aAh p hwp Tc) hT hval hW
end Go.Proofs.YtlnblmmohpcceaaGreatDoor
