/- Steps. No condition. -/
import Derived.Lay
import Derived.SevenTiedAt
import Derived.Test.YtanobkmhbpjnpaaGreatDoorCards
import Derived.Test.YtanobkmhbpjnpaaGreatDoorTie
import Derived.Test.YtanobkmhbpjnpaaGreatDoorZLFnTails
set_option linter.all false
set_option maxRecDepth 100000
set_option maxHeartbeats 8000000
namespace Go.Proofs.YtanobkmhbpjnpaaGreatDoor
open Go.Aw Proofs.Tryz List IntKind
theorem law3_lifted(os:Os)(started:os.Started)(H:Type)(enc:TypeId×Value->H):
  ReturnsInHanded {} Tryz.checked os 3 .any (λw args=>(Rows.fnTailsSpec.pre enc prog f3 Rows.fnTailsRow.domain false w args/\laidMetH prog Rows.fnTailsRow.laid w)/\sizedMet enc prog f3 (OpenSpec.ofChange Rows.fnTailsSpec) false w args) (Rows.fnTailsSpec.post enc prog f3 false true false false):=by
 refine Tk (C:=Tryz.checked) (X:=λw _=>laidMetH prog Rows.fnTailsRow.laid w) (λ_ _ _ hh h=>h.of_heap hh) (by kernel_rfl) started (by kernel_rfl) func3
  (ChangeSpec.witness_shaped (enc:=enc) (C:=Tryz.checked) (os:=os) (X:=λw _=>laidMetH prog Rows.fnTailsRow.laid w) false (World.laidAll prog os Rows.fnTailsRow.laid) #[.slice none 0 0] 8 (World.laidAll_os _ _ _) (World.shaped_of_ZipB (by kernel_rfl) (by kernel_rfl)) (by kernel_rfl) (by kernel_rfl) (by kernel_rfl) (by rw[MakeChecks.laidMetH_plain _ _ _ (by kernel_rfl)];exact laidMet_laidAll _ (by kernel_rfl) (by kernel_rfl))) ?_
 intro W base args ds gs before hval hW hL hsh;rw[MakeChecks.laidMetH_plain _ _ _ (by kernel_rfl)]at hL;obtain⟨_,hL,_⟩:=hL;have aWa:Lib.TabIs prog W "internal/strconv.uint64pow10" .u64 Lib.pow10Tab:=JN (by kernel_rfl) hL (nB (i:=2) (by kernel_rfl));have hmax:∀g,prog.globalNamed "internal/bytealg.MaxLen" =some g->∃m,W.cell? ⟨g,0,none⟩=some (.int .i64 m):=λg hg=>by obtain rfl:=cX ((show prog.globalNamed "internal/bytealg.MaxLen" =some 0 by kernel_rfl).symm.trans hg);exact Tryz.laysM146.s1_3 W hsh
 have aZ7:Hr prog W:=⟨Ex (nm:= "*errors.errorString") (d:= .ptr (.agg [.lit (.string [105,110,118,97,108,105,100,32,115,121,110,116,97,120])])) (by kernel_rfl) hL (nB (i:=5) (by kernel_rfl)),Ex (nm:= "*errors.errorString") (d:= .ptr (.agg [.lit (.string [118,97,108,117,101,32,111,117,116,32,111,102,32,114,97,110,103,101])])) (by kernel_rfl) hL (nB (i:=4) (by kernel_rfl))⟩
 letI T:aG prog:={holds:=λw=>Cs prog 6 [("internal/strconv.uint64pow10",.u64,Lib.pow10Tab)] ["internal/bytealg.MaxLen"] w/\Hr prog w,low:=6,RX:=λ_ h=>h.1.1,Yf:=gy (by kernel_rfl)}
 haveI:fI prog:=⟨λw h=>h.1.2.1 ("internal/strconv.uint64pow10",.u64,Lib.pow10Tab) (by simp)⟩
 haveI:dG prog:=⟨λw h g hg=>h.1.2.2 "internal/bytealg.MaxLen" (by simp) g hg⟩
 haveI:qR prog:=⟨λw h=>h.2⟩
 have hT:Cs prog 6 [("internal/strconv.uint64pow10",.u64,Lib.pow10Tab)] ["internal/bytealg.MaxLen"] W/\Hr prog W:=⟨⟨fe aWa (g:=5) (by kernel_rfl) (by decide),by simp[aWa],λn hn=>by(simp only[mS]at hn;subst hn;exact hmax)⟩,aZ7⟩;exact aF4 (C:=Tryz.checked) (T:=T) (ss:=[.one (.sl 1 [.int .u8])]) (fuel:=8) (tb:=4) (by kernel_rfl) (by decide+kernel) (by kernel_rfl) (by kernel_rfl) (by kernel_rfl) rfl
  (λds h=>by
   match ds,h with
   |[d0],_=>rfl)
  (λWV hf=>by
   obtain⟨x,r0,rfl,hx,hf1⟩:=aCe hf;obtain⟨d,rfl,hwd⟩:=x8 hx;obtain rfl:=aCd hf1;exact xn d hwd) hT hval hW
end Go.Proofs.YtanobkmhbpjnpaaGreatDoor
