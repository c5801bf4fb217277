/- Proved here: steps towards the statement of this claim. No condition. -/
import Derived.Lay
import Derived.SevenTiedAt
import Derived.Test.YtnkpkklemmgapaaGreatDoorCards
import Derived.Test.YtnkpkklemmgapaaGreatDoorTie
import Derived.Test.YtnkpkklemmgapaaGreatDoorZLFnResults
set_option linter.all false
set_option maxRecDepth 100000
set_option maxHeartbeats 8000000
namespace Go.Proofs.YtnkpkklemmgapaaGreatDoor
open Go.Aw Proofs.Tryz List IntKind
theorem law3_lifted(os:Os)(started:os.Started)(H:Type)(enc:TypeId×Value->H):
  ReturnsInHanded {} Tryz.checked os 3 .any (λw args=>(Rows.fnResultsSpec.pre enc prog f3 Rows.fnResultsRow.domain false w args/\laidMetH prog Rows.fnResultsRow.laid w)/\sizedMet enc prog f3 (OpenSpec.ofChange Rows.fnResultsSpec) false w args) (Rows.fnResultsSpec.post enc prog f3 false true false false):=by
 refine Px (C:=Tryz.checked) (X:=λw _=>laidMetH prog Rows.fnResultsRow.laid w) (λ_ _ _ hh h=>h.of_heap hh) (by kernel_rfl) started (by kernel_rfl) func3
  (ChangeSpec.witness_shaped (enc:=enc) (C:=Tryz.checked) (os:=os) (X:=λw _=>laidMetH prog Rows.fnResultsRow.laid w) false (World.laidAll prog os Rows.fnResultsRow.laid) #[.slice none 0 0] 8 (World.laidAll_os _ _ _) (World.shaped_of_ZipB (by kernel_rfl) (by kernel_rfl)) (by kernel_rfl) (by kernel_rfl) (by kernel_rfl) (by rw[MakeChecks.laidMetH_plain _ _ _ (by kernel_rfl)];exact laidMet_laidAll _ (by kernel_rfl) (by kernel_rfl))) ?_
 intro W base args ds gs before hval hW hL U0;rw[MakeChecks.laidMetH_plain _ _ _ (by kernel_rfl)]at hL;obtain⟨_,hL,_⟩:=hL;have aUr:Lib.TabIs prog W "internal/strconv.uint64pow10" .u64 Lib.pow10Tab:=GM (by kernel_rfl) hL (mB (i:=2) (by kernel_rfl));have aEz:∀g,prog.globalNamed "internal/bytealg.MaxLen" =some g->∃m,W.cell? ⟨g,0,none⟩=some (.int .i64 m):=λg hg=>by obtain rfl:=cU ((show prog.globalNamed "internal/bytealg.MaxLen" =some 0 by kernel_rfl).symm.trans hg);exact Tryz.laysM146.s1_3 W U0
 have aQm:Ex prog W:=⟨BL (nm:= "*errors.errorString") (d:= .ptr (.agg [.lit (.string [105,110,118,97,108,105,100,32,115,121,110,116,97,120])])) (by kernel_rfl) hL (mB (i:=5) (by kernel_rfl)),BL (nm:= "*errors.errorString") (d:= .ptr (.agg [.lit (.string [118,97,108,117,101,32,111,117,116,32,111,102,32,114,97,110,103,101])])) (by kernel_rfl) hL (mB (i:=4) (by kernel_rfl))⟩;have hsz:4<=W.heap.size:=by
  obtain⟨_,tp,pp,hv⟩:=aQm;unfold World.var? at hv;rw[show prog.globalNamed "strconv.ErrRange" =some 3 by kernel_rfl]at hv;simp only[tM]at hv;rcases tA 3 W.heap.size with h'|h'
  .omega
  .simp [tE h']at hv
 letI T:aB prog:={holds:=λw=>zZ prog 4 [("internal/strconv.uint64pow10",.u64,Lib.pow10Tab)] ["internal/bytealg.MaxLen"] w/\Ex prog w,low:=4,UX:=λ_ h=>h.1.1,ZR:=XG (by kernel_rfl)}
 haveI:eO prog:=⟨λw h=>h.1.2.1 ("internal/strconv.uint64pow10",.u64,Lib.pow10Tab) (by simp)⟩
 haveI:dY prog:=⟨λw h g hg=>h.1.2.2 "internal/bytealg.MaxLen" (by simp) g hg⟩
 haveI:pM prog:=⟨λw h=>h.2⟩
 have hT:zZ prog 4 [("internal/strconv.uint64pow10",.u64,Lib.pow10Tab)] ["internal/bytealg.MaxLen"] W/\Ex prog W:=⟨⟨hsz,by simp[aUr],λn hn=>by(simp only[nF]at hn;subst hn;exact aEz)⟩,aQm⟩;exact aBj (C:=Tryz.checked) (T:=T) (ss:=[.one (.sl 1 [.int .u8])]) (fuel:=8) (tb:=4) (by kernel_rfl) (by decide+kernel) (by kernel_rfl) (by kernel_rfl) (by kernel_rfl) rfl
  (λds h=>by
   match ds,h with
   |[d0],_=>rfl)
  (λTN hf=>by
   obtain⟨x,r0,rfl,hx,hf1⟩:=A8 hf;obtain⟨d,rfl,hwd⟩:=qz hx;obtain rfl:=A7 hf1;exact SK d hwd) hT hval hW
end Go.Proofs.YtnkpkklemmgapaaGreatDoor
