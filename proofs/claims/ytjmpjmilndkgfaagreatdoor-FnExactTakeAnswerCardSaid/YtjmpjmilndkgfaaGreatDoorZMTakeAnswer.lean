/- Proved here: steps towards the statement of this claim. No condition. -/
import Derived.Test.YtjmpjmilndkgfaaGreatDoorZLTakeAnswer
set_option linter.all false
set_option maxRecDepth 100000
set_option maxHeartbeats 8000000
namespace Go.Proofs.YtjmpjmilndkgfaaGreatDoor
open Go.Aw Proofs.Tryz List IntKind
theorem law3_lifted (os:Os) (started:os.Started) (H:Type) (enc:TypeId×Value->H):
  ReturnsInHanded {} Tryz.checked os 3 .any (λw args=>(Rows.fnExactTakeAnswerSpec.pre enc prog f3 Rows.fnExactTakeAnswerRow.domain false w args/\laidMetH prog Rows.fnExactTakeAnswerRow.laid w)/\sizedMet enc prog f3 (OpenSpec.ofChange Rows.fnExactTakeAnswerSpec) false w args) (Rows.fnExactTakeAnswerSpec.post enc prog f3 false true false false):=by
 refine Qf (C:=Tryz.checked) (X:=λw _=>laidMetH prog Rows.fnExactTakeAnswerRow.laid w) (λ_ _ _ hh h=>h.of_heap hh) (by kernel_rfl) started (by kernel_rfl) func3
  (ChangeSpec.witness_shaped (enc:=enc) (C:=Tryz.checked) (os:=os) (X:=λw _=>laidMetH prog Rows.fnExactTakeAnswerRow.laid w) false (World.laidAll prog os Rows.fnExactTakeAnswerRow.laid) #[.agg #[.string ⟨#[]⟩,.string ⟨#[]⟩,.bool false,.slice none 0 0,.slice none 0 0,.slice none 0 0,.string ⟨#[]⟩,.string ⟨#[]⟩,.slice none 0 0,.bool false,.slice none 0 0,.slice none 0 0,.slice none 0 0,.slice none 0 0,.slice none 0 0,.int .i64 0,.int .i64 0,.int .i64 0,.int .i64 0,.slice none 0 0,.slice none 0 0,.bool false],.agg #[.string ⟨#[]⟩,.string ⟨#[]⟩],.agg #[.int .i64 0,.int .i64 0,.string ⟨#[]⟩,.int .i64 0,.bool false,.string ⟨#[]⟩]] 8 (World.laidAll_os _ _ _) (World.shaped_of_ZipB (by kernel_rfl) (by kernel_rfl)) (by kernel_rfl) (by kernel_rfl) (by kernel_rfl) (by rw [MakeChecks.laidMetH_plain _ _ _ (by kernel_rfl)];exact laidMet_laidAll _ (by kernel_rfl) (by kernel_rfl))) ?_
 intro W base args ds gs before hval hW hL hsh;rw [MakeChecks.laidMetH_plain _ _ _ (by kernel_rfl)] at hL;obtain ⟨_,hL,_⟩:=hL;have aTd:Lib.TabIs prog W "internal/strconv.uint64pow10" .u64 Lib.pow10Tab:=GN (by kernel_rfl) hL (oE (i:=2) (by kernel_rfl));have hmax:∀g,prog.globalNamed "internal/bytealg.MaxLen" =some g->∃m,W.cell? ⟨g,0,none⟩=some (.int .i64 m):=λg hg=>by obtain rfl:=cQ ((show prog.globalNamed "internal/bytealg.MaxLen" =some 0 by kernel_rfl).symm.trans hg);exact Tryz.laysM146.s1_3 W hsh
 have aPu:EW prog W:=⟨CB (nm:= "*errors.errorString") (d:= .ptr (.agg [.lit (.string [105,110,118,97,108,105,100,32,115,121,110,116,97,120])])) (by kernel_rfl) hL (oE (i:=5) (by kernel_rfl)),CB (nm:= "*errors.errorString") (d:= .ptr (.agg [.lit (.string [118,97,108,117,101,32,111,117,116,32,111,102,32,114,97,110,103,101])])) (by kernel_rfl) hL (oE (i:=4) (by kernel_rfl))⟩;have hsz:6<=W.heap.size:=by
  obtain ⟨_,tp,pp,hv⟩:=aPu;unfold World.var? at hv;rw [show prog.globalNamed "strconv.ErrRange" =some 5 by kernel_rfl] at hv;simp only [tR] at hv;rcases yW 5 W.heap.size with h'|h'
  .omega
  .simp [Array.getElem?_eq_none h'] at hv
 letI T:aC prog:={holds:=λw=>AR prog 6 [("internal/strconv.uint64pow10",.u64,Lib.pow10Tab)] ["internal/bytealg.MaxLen"] w/\EW prog w,low:=6,Pe:=λ_ h=>h.1.1,VV:=Yy (by kernel_rfl)}
 haveI:eH prog:=⟨λw h=>h.1.2.1 ("internal/strconv.uint64pow10",.u64,Lib.pow10Tab) (by simp)⟩
 haveI:dD prog:=⟨λw h g hg=>h.1.2.2 "internal/bytealg.MaxLen" (by simp) g hg⟩
 haveI:qQ prog:=⟨λw h=>h.2⟩
 have hT:AR prog 6 [("internal/strconv.uint64pow10",.u64,Lib.pow10Tab)] ["internal/bytealg.MaxLen"] W/\EW prog W:=⟨⟨hsz,by simp [aTd],λn hn=>by (simp only [sA] at hn;subst hn;exact hmax)⟩,aPu⟩;exact aBl (C:=Tryz.checked) (T:=T) (ss:=[.agg aDa,.agg WU,.agg QG]) (fuel:=8) (tb:=4) (by kernel_rfl) (by decide+kernel) (by kernel_rfl) (by kernel_rfl) (by kernel_rfl) rfl
  (λds h=>by
   match ds,h with
   |[d0,d1,d2],_=>rfl)
  (λUQ hf=>by
   obtain ⟨c,r0,rfl,hx,hf1⟩:=Li hf;obtain ⟨p,rfl,hwp,hrp⟩:=L8 c hx;obtain ⟨c,r1,rfl,hx,hf2⟩:=Li hf1;obtain ⟨a,rfl,hwa,hra⟩:=LF c hx;obtain ⟨c,r2,rfl,hx,hf3⟩:=Li hf2;obtain ⟨x,rfl,hwx,hrx⟩:=TP c hx;obtain rfl:=D7 hf3;exact EH p hwp hrp a hwa hra x hwx hrx) hT hval hW
end Go.Proofs.YtjmpjmilndkgfaaGreatDoor
