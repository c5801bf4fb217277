/- Proved here: steps towards the statement of this claim. No condition. -/
import Derived.Lay
import Derived.SevenTiedAt
import Derived.Test.YthddijamfbfibaaGreatDoorCards
import Derived.Test.YthddijamfbfibaaGreatDoorTie
import Derived.Test.YthddijamfbfibaaGreatDoorZLPlainNeeds
set_option linter.all false
set_option maxRecDepth 100000
set_option maxHeartbeats 8000000
namespace Go.Proofs.YthddijamfbfibaaGreatDoor
open Go.Aw Proofs.Tryz List IntKind
theorem law3_lifted(os:Os)(started:os.Started)(H:Type)(enc:TypeId×Value->H):
  ReturnsInHanded {} Tryz.checked os 3 .any (λw args=>(Rows.fnExactPlainNeedsSpec.pre enc prog f3 Rows.fnExactPlainNeedsRow.domain false w args/\laidMetH prog Rows.fnExactPlainNeedsRow.laid w)/\sizedMet enc prog f3 (OpenSpec.ofChange Rows.fnExactPlainNeedsSpec) false w args) (Rows.fnExactPlainNeedsSpec.post enc prog f3 false true false false):=by
 refine SF (C:=Tryz.checked) (X:=λw _=>laidMetH prog Rows.fnExactPlainNeedsRow.laid w) (λ_ _ _ hh h=>h.of_heap hh) (by kernel_rfl) started (by kernel_rfl) func3
  (ChangeSpec.witness_shaped (enc:=enc) (C:=Tryz.checked) (os:=os) (X:=λw _=>laidMetH prog Rows.fnExactPlainNeedsRow.laid w) false (World.laidAll prog os Rows.fnExactPlainNeedsRow.laid) #[.agg #[.slice none 0 0,.slice none 0 0,.slice none 0 0,.int .i64 0],.agg #[.string ⟨#[]⟩,.string ⟨#[]⟩]] 8 (World.laidAll_os _ _ _) (World.shaped_of_ZipB (by kernel_rfl) (by kernel_rfl)) (by kernel_rfl) (by kernel_rfl) (by kernel_rfl) (by rw[MakeChecks.laidMetH_plain _ _ _ (by kernel_rfl)];exact laidMet_laidAll _ (by kernel_rfl) (by kernel_rfl))) ?_
 intro W base args ds gs before hval hW hL hsh;rw[MakeChecks.laidMetH_plain _ _ _ (by kernel_rfl)]at hL;obtain⟨_,hL,_⟩:=hL;have aT5:Lib.TabIs prog W "internal/strconv.uint64pow10" .u64 Lib.pow10Tab:=Jk (by kernel_rfl) hL (nB (i:=2) (by kernel_rfl));have hmax:∀g,prog.globalNamed "internal/bytealg.MaxLen" =some g->∃m,W.cell? ⟨g,0,none⟩=some (.int .i64 m):=λg hg=>by obtain rfl:=cQ ((show prog.globalNamed "internal/bytealg.MaxLen" =some 0 by kernel_rfl).symm.trans hg);exact Tryz.laysM146.s1_3 W hsh
 have aXw:Gy prog W:=⟨DI (nm:= "*errors.errorString") (d:= .ptr (.agg [.lit (.string [105,110,118,97,108,105,100,32,115,121,110,116,97,120])])) (by kernel_rfl) hL (nB (i:=5) (by kernel_rfl)),DI (nm:= "*errors.errorString") (d:= .ptr (.agg [.lit (.string [118,97,108,117,101,32,111,117,116,32,111,102,32,114,97,110,103,101])])) (by kernel_rfl) hL (nB (i:=4) (by kernel_rfl))⟩
 letI T:aB prog:={holds:=λw=>BI prog 6 [("internal/strconv.uint64pow10",.u64,Lib.pow10Tab)] ["internal/bytealg.MaxLen"] w/\Gy prog w,low:=6,Ru:=λ_ h=>h.1.1,Yt:=iw (by kernel_rfl)}
 haveI:dM prog:=⟨λw h=>h.1.2.1 ("internal/strconv.uint64pow10",.u64,Lib.pow10Tab) (by simp)⟩
 haveI:bQ prog:=⟨λw h g hg=>h.1.2.2 "internal/bytealg.MaxLen" (by simp) g hg⟩
 haveI:oO prog:=⟨λw h=>h.2⟩
 have hT:BI prog 6 [("internal/strconv.uint64pow10",.u64,Lib.pow10Tab)] ["internal/bytealg.MaxLen"] W/\Gy prog W:=⟨⟨ig aT5 (g:=5) (by kernel_rfl) (by decide),by simp[aT5],λn hn=>by(simp only[rS]at hn;subst hn;exact hmax)⟩,aXw⟩;exact aE7 (C:=Tryz.checked) (T:=T) (ss:=[.agg aNi,.agg aGn]) (fuel:=8) (tb:=4) (by kernel_rfl) (by decide+kernel) (by kernel_rfl) (by kernel_rfl) (by kernel_rfl) rfl
  (λds h=>by
   match ds,h with
   |[d0,d1],_=>rfl)
  (λXj hf=>by
   obtain⟨c,r0,rfl,hx,hf1⟩:=Xk hf;obtain⟨n,rfl,hwn,hrn⟩:=aGs c hx;obtain⟨c,r1,rfl,hx,hf2⟩:=Xk hf1;obtain⟨a,rfl,hwa,hra⟩:=aB9 c hx;obtain rfl:=aBp hf2;exact Gg n hwn hrn a hwa hra) hT hval hW
end Go.Proofs.YthddijamfbfibaaGreatDoor
