/-
  Proved here: steps towards the statement of this claim, text CFnAsked.
  No condition beyond what each statement spells out.
-/
import Derived.Test.YtejigeoigebhcaaGreatALFnAsked
import Derived.Test.YtejigeoigebhcaaGreatAF4
import Derived.Test.YtejigeoigebhcaaGreatRows
set_option linter.all false
set_option maxRecDepth 8000
set_option maxHeartbeats 8000000
namespace Go.Proofs.YtejigeoigebhcaaGreat
open Go.Aw
set_option maxRecDepth 100000 in
theorem law3_lifted (os:Os) (started:os.Started) (H:Type) (enc:TypeId×Value→H):
  ReturnsInHanded {} Tryz.checked os 3 .any (Rows.fnAskedSpec.pre6 enc Tryz.prog Tryz.f3 Rows.fnAskedRow.domain false) (Rows.fnAskedSpec.post enc Tryz.prog Tryz.f3 false true false false):=by
 refine returnsInHanded_of_change (C:=Tryz.checked) (by kernel_rfl) started (by kernel_rfl) Tryz.func3
  (ChangeSpec.witness6 (enc:=enc) (C:=Tryz.checked) false ⟨#[],#[.slice none 0 0],[]⟩ 8 (by kernel_rfl) (by kernel_rfl) (by kernel_rfl) (by kernel_rfl)) ?_
 intro W base args ds gs before hval hW _ _
 letI T:aB Tryz.prog:={holds:=fun _=>True,low:=0,low_le:=fun _ _=>Nat.zero_le _,stable:=fun _ _ _ _=>trivial}
 exact aMu (C:=Tryz.checked) (T:=T) (ss:=[.one (.sl 1 [.int .u8])]) (fuel:=8) (tb:=4) (by kernel_rfl) (by decide+kernel) (by kernel_rfl) (by kernel_rfl) (by kernel_rfl) rfl
  (fun ds h=>by
   match ds,h with
   |[d0],_=>rfl)
  (fun avs hf=>by
   obtain ⟨x,r0,rfl,hx,hf1⟩:=aLs hf
   obtain ⟨d,rfl,hwd⟩:=aI6 hx
   obtain rfl:=aK1 hf1
   exact aHn d hwd) trivial hval hW
theorem law3_holds:Rows.FnAskedSaid:=
 OpenClaim.holds_of_wide 3 Tryz.f3 rfl rfl rfl rfl rfl rfl rfl ⟨rfl,rfl,rfl,rfl,rfl⟩ rfl rfl rfl rfl rfl (by kernel_rfl) Tryz.func3 (by kernel_rfl)
  (of_decide_eq_true (by kernel_rfl)) (by unfold Func.isWrapper;first|(rw [if_pos (by decide+kernel)];kernel_rfl)|(rw [if_neg (by decide+kernel)];exact ⟨rfl,rfl⟩))
  (fun os started H enc _=>law3_lifted os started H enc)
end Go.Proofs.YtejigeoigebhcaaGreat
