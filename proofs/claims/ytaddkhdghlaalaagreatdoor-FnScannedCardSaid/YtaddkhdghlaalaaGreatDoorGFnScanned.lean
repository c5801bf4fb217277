/-
  Proved here: steps towards the statement of this claim, text GFnScanned.
  No condition beyond what each statement spells out.
-/
import Derived.Test.YtaddkhdghlaalaaGreatDoorF5
import Derived.Lay
import Derived.SevenTiedAt
import Derived.Test.YtaddkhdghlaalaaGreatDoorRows
import Derived.Test.YtaddkhdghlaalaaGreatDoorCards
import Derived.Test.YtaddkhdghlaalaaGreatDoorTie
set_option linter.all false
set_option maxRecDepth 8000
set_option maxHeartbeats 8000000
namespace Go.Proofs.YtaddkhdghlaalaaGreatDoor
open Go.Aw
theorem aFv {P:Program} (h:P.funcs.toList.all (fun fn=> !fn.goes)=true) (c:OpenClaim) (hs:c.start= .entering):false=c.goesBy P:=by
 have h1:∀f,P.goes f=false:=by
  intro f
  have ha:P.funcs.any Func.goes=false:=by
   rw [Array.any_eq_false]
   intro i hi
   have:=List.all_eq_true.1 h (P.funcs[i]) (by simp)
   simpa using this
  unfold Program.goes
  rw [ha,Bool.and_false,Bool.or_false,List.any_eq_false]
  intro g _
  cases hg:P.funcs[g]? with
  |none=>simp
  |some fn=>
   have:=List.all_eq_true.1 h fn (by simpa using List.mem_of_getElem? (by simpa using hg:P.funcs.toList[g]? =some fn))
   simpa using this
 unfold OpenClaim.goesBy Program.goesAt Program.goesFrom
 rw [hs]
 cases P.funcNamed c.func<;>simp [h1]
set_option maxRecDepth 100000 in
theorem aNr:false=Rows.fnScannedRow.goesBy Tryz.pinned.checked.prog:=aFv (by as_aux_lemma=>kernel_rfl) _ rfl
end Go.Proofs.YtaddkhdghlaalaaGreatDoor
