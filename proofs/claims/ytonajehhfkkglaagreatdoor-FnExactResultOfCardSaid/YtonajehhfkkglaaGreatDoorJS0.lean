/-
  Proved here: steps towards the statement of this claim, text JS0.
  No condition beyond what each statement spells out.
-/
import Derived.Test.YtonajehhfkkglaaGreatDoorYShelf3
import Derived.Test.YtonajehhfkkglaaGreatDoorAwSort
import Derived.Test.YtonajehhfkkglaaGreatDoorAwJoin
import Derived.Test.YtonajehhfkkglaaGreatDoorSA0
import Derived.Shelf.Slices.In.SortAlone
import Derived.Shelf.Slices.In.SortNone
import Derived.Shelf.Slices.CompactS
import Derived.Sort.EveryDepth
set_option linter.all false
namespace Go.Proofs.YtonajehhfkkglaaGreatDoor
open Go.Aw
theorem compact_le (l : List Str) : (Lib.compact l).length ≤ l.length := by
  unfold Lib.compact Lib.compactUpTo
  rw [List.length_map]
  exact Nat.le_trans (List.length_filter_le _ _) (by simp)
theorem sortS_ok [Tabs Tryz.prog] (l : List Str) (hl : l.length ≤ 1099511627776) : OkM Tryz.prog 77 (.sl .own 1 (l.map eStr)) (.sl .own 1 ((l.mergeSort fun x y => decide (x ≤ y)).map eStr)) [] (.tup []) :=
  okM_sort (fun b off cap zs w hH hb hz => calls_of_every_depth fun D => Proofs.AnyS.slices_Sort_string_alone Tryz.Laysx190 D b off cap zs w hH hb hz)
    (fun p cap w => calls_of_every_depth fun D => Proofs.AnyS.slices_Sort_string_none_alone Tryz.Laysx190 D p cap w) l (by omega)
theorem compactS_ok [Tabs Tryz.prog] (l : List Str) (hl : l.length ≤ 1099511627776) : OkG Tryz.prog 78 [.give (.sl .own 1 (l.map eStr))] (.sl .own 1 ((Lib.compact l).map eStr)) :=
  okG_compact (fun b off cap zs w hH hz hc => Proofs.Any.slices_Compact_string Tryz.Laysx194 b off cap zs w hH hz hc) (fun p cap w => Proofs.Any.slices_Compact_string_empty Tryz.Laysx194 p cap w) l (by omega) (compact_le l)
end Go.Proofs.YtonajehhfkkglaaGreatDoor
