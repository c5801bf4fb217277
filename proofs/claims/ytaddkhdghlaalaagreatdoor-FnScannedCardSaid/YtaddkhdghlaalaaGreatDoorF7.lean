/-
  Proved here: steps towards the statement of this claim, text F7.
  No condition beyond what each statement spells out.
-/
import Derived.Test.YtaddkhdghlaalaaGreatDoorF5
import Derived.Lib.AtoiTie
import Derived.Shelf.Strings.Cut
import Derived.Shelf.Strconv.ErrVarAll
import Derived.Stop.LaidErr
set_option linter.all false
namespace Go.Aw
open Go.Lib
theorem aTp (u:Nat):decDigits u≠[]:=by
 rw [decDigits];split<;>simp
def uE (s:Str):Option Int:=match decNat s with
 |some m=>if s.length≤13∧m≤1000000000000∧decDigits m=s then some (m:Int) else none
 |none=>none
theorem aOr {s:Str} {v:Int} (h:uE s=some v):∃m:Nat,v=m∧m≤1000000000000∧s=decDigits m∧s.length≤13∧decNat s=some m:=by
 unfold uE at h
 split at h
 ·rename_i m hm
  split at h
  ·rename_i hc
   simp only [Option.some.injEq] at h
   exact ⟨m,h.symm,hc.2.1,hc.2.2.symm,hc.1,hm⟩
  ·cases h
 ·cases h
theorem aUf {l:Str} {n:Nat} (h:decFrom 0 l=some n):n < 10 ^ l.length:=by
 have:=decFrom_lt l 0 n h
 simpa using this
end Go.Aw

namespace Go.Aw
open Go.Proofs Go.Shelf Go.RowKit
class bJ3 (P : Program) [aB P] : Prop where
  var : ∀ w, aB.holds P w → (∃ tp p, w.var? P "strconv.ErrSyntax" = some #[.iface tp p]) ∧ ∃ tp p, w.var? P "strconv.ErrRange" = some #[.iface tp p]
section
variable {P : Program} [aB P] {ρ : Ren}
end
end Go.Aw
