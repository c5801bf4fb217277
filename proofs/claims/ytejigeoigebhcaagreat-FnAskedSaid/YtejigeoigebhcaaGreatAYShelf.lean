/-
  Proved here: the library's functions of this translation are those that the shelf's contracts speak of.
  No condition beyond what each statement spells out.
-/
import Derived.Test.YtejigeoigebhcaaGreatAF3
set_option linter.all false
