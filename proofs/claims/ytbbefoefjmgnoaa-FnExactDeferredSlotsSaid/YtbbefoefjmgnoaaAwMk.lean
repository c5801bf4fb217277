/-
  Proved here: what the marks of each type are.
  No condition beyond what each statement spells out.
-/
import Derived.Test.YtbbefoefjmgnoaaAwMarkL
set_option linter.all false
set_option linter.unusedVariables false
namespace Go.Aw
def mkint (k : Int) (x : Int) : Int := k
def mkstring (k : Int) (x : Str) : Str := markT k
def mkAddr (k : Int) (x : DAddr) : DAddr := { host := markT k, path := markT (k + 1) }
def mkAttr (k : Int) (x : DAttr) : DAttr := { name := markT k, value := markT (k + 1) }
def mkTokenizer (k : Int) (x : DTokenizer) : DTokenizer := { rest := markT k }
def mkRule (k : Int) (x : DRule) : DRule := { name := markT k, color := k + 1 }
def mkLine (k : Int) (x : DLine) : DLine := { op := k, text := markT (k + 1) }
def mkResponse (k : Int) (x : DResponse) : DResponse := { status := k, kind := k + 1, body := markT (k + 2), age := k + 3, shares := markB (k + 4), policy := markT (k + 5) }
def mkRequest (k : Int) (x : DRequest) : DRequest := { kind := k, to := { host := markT (k + 1), path := markT (k + 2) }, frm := markT (k + 3), digest := markT (k + 4) }
def mkFile (k : Int) (x : DFile) : DFile := { path := markT k, response := { status := k + 1, kind := k + 2, body := markT (k + 3), age := k + 4, shares := markB (k + 5), policy := markT (k + 6) } }
def mkEntry (k : Int) (x : DEntry) : DEntry := { top := markT k, to := { host := markT (k + 1), path := markT (k + 2) }, response := { status := k + 3, kind := k + 4, body := markT (k + 5), age := k + 6, shares := markB (k + 7), policy := markT (k + 8) }, til := k + 9 }
def mkSent (k : Int) (x : DSent) : DSent := { top := markT k, to := { host := markT (k + 1), path := markT (k + 2) }, guess := markB (k + 3) }
def mkSlot (k : Int) (x : DSlot) : DSlot := { mode := k, to := { host := markT (k + 1), path := markT (k + 2) }, digest := markT (k + 3), node := k + 4, done := markB (k + 5), code := k + 6, body := markT (k + 7) }
def mkModule (k : Int) (x : DModule) : DModule := { to := { host := markT k, path := markT (k + 1) }, done := markB (k + 2), code := k + 3, body := markT (k + 4) }
def mkGuess (k : Int) (x : DGuess) : DGuess := { to := { host := markT k, path := markT (k + 1) }, response := { status := k + 2, kind := k + 3, body := markT (k + 4), age := k + 5, shares := markB (k + 6), policy := markT (k + 7) }, used := markB (k + 8) }
def mkToken (k : Int) (x : DToken) : DToken := { kind := k, name := markT (k + 1), attrs := mkL mkAttr (fun _ => 2) (k + 2) x.attrs, text := markT (k + 2 + (sumN (fun _ => 2) x.attrs : Nat)) }
def mkNode (k : Int) (x : DNode) : DNode := { name := markT k, text := markT (k + 1), parent := k + 2, attrs := mkL mkAttr (fun _ => 2) (k + 3) x.attrs }
end Go.Aw
