/-
  Proved here: steps towards the statement of this claim, text R7.
  No condition beyond what each statement spells out.
-/
import Derived.Test.YtkjhhcgnfppdiaaDoorR6
set_option linter.all false
set_option linter.unusedSimpArgs false
set_option linter.unusedVariables false
set_option maxRecDepth 4000
set_option maxHeartbeats 400000
namespace Go.Proofs.YtkjhhcgnfppdiaaDoor
open Go.Aw
def sScript : Str := [115, 99, 114, 105, 112, 116]
def sLink : Str := [108, 105, 110, 107]
def sImg : Str := [105, 109, 103]
def sKind : Str := [107, 105, 110, 100]
def sModule : Str := [109, 111, 100, 117, 108, 101]
def sSrc : Str := [115, 114, 99]
def sHref : Str := [104, 114, 101, 102]
def sDigest : Str := [100, 105, 103, 101, 115, 116]
def noRequest : DRequest := ⟨0, noAddr, [], []⟩
def scanAs (k : Int) (v d b : Str) : DRequest × Bool := if (parseAddr v b).2 = true then (⟨k, (parseAddr v b).1, b, d⟩, true) else (noRequest, false)
def scanToken (t : DToken) (b : Str) : DRequest × Bool :=
  if t.kind = 1 then
    if t.name = sScript then
      if (findAttr t.attrs sKind).1 = sModule then scanAs 5 (findAttr t.attrs sSrc).1 [] b else scanAs 2 (findAttr t.attrs sSrc).1 (findAttr t.attrs sDigest).1 b
    else if t.name = sLink then scanAs 3 (findAttr t.attrs sHref).1 (findAttr t.attrs sDigest).1 b
    else if t.name = sImg then scanAs 4 (findAttr t.attrs sSrc).1 (findAttr t.attrs sDigest).1 b
    else (noRequest, false)
  else (noRequest, false)
theorem findAttr_sz (l : List DAttr) (n : Str) : (findAttr l n).1.length ≤ sumN szAttr l := by
  unfold findAttr
  split
  · rename_i a h
    have := List.mem_of_find?_eq_some h
    have := sumN_mem_le szAttr this
    simp only [szAttr] at this ⊢
    omega
  · simp
theorem parseAddr_nil (b : Str) : parseAddr [] b = (noAddr, false) := by simp [parseAddr, addrOf, ixB_nil, isAddr, isName]
theorem findAttr_else (l : List DAttr) (n b : Str) (h : (findAttr l n).2 = false) : (parseAddr (findAttr l n).1 b).2 = false := by
  unfold findAttr at h ⊢
  split at h
  · cases h
  · show (parseAddr [] b).2 = false
    rw [parseAddr_nil]
theorem specScanToken_ok [Tabs Tryd.prog] (t : DToken) (b : Str) (hl : szToken t + b.length ≤ 1099511627776) : Ok Tryd.prog 46 [.agg (eToken .view t), .str b] (.tup [.agg (eRequest (scanToken t b).1), .bool (scanToken t b).2]) := by
  simp only [szToken, szL] at hl
  have z1 := findAttr_sz t.attrs sSrc
  have z2 := findAttr_sz t.attrs sHref
  have h1 := specFindAttr_ok t.attrs sKind (by omega)
  have h2 := specFindAttr_ok t.attrs sSrc (by omega)
  have h3 := specFindAttr_ok t.attrs sHref (by omega)
  have h4 := specFindAttr_ok t.attrs sDigest (by omega)
  have h5 := specParseAddr_ok (findAttr t.attrs sSrc).1 b (by omega)
  have h6 := specParseAddr_ok (findAttr t.attrs sHref).1 b (by omega)
  have n1 := findAttr_else t.attrs sSrc b
  have n2 := findAttr_else t.attrs sHref b
  refine ent Tryd.mix Tryd.func46 Tryd.ntmps46 ?_
  have W := trivial
  repeat' first|refine st ?_|(refine nx ?_;refine so ?_)|(refine cx ?_;refine sc (fun hc=>?_) (fun hc=>?_)<;>try exact hc.elim)|(refine lx ?_;refine sp (fun hc=>?_) (fun hc=>?_)<;>try exact hc.elim)|refine sx ?_ ?_|refine sy ?_ ?_|fail
  clear h1 h2 h3 h4 h5 h6
  all_goals (try (refine ⟨.inr rfl, ?_⟩; simp [Hands, Tryd.results46, scanToken, scanAs, noRequest, noAddr]))
  all_goals (simp_all [scanToken, scanAs, noRequest, noAddr, sScript, sLink, sImg, sKind, sModule, sSrc, sHref, sDigest]; done)
theorem implScanToken_ok [Tabs Tryd.prog] (t : DToken) (b : Str) (hl : szToken t + b.length ≤ 1099511627776) : Ok Tryd.prog 49 [.agg (eToken .view t), .str b] (.tup [.agg (eRequest (scanToken t b).1), .bool (scanToken t b).2]) := by
  simp only [szToken, szL] at hl
  have z1 := findAttr_sz t.attrs sSrc
  have z2 := findAttr_sz t.attrs sHref
  have h1 := implFindAttr_ok t.attrs sKind (by omega)
  have h2 := implFindAttr_ok t.attrs sSrc (by omega)
  have h3 := implFindAttr_ok t.attrs sHref (by omega)
  have h4 := implFindAttr_ok t.attrs sDigest (by omega)
  have h5 := implParseAddr_ok (findAttr t.attrs sSrc).1 b (by omega)
  have h6 := implParseAddr_ok (findAttr t.attrs sHref).1 b (by omega)
  have n1 := findAttr_else t.attrs sSrc b
  have n2 := findAttr_else t.attrs sHref b
  refine ent Tryd.mix Tryd.func49 Tryd.ntmps49 ?_
  have W := trivial
  repeat' first|refine st ?_|(refine nx ?_;refine so ?_)|(refine cx ?_;refine sc (fun hc=>?_) (fun hc=>?_)<;>try exact hc.elim)|(refine lx ?_;refine sp (fun hc=>?_) (fun hc=>?_)<;>try exact hc.elim)|refine sx ?_ ?_|refine sy ?_ ?_|fail
  clear h1 h2 h3 h4 h5 h6
  all_goals (try (refine ⟨.inr rfl, ?_⟩; simp [Hands, Tryd.results49, scanToken, scanAs, noRequest, noAddr]))
  all_goals (simp_all [scanToken, scanAs, noRequest, noAddr, sScript, sLink, sImg, sKind, sModule, sSrc, sHref, sDigest]; done)
end Go.Proofs.YtkjhhcgnfppdiaaDoor
