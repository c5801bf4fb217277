/-
  Proved here: steps towards the statement of this claim, text SR7.
  No condition beyond what each statement spells out.
-/
import Derived.Test.YtonajehhfkkglabGreatSR5
set_option linter.all false
set_option maxRecDepth 4000
set_option maxHeartbeats 400000
namespace Go.Proofs.YtonajehhfkkglabGreat
open Go.Aw
def sScript : Str := [115, 99, 114, 105, 112, 116]
def sLink : Str := [108, 105, 110, 107]
def sImg : Str := [105, 109, 103]
def sKind : Str := [107, 105, 110, 100]
def sModule : Str := [109, 111, 100, 117, 108, 101]
def sSrc : Str := [115, 114, 99]
def sHref : Str := [104, 114, 101, 102]
def sDigest : Str := [100, 105, 103, 101, 115, 116]
def noRequest : DRequest := ⟨0, noAddr, [], []⟩
def scanAs (k : Int) (v d b : Str) : DRequest × Bool := if (parseAddr v b).2 = true then (⟨k, (parseAddr v b).1, b, d⟩, true) else (noRequest, false)
def scanToken (t : DToken) (b : Str) : DRequest × Bool :=
  if t.kind = 1 then
    if t.name = sScript then
      if (findAttr t.attrs sKind).1 = sModule then scanAs 5 (findAttr t.attrs sSrc).1 [] b else scanAs 2 (findAttr t.attrs sSrc).1 (findAttr t.attrs sDigest).1 b
    else if t.name = sLink then scanAs 3 (findAttr t.attrs sHref).1 (findAttr t.attrs sDigest).1 b
    else if t.name = sImg then scanAs 4 (findAttr t.attrs sSrc).1 (findAttr t.attrs sDigest).1 b
    else (noRequest, false)
  else (noRequest, false)
theorem findAttr_sz (l : List DAttr) (n : Str) : (findAttr l n).1.length ≤ sumN szAttr l := by
  unfold findAttr
  split
  · rename_i a h
    have := List.mem_of_find?_eq_some h
    have := sumN_mem_le szAttr this
    simp only [szAttr] at this ⊢
    omega
  · simp
theorem parseAddr_nil (b : Str) : parseAddr [] b = (noAddr, false) := by simp [parseAddr, addrOf, ixB_nil, isAddr, isName]
theorem findAttr_else (l : List DAttr) (n b : Str) (h : (findAttr l n).2 = false) : (parseAddr (findAttr l n).1 b).2 = false := by
  unfold findAttr at h ⊢
  split at h
  · cases h
  · show (parseAddr [] b).2 = false
    rw [parseAddr_nil]
end Go.Proofs.YtonajehhfkkglabGreat

set_option maxRecDepth 4000
set_option maxHeartbeats 400000
namespace Go.Proofs.YtonajehhfkkglabGreat
open Go.Aw
theorem addrOf_sz (s b : Str) : szAddr (addrOf s b) ≤ s.length + b.length := by
  have := ixB_le 47 s
  unfold addrOf
  split <;> simp [szAddr] <;> omega
theorem parseAddr_sz (s b : Str) : szAddr (parseAddr s b).1 ≤ s.length + b.length := by
  have := addrOf_sz s b
  unfold parseAddr
  split
  · exact this
  · simp [szAddr, noAddr]
theorem scanAs_sz (k : Int) (v d b : Str) : szRequest (scanAs k v d b).1 ≤ v.length + d.length + 2 * b.length := by
  have := parseAddr_sz v b
  unfold scanAs
  split
  · simp only [szRequest]; omega
  · simp [szRequest, noRequest, szAddr, noAddr]
theorem scanToken_sz (t : DToken) (b : Str) : szRequest (scanToken t b).1 ≤ 2 * szToken t + 2 * b.length := by
  have z1 := findAttr_sz t.attrs sSrc
  have z2 := findAttr_sz t.attrs sHref
  have z3 := findAttr_sz t.attrs sDigest
  have n0 : szRequest noRequest = 0 := by simp [szRequest, noRequest, szAddr, noAddr]
  have h1 := scanAs_sz 5 (findAttr t.attrs sSrc).1 [] b
  have h2 := scanAs_sz 2 (findAttr t.attrs sSrc).1 (findAttr t.attrs sDigest).1 b
  have h3 := scanAs_sz 3 (findAttr t.attrs sHref).1 (findAttr t.attrs sDigest).1 b
  have h4 := scanAs_sz 4 (findAttr t.attrs sSrc).1 (findAttr t.attrs sDigest).1 b
  simp only [szToken, szL]
  simp only [List.length_nil] at h1
  unfold scanToken
  repeat' split
  all_goals first | omega | (simp only [n0]; omega)
end Go.Proofs.YtonajehhfkkglabGreat
