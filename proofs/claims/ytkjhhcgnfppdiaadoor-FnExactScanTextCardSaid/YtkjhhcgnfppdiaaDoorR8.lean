/-
  Proved here: steps towards the statement of this claim, text R8.
  No condition beyond what each statement spells out.
-/
import Derived.Test.YtkjhhcgnfppdiaaDoorR7
set_option linter.all false
set_option linter.unusedSimpArgs false
set_option linter.unusedVariables false
set_option maxRecDepth 4000
set_option maxHeartbeats 400000
namespace Go.Proofs.YtkjhhcgnfppdiaaDoor
open Go.Aw
theorem addrOf_sz (s b : Str) : szAddr (addrOf s b) ≤ s.length + b.length := by
  have := ixB_le 47 s
  unfold addrOf
  split <;> simp [szAddr] <;> omega
theorem parseAddr_sz (s b : Str) : szAddr (parseAddr s b).1 ≤ s.length + b.length := by
  have := addrOf_sz s b
  unfold parseAddr
  split
  · exact this
  · simp [szAddr, noAddr]
theorem scanAs_sz (k : Int) (v d b : Str) : szRequest (scanAs k v d b).1 ≤ v.length + d.length + 2 * b.length := by
  have := parseAddr_sz v b
  unfold scanAs
  split
  · simp only [szRequest]; omega
  · simp [szRequest, noRequest, szAddr, noAddr]
theorem scanToken_sz (t : DToken) (b : Str) : szRequest (scanToken t b).1 ≤ 2 * szToken t + 2 * b.length := by
  have z1 := findAttr_sz t.attrs sSrc
  have z2 := findAttr_sz t.attrs sHref
  have z3 := findAttr_sz t.attrs sDigest
  have n0 : szRequest noRequest = 0 := by simp [szRequest, noRequest, szAddr, noAddr]
  have h1 := scanAs_sz 5 (findAttr t.attrs sSrc).1 [] b
  have h2 := scanAs_sz 2 (findAttr t.attrs sSrc).1 (findAttr t.attrs sDigest).1 b
  have h3 := scanAs_sz 3 (findAttr t.attrs sHref).1 (findAttr t.attrs sDigest).1 b
  have h4 := scanAs_sz 4 (findAttr t.attrs sSrc).1 (findAttr t.attrs sDigest).1 b
  simp only [szToken, szL]
  simp only [List.length_nil] at h1
  unfold scanToken
  repeat' split
  all_goals first | omega | (simp only [n0]; omega)
end Go.Proofs.YtkjhhcgnfppdiaaDoor
