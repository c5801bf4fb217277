/-
  Proved here: what fits the shape of a type is some datum of it.
  No condition beyond what each statement spells out.
-/
import Derived.Test.YtedhenfipalhaaaF3
set_option linter.all false
set_option linter.unusedVariables false
namespace Go.Aw
def rgI (n : Int) : Prop := -9223372036854775808 ≤ n ∧ n ≤ 9223372036854775807
theorem fits_eStr (r : List AV) (h : FitsC [.str] r) : ∃ x, r = eStr x ∧ (x.length ≤ 9223372036854775807 ∧ True) := by
  obtain ⟨a, r, rfl, ha, h⟩ := fits_str h
  obtain rfl := fits_nil h
  exact ⟨a, rfl, ha, trivial⟩
theorem fits_eInt (r : List AV) (h : FitsC [.int .i64] r) : ∃ x, r = eInt x ∧ (True ∧ rgI x) := by
  obtain ⟨a, r, rfl, ha, h⟩ := fits_int h
  obtain rfl := fits_nil h
  exact ⟨a, rfl, trivial, ha⟩
def shAddr : List Sh := [.str, .str]
def rgAddr (x : DAddr) : Prop := True
theorem fits_Addr (r : List AV) (h0 : FitsC shAddr r) : ∃ x, r = eAddr x ∧ (wfAddr x ∧ rgAddr x) := by
  obtain ⟨a0, r, rfl, w0, h1⟩ := fits_str h0
  obtain ⟨a1, r, rfl, w1, h2⟩ := fits_str h1
  obtain rfl := fits_nil h2
  refine ⟨⟨a0, a1⟩, rfl, ?_, ?_⟩
  · exact ⟨w0, w1⟩
  · exact trivial
def shAttr : List Sh := [.str, .str]
def rgAttr (x : DAttr) : Prop := True
theorem fits_Attr (r : List AV) (h0 : FitsC shAttr r) : ∃ x, r = eAttr x ∧ (wfAttr x ∧ rgAttr x) := by
  obtain ⟨a0, r, rfl, w0, h1⟩ := fits_str h0
  obtain ⟨a1, r, rfl, w1, h2⟩ := fits_str h1
  obtain rfl := fits_nil h2
  refine ⟨⟨a0, a1⟩, rfl, ?_, ?_⟩
  · exact ⟨w0, w1⟩
  · exact trivial
def shToken : List Sh := [.int .i64, .str, .sl 2 shAttr, .str]
def rgToken (x : DToken) : Prop := rgI x.kind
theorem fits_Token (r : List AV) (h0 : FitsC shToken r) : ∃ x, r = eToken .view x ∧ (wfToken x ∧ rgToken x) := by
  obtain ⟨a0, r, rfl, w0, h1⟩ := fits_int h0
  obtain ⟨a1, r, rfl, w1, h2⟩ := fits_str h1
  obtain ⟨s2, r, rfl, w2, k2, h3⟩ := fits_sl h2
  obtain ⟨a2, rfl, z2⟩ := fits_map fits_Attr s2 k2
  rw [List.length_map] at w2
  obtain ⟨a3, r, rfl, w3, h4⟩ := fits_str h3
  obtain rfl := fits_nil h4
  refine ⟨⟨a0, a1, a2, a3⟩, rfl, ?_, ?_⟩
  · exact ⟨w1, ⟨w2, fun y hy => (z2 y hy).1⟩, w3⟩
  · exact w0
def shTokenizer : List Sh := [.str]
def rgTokenizer (x : DTokenizer) : Prop := True
theorem fits_Tokenizer (r : List AV) (h0 : FitsC shTokenizer r) : ∃ x, r = eTokenizer x ∧ (wfTokenizer x ∧ rgTokenizer x) := by
  obtain ⟨a0, r, rfl, w0, h1⟩ := fits_str h0
  obtain rfl := fits_nil h1
  refine ⟨⟨a0⟩, rfl, ?_, ?_⟩
  · exact w0
  · exact trivial
def shNode : List Sh := [.str, .str, .int .i64, .sl 2 shAttr]
def rgNode (x : DNode) : Prop := rgI x.parent
theorem fits_Node (r : List AV) (h0 : FitsC shNode r) : ∃ x, r = eNode .view x ∧ (wfNode x ∧ rgNode x) := by
  obtain ⟨a0, r, rfl, w0, h1⟩ := fits_str h0
  obtain ⟨a1, r, rfl, w1, h2⟩ := fits_str h1
  obtain ⟨a2, r, rfl, w2, h3⟩ := fits_int h2
  obtain ⟨s3, r, rfl, w3, k3, h4⟩ := fits_sl h3
  obtain ⟨a3, rfl, z3⟩ := fits_map fits_Attr s3 k3
  rw [List.length_map] at w3
  obtain rfl := fits_nil h4
  refine ⟨⟨a0, a1, a2, a3⟩, rfl, ?_, ?_⟩
  · exact ⟨w0, w1, ⟨w3, fun y hy => (z3 y hy).1⟩⟩
  · exact w2
def shBuilder : List Sh := [.sl 4 shNode, .sl 1 [.int .i64]]
def rgBuilder (x : DBuilder) : Prop := (∀ y ∈ x.nodes, rgNode y) ∧ (∀ y ∈ x.opens, rgI y)
theorem fits_Builder (r : List AV) (h0 : FitsC shBuilder r) : ∃ x, r = eBuilder .view x ∧ (wfBuilder x ∧ rgBuilder x) := by
  obtain ⟨s0, r, rfl, w0, k0, h1⟩ := fits_sl h0
  obtain ⟨a0, rfl, z0⟩ := fits_map fits_Node s0 k0
  rw [List.length_map] at w0
  obtain ⟨s1, r, rfl, w1, k1, h2⟩ := fits_sl h1
  obtain ⟨a1, rfl, z1⟩ := fits_map fits_eInt s1 k1
  rw [List.length_map] at w1
  obtain rfl := fits_nil h2
  refine ⟨⟨a0, a1⟩, rfl, ?_, ?_⟩
  · exact ⟨⟨w0, fun y hy => (z0 y hy).1⟩, w1⟩
  · exact ⟨fun y hy => (z0 y hy).2, fun y hy => (z1 y hy).2⟩
def shRule : List Sh := [.str, .int .i64]
def rgRule (x : DRule) : Prop := rgI x.color
theorem fits_Rule (r : List AV) (h0 : FitsC shRule r) : ∃ x, r = eRule x ∧ (wfRule x ∧ rgRule x) := by
  obtain ⟨a0, r, rfl, w0, h1⟩ := fits_str h0
  obtain ⟨a1, r, rfl, w1, h2⟩ := fits_int h1
  obtain rfl := fits_nil h2
  refine ⟨⟨a0, a1⟩, rfl, ?_, ?_⟩
  · exact w0
  · exact w1
def shSheet : List Sh := [.sl 2 shRule]
def rgSheet (x : DSheet) : Prop := (∀ y ∈ x.rules, rgRule y)
theorem fits_Sheet (r : List AV) (h0 : FitsC shSheet r) : ∃ x, r = eSheet .view x ∧ (wfSheet x ∧ rgSheet x) := by
  obtain ⟨s0, r, rfl, w0, k0, h1⟩ := fits_sl h0
  obtain ⟨a0, rfl, z0⟩ := fits_map fits_Rule s0 k0
  rw [List.length_map] at w0
  obtain rfl := fits_nil h1
  refine ⟨⟨a0⟩, rfl, ?_, ?_⟩
  · exact ⟨w0, fun y hy => (z0 y hy).1⟩
  · exact fun y hy => (z0 y hy).2
def shLine : List Sh := [.int .i64, .str]
def rgLine (x : DLine) : Prop := rgI x.op
theorem fits_Line (r : List AV) (h0 : FitsC shLine r) : ∃ x, r = eLine x ∧ (wfLine x ∧ rgLine x) := by
  obtain ⟨a0, r, rfl, w0, h1⟩ := fits_int h0
  obtain ⟨a1, r, rfl, w1, h2⟩ := fits_str h1
  obtain rfl := fits_nil h2
  refine ⟨⟨a0, a1⟩, rfl, ?_, ?_⟩
  · exact w1
  · exact w0
def shPolicy : List Sh := [.bool, .sl 1 [.str], .sl 1 [.str], .sl 1 [.str], .str]
def rgPolicy (x : DPolicy) : Prop := True
theorem fits_Policy (r : List AV) (h0 : FitsC shPolicy r) : ∃ x, r = ePolicy .view x ∧ (wfPolicy x ∧ rgPolicy x) := by
  obtain ⟨a0, r, rfl, h1⟩ := fits_bool h0
  obtain ⟨s1, r, rfl, w1, k1, h2⟩ := fits_sl h1
  obtain ⟨a1, rfl, z1⟩ := fits_map fits_eStr s1 k1
  rw [List.length_map] at w1
  obtain ⟨s2, r, rfl, w2, k2, h3⟩ := fits_sl h2
  obtain ⟨a2, rfl, z2⟩ := fits_map fits_eStr s2 k2
  rw [List.length_map] at w2
  obtain ⟨s3, r, rfl, w3, k3, h4⟩ := fits_sl h3
  obtain ⟨a3, rfl, z3⟩ := fits_map fits_eStr s3 k3
  rw [List.length_map] at w3
  obtain ⟨a4, r, rfl, w4, h5⟩ := fits_str h4
  obtain rfl := fits_nil h5
  refine ⟨⟨a0, a1, a2, a3, a4⟩, rfl, ?_, ?_⟩
  · exact ⟨⟨w1, fun y hy => (z1 y hy).1⟩, ⟨w2, fun y hy => (z2 y hy).1⟩, ⟨w3, fun y hy => (z3 y hy).1⟩, w4⟩
  · exact trivial
def shResponse : List Sh := [.int .i64, .int .i64, .str, .int .i64, .bool, .str]
def rgResponse (x : DResponse) : Prop := rgI x.status ∧ rgI x.kind ∧ rgI x.age
theorem fits_Response (r : List AV) (h0 : FitsC shResponse r) : ∃ x, r = eResponse x ∧ (wfResponse x ∧ rgResponse x) := by
  obtain ⟨a0, r, rfl, w0, h1⟩ := fits_int h0
  obtain ⟨a1, r, rfl, w1, h2⟩ := fits_int h1
  obtain ⟨a2, r, rfl, w2, h3⟩ := fits_str h2
  obtain ⟨a3, r, rfl, w3, h4⟩ := fits_int h3
  obtain ⟨a4, r, rfl, h5⟩ := fits_bool h4
  obtain ⟨a5, r, rfl, w5, h6⟩ := fits_str h5
  obtain rfl := fits_nil h6
  refine ⟨⟨a0, a1, a2, a3, a4, a5⟩, rfl, ?_, ?_⟩
  · exact ⟨w2, w5⟩
  · exact ⟨w0, w1, w3⟩
def shRequest : List Sh := [.int .i64, .str, .str, .str, .str]
def rgRequest (x : DRequest) : Prop := rgI x.kind
theorem fits_Request (r : List AV) (h0 : FitsC shRequest r) : ∃ x, r = eRequest x ∧ (wfRequest x ∧ rgRequest x) := by
  obtain ⟨a0, r, rfl, w0, h1⟩ := fits_int h0
  obtain ⟨a1, r, rfl, w1, h2⟩ := fits_str h1
  obtain ⟨a2, r, rfl, w2, h3⟩ := fits_str h2
  obtain ⟨a3, r, rfl, w3, h4⟩ := fits_str h3
  obtain ⟨a4, r, rfl, w4, h5⟩ := fits_str h4
  obtain rfl := fits_nil h5
  refine ⟨⟨a0, ⟨a1, a2⟩, a3, a4⟩, rfl, ?_, ?_⟩
  · exact ⟨⟨w1, w2⟩, w3, w4⟩
  · exact w0
def shFile : List Sh := [.str, .int .i64, .int .i64, .str, .int .i64, .bool, .str]
def rgFile (x : DFile) : Prop := rgResponse x.response
theorem fits_File (r : List AV) (h0 : FitsC shFile r) : ∃ x, r = eFile x ∧ (wfFile x ∧ rgFile x) := by
  obtain ⟨a0, r, rfl, w0, h1⟩ := fits_str h0
  obtain ⟨a1, r, rfl, w1, h2⟩ := fits_int h1
  obtain ⟨a2, r, rfl, w2, h3⟩ := fits_int h2
  obtain ⟨a3, r, rfl, w3, h4⟩ := fits_str h3
  obtain ⟨a4, r, rfl, w4, h5⟩ := fits_int h4
  obtain ⟨a5, r, rfl, h6⟩ := fits_bool h5
  obtain ⟨a6, r, rfl, w6, h7⟩ := fits_str h6
  obtain rfl := fits_nil h7
  refine ⟨⟨a0, ⟨a1, a2, a3, a4, a5, a6⟩⟩, rfl, ?_, ?_⟩
  · exact ⟨w0, ⟨w3, w6⟩⟩
  · exact ⟨w1, w2, w4⟩
def shServer : List Sh := [.str, .sl 7 shFile]
def rgServer (x : DServer) : Prop := (∀ y ∈ x.files, rgFile y)
theorem fits_Server (r : List AV) (h0 : FitsC shServer r) : ∃ x, r = eServer .view x ∧ (wfServer x ∧ rgServer x) := by
  obtain ⟨a0, r, rfl, w0, h1⟩ := fits_str h0
  obtain ⟨s1, r, rfl, w1, k1, h2⟩ := fits_sl h1
  obtain ⟨a1, rfl, z1⟩ := fits_map fits_File s1 k1
  rw [List.length_map] at w1
  obtain rfl := fits_nil h2
  refine ⟨⟨a0, a1⟩, rfl, ?_, ?_⟩
  · exact ⟨w0, ⟨w1, fun y hy => (z1 y hy).1⟩⟩
  · exact fun y hy => (z1 y hy).2
def shEntry : List Sh := [.str, .str, .str, .int .i64, .int .i64, .str, .int .i64, .bool, .str, .int .i64]
def rgEntry (x : DEntry) : Prop := rgResponse x.response ∧ rgI x.til
theorem fits_Entry (r : List AV) (h0 : FitsC shEntry r) : ∃ x, r = eEntry x ∧ (wfEntry x ∧ rgEntry x) := by
  obtain ⟨a0, r, rfl, w0, h1⟩ := fits_str h0
  obtain ⟨a1, r, rfl, w1, h2⟩ := fits_str h1
  obtain ⟨a2, r, rfl, w2, h3⟩ := fits_str h2
  obtain ⟨a3, r, rfl, w3, h4⟩ := fits_int h3
  obtain ⟨a4, r, rfl, w4, h5⟩ := fits_int h4
  obtain ⟨a5, r, rfl, w5, h6⟩ := fits_str h5
  obtain ⟨a6, r, rfl, w6, h7⟩ := fits_int h6
  obtain ⟨a7, r, rfl, h8⟩ := fits_bool h7
  obtain ⟨a8, r, rfl, w8, h9⟩ := fits_str h8
  obtain ⟨a9, r, rfl, w9, h10⟩ := fits_int h9
  obtain rfl := fits_nil h10
  refine ⟨⟨a0, ⟨a1, a2⟩, ⟨a3, a4, a5, a6, a7, a8⟩, a9⟩, rfl, ?_, ?_⟩
  · exact ⟨w0, ⟨w1, w2⟩, ⟨w5, w8⟩⟩
  · exact ⟨⟨w3, w4, w6⟩, w9⟩
def shCache : List Sh := [.sl 10 shEntry]
def rgCache (x : DCache) : Prop := (∀ y ∈ x.entries, rgEntry y)
theorem fits_Cache (r : List AV) (h0 : FitsC shCache r) : ∃ x, r = eCache .view x ∧ (wfCache x ∧ rgCache x) := by
  obtain ⟨s0, r, rfl, w0, k0, h1⟩ := fits_sl h0
  obtain ⟨a0, rfl, z0⟩ := fits_map fits_Entry s0 k0
  rw [List.length_map] at w0
  obtain rfl := fits_nil h1
  refine ⟨⟨a0⟩, rfl, ?_, ?_⟩
  · exact ⟨w0, fun y hy => (z0 y hy).1⟩
  · exact fun y hy => (z0 y hy).2
def shSent : List Sh := [.str, .str, .str, .bool]
def rgSent (x : DSent) : Prop := True
theorem fits_Sent (r : List AV) (h0 : FitsC shSent r) : ∃ x, r = eSent x ∧ (wfSent x ∧ rgSent x) := by
  obtain ⟨a0, r, rfl, w0, h1⟩ := fits_str h0
  obtain ⟨a1, r, rfl, w1, h2⟩ := fits_str h1
  obtain ⟨a2, r, rfl, w2, h3⟩ := fits_str h2
  obtain ⟨a3, r, rfl, h4⟩ := fits_bool h3
  obtain rfl := fits_nil h4
  refine ⟨⟨a0, ⟨a1, a2⟩, a3⟩, rfl, ?_, ?_⟩
  · exact ⟨w0, ⟨w1, w2⟩⟩
  · exact trivial
def shNet : List Sh := [.sl 2 shServer, .sl 10 shEntry, .sl 4 shSent, .int .i64]
def rgNet (x : DNet) : Prop := (∀ y ∈ x.servers, rgServer y) ∧ rgCache x.cache ∧ rgI x.now
theorem fits_Net (r : List AV) (h0 : FitsC shNet r) : ∃ x, r = eNet .view x ∧ (wfNet x ∧ rgNet x) := by
  obtain ⟨s0, r, rfl, w0, k0, h1⟩ := fits_sl h0
  obtain ⟨a0, rfl, z0⟩ := fits_map fits_Server s0 k0
  rw [List.length_map] at w0
  obtain ⟨s1, r, rfl, w1, k1, h2⟩ := fits_sl h1
  obtain ⟨a1, rfl, z1⟩ := fits_map fits_Entry s1 k1
  rw [List.length_map] at w1
  obtain ⟨s2, r, rfl, w2, k2, h3⟩ := fits_sl h2
  obtain ⟨a2, rfl, z2⟩ := fits_map fits_Sent s2 k2
  rw [List.length_map] at w2
  obtain ⟨a3, r, rfl, w3, h4⟩ := fits_int h3
  obtain rfl := fits_nil h4
  refine ⟨⟨a0, ⟨a1⟩, a2, a3⟩, rfl, ?_, ?_⟩
  · exact ⟨⟨w0, fun y hy => (z0 y hy).1⟩, ⟨w1, fun y hy => (z1 y hy).1⟩, ⟨w2, fun y hy => (z2 y hy).1⟩⟩
  · exact ⟨fun y hy => (z0 y hy).2, fun y hy => (z1 y hy).2, w3⟩
def shSlot : List Sh := [.int .i64, .str, .str, .str, .int .i64, .bool, .int .i64, .str]
def rgSlot (x : DSlot) : Prop := rgI x.mode ∧ rgI x.node ∧ rgI x.code
theorem fits_Slot (r : List AV) (h0 : FitsC shSlot r) : ∃ x, r = eSlot x ∧ (wfSlot x ∧ rgSlot x) := by
  obtain ⟨a0, r, rfl, w0, h1⟩ := fits_int h0
  obtain ⟨a1, r, rfl, w1, h2⟩ := fits_str h1
  obtain ⟨a2, r, rfl, w2, h3⟩ := fits_str h2
  obtain ⟨a3, r, rfl, w3, h4⟩ := fits_str h3
  obtain ⟨a4, r, rfl, w4, h5⟩ := fits_int h4
  obtain ⟨a5, r, rfl, h6⟩ := fits_bool h5
  obtain ⟨a6, r, rfl, w6, h7⟩ := fits_int h6
  obtain ⟨a7, r, rfl, w7, h8⟩ := fits_str h7
  obtain rfl := fits_nil h8
  refine ⟨⟨a0, ⟨a1, a2⟩, a3, a4, a5, a6, a7⟩, rfl, ?_, ?_⟩
  · exact ⟨⟨w1, w2⟩, w3, w7⟩
  · exact ⟨w0, w4, w6⟩
def shModule : List Sh := [.str, .str, .bool, .int .i64, .str]
def rgModule (x : DModule) : Prop := rgI x.code
theorem fits_Module (r : List AV) (h0 : FitsC shModule r) : ∃ x, r = eModule x ∧ (wfModule x ∧ rgModule x) := by
  obtain ⟨a0, r, rfl, w0, h1⟩ := fits_str h0
  obtain ⟨a1, r, rfl, w1, h2⟩ := fits_str h1
  obtain ⟨a2, r, rfl, h3⟩ := fits_bool h2
  obtain ⟨a3, r, rfl, w3, h4⟩ := fits_int h3
  obtain ⟨a4, r, rfl, w4, h5⟩ := fits_str h4
  obtain rfl := fits_nil h5
  refine ⟨⟨⟨a0, a1⟩, a2, a3, a4⟩, rfl, ?_, ?_⟩
  · exact ⟨⟨w0, w1⟩, w4⟩
  · exact w3
def shPage : List Sh := [.str, .str, .bool, .sl 1 [.str], .sl 1 [.str], .sl 1 [.str], .str, .str, .sl 4 shToken, .bool, .sl 4 shNode, .sl 1 [.int .i64], .sl 8 shSlot, .sl 5 shModule, .sl 2 shAddr, .int .i64, .int .i64, .int .i64, .int .i64, .sl 2 shAddr, .sl 1 [.str], .bool]
def rgPage (x : DPage) : Prop := (∀ y ∈ x.queue, rgToken y) ∧ rgBuilder x.builder ∧ (∀ y ∈ x.slots, rgSlot y) ∧ (∀ y ∈ x.mods, rgModule y) ∧ rgI x.block ∧ rgI x.inline ∧ rgI x.deferred ∧ rgI x.entered
theorem fits_Page (r : List AV) (h0 : FitsC shPage r) : ∃ x, r = ePage .view x ∧ (wfPage x ∧ rgPage x) := by
  obtain ⟨a0, r, rfl, w0, h1⟩ := fits_str h0
  obtain ⟨a1, r, rfl, w1, h2⟩ := fits_str h1
  obtain ⟨a2, r, rfl, h3⟩ := fits_bool h2
  obtain ⟨s3, r, rfl, w3, k3, h4⟩ := fits_sl h3
  obtain ⟨a3, rfl, z3⟩ := fits_map fits_eStr s3 k3
  rw [List.length_map] at w3
  obtain ⟨s4, r, rfl, w4, k4, h5⟩ := fits_sl h4
  obtain ⟨a4, rfl, z4⟩ := fits_map fits_eStr s4 k4
  rw [List.length_map] at w4
  obtain ⟨s5, r, rfl, w5, k5, h6⟩ := fits_sl h5
  obtain ⟨a5, rfl, z5⟩ := fits_map fits_eStr s5 k5
  rw [List.length_map] at w5
  obtain ⟨a6, r, rfl, w6, h7⟩ := fits_str h6
  obtain ⟨a7, r, rfl, w7, h8⟩ := fits_str h7
  obtain ⟨s8, r, rfl, w8, k8, h9⟩ := fits_sl h8
  obtain ⟨a8, rfl, z8⟩ := fits_map fits_Token s8 k8
  rw [List.length_map] at w8
  obtain ⟨a9, r, rfl, h10⟩ := fits_bool h9
  obtain ⟨s10, r, rfl, w10, k10, h11⟩ := fits_sl h10
  obtain ⟨a10, rfl, z10⟩ := fits_map fits_Node s10 k10
  rw [List.length_map] at w10
  obtain ⟨s11, r, rfl, w11, k11, h12⟩ := fits_sl h11
  obtain ⟨a11, rfl, z11⟩ := fits_map fits_eInt s11 k11
  rw [List.length_map] at w11
  obtain ⟨s12, r, rfl, w12, k12, h13⟩ := fits_sl h12
  obtain ⟨a12, rfl, z12⟩ := fits_map fits_Slot s12 k12
  rw [List.length_map] at w12
  obtain ⟨s13, r, rfl, w13, k13, h14⟩ := fits_sl h13
  obtain ⟨a13, rfl, z13⟩ := fits_map fits_Module s13 k13
  rw [List.length_map] at w13
  obtain ⟨s14, r, rfl, w14, k14, h15⟩ := fits_sl h14
  obtain ⟨a14, rfl, z14⟩ := fits_map fits_Addr s14 k14
  rw [List.length_map] at w14
  obtain ⟨a15, r, rfl, w15, h16⟩ := fits_int h15
  obtain ⟨a16, r, rfl, w16, h17⟩ := fits_int h16
  obtain ⟨a17, r, rfl, w17, h18⟩ := fits_int h17
  obtain ⟨a18, r, rfl, w18, h19⟩ := fits_int h18
  obtain ⟨s19, r, rfl, w19, k19, h20⟩ := fits_sl h19
  obtain ⟨a19, rfl, z19⟩ := fits_map fits_Addr s19 k19
  rw [List.length_map] at w19
  obtain ⟨s20, r, rfl, w20, k20, h21⟩ := fits_sl h20
  obtain ⟨a20, rfl, z20⟩ := fits_map fits_eStr s20 k20
  rw [List.length_map] at w20
  obtain ⟨a21, r, rfl, h22⟩ := fits_bool h21
  obtain rfl := fits_nil h22
  refine ⟨⟨⟨a0, a1⟩, ⟨a2, a3, a4, a5, a6⟩, ⟨a7⟩, a8, a9, ⟨a10, a11⟩, a12, a13, a14, a15, a16, a17, a18, a19, a20, a21⟩, rfl, ?_, ?_⟩
  · exact ⟨⟨w0, w1⟩, ⟨⟨w3, fun y hy => (z3 y hy).1⟩, ⟨w4, fun y hy => (z4 y hy).1⟩, ⟨w5, fun y hy => (z5 y hy).1⟩, w6⟩, w7, ⟨w8, fun y hy => (z8 y hy).1⟩, ⟨⟨w10, fun y hy => (z10 y hy).1⟩, w11⟩, ⟨w12, fun y hy => (z12 y hy).1⟩, ⟨w13, fun y hy => (z13 y hy).1⟩, ⟨w14, fun y hy => (z14 y hy).1⟩, ⟨w19, fun y hy => (z19 y hy).1⟩, ⟨w20, fun y hy => (z20 y hy).1⟩⟩
  · exact ⟨fun y hy => (z8 y hy).2, ⟨fun y hy => (z10 y hy).2, fun y hy => (z11 y hy).2⟩, fun y hy => (z12 y hy).2, fun y hy => (z13 y hy).2, w15, w16, w17, w18⟩
def shResult : List Sh := [.sl 4 shNode, .sl 1 [.int .i64], .sl 1 [.str], .sl 1 [.str], .sl 2 shRule, .bool]
def rgResult (x : DResult) : Prop := rgBuilder x.builder ∧ rgSheet x.sheet
theorem fits_Result (r : List AV) (h0 : FitsC shResult r) : ∃ x, r = eResult .view x ∧ (wfResult x ∧ rgResult x) := by
  obtain ⟨s0, r, rfl, w0, k0, h1⟩ := fits_sl h0
  obtain ⟨a0, rfl, z0⟩ := fits_map fits_Node s0 k0
  rw [List.length_map] at w0
  obtain ⟨s1, r, rfl, w1, k1, h2⟩ := fits_sl h1
  obtain ⟨a1, rfl, z1⟩ := fits_map fits_eInt s1 k1
  rw [List.length_map] at w1
  obtain ⟨s2, r, rfl, w2, k2, h3⟩ := fits_sl h2
  obtain ⟨a2, rfl, z2⟩ := fits_map fits_eStr s2 k2
  rw [List.length_map] at w2
  obtain ⟨s3, r, rfl, w3, k3, h4⟩ := fits_sl h3
  obtain ⟨a3, rfl, z3⟩ := fits_map fits_eStr s3 k3
  rw [List.length_map] at w3
  obtain ⟨s4, r, rfl, w4, k4, h5⟩ := fits_sl h4
  obtain ⟨a4, rfl, z4⟩ := fits_map fits_Rule s4 k4
  rw [List.length_map] at w4
  obtain ⟨a5, r, rfl, h6⟩ := fits_bool h5
  obtain rfl := fits_nil h6
  refine ⟨⟨⟨a0, a1⟩, a2, a3, ⟨a4⟩, a5⟩, rfl, ?_, ?_⟩
  · exact ⟨⟨⟨w0, fun y hy => (z0 y hy).1⟩, w1⟩, ⟨w2, fun y hy => (z2 y hy).1⟩, ⟨w3, fun y hy => (z3 y hy).1⟩, ⟨w4, fun y hy => (z4 y hy).1⟩⟩
  · exact ⟨⟨fun y hy => (z0 y hy).2, fun y hy => (z1 y hy).2⟩, fun y hy => (z4 y hy).2⟩
def shGuess : List Sh := [.str, .str, .int .i64, .int .i64, .str, .int .i64, .bool, .str, .bool]
def rgGuess (x : DGuess) : Prop := rgResponse x.response
theorem fits_Guess (r : List AV) (h0 : FitsC shGuess r) : ∃ x, r = eGuess x ∧ (wfGuess x ∧ rgGuess x) := by
  obtain ⟨a0, r, rfl, w0, h1⟩ := fits_str h0
  obtain ⟨a1, r, rfl, w1, h2⟩ := fits_str h1
  obtain ⟨a2, r, rfl, w2, h3⟩ := fits_int h2
  obtain ⟨a3, r, rfl, w3, h4⟩ := fits_int h3
  obtain ⟨a4, r, rfl, w4, h5⟩ := fits_str h4
  obtain ⟨a5, r, rfl, w5, h6⟩ := fits_int h5
  obtain ⟨a6, r, rfl, h7⟩ := fits_bool h6
  obtain ⟨a7, r, rfl, w7, h8⟩ := fits_str h7
  obtain ⟨a8, r, rfl, h9⟩ := fits_bool h8
  obtain rfl := fits_nil h9
  refine ⟨⟨⟨a0, a1⟩, ⟨a2, a3, a4, a5, a6, a7⟩, a8⟩, rfl, ?_, ?_⟩
  · exact ⟨⟨w0, w1⟩, ⟨w4, w7⟩⟩
  · exact ⟨w2, w3, w5⟩
theorem fits_slice {α : Type} {row : List Sh} {n : Nat} {e : α → List AV} {p q : α → Prop} (h : ∀ r, FitsC row r → ∃ x, r = e x ∧ (p x ∧ q x)) {x : AV} (hx : FitsC [.sl n row] [x]) : ∃ l : List α, x = .sl .view n (l.map e) ∧ (l.length ≤ 9223372036854775807 ∧ ∀ y ∈ l, p y) ∧ ∀ y ∈ l, q y := by
  obtain ⟨rows, r', he, hlen, hrows, hr⟩ := fits_sl hx
  obtain ⟨l, rfl, hl⟩ := fits_map h rows hrows
  simp only [List.cons.injEq] at he
  exact ⟨l, he.1, ⟨by simpa using hlen, fun y hy => (hl y hy).1⟩, fun y hy => (hl y hy).2⟩
theorem fits_one_str {x : AV} (hx : FitsC [.str] [x]) : ∃ s : Str, x = .str s ∧ s.length ≤ 9223372036854775807 := by
  obtain ⟨s, r', he, h1, _⟩ := fits_str hx
  simp only [List.cons.injEq] at he
  exact ⟨s, he.1, h1⟩
theorem fits_one_int {x : AV} (hx : FitsC [.int .i64] [x]) : ∃ n : Int, x = .int .i64 n ∧ rgI n := by
  obtain ⟨n, he, _, h1⟩ := fits_eInt [x] hx
  simp only [eInt, List.cons.injEq] at he
  exact ⟨n, he.1, h1⟩
theorem fits_one_bool {x : AV} (hx : FitsC [.bool] [x]) : ∃ b : Bool, x = .bool b := by
  obtain ⟨b, r', he, _⟩ := fits_bool hx
  simp only [List.cons.injEq] at he
  exact ⟨b, he.1⟩
end Go.Aw
