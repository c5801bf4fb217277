/-
  Proved here: plain data of all types of the statements, and how it reads as abstract values.
  No condition beyond what each statement spells out.
-/
import Derived.Test.YtbbefoefjmgnoaaAwFun
import Derived.Test.YtbbefoefjmgnoaaAwData
set_option linter.all false
set_option linter.unusedVariables false
namespace Go.Aw
@[simp] def eInt (n : Int) : List AV := [.int .i64 n]
@[simp] def eBool (n : Bool) : List AV := [.bool n]
@[simp] def eStr (s : Str) : List AV := [.str s]
def szStr (s : Str) : Nat := s.length
@[simp] theorem rtr_eInt (t : Tg → Option Tg) (b : Bool) (l : List Int) : rtr t b (l.map eInt) = l.map eInt := rtr_map (by intro x; rfl) l
@[simp] theorem rtr_eStr (t : Tg → Option Tg) (b : Bool) (l : List Str) : rtr t b (l.map eStr) = l.map eStr := rtr_map (by intro x; rfl) l
@[simp] theorem clean_eInt (l : List Int) : cleanr (l.map eInt) = true := cleanr_map _ (by intro x; rfl) l
@[simp] theorem clean_eStr (l : List Str) : cleanr (l.map eStr) = true := cleanr_map _ (by intro x; rfl) l
theorem eInt_inj : ∀ x y : Int, eInt x = eInt y → x = y := by intro x y h; simpa using h
theorem eStr_inj : ∀ x y : Str, eStr x = eStr y → x = y := by intro x y h; simpa using h
structure DAddr where
  host : Str
  path : Str
deriving DecidableEq
@[simp] def eAddr (x : DAddr) : List AV := [.str x.host, .str x.path]
def szAddr (x : DAddr) : Nat := x.host.length + x.path.length
def wfAddr (x : DAddr) : Prop := x.host.length ≤ 9223372036854775807 ∧ x.path.length ≤ 9223372036854775807
@[simp] theorem rtr_eAddr (t : Tg → Option Tg) (b : Bool) (l : List DAddr) : rtr t b (l.map eAddr) = l.map eAddr := rtr_map (by intro x; rfl) l
@[simp] theorem clean_eAddr (l : List DAddr) : cleanr (l.map eAddr) = true := cleanr_map _ (by intro x; rfl) l
structure DAttr where
  name : Str
  value : Str
deriving DecidableEq
@[simp] def eAttr (x : DAttr) : List AV := [.str x.name, .str x.value]
def szAttr (x : DAttr) : Nat := x.name.length + x.value.length
def wfAttr (x : DAttr) : Prop := x.name.length ≤ 9223372036854775807 ∧ x.value.length ≤ 9223372036854775807
@[simp] theorem rtr_eAttr (t : Tg → Option Tg) (b : Bool) (l : List DAttr) : rtr t b (l.map eAttr) = l.map eAttr := rtr_map (by intro x; rfl) l
@[simp] theorem clean_eAttr (l : List DAttr) : cleanr (l.map eAttr) = true := cleanr_map _ (by intro x; rfl) l
structure DToken where
  kind : Int
  name : Str
  attrs : List DAttr
  text : Str
deriving DecidableEq
@[simp] def eToken (g : Tg) (x : DToken) : List AV := [.int .i64 x.kind, .str x.name, .sl g 2 (x.attrs.map eAttr), .str x.text]
def szToken (x : DToken) : Nat := x.name.length + (szL szAttr x.attrs) + x.text.length
def wfToken (x : DToken) : Prop := x.name.length ≤ 9223372036854775807 ∧ (x.attrs.length ≤ 9223372036854775807 ∧ ∀ y ∈ x.attrs, wfAttr y) ∧ x.text.length ≤ 9223372036854775807
@[simp] theorem rtr_vw_eToken (g : Tg) (b : Bool) (l : List DToken) : rtr (fun _ => some .view) b (l.map (eToken g)) = l.map (eToken .view) := rtr_map (by intro x; simp) l
@[simp] theorem rtr_dpo_eToken (i : Nat) (b : Bool) (l : List DToken) : rtr (dpf i) b (l.map (eToken .own)) = l.map (eToken (.dep i)) := rtr_map (by intro x; simp) l
@[simp] theorem rtr_dpv_eToken (i : Nat) (b : Bool) (l : List DToken) : rtr (dpf i) b (l.map (eToken .view)) = l.map (eToken .view) := rtr_map (by intro x; simp) l
@[simp] theorem rtr_dpd_eToken (i j : Nat) (b : Bool) (l : List DToken) : rtr (dpf i) b (l.map (eToken (.dep j))) = l.map (eToken (.dep j)) := rtr_map (by intro x; simp) l
@[simp] theorem rtr_vwo_eToken (b : Bool) (l : List DToken) : rtr vwf b (l.map (eToken .own)) = l.map (eToken .view) := rtr_map (by intro x; simp) l
@[simp] theorem rtr_vwv_eToken (b : Bool) (l : List DToken) : rtr vwf b (l.map (eToken .view)) = l.map (eToken .view) := rtr_map (by intro x; simp) l
@[simp] theorem clean_eToken (l : List DToken) : cleanr (l.map (eToken .own)) = true := cleanr_map _ (by intro x; simp) l
structure DTokenizer where
  rest : Str
deriving DecidableEq
@[simp] def eTokenizer (x : DTokenizer) : List AV := [.str x.rest]
def szTokenizer (x : DTokenizer) : Nat := x.rest.length
def wfTokenizer (x : DTokenizer) : Prop := x.rest.length ≤ 9223372036854775807
@[simp] theorem rtr_eTokenizer (t : Tg → Option Tg) (b : Bool) (l : List DTokenizer) : rtr t b (l.map eTokenizer) = l.map eTokenizer := rtr_map (by intro x; rfl) l
@[simp] theorem clean_eTokenizer (l : List DTokenizer) : cleanr (l.map eTokenizer) = true := cleanr_map _ (by intro x; rfl) l
structure DNode where
  name : Str
  text : Str
  parent : Int
  attrs : List DAttr
deriving DecidableEq
@[simp] def eNode (g : Tg) (x : DNode) : List AV := [.str x.name, .str x.text, .int .i64 x.parent, .sl g 2 (x.attrs.map eAttr)]
def szNode (x : DNode) : Nat := x.name.length + x.text.length + (szL szAttr x.attrs)
def wfNode (x : DNode) : Prop := x.name.length ≤ 9223372036854775807 ∧ x.text.length ≤ 9223372036854775807 ∧ (x.attrs.length ≤ 9223372036854775807 ∧ ∀ y ∈ x.attrs, wfAttr y)
@[simp] theorem rtr_vw_eNode (g : Tg) (b : Bool) (l : List DNode) : rtr (fun _ => some .view) b (l.map (eNode g)) = l.map (eNode .view) := rtr_map (by intro x; simp) l
@[simp] theorem rtr_dpo_eNode (i : Nat) (b : Bool) (l : List DNode) : rtr (dpf i) b (l.map (eNode .own)) = l.map (eNode (.dep i)) := rtr_map (by intro x; simp) l
@[simp] theorem rtr_dpv_eNode (i : Nat) (b : Bool) (l : List DNode) : rtr (dpf i) b (l.map (eNode .view)) = l.map (eNode .view) := rtr_map (by intro x; simp) l
@[simp] theorem rtr_dpd_eNode (i j : Nat) (b : Bool) (l : List DNode) : rtr (dpf i) b (l.map (eNode (.dep j))) = l.map (eNode (.dep j)) := rtr_map (by intro x; simp) l
@[simp] theorem rtr_vwo_eNode (b : Bool) (l : List DNode) : rtr vwf b (l.map (eNode .own)) = l.map (eNode .view) := rtr_map (by intro x; simp) l
@[simp] theorem rtr_vwv_eNode (b : Bool) (l : List DNode) : rtr vwf b (l.map (eNode .view)) = l.map (eNode .view) := rtr_map (by intro x; simp) l
@[simp] theorem clean_eNode (l : List DNode) : cleanr (l.map (eNode .own)) = true := cleanr_map _ (by intro x; simp) l
structure DBuilder where
  nodes : List DNode
  opens : List Int
deriving DecidableEq
@[simp] def eBuilder (g : Tg) (x : DBuilder) : List AV := [.sl g 4 (x.nodes.map (eNode g)), .sl g 1 (x.opens.map eInt)]
def szBuilder (x : DBuilder) : Nat := (szL szNode x.nodes) + x.opens.length
def wfBuilder (x : DBuilder) : Prop := (x.nodes.length ≤ 9223372036854775807 ∧ ∀ y ∈ x.nodes, wfNode y) ∧ x.opens.length ≤ 9223372036854775807
@[simp] theorem rtr_vw_eBuilder (g : Tg) (b : Bool) (l : List DBuilder) : rtr (fun _ => some .view) b (l.map (eBuilder g)) = l.map (eBuilder .view) := rtr_map (by intro x; simp) l
@[simp] theorem rtr_dpo_eBuilder (i : Nat) (b : Bool) (l : List DBuilder) : rtr (dpf i) b (l.map (eBuilder .own)) = l.map (eBuilder (.dep i)) := rtr_map (by intro x; simp) l
@[simp] theorem rtr_dpv_eBuilder (i : Nat) (b : Bool) (l : List DBuilder) : rtr (dpf i) b (l.map (eBuilder .view)) = l.map (eBuilder .view) := rtr_map (by intro x; simp) l
@[simp] theorem rtr_dpd_eBuilder (i j : Nat) (b : Bool) (l : List DBuilder) : rtr (dpf i) b (l.map (eBuilder (.dep j))) = l.map (eBuilder (.dep j)) := rtr_map (by intro x; simp) l
@[simp] theorem rtr_vwo_eBuilder (b : Bool) (l : List DBuilder) : rtr vwf b (l.map (eBuilder .own)) = l.map (eBuilder .view) := rtr_map (by intro x; simp) l
@[simp] theorem rtr_vwv_eBuilder (b : Bool) (l : List DBuilder) : rtr vwf b (l.map (eBuilder .view)) = l.map (eBuilder .view) := rtr_map (by intro x; simp) l
@[simp] theorem clean_eBuilder (l : List DBuilder) : cleanr (l.map (eBuilder .own)) = true := cleanr_map _ (by intro x; simp) l
structure DRule where
  name : Str
  color : Int
deriving DecidableEq
@[simp] def eRule (x : DRule) : List AV := [.str x.name, .int .i64 x.color]
def szRule (x : DRule) : Nat := x.name.length
def wfRule (x : DRule) : Prop := x.name.length ≤ 9223372036854775807
@[simp] theorem rtr_eRule (t : Tg → Option Tg) (b : Bool) (l : List DRule) : rtr t b (l.map eRule) = l.map eRule := rtr_map (by intro x; rfl) l
@[simp] theorem clean_eRule (l : List DRule) : cleanr (l.map eRule) = true := cleanr_map _ (by intro x; rfl) l
structure DSheet where
  rules : List DRule
deriving DecidableEq
@[simp] def eSheet (g : Tg) (x : DSheet) : List AV := [.sl g 2 (x.rules.map eRule)]
def szSheet (x : DSheet) : Nat := (szL szRule x.rules)
def wfSheet (x : DSheet) : Prop := (x.rules.length ≤ 9223372036854775807 ∧ ∀ y ∈ x.rules, wfRule y)
@[simp] theorem rtr_vw_eSheet (g : Tg) (b : Bool) (l : List DSheet) : rtr (fun _ => some .view) b (l.map (eSheet g)) = l.map (eSheet .view) := rtr_map (by intro x; simp) l
@[simp] theorem rtr_dpo_eSheet (i : Nat) (b : Bool) (l : List DSheet) : rtr (dpf i) b (l.map (eSheet .own)) = l.map (eSheet (.dep i)) := rtr_map (by intro x; simp) l
@[simp] theorem rtr_dpv_eSheet (i : Nat) (b : Bool) (l : List DSheet) : rtr (dpf i) b (l.map (eSheet .view)) = l.map (eSheet .view) := rtr_map (by intro x; simp) l
@[simp] theorem rtr_dpd_eSheet (i j : Nat) (b : Bool) (l : List DSheet) : rtr (dpf i) b (l.map (eSheet (.dep j))) = l.map (eSheet (.dep j)) := rtr_map (by intro x; simp) l
@[simp] theorem rtr_vwo_eSheet (b : Bool) (l : List DSheet) : rtr vwf b (l.map (eSheet .own)) = l.map (eSheet .view) := rtr_map (by intro x; simp) l
@[simp] theorem rtr_vwv_eSheet (b : Bool) (l : List DSheet) : rtr vwf b (l.map (eSheet .view)) = l.map (eSheet .view) := rtr_map (by intro x; simp) l
@[simp] theorem clean_eSheet (l : List DSheet) : cleanr (l.map (eSheet .own)) = true := cleanr_map _ (by intro x; simp) l
structure DLine where
  op : Int
  text : Str
deriving DecidableEq
@[simp] def eLine (x : DLine) : List AV := [.int .i64 x.op, .str x.text]
def szLine (x : DLine) : Nat := x.text.length
def wfLine (x : DLine) : Prop := x.text.length ≤ 9223372036854775807
@[simp] theorem rtr_eLine (t : Tg → Option Tg) (b : Bool) (l : List DLine) : rtr t b (l.map eLine) = l.map eLine := rtr_map (by intro x; rfl) l
@[simp] theorem clean_eLine (l : List DLine) : cleanr (l.map eLine) = true := cleanr_map _ (by intro x; rfl) l
structure DPolicy where
  isSet : Bool
  scripts : List Str
  styles : List Str
  images : List Str
  nonce : Str
deriving DecidableEq
@[simp] def ePolicy (g : Tg) (x : DPolicy) : List AV := [.bool x.isSet, .sl g 1 (x.scripts.map eStr), .sl g 1 (x.styles.map eStr), .sl g 1 (x.images.map eStr), .str x.nonce]
def szPolicy (x : DPolicy) : Nat := (szL szStr x.scripts) + (szL szStr x.styles) + (szL szStr x.images) + x.nonce.length
def wfPolicy (x : DPolicy) : Prop := (x.scripts.length ≤ 9223372036854775807 ∧ ∀ y ∈ x.scripts, y.length ≤ 9223372036854775807) ∧ (x.styles.length ≤ 9223372036854775807 ∧ ∀ y ∈ x.styles, y.length ≤ 9223372036854775807) ∧ (x.images.length ≤ 9223372036854775807 ∧ ∀ y ∈ x.images, y.length ≤ 9223372036854775807) ∧ x.nonce.length ≤ 9223372036854775807
@[simp] theorem rtr_vw_ePolicy (g : Tg) (b : Bool) (l : List DPolicy) : rtr (fun _ => some .view) b (l.map (ePolicy g)) = l.map (ePolicy .view) := rtr_map (by intro x; simp) l
@[simp] theorem rtr_dpo_ePolicy (i : Nat) (b : Bool) (l : List DPolicy) : rtr (dpf i) b (l.map (ePolicy .own)) = l.map (ePolicy (.dep i)) := rtr_map (by intro x; simp) l
@[simp] theorem rtr_dpv_ePolicy (i : Nat) (b : Bool) (l : List DPolicy) : rtr (dpf i) b (l.map (ePolicy .view)) = l.map (ePolicy .view) := rtr_map (by intro x; simp) l
@[simp] theorem rtr_dpd_ePolicy (i j : Nat) (b : Bool) (l : List DPolicy) : rtr (dpf i) b (l.map (ePolicy (.dep j))) = l.map (ePolicy (.dep j)) := rtr_map (by intro x; simp) l
@[simp] theorem rtr_vwo_ePolicy (b : Bool) (l : List DPolicy) : rtr vwf b (l.map (ePolicy .own)) = l.map (ePolicy .view) := rtr_map (by intro x; simp) l
@[simp] theorem rtr_vwv_ePolicy (b : Bool) (l : List DPolicy) : rtr vwf b (l.map (ePolicy .view)) = l.map (ePolicy .view) := rtr_map (by intro x; simp) l
@[simp] theorem clean_ePolicy (l : List DPolicy) : cleanr (l.map (ePolicy .own)) = true := cleanr_map _ (by intro x; simp) l
structure DResponse where
  status : Int
  kind : Int
  body : Str
  age : Int
  shares : Bool
  policy : Str
deriving DecidableEq
@[simp] def eResponse (x : DResponse) : List AV := [.int .i64 x.status, .int .i64 x.kind, .str x.body, .int .i64 x.age, .bool x.shares, .str x.policy]
def szResponse (x : DResponse) : Nat := x.body.length + x.policy.length
def wfResponse (x : DResponse) : Prop := x.body.length ≤ 9223372036854775807 ∧ x.policy.length ≤ 9223372036854775807
@[simp] theorem rtr_eResponse (t : Tg → Option Tg) (b : Bool) (l : List DResponse) : rtr t b (l.map eResponse) = l.map eResponse := rtr_map (by intro x; rfl) l
@[simp] theorem clean_eResponse (l : List DResponse) : cleanr (l.map eResponse) = true := cleanr_map _ (by intro x; rfl) l
structure DRequest where
  kind : Int
  to : DAddr
  frm : Str
  digest : Str
deriving DecidableEq
@[simp] def eRequest (x : DRequest) : List AV := [.int .i64 x.kind, .str x.to.host, .str x.to.path, .str x.frm, .str x.digest]
def szRequest (x : DRequest) : Nat := (szAddr x.to) + x.frm.length + x.digest.length
def wfRequest (x : DRequest) : Prop := wfAddr x.to ∧ x.frm.length ≤ 9223372036854775807 ∧ x.digest.length ≤ 9223372036854775807
@[simp] theorem rtr_eRequest (t : Tg → Option Tg) (b : Bool) (l : List DRequest) : rtr t b (l.map eRequest) = l.map eRequest := rtr_map (by intro x; rfl) l
@[simp] theorem clean_eRequest (l : List DRequest) : cleanr (l.map eRequest) = true := cleanr_map _ (by intro x; rfl) l
structure DFile where
  path : Str
  response : DResponse
deriving DecidableEq
@[simp] def eFile (x : DFile) : List AV := [.str x.path, .int .i64 x.response.status, .int .i64 x.response.kind, .str x.response.body, .int .i64 x.response.age, .bool x.response.shares, .str x.response.policy]
def szFile (x : DFile) : Nat := x.path.length + (szResponse x.response)
def wfFile (x : DFile) : Prop := x.path.length ≤ 9223372036854775807 ∧ wfResponse x.response
@[simp] theorem rtr_eFile (t : Tg → Option Tg) (b : Bool) (l : List DFile) : rtr t b (l.map eFile) = l.map eFile := rtr_map (by intro x; rfl) l
@[simp] theorem clean_eFile (l : List DFile) : cleanr (l.map eFile) = true := cleanr_map _ (by intro x; rfl) l
structure DServer where
  host : Str
  files : List DFile
deriving DecidableEq
@[simp] def eServer (g : Tg) (x : DServer) : List AV := [.str x.host, .sl g 7 (x.files.map eFile)]
def szServer (x : DServer) : Nat := x.host.length + (szL szFile x.files)
def wfServer (x : DServer) : Prop := x.host.length ≤ 9223372036854775807 ∧ (x.files.length ≤ 9223372036854775807 ∧ ∀ y ∈ x.files, wfFile y)
@[simp] theorem rtr_vw_eServer (g : Tg) (b : Bool) (l : List DServer) : rtr (fun _ => some .view) b (l.map (eServer g)) = l.map (eServer .view) := rtr_map (by intro x; simp) l
@[simp] theorem rtr_dpo_eServer (i : Nat) (b : Bool) (l : List DServer) : rtr (dpf i) b (l.map (eServer .own)) = l.map (eServer (.dep i)) := rtr_map (by intro x; simp) l
@[simp] theorem rtr_dpv_eServer (i : Nat) (b : Bool) (l : List DServer) : rtr (dpf i) b (l.map (eServer .view)) = l.map (eServer .view) := rtr_map (by intro x; simp) l
@[simp] theorem rtr_dpd_eServer (i j : Nat) (b : Bool) (l : List DServer) : rtr (dpf i) b (l.map (eServer (.dep j))) = l.map (eServer (.dep j)) := rtr_map (by intro x; simp) l
@[simp] theorem rtr_vwo_eServer (b : Bool) (l : List DServer) : rtr vwf b (l.map (eServer .own)) = l.map (eServer .view) := rtr_map (by intro x; simp) l
@[simp] theorem rtr_vwv_eServer (b : Bool) (l : List DServer) : rtr vwf b (l.map (eServer .view)) = l.map (eServer .view) := rtr_map (by intro x; simp) l
@[simp] theorem clean_eServer (l : List DServer) : cleanr (l.map (eServer .own)) = true := cleanr_map _ (by intro x; simp) l
structure DEntry where
  top : Str
  to : DAddr
  response : DResponse
  til : Int
deriving DecidableEq
@[simp] def eEntry (x : DEntry) : List AV := [.str x.top, .str x.to.host, .str x.to.path, .int .i64 x.response.status, .int .i64 x.response.kind, .str x.response.body, .int .i64 x.response.age, .bool x.response.shares, .str x.response.policy, .int .i64 x.til]
def szEntry (x : DEntry) : Nat := x.top.length + (szAddr x.to) + (szResponse x.response)
def wfEntry (x : DEntry) : Prop := x.top.length ≤ 9223372036854775807 ∧ wfAddr x.to ∧ wfResponse x.response
@[simp] theorem rtr_eEntry (t : Tg → Option Tg) (b : Bool) (l : List DEntry) : rtr t b (l.map eEntry) = l.map eEntry := rtr_map (by intro x; rfl) l
@[simp] theorem clean_eEntry (l : List DEntry) : cleanr (l.map eEntry) = true := cleanr_map _ (by intro x; rfl) l
structure DCache where
  entries : List DEntry
deriving DecidableEq
@[simp] def eCache (g : Tg) (x : DCache) : List AV := [.sl g 10 (x.entries.map eEntry)]
def szCache (x : DCache) : Nat := (szL szEntry x.entries)
def wfCache (x : DCache) : Prop := (x.entries.length ≤ 9223372036854775807 ∧ ∀ y ∈ x.entries, wfEntry y)
@[simp] theorem rtr_vw_eCache (g : Tg) (b : Bool) (l : List DCache) : rtr (fun _ => some .view) b (l.map (eCache g)) = l.map (eCache .view) := rtr_map (by intro x; simp) l
@[simp] theorem rtr_dpo_eCache (i : Nat) (b : Bool) (l : List DCache) : rtr (dpf i) b (l.map (eCache .own)) = l.map (eCache (.dep i)) := rtr_map (by intro x; simp) l
@[simp] theorem rtr_dpv_eCache (i : Nat) (b : Bool) (l : List DCache) : rtr (dpf i) b (l.map (eCache .view)) = l.map (eCache .view) := rtr_map (by intro x; simp) l
@[simp] theorem rtr_dpd_eCache (i j : Nat) (b : Bool) (l : List DCache) : rtr (dpf i) b (l.map (eCache (.dep j))) = l.map (eCache (.dep j)) := rtr_map (by intro x; simp) l
@[simp] theorem rtr_vwo_eCache (b : Bool) (l : List DCache) : rtr vwf b (l.map (eCache .own)) = l.map (eCache .view) := rtr_map (by intro x; simp) l
@[simp] theorem rtr_vwv_eCache (b : Bool) (l : List DCache) : rtr vwf b (l.map (eCache .view)) = l.map (eCache .view) := rtr_map (by intro x; simp) l
@[simp] theorem clean_eCache (l : List DCache) : cleanr (l.map (eCache .own)) = true := cleanr_map _ (by intro x; simp) l
structure DSent where
  top : Str
  to : DAddr
  guess : Bool
deriving DecidableEq
@[simp] def eSent (x : DSent) : List AV := [.str x.top, .str x.to.host, .str x.to.path, .bool x.guess]
def szSent (x : DSent) : Nat := x.top.length + (szAddr x.to)
def wfSent (x : DSent) : Prop := x.top.length ≤ 9223372036854775807 ∧ wfAddr x.to
@[simp] theorem rtr_eSent (t : Tg → Option Tg) (b : Bool) (l : List DSent) : rtr t b (l.map eSent) = l.map eSent := rtr_map (by intro x; rfl) l
@[simp] theorem clean_eSent (l : List DSent) : cleanr (l.map eSent) = true := cleanr_map _ (by intro x; rfl) l
structure DNet where
  servers : List DServer
  cache : DCache
  log : List DSent
  now : Int
deriving DecidableEq
@[simp] def eNet (g : Tg) (x : DNet) : List AV := [.sl g 2 (x.servers.map (eServer g)), .sl g 10 (x.cache.entries.map eEntry), .sl g 4 (x.log.map eSent), .int .i64 x.now]
def szNet (x : DNet) : Nat := (szL szServer x.servers) + (szCache x.cache) + (szL szSent x.log)
def wfNet (x : DNet) : Prop := (x.servers.length ≤ 9223372036854775807 ∧ ∀ y ∈ x.servers, wfServer y) ∧ wfCache x.cache ∧ (x.log.length ≤ 9223372036854775807 ∧ ∀ y ∈ x.log, wfSent y)
@[simp] theorem rtr_vw_eNet (g : Tg) (b : Bool) (l : List DNet) : rtr (fun _ => some .view) b (l.map (eNet g)) = l.map (eNet .view) := rtr_map (by intro x; simp) l
@[simp] theorem rtr_dpo_eNet (i : Nat) (b : Bool) (l : List DNet) : rtr (dpf i) b (l.map (eNet .own)) = l.map (eNet (.dep i)) := rtr_map (by intro x; simp) l
@[simp] theorem rtr_dpv_eNet (i : Nat) (b : Bool) (l : List DNet) : rtr (dpf i) b (l.map (eNet .view)) = l.map (eNet .view) := rtr_map (by intro x; simp) l
@[simp] theorem rtr_dpd_eNet (i j : Nat) (b : Bool) (l : List DNet) : rtr (dpf i) b (l.map (eNet (.dep j))) = l.map (eNet (.dep j)) := rtr_map (by intro x; simp) l
@[simp] theorem rtr_vwo_eNet (b : Bool) (l : List DNet) : rtr vwf b (l.map (eNet .own)) = l.map (eNet .view) := rtr_map (by intro x; simp) l
@[simp] theorem rtr_vwv_eNet (b : Bool) (l : List DNet) : rtr vwf b (l.map (eNet .view)) = l.map (eNet .view) := rtr_map (by intro x; simp) l
@[simp] theorem clean_eNet (l : List DNet) : cleanr (l.map (eNet .own)) = true := cleanr_map _ (by intro x; simp) l
structure DSlot where
  mode : Int
  to : DAddr
  digest : Str
  node : Int
  done : Bool
  code : Int
  body : Str
deriving DecidableEq
@[simp] def eSlot (x : DSlot) : List AV := [.int .i64 x.mode, .str x.to.host, .str x.to.path, .str x.digest, .int .i64 x.node, .bool x.done, .int .i64 x.code, .str x.body]
def szSlot (x : DSlot) : Nat := (szAddr x.to) + x.digest.length + x.body.length
def wfSlot (x : DSlot) : Prop := wfAddr x.to ∧ x.digest.length ≤ 9223372036854775807 ∧ x.body.length ≤ 9223372036854775807
@[simp] theorem rtr_eSlot (t : Tg → Option Tg) (b : Bool) (l : List DSlot) : rtr t b (l.map eSlot) = l.map eSlot := rtr_map (by intro x; rfl) l
@[simp] theorem clean_eSlot (l : List DSlot) : cleanr (l.map eSlot) = true := cleanr_map _ (by intro x; rfl) l
structure DModule where
  to : DAddr
  done : Bool
  code : Int
  body : Str
deriving DecidableEq
@[simp] def eModule (x : DModule) : List AV := [.str x.to.host, .str x.to.path, .bool x.done, .int .i64 x.code, .str x.body]
def szModule (x : DModule) : Nat := (szAddr x.to) + x.body.length
def wfModule (x : DModule) : Prop := wfAddr x.to ∧ x.body.length ≤ 9223372036854775807
@[simp] theorem rtr_eModule (t : Tg → Option Tg) (b : Bool) (l : List DModule) : rtr t b (l.map eModule) = l.map eModule := rtr_map (by intro x; rfl) l
@[simp] theorem clean_eModule (l : List DModule) : cleanr (l.map eModule) = true := cleanr_map _ (by intro x; rfl) l
structure DPage where
  addr : DAddr
  policy : DPolicy
  tok : DTokenizer
  queue : List DToken
  ended : Bool
  builder : DBuilder
  slots : List DSlot
  mods : List DModule
  entries : List DAddr
  block : Int
  inline : Int
  deferred : Int
  entered : Int
  ran : List DAddr
  log : List Str
  loaded : Bool
deriving DecidableEq
@[simp] def ePage (g : Tg) (x : DPage) : List AV := [.str x.addr.host, .str x.addr.path, .bool x.policy.isSet, .sl g 1 (x.policy.scripts.map eStr), .sl g 1 (x.policy.styles.map eStr), .sl g 1 (x.policy.images.map eStr), .str x.policy.nonce, .str x.tok.rest, .sl g 4 (x.queue.map (eToken g)), .bool x.ended, .sl g 4 (x.builder.nodes.map (eNode g)), .sl g 1 (x.builder.opens.map eInt), .sl g 8 (x.slots.map eSlot), .sl g 5 (x.mods.map eModule), .sl g 2 (x.entries.map eAddr), .int .i64 x.block, .int .i64 x.inline, .int .i64 x.deferred, .int .i64 x.entered, .sl g 2 (x.ran.map eAddr), .sl g 1 (x.log.map eStr), .bool x.loaded]
def szPage (x : DPage) : Nat := (szAddr x.addr) + (szPolicy x.policy) + (szTokenizer x.tok) + (szL szToken x.queue) + (szBuilder x.builder) + (szL szSlot x.slots) + (szL szModule x.mods) + (szL szAddr x.entries) + (szL szAddr x.ran) + (szL szStr x.log)
def wfPage (x : DPage) : Prop := wfAddr x.addr ∧ wfPolicy x.policy ∧ wfTokenizer x.tok ∧ (x.queue.length ≤ 9223372036854775807 ∧ ∀ y ∈ x.queue, wfToken y) ∧ wfBuilder x.builder ∧ (x.slots.length ≤ 9223372036854775807 ∧ ∀ y ∈ x.slots, wfSlot y) ∧ (x.mods.length ≤ 9223372036854775807 ∧ ∀ y ∈ x.mods, wfModule y) ∧ (x.entries.length ≤ 9223372036854775807 ∧ ∀ y ∈ x.entries, wfAddr y) ∧ (x.ran.length ≤ 9223372036854775807 ∧ ∀ y ∈ x.ran, wfAddr y) ∧ (x.log.length ≤ 9223372036854775807 ∧ ∀ y ∈ x.log, y.length ≤ 9223372036854775807)
@[simp] theorem rtr_vw_ePage (g : Tg) (b : Bool) (l : List DPage) : rtr (fun _ => some .view) b (l.map (ePage g)) = l.map (ePage .view) := rtr_map (by intro x; simp) l
@[simp] theorem rtr_dpo_ePage (i : Nat) (b : Bool) (l : List DPage) : rtr (dpf i) b (l.map (ePage .own)) = l.map (ePage (.dep i)) := rtr_map (by intro x; simp) l
@[simp] theorem rtr_dpv_ePage (i : Nat) (b : Bool) (l : List DPage) : rtr (dpf i) b (l.map (ePage .view)) = l.map (ePage .view) := rtr_map (by intro x; simp) l
@[simp] theorem rtr_dpd_ePage (i j : Nat) (b : Bool) (l : List DPage) : rtr (dpf i) b (l.map (ePage (.dep j))) = l.map (ePage (.dep j)) := rtr_map (by intro x; simp) l
@[simp] theorem rtr_vwo_ePage (b : Bool) (l : List DPage) : rtr vwf b (l.map (ePage .own)) = l.map (ePage .view) := rtr_map (by intro x; simp) l
@[simp] theorem rtr_vwv_ePage (b : Bool) (l : List DPage) : rtr vwf b (l.map (ePage .view)) = l.map (ePage .view) := rtr_map (by intro x; simp) l
@[simp] theorem clean_ePage (l : List DPage) : cleanr (l.map (ePage .own)) = true := cleanr_map _ (by intro x; simp) l
structure DResult where
  builder : DBuilder
  log : List Str
  verdicts : List Str
  sheet : DSheet
  loaded : Bool
deriving DecidableEq
@[simp] def eResult (g : Tg) (x : DResult) : List AV := [.sl g 4 (x.builder.nodes.map (eNode g)), .sl g 1 (x.builder.opens.map eInt), .sl g 1 (x.log.map eStr), .sl g 1 (x.verdicts.map eStr), .sl g 2 (x.sheet.rules.map eRule), .bool x.loaded]
def szResult (x : DResult) : Nat := (szBuilder x.builder) + (szL szStr x.log) + (szL szStr x.verdicts) + (szSheet x.sheet)
def wfResult (x : DResult) : Prop := wfBuilder x.builder ∧ (x.log.length ≤ 9223372036854775807 ∧ ∀ y ∈ x.log, y.length ≤ 9223372036854775807) ∧ (x.verdicts.length ≤ 9223372036854775807 ∧ ∀ y ∈ x.verdicts, y.length ≤ 9223372036854775807) ∧ wfSheet x.sheet
@[simp] theorem rtr_vw_eResult (g : Tg) (b : Bool) (l : List DResult) : rtr (fun _ => some .view) b (l.map (eResult g)) = l.map (eResult .view) := rtr_map (by intro x; simp) l
@[simp] theorem rtr_dpo_eResult (i : Nat) (b : Bool) (l : List DResult) : rtr (dpf i) b (l.map (eResult .own)) = l.map (eResult (.dep i)) := rtr_map (by intro x; simp) l
@[simp] theorem rtr_dpv_eResult (i : Nat) (b : Bool) (l : List DResult) : rtr (dpf i) b (l.map (eResult .view)) = l.map (eResult .view) := rtr_map (by intro x; simp) l
@[simp] theorem rtr_dpd_eResult (i j : Nat) (b : Bool) (l : List DResult) : rtr (dpf i) b (l.map (eResult (.dep j))) = l.map (eResult (.dep j)) := rtr_map (by intro x; simp) l
@[simp] theorem rtr_vwo_eResult (b : Bool) (l : List DResult) : rtr vwf b (l.map (eResult .own)) = l.map (eResult .view) := rtr_map (by intro x; simp) l
@[simp] theorem rtr_vwv_eResult (b : Bool) (l : List DResult) : rtr vwf b (l.map (eResult .view)) = l.map (eResult .view) := rtr_map (by intro x; simp) l
@[simp] theorem clean_eResult (l : List DResult) : cleanr (l.map (eResult .own)) = true := cleanr_map _ (by intro x; simp) l
structure DGuess where
  to : DAddr
  response : DResponse
  used : Bool
deriving DecidableEq
@[simp] def eGuess (x : DGuess) : List AV := [.str x.to.host, .str x.to.path, .int .i64 x.response.status, .int .i64 x.response.kind, .str x.response.body, .int .i64 x.response.age, .bool x.response.shares, .str x.response.policy, .bool x.used]
def szGuess (x : DGuess) : Nat := (szAddr x.to) + (szResponse x.response)
def wfGuess (x : DGuess) : Prop := wfAddr x.to ∧ wfResponse x.response
@[simp] theorem rtr_eGuess (t : Tg → Option Tg) (b : Bool) (l : List DGuess) : rtr t b (l.map eGuess) = l.map eGuess := rtr_map (by intro x; rfl) l
@[simp] theorem clean_eGuess (l : List DGuess) : cleanr (l.map eGuess) = true := cleanr_map _ (by intro x; rfl) l
end Go.Aw
