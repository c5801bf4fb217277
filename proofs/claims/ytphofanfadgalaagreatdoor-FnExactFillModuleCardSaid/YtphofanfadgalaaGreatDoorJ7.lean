/-
  Proved here: steps towards the statement of this claim, text J7.
  No condition beyond what each statement spells out.
-/
import Derived.Test.YtphofanfadgalaaGreatDoorSJ6
import Derived.Test.YtphofanfadgalaaGreatDoorF6
set_option linter.all false
set_option maxRecDepth 4000
set_option maxHeartbeats 4000000
namespace Go.Proofs.YtphofanfadgalaaGreatDoor
open Go.Aw
@[simp] theorem rtr_bytesRowsJ (f : Tg → Option Tg) (b : Bool) (l : Str) : rtr f b (bytesRows l) = bytesRows l := by
  induction l with
  | nil => rfl
  | cons x l ih => simp only [bytesRows, List.map_cons, rtr, rtc, rt] at ih ⊢; rw [ih]
def digestOf (s : Str) : Int := hashL (151 :: bytesInts s)
theorem ints_rgJ (s : Str) (h : s.length ≤ 60000000) : ∀ y ∈ (151 :: bytesInts s), rgI y := by
  intro y hy
  unfold rgI
  rcases List.mem_cons.1 hy with rfl | hy
  · omega
  rcases List.mem_cons.1 hy with rfl | hy
  · omega
  · simp only [toInts, mapL, List.mem_map] at hy
    obtain ⟨c, _, rfl⟩ := hy
    have : c.toNat < 256 := UInt8.toNat_lt c
    omega
theorem ints_lenJ (s : Str) : (bytesInts s).length = s.length + 1 := by simp [bytesInts, toInts, mapL]
theorem hashL_rg (l : List Int) : 0 ≤ hashL l ∧ hashL l ≤ 2147483647 := by
  unfold hashL
  have : ∀ (l : List Int) (a : Int), 0 ≤ a ∧ a ≤ 2147483647 → 0 ≤ l.foldl hashStep a ∧ l.foldl hashStep a ≤ 2147483647 := by
    intro l
    induction l with
    | nil => intro a h; exact h
    | cons x l ih =>
      intro a _
      refine ih _ ?_
      unfold hashStep
      omega
  exact this l 11 (by omega)
theorem specDigestOf_ok [Tabs Tryz.prog] [HasMax Tryz.prog] [HasPow Tryz.prog] (s : Str) (hl : s.length ≤ 1048576) : Ok Tryz.prog 153 [.str s] (.int .i64 (digestOf s)) := by
  have c3 := specBytesToInts_ok s (by omega)
  have c4 := specHash_ok (151 :: bytesInts s) (by simp only [List.length_cons, ints_lenJ]; omega) (ints_rgJ _ (by omega))
  have hil := ints_lenJ s
  have hq : (bytesInts s).length ≤ 1048577 := by omega
  simp only [List.map_cons] at c4
  unfold digestOf
  generalize bytesInts s = q at *
  refine ent Tryz.mix Tryz.func153 Tryz.ntmps153 ?_
  have W := trivial
  repeat' first|refine st ?_|(refine nx ?_;first|refine se ?_|refine so ?_|refine sb ?_)|(refine cx ?_;refine sc (fun hc=>?_) (fun hc=>?_)<;>try exact hc.elim)|(refine lx ?_;refine sp (fun hc=>?_) (fun hc=>?_)<;>try exact hc.elim)|refine sx ?_ ?_|refine sy ?_ ?_|fail
  all_goals (try (refine ⟨.inr rfl, ?_⟩; simp [Hands, Tryz.results153]))
theorem implDigestOf_ok [Tabs Tryz.prog] [HasMax Tryz.prog] [HasPow Tryz.prog] (s : Str) (hl : s.length ≤ 1048576) : Ok Tryz.prog 160 [.str s] (.int .i64 (digestOf s)) := by
  have c3 := implBytesToInts_ok s (by omega)
  have c4 := implHash_ok (151 :: bytesInts s) (by simp only [List.length_cons, ints_lenJ]; omega) (ints_rgJ _ (by omega))
  have hil := ints_lenJ s
  have hq : (bytesInts s).length ≤ 1048577 := by omega
  simp only [List.map_cons] at c4
  unfold digestOf
  generalize bytesInts s = q at *
  refine ent Tryz.mix Tryz.func160 Tryz.ntmps160 ?_
  have W := trivial
  repeat' first|refine st ?_|(refine nx ?_;first|refine se ?_|refine so ?_|refine sb ?_)|(refine cx ?_;refine sc (fun hc=>?_) (fun hc=>?_)<;>try exact hc.elim)|(refine lx ?_;refine sp (fun hc=>?_) (fun hc=>?_)<;>try exact hc.elim)|refine sx ?_ ?_|refine sy ?_ ?_|fail
  all_goals (try (refine ⟨.inr rfl, ?_⟩; simp [Hands, Tryz.results160]))
def checkDigest (body v : Str) : Bool := v == [] || v == Lib.itoa (digestOf body)
theorem specCheckDigest_ok [Tabs Tryz.prog] [HasMax Tryz.prog] [HasPow Tryz.prog] (s v : Str) (hl : s.length ≤ 1048576) : Ok Tryz.prog 115 [.str s, .str v] (.bool (checkDigest s v)) := by
  have c1 := specDigestOf_ok s hl
  have hr := hashL_rg (151 :: bytesInts s)
  have c2 := specFormatInt_ok (digestOf s) (by unfold digestOf; omega)
  unfold checkDigest
  generalize digestOf s = d at *
  generalize Lib.itoa d = t at *
  refine ent Tryz.mix Tryz.func115 Tryz.ntmps115 ?_
  have W := trivial
  repeat' first|refine st ?_|(refine nx ?_;first|refine se ?_|refine so ?_|refine sb ?_)|(refine cx ?_;refine sc (fun hc=>?_) (fun hc=>?_)<;>try exact hc.elim)|(refine lx ?_;refine sp (fun hc=>?_) (fun hc=>?_)<;>try exact hc.elim)|refine sx ?_ ?_|refine sy ?_ ?_|fail
  all_goals (try (refine ⟨.inr rfl, ?_⟩; simp [Hands, Tryz.results115]))
  all_goals simp_all
theorem implCheckDigest_ok [Tabs Tryz.prog] [HasMax Tryz.prog] [HasPow Tryz.prog] (s v : Str) (hl : s.length ≤ 1048576) : Ok Tryz.prog 123 [.str s, .str v] (.bool (checkDigest s v)) := by
  have c1 := implDigestOf_ok s hl
  have hr := hashL_rg (151 :: bytesInts s)
  have c2 := implFormatInt_ok (digestOf s) (by unfold digestOf; omega)
  unfold checkDigest
  generalize digestOf s = d at *
  generalize Lib.itoa d = t at *
  refine ent Tryz.mix Tryz.func123 Tryz.ntmps123 ?_
  have W := trivial
  repeat' first|refine st ?_|(refine nx ?_;first|refine se ?_|refine so ?_|refine sb ?_)|(refine cx ?_;refine sc (fun hc=>?_) (fun hc=>?_)<;>try exact hc.elim)|(refine lx ?_;refine sp (fun hc=>?_) (fun hc=>?_)<;>try exact hc.elim)|refine sx ?_ ?_|refine sy ?_ ?_|fail
  all_goals (try (refine ⟨.inr rfl, ?_⟩; simp [Hands, Tryz.results123]))
  all_goals simp_all
def fitsKind (x : DResponse) (k : Int) : Bool := decide (x.kind = k) || (decide (k = 5) && decide (x.kind = 2))
theorem specFitsKind_ok [Tabs Tryz.prog] [HasMax Tryz.prog] [HasPow Tryz.prog] (x : DResponse) (k : Int) : Ok Tryz.prog 114 [.agg (eResponse x), .int .i64 k] (.bool (fitsKind x k)) := by
  unfold fitsKind
  refine ent Tryz.mix Tryz.func114 Tryz.ntmps114 ?_
  have W := trivial
  repeat' first|refine st ?_|(refine nx ?_;first|refine se ?_|refine so ?_|refine sb ?_)|(refine cx ?_;refine sc (fun hc=>?_) (fun hc=>?_)<;>try exact hc.elim)|(refine lx ?_;refine sp (fun hc=>?_) (fun hc=>?_)<;>try exact hc.elim)|refine sx ?_ ?_|refine sy ?_ ?_|fail
  all_goals (try (refine ⟨.inr rfl, ?_⟩; simp [Hands, Tryz.results114]))
  all_goals first | (simp_all; done) | (by_cases hk2 : x.kind = 2 <;> simp_all)
theorem implFitsKind_ok [Tabs Tryz.prog] [HasMax Tryz.prog] [HasPow Tryz.prog] (x : DResponse) (k : Int) : Ok Tryz.prog 122 [.agg (eResponse x), .int .i64 k] (.bool (fitsKind x k)) := by
  unfold fitsKind
  refine ent Tryz.mix Tryz.func122 Tryz.ntmps122 ?_
  have W := trivial
  repeat' first|refine st ?_|(refine nx ?_;first|refine se ?_|refine so ?_|refine sb ?_)|(refine cx ?_;refine sc (fun hc=>?_) (fun hc=>?_)<;>try exact hc.elim)|(refine lx ?_;refine sp (fun hc=>?_) (fun hc=>?_)<;>try exact hc.elim)|refine sx ?_ ?_|refine sy ?_ ?_|fail
  all_goals (try (refine ⟨.inr rfl, ?_⟩; simp [Hands, Tryz.results122]))
  all_goals first | (simp_all; done) | (by_cases hk2 : x.kind = 2 <;> simp_all)
def shareBad (r : DRequest) (x : DResponse) : Bool := decide (r.frm ≠ r.to.host) && !x.shares && (decide (r.kind = 5) || decide (r.digest ≠ []))
def checkResponse (p : DPolicy) (r : DRequest) (x : DResponse) : Int :=
  if checkRequest p r ≠ 1 then 2 else if isResponse x = false ∨ x.status ≠ 200 then 3 else if fitsKind x r.kind = false then 4 else if shareBad r x = true then 5 else if checkDigest x.body r.digest = false then 6 else 1
theorem specCheckResponse_ok [Tabs Tryz.prog] [HasMax Tryz.prog] [HasPow Tryz.prog] (p : DPolicy) (r : DRequest) (x : DResponse) (hp : szPolicy p ≤ 274877906944) (hr : szRequest r ≤ 274877906944) (hx : szResponse x ≤ 1048576) : Ok Tryz.prog 66 [.agg (ePolicy .view p), .agg (eRequest r), .agg (eResponse x)] (.int .i64 (checkResponse p r x)) := by
  have c1 := specCheckRequest_ok p r (by omega) (by omega)
  have c2 := specIsResponse_ok x (by omega)
  have c3 := specFitsKind_ok x r.kind
  have c4 := specCheckDigest_ok x.body r.digest (by simp only [szResponse] at hx; omega)
  simp only [ePolicy, eRequest] at c1
  simp only [eResponse] at c2 c3
  unfold checkResponse shareBad
  generalize checkRequest p r = n at *
  generalize isResponse x = b2 at *
  generalize fitsKind x r.kind = b3 at *
  generalize checkDigest x.body r.digest = b4 at *
  by_cases h1 : n = 1
  · subst h1
    refine ent Tryz.mix Tryz.func66 Tryz.ntmps66 ?_
    have W := trivial
    repeat' first|refine st ?_|(refine nx ?_;first|refine se ?_|refine so ?_|refine sb ?_)|(refine cx ?_;refine sc (fun hc=>?_) (fun hc=>?_)<;>try exact hc.elim)|(refine lx ?_;refine sp (fun hc=>?_) (fun hc=>?_)<;>try exact hc.elim)|refine sx ?_ ?_|refine sy ?_ ?_|fail
    all_goals (try (refine ⟨.inr rfl, ?_⟩; simp [Hands, Tryz.results66]))
    all_goals simp_all
  · refine ent Tryz.mix Tryz.func66 Tryz.ntmps66 ?_
    have W := h1
    repeat' first|refine st ?_|(refine nx ?_;first|refine se ?_|refine so ?_|refine sb ?_)|(refine cx ?_;refine sc (fun hc=>?_) (fun hc=>?_)<;>try exact hc.elim)|(refine lx ?_;refine sp (fun hc=>?_) (fun hc=>?_)<;>try exact hc.elim)|refine sx ?_ ?_|refine sy ?_ ?_|fail
    all_goals (try (refine ⟨.inr rfl, ?_⟩; simp [Hands, Tryz.results66, h1]))
    all_goals simp_all
theorem implCheckResponse_ok [Tabs Tryz.prog] [HasMax Tryz.prog] [HasPow Tryz.prog] (p : DPolicy) (r : DRequest) (x : DResponse) (hp : szPolicy p ≤ 274877906944) (hr : szRequest r ≤ 274877906944) (hx : szResponse x ≤ 1048576) : Ok Tryz.prog 71 [.agg (ePolicy .view p), .agg (eRequest r), .agg (eResponse x)] (.int .i64 (checkResponse p r x)) := by
  have c1 := implCheckRequest_ok p r (by omega) (by omega)
  have h12 : checkRequest p r = 1 ∨ checkRequest p r = 2 := by unfold checkRequest; split <;> simp
  have c2 := implIsResponse_ok x (by omega)
  have c3 := implFitsKind_ok x r.kind
  have c4 := implCheckDigest_ok x.body r.digest (by simp only [szResponse] at hx; omega)
  simp only [ePolicy, eRequest] at c1
  simp only [eResponse] at c2 c3
  unfold checkResponse shareBad
  generalize checkRequest p r = n at *
  generalize isResponse x = b2 at *
  generalize fitsKind x r.kind = b3 at *
  generalize checkDigest x.body r.digest = b4 at *
  rcases h12 with h1 | h1
  · subst h1
    refine ent Tryz.mix Tryz.func71 Tryz.ntmps71 ?_
    have W := trivial
    repeat' first|refine st ?_|(refine nx ?_;first|refine se ?_|refine so ?_|refine sb ?_)|(refine cx ?_;refine sc (fun hc=>?_) (fun hc=>?_)<;>try exact hc.elim)|(refine lx ?_;refine sp (fun hc=>?_) (fun hc=>?_)<;>try exact hc.elim)|refine sx ?_ ?_|refine sy ?_ ?_|fail
    all_goals (try (refine ⟨.inr rfl, ?_⟩; simp [Hands, Tryz.results71]))
    all_goals simp_all
  · subst h1
    refine ent Tryz.mix Tryz.func71 Tryz.ntmps71 ?_
    have W := trivial
    repeat' first|refine st ?_|(refine nx ?_;first|refine se ?_|refine so ?_|refine sb ?_)|(refine cx ?_;refine sc (fun hc=>?_) (fun hc=>?_)<;>try exact hc.elim)|(refine lx ?_;refine sp (fun hc=>?_) (fun hc=>?_)<;>try exact hc.elim)|refine sx ?_ ?_|refine sy ?_ ?_|fail
    all_goals (try (refine ⟨.inr rfl, ?_⟩; simp [Hands, Tryz.results71]))
def usableBody (p : DPolicy) (r : DRequest) (x : DResponse) : Str := if checkResponse p r x = 1 then x.body else []
theorem specUsableBody_ok [Tabs Tryz.prog] [HasMax Tryz.prog] [HasPow Tryz.prog] (p : DPolicy) (r : DRequest) (x : DResponse) (hp : szPolicy p ≤ 274877906944) (hr : szRequest r ≤ 274877906944) (hx : szResponse x ≤ 1048576) : Ok Tryz.prog 67 [.agg (ePolicy .view p), .agg (eRequest r), .agg (eResponse x)] (.tup [.str (usableBody p r x), .bool (decide (checkResponse p r x = 1))]) := by
  have c1 := specCheckResponse_ok p r x hp hr hx
  simp only [ePolicy, eRequest, eResponse] at c1
  unfold usableBody
  generalize checkResponse p r x = n at *
  by_cases h1 : n = 1
  · subst h1
    refine ent Tryz.mix Tryz.func67 Tryz.ntmps67 ?_
    have W := trivial
    repeat' first|refine st ?_|(refine nx ?_;first|refine se ?_|refine so ?_|refine sb ?_)|(refine cx ?_;refine sc (fun hc=>?_) (fun hc=>?_)<;>try exact hc.elim)|(refine lx ?_;refine sp (fun hc=>?_) (fun hc=>?_)<;>try exact hc.elim)|refine sx ?_ ?_|refine sy ?_ ?_|fail
    all_goals (try (refine ⟨.inr rfl, ?_⟩; simp [Hands, Tryz.results67]))
  · refine ent Tryz.mix Tryz.func67 Tryz.ntmps67 ?_
    have W := h1
    repeat' first|refine st ?_|(refine nx ?_;first|refine se ?_|refine so ?_|refine sb ?_)|(refine cx ?_;refine sc (fun hc=>?_) (fun hc=>?_)<;>try exact hc.elim)|(refine lx ?_;refine sp (fun hc=>?_) (fun hc=>?_)<;>try exact hc.elim)|refine sx ?_ ?_|refine sy ?_ ?_|fail
    all_goals (try (refine ⟨.inr rfl, ?_⟩; simp [Hands, Tryz.results67, h1]))
theorem implUsableBody_ok [Tabs Tryz.prog] [HasMax Tryz.prog] [HasPow Tryz.prog] (p : DPolicy) (r : DRequest) (x : DResponse) (hp : szPolicy p ≤ 274877906944) (hr : szRequest r ≤ 274877906944) (hx : szResponse x ≤ 1048576) : Ok Tryz.prog 72 [.agg (ePolicy .view p), .agg (eRequest r), .agg (eResponse x)] (.tup [.str (usableBody p r x), .bool (decide (checkResponse p r x = 1))]) := by
  have c1 := implCheckResponse_ok p r x hp hr hx
  simp only [ePolicy, eRequest, eResponse] at c1
  unfold usableBody
  generalize checkResponse p r x = n at *
  by_cases h1 : n = 1
  · subst h1
    refine ent Tryz.mix Tryz.func72 Tryz.ntmps72 ?_
    have W := trivial
    repeat' first|refine st ?_|(refine nx ?_;first|refine se ?_|refine so ?_|refine sb ?_)|(refine cx ?_;refine sc (fun hc=>?_) (fun hc=>?_)<;>try exact hc.elim)|(refine lx ?_;refine sp (fun hc=>?_) (fun hc=>?_)<;>try exact hc.elim)|refine sx ?_ ?_|refine sy ?_ ?_|fail
    all_goals (try (refine ⟨.inr rfl, ?_⟩; simp [Hands, Tryz.results72]))
  · refine ent Tryz.mix Tryz.func72 Tryz.ntmps72 ?_
    have W := h1
    repeat' first|refine st ?_|(refine nx ?_;first|refine se ?_|refine so ?_|refine sb ?_)|(refine cx ?_;refine sc (fun hc=>?_) (fun hc=>?_)<;>try exact hc.elim)|(refine lx ?_;refine sp (fun hc=>?_) (fun hc=>?_)<;>try exact hc.elim)|refine sx ?_ ?_|refine sy ?_ ?_|fail
    all_goals (try (refine ⟨.inr rfl, ?_⟩; simp [Hands, Tryz.results72, h1]))
end Go.Proofs.YtphofanfadgalaaGreatDoor
