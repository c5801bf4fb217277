/-
  Proved here: steps towards the statement of this claim, text Q1.
  No condition beyond what each statement spells out.
-/
import Derived.Test.YtonajehhfkkglabGreatR3
set_option linter.all false
set_option maxRecDepth 4000
set_option maxHeartbeats 4000000
namespace Go.Proofs.YtonajehhfkkglabGreat
open Go.Aw
def valueB (c : UInt8) : Bool := (decide (97 ≤ c.toNat) && decide (c.toNat ≤ 122)) || (decide (48 ≤ c.toNat) && decide (c.toNat ≤ 57)) || decide (c.toNat = 47)
def isValue (s : Str) : Bool := s.all valueB && (decide (1 ≤ s.length) && decide (s.length ≤ 20))
theorem value_no {s : Str} {k : Nat} (h : k < s.length) (hc : valueB s[k] = false) : isValue s = false := by
  have : s.all valueB = false := by
    rw [List.all_eq_false]
    exact ⟨s[k], List.getElem_mem h, by simp [hc]⟩
  simp [isValue, this]
theorem value_end {s : Str} (h : ∀ x ∈ s, valueB x = true) : isValue s = (decide ((1 : Int) ≤ s.length) && decide ((s.length : Int) ≤ 20)) := by
  have : s.all valueB = true := List.all_eq_true.2 h
  have h1 : decide ((1 : Int) ≤ s.length) = decide (1 ≤ s.length) := by simp only [decide_eq_decide]; omega
  have h2 : decide ((s.length : Int) ≤ 20) = decide (s.length ≤ 20) := by simp only [decide_eq_decide]; omega
  rw [isValue, this, h1, h2, Bool.true_and]
theorem specIsValue_ok [Tabs Tryz.prog] (s : Str) (hl : s.length ≤ 1099511627776) : Ok Tryz.prog 135 [.str s] (.bool (isValue s)) := by
  have h1 := specIn_ok s.length 1 20
  refine ent Tryz.mix Tryz.func135 Tryz.ntmps135 ?_
  have W := trivial
  repeat' first|refine st ?_|(refine nx ?_;first|refine se ?_|refine so ?_)|(refine cx ?_;refine sc (fun hc=>?_) (fun hc=>?_)<;>try exact hc.elim)|(refine lx ?_;refine sp (fun hc=>?_) (fun hc=>?_)<;>try exact hc.elim)|refine sx ?_ ?_|refine sy ?_ ?_|fail
  refine awp_loop' (ι := { k : Nat // k ≤ s.length ∧ ∀ x ∈ s.take k, valueB x = true }) (fun t o i => ⟨upds t [(3, .int .i64 i.1)], o⟩)
    (fun i => s.length - i.1) ⟨0, by simp, by simp⟩ (weak_o (by simp) (by simp)) ?_
  rintro ⟨k, hk, hi⟩ K1 hK1
  simp only [upds, List.set_cons_succ, List.set_cons_zero] at hK1 ⊢
  have hk1 : IntKind.i64.wrap ((k : Int) + 1) = ((k + 1 : Nat) : Int) := by rw [wrap64] <;> omega
  by_cases hlt : k < s.length
  · have hg := List.getElem?_eq_getElem hlt
    have W := And.intro hk1 (And.intro hg hlt)
    repeat' first|refine st ?_|(refine nx ?_;first|refine se ?_|refine so ?_)|(refine cx ?_;refine sc (fun hc=>?_) (fun hc=>?_)<;>try exact hc.elim)|(refine lx ?_;refine sp (fun hc=>?_) (fun hc=>?_)<;>try exact hc.elim)|refine sx ?_ ?_|refine sy ?_ ?_|fail
    all_goals first
      | exact hK1 _ ⟨k + 1, by omega, take_succ_all hlt hi (by simp [valueB]; omega)⟩ (weak_o (by simp) (by simp)) (by simp only; omega)
      | (rw [value_no hlt (by simp [valueB]; omega)]
         all_goals (try (refine ⟨.inr rfl, ?_⟩; simp [Hands, Tryz.results135]))
         done)
  · have W := hk1
    repeat' first|refine st ?_|(refine nx ?_;first|refine se ?_|refine so ?_)|(refine cx ?_;refine sc (fun hc=>?_) (fun hc=>?_)<;>try exact hc.elim)|(refine lx ?_;refine sp (fun hc=>?_) (fun hc=>?_)<;>try exact hc.elim)|refine sx ?_ ?_|refine sy ?_ ?_|fail
    all_goals (try (refine ⟨.inr rfl, ?_⟩; simp [Hands, Tryz.results135]))
    rw [value_end (take_all (by omega) hi)]
theorem implIsValue_ok [Tabs Tryz.prog] (s : Str) (hl : s.length ≤ 1099511627776) : Ok Tryz.prog 140 [.str s] (.bool (isValue s)) := by
  have h1 := implIn_ok s.length 1 20
  refine ent Tryz.mix Tryz.func140 Tryz.ntmps140 ?_
  have W := trivial
  repeat' first|refine st ?_|(refine nx ?_;first|refine se ?_|refine so ?_)|(refine cx ?_;refine sc (fun hc=>?_) (fun hc=>?_)<;>try exact hc.elim)|(refine lx ?_;refine sp (fun hc=>?_) (fun hc=>?_)<;>try exact hc.elim)|refine sx ?_ ?_|refine sy ?_ ?_|fail
  refine awp_loop' (ι := { k : Nat // k ≤ s.length ∧ ∀ x ∈ s.take k, valueB x = true }) (fun t o i => ⟨upds t [(3, .int .i64 i.1)], o⟩)
    (fun i => s.length - i.1) ⟨0, by simp, by simp⟩ (weak_o (by simp) (by simp)) ?_
  rintro ⟨k, hk, hi⟩ K1 hK1
  simp only [upds, List.set_cons_succ, List.set_cons_zero] at hK1 ⊢
  have hk1 : IntKind.i64.wrap ((k : Int) + 1) = ((k + 1 : Nat) : Int) := by rw [wrap64] <;> omega
  by_cases hlt : k < s.length
  · have hg := List.getElem?_eq_getElem hlt
    have W := And.intro hk1 (And.intro hg hlt)
    repeat' first|refine st ?_|(refine nx ?_;first|refine se ?_|refine so ?_)|(refine cx ?_;refine sc (fun hc=>?_) (fun hc=>?_)<;>try exact hc.elim)|(refine lx ?_;refine sp (fun hc=>?_) (fun hc=>?_)<;>try exact hc.elim)|refine sx ?_ ?_|refine sy ?_ ?_|fail
    all_goals first
      | exact hK1 _ ⟨k + 1, by omega, take_succ_all hlt hi (by simp [valueB]; omega)⟩ (weak_o (by simp) (by simp)) (by simp only; omega)
      | (rw [value_no hlt (by simp [valueB]; omega)]
         all_goals (try (refine ⟨.inr rfl, ?_⟩; simp [Hands, Tryz.results140]))
         done)
  · have W := hk1
    repeat' first|refine st ?_|(refine nx ?_;first|refine se ?_|refine so ?_)|(refine cx ?_;refine sc (fun hc=>?_) (fun hc=>?_)<;>try exact hc.elim)|(refine lx ?_;refine sp (fun hc=>?_) (fun hc=>?_)<;>try exact hc.elim)|refine sx ?_ ?_|refine sy ?_ ?_|fail
    all_goals (try (refine ⟨.inr rfl, ?_⟩; simp [Hands, Tryz.results140]))
    rw [value_end (take_all (by omega) hi)]
def isRequest (r : DRequest) : Bool := (decide (1 ≤ r.kind) && decide (r.kind ≤ 5)) && isAddr r.to && isName r.frm && (r.digest == [] || isValue r.digest)
theorem specIsRequest_ok [Tabs Tryz.prog] (r : DRequest) (hl : szRequest r ≤ 1099511627776) : Ok Tryz.prog 122 [.agg (eRequest r)] (.bool (isRequest r)) := by
  simp only [szRequest] at hl
  have c1 := specIn_ok r.kind 1 5
  have c2 := specIsAddr_ok r.to (by omega)
  have c3 := specIsName_ok r.frm (by omega)
  have c4 := specIsValue_ok r.digest (by omega)
  simp only [eAddr] at c2
  unfold isRequest
  generalize (decide (1 ≤ r.kind) && decide (r.kind ≤ 5)) = b1 at *
  generalize isAddr r.to = b2 at *
  generalize isName r.frm = b3 at *
  generalize isValue r.digest = b4 at *
  refine ent Tryz.mix Tryz.func122 Tryz.ntmps122 ?_
  have W := trivial
  repeat' first|refine st ?_|(refine nx ?_;first|refine se ?_|refine so ?_)|(refine cx ?_;refine sc (fun hc=>?_) (fun hc=>?_)<;>try exact hc.elim)|(refine lx ?_;refine sp (fun hc=>?_) (fun hc=>?_)<;>try exact hc.elim)|refine sx ?_ ?_|refine sy ?_ ?_|fail
  all_goals (try (refine ⟨.inr rfl, ?_⟩; simp [Hands, Tryz.results122]))
  all_goals simp_all
theorem implIsRequest_ok [Tabs Tryz.prog] (r : DRequest) (hl : szRequest r ≤ 1099511627776) : Ok Tryz.prog 128 [.agg (eRequest r)] (.bool (isRequest r)) := by
  simp only [szRequest] at hl
  have c1 := implIn_ok r.kind 1 5
  have c2 := implIsAddr_ok r.to (by omega)
  have c3 := implIsName_ok r.frm (by omega)
  have c4 := implIsValue_ok r.digest (by omega)
  simp only [eAddr] at c2
  unfold isRequest
  generalize (decide (1 ≤ r.kind) && decide (r.kind ≤ 5)) = b1 at *
  generalize isAddr r.to = b2 at *
  generalize isName r.frm = b3 at *
  generalize isValue r.digest = b4 at *
  refine ent Tryz.mix Tryz.func128 Tryz.ntmps128 ?_
  have W := trivial
  repeat' first|refine st ?_|(refine nx ?_;first|refine se ?_|refine so ?_)|(refine cx ?_;refine sc (fun hc=>?_) (fun hc=>?_)<;>try exact hc.elim)|(refine lx ?_;refine sp (fun hc=>?_) (fun hc=>?_)<;>try exact hc.elim)|refine sx ?_ ?_|refine sy ?_ ?_|fail
  all_goals (try (refine ⟨.inr rfl, ?_⟩; simp [Hands, Tryz.results128]))
  all_goals simp_all
def canGuess (r : DRequest) : Bool := isRequest r && decide (r.kind ≠ 1) && (r.to.host == r.frm)
def allows (p : DPolicy) (kind : Int) (host : Str) : Bool :=
  if p.isSet = false then true else if kind = 2 ∨ kind = 5 then p.scripts.any (fun x => x == host) else if kind = 3 then p.styles.any (fun x => x == host) else if kind = 4 then p.images.any (fun x => x == host) else false
theorem any_at {l : List Str} {k : Nat} (h : k < l.length) {n : Str} (hc : l[k] = n) : l.any (fun x => x == n) = true :=
  List.any_eq_true.2 ⟨_, List.getElem_mem h, by simp [hc]⟩
theorem any_none {l : List Str} {n : Str} (h : ∀ x ∈ l, (x == n) = false) : l.any (fun x => x == n) = false := by
  rw [List.any_eq_false]; intro x hx; simp [h x hx]
theorem specHas_ok [Tabs Tryz.prog] (l : List Str) (n : Str) (hl : l.length ≤ 1099511627776) : Ok Tryz.prog 136 [.sl .view 1 (l.map eStr), .str n] (.bool (l.any (fun x => x == n))) := by
  refine ent Tryz.mix Tryz.func136 Tryz.ntmps136 ?_
  have W := trivial
  repeat' first|refine st ?_|(refine nx ?_;first|refine se ?_|refine so ?_)|(refine cx ?_;refine sc (fun hc=>?_) (fun hc=>?_)<;>try exact hc.elim)|(refine lx ?_;refine sp (fun hc=>?_) (fun hc=>?_)<;>try exact hc.elim)|refine sx ?_ ?_|refine sy ?_ ?_|fail
  refine awp_loop' (ι := { k : Nat // k ≤ l.length ∧ ∀ x ∈ l.take k, (x == n) = false }) (fun t o i => ⟨upds t [(5, .int .i64 i.1)], o⟩)
    (fun i => l.length - i.1) ⟨0, by simp, by simp⟩ (weak_o (by simp) (by simp)) ?_
  rintro ⟨k, hk, hi⟩ K1 hK1
  simp only [upds, List.set_cons_succ, List.set_cons_zero] at hK1 ⊢
  have hk1 : IntKind.i64.wrap ((k : Int) + 1) = ((k + 1 : Nat) : Int) := by rw [wrap64] <;> omega
  by_cases hlt : k < l.length
  · have hg := List.getElem?_eq_getElem hlt
    have W := And.intro hk1 (And.intro hg hlt)
    repeat' first|refine st ?_|(refine nx ?_;first|refine se ?_|refine so ?_)|(refine cx ?_;refine sc (fun hc=>?_) (fun hc=>?_)<;>try exact hc.elim)|(refine lx ?_;refine sp (fun hc=>?_) (fun hc=>?_)<;>try exact hc.elim)|refine sx ?_ ?_|refine sy ?_ ?_|fail
    · rw [any_at hlt hc]
      all_goals (try (refine ⟨.inr rfl, ?_⟩; simp [Hands, Tryz.results136]))
    · exact hK1 _ ⟨k + 1, by omega, take_succ_all hlt hi (by simpa using hc)⟩ (weak_o (by simp) (by simp)) (by simp only; omega)
  · have W := hk1
    repeat' first|refine st ?_|(refine nx ?_;first|refine se ?_|refine so ?_)|(refine cx ?_;refine sc (fun hc=>?_) (fun hc=>?_)<;>try exact hc.elim)|(refine lx ?_;refine sp (fun hc=>?_) (fun hc=>?_)<;>try exact hc.elim)|refine sx ?_ ?_|refine sy ?_ ?_|fail
    all_goals (try (refine ⟨.inr rfl, ?_⟩; simp [Hands, Tryz.results136]))
    have := take_all (by omega) hi
    simpa using this
theorem indexStr_ok [Tabs Tryz.prog] (l : List Str) (n : Str) (hl : l.length ≤ 1099511627776) : Ok Tryz.prog 146 [.sl .view 1 (l.map eStr), .str n] (.int .i64 (idxI (fun x => x == n) l)) := by
  refine ent Tryz.mix Tryz.func146 Tryz.ntmps146 ?_
  have W := trivial
  repeat' first|refine st ?_|(refine nx ?_;first|refine se ?_|refine so ?_)|(refine cx ?_;refine sc (fun hc=>?_) (fun hc=>?_)<;>try exact hc.elim)|(refine lx ?_;refine sp (fun hc=>?_) (fun hc=>?_)<;>try exact hc.elim)|refine sx ?_ ?_|refine sy ?_ ?_|fail
  refine awp_loop' (ι := { k : Nat // k ≤ l.length ∧ ∀ x ∈ l.take k, (x == n) = false }) (fun t o i => ⟨upds t [(8, .int .i64 i.1), (5, .undef)], o⟩)
    (fun i => l.length - i.1) ⟨0, by simp, by simp⟩ (weak_o (by simp) (by simp)) ?_
  rintro ⟨k, hk, hi⟩ K1 hK1
  simp only [upds, List.set_cons_succ, List.set_cons_zero] at hK1 ⊢
  have hk1 : IntKind.i64.wrap ((k : Int) + 1) = ((k + 1 : Nat) : Int) := by rw [wrap64] <;> omega
  by_cases hlt : k < l.length
  · have hg := List.getElem?_eq_getElem hlt
    have W := And.intro hk1 (And.intro hg hlt)
    repeat' first|refine st ?_|(refine nx ?_;first|refine se ?_|refine so ?_)|(refine cx ?_;refine sc (fun hc=>?_) (fun hc=>?_)<;>try exact hc.elim)|(refine lx ?_;refine sp (fun hc=>?_) (fun hc=>?_)<;>try exact hc.elim)|refine sx ?_ ?_|refine sy ?_ ?_|fail
    · all_goals (try (refine ⟨.inr rfl, ?_⟩; simp [Hands, Tryz.results146]))
      rw [idxI_at hlt (by simp [hc]) hi]
    · exact hK1 _ ⟨k + 1, by omega, take_succ_all hlt hi (by simp only [beq_eq_false_iff_ne]; intro h; exact hc h.symm)⟩ (weak_o (by simp) (by simp)) (by simp only; omega)
  · have W := hk1
    repeat' first|refine st ?_|(refine nx ?_;first|refine se ?_|refine so ?_)|(refine cx ?_;refine sc (fun hc=>?_) (fun hc=>?_)<;>try exact hc.elim)|(refine lx ?_;refine sp (fun hc=>?_) (fun hc=>?_)<;>try exact hc.elim)|refine sx ?_ ?_|refine sy ?_ ?_|fail
    all_goals (try (refine ⟨.inr rfl, ?_⟩; simp [Hands, Tryz.results146]))
    rw [idxI_none (take_all (by omega) hi)]
theorem containsStr_ok [Tabs Tryz.prog] (l : List Str) (n : Str) (hl : l.length ≤ 1099511627776) : Ok Tryz.prog 141 [.sl .view 1 (l.map eStr), .str n] (.bool (l.any (fun x => x == n))) := by
  have c1 := indexStr_ok l n hl
  refine ent Tryz.mix Tryz.func141 Tryz.ntmps141 ?_
  have W := trivial
  repeat' first|refine st ?_|(refine nx ?_;first|refine se ?_|refine so ?_)|(refine cx ?_;refine sc (fun hc=>?_) (fun hc=>?_)<;>try exact hc.elim)|(refine lx ?_;refine sp (fun hc=>?_) (fun hc=>?_)<;>try exact hc.elim)|refine sx ?_ ?_|refine sy ?_ ?_|fail
  all_goals (try (refine ⟨.inr rfl, ?_⟩; simp [Hands, Tryz.results141]))
  exact idxI_nonneg _ _
theorem specAllows_ok [Tabs Tryz.prog] (p : DPolicy) (kind : Int) (host : Str) (hs : szPolicy p ≤ 1099511627776) : Ok Tryz.prog 123 [.agg (ePolicy .view p), .int .i64 kind, .str host] (.bool (allows p kind host)) := by
  simp only [szPolicy, szL] at hs
  have c1 := specHas_ok p.scripts host (by omega)
  have c2 := specHas_ok p.styles host (by omega)
  have c3 := specHas_ok p.images host (by omega)
  unfold allows
  refine ent Tryz.mix Tryz.func123 Tryz.ntmps123 ?_
  have W := trivial
  repeat' first|refine st ?_|(refine nx ?_;first|refine se ?_|refine so ?_)|(refine cx ?_;refine sc (fun hc=>?_) (fun hc=>?_)<;>try exact hc.elim)|(refine lx ?_;refine sp (fun hc=>?_) (fun hc=>?_)<;>try exact hc.elim)|refine sx ?_ ?_|refine sy ?_ ?_|fail
  all_goals (try (refine ⟨.inr rfl, ?_⟩; simp [Hands, Tryz.results123]))
  all_goals simp_all
theorem implAllows_ok [Tabs Tryz.prog] (p : DPolicy) (kind : Int) (host : Str) (hs : szPolicy p ≤ 1099511627776) : Ok Tryz.prog 129 [.agg (ePolicy .view p), .int .i64 kind, .str host] (.bool (allows p kind host)) := by
  simp only [szPolicy, szL] at hs
  have c1 := containsStr_ok p.scripts host (by omega)
  have c2 := containsStr_ok p.styles host (by omega)
  have c3 := containsStr_ok p.images host (by omega)
  unfold allows
  refine ent Tryz.mix Tryz.func129 Tryz.ntmps129 ?_
  have W := trivial
  repeat' first|refine st ?_|(refine nx ?_;first|refine se ?_|refine so ?_)|(refine cx ?_;refine sc (fun hc=>?_) (fun hc=>?_)<;>try exact hc.elim)|(refine lx ?_;refine sp (fun hc=>?_) (fun hc=>?_)<;>try exact hc.elim)|refine sx ?_ ?_|refine sy ?_ ?_|fail
  all_goals (try (refine ⟨.inr rfl, ?_⟩; simp [Hands, Tryz.results129]))
  all_goals simp_all
def checkRequest (p : DPolicy) (r : DRequest) : Int := if isRequest r = false ∨ (r.kind ≠ 1 ∧ allows p r.kind r.to.host = false) then 2 else 1
theorem specCheckRequest_ok [Tabs Tryz.prog] (p : DPolicy) (r : DRequest) (hs : szPolicy p ≤ 1099511627776) (hl : szRequest r ≤ 1099511627776) : Ok Tryz.prog 105 [.agg (ePolicy .view p), .agg (eRequest r)] (.int .i64 (checkRequest p r)) := by
  have c1 := specIsRequest_ok r hl
  have c2 := specAllows_ok p r.kind r.to.host hs
  simp only [eRequest] at c1
  simp only [ePolicy] at c2
  unfold checkRequest
  refine ent Tryz.mix Tryz.func105 Tryz.ntmps105 ?_
  have W := trivial
  repeat' first|refine st ?_|(refine nx ?_;first|refine se ?_|refine so ?_)|(refine cx ?_;refine sc (fun hc=>?_) (fun hc=>?_)<;>try exact hc.elim)|(refine lx ?_;refine sp (fun hc=>?_) (fun hc=>?_)<;>try exact hc.elim)|refine sx ?_ ?_|refine sy ?_ ?_|fail
  all_goals (try (refine ⟨.inr rfl, ?_⟩; simp [Hands, Tryz.results105]))
  all_goals simp_all
theorem implCheckRequest_ok [Tabs Tryz.prog] (p : DPolicy) (r : DRequest) (hs : szPolicy p ≤ 1099511627776) (hl : szRequest r ≤ 1099511627776) : Ok Tryz.prog 115 [.agg (ePolicy .view p), .agg (eRequest r)] (.int .i64 (checkRequest p r)) := by
  have c1 := implIsRequest_ok r hl
  have c2 := implAllows_ok p r.kind r.to.host hs
  simp only [eRequest] at c1
  simp only [ePolicy] at c2
  unfold checkRequest
  refine ent Tryz.mix Tryz.func115 Tryz.ntmps115 ?_
  have W := trivial
  repeat' first|refine st ?_|(refine nx ?_;first|refine se ?_|refine so ?_)|(refine cx ?_;refine sc (fun hc=>?_) (fun hc=>?_)<;>try exact hc.elim)|(refine lx ?_;refine sp (fun hc=>?_) (fun hc=>?_)<;>try exact hc.elim)|refine sx ?_ ?_|refine sy ?_ ?_|fail
  all_goals (try (refine ⟨.inr rfl, ?_⟩; simp [Hands, Tryz.results115]))
  all_goals simp_all
end Go.Proofs.YtonajehhfkkglabGreat
