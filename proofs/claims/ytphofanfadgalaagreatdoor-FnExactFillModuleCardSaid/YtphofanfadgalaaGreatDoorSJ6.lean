/-
  Proved here: steps towards the statement of this claim, text SJ6.
  No condition beyond what each statement spells out.
-/
import Derived.Test.YtphofanfadgalaaGreatDoorJ5
import Derived.Test.YtphofanfadgalaaGreatDoorF6
import Derived.Test.YtphofanfadgalaaGreatDoorSU5
import Derived.Test.YtphofanfadgalaaGreatDoorR3
import Derived.Test.YtphofanfadgalaaGreatDoorF4
import Derived.Test.YtphofanfadgalaaGreatDoorF5
set_option linter.all false
set_option maxRecDepth 4000
set_option maxHeartbeats 4000000
namespace Go.Proofs.YtphofanfadgalaaGreatDoor
open Go.Aw
def isResponse (x : DResponse) : Bool :=
  (decide (100 ≤ x.status) && decide (x.status ≤ 599)) && (decide (1 ≤ x.kind) && decide (x.kind ≤ 5)) && decide (x.body.length ≤ 400) && (decide (0 ≤ x.age) && decide (x.age ≤ 1000)) && (parsePolicy x.policy).2
theorem implParsePolicy_ok [Tabs Tryz.prog] [HasMax Tryz.prog] (s : Str) (hl : s.length ≤ 1073741824) : Ok Tryz.prog 157 [.str s] (.tup [.agg (ePolicy .own (parsePolicy s).1), .bool (parsePolicy s).2]) := by
  have h := implParsePolicy0_ok s hl
  rw [parse_same s] at h
  exact h
theorem specIsResponse_ok [Tabs Tryz.prog] [HasMax Tryz.prog] (x : DResponse) (hl : szResponse x ≤ 1073741824) : Ok Tryz.prog 113 [.agg (eResponse x)] (.bool (isResponse x)) := by
  simp only [szResponse] at hl
  have c0 : Ok Tryz.prog 151 [.str x.policy] (.tup [.agg (ePolicy .view (parsePolicy x.policy).1), .bool (parsePolicy x.policy).2]) := specParsePolicy_ok x.policy (by omega)
  have c1 := specIn_ok x.status 100 599
  have c2 := specIn_ok x.kind 1 5
  have c3 := specIn_ok x.age 0 1000
  have e : decide (x.body.length ≤ 400) = decide ((x.body.length : Int) ≤ 400) := by simp only [decide_eq_decide]; omega
  unfold isResponse
  rw [e]
  generalize (decide (100 ≤ x.status) && decide (x.status ≤ 599)) = b1 at *
  generalize (decide (1 ≤ x.kind) && decide (x.kind ≤ 5)) = b2 at *
  generalize (decide (0 ≤ x.age) && decide (x.age ≤ 1000)) = b3 at *
  generalize (parsePolicy x.policy).1 = q at *
  generalize (parsePolicy x.policy).2 = b4 at *
  simp only [ePolicy] at c0
  refine ent Tryz.mix Tryz.func113 Tryz.ntmps113 ?_
  have W := trivial
  repeat' first|refine st ?_|(refine nx ?_;first|refine se ?_|refine so ?_)|(refine cx ?_;refine sc (fun hc=>?_) (fun hc=>?_)<;>try exact hc.elim)|(refine lx ?_;refine sp (fun hc=>?_) (fun hc=>?_)<;>try exact hc.elim)|refine sx ?_ ?_|refine sy ?_ ?_|fail
  all_goals (try (refine ⟨.inr rfl, ?_⟩; simp [Hands, Tryz.results113]))
  all_goals first | (simp_all; done) | (simp_all; omega) | (simp_all; intros; omega)
theorem implIsResponse_ok [Tabs Tryz.prog] [HasMax Tryz.prog] (x : DResponse) (hl : szResponse x ≤ 1073741824) : Ok Tryz.prog 121 [.agg (eResponse x)] (.bool (isResponse x)) := by
  simp only [szResponse] at hl
  have c0 := implParsePolicy_ok x.policy (by omega)
  have c1 := implIn_ok x.status 100 599
  have c2 := implIn_ok x.kind 1 5
  have c3 := implIn_ok x.age 0 1000
  have e : decide (x.body.length ≤ 400) = decide ((x.body.length : Int) ≤ 400) := by simp only [decide_eq_decide]; omega
  unfold isResponse
  rw [e]
  generalize (decide (100 ≤ x.status) && decide (x.status ≤ 599)) = b1 at *
  generalize (decide (1 ≤ x.kind) && decide (x.kind ≤ 5)) = b2 at *
  generalize (decide (0 ≤ x.age) && decide (x.age ≤ 1000)) = b3 at *
  generalize (parsePolicy x.policy).1 = q at *
  generalize (parsePolicy x.policy).2 = b4 at *
  simp only [ePolicy] at c0
  refine ent Tryz.mix Tryz.func121 Tryz.ntmps121 ?_
  have W := trivial
  repeat' first|refine st ?_|(refine nx ?_;first|refine se ?_|refine so ?_)|(refine cx ?_;refine sc (fun hc=>?_) (fun hc=>?_)<;>try exact hc.elim)|(refine lx ?_;refine sp (fun hc=>?_) (fun hc=>?_)<;>try exact hc.elim)|refine sx ?_ ?_|refine sy ?_ ?_|fail
  all_goals (try (refine ⟨.inr rfl, ?_⟩; simp [Hands, Tryz.results121]))
  all_goals first | (simp_all; done) | (simp_all; omega) | (simp_all; intros; omega)
def newBuilder : DBuilder := ⟨[⟨[112, 97, 103, 101], [], -1, []⟩], [0]⟩
def noPage : DPage := ⟨⟨[], []⟩, noPol, ⟨[]⟩, [], false, ⟨[], []⟩, [], [], [], 0, 0, 0, 0, [], [], false⟩
def pageOf (a : DAddr) (p : DPolicy) : DPage := ⟨a, p, ⟨[]⟩, [], false, newBuilder, [], [], [], 0, 0, 0, 0, [], [], false⟩
def newPage (a : DAddr) (x : DResponse) : DPage × Bool :=
  if isAddr a = true ∧ isResponse x = true ∧ x.status = 200 ∧ x.kind = 1 then (pageOf a (parsePolicy x.policy).1, true) else (noPage, false)
theorem newPage_if (a : DAddr) (x : DResponse) : newPage a x = if (!isAddr a || !isResponse x || !decide (x.status = 200) || !decide (x.kind = 1)) = true then (noPage, false) else (pageOf a (parsePolicy x.policy).1, true) := by
  unfold newPage
  cases isAddr a <;> cases isResponse x <;> by_cases h1 : x.status = 200 <;> by_cases h2 : x.kind = 1 <;> simp [h1, h2]
end Go.Proofs.YtphofanfadgalaaGreatDoor

set_option maxRecDepth 4000
set_option maxHeartbeats 400000
namespace Go.Proofs.YtphofanfadgalaaGreatDoor
open Go.Aw
theorem tmodM (v : Int) : (0 ≤ v ∧ v.tmod 2147483647 = v % 2147483647) ∨ (v < 0 ∧ ∃ r, v.tmod 2147483647 = -r ∧ 0 ≤ r ∧ r < 2147483647 ∧ (r = 0 → v % 2147483647 = 0) ∧ (r ≠ 0 → v % 2147483647 = 2147483647 - r)) := by
  by_cases h : 0 ≤ v
  · exact .inl ⟨h, Int.tmod_eq_emod_of_nonneg h⟩
  · right
    obtain ⟨u, hu⟩ : ∃ u : Nat, v = -(u : Int) := ⟨v.natAbs, by omega⟩
    subst hu
    refine ⟨by omega, ((u % 2147483647 : Nat) : Int), by rw [Int.neg_tmod]; rfl, by omega, by omega, by omega, by omega⟩
theorem specMod_ok [Tabs Tryz.prog] (v : Int) (h : rgI v) : Ok Tryz.prog 203 [.int .i64 v, .int .i64 2147483647] (.int .i64 (v % 2147483647)) := by
  have c1 := specIn_ok 2147483647 1 1000000000000
  rw [show (decide ((1 : Int) ≤ 2147483647) && decide ((2147483647 : Int) ≤ 1000000000000)) = true by decide] at c1
  obtain ⟨h1, h2⟩ := h
  rcases tmodM v with ⟨h0, hm⟩ | ⟨h0, r, hm, hr0, hr1, hz, hnz⟩
  · have hm2 : (v % 2147483647 + 2147483647).tmod 2147483647 = v % 2147483647 := by
      rw [Int.tmod_eq_emod_of_nonneg (by omega)]; omega
    have hb1 : 0 ≤ v % 2147483647 := by omega
    have hb2 : v % 2147483647 < 2147483647 := by omega
    generalize v % 2147483647 = m at *
    refine ent Tryz.mix Tryz.func203 Tryz.ntmps203 ?_
    have W := And.intro hm hm2
    repeat' first|refine st ?_|(refine nx ?_;refine so ?_)|(refine cx ?_;refine sc (fun hc=>?_) (fun hc=>?_)<;>try exact hc.elim)|(refine lx ?_;refine sp (fun hc=>?_) (fun hc=>?_)<;>try exact hc.elim)|refine sx ?_ ?_|refine sy ?_ ?_|fail
    all_goals (try (refine ⟨.inr rfl, ?_⟩; simp [Hands, Tryz.results203]))
  · have hm2 : (-r + 2147483647).tmod 2147483647 = v % 2147483647 := by
      rw [Int.tmod_eq_emod_of_nonneg (by omega)]
      by_cases e : r = 0
      · rw [hz e, e]; rfl
      · rw [hnz e]; omega
    generalize v % 2147483647 = m at *
    refine ent Tryz.mix Tryz.func203 Tryz.ntmps203 ?_
    have W := And.intro hm hm2
    repeat' first|refine st ?_|(refine nx ?_;refine so ?_)|(refine cx ?_;refine sc (fun hc=>?_) (fun hc=>?_)<;>try exact hc.elim)|(refine lx ?_;refine sp (fun hc=>?_) (fun hc=>?_)<;>try exact hc.elim)|refine sx ?_ ?_|refine sy ?_ ?_|fail
    all_goals (try (refine ⟨.inr rfl, ?_⟩; simp [Hands, Tryz.results203]))
theorem implMod_ok [Tabs Tryz.prog] (v : Int) (h : rgI v) : Ok Tryz.prog 208 [.int .i64 v, .int .i64 2147483647] (.int .i64 (v % 2147483647)) := by
  have c1 := implIn_ok 2147483647 1 1000000000000
  rw [show (decide ((1 : Int) ≤ 2147483647) && decide ((2147483647 : Int) ≤ 1000000000000)) = true by decide] at c1
  obtain ⟨h1, h2⟩ := h
  rcases tmodM v with ⟨h0, hm⟩ | ⟨h0, r, hm, hr0, hr1, hz, hnz⟩
  · have hb1 : 0 ≤ v % 2147483647 := by omega
    have hb2 : v % 2147483647 < 2147483647 := by omega
    generalize v % 2147483647 = m at *
    refine ent Tryz.mix Tryz.func208 Tryz.ntmps208 ?_
    have W := hm
    repeat' first|refine st ?_|(refine nx ?_;refine so ?_)|(refine cx ?_;refine sc (fun hc=>?_) (fun hc=>?_)<;>try exact hc.elim)|(refine lx ?_;refine sp (fun hc=>?_) (fun hc=>?_)<;>try exact hc.elim)|refine sx ?_ ?_|refine sy ?_ ?_|fail
    all_goals (try (refine ⟨.inr rfl, ?_⟩; simp [Hands, Tryz.results208]))
  · by_cases e : r = 0
    · have hz := hz e
      subst e
      rw [hz]
      refine ent Tryz.mix Tryz.func208 Tryz.ntmps208 ?_
      have W := hm
      repeat' first|refine st ?_|(refine nx ?_;refine so ?_)|(refine cx ?_;refine sc (fun hc=>?_) (fun hc=>?_)<;>try exact hc.elim)|(refine lx ?_;refine sp (fun hc=>?_) (fun hc=>?_)<;>try exact hc.elim)|refine sx ?_ ?_|refine sy ?_ ?_|fail
      all_goals (try (refine ⟨.inr rfl, ?_⟩; simp [Hands, Tryz.results208]))
      all_goals rfl
    · have hnz := hnz e
      rw [hnz]
      have hneg : -r < 0 := by omega
      refine ent Tryz.mix Tryz.func208 Tryz.ntmps208 ?_
      have W := hm
      repeat' first|refine st ?_|(refine nx ?_;refine so ?_)|(refine cx ?_;refine sc (fun hc=>?_) (fun hc=>?_)<;>try exact hc.elim)|(refine lx ?_;refine sp (fun hc=>?_) (fun hc=>?_)<;>try exact hc.elim)|refine sx ?_ ?_|refine sy ?_ ?_|fail
      all_goals (try (refine ⟨.inr rfl, ?_⟩; simp [Hands, Tryz.results208]))
      all_goals omega
def hashStep (acc v : Int) : Int := (acc * 1000003 + v % 2147483647 + 13) % 2147483647
def hashL (l : List Int) : Int := l.foldl hashStep 11
theorem hashL_bound : ∀ (l : List Int), 0 ≤ hashL l ∧ hashL l < 2147483647 := by
  have : ∀ (l : List Int) (a : Int), 0 ≤ a ∧ a < 2147483647 → 0 ≤ l.foldl hashStep a ∧ l.foldl hashStep a < 2147483647 := by
    intro l
    induction l with
    | nil => intro a h; exact h
    | cons x l ih => intro a h; exact ih _ (by unfold hashStep; omega)
  intro l
  exact this l 11 (by omega)
theorem hashL_succ (l : List Int) (k : Nat) (h : k < l.length) : hashL (l.take (k + 1)) = hashStep (hashL (l.take k)) l[k] := by
  unfold hashL
  rw [List.take_succ_eq_append_getElem h, List.foldl_append]
  rfl
theorem specHash_ok [Tabs Tryz.prog] (l : List Int) (hl : l.length ≤ 1099511627776) (hr : ∀ y ∈ l, rgI y) : Ok Tryz.prog 183 [.sl .view 1 (l.map eInt)] (.int .i64 (hashL l)) := by
  refine ent Tryz.mix Tryz.func183 Tryz.ntmps183 ?_
  have W := trivial
  repeat' first|refine st ?_|(refine nx ?_;refine so ?_)|(refine cx ?_;refine sc (fun hc=>?_) (fun hc=>?_)<;>try exact hc.elim)|(refine lx ?_;refine sp (fun hc=>?_) (fun hc=>?_)<;>try exact hc.elim)|refine sx ?_ ?_|refine sy ?_ ?_|fail
  refine awp_loop' (ι := { k : Nat // k ≤ l.length }) (fun t o i => ⟨upds t [(4, .int .i64 i.1), (3, .int .i64 (hashL (l.take i.1)))], o⟩)
    (fun i => l.length - i.1) ⟨0, by simp⟩ (weak_o (by simp) (by simp [hashL])) ?_
  rintro ⟨k, hk⟩ K1 hK1
  simp only [upds, List.set_cons_succ, List.set_cons_zero] at hK1 ⊢
  have hk1 : IntKind.i64.wrap ((k : Int) + 1) = ((k + 1 : Nat) : Int) := by rw [wrap64] <;> omega
  by_cases hlt : k < l.length
  · have hg := List.getElem?_eq_getElem hlt
    have hs := hashL_succ l k hlt
    have hb := hashL_bound (l.take k)
    have c1 := specMod_ok l[k] (hr _ (List.getElem_mem hlt))
    have hm : (hashL (l.take k) * 1000003 + l[k] % 2147483647 + 13).tmod 2147483647 = hashL (l.take (k + 1)) := by
      rw [hs, Int.tmod_eq_emod_of_nonneg (by omega)]; rfl
    have hb1 : 0 ≤ l[k] % 2147483647 := by omega
    have hb2 : l[k] % 2147483647 < 2147483647 := by omega
    clear hs
    generalize ha' : hashL (l.take (k + 1)) = a' at *
    generalize hashL (l.take k) = a at *
    generalize l[k] % 2147483647 = m at *
    have W := And.intro hk1 (And.intro hg (And.intro hlt hm))
    repeat' first|refine st ?_|(refine nx ?_;refine so ?_)|(refine cx ?_;refine sc (fun hc=>?_) (fun hc=>?_)<;>try exact hc.elim)|(refine lx ?_;refine sp (fun hc=>?_) (fun hc=>?_)<;>try exact hc.elim)|refine sx ?_ ?_|refine sy ?_ ?_|fail
    all_goals exact hK1 _ ⟨k + 1, by omega⟩ (weak_o (by simp) (by simp [ha'])) (by simp only; omega)
  · have htk : l.take k = l := List.take_of_length_le (by omega)
    rw [htk]
    have W := hk1
    repeat' first|refine st ?_|(refine nx ?_;refine so ?_)|(refine cx ?_;refine sc (fun hc=>?_) (fun hc=>?_)<;>try exact hc.elim)|(refine lx ?_;refine sp (fun hc=>?_) (fun hc=>?_)<;>try exact hc.elim)|refine sx ?_ ?_|refine sy ?_ ?_|fail
    all_goals (try (refine ⟨.inr rfl, ?_⟩; simp [Hands, Tryz.results183]))
theorem implHash_ok [Tabs Tryz.prog] (l : List Int) (hl : l.length ≤ 1099511627776) (hr : ∀ y ∈ l, rgI y) : Ok Tryz.prog 190 [.sl .view 1 (l.map eInt)] (.int .i64 (hashL l)) := by
  refine ent Tryz.mix Tryz.func190 Tryz.ntmps190 ?_
  have W := trivial
  repeat' first|refine st ?_|(refine nx ?_;refine so ?_)|(refine cx ?_;refine sc (fun hc=>?_) (fun hc=>?_)<;>try exact hc.elim)|(refine lx ?_;refine sp (fun hc=>?_) (fun hc=>?_)<;>try exact hc.elim)|refine sx ?_ ?_|refine sy ?_ ?_|fail
  refine awp_loop' (ι := { k : Nat // k ≤ l.length }) (fun t o i => ⟨upds t [(8, .int .i64 i.1), (3, .int .i64 (hashL (l.take i.1))), (5, .undef)], o⟩)
    (fun i => l.length - i.1) ⟨0, by simp⟩ (weak_o (by simp) (by simp [hashL])) ?_
  rintro ⟨k, hk⟩ K1 hK1
  simp only [upds, List.set_cons_succ, List.set_cons_zero] at hK1 ⊢
  have hk1 : IntKind.i64.wrap ((k : Int) + 1) = ((k + 1 : Nat) : Int) := by rw [wrap64] <;> omega
  by_cases hlt : k < l.length
  · have hg := List.getElem?_eq_getElem hlt
    have hs := hashL_succ l k hlt
    have hb := hashL_bound (l.take k)
    have c1 := implMod_ok l[k] (hr _ (List.getElem_mem hlt))
    have hm : (hashL (l.take k) * 1000003 + l[k] % 2147483647 + 13).tmod 2147483647 = hashL (l.take (k + 1)) := by
      rw [hs, Int.tmod_eq_emod_of_nonneg (by omega)]; rfl
    have hb1 : 0 ≤ l[k] % 2147483647 := by omega
    have hb2 : l[k] % 2147483647 < 2147483647 := by omega
    clear hs
    generalize ha' : hashL (l.take (k + 1)) = a' at *
    generalize hashL (l.take k) = a at *
    generalize l[k] % 2147483647 = m at *
    have W := And.intro hk1 (And.intro hg (And.intro hlt hm))
    repeat' first|refine st ?_|(refine nx ?_;refine so ?_)|(refine cx ?_;refine sc (fun hc=>?_) (fun hc=>?_)<;>try exact hc.elim)|(refine lx ?_;refine sp (fun hc=>?_) (fun hc=>?_)<;>try exact hc.elim)|refine sx ?_ ?_|refine sy ?_ ?_|fail
    all_goals exact hK1 _ ⟨k + 1, by omega⟩ (weak_o (by simp) (by simp [ha'])) (by simp only; omega)
  · have htk : l.take k = l := List.take_of_length_le (by omega)
    rw [htk]
    have W := hk1
    repeat' first|refine st ?_|(refine nx ?_;refine so ?_)|(refine cx ?_;refine sc (fun hc=>?_) (fun hc=>?_)<;>try exact hc.elim)|(refine lx ?_;refine sp (fun hc=>?_) (fun hc=>?_)<;>try exact hc.elim)|refine sx ?_ ?_|refine sy ?_ ?_|fail
    all_goals (try (refine ⟨.inr rfl, ?_⟩; simp [Hands, Tryz.results190]))
def toInts (s : Str) : List Int := mapL (fun c : UInt8 => (c.toNat : Int)) s
def bytesInts (s : Str) : List Int := (s.length : Int) :: toInts s
theorem bytesRows_get (s : Str) (k : Nat) (h : k < s.length) : (bytesRows s)[k]? = some [.int .u8 s[k].toNat] := by
  simp [bytesRows, h]
theorem specBytesToInts_ok [Tabs Tryz.prog] (s : Str) (hl : s.length ≤ 1099511627776) : Ok Tryz.prog 184 [.sl .view 1 (bytesRows s)] (.sl .own 1 ((bytesInts s).map eInt)) := by
  have hbl := bytesRows_length s
  refine ent Tryz.mix Tryz.func184 Tryz.ntmps184 ?_
  have W := hbl
  repeat' first|refine st ?_|(refine nx ?_;refine so ?_)|(refine cx ?_;refine sc (fun hc=>?_) (fun hc=>?_)<;>try exact hc.elim)|(refine lx ?_;refine sp (fun hc=>?_) (fun hc=>?_)<;>try exact hc.elim)|refine sx ?_ ?_|refine sy ?_ ?_|fail
  refine awp_loop' (ι := { q : Nat × Nat // q.1 ≤ s.length ∧ 1 ≤ q.2 }) (fun t o i => ⟨upds t [(3, .obj 0 i.1.2), (4, .int .i64 i.1.1)], o.take 0 ++ [⟨true, false, 1, i.1.2, ((s.length : Int) :: toInts (s.take i.1.1)).map eInt⟩]⟩)
    (fun i => s.length - i.1.1) ⟨(0, 1), by simp, by first | (simp; done) | (simp only; omega)⟩ (weak_o (by simp [toInts]) (by simp)) ?_
  rintro ⟨⟨k, v⟩, hk, hv⟩ K1 hK1
  simp only at hk hv
  simp only [upds, List.set_cons_succ, List.set_cons_zero, List.take_succ_cons, List.take_zero, List.cons_append, List.nil_append] at hK1 ⊢
  have hk1 : IntKind.i64.wrap ((k : Int) + 1) = ((k + 1 : Nat) : Int) := by rw [wrap64] <;> omega
  by_cases hlt : k < s.length
  · have hg := bytesRows_get s k hlt
    have hps := mapL_succ (fun c : UInt8 => (c.toNat : Int)) s k hlt
    have hpl := mapL_length (fun c : UInt8 => (c.toNat : Int)) (s.take k)
    have htl : (s.take k).length = k := by simp; omega
    have hu : s[k].toNat < 256 := UInt8.toNat_lt s[k]
    have hlb : k < (bytesRows s).length := by omega
    simp only [toInts] at hK1 ⊢
    generalize mapL (fun c : UInt8 => (c.toNat : Int)) (s.take k) = g at *
    have W := And.intro hk1 (And.intro hg hbl)
    have V := And.intro hk1 (And.intro hlt hbl)
    repeat' first|refine st ?_|(refine nx ?_;refine so ?_)|(refine cx ?_;refine sc (fun hc=>?_) (fun hc=>?_)<;>try exact hc.elim)|(refine lx ?_;refine sp (fun hc=>?_) (fun hc=>?_)<;>try exact hc.elim)|refine sx ?_ ?_|refine sy ?_ ?_|fail
    all_goals refine hK1 _ ⟨(k + 1, v + 1), by simp only; omega, by simp only; omega⟩ (weak_take 1 (by simp [hps]) (by simp) (by simp) (by simp)) (by simp only; omega)
  · have htk : s.take k = s := List.take_of_length_le (by omega)
    rw [htk]
    have W := And.intro hk1 hbl
    repeat' first|refine st ?_|(refine nx ?_;refine so ?_)|(refine cx ?_;refine sc (fun hc=>?_) (fun hc=>?_)<;>try exact hc.elim)|(refine lx ?_;refine sp (fun hc=>?_) (fun hc=>?_)<;>try exact hc.elim)|refine sx ?_ ?_|refine sy ?_ ?_|fail
    all_goals (try (refine ⟨.inr rfl, ?_⟩; simp [Hands, Tryz.results184, bytesInts]))
theorem implBytesToInts_ok [Tabs Tryz.prog] (s : Str) (hl : s.length ≤ 1099511627776) : Ok Tryz.prog 191 [.sl .view 1 (bytesRows s)] (.sl .own 1 ((bytesInts s).map eInt)) := by
  have hbl := bytesRows_length s
  refine ent Tryz.mix Tryz.func191 Tryz.ntmps191 ?_
  have W := hbl
  repeat' first|refine st ?_|(refine nx ?_;refine so ?_)|(refine cx ?_;refine sc (fun hc=>?_) (fun hc=>?_)<;>try exact hc.elim)|(refine lx ?_;refine sp (fun hc=>?_) (fun hc=>?_)<;>try exact hc.elim)|refine sx ?_ ?_|refine sy ?_ ?_|fail
  refine awp_loop' (ι := { q : Nat × Nat // q.1 ≤ s.length ∧ 1 ≤ q.2 }) (fun t o i => ⟨upds t [(3, .obj 0 i.1.2), (11, .int .i64 i.1.1), (5, .undef)], o.take 0 ++ [⟨true, false, 1, i.1.2, ((s.length : Int) :: toInts (s.take i.1.1)).map eInt⟩]⟩)
    (fun i => s.length - i.1.1) ⟨(0, 1), by simp, by first | (simp; done) | (simp only; omega)⟩ (weak_o (by simp [toInts]) (by simp)) ?_
  rintro ⟨⟨k, v⟩, hk, hv⟩ K1 hK1
  simp only at hk hv
  simp only [upds, List.set_cons_succ, List.set_cons_zero, List.take_succ_cons, List.take_zero, List.cons_append, List.nil_append] at hK1 ⊢
  have hk1 : IntKind.i64.wrap ((k : Int) + 1) = ((k + 1 : Nat) : Int) := by rw [wrap64] <;> omega
  by_cases hlt : k < s.length
  · have hg := bytesRows_get s k hlt
    have hps := mapL_succ (fun c : UInt8 => (c.toNat : Int)) s k hlt
    have hpl := mapL_length (fun c : UInt8 => (c.toNat : Int)) (s.take k)
    have htl : (s.take k).length = k := by simp; omega
    have hu : s[k].toNat < 256 := UInt8.toNat_lt s[k]
    have hlb : k < (bytesRows s).length := by omega
    simp only [toInts] at hK1 ⊢
    generalize mapL (fun c : UInt8 => (c.toNat : Int)) (s.take k) = g at *
    have W := And.intro hk1 (And.intro hg hbl)
    have V := And.intro hk1 (And.intro hlt hbl)
    repeat' first|refine st ?_|(refine nx ?_;refine so ?_)|(refine cx ?_;refine sc (fun hc=>?_) (fun hc=>?_)<;>try exact hc.elim)|(refine lx ?_;refine sp (fun hc=>?_) (fun hc=>?_)<;>try exact hc.elim)|refine sx ?_ ?_|refine sy ?_ ?_|fail
    all_goals refine hK1 _ ⟨(k + 1, v + 1), by simp only; omega, by simp only; omega⟩ (weak_take 1 (by simp [hps]) (by simp) (by simp) (by simp)) (by simp only; omega)
  · have htk : s.take k = s := List.take_of_length_le (by omega)
    rw [htk]
    have W := And.intro hk1 hbl
    repeat' first|refine st ?_|(refine nx ?_;refine so ?_)|(refine cx ?_;refine sc (fun hc=>?_) (fun hc=>?_)<;>try exact hc.elim)|(refine lx ?_;refine sp (fun hc=>?_) (fun hc=>?_)<;>try exact hc.elim)|refine sx ?_ ?_|refine sy ?_ ?_|fail
    all_goals (try (refine ⟨.inr rfl, ?_⟩; simp [Hands, Tryz.results191, bytesInts]))
end Go.Proofs.YtphofanfadgalaaGreatDoor
