/-
  Proved here: steps towards the statement of this claim, text U2.
  No condition beyond what each statement spells out.
-/
import Derived.Test.YtonajehhfkkglabGreatU1
set_option linter.all false
set_option maxRecDepth 4000
set_option maxHeartbeats 4000000
namespace Go.Proofs.YtonajehhfkkglabGreat
open Go.Aw
theorem toAttrS_ok [Tabs Tryz.prog] (l : List DAttr) (hs : szL szAttr l ≤ 1048576) : Ok Tryz.prog 108 [.sl .view 2 (l.map eAttr)] (.sl .own 2 (l.map eAttr)) := by
  have hl : l.length ≤ 1048576 := by (try simp only [szL] at hs); omega
  have hb : (32 : Int) * (l.length : Int) ≤ 281474976710656 := by omega
  have hb2 : (l.length : Int) ≤ 9223372036854775807 := by omega
  generalize hz : ([.str [], .str []] : List AV) = z
  have hz0 := fillL_zero z (l.map eAttr)
  rw [List.length_map] at hz0
  refine ent Tryz.mix Tryz.func108 Tryz.ntmps108 ?_
  have W := And.intro hb hb2
  repeat' first|refine st ?_|(refine nx ?_;refine so ?_)|(refine cx ?_;refine sc (fun hc=>?_) (fun hc=>?_)<;>try exact hc.elim)|(refine lx ?_;refine sp (fun hc=>?_) (fun hc=>?_)<;>try exact hc.elim)|refine sx ?_ ?_|refine sy ?_ ?_|fail
  refine awp_loop' (ι := { k : Nat // k ≤ l.length }) (fun t o i => ⟨upds t [(4, .int .i64 i.1)], [⟨true, false, 2, 1, fillL z (l.map eAttr) i.1⟩]⟩)
    (fun i => l.length - i.1) ⟨0, by simp⟩ (weak_o (by simp [hz, hz0]) (by simp)) ?_
  rintro ⟨k, hk⟩ K1 hK1
  simp only [upds, List.set_cons_succ, List.set_cons_zero] at hK1 ⊢
  have hk1 : IntKind.i64.wrap ((k : Int) + 1) = ((k + 1 : Nat) : Int) := by rw [wrap64] <;> omega
  by_cases hlt : k < l.length
  · have hg := List.getElem?_eq_getElem hlt
    have hfg := fillL_get z (l.map eAttr) k (by simpa using hlt)
    have hfs := fillL_set z (l.map eAttr) k (by simpa using hlt)
    rw [List.getElem_map] at hfs
    simp only [eAttr] at hfs
    have hzl : z.length = 2 := by rw [← hz]; rfl
    have hzd : z.drop 2 = [] := by rw [← hz]; rfl
    have W := And.intro hk1 (And.intro hg (And.intro hfg (And.intro hzl (And.intro hzd hfs))))
    have V := And.intro hk1 (And.intro hg hlt)
    repeat' first|refine st ?_|(refine nx ?_;first|refine so ?_|refine sk (hc:=toAttr_ok l[k] (by have := sumN_get_le szAttr l k hlt; (try simp only [szL] at hs); omega)) (h:=?_))|(refine cx ?_;refine sc (fun hc=>?_) (fun hc=>?_)<;>try exact hc.elim)|(refine lx ?_;refine sp (fun hc=>?_) (fun hc=>?_)<;>try exact hc.elim)|refine sx ?_ ?_|refine sy ?_ ?_|fail
    refine hK1 _ ⟨k + 1, by omega⟩ (weak_take 1 rfl ?_ (by simp) (by simp)) (by simp only; omega)
    simp
  · have W := hk1
    repeat' first|refine st ?_|(refine nx ?_;refine so ?_)|(refine cx ?_;refine sc (fun hc=>?_) (fun hc=>?_)<;>try exact hc.elim)|(refine lx ?_;refine sp (fun hc=>?_) (fun hc=>?_)<;>try exact hc.elim)|refine sx ?_ ?_|refine sy ?_ ?_|fail
    have hfa := fillL_all z (l.map eAttr) k (by simpa using hlt)
    all_goals (try (refine ⟨.inr rfl, ?_⟩; simp [Hands, Tryz.results108, hfa]))
theorem szAttrS_ok [Tabs Tryz.prog] (l : List DAttr) (n : Int) (h0 : 0 ≤ n) (h1 : n ≤ 1048576) (hw : l.length ≤ 9223372036854775807 ∧ ∀ y ∈ l, wfAttr y) : Ok Tryz.prog 101 [.sl .view 2 (l.map eAttr), .int .i64 n] (.int .i64 (sub n (szL szAttr l))) := by
  obtain ⟨hl, hw⟩ := hw
  refine ent Tryz.mix Tryz.func101 Tryz.ntmps101 ?_
  have W := trivial
  repeat' first|refine st ?_|(refine nx ?_;refine so ?_)|(refine cx ?_;refine sc (fun hc=>?_) (fun hc=>?_)<;>try exact hc.elim)|(refine lx ?_;refine sp (fun hc=>?_) (fun hc=>?_)<;>try exact hc.elim)|refine sx ?_ ?_|refine sy ?_ ?_|fail
  · refine ⟨.inr rfl, ?_⟩; simp [Hands, Tryz.results101, sub, szL]; omega
  · refine awp_loop' (ι := { k : Nat // k ≤ l.length ∧ l.length + sumN szAttr (l.take k) ≤ n }) (fun t o i => ⟨upds t [(1, .int .i64 (n - (l.length + sumN szAttr (l.take i.1) : Nat))), (5, .int .i64 i.1)], []⟩)
      (fun i => l.length - i.1) ⟨0, by simp, by simp [sumN]; omega⟩ (weak_o (by simp) (by simp [sumN])) ?_
    rintro ⟨k, hk, hs⟩ K1 hK1
    simp only [upds, List.set_cons_succ, List.set_cons_zero] at hK1 ⊢
    have hk1 : IntKind.i64.wrap ((k : Int) + 1) = ((k + 1 : Nat) : Int) := by rw [wrap64] <;> omega
    by_cases hlt : k < l.length
    · have hg := List.getElem?_eq_getElem hlt
      have hts := sumN_take_succ szAttr l k hlt
      have htl := sumN_take_le szAttr l (k + 1)
      have hwg := hw _ (List.getElem_mem hlt)
      have W := And.intro hk1 hg
      repeat' first|refine st ?_|(refine nx ?_;first|refine so ?_|refine sk (hc:=szAttr_ok _ _ (by omega) (by omega) hwg) (h:=?_))|(refine cx ?_;refine sc (fun hc=>?_) (fun hc=>?_)<;>try exact hc.elim)|(refine lx ?_;refine sp (fun hc=>?_) (fun hc=>?_)<;>try exact hc.elim)|refine sx ?_ ?_|refine sy ?_ ?_|fail
      · refine ⟨.inr rfl, ?_⟩
        simp [Hands, Tryz.results101, szL]
        (repeat clear hK K); simp only [sub] at *; grind
      · refine hK1 _ ⟨k + 1, by omega, by (repeat clear hK K); simp only [sub] at *; grind⟩ (weak_o (by simp) ?_) (by simp only; omega)
        simp
        (repeat clear hK K); simp only [sub] at *; grind
    · have W := hk1
      repeat' first|refine st ?_|(refine nx ?_;refine so ?_)|(refine cx ?_;refine sc (fun hc=>?_) (fun hc=>?_)<;>try exact hc.elim)|(refine lx ?_;refine sp (fun hc=>?_) (fun hc=>?_)<;>try exact hc.elim)|refine sx ?_ ?_|refine sy ?_ ?_|fail
      all_goals (try (refine ⟨.inr rfl, ?_⟩; simp [Hands, Tryz.results101, szL]))
      have : k = l.length := by omega
      subst this
      rw [List.take_length] at *
      rw [sub_pos (by omega)]
      omega
theorem eqAttrS_ok [Tabs Tryz.prog] (a b : List DAttr) (hs : szL szAttr a ≤ 1099511627776) : Ok Tryz.prog 118 [.sl .view 2 (a.map eAttr), .sl .view 2 (b.map eAttr)] (.bool (decide (a = b))) := by
  have hl : a.length ≤ 1099511627776 := by (try simp only [szL] at hs); omega
  refine ent Tryz.mix Tryz.func118 Tryz.ntmps118 ?_
  have W := trivial
  repeat' first|refine st ?_|(refine nx ?_;refine so ?_)|(refine cx ?_;refine sc (fun hc=>?_) (fun hc=>?_)<;>try exact hc.elim)|(refine lx ?_;refine sp (fun hc=>?_) (fun hc=>?_)<;>try exact hc.elim)|refine sx ?_ ?_|refine sy ?_ ?_|fail
  · all_goals (try (refine ⟨.inr rfl, ?_⟩; simp [Hands, Tryz.results118]))
    intro h; subst h; exact absurd rfl hc
  · have hlen : a.length = b.length := by omega
    refine awp_loop' (ι := { k : Nat // k ≤ a.length ∧ a.take k = b.take k }) (fun t o i => ⟨upds t [(5, .int .i64 i.1)], []⟩)
      (fun i => a.length - i.1) ⟨0, by simp⟩ (weak_o (by simp) (by simp)) ?_
    rintro ⟨k, hk, hpre⟩ K1 hK1
    simp only [upds, List.set_cons_succ, List.set_cons_zero] at hK1 ⊢
    have hk1 : IntKind.i64.wrap ((k : Int) + 1) = ((k + 1 : Nat) : Int) := by rw [wrap64] <;> omega
    by_cases hlt : k < a.length
    · have hg := List.getElem?_eq_getElem hlt
      have hltb : k < b.length := by omega
      have hgb := List.getElem?_eq_getElem hltb
      have W := And.intro hk1 (And.intro hg (And.intro hlt (And.intro hgb hltb)))
      repeat' first|refine st ?_|(refine nx ?_;first|refine so ?_|refine sk (hc:=eqAttr_ok a[k] b[k] (by have := sumN_get_le szAttr a k hlt; (try simp only [szL] at hs); omega)) (h:=?_))|(refine cx ?_;refine sc (fun hc=>?_) (fun hc=>?_)<;>try exact hc.elim)|(refine lx ?_;refine sp (fun hc=>?_) (fun hc=>?_)<;>try exact hc.elim)|refine sx ?_ ?_|refine sy ?_ ?_|fail
      · all_goals (try (refine ⟨.inr rfl, ?_⟩; simp [Hands, Tryz.results118]))
        intro h; subst h; exact hc rfl
      · have hts : a.take (k + 1) = b.take (k + 1) := by
          rw [List.take_succ_eq_append_getElem hlt, List.take_succ_eq_append_getElem hltb, hpre, hc]
        refine hK1 _ ⟨k + 1, by omega, hts⟩ (weak_o (by simp) (by simp)) (by simp only; omega)
    · have hka : a.length ≤ k := by omega
      rw [List.take_of_length_le hka, List.take_of_length_le (by omega)] at hpre
      subst hpre
      have W := hk1
      repeat' first|refine st ?_|(refine nx ?_;refine so ?_)|(refine cx ?_;refine sc (fun hc=>?_) (fun hc=>?_)<;>try exact hc.elim)|(refine lx ?_;refine sp (fun hc=>?_) (fun hc=>?_)<;>try exact hc.elim)|refine sx ?_ ?_|refine sy ?_ ?_|fail
      all_goals (try (refine ⟨.inr rfl, ?_⟩; simp [Hands, Tryz.results118]))
theorem toAddrS_ok [Tabs Tryz.prog] (l : List DAddr) (hs : szL szAddr l ≤ 1048576) : Ok Tryz.prog 32 [.sl .view 2 (l.map eAddr)] (.sl .own 2 (l.map eAddr)) := by
  have hl : l.length ≤ 1048576 := by (try simp only [szL] at hs); omega
  have hb : (32 : Int) * (l.length : Int) ≤ 281474976710656 := by omega
  have hb2 : (l.length : Int) ≤ 9223372036854775807 := by omega
  generalize hz : ([.str [], .str []] : List AV) = z
  have hz0 := fillL_zero z (l.map eAddr)
  rw [List.length_map] at hz0
  refine ent Tryz.mix Tryz.func32 Tryz.ntmps32 ?_
  have W := And.intro hb hb2
  repeat' first|refine st ?_|(refine nx ?_;refine so ?_)|(refine cx ?_;refine sc (fun hc=>?_) (fun hc=>?_)<;>try exact hc.elim)|(refine lx ?_;refine sp (fun hc=>?_) (fun hc=>?_)<;>try exact hc.elim)|refine sx ?_ ?_|refine sy ?_ ?_|fail
  refine awp_loop' (ι := { k : Nat // k ≤ l.length }) (fun t o i => ⟨upds t [(4, .int .i64 i.1)], [⟨true, false, 2, 1, fillL z (l.map eAddr) i.1⟩]⟩)
    (fun i => l.length - i.1) ⟨0, by simp⟩ (weak_o (by simp [hz, hz0]) (by simp)) ?_
  rintro ⟨k, hk⟩ K1 hK1
  simp only [upds, List.set_cons_succ, List.set_cons_zero] at hK1 ⊢
  have hk1 : IntKind.i64.wrap ((k : Int) + 1) = ((k + 1 : Nat) : Int) := by rw [wrap64] <;> omega
  by_cases hlt : k < l.length
  · have hg := List.getElem?_eq_getElem hlt
    have hfg := fillL_get z (l.map eAddr) k (by simpa using hlt)
    have hfs := fillL_set z (l.map eAddr) k (by simpa using hlt)
    rw [List.getElem_map] at hfs
    simp only [eAddr] at hfs
    have hzl : z.length = 2 := by rw [← hz]; rfl
    have hzd : z.drop 2 = [] := by rw [← hz]; rfl
    have W := And.intro hk1 (And.intro hg (And.intro hfg (And.intro hzl (And.intro hzd hfs))))
    have V := And.intro hk1 (And.intro hg hlt)
    repeat' first|refine st ?_|(refine nx ?_;first|refine so ?_|refine sk (hc:=toAddr_ok l[k] (by have := sumN_get_le szAddr l k hlt; (try simp only [szL] at hs); omega)) (h:=?_))|(refine cx ?_;refine sc (fun hc=>?_) (fun hc=>?_)<;>try exact hc.elim)|(refine lx ?_;refine sp (fun hc=>?_) (fun hc=>?_)<;>try exact hc.elim)|refine sx ?_ ?_|refine sy ?_ ?_|fail
    refine hK1 _ ⟨k + 1, by omega⟩ (weak_take 1 rfl ?_ (by simp) (by simp)) (by simp only; omega)
    simp
  · have W := hk1
    repeat' first|refine st ?_|(refine nx ?_;refine so ?_)|(refine cx ?_;refine sc (fun hc=>?_) (fun hc=>?_)<;>try exact hc.elim)|(refine lx ?_;refine sp (fun hc=>?_) (fun hc=>?_)<;>try exact hc.elim)|refine sx ?_ ?_|refine sy ?_ ?_|fail
    have hfa := fillL_all z (l.map eAddr) k (by simpa using hlt)
    all_goals (try (refine ⟨.inr rfl, ?_⟩; simp [Hands, Tryz.results32, hfa]))
theorem szAddrS_ok [Tabs Tryz.prog] (l : List DAddr) (n : Int) (h0 : 0 ≤ n) (h1 : n ≤ 1048576) (hw : l.length ≤ 9223372036854775807 ∧ ∀ y ∈ l, wfAddr y) : Ok Tryz.prog 18 [.sl .view 2 (l.map eAddr), .int .i64 n] (.int .i64 (sub n (szL szAddr l))) := by
  obtain ⟨hl, hw⟩ := hw
  refine ent Tryz.mix Tryz.func18 Tryz.ntmps18 ?_
  have W := trivial
  repeat' first|refine st ?_|(refine nx ?_;refine so ?_)|(refine cx ?_;refine sc (fun hc=>?_) (fun hc=>?_)<;>try exact hc.elim)|(refine lx ?_;refine sp (fun hc=>?_) (fun hc=>?_)<;>try exact hc.elim)|refine sx ?_ ?_|refine sy ?_ ?_|fail
  · refine ⟨.inr rfl, ?_⟩; simp [Hands, Tryz.results18, sub, szL]; omega
  · refine awp_loop' (ι := { k : Nat // k ≤ l.length ∧ l.length + sumN szAddr (l.take k) ≤ n }) (fun t o i => ⟨upds t [(1, .int .i64 (n - (l.length + sumN szAddr (l.take i.1) : Nat))), (5, .int .i64 i.1)], []⟩)
      (fun i => l.length - i.1) ⟨0, by simp, by simp [sumN]; omega⟩ (weak_o (by simp) (by simp [sumN])) ?_
    rintro ⟨k, hk, hs⟩ K1 hK1
    simp only [upds, List.set_cons_succ, List.set_cons_zero] at hK1 ⊢
    have hk1 : IntKind.i64.wrap ((k : Int) + 1) = ((k + 1 : Nat) : Int) := by rw [wrap64] <;> omega
    by_cases hlt : k < l.length
    · have hg := List.getElem?_eq_getElem hlt
      have hts := sumN_take_succ szAddr l k hlt
      have htl := sumN_take_le szAddr l (k + 1)
      have hwg := hw _ (List.getElem_mem hlt)
      have W := And.intro hk1 hg
      repeat' first|refine st ?_|(refine nx ?_;first|refine so ?_|refine sk (hc:=szAddr_ok _ _ (by omega) (by omega) hwg) (h:=?_))|(refine cx ?_;refine sc (fun hc=>?_) (fun hc=>?_)<;>try exact hc.elim)|(refine lx ?_;refine sp (fun hc=>?_) (fun hc=>?_)<;>try exact hc.elim)|refine sx ?_ ?_|refine sy ?_ ?_|fail
      · refine ⟨.inr rfl, ?_⟩
        simp [Hands, Tryz.results18, szL]
        (repeat clear hK K); simp only [sub] at *; grind
      · refine hK1 _ ⟨k + 1, by omega, by (repeat clear hK K); simp only [sub] at *; grind⟩ (weak_o (by simp) ?_) (by simp only; omega)
        simp
        (repeat clear hK K); simp only [sub] at *; grind
    · have W := hk1
      repeat' first|refine st ?_|(refine nx ?_;refine so ?_)|(refine cx ?_;refine sc (fun hc=>?_) (fun hc=>?_)<;>try exact hc.elim)|(refine lx ?_;refine sp (fun hc=>?_) (fun hc=>?_)<;>try exact hc.elim)|refine sx ?_ ?_|refine sy ?_ ?_|fail
      all_goals (try (refine ⟨.inr rfl, ?_⟩; simp [Hands, Tryz.results18, szL]))
      have : k = l.length := by omega
      subst this
      rw [List.take_length] at *
      rw [sub_pos (by omega)]
      omega
theorem eqAddrS_ok [Tabs Tryz.prog] (a b : List DAddr) (hs : szL szAddr a ≤ 1099511627776) : Ok Tryz.prog 45 [.sl .view 2 (a.map eAddr), .sl .view 2 (b.map eAddr)] (.bool (decide (a = b))) := by
  have hl : a.length ≤ 1099511627776 := by (try simp only [szL] at hs); omega
  refine ent Tryz.mix Tryz.func45 Tryz.ntmps45 ?_
  have W := trivial
  repeat' first|refine st ?_|(refine nx ?_;refine so ?_)|(refine cx ?_;refine sc (fun hc=>?_) (fun hc=>?_)<;>try exact hc.elim)|(refine lx ?_;refine sp (fun hc=>?_) (fun hc=>?_)<;>try exact hc.elim)|refine sx ?_ ?_|refine sy ?_ ?_|fail
  · all_goals (try (refine ⟨.inr rfl, ?_⟩; simp [Hands, Tryz.results45]))
    intro h; subst h; exact absurd rfl hc
  · have hlen : a.length = b.length := by omega
    refine awp_loop' (ι := { k : Nat // k ≤ a.length ∧ a.take k = b.take k }) (fun t o i => ⟨upds t [(5, .int .i64 i.1)], []⟩)
      (fun i => a.length - i.1) ⟨0, by simp⟩ (weak_o (by simp) (by simp)) ?_
    rintro ⟨k, hk, hpre⟩ K1 hK1
    simp only [upds, List.set_cons_succ, List.set_cons_zero] at hK1 ⊢
    have hk1 : IntKind.i64.wrap ((k : Int) + 1) = ((k + 1 : Nat) : Int) := by rw [wrap64] <;> omega
    by_cases hlt : k < a.length
    · have hg := List.getElem?_eq_getElem hlt
      have hltb : k < b.length := by omega
      have hgb := List.getElem?_eq_getElem hltb
      have W := And.intro hk1 (And.intro hg (And.intro hlt (And.intro hgb hltb)))
      repeat' first|refine st ?_|(refine nx ?_;first|refine so ?_|refine sk (hc:=eqAddr_ok a[k] b[k] (by have := sumN_get_le szAddr a k hlt; (try simp only [szL] at hs); omega)) (h:=?_))|(refine cx ?_;refine sc (fun hc=>?_) (fun hc=>?_)<;>try exact hc.elim)|(refine lx ?_;refine sp (fun hc=>?_) (fun hc=>?_)<;>try exact hc.elim)|refine sx ?_ ?_|refine sy ?_ ?_|fail
      · all_goals (try (refine ⟨.inr rfl, ?_⟩; simp [Hands, Tryz.results45]))
        intro h; subst h; exact hc rfl
      · have hts : a.take (k + 1) = b.take (k + 1) := by
          rw [List.take_succ_eq_append_getElem hlt, List.take_succ_eq_append_getElem hltb, hpre, hc]
        refine hK1 _ ⟨k + 1, by omega, hts⟩ (weak_o (by simp) (by simp)) (by simp only; omega)
    · have hka : a.length ≤ k := by omega
      rw [List.take_of_length_le hka, List.take_of_length_le (by omega)] at hpre
      subst hpre
      have W := hk1
      repeat' first|refine st ?_|(refine nx ?_;refine so ?_)|(refine cx ?_;refine sc (fun hc=>?_) (fun hc=>?_)<;>try exact hc.elim)|(refine lx ?_;refine sp (fun hc=>?_) (fun hc=>?_)<;>try exact hc.elim)|refine sx ?_ ?_|refine sy ?_ ?_|fail
      all_goals (try (refine ⟨.inr rfl, ?_⟩; simp [Hands, Tryz.results45]))
theorem toSlot_ok [Tabs Tryz.prog] (a : DSlot) (hs : szSlot a ≤ 1048576) : Ok Tryz.prog 79 [.agg (eSlot a)] (.agg (eSlot a)) := by
  simp only [szSlot] at hs
  refine ent Tryz.mix Tryz.func79 Tryz.ntmps79 ?_
  have W := trivial
  repeat' first|refine st ?_|(refine nx ?_;first|refine so ?_|refine sk (hc:=toAddr_ok a.to (by omega)) (h:=?_))|(refine cx ?_;refine sc (fun hc=>?_) (fun hc=>?_)<;>try exact hc.elim)|(refine lx ?_;refine sp (fun hc=>?_) (fun hc=>?_)<;>try exact hc.elim)|refine sx ?_ ?_|refine sy ?_ ?_|fail
  all_goals (try (refine ⟨.inr rfl, ?_⟩; simp [Hands, Tryz.results79]))
theorem szSlot_ok [Tabs Tryz.prog] (a : DSlot) (n : Int) (h0 : 0 ≤ n) (h1 : n ≤ 1048576) (hw : wfSlot a) : Ok Tryz.prog 64 [.agg (eSlot a), .int .i64 n] (.int .i64 (sub n (szSlot a))) := by
  simp only [wfSlot] at hw
  obtain ⟨wto, wdigest, wbody⟩ := hw
  refine ent Tryz.mix Tryz.func64 Tryz.ntmps64 ?_
  have W := trivial
  repeat' first|refine st ?_|(refine nx ?_;first|refine so ?_|refine sk (hc:=szAddr_ok a.to _ (by omega) (by repeat' (first | omega | apply purse_le | apply purse_len)) wto) (h:=?_))|(refine cx ?_;refine sc (fun hc=>?_) (fun hc=>?_)<;>try exact hc.elim)|(refine lx ?_;refine sp (fun hc=>?_) (fun hc=>?_)<;>try exact hc.elim)|refine sx ?_ ?_|refine sy ?_ ?_|fail
  all_goals (try (refine ⟨.inr rfl, ?_⟩; simp [Hands, Tryz.results64, szSlot]))
  all_goals (
    (try generalize e0 : sub n (szAddr a.to) = m0 at *)
    (try (first | have f0 := purse_ok e0 (by omega) | have f0 := purse_bad e0 (by omega) (by omega)))
    repeat (simp (disch := omega) only [wrap64] at *)
    (try simp only [sub]); (try split); all_goals omega)
theorem eqSlot_ok [Tabs Tryz.prog] (a b : DSlot) (hs : szSlot a ≤ 1099511627776) : Ok Tryz.prog 92 [.agg (eSlot a), .agg (eSlot b)] (.bool (decide (a = b))) := by
  simp only [szSlot] at hs
  refine ent Tryz.mix Tryz.func92 Tryz.ntmps92 ?_
  have W := trivial
  repeat' first|refine st ?_|(refine nx ?_;first|refine so ?_|refine sk (hc:=eqAddr_ok a.to b.to (by omega)) (h:=?_))|(refine cx ?_;refine sc (fun hc=>?_) (fun hc=>?_)<;>try exact hc.elim)|(refine lx ?_;refine sp (fun hc=>?_) (fun hc=>?_)<;>try exact hc.elim)|refine sx ?_ ?_|refine sy ?_ ?_|fail
  all_goals (try (refine ⟨.inr rfl, ?_⟩; simp [Hands, Tryz.results92]))
  all_goals ((repeat clear hK K); cases a; cases b; simp_all)
theorem toModule_ok [Tabs Tryz.prog] (a : DModule) (hs : szModule a ≤ 1048576) : Ok Tryz.prog 80 [.agg (eModule a)] (.agg (eModule a)) := by
  simp only [szModule] at hs
  refine ent Tryz.mix Tryz.func80 Tryz.ntmps80 ?_
  have W := trivial
  repeat' first|refine st ?_|(refine nx ?_;first|refine so ?_|refine sk (hc:=toAddr_ok a.to (by omega)) (h:=?_))|(refine cx ?_;refine sc (fun hc=>?_) (fun hc=>?_)<;>try exact hc.elim)|(refine lx ?_;refine sp (fun hc=>?_) (fun hc=>?_)<;>try exact hc.elim)|refine sx ?_ ?_|refine sy ?_ ?_|fail
  all_goals (try (refine ⟨.inr rfl, ?_⟩; simp [Hands, Tryz.results80]))
theorem szModule_ok [Tabs Tryz.prog] (a : DModule) (n : Int) (h0 : 0 ≤ n) (h1 : n ≤ 1048576) (hw : wfModule a) : Ok Tryz.prog 65 [.agg (eModule a), .int .i64 n] (.int .i64 (sub n (szModule a))) := by
  simp only [wfModule] at hw
  obtain ⟨wto, wbody⟩ := hw
  refine ent Tryz.mix Tryz.func65 Tryz.ntmps65 ?_
  have W := trivial
  repeat' first|refine st ?_|(refine nx ?_;first|refine so ?_|refine sk (hc:=szAddr_ok a.to _ (by omega) (by repeat' (first | omega | apply purse_le | apply purse_len)) wto) (h:=?_))|(refine cx ?_;refine sc (fun hc=>?_) (fun hc=>?_)<;>try exact hc.elim)|(refine lx ?_;refine sp (fun hc=>?_) (fun hc=>?_)<;>try exact hc.elim)|refine sx ?_ ?_|refine sy ?_ ?_|fail
  all_goals (try (refine ⟨.inr rfl, ?_⟩; simp [Hands, Tryz.results65, szModule]))
  all_goals (
    (try generalize e0 : sub n (szAddr a.to) = m0 at *)
    (try (first | have f0 := purse_ok e0 (by omega) | have f0 := purse_bad e0 (by omega) (by omega)))
    repeat (simp (disch := omega) only [wrap64] at *)
    (try simp only [sub]); (try split); all_goals omega)
theorem eqModule_ok [Tabs Tryz.prog] (a b : DModule) (hs : szModule a ≤ 1099511627776) : Ok Tryz.prog 93 [.agg (eModule a), .agg (eModule b)] (.bool (decide (a = b))) := by
  simp only [szModule] at hs
  refine ent Tryz.mix Tryz.func93 Tryz.ntmps93 ?_
  have W := trivial
  repeat' first|refine st ?_|(refine nx ?_;first|refine so ?_|refine sk (hc:=eqAddr_ok a.to b.to (by omega)) (h:=?_))|(refine cx ?_;refine sc (fun hc=>?_) (fun hc=>?_)<;>try exact hc.elim)|(refine lx ?_;refine sp (fun hc=>?_) (fun hc=>?_)<;>try exact hc.elim)|refine sx ?_ ?_|refine sy ?_ ?_|fail
  all_goals (try (refine ⟨.inr rfl, ?_⟩; simp [Hands, Tryz.results93]))
  all_goals ((repeat clear hK K); cases a; cases b; simp_all)
theorem toPolicy_ok [Tabs Tryz.prog] (a : DPolicy) (hs : szPolicy a ≤ 1048576) : Ok Tryz.prog 26 [.agg (ePolicy .view a)] (.agg (ePolicy .own a)) := by
  simp only [szPolicy] at hs
  refine ent Tryz.mix Tryz.func26 Tryz.ntmps26 ?_
  have W := trivial
  repeat' first|refine st ?_|(refine nx ?_;first|refine so ?_|refine sk (hc:=toStringS_ok a.scripts (by omega)) (h:=?_)|refine sk (hc:=toStringS_ok a.styles (by omega)) (h:=?_)|refine sk (hc:=toStringS_ok a.images (by omega)) (h:=?_))|(refine cx ?_;refine sc (fun hc=>?_) (fun hc=>?_)<;>try exact hc.elim)|(refine lx ?_;refine sp (fun hc=>?_) (fun hc=>?_)<;>try exact hc.elim)|refine sx ?_ ?_|refine sy ?_ ?_|fail
  all_goals (try (refine ⟨.inr rfl, ?_⟩; simp [Hands, Tryz.results26]))
theorem szPolicy_ok [Tabs Tryz.prog] (a : DPolicy) (n : Int) (h0 : 0 ≤ n) (h1 : n ≤ 1048576) (hw : wfPolicy a) : Ok Tryz.prog 12 [.agg (ePolicy .view a), .int .i64 n] (.int .i64 (sub n (szPolicy a))) := by
  simp only [wfPolicy] at hw
  obtain ⟨wscripts, wstyles, wimages, wnonce⟩ := hw
  refine ent Tryz.mix Tryz.func12 Tryz.ntmps12 ?_
  have W := trivial
  repeat' first|refine st ?_|(refine nx ?_;first|refine so ?_|refine sk (hc:=szStringS_ok a.scripts _ (by omega) (by repeat' (first | omega | apply purse_le | apply purse_len)) wscripts) (h:=?_)|refine sk (hc:=szStringS_ok a.styles _ (by omega) (by repeat' (first | omega | apply purse_le | apply purse_len)) wstyles) (h:=?_)|refine sk (hc:=szStringS_ok a.images _ (by omega) (by repeat' (first | omega | apply purse_le | apply purse_len)) wimages) (h:=?_))|(refine cx ?_;refine sc (fun hc=>?_) (fun hc=>?_)<;>try exact hc.elim)|(refine lx ?_;refine sp (fun hc=>?_) (fun hc=>?_)<;>try exact hc.elim)|refine sx ?_ ?_|refine sy ?_ ?_|fail
  all_goals (try (refine ⟨.inr rfl, ?_⟩; simp [Hands, Tryz.results12, szPolicy]))
  all_goals (
    (try generalize e0 : sub n (szL szStr a.scripts) = m0 at *)
    (try (first | have f0 := purse_ok e0 (by omega) | have f0 := purse_bad e0 (by omega) (by omega)))
    (try generalize e1 : sub m0 (szL szStr a.styles) = m1 at *)
    (try (first | have f1 := purse_ok e1 (by omega) | have f1 := purse_bad e1 (by omega) (by omega)))
    (try generalize e2 : sub m1 (szL szStr a.images) = m2 at *)
    (try (first | have f2 := purse_ok e2 (by omega) | have f2 := purse_bad e2 (by omega) (by omega)))
    repeat (simp (disch := omega) only [wrap64] at *)
    (try simp only [sub]); (try split); all_goals omega)
theorem eqPolicy_ok [Tabs Tryz.prog] (a b : DPolicy) (hs : szPolicy a ≤ 1099511627776) : Ok Tryz.prog 39 [.agg (ePolicy .view a), .agg (ePolicy .view b)] (.bool (decide (a = b))) := by
  simp only [szPolicy] at hs
  refine ent Tryz.mix Tryz.func39 Tryz.ntmps39 ?_
  have W := trivial
  repeat' first|refine st ?_|(refine nx ?_;first|refine so ?_|refine sk (hc:=eqStringS_ok a.scripts b.scripts (by omega)) (h:=?_)|refine sk (hc:=eqStringS_ok a.styles b.styles (by omega)) (h:=?_)|refine sk (hc:=eqStringS_ok a.images b.images (by omega)) (h:=?_))|(refine cx ?_;refine sc (fun hc=>?_) (fun hc=>?_)<;>try exact hc.elim)|(refine lx ?_;refine sp (fun hc=>?_) (fun hc=>?_)<;>try exact hc.elim)|refine sx ?_ ?_|refine sy ?_ ?_|fail
  all_goals (try (refine ⟨.inr rfl, ?_⟩; simp [Hands, Tryz.results39]))
  all_goals ((repeat clear hK K); cases a; cases b; simp_all)
end Go.Proofs.YtonajehhfkkglabGreat
