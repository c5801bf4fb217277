/-
  Proved here: steps towards the statement of this claim, text U8.
  No condition beyond what each statement spells out.
-/
import Derived.Test.YtikabgfhklfjkaaGreatDoorU7
set_option linter.all false
set_option linter.unusedSimpArgs false
set_option linter.unusedVariables false
set_option maxRecDepth 4000
set_option maxHeartbeats 4000000
namespace Go.Proofs.YtikabgfhklfjkaaGreatDoor
open Go.Aw
theorem toEntry_ok [Tabs Tryz.prog] (a : DEntry) (hs : szEntry a ≤ 1048576) : Ok Tryz.prog 274 [.agg (eEntry a)] (.agg (eEntry a)) := by
  simp only [szEntry] at hs
  refine ent Tryz.mix Tryz.func274 Tryz.ntmps274 ?_
  have W := trivial
  repeat' first|refine st ?_|(refine nx ?_;first|refine so ?_|refine sk (hc:=toAddr_ok a.to (by omega)) (h:=?_)|refine sk (hc:=toResponse_ok a.response (by omega)) (h:=?_))|(refine cx ?_;refine sc (fun hc=>?_) (fun hc=>?_)<;>try exact hc.elim)|(refine lx ?_;refine sp (fun hc=>?_) (fun hc=>?_)<;>try exact hc.elim)|refine sx ?_ ?_|refine sy ?_ ?_|fail
  all_goals (try (refine ⟨.inr rfl, ?_⟩; simp [Hands, Tryz.results274]))

theorem szEntry_ok [Tabs Tryz.prog] (a : DEntry) (n : Int) (h0 : 0 ≤ n) (h1 : n ≤ 1048576) (hw : wfEntry a) : Ok Tryz.prog 267 [.agg (eEntry a), .int .i64 n] (.int .i64 (sub n (szEntry a))) := by
  simp only [wfEntry] at hw
  obtain ⟨wtop, wto, wresponse⟩ := hw
  refine ent Tryz.mix Tryz.func267 Tryz.ntmps267 ?_
  have W := trivial
  repeat' first|refine st ?_|(refine nx ?_;first|refine so ?_|refine sk (hc:=szAddr_ok a.to _ (by omega) (by repeat' (first | omega | apply purse_le | apply purse_len)) wto) (h:=?_)|refine sk (hc:=szResponse_ok a.response _ (by omega) (by repeat' (first | omega | apply purse_le | apply purse_len)) wresponse) (h:=?_))|(refine cx ?_;refine sc (fun hc=>?_) (fun hc=>?_)<;>try exact hc.elim)|(refine lx ?_;refine sp (fun hc=>?_) (fun hc=>?_)<;>try exact hc.elim)|refine sx ?_ ?_|refine sy ?_ ?_|fail
  all_goals (try (refine ⟨.inr rfl, ?_⟩; simp [Hands, Tryz.results267, szEntry]))
  all_goals (
    (try generalize e0 : sub (n - (a.top.length : Int)) (szAddr a.to) = m0 at *)
    (try (first | have f0 := purse_ok e0 (by omega) | have f0 := purse_bad e0 (by omega) (by omega)))
    (try generalize e1 : sub m0 (szResponse a.response) = m1 at *)
    (try (first | have f1 := purse_ok e1 (by omega) | have f1 := purse_bad e1 (by omega) (by omega)))
    repeat (simp (disch := omega) only [wrap64] at *)
    (try simp only [sub]); (try split); all_goals omega)

theorem eqEntry_ok [Tabs Tryz.prog] (a b : DEntry) (hs : szEntry a ≤ 1099511627776) : Ok Tryz.prog 283 [.agg (eEntry a), .agg (eEntry b)] (.bool (decide (a = b))) := by
  simp only [szEntry] at hs
  refine ent Tryz.mix Tryz.func283 Tryz.ntmps283 ?_
  have W := trivial
  repeat' first|refine st ?_|(refine nx ?_;first|refine so ?_|refine sk (hc:=eqAddr_ok a.to b.to (by omega)) (h:=?_)|refine sk (hc:=eqResponse_ok a.response b.response (by omega)) (h:=?_))|(refine cx ?_;refine sc (fun hc=>?_) (fun hc=>?_)<;>try exact hc.elim)|(refine lx ?_;refine sp (fun hc=>?_) (fun hc=>?_)<;>try exact hc.elim)|refine sx ?_ ?_|refine sy ?_ ?_|fail
  all_goals (try (refine ⟨.inr rfl, ?_⟩; simp [Hands, Tryz.results283]))
  all_goals ((repeat clear hK K); cases a; cases b; simp_all)

theorem toEntryS_ok [Tabs Tryz.prog] (l : List DEntry) (hs : szL szEntry l ≤ 1048576) : Ok Tryz.prog 206 [.sl .view 10 (l.map eEntry)] (.sl .own 10 (l.map eEntry)) := by
  have hl : l.length ≤ 1048576 := by (try simp only [szL] at hs); omega
  have hb : (120 : Int) * (l.length : Int) ≤ 281474976710656 := by omega
  have hb2 : (l.length : Int) ≤ 9223372036854775807 := by omega
  generalize hz : ([.str [], .str [], .str [], .int .i64 0, .int .i64 0, .str [], .int .i64 0, .bool false, .str [], .int .i64 0] : List AV) = z
  have hz0 := fillL_zero z (l.map eEntry)
  rw [List.length_map] at hz0
  refine ent Tryz.mix Tryz.func206 Tryz.ntmps206 ?_
  have W := And.intro hb hb2
  repeat' first|refine st ?_|(refine nx ?_;refine so ?_)|(refine cx ?_;refine sc (fun hc=>?_) (fun hc=>?_)<;>try exact hc.elim)|(refine lx ?_;refine sp (fun hc=>?_) (fun hc=>?_)<;>try exact hc.elim)|refine sx ?_ ?_|refine sy ?_ ?_|fail
  refine awp_loop' (ι := { k : Nat // k ≤ l.length }) (fun t o i => ⟨upds t [(4, .int .i64 i.1)], [⟨true, false, 10, 1, fillL z (l.map eEntry) i.1⟩]⟩)
    (fun i => l.length - i.1) ⟨0, by simp⟩ (weak_o (by simp [hz, hz0]) (by simp)) ?_
  rintro ⟨k, hk⟩ K1 hK1
  simp only [upds, List.set_cons_succ, List.set_cons_zero] at hK1 ⊢
  have hk1 : IntKind.i64.wrap ((k : Int) + 1) = ((k + 1 : Nat) : Int) := by rw [wrap64] <;> omega
  by_cases hlt : k < l.length
  · have hg := List.getElem?_eq_getElem hlt
    have hfg := fillL_get z (l.map eEntry) k (by simpa using hlt)
    have hfs := fillL_set z (l.map eEntry) k (by simpa using hlt)
    rw [List.getElem_map] at hfs
    simp only [eEntry] at hfs
    have hzl : z.length = 10 := by rw [← hz]; rfl
    have hzd : z.drop 10 = [] := by rw [← hz]; rfl
    have W := And.intro hk1 (And.intro hg (And.intro hfg (And.intro hzl (And.intro hzd hfs))))
    have V := And.intro hk1 (And.intro hg hlt)
    repeat' first|refine st ?_|(refine nx ?_;first|refine so ?_|refine sk (hc:=toEntry_ok l[k] (by have := sumN_get_le szEntry l k hlt; (try simp only [szL] at hs); omega)) (h:=?_))|(refine cx ?_;refine sc (fun hc=>?_) (fun hc=>?_)<;>try exact hc.elim)|(refine lx ?_;refine sp (fun hc=>?_) (fun hc=>?_)<;>try exact hc.elim)|refine sx ?_ ?_|refine sy ?_ ?_|fail
    refine hK1 _ ⟨k + 1, by omega⟩ (weak_take 1 rfl ?_ (by simp) (by simp)) (by simp only; omega)
    simp
  · have W := hk1
    repeat' first|refine st ?_|(refine nx ?_;refine so ?_)|(refine cx ?_;refine sc (fun hc=>?_) (fun hc=>?_)<;>try exact hc.elim)|(refine lx ?_;refine sp (fun hc=>?_) (fun hc=>?_)<;>try exact hc.elim)|refine sx ?_ ?_|refine sy ?_ ?_|fail
    have hfa := fillL_all z (l.map eEntry) k (by simpa using hlt)
    all_goals (try (refine ⟨.inr rfl, ?_⟩; simp [Hands, Tryz.results206, hfa]))

theorem szEntryS_ok [Tabs Tryz.prog] (l : List DEntry) (n : Int) (h0 : 0 ≤ n) (h1 : n ≤ 1048576) (hw : l.length ≤ 9223372036854775807 ∧ ∀ y ∈ l, wfEntry y) : Ok Tryz.prog 198 [.sl .view 10 (l.map eEntry), .int .i64 n] (.int .i64 (sub n (szL szEntry l))) := by
  obtain ⟨hl, hw⟩ := hw
  refine ent Tryz.mix Tryz.func198 Tryz.ntmps198 ?_
  have W := trivial
  repeat' first|refine st ?_|(refine nx ?_;refine so ?_)|(refine cx ?_;refine sc (fun hc=>?_) (fun hc=>?_)<;>try exact hc.elim)|(refine lx ?_;refine sp (fun hc=>?_) (fun hc=>?_)<;>try exact hc.elim)|refine sx ?_ ?_|refine sy ?_ ?_|fail
  · refine ⟨.inr rfl, ?_⟩; simp [Hands, Tryz.results198, sub, szL]; omega
  · refine awp_loop' (ι := { k : Nat // k ≤ l.length ∧ l.length + sumN szEntry (l.take k) ≤ n }) (fun t o i => ⟨upds t [(1, .int .i64 (n - (l.length + sumN szEntry (l.take i.1) : Nat))), (5, .int .i64 i.1)], []⟩)
      (fun i => l.length - i.1) ⟨0, by simp, by simp [sumN]; omega⟩ (weak_o (by simp) (by simp [sumN])) ?_
    rintro ⟨k, hk, hs⟩ K1 hK1
    simp only [upds, List.set_cons_succ, List.set_cons_zero] at hK1 ⊢
    have hk1 : IntKind.i64.wrap ((k : Int) + 1) = ((k + 1 : Nat) : Int) := by rw [wrap64] <;> omega
    by_cases hlt : k < l.length
    · have hg := List.getElem?_eq_getElem hlt
      have hts := sumN_take_succ szEntry l k hlt
      have htl := sumN_take_le szEntry l (k + 1)
      have hwg := hw _ (List.getElem_mem hlt)
      have W := And.intro hk1 hg
      repeat' first|refine st ?_|(refine nx ?_;first|refine so ?_|refine sk (hc:=szEntry_ok _ _ (by omega) (by omega) hwg) (h:=?_))|(refine cx ?_;refine sc (fun hc=>?_) (fun hc=>?_)<;>try exact hc.elim)|(refine lx ?_;refine sp (fun hc=>?_) (fun hc=>?_)<;>try exact hc.elim)|refine sx ?_ ?_|refine sy ?_ ?_|fail
      · refine ⟨.inr rfl, ?_⟩
        simp [Hands, Tryz.results198, szL]
        (repeat clear hK K); simp only [sub] at *; grind
      · refine hK1 _ ⟨k + 1, by omega, by (repeat clear hK K); simp only [sub] at *; grind⟩ (weak_o (by simp) ?_) (by simp only; omega)
        simp
        (repeat clear hK K); simp only [sub] at *; grind
    · have W := hk1
      repeat' first|refine st ?_|(refine nx ?_;refine so ?_)|(refine cx ?_;refine sc (fun hc=>?_) (fun hc=>?_)<;>try exact hc.elim)|(refine lx ?_;refine sp (fun hc=>?_) (fun hc=>?_)<;>try exact hc.elim)|refine sx ?_ ?_|refine sy ?_ ?_|fail
      all_goals (try (refine ⟨.inr rfl, ?_⟩; simp [Hands, Tryz.results198, szL]))
      have : k = l.length := by omega
      subst this
      rw [List.take_length] at *
      rw [sub_pos (by omega)]
      omega

theorem eqEntryS_ok [Tabs Tryz.prog] (a b : List DEntry) (hs : szL szEntry a ≤ 1099511627776) : Ok Tryz.prog 214 [.sl .view 10 (a.map eEntry), .sl .view 10 (b.map eEntry)] (.bool (decide (a = b))) := by
  have hl : a.length ≤ 1099511627776 := by (try simp only [szL] at hs); omega
  refine ent Tryz.mix Tryz.func214 Tryz.ntmps214 ?_
  have W := trivial
  repeat' first|refine st ?_|(refine nx ?_;refine so ?_)|(refine cx ?_;refine sc (fun hc=>?_) (fun hc=>?_)<;>try exact hc.elim)|(refine lx ?_;refine sp (fun hc=>?_) (fun hc=>?_)<;>try exact hc.elim)|refine sx ?_ ?_|refine sy ?_ ?_|fail
  · all_goals (try (refine ⟨.inr rfl, ?_⟩; simp [Hands, Tryz.results214]))
    intro h; subst h; exact absurd rfl hc
  · have hlen : a.length = b.length := by omega
    refine awp_loop' (ι := { k : Nat // k ≤ a.length ∧ a.take k = b.take k }) (fun t o i => ⟨upds t [(5, .int .i64 i.1)], []⟩)
      (fun i => a.length - i.1) ⟨0, by simp⟩ (weak_o (by simp) (by simp)) ?_
    rintro ⟨k, hk, hpre⟩ K1 hK1
    simp only [upds, List.set_cons_succ, List.set_cons_zero] at hK1 ⊢
    have hk1 : IntKind.i64.wrap ((k : Int) + 1) = ((k + 1 : Nat) : Int) := by rw [wrap64] <;> omega
    by_cases hlt : k < a.length
    · have hg := List.getElem?_eq_getElem hlt
      have hltb : k < b.length := by omega
      have hgb := List.getElem?_eq_getElem hltb
      have W := And.intro hk1 (And.intro hg (And.intro hlt (And.intro hgb hltb)))
      repeat' first|refine st ?_|(refine nx ?_;first|refine so ?_|refine sk (hc:=eqEntry_ok a[k] b[k] (by have := sumN_get_le szEntry a k hlt; (try simp only [szL] at hs); omega)) (h:=?_))|(refine cx ?_;refine sc (fun hc=>?_) (fun hc=>?_)<;>try exact hc.elim)|(refine lx ?_;refine sp (fun hc=>?_) (fun hc=>?_)<;>try exact hc.elim)|refine sx ?_ ?_|refine sy ?_ ?_|fail
      · all_goals (try (refine ⟨.inr rfl, ?_⟩; simp [Hands, Tryz.results214]))
        intro h; subst h; exact hc rfl
      · have hts : a.take (k + 1) = b.take (k + 1) := by
          rw [List.take_succ_eq_append_getElem hlt, List.take_succ_eq_append_getElem hltb, hpre, hc]
        refine hK1 _ ⟨k + 1, by omega, hts⟩ (weak_o (by simp) (by simp)) (by simp only; omega)
    · have hka : a.length ≤ k := by omega
      rw [List.take_of_length_le hka, List.take_of_length_le (by omega)] at hpre
      subst hpre
      have W := hk1
      repeat' first|refine st ?_|(refine nx ?_;refine so ?_)|(refine cx ?_;refine sc (fun hc=>?_) (fun hc=>?_)<;>try exact hc.elim)|(refine lx ?_;refine sp (fun hc=>?_) (fun hc=>?_)<;>try exact hc.elim)|refine sx ?_ ?_|refine sy ?_ ?_|fail
      all_goals (try (refine ⟨.inr rfl, ?_⟩; simp [Hands, Tryz.results214]))

theorem toCache_ok [Tabs Tryz.prog] (a : DCache) (hs : szCache a ≤ 1048576) : Ok Tryz.prog 121 [.agg (eCache .view a)] (.agg (eCache .own a)) := by
  simp only [szCache] at hs
  refine ent Tryz.mix Tryz.func121 Tryz.ntmps121 ?_
  have W := trivial
  repeat' first|refine st ?_|(refine nx ?_;first|refine so ?_|refine sk (hc:=toEntryS_ok a.entries (by omega)) (h:=?_))|(refine cx ?_;refine sc (fun hc=>?_) (fun hc=>?_)<;>try exact hc.elim)|(refine lx ?_;refine sp (fun hc=>?_) (fun hc=>?_)<;>try exact hc.elim)|refine sx ?_ ?_|refine sy ?_ ?_|fail
  all_goals (try (refine ⟨.inr rfl, ?_⟩; simp [Hands, Tryz.results121]))

theorem szCache_ok [Tabs Tryz.prog] (a : DCache) (n : Int) (h0 : 0 ≤ n) (h1 : n ≤ 1048576) (hw : wfCache a) : Ok Tryz.prog 117 [.agg (eCache .view a), .int .i64 n] (.int .i64 (sub n (szCache a))) := by
  simp only [wfCache] at hw
  have wentries := hw
  refine ent Tryz.mix Tryz.func117 Tryz.ntmps117 ?_
  have W := trivial
  repeat' first|refine st ?_|(refine nx ?_;first|refine so ?_|refine sk (hc:=szEntryS_ok a.entries _ (by omega) (by repeat' (first | omega | apply purse_le | apply purse_len)) wentries) (h:=?_))|(refine cx ?_;refine sc (fun hc=>?_) (fun hc=>?_)<;>try exact hc.elim)|(refine lx ?_;refine sp (fun hc=>?_) (fun hc=>?_)<;>try exact hc.elim)|refine sx ?_ ?_|refine sy ?_ ?_|fail
  all_goals (try (refine ⟨.inr rfl, ?_⟩; simp [Hands, Tryz.results117, szCache]))
  all_goals (
    (try generalize e0 : sub n (szL szEntry a.entries) = m0 at *)
    (try (first | have f0 := purse_ok e0 (by omega) | have f0 := purse_bad e0 (by omega) (by omega)))
    repeat (simp (disch := omega) only [wrap64] at *)
    (try simp only [sub]); (try split); all_goals omega)

theorem eqCache_ok [Tabs Tryz.prog] (a b : DCache) (hs : szCache a ≤ 1099511627776) : Ok Tryz.prog 125 [.agg (eCache .view a), .agg (eCache .view b)] (.bool (decide (a = b))) := by
  simp only [szCache] at hs
  refine ent Tryz.mix Tryz.func125 Tryz.ntmps125 ?_
  have W := trivial
  repeat' first|refine st ?_|(refine nx ?_;first|refine so ?_|refine sk (hc:=eqEntryS_ok a.entries b.entries (by omega)) (h:=?_))|(refine cx ?_;refine sc (fun hc=>?_) (fun hc=>?_)<;>try exact hc.elim)|(refine lx ?_;refine sp (fun hc=>?_) (fun hc=>?_)<;>try exact hc.elim)|refine sx ?_ ?_|refine sy ?_ ?_|fail
  all_goals (try (refine ⟨.inr rfl, ?_⟩; simp [Hands, Tryz.results125]))
  all_goals ((repeat clear hK K); cases a; cases b; simp_all)

theorem toSent_ok [Tabs Tryz.prog] (a : DSent) (hs : szSent a ≤ 1048576) : Ok Tryz.prog 207 [.agg (eSent a)] (.agg (eSent a)) := by
  simp only [szSent] at hs
  refine ent Tryz.mix Tryz.func207 Tryz.ntmps207 ?_
  have W := trivial
  repeat' first|refine st ?_|(refine nx ?_;first|refine so ?_|refine sk (hc:=toAddr_ok a.to (by omega)) (h:=?_))|(refine cx ?_;refine sc (fun hc=>?_) (fun hc=>?_)<;>try exact hc.elim)|(refine lx ?_;refine sp (fun hc=>?_) (fun hc=>?_)<;>try exact hc.elim)|refine sx ?_ ?_|refine sy ?_ ?_|fail
  all_goals (try (refine ⟨.inr rfl, ?_⟩; simp [Hands, Tryz.results207]))

theorem szSent_ok [Tabs Tryz.prog] (a : DSent) (n : Int) (h0 : 0 ≤ n) (h1 : n ≤ 1048576) (hw : wfSent a) : Ok Tryz.prog 199 [.agg (eSent a), .int .i64 n] (.int .i64 (sub n (szSent a))) := by
  simp only [wfSent] at hw
  obtain ⟨wtop, wto⟩ := hw
  refine ent Tryz.mix Tryz.func199 Tryz.ntmps199 ?_
  have W := trivial
  repeat' first|refine st ?_|(refine nx ?_;first|refine so ?_|refine sk (hc:=szAddr_ok a.to _ (by omega) (by repeat' (first | omega | apply purse_le | apply purse_len)) wto) (h:=?_))|(refine cx ?_;refine sc (fun hc=>?_) (fun hc=>?_)<;>try exact hc.elim)|(refine lx ?_;refine sp (fun hc=>?_) (fun hc=>?_)<;>try exact hc.elim)|refine sx ?_ ?_|refine sy ?_ ?_|fail
  all_goals (try (refine ⟨.inr rfl, ?_⟩; simp [Hands, Tryz.results199, szSent]))
  all_goals (
    (try generalize e0 : sub (n - (a.top.length : Int)) (szAddr a.to) = m0 at *)
    (try (first | have f0 := purse_ok e0 (by omega) | have f0 := purse_bad e0 (by omega) (by omega)))
    repeat (simp (disch := omega) only [wrap64] at *)
    (try simp only [sub]); (try split); all_goals omega)

theorem eqSent_ok [Tabs Tryz.prog] (a b : DSent) (hs : szSent a ≤ 1099511627776) : Ok Tryz.prog 215 [.agg (eSent a), .agg (eSent b)] (.bool (decide (a = b))) := by
  simp only [szSent] at hs
  refine ent Tryz.mix Tryz.func215 Tryz.ntmps215 ?_
  have W := trivial
  repeat' first|refine st ?_|(refine nx ?_;first|refine so ?_|refine sk (hc:=eqAddr_ok a.to b.to (by omega)) (h:=?_))|(refine cx ?_;refine sc (fun hc=>?_) (fun hc=>?_)<;>try exact hc.elim)|(refine lx ?_;refine sp (fun hc=>?_) (fun hc=>?_)<;>try exact hc.elim)|refine sx ?_ ?_|refine sy ?_ ?_|fail
  all_goals (try (refine ⟨.inr rfl, ?_⟩; simp [Hands, Tryz.results215]))
  all_goals ((repeat clear hK K); cases a; cases b; simp_all)

theorem toSentS_ok [Tabs Tryz.prog] (l : List DSent) (hs : szL szSent l ≤ 1048576) : Ok Tryz.prog 122 [.sl .view 4 (l.map eSent)] (.sl .own 4 (l.map eSent)) := by
  have hl : l.length ≤ 1048576 := by (try simp only [szL] at hs); omega
  have hb : (56 : Int) * (l.length : Int) ≤ 281474976710656 := by omega
  have hb2 : (l.length : Int) ≤ 9223372036854775807 := by omega
  generalize hz : ([.str [], .str [], .str [], .bool false] : List AV) = z
  have hz0 := fillL_zero z (l.map eSent)
  rw [List.length_map] at hz0
  refine ent Tryz.mix Tryz.func122 Tryz.ntmps122 ?_
  have W := And.intro hb hb2
  repeat' first|refine st ?_|(refine nx ?_;refine so ?_)|(refine cx ?_;refine sc (fun hc=>?_) (fun hc=>?_)<;>try exact hc.elim)|(refine lx ?_;refine sp (fun hc=>?_) (fun hc=>?_)<;>try exact hc.elim)|refine sx ?_ ?_|refine sy ?_ ?_|fail
  refine awp_loop' (ι := { k : Nat // k ≤ l.length }) (fun t o i => ⟨upds t [(4, .int .i64 i.1)], [⟨true, false, 4, 1, fillL z (l.map eSent) i.1⟩]⟩)
    (fun i => l.length - i.1) ⟨0, by simp⟩ (weak_o (by simp [hz, hz0]) (by simp)) ?_
  rintro ⟨k, hk⟩ K1 hK1
  simp only [upds, List.set_cons_succ, List.set_cons_zero] at hK1 ⊢
  have hk1 : IntKind.i64.wrap ((k : Int) + 1) = ((k + 1 : Nat) : Int) := by rw [wrap64] <;> omega
  by_cases hlt : k < l.length
  · have hg := List.getElem?_eq_getElem hlt
    have hfg := fillL_get z (l.map eSent) k (by simpa using hlt)
    have hfs := fillL_set z (l.map eSent) k (by simpa using hlt)
    rw [List.getElem_map] at hfs
    simp only [eSent] at hfs
    have hzl : z.length = 4 := by rw [← hz]; rfl
    have hzd : z.drop 4 = [] := by rw [← hz]; rfl
    have W := And.intro hk1 (And.intro hg (And.intro hfg (And.intro hzl (And.intro hzd hfs))))
    have V := And.intro hk1 (And.intro hg hlt)
    repeat' first|refine st ?_|(refine nx ?_;first|refine so ?_|refine sk (hc:=toSent_ok l[k] (by have := sumN_get_le szSent l k hlt; (try simp only [szL] at hs); omega)) (h:=?_))|(refine cx ?_;refine sc (fun hc=>?_) (fun hc=>?_)<;>try exact hc.elim)|(refine lx ?_;refine sp (fun hc=>?_) (fun hc=>?_)<;>try exact hc.elim)|refine sx ?_ ?_|refine sy ?_ ?_|fail
    refine hK1 _ ⟨k + 1, by omega⟩ (weak_take 1 rfl ?_ (by simp) (by simp)) (by simp only; omega)
    simp
  · have W := hk1
    repeat' first|refine st ?_|(refine nx ?_;refine so ?_)|(refine cx ?_;refine sc (fun hc=>?_) (fun hc=>?_)<;>try exact hc.elim)|(refine lx ?_;refine sp (fun hc=>?_) (fun hc=>?_)<;>try exact hc.elim)|refine sx ?_ ?_|refine sy ?_ ?_|fail
    have hfa := fillL_all z (l.map eSent) k (by simpa using hlt)
    all_goals (try (refine ⟨.inr rfl, ?_⟩; simp [Hands, Tryz.results122, hfa]))

theorem szSentS_ok [Tabs Tryz.prog] (l : List DSent) (n : Int) (h0 : 0 ≤ n) (h1 : n ≤ 1048576) (hw : l.length ≤ 9223372036854775807 ∧ ∀ y ∈ l, wfSent y) : Ok Tryz.prog 118 [.sl .view 4 (l.map eSent), .int .i64 n] (.int .i64 (sub n (szL szSent l))) := by
  obtain ⟨hl, hw⟩ := hw
  refine ent Tryz.mix Tryz.func118 Tryz.ntmps118 ?_
  have W := trivial
  repeat' first|refine st ?_|(refine nx ?_;refine so ?_)|(refine cx ?_;refine sc (fun hc=>?_) (fun hc=>?_)<;>try exact hc.elim)|(refine lx ?_;refine sp (fun hc=>?_) (fun hc=>?_)<;>try exact hc.elim)|refine sx ?_ ?_|refine sy ?_ ?_|fail
  · refine ⟨.inr rfl, ?_⟩; simp [Hands, Tryz.results118, sub, szL]; omega
  · refine awp_loop' (ι := { k : Nat // k ≤ l.length ∧ l.length + sumN szSent (l.take k) ≤ n }) (fun t o i => ⟨upds t [(1, .int .i64 (n - (l.length + sumN szSent (l.take i.1) : Nat))), (5, .int .i64 i.1)], []⟩)
      (fun i => l.length - i.1) ⟨0, by simp, by simp [sumN]; omega⟩ (weak_o (by simp) (by simp [sumN])) ?_
    rintro ⟨k, hk, hs⟩ K1 hK1
    simp only [upds, List.set_cons_succ, List.set_cons_zero] at hK1 ⊢
    have hk1 : IntKind.i64.wrap ((k : Int) + 1) = ((k + 1 : Nat) : Int) := by rw [wrap64] <;> omega
    by_cases hlt : k < l.length
    · have hg := List.getElem?_eq_getElem hlt
      have hts := sumN_take_succ szSent l k hlt
      have htl := sumN_take_le szSent l (k + 1)
      have hwg := hw _ (List.getElem_mem hlt)
      have W := And.intro hk1 hg
      repeat' first|refine st ?_|(refine nx ?_;first|refine so ?_|refine sk (hc:=szSent_ok _ _ (by omega) (by omega) hwg) (h:=?_))|(refine cx ?_;refine sc (fun hc=>?_) (fun hc=>?_)<;>try exact hc.elim)|(refine lx ?_;refine sp (fun hc=>?_) (fun hc=>?_)<;>try exact hc.elim)|refine sx ?_ ?_|refine sy ?_ ?_|fail
      · refine ⟨.inr rfl, ?_⟩
        simp [Hands, Tryz.results118, szL]
        (repeat clear hK K); simp only [sub] at *; grind
      · refine hK1 _ ⟨k + 1, by omega, by (repeat clear hK K); simp only [sub] at *; grind⟩ (weak_o (by simp) ?_) (by simp only; omega)
        simp
        (repeat clear hK K); simp only [sub] at *; grind
    · have W := hk1
      repeat' first|refine st ?_|(refine nx ?_;refine so ?_)|(refine cx ?_;refine sc (fun hc=>?_) (fun hc=>?_)<;>try exact hc.elim)|(refine lx ?_;refine sp (fun hc=>?_) (fun hc=>?_)<;>try exact hc.elim)|refine sx ?_ ?_|refine sy ?_ ?_|fail
      all_goals (try (refine ⟨.inr rfl, ?_⟩; simp [Hands, Tryz.results118, szL]))
      have : k = l.length := by omega
      subst this
      rw [List.take_length] at *
      rw [sub_pos (by omega)]
      omega

theorem eqSentS_ok [Tabs Tryz.prog] (a b : List DSent) (hs : szL szSent a ≤ 1099511627776) : Ok Tryz.prog 126 [.sl .view 4 (a.map eSent), .sl .view 4 (b.map eSent)] (.bool (decide (a = b))) := by
  have hl : a.length ≤ 1099511627776 := by (try simp only [szL] at hs); omega
  refine ent Tryz.mix Tryz.func126 Tryz.ntmps126 ?_
  have W := trivial
  repeat' first|refine st ?_|(refine nx ?_;refine so ?_)|(refine cx ?_;refine sc (fun hc=>?_) (fun hc=>?_)<;>try exact hc.elim)|(refine lx ?_;refine sp (fun hc=>?_) (fun hc=>?_)<;>try exact hc.elim)|refine sx ?_ ?_|refine sy ?_ ?_|fail
  · all_goals (try (refine ⟨.inr rfl, ?_⟩; simp [Hands, Tryz.results126]))
    intro h; subst h; exact absurd rfl hc
  · have hlen : a.length = b.length := by omega
    refine awp_loop' (ι := { k : Nat // k ≤ a.length ∧ a.take k = b.take k }) (fun t o i => ⟨upds t [(5, .int .i64 i.1)], []⟩)
      (fun i => a.length - i.1) ⟨0, by simp⟩ (weak_o (by simp) (by simp)) ?_
    rintro ⟨k, hk, hpre⟩ K1 hK1
    simp only [upds, List.set_cons_succ, List.set_cons_zero] at hK1 ⊢
    have hk1 : IntKind.i64.wrap ((k : Int) + 1) = ((k + 1 : Nat) : Int) := by rw [wrap64] <;> omega
    by_cases hlt : k < a.length
    · have hg := List.getElem?_eq_getElem hlt
      have hltb : k < b.length := by omega
      have hgb := List.getElem?_eq_getElem hltb
      have W := And.intro hk1 (And.intro hg (And.intro hlt (And.intro hgb hltb)))
      repeat' first|refine st ?_|(refine nx ?_;first|refine so ?_|refine sk (hc:=eqSent_ok a[k] b[k] (by have := sumN_get_le szSent a k hlt; (try simp only [szL] at hs); omega)) (h:=?_))|(refine cx ?_;refine sc (fun hc=>?_) (fun hc=>?_)<;>try exact hc.elim)|(refine lx ?_;refine sp (fun hc=>?_) (fun hc=>?_)<;>try exact hc.elim)|refine sx ?_ ?_|refine sy ?_ ?_|fail
      · all_goals (try (refine ⟨.inr rfl, ?_⟩; simp [Hands, Tryz.results126]))
        intro h; subst h; exact hc rfl
      · have hts : a.take (k + 1) = b.take (k + 1) := by
          rw [List.take_succ_eq_append_getElem hlt, List.take_succ_eq_append_getElem hltb, hpre, hc]
        refine hK1 _ ⟨k + 1, by omega, hts⟩ (weak_o (by simp) (by simp)) (by simp only; omega)
    · have hka : a.length ≤ k := by omega
      rw [List.take_of_length_le hka, List.take_of_length_le (by omega)] at hpre
      subst hpre
      have W := hk1
      repeat' first|refine st ?_|(refine nx ?_;refine so ?_)|(refine cx ?_;refine sc (fun hc=>?_) (fun hc=>?_)<;>try exact hc.elim)|(refine lx ?_;refine sp (fun hc=>?_) (fun hc=>?_)<;>try exact hc.elim)|refine sx ?_ ?_|refine sy ?_ ?_|fail
      all_goals (try (refine ⟨.inr rfl, ?_⟩; simp [Hands, Tryz.results126]))

theorem toNet_ok [Tabs Tryz.prog] (a : DNet) (hs : szNet a ≤ 1048576) : Ok Tryz.prog 35 [.agg (eNet .view a)] (.agg (eNet .own a)) := by
  simp only [szNet] at hs
  refine ent Tryz.mix Tryz.func35 Tryz.ntmps35 ?_
  have W := trivial
  repeat' first|refine st ?_|(refine nx ?_;first|refine so ?_|refine sk (hc:=toServerS_ok a.servers (by omega)) (h:=?_)|refine sk (hc:=toCache_ok a.cache (by omega)) (h:=?_)|refine sk (hc:=toSentS_ok a.log (by omega)) (h:=?_))|(refine cx ?_;refine sc (fun hc=>?_) (fun hc=>?_)<;>try exact hc.elim)|(refine lx ?_;refine sp (fun hc=>?_) (fun hc=>?_)<;>try exact hc.elim)|refine sx ?_ ?_|refine sy ?_ ?_|fail
  all_goals (try (refine ⟨.inr rfl, ?_⟩; simp [Hands, Tryz.results35]))

theorem szNet_ok [Tabs Tryz.prog] (a : DNet) (n : Int) (h0 : 0 ≤ n) (h1 : n ≤ 1048576) (hw : wfNet a) : Ok Tryz.prog 33 [.agg (eNet .view a), .int .i64 n] (.int .i64 (sub n (szNet a))) := by
  simp only [wfNet] at hw
  obtain ⟨wservers, wcache, wlog⟩ := hw
  refine ent Tryz.mix Tryz.func33 Tryz.ntmps33 ?_
  have W := trivial
  repeat' first|refine st ?_|(refine nx ?_;first|refine so ?_|refine sk (hc:=szServerS_ok a.servers _ (by omega) (by repeat' (first | omega | apply purse_le | apply purse_len)) wservers) (h:=?_)|refine sk (hc:=szCache_ok a.cache _ (by omega) (by repeat' (first | omega | apply purse_le | apply purse_len)) wcache) (h:=?_)|refine sk (hc:=szSentS_ok a.log _ (by omega) (by repeat' (first | omega | apply purse_le | apply purse_len)) wlog) (h:=?_))|(refine cx ?_;refine sc (fun hc=>?_) (fun hc=>?_)<;>try exact hc.elim)|(refine lx ?_;refine sp (fun hc=>?_) (fun hc=>?_)<;>try exact hc.elim)|refine sx ?_ ?_|refine sy ?_ ?_|fail
  all_goals (try (refine ⟨.inr rfl, ?_⟩; simp [Hands, Tryz.results33, szNet]))
  all_goals (
    (try generalize e0 : sub n (szL szServer a.servers) = m0 at *)
    (try (first | have f0 := purse_ok e0 (by omega) | have f0 := purse_bad e0 (by omega) (by omega)))
    (try generalize e1 : sub m0 (szCache a.cache) = m1 at *)
    (try (first | have f1 := purse_ok e1 (by omega) | have f1 := purse_bad e1 (by omega) (by omega)))
    (try generalize e2 : sub m1 (szL szSent a.log) = m2 at *)
    (try (first | have f2 := purse_ok e2 (by omega) | have f2 := purse_bad e2 (by omega) (by omega)))
    repeat (simp (disch := omega) only [wrap64] at *)
    (try simp only [sub]); (try split); all_goals omega)

theorem eqNet_ok [Tabs Tryz.prog] (a b : DNet) (hs : szNet a ≤ 1099511627776) : Ok Tryz.prog 38 [.agg (eNet .view a), .agg (eNet .view b)] (.bool (decide (a = b))) := by
  simp only [szNet] at hs
  refine ent Tryz.mix Tryz.func38 Tryz.ntmps38 ?_
  have W := trivial
  repeat' first|refine st ?_|(refine nx ?_;first|refine so ?_|refine sk (hc:=eqServerS_ok a.servers b.servers (by omega)) (h:=?_)|refine sk (hc:=eqCache_ok a.cache b.cache (by omega)) (h:=?_)|refine sk (hc:=eqSentS_ok a.log b.log (by omega)) (h:=?_))|(refine cx ?_;refine sc (fun hc=>?_) (fun hc=>?_)<;>try exact hc.elim)|(refine lx ?_;refine sp (fun hc=>?_) (fun hc=>?_)<;>try exact hc.elim)|refine sx ?_ ?_|refine sy ?_ ?_|fail
  all_goals (try (refine ⟨.inr rfl, ?_⟩; simp [Hands, Tryz.results38]))
  all_goals ((repeat clear hK K); cases a; cases b; simp_all)

end Go.Proofs.YtikabgfhklfjkaaGreatDoor
