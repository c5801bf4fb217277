/-
  Proved here: steps towards the statement of this claim, text U7.
  No condition beyond what each statement spells out.
-/
import Derived.Test.YtikabgfhklfjkaaGreatDoorU3
set_option linter.all false
set_option linter.unusedSimpArgs false
set_option linter.unusedVariables false
set_option maxRecDepth 4000
set_option maxHeartbeats 4000000
namespace Go.Proofs.YtikabgfhklfjkaaGreatDoor
open Go.Aw
theorem toFile_ok [Tabs Tryz.prog] (a : DFile) (hs : szFile a ≤ 1048576) : Ok Tryz.prog 337 [.agg (eFile a)] (.agg (eFile a)) := by
  simp only [szFile] at hs
  refine ent Tryz.mix Tryz.func337 Tryz.ntmps337 ?_
  have W := trivial
  repeat' first|refine st ?_|(refine nx ?_;first|refine so ?_|refine sk (hc:=toResponse_ok a.response (by omega)) (h:=?_))|(refine cx ?_;refine sc (fun hc=>?_) (fun hc=>?_)<;>try exact hc.elim)|(refine lx ?_;refine sp (fun hc=>?_) (fun hc=>?_)<;>try exact hc.elim)|refine sx ?_ ?_|refine sy ?_ ?_|fail
  all_goals (try (refine ⟨.inr rfl, ?_⟩; simp [Hands, Tryz.results337]))

theorem szFile_ok [Tabs Tryz.prog] (a : DFile) (n : Int) (h0 : 0 ≤ n) (h1 : n ≤ 1048576) (hw : wfFile a) : Ok Tryz.prog 334 [.agg (eFile a), .int .i64 n] (.int .i64 (sub n (szFile a))) := by
  simp only [wfFile] at hw
  obtain ⟨wpath, wresponse⟩ := hw
  refine ent Tryz.mix Tryz.func334 Tryz.ntmps334 ?_
  have W := trivial
  repeat' first|refine st ?_|(refine nx ?_;first|refine so ?_|refine sk (hc:=szResponse_ok a.response _ (by omega) (by repeat' (first | omega | apply purse_le | apply purse_len)) wresponse) (h:=?_))|(refine cx ?_;refine sc (fun hc=>?_) (fun hc=>?_)<;>try exact hc.elim)|(refine lx ?_;refine sp (fun hc=>?_) (fun hc=>?_)<;>try exact hc.elim)|refine sx ?_ ?_|refine sy ?_ ?_|fail
  all_goals (try (refine ⟨.inr rfl, ?_⟩; simp [Hands, Tryz.results334, szFile]))
  all_goals (
    (try generalize e0 : sub (n - (a.path.length : Int)) (szResponse a.response) = m0 at *)
    (try (first | have f0 := purse_ok e0 (by omega) | have f0 := purse_bad e0 (by omega) (by omega)))
    repeat (simp (disch := omega) only [wrap64] at *)
    (try simp only [sub]); (try split); all_goals omega)

theorem eqFile_ok [Tabs Tryz.prog] (a b : DFile) (hs : szFile a ≤ 1099511627776) : Ok Tryz.prog 344 [.agg (eFile a), .agg (eFile b)] (.bool (decide (a = b))) := by
  simp only [szFile] at hs
  refine ent Tryz.mix Tryz.func344 Tryz.ntmps344 ?_
  have W := trivial
  repeat' first|refine st ?_|(refine nx ?_;first|refine so ?_|refine sk (hc:=eqResponse_ok a.response b.response (by omega)) (h:=?_))|(refine cx ?_;refine sc (fun hc=>?_) (fun hc=>?_)<;>try exact hc.elim)|(refine lx ?_;refine sp (fun hc=>?_) (fun hc=>?_)<;>try exact hc.elim)|refine sx ?_ ?_|refine sy ?_ ?_|fail
  all_goals (try (refine ⟨.inr rfl, ?_⟩; simp [Hands, Tryz.results344]))
  all_goals ((repeat clear hK K); cases a; cases b; simp_all)

theorem toFileS_ok [Tabs Tryz.prog] (l : List DFile) (hs : szL szFile l ≤ 1048576) : Ok Tryz.prog 273 [.sl .view 7 (l.map eFile)] (.sl .own 7 (l.map eFile)) := by
  have hl : l.length ≤ 1048576 := by (try simp only [szL] at hs); omega
  have hb : (80 : Int) * (l.length : Int) ≤ 281474976710656 := by omega
  have hb2 : (l.length : Int) ≤ 9223372036854775807 := by omega
  generalize hz : ([.str [], .int .i64 0, .int .i64 0, .str [], .int .i64 0, .bool false, .str []] : List AV) = z
  have hz0 := fillL_zero z (l.map eFile)
  rw [List.length_map] at hz0
  refine ent Tryz.mix Tryz.func273 Tryz.ntmps273 ?_
  have W := And.intro hb hb2
  repeat' first|refine st ?_|(refine nx ?_;refine so ?_)|(refine cx ?_;refine sc (fun hc=>?_) (fun hc=>?_)<;>try exact hc.elim)|(refine lx ?_;refine sp (fun hc=>?_) (fun hc=>?_)<;>try exact hc.elim)|refine sx ?_ ?_|refine sy ?_ ?_|fail
  refine awp_loop' (ι := { k : Nat // k ≤ l.length }) (fun t o i => ⟨upds t [(4, .int .i64 i.1)], [⟨true, false, 7, 1, fillL z (l.map eFile) i.1⟩]⟩)
    (fun i => l.length - i.1) ⟨0, by simp⟩ (weak_o (by simp [hz, hz0]) (by simp)) ?_
  rintro ⟨k, hk⟩ K1 hK1
  simp only [upds, List.set_cons_succ, List.set_cons_zero] at hK1 ⊢
  have hk1 : IntKind.i64.wrap ((k : Int) + 1) = ((k + 1 : Nat) : Int) := by rw [wrap64] <;> omega
  by_cases hlt : k < l.length
  · have hg := List.getElem?_eq_getElem hlt
    have hfg := fillL_get z (l.map eFile) k (by simpa using hlt)
    have hfs := fillL_set z (l.map eFile) k (by simpa using hlt)
    rw [List.getElem_map] at hfs
    simp only [eFile] at hfs
    have hzl : z.length = 7 := by rw [← hz]; rfl
    have hzd : z.drop 7 = [] := by rw [← hz]; rfl
    have W := And.intro hk1 (And.intro hg (And.intro hfg (And.intro hzl (And.intro hzd hfs))))
    have V := And.intro hk1 (And.intro hg hlt)
    repeat' first|refine st ?_|(refine nx ?_;first|refine so ?_|refine sk (hc:=toFile_ok l[k] (by have := sumN_get_le szFile l k hlt; (try simp only [szL] at hs); omega)) (h:=?_))|(refine cx ?_;refine sc (fun hc=>?_) (fun hc=>?_)<;>try exact hc.elim)|(refine lx ?_;refine sp (fun hc=>?_) (fun hc=>?_)<;>try exact hc.elim)|refine sx ?_ ?_|refine sy ?_ ?_|fail
    refine hK1 _ ⟨k + 1, by omega⟩ (weak_take 1 rfl ?_ (by simp) (by simp)) (by simp only; omega)
    simp
  · have W := hk1
    repeat' first|refine st ?_|(refine nx ?_;refine so ?_)|(refine cx ?_;refine sc (fun hc=>?_) (fun hc=>?_)<;>try exact hc.elim)|(refine lx ?_;refine sp (fun hc=>?_) (fun hc=>?_)<;>try exact hc.elim)|refine sx ?_ ?_|refine sy ?_ ?_|fail
    have hfa := fillL_all z (l.map eFile) k (by simpa using hlt)
    all_goals (try (refine ⟨.inr rfl, ?_⟩; simp [Hands, Tryz.results273, hfa]))

theorem szFileS_ok [Tabs Tryz.prog] (l : List DFile) (n : Int) (h0 : 0 ≤ n) (h1 : n ≤ 1048576) (hw : l.length ≤ 9223372036854775807 ∧ ∀ y ∈ l, wfFile y) : Ok Tryz.prog 266 [.sl .view 7 (l.map eFile), .int .i64 n] (.int .i64 (sub n (szL szFile l))) := by
  obtain ⟨hl, hw⟩ := hw
  refine ent Tryz.mix Tryz.func266 Tryz.ntmps266 ?_
  have W := trivial
  repeat' first|refine st ?_|(refine nx ?_;refine so ?_)|(refine cx ?_;refine sc (fun hc=>?_) (fun hc=>?_)<;>try exact hc.elim)|(refine lx ?_;refine sp (fun hc=>?_) (fun hc=>?_)<;>try exact hc.elim)|refine sx ?_ ?_|refine sy ?_ ?_|fail
  · refine ⟨.inr rfl, ?_⟩; simp [Hands, Tryz.results266, sub, szL]; omega
  · refine awp_loop' (ι := { k : Nat // k ≤ l.length ∧ l.length + sumN szFile (l.take k) ≤ n }) (fun t o i => ⟨upds t [(1, .int .i64 (n - (l.length + sumN szFile (l.take i.1) : Nat))), (5, .int .i64 i.1)], []⟩)
      (fun i => l.length - i.1) ⟨0, by simp, by simp [sumN]; omega⟩ (weak_o (by simp) (by simp [sumN])) ?_
    rintro ⟨k, hk, hs⟩ K1 hK1
    simp only [upds, List.set_cons_succ, List.set_cons_zero] at hK1 ⊢
    have hk1 : IntKind.i64.wrap ((k : Int) + 1) = ((k + 1 : Nat) : Int) := by rw [wrap64] <;> omega
    by_cases hlt : k < l.length
    · have hg := List.getElem?_eq_getElem hlt
      have hts := sumN_take_succ szFile l k hlt
      have htl := sumN_take_le szFile l (k + 1)
      have hwg := hw _ (List.getElem_mem hlt)
      have W := And.intro hk1 hg
      repeat' first|refine st ?_|(refine nx ?_;first|refine so ?_|refine sk (hc:=szFile_ok _ _ (by omega) (by omega) hwg) (h:=?_))|(refine cx ?_;refine sc (fun hc=>?_) (fun hc=>?_)<;>try exact hc.elim)|(refine lx ?_;refine sp (fun hc=>?_) (fun hc=>?_)<;>try exact hc.elim)|refine sx ?_ ?_|refine sy ?_ ?_|fail
      · refine ⟨.inr rfl, ?_⟩
        simp [Hands, Tryz.results266, szL]
        (repeat clear hK K); simp only [sub] at *; grind
      · refine hK1 _ ⟨k + 1, by omega, by (repeat clear hK K); simp only [sub] at *; grind⟩ (weak_o (by simp) ?_) (by simp only; omega)
        simp
        (repeat clear hK K); simp only [sub] at *; grind
    · have W := hk1
      repeat' first|refine st ?_|(refine nx ?_;refine so ?_)|(refine cx ?_;refine sc (fun hc=>?_) (fun hc=>?_)<;>try exact hc.elim)|(refine lx ?_;refine sp (fun hc=>?_) (fun hc=>?_)<;>try exact hc.elim)|refine sx ?_ ?_|refine sy ?_ ?_|fail
      all_goals (try (refine ⟨.inr rfl, ?_⟩; simp [Hands, Tryz.results266, szL]))
      have : k = l.length := by omega
      subst this
      rw [List.take_length] at *
      rw [sub_pos (by omega)]
      omega

theorem eqFileS_ok [Tabs Tryz.prog] (a b : List DFile) (hs : szL szFile a ≤ 1099511627776) : Ok Tryz.prog 282 [.sl .view 7 (a.map eFile), .sl .view 7 (b.map eFile)] (.bool (decide (a = b))) := by
  have hl : a.length ≤ 1099511627776 := by (try simp only [szL] at hs); omega
  refine ent Tryz.mix Tryz.func282 Tryz.ntmps282 ?_
  have W := trivial
  repeat' first|refine st ?_|(refine nx ?_;refine so ?_)|(refine cx ?_;refine sc (fun hc=>?_) (fun hc=>?_)<;>try exact hc.elim)|(refine lx ?_;refine sp (fun hc=>?_) (fun hc=>?_)<;>try exact hc.elim)|refine sx ?_ ?_|refine sy ?_ ?_|fail
  · all_goals (try (refine ⟨.inr rfl, ?_⟩; simp [Hands, Tryz.results282]))
    intro h; subst h; exact absurd rfl hc
  · have hlen : a.length = b.length := by omega
    refine awp_loop' (ι := { k : Nat // k ≤ a.length ∧ a.take k = b.take k }) (fun t o i => ⟨upds t [(5, .int .i64 i.1)], []⟩)
      (fun i => a.length - i.1) ⟨0, by simp⟩ (weak_o (by simp) (by simp)) ?_
    rintro ⟨k, hk, hpre⟩ K1 hK1
    simp only [upds, List.set_cons_succ, List.set_cons_zero] at hK1 ⊢
    have hk1 : IntKind.i64.wrap ((k : Int) + 1) = ((k + 1 : Nat) : Int) := by rw [wrap64] <;> omega
    by_cases hlt : k < a.length
    · have hg := List.getElem?_eq_getElem hlt
      have hltb : k < b.length := by omega
      have hgb := List.getElem?_eq_getElem hltb
      have W := And.intro hk1 (And.intro hg (And.intro hlt (And.intro hgb hltb)))
      repeat' first|refine st ?_|(refine nx ?_;first|refine so ?_|refine sk (hc:=eqFile_ok a[k] b[k] (by have := sumN_get_le szFile a k hlt; (try simp only [szL] at hs); omega)) (h:=?_))|(refine cx ?_;refine sc (fun hc=>?_) (fun hc=>?_)<;>try exact hc.elim)|(refine lx ?_;refine sp (fun hc=>?_) (fun hc=>?_)<;>try exact hc.elim)|refine sx ?_ ?_|refine sy ?_ ?_|fail
      · all_goals (try (refine ⟨.inr rfl, ?_⟩; simp [Hands, Tryz.results282]))
        intro h; subst h; exact hc rfl
      · have hts : a.take (k + 1) = b.take (k + 1) := by
          rw [List.take_succ_eq_append_getElem hlt, List.take_succ_eq_append_getElem hltb, hpre, hc]
        refine hK1 _ ⟨k + 1, by omega, hts⟩ (weak_o (by simp) (by simp)) (by simp only; omega)
    · have hka : a.length ≤ k := by omega
      rw [List.take_of_length_le hka, List.take_of_length_le (by omega)] at hpre
      subst hpre
      have W := hk1
      repeat' first|refine st ?_|(refine nx ?_;refine so ?_)|(refine cx ?_;refine sc (fun hc=>?_) (fun hc=>?_)<;>try exact hc.elim)|(refine lx ?_;refine sp (fun hc=>?_) (fun hc=>?_)<;>try exact hc.elim)|refine sx ?_ ?_|refine sy ?_ ?_|fail
      all_goals (try (refine ⟨.inr rfl, ?_⟩; simp [Hands, Tryz.results282]))

theorem toServer_ok [Tabs Tryz.prog] (a : DServer) (hs : szServer a ≤ 1048576) : Ok Tryz.prog 205 [.agg (eServer .view a)] (.agg (eServer .own a)) := by
  simp only [szServer] at hs
  refine ent Tryz.mix Tryz.func205 Tryz.ntmps205 ?_
  have W := trivial
  repeat' first|refine st ?_|(refine nx ?_;first|refine so ?_|refine sk (hc:=toFileS_ok a.files (by omega)) (h:=?_))|(refine cx ?_;refine sc (fun hc=>?_) (fun hc=>?_)<;>try exact hc.elim)|(refine lx ?_;refine sp (fun hc=>?_) (fun hc=>?_)<;>try exact hc.elim)|refine sx ?_ ?_|refine sy ?_ ?_|fail
  all_goals (try (refine ⟨.inr rfl, ?_⟩; simp [Hands, Tryz.results205]))

theorem szServer_ok [Tabs Tryz.prog] (a : DServer) (n : Int) (h0 : 0 ≤ n) (h1 : n ≤ 1048576) (hw : wfServer a) : Ok Tryz.prog 197 [.agg (eServer .view a), .int .i64 n] (.int .i64 (sub n (szServer a))) := by
  simp only [wfServer] at hw
  obtain ⟨whost, wfiles⟩ := hw
  refine ent Tryz.mix Tryz.func197 Tryz.ntmps197 ?_
  have W := trivial
  repeat' first|refine st ?_|(refine nx ?_;first|refine so ?_|refine sk (hc:=szFileS_ok a.files _ (by omega) (by repeat' (first | omega | apply purse_le | apply purse_len)) wfiles) (h:=?_))|(refine cx ?_;refine sc (fun hc=>?_) (fun hc=>?_)<;>try exact hc.elim)|(refine lx ?_;refine sp (fun hc=>?_) (fun hc=>?_)<;>try exact hc.elim)|refine sx ?_ ?_|refine sy ?_ ?_|fail
  all_goals (try (refine ⟨.inr rfl, ?_⟩; simp [Hands, Tryz.results197, szServer]))
  all_goals (
    (try generalize e0 : sub (n - (a.host.length : Int)) (szL szFile a.files) = m0 at *)
    (try (first | have f0 := purse_ok e0 (by omega) | have f0 := purse_bad e0 (by omega) (by omega)))
    repeat (simp (disch := omega) only [wrap64] at *)
    (try simp only [sub]); (try split); all_goals omega)

theorem eqServer_ok [Tabs Tryz.prog] (a b : DServer) (hs : szServer a ≤ 1099511627776) : Ok Tryz.prog 213 [.agg (eServer .view a), .agg (eServer .view b)] (.bool (decide (a = b))) := by
  simp only [szServer] at hs
  refine ent Tryz.mix Tryz.func213 Tryz.ntmps213 ?_
  have W := trivial
  repeat' first|refine st ?_|(refine nx ?_;first|refine so ?_|refine sk (hc:=eqFileS_ok a.files b.files (by omega)) (h:=?_))|(refine cx ?_;refine sc (fun hc=>?_) (fun hc=>?_)<;>try exact hc.elim)|(refine lx ?_;refine sp (fun hc=>?_) (fun hc=>?_)<;>try exact hc.elim)|refine sx ?_ ?_|refine sy ?_ ?_|fail
  all_goals (try (refine ⟨.inr rfl, ?_⟩; simp [Hands, Tryz.results213]))
  all_goals ((repeat clear hK K); cases a; cases b; simp_all)

theorem toServerS_ok [Tabs Tryz.prog] (l : List DServer) (hs : szL szServer l ≤ 1048576) : Ok Tryz.prog 120 [.sl .view 2 (l.map (eServer .view))] (.sl .own 2 (l.map (eServer .own))) := by
  have hl : l.length ≤ 1048576 := by (try simp only [szL] at hs); omega
  have hb : (40 : Int) * (l.length : Int) ≤ 281474976710656 := by omega
  have hb2 : (l.length : Int) ≤ 9223372036854775807 := by omega
  generalize hz : ([.str [], .sl .own 7 []] : List AV) = z
  have hz0 := fillL_zero z (l.map (eServer .own))
  rw [List.length_map] at hz0
  refine ent Tryz.mix Tryz.func120 Tryz.ntmps120 ?_
  have W := And.intro hb hb2
  repeat' first|refine st ?_|(refine nx ?_;refine so ?_)|(refine cx ?_;refine sc (fun hc=>?_) (fun hc=>?_)<;>try exact hc.elim)|(refine lx ?_;refine sp (fun hc=>?_) (fun hc=>?_)<;>try exact hc.elim)|refine sx ?_ ?_|refine sy ?_ ?_|fail
  refine awp_loop' (ι := { k : Nat // k ≤ l.length }) (fun t o i => ⟨upds t [(4, .int .i64 i.1)], [⟨true, false, 2, 1, fillL z (l.map (eServer .own)) i.1⟩]⟩)
    (fun i => l.length - i.1) ⟨0, by simp⟩ (weak_o (by simp [hz, hz0]) (by simp)) ?_
  rintro ⟨k, hk⟩ K1 hK1
  simp only [upds, List.set_cons_succ, List.set_cons_zero] at hK1 ⊢
  have hk1 : IntKind.i64.wrap ((k : Int) + 1) = ((k + 1 : Nat) : Int) := by rw [wrap64] <;> omega
  by_cases hlt : k < l.length
  · have hg := List.getElem?_eq_getElem hlt
    have hfg := fillL_get z (l.map (eServer .own)) k (by simpa using hlt)
    have hfs := fillL_set z (l.map (eServer .own)) k (by simpa using hlt)
    rw [List.getElem_map] at hfs
    simp only [eServer] at hfs
    have hzl : z.length = 2 := by rw [← hz]; rfl
    have hzd : z.drop 2 = [] := by rw [← hz]; rfl
    have W := And.intro hk1 (And.intro hg (And.intro hfg (And.intro hzl (And.intro hzd hfs))))
    have V := And.intro hk1 (And.intro hg hlt)
    repeat' first|refine st ?_|(refine nx ?_;first|refine so ?_|refine sk (hc:=toServer_ok l[k] (by have := sumN_get_le szServer l k hlt; (try simp only [szL] at hs); omega)) (h:=?_))|(refine cx ?_;refine sc (fun hc=>?_) (fun hc=>?_)<;>try exact hc.elim)|(refine lx ?_;refine sp (fun hc=>?_) (fun hc=>?_)<;>try exact hc.elim)|refine sx ?_ ?_|refine sy ?_ ?_|fail
    refine hK1 _ ⟨k + 1, by omega⟩ (weak_take 1 rfl ?_ (by simp) (by simp)) (by simp only; omega)
    simp
  · have W := hk1
    repeat' first|refine st ?_|(refine nx ?_;refine so ?_)|(refine cx ?_;refine sc (fun hc=>?_) (fun hc=>?_)<;>try exact hc.elim)|(refine lx ?_;refine sp (fun hc=>?_) (fun hc=>?_)<;>try exact hc.elim)|refine sx ?_ ?_|refine sy ?_ ?_|fail
    have hfa := fillL_all z (l.map (eServer .own)) k (by simpa using hlt)
    all_goals (try (refine ⟨.inr rfl, ?_⟩; simp [Hands, Tryz.results120, hfa]))

theorem szServerS_ok [Tabs Tryz.prog] (l : List DServer) (n : Int) (h0 : 0 ≤ n) (h1 : n ≤ 1048576) (hw : l.length ≤ 9223372036854775807 ∧ ∀ y ∈ l, wfServer y) : Ok Tryz.prog 116 [.sl .view 2 (l.map (eServer .view)), .int .i64 n] (.int .i64 (sub n (szL szServer l))) := by
  obtain ⟨hl, hw⟩ := hw
  refine ent Tryz.mix Tryz.func116 Tryz.ntmps116 ?_
  have W := trivial
  repeat' first|refine st ?_|(refine nx ?_;refine so ?_)|(refine cx ?_;refine sc (fun hc=>?_) (fun hc=>?_)<;>try exact hc.elim)|(refine lx ?_;refine sp (fun hc=>?_) (fun hc=>?_)<;>try exact hc.elim)|refine sx ?_ ?_|refine sy ?_ ?_|fail
  · refine ⟨.inr rfl, ?_⟩; simp [Hands, Tryz.results116, sub, szL]; omega
  · refine awp_loop' (ι := { k : Nat // k ≤ l.length ∧ l.length + sumN szServer (l.take k) ≤ n }) (fun t o i => ⟨upds t [(1, .int .i64 (n - (l.length + sumN szServer (l.take i.1) : Nat))), (5, .int .i64 i.1)], []⟩)
      (fun i => l.length - i.1) ⟨0, by simp, by simp [sumN]; omega⟩ (weak_o (by simp) (by simp [sumN])) ?_
    rintro ⟨k, hk, hs⟩ K1 hK1
    simp only [upds, List.set_cons_succ, List.set_cons_zero] at hK1 ⊢
    have hk1 : IntKind.i64.wrap ((k : Int) + 1) = ((k + 1 : Nat) : Int) := by rw [wrap64] <;> omega
    by_cases hlt : k < l.length
    · have hg := List.getElem?_eq_getElem hlt
      have hts := sumN_take_succ szServer l k hlt
      have htl := sumN_take_le szServer l (k + 1)
      have hwg := hw _ (List.getElem_mem hlt)
      have W := And.intro hk1 hg
      repeat' first|refine st ?_|(refine nx ?_;first|refine so ?_|refine sk (hc:=szServer_ok _ _ (by omega) (by omega) hwg) (h:=?_))|(refine cx ?_;refine sc (fun hc=>?_) (fun hc=>?_)<;>try exact hc.elim)|(refine lx ?_;refine sp (fun hc=>?_) (fun hc=>?_)<;>try exact hc.elim)|refine sx ?_ ?_|refine sy ?_ ?_|fail
      · refine ⟨.inr rfl, ?_⟩
        simp [Hands, Tryz.results116, szL]
        (repeat clear hK K); simp only [sub] at *; grind
      · refine hK1 _ ⟨k + 1, by omega, by (repeat clear hK K); simp only [sub] at *; grind⟩ (weak_o (by simp) ?_) (by simp only; omega)
        simp
        (repeat clear hK K); simp only [sub] at *; grind
    · have W := hk1
      repeat' first|refine st ?_|(refine nx ?_;refine so ?_)|(refine cx ?_;refine sc (fun hc=>?_) (fun hc=>?_)<;>try exact hc.elim)|(refine lx ?_;refine sp (fun hc=>?_) (fun hc=>?_)<;>try exact hc.elim)|refine sx ?_ ?_|refine sy ?_ ?_|fail
      all_goals (try (refine ⟨.inr rfl, ?_⟩; simp [Hands, Tryz.results116, szL]))
      have : k = l.length := by omega
      subst this
      rw [List.take_length] at *
      rw [sub_pos (by omega)]
      omega

theorem eqServerS_ok [Tabs Tryz.prog] (a b : List DServer) (hs : szL szServer a ≤ 1099511627776) : Ok Tryz.prog 124 [.sl .view 2 (a.map (eServer .view)), .sl .view 2 (b.map (eServer .view))] (.bool (decide (a = b))) := by
  have hl : a.length ≤ 1099511627776 := by (try simp only [szL] at hs); omega
  refine ent Tryz.mix Tryz.func124 Tryz.ntmps124 ?_
  have W := trivial
  repeat' first|refine st ?_|(refine nx ?_;refine so ?_)|(refine cx ?_;refine sc (fun hc=>?_) (fun hc=>?_)<;>try exact hc.elim)|(refine lx ?_;refine sp (fun hc=>?_) (fun hc=>?_)<;>try exact hc.elim)|refine sx ?_ ?_|refine sy ?_ ?_|fail
  · all_goals (try (refine ⟨.inr rfl, ?_⟩; simp [Hands, Tryz.results124]))
    intro h; subst h; exact absurd rfl hc
  · have hlen : a.length = b.length := by omega
    refine awp_loop' (ι := { k : Nat // k ≤ a.length ∧ a.take k = b.take k }) (fun t o i => ⟨upds t [(5, .int .i64 i.1)], []⟩)
      (fun i => a.length - i.1) ⟨0, by simp⟩ (weak_o (by simp) (by simp)) ?_
    rintro ⟨k, hk, hpre⟩ K1 hK1
    simp only [upds, List.set_cons_succ, List.set_cons_zero] at hK1 ⊢
    have hk1 : IntKind.i64.wrap ((k : Int) + 1) = ((k + 1 : Nat) : Int) := by rw [wrap64] <;> omega
    by_cases hlt : k < a.length
    · have hg := List.getElem?_eq_getElem hlt
      have hltb : k < b.length := by omega
      have hgb := List.getElem?_eq_getElem hltb
      have W := And.intro hk1 (And.intro hg (And.intro hlt (And.intro hgb hltb)))
      repeat' first|refine st ?_|(refine nx ?_;first|refine so ?_|refine sk (hc:=eqServer_ok a[k] b[k] (by have := sumN_get_le szServer a k hlt; (try simp only [szL] at hs); omega)) (h:=?_))|(refine cx ?_;refine sc (fun hc=>?_) (fun hc=>?_)<;>try exact hc.elim)|(refine lx ?_;refine sp (fun hc=>?_) (fun hc=>?_)<;>try exact hc.elim)|refine sx ?_ ?_|refine sy ?_ ?_|fail
      · all_goals (try (refine ⟨.inr rfl, ?_⟩; simp [Hands, Tryz.results124]))
        intro h; subst h; exact hc rfl
      · have hts : a.take (k + 1) = b.take (k + 1) := by
          rw [List.take_succ_eq_append_getElem hlt, List.take_succ_eq_append_getElem hltb, hpre, hc]
        refine hK1 _ ⟨k + 1, by omega, hts⟩ (weak_o (by simp) (by simp)) (by simp only; omega)
    · have hka : a.length ≤ k := by omega
      rw [List.take_of_length_le hka, List.take_of_length_le (by omega)] at hpre
      subst hpre
      have W := hk1
      repeat' first|refine st ?_|(refine nx ?_;refine so ?_)|(refine cx ?_;refine sc (fun hc=>?_) (fun hc=>?_)<;>try exact hc.elim)|(refine lx ?_;refine sp (fun hc=>?_) (fun hc=>?_)<;>try exact hc.elim)|refine sx ?_ ?_|refine sy ?_ ?_|fail
      all_goals (try (refine ⟨.inr rfl, ?_⟩; simp [Hands, Tryz.results124]))

end Go.Proofs.YtikabgfhklfjkaaGreatDoor
