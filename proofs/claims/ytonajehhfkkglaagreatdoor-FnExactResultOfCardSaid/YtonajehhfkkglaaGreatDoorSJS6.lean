/-
  Proved here: steps towards the statement of this claim, text SJS6.
  No condition beyond what each statement spells out.
-/
import Derived.Test.YtonajehhfkkglaaGreatDoorSY2
import Derived.Test.YtonajehhfkkglaaGreatDoorF4
import Derived.Test.YtonajehhfkkglaaGreatDoorSU5
set_option linter.all false
namespace Go.Proofs.YtonajehhfkkglaaGreatDoor
open Go.Aw
theorem sumN_top {α : Type} (f : α → Nat) (c : Nat) : ∀ l : List α, (∀ x ∈ l, f x ≤ c) → sumN f l ≤ c * l.length
  | [], _ => by simp [sumN]
  | x :: xs, h => by
    have h1 := h x (by simp)
    have h2 := sumN_top f c xs (fun y hy => h y (by simp [hy]))
    simp only [sumN, List.length_cons, Nat.mul_add, Nat.mul_one]
    omega
theorem rule_sz {p : Str} {r : DRule} (h : ruleOf p = some r) : szRule r ≤ 8 := by
  unfold ruleOf at h
  split at h
  · split at h
    · rename_i hc
      have hn := hc.1
      simp only [Option.some.injEq] at h
      subst h
      simp only [isName, Bool.and_eq_true, decide_eq_true_eq] at hn
      simp only [szRule]
      omega
    · cases h
  · cases h
theorem sheet_small {p : DPage} {x : DSheet} (hx : x ∈ sheetsOf p) : x.rules.length ≤ 8 ∧ ∀ r ∈ x.rules, r.name.length ≤ 8 := by
  unfold sheetsOf sheetsTo at hx
  obtain ⟨y, _, rfl⟩ := List.mem_map.1 hx
  refine ⟨rules_le (segs 59 y.body), ?_⟩
  intro r hr
  have h1 := List.mem_of_mem_take hr
  obtain ⟨q, _, hq⟩ := List.mem_filterMap.1 h1
  exact rule_sz hq
theorem names_count : ∀ l : List DSheet, (∀ x ∈ l, x.rules.length ≤ 8) → (namesOf l).length ≤ 8 * l.length
  | [], _ => by simp [namesOf]
  | x :: xs, h => by
    have h1 := h x (by simp)
    have h2 := names_count xs (fun y hy => h y (by simp [hy]))
    simp only [namesOf, List.flatMap_cons, List.length_append, List.length_map, List.length_cons] at h2 ⊢
    omega
theorem insName_mem {acc : List Str} {n x : Str} (h : x ∈ insName acc n) : x ∈ acc ∨ x = n := by
  unfold insName at h
  split at h
  · exact .inl h
  · simp only [List.mem_append, List.mem_cons] at h
    rcases h with h | h | h
    · exact .inl (List.mem_of_mem_take h)
    · exact .inr h
    · exact .inl (List.mem_of_mem_drop h)
theorem insName_len (acc : List Str) (n : Str) : (insName acc n).length ≤ acc.length + 1 := by
  unfold insName
  split
  · omega
  · simp only [List.length_append, List.length_cons, List.length_take, List.length_drop]; omega
theorem insAll_facts : ∀ (ns acc : List Str), (∀ x ∈ acc, x.length ≤ 8) → (∀ x ∈ ns, x.length ≤ 8) → (ns.foldl insName acc).length ≤ acc.length + ns.length ∧ ∀ x ∈ ns.foldl insName acc, x.length ≤ 8
  | [], acc, ha, _ => by simpa using ha
  | n :: ns, acc, ha, hn => by
    obtain ⟨h1, h2⟩ := insAll_facts ns (insName acc n) (by
      intro x hx
      rcases insName_mem hx with h | h
      · exact ha x h
      · subst h; exact hn _ (by simp)) (fun x hx => hn x (by simp [hx]))
    refine ⟨?_, h2⟩
    have := insName_len acc n
    simp only [List.foldl_cons, List.length_cons]
    omega
theorem join_facts (p : DPage) : (∀ x ∈ sheetsOf p, x.rules.length ≤ 8) ∧ (sheetsOf p).length ≤ p.slots.length ∧ (namesOf (sheetsOf p)).length ≤ 8 * p.slots.length ∧ (joinSheet (sheetsOf p)).rules.length ≤ 8 * p.slots.length ∧ szSheet (joinSheet (sheetsOf p)) ≤ 72 * p.slots.length := by
  have h1 : ∀ x ∈ sheetsOf p, x.rules.length ≤ 8 := fun x hx => (sheet_small hx).1
  have h2 : (sheetsOf p).length ≤ p.slots.length := sheetsTo_len _
  have h3 := names_count _ h1
  have h4 : ∀ x ∈ namesOf (sheetsOf p), x.length ≤ 8 := by
    intro x hx
    unfold namesOf at hx
    obtain ⟨s, hs, hx⟩ := List.mem_flatMap.1 hx
    obtain ⟨r, hr, rfl⟩ := List.mem_map.1 hx
    exact (sheet_small hs).2 r hr
  obtain ⟨h5, h6⟩ := insAll_facts (namesOf (sheetsOf p)) [] (by simp) h4
  have h7 : (joinSheet (sheetsOf p)).rules.length ≤ 8 * p.slots.length := by
    simp only [joinSheet, joinRules, List.length_map, List.length_nil] at h5 ⊢
    omega
  refine ⟨h1, h2, by omega, h7, ?_⟩
  have h8 := sumN_top szRule 8 (joinSheet (sheetsOf p)).rules (by
    intro r hr
    simp only [joinSheet, joinRules] at hr
    obtain ⟨n, hn, rfl⟩ := List.mem_map.1 hr
    exact h6 n hn)
  simp only [szSheet, szL]
  omega
theorem sum40 {α : Type} {f : α → Str} (h : ∀ x, (f x).length ≤ 40) : ∀ l : List α, sumN szStr (mapL f l) ≤ 40 * l.length
  | [] => by simp [mapL, sumN]
  | x :: l => by
    have h1 := h x
    have ih := sum40 h l
    simp only [mapL, List.map_cons, sumN, szStr, List.length_cons] at ih ⊢
    omega
theorem verdicts_sz (p : DPage) : sumN szStr (verdictsOf p) ≤ 40 * (p.slots.length + p.mods.length) ∧ (verdictsOf p).length = p.slots.length + p.mods.length := by
  have h1 := sum40 (f := vS) (fun s => verdictText_len _ _ _ _) p.slots
  have h2 := sum40 (f := vM) (fun s => verdictText_len _ _ _ _) p.mods
  have h3 : ∀ a b : List Str, sumN szStr (a ++ b) = sumN szStr a + sumN szStr b := by
    intro a b
    induction a with
    | nil => simp [sumN]
    | cons x xs ih => simp only [List.cons_append, sumN, ih]; omega
  refine ⟨?_, by simp [verdictsOf, mapL_length]⟩
  simp only [verdictsOf, h3]
  omega
theorem result_sz (p : DPage) (hs : szPage p ≤ 1048576) : szResult (resultOf p) ≤ 200000000 ∧ (resultOf p).builder = p.builder ∧ (resultOf p).log = p.log ∧ (resultOf p).verdicts.length ≤ 1048576 ∧ (resultOf p).sheet.rules.length ≤ 8388608 := by
  obtain ⟨h1, h2, h3, h4, h5⟩ := join_facts p
  obtain ⟨v1, v2⟩ := verdicts_sz p
  have hsl : p.slots.length + p.mods.length ≤ 1048576 := by simp only [szPage, szL] at hs; omega
  have hb : szBuilder p.builder + szL szStr p.log ≤ 1048576 := by simp only [szPage] at hs; omega
  refine ⟨?_, rfl, rfl, ?_, ?_⟩
  · simp only [resultOf, szResult] at h5 ⊢
    simp only [szL] at hb ⊢
    omega
  · simp only [resultOf]; omega
  · simp only [resultOf]; omega
end Go.Proofs.YtonajehhfkkglaaGreatDoor

set_option maxRecDepth 4000
set_option maxHeartbeats 4000000
namespace Go.Proofs.YtonajehhfkkglaaGreatDoor
open Go.Aw
theorem sumN_join {α : Type} (f : α → Nat) : ∀ a b : List α, sumN f (a ++ b) = sumN f a + sumN f b
  | [], b => by simp [sumN]
  | x :: xs, b => by simp only [List.cons_append, sumN, sumN_join f xs b]; omega
theorem cPage_lin (p : DPage) : cPage p ≤ 20 * szPage p + 20 := by
  have h1 := sumN_le_c 3 cToken_le p.queue
  have h2 := sumN_le_c 3 cNode_le p.builder.nodes
  simp only [szPage, szPolicy, szBuilder, szL, cPage, cPolicy, cBuilder, sumN_const]
  omega
theorem page_facts (g : DPage) (hg : szPage g ≤ 1099511627776) : (cPage g ≤ 21990232555540 ∧ g.queue.length ≤ 4611686018427387904) ∧ (∀ x ∈ g.queue, x.attrs.length ≤ 4611686018427387904) ∧ g.builder.nodes.length ≤ 4611686018427387904 ∧ (∀ x ∈ g.builder.nodes, x.attrs.length ≤ 4611686018427387904) := by
  have h := cPage_lin g
  refine ⟨⟨by omega, ?_⟩, ?_, ?_, ?_⟩
  · simp only [szPage, szL] at hg; omega
  · exact attrs_Token (by simp only [szPage, szL] at hg; omega)
  · simp only [szPage, szBuilder, szL] at hg; omega
  · exact attrs_Node (by simp only [szPage, szBuilder, szL] at hg; omega)
end Go.Proofs.YtonajehhfkkglaaGreatDoor

set_option maxRecDepth 4000
set_option maxHeartbeats 4000000
namespace Go.Proofs.YtonajehhfkkglaaGreatDoor
open Go.Aw
theorem toPage_ok [Tabs Tryz.prog] (a : DPage) (hs : szPage a ≤ 1048576) : Ok Tryz.prog 6 [.agg (ePage .view a)] (.agg (ePage .own a)) := by
  simp only [szPage] at hs
  refine ent Tryz.mix Tryz.func6 Tryz.ntmps6 ?_
  have W := trivial
  repeat' first|refine st ?_|(refine nx ?_;first|refine so ?_|refine sk (hc:=toAddr_ok a.addr (by omega)) (h:=?_)|refine sk (hc:=toPolicy_ok a.policy (by omega)) (h:=?_)|refine sk (hc:=toTokenizer_ok a.tok (by omega)) (h:=?_)|refine sk (hc:=toTokenS_ok a.queue (by omega)) (h:=?_)|refine sk (hc:=toBuilder_ok a.builder (by omega)) (h:=?_)|refine sk (hc:=toSlotS_ok a.slots (by omega)) (h:=?_)|refine sk (hc:=toModuleS_ok a.mods (by omega)) (h:=?_)|refine sk (hc:=toAddrS_ok a.entries (by omega)) (h:=?_)|refine sk (hc:=toAddrS_ok a.ran (by omega)) (h:=?_)|refine sk (hc:=toStringS_ok a.log (by omega)) (h:=?_))|(refine cx ?_;refine sc (fun hc=>?_) (fun hc=>?_)<;>try exact hc.elim)|(refine lx ?_;refine sp (fun hc=>?_) (fun hc=>?_)<;>try exact hc.elim)|refine sx ?_ ?_|refine sy ?_ ?_|fail
  all_goals (try (refine ⟨.inr rfl, ?_⟩; simp [Hands, Tryz.results6]))
end Go.Proofs.YtonajehhfkkglaaGreatDoor
