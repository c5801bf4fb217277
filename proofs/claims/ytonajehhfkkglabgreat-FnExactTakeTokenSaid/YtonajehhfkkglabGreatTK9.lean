/-
  Proved here: steps towards the statement of this claim, text TK9.
  No condition beyond what each statement spells out.
-/
import Derived.Test.YtonajehhfkkglabGreatSTK7
import Derived.Test.YtonajehhfkkglabGreatAwShare
import Derived.Test.YtonajehhfkkglabGreatSY3
set_option linter.all false
set_option maxRecDepth 4000
set_option maxHeartbeats 4000000
namespace Go.Proofs.YtonajehhfkkglabGreat
open Go.Aw
theorem implTake_stop [Tabs Tryz.prog] (p : DPage) (hs : szPage p ≤ 67108864) (h : p.queue = [] ∨ p.block ≠ 0 ∨ p.inline ≠ 0) : Ok Tryz.prog 7 [.agg (ePage .view p)] (.tup [.agg (ePage .own p), .bool false]) := by
  have c1 := copyPage_ok p (by omega)
  simp only [ePage] at c1
  by_cases hl0 : p.queue.length = 0
  · refine ent Tryz.mix Tryz.func7 Tryz.ntmps7 ?_
    have W := hl0
    repeat' first|refine st ?_|(refine nx ?_;first|refine se ?_|refine so ?_)|(refine cx ?_;refine sc (fun hc=>?_) (fun hc=>?_)<;>try exact hc.elim)|(refine lx ?_;refine sp (fun hc=>?_) (fun hc=>?_)<;>try exact hc.elim)|refine sx ?_ ?_|refine sy ?_ ?_|fail
    all_goals (try (refine ⟨.inr rfl, ?_⟩; simp [Hands, Tryz.results7]))
  · have hq : p.queue ≠ [] := fun h => hl0 (by rw [h]; rfl)
    by_cases hb : p.block = 0
    · have hi : ¬ p.inline = 0 := by
        rcases h with h | h | h
        · exact absurd h hq
        · exact absurd hb h
        · exact h
      rw [hb] at c1
      refine ent Tryz.mix Tryz.func7 Tryz.ntmps7 ?_
      have W := And.intro hl0 (And.intro hb hi)
      repeat' first|refine st ?_|(refine nx ?_;first|refine se ?_|refine so ?_)|(refine cx ?_;refine sc (fun hc=>?_) (fun hc=>?_)<;>try exact hc.elim)|(refine lx ?_;refine sp (fun hc=>?_) (fun hc=>?_)<;>try exact hc.elim)|refine sx ?_ ?_|refine sy ?_ ?_|fail
      all_goals (try (refine ⟨.inr rfl, ?_⟩; simp [Hands, Tryz.results7, hb]))
    · refine ent Tryz.mix Tryz.func7 Tryz.ntmps7 ?_
      have W := And.intro hl0 hb
      repeat' first|refine st ?_|(refine nx ?_;first|refine se ?_|refine so ?_)|(refine cx ?_;refine sc (fun hc=>?_) (fun hc=>?_)<;>try exact hc.elim)|(refine lx ?_;refine sp (fun hc=>?_) (fun hc=>?_)<;>try exact hc.elim)|refine sx ?_ ?_|refine sy ?_ ?_|fail
      all_goals (try (refine ⟨.inr rfl, ?_⟩; simp [Hands, Tryz.results7]))
theorem implTake_open [Tabs Tryz.prog] (p : DPage) (t : DToken) (q : List DToken) (hq : p.queue = t :: q) (hb : p.block = 0) (hi : p.inline = 0) (hs : szPage p ≤ 67108864) (hk : ¬ t.kind = 2) : Ok Tryz.prog 7 [.agg (ePage .view p)] (.tup [.agg (ePage .own (takeTok p t q)), .bool true]) := by
  have hq1 := taken_sz hq
  have hts : szToken t ≤ 67108864 := by
    have h1 := sumN_mem_le szToken (show t ∈ p.queue by rw [hq]; simp)
    simp only [szPage, szL] at hs; omega
  have hbs : szBuilder p.builder ≤ 67108864 := by simp only [szPage] at hs; omega
  have hbl : p.builder.nodes.length ≤ 67108864 ∧ p.builder.opens.length ≤ 67108864 := by simp only [szBuilder, szL] at hbs; omega
  have c1 := copyPage_ok p (by omega)
  have c2 := implAddToken_ok p.builder t (by omega) (by omega)
  have c3 := implAskFor_ok { p with queue := q, builder := (addToken p.builder t).1 } t (addToken p.builder t).2 (by omega) (by omega)
  unfold takeTok
  rw [scriptAt_no (fun h => hk h.1)]
  generalize addToken p.builder t = u at *
  obtain ⟨⟨n1, o1⟩, k1⟩ := u
  simp only at c2 c3 ⊢
  obtain ⟨ad, pol, tok, queue, ended, bld, slots, mods, entries, block, inline, deferred, entered, ran, log, loaded⟩ := p
  obtain ⟨tk, tn, ta, tx⟩ := t
  simp only at hq hb hi hbl hk c1 c2 c3 ⊢
  subst hq; subst hb; subst hi
  simp only [ePage, ePolicy, eBuilder, eTokenizer, eAddr] at c1
  simp only [eBuilder] at c2
  have hl1 : ¬ (q.length : Int) + 1 = 0 := by omega
  have htq : (q.map (eToken .own)).take q.length = q.map (eToken .own) := List.take_of_length_le (by simp)
  by_cases h1 : tk = 1
  · subst h1
    by_cases h0 : 0 ≤ k1
    · rw [if_pos ⟨rfl, h0⟩]
      generalize askTok _ _ k1 = g at *
      simp only [ePage, ePolicy, eBuilder, eTokenizer, eAddr, eToken] at c3
      refine entH Tryz.mix [4] Tryz.func7 Tryz.ntmps7 ?_
      have W := And.intro hl1 (And.intro htq (And.intro h0 hbl))
      repeat' first|refine st ?_|(refine nx ?_;first|refine se ?_|refine so ?_)|(refine cx ?_;refine sc (fun hc=>?_) (fun hc=>?_)<;>try exact hc.elim)|(refine lx ?_;refine sp (fun hc=>?_) (fun hc=>?_)<;>try exact hc.elim)|refine sx ?_ ?_|refine sy ?_ ?_|fail
      refine go_share 5 0 (by rfl) (by rfl) (by simp; rfl) ?_
      have W := And.intro hl1 (And.intro htq (And.intro h0 hbl))
      repeat' first|refine st ?_|(refine nx ?_;first|refine se ?_|refine so ?_|refine sg (hc:=c3) (h:=?_))|(refine cx ?_;refine sc (fun hc=>?_) (fun hc=>?_)<;>try exact hc.elim)|(refine lx ?_;refine sp (fun hc=>?_) (fun hc=>?_)<;>try exact hc.elim)|refine sx ?_ ?_|refine sy ?_ ?_|fail
      all_goals (try (refine ⟨.inr rfl, ?_⟩; simp [Hands, Tryz.results7]))
    · rw [if_neg (fun h => h0 h.2)]
      refine entH Tryz.mix [4] Tryz.func7 Tryz.ntmps7 ?_
      have W := And.intro hl1 (And.intro htq (And.intro h0 hbl))
      repeat' first|refine st ?_|(refine nx ?_;first|refine se ?_|refine so ?_)|(refine cx ?_;refine sc (fun hc=>?_) (fun hc=>?_)<;>try exact hc.elim)|(refine lx ?_;refine sp (fun hc=>?_) (fun hc=>?_)<;>try exact hc.elim)|refine sx ?_ ?_|refine sy ?_ ?_|fail
      refine go_share 5 0 (by rfl) (by rfl) (by simp; rfl) ?_
      have W := And.intro hl1 (And.intro htq (And.intro h0 hbl))
      repeat' first|refine st ?_|(refine nx ?_;first|refine se ?_|refine so ?_)|(refine cx ?_;refine sc (fun hc=>?_) (fun hc=>?_)<;>try exact hc.elim)|(refine lx ?_;refine sp (fun hc=>?_) (fun hc=>?_)<;>try exact hc.elim)|refine sx ?_ ?_|refine sy ?_ ?_|fail
      all_goals (try (refine ⟨.inr rfl, ?_⟩; simp [Hands, Tryz.results7]))
  · rw [if_neg (fun h => h1 h.1)]
    by_cases h0 : 0 ≤ k1
    · skip
      refine entH Tryz.mix [4] Tryz.func7 Tryz.ntmps7 ?_
      have W := And.intro hl1 (And.intro htq (And.intro h0 (And.intro hk (And.intro h1 hbl))))
      repeat' first|refine st ?_|(refine nx ?_;first|refine se ?_|refine so ?_)|(refine cx ?_;refine sc (fun hc=>?_) (fun hc=>?_)<;>try exact hc.elim)|(refine lx ?_;refine sp (fun hc=>?_) (fun hc=>?_)<;>try exact hc.elim)|refine sx ?_ ?_|refine sy ?_ ?_|fail
      refine go_share 5 0 (by rfl) (by rfl) (by simp; rfl) ?_
      have W := And.intro hl1 (And.intro htq (And.intro h0 (And.intro hk (And.intro h1 hbl))))
      repeat' first|refine st ?_|(refine nx ?_;first|refine se ?_|refine so ?_)|(refine cx ?_;refine sc (fun hc=>?_) (fun hc=>?_)<;>try exact hc.elim)|(refine lx ?_;refine sp (fun hc=>?_) (fun hc=>?_)<;>try exact hc.elim)|refine sx ?_ ?_|refine sy ?_ ?_|fail
      all_goals (try (refine ⟨.inr rfl, ?_⟩; simp [Hands, Tryz.results7]))
    · skip
      refine entH Tryz.mix [4] Tryz.func7 Tryz.ntmps7 ?_
      have W := And.intro hl1 (And.intro htq (And.intro h0 (And.intro hk (And.intro h1 hbl))))
      repeat' first|refine st ?_|(refine nx ?_;first|refine se ?_|refine so ?_)|(refine cx ?_;refine sc (fun hc=>?_) (fun hc=>?_)<;>try exact hc.elim)|(refine lx ?_;refine sp (fun hc=>?_) (fun hc=>?_)<;>try exact hc.elim)|refine sx ?_ ?_|refine sy ?_ ?_|fail
      refine go_share 5 0 (by rfl) (by rfl) (by simp; rfl) ?_
      have W := And.intro hl1 (And.intro htq (And.intro h0 (And.intro hk (And.intro h1 hbl))))
      repeat' first|refine st ?_|(refine nx ?_;first|refine se ?_|refine so ?_)|(refine cx ?_;refine sc (fun hc=>?_) (fun hc=>?_)<;>try exact hc.elim)|(refine lx ?_;refine sp (fun hc=>?_) (fun hc=>?_)<;>try exact hc.elim)|refine sx ?_ ?_|refine sy ?_ ?_|fail
      all_goals (try (refine ⟨.inr rfl, ?_⟩; simp [Hands, Tryz.results7]))
theorem implTake_close [Tabs Tryz.prog] (p : DPage) (t : DToken) (q : List DToken) (hq : p.queue = t :: q) (hb : p.block = 0) (hi : p.inline = 0) (hs : szPage p ≤ 67108864) (hk : t.kind = 2) (hn : ¬ t.name = sScript) : Ok Tryz.prog 7 [.agg (ePage .view p)] (.tup [.agg (ePage .own (takeTok p t q)), .bool true]) := by
  have hq1 := taken_sz hq
  have hts : szToken t ≤ 67108864 := by
    have h1 := sumN_mem_le szToken (show t ∈ p.queue by rw [hq]; simp)
    simp only [szPage, szL] at hs; omega
  have hbs : szBuilder p.builder ≤ 67108864 := by simp only [szPage] at hs; omega
  have hbl : p.builder.nodes.length ≤ 67108864 ∧ p.builder.opens.length ≤ 67108864 := by simp only [szBuilder, szL] at hbs; omega
  have c1 := copyPage_ok p (by omega)
  have c2 := implAddToken_ok p.builder t (by omega) (by omega)
  obtain ⟨hm, _⟩ := addToken_none (b := p.builder) hk
  unfold takeTok
  rw [scriptAt_no (fun h => hn h.2)]
  rw [hm] at c2 ⊢
  generalize (addToken p.builder t).1 = u at *
  obtain ⟨n1, o1⟩ := u
  simp only at c2 ⊢
  obtain ⟨ad, pol, tok, queue, ended, bld, slots, mods, entries, block, inline, deferred, entered, ran, log, loaded⟩ := p
  obtain ⟨tk, tn, ta, tx⟩ := t
  simp only at hq hb hi hbl hk hn c1 c2 ⊢
  subst hq; subst hb; subst hi
  subst hk
  have hnb : (tn == [115, 99, 114, 105, 112, 116]) = false := by simpa [sScript] using hn
  rw [if_neg (by rintro ⟨h, _⟩; cases h)]
  simp only [ePage, ePolicy, eBuilder, eTokenizer, eAddr] at c1
  simp only [eBuilder] at c2
  have hl1 : ¬ (q.length : Int) + 1 = 0 := by omega
  have htq : (q.map (eToken .own)).take q.length = q.map (eToken .own) := List.take_of_length_le (by simp)
  refine entH Tryz.mix [4] Tryz.func7 Tryz.ntmps7 ?_
  have W := And.intro hl1 (And.intro htq (And.intro hnb hbl))
  repeat' first|refine st ?_|(refine nx ?_;first|refine se ?_|refine so ?_)|(refine cx ?_;refine sc (fun hc=>?_) (fun hc=>?_)<;>try exact hc.elim)|(refine lx ?_;refine sp (fun hc=>?_) (fun hc=>?_)<;>try exact hc.elim)|refine sx ?_ ?_|refine sy ?_ ?_|fail
  refine go_share 5 0 (by rfl) (by rfl) (by simp; rfl) ?_
  have W := And.intro hl1 (And.intro htq (And.intro hnb hbl))
  repeat' first|refine st ?_|(refine nx ?_;first|refine se ?_|refine so ?_)|(refine cx ?_;refine sc (fun hc=>?_) (fun hc=>?_)<;>try exact hc.elim)|(refine lx ?_;refine sp (fun hc=>?_) (fun hc=>?_)<;>try exact hc.elim)|refine sx ?_ ?_|refine sy ?_ ?_|fail
  all_goals (try (refine ⟨.inr rfl, ?_⟩; simp [Hands, Tryz.results7]))
theorem implTake_bare [Tabs Tryz.prog] (p : DPage) (t : DToken) (q : List DToken) (hq : p.queue = t :: q) (hb : p.block = 0) (hi : p.inline = 0) (hs : szPage p ≤ 67108864) (hk : t.kind = 2) (hn : t.name = sScript) (ho : p.builder.opens = []) : Ok Tryz.prog 7 [.agg (ePage .view p)] (.tup [.agg (ePage .own (takeTok p t q)), .bool true]) := by
  have hq1 := taken_sz hq
  have hts : szToken t ≤ 67108864 := by
    have h1 := sumN_mem_le szToken (show t ∈ p.queue by rw [hq]; simp)
    simp only [szPage, szL] at hs; omega
  have hbs : szBuilder p.builder ≤ 67108864 := by simp only [szPage] at hs; omega
  have hbl : p.builder.nodes.length ≤ 67108864 ∧ p.builder.opens.length ≤ 67108864 := by simp only [szBuilder, szL] at hbs; omega
  have c1 := copyPage_ok p (by omega)
  have c2 := implAddToken_ok p.builder t (by omega) (by omega)
  obtain ⟨hm, _⟩ := addToken_none (b := p.builder) hk
  unfold takeTok
  rw [scriptAt_nil ho]
  have hl0 : p.builder.opens.length = 0 := by rw [ho]; rfl
  rw [hm] at c2 ⊢
  generalize (addToken p.builder t).1 = u at *
  obtain ⟨n1, o1⟩ := u
  simp only at c2 ⊢
  obtain ⟨ad, pol, tok, queue, ended, bld, slots, mods, entries, block, inline, deferred, entered, ran, log, loaded⟩ := p
  obtain ⟨tk, tn, ta, tx⟩ := t
  simp only at hq hb hi hbl hk hn c1 c2 hl0 ⊢
  subst hq; subst hb; subst hi
  clear ho
  subst hk
  simp only [sScript] at hn
  subst hn
  rw [if_neg (by rintro ⟨h, _⟩; cases h)]
  simp only [ePage, ePolicy, eBuilder, eTokenizer, eAddr] at c1
  simp only [eBuilder] at c2
  have hl1 : ¬ (q.length : Int) + 1 = 0 := by omega
  have htq : (q.map (eToken .own)).take q.length = q.map (eToken .own) := List.take_of_length_le (by simp)
  refine entH Tryz.mix [4] Tryz.func7 Tryz.ntmps7 ?_
  have W := And.intro hl1 (And.intro htq (And.intro hl0 hbl))
  repeat' first|refine st ?_|(refine nx ?_;first|refine se ?_|refine so ?_)|(refine cx ?_;refine sc (fun hc=>?_) (fun hc=>?_)<;>try exact hc.elim)|(refine lx ?_;refine sp (fun hc=>?_) (fun hc=>?_)<;>try exact hc.elim)|refine sx ?_ ?_|refine sy ?_ ?_|fail
  refine go_share 5 0 (by rfl) (by rfl) (by simp; rfl) ?_
  have W := And.intro hl1 (And.intro htq (And.intro hl0 hbl))
  repeat' first|refine st ?_|(refine nx ?_;first|refine se ?_|refine so ?_)|(refine cx ?_;refine sc (fun hc=>?_) (fun hc=>?_)<;>try exact hc.elim)|(refine lx ?_;refine sp (fun hc=>?_) (fun hc=>?_)<;>try exact hc.elim)|refine sx ?_ ?_|refine sy ?_ ?_|fail
  all_goals (try (refine ⟨.inr rfl, ?_⟩; simp [Hands, Tryz.results7]))
theorem implTake_other [Tabs Tryz.prog] (p : DPage) (t : DToken) (q : List DToken) (hq : p.queue = t :: q) (hb : p.block = 0) (hi : p.inline = 0) (hs : szPage p ≤ 67108864) (hk : t.kind = 2) (hn : t.name = sScript) (os : List Int) (lo : Int) (ho : p.builder.opens = os ++ [lo]) (hs0 : scriptAt p.builder t = none) : Ok Tryz.prog 7 [.agg (ePage .view p)] (.tup [.agg (ePage .own (takeTok p t q)), .bool true]) := by
  have hq1 := taken_sz hq
  have hts : szToken t ≤ 67108864 := by
    have h1 := sumN_mem_le szToken (show t ∈ p.queue by rw [hq]; simp)
    simp only [szPage, szL] at hs; omega
  have hbs : szBuilder p.builder ≤ 67108864 := by simp only [szPage] at hs; omega
  have hbl : p.builder.nodes.length ≤ 67108864 ∧ p.builder.opens.length ≤ 67108864 := by simp only [szBuilder, szL] at hbs; omega
  have c1 := copyPage_ok p (by omega)
  have c2 := implAddToken_ok p.builder t (by omega) (by omega)
  obtain ⟨hm, _⟩ := addToken_none (b := p.builder) hk
  have hyes : ∀ (k : Nat) (nd : DNode), 1 ≤ k → p.builder.opens = os ++ [((k : Nat) : Int)] → p.builder.nodes[k]? = some nd → nd.name = sScript → False := fun k nd h1 h2 h3 h4 => by
    have h5 := scriptAt_yes hk hn h2 h1 h3 h4
    rw [hs0] at h5; cases h5
  unfold takeTok
  rw [hs0]
  clear hs0
  have hl0 : (0 : Int) < (p.builder.opens.length : Int) := by rw [ho]; simp <;> omega
  have hlt : os.length < p.builder.opens.length := by rw [ho]; simp
  have hg : p.builder.opens[os.length]? = some lo := by rw [ho]; simp
  have hw : IntKind.i64.wrap ((p.builder.opens.length : Int) - 1) = ((os.length : Nat) : Int) := by
    have e : p.builder.opens.length = os.length + 1 := by rw [ho]; simp
    rw [wrap64] <;> omega
  rw [hm] at c2 ⊢
  generalize (addToken p.builder t).1 = u at *
  obtain ⟨n1, o1⟩ := u
  simp only at c2 ⊢
  obtain ⟨ad, pol, tok, queue, ended, bld, slots, mods, entries, block, inline, deferred, entered, ran, log, loaded⟩ := p
  obtain ⟨tk, tn, ta, tx⟩ := t
  simp only at hq hb hi hbl hk hn c1 c2 hl0 hlt hg hw ho hyes ⊢
  subst hq; subst hb; subst hi
  subst hk
  simp only [sScript] at hn
  subst hn
  rw [if_neg (by rintro ⟨h, _⟩; cases h)]
  simp only [ePage, ePolicy, eBuilder, eTokenizer, eAddr] at c1
  simp only [eBuilder] at c2
  have hl1 : ¬ (q.length : Int) + 1 = 0 := by omega
  have htq : (q.map (eToken .own)).take q.length = q.map (eToken .own) := List.take_of_length_le (by simp)
  by_cases h1 : 1 ≤ lo
  · by_cases h2 : lo < (bld.nodes.length : Int)
    · obtain ⟨k, rfl⟩ := Int.eq_ofNat_of_zero_le (show 0 ≤ lo by omega)
      have hkl : k < bld.nodes.length := by omega
      have hgk := List.getElem?_eq_getElem hkl
      have hne : (bld.nodes[k].name == [115, 99, 114, 105, 112, 116]) = false := by
        cases h : (bld.nodes[k].name == [115, 99, 114, 105, 112, 116]) with
        | false => rfl
        | true => exact (hyes k _ (by omega) ho hgk (by simpa [sScript] using h)).elim
      clear hyes ho
      refine entH Tryz.mix [4] Tryz.func7 Tryz.ntmps7 ?_
      have W := And.intro hl1 (And.intro htq (And.intro hl0 (And.intro hw (And.intro hg (And.intro h1 (And.intro hgk (And.intro hkl (And.intro hne hbl))))))))
      have V := hlt
      repeat' first|refine st ?_|(refine nx ?_;first|refine se ?_|refine so ?_)|(refine cx ?_;refine sc (fun hc=>?_) (fun hc=>?_)<;>try exact hc.elim)|(refine lx ?_;refine sp (fun hc=>?_) (fun hc=>?_)<;>try exact hc.elim)|refine sx ?_ ?_|refine sy ?_ ?_|fail
      refine go_share 5 0 (by rfl) (by rfl) (by simp; rfl) ?_
      have W := And.intro hl1 (And.intro htq (And.intro hl0 (And.intro hw (And.intro hg (And.intro h1 (And.intro hgk (And.intro hkl (And.intro hne hbl))))))))
      have V := hlt
      repeat' first|refine st ?_|(refine nx ?_;first|refine se ?_|refine so ?_)|(refine cx ?_;refine sc (fun hc=>?_) (fun hc=>?_)<;>try exact hc.elim)|(refine lx ?_;refine sp (fun hc=>?_) (fun hc=>?_)<;>try exact hc.elim)|refine sx ?_ ?_|refine sy ?_ ?_|fail
      all_goals (try (refine ⟨.inr rfl, ?_⟩; simp [Hands, Tryz.results7]))
    · skip
      clear hyes ho
      refine entH Tryz.mix [4] Tryz.func7 Tryz.ntmps7 ?_
      have W := And.intro hl1 (And.intro htq (And.intro hl0 (And.intro hw (And.intro hg (And.intro h1 (And.intro h2 hbl))))))
      have V := hlt
      repeat' first|refine st ?_|(refine nx ?_;first|refine se ?_|refine so ?_)|(refine cx ?_;refine sc (fun hc=>?_) (fun hc=>?_)<;>try exact hc.elim)|(refine lx ?_;refine sp (fun hc=>?_) (fun hc=>?_)<;>try exact hc.elim)|refine sx ?_ ?_|refine sy ?_ ?_|fail
      refine go_share 5 0 (by rfl) (by rfl) (by simp; rfl) ?_
      have W := And.intro hl1 (And.intro htq (And.intro hl0 (And.intro hw (And.intro hg (And.intro h1 (And.intro h2 hbl))))))
      have V := hlt
      repeat' first|refine st ?_|(refine nx ?_;first|refine se ?_|refine so ?_)|(refine cx ?_;refine sc (fun hc=>?_) (fun hc=>?_)<;>try exact hc.elim)|(refine lx ?_;refine sp (fun hc=>?_) (fun hc=>?_)<;>try exact hc.elim)|refine sx ?_ ?_|refine sy ?_ ?_|fail
      all_goals (try (refine ⟨.inr rfl, ?_⟩; simp [Hands, Tryz.results7]))
  · skip
    clear hyes ho
    refine entH Tryz.mix [4] Tryz.func7 Tryz.ntmps7 ?_
    have W := And.intro hl1 (And.intro htq (And.intro hl0 (And.intro hw (And.intro hg (And.intro h1 hbl)))))
    have V := hlt
    repeat' first|refine st ?_|(refine nx ?_;first|refine se ?_|refine so ?_)|(refine cx ?_;refine sc (fun hc=>?_) (fun hc=>?_)<;>try exact hc.elim)|(refine lx ?_;refine sp (fun hc=>?_) (fun hc=>?_)<;>try exact hc.elim)|refine sx ?_ ?_|refine sy ?_ ?_|fail
    refine go_share 5 0 (by rfl) (by rfl) (by simp; rfl) ?_
    have W := And.intro hl1 (And.intro htq (And.intro hl0 (And.intro hw (And.intro hg (And.intro h1 hbl)))))
    have V := hlt
    repeat' first|refine st ?_|(refine nx ?_;first|refine se ?_|refine so ?_)|(refine cx ?_;refine sc (fun hc=>?_) (fun hc=>?_)<;>try exact hc.elim)|(refine lx ?_;refine sp (fun hc=>?_) (fun hc=>?_)<;>try exact hc.elim)|refine sx ?_ ?_|refine sy ?_ ?_|fail
    all_goals (try (refine ⟨.inr rfl, ?_⟩; simp [Hands, Tryz.results7]))
theorem implTake_script [Tabs Tryz.prog] (p : DPage) (t : DToken) (q : List DToken) (hq : p.queue = t :: q) (hb : p.block = 0) (hi : p.inline = 0) (hs : szPage p ≤ 67108864) (hk : t.kind = 2) (hn : t.name = sScript) (os : List Int) (k : Nat) (ho : p.builder.opens = os ++ [((k : Nat) : Int)]) (nd : DNode) (hk1 : 1 ≤ k) (hgk : p.builder.nodes[k]? = some nd) (hns : nd.name = sScript) : Ok Tryz.prog 7 [.agg (ePage .view p)] (.tup [.agg (ePage .own (takeTok p t q)), .bool true]) := by
  have hq1 := taken_sz hq
  have hts : szToken t ≤ 67108864 := by
    have h1 := sumN_mem_le szToken (show t ∈ p.queue by rw [hq]; simp)
    simp only [szPage, szL] at hs; omega
  have hbs : szBuilder p.builder ≤ 67108864 := by simp only [szPage] at hs; omega
  have hbl : p.builder.nodes.length ≤ 67108864 ∧ p.builder.opens.length ≤ 67108864 := by simp only [szBuilder, szL] at hbs; omega
  have c1 := copyPage_ok p (by omega)
  have c2 := implAddToken_ok p.builder t (by omega) (by omega)
  obtain ⟨hm, hmn⟩ := addToken_none (b := p.builder) hk
  have hkl : k < p.builder.nodes.length := (List.getElem?_eq_some_iff.1 hgk).1
  have c3 := implEndScript_ok { p with queue := q, builder := (addToken p.builder t).1 } k nd (by simp only [hmn]; exact hkl) (by simp only [hmn]; exact hgk) (by omega)
  unfold takeTok
  rw [scriptAt_yes hk hn ho hk1 hgk hns]
  simp only [hgk, Option.elim]
  have hl0 : (0 : Int) < (p.builder.opens.length : Int) := by rw [ho]; simp <;> omega
  have hlt : os.length < p.builder.opens.length := by rw [ho]; simp
  have hg : p.builder.opens[os.length]? = some ((k : Nat) : Int) := by rw [ho]; simp
  have hw : IntKind.i64.wrap ((p.builder.opens.length : Int) - 1) = ((os.length : Nat) : Int) := by
    have e : p.builder.opens.length = os.length + 1 := by rw [ho]; simp
    rw [wrap64] <;> omega
  have hnb : (nd.name == [115, 99, 114, 105, 112, 116]) = true := by simpa [sScript] using hns
  generalize endScript _ k nd.attrs = g at *
  rw [hm] at c2
  generalize (addToken p.builder t).1 = u at *
  obtain ⟨n1, o1⟩ := u
  try simp only at c2
  try simp only at c3
  obtain ⟨ad, pol, tok, queue, ended, bld, slots, mods, entries, block, inline, deferred, entered, ran, log, loaded⟩ := p
  obtain ⟨tk, tn, ta, tx⟩ := t
  simp only at hq hb hi hbl hk hn c1 c2 c3 hl0 hlt hg hw hgk hkl
  subst hq; subst hb; subst hi
  clear ho hns hm hmn
  subst hk
  simp only [sScript] at hn
  subst hn
  simp only [ePage, ePolicy, eBuilder, eTokenizer, eAddr] at c1
  simp only [eBuilder] at c2
  have hl1 : ¬ (q.length : Int) + 1 = 0 := by omega
  have htq : (q.map (eToken .own)).take q.length = q.map (eToken .own) := List.take_of_length_le (by simp)
  have hk1i : (1 : Int) ≤ ((k : Nat) : Int) := by omega
  simp only [ePage, ePolicy, eBuilder, eTokenizer, eAddr] at c3
  have hnb2 : (bld.nodes[k].name == [115, 99, 114, 105, 112, 116]) = true := by
    rw [List.getElem?_eq_getElem hkl] at hgk
    rw [Option.some.inj hgk]; exact hnb
  have hlp : 0 < bld.opens.length := by omega
  refine entH Tryz.mix [4] Tryz.func7 Tryz.ntmps7 ?_
  have W := And.intro hl1 (And.intro htq (And.intro hlp (And.intro hl0 (And.intro hw (And.intro hg (And.intro hk1i (And.intro hkl (And.intro hgk (And.intro hnb2 hbl)))))))))
  have V := hlt
  repeat' first|refine st ?_|(refine nx ?_;first|refine se ?_|refine so ?_)|(refine cx ?_;refine sc (fun hc=>?_) (fun hc=>?_)<;>try exact hc.elim)|(refine lx ?_;refine sp (fun hc=>?_) (fun hc=>?_)<;>try exact hc.elim)|refine sx ?_ ?_|refine sy ?_ ?_|fail
  refine go_share 5 0 (by rfl) (by rfl) (by simp; rfl) ?_
  have W := And.intro hl1 (And.intro htq (And.intro hlp (And.intro hl0 (And.intro hw (And.intro hg (And.intro hk1i (And.intro hkl (And.intro hgk (And.intro hnb2 hbl)))))))))
  have V := hlt
  repeat' first|refine st ?_|(refine nx ?_;first|refine se ?_|refine so ?_|refine sg (hc:=c3) (h:=?_))|(refine cx ?_;refine sc (fun hc=>?_) (fun hc=>?_)<;>try exact hc.elim)|(refine lx ?_;refine sp (fun hc=>?_) (fun hc=>?_)<;>try exact hc.elim)|refine sx ?_ ?_|refine sy ?_ ?_|fail
  all_goals (try (refine ⟨.inr rfl, ?_⟩; simp [Hands, Tryz.results7]))
theorem implTakeToken_ok [Tabs Tryz.prog] (p : DPage) (hs : szPage p ≤ 67108864) : Ok Tryz.prog 7 [.agg (ePage .view p)] (.tup [.agg (ePage .own (takeToken p).1), .bool (takeToken p).2]) := by
  cases hq : p.queue with
  | nil =>
    have e : takeToken p = (p, false) := by unfold takeToken; rw [hq]
    rw [e]; exact implTake_stop p hs (.inl hq)
  | cons t q =>
    by_cases h : p.block = 0 ∧ p.inline = 0
    · have e : takeToken p = (takeTok p t q, true) := by unfold takeToken; rw [hq]; simp only; rw [if_pos h]
      rw [e]
      by_cases hk : t.kind = 2
      · by_cases hn : t.name = sScript
        · rcases List.eq_nil_or_concat p.builder.opens with ho | ⟨os, lo, ho⟩
          · exact implTake_bare p t q hq h.1 h.2 hs hk hn ho
          · cases hsc : scriptAt p.builder t with
            | none => exact implTake_other p t q hq h.1 h.2 hs hk hn os lo (by simpa using ho) hsc
            | some k =>
              have hsc2 := hsc
              unfold scriptAt at hsc2
              rw [if_pos ⟨hk, hn⟩, ho] at hsc2
              simp only [List.concat_eq_append, List.getLast?_concat] at hsc2
              split at hsc2
              · rename_i h3
                obtain ⟨h3, h4⟩ := h3
                obtain rfl := Option.some.inj hsc2
                cases hgk : p.builder.nodes[lo.toNat]? with
                | none => rw [hgk] at h4; simp at h4
                | some nd =>
                  rw [hgk] at h4
                  exact implTake_script p t q hq h.1 h.2 hs hk hn os lo.toNat (by rw [ho]; simp <;> omega) nd (by omega) hgk (by simpa using h4)
              · cases hsc2
        · exact implTake_close p t q hq h.1 h.2 hs hk hn
      · exact implTake_open p t q hq h.1 h.2 hs hk
    · have e : takeToken p = (p, false) := by unfold takeToken; rw [hq]; simp only; rw [if_neg h]
      rw [e]; exact implTake_stop p hs (by by_cases h1 : p.block = 0; exact .inr (.inr fun h2 => h ⟨h1, h2⟩); exact .inr (.inl h1))
end Go.Proofs.YtonajehhfkkglabGreat
