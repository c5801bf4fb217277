/-
  Proved here: steps towards the statement of this claim, text I6.
  No condition beyond what each statement spells out.
-/
import Derived.Test.YtonajehhfkkglabGreatI5
import Derived.Test.YtonajehhfkkglabGreatSR5
set_option linter.all false
set_option maxRecDepth 4000
set_option maxHeartbeats 4000000
namespace Go.Proofs.YtonajehhfkkglabGreat
open Go.Aw
theorem addr_szI (s b : Str) : szAddr (parseAddr s b).1 ≤ s.length + b.length := by
  have h := ixB_le 47 s
  unfold parseAddr addrOf
  split <;> split <;> simp [szAddr, noAddr] <;> omega
def addEntry (p : DPage) (tx : Str) : DPage :=
  if (parseAddr tx p.addr.host).2 = false ∨ 20 ≤ p.entries.length then p else { askModule p (parseAddr tx p.addr.host).1 with entries := p.entries ++ [(parseAddr tx p.addr.host).1] }
theorem ask_entries (p : DPage) (a : DAddr) (e : List DAddr) : askModule { p with entries := e } a = { askModule p a with entries := e } := by
  unfold askModule
  simp only
  split
  · split <;> rfl
  · rfl
theorem ask_keeps (p : DPage) (a : DAddr) : (askModule p a).entries = p.entries := by
  unfold askModule
  split
  · split <;> rfl
  · rfl
theorem implAddEntry_ok [Tabs Tryz.prog] (p : DPage) (tx : Str) (hs : szPage p ≤ 268435456) (hto : tx.length ≤ 268435456) : Ok Tryz.prog 88 [.agg (ePage .view p), .str tx] (.agg (ePage .own (addEntry p tx))) := by
  have hsl : p.addr.host.length ≤ 268435456 := by simp only [szPage, szAddr] at hs; omega
  have hen : p.entries.length ≤ 268435456 := by simp only [szPage, szL] at hs; omega
  have c1 := copyPage_ok p (by omega)
  have c3 := implParseAddr_ok tx p.addr.host (by omega)
  have hsz := addr_szI tx p.addr.host
  unfold addEntry
  generalize parseAddr tx p.addr.host = pa at *
  obtain ⟨a, ok⟩ := pa
  simp only at c3 hsz ⊢
  have c4 := implAskModule_ok { p with entries := p.entries ++ [a] } a (by simp only [szPage, szL, List.length_append, sumN_join, sumN, List.length_cons, List.length_nil] at hs ⊢; omega) (by omega)
  rw [ask_entries] at c4
  obtain ⟨l1, hl1⟩ : ∃ l, l = p.entries ++ [a] := ⟨_, rfl⟩
  have hap : p.entries.map eAddr ++ [[.str a.host, .str a.path]] = l1.map eAddr := by rw [hl1]; simp
  rw [← hl1] at c4 ⊢
  clear hl1
  generalize askModule p a = g at *
  simp only [ePage, eAddr] at c1 c3 c4
  cases ok
  · simp only [true_or, if_true]
    refine ent Tryz.mix Tryz.func88 Tryz.ntmps88 ?_
    have W := trivial
    repeat' first|refine st ?_|(refine nx ?_;first|refine se ?_|refine so ?_)|(refine cx ?_;refine sc (fun hc=>?_) (fun hc=>?_)<;>try exact hc.elim)|(refine lx ?_;refine sp (fun hc=>?_) (fun hc=>?_)<;>try exact hc.elim)|refine sx ?_ ?_|refine sy ?_ ?_|fail
    all_goals (try (refine ⟨.inr rfl, ?_⟩; simp [Hands, Tryz.results88]))
  · by_cases h20 : 20 ≤ p.entries.length
    · have h20i : (20 : Int) ≤ (p.entries.length : Int) := by omega
      simp only [h20, or_true, if_true]
      refine ent Tryz.mix Tryz.func88 Tryz.ntmps88 ?_
      have W := h20i
      repeat' first|refine st ?_|(refine nx ?_;first|refine se ?_|refine so ?_)|(refine cx ?_;refine sc (fun hc=>?_) (fun hc=>?_)<;>try exact hc.elim)|(refine lx ?_;refine sp (fun hc=>?_) (fun hc=>?_)<;>try exact hc.elim)|refine sx ?_ ?_|refine sy ?_ ?_|fail
      all_goals (try (refine ⟨.inr rfl, ?_⟩; simp [Hands, Tryz.results88]))
    · have h20i : ¬ (20 : Int) ≤ (p.entries.length : Int) := by omega
      rw [if_neg (by rintro (h | h); cases h; exact h20 h)]
      refine ent Tryz.mix Tryz.func88 Tryz.ntmps88 ?_
      have W := And.intro h20i hap
      repeat' first|refine st ?_|(refine nx ?_;first|refine se ?_|refine so ?_)|(refine cx ?_;refine sc (fun hc=>?_) (fun hc=>?_)<;>try exact hc.elim)|(refine lx ?_;refine sp (fun hc=>?_) (fun hc=>?_)<;>try exact hc.elim)|refine sx ?_ ?_|refine sy ?_ ?_|fail
      all_goals (try (refine ⟨.inr rfl, ?_⟩; simp [Hands, Tryz.results88]))
theorem specAddEntry_ok [Tabs Tryz.prog] (p : DPage) (tx : Str) (hs : szPage p ≤ 268435456) (hto : tx.length ≤ 268435456) : Ok Tryz.prog 75 [.agg (ePage .view p), .str tx] (.agg (ePage .own (addEntry p tx))) := by
  have hsl : p.addr.host.length ≤ 268435456 := by simp only [szPage, szAddr] at hs; omega
  have hen : p.entries.length ≤ 268435456 := by simp only [szPage, szL] at hs; omega
  have c1 := specPage_ok p (by omega)
  have c3 := specParseAddr_ok tx p.addr.host (by omega)
  have hsz := addr_szI tx p.addr.host
  unfold addEntry
  generalize parseAddr tx p.addr.host = pa at *
  obtain ⟨a, ok⟩ := pa
  simp only at c3 hsz ⊢
  have c4 := specAskModule_ok p a (by omega) (by omega)
  have hke := ask_keeps p a
  obtain ⟨l1, hl1⟩ : ∃ l, l = p.entries ++ [a] := ⟨_, rfl⟩
  have hap : p.entries.map eAddr ++ [[.str a.host, .str a.path]] = l1.map eAddr := by rw [hl1]; simp
  rw [← hl1]
  clear hl1
  generalize askModule p a = g at *
  simp only [ePage, eAddr] at c1 c3 c4
  rw [hke] at c4
  cases ok
  · simp only [true_or, if_true]
    refine ent Tryz.mix Tryz.func75 Tryz.ntmps75 ?_
    have W := trivial
    repeat' first|refine st ?_|(refine nx ?_;first|refine se ?_|refine so ?_)|(refine cx ?_;refine sc (fun hc=>?_) (fun hc=>?_)<;>try exact hc.elim)|(refine lx ?_;refine sp (fun hc=>?_) (fun hc=>?_)<;>try exact hc.elim)|refine sx ?_ ?_|refine sy ?_ ?_|fail
    all_goals (try (refine ⟨.inr rfl, ?_⟩; simp [Hands, Tryz.results75]))
  · by_cases h20 : 20 ≤ p.entries.length
    · have h20i : (20 : Int) ≤ (p.entries.length : Int) := by omega
      simp only [h20, or_true, if_true]
      refine ent Tryz.mix Tryz.func75 Tryz.ntmps75 ?_
      have W := h20i
      repeat' first|refine st ?_|(refine nx ?_;first|refine se ?_|refine so ?_)|(refine cx ?_;refine sc (fun hc=>?_) (fun hc=>?_)<;>try exact hc.elim)|(refine lx ?_;refine sp (fun hc=>?_) (fun hc=>?_)<;>try exact hc.elim)|refine sx ?_ ?_|refine sy ?_ ?_|fail
      all_goals (try (refine ⟨.inr rfl, ?_⟩; simp [Hands, Tryz.results75]))
    · have h20i : ¬ (20 : Int) ≤ (p.entries.length : Int) := by omega
      rw [if_neg (by rintro (h | h); cases h; exact h20 h)]
      refine ent Tryz.mix Tryz.func75 Tryz.ntmps75 ?_
      have W := And.intro h20i hap
      repeat' first|refine st ?_|(refine nx ?_;first|refine se ?_|refine so ?_)|(refine cx ?_;refine sc (fun hc=>?_) (fun hc=>?_)<;>try exact hc.elim)|(refine lx ?_;refine sp (fun hc=>?_) (fun hc=>?_)<;>try exact hc.elim)|refine sx ?_ ?_|refine sy ?_ ?_|fail
      all_goals (try (refine ⟨.inr rfl, ?_⟩; simp [Hands, Tryz.results75]))
end Go.Proofs.YtonajehhfkkglabGreat
