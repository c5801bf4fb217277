/-
  Proved here: steps towards the statement of this claim, text TK3.
  No condition beyond what each statement spells out.
-/
import Derived.Test.YtonajehhfkkglabGreatTK2
import Derived.Test.YtonajehhfkkglabGreatAwShare
set_option linter.all false
set_option maxRecDepth 4000
set_option maxHeartbeats 4000000
namespace Go.Proofs.YtonajehhfkkglabGreat
open Go.Aw
theorem implAddToken_ok [Tabs Tryz.prog] (b : DBuilder) (t : DToken) (hs : szBuilder b ≤ 274877906944) (ht : szToken t ≤ 274877906944) : Ok Tryz.prog 35 [.agg (eBuilder .view b), .agg (eToken .view t)] (.tup [.agg (eBuilder .own (addToken b t).1), .int .i64 (addToken b t).2]) := by
  by_cases hk2 : t.kind = 2
  · exact implAddToken_close b t hs hk2
  have c1 := copyBuilder_ok b hs
  have c2 := implIsVoid_ok t.name
  have hn : b.nodes.length ≤ 274877906944 ∧ b.opens.length ≤ 274877906944 := by simp only [szBuilder, szL] at hs; omega
  have hta : t.attrs.length ≤ 274877906944 := by simp only [szToken, szL] at ht; omega
  have other := addToken_other (b := b) hk2
  have full := addToken_full (b := b) hk2
  have new := addToken_new (b := b) hk2
  obtain ⟨tk, tn, ta, tx⟩ := t
  simp only at hk2 other full new c2 hta
  simp only [eBuilder] at c1
  by_cases hk : tk = 1 ∨ (tk = 3 ∧ tx ≠ [])
  · by_cases h40 : (40 : Int) ≤ (b.nodes.length : Int)
    · rw [full (.inl (by omega))]
      rcases hk with rfl | ⟨rfl, hx⟩
      · refine ent Tryz.mix Tryz.func35 Tryz.ntmps35 ?_
        have W := h40
        repeat' first|refine st ?_|(refine nx ?_;first|refine se ?_|refine so ?_)|(refine cx ?_;refine sc (fun hc=>?_) (fun hc=>?_)<;>try exact hc.elim)|(refine lx ?_;refine sp (fun hc=>?_) (fun hc=>?_)<;>try exact hc.elim)|refine sx ?_ ?_|refine sy ?_ ?_|fail
        all_goals (try (refine ⟨.inr rfl, ?_⟩; simp [Hands, Tryz.results35]))
      · refine ent Tryz.mix Tryz.func35 Tryz.ntmps35 ?_
        have W := And.intro h40 hx
        repeat' first|refine st ?_|(refine nx ?_;first|refine se ?_|refine so ?_)|(refine cx ?_;refine sc (fun hc=>?_) (fun hc=>?_)<;>try exact hc.elim)|(refine lx ?_;refine sp (fun hc=>?_) (fun hc=>?_)<;>try exact hc.elim)|refine sx ?_ ?_|refine sy ?_ ?_|fail
        all_goals (try (refine ⟨.inr rfl, ?_⟩; simp [Hands, Tryz.results35]))
    rcases List.eq_nil_or_concat b.opens with ho | ⟨os, lo, ho⟩
    · rw [full (.inr (.inl ho))]
      have hl0z : b.opens.length = 0 := by rw [ho]; rfl
      rcases hk with rfl | ⟨rfl, hx⟩
      · refine ent Tryz.mix Tryz.func35 Tryz.ntmps35 ?_
        have W := And.intro h40 hl0z
        repeat' first|refine st ?_|(refine nx ?_;first|refine se ?_|refine so ?_)|(refine cx ?_;refine sc (fun hc=>?_) (fun hc=>?_)<;>try exact hc.elim)|(refine lx ?_;refine sp (fun hc=>?_) (fun hc=>?_)<;>try exact hc.elim)|refine sx ?_ ?_|refine sy ?_ ?_|fail
        all_goals (try (refine ⟨.inr rfl, ?_⟩; simp [Hands, Tryz.results35]))
      · refine ent Tryz.mix Tryz.func35 Tryz.ntmps35 ?_
        have W := And.intro h40 (And.intro hx hl0z)
        repeat' first|refine st ?_|(refine nx ?_;first|refine se ?_|refine so ?_)|(refine cx ?_;refine sc (fun hc=>?_) (fun hc=>?_)<;>try exact hc.elim)|(refine lx ?_;refine sp (fun hc=>?_) (fun hc=>?_)<;>try exact hc.elim)|refine sx ?_ ?_|refine sy ?_ ?_|fail
        all_goals (try (refine ⟨.inr rfl, ?_⟩; simp [Hands, Tryz.results35]))
    have hne : b.opens ≠ [] := by rw [ho]; simp
    have hlast : b.opens.getLastD 0 = lo := by rw [ho]; simp
    have hlen : b.opens.length = os.length + 1 := by rw [ho]; simp
    have hl0z : ¬ b.opens.length = 0 := by omega
    have hlt : os.length < b.opens.length := by omega
    have hg : b.opens[os.length]? = some lo := by rw [ho]; simp
    have hw : IntKind.i64.wrap ((b.opens.length : Int) - 1) = ((os.length : Nat) : Int) := by rw [wrap64] <;> omega
    clear ho hlen
    rcases hk with rfl | ⟨rfl, hx⟩
    · have hnw : newNode b ⟨1, tn, ta, tx⟩ = ⟨tn, [], lo, ta⟩ := by unfold newNode; rw [hlast]; simp
      cases hvo : isVoidN tn
      · rw [hvo] at c2
        have hop : opensTag ⟨1, tn, ta, tx⟩ = true := by simp [opensTag, hvo]
        by_cases h8 : (8 : Int) ≤ (b.opens.length : Int)
        · rw [full (.inr (.inr ⟨hop, by omega⟩))]
          refine ent Tryz.mix Tryz.func35 Tryz.ntmps35 ?_
          have W := And.intro h40 (And.intro hl0z h8)
          repeat' first|refine st ?_|(refine nx ?_;first|refine se ?_|refine so ?_)|(refine cx ?_;refine sc (fun hc=>?_) (fun hc=>?_)<;>try exact hc.elim)|(refine lx ?_;refine sp (fun hc=>?_) (fun hc=>?_)<;>try exact hc.elim)|refine sx ?_ ?_|refine sy ?_ ?_|fail
          all_goals (try (refine ⟨.inr rfl, ?_⟩; simp [Hands, Tryz.results35]))
        · rw [new (.inl rfl) (by rintro (h | h | ⟨_, h⟩); omega; exact hne h; omega), if_pos hop, hnw]
          obtain ⟨l0, hl0⟩ : ∃ l, l = b.nodes ++ [(⟨tn, [], lo, ta⟩ : DNode)] := ⟨_, rfl⟩
          have hap : b.nodes.map (eNode .own) ++ [[.str tn, .str [], .int .i64 lo, .sl .own 2 (ta.map eAttr)]] = l0.map (eNode .own) := by rw [hl0]; simp
          obtain ⟨o0, ho0⟩ : ∃ l, l = b.opens ++ [((b.nodes.length : Nat) : Int)] := ⟨_, rfl⟩
          have hao : b.opens.map eInt ++ [[.int .i64 ((b.nodes.length : Nat) : Int)]] = o0.map eInt := by rw [ho0]; simp
          rw [← hl0, ← ho0]
          clear hl0 ho0
          refine ent Tryz.mix Tryz.func35 Tryz.ntmps35 ?_
          have W := And.intro h40 (And.intro hl0z (And.intro h8 (And.intro hg (And.intro hw (And.intro hn (And.intro hta (And.intro hap hao)))))))
          have V := hlt
          repeat' first|refine st ?_|(refine nx ?_;first|refine se ?_|refine so ?_)|(refine cx ?_;refine sc (fun hc=>?_) (fun hc=>?_)<;>try exact hc.elim)|(refine lx ?_;refine sp (fun hc=>?_) (fun hc=>?_)<;>try exact hc.elim)|refine sx ?_ ?_|refine sy ?_ ?_|fail
          all_goals (try (refine ⟨.inr rfl, ?_⟩; simp [Hands, Tryz.results35]))
      · rw [hvo] at c2
        have hop : opensTag ⟨1, tn, ta, tx⟩ = false := by simp [opensTag, hvo]
        rw [new (.inl rfl) (by rintro (h | h | ⟨h, _⟩); omega; exact hne h; (rw [hop] at h; cases h)), if_neg (by rw [hop]; decide), hnw]
        obtain ⟨l0, hl0⟩ : ∃ l, l = b.nodes ++ [(⟨tn, [], lo, ta⟩ : DNode)] := ⟨_, rfl⟩
        have hap : b.nodes.map (eNode .own) ++ [[.str tn, .str [], .int .i64 lo, .sl .own 2 (ta.map eAttr)]] = l0.map (eNode .own) := by rw [hl0]; simp
        rw [← hl0]
        clear hl0
        refine ent Tryz.mix Tryz.func35 Tryz.ntmps35 ?_
        have W := And.intro h40 (And.intro hl0z (And.intro hg (And.intro hw (And.intro hn (And.intro hta hap)))))
        have V := hlt
        repeat' first|refine st ?_|(refine nx ?_;first|refine se ?_|refine so ?_)|(refine cx ?_;refine sc (fun hc=>?_) (fun hc=>?_)<;>try exact hc.elim)|(refine lx ?_;refine sp (fun hc=>?_) (fun hc=>?_)<;>try exact hc.elim)|refine sx ?_ ?_|refine sy ?_ ?_|fail
        all_goals (try (refine ⟨.inr rfl, ?_⟩; simp [Hands, Tryz.results35]))
    · have hnw : newNode b ⟨3, tn, ta, tx⟩ = ⟨[], tx, lo, []⟩ := by unfold newNode; rw [hlast]; simp
      have hop : opensTag ⟨3, tn, ta, tx⟩ = false := by simp [opensTag]
      rw [new (.inr ⟨rfl, hx⟩) (by rintro (h | h | ⟨h, _⟩); omega; exact hne h; (rw [hop] at h; cases h)), if_neg (by rw [hop]; decide), hnw]
      obtain ⟨l0, hl0⟩ : ∃ l, l = b.nodes ++ [(⟨[], tx, lo, []⟩ : DNode)] := ⟨_, rfl⟩
      have hap : b.nodes.map (eNode .own) ++ [[.str [], .str tx, .int .i64 lo, .sl .own 2 []]] = l0.map (eNode .own) := by rw [hl0]; simp
      rw [← hl0]
      clear hl0
      have hxb : (tx != []) = true := by simpa using hx
      refine entH Tryz.mix [21] Tryz.func35 Tryz.ntmps35 ?_
      have W := And.intro h40 (And.intro hl0z (And.intro hxb (And.intro hg (And.intro hw (And.intro hn hap)))))
      have V := hlt
      repeat' first|refine st ?_|(refine nx ?_;first|refine se ?_|refine so ?_)|(refine cx ?_;refine sc (fun hc=>?_) (fun hc=>?_)<;>try exact hc.elim)|(refine lx ?_;refine sp (fun hc=>?_) (fun hc=>?_)<;>try exact hc.elim)|refine sx ?_ ?_|refine sy ?_ ?_|fail
      · exact (hx (by assumption)).elim
      refine go_openB 6 0 3 (by rfl) (by rfl) (by rfl) ?_
      have W := And.intro h40 (And.intro hl0z (And.intro hxb (And.intro hg (And.intro hw (And.intro hn hap)))))
      have V := hlt
      repeat' first|refine st ?_|(refine nx ?_;first|refine se ?_|refine so ?_)|(refine cx ?_;refine sc (fun hc=>?_) (fun hc=>?_)<;>try exact hc.elim)|(refine lx ?_;refine sp (fun hc=>?_) (fun hc=>?_)<;>try exact hc.elim)|refine sx ?_ ?_|refine sy ?_ ?_|fail
      all_goals (try (refine ⟨.inr rfl, ?_⟩; simp [Hands, Tryz.results35]))
  · have h1 : ¬ tk = 1 := fun h => hk (.inl h)
    by_cases h3 : tk = 3
    · have hx : tx = [] := Classical.byContradiction fun h => hk (.inr ⟨h3, h⟩)
      rw [other h1 (fun _ => hx)]
      subst h3; subst hx
      refine ent Tryz.mix Tryz.func35 Tryz.ntmps35 ?_
      have W := trivial
      repeat' first|refine st ?_|(refine nx ?_;first|refine se ?_|refine so ?_)|(refine cx ?_;refine sc (fun hc=>?_) (fun hc=>?_)<;>try exact hc.elim)|(refine lx ?_;refine sp (fun hc=>?_) (fun hc=>?_)<;>try exact hc.elim)|refine sx ?_ ?_|refine sy ?_ ?_|fail
      all_goals (try (refine ⟨.inr rfl, ?_⟩; simp [Hands, Tryz.results35]))
    · rw [other h1 (fun h => absurd h h3)]
      refine ent Tryz.mix Tryz.func35 Tryz.ntmps35 ?_
      have W := And.intro hk2 (And.intro h1 h3)
      repeat' first|refine st ?_|(refine nx ?_;first|refine se ?_|refine so ?_)|(refine cx ?_;refine sc (fun hc=>?_) (fun hc=>?_)<;>try exact hc.elim)|(refine lx ?_;refine sp (fun hc=>?_) (fun hc=>?_)<;>try exact hc.elim)|refine sx ?_ ?_|refine sy ?_ ?_|fail
      all_goals (try (refine ⟨.inr rfl, ?_⟩; simp [Hands, Tryz.results35]))
end Go.Proofs.YtonajehhfkkglabGreat
