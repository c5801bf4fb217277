/-
  Proved here: contracts of the copies of attributes, tokens and policies.
  No condition beyond what each statement spells out.
-/
import Derived.Test.YtonajehhfkkglabGreatU5
import Derived.Test.YtonajehhfkkglabGreatF6
set_option linter.all false
set_option maxRecDepth 4000
set_option maxHeartbeats 4000000
namespace Go.Proofs.YtonajehhfkkglabGreat
open Go.Aw
theorem map_succ {α β : Type} (f : α → β) (l : List α) (k : Nat) (h : k < l.length) : (l.take (k + 1)).map f = (l.take k).map f ++ [f l[k]] := by
  rw [List.take_succ_eq_append_getElem h, List.map_append]; rfl
theorem l6Attrs_ok [Tabs Tryz.prog] (l : List DAttr) (hl : l.length ≤ 1099511627776) : Ok Tryz.prog 71 [.sl .view 2 (l.map eAttr)] (.sl .own 2 (l.map eAttr)) := by
  refine ent Tryz.mix Tryz.func71 Tryz.ntmps71 ?_
  have W := trivial
  repeat' first|refine st ?_|(refine nx ?_;first|refine se ?_|refine so ?_)|(refine cx ?_;refine sc (fun hc=>?_) (fun hc=>?_)<;>try exact hc.elim)|(refine lx ?_;refine sp (fun hc=>?_) (fun hc=>?_)<;>try exact hc.elim)|refine sx ?_ ?_|refine sy ?_ ?_|fail
  all_goals (try (refine ⟨.inr rfl, ?_⟩; simp [Hands, Tryz.results71]))
theorem copyToken_ok [Tabs Tryz.prog] (t : DToken) (hl : t.attrs.length ≤ 1099511627776) : Ok Tryz.prog 110 [.agg (eToken .view t)] (.agg (eToken .own t)) := by
  refine ent Tryz.mix Tryz.func110 Tryz.ntmps110 ?_
  have W := trivial
  repeat' first|refine st ?_|(refine nx ?_;first|refine se ?_|refine so ?_)|(refine cx ?_;refine sc (fun hc=>?_) (fun hc=>?_)<;>try exact hc.elim)|(refine lx ?_;refine sp (fun hc=>?_) (fun hc=>?_)<;>try exact hc.elim)|refine sx ?_ ?_|refine sy ?_ ?_|fail
  all_goals (try (refine ⟨.inr rfl, ?_⟩; simp [Hands, Tryz.results110]))
theorem copyTokens_ok [Tabs Tryz.prog] (l : List DToken) (hs : szL szToken l ≤ 274877906944) : Ok Tryz.prog 82 [.sl .view 4 (l.map (eToken .view))] (.sl .own 4 (l.map (eToken .own))) := by
  simp only [szL] at hs
  refine ent Tryz.mix Tryz.func82 Tryz.ntmps82 ?_
  have W := trivial
  repeat' first|refine st ?_|(refine nx ?_;first|refine se ?_|refine so ?_)|(refine cx ?_;refine sc (fun hc=>?_) (fun hc=>?_)<;>try exact hc.elim)|(refine lx ?_;refine sp (fun hc=>?_) (fun hc=>?_)<;>try exact hc.elim)|refine sx ?_ ?_|refine sy ?_ ?_|fail
  refine awp_loop' (ι := { q : Nat × Nat // q.1 ≤ l.length ∧ 1 ≤ q.2 }) (fun t o i => ⟨upds t [(3, .obj 0 i.1.2), (9, .int .i64 i.1.1), (5, .undef)], o.take 0 ++ [⟨true, false, 4, i.1.2, (l.take i.1.1).map (eToken .own)⟩]⟩)
    (fun i => l.length - i.1.1) ⟨(0, 1), by simp, by first | (simp; done) | (simp only; omega)⟩ (weak_o (by simp) (by simp)) ?_
  rintro ⟨⟨k, v⟩, hk, hv⟩ K1 hK1
  simp only at hk hv
  simp only [upds, List.set_cons_succ, List.set_cons_zero, List.take_succ_cons, List.take_zero, List.cons_append, List.nil_append] at hK1 ⊢
  have hk1 : IntKind.i64.wrap ((k : Int) + 1) = ((k + 1 : Nat) : Int) := by rw [wrap64] <;> omega
  by_cases hlt : k < l.length
  · have hg := List.getElem?_eq_getElem hlt
    have hps := map_succ (eToken .own) l k hlt
    have hz := sumN_get_le szToken l k hlt
    simp only [szToken, szL] at hz
    have c1 := copyToken_ok l[k] (by omega)
    simp only [eToken] at c1
    have hgl : ((l.take k).map (eToken .own)).length = k := by simp; omega
    generalize (l.take k).map (eToken .own) = g at *
    have W := And.intro hk1 (And.intro hg (And.intro hlt hgl))
    repeat' first|refine st ?_|(refine nx ?_;first|refine se ?_|refine so ?_)|(refine cx ?_;refine sc (fun hc=>?_) (fun hc=>?_)<;>try exact hc.elim)|(refine lx ?_;refine sp (fun hc=>?_) (fun hc=>?_)<;>try exact hc.elim)|refine sx ?_ ?_|refine sy ?_ ?_|fail
    all_goals refine hK1 _ ⟨(k + 1, v + 1), by simp only; omega, by simp only; omega⟩ (weak_take 1 (by simp [hps]) (by simp) (by simp) (by simp)) (by simp only; omega)
  · have htk : l.take k = l := List.take_of_length_le (by omega)
    rw [htk]
    have W := hk1
    repeat' first|refine st ?_|(refine nx ?_;first|refine se ?_|refine so ?_)|(refine cx ?_;refine sc (fun hc=>?_) (fun hc=>?_)<;>try exact hc.elim)|(refine lx ?_;refine sp (fun hc=>?_) (fun hc=>?_)<;>try exact hc.elim)|refine sx ?_ ?_|refine sy ?_ ?_|fail
    all_goals (try (refine ⟨.inr rfl, ?_⟩; simp [Hands, Tryz.results82]))
theorem specTokens_ok [Tabs Tryz.prog] (l : List DToken) (hs : szL szToken l ≤ 274877906944) : Ok Tryz.prog 67 [.sl .view 4 (l.map (eToken .view))] (.sl .own 4 (l.map (eToken .own))) := by
  simp only [szL] at hs
  refine ent Tryz.mix Tryz.func67 Tryz.ntmps67 ?_
  have W := trivial
  repeat' first|refine st ?_|(refine nx ?_;first|refine se ?_|refine so ?_)|(refine cx ?_;refine sc (fun hc=>?_) (fun hc=>?_)<;>try exact hc.elim)|(refine lx ?_;refine sp (fun hc=>?_) (fun hc=>?_)<;>try exact hc.elim)|refine sx ?_ ?_|refine sy ?_ ?_|fail
  refine awp_loop' (ι := { q : Nat × Nat // q.1 ≤ l.length ∧ 1 ≤ q.2 }) (fun t o i => ⟨upds t [(3, .obj 0 i.1.2), (4, .int .i64 i.1.1), (5, .undef)], o.take 0 ++ [⟨true, false, 4, i.1.2, (l.take i.1.1).map (eToken .own)⟩]⟩)
    (fun i => l.length - i.1.1) ⟨(0, 1), by simp, by first | (simp; done) | (simp only; omega)⟩ (weak_o (by simp) (by simp)) ?_
  rintro ⟨⟨k, v⟩, hk, hv⟩ K1 hK1
  simp only at hk hv
  simp only [upds, List.set_cons_succ, List.set_cons_zero, List.take_succ_cons, List.take_zero, List.cons_append, List.nil_append] at hK1 ⊢
  have hk1 : IntKind.i64.wrap ((k : Int) + 1) = ((k + 1 : Nat) : Int) := by rw [wrap64] <;> omega
  by_cases hlt : k < l.length
  · have hg := List.getElem?_eq_getElem hlt
    have hps := map_succ (eToken .own) l k hlt
    have hz := sumN_get_le szToken l k hlt
    simp only [szToken, szL] at hz
    have c1 := l6Attrs_ok l[k].attrs (by omega)
    have hgl : ((l.take k).map (eToken .own)).length = k := by simp; omega
    generalize (l.take k).map (eToken .own) = g at *
    have W := And.intro hk1 (And.intro hg (And.intro hlt hgl))
    repeat' first|refine st ?_|(refine nx ?_;first|refine se ?_|refine so ?_)|(refine cx ?_;refine sc (fun hc=>?_) (fun hc=>?_)<;>try exact hc.elim)|(refine lx ?_;refine sp (fun hc=>?_) (fun hc=>?_)<;>try exact hc.elim)|refine sx ?_ ?_|refine sy ?_ ?_|fail
    all_goals refine hK1 _ ⟨(k + 1, v + 1), by simp only; omega, by simp only; omega⟩ (weak_take 1 (by simp [hps]) (by simp) (by simp) (by simp)) (by simp only; omega)
  · have htk : l.take k = l := List.take_of_length_le (by omega)
    rw [htk]
    have W := hk1
    repeat' first|refine st ?_|(refine nx ?_;first|refine se ?_|refine so ?_)|(refine cx ?_;refine sc (fun hc=>?_) (fun hc=>?_)<;>try exact hc.elim)|(refine lx ?_;refine sp (fun hc=>?_) (fun hc=>?_)<;>try exact hc.elim)|refine sx ?_ ?_|refine sy ?_ ?_|fail
    all_goals (try (refine ⟨.inr rfl, ?_⟩; simp [Hands, Tryz.results67]))
theorem copyPolicy_ok [Tabs Tryz.prog] (a : DPolicy) (hs : szPolicy a ≤ 274877906944) : Ok Tryz.prog 81 [.agg (ePolicy .view a)] (.agg (ePolicy .own a)) := by
  simp only [szPolicy, szL] at hs
  refine ent Tryz.mix Tryz.func81 Tryz.ntmps81 ?_
  have W := trivial
  repeat' first|refine st ?_|(refine nx ?_;first|refine se ?_|refine so ?_)|(refine cx ?_;refine sc (fun hc=>?_) (fun hc=>?_)<;>try exact hc.elim)|(refine lx ?_;refine sp (fun hc=>?_) (fun hc=>?_)<;>try exact hc.elim)|refine sx ?_ ?_|refine sy ?_ ?_|fail
  all_goals (try (refine ⟨.inr rfl, ?_⟩; simp [Hands, Tryz.results81]))
theorem specPolicy_ok [Tabs Tryz.prog] (a : DPolicy) (hs : szPolicy a ≤ 274877906944) : Ok Tryz.prog 66 [.agg (ePolicy .view a)] (.agg (ePolicy .own a)) := by
  simp only [szPolicy, szL] at hs
  refine ent Tryz.mix Tryz.func66 Tryz.ntmps66 ?_
  have W := trivial
  repeat' first|refine st ?_|(refine nx ?_;first|refine se ?_|refine so ?_)|(refine cx ?_;refine sc (fun hc=>?_) (fun hc=>?_)<;>try exact hc.elim)|(refine lx ?_;refine sp (fun hc=>?_) (fun hc=>?_)<;>try exact hc.elim)|refine sx ?_ ?_|refine sy ?_ ?_|fail
  all_goals (try (refine ⟨.inr rfl, ?_⟩; simp [Hands, Tryz.results66]))
def endText (t : DTokenizer) : List DToken := if t.rest = [] ∨ t.rest.head? = some 60 then [] else [⟨3, [], [], t.rest⟩]
end Go.Proofs.YtonajehhfkkglabGreat
