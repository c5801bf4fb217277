/-
  Proved here: steps towards the statement of this claim, text T5.
  No condition beyond what each statement spells out.
-/
import Derived.Test.YtonajehhfkkglaaGreatDoorT4
set_option linter.all false
set_option maxRecDepth 4000
set_option maxHeartbeats 4000000
namespace Go.Proofs.YtonajehhfkkglaaGreatDoor
open Go.Aw
def sheetOk (x : DSlot) : Bool := decide (x.mode = 2) && x.done && decide (x.code = 1)
def sheetsTo (l : List DSlot) : List DSheet := (l.filter sheetOk).map fun x => parseSheet x.body
def sheetsOf (p : DPage) : List DSheet := sheetsTo p.slots
theorem sheets_yes {l : List DSlot} {k : Nat} (h : k < l.length) (ho : sheetOk l[k] = true) : sheetsTo (l.take (k + 1)) = sheetsTo (l.take k) ++ [parseSheet l[k].body] := by
  unfold sheetsTo
  rw [List.take_succ_eq_append_getElem h, List.filter_append, List.map_append]
  simp [ho]
theorem sheets_no {l : List DSlot} {k : Nat} (h : k < l.length) (ho : sheetOk l[k] = false) : sheetsTo (l.take (k + 1)) = sheetsTo (l.take k) := by
  unfold sheetsTo
  rw [List.take_succ_eq_append_getElem h, List.filter_append]
  simp [ho]
theorem sheetsTo_len (l : List DSlot) : (sheetsTo l).length ≤ l.length := by
  unfold sheetsTo; rw [List.length_map]; exact List.length_filter_le _ _
theorem implSheetsOf_ok [Tabs Tryz.prog] [HasMax Tryz.prog] [HasPow Tryz.prog] [HasErr Tryz.prog] (p : DPage) (hs : szL szSlot p.slots ≤ 1073741824) : Ok Tryz.prog 38 [.agg (ePage .view p)] (.sl .own 1 ((sheetsOf p).map (eSheet .own))) := by
  simp only [szL] at hs
  unfold sheetsOf
  simp only [ePage]
  generalize p.slots = l at *
  refine ent Tryz.mix Tryz.func38 Tryz.ntmps38 ?_
  have W := trivial
  repeat' first|refine st ?_|(refine nx ?_;refine so ?_)|(refine cx ?_;refine sc (fun hc=>?_) (fun hc=>?_)<;>try exact hc.elim)|(refine lx ?_;refine sp (fun hc=>?_) (fun hc=>?_)<;>try exact hc.elim)|refine sx ?_ ?_|refine sy ?_ ?_|fail
  refine awp_loop' (ι := { q : Nat × Nat × List DSheet // (q.1 ≤ l.length ∧ 1 ≤ q.2.1) ∧ q.2.2 = sheetsTo (l.take q.1) }) (fun t o i => ⟨upds t [(10, .int .i64 i.1.1), (3, .obj 1 i.1.2.1)], o.take 1 ++ [⟨true, false, 1, i.1.2.1, i.1.2.2.map (eSheet .own)⟩]⟩)
    (fun i => l.length - i.1.1) ⟨(0, 1, []), by simp, by simp [sheetsTo]⟩ (weak_o (by simp) (by simp)) ?_
  rintro ⟨⟨k, v, acc⟩, ⟨hk, hv⟩, hacc⟩ K1 hK1
  simp only at hk hv hacc
  simp only [upds, List.set_cons_succ, List.set_cons_zero, List.take_succ_cons, List.take_zero, List.cons_append, List.nil_append] at hK1 ⊢
  have hk1 : IntKind.i64.wrap ((k : Int) + 1) = ((k + 1 : Nat) : Int) := by rw [wrap64] <;> omega
  by_cases hlt : k < l.length
  · have hg := List.getElem?_eq_getElem hlt
    have hwz := sumN_get_le szSlot l k hlt
    simp only [szSlot] at hwz
    have cP := implParseSheet_ok l[k].body (by omega)
    have n1 := @sheets_no l k hlt
    have n2 := @sheets_yes l k hlt
    have hal : acc.length ≤ k := by rw [hacc]; have := sheetsTo_len (l.take k); rw [List.length_take] at this; omega
    have hgl : (acc.map (eSheet .own)).length = acc.length := by simp
    rw [← hacc] at n1 n2
    generalize hE2 : sheetsTo (l.take (k + 1)) = acc2 at *
    generalize parseSheet l[k].body = sh at *
    unfold sheetOk at n1 n2
    by_cases h1 : l[k].mode = 2
    · cases h2 : l[k].done
      · have e2 := n1 (by simp [h2])
        have W := And.intro hk1 (And.intro hg (And.intro hlt (And.intro h1 h2)))
        repeat' first|refine st ?_|(refine nx ?_;refine so ?_)|(refine cx ?_;refine sc (fun hc=>?_) (fun hc=>?_)<;>try exact hc.elim)|(refine lx ?_;refine sp (fun hc=>?_) (fun hc=>?_)<;>try exact hc.elim)|refine sx ?_ ?_|refine sy ?_ ?_|fail
        all_goals exact hK1 _ ⟨(k + 1, v, acc), ⟨by simp only; omega, hv⟩, (by simp only; rw [hE2]; exact e2.symm)⟩ (weak_take 2 (by simp) (by simp) (by simp) (by simp)) (by simp only; omega)
      · by_cases h3 : l[k].code = 1
        · have e2 := n2 (by simp [h1, h2, h3])
          have hps : acc2.map (eSheet .own) = acc.map (eSheet .own) ++ [eSheet .own sh] := by rw [e2]; simp
          simp only [eSheet] at cP
          clear n1 n2
          generalize acc.map (eSheet .own) = g at *
          have W := And.intro hk1 (And.intro hg (And.intro hlt (And.intro h1 (And.intro h2 (And.intro h3 hgl)))))
          repeat' first|refine st ?_|(refine nx ?_;refine so ?_)|(refine cx ?_;refine sc (fun hc=>?_) (fun hc=>?_)<;>try exact hc.elim)|(refine lx ?_;refine sp (fun hc=>?_) (fun hc=>?_)<;>try exact hc.elim)|refine sx ?_ ?_|refine sy ?_ ?_|fail
          all_goals exact hK1 _ ⟨(k + 1, v + 1, acc2), ⟨by simp only; omega, by simp only; omega⟩, (by simp only; exact hE2.symm)⟩ (weak_take 2 (by simp [hps]) (by simp) (by simp) (by simp)) (by simp only; omega)
        · have e2 := n1 (by simp [h3])
          have W := And.intro hk1 (And.intro hg (And.intro hlt (And.intro h1 (And.intro h2 h3))))
          repeat' first|refine st ?_|(refine nx ?_;refine so ?_)|(refine cx ?_;refine sc (fun hc=>?_) (fun hc=>?_)<;>try exact hc.elim)|(refine lx ?_;refine sp (fun hc=>?_) (fun hc=>?_)<;>try exact hc.elim)|refine sx ?_ ?_|refine sy ?_ ?_|fail
          all_goals exact hK1 _ ⟨(k + 1, v, acc), ⟨by simp only; omega, hv⟩, (by simp only; rw [hE2]; exact e2.symm)⟩ (weak_take 2 (by simp) (by simp) (by simp) (by simp)) (by simp only; omega)
    · have e2 := n1 (by simp [h1])
      have W := And.intro hk1 (And.intro hg (And.intro hlt h1))
      repeat' first|refine st ?_|(refine nx ?_;refine so ?_)|(refine cx ?_;refine sc (fun hc=>?_) (fun hc=>?_)<;>try exact hc.elim)|(refine lx ?_;refine sp (fun hc=>?_) (fun hc=>?_)<;>try exact hc.elim)|refine sx ?_ ?_|refine sy ?_ ?_|fail
      all_goals exact hK1 _ ⟨(k + 1, v, acc), ⟨by simp only; omega, hv⟩, (by simp only; rw [hE2]; exact e2.symm)⟩ (weak_take 2 (by simp) (by simp) (by simp) (by simp)) (by simp only; omega)
  · have htk : l.take k = l := List.take_of_length_le (by omega)
    rw [htk] at hacc
    subst hacc
    have W := hk1
    repeat' first|refine st ?_|(refine nx ?_;refine so ?_)|(refine cx ?_;refine sc (fun hc=>?_) (fun hc=>?_)<;>try exact hc.elim)|(refine lx ?_;refine sp (fun hc=>?_) (fun hc=>?_)<;>try exact hc.elim)|refine sx ?_ ?_|refine sy ?_ ?_|fail
    all_goals (try (refine ⟨.inr rfl, ?_⟩; simp [Hands, Tryz.results38]))
theorem specSheetsOf_ok [Tabs Tryz.prog] [HasMax Tryz.prog] [HasPow Tryz.prog] (p : DPage) (hs : szL szSlot p.slots ≤ 1073741824) : Ok Tryz.prog 25 [.agg (ePage .view p)] (.sl .own 1 ((sheetsOf p).map (eSheet .own))) := by
  simp only [szL] at hs
  unfold sheetsOf
  simp only [ePage]
  generalize p.slots = l at *
  refine ent Tryz.mix Tryz.func25 Tryz.ntmps25 ?_
  have W := trivial
  repeat' first|refine st ?_|(refine nx ?_;refine so ?_)|(refine cx ?_;refine sc (fun hc=>?_) (fun hc=>?_)<;>try exact hc.elim)|(refine lx ?_;refine sp (fun hc=>?_) (fun hc=>?_)<;>try exact hc.elim)|refine sx ?_ ?_|refine sy ?_ ?_|fail
  refine awp_loop' (ι := { q : Nat × Nat × List DSheet // (q.1 ≤ l.length ∧ 1 ≤ q.2.1) ∧ q.2.2 = sheetsTo (l.take q.1) }) (fun t o i => ⟨upds t [(4, .int .i64 i.1.1), (3, .obj 1 i.1.2.1)], o.take 1 ++ [⟨true, false, 1, i.1.2.1, i.1.2.2.map (eSheet .own)⟩]⟩)
    (fun i => l.length - i.1.1) ⟨(0, 1, []), by simp, by simp [sheetsTo]⟩ (weak_o (by simp) (by simp)) ?_
  rintro ⟨⟨k, v, acc⟩, ⟨hk, hv⟩, hacc⟩ K1 hK1
  simp only at hk hv hacc
  simp only [upds, List.set_cons_succ, List.set_cons_zero, List.take_succ_cons, List.take_zero, List.cons_append, List.nil_append] at hK1 ⊢
  have hk1 : IntKind.i64.wrap ((k : Int) + 1) = ((k + 1 : Nat) : Int) := by rw [wrap64] <;> omega
  by_cases hlt : k < l.length
  · have hg := List.getElem?_eq_getElem hlt
    have hwz := sumN_get_le szSlot l k hlt
    simp only [szSlot] at hwz
    have cP := specParseSheet_ok l[k].body (by omega)
    have n1 := @sheets_no l k hlt
    have n2 := @sheets_yes l k hlt
    have hal : acc.length ≤ k := by rw [hacc]; have := sheetsTo_len (l.take k); rw [List.length_take] at this; omega
    have hgl : (acc.map (eSheet .own)).length = acc.length := by simp
    rw [← hacc] at n1 n2
    generalize hE2 : sheetsTo (l.take (k + 1)) = acc2 at *
    generalize parseSheet l[k].body = sh at *
    unfold sheetOk at n1 n2
    by_cases h1 : l[k].mode = 2
    · cases h2 : l[k].done
      · have e2 := n1 (by simp [h2])
        have W := And.intro hk1 (And.intro hg (And.intro hlt (And.intro h1 h2)))
        repeat' first|refine st ?_|(refine nx ?_;refine so ?_)|(refine cx ?_;refine sc (fun hc=>?_) (fun hc=>?_)<;>try exact hc.elim)|(refine lx ?_;refine sp (fun hc=>?_) (fun hc=>?_)<;>try exact hc.elim)|refine sx ?_ ?_|refine sy ?_ ?_|fail
        all_goals exact hK1 _ ⟨(k + 1, v, acc), ⟨by simp only; omega, hv⟩, (by simp only; rw [hE2]; exact e2.symm)⟩ (weak_take 2 (by simp) (by simp) (by simp) (by simp)) (by simp only; omega)
      · by_cases h3 : l[k].code = 1
        · have e2 := n2 (by simp [h1, h2, h3])
          have hps : acc2.map (eSheet .own) = acc.map (eSheet .own) ++ [eSheet .own sh] := by rw [e2]; simp
          simp only [eSheet] at cP
          clear n1 n2
          generalize acc.map (eSheet .own) = g at *
          have W := And.intro hk1 (And.intro hg (And.intro hlt (And.intro h1 (And.intro h2 (And.intro h3 hgl)))))
          repeat' first|refine st ?_|(refine nx ?_;refine so ?_)|(refine cx ?_;refine sc (fun hc=>?_) (fun hc=>?_)<;>try exact hc.elim)|(refine lx ?_;refine sp (fun hc=>?_) (fun hc=>?_)<;>try exact hc.elim)|refine sx ?_ ?_|refine sy ?_ ?_|fail
          all_goals exact hK1 _ ⟨(k + 1, v + 1, acc2), ⟨by simp only; omega, by simp only; omega⟩, (by simp only; exact hE2.symm)⟩ (weak_take 2 (by simp [hps]) (by simp) (by simp) (by simp)) (by simp only; omega)
        · have e2 := n1 (by simp [h3])
          have W := And.intro hk1 (And.intro hg (And.intro hlt (And.intro h1 (And.intro h2 h3))))
          repeat' first|refine st ?_|(refine nx ?_;refine so ?_)|(refine cx ?_;refine sc (fun hc=>?_) (fun hc=>?_)<;>try exact hc.elim)|(refine lx ?_;refine sp (fun hc=>?_) (fun hc=>?_)<;>try exact hc.elim)|refine sx ?_ ?_|refine sy ?_ ?_|fail
          all_goals exact hK1 _ ⟨(k + 1, v, acc), ⟨by simp only; omega, hv⟩, (by simp only; rw [hE2]; exact e2.symm)⟩ (weak_take 2 (by simp) (by simp) (by simp) (by simp)) (by simp only; omega)
    · have e2 := n1 (by simp [h1])
      have W := And.intro hk1 (And.intro hg (And.intro hlt h1))
      repeat' first|refine st ?_|(refine nx ?_;refine so ?_)|(refine cx ?_;refine sc (fun hc=>?_) (fun hc=>?_)<;>try exact hc.elim)|(refine lx ?_;refine sp (fun hc=>?_) (fun hc=>?_)<;>try exact hc.elim)|refine sx ?_ ?_|refine sy ?_ ?_|fail
      all_goals exact hK1 _ ⟨(k + 1, v, acc), ⟨by simp only; omega, hv⟩, (by simp only; rw [hE2]; exact e2.symm)⟩ (weak_take 2 (by simp) (by simp) (by simp) (by simp)) (by simp only; omega)
  · have htk : l.take k = l := List.take_of_length_le (by omega)
    rw [htk] at hacc
    subst hacc
    have W := hk1
    repeat' first|refine st ?_|(refine nx ?_;refine so ?_)|(refine cx ?_;refine sc (fun hc=>?_) (fun hc=>?_)<;>try exact hc.elim)|(refine lx ?_;refine sp (fun hc=>?_) (fun hc=>?_)<;>try exact hc.elim)|refine sx ?_ ?_|refine sy ?_ ?_|fail
    all_goals (try (refine ⟨.inr rfl, ?_⟩; simp [Hands, Tryz.results25]))
end Go.Proofs.YtonajehhfkkglaaGreatDoor
