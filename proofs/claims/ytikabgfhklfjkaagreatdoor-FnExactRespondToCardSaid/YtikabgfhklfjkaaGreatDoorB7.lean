/-
  Proved here: steps towards the statement of this claim, text B7.
  No condition beyond what each statement spells out.
-/
import Derived.Test.YtikabgfhklfjkaaGreatDoorB6
import Derived.Test.YtikabgfhklfjkaaGreatDoorF6
set_option linter.all false
set_option linter.unusedSimpArgs false
set_option linter.unusedVariables false
set_option maxRecDepth 4000
set_option maxHeartbeats 4000000
namespace Go.Proofs.YtikabgfhklfjkaaGreatDoor
open Go.Aw
def fetchNet (n : DNet) (top : Str) (a : DAddr) : DNet :=
  if isAddr a = false then n else if (lookUp n.cache top a n.now).2 = true then n else if n.log.length < 400 then { n with log := n.log ++ [⟨top, a, true⟩] } else n
theorem implFetchNow_ok [Tabs Tryz.prog] (n : DNet) (top : Str) (a : DAddr) (hs : szNet n ≤ 274877906944) (ha : szAddr a ≤ 274877906944) : Ok Tryz.prog 123 [.agg (eNet .view n), .str top, .agg (eAddr a), .bool true] (.tup [.agg (eNet .own (fetchNet n top a)), .agg (eResponse (respondTo n top a))]) := by
  have c1 := copyNet_ok n hs
  have c2 := implIsAddr_ok a (by omega)
  have c3 := implNotFound_ok
  simp only [szNet, szCache, szL] at hs
  have c4 := implLookUp_ok n.cache top a n.now (by omega)
  have c5 := implAnswerTo_ok n.servers a (by simp only [szL]; omega)
  simp only [eNet] at c1
  simp only [eAddr] at c2 c4 c5
  simp only [eResponse] at c3 c4 c5
  simp only [eCache] at c4
  unfold fetchNet respondTo
  generalize isAddr a = b at *
  generalize lookUp n.cache top a n.now = q at *
  generalize answerTo n.servers a = y at *
  obtain ⟨x, ok⟩ := q
  simp only at c4
  cases b
  · refine entB Tryz.mix Tryz.func123 Tryz.ntmps123 ?_
    have W := trivial
    repeat' first|refine st ?_|(refine nx ?_;first|refine se ?_|refine so ?_)|(refine cx ?_;refine sc (fun hc=>?_) (fun hc=>?_)<;>try exact hc.elim)|(refine lx ?_;refine sp (fun hc=>?_) (fun hc=>?_)<;>try exact hc.elim)|refine sx ?_ ?_|refine sy ?_ ?_|fail
    all_goals (try (first | (refine ⟨.inr rfl, .inl ?_⟩; simp [Hands, Tryz.results123, notFound]; done) | (refine ⟨.inr rfl, .inr (handsB_of ?_)⟩; simp [AS.rvB, AS.rvs, AS.rv, Tryz.results123, notFound]; done) | (refine ⟨.inr rfl, .inl ?_⟩; simp [Hands, Tryz.results123, notFound])))
  · cases ok
    · by_cases h4 : n.log.length < 400
      · have h4' : (n.log.length : Int) < 400 := by omega
        obtain ⟨l0, hl0⟩ : ∃ l : List DSent, l = n.log ++ [⟨top, a, true⟩] := ⟨_, rfl⟩
        have hap : n.log.map eSent ++ [[.str top, .str a.host, .str a.path, .bool true]] = l0.map eSent := by rw [hl0]; simp
        rw [← hl0]
        clear hl0
        refine entB Tryz.mix Tryz.func123 Tryz.ntmps123 ?_
        have W := And.intro h4 (And.intro h4' hap)
        repeat' first|refine st ?_|(refine nx ?_;first|refine se ?_|refine so ?_)|(refine cx ?_;refine sc (fun hc=>?_) (fun hc=>?_)<;>try exact hc.elim)|(refine lx ?_;refine sp (fun hc=>?_) (fun hc=>?_)<;>try exact hc.elim)|refine sx ?_ ?_|refine sy ?_ ?_|fail
        all_goals (try (first | (refine ⟨.inr rfl, .inl ?_⟩; simp [Hands, Tryz.results123, h4]; done) | (refine ⟨.inr rfl, .inr (handsB_of ?_)⟩; simp [AS.rvB, AS.rvs, AS.rv, Tryz.results123, h4]; done) | (refine ⟨.inr rfl, .inl ?_⟩; simp [Hands, Tryz.results123, h4])))
      · have h4' : ¬ (n.log.length : Int) < 400 := by omega
        refine entB Tryz.mix Tryz.func123 Tryz.ntmps123 ?_
        have W := And.intro h4 h4'
        repeat' first|refine st ?_|(refine nx ?_;first|refine se ?_|refine so ?_)|(refine cx ?_;refine sc (fun hc=>?_) (fun hc=>?_)<;>try exact hc.elim)|(refine lx ?_;refine sp (fun hc=>?_) (fun hc=>?_)<;>try exact hc.elim)|refine sx ?_ ?_|refine sy ?_ ?_|fail
        all_goals (try (first | (refine ⟨.inr rfl, .inl ?_⟩; simp [Hands, Tryz.results123, h4]; done) | (refine ⟨.inr rfl, .inr (handsB_of ?_)⟩; simp [AS.rvB, AS.rvs, AS.rv, Tryz.results123, h4]; done) | (refine ⟨.inr rfl, .inl ?_⟩; simp [Hands, Tryz.results123, h4])))
    · refine entB Tryz.mix Tryz.func123 Tryz.ntmps123 ?_
      have W := trivial
      repeat' first|refine st ?_|(refine nx ?_;first|refine se ?_|refine so ?_)|(refine cx ?_;refine sc (fun hc=>?_) (fun hc=>?_)<;>try exact hc.elim)|(refine lx ?_;refine sp (fun hc=>?_) (fun hc=>?_)<;>try exact hc.elim)|refine sx ?_ ?_|refine sy ?_ ?_|fail
      all_goals (try (first | (refine ⟨.inr rfl, .inl ?_⟩; simp [Hands, Tryz.results123]; done) | (refine ⟨.inr rfl, .inr (handsB_of ?_)⟩; simp [AS.rvB, AS.rvs, AS.rv, Tryz.results123]; done) | (refine ⟨.inr rfl, .inl ?_⟩; simp [Hands, Tryz.results123])))
theorem specFetchNow_ok [Tabs Tryz.prog] (n : DNet) (top : Str) (a : DAddr) (hs : szNet n ≤ 274877906944) (ha : szAddr a ≤ 274877906944) : Ok Tryz.prog 119 [.agg (eNet .view n), .str top, .agg (eAddr a), .bool true] (.tup [.agg (eNet .own (fetchNet n top a)), .agg (eResponse (respondTo n top a))]) := by
  have c1 := l14Copy_ok n hs
  have c2 := specIsAddr_ok a (by omega)
  have c3 := specNotFound_ok
  simp only [szNet, szCache, szL] at hs
  have c4 := specLookUp_ok n.cache top a n.now (by omega)
  have c5 := specAnswerTo_ok n.servers a (by simp only [szL]; omega)
  simp only [eNet] at c1
  simp only [eAddr] at c2 c4 c5
  simp only [eResponse] at c3 c4 c5
  simp only [eCache] at c4
  unfold fetchNet respondTo
  generalize isAddr a = b at *
  generalize lookUp n.cache top a n.now = q at *
  generalize answerTo n.servers a = y at *
  obtain ⟨x, ok⟩ := q
  simp only at c4
  cases b
  · refine entB Tryz.mix Tryz.func119 Tryz.ntmps119 ?_
    have W := trivial
    repeat' first|refine st ?_|(refine nx ?_;first|refine se ?_|refine so ?_)|(refine cx ?_;refine sc (fun hc=>?_) (fun hc=>?_)<;>try exact hc.elim)|(refine lx ?_;refine sp (fun hc=>?_) (fun hc=>?_)<;>try exact hc.elim)|refine sx ?_ ?_|refine sy ?_ ?_|fail
    all_goals (try (first | (refine ⟨.inr rfl, .inl ?_⟩; simp [Hands, Tryz.results119, notFound]; done) | (refine ⟨.inr rfl, .inr (handsB_of ?_)⟩; simp [AS.rvB, AS.rvs, AS.rv, Tryz.results119, notFound]; done) | (refine ⟨.inr rfl, .inl ?_⟩; simp [Hands, Tryz.results119, notFound])))
  · cases ok
    · by_cases h4 : n.log.length < 400
      · have h4' : (n.log.length : Int) < 400 := by omega
        obtain ⟨l0, hl0⟩ : ∃ l : List DSent, l = n.log ++ [⟨top, a, true⟩] := ⟨_, rfl⟩
        have hap : n.log.map eSent ++ [[.str top, .str a.host, .str a.path, .bool true]] = l0.map eSent := by rw [hl0]; simp
        rw [← hl0]
        clear hl0
        refine entB Tryz.mix Tryz.func119 Tryz.ntmps119 ?_
        have W := And.intro h4 (And.intro h4' hap)
        repeat' first|refine st ?_|(refine nx ?_;first|refine se ?_|refine so ?_)|(refine cx ?_;refine sc (fun hc=>?_) (fun hc=>?_)<;>try exact hc.elim)|(refine lx ?_;refine sp (fun hc=>?_) (fun hc=>?_)<;>try exact hc.elim)|refine sx ?_ ?_|refine sy ?_ ?_|fail
        all_goals (try (first | (refine ⟨.inr rfl, .inl ?_⟩; simp [Hands, Tryz.results119, h4]; done) | (refine ⟨.inr rfl, .inr (handsB_of ?_)⟩; simp [AS.rvB, AS.rvs, AS.rv, Tryz.results119, h4]; done) | (refine ⟨.inr rfl, .inl ?_⟩; simp [Hands, Tryz.results119, h4])))
      · have h4' : ¬ (n.log.length : Int) < 400 := by omega
        refine entB Tryz.mix Tryz.func119 Tryz.ntmps119 ?_
        have W := And.intro h4 h4'
        repeat' first|refine st ?_|(refine nx ?_;first|refine se ?_|refine so ?_)|(refine cx ?_;refine sc (fun hc=>?_) (fun hc=>?_)<;>try exact hc.elim)|(refine lx ?_;refine sp (fun hc=>?_) (fun hc=>?_)<;>try exact hc.elim)|refine sx ?_ ?_|refine sy ?_ ?_|fail
        all_goals (try (first | (refine ⟨.inr rfl, .inl ?_⟩; simp [Hands, Tryz.results119, h4]; done) | (refine ⟨.inr rfl, .inr (handsB_of ?_)⟩; simp [AS.rvB, AS.rvs, AS.rv, Tryz.results119, h4]; done) | (refine ⟨.inr rfl, .inl ?_⟩; simp [Hands, Tryz.results119, h4])))
    · refine entB Tryz.mix Tryz.func119 Tryz.ntmps119 ?_
      have W := trivial
      repeat' first|refine st ?_|(refine nx ?_;first|refine se ?_|refine so ?_)|(refine cx ?_;refine sc (fun hc=>?_) (fun hc=>?_)<;>try exact hc.elim)|(refine lx ?_;refine sp (fun hc=>?_) (fun hc=>?_)<;>try exact hc.elim)|refine sx ?_ ?_|refine sy ?_ ?_|fail
      all_goals (try (first | (refine ⟨.inr rfl, .inl ?_⟩; simp [Hands, Tryz.results119]; done) | (refine ⟨.inr rfl, .inr (handsB_of ?_)⟩; simp [AS.rvB, AS.rvs, AS.rv, Tryz.results119]; done) | (refine ⟨.inr rfl, .inl ?_⟩; simp [Hands, Tryz.results119])))
theorem implRespondTo_ok [Tabs Tryz.prog] (n : DNet) (top : Str) (a : DAddr) (hs : szNet n ≤ 274877906944) (ha : szAddr a ≤ 274877906944) : Ok Tryz.prog 36 [.agg (eNet .view n), .str top, .agg (eAddr a)] (.agg (eResponse (respondTo n top a))) := by
  have c1 := implFetchNow_ok n top a hs ha
  generalize fetchNet n top a = m at *
  generalize respondTo n top a = x at *
  simp only [eNet, eAddr, eResponse] at c1
  refine ent Tryz.mix Tryz.func36 Tryz.ntmps36 ?_
  have W := trivial
  repeat' first|refine st ?_|(refine nx ?_;first|refine se ?_|refine so ?_)|(refine cx ?_;refine sc (fun hc=>?_) (fun hc=>?_)<;>try exact hc.elim)|(refine lx ?_;refine sp (fun hc=>?_) (fun hc=>?_)<;>try exact hc.elim)|refine sx ?_ ?_|refine sy ?_ ?_|fail
  all_goals (try (refine ⟨.inr rfl, ?_⟩; simp [Hands, Tryz.results36]))
theorem specRespondTo_ok [Tabs Tryz.prog] (n : DNet) (top : Str) (a : DAddr) (hs : szNet n ≤ 274877906944) (ha : szAddr a ≤ 274877906944) : Ok Tryz.prog 34 [.agg (eNet .view n), .str top, .agg (eAddr a)] (.agg (eResponse (respondTo n top a))) := by
  have c1 := specFetchNow_ok n top a hs ha
  generalize fetchNet n top a = m at *
  generalize respondTo n top a = x at *
  simp only [eNet, eAddr, eResponse] at c1
  refine ent Tryz.mix Tryz.func34 Tryz.ntmps34 ?_
  have W := trivial
  repeat' first|refine st ?_|(refine nx ?_;first|refine se ?_|refine so ?_)|(refine cx ?_;refine sc (fun hc=>?_) (fun hc=>?_)<;>try exact hc.elim)|(refine lx ?_;refine sp (fun hc=>?_) (fun hc=>?_)<;>try exact hc.elim)|refine sx ?_ ?_|refine sy ?_ ?_|fail
  all_goals (try (refine ⟨.inr rfl, ?_⟩; simp [Hands, Tryz.results34]))
end Go.Proofs.YtikabgfhklfjkaaGreatDoor
