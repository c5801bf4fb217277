/-
  Proved here: steps towards the statement of this claim, text N3.
  No condition beyond what each statement spells out.
-/
import Derived.Test.YtonajehhfkkglaaGreatDoorSN1
set_option linter.all false
set_option maxRecDepth 4000
set_option maxHeartbeats 400000
namespace Go.Proofs.YtonajehhfkkglaaGreatDoor
open Go.Aw
def verdictName (v : Int) : Str := if v = 1 then [111, 107] else if v = 2 then [112, 111, 108, 105, 99, 121] else if v = 3 then [115, 116, 97, 116, 117, 115] else if v = 4 then [107, 105, 110, 100] else if v = 5 then [115, 104, 97, 114, 101] else if v = 6 then [100, 105, 103, 101, 115, 116] else []
theorem specVerdictName_ok [Tabs Tryz.prog] (v : Int) : Ok Tryz.prog 98 [.int .i64 v] (.str (verdictName v)) := by
  have c1 := specIn_ok v 1 6
  rcases (show (decide (1 ≤ v) && decide (v ≤ 6)) = false ∨ v = 1 ∨ v = 2 ∨ v = 3 ∨ v = 4 ∨ v = 5 ∨ v = 6 by simp; omega) with h | rfl | rfl | rfl | rfl | rfl | rfl
  · have e : verdictName v = [] := by
      simp at h
      simp only [verdictName]
      repeat rw [if_neg (by omega)]
    rw [h] at c1
    rw [e]
    refine ent Tryz.mix Tryz.func98 Tryz.ntmps98 ?_
    have W := trivial
    repeat' first|refine st ?_|(refine nx ?_;refine so ?_)|(refine cx ?_;refine sc (fun hc=>?_) (fun hc=>?_)<;>try exact hc.elim)|(refine lx ?_;refine sp (fun hc=>?_) (fun hc=>?_)<;>try exact hc.elim)|refine sx ?_ ?_|refine sy ?_ ?_|fail
    all_goals (try (refine ⟨.inr rfl, ?_⟩; simp [Hands, Tryz.results98]))
  · simp at c1
    refine ent Tryz.mix Tryz.func98 Tryz.ntmps98 ?_
    have W := trivial
    repeat' first|refine st ?_|(refine nx ?_;refine so ?_)|(refine cx ?_;refine sc (fun hc=>?_) (fun hc=>?_)<;>try exact hc.elim)|(refine lx ?_;refine sp (fun hc=>?_) (fun hc=>?_)<;>try exact hc.elim)|refine sx ?_ ?_|refine sy ?_ ?_|fail
    all_goals (try (refine ⟨.inr rfl, ?_⟩; simp [Hands, Tryz.results98, verdictName]))
  · simp at c1
    refine ent Tryz.mix Tryz.func98 Tryz.ntmps98 ?_
    have W := trivial
    repeat' first|refine st ?_|(refine nx ?_;refine so ?_)|(refine cx ?_;refine sc (fun hc=>?_) (fun hc=>?_)<;>try exact hc.elim)|(refine lx ?_;refine sp (fun hc=>?_) (fun hc=>?_)<;>try exact hc.elim)|refine sx ?_ ?_|refine sy ?_ ?_|fail
    all_goals (try (refine ⟨.inr rfl, ?_⟩; simp [Hands, Tryz.results98, verdictName]))
  · simp at c1
    refine ent Tryz.mix Tryz.func98 Tryz.ntmps98 ?_
    have W := trivial
    repeat' first|refine st ?_|(refine nx ?_;refine so ?_)|(refine cx ?_;refine sc (fun hc=>?_) (fun hc=>?_)<;>try exact hc.elim)|(refine lx ?_;refine sp (fun hc=>?_) (fun hc=>?_)<;>try exact hc.elim)|refine sx ?_ ?_|refine sy ?_ ?_|fail
    all_goals (try (refine ⟨.inr rfl, ?_⟩; simp [Hands, Tryz.results98, verdictName]))
  · simp at c1
    refine ent Tryz.mix Tryz.func98 Tryz.ntmps98 ?_
    have W := trivial
    repeat' first|refine st ?_|(refine nx ?_;refine so ?_)|(refine cx ?_;refine sc (fun hc=>?_) (fun hc=>?_)<;>try exact hc.elim)|(refine lx ?_;refine sp (fun hc=>?_) (fun hc=>?_)<;>try exact hc.elim)|refine sx ?_ ?_|refine sy ?_ ?_|fail
    all_goals (try (refine ⟨.inr rfl, ?_⟩; simp [Hands, Tryz.results98, verdictName]))
  · simp at c1
    refine ent Tryz.mix Tryz.func98 Tryz.ntmps98 ?_
    have W := trivial
    repeat' first|refine st ?_|(refine nx ?_;refine so ?_)|(refine cx ?_;refine sc (fun hc=>?_) (fun hc=>?_)<;>try exact hc.elim)|(refine lx ?_;refine sp (fun hc=>?_) (fun hc=>?_)<;>try exact hc.elim)|refine sx ?_ ?_|refine sy ?_ ?_|fail
    all_goals (try (refine ⟨.inr rfl, ?_⟩; simp [Hands, Tryz.results98, verdictName]))
  · simp at c1
    refine ent Tryz.mix Tryz.func98 Tryz.ntmps98 ?_
    have W := trivial
    repeat' first|refine st ?_|(refine nx ?_;refine so ?_)|(refine cx ?_;refine sc (fun hc=>?_) (fun hc=>?_)<;>try exact hc.elim)|(refine lx ?_;refine sp (fun hc=>?_) (fun hc=>?_)<;>try exact hc.elim)|refine sx ?_ ?_|refine sy ?_ ?_|fail
    all_goals (try (refine ⟨.inr rfl, ?_⟩; simp [Hands, Tryz.results98, verdictName]))
theorem implVerdictName_ok [Tabs Tryz.prog] (v : Int) : Ok Tryz.prog 107 [.int .i64 v] (.str (verdictName v)) := by
  have c1 := implIn_ok v 1 6
  rcases (show (decide (1 ≤ v) && decide (v ≤ 6)) = false ∨ v = 1 ∨ v = 2 ∨ v = 3 ∨ v = 4 ∨ v = 5 ∨ v = 6 by simp; omega) with h | rfl | rfl | rfl | rfl | rfl | rfl
  · have e : verdictName v = [] := by
      simp at h
      simp only [verdictName]
      repeat rw [if_neg (by omega)]
    rw [h] at c1
    rw [e]
    refine ent Tryz.mix Tryz.func107 Tryz.ntmps107 ?_
    have W := trivial
    repeat' first|refine st ?_|(refine nx ?_;refine so ?_)|(refine cx ?_;refine sc (fun hc=>?_) (fun hc=>?_)<;>try exact hc.elim)|(refine lx ?_;refine sp (fun hc=>?_) (fun hc=>?_)<;>try exact hc.elim)|refine sx ?_ ?_|refine sy ?_ ?_|fail
    all_goals (try (refine ⟨.inr rfl, ?_⟩; simp [Hands, Tryz.results107]))
  · simp at c1
    refine ent Tryz.mix Tryz.func107 Tryz.ntmps107 ?_
    have W := trivial
    repeat' first|refine st ?_|(refine nx ?_;refine so ?_)|(refine cx ?_;refine sc (fun hc=>?_) (fun hc=>?_)<;>try exact hc.elim)|(refine lx ?_;refine sp (fun hc=>?_) (fun hc=>?_)<;>try exact hc.elim)|refine sx ?_ ?_|refine sy ?_ ?_|fail
    all_goals (try (refine ⟨.inr rfl, ?_⟩; simp [Hands, Tryz.results107, verdictName]))
  · simp at c1
    refine ent Tryz.mix Tryz.func107 Tryz.ntmps107 ?_
    have W := trivial
    repeat' first|refine st ?_|(refine nx ?_;refine so ?_)|(refine cx ?_;refine sc (fun hc=>?_) (fun hc=>?_)<;>try exact hc.elim)|(refine lx ?_;refine sp (fun hc=>?_) (fun hc=>?_)<;>try exact hc.elim)|refine sx ?_ ?_|refine sy ?_ ?_|fail
    all_goals (try (refine ⟨.inr rfl, ?_⟩; simp [Hands, Tryz.results107, verdictName]))
  · simp at c1
    refine ent Tryz.mix Tryz.func107 Tryz.ntmps107 ?_
    have W := trivial
    repeat' first|refine st ?_|(refine nx ?_;refine so ?_)|(refine cx ?_;refine sc (fun hc=>?_) (fun hc=>?_)<;>try exact hc.elim)|(refine lx ?_;refine sp (fun hc=>?_) (fun hc=>?_)<;>try exact hc.elim)|refine sx ?_ ?_|refine sy ?_ ?_|fail
    all_goals (try (refine ⟨.inr rfl, ?_⟩; simp [Hands, Tryz.results107, verdictName]))
  · simp at c1
    refine ent Tryz.mix Tryz.func107 Tryz.ntmps107 ?_
    have W := trivial
    repeat' first|refine st ?_|(refine nx ?_;refine so ?_)|(refine cx ?_;refine sc (fun hc=>?_) (fun hc=>?_)<;>try exact hc.elim)|(refine lx ?_;refine sp (fun hc=>?_) (fun hc=>?_)<;>try exact hc.elim)|refine sx ?_ ?_|refine sy ?_ ?_|fail
    all_goals (try (refine ⟨.inr rfl, ?_⟩; simp [Hands, Tryz.results107, verdictName]))
  · simp at c1
    refine ent Tryz.mix Tryz.func107 Tryz.ntmps107 ?_
    have W := trivial
    repeat' first|refine st ?_|(refine nx ?_;refine so ?_)|(refine cx ?_;refine sc (fun hc=>?_) (fun hc=>?_)<;>try exact hc.elim)|(refine lx ?_;refine sp (fun hc=>?_) (fun hc=>?_)<;>try exact hc.elim)|refine sx ?_ ?_|refine sy ?_ ?_|fail
    all_goals (try (refine ⟨.inr rfl, ?_⟩; simp [Hands, Tryz.results107, verdictName]))
  · simp at c1
    refine ent Tryz.mix Tryz.func107 Tryz.ntmps107 ?_
    have W := trivial
    repeat' first|refine st ?_|(refine nx ?_;refine so ?_)|(refine cx ?_;refine sc (fun hc=>?_) (fun hc=>?_)<;>try exact hc.elim)|(refine lx ?_;refine sp (fun hc=>?_) (fun hc=>?_)<;>try exact hc.elim)|refine sx ?_ ?_|refine sy ?_ ?_|fail
    all_goals (try (refine ⟨.inr rfl, ?_⟩; simp [Hands, Tryz.results107, verdictName]))
def kindName (v : Int) : Str := if v = 1 then [112, 97, 103, 101] else if v = 2 then [115, 99, 114, 105, 112, 116] else if v = 3 then [115, 116, 121, 108, 101] else if v = 4 then [105, 109, 97, 103, 101] else if v = 5 then [109, 111, 100, 117, 108, 101] else []
theorem specKindName_ok [Tabs Tryz.prog] (v : Int) : Ok Tryz.prog 99 [.int .i64 v] (.str (kindName v)) := by
  have c1 := specIn_ok v 1 5
  rcases (show (decide (1 ≤ v) && decide (v ≤ 5)) = false ∨ v = 1 ∨ v = 2 ∨ v = 3 ∨ v = 4 ∨ v = 5 by simp; omega) with h | rfl | rfl | rfl | rfl | rfl
  · have e : kindName v = [] := by
      simp at h
      simp only [kindName]
      repeat rw [if_neg (by omega)]
    rw [h] at c1
    rw [e]
    refine ent Tryz.mix Tryz.func99 Tryz.ntmps99 ?_
    have W := trivial
    repeat' first|refine st ?_|(refine nx ?_;refine so ?_)|(refine cx ?_;refine sc (fun hc=>?_) (fun hc=>?_)<;>try exact hc.elim)|(refine lx ?_;refine sp (fun hc=>?_) (fun hc=>?_)<;>try exact hc.elim)|refine sx ?_ ?_|refine sy ?_ ?_|fail
    all_goals (try (refine ⟨.inr rfl, ?_⟩; simp [Hands, Tryz.results99]))
  · simp at c1
    refine ent Tryz.mix Tryz.func99 Tryz.ntmps99 ?_
    have W := trivial
    repeat' first|refine st ?_|(refine nx ?_;refine so ?_)|(refine cx ?_;refine sc (fun hc=>?_) (fun hc=>?_)<;>try exact hc.elim)|(refine lx ?_;refine sp (fun hc=>?_) (fun hc=>?_)<;>try exact hc.elim)|refine sx ?_ ?_|refine sy ?_ ?_|fail
    all_goals (try (refine ⟨.inr rfl, ?_⟩; simp [Hands, Tryz.results99, kindName]))
  · simp at c1
    refine ent Tryz.mix Tryz.func99 Tryz.ntmps99 ?_
    have W := trivial
    repeat' first|refine st ?_|(refine nx ?_;refine so ?_)|(refine cx ?_;refine sc (fun hc=>?_) (fun hc=>?_)<;>try exact hc.elim)|(refine lx ?_;refine sp (fun hc=>?_) (fun hc=>?_)<;>try exact hc.elim)|refine sx ?_ ?_|refine sy ?_ ?_|fail
    all_goals (try (refine ⟨.inr rfl, ?_⟩; simp [Hands, Tryz.results99, kindName]))
  · simp at c1
    refine ent Tryz.mix Tryz.func99 Tryz.ntmps99 ?_
    have W := trivial
    repeat' first|refine st ?_|(refine nx ?_;refine so ?_)|(refine cx ?_;refine sc (fun hc=>?_) (fun hc=>?_)<;>try exact hc.elim)|(refine lx ?_;refine sp (fun hc=>?_) (fun hc=>?_)<;>try exact hc.elim)|refine sx ?_ ?_|refine sy ?_ ?_|fail
    all_goals (try (refine ⟨.inr rfl, ?_⟩; simp [Hands, Tryz.results99, kindName]))
  · simp at c1
    refine ent Tryz.mix Tryz.func99 Tryz.ntmps99 ?_
    have W := trivial
    repeat' first|refine st ?_|(refine nx ?_;refine so ?_)|(refine cx ?_;refine sc (fun hc=>?_) (fun hc=>?_)<;>try exact hc.elim)|(refine lx ?_;refine sp (fun hc=>?_) (fun hc=>?_)<;>try exact hc.elim)|refine sx ?_ ?_|refine sy ?_ ?_|fail
    all_goals (try (refine ⟨.inr rfl, ?_⟩; simp [Hands, Tryz.results99, kindName]))
  · simp at c1
    refine ent Tryz.mix Tryz.func99 Tryz.ntmps99 ?_
    have W := trivial
    repeat' first|refine st ?_|(refine nx ?_;refine so ?_)|(refine cx ?_;refine sc (fun hc=>?_) (fun hc=>?_)<;>try exact hc.elim)|(refine lx ?_;refine sp (fun hc=>?_) (fun hc=>?_)<;>try exact hc.elim)|refine sx ?_ ?_|refine sy ?_ ?_|fail
    all_goals (try (refine ⟨.inr rfl, ?_⟩; simp [Hands, Tryz.results99, kindName]))
theorem implKindName_ok [Tabs Tryz.prog] (v : Int) : Ok Tryz.prog 108 [.int .i64 v] (.str (kindName v)) := by
  have c1 := implIn_ok v 1 5
  rcases (show (decide (1 ≤ v) && decide (v ≤ 5)) = false ∨ v = 1 ∨ v = 2 ∨ v = 3 ∨ v = 4 ∨ v = 5 by simp; omega) with h | rfl | rfl | rfl | rfl | rfl
  · have e : kindName v = [] := by
      simp at h
      simp only [kindName]
      repeat rw [if_neg (by omega)]
    rw [h] at c1
    rw [e]
    refine ent Tryz.mix Tryz.func108 Tryz.ntmps108 ?_
    have W := trivial
    repeat' first|refine st ?_|(refine nx ?_;refine so ?_)|(refine cx ?_;refine sc (fun hc=>?_) (fun hc=>?_)<;>try exact hc.elim)|(refine lx ?_;refine sp (fun hc=>?_) (fun hc=>?_)<;>try exact hc.elim)|refine sx ?_ ?_|refine sy ?_ ?_|fail
    all_goals (try (refine ⟨.inr rfl, ?_⟩; simp [Hands, Tryz.results108]))
  · simp at c1
    refine ent Tryz.mix Tryz.func108 Tryz.ntmps108 ?_
    have W := trivial
    repeat' first|refine st ?_|(refine nx ?_;refine so ?_)|(refine cx ?_;refine sc (fun hc=>?_) (fun hc=>?_)<;>try exact hc.elim)|(refine lx ?_;refine sp (fun hc=>?_) (fun hc=>?_)<;>try exact hc.elim)|refine sx ?_ ?_|refine sy ?_ ?_|fail
    all_goals (try (refine ⟨.inr rfl, ?_⟩; simp [Hands, Tryz.results108, kindName]))
  · simp at c1
    refine ent Tryz.mix Tryz.func108 Tryz.ntmps108 ?_
    have W := trivial
    repeat' first|refine st ?_|(refine nx ?_;refine so ?_)|(refine cx ?_;refine sc (fun hc=>?_) (fun hc=>?_)<;>try exact hc.elim)|(refine lx ?_;refine sp (fun hc=>?_) (fun hc=>?_)<;>try exact hc.elim)|refine sx ?_ ?_|refine sy ?_ ?_|fail
    all_goals (try (refine ⟨.inr rfl, ?_⟩; simp [Hands, Tryz.results108, kindName]))
  · simp at c1
    refine ent Tryz.mix Tryz.func108 Tryz.ntmps108 ?_
    have W := trivial
    repeat' first|refine st ?_|(refine nx ?_;refine so ?_)|(refine cx ?_;refine sc (fun hc=>?_) (fun hc=>?_)<;>try exact hc.elim)|(refine lx ?_;refine sp (fun hc=>?_) (fun hc=>?_)<;>try exact hc.elim)|refine sx ?_ ?_|refine sy ?_ ?_|fail
    all_goals (try (refine ⟨.inr rfl, ?_⟩; simp [Hands, Tryz.results108, kindName]))
  · simp at c1
    refine ent Tryz.mix Tryz.func108 Tryz.ntmps108 ?_
    have W := trivial
    repeat' first|refine st ?_|(refine nx ?_;refine so ?_)|(refine cx ?_;refine sc (fun hc=>?_) (fun hc=>?_)<;>try exact hc.elim)|(refine lx ?_;refine sp (fun hc=>?_) (fun hc=>?_)<;>try exact hc.elim)|refine sx ?_ ?_|refine sy ?_ ?_|fail
    all_goals (try (refine ⟨.inr rfl, ?_⟩; simp [Hands, Tryz.results108, kindName]))
  · simp at c1
    refine ent Tryz.mix Tryz.func108 Tryz.ntmps108 ?_
    have W := trivial
    repeat' first|refine st ?_|(refine nx ?_;refine so ?_)|(refine cx ?_;refine sc (fun hc=>?_) (fun hc=>?_)<;>try exact hc.elim)|(refine lx ?_;refine sp (fun hc=>?_) (fun hc=>?_)<;>try exact hc.elim)|refine sx ?_ ?_|refine sy ?_ ?_|fail
    all_goals (try (refine ⟨.inr rfl, ?_⟩; simp [Hands, Tryz.results108, kindName]))
def verdictText (k : Int) (a : DAddr) (d : Bool) (c : Int) : Str := kindName k ++ [32] ++ (if formatAddr a = [] then [45] else formatAddr a) ++ [32] ++ (if d = true then verdictName c else [111, 112, 101, 110])
theorem specFormatAddr_ok [Tabs Tryz.prog] (a : DAddr) (hl : szAddr a ≤ 1048576) : Ok Tryz.prog 97 [.agg (eAddr a)] (.str (formatAddr a)) := by
  have c1 := specIsAddr_ok a (by omega)
  simp only [szAddr] at hl
  have f1 : a.host.length ≤ 9223372036854775806 := by omega
  have f2 : a.host.length + 1 ≤ 9223372036854775807 := by omega
  have f3 : a.host.length + 1 + a.path.length ≤ 9223372036854775807 := by omega
  have f4 : a.host.length + (a.path.length + 1) ≤ 9223372036854775807 := by omega
  refine ent Tryz.mix Tryz.func97 Tryz.ntmps97 ?_
  have W := And.intro f1 (And.intro f2 (And.intro f3 f4))
  repeat' first|refine st ?_|(refine nx ?_;refine so ?_)|(refine cx ?_;refine sc (fun hc=>?_) (fun hc=>?_)<;>try exact hc.elim)|(refine lx ?_;refine sp (fun hc=>?_) (fun hc=>?_)<;>try exact hc.elim)|refine sx ?_ ?_|refine sy ?_ ?_|fail
  all_goals (try (refine ⟨.inr rfl, ?_⟩; simp [Hands, Tryz.results97, formatAddr]))
  all_goals simp_all [formatAddr]
theorem formatAddr_len (a : DAddr) : (formatAddr a).length ≤ 17 := by
  unfold formatAddr
  split
  · rename_i h
    simp [isAddr, isName] at h
    simp
    omega
  · simp
theorem verdictName_len (v : Int) : (verdictName v).length ≤ 8 := by
  unfold verdictName
  repeat' split
  all_goals simp
theorem kindName_len (v : Int) : (kindName v).length ≤ 8 := by
  unfold kindName
  repeat' split
  all_goals simp
theorem verdictText_len (k : Int) (a : DAddr) (d : Bool) (c : Int) : (verdictText k a d c).length ≤ 40 := by
  have h1 := formatAddr_len a
  have h2 := verdictName_len c
  have h3 := kindName_len k
  unfold verdictText
  split <;> split <;> simp <;> omega
theorem implFormatAddr_ok [Tabs Tryz.prog] (a : DAddr) (hl : szAddr a ≤ 1048576) : Ok Tryz.prog 106 [.agg (eAddr a)] (.str (formatAddr a)) := by
  have c1 := implIsAddr_ok a (by omega)
  simp only [szAddr] at hl
  have f1 : a.host.length ≤ 9223372036854775806 := by omega
  have f2 : a.host.length + 1 ≤ 9223372036854775807 := by omega
  have f3 : a.host.length + 1 + a.path.length ≤ 9223372036854775807 := by omega
  have f4 : a.host.length + (a.path.length + 1) ≤ 9223372036854775807 := by omega
  refine ent Tryz.mix Tryz.func106 Tryz.ntmps106 ?_
  have W := And.intro f1 (And.intro f2 (And.intro f3 f4))
  repeat' first|refine st ?_|(refine nx ?_;refine so ?_)|(refine cx ?_;refine sc (fun hc=>?_) (fun hc=>?_)<;>try exact hc.elim)|(refine lx ?_;refine sp (fun hc=>?_) (fun hc=>?_)<;>try exact hc.elim)|refine sx ?_ ?_|refine sy ?_ ?_|fail
  all_goals (try (refine ⟨.inr rfl, ?_⟩; simp [Hands, Tryz.results106, formatAddr]))
  all_goals simp_all [formatAddr]
theorem specVerdict_ok [Tabs Tryz.prog] (k : Int) (a : DAddr) (d : Bool) (c : Int) (hl : szAddr a ≤ 1048576) : Ok Tryz.prog 66 [.int .i64 k, .agg (eAddr a), .bool d, .int .i64 c] (.str (verdictText k a d c)) := by
  have c1 := specFormatAddr_ok a hl
  have c2 := specVerdictName_ok c
  have c3 := specKindName_ok k
  have h1 := formatAddr_len a
  have h2 := verdictName_len c
  have h3 := kindName_len k
  have g1 : (kindName k).length ≤ 9223372036854775806 := by omega
  have g2 : (kindName k).length ≤ 9223372036854775805 := by omega
  have g3 : (kindName k).length ≤ 9223372036854775804 := by omega
  have g4 : (kindName k).length ≤ 9223372036854775800 := by omega
  have g5 : (kindName k).length + 1 + (formatAddr a).length ≤ 9223372036854775807 := by omega
  have g6 : (kindName k).length + 1 + (formatAddr a).length ≤ 9223372036854775806 := by omega
  have g7 : (kindName k).length + 1 + (formatAddr a).length + 1 + (verdictName c).length ≤ 9223372036854775807 := by omega
  have g8 : (kindName k).length + 1 + (formatAddr a).length ≤ 9223372036854775802 := by omega
  have g9 : (kindName k).length + 3 + (verdictName c).length ≤ 9223372036854775807 := by omega
  have g10 : (kindName k).length + 1 + 1 + 1 + (verdictName c).length ≤ 9223372036854775807 := by omega
  have g11 : (kindName k).length + ((formatAddr a).length + 1) ≤ 9223372036854775806 := by omega
  have g12 : (kindName k).length + ((formatAddr a).length + 1 + 1) + (verdictName c).length ≤ 9223372036854775807 := by omega
  have g13 : (kindName k).length + ((formatAddr a).length + 2) + (verdictName c).length ≤ 9223372036854775807 := by omega
  have g14 : (kindName k).length + ((formatAddr a).length + 1 + 1) ≤ 9223372036854775803 := by omega
  have g15 : (kindName k).length + ((formatAddr a).length + 2) ≤ 9223372036854775803 := by omega
  refine ent Tryz.mix Tryz.func66 Tryz.ntmps66 ?_
  have W := And.intro g1 (And.intro g2 (And.intro g3 (And.intro g4 (And.intro g5 (And.intro g6 (And.intro g7 (And.intro g8 (And.intro g9 (And.intro g10 (And.intro g11 (And.intro g12 (And.intro g13 (And.intro g14 g15)))))))))))))
  repeat' first|refine st ?_|(refine nx ?_;refine so ?_)|(refine cx ?_;refine sc (fun hc=>?_) (fun hc=>?_)<;>try exact hc.elim)|(refine lx ?_;refine sp (fun hc=>?_) (fun hc=>?_)<;>try exact hc.elim)|refine sx ?_ ?_|refine sy ?_ ?_|fail
  all_goals (try (refine ⟨.inr rfl, ?_⟩; simp [Hands, Tryz.results66, verdictText]))
  all_goals simp_all [verdictText]
theorem implVerdict_ok [Tabs Tryz.prog] (k : Int) (a : DAddr) (d : Bool) (c : Int) (hl : szAddr a ≤ 1048576) : Ok Tryz.prog 75 [.int .i64 k, .agg (eAddr a), .bool d, .int .i64 c] (.str (verdictText k a d c)) := by
  have c1 := implFormatAddr_ok a hl
  have c2 := implVerdictName_ok c
  have c3 := implKindName_ok k
  have h1 := formatAddr_len a
  have h2 := verdictName_len c
  have h3 := kindName_len k
  have g1 : (kindName k).length ≤ 9223372036854775806 := by omega
  have g2 : (kindName k).length ≤ 9223372036854775805 := by omega
  have g3 : (kindName k).length ≤ 9223372036854775804 := by omega
  have g4 : (kindName k).length ≤ 9223372036854775800 := by omega
  have g5 : (kindName k).length + 1 + (formatAddr a).length ≤ 9223372036854775807 := by omega
  have g6 : (kindName k).length + 1 + (formatAddr a).length ≤ 9223372036854775806 := by omega
  have g7 : (kindName k).length + 1 + (formatAddr a).length + 1 + (verdictName c).length ≤ 9223372036854775807 := by omega
  have g8 : (kindName k).length + 1 + (formatAddr a).length ≤ 9223372036854775802 := by omega
  have g9 : (kindName k).length + 3 + (verdictName c).length ≤ 9223372036854775807 := by omega
  have g10 : (kindName k).length + 1 + 1 + 1 + (verdictName c).length ≤ 9223372036854775807 := by omega
  have g11 : (kindName k).length + ((formatAddr a).length + 1) ≤ 9223372036854775806 := by omega
  have g12 : (kindName k).length + ((formatAddr a).length + 1 + 1) + (verdictName c).length ≤ 9223372036854775807 := by omega
  have g13 : (kindName k).length + ((formatAddr a).length + 2) + (verdictName c).length ≤ 9223372036854775807 := by omega
  have g14 : (kindName k).length + ((formatAddr a).length + 1 + 1) ≤ 9223372036854775803 := by omega
  have g15 : (kindName k).length + ((formatAddr a).length + 2) ≤ 9223372036854775803 := by omega
  refine ent Tryz.mix Tryz.func75 Tryz.ntmps75 ?_
  have W := And.intro g1 (And.intro g2 (And.intro g3 (And.intro g4 (And.intro g5 (And.intro g6 (And.intro g7 (And.intro g8 (And.intro g9 (And.intro g10 (And.intro g11 (And.intro g12 (And.intro g13 (And.intro g14 g15)))))))))))))
  repeat' first|refine st ?_|(refine nx ?_;refine so ?_)|(refine cx ?_;refine sc (fun hc=>?_) (fun hc=>?_)<;>try exact hc.elim)|(refine lx ?_;refine sp (fun hc=>?_) (fun hc=>?_)<;>try exact hc.elim)|refine sx ?_ ?_|refine sy ?_ ?_|fail
  all_goals (try (refine ⟨.inr rfl, ?_⟩; simp [Hands, Tryz.results75, verdictText]))
  all_goals simp_all [verdictText]
end Go.Proofs.YtonajehhfkkglaaGreatDoor
