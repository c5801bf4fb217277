/-
  Proved here: steps towards the statement of this claim, text Q1.
  No condition beyond what each statement spells out.
-/
import Derived.Test.YtlnblmmohpcceaaGreatDoorDR3
set_option linter.all false
set_option maxRecDepth 4000
set_option maxHeartbeats 4000000
namespace Go.Proofs.YtlnblmmohpcceaaGreatDoor
open Go.Aw
def iO (c:UInt8):Bool:=(decide (97≤c.toNat)&&decide (c.toNat≤122)) || (decide (48≤c.toNat)&&decide (c.toNat≤57)) || decide (c.toNat=47)
def eG (s:Str):Bool:=s.all iO&&(decide (1≤s.length)&&decide (s.length≤20))
theorem aFm {s:Str} {k:Nat} (h:k < s.length) (hc:iO s[k]=false):eG s=false:=by
 have:s.all iO=false:=by
  rw [List.all_eq_false]
  exact ⟨s[k],List.getElem_mem h,by simp [hc]⟩
 simp [eG,this]
theorem aCt {s:Str} (h:∀x∈s,iO x=true):eG s=(decide ((1:Int)≤s.length)&&decide ((s.length:Int)≤20)):=by
 have:s.all iO=true:=List.all_eq_true.2 h
 have h1:decide ((1:Int)≤s.length)=decide (1≤s.length):=by simp only [decide_eq_decide];omega
 have h2:decide ((s.length:Int)≤20)=decide (s.length≤20):=by simp only [decide_eq_decide];omega
 rw [eG,this,h1,h2,Bool.true_and]
theorem aAz [aB Tryz.prog] (s : Str) (hl : s.length ≤ 1099511627776) : Ok Tryz.prog 258 [.str s] (.bool (eG s)) := by
  have h1 := oF s.length 1 20
  refine ent Tryz.mix Tryz.func258 Tryz.ntmps258 ?_
  have W := trivial
  repeat' first|refine we ?_|(refine sq (fun hc=>?_) (fun hc=>?_)<;>try exact hc.elim)|fail
  refine aS (ι := { k : Nat // k ≤ s.length ∧ ∀ x ∈ s.take k, iO x = true }) (fun t o i => ⟨aP t [(3, .int .i64 i.1)], o⟩)
    (fun i => s.length - i.1) ⟨0, by simp, by simp⟩ (aL (by simp) (by simp)) ?_
  rintro ⟨k, hk, hi⟩ K1 hK1
  simp only [aP, List.set_cons_succ, List.set_cons_zero] at hK1 ⊢
  have hk1 : IntKind.i64.wrap ((k : Int) + 1) = ((k + 1 : Nat) : Int) := by rw [wrap64] <;> omega
  by_cases hlt : k < s.length
  · have hg := List.getElem?_eq_getElem hlt
    have W := And.intro hk1 (And.intro hg hlt)
    repeat' first|refine we ?_|(refine sq (fun hc=>?_) (fun hc=>?_)<;>try exact hc.elim)|fail
    all_goals first
      | exact hK1 _ ⟨k + 1, by omega, iA hlt hi (by simp [iO]; omega)⟩ (aL (by simp) (by simp)) (by simp only; omega)
      | (rw [aFm hlt (by simp [iO]; omega)]
         all_goals (try (refine ⟨.inr rfl, ?_⟩; simp [Hands, Tryz.results258]))
         done)
  · have W := hk1
    repeat' first|refine we ?_|(refine sq (fun hc=>?_) (fun hc=>?_)<;>try exact hc.elim)|fail
    all_goals (try (refine ⟨.inr rfl, ?_⟩; simp [Hands, Tryz.results258]))
    rw [aCt (lL (by omega) hi)]
theorem sP [aB Tryz.prog] (s : Str) (hl : s.length ≤ 1099511627776) : Ok Tryz.prog 200 [.str s] (.bool (eG s)) := by
  have h1 := oI s.length 1 20
  refine ent Tryz.mix Tryz.func200 Tryz.ntmps200 ?_
  have W := trivial
  repeat' first|refine we ?_|(refine sq (fun hc=>?_) (fun hc=>?_)<;>try exact hc.elim)|fail
  refine aS (ι := { k : Nat // k ≤ s.length ∧ ∀ x ∈ s.take k, iO x = true }) (fun t o i => ⟨aP t [(3, .int .i64 i.1)], o⟩)
    (fun i => s.length - i.1) ⟨0, by simp, by simp⟩ (aL (by simp) (by simp)) ?_
  rintro ⟨k, hk, hi⟩ K1 hK1
  simp only [aP, List.set_cons_succ, List.set_cons_zero] at hK1 ⊢
  have hk1 : IntKind.i64.wrap ((k : Int) + 1) = ((k + 1 : Nat) : Int) := by rw [wrap64] <;> omega
  by_cases hlt : k < s.length
  · have hg := List.getElem?_eq_getElem hlt
    have W := And.intro hk1 (And.intro hg hlt)
    repeat' first|refine we ?_|(refine sq (fun hc=>?_) (fun hc=>?_)<;>try exact hc.elim)|fail
    all_goals first
      | exact hK1 _ ⟨k + 1, by omega, iA hlt hi (by simp [iO]; omega)⟩ (aL (by simp) (by simp)) (by simp only; omega)
      | (rw [aFm hlt (by simp [iO]; omega)]
         all_goals (try (refine ⟨.inr rfl, ?_⟩; simp [Hands, Tryz.results200]))
         done)
  · have W := hk1
    repeat' first|refine we ?_|(refine sq (fun hc=>?_) (fun hc=>?_)<;>try exact hc.elim)|fail
    all_goals (try (refine ⟨.inr rfl, ?_⟩; simp [Hands, Tryz.results200]))
    rw [aCt (lL (by omega) hi)]
end Go.Proofs.YtlnblmmohpcceaaGreatDoor
