/-
  Proved here: steps towards the statement of this claim, text Q2.
  No condition beyond what each statement spells out.
-/
import Derived.Test.YtphofanfadgalaaGreatDoorQ1
import Derived.Test.YtphofanfadgalaaGreatDoorU3
import Derived.Test.YtphofanfadgalaaGreatDoorF6
set_option linter.all false
set_option maxRecDepth 4000
set_option maxHeartbeats 4000000
namespace Go.Proofs.YtphofanfadgalaaGreatDoor
open Go.Aw
theorem eAddr_inj {a b : DAddr} : eAddr a = eAddr b ↔ a = b := by
  obtain ⟨a1, a2⟩ := a
  obtain ⟨b1, b2⟩ := b
  simp
theorem eqAddrA (a b : DAddr) : EqA Tryz.prog 42 (eAddr a) (eAddr b) (decide (a = b)) :=
  eqA_of (f := 6) (ss := [.str, .str]) (by decide) (by kernel_rfl) (by kernel_rfl) (by kernel_rfl) (by kernel_rfl) (by simp [LikeC, Like]) (by simp [LikeC, Like]) (by rw [eAddr_inj, decide_eq_true_iff])
def modIs (a : DAddr) (m : DModule) : Bool := decide (m.to = a)
def slotIs (a : DAddr) (m : DSlot) : Bool := decide (m.to = a)
theorem specFind_ok [Tabs Tryz.prog] (p : DPage) (a : DAddr) (hl : p.mods.length ≤ 1099511627776) : Ok Tryz.prog 35 [.agg (ePage .view p), .agg (eAddr a)] (.int .i64 (idxI (modIs a) p.mods)) := by
  refine ent Tryz.mix Tryz.func35 Tryz.ntmps35 ?_
  have W := trivial
  repeat' first|refine st ?_|(refine nx ?_;first|refine se ?_|refine so ?_)|(refine cx ?_;refine sc (fun hc=>?_) (fun hc=>?_)<;>try exact hc.elim)|(refine lx ?_;refine sp (fun hc=>?_) (fun hc=>?_)<;>try exact hc.elim)|refine sx ?_ ?_|refine sy ?_ ?_|fail
  refine awp_loop' (ι := { k : Nat // k ≤ p.mods.length ∧ ∀ x ∈ p.mods.take k, modIs a x = false }) (fun t o i => ⟨upds t [(5, .int .i64 i.1)], o⟩)
    (fun i => p.mods.length - i.1) ⟨0, by simp⟩ (weak_o (by simp) (by simp)) ?_
  rintro ⟨k, hk, hpre⟩ K1 hK1
  simp only [upds, List.set_cons_succ, List.set_cons_zero] at hK1 ⊢
  have hk1 : IntKind.i64.wrap ((k : Int) + 1) = ((k + 1 : Nat) : Int) := by rw [wrap64] <;> omega
  by_cases hlt : k < p.mods.length
  · have hg := List.getElem?_eq_getElem hlt
    have W := And.intro hk1 (And.intro hg hlt)
    have c0 := eqAddrA p.mods[k].to a
    repeat' first|refine st ?_|(refine nx ?_;first|refine se ?_|refine so ?_)|(refine cx ?_;refine sc (fun hc=>?_) (fun hc=>?_)<;>try exact hc.elim)|(refine lx ?_;refine sp (fun hc=>?_) (fun hc=>?_)<;>try exact hc.elim)|refine sx ?_ ?_|refine sy ?_ ?_|fail
    · all_goals (try (refine ⟨.inr rfl, ?_⟩; simp [Hands, Tryz.results35]))
      rw [idxI_at hlt (by simpa [modIs] using hc) hpre]
    · exact hK1 _ ⟨k + 1, by omega, take_succ_all hlt hpre (by simpa [modIs] using hc)⟩ (weak_o (by simp) (by simp)) (by simp only; omega)
  · have W := hk1
    repeat' first|refine st ?_|(refine nx ?_;first|refine se ?_|refine so ?_)|(refine cx ?_;refine sc (fun hc=>?_) (fun hc=>?_)<;>try exact hc.elim)|(refine lx ?_;refine sp (fun hc=>?_) (fun hc=>?_)<;>try exact hc.elim)|refine sx ?_ ?_|refine sy ?_ ?_|fail
    all_goals (try (refine ⟨.inr rfl, ?_⟩; simp [Hands, Tryz.results35]))
    rw [idxI_none (take_all (by omega) hpre)]
theorem modAt1_ok [Tabs Tryz.prog] (m : DModule) (a : DAddr) : Ok Tryz.prog 91 [.agg (eModule m), .vptr .view (eAddr a) 0] (.bool (modIs a m)) := by
  refine ent Tryz.mix Tryz.func91 Tryz.ntmps91 ?_
  have W := trivial
  have c0 := eqAddrA m.to a
  repeat' first|refine st ?_|(refine nx ?_;first|refine se ?_|refine so ?_)|(refine cx ?_;refine sc (fun hc=>?_) (fun hc=>?_)<;>try exact hc.elim)|(refine lx ?_;refine sp (fun hc=>?_) (fun hc=>?_)<;>try exact hc.elim)|refine sx ?_ ?_|refine sy ?_ ?_|fail
  all_goals (try (refine ⟨.inr rfl, ?_⟩; simp [Hands, Tryz.results91]))
  rfl
theorem indexMod_ok [Tabs Tryz.prog] (l : List DModule) (a : DAddr) (hl : l.length ≤ 1099511627776) : Ok Tryz.prog 90 [.sl .view 5 (l.map eModule), .fn 91 [.vptr .view (eAddr a) 0]] (.int .i64 (idxI (modIs a) l)) := by
  refine ent Tryz.mix Tryz.func90 Tryz.ntmps90 ?_
  have W := trivial
  repeat' first|refine st ?_|(refine nx ?_;first|refine se ?_|refine so ?_)|(refine cx ?_;refine sc (fun hc=>?_) (fun hc=>?_)<;>try exact hc.elim)|(refine lx ?_;refine sp (fun hc=>?_) (fun hc=>?_)<;>try exact hc.elim)|refine sx ?_ ?_|refine sy ?_ ?_|fail
  refine awp_loop' (ι := { k : Nat // k ≤ l.length ∧ ∀ x ∈ l.take k, modIs a x = false }) (fun t o i => ⟨upds t [(8, .int .i64 i.1), (5, .undef)], o⟩)
    (fun i => l.length - i.1) ⟨0, by simp⟩ (weak_o (by simp) (by simp)) ?_
  rintro ⟨k, hk, hpre⟩ K1 hK1
  simp only [upds, List.set_cons_succ, List.set_cons_zero] at hK1 ⊢
  have hk1 : IntKind.i64.wrap ((k : Int) + 1) = ((k + 1 : Nat) : Int) := by rw [wrap64] <;> omega
  by_cases hlt : k < l.length
  · have hg := List.getElem?_eq_getElem hlt
    have W := And.intro hk1 (And.intro hg hlt)
    have c0 := modAt1_ok l[k] a
    repeat' first|refine st ?_|(refine nx ?_;first|refine se ?_|refine so ?_)|(refine cx ?_;refine sc (fun hc=>?_) (fun hc=>?_)<;>try exact hc.elim)|(refine lx ?_;refine sp (fun hc=>?_) (fun hc=>?_)<;>try exact hc.elim)|refine sx ?_ ?_|refine sy ?_ ?_|fail
    · all_goals (try (refine ⟨.inr rfl, ?_⟩; simp [Hands, Tryz.results90]))
      rw [idxI_at hlt (by simpa using hc) hpre]
    · exact hK1 _ ⟨k + 1, by omega, take_succ_all hlt hpre (by simpa using hc)⟩ (weak_o (by simp) (by simp)) (by simp only; omega)
  · have W := hk1
    repeat' first|refine st ?_|(refine nx ?_;first|refine se ?_|refine so ?_)|(refine cx ?_;refine sc (fun hc=>?_) (fun hc=>?_)<;>try exact hc.elim)|(refine lx ?_;refine sp (fun hc=>?_) (fun hc=>?_)<;>try exact hc.elim)|refine sx ?_ ?_|refine sy ?_ ?_|fail
    all_goals (try (refine ⟨.inr rfl, ?_⟩; simp [Hands, Tryz.results90]))
    rw [idxI_none (take_all (by omega) hpre)]
theorem modAt_ok [Tabs Tryz.prog] (p : DPage) (a : DAddr) (hl : p.mods.length ≤ 1099511627776) : Ok Tryz.prog 44 [.agg (ePage .view p), .agg (eAddr a)] (.int .i64 (idxI (modIs a) p.mods)) := by
  refine ent Tryz.mix Tryz.func44 Tryz.ntmps44 ?_
  have W := trivial
  have c0 := indexMod_ok p.mods a hl
  repeat' first|refine st ?_|(refine nx ?_;first|refine se ?_|refine so ?_)|(refine cx ?_;refine sc (fun hc=>?_) (fun hc=>?_)<;>try exact hc.elim)|(refine lx ?_;refine sp (fun hc=>?_) (fun hc=>?_)<;>try exact hc.elim)|refine sx ?_ ?_|refine sy ?_ ?_|fail
  all_goals (try (refine ⟨.inr rfl, ?_⟩; simp [Hands, Tryz.results44]))
def isAsked (p : DPage) (a : DAddr) : Bool := p.mods.any (modIs a) || p.slots.any (slotIs a)
def addrIs (a x : DAddr) : Bool := decide (x = a)
theorem anyA_at {l : List DAddr} {k : Nat} (h : k < l.length) {n : DAddr} (hc : l[k] = n) : l.any (addrIs n) = true :=
  List.any_eq_true.2 ⟨_, List.getElem_mem h, by simp [addrIs, hc]⟩
theorem specHasAddr_ok [Tabs Tryz.prog] (l : List DAddr) (a : DAddr) (hl : l.length ≤ 1099511627776) : Ok Tryz.prog 103 [.sl .view 2 (l.map eAddr), .agg (eAddr a)] (.bool (l.any (addrIs a))) := by
  refine ent Tryz.mix Tryz.func103 Tryz.ntmps103 ?_
  have W := trivial
  repeat' first|refine st ?_|(refine nx ?_;first|refine se ?_|refine so ?_)|(refine cx ?_;refine sc (fun hc=>?_) (fun hc=>?_)<;>try exact hc.elim)|(refine lx ?_;refine sp (fun hc=>?_) (fun hc=>?_)<;>try exact hc.elim)|refine sx ?_ ?_|refine sy ?_ ?_|fail
  refine awp_loop' (ι := { k : Nat // k ≤ l.length ∧ ∀ x ∈ l.take k, addrIs a x = false }) (fun t o i => ⟨upds t [(5, .int .i64 i.1)], o⟩)
    (fun i => l.length - i.1) ⟨0, by simp, by simp⟩ (weak_o (by simp) (by simp)) ?_
  rintro ⟨k, hk, hi⟩ K1 hK1
  simp only [upds, List.set_cons_succ, List.set_cons_zero] at hK1 ⊢
  have hk1 : IntKind.i64.wrap ((k : Int) + 1) = ((k + 1 : Nat) : Int) := by rw [wrap64] <;> omega
  by_cases hlt : k < l.length
  · have hg := List.getElem?_eq_getElem hlt
    have W := And.intro hk1 (And.intro hg hlt)
    have c0 := eqAddrA l[k] a
    repeat' first|refine st ?_|(refine nx ?_;first|refine se ?_|refine so ?_)|(refine cx ?_;refine sc (fun hc=>?_) (fun hc=>?_)<;>try exact hc.elim)|(refine lx ?_;refine sp (fun hc=>?_) (fun hc=>?_)<;>try exact hc.elim)|refine sx ?_ ?_|refine sy ?_ ?_|fail
    · all_goals (try (refine ⟨.inr rfl, ?_⟩; simp [Hands, Tryz.results103]))
      refine ⟨_, List.getElem_mem hlt, by simpa [addrIs] using hc⟩
    · exact hK1 _ ⟨k + 1, by omega, take_succ_all hlt hi (by simpa [addrIs] using hc)⟩ (weak_take 1 (by simp) (by simp) (by simp) (by simp)) (by simp only; omega)
  · have W := hk1
    repeat' first|refine st ?_|(refine nx ?_;first|refine se ?_|refine so ?_)|(refine cx ?_;refine sc (fun hc=>?_) (fun hc=>?_)<;>try exact hc.elim)|(refine lx ?_;refine sp (fun hc=>?_) (fun hc=>?_)<;>try exact hc.elim)|refine sx ?_ ?_|refine sy ?_ ?_|fail
    all_goals (try (refine ⟨.inr rfl, ?_⟩; simp [Hands, Tryz.results103]))
    have := take_all (by omega) hi
    simpa using this
theorem indexAddr_ok [Tabs Tryz.prog] (l : List DAddr) (a : DAddr) (hl : l.length ≤ 1099511627776) : Ok Tryz.prog 147 [.sl .view 2 (l.map eAddr), .agg (eAddr a)] (.int .i64 (idxI (addrIs a) l)) := by
  refine ent Tryz.mix Tryz.func147 Tryz.ntmps147 ?_
  have W := trivial
  repeat' first|refine st ?_|(refine nx ?_;first|refine se ?_|refine so ?_)|(refine cx ?_;refine sc (fun hc=>?_) (fun hc=>?_)<;>try exact hc.elim)|(refine lx ?_;refine sp (fun hc=>?_) (fun hc=>?_)<;>try exact hc.elim)|refine sx ?_ ?_|refine sy ?_ ?_|fail
  refine awp_loop' (ι := { k : Nat // k ≤ l.length ∧ ∀ x ∈ l.take k, addrIs a x = false }) (fun t o i => ⟨upds t [(8, .int .i64 i.1), (5, .undef)], o⟩)
    (fun i => l.length - i.1) ⟨0, by simp, by simp⟩ (weak_o (by simp) (by simp)) ?_
  rintro ⟨k, hk, hi⟩ K1 hK1
  simp only [upds, List.set_cons_succ, List.set_cons_zero] at hK1 ⊢
  have hk1 : IntKind.i64.wrap ((k : Int) + 1) = ((k + 1 : Nat) : Int) := by rw [wrap64] <;> omega
  by_cases hlt : k < l.length
  · have hg := List.getElem?_eq_getElem hlt
    have hq : EqA Tryz.prog 42 (eAddr a) (eAddr l[k]) (decide (a = l[k])) := eqAddrA a l[k]
    have W := And.intro hk1 (And.intro hg hlt)
    have c0 := hq
    repeat' first|refine st ?_|(refine nx ?_;first|refine se ?_|refine so ?_)|(refine cx ?_;refine sc (fun hc=>?_) (fun hc=>?_)<;>try exact hc.elim)|(refine lx ?_;refine sp (fun hc=>?_) (fun hc=>?_)<;>try exact hc.elim)|refine sx ?_ ?_|refine sy ?_ ?_|fail
    · all_goals (try (refine ⟨.inr rfl, ?_⟩; simp [Hands, Tryz.results147]))
      rw [idxI_at hlt (by simp [addrIs]; exact hc.symm) hi]
    · exact hK1 _ ⟨k + 1, by omega, take_succ_all hlt hi (by simp [addrIs]; intro h; exact hc h.symm)⟩ (weak_take 1 (by simp) (by simp) (by simp) (by simp)) (by simp only; omega)
  · have W := hk1
    repeat' first|refine st ?_|(refine nx ?_;first|refine se ?_|refine so ?_)|(refine cx ?_;refine sc (fun hc=>?_) (fun hc=>?_)<;>try exact hc.elim)|(refine lx ?_;refine sp (fun hc=>?_) (fun hc=>?_)<;>try exact hc.elim)|refine sx ?_ ?_|refine sy ?_ ?_|fail
    all_goals (try (refine ⟨.inr rfl, ?_⟩; simp [Hands, Tryz.results147]))
    rw [idxI_none (take_all (by omega) hi)]
theorem containsAddr_ok [Tabs Tryz.prog] (l : List DAddr) (a : DAddr) (hl : l.length ≤ 1099511627776) : Ok Tryz.prog 104 [.sl .view 2 (l.map eAddr), .agg (eAddr a)] (.bool (l.any (addrIs a))) := by
  have c1 := indexAddr_ok l a hl
  simp only [eAddr] at c1
  refine ent Tryz.mix Tryz.func104 Tryz.ntmps104 ?_
  have W := trivial
  repeat' first|refine st ?_|(refine nx ?_;first|refine se ?_|refine so ?_)|(refine cx ?_;refine sc (fun hc=>?_) (fun hc=>?_)<;>try exact hc.elim)|(refine lx ?_;refine sp (fun hc=>?_) (fun hc=>?_)<;>try exact hc.elim)|refine sx ?_ ?_|refine sy ?_ ?_|fail
  all_goals (try (refine ⟨.inr rfl, ?_⟩; simp [Hands, Tryz.results104]))
  exact idxI_nonneg _ _
end Go.Proofs.YtphofanfadgalaaGreatDoor
