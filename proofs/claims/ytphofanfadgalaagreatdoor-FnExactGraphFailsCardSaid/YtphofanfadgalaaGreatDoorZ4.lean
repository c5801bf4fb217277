/-
  Proved here: steps towards the statement of this claim, text Z4.
  No condition beyond what each statement spells out.
-/
import Derived.Test.YtphofanfadgalaaGreatDoorQ2
import Derived.Test.YtphofanfadgalaaGreatDoorP9
set_option linter.all false
set_option linter.unusedSimpArgs false
set_option linter.unusedVariables false
set_option maxRecDepth 4000
set_option maxHeartbeats 4000000
namespace Go.Proofs.YtphofanfadgalaaGreatDoor
open Go.Aw
/-- The imports of a module that can be used, as they are found. -/
def impsAt (p : DPage) (a : DAddr) : List DAddr :=
  match p.mods.find? (modIs a) with
  | some m => if m.done = true ∧ m.code = 1 then (parseModule m.body a.host).1 else []
  | none => []
/-- All addresses that modules import. -/
def allImps (p : DPage) : List DAddr := p.mods.flatMap fun m => (parseModule m.body m.to.host).1
/-- A walk over the modules that are reached. -/
def visitN (p : DPage) : Nat → DAddr → List DAddr → List DAddr → List DAddr × List DAddr
  | 0, _, seen, out => (seen, out)
  | n + 1, a, seen, out => if seen.any (addrIs a) = true then (seen, out) else
      (((impsAt p a).foldl (fun s b => visitN p n b s.1 s.2) (seen ++ [a], out)).1, ((impsAt p a).foldl (fun s b => visitN p n b s.1 s.2) (seen ++ [a], out)).2 ++ [a])
def unseen (p : DPage) (seen : List DAddr) : Nat := (p.mods.filter fun m => !seen.any (addrIs m.to)).length
def visitFold (p : DPage) (n : Nat) (l : List DAddr) (s : List DAddr × List DAddr) : List DAddr × List DAddr := l.foldl (fun s b => visitN p n b s.1 s.2) s
theorem visitFold_snoc (p : DPage) (n : Nat) (l : List DAddr) (b : DAddr) (s : List DAddr × List DAddr) : visitFold p n (l ++ [b]) s = visitN p n b (visitFold p n l s).1 (visitFold p n l s).2 := by
  simp [visitFold]

theorem any_addr {l : List DAddr} {a : DAddr} : l.any (addrIs a) = true ↔ a ∈ l := by
  simp [addrIs]
theorem impsAt_sub (p : DPage) (a : DAddr) : ∀ b ∈ impsAt p a, b ∈ allImps p := by
  intro b hb
  unfold impsAt at hb
  split at hb
  · rename_i m hm
    split at hb
    · have h1 := List.find?_some hm
      have h2 := List.mem_of_find?_eq_some hm
      simp only [modIs, decide_eq_true_eq] at h1
      subst h1
      exact List.mem_flatMap.2 ⟨m, h2, hb⟩
    · cases hb
  · cases hb
theorem impsAt_mod {p : DPage} {a : DAddr} (h : impsAt p a ≠ []) : ∃ m ∈ p.mods, m.to = a := by
  unfold impsAt at h
  split at h
  · rename_i m hm
    have h1 := List.find?_some hm
    simp only [modIs, decide_eq_true_eq] at h1
    exact ⟨m, List.mem_of_find?_eq_some hm, h1⟩
  · exact absurd rfl h

/-- What holds of a walk's state. -/
structure Seen (U : List DAddr) (s : List DAddr × List DAddr) : Prop where
  nd : s.1.Nodup
  sub : ∀ x ∈ s.1, x ∈ U
  ond : s.2.Nodup
  osub : ∀ x ∈ s.2, x ∈ s.1

theorem unseen_mono {p : DPage} {s s' : List DAddr} (h : ∀ x ∈ s, x ∈ s') : unseen p s' ≤ unseen p s := by
  unfold unseen
  have : ∀ l : List DModule, (l.filter fun m => !s'.any (addrIs m.to)).length ≤ (l.filter fun m => !s.any (addrIs m.to)).length := by
    intro l
    induction l with
    | nil => simp
    | cons m l ih =>
      simp only [List.filter_cons]
      by_cases h1 : s.any (addrIs m.to) = true
      · have h2 : s'.any (addrIs m.to) = true := any_addr.2 (h _ (any_addr.1 h1))
        simp [h1, h2, ih]
      · simp only [Bool.not_eq_true] at h1
        simp only [h1]
        split <;> simp <;> omega
  exact this p.mods
theorem unseen_lt {p : DPage} {s : List DAddr} {a : DAddr} (h : ¬ s.any (addrIs a) = true) (hm : ∃ m ∈ p.mods, m.to = a) : unseen p (s ++ [a]) < unseen p s := by
  obtain ⟨m, hm, rfl⟩ := hm
  unfold unseen
  have key : ∀ l : List DModule, (l.filter fun x => !(s ++ [m.to]).any (addrIs x.to)).length ≤ (l.filter fun x => !s.any (addrIs x.to)).length ∧ (m ∈ l → (l.filter fun x => !(s ++ [m.to]).any (addrIs x.to)).length < (l.filter fun x => !s.any (addrIs x.to)).length) := by
    intro l
    induction l with
    | nil => simp
    | cons x l ih =>
      simp only [List.filter_cons]
      by_cases h1 : s.any (addrIs x.to) = true
      · have h2 : (s ++ [m.to]).any (addrIs x.to) = true := any_addr.2 (List.mem_append_left _ (any_addr.1 h1))
        simp only [h1, h2, Bool.not_true, Bool.false_eq_true, if_false]
        refine ⟨ih.1, fun hmem => ?_⟩
        rcases List.mem_cons.1 hmem with rfl | hmem
        · exact absurd h1 h
        · exact ih.2 hmem
      · by_cases h2 : (s ++ [m.to]).any (addrIs x.to) = true
        · simp only [Bool.not_eq_true] at h1
          simp only [h1, h2, Bool.not_true, Bool.false_eq_true, if_false, Bool.not_false, if_true, List.length_cons]
          exact ⟨by omega, fun _ => by omega⟩
        · have h2' := h2
          simp only [Bool.not_eq_true] at h1 h2
          simp only [h1, h2, Bool.not_false, if_true, List.length_cons]
          refine ⟨by omega, fun hmem => ?_⟩
          rcases List.mem_cons.1 hmem with rfl | hmem
          · exact absurd (any_addr.2 (by simp)) h2'
          · have := ih.2 hmem; omega
  exact (key p.mods).2 hm

theorem visit_seen {p : DPage} {U : List DAddr} (hU : ∀ x ∈ allImps p, x ∈ U) : ∀ (n : Nat) (a : DAddr) (s : List DAddr × List DAddr), a ∈ U → Seen U s → Seen U (visitN p n a s.1 s.2) ∧ (∀ x ∈ s.1, x ∈ (visitN p n a s.1 s.2).1)
  | 0, a, s, _, hs => by simp only [visitN]; exact ⟨hs, fun _ h => h⟩
  | n + 1, a, s, ha, hs => by
    simp only [visitN]
    split
    · exact ⟨hs, fun _ h => h⟩
    · rename_i hn
      have hna : a ∉ s.1 := fun h => hn (any_addr.2 h)
      have key : ∀ (l : List DAddr) (q : List DAddr × List DAddr), (∀ x ∈ l, x ∈ U) → Seen U q → (a ∈ q.1 ∧ a ∉ q.2) → Seen U (l.foldl (fun s b => visitN p n b s.1 s.2) q) ∧ (∀ x ∈ q.1, x ∈ (l.foldl (fun s b => visitN p n b s.1 s.2) q).1) ∧ a ∉ (l.foldl (fun s b => visitN p n b s.1 s.2) q).2 := by
        intro l
        induction l with
        | nil => intro q _ hq ha; exact ⟨hq, fun _ h => h, ha.2⟩
        | cons b l ih =>
          intro q hl hq haq
          obtain ⟨h1, h2⟩ := visit_seen hU n b q (hl b (by simp)) hq
          have h3 : a ∉ (visitN p n b q.1 q.2).2 := visit_out n b q haq.1 haq.2
          obtain ⟨h4, h5, h6⟩ := ih (visitN p n b q.1 q.2) (fun x hx => hl x (by simp [hx])) h1 ⟨h2 a haq.1, h3⟩
          exact ⟨h4, fun x hx => h5 x (h2 x hx), h6⟩
      have hs1 : Seen U (s.1 ++ [a], s.2) := ⟨List.nodup_append.2 ⟨hs.nd, by simp, fun x hx y hy e => hna (by simp at hy; subst hy; subst e; exact hx)⟩, fun x hx => by
        rcases List.mem_append.1 hx with h | h
        · exact hs.sub x h
        · simp at h; subst h; exact ha, hs.ond, fun x hx => List.mem_append_left _ (hs.osub x hx)⟩
      obtain ⟨h1, h2, h3⟩ := key (impsAt p a) (s.1 ++ [a], s.2) (fun x hx => hU x (impsAt_sub p a x hx)) hs1 ⟨by simp, fun h => hna (hs.osub a h)⟩
      refine ⟨⟨h1.nd, h1.sub, ?_, ?_⟩, fun x hx => h2 x (List.mem_append_left _ hx)⟩
      · exact List.nodup_append.2 ⟨h1.ond, by simp, fun x hx y hy e => h3 (by simp at hy; subst hy; subst e; exact hx)⟩
      · intro x hx
        rcases List.mem_append.1 hx with h | h
        · exact h1.osub x h
        · simp at h; subst h; exact h2 x (by simp)
where
  visit_out {p : DPage} {a : DAddr} : ∀ (n : Nat) (b : DAddr) (q : List DAddr × List DAddr), a ∈ q.1 → a ∉ q.2 → a ∉ (visitN p n b q.1 q.2).2
    | 0, b, q, h1, h2 => by simpa only [visitN] using h2
    | n + 1, b, q, h1, h2 => by
      simp only [visitN]
      split
      · exact h2
      · rename_i hn
        have hne : a ≠ b := fun e => hn (any_addr.2 (e ▸ h1))
        have key : ∀ (l : List DAddr) (q : List DAddr × List DAddr), a ∈ q.1 → a ∉ q.2 → a ∉ (l.foldl (fun s b => visitN p n b s.1 s.2) q).2 := by
          intro l
          induction l with
          | nil => intro q _ h; exact h
          | cons c l ih =>
            intro q h1 h2
            exact ih _ (visit_in n c q h1) (visit_out n c q h1 h2)
        intro hm
        rcases List.mem_append.1 hm with h | h
        · exact key (impsAt p b) (q.1 ++ [b], q.2) (List.mem_append_left _ h1) h2 h
        · simp at h; exact hne h
  visit_in {p : DPage} {a : DAddr} : ∀ (n : Nat) (b : DAddr) (q : List DAddr × List DAddr), a ∈ q.1 → a ∈ (visitN p n b q.1 q.2).1
    | 0, b, q, h1 => by simpa only [visitN] using h1
    | n + 1, b, q, h1 => by
      simp only [visitN]
      split
      · exact h1
      · have key : ∀ (l : List DAddr) (q : List DAddr × List DAddr), a ∈ q.1 → a ∈ (l.foldl (fun s b => visitN p n b s.1 s.2) q).1 := by
          intro l
          induction l with
          | nil => intro q h; exact h
          | cons c l ih => intro q h1; exact ih _ (visit_in n c q h1)
        exact key (impsAt p b) (q.1 ++ [b], q.2) (List.mem_append_left _ h1)

theorem nodup_sum {α : Type} (f : α → Nat) : ∀ (l U : List α), l.Nodup → (∀ x ∈ l, x ∈ U) → sumN f l ≤ sumN f U ∧ l.length ≤ U.length
  | [], U, _, _ => by simp [sumN]
  | x :: l, U, hn, hs => by
    simp only [List.nodup_cons] at hn
    obtain ⟨U1, U2, rfl⟩ := List.append_of_mem (hs x (by simp))
    have ih := nodup_sum f l (U1 ++ U2) hn.2 (fun y hy => by
      have := hs y (by simp [hy])
      simp only [List.mem_append, List.mem_cons] at this ⊢
      rcases this with h | h | h
      · exact .inl h
      · subst h; exact absurd hy hn.1
      · exact .inr h)
    have e : ∀ (A B : List α), sumN f (A ++ B) = sumN f A + sumN f B := by
      intro A B
      induction A with
      | nil => simp [sumN]
      | cons a A ih => simp only [List.cons_append, sumN, ih]; omega
    simp only [e, sumN, List.length_append, List.length_cons] at ih ⊢
    omega
end Go.Proofs.YtphofanfadgalaaGreatDoor
