/-
  Proved here: what append does.
  No condition beyond what each statement spells out.
-/
import Derived.Test.YtbbefoefjmgnoaaAwMem
set_option linter.all false
namespace Go.Aw

/-- Rows, as the values of their cells. -/
def Rv (w : World) (E : Env) : List (List AV) → List Value → Nat → List Nat → Prop
  | [], vs, _, fp => vs = [] ∧ fp = []
  | e :: es, vs, n, fp => ∃ cs rest f1 f2, vs = cs ++ rest ∧ cs.length = n ∧ (∀ x ∈ cs, x.oneCell' = true) ∧ Rc w E e cs f1 ∧ Rv w E es rest n f2 ∧ fp = f1 ++ f2

theorem CellsAt.append {w : World} {b off : Nat} {c1 c2 : List Value} : CellsAt w b off (c1 ++ c2) ↔ CellsAt w b off c1 ∧ CellsAt w b (off + c1.length) c2 := by
  constructor
  · intro h
    refine ⟨fun j v hv => h j v ?_, fun j v hv => ?_⟩
    · rw [List.getElem?_append_left (List.getElem?_eq_some_iff.1 hv).1]; exact hv
    · have := h (c1.length + j) v (by rw [List.getElem?_append_right (by omega)]; simpa using hv)
      rwa [← Nat.add_assoc] at this
  · rintro ⟨h1, h2⟩ j v hv
    by_cases hj : j < c1.length
    · rw [List.getElem?_append_left hj] at hv; exact h1 j v hv
    · rw [List.getElem?_append_right (by omega)] at hv
      have := h2 _ v hv
      rwa [show off + c1.length + (j - c1.length) = off + j by omega] at this

theorem Rr_iff {w : World} {E : Env} {b n : Nat} : ∀ {l : List (List AV)} {off : Nat} {fp : List Nat}, Rr w E l b off n fp ↔ ∃ vs, Rv w E l vs n fp ∧ CellsAt w b off vs
  | [], off, fp => by
    simp only [Rr, Rv]
    exact ⟨fun h => ⟨[], ⟨rfl, h⟩, fun j v hv => by simp at hv⟩, fun ⟨_, h, _⟩ => h.2⟩
  | e :: es, off, fp => by
    simp only [Rr, Rv, Rr_iff (l := es)]
    constructor
    · rintro ⟨cs, f1, f2, hn, hc, ho, h1, ⟨vs, h2, h3⟩, rfl⟩
      refine ⟨cs ++ vs, ⟨cs, vs, f1, f2, rfl, hn, ho, h1, h2, rfl⟩, CellsAt.append.2 ⟨hc, by rw [hn]; exact h3⟩⟩
    · rintro ⟨_, ⟨cs, vs, f1, f2, rfl, hn, ho, h1, h2, rfl⟩, h3⟩
      have := CellsAt.append.1 h3
      exact ⟨cs, f1, f2, hn, this.1, ho, h1, ⟨vs, h2, by rw [← hn]; exact this.2⟩, rfl⟩

theorem Rv_length {w : World} {E : Env} {n : Nat} : ∀ {l : List (List AV)} {vs : List Value} {fp : List Nat}, Rv w E l vs n fp → vs.length = l.length * n
  | [], _, _, h => by simp only [Rv] at h; simp [h.1]
  | _ :: es, _, _, h => by
    simp only [Rv] at h
    obtain ⟨cs, rest, f1, f2, rfl, hn, _, _, h2, _⟩ := h
    simp [Rv_length h2, hn, Nat.add_mul, Nat.add_comm]

theorem Rv_one {w : World} {E : Env} {n : Nat} : ∀ {l : List (List AV)} {vs : List Value} {fp : List Nat}, Rv w E l vs n fp → ∀ x ∈ vs, x.oneCell' = true
  | [], _, _, h, x, hx => by simp only [Rv] at h; simp [h.1] at hx
  | _ :: es, _, _, h, x, hx => by
    simp only [Rv] at h
    obtain ⟨cs, rest, f1, f2, rfl, _, ho, _, h2, _⟩ := h
    rcases List.mem_append.1 hx with h | h
    · exact ho x h
    · exact Rv_one h2 x h

theorem Rv_append {w : World} {E : Env} {n : Nat} {l2 : List (List AV)} {v2 : List Value} {g2 : List Nat} (h' : Rv w E l2 v2 n g2) : ∀ {l : List (List AV)} {vs : List Value} {fp : List Nat}, Rv w E l vs n fp → Rv w E (l ++ l2) (vs ++ v2) n (fp ++ g2)
  | [], _, _, h => by simp only [Rv] at h; obtain ⟨rfl, rfl⟩ := h; simpa using h'
  | _ :: es, _, _, h => by
    simp only [Rv] at h
    obtain ⟨cs, rest, f1, f2, rfl, hn, ho, h1, h2, rfl⟩ := h
    simp only [List.cons_append, Rv]
    exact ⟨cs, rest ++ v2, f1, f2 ++ g2, by simp, hn, ho, h1, Rv_append h' h2, by simp⟩

theorem Rv_keeps {w w' : World} {E E' : Env} (k : Keeps w E w' E') {n : Nat} : ∀ {l : List (List AV)} {vs : List Value} {fp : List Nat}, (∀ b ∈ fp, w'.heap[b]? = w.heap[b]?) → Rv w E l vs n fp → Rv w' E' l vs n fp
  | [], _, _, _, h => by simpa [Rv] using h
  | _ :: es, _, _, hf, h => by
    simp only [Rv] at h ⊢
    obtain ⟨cs, rest, f1, f2, rfl, hn, ho, h1, h2, rfl⟩ := h
    exact ⟨cs, rest, f1, f2, rfl, hn, ho, Rc_keeps k _ _ _ (fun x hx => hf x (by simp [hx])) h1, Rv_keeps k (fun x hx => hf x (by simp [hx])) h2, rfl⟩

/-- append, whatever it appends to and whatever it appends. -/
theorem run_append {P : Program} {w : World} {tS xT ty e : TypeId} {i : TypeInfo} {z : Value} (ht : P.underlying tS = some (.slice e)) (hxt : ∃ d, P.underlying xT = some d ∧ ∀ k, d ≠ .int k) (hi : P.info? e = some i) (hz : i.zero = some z)
    {base : Option Addr} {sLen sCap n : Nat} {x : Value} (hlen : (Builtin.lenOf x).run P w = .ok n w) {news olds : List Value}
    (hnews : ∀ w', w'.heap = w.heap → (Builtin.firstCells i.size n x).run P w' = .ok news.toArray w')
    (holds : ∀ w', w'.heap = w.heap → (Builtin.firstCells i.size sLen (.slice base sLen sCap)).run P w' = .ok olds.toArray w')
    (hbytes : (sLen + n) * i.bytes ≤ 140737488355328) (h63 : sLen + n ≤ 9223372036854775807) :
    (sLen + n ≤ sCap → ∀ w1, (match base with
        | some a => (storeCells (a.add (sLen * i.size)) news).run P w = .ok () w1
        | none => w1 = w) → (Builtin.append_ #[tS, xT] ty #[.slice base sLen sCap, x]).run P w = .ok (.slice base (sLen + n) sCap) w1) ∧
    (sCap < sLen + n → (Builtin.append_ #[tS, xT] ty #[.slice base sLen sCap, x]).run P w =
      .ok (.slice (some ⟨w.heap.size, 0, none⟩) (sLen + n) (grownCap w (sLen + n) sCap e)) (w.drew.alloc (.cells (olds.toArray ++ news.toArray ++ Builtin.zeroCells z.cells (grownCap w (sLen + n) sCap e - (sLen + n))) e))) := by
  obtain ⟨d, hd, hdi⟩ := hxt
  constructor
  · intro hroom w1 h1
    have hn := hnews w rfl
    cases base with
    | none =>
      simp only at h1
      subst h1
      simp [Builtin.append_, run_underlying ht, run_underlying hd, sizeOf, typeInfo, hi, hlen, hroom, hn]
    | some a =>
      simp only at h1
      simp [Builtin.append_, run_underlying ht, run_underlying hd, sizeOf, typeInfo, hi, hlen, hroom, hn, h1]
  · intro hg
    have hnr : ¬ (sLen + n ≤ sCap) := by omega
    have h63' : ¬ (9223372036854775807 < ((sLen : Int) + (n : Int))) := by omega
    have hfit := growslice_fits hg hbytes
    have h48' : ¬ (281474976710656 < Builtin.nextslicecap (sLen + n) sCap * i.bytes) := by omega
    have hn := hnews w.drew rfl
    have ho := holds w.drew rfl
    simp [Builtin.append_, run_underlying ht, run_underlying hd, sizeOf, typeInfo, zeroValue, hi, hz, hlen, hnr, h63', h48', Question.forced, hn, ho, newRow, grownCap]
    rw [← List.append_toArray, Array.append_assoc]

def AObj.kill (ob : AObj) : AObj := { ob with live := false }

/-- Object j dies; what it owned is now i's. -/
theorem Rel'.transfer {B : Base} {s : AS} {G : List CO} {a : Act} {w : World} (r : Rel' B s G a w) {i j : Nat} (hij : i ≠ j) {oi oj : AObj} {gi gj : CO} (hi : Aw.look s.o G i oi gi) (hj : Aw.look s.o G j oj gj) (hil : oi.live = true) (hjl : oj.live = true) :
    Rel' B ⟨s.t, s.o.set j oj.kill⟩ (G.set i { gi with F := fun b => gi.F b ∨ gj.F b }) a w ∧ Keeps w (env B s.o G w) w (env B (s.o.set j oj.kill) (G.set i { gi with F := fun b => gi.F b ∨ gj.F b }) w) := by
  have hii : Aw.look (s.o.set j oj.kill) (G.set i { gi with F := fun b => gi.F b ∨ gj.F b }) i oi { gi with F := fun b => gi.F b ∨ gj.F b } := by
    refine ⟨by rw [List.getElem?_set_ne (Ne.symm hij)]; exact hi.1, ?_⟩
    have := (List.getElem?_eq_some_iff.1 hi.2).1
    simp [this]
  have hjj : Aw.look (s.o.set j oj.kill) (G.set i { gi with F := fun b => gi.F b ∨ gj.F b }) j oj.kill gj := by
    refine ⟨?_, by rw [List.getElem?_set_ne hij]; exact hj.2⟩
    have := (List.getElem?_eq_some_iff.1 hj.1).1
    simp [this]
  -- every live object of the new state, seen from the old one
  have back : ∀ {k x y}, Aw.look (s.o.set j oj.kill) (G.set i { gi with F := fun b => gi.F b ∨ gj.F b }) k x y → x.live = true →
      k ≠ j ∧ ((k = i ∧ x = oi ∧ y = { gi with F := fun b => gi.F b ∨ gj.F b }) ∨ (k ≠ i ∧ Aw.look s.o G k x y)) := by
    intro k x y h hx
    by_cases hk : k = j
    · subst hk
      have := (look_inj h hjj).1
      subst this
      exact absurd hx (by simp [AObj.kill])
    · refine ⟨hk, ?_⟩
      by_cases hki : k = i
      · subst hki
        exact .inl ⟨rfl, look_inj h hii⟩
      · refine .inr ⟨hki, ?_, ?_⟩
        · have := h.1; rwa [List.getElem?_set_ne (Ne.symm hk)] at this
        · have := h.2; rwa [List.getElem?_set_ne (Ne.symm hki)] at this
  have fwd : ∀ {k x y}, k ≠ i → k ≠ j → Aw.look s.o G k x y → Aw.look (s.o.set j oj.kill) (G.set i { gi with F := fun b => gi.F b ∨ gj.F b }) k x y := by
    intro k x y h1 h2 h
    exact ⟨by rw [List.getElem?_set_ne (Ne.symm h2)]; exact h.1, by rw [List.getElem?_set_ne (Ne.symm h1)]; exact h.2⟩
  have k : Keeps w (env B s.o G w) w (env B (s.o.set j oj.kill) (G.set i { gi with F := fun b => gi.F b ∨ gj.F b }) w) := by
    refine env_keeps (Nat.le_refl _) (fun b hb => ⟨env_lt r hb, rfl⟩) r.len ?_ ?_
    · intro k x y h
      by_cases hk : k = j
      · subst hk
        obtain ⟨rfl, rfl⟩ := look_inj hj h
        exact ⟨_, _, hjj, Nat.le_refl _, fun hf => absurd hf (by simp [AObj.kill])⟩
      · by_cases hki : k = i
        · subst hki
          obtain ⟨rfl, rfl⟩ := look_inj hi h
          exact ⟨_, _, hii, Nat.le_refl _, fun _ => ⟨hil, rfl, fun _ => ⟨rfl, rfl, rfl⟩, fun b hb hne => ⟨.inl hb, hne, rfl⟩⟩⟩
        · exact ⟨x, y, fwd hki hk h, Nat.le_refl _, fun hx => ⟨hx, rfl, fun _ => ⟨rfl, rfl, rfl⟩, fun b hb hne => ⟨hb, hne, rfl⟩⟩⟩
    · intro k x y b h hx hf
      obtain ⟨_, ⟨rfl, rfl, rfl⟩ | ⟨_, h'⟩⟩ := back h hx
      · rcases hf with hf | hf
        · exact .inr ⟨_, _, _, hi, hil, hf⟩
        · exact .inr ⟨_, _, _, hj, hjl, hf⟩
      · exact .inr ⟨_, _, _, h', hx, hf⟩
  refine ⟨r.next k (by simp [r.len]) ?_ ?_ ?_ (Nat.le_refl _) (fun _ _ _ => rfl), k⟩
  · intro k' x y h hx
    obtain ⟨_, ⟨rfl, rfl, rfl⟩ | ⟨_, h'⟩⟩ := back h hx
    · obtain ⟨fp, h1, h2, h3⟩ := (r.ok _ _ _ hi hil).keeps k (fun _ _ => rfl)
      exact ⟨fp, h1, h2, fun b hb => .inl (h3 b hb)⟩
    · exact (r.ok _ _ _ h' hx).keeps k (fun _ _ => rfl)
  · intro k1 k2 x1 x2 y1 y2 b h1 h2 hx1 hx2 hf1 hf2
    obtain ⟨n1, ⟨rfl, rfl, rfl⟩ | ⟨m1, h1'⟩⟩ := back h1 hx1 <;> obtain ⟨n2, ⟨rfl, rfl, rfl⟩ | ⟨m2, h2'⟩⟩ := back h2 hx2
    · rfl
    · rcases hf1 with hf1 | hf1
      · exact r.apart _ _ _ _ _ _ b hi h2' hil hx2 hf1 hf2
      · exact absurd (r.apart _ _ _ _ _ _ b hj h2' hjl hx2 hf1 hf2).symm n2
    · rcases hf2 with hf2 | hf2
      · exact r.apart _ _ _ _ _ _ b h1' hi hx1 hil hf1 hf2
      · exact absurd (r.apart _ _ _ _ _ _ b h1' hj hx1 hjl hf1 hf2) n1
    · exact r.apart _ _ _ _ _ _ b h1' h2' hx1 hx2 hf1 hf2
  · intro k' x y b h hx hf
    obtain ⟨_, ⟨rfl, rfl, rfl⟩ | ⟨_, h'⟩⟩ := back h hx
    · rcases hf with hf | hf
      · exact r.fresh _ _ _ b hi hil hf
      · exact r.fresh _ _ _ b hj hjl hf
    · exact r.fresh _ _ _ b h' hx hf
end Go.Aw
