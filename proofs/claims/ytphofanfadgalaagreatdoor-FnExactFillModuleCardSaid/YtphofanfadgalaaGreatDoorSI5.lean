/-
  Proved here: steps towards the statement of this claim, text SI5.
  No condition beyond what each statement spells out.
-/
import Derived.Test.YtphofanfadgalaaGreatDoorI4
import Derived.Test.YtphofanfadgalaaGreatDoorF9
import Derived.Test.YtphofanfadgalaaGreatDoorSI2
import Derived.Test.YtphofanfadgalaaGreatDoorSP9
import Derived.Test.YtphofanfadgalaaGreatDoorJ9
import Derived.Test.YtphofanfadgalaaGreatDoorF8
set_option linter.all false
set_option maxRecDepth 4000
set_option maxHeartbeats 4000000
namespace Go.Proofs.YtphofanfadgalaaGreatDoor
open Go.Aw
theorem ask_drop (l : List DModule) (k : Nat) : List.drop k (List.take l.length (List.map eModule l)) = List.drop k (List.map eModule l) := by rw [List.take_of_length_le (by simp)]
theorem ask_clean (l : List DModule) (a : DAddr) (k : Nat) (d : Bool) (c : Int) : cleanr (List.take k (List.map eModule l) ++ [.str a.host, .str a.path, .bool d, .int .i64 c, .str []] :: List.drop k (List.map eModule l)) = true := by
  have e : List.take k (List.map eModule l) ++ [.str a.host, .str a.path, .bool d, .int .i64 c, .str []] :: List.drop k (List.map eModule l) = (l.take k ++ ⟨a, d, c, []⟩ :: l.drop k).map eModule := by simp
  rw [e]; exact clean_eModule _
theorem specAskModule_ok [Tabs Tryz.prog] (p : DPage) (a : DAddr) (hs : szPage p ≤ 137438953472) (ha : szAddr a ≤ 1073741824) : Ok Tryz.prog 68 [.agg (ePage .view p), .agg (eAddr a)] (.agg (ePage .own (askModule p a))) := by
  have c1 := specPage_ok p (by omega)
  have hsn : p.mods.length ≤ 274877906944 := by simp only [szPage, szL] at hs; omega
  have hpol : szPolicy p.policy ≤ 274877906944 := by simp only [szPage] at hs; omega
  have cc := fun b => specCompareAddrs_ok b a
  have cK := specCheckRequest_ok p.policy ⟨5, a, p.addr.host, []⟩ (by omega) (by simp only [szRequest, List.length_nil]; simp only [szPage, szAddr] at hs; omega)
  simp only [ePolicy, eRequest] at cK
  simp only [ePage] at c1
  simp only [eAddr] at cc
  refine ent Tryz.mix Tryz.func68 Tryz.ntmps68 ?_
  have W := trivial
  repeat' first|refine st ?_|(refine nx ?_;first|refine sz ?_|refine so ?_)|(refine cx ?_;refine sc (fun hc=>?_) (fun hc=>?_)<;>try exact hc.elim)|(refine lx ?_;refine sp (fun hc=>?_) (fun hc=>?_)<;>try exact hc.elim)|refine sx ?_ ?_|refine sy ?_ ?_|fail
  refine awp_loop' (ι := { k : Nat // k ≤ p.mods.length ∧ ∀ x ∈ p.mods.take k, cmpAddr x.to a < 0 }) (fun t o i => ⟨upds t [(6, .int .i64 i.1)], o⟩)
    (fun i => p.mods.length - i.1) ⟨0, by simp, by simp⟩ (weak_o (by simp) (by simp)) ?_
  rintro ⟨k, hk, hpre⟩ K1 hK1
  simp only [upds, List.set_cons_succ, List.set_cons_zero] at hK1 ⊢
  have hk1 : IntKind.i64.wrap ((k : Int) + 1) = ((k + 1 : Nat) : Int) := by rw [wrap64] <;> omega
  by_cases hlt : k < p.mods.length
  · have hg := List.getElem?_eq_getElem hlt
    have c2 := cc p.mods[k].to
    by_cases hcm : cmpAddr p.mods[k].to a < 0
    · have hnx : ∀ x ∈ p.mods.take (k + 1), cmpAddr x.to a < 0 := by
        intro x hx
        rw [List.take_succ_eq_append_getElem hlt, List.mem_append] at hx
        rcases hx with h | h
        · exact hpre x h
        · simp at h; subst h; exact hcm
      have W := And.intro hk1 (And.intro hg (And.intro hlt hcm))
      repeat' first|refine st ?_|(refine nx ?_;first|refine sz ?_|refine so ?_)|(refine cx ?_;refine sc (fun hc=>?_) (fun hc=>?_)<;>try exact hc.elim)|(refine lx ?_;refine sp (fun hc=>?_) (fun hc=>?_)<;>try exact hc.elim)|refine sx ?_ ?_|refine sy ?_ ?_|fail
      exact hK1 _ ⟨k + 1, by omega, hnx⟩ (weak_o (by simp) (by simp)) (by simp only; omega)
    · have hat : askAt p.mods a = k := askAt_eq hk hpre (fun m hm => by rw [hg] at hm; obtain rfl := Option.some.inj hm; exact hcm)
      by_cases hto : p.mods[k].to = a
      · rw [ask_found (by rw [hat]; exact hg) hto]
        have ce := eqAddrA p.mods[k].to a
        rw [decide_eq_true hto] at ce
        simp only [eAddr] at ce
        have W := And.intro hk1 (And.intro hg (And.intro hlt hcm))
        have c0 := ce
        repeat' first|refine st ?_|(refine nx ?_;first|refine sz ?_|refine so ?_)|(refine cx ?_;refine sc (fun hc=>?_) (fun hc=>?_)<;>try exact hc.elim)|(refine lx ?_;refine sp (fun hc=>?_) (fun hc=>?_)<;>try exact hc.elim)|refine sx ?_ ?_|refine sy ?_ ?_|fail
        all_goals (try (refine ⟨.inr rfl, ?_⟩; simp [Hands, Tryz.results68]))
      · have hno : ∀ m, p.mods[askAt p.mods a]? = some m → m.to ≠ a := fun m hm => by rw [hat, hg] at hm; obtain rfl := Option.some.inj hm; exact hto
        have ce := eqAddrA p.mods[k].to a
        rw [decide_eq_false hto] at ce
        simp only [eAddr] at ce
        rw [ask_new hno, hat]
        unfold askMods newMod
        by_cases hck : checkRequest p.policy ⟨5, a, p.addr.host, []⟩ = 1
        · simp only [hck, if_true]
          rw [hck] at cK
          have W := And.intro hk1 (And.intro hg (And.intro hlt (And.intro hcm hk)))
          have c0 := ce
          repeat' first|refine st ?_|(refine nx ?_;first|refine sz ?_|refine so ?_)|(refine cx ?_;refine sc (fun hc=>?_) (fun hc=>?_)<;>try exact hc.elim)|(refine lx ?_;refine sp (fun hc=>?_) (fun hc=>?_)<;>try exact hc.elim)|refine sx ?_ ?_|refine sy ?_ ?_|fail
          all_goals (try (refine ⟨.inr rfl, ?_⟩; simp [Hands, Tryz.results68]))
          all_goals exact ⟨ask_drop p.mods k, ask_clean p.mods a k _ _⟩
        · simp only [hck, if_false]
          have W := And.intro hk1 (And.intro hg (And.intro hlt (And.intro hcm (And.intro hk hck))))
          have c0 := ce
          repeat' first|refine st ?_|(refine nx ?_;first|refine sz ?_|refine so ?_)|(refine cx ?_;refine sc (fun hc=>?_) (fun hc=>?_)<;>try exact hc.elim)|(refine lx ?_;refine sp (fun hc=>?_) (fun hc=>?_)<;>try exact hc.elim)|refine sx ?_ ?_|refine sy ?_ ?_|fail
          all_goals (try (refine ⟨.inr rfl, ?_⟩; simp [Hands, Tryz.results68]))
          all_goals exact ⟨ask_drop p.mods k, ask_clean p.mods a k _ _⟩
  · have hat : askAt p.mods a = k := askAt_eq hk hpre (fun m hm => by rw [List.getElem?_eq_none (by omega)] at hm; cases hm)
    have hno : ∀ m, p.mods[askAt p.mods a]? = some m → m.to ≠ a := fun m hm => by rw [hat, List.getElem?_eq_none (by omega)] at hm; cases hm
    rw [ask_new hno, hat]
    unfold askMods newMod
    by_cases hck : checkRequest p.policy ⟨5, a, p.addr.host, []⟩ = 1
    · simp only [hck, if_true]
      rw [hck] at cK
      have W := And.intro hk1 (And.intro hlt hk)
      repeat' first|refine st ?_|(refine nx ?_;first|refine sz ?_|refine so ?_)|(refine cx ?_;refine sc (fun hc=>?_) (fun hc=>?_)<;>try exact hc.elim)|(refine lx ?_;refine sp (fun hc=>?_) (fun hc=>?_)<;>try exact hc.elim)|refine sx ?_ ?_|refine sy ?_ ?_|fail
      all_goals (try (refine ⟨.inr rfl, ?_⟩; simp [Hands, Tryz.results68]))
      all_goals exact ⟨ask_drop p.mods k, ask_clean p.mods a k _ _⟩
    · simp only [hck, if_false]
      have W := And.intro hk1 (And.intro hlt (And.intro hk hck))
      repeat' first|refine st ?_|(refine nx ?_;first|refine sz ?_|refine so ?_)|(refine cx ?_;refine sc (fun hc=>?_) (fun hc=>?_)<;>try exact hc.elim)|(refine lx ?_;refine sp (fun hc=>?_) (fun hc=>?_)<;>try exact hc.elim)|refine sx ?_ ?_|refine sy ?_ ?_|fail
      all_goals (try (refine ⟨.inr rfl, ?_⟩; simp [Hands, Tryz.results68]))
      all_goals exact ⟨ask_drop p.mods k, ask_clean p.mods a k _ _⟩
end Go.Proofs.YtphofanfadgalaaGreatDoor

set_option maxRecDepth 4000
set_option maxHeartbeats 4000000
namespace Go.Proofs.YtphofanfadgalaaGreatDoor
open Go.Aw
theorem askMods_sz (p : DPage) (a : DAddr) (k : Nat) : szL szModule (askMods p a k) = szL szModule p.mods + 1 + szAddr a := by
  have h1 : sumN szModule (p.mods.take k) + sumN szModule (p.mods.drop k) = sumN szModule p.mods := by rw [← sumN_join, List.take_append_drop]
  have h2 : (p.mods.take k).length + (p.mods.drop k).length = p.mods.length := by rw [← List.length_append, List.take_append_drop]
  have h3 : szModule (newMod p a) = szAddr a := by unfold newMod; split <;> simp [szModule]
  simp only [askMods, szL, List.length_append, List.length_cons, sumN_join, sumN, h3]
  omega
theorem ask_sz (p : DPage) (a : DAddr) : szPage (askModule p a) ≤ szPage p + szAddr a + 1 := by
  have h := askMods_sz p a (askAt p.mods a)
  unfold askModule
  split
  · split
    · omega
    · simp only [szPage, h]; omega
  · simp only [szPage, h]; omega
end Go.Proofs.YtphofanfadgalaaGreatDoor

set_option maxRecDepth 4000
set_option maxHeartbeats 4000000
namespace Go.Proofs.YtphofanfadgalaaGreatDoor
open Go.Aw
def filledM (p : DPage) (m : DModule) (x : DResponse) : DModule := { m with done := true, code := checkResponse p.policy (modReqOf p m) x, body := usableBody p.policy (modReqOf p m) x }
def askAll (q : DPage) (l : List DAddr) : DPage := l.foldl askModule q
def fillAtM (p : DPage) (a : DAddr) (x : DResponse) (k : Nat) (m : DModule) : DPage := askAll { p with mods := p.mods.set k (filledM p m x) } (impsAt { p with mods := p.mods.set k (filledM p m x) } a)
def fillModule (p : DPage) (a : DAddr) (x : DResponse) : DPage :=
  if idxI (modIs a) p.mods < 0 then p else match p.mods[(idxI (modIs a) p.mods).toNat]? with
  | some m => if m.done = true then p else fillAtM p a x (idxI (modIs a) p.mods).toNat m
  | none => p
theorem fillM_none {p : DPage} {a : DAddr} {x : DResponse} (h : idxI (modIs a) p.mods = -1) : fillModule p a x = p := by
  unfold fillModule; rw [h]; rfl
theorem fillM_done {p : DPage} {a : DAddr} {x : DResponse} {k : Nat} {m : DModule} (h : idxI (modIs a) p.mods = (k : Int)) (hg : p.mods[k]? = some m) (hd : m.done = true) : fillModule p a x = p := by
  unfold fillModule; rw [h, if_neg (by omega), Int.toNat_natCast, hg]; simp [hd]
theorem fillM_new {p : DPage} {a : DAddr} {x : DResponse} {k : Nat} {m : DModule} (h : idxI (modIs a) p.mods = (k : Int)) (hg : p.mods[k]? = some m) (hd : m.done = false) : fillModule p a x = fillAtM p a x k m := by
  unfold fillModule; rw [h, if_neg (by omega), Int.toNat_natCast, hg]; simp [hd]
theorem find_set {α : Type} (f : α → Bool) (y : α) : ∀ (l : List α) (k : Nat) (h : k < l.length), f y = true → l.find? f = some l[k] → (∀ j (hj : j < k), f (l[j]'(Nat.lt_trans hj h)) = false) → (l.set k y).find? f = some y
  | [], k, h, _, _, _ => by simp at h
  | z :: l, 0, h, hy, _, _ => by simp [hy]
  | z :: l, k + 1, h, hy, hf, hn => by
    have hz : f z = false := hn 0 (by omega)
    rw [List.set_cons_succ, List.find?_cons, hz]
    rw [List.find?_cons, hz] at hf
    exact find_set f y l k (by simpa using h) hy (by simpa using hf) (fun j hj => by have := hn (j + 1) (by omega); simpa using this)
theorem idx_at {α : Type} {f : α → Bool} {l : List α} {k : Nat} (h : idxI f l = (k : Int)) (hk : k < l.length) : f l[k] = true ∧ ∀ j (hj : j < k), f (l[j]'(Nat.lt_trans hj hk)) = false := by
  unfold idxI at h
  split at h
  · rename_i ha
    have hk2 : l.findIdx f = k := by omega
    rw [List.findIdx_eq hk] at hk2
    exact hk2
  · omega
theorem find_filled {p : DPage} {a : DAddr} {x : DResponse} {k : Nat} (h : idxI (modIs a) p.mods = (k : Int)) (hk : k < p.mods.length) (hf : p.mods.find? (modIs a) = some p.mods[k]) : (p.mods.set k (filledM p p.mods[k] x)).find? (modIs a) = some (filledM p p.mods[k] x) := by
  obtain ⟨h1, h2⟩ := idx_at h hk
  exact find_set _ _ _ _ hk (by simp only [modIs] at h1 ⊢; exact h1) hf h2
theorem sum_set {α : Type} (f : α → Nat) (c : Nat) : ∀ (l : List α) (i : Nat) (y : α) (h : i < l.length), f y ≤ f l[i] + c → sumN f (l.set i y) ≤ sumN f l + c
  | [], i, y, h, _ => by simp at h
  | z :: l, 0, y, h, hs => by simp only [List.set_cons_zero, sumN, List.getElem_cons_zero] at hs ⊢; omega
  | z :: l, i + 1, y, h, hs => by
    have := sum_set f c l i y (by simpa using h) (by simpa using hs)
    simp only [List.set_cons_succ, sumN]; omega
theorem set_szM (p : DPage) (k : Nat) (hk : k < p.mods.length) (x : DResponse) : szPage { p with mods := p.mods.set k (filledM p p.mods[k] x) } ≤ szPage p + 400 := by
  have hb := usable_le p.policy (modReqOf p p.mods[k]) x
  have h := sum_set szModule 400 p.mods k (filledM p p.mods[k] x) hk (by simp only [szModule, filledM]; omega)
  simp only [szPage, szL, List.length_set]
  omega
theorem ask_all_sz (N : Nat) : ∀ (l : List DAddr) (q : DPage), (∀ x ∈ l, szAddr x ≤ N) → szPage (askAll q l) ≤ szPage q + l.length * (N + 1)
  | [], q, _ => by simp [askAll]
  | b :: l, q, h => by
    have h1 := ask_all_sz N l (askModule q b) (fun x hx => h x (by simp [hx]))
    have h2 := ask_sz q b
    have h3 := h b (by simp)
    simp only [askAll, List.foldl_cons, List.length_cons, Nat.succ_mul] at h1 ⊢
    omega
theorem askAll_snoc (q : DPage) (l : List DAddr) (b : DAddr) : askAll q (l ++ [b]) = askModule (askAll q l) b := by simp [askAll]
end Go.Proofs.YtphofanfadgalaaGreatDoor
