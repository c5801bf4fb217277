/-
  Proved here: steps towards the statement of this claim, text Z5.
  No condition beyond what each statement spells out.
-/
import Derived.Test.YtphofanfadgalaaGreatDoorZ4
import Derived.Test.YtphofanfadgalaaGreatDoorSU7
import Derived.Test.YtphofanfadgalaaGreatDoorF8
set_option linter.all false
set_option linter.unusedSimpArgs false
set_option linter.unusedVariables false
set_option maxRecDepth 4000
set_option maxHeartbeats 4000000
namespace Go.Proofs.YtphofanfadgalaaGreatDoor
open Go.Aw

theorem rswr_mapZ {α : Type} {f : α → List AV} {i j : Nat} (h : ∀ x, rswc i j (f x) = f x) : ∀ l : List α, rswr i j (l.map f) = l.map f
  | [] => rfl
  | x :: l => by simp only [List.map_cons, rswr, h, rswr_mapZ h l]
@[simp] theorem rswr_zStr (i j : Nat) (l : List Str) : rswr i j (l.map eStr) = l.map eStr := rswr_mapZ (fun _ => rfl) l
@[simp] theorem rswr_zInt (i j : Nat) (l : List Int) : rswr i j (l.map eInt) = l.map eInt := rswr_mapZ (fun _ => rfl) l
@[simp] theorem rswr_zAddr (i j : Nat) (l : List DAddr) : rswr i j (l.map eAddr) = l.map eAddr := rswr_mapZ (fun _ => rfl) l
@[simp] theorem rswr_zAttr (i j : Nat) (l : List DAttr) : rswr i j (l.map eAttr) = l.map eAttr := rswr_mapZ (fun _ => rfl) l
@[simp] theorem rswr_zSlot (i j : Nat) (l : List DSlot) : rswr i j (l.map eSlot) = l.map eSlot := rswr_mapZ (fun _ => rfl) l
@[simp] theorem rswr_zModule (i j : Nat) (l : List DModule) : rswr i j (l.map eModule) = l.map eModule := rswr_mapZ (fun _ => rfl) l
@[simp] theorem rswr_zTokenV (i j : Nat) (l : List DToken) : rswr i j (l.map (eToken .view)) = l.map (eToken .view) := rswr_mapZ (fun _ => by simp) l
@[simp] theorem rswr_zNodeV (i j : Nat) (l : List DNode) : rswr i j (l.map (eNode .view)) = l.map (eNode .view) := rswr_mapZ (fun _ => by simp) l
@[simp] theorem rtr_zTok (u : List Nat) (b : Bool) (l : List DToken) : rtr (dropf u) b (l.map (eToken .view)) = l.map (eToken .view) := by
  induction l with
  | nil => rfl
  | cons x l ih => rw [List.map_cons, rtr, ih]; simp [rtc, rt, eToken, dropf]
@[simp] theorem rtr_zNode (u : List Nat) (b : Bool) (l : List DNode) : rtr (dropf u) b (l.map (eNode .view)) = l.map (eNode .view) := by
  induction l with
  | nil => rfl
  | cons x l ih => rw [List.map_cons, rtr, ih]; simp [rtc, rt, eNode, dropf]
/-- Two lists in lent variables that were made anew take the places of those before. -/
theorem weak_visit {t t' : List AV} {o o' : List AObj} {v : Nat} {l1 l3 m1 m3 : List (List AV)} {o4 o5 o6 o7 o8 o9 : AObj}
    (ho : o = [⟨true, true, 1, 2, [[.obj 10 1]]⟩, ⟨false, false, 2, v, l1⟩, ⟨true, true, 1, 2, [[.obj 11 1]]⟩, ⟨false, false, 2, 1, l3⟩, o4, o5, o6, o7, o8, o9, ⟨true, false, 2, 1, m1⟩, ⟨true, false, 2, 1, m3⟩])
    (ho' : o' = [⟨true, true, 1, 2, [[.obj 1 1]]⟩, ⟨true, false, 2, 1, m1⟩, ⟨true, true, 1, 2, [[.obj 3 1]]⟩, ⟨true, false, 2, 1, m3⟩, o4, o5, o6, o7, o8])
    (hf : (o4.rsw 1 10 = o4 ∧ o5.rsw 1 10 = o5 ∧ o6.rsw 1 10 = o6 ∧ o7.rsw 1 10 = o7 ∧ o8.rsw 1 10 = o8 ∧ o9.rsw 1 10 = o9) ∧ (o4.rsw 3 11 = o4 ∧ o5.rsw 3 11 = o5 ∧ o6.rsw 3 11 = o6 ∧ o7.rsw 3 11 = o7 ∧ o8.rsw 3 11 = o8 ∧ o9.rsw 3 11 = o9))
    (hw : wk t t') (h1 : wk (rswc 1 10 t') t') (h3 : wk (rswc 3 11 t') t') (hc : closedc 9 t' = true) (hc0 : closedo 9 [o4, o5, o6, o7, o8] = true) : Weak ⟨t, o⟩ ⟨t', o'⟩ := by
  subst ho; subst ho'
  obtain ⟨⟨a4, a5, a6, a7, a8, a9⟩, b4, b5, b6, b7, b8, b9⟩ := hf
  refine (weak_t hw).trans ?_
  refine (weak_swp 1 10 rfl rfl ⟨rfl, rfl⟩ (by simp [a4, a5, a6, a7, a8, a9]; rfl) h1).trans ?_
  refine (weak_swp 3 11 rfl rfl ⟨rfl, rfl⟩ (by simp [b4, b5, b6, b7, b8, b9]; rfl) h3).trans ?_
  refine weak_take 9 (by simp) (wk_rfl _) hc ?_
  simpa [closedo, closedc, closed] using hc0
theorem visit_fold {p : DPage} {U : List DAddr} (hU : ∀ x ∈ allImps p, x ∈ U) (n : Nat) : ∀ (l : List DAddr) (s : List DAddr × List DAddr), (∀ b ∈ l, b ∈ U) → Seen U s → Seen U (visitFold p n l s) ∧ (∀ x ∈ s.1, x ∈ (visitFold p n l s).1)
  | [], s, _, h => ⟨h, fun _ h => h⟩
  | b :: l, s, hl, h => by
    obtain ⟨h1, h2⟩ := visit_seen hU n b s (hl b (by simp)) h
    obtain ⟨h3, h4⟩ := visit_fold hU n l _ (fun x hx => hl x (by simp [hx])) h1
    exact ⟨h3, fun x hx => h4 x (h2 x hx)⟩
theorem implModAt_ok [Tabs Tryz.prog] [HasMax Tryz.prog] (p : DPage) (a : DAddr) (hl : p.mods.length ≤ 1099511627776) : Ok Tryz.prog 44 [.agg (ePage .view p), .agg (eAddr a)] (.int .i64 (idxI (modIs a) p.mods)) := by
  have c1 := indexMod_ok p.mods a hl
  simp only [eAddr] at c1
  refine ent Tryz.mix Tryz.func44 Tryz.ntmps44 ?_
  have W := trivial
  repeat' first|refine st ?_|(refine nx ?_;first|refine se ?_|refine so ?_)|(refine cx ?_;refine sc (fun hc=>?_) (fun hc=>?_)<;>try exact hc.elim)|(refine lx ?_;refine sp (fun hc=>?_) (fun hc=>?_)<;>try exact hc.elim)|refine sx ?_ ?_|refine sy ?_ ?_|fail
  all_goals (try (refine ⟨.inr rfl, ?_⟩; simp [Hands, Tryz.results44]))
/-- What the walk asks of the addresses. -/
structure Bnd (p : DPage) (U : List DAddr) : Prop where
  hs : szPage p ≤ 268435456
  im : ∀ x ∈ allImps p, x ∈ U
  len : U.length ≤ 1073741824
  host : ∀ x ∈ U, x.host.length ≤ 1073741824
  ps : ∀ m ∈ p.mods, (parseModule m.body m.to.host).1.length ≤ 1073741824
theorem Seen.len {U : List DAddr} {s : List DAddr × List DAddr} (h : Seen U s) : s.1.length ≤ U.length ∧ s.2.length ≤ U.length :=
  ⟨(nodup_sum (fun _ => 0) s.1 U h.nd h.sub).2, (nodup_sum (fun _ => 0) s.2 U h.ond (fun x hx => h.sub x (h.osub x hx))).2⟩
theorem implVisit_seen [Tabs Tryz.prog] [HasMax Tryz.prog] (p : DPage) (U : List DAddr) (hb : Bnd p U) (a : DAddr) (s1 s2 : List DAddr) (hn : s1.any (addrIs a) = true) (h1 : s1.length ≤ 1073741824) :
    OkG Tryz.prog 56 [.view (.agg (ePage .view p)), .view (.agg (eAddr a)), .lend [.sl .own 2 (s1.map eAddr)] [.sl .own 2 (s1.map eAddr)], .lend [.sl .own 2 (s2.map eAddr)] [.sl .own 2 (s2.map eAddr)]] (.tup []) := by
  have c1 := containsAddr_ok s1 a (by omega)
  simp only [eAddr] at c1
  rw [hn] at c1
  refine entG Tryz.mix Tryz.func56 Tryz.ntmps56 ?_
  have W := trivial
  repeat' first|refine st ?_|(refine nx ?_;first|refine se ?_|refine so ?_)|(refine cx ?_;refine sc (fun hc=>?_) (fun hc=>?_)<;>try exact hc.elim)|(refine lx ?_;refine sp (fun hc=>?_) (fun hc=>?_)<;>try exact hc.elim)|refine sx ?_ ?_|refine sy ?_ ?_|fail
  all_goals (try (refine ⟨by first | exact .inr rfl | exact .inl rfl, ?_⟩; simp [HandsG, lendOut, lendUse, rowOf, Tryz.results56]))
theorem implVisit_new [Tabs Tryz.prog] [HasMax Tryz.prog] (p : DPage) (U : List DAddr) (hb : Bnd p U) (n : Nat) (a : DAddr) (ha : a ∈ U) (s1 s2 : List DAddr) (hn : s1.any (addrIs a) = false) (hs : Seen U (s1, s2)) (hf : unseen p s1 < n + 1)
    (ih : ∀ (b : DAddr) (q1 q2 : List DAddr), unseen p q1 < n → Seen U (q1, q2) → b ∈ U → OkG Tryz.prog 56 [.view (.agg (ePage .view p)), .view (.agg (eAddr b)), .lend [.sl .own 2 (q1.map eAddr)] [.sl .own 2 ((visitN p n b q1 q2).1.map eAddr)], .lend [.sl .own 2 (q2.map eAddr)] [.sl .own 2 ((visitN p n b q1 q2).2.map eAddr)]] (.tup [])) :
    OkG Tryz.prog 56 [.view (.agg (ePage .view p)), .view (.agg (eAddr a)), .lend [.sl .own 2 (s1.map eAddr)] [.sl .own 2 ((visitN p (n + 1) a s1 s2).1.map eAddr)], .lend [.sl .own 2 (s2.map eAddr)] [.sl .own 2 ((visitN p (n + 1) a s1 s2).2.map eAddr)]] (.tup []) := by
  have hps := hb.hs
  have hl := hs.len
  have hU := hb.len
  simp only [szPage, szL] at hps
  simp only at hl
  have c1 := containsAddr_ok s1 a (by omega)
  have c2 := implModAt_ok p a (by omega)
  rw [hn] at c1
  have hna : a ∉ s1 := fun h => by rw [any_addr.2 h] at hn; cases hn
  obtain ⟨t1, ht1⟩ : ∃ l : List DAddr, l = s1 ++ [a] := ⟨_, rfl⟩
  have e1 : s1.map eAddr ++ [[.str a.host, .str a.path]] = t1.map eAddr := by simp [ht1]
  have hl1 : (s1.map eAddr).length = s1.length := by simp
  have hv : visitN p (n + 1) a s1 s2 = ((visitFold p n (impsAt p a) (s1 ++ [a], s2)).1, (visitFold p n (impsAt p a) (s1 ++ [a], s2)).2 ++ [a]) := by
    simp only [visitN, hn, visitFold]; rfl
  rw [hv]
  clear hv
  rw [← ht1]
  rcases idx_find (modIs a) p.mods with ⟨hi, hf⟩ | ⟨k, hk, hi, hf⟩
  · have hL : impsAt p a = [] := by unfold impsAt; rw [hf]
    have hl2 : (s2.map eAddr).length = s2.length := by simp
    rw [hL]
    rw [hi] at c2
    simp only [eAddr, ePage] at c1 c2
    obtain ⟨t2, ht2⟩ : ∃ l : List DAddr, l = s2 ++ [a] := ⟨_, rfl⟩
    have e2 : s2.map eAddr ++ [[.str a.host, .str a.path]] = t2.map eAddr := by simp [ht2]
    simp only [visitFold, List.foldl_nil]
    rw [← ht2]
    clear ht2 ht1
    refine entG Tryz.mix Tryz.func56 Tryz.ntmps56 ?_
    have W := And.intro e1 (And.intro e2 (And.intro hl1 hl2))
    repeat' first|refine st ?_|(refine nx ?_;first|refine se ?_|refine so ?_)|(refine cx ?_;refine sc (fun hc=>?_) (fun hc=>?_)<;>try exact hc.elim)|(refine lx ?_;refine sp (fun hc=>?_) (fun hc=>?_)<;>try exact hc.elim)|refine sx ?_ ?_|refine sy ?_ ?_|fail
    all_goals (try (refine ⟨by first | exact .inr rfl | exact .inl rfl, ?_⟩; simp [HandsG, lendOut, lendUse, rowOf, Tryz.results56, visitFold]))
  · have hm := List.getElem_mem hk
    have hz := sumN_mem_le szModule hm
    have hpm := hb.ps _ hm
    have hta : (p.mods[k]).to = a := by
      have := List.find?_some hf
      simpa [modIs] using this
    have hha := hb.host _ ha
    rw [hi] at c2
    have hg := List.getElem?_eq_getElem hk
    have hL : impsAt p a = if p.mods[k].done = true ∧ p.mods[k].code = 1 then (parseModule p.mods[k].body a.host).1 else [] := by unfold impsAt; rw [hf]
    simp only [szModule, szAddr] at hz
    have cp := implParseModule_ok p.mods[k].body a.host (by omega) hha
    rw [hta] at hpm
    simp only [eAddr, ePage] at c1 c2
    by_cases hd : p.mods[k].done = true ∧ p.mods[k].code = 1
    · rw [if_pos hd] at hL
      rw [← hL] at cp hpm
      obtain ⟨hd1, hd2⟩ := hd
      refine entG Tryz.mix Tryz.func56 Tryz.ntmps56 ?_
      have W := And.intro e1 (And.intro hl1 (And.intro hg (And.intro hk (And.intro hd1 hd2))))
      repeat' first|refine st ?_|(refine nx ?_;first|refine se ?_|refine so ?_)|(refine cx ?_;refine sc (fun hc=>?_) (fun hc=>?_)<;>try exact hc.elim)|(refine lx ?_;refine sp (fun hc=>?_) (fun hc=>?_)<;>try exact hc.elim)|refine sx ?_ ?_|refine sy ?_ ?_|fail
      have hst : Seen U (t1, s2) := by
        subst ht1
        exact ⟨List.nodup_append.2 ⟨hs.nd, by simp, fun x hx y hy e => hna (by simp at hy; subst hy; subst e; exact hx)⟩, fun x hx => by
          rcases List.mem_append.1 hx with h | h
          · exact hs.sub x h
          · simp at h; subst h; exact ha, hs.ond, fun x hx => List.mem_append_left _ (hs.osub x hx)⟩
      have hun : unseen p t1 < n := by
        have := unseen_lt (p := p) (s := s1) (a := a) (by rw [hn]; simp) ⟨_, hm, hta⟩
        rw [← ht1] at this
        omega
      have hLU : ∀ b ∈ impsAt p a, b ∈ U := fun b h => hb.im b (impsAt_sub p a b h)
      clear hL ht1
      generalize impsAt p a = L at *
      refine awp_loop' (ι := { k : Nat × Nat // k.1 ≤ L.length ∧ 1 ≤ k.2 }) (fun t o i => ⟨upds t [(64, .int .i64 i.1.1), (13, .undef), (16, .undef), (22, .undef), (25, .undef)], [⟨true, true, 1, 2, [[.obj 1 i.1.2]]⟩, ⟨true, false, 2, i.1.2, (visitFold p n (L.take i.1.1) (t1, s2)).1.map eAddr⟩, ⟨true, true, 1, 2, [[.obj 3 1]]⟩, ⟨true, false, 2, 1, (visitFold p n (L.take i.1.1) (t1, s2)).2.map eAddr⟩] ++ o.drop 4⟩)
        (fun i => L.length - i.1.1) ⟨(0, 2), by simp, by simp⟩ (weak_o (by simp [visitFold]) (by simp)) ?_
      rintro ⟨⟨k, v⟩, hk, hv⟩ K1 hK1
      simp only [upds, List.set_cons_succ, List.set_cons_zero, List.drop_succ_cons, List.drop_zero, List.cons_append, List.nil_append] at hk hv hK1 ⊢
      have hk1 : IntKind.i64.wrap ((k : Int) + 1) = ((k + 1 : Nat) : Int) := by rw [wrap64] <;> omega
      by_cases hlt : k < L.length
      · have hg2 := List.getElem?_eq_getElem hlt
        obtain ⟨f1, f2⟩ := visit_fold hb.im n (L.take k) (t1, s2) (fun b h => hLU b (List.mem_of_mem_take h)) hst
        have f3 := unseen_mono (p := p) f2
        have c3 := ih L[k] (visitFold p n (L.take k) (t1, s2)).1 (visitFold p n (L.take k) (t1, s2)).2 (by simp only at f3; omega) f1 (hLU _ (List.getElem_mem hlt))
        have hnext : visitFold p n (L.take (k + 1)) (t1, s2) = visitN p n L[k] (visitFold p n (L.take k) (t1, s2)).1 (visitFold p n (L.take k) (t1, s2)).2 := by
          rw [List.take_succ_eq_append_getElem hlt, visitFold_snoc]
        generalize visitFold p n (L.take k) (t1, s2) = q at *
        obtain ⟨q1, q2⟩ := q
        simp only at c3 hnext ⊢
        generalize visitN p n L[k] q1 q2 = w at *
        obtain ⟨w1, w2⟩ := w
        simp only [eAddr, ePage] at c3
        have W := And.intro hk1 (And.intro hg2 hlt)
        repeat' first|refine st ?_|(refine nx ?_;first|refine se ?_|refine so ?_|refine sg (hc:=c3) (h:=?_))|(refine cx ?_;refine sc (fun hc=>?_) (fun hc=>?_)<;>try exact hc.elim)|(refine lx ?_;refine sp (fun hc=>?_) (fun hc=>?_)<;>try exact hc.elim)|refine sx ?_ ?_|refine sy ?_ ?_|fail
        refine hK1 _ ⟨(k + 1, 1), by simp only; omega, by simp⟩ ?_ (by simp only; omega)
        simp only [hnext]
        exact weak_visit rfl rfl (by simp) (by simp) (by simp) (by simp) (by simp) (by simp [closedo, closedc, closed])
      · have htk : L.take k = L := List.take_of_length_le (by omega)
        rw [htk]
        have f1 := (visit_fold hb.im n L (t1, s2) hLU hst).1.len
        generalize visitFold p n L (t1, s2) = q at *
        obtain ⟨q1, q2⟩ := q
        simp only at f1
        have hl2 : (q2.map eAddr).length = q2.length := by simp
        obtain ⟨t2, ht2⟩ : ∃ l : List DAddr, l = q2 ++ [a] := ⟨_, rfl⟩
        have e2 : q2.map eAddr ++ [[.str a.host, .str a.path]] = t2.map eAddr := by simp [ht2]
        simp only
        rw [← ht2]
        clear ht2
        have W := And.intro hk1 (And.intro e2 hl2)
        repeat' first|refine st ?_|(refine nx ?_;first|refine se ?_|refine so ?_)|(refine cx ?_;refine sc (fun hc=>?_) (fun hc=>?_)<;>try exact hc.elim)|(refine lx ?_;refine sp (fun hc=>?_) (fun hc=>?_)<;>try exact hc.elim)|refine sx ?_ ?_|refine sy ?_ ?_|fail
        all_goals (try (refine ⟨by first | exact .inr rfl | exact .inl rfl, ?_⟩; simp [HandsG, lendOut, lendUse, rowOf, Tryz.results56]))
    · rw [if_neg hd] at hL
      have hl2 : (s2.map eAddr).length = s2.length := by simp
      rw [hL]
      obtain ⟨t2, ht2⟩ : ∃ l : List DAddr, l = s2 ++ [a] := ⟨_, rfl⟩
      have e2 : s2.map eAddr ++ [[.str a.host, .str a.path]] = t2.map eAddr := by simp [ht2]
      simp only [visitFold, List.foldl_nil]
      rw [← ht2]
      clear ht2 ht1
      cases hd1 : p.mods[k].done
      · refine entG Tryz.mix Tryz.func56 Tryz.ntmps56 ?_
        have W := And.intro e1 (And.intro e2 (And.intro hl1 (And.intro hl2 (And.intro hg (And.intro hk hd1)))))
        repeat' first|refine st ?_|(refine nx ?_;first|refine se ?_|refine so ?_)|(refine cx ?_;refine sc (fun hc=>?_) (fun hc=>?_)<;>try exact hc.elim)|(refine lx ?_;refine sp (fun hc=>?_) (fun hc=>?_)<;>try exact hc.elim)|refine sx ?_ ?_|refine sy ?_ ?_|fail
        all_goals (try (refine ⟨by first | exact .inr rfl | exact .inl rfl, ?_⟩; simp [HandsG, lendOut, lendUse, rowOf, Tryz.results56]))
      · have hd2 : ¬ p.mods[k].code = 1 := fun h => hd ⟨hd1, h⟩
        refine entG Tryz.mix Tryz.func56 Tryz.ntmps56 ?_
        have W := And.intro e1 (And.intro e2 (And.intro hl1 (And.intro hl2 (And.intro hg (And.intro hk (And.intro hd1 hd2))))))
        repeat' first|refine st ?_|(refine nx ?_;first|refine se ?_|refine so ?_)|(refine cx ?_;refine sc (fun hc=>?_) (fun hc=>?_)<;>try exact hc.elim)|(refine lx ?_;refine sp (fun hc=>?_) (fun hc=>?_)<;>try exact hc.elim)|refine sx ?_ ?_|refine sy ?_ ?_|fail
        all_goals (try (refine ⟨by first | exact .inr rfl | exact .inl rfl, ?_⟩; simp [HandsG, lendOut, lendUse, rowOf, Tryz.results56]))
theorem implVisit_ok [Tabs Tryz.prog] [HasMax Tryz.prog] (p : DPage) (U : List DAddr) (hb : Bnd p U) : ∀ (n : Nat) (a : DAddr) (s1 s2 : List DAddr), unseen p s1 < n → Seen U (s1, s2) → a ∈ U → OkG Tryz.prog 56 [.view (.agg (ePage .view p)), .view (.agg (eAddr a)), .lend [.sl .own 2 (s1.map eAddr)] [.sl .own 2 ((visitN p n a s1 s2).1.map eAddr)], .lend [.sl .own 2 (s2.map eAddr)] [.sl .own 2 ((visitN p n a s1 s2).2.map eAddr)]] (.tup [])
  | 0, _, _, _, h, _, _ => absurd h (by omega)
  | n + 1, a, s1, s2, h, hs, ha => by
    have hl := hs.len
    have hU := hb.len
    simp only at hl
    cases hn : s1.any (addrIs a)
    · exact implVisit_new p U hb n a ha s1 s2 hn hs h (fun b q1 q2 h1 h2 h3 => implVisit_ok p U hb n b q1 q2 h1 h2 h3)
    · have : visitN p (n + 1) a s1 s2 = (s1, s2) := by simp [visitN, hn]
      rw [this]
      exact implVisit_seen p U hb a s1 s2 hn (by omega)
/-- The modules that are reached. -/
def reachOf (p : DPage) (a : DAddr) : List DAddr := (visitN p (unseen p [] + 1) a [] []).2
theorem implReachOf_ok [Tabs Tryz.prog] [HasMax Tryz.prog] (p : DPage) (U : List DAddr) (hb : Bnd p U) (a : DAddr) (ha : a ∈ U) : Ok Tryz.prog 17 [.agg (ePage .view p), .agg (eAddr a)] (.sl .own 2 ((reachOf p a).map eAddr)) := by
  have c1 := implVisit_ok p U hb (unseen p [] + 1) a [] [] (by omega) ⟨by simp, by simp, by simp, by simp⟩ ha
  unfold reachOf
  generalize visitN p (unseen p [] + 1) a [] [] = w at *
  obtain ⟨w1, w2⟩ := w
  simp only [eAddr, ePage, List.map_nil] at c1
  refine ent Tryz.mix Tryz.func17 Tryz.ntmps17 ?_
  have W := trivial
  repeat' first|refine st ?_|(refine nx ?_;first|refine se ?_|refine so ?_|refine sg (hc:=c1) (h:=?_))|(refine cx ?_;refine sc (fun hc=>?_) (fun hc=>?_)<;>try exact hc.elim)|(refine lx ?_;refine sp (fun hc=>?_) (fun hc=>?_)<;>try exact hc.elim)|refine sx ?_ ?_|refine sy ?_ ?_|fail
  all_goals (try (refine ⟨.inr rfl, ?_⟩; simp [Hands, Tryz.results17]))
end Go.Proofs.YtphofanfadgalaaGreatDoor
