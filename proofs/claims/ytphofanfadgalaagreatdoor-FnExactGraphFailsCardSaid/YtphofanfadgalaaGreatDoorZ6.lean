/-
  Proved here: steps towards the statement of this claim, text Z6.
  No condition beyond what each statement spells out.
-/
import Derived.Test.YtphofanfadgalaaGreatDoorZ5
import Derived.Test.YtphofanfadgalaaGreatDoorF8
set_option linter.all false
set_option linter.unusedSimpArgs false
set_option linter.unusedVariables false
set_option maxRecDepth 4000
set_option maxHeartbeats 4000000
namespace Go.Proofs.YtphofanfadgalaaGreatDoor
open Go.Aw

/-- Whether a module's imports can be used. -/
def impsOk (p : DPage) (a : DAddr) : Bool :=
  match p.mods.find? (modIs a) with
  | some m => if m.done = true ∧ m.code = 1 then (parseModule m.body a.host).2.2 else false
  | none => false
theorem specImports_ok [Tabs Tryz.prog] [HasMax Tryz.prog] (p : DPage) (U : List DAddr) (hb : Bnd p U) (a : DAddr) (ha : a ∈ U) : Ok Tryz.prog 53 [.agg (ePage .view p), .agg (eAddr a)] (.tup [.sl .own 2 ((impsAt p a).map eAddr), .bool (impsOk p a)]) := by
  have hps := hb.hs
  simp only [szPage, szL] at hps
  have c2 := specFind_ok p a (by omega)
  unfold impsAt impsOk
  rcases idx_find (modIs a) p.mods with ⟨hi, hf⟩ | ⟨k, hk, hi, hf⟩
  · rw [hf]
    rw [hi] at c2
    simp only [eAddr, ePage] at c2
    refine ent Tryz.mix Tryz.func53 Tryz.ntmps53 ?_
    have W := trivial
    repeat' first|refine st ?_|(refine nx ?_;first|refine se ?_|refine so ?_)|(refine cx ?_;refine sc (fun hc=>?_) (fun hc=>?_)<;>try exact hc.elim)|(refine lx ?_;refine sp (fun hc=>?_) (fun hc=>?_)<;>try exact hc.elim)|refine sx ?_ ?_|refine sy ?_ ?_|fail
    all_goals (try (refine ⟨.inr rfl, ?_⟩; simp [Hands, Tryz.results53]))
  · rw [hf]
    rw [hi] at c2
    have hm := List.getElem_mem hk
    have hz := sumN_mem_le szModule hm
    have hha := hb.host _ ha
    have hg := List.getElem?_eq_getElem hk
    simp only [szModule, szAddr] at hz
    have cp := specParseModule_ok p.mods[k].body a.host (by omega) hha
    simp only [eAddr, ePage] at c2
    simp only
    generalize parseModule p.mods[k].body a.host = w at *
    obtain ⟨w1, w2, w3⟩ := w
    simp only at cp
    have hk0 : ¬ ((k : Nat) : Int) < 0 := by omega
    cases hd1 : p.mods[k].done
    · refine ent Tryz.mix Tryz.func53 Tryz.ntmps53 ?_
      have W := And.intro hk0 (And.intro hg (And.intro hk hd1))
      repeat' first|refine st ?_|(refine nx ?_;first|refine se ?_|refine so ?_)|(refine cx ?_;refine sc (fun hc=>?_) (fun hc=>?_)<;>try exact hc.elim)|(refine lx ?_;refine sp (fun hc=>?_) (fun hc=>?_)<;>try exact hc.elim)|refine sx ?_ ?_|refine sy ?_ ?_|fail
      all_goals (try (refine ⟨.inr rfl, ?_⟩; simp [Hands, Tryz.results53]))
    · by_cases hd2 : p.mods[k].code = 1
      · simp only [hd2, and_self, if_true]
        refine ent Tryz.mix Tryz.func53 Tryz.ntmps53 ?_
        have W := And.intro hk0 (And.intro hg (And.intro hk (And.intro hd1 hd2)))
        repeat' first|refine st ?_|(refine nx ?_;first|refine se ?_|refine so ?_)|(refine cx ?_;refine sc (fun hc=>?_) (fun hc=>?_)<;>try exact hc.elim)|(refine lx ?_;refine sp (fun hc=>?_) (fun hc=>?_)<;>try exact hc.elim)|refine sx ?_ ?_|refine sy ?_ ?_|fail
        all_goals (try (refine ⟨.inr rfl, ?_⟩; simp [Hands, Tryz.results53]))
      · simp only [hd2, and_false, if_false]
        refine ent Tryz.mix Tryz.func53 Tryz.ntmps53 ?_
        have W := And.intro hk0 (And.intro hg (And.intro hk (And.intro hd1 hd2)))
        repeat' first|refine st ?_|(refine nx ?_;first|refine se ?_|refine so ?_)|(refine cx ?_;refine sc (fun hc=>?_) (fun hc=>?_)<;>try exact hc.elim)|(refine lx ?_;refine sp (fun hc=>?_) (fun hc=>?_)<;>try exact hc.elim)|refine sx ?_ ?_|refine sy ?_ ?_|fail
        all_goals (try (refine ⟨.inr rfl, ?_⟩; simp [Hands, Tryz.results53]))
theorem specVisit_seen [Tabs Tryz.prog] [HasMax Tryz.prog] (p : DPage) (a : DAddr) (s1 s2 : List DAddr) (hn : s1.any (addrIs a) = true) (h1 : s1.length ≤ 1073741824) :
    OkG Tryz.prog 55 [.view (.agg (ePage .view p)), .view (.agg (eAddr a)), .give (.sl .own 2 (s1.map eAddr)), .give (.sl .own 2 (s2.map eAddr))] (.tup [.sl .own 2 (s1.map eAddr), .sl .own 2 (s2.map eAddr)]) := by
  have c1 := specHasAddr_ok s1 a (by omega)
  simp only [eAddr] at c1
  rw [hn] at c1
  refine entG Tryz.mix Tryz.func55 Tryz.ntmps55 ?_
  have W := trivial
  repeat' first|refine st ?_|(refine nx ?_;first|refine se ?_|refine so ?_)|(refine cx ?_;refine sc (fun hc=>?_) (fun hc=>?_)<;>try exact hc.elim)|(refine lx ?_;refine sp (fun hc=>?_) (fun hc=>?_)<;>try exact hc.elim)|refine sx ?_ ?_|refine sy ?_ ?_|fail
  all_goals (try (refine ⟨by first | exact .inr rfl | exact .inl rfl, ?_⟩; simp [HandsG, lendOut, lendUse, rowOf, Tryz.results55]))
theorem weak_visitS {t t' : List AV} {o o' : List AObj} {v : Nat} {l1 l4 m1 m2 : List (List AV)} {o0 o2 o3 o5 o6 : AObj}
    (ho : o = [o0, ⟨false, false, 2, 1, l1⟩, o2, o3, ⟨false, false, 2, v, l4⟩, o5, o6, ⟨true, false, 2, 1, m1⟩, ⟨true, false, 2, 1, m2⟩])
    (ho' : o' = [o0, ⟨true, false, 2, 1, m2⟩, o2, o3, ⟨true, false, 2, 1, m1⟩, o5, o6])
    (hf : (o0.rsw 4 7 = o0 ∧ o2.rsw 4 7 = o2 ∧ o3.rsw 4 7 = o3 ∧ o5.rsw 4 7 = o5 ∧ o6.rsw 4 7 = o6) ∧ (o0.rsw 1 8 = o0 ∧ o2.rsw 1 8 = o2 ∧ o3.rsw 1 8 = o3 ∧ o5.rsw 1 8 = o5 ∧ o6.rsw 1 8 = o6))
    (hw : wk t (rswc 4 7 (rswc 1 8 t'))) (h1 : wk (rswc 4 7 (rswc 4 7 (rswc 1 8 t'))) (rswc 1 8 t')) (h3 : wk (rswc 1 8 (rswc 1 8 t')) t') (hc : closedc 7 t' = true) (hc0 : closedo 7 [o0, o2, o3, o5, o6] = true) : Weak ⟨t, o⟩ ⟨t', o'⟩ := by
  subst ho; subst ho'
  obtain ⟨⟨a0, a2, a3, a5, a6⟩, b0, b2, b3, b5, b6⟩ := hf
  refine (weak_t hw).trans ?_
  refine (weak_swp 4 7 rfl rfl ⟨rfl, rfl⟩ (by simp [a0, a2, a3, a5, a6]; rfl) h1).trans ?_
  refine (weak_swp 1 8 rfl rfl ⟨rfl, rfl⟩ (by simp [b0, b2, b3, b5, b6]; rfl) h3).trans ?_
  refine weak_take 7 (by simp) (wk_rfl _) hc ?_
  simpa [closedo, closedc, closed] using hc0
theorem specVisit_new [Tabs Tryz.prog] [HasMax Tryz.prog] (p : DPage) (U : List DAddr) (hb : Bnd p U) (n : Nat) (a : DAddr) (ha : a ∈ U) (s1 s2 : List DAddr) (hn : s1.any (addrIs a) = false) (hs : Seen U (s1, s2)) (hf : unseen p s1 < n + 1)
    (ih : ∀ (b : DAddr) (q1 q2 : List DAddr), unseen p q1 < n → Seen U (q1, q2) → b ∈ U → OkG Tryz.prog 55 [.view (.agg (ePage .view p)), .view (.agg (eAddr b)), .give (.sl .own 2 (q1.map eAddr)), .give (.sl .own 2 (q2.map eAddr))] (.tup [.sl .own 2 ((visitN p n b q1 q2).1.map eAddr), .sl .own 2 ((visitN p n b q1 q2).2.map eAddr)])) :
    OkG Tryz.prog 55 [.view (.agg (ePage .view p)), .view (.agg (eAddr a)), .give (.sl .own 2 (s1.map eAddr)), .give (.sl .own 2 (s2.map eAddr))] (.tup [.sl .own 2 ((visitN p (n + 1) a s1 s2).1.map eAddr), .sl .own 2 ((visitN p (n + 1) a s1 s2).2.map eAddr)]) := by
  have hps := hb.hs
  have hl := hs.len
  have hU := hb.len
  simp only [szPage, szL] at hps
  simp only at hl
  have c1 := specHasAddr_ok s1 a (by omega)
  have c2 := specImports_ok p U hb a ha
  rw [hn] at c1
  have hna : a ∉ s1 := fun h => by rw [any_addr.2 h] at hn; cases hn
  obtain ⟨t1, ht1⟩ : ∃ l : List DAddr, l = s1 ++ [a] := ⟨_, rfl⟩
  have e1 : s1.map eAddr ++ [[.str a.host, .str a.path]] = t1.map eAddr := by simp [ht1]
  have hl1 : (s1.map eAddr).length = s1.length := by simp
  have hv : visitN p (n + 1) a s1 s2 = ((visitFold p n (impsAt p a) (s1 ++ [a], s2)).1, (visitFold p n (impsAt p a) (s1 ++ [a], s2)).2 ++ [a]) := by
    simp only [visitN, hn, visitFold]; rfl
  rw [hv]
  clear hv
  rw [← ht1]
  have hst : Seen U (t1, s2) := by
    subst ht1
    exact ⟨List.nodup_append.2 ⟨hs.nd, by simp, fun x hx y hy e => hna (by simp at hy; subst hy; subst e; exact hx)⟩, fun x hx => by
      rcases List.mem_append.1 hx with h | h
      · exact hs.sub x h
      · simp at h; subst h; exact ha, hs.ond, fun x hx => List.mem_append_left _ (hs.osub x hx)⟩
  have hun : impsAt p a ≠ [] → unseen p t1 < n := by
    intro h
    have := unseen_lt (p := p) (s := s1) (a := a) (by rw [hn]; simp) (impsAt_mod h)
    rw [← ht1] at this
    omega
  have hLU : ∀ b ∈ impsAt p a, b ∈ U := fun b h => hb.im b (impsAt_sub p a b h)
  have hLl : (impsAt p a).length ≤ 1073741824 := by
    unfold impsAt
    split
    · rename_i m hm
      split
      · have h1 := hb.ps m (List.mem_of_find?_eq_some hm)
        have h2 := List.find?_some hm
        simp only [modIs, decide_eq_true_eq] at h2
        rwa [h2] at h1
      · simp
    · simp
  clear ht1
  generalize impsOk p a = ok at *
  generalize impsAt p a = L at *
  simp only [eAddr, ePage] at c1 c2
  refine entGH Tryz.mix [3, 8, 9] Tryz.func55 Tryz.ntmps55 ?_
  have W := And.intro e1 hl1
  repeat' first|refine st ?_|(refine nx ?_;first|refine se ?_|refine so ?_)|(refine cx ?_;refine sc (fun hc=>?_) (fun hc=>?_)<;>try exact hc.elim)|(refine lx ?_;refine sp (fun hc=>?_) (fun hc=>?_)<;>try exact hc.elim)|refine sx ?_ ?_|refine sy ?_ ?_|fail
  refine go_drawn3 [⟨4, 2, [(5, ⟨true, false, 2, 3, t1.map eAddr⟩), (2, ⟨true, false, 2, 2, s1.map eAddr⟩), (0, ⟨true, false, 2, 1, []⟩)]⟩, ⟨5, 2, [(4, ⟨true, false, 2, 1, [[.str a.host, .str a.path]]⟩)]⟩] (by simp; rfl) (by decide +kernel) (by decide +kernel) (by simp [preAt, pre, Region.binds]) (by simp) ?_
  repeat' first|refine d3_nil (by simp; rfl) (by simp; rfl) ?_|(refine d3_next ?_ (by simp; rfl) ?_; (focus (simp; done)))|(refine d3_make (j := 5) (v := .obj 4 3) ⟨4, 2, [(5, ⟨true, false, 2, 3, t1.map eAddr⟩), (2, ⟨true, false, 2, 2, s1.map eAddr⟩), (0, ⟨true, false, 2, 1, []⟩)]⟩ [] [(2, ⟨true, false, 2, 2, s1.map eAddr⟩), (0, ⟨true, false, 2, 1, []⟩)] rfl (by simp) rfl (by simp [Region.binds]; rfl) (by decide) (by simp [Region.binds]; rfl) (by simp; rfl) rfl ?_ ?_; (focus (refine at_appendO (by first | (simp; rfl) | (simp; done) | rfl) rfl (by first | (simp; rfl) | (simp; done) | rfl) (by first | (simp; rfl) | (simp; done) | rfl) (by first | (simp; rfl) | (simp; done) | rfl) (by first | (simp; done) | decide) (by first | rfl | exact plainRows_map (fun _ => rfl) _ | (simp [plainRows, AV.plainV]; done)) (by first | (simp; rfl) | (simp; done) | rfl | exact W.1 | exact W.2.1 | exact W | (simp [W]; done)) (by simp; exact ⟨rfl, rfl⟩) (by simp) (by simp) (by simp; omega) (by simp; omega))))|(refine d3_make (j := 2) (v := .obj 4 2) ⟨4, 2, [(5, ⟨true, false, 2, 3, t1.map eAddr⟩), (2, ⟨true, false, 2, 2, s1.map eAddr⟩), (0, ⟨true, false, 2, 1, []⟩)]⟩ [(5, ⟨true, false, 2, 3, t1.map eAddr⟩)] [(0, ⟨true, false, 2, 1, []⟩)] rfl (by simp) rfl (by simp [Region.binds]; rfl) (by decide) (by simp [Region.binds]; rfl) (by simp; rfl) rfl ?_ ?_; (focus (refine at_appendO (by first | (simp; rfl) | (simp; done) | rfl) rfl (by first | (simp; rfl) | (simp; done) | rfl) (by first | (simp; rfl) | (simp; done) | rfl) (by first | (simp; rfl) | (simp; done) | rfl) (by first | (simp; done) | decide) (by first | rfl | exact plainRows_map (fun _ => rfl) _ | (simp [plainRows, AV.plainV]; done)) (by first | (simp; rfl) | (simp; done) | rfl | exact W.1 | exact W.2.1 | exact W | (simp [W]; done)) (by simp; exact ⟨rfl, rfl⟩) (by simp) (by simp) (by simp; omega) (by simp; omega))))|(refine d3_make (j := 0) (v := .obj 4 1) ⟨4, 2, [(5, ⟨true, false, 2, 3, t1.map eAddr⟩), (2, ⟨true, false, 2, 2, s1.map eAddr⟩), (0, ⟨true, false, 2, 1, []⟩)]⟩ [(5, ⟨true, false, 2, 3, t1.map eAddr⟩), (2, ⟨true, false, 2, 2, s1.map eAddr⟩)] [] rfl (by simp) rfl (by simp [Region.binds]; rfl) (by decide) (by simp [Region.binds]; rfl) (by simp; rfl) rfl ?_ ?_; (focus (refine at_litE (by simp; exact ⟨rfl, rfl⟩) (by simp) rfl rfl (by decide) (by decide) (by first | (simp; rfl) | rfl) (by simp [AV.plainV]) (by simp [AV.good, AV.cells]) (by simp) (by simp [AV.cells]))))|(refine d3_make (j := 4) (v := .obj 5 1) ⟨5, 2, [(4, ⟨true, false, 2, 1, [[.str a.host, .str a.path]]⟩)]⟩ [] [] rfl (by simp) rfl (by simp [Region.binds]; rfl) (by decide) (by simp [Region.binds]; rfl) (by simp; rfl) rfl ?_ ?_; (focus (refine at_litEF (by simp; exact ⟨rfl, rfl⟩) (by simp) rfl rfl (by decide) (by decide) (by first | (simp; rfl) | rfl) (by simp [AV.flatV, AV.plainV]) (by simp [AV.good, AV.cells]) (by simp) (by simp [AV.cells]))))|(refine d3_pure rfl ?_ (by simp [Region.binds]; rfl) (by decide) (by simp [Region.binds]; rfl) (by simp; rfl) ?_ rfl (by first | rfl | (simp; done)) ?_; (focus (first | rfl | (simp; done))); (focus (first | rfl | (simp [quietA]; done))))|(refine nx ?_; refine so ?_)|fail
  have W := And.intro e1 hl1
  repeat' first|refine st ?_|(refine nx ?_;first|refine se ?_|refine so ?_)|(refine cx ?_;refine sc (fun hc=>?_) (fun hc=>?_)<;>try exact hc.elim)|(refine lx ?_;refine sp (fun hc=>?_) (fun hc=>?_)<;>try exact hc.elim)|refine sx ?_ ?_|refine sy ?_ ?_|fail
  refine awp_loop' (ι := { k : Nat × Nat // k.1 ≤ L.length ∧ 1 ≤ k.2 }) (fun t o i => ⟨upds t [(12, .int .i64 i.1.1), (2, .obj 4 i.1.2), (3, .obj 1 1), (8, .undef), (9, .undef), (18, .undef), (20, .undef), (23, .undef)], (o.set 1 ⟨true, false, 2, 1, (visitFold p n (L.take i.1.1) (t1, s2)).2.map eAddr⟩).set 4 ⟨true, false, 2, i.1.2, (visitFold p n (L.take i.1.1) (t1, s2)).1.map eAddr⟩⟩)
    (fun i => L.length - i.1.1) ⟨(0, 3), by simp, by simp⟩ (weak_o (by simp [visitFold]) (by simp)) ?_
  rintro ⟨⟨k, v⟩, hk, hv⟩ K1 hK1
  simp only [upds, List.set_cons_succ, List.set_cons_zero] at hk hv hK1 ⊢
  have hk1 : IntKind.i64.wrap ((k : Int) + 1) = ((k + 1 : Nat) : Int) := by rw [wrap64] <;> omega
  by_cases hlt : k < L.length
  · have hg2 := List.getElem?_eq_getElem hlt
    obtain ⟨f1, f2⟩ := visit_fold hb.im n (L.take k) (t1, s2) (fun b h => hLU b (List.mem_of_mem_take h)) hst
    have f3 := unseen_mono (p := p) f2
    have hne : L ≠ [] := by intro h; rw [h] at hlt; simp at hlt
    have hun' := hun hne
    have c3 := ih L[k] (visitFold p n (L.take k) (t1, s2)).1 (visitFold p n (L.take k) (t1, s2)).2 (by simp only at f3; omega) f1 (hLU _ (List.getElem_mem hlt))
    have hnext : visitFold p n (L.take (k + 1)) (t1, s2) = visitN p n L[k] (visitFold p n (L.take k) (t1, s2)).1 (visitFold p n (L.take k) (t1, s2)).2 := by
      rw [List.take_succ_eq_append_getElem hlt, visitFold_snoc]
    generalize visitFold p n (L.take k) (t1, s2) = q at *
    obtain ⟨q1, q2⟩ := q
    simp only at c3 hnext ⊢
    generalize visitN p n L[k] q1 q2 = w at *
    obtain ⟨w1, w2⟩ := w
    simp only [eAddr, ePage] at c3
    have W := And.intro hk1 (And.intro hg2 hlt)
    repeat' first|refine st ?_|(refine nx ?_;first|refine se ?_|refine so ?_)|(refine cx ?_;refine sc (fun hc=>?_) (fun hc=>?_)<;>try exact hc.elim)|(refine lx ?_;refine sp (fun hc=>?_) (fun hc=>?_)<;>try exact hc.elim)|refine sx ?_ ?_|refine sy ?_ ?_|fail
    rw [hide_eq]
    refine go_drawn (by simp; rfl) (by simp; rfl) (by decide +kernel) (by decide) (by first | rfl | (simp [flOk]; done)) (by simp) (by simp) ?_
    iterate 7 (
      refine go_draw rfl (by first | rfl | (simp; done)) (by simp [Region.binds]; rfl) (by decide) (by simp [Region.binds]; rfl) (by simp; rfl) ?_ ?_
      · first | rfl | (simp [quietA]; done)
      refine nx ?_
      refine so ?_
      refine kN ?_
      refine go_next (by simp; done) (by simp; rfl) (by simp; rfl) ?_)
    refine dwalk_barC (s1 := ?s1) (by decide +kernel) (by simp [strays, reach, preAt, Region.binds, List.range_succ]; rfl) ?ha ?hk
    case ha =>
      repeat' (first | refine st ?_ | (refine nx ?_; first | refine so ?_ | refine sg (hc := c3) (h := ?_)) | refine sx ?_ ?_ | refine sy ?_ ?_ | fail)
      all_goals rfl
    case hk =>
      have W := hk1
      repeat' first|refine st ?_|(refine nx ?_;first|refine se ?_|refine so ?_)|(refine cx ?_;refine sc (fun hc=>?_) (fun hc=>?_)<;>try exact hc.elim)|(refine lx ?_;refine sp (fun hc=>?_) (fun hc=>?_)<;>try exact hc.elim)|refine sx ?_ ?_|refine sy ?_ ?_|fail
      refine hK1 _ ⟨(k + 1, 1), by simp only; omega, by simp⟩ ?_ (by simp only; omega)
      simp only [hnext]
      refine weak_visitS rfl rfl (by simp) (by simp) (by simp) (by simp) (by simp) (by simp [closedo, closedc, closed])
  · have htk : L.take k = L := List.take_of_length_le (by omega)
    rw [htk]
    have f1 := (visit_fold hb.im n L (t1, s2) hLU hst).1.len
    generalize visitFold p n L (t1, s2) = q at *
    obtain ⟨q1, q2⟩ := q
    simp only at f1
    have hl2 : (q2.map eAddr).length = q2.length := by simp
    obtain ⟨t2, ht2⟩ : ∃ l : List DAddr, l = q2 ++ [a] := ⟨_, rfl⟩
    have e2 : q2.map eAddr ++ [[.str a.host, .str a.path]] = t2.map eAddr := by simp [ht2]
    simp only
    rw [← ht2]
    clear ht2
    have W := And.intro e2 hk1
    repeat' first|refine st ?_|(refine nx ?_;first|refine se ?_|refine so ?_)|(refine cx ?_;refine sc (fun hc=>?_) (fun hc=>?_)<;>try exact hc.elim)|(refine lx ?_;refine sp (fun hc=>?_) (fun hc=>?_)<;>try exact hc.elim)|refine sx ?_ ?_|refine sy ?_ ?_|fail
    refine go_drawn3 [⟨7, 2, [(6, ⟨true, false, 2, 3, t2.map eAddr⟩), (3, ⟨true, false, 2, 2, q2.map eAddr⟩), (1, ⟨true, false, 2, 1, []⟩)]⟩, ⟨8, 2, [(5, ⟨true, false, 2, 1, [[.str a.host, .str a.path]]⟩)]⟩] (by simp; rfl) (by decide +kernel) (by decide +kernel) (by simp [preAt, pre, Region.binds]) (by simp) ?_
    repeat' first|refine d3_nil (by simp; rfl) (by simp; rfl) ?_|(refine d3_next ?_ (by simp; rfl) ?_; (focus (simp; done)))|(refine d3_make (j := 6) (v := .obj 7 3) ⟨7, 2, [(6, ⟨true, false, 2, 3, t2.map eAddr⟩), (3, ⟨true, false, 2, 2, q2.map eAddr⟩), (1, ⟨true, false, 2, 1, []⟩)]⟩ [] [(3, ⟨true, false, 2, 2, q2.map eAddr⟩), (1, ⟨true, false, 2, 1, []⟩)] rfl (by simp) rfl (by simp [Region.binds]; rfl) (by decide) (by simp [Region.binds]; rfl) (by simp; rfl) rfl ?_ ?_; (focus (refine at_appendO (by first | (simp; rfl) | (simp; done) | rfl) rfl (by first | (simp; rfl) | (simp; done) | rfl) (by first | (simp; rfl) | (simp; done) | rfl) (by first | (simp; rfl) | (simp; done) | rfl) (by first | (simp; done) | decide) (by first | rfl | exact plainRows_map (fun _ => rfl) _ | (simp [plainRows, AV.plainV]; done)) (by first | (simp; rfl) | (simp; done) | rfl | exact W.1 | exact W.2.1 | exact W | (simp [W]; done)) (by simp; exact ⟨rfl, rfl⟩) (by simp) (by simp) (by simp; omega) (by simp; omega))))|(refine d3_make (j := 3) (v := .obj 7 2) ⟨7, 2, [(6, ⟨true, false, 2, 3, t2.map eAddr⟩), (3, ⟨true, false, 2, 2, q2.map eAddr⟩), (1, ⟨true, false, 2, 1, []⟩)]⟩ [(6, ⟨true, false, 2, 3, t2.map eAddr⟩)] [(1, ⟨true, false, 2, 1, []⟩)] rfl (by simp) rfl (by simp [Region.binds]; rfl) (by decide) (by simp [Region.binds]; rfl) (by simp; rfl) rfl ?_ ?_; (focus (refine at_appendO (by first | (simp; rfl) | (simp; done) | rfl) rfl (by first | (simp; rfl) | (simp; done) | rfl) (by first | (simp; rfl) | (simp; done) | rfl) (by first | (simp; rfl) | (simp; done) | rfl) (by first | (simp; done) | decide) (by first | rfl | exact plainRows_map (fun _ => rfl) _ | (simp [plainRows, AV.plainV]; done)) (by first | (simp; rfl) | (simp; done) | rfl | exact W.1 | exact W.2.1 | exact W | (simp [W]; done)) (by simp; exact ⟨rfl, rfl⟩) (by simp) (by simp) (by simp; omega) (by simp; omega))))|(refine d3_make (j := 1) (v := .obj 7 1) ⟨7, 2, [(6, ⟨true, false, 2, 3, t2.map eAddr⟩), (3, ⟨true, false, 2, 2, q2.map eAddr⟩), (1, ⟨true, false, 2, 1, []⟩)]⟩ [(6, ⟨true, false, 2, 3, t2.map eAddr⟩), (3, ⟨true, false, 2, 2, q2.map eAddr⟩)] [] rfl (by simp) rfl (by simp [Region.binds]; rfl) (by decide) (by simp [Region.binds]; rfl) (by simp; rfl) rfl ?_ ?_; (focus (refine at_litE (by simp; exact ⟨rfl, rfl⟩) (by simp) rfl rfl (by decide) (by decide) (by first | (simp; rfl) | rfl) (by simp [AV.plainV]) (by simp [AV.good, AV.cells]) (by simp) (by simp [AV.cells]))))|(refine d3_make (j := 5) (v := .obj 8 1) ⟨8, 2, [(5, ⟨true, false, 2, 1, [[.str a.host, .str a.path]]⟩)]⟩ [] [] rfl (by simp) rfl (by simp [Region.binds]; rfl) (by decide) (by simp [Region.binds]; rfl) (by simp; rfl) rfl ?_ ?_; (focus (refine at_litEF (by simp; exact ⟨rfl, rfl⟩) (by simp) rfl rfl (by decide) (by decide) (by first | (simp; rfl) | rfl) (by simp [AV.flatV, AV.plainV]) (by simp [AV.good, AV.cells]) (by simp) (by simp [AV.cells]))))|(refine d3_pure rfl ?_ (by simp [Region.binds]; rfl) (by decide) (by simp [Region.binds]; rfl) (by simp; rfl) ?_ rfl (by first | rfl | (simp; done)) ?_; (focus (first | rfl | (simp; done))); (focus (first | rfl | (simp [quietA]; done))))|(refine nx ?_; refine so ?_)|fail
    have W := And.intro e2 hk1
    repeat' first|refine st ?_|(refine nx ?_;first|refine se ?_|refine so ?_)|(refine cx ?_;refine sc (fun hc=>?_) (fun hc=>?_)<;>try exact hc.elim)|(refine lx ?_;refine sp (fun hc=>?_) (fun hc=>?_)<;>try exact hc.elim)|refine sx ?_ ?_|refine sy ?_ ?_|fail
    all_goals (try (refine ⟨by first | exact .inr rfl | exact .inl rfl, ?_⟩; simp [HandsG, lendOut, lendUse, rowOf, Tryz.results55]))
theorem specVisit_ok [Tabs Tryz.prog] [HasMax Tryz.prog] (p : DPage) (U : List DAddr) (hb : Bnd p U) : ∀ (n : Nat) (a : DAddr) (s1 s2 : List DAddr), unseen p s1 < n → Seen U (s1, s2) → a ∈ U → OkG Tryz.prog 55 [.view (.agg (ePage .view p)), .view (.agg (eAddr a)), .give (.sl .own 2 (s1.map eAddr)), .give (.sl .own 2 (s2.map eAddr))] (.tup [.sl .own 2 ((visitN p n a s1 s2).1.map eAddr), .sl .own 2 ((visitN p n a s1 s2).2.map eAddr)])
  | 0, _, _, _, h, _, _ => absurd h (by omega)
  | n + 1, a, s1, s2, h, hs, ha => by
    have hl := hs.len
    have hU := hb.len
    simp only at hl
    cases hn : s1.any (addrIs a)
    · exact specVisit_new p U hb n a ha s1 s2 hn hs h (fun b q1 q2 h1 h2 h3 => specVisit_ok p U hb n b q1 q2 h1 h2 h3)
    · have : visitN p (n + 1) a s1 s2 = (s1, s2) := by simp [visitN, hn]
      rw [this]
      exact specVisit_seen p a s1 s2 hn (by omega)
theorem specReachOf_ok [Tabs Tryz.prog] [HasMax Tryz.prog] (p : DPage) (U : List DAddr) (hb : Bnd p U) (a : DAddr) (ha : a ∈ U) : Ok Tryz.prog 16 [.agg (ePage .view p), .agg (eAddr a)] (.sl .own 2 ((reachOf p a).map eAddr)) := by
  have c1 := specVisit_ok p U hb (unseen p [] + 1) a [] [] (by omega) ⟨by simp, by simp, by simp, by simp⟩ ha
  unfold reachOf
  generalize visitN p (unseen p [] + 1) a [] [] = w at *
  obtain ⟨w1, w2⟩ := w
  simp only [eAddr, ePage, List.map_nil] at c1
  refine ent Tryz.mix Tryz.func16 Tryz.ntmps16 ?_
  have W := trivial
  repeat' first|refine st ?_|(refine nx ?_;first|refine se ?_|refine so ?_|refine sg (hc:=c1) (h:=?_))|(refine cx ?_;refine sc (fun hc=>?_) (fun hc=>?_)<;>try exact hc.elim)|(refine lx ?_;refine sp (fun hc=>?_) (fun hc=>?_)<;>try exact hc.elim)|refine sx ?_ ?_|refine sy ?_ ?_|fail
  all_goals (try (refine ⟨.inr rfl, ?_⟩; simp [Hands, Tryz.results16]))
end Go.Proofs.YtphofanfadgalaaGreatDoor
