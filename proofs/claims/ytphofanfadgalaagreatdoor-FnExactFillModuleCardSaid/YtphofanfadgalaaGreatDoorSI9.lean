/-
  Proved here: steps towards the statement of this claim, text SI9.
  No condition beyond what each statement spells out.
-/
import Derived.Test.YtphofanfadgalaaGreatDoorSI5
set_option linter.all false
set_option maxRecDepth 4000
set_option maxHeartbeats 4000000
namespace Go.Proofs.YtphofanfadgalaaGreatDoor
open Go.Aw
def weak_pageMSwaps : List (Nat × Nat) := [(4, 20), (5, 21), (6, 22), (7, 23), (8, 24), (9, 25), (10, 26), (11, 27), (12, 28), (13, 29), (14, 30)]
theorem weak_pageM {t t' : List AV} {o o' : List AObj} {o0 o1 o2 o3 m0 m1 m2 e0 : AObj} {q0 q : DPage} (ho : o = [o0, o1, o2, o3] ++ pObjs q0 ++ [⟨true, true, 22, 0, [pCells 20 q]⟩, m0, m1, m2, e0] ++ pObjs q) (ho' : o' = [o0, o1, o2, o3] ++ pObjs q ++ [⟨true, true, 22, 0, [pCells 4 q]⟩, m0, m1, m2])
    (ht : ∀ z ∈ weak_pageMSwaps, wk (rswc z.1 z.2 t') t') (hf : ∀ z ∈ weak_pageMSwaps, o0.rsw z.1 z.2 = o0 ∧ o1.rsw z.1 z.2 = o1 ∧ o2.rsw z.1 z.2 = o2 ∧ o3.rsw z.1 z.2 = o3 ∧ m0.rsw z.1 z.2 = m0 ∧ m1.rsw z.1 z.2 = m1 ∧ m2.rsw z.1 z.2 = m2) (hw : wk t t') (hc : closedc 19 t' = true) (hc0 : closedo 19 [o0, o1, o2, o3, m0, m1, m2] = true) : Weak ⟨t, o⟩ ⟨t', o'⟩ := by
  subst ho; subst ho'
  have e := fun i j (h : (i, j) ∈ weak_pageMSwaps) => hf (i, j) h
  have h := fun i j (h : (i, j) ∈ weak_pageMSwaps) => ht (i, j) h
  simp only [pObjs, pCells, List.cons_append, List.nil_append]
  refine (weak_t hw).trans ?_
  refine (weak_swp 4 20 rfl rfl ⟨rfl, rfl⟩ (by simp [(e 4 20 (by decide))]; rfl) (h 4 20 (by decide))).trans ?_
  refine (weak_swp 5 21 rfl rfl ⟨rfl, rfl⟩ (by simp [(e 5 21 (by decide))]; rfl) (h 5 21 (by decide))).trans ?_
  refine (weak_swp 6 22 rfl rfl ⟨rfl, rfl⟩ (by simp [(e 6 22 (by decide))]; rfl) (h 6 22 (by decide))).trans ?_
  refine (weak_swp 7 23 rfl rfl ⟨rfl, rfl⟩ (by simp [(e 7 23 (by decide))]; rfl) (h 7 23 (by decide))).trans ?_
  refine (weak_swp 8 24 rfl rfl ⟨rfl, rfl⟩ (by simp [(e 8 24 (by decide))]; rfl) (h 8 24 (by decide))).trans ?_
  refine (weak_swp 9 25 rfl rfl ⟨rfl, rfl⟩ (by simp [(e 9 25 (by decide))]; rfl) (h 9 25 (by decide))).trans ?_
  refine (weak_swp 10 26 rfl rfl ⟨rfl, rfl⟩ (by simp [(e 10 26 (by decide))]; rfl) (h 10 26 (by decide))).trans ?_
  refine (weak_swp 11 27 rfl rfl ⟨rfl, rfl⟩ (by simp [(e 11 27 (by decide))]; rfl) (h 11 27 (by decide))).trans ?_
  refine (weak_swp 12 28 rfl rfl ⟨rfl, rfl⟩ (by simp [(e 12 28 (by decide))]; rfl) (h 12 28 (by decide))).trans ?_
  refine (weak_swp 13 29 rfl rfl ⟨rfl, rfl⟩ (by simp [(e 13 29 (by decide))]; rfl) (h 13 29 (by decide))).trans ?_
  refine (weak_swp 14 30 rfl rfl ⟨rfl, rfl⟩ (by simp [(e 14 30 (by decide))]; rfl) (h 14 30 (by decide))).trans ?_
  refine weak_take 19 (by simp) (wk_rfl _) hc ?_
  simpa [closedo, closedc, closed] using hc0
theorem impsAt_val {q : DPage} {a : DAddr} {m : DModule} (hf : q.mods.find? (modIs a) = some m) : impsAt q a = if m.done = true ∧ m.code = 1 then (parseModule m.body a.host).1 else [] := by unfold impsAt; rw [hf]
theorem imps_bounds {q : DPage} {a : DAddr} {m : DModule} (hf : q.mods.find? (modIs a) = some m) (hb : m.body.length ≤ 400) (ha : szAddr a ≤ 1048576) : (impsAt q a).length ≤ 57 ∧ ∀ b ∈ impsAt q a, szAddr b ≤ 1048976 := by
  rw [impsAt_val hf]
  split
  · obtain ⟨h1, _, h3⟩ := parseImps_sz m.body a.host
    refine ⟨by omega, fun b hb => ?_⟩
    have := h3 b hb
    simp only [szAddr] at ha this ⊢
    omega
  · simp
theorem ask_take_sz {q : DPage} {l : List DAddr} (h0 : szPage q ≤ 1048976) (h1 : l.length ≤ 57) (h2 : ∀ b ∈ l, szAddr b ≤ 1048976) (i : Nat) : szPage (askAll q (l.take i)) ≤ 61000000 := by
  have h := ask_all_sz 1048976 (l.take i) q (fun x hx => h2 x (List.mem_of_mem_take hx))
  have h3 : (l.take i).length ≤ 57 := by rw [List.length_take]; omega
  have h4 := Nat.mul_le_mul_right (1048976 + 1) h3
  omega
theorem implFillModule_ok [Tabs Tryz.prog] [HasMax Tryz.prog] [HasPow Tryz.prog] (p : DPage) (a : DAddr) (x : DResponse) (hs : szPage p + szAddr a ≤ 1048576) (hx : szResponse x ≤ 1048576) : Ok Tryz.prog 25 [.agg (ePage .view p), .agg (eAddr a), .agg (eResponse x)] (.agg (ePage .own (fillModule p a x))) := by
  have hs1 : szPage p ≤ 1048576 := by omega
  have hml : p.mods.length ≤ 1048576 := by simp only [szPage, szL] at hs1; omega
  have hpol : szPolicy p.policy ≤ 274877906944 := by simp only [szPage] at hs1; omega
  have c1 := copyPage_ok p (by omega)
  have c2 := implModAt_ok p a (by omega)
  rcases idx_find (modIs a) p.mods with ⟨hi, hf⟩ | ⟨k, hk, hi, hf⟩
  · rw [fillM_none hi]
    rw [hi] at c2
    simp only [ePage, eAddr] at c1 c2
    refine ent Tryz.mix Tryz.func25 Tryz.ntmps25 ?_
    have W := trivial
    repeat' first|refine st ?_|(refine nx ?_;first|refine se ?_|refine so ?_)|(refine cx ?_;refine sc (fun hc=>?_) (fun hc=>?_)<;>try exact hc.elim)|(refine lx ?_;refine sp (fun hc=>?_) (fun hc=>?_)<;>try exact hc.elim)|refine sx ?_ ?_|refine sy ?_ ?_|fail
    all_goals (try (refine ⟨.inr rfl, ?_⟩; simp [Hands, Tryz.results25]))
  · have hg := List.getElem?_eq_getElem hk
    rw [hi] at c2
    have hk0 : ¬ ((k : Nat) : Int) < 0 := by omega
    cases hd : p.mods[k].done
    · rw [fillM_new hi hg hd]
      have cR := implModRequest_ok p k (by omega) (by omega) (by omega)
      have e : modReq p (k : Int) = modReqOf p p.mods[k] := by simp [modReq, hg]
      rw [e] at cR
      have hrq : szRequest (modReqOf p p.mods[k]) ≤ 2097152 := by
        have hm := sumN_mem_le szModule (List.getElem_mem hk)
        simp only [szModule] at hm
        simp only [szRequest, modReqOf, List.length_nil]
        simp only [szPage, szL, szAddr] at hs1 hm ⊢
        omega
      have c3 := implCheckResponse_ok p.policy (modReqOf p p.mods[k]) x hpol (by omega) hx
      have c4 := implUsableBody_ok p.policy (modReqOf p p.mods[k]) x hpol (by omega) hx
      simp only [ePage, eRequest] at cR
      simp only [ePolicy, eRequest, eResponse] at c3 c4
      simp only [ePage, eAddr] at c1 c2
      clear e
      have hfi := find_filled (x := x) hi hk hf
      have hqs := set_szM p k hk x
      have hub := usable_le p.policy (modReqOf p p.mods[k]) x
      have hset : (p.mods.map eModule).set k [.str p.mods[k].to.host, .str p.mods[k].to.path, .bool true, .int .i64 (checkResponse p.policy (modReqOf p p.mods[k]) x), .str (usableBody p.policy (modReqOf p p.mods[k]) x)] = (p.mods.set k (filledM p p.mods[k] x)).map eModule := by rw [List.map_set]; rfl
      have hg3 : (p.mods.set k (filledM p p.mods[k] x))[k]? = some (filledM p p.mods[k] x) := by rw [List.getElem?_set_self hk]
      unfold fillAtM
      have hfm : (filledM p p.mods[k] x).done = true ∧ (filledM p p.mods[k] x).code = checkResponse p.policy (modReqOf p p.mods[k]) x ∧ (filledM p p.mods[k] x).body = usableBody p.policy (modReqOf p p.mods[k]) x := ⟨rfl, rfl, rfl⟩
      have hl3 : (p.mods.set k (filledM p p.mods[k] x)).length = p.mods.length := by simp
      generalize checkResponse p.policy (modReqOf p p.mods[k]) x = c at *
      generalize usableBody p.policy (modReqOf p p.mods[k]) x = y at *
      generalize modReqOf p p.mods[k] = rq at *
      generalize filledM p p.mods[k] x = m3 at *
      generalize p.mods.set k m3 = L3 at *
      obtain ⟨f1, f2, f3⟩ := hfm
      have hlt3 : k < L3.length := by omega
      have e3 : ∀ h, (L3[k]'h) = m3 := fun h => by rw [List.getElem?_eq_getElem h] at hg3; exact Option.some.inj hg3
      obtain ⟨b1, b2⟩ := imps_bounds (q := { p with mods := L3 }) hfi (by rw [f3]; exact hub) (by omega)
      have hv := impsAt_val (q := { p with mods := L3 }) hfi
      generalize impsAt { p with mods := L3 } a = L at *
      by_cases hc1 : c = 1
      · rw [if_pos ⟨f1, by rw [f2]; exact hc1⟩, f3] at hv
        have cP := implParseModule_ok y a.host (by omega) (by simp only [szAddr] at hs; omega)
        generalize parseModule y a.host = u at *
        obtain ⟨u1, u2, u3⟩ := u
        simp only at hv cP
        subst hv
        subst hc1
        refine ent Tryz.mix Tryz.func25 Tryz.ntmps25 ?_
        have W := And.intro hk0 (And.intro hg (And.intro hd (And.intro hk (And.intro hset (And.intro hlt3 (And.intro e3 (And.intro f1 (And.intro f2 f3))))))))
        repeat' first|refine st ?_|(refine nx ?_;first|refine se ?_|refine so ?_)|(refine cx ?_;refine sc (fun hc=>?_) (fun hc=>?_)<;>try exact hc.elim)|(refine lx ?_;refine sp (fun hc=>?_) (fun hc=>?_)<;>try exact hc.elim)|refine sx ?_ ?_|refine sy ?_ ?_|fail
        have hq0 : szPage { p with mods := L3 } ≤ 1048976 := by omega
        have hts := ask_take_sz hq0 b1 b2
        have hsn := fun i (h : i < L.length) => show askAll { p with mods := L3 } (L.take (i + 1)) = askModule (askAll { p with mods := L3 } (L.take i)) L[i] by rw [List.take_succ_eq_append_getElem h, askAll_snoc]
        have h00 : askAll { p with mods := L3 } (L.take 0) = { p with mods := L3 } := by simp [askAll]
        have hall : L.length ≤ 1099511627776 := by omega
        refine awp_loop' (ι := { k : Nat // k ≤ L.length }) (fun t o i => ⟨upds t [(84, .int .i64 i.1), (14, .undef), (16, .undef), (35, .undef), (37, .undef), (38, .undef), (40, .undef), (47, .undef), (48, .undef), (51, .undef), (60, .undef), (61, .undef), (63, .undef), (65, .undef), (66, .undef), (71, .undef), (73, .undef), (74, .undef)], o.take 4 ++ pObjs (askAll { p with mods := L3 } (L.take i.1)) ++ [⟨true, true, 22, 0, [pCells 4 (askAll { p with mods := L3 } (L.take i.1))]⟩] ++ o.drop 16⟩)
          (fun i => L.length - i.1) ⟨0, by simp⟩ (weak_o (by simp only [h00]; simp [pObjs, pCells]) (by simp)) ?_
        rintro ⟨i, hi2⟩ K1 hK1
        have hi1 : IntKind.i64.wrap ((i : Int) + 1) = ((i + 1 : Nat) : Int) := by rw [wrap64] <;> omega
        by_cases hlt : i < L.length
        · have hgi := List.getElem?_eq_getElem hlt
          have cA := implAskModule_ok (askAll { p with mods := L3 } (L.take i)) L[i] (by have := hts i; omega) (by have := b2 _ (List.getElem_mem hlt); omega)
          have hnext := hsn i hlt
          rw [← hnext] at cA
          have hK2 := hK1
          simp only [upds, List.set_cons_succ, List.set_cons_zero, List.take_succ_cons, List.take_zero, List.cons_append, List.nil_append, List.drop_succ_cons, List.drop_zero, pObjs, pCells] at hK1 ⊢
          clear hsn h00 hnext hts
          generalize hq1 : askAll { p with mods := L3 } (L.take i) = q at *
          generalize hq2 : askAll { p with mods := L3 } (L.take (i + 1)) = q' at *
          simp only [ePage, eAddr] at cA
          have W := And.intro hi1 (And.intro hgi hlt)
          repeat' first|refine st ?_|(refine nx ?_;first|refine se ?_|refine so ?_)|(refine cx ?_;refine sc (fun hc=>?_) (fun hc=>?_)<;>try exact hc.elim)|(refine lx ?_;refine sp (fun hc=>?_) (fun hc=>?_)<;>try exact hc.elim)|refine sx ?_ ?_|refine sy ?_ ?_|fail
          refine hK2 _ ⟨i + 1, by omega⟩ ?_ (by simp only; omega)
          simp only [hq2]
          exact weak_pageM (q0 := q) (q := q') rfl (by simp [pObjs, pCells]) (by simp [weak_pageMSwaps]) (by simp [weak_pageMSwaps]) (by simp) (by simp) (by simp)
        · have htk : L.take i = L := List.take_of_length_le (by omega)
          have hK2 := hK1
          simp only [upds, List.set_cons_succ, List.set_cons_zero, List.take_succ_cons, List.take_zero, List.cons_append, List.nil_append, List.drop_succ_cons, List.drop_zero, pObjs, pCells, htk] at hK1 ⊢
          clear hsn h00 hts hK2 hK1
          generalize askAll { p with mods := L3 } L = q at *
          have W := And.intro hi1 hlt
          repeat' first|refine st ?_|(refine nx ?_;first|refine se ?_|refine so ?_)|(refine cx ?_;refine sc (fun hc=>?_) (fun hc=>?_)<;>try exact hc.elim)|(refine lx ?_;refine sp (fun hc=>?_) (fun hc=>?_)<;>try exact hc.elim)|refine sx ?_ ?_|refine sy ?_ ?_|fail
          all_goals (try (refine ⟨.inr rfl, ?_⟩; simp [Hands, Tryz.results25]))
      · rw [if_neg (fun h => hc1 (by rw [← f2]; exact h.2))] at hv
        subst hv
        have hnil : askAll { p with mods := L3 } [] = { p with mods := L3 } := rfl
        rw [hnil]
        refine ent Tryz.mix Tryz.func25 Tryz.ntmps25 ?_
        have W := And.intro hk0 (And.intro hg (And.intro hd (And.intro hk (And.intro hset (And.intro hlt3 (And.intro e3 (And.intro f1 (And.intro f2 (And.intro f3 hc1)))))))))
        repeat' first|refine st ?_|(refine nx ?_;first|refine se ?_|refine so ?_)|(refine cx ?_;refine sc (fun hc=>?_) (fun hc=>?_)<;>try exact hc.elim)|(refine lx ?_;refine sp (fun hc=>?_) (fun hc=>?_)<;>try exact hc.elim)|refine sx ?_ ?_|refine sy ?_ ?_|fail
        all_goals (try (refine ⟨.inr rfl, ?_⟩; simp [Hands, Tryz.results25]))
    · rw [fillM_done hi hg hd]
      simp only [ePage, eAddr] at c1 c2
      refine ent Tryz.mix Tryz.func25 Tryz.ntmps25 ?_
      have W := And.intro hk0 (And.intro hg (And.intro hd hk))
      repeat' first|refine st ?_|(refine nx ?_;first|refine se ?_|refine so ?_)|(refine cx ?_;refine sc (fun hc=>?_) (fun hc=>?_)<;>try exact hc.elim)|(refine lx ?_;refine sp (fun hc=>?_) (fun hc=>?_)<;>try exact hc.elim)|refine sx ?_ ?_|refine sy ?_ ?_|fail
      all_goals (try (refine ⟨.inr rfl, ?_⟩; simp [Hands, Tryz.results25]))
end Go.Proofs.YtphofanfadgalaaGreatDoor

set_option maxRecDepth 4000
set_option maxHeartbeats 4000000
namespace Go.Proofs.YtphofanfadgalaaGreatDoor
open Go.Aw
def weak_pageNSwaps : List (Nat × Nat) := [(4, 18), (5, 19), (6, 20), (7, 21), (8, 22), (9, 23), (10, 24), (11, 25), (12, 26), (13, 27), (14, 28)]
theorem weak_pageN {t t' : List AV} {o o' : List AObj} {o0 o1 o2 o3 m0 m1 : AObj} {q0 q : DPage} (ho : o = [o0, o1, o2, o3] ++ pObjs q0 ++ [⟨true, true, 22, 0, [pCells 18 q]⟩, m0, m1] ++ pObjs q) (ho' : o' = [o0, o1, o2, o3] ++ pObjs q ++ [⟨true, true, 22, 0, [pCells 4 q]⟩, m0, m1])
    (ht : ∀ z ∈ weak_pageNSwaps, wk (rswc z.1 z.2 t') t') (hf : ∀ z ∈ weak_pageNSwaps, o0.rsw z.1 z.2 = o0 ∧ o1.rsw z.1 z.2 = o1 ∧ o2.rsw z.1 z.2 = o2 ∧ o3.rsw z.1 z.2 = o3 ∧ m0.rsw z.1 z.2 = m0 ∧ m1.rsw z.1 z.2 = m1) (hw : wk t t') (hc : closedc 18 t' = true) (hc0 : closedo 18 [o0, o1, o2, o3, m0, m1] = true) : Weak ⟨t, o⟩ ⟨t', o'⟩ := by
  subst ho; subst ho'
  have e := fun i j (h : (i, j) ∈ weak_pageNSwaps) => hf (i, j) h
  have h := fun i j (h : (i, j) ∈ weak_pageNSwaps) => ht (i, j) h
  simp only [pObjs, pCells, List.cons_append, List.nil_append]
  refine (weak_t hw).trans ?_
  refine (weak_swp 4 18 rfl rfl ⟨rfl, rfl⟩ (by simp [(e 4 18 (by decide))]; rfl) (h 4 18 (by decide))).trans ?_
  refine (weak_swp 5 19 rfl rfl ⟨rfl, rfl⟩ (by simp [(e 5 19 (by decide))]; rfl) (h 5 19 (by decide))).trans ?_
  refine (weak_swp 6 20 rfl rfl ⟨rfl, rfl⟩ (by simp [(e 6 20 (by decide))]; rfl) (h 6 20 (by decide))).trans ?_
  refine (weak_swp 7 21 rfl rfl ⟨rfl, rfl⟩ (by simp [(e 7 21 (by decide))]; rfl) (h 7 21 (by decide))).trans ?_
  refine (weak_swp 8 22 rfl rfl ⟨rfl, rfl⟩ (by simp [(e 8 22 (by decide))]; rfl) (h 8 22 (by decide))).trans ?_
  refine (weak_swp 9 23 rfl rfl ⟨rfl, rfl⟩ (by simp [(e 9 23 (by decide))]; rfl) (h 9 23 (by decide))).trans ?_
  refine (weak_swp 10 24 rfl rfl ⟨rfl, rfl⟩ (by simp [(e 10 24 (by decide))]; rfl) (h 10 24 (by decide))).trans ?_
  refine (weak_swp 11 25 rfl rfl ⟨rfl, rfl⟩ (by simp [(e 11 25 (by decide))]; rfl) (h 11 25 (by decide))).trans ?_
  refine (weak_swp 12 26 rfl rfl ⟨rfl, rfl⟩ (by simp [(e 12 26 (by decide))]; rfl) (h 12 26 (by decide))).trans ?_
  refine (weak_swp 13 27 rfl rfl ⟨rfl, rfl⟩ (by simp [(e 13 27 (by decide))]; rfl) (h 13 27 (by decide))).trans ?_
  refine (weak_swp 14 28 rfl rfl ⟨rfl, rfl⟩ (by simp [(e 14 28 (by decide))]; rfl) (h 14 28 (by decide))).trans ?_
  refine weak_take 18 (by simp) (wk_rfl _) hc ?_
  simpa [closedo, closedc, closed] using hc0
theorem specImports2_ok [Tabs Tryz.prog] [HasMax Tryz.prog] [HasPow Tryz.prog] (p : DPage) (a : DAddr) (hps : szPage p ≤ 268435456) (hha : a.host.length ≤ 1073741824) : Ok Tryz.prog 53 [.agg (ePage .view p), .agg (eAddr a)] (.tup [.sl .own 2 ((impsAt p a).map eAddr), .bool (impsOk p a)]) := by
  simp only [szPage, szL] at hps
  have c2 := specFind_ok p a (by omega)
  unfold impsAt impsOk
  rcases idx_find (modIs a) p.mods with ⟨hi, hf⟩ | ⟨k, hk, hi, hf⟩
  · rw [hf]
    rw [hi] at c2
    simp only [eAddr, ePage] at c2
    refine ent Tryz.mix Tryz.func53 Tryz.ntmps53 ?_
    have W := trivial
    repeat' first|refine st ?_|(refine nx ?_;first|refine se ?_|refine so ?_)|(refine cx ?_;refine sc (fun hc=>?_) (fun hc=>?_)<;>try exact hc.elim)|(refine lx ?_;refine sp (fun hc=>?_) (fun hc=>?_)<;>try exact hc.elim)|refine sx ?_ ?_|refine sy ?_ ?_|fail
    all_goals (try (refine ⟨.inr rfl, ?_⟩; simp [Hands, Tryz.results53]))
  · rw [hf]
    rw [hi] at c2
    have hm := List.getElem_mem hk
    have hz := sumN_mem_le szModule hm
    have hg := List.getElem?_eq_getElem hk
    simp only [szModule, szAddr] at hz
    have cp := specParseModule_ok p.mods[k].body a.host (by omega) hha
    simp only [eAddr, ePage] at c2
    simp only
    generalize parseModule p.mods[k].body a.host = w at *
    obtain ⟨w1, w2, w3⟩ := w
    simp only at cp
    have hk0 : ¬ ((k : Nat) : Int) < 0 := by omega
    cases hd1 : p.mods[k].done
    · refine ent Tryz.mix Tryz.func53 Tryz.ntmps53 ?_
      have W := And.intro hk0 (And.intro hg (And.intro hk hd1))
      repeat' first|refine st ?_|(refine nx ?_;first|refine se ?_|refine so ?_)|(refine cx ?_;refine sc (fun hc=>?_) (fun hc=>?_)<;>try exact hc.elim)|(refine lx ?_;refine sp (fun hc=>?_) (fun hc=>?_)<;>try exact hc.elim)|refine sx ?_ ?_|refine sy ?_ ?_|fail
      all_goals (try (refine ⟨.inr rfl, ?_⟩; simp [Hands, Tryz.results53]))
    · by_cases hd2 : p.mods[k].code = 1
      · simp only [hd2, and_self, if_true]
        refine ent Tryz.mix Tryz.func53 Tryz.ntmps53 ?_
        have W := And.intro hk0 (And.intro hg (And.intro hk (And.intro hd1 hd2)))
        repeat' first|refine st ?_|(refine nx ?_;first|refine se ?_|refine so ?_)|(refine cx ?_;refine sc (fun hc=>?_) (fun hc=>?_)<;>try exact hc.elim)|(refine lx ?_;refine sp (fun hc=>?_) (fun hc=>?_)<;>try exact hc.elim)|refine sx ?_ ?_|refine sy ?_ ?_|fail
        all_goals (try (refine ⟨.inr rfl, ?_⟩; simp [Hands, Tryz.results53]))
      · simp only [hd2, and_false, if_false]
        refine ent Tryz.mix Tryz.func53 Tryz.ntmps53 ?_
        have W := And.intro hk0 (And.intro hg (And.intro hk (And.intro hd1 hd2)))
        repeat' first|refine st ?_|(refine nx ?_;first|refine se ?_|refine so ?_)|(refine cx ?_;refine sc (fun hc=>?_) (fun hc=>?_)<;>try exact hc.elim)|(refine lx ?_;refine sp (fun hc=>?_) (fun hc=>?_)<;>try exact hc.elim)|refine sx ?_ ?_|refine sy ?_ ?_|fail
        all_goals (try (refine ⟨.inr rfl, ?_⟩; simp [Hands, Tryz.results53]))
theorem specFillModule_ok [Tabs Tryz.prog] [HasMax Tryz.prog] [HasPow Tryz.prog] (p : DPage) (a : DAddr) (x : DResponse) (hs : szPage p + szAddr a ≤ 1048576) (hx : szResponse x ≤ 1048576) : Ok Tryz.prog 23 [.agg (ePage .view p), .agg (eAddr a), .agg (eResponse x)] (.agg (ePage .own (fillModule p a x))) := by
  have hs1 : szPage p ≤ 1048576 := by omega
  have hml : p.mods.length ≤ 1048576 := by simp only [szPage, szL] at hs1; omega
  have hpol : szPolicy p.policy ≤ 274877906944 := by simp only [szPage] at hs1; omega
  have c1 := specPage_ok p (by omega)
  have c2 := specFind_ok p a (by omega)
  rcases idx_find (modIs a) p.mods with ⟨hi, hf⟩ | ⟨k, hk, hi, hf⟩
  · rw [fillM_none hi]
    rw [hi] at c2
    simp only [ePage, eAddr] at c1 c2
    refine ent Tryz.mix Tryz.func23 Tryz.ntmps23 ?_
    have W := trivial
    repeat' first|refine st ?_|(refine nx ?_;first|refine se ?_|refine so ?_)|(refine cx ?_;refine sc (fun hc=>?_) (fun hc=>?_)<;>try exact hc.elim)|(refine lx ?_;refine sp (fun hc=>?_) (fun hc=>?_)<;>try exact hc.elim)|refine sx ?_ ?_|refine sy ?_ ?_|fail
    all_goals (try (refine ⟨.inr rfl, ?_⟩; simp [Hands, Tryz.results23]))
  · have hg := List.getElem?_eq_getElem hk
    rw [hi] at c2
    have hk0 : ¬ ((k : Nat) : Int) < 0 := by omega
    cases hd : p.mods[k].done
    · rw [fillM_new hi hg hd]
      have cR := specModRequest_ok p k (by omega) (by omega) (by omega)
      have e : modReq p (k : Int) = modReqOf p p.mods[k] := by simp [modReq, hg]
      rw [e] at cR
      have hrq : szRequest (modReqOf p p.mods[k]) ≤ 2097152 := by
        have hm := sumN_mem_le szModule (List.getElem_mem hk)
        simp only [szModule] at hm
        simp only [szRequest, modReqOf, List.length_nil]
        simp only [szPage, szL, szAddr] at hs1 hm ⊢
        omega
      have c3 := specCheckResponse_ok p.policy (modReqOf p p.mods[k]) x hpol (by omega) hx
      have c4 := specUsableBody_ok p.policy (modReqOf p p.mods[k]) x hpol (by omega) hx
      simp only [ePage, eRequest] at cR
      simp only [ePolicy, eRequest, eResponse] at c3 c4
      simp only [ePage, eAddr] at c1 c2
      clear e
      have hfi := find_filled (x := x) hi hk hf
      have hqs := set_szM p k hk x
      have hub := usable_le p.policy (modReqOf p p.mods[k]) x
      have hset : (p.mods.map eModule).set k [.str p.mods[k].to.host, .str p.mods[k].to.path, .bool true, .int .i64 (checkResponse p.policy (modReqOf p p.mods[k]) x), .str (usableBody p.policy (modReqOf p p.mods[k]) x)] = (p.mods.set k (filledM p p.mods[k] x)).map eModule := by rw [List.map_set]; rfl
      have hg3 : (p.mods.set k (filledM p p.mods[k] x))[k]? = some (filledM p p.mods[k] x) := by rw [List.getElem?_set_self hk]
      unfold fillAtM
      have hfm : (filledM p p.mods[k] x).done = true ∧ (filledM p p.mods[k] x).code = checkResponse p.policy (modReqOf p p.mods[k]) x ∧ (filledM p p.mods[k] x).body = usableBody p.policy (modReqOf p p.mods[k]) x := ⟨rfl, rfl, rfl⟩
      have hl3 : (p.mods.set k (filledM p p.mods[k] x)).length = p.mods.length := by simp
      generalize checkResponse p.policy (modReqOf p p.mods[k]) x = c at *
      generalize usableBody p.policy (modReqOf p p.mods[k]) x = y at *
      generalize modReqOf p p.mods[k] = rq at *
      generalize filledM p p.mods[k] x = m3 at *
      generalize p.mods.set k m3 = L3 at *
      obtain ⟨f1, f2, f3⟩ := hfm
      have hlt3 : k < L3.length := by omega
      have e3 : ∀ h, (L3[k]'h) = m3 := fun h => by rw [List.getElem?_eq_getElem h] at hg3; exact Option.some.inj hg3
      obtain ⟨b1, b2⟩ := imps_bounds (q := { p with mods := L3 }) hfi (by rw [f3]; exact hub) (by omega)
      have cI := specImports2_ok { p with mods := L3 } a (by omega) (by simp only [szAddr] at hs; omega)
      generalize impsAt { p with mods := L3 } a = L at *
      generalize impsOk { p with mods := L3 } a = ok at *
      simp only [ePage, eAddr] at cI
      refine ent Tryz.mix Tryz.func23 Tryz.ntmps23 ?_
      have W := And.intro hk0 (And.intro hg (And.intro hd (And.intro hk (And.intro hset (And.intro hlt3 (And.intro e3 (And.intro f1 (And.intro f2 f3))))))))
      repeat' first|refine st ?_|(refine nx ?_;first|refine se ?_|refine so ?_)|(refine cx ?_;refine sc (fun hc=>?_) (fun hc=>?_)<;>try exact hc.elim)|(refine lx ?_;refine sp (fun hc=>?_) (fun hc=>?_)<;>try exact hc.elim)|refine sx ?_ ?_|refine sy ?_ ?_|fail
      have hq0 : szPage { p with mods := L3 } ≤ 1048976 := by omega
      have hts := ask_take_sz hq0 b1 b2
      have hsn := fun i (h : i < L.length) => show askAll { p with mods := L3 } (L.take (i + 1)) = askModule (askAll { p with mods := L3 } (L.take i)) L[i] by rw [List.take_succ_eq_append_getElem h, askAll_snoc]
      have h00 : askAll { p with mods := L3 } (L.take 0) = { p with mods := L3 } := by simp [askAll]
      have hall : L.length ≤ 1099511627776 := by omega
      refine awp_loop' (ι := { k : Nat // k ≤ L.length }) (fun t o i => ⟨upds t [(12, .int .i64 i.1), (14, .undef), (33, .undef), (35, .undef), (36, .undef), (38, .undef), (45, .undef), (46, .undef), (49, .undef), (58, .undef), (59, .undef), (61, .undef)], o.take 4 ++ pObjs (askAll { p with mods := L3 } (L.take i.1)) ++ [⟨true, true, 22, 0, [pCells 4 (askAll { p with mods := L3 } (L.take i.1))]⟩] ++ o.drop 16⟩)
        (fun i => L.length - i.1) ⟨0, by simp⟩ (weak_o (by simp only [h00]; simp [pObjs, pCells]) (by simp)) ?_
      rintro ⟨i, hi2⟩ K1 hK1
      have hi1 : IntKind.i64.wrap ((i : Int) + 1) = ((i + 1 : Nat) : Int) := by rw [wrap64] <;> omega
      by_cases hlt : i < L.length
      · have hgi := List.getElem?_eq_getElem hlt
        have cA := specAskModule_ok (askAll { p with mods := L3 } (L.take i)) L[i] (by have := hts i; omega) (by have := b2 _ (List.getElem_mem hlt); omega)
        have hnext := hsn i hlt
        rw [← hnext] at cA
        have hK2 := hK1
        simp only [upds, List.set_cons_succ, List.set_cons_zero, List.take_succ_cons, List.take_zero, List.cons_append, List.nil_append, List.drop_succ_cons, List.drop_zero, pObjs, pCells] at hK1 ⊢
        clear hsn h00 hnext hts
        generalize hq1 : askAll { p with mods := L3 } (L.take i) = q at *
        generalize hq2 : askAll { p with mods := L3 } (L.take (i + 1)) = q' at *
        simp only [ePage, eAddr] at cA
        have W := And.intro hi1 (And.intro hgi hlt)
        repeat' first|refine st ?_|(refine nx ?_;first|refine se ?_|refine so ?_)|(refine cx ?_;refine sc (fun hc=>?_) (fun hc=>?_)<;>try exact hc.elim)|(refine lx ?_;refine sp (fun hc=>?_) (fun hc=>?_)<;>try exact hc.elim)|refine sx ?_ ?_|refine sy ?_ ?_|fail
        refine hK2 _ ⟨i + 1, by omega⟩ ?_ (by simp only; omega)
        simp only [hq2]
        exact weak_pageN (q0 := q) (q := q') rfl (by simp [pObjs, pCells]) (by simp [weak_pageNSwaps]) (by simp [weak_pageNSwaps]) (by simp) (by simp) (by simp)
      · have htk : L.take i = L := List.take_of_length_le (by omega)
        have hK2 := hK1
        simp only [upds, List.set_cons_succ, List.set_cons_zero, List.take_succ_cons, List.take_zero, List.cons_append, List.nil_append, List.drop_succ_cons, List.drop_zero, pObjs, pCells, htk] at hK1 ⊢
        clear hsn h00 hts hK2 hK1
        generalize askAll { p with mods := L3 } L = q at *
        have W := And.intro hi1 hlt
        repeat' first|refine st ?_|(refine nx ?_;first|refine se ?_|refine so ?_)|(refine cx ?_;refine sc (fun hc=>?_) (fun hc=>?_)<;>try exact hc.elim)|(refine lx ?_;refine sp (fun hc=>?_) (fun hc=>?_)<;>try exact hc.elim)|refine sx ?_ ?_|refine sy ?_ ?_|fail
        all_goals (try (refine ⟨.inr rfl, ?_⟩; simp [Hands, Tryz.results23]))
    · rw [fillM_done hi hg hd]
      simp only [ePage, eAddr] at c1 c2
      refine ent Tryz.mix Tryz.func23 Tryz.ntmps23 ?_
      have W := And.intro hk0 (And.intro hg (And.intro hd hk))
      repeat' first|refine st ?_|(refine nx ?_;first|refine se ?_|refine so ?_)|(refine cx ?_;refine sc (fun hc=>?_) (fun hc=>?_)<;>try exact hc.elim)|(refine lx ?_;refine sp (fun hc=>?_) (fun hc=>?_)<;>try exact hc.elim)|refine sx ?_ ?_|refine sy ?_ ?_|fail
      all_goals (try (refine ⟨.inr rfl, ?_⟩; simp [Hands, Tryz.results23]))
end Go.Proofs.YtphofanfadgalaaGreatDoor
