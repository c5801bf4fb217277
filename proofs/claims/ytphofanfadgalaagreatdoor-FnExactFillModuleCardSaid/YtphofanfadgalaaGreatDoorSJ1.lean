/-
  Proved here: steps towards the statement of this claim, text SJ1.
  No condition beyond what each statement spells out.
-/
import Derived.Test.YtphofanfadgalaaGreatDoorQ1
import Derived.Test.YtphofanfadgalaaGreatDoorF5
import Derived.Test.YtphofanfadgalaaGreatDoorR3
import Derived.Test.YtphofanfadgalaaGreatDoorF4
set_option linter.all false
set_option maxRecDepth 4000
set_option maxHeartbeats 4000000
namespace Go.Proofs.YtphofanfadgalaaGreatDoor
open Go.Aw
def areNames (l : List Str) : Bool := l.all isName && decide (l.length ≤ 4)
def isPolicy (p : DPolicy) : Bool :=
  if p.isSet = true then areNames p.scripts && areNames p.styles && areNames p.images && (p.nonce == [] || isValue p.nonce)
  else p.scripts == [] && p.styles == [] && p.images == [] && p.nonce == []
def wScript : Str := [115, 99, 114, 105, 112, 116]
def wStyle : Str := [115, 116, 121, 108, 101]
def wImg : Str := [105, 109, 103]
def wNonce : Str := [110, 111, 110, 99, 101, 32]
def words (w : Str) (l : List Str) : Str := Lib.join (w :: l) [32]
def nonceT (n : Str) : Str := if n = [] then [] else 59 :: (wNonce ++ n)
def fmtPolicy (p : DPolicy) : Str :=
  if isPolicy p = true ∧ p.isSet = true then words wScript p.scripts ++ 59 :: (words wStyle p.styles ++ 59 :: (words wImg p.images ++ nonceT p.nonce)) else []
def noPol : DPolicy := ⟨false, [], [], [], []⟩
def polAt (f : Str → Str) (s : Str) : DPolicy :=
  ⟨true, (segs 32 ((segs 59 s).getD 0 [])).tail, (segs 32 ((segs 59 s).getD 1 [])).tail, (segs 32 ((segs 59 s).getD 2 [])).tail, match (segs 59 s)[3]? with | some x => f x | none => []⟩
def parsePol (f : Str → Str) (s : Str) : DPolicy × Bool :=
  if s = [] then (noPol, true) else if (segs 59 s).length < 3 then (noPol, false) else if fmtPolicy (polAt f s) = s then (polAt f s, true) else (noPol, false)
def nonceI (x : Str) : Str := if wNonce.isPrefixOf x then x.drop 6 else x
def nonceS (x : Str) : Str := if 6 < x.length then x.drop 6 else []
theorem name_without (c : UInt8) (hc : c.toNat < 97) : ∀ (s : Str), isName s = true → ∀ x ∈ s, x ≠ c := by
  intro s h x hx e
  subst e
  simp only [isName, Bool.and_eq_true, List.all_eq_true] at h
  have := h.1 x hx
  simp [lowerB] at this
  omega
theorem value_no59 : ∀ (s : Str), isValue s = true → ∀ x ∈ s, x ≠ 59 := by
  intro s h x hx e
  subst e
  simp only [isValue, Bool.and_eq_true, List.all_eq_true] at h
  have := h.1 _ hx
  simp [valueB] at this
theorem words_no (w : Str) (hw : ∀ x ∈ w, x ≠ 59) : ∀ (l : List Str), l.all isName = true → ∀ x ∈ words w l, x ≠ 59 := by
  intro l hl x hx
  have key : ∀ (l : List Str), (∀ s ∈ l, ∀ x ∈ s, x ≠ (59 : UInt8)) → ∀ x ∈ Lib.join l [32], x ≠ (59 : UInt8) := by
    intro l
    unfold Lib.join
    induction l with
    | nil => intro _ x hx; simp at hx
    | cons a l ih =>
      intro h x hx
      cases l with
      | nil => simp at hx; exact h a (by simp) x hx
      | cons b l =>
        rw [List.intercalate_cons_cons] at hx
        simp only [List.mem_append] at hx
        rcases hx with (hx | hx) | hx
        · exact h a (by simp) x hx
        · simp at hx; subst hx; decide
        · exact ih (fun s hs => h s (by simp [hs])) x hx
  refine key (w :: l) (fun s hs => ?_) x hx
  rcases List.mem_cons.1 hs with rfl | hs
  · exact hw
  · exact name_without 59 (by decide) s (List.all_eq_true.1 hl s hs)
theorem segs_fmt (p : DPolicy) (h : isPolicy p = true) (hs : p.isSet = true) :
    segs 59 (fmtPolicy p) = words wScript p.scripts :: words wStyle p.styles :: words wImg p.images :: (if p.nonce = [] then [] else [wNonce ++ p.nonce]) := by
  simp only [isPolicy, hs, if_true, areNames, Bool.and_eq_true] at h
  obtain ⟨⟨⟨h1, h2⟩, h3⟩, h4⟩ := h
  have hp : isPolicy p = true := by simp only [isPolicy, hs, if_true, areNames, Bool.and_eq_true]; exact ⟨⟨⟨h1, h2⟩, h3⟩, h4⟩
  unfold fmtPolicy
  rw [if_pos ⟨hp, hs⟩, segs_cut _ _ _ (words_no wScript (by decide) _ h1.1), segs_cut _ _ _ (words_no wStyle (by decide) _ h2.1)]
  unfold nonceT
  by_cases hn : p.nonce = []
  · rw [if_pos hn, if_pos hn, List.append_nil, segs_one _ _ (words_no wImg (by decide) _ h3.1)]
  · rw [if_neg hn, if_neg hn, segs_cut _ _ _ (words_no wImg (by decide) _ h3.1), segs_one]
    intro x hx
    rcases List.mem_append.1 hx with hx | hx
    · exact (by decide : ∀ x ∈ wNonce, x ≠ 59) x hx
    · have hv : isValue p.nonce = true := by
        simp only [Bool.or_eq_true, beq_iff_eq] at h4
        exact h4.resolve_left hn
      exact value_no59 _ hv x hx
theorem fmt_ne {p : DPolicy} {s : Str} (hs : s ≠ []) (h : fmtPolicy p = s) : isPolicy p = true ∧ p.isSet = true := by
  unfold fmtPolicy at h
  by_cases hc : isPolicy p = true ∧ p.isSet = true
  · exact hc
  · rw [if_neg hc] at h; exact absurd h.symm hs
theorem nonce_read {f g : Str → Str} (hf : ∀ n, n ≠ [] → f (wNonce ++ n) = n) (hg : ∀ n, n ≠ [] → g (wNonce ++ n) = n) {s : Str} (hs : s ≠ []) (h : fmtPolicy (polAt f s) = s) : polAt f s = polAt g s := by
  obtain ⟨h1, h2⟩ := fmt_ne hs h
  have h3 := segs_fmt _ h1 h2
  rw [h] at h3
  unfold polAt
  congr 1
  cases hx : (segs 59 s)[3]? with
  | none => rfl
  | some x =>
    dsimp only
    rw [h3] at hx
    by_cases hn : (polAt f s).nonce = []
    · rw [if_pos hn] at hx; simp at hx
    · rw [if_neg hn] at hx
      simp only [List.getElem?_cons_succ, List.getElem?_cons_zero, Option.some.injEq] at hx
      rw [← hx, hf _ hn, hg _ hn]
theorem nonceI_ok (n : Str) (h : n ≠ []) : nonceI (wNonce ++ n) = n := by
  unfold nonceI
  rw [if_pos (by simp [List.isPrefixOf_iff_prefix])]
  simp [wNonce]
theorem nonceS_ok (n : Str) (h : n ≠ []) : nonceS (wNonce ++ n) = n := by
  unfold nonceS
  have : 0 < n.length := List.length_pos_iff.2 h
  rw [if_pos (by simp [wNonce]; omega)]
  simp [wNonce]
theorem parse_same (s : Str) : parsePol nonceI s = parsePol nonceS s := by
  unfold parsePol
  by_cases hs : s = []
  · rw [if_pos hs, if_pos hs]
  rw [if_neg hs, if_neg hs]
  by_cases hl : (segs 59 s).length < 3
  · rw [if_pos hl, if_pos hl]
  rw [if_neg hl, if_neg hl]
  by_cases h1 : fmtPolicy (polAt nonceI s) = s
  · have e := nonce_read nonceI_ok nonceS_ok hs h1
    rw [if_pos h1, if_pos (by rw [← e]; exact h1), e]
  · by_cases h2 : fmtPolicy (polAt nonceS s) = s
    · have e := nonce_read nonceS_ok nonceI_ok hs h2
      exact absurd (by rw [← e]; exact h2) h1
    · rw [if_neg h1, if_neg h2]
def parsePolicy (s : Str) : DPolicy × Bool := parsePol nonceS s
end Go.Proofs.YtphofanfadgalaaGreatDoor

set_option maxRecDepth 4000
set_option maxHeartbeats 400000
namespace Go.Proofs.YtphofanfadgalaaGreatDoor
open Go.Aw
theorem idxI_lt {α : Type} (f : α → Bool) (l : List α) (h : l.findIdx f < l.length) : idxI f l = (l.findIdx f : Nat) := by
  unfold idxI
  rw [if_pos]
  exact List.any_eq_true.2 ⟨_, List.getElem_mem h, List.findIdx_getElem (w := h)⟩
theorem idxI_ge {α : Type} (f : α → Bool) (l : List α) (h : ¬ l.findIdx f < l.length) : idxI f l = -1 := by
  refine idxI_none fun x hx => ?_
  have he : l.findIdx f = l.length := by have := List.findIdx_le_length (p := f) (xs := l); omega
  have := List.findIdx_eq_length.1 he x hx
  simpa using this
theorem findAttr_ix (l : List DAttr) (n : Str) (h : l.findIdx (attrIs n) < l.length) : findAttr l n = (l[l.findIdx (attrIs n)].value, true) := by
  refine findAttr_at h (List.findIdx_getElem (w := h)) ?_
  intro x hx
  obtain ⟨i, hi, rfl⟩ := List.getElem_of_mem hx
  have hi' : i < l.findIdx (attrIs n) := by have := hi; simp at this; omega
  rw [List.getElem_take]
  have := List.not_of_lt_findIdx (p := (attrIs n)) (xs := l) hi'
  simpa using this
theorem findAttr_no (l : List DAttr) (n : Str) (h : ¬ l.findIdx (attrIs n) < l.length) : findAttr l n = ([], false) := by
  refine findAttr_none fun x hx => ?_
  have he : l.findIdx (attrIs n) = l.length := by have := List.findIdx_le_length (p := attrIs n) (xs := l); omega
  have := List.findIdx_eq_length.1 he x hx
  simpa using this
theorem indexByteString_ok [Tabs Tryz.prog] (s : Str) (c : UInt8) : OkN Tryz.prog 219 [.str s, .int .u8 c.toNat] (.int .i64 (ixI c s)) :=
  okN_indexByte (fn := Tryz.f219) (by kernel_rfl) (by decide +kernel) rfl (by decide +kernel) (by rfl) s c
end Go.Proofs.YtphofanfadgalaaGreatDoor

set_option maxRecDepth 4000
set_option maxHeartbeats 400000
namespace Go.Proofs.YtphofanfadgalaaGreatDoor
open Go.Aw
theorem stringsIndexByte_ok [Tabs Tryz.prog] (s : Str) (c : UInt8) : Ok Tryz.prog 212 [.str s, .int .u8 c.toNat] (.int .i64 (ixI c s)) := by
  have h1 := indexByteString_ok s c
  refine ent Tryz.mix Tryz.func212 Tryz.ntmps212 ?_
  have W := trivial
  repeat' first|refine st ?_|(refine nx ?_;refine so ?_)|(refine cx ?_;refine sc (fun hc=>?_) (fun hc=>?_)<;>try exact hc.elim)|(refine lx ?_;refine sp (fun hc=>?_) (fun hc=>?_)<;>try exact hc.elim)|refine sx ?_ ?_|refine sy ?_ ?_|fail
  all_goals (try (refine ⟨.inr rfl, ?_⟩; simp [Hands, Tryz.results212]))
theorem stringsIndex_ok [Tabs Tryz.prog] (s : Str) (c : UInt8) : Ok Tryz.prog 198 [.str s, .str [c]] (.int .i64 (ixI c s)) := by
  have h1 := stringsIndexByte_ok s c
  refine ent Tryz.mix Tryz.func198 Tryz.ntmps198 ?_
  have W := trivial
  repeat' first|refine st ?_|(refine nx ?_;refine so ?_)|(refine cx ?_;refine sc (fun hc=>?_) (fun hc=>?_)<;>try exact hc.elim)|(refine lx ?_;refine sp (fun hc=>?_) (fun hc=>?_)<;>try exact hc.elim)|refine sx ?_ ?_|refine sy ?_ ?_|fail
  all_goals (try (refine ⟨.inr rfl, ?_⟩; simp [Hands, Tryz.results198]))
  all_goals (subst hc; simp [ixI, ixB_cons])
theorem liteCut_ok [Tabs Tryz.prog] (s : Str) (c : UInt8) (hl : s.length ≤ 1099511627776) : Ok Tryz.prog 174 [.str s, .str [c]] (.tup [.str (s.take (ixB c s)), .str (s.drop (ixB c s + 1)), .bool (decide (ixB c s < s.length))]) := by
  have h1 := stringsIndex_ok s c
  have hle := ixB_le c s
  by_cases h : ixB c s < s.length
  · have e : ixI c s = ixB c s := if_pos h
    rw [e] at h1
    generalize ixB c s = k at *
    refine ent Tryz.mix Tryz.func174 Tryz.ntmps174 ?_
    have W := h
    repeat' first|refine st ?_|(refine nx ?_;refine so ?_)|(refine cx ?_;refine sc (fun hc=>?_) (fun hc=>?_)<;>try exact hc.elim)|(refine lx ?_;refine sp (fun hc=>?_) (fun hc=>?_)<;>try exact hc.elim)|refine sx ?_ ?_|refine sy ?_ ?_|fail
    all_goals (try (refine ⟨.inr rfl, ?_⟩; simp [Hands, Tryz.results174]))
    all_goals simp_all
  · have e : ixI c s = -1 := if_neg h
    rw [e] at h1
    have e2 : ixB c s = s.length := by omega
    rw [e2]
    refine ent Tryz.mix Tryz.func174 Tryz.ntmps174 ?_
    have W := trivial
    repeat' first|refine st ?_|(refine nx ?_;refine so ?_)|(refine cx ?_;refine sc (fun hc=>?_) (fun hc=>?_)<;>try exact hc.elim)|(refine lx ?_;refine sp (fun hc=>?_) (fun hc=>?_)<;>try exact hc.elim)|refine sx ?_ ?_|refine sy ?_ ?_|fail
    all_goals (try (refine ⟨.inr rfl, ?_⟩; simp [Hands, Tryz.results174]))
    all_goals simp
theorem stringsCut_ok [Tabs Tryz.prog] (s : Str) (c : UInt8) (hl : s.length ≤ 1099511627776) : Ok Tryz.prog 141 [.str s, .str [c]] (.tup [.str (s.take (ixB c s)), .str (s.drop (ixB c s + 1)), .bool (decide (ixB c s < s.length))]) := by
  have h1 := liteCut_ok s c hl
  refine ent Tryz.mix Tryz.func141 Tryz.ntmps141 ?_
  have W := trivial
  repeat' first|refine st ?_|(refine nx ?_;refine so ?_)|(refine cx ?_;refine sc (fun hc=>?_) (fun hc=>?_)<;>try exact hc.elim)|(refine lx ?_;refine sp (fun hc=>?_) (fun hc=>?_)<;>try exact hc.elim)|refine sx ?_ ?_|refine sy ?_ ?_|fail
  all_goals (try (refine ⟨.inr rfl, ?_⟩; simp [Hands, Tryz.results141]))
end Go.Proofs.YtphofanfadgalaaGreatDoor

set_option maxRecDepth 4000
set_option maxHeartbeats 400000
namespace Go.Proofs.YtphofanfadgalaaGreatDoor
open Go.Aw
theorem byte_eq {c : UInt8} {n : Nat} (hn : n < 256) (h : (c.toNat : Int) = n) : c = UInt8.ofNat n := by
  have : c.toNat = n := by omega
  rw [← this]; simp
theorem byte_ne {c : UInt8} {n : Nat} (hn : n < 256) (h : ¬ (c.toNat : Int) = n) : c ≠ UInt8.ofNat n := by
  rintro rfl
  apply h
  simp
  omega
theorem addrOf_cut {s b : Str} {k : Nat} (h : ixB 47 s = k) (hk : k < s.length) : addrOf s b = ⟨s.take k, s.drop (k + 1)⟩ := by
  subst h; exact if_pos hk
theorem addrOf_none {s b : Str} (h : ixB 47 s = s.length) : addrOf s b = ⟨b, s⟩ := if_neg (by omega)
theorem specParseAddr_ok [Tabs Tryz.prog] (s b : Str) (hl : s.length + b.length ≤ 1099511627776) : Ok Tryz.prog 136 [.str s, .str b] (.tup [.agg (eAddr (parseAddr s b).1), .bool (parseAddr s b).2]) := by
  simp only [parseAddr]
  refine ent Tryz.mix Tryz.func136 Tryz.ntmps136 ?_
  have W := trivial
  repeat' first|refine st ?_|(refine nx ?_;refine so ?_)|(refine cx ?_;refine sc (fun hc=>?_) (fun hc=>?_)<;>try exact hc.elim)|(refine lx ?_;refine sp (fun hc=>?_) (fun hc=>?_)<;>try exact hc.elim)|refine sx ?_ ?_|refine sy ?_ ?_|fail
  refine awp_loop' (ι := { k : Nat // k ≤ s.length ∧ ∀ x ∈ s.take k, x ≠ 47 }) (fun t o i => ⟨upds t [(7, .int .i64 i.1)], o⟩)
    (fun i => s.length - i.1) ⟨0, by simp, by simp⟩ (weak_o (by simp) (by simp)) ?_
  rintro ⟨k, hk, hi⟩ K1 hK1
  simp only [upds, List.set_cons_succ, List.set_cons_zero] at hK1 ⊢
  have hk1 : IntKind.i64.wrap ((k : Int) + 1) = ((k + 1 : Nat) : Int) := by rw [wrap64] <;> omega
  by_cases hlt : k < s.length
  · have hg := List.getElem?_eq_getElem hlt
    have W := And.intro hk1 (And.intro hg hlt)
    repeat' first|refine st ?_|(refine nx ?_;refine so ?_)|(refine cx ?_;refine sc (fun hc=>?_) (fun hc=>?_)<;>try exact hc.elim)|(refine lx ?_;refine sp (fun hc=>?_) (fun hc=>?_)<;>try exact hc.elim)|refine sx ?_ ?_|refine sy ?_ ?_|fail
    · have e := addrOf_cut (b := b) (ixB_at hlt (byte_eq (by decide) hc) hi) hlt
      have h1 := specIsAddr_ok ⟨s.take k, s.drop (k + 1)⟩ (by simp [szAddr]; omega)
      rw [e]
      simp only [eAddr] at h1
      have W := trivial
      repeat' first|refine st ?_|(refine nx ?_;refine so ?_)|(refine cx ?_;refine sc (fun hc=>?_) (fun hc=>?_)<;>try exact hc.elim)|(refine lx ?_;refine sp (fun hc=>?_) (fun hc=>?_)<;>try exact hc.elim)|refine sx ?_ ?_|refine sy ?_ ?_|fail
      all_goals (try (refine ⟨.inr rfl, ?_⟩; simp [Hands, Tryz.results136, noAddr]))
      all_goals simp_all [noAddr]
    · exact hK1 _ ⟨k + 1, by omega, take_succ_all hlt hi (byte_ne (by decide) hc)⟩ (weak_o (by simp) (by simp)) (by simp only; omega)
  · have e := addrOf_none (b := b) (ixB_none (take_all (by omega) hi))
    have h1 := specIsAddr_ok ⟨b, s⟩ (by simp [szAddr]; omega)
    rw [e]
    simp only [eAddr] at h1
    have W := hk1
    repeat' first|refine st ?_|(refine nx ?_;refine so ?_)|(refine cx ?_;refine sc (fun hc=>?_) (fun hc=>?_)<;>try exact hc.elim)|(refine lx ?_;refine sp (fun hc=>?_) (fun hc=>?_)<;>try exact hc.elim)|refine sx ?_ ?_|refine sy ?_ ?_|fail
    all_goals (try (refine ⟨.inr rfl, ?_⟩; simp [Hands, Tryz.results136, noAddr]))
    all_goals simp_all [noAddr]
theorem implParseAddr_ok [Tabs Tryz.prog] (s b : Str) (hl : s.length + b.length ≤ 1099511627776) : Ok Tryz.prog 100 [.str s, .str b] (.tup [.agg (eAddr (parseAddr s b).1), .bool (parseAddr s b).2]) := by
  have hC := stringsCut_ok s 47 (by omega)
  have hle := ixB_le 47 s
  simp only [parseAddr]
  by_cases h : ixB 47 s < s.length
  · rw [addrOf_cut rfl h]
    rw [decide_eq_true h] at hC
    generalize ixB 47 s = k at *
    have h1 := implIsAddr_ok ⟨s.take k, s.drop (k + 1)⟩ (by simp [szAddr]; omega)
    simp only [eAddr] at h1
    refine ent Tryz.mix Tryz.func100 Tryz.ntmps100 ?_
    have W := trivial
    repeat' first|refine st ?_|(refine nx ?_;refine so ?_)|(refine cx ?_;refine sc (fun hc=>?_) (fun hc=>?_)<;>try exact hc.elim)|(refine lx ?_;refine sp (fun hc=>?_) (fun hc=>?_)<;>try exact hc.elim)|refine sx ?_ ?_|refine sy ?_ ?_|fail
    all_goals (try (refine ⟨.inr rfl, ?_⟩; simp [Hands, Tryz.results100, noAddr]))
    all_goals simp_all [noAddr]
  · have e2 : ixB 47 s = s.length := by omega
    rw [addrOf_none e2]
    rw [decide_eq_false h] at hC
    have h1 := implIsAddr_ok ⟨b, s⟩ (by simp [szAddr]; omega)
    simp only [eAddr] at h1
    refine ent Tryz.mix Tryz.func100 Tryz.ntmps100 ?_
    have W := trivial
    repeat' first|refine st ?_|(refine nx ?_;refine so ?_)|(refine cx ?_;refine sc (fun hc=>?_) (fun hc=>?_)<;>try exact hc.elim)|(refine lx ?_;refine sp (fun hc=>?_) (fun hc=>?_)<;>try exact hc.elim)|refine sx ?_ ?_|refine sy ?_ ?_|fail
    all_goals (try (refine ⟨.inr rfl, ?_⟩; simp [Hands, Tryz.results100, noAddr]))
    all_goals simp_all [noAddr]
end Go.Proofs.YtphofanfadgalaaGreatDoor
