/-
  Proved here: steps towards the statement of this claim, text J3.
  No condition beyond what each statement spells out.
-/
import Derived.Test.YtphofanfadgalaaGreatDoorJ2
import Derived.Test.YtphofanfadgalaaGreatDoorYShelf
import Derived.Test.YtphofanfadgalaaGreatDoorF5
import Derived.Test.YtphofanfadgalaaGreatDoorF8
set_option linter.all false
set_option maxRecDepth 4000
set_option maxHeartbeats 4000000
namespace Go.Proofs.YtphofanfadgalaaGreatDoor
open Go.Aw
theorem joinH_ok [Tabs Tryz.prog] (l : List Str) (sep : Str) (hl : l.length ≤ 140737488355328) (hs : (Lib.join l sep).length ≤ 140737488355328) :
    Ok Tryz.prog 102 [.sl .view 1 (l.map eStr), .str sep] (.str (Lib.join l sep)) := ok_join Tryz.lays156 Tryz.Builder_Extra_156 l sep hl hs
def notName (s : Str) : Bool := !isName s
theorem areHosts1_ok [Tabs Tryz.prog] (s : Str) (hl : s.length ≤ 1099511627776) : Ok Tryz.prog 222 [.str s] (.bool (notName s)) := by
  have c1 := implIsName_ok s hl
  unfold notName
  generalize isName s = b at *
  refine ent Tryz.mix Tryz.func222 Tryz.ntmps222 ?_
  have W := trivial
  repeat' first|refine st ?_|(refine nx ?_;first|refine se ?_|refine so ?_)|(refine cx ?_;refine sc (fun hc=>?_) (fun hc=>?_)<;>try exact hc.elim)|(refine lx ?_;refine sp (fun hc=>?_) (fun hc=>?_)<;>try exact hc.elim)|refine sx ?_ ?_|refine sy ?_ ?_|fail
  all_goals (try (refine ⟨.inr rfl, ?_⟩; simp [Hands, Tryz.results222]))
theorem indexHosts_ok [Tabs Tryz.prog] (l : List Str) (hs : szL szStr l ≤ 1099511627776) : Ok Tryz.prog 227 [.sl .view 1 (l.map eStr), .fn 222 []] (.int .i64 (idxI notName l)) := by
  simp only [szL] at hs
  refine ent Tryz.mix Tryz.func227 Tryz.ntmps227 ?_
  have W := trivial
  repeat' first|refine st ?_|(refine nx ?_;first|refine se ?_|refine so ?_)|(refine cx ?_;refine sc (fun hc=>?_) (fun hc=>?_)<;>try exact hc.elim)|(refine lx ?_;refine sp (fun hc=>?_) (fun hc=>?_)<;>try exact hc.elim)|refine sx ?_ ?_|refine sy ?_ ?_|fail
  refine awp_loop' (ι := { k : Nat // k ≤ l.length ∧ ∀ x ∈ l.take k, notName x = false }) (fun t o i => ⟨upds t [(8, .int .i64 i.1), (5, .undef)], o⟩)
    (fun i => l.length - i.1) ⟨0, by simp⟩ (weak_o (by simp) (by simp)) ?_
  rintro ⟨k, hk, hpre⟩ K1 hK1
  simp only [upds, List.set_cons_succ, List.set_cons_zero] at hK1 ⊢
  have hk1 : IntKind.i64.wrap ((k : Int) + 1) = ((k + 1 : Nat) : Int) := by rw [wrap64] <;> omega
  by_cases hlt : k < l.length
  · have hg := List.getElem?_eq_getElem hlt
    have hel := sumN_get_le szStr l k hlt
    simp only [szStr] at hel
    have c1 := areHosts1_ok l[k] (by omega)
    generalize hb : notName l[k] = b at *
    have W := And.intro hk1 (And.intro hg hlt)
    repeat' first|refine st ?_|(refine nx ?_;first|refine se ?_|refine so ?_)|(refine cx ?_;refine sc (fun hc=>?_) (fun hc=>?_)<;>try exact hc.elim)|(refine lx ?_;refine sp (fun hc=>?_) (fun hc=>?_)<;>try exact hc.elim)|refine sx ?_ ?_|refine sy ?_ ?_|fail
    · all_goals (try (refine ⟨.inr rfl, ?_⟩; simp [Hands, Tryz.results227]))
      rw [idxI_at hlt (by simpa [hb] using hc) hpre]
    · exact hK1 _ ⟨k + 1, by omega, take_succ_all hlt hpre (by simpa [hb] using hc)⟩ (weak_o (by simp) (by simp)) (by simp only; omega)
  · have W := hk1
    repeat' first|refine st ?_|(refine nx ?_;first|refine se ?_|refine so ?_)|(refine cx ?_;refine sc (fun hc=>?_) (fun hc=>?_)<;>try exact hc.elim)|(refine lx ?_;refine sp (fun hc=>?_) (fun hc=>?_)<;>try exact hc.elim)|refine sx ?_ ?_|refine sy ?_ ?_|fail
    all_goals (try (refine ⟨.inr rfl, ?_⟩; simp [Hands, Tryz.results227]))
    rw [idxI_none (take_all (by omega) hpre)]
theorem containsHosts_ok [Tabs Tryz.prog] (l : List Str) (hs : szL szStr l ≤ 1099511627776) : Ok Tryz.prog 221 [.sl .view 1 (l.map eStr), .fn 222 []] (.bool (l.any notName)) := by
  have c1 := indexHosts_ok l hs
  refine ent Tryz.mix Tryz.func221 Tryz.ntmps221 ?_
  have W := trivial
  repeat' first|refine st ?_|(refine nx ?_;first|refine se ?_|refine so ?_)|(refine cx ?_;refine sc (fun hc=>?_) (fun hc=>?_)<;>try exact hc.elim)|(refine lx ?_;refine sp (fun hc=>?_) (fun hc=>?_)<;>try exact hc.elim)|refine sx ?_ ?_|refine sy ?_ ?_|fail
  all_goals (try (refine ⟨.inr rfl, ?_⟩; simp [Hands, Tryz.results221]))
  exact idxI_nonneg _ _
theorem areHosts_ok [Tabs Tryz.prog] (l : List Str) (hs : szL szStr l ≤ 1099511627776) : Ok Tryz.prog 217 [.sl .view 1 (l.map eStr)] (.bool (areNames l)) := by
  have c1 := containsHosts_ok l hs
  simp only [szL] at hs
  have e : l.any notName = !l.all isName := by
    rw [List.any_eq_not_all_not]
    simp [notName]
  have e2 : decide (l.length ≤ 4) = decide ((l.length : Int) ≤ 4) := by simp only [decide_eq_decide]; omega
  rw [e] at c1
  unfold areNames
  rw [e2]
  generalize l.all isName = b at *
  refine ent Tryz.mix Tryz.func217 Tryz.ntmps217 ?_
  have W := trivial
  repeat' first|refine st ?_|(refine nx ?_;first|refine se ?_|refine so ?_)|(refine cx ?_;refine sc (fun hc=>?_) (fun hc=>?_)<;>try exact hc.elim)|(refine lx ?_;refine sp (fun hc=>?_) (fun hc=>?_)<;>try exact hc.elim)|refine sx ?_ ?_|refine sy ?_ ?_|fail
  all_goals (try (refine ⟨.inr rfl, ?_⟩; simp [Hands, Tryz.results217]))
  all_goals simp_all
theorem implIsPolicy_ok [Tabs Tryz.prog] (p : DPolicy) (hs : szPolicy p ≤ 1099511627776) : Ok Tryz.prog 206 [.agg (ePolicy .view p)] (.bool (isPolicy p)) := by
  simp only [szPolicy] at hs
  have c1 := areHosts_ok p.scripts (by omega)
  have c2 := areHosts_ok p.styles (by omega)
  have c3 := areHosts_ok p.images (by omega)
  have c4 := implIsValue_ok p.nonce (by omega)
  have l1 : (p.scripts == []) = decide ((p.scripts.length : Int) = 0) := by cases p.scripts <;> simp <;> omega
  have l2 : (p.styles == []) = decide ((p.styles.length : Int) = 0) := by cases p.styles <;> simp <;> omega
  have l3 : (p.images == []) = decide ((p.images.length : Int) = 0) := by cases p.images <;> simp <;> omega
  unfold isPolicy
  rw [l1, l2, l3]
  generalize areNames p.scripts = b1 at *
  generalize areNames p.styles = b2 at *
  generalize areNames p.images = b3 at *
  generalize isValue p.nonce = b4 at *
  generalize hb : p.isSet = b at *
  cases b
  · refine ent Tryz.mix Tryz.func206 Tryz.ntmps206 ?_
    have W := hb
    repeat' first|refine st ?_|(refine nx ?_;first|refine se ?_|refine so ?_)|(refine cx ?_;refine sc (fun hc=>?_) (fun hc=>?_)<;>try exact hc.elim)|(refine lx ?_;refine sp (fun hc=>?_) (fun hc=>?_)<;>try exact hc.elim)|refine sx ?_ ?_|refine sy ?_ ?_|fail
    all_goals (try (refine ⟨.inr rfl, ?_⟩; simp [Hands, Tryz.results206, hb]))
    all_goals simp_all
  · refine ent Tryz.mix Tryz.func206 Tryz.ntmps206 ?_
    have W := hb
    repeat' first|refine st ?_|(refine nx ?_;first|refine se ?_|refine so ?_)|(refine cx ?_;refine sc (fun hc=>?_) (fun hc=>?_)<;>try exact hc.elim)|(refine lx ?_;refine sp (fun hc=>?_) (fun hc=>?_)<;>try exact hc.elim)|refine sx ?_ ?_|refine sy ?_ ?_|fail
    all_goals (try (refine ⟨.inr rfl, ?_⟩; simp [Hands, Tryz.results206, hb]))
    all_goals simp_all
theorem implFormatPolicy_ok [Tabs Tryz.prog] (p : DPolicy) (hs : szPolicy p ≤ 274877906944) : Ok Tryz.prog 188 [.agg (ePolicy .view p)] (.str (fmtPolicy p)) := by
  have c0 := implIsPolicy_ok p (by omega)
  simp only [ePolicy] at c0
  have hq := @policy_len p
  have hn' : isPolicy p = true → p.isSet = true → p.scripts.length ≤ 4 ∧ p.styles.length ≤ 4 ∧ p.images.length ≤ 4 := by
    intro h hs
    simp only [isPolicy, hs, if_true, Bool.and_eq_true] at h
    exact ⟨(names_len h.1.1.1).1, (names_len h.1.1.2).1, (names_len h.1.2).1⟩
  have hs0 := hs
  simp only [szPolicy, szL] at hs
  unfold fmtPolicy
  by_cases h1 : isPolicy p = true
  · by_cases h2 : p.isSet = true
    · obtain ⟨k1, k2, k3, k4⟩ := hq h1 h2
      obtain ⟨n1, n2, n3⟩ := hn' h1 h2
      have j1 : Ok Tryz.prog 102 [.sl .view 1 ([.str [115, 99, 114, 105, 112, 116]] :: p.scripts.map eStr), .str [32]] (.str (words wScript p.scripts)) := joinH_ok (wScript :: p.scripts) [32] (by simp; omega) (by change (words wScript p.scripts).length ≤ _; omega)
      have j2 : Ok Tryz.prog 102 [.sl .view 1 ([.str [115, 116, 121, 108, 101]] :: p.styles.map eStr), .str [32]] (.str (words wStyle p.styles)) := joinH_ok (wStyle :: p.styles) [32] (by simp; omega) (by change (words wStyle p.styles).length ≤ _; omega)
      have j3 : Ok Tryz.prog 102 [.sl .view 1 ([.str [105, 109, 103]] :: p.images.map eStr), .str [32]] (.str (words wImg p.images)) := joinH_ok (wImg :: p.images) [32] (by simp; omega) (by change (words wImg p.images).length ≤ _; omega)
      rw [if_pos ⟨h1, h2⟩]
      unfold nonceT
      rw [h1, h2] at c0
      generalize words wScript p.scripts = q1 at *
      generalize words wStyle p.styles = q2 at *
      generalize words wImg p.images = q3 at *
      by_cases hn : p.nonce = []
      · rw [if_pos hn]
        rw [hn] at c0
        refine entH Tryz.mix [3] Tryz.func188 Tryz.ntmps188 ?_
        have W := And.intro h2 hn
        have V := And.intro h2 hn
        repeat' first|refine st ?_|(refine nx ?_;first|refine se ?_|refine so ?_)|(refine cx ?_;refine sc (fun hc=>?_) (fun hc=>?_)<;>try exact hc.elim)|(refine lx ?_;refine sp (fun hc=>?_) (fun hc=>?_)<;>try exact hc.elim)|refine sx ?_ ?_|refine sy ?_ ?_|fail
        refine go_drawn3 [⟨1, 1, [(3, ⟨true, false, 1, 2, [.str [115, 99, 114, 105, 112, 116]] :: p.scripts.map eStr⟩), (0, ⟨true, false, 1, 1, [[.str [115, 99, 114, 105, 112, 116]]]⟩)]⟩, ⟨2, 1, [(9, ⟨true, false, 1, 2, [.str [115, 116, 121, 108, 101]] :: p.styles.map eStr⟩), (6, ⟨true, false, 1, 1, [[.str [115, 116, 121, 108, 101]]]⟩)]⟩, ⟨3, 1, [(16, ⟨true, false, 1, 2, [.str [105, 109, 103]] :: p.images.map eStr⟩), (13, ⟨true, false, 1, 1, [[.str [105, 109, 103]]]⟩)]⟩] (by simp; rfl) (by decide +kernel) (by decide +kernel) (by simp [preAt, pre, Region.binds]) (by simp) ?_
        repeat' first|refine d3_nil (by simp; rfl) (by simp; rfl) ?_|(refine d3_next ?_ (by simp; rfl) ?_; (focus (simp; done)))|(refine d3_make (j := 3) (v := .obj 1 2) ⟨1, 1, [(3, ⟨true, false, 1, 2, [.str [115, 99, 114, 105, 112, 116]] :: p.scripts.map eStr⟩), (0, ⟨true, false, 1, 1, [[.str [115, 99, 114, 105, 112, 116]]]⟩)]⟩ [] [(0, ⟨true, false, 1, 1, [[.str [115, 99, 114, 105, 112, 116]]]⟩)] rfl (by simp) rfl (by simp [Region.binds]; rfl) (by decide) (by simp [Region.binds]; rfl) (by simp; rfl) rfl ?_ ?_; (focus (refine at_appendE (by first | (simp; rfl) | (simp; done) | rfl) rfl (by first | (simp; rfl) | (simp; done) | rfl) (by first | (simp; rfl) | (simp; done) | rfl) (by first | (simp; rfl) | (simp; done) | rfl) (by simp; exact ⟨rfl, rfl⟩) (by simp) (by simp) (by simp; omega) (by simp; omega))))|(refine d3_make (j := 0) (v := .obj 1 1) ⟨1, 1, [(3, ⟨true, false, 1, 2, [.str [115, 99, 114, 105, 112, 116]] :: p.scripts.map eStr⟩), (0, ⟨true, false, 1, 1, [[.str [115, 99, 114, 105, 112, 116]]]⟩)]⟩ [(3, ⟨true, false, 1, 2, [.str [115, 99, 114, 105, 112, 116]] :: p.scripts.map eStr⟩)] [] rfl (by simp) rfl (by simp [Region.binds]; rfl) (by decide) (by simp [Region.binds]; rfl) (by simp; rfl) rfl ?_ ?_; (focus (refine at_litE (by simp; exact ⟨rfl, rfl⟩) (by simp) rfl rfl (by decide) (by decide) (by first | (simp; rfl) | rfl) (by simp [AV.plainV]) (by simp [AV.good, AV.cells]) (by simp) (by simp [AV.cells]))))|(refine d3_make (j := 9) (v := .obj 2 2) ⟨2, 1, [(9, ⟨true, false, 1, 2, [.str [115, 116, 121, 108, 101]] :: p.styles.map eStr⟩), (6, ⟨true, false, 1, 1, [[.str [115, 116, 121, 108, 101]]]⟩)]⟩ [] [(6, ⟨true, false, 1, 1, [[.str [115, 116, 121, 108, 101]]]⟩)] rfl (by simp) rfl (by simp [Region.binds]; rfl) (by decide) (by simp [Region.binds]; rfl) (by simp; rfl) rfl ?_ ?_; (focus (refine at_appendE (by first | (simp; rfl) | (simp; done) | rfl) rfl (by first | (simp; rfl) | (simp; done) | rfl) (by first | (simp; rfl) | (simp; done) | rfl) (by first | (simp; rfl) | (simp; done) | rfl) (by simp; exact ⟨rfl, rfl⟩) (by simp) (by simp) (by simp; omega) (by simp; omega))))|(refine d3_make (j := 6) (v := .obj 2 1) ⟨2, 1, [(9, ⟨true, false, 1, 2, [.str [115, 116, 121, 108, 101]] :: p.styles.map eStr⟩), (6, ⟨true, false, 1, 1, [[.str [115, 116, 121, 108, 101]]]⟩)]⟩ [(9, ⟨true, false, 1, 2, [.str [115, 116, 121, 108, 101]] :: p.styles.map eStr⟩)] [] rfl (by simp) rfl (by simp [Region.binds]; rfl) (by decide) (by simp [Region.binds]; rfl) (by simp; rfl) rfl ?_ ?_; (focus (refine at_litE (by simp; exact ⟨rfl, rfl⟩) (by simp) rfl rfl (by decide) (by decide) (by first | (simp; rfl) | rfl) (by simp [AV.plainV]) (by simp [AV.good, AV.cells]) (by simp) (by simp [AV.cells]))))|(refine d3_make (j := 16) (v := .obj 3 2) ⟨3, 1, [(16, ⟨true, false, 1, 2, [.str [105, 109, 103]] :: p.images.map eStr⟩), (13, ⟨true, false, 1, 1, [[.str [105, 109, 103]]]⟩)]⟩ [] [(13, ⟨true, false, 1, 1, [[.str [105, 109, 103]]]⟩)] rfl (by simp) rfl (by simp [Region.binds]; rfl) (by decide) (by simp [Region.binds]; rfl) (by simp; rfl) rfl ?_ ?_; (focus (refine at_appendE (by first | (simp; rfl) | (simp; done) | rfl) rfl (by first | (simp; rfl) | (simp; done) | rfl) (by first | (simp; rfl) | (simp; done) | rfl) (by first | (simp; rfl) | (simp; done) | rfl) (by simp; exact ⟨rfl, rfl⟩) (by simp) (by simp) (by simp; omega) (by simp; omega))))|(refine d3_make (j := 13) (v := .obj 3 1) ⟨3, 1, [(16, ⟨true, false, 1, 2, [.str [105, 109, 103]] :: p.images.map eStr⟩), (13, ⟨true, false, 1, 1, [[.str [105, 109, 103]]]⟩)]⟩ [(16, ⟨true, false, 1, 2, [.str [105, 109, 103]] :: p.images.map eStr⟩)] [] rfl (by simp) rfl (by simp [Region.binds]; rfl) (by decide) (by simp [Region.binds]; rfl) (by simp; rfl) rfl ?_ ?_; (focus (refine at_litE (by simp; exact ⟨rfl, rfl⟩) (by simp) rfl rfl (by decide) (by decide) (by first | (simp; rfl) | rfl) (by simp [AV.plainV]) (by simp [AV.good, AV.cells]) (by simp) (by simp [AV.cells]))))|(refine d3_pure rfl ?_ (by simp [Region.binds]; rfl) (by decide) (by simp [Region.binds]; rfl) (by simp; rfl) ?_ rfl (by first | rfl | (simp; done)) ?_; (focus (first | rfl | (simp; done))); (focus (first | rfl | (simp [quietA]; done))))|(refine nx ?_; refine so ?_)|fail
        have W := And.intro h2 hn
        have V := And.intro h2 hn
        repeat' first|refine st ?_|(refine nx ?_;first|refine se ?_|refine so ?_)|(refine cx ?_;refine sc (fun hc=>?_) (fun hc=>?_)<;>try exact hc.elim)|(refine lx ?_;refine sp (fun hc=>?_) (fun hc=>?_)<;>try exact hc.elim)|refine sx ?_ ?_|refine sy ?_ ?_|fail
        all_goals (try (refine ⟨.inr rfl, ?_⟩; simp [Hands, Tryz.results188, h2, hn]))
      · rw [if_neg hn]
        refine entH Tryz.mix [3] Tryz.func188 Tryz.ntmps188 ?_
        have W := And.intro h2 hn
        have V := And.intro h2 hn
        repeat' first|refine st ?_|(refine nx ?_;first|refine se ?_|refine so ?_)|(refine cx ?_;refine sc (fun hc=>?_) (fun hc=>?_)<;>try exact hc.elim)|(refine lx ?_;refine sp (fun hc=>?_) (fun hc=>?_)<;>try exact hc.elim)|refine sx ?_ ?_|refine sy ?_ ?_|fail
        refine go_drawn3 [⟨1, 1, [(3, ⟨true, false, 1, 2, [.str [115, 99, 114, 105, 112, 116]] :: p.scripts.map eStr⟩), (0, ⟨true, false, 1, 1, [[.str [115, 99, 114, 105, 112, 116]]]⟩)]⟩, ⟨2, 1, [(9, ⟨true, false, 1, 2, [.str [115, 116, 121, 108, 101]] :: p.styles.map eStr⟩), (6, ⟨true, false, 1, 1, [[.str [115, 116, 121, 108, 101]]]⟩)]⟩, ⟨3, 1, [(16, ⟨true, false, 1, 2, [.str [105, 109, 103]] :: p.images.map eStr⟩), (13, ⟨true, false, 1, 1, [[.str [105, 109, 103]]]⟩)]⟩] (by simp; rfl) (by decide +kernel) (by decide +kernel) (by simp [preAt, pre, Region.binds]) (by simp) ?_
        repeat' first|refine d3_nil (by simp; rfl) (by simp; rfl) ?_|(refine d3_next ?_ (by simp; rfl) ?_; (focus (simp; done)))|(refine d3_make (j := 3) (v := .obj 1 2) ⟨1, 1, [(3, ⟨true, false, 1, 2, [.str [115, 99, 114, 105, 112, 116]] :: p.scripts.map eStr⟩), (0, ⟨true, false, 1, 1, [[.str [115, 99, 114, 105, 112, 116]]]⟩)]⟩ [] [(0, ⟨true, false, 1, 1, [[.str [115, 99, 114, 105, 112, 116]]]⟩)] rfl (by simp) rfl (by simp [Region.binds]; rfl) (by decide) (by simp [Region.binds]; rfl) (by simp; rfl) rfl ?_ ?_; (focus (refine at_appendE (by first | (simp; rfl) | (simp; done) | rfl) rfl (by first | (simp; rfl) | (simp; done) | rfl) (by first | (simp; rfl) | (simp; done) | rfl) (by first | (simp; rfl) | (simp; done) | rfl) (by simp; exact ⟨rfl, rfl⟩) (by simp) (by simp) (by simp; omega) (by simp; omega))))|(refine d3_make (j := 0) (v := .obj 1 1) ⟨1, 1, [(3, ⟨true, false, 1, 2, [.str [115, 99, 114, 105, 112, 116]] :: p.scripts.map eStr⟩), (0, ⟨true, false, 1, 1, [[.str [115, 99, 114, 105, 112, 116]]]⟩)]⟩ [(3, ⟨true, false, 1, 2, [.str [115, 99, 114, 105, 112, 116]] :: p.scripts.map eStr⟩)] [] rfl (by simp) rfl (by simp [Region.binds]; rfl) (by decide) (by simp [Region.binds]; rfl) (by simp; rfl) rfl ?_ ?_; (focus (refine at_litE (by simp; exact ⟨rfl, rfl⟩) (by simp) rfl rfl (by decide) (by decide) (by first | (simp; rfl) | rfl) (by simp [AV.plainV]) (by simp [AV.good, AV.cells]) (by simp) (by simp [AV.cells]))))|(refine d3_make (j := 9) (v := .obj 2 2) ⟨2, 1, [(9, ⟨true, false, 1, 2, [.str [115, 116, 121, 108, 101]] :: p.styles.map eStr⟩), (6, ⟨true, false, 1, 1, [[.str [115, 116, 121, 108, 101]]]⟩)]⟩ [] [(6, ⟨true, false, 1, 1, [[.str [115, 116, 121, 108, 101]]]⟩)] rfl (by simp) rfl (by simp [Region.binds]; rfl) (by decide) (by simp [Region.binds]; rfl) (by simp; rfl) rfl ?_ ?_; (focus (refine at_appendE (by first | (simp; rfl) | (simp; done) | rfl) rfl (by first | (simp; rfl) | (simp; done) | rfl) (by first | (simp; rfl) | (simp; done) | rfl) (by first | (simp; rfl) | (simp; done) | rfl) (by simp; exact ⟨rfl, rfl⟩) (by simp) (by simp) (by simp; omega) (by simp; omega))))|(refine d3_make (j := 6) (v := .obj 2 1) ⟨2, 1, [(9, ⟨true, false, 1, 2, [.str [115, 116, 121, 108, 101]] :: p.styles.map eStr⟩), (6, ⟨true, false, 1, 1, [[.str [115, 116, 121, 108, 101]]]⟩)]⟩ [(9, ⟨true, false, 1, 2, [.str [115, 116, 121, 108, 101]] :: p.styles.map eStr⟩)] [] rfl (by simp) rfl (by simp [Region.binds]; rfl) (by decide) (by simp [Region.binds]; rfl) (by simp; rfl) rfl ?_ ?_; (focus (refine at_litE (by simp; exact ⟨rfl, rfl⟩) (by simp) rfl rfl (by decide) (by decide) (by first | (simp; rfl) | rfl) (by simp [AV.plainV]) (by simp [AV.good, AV.cells]) (by simp) (by simp [AV.cells]))))|(refine d3_make (j := 16) (v := .obj 3 2) ⟨3, 1, [(16, ⟨true, false, 1, 2, [.str [105, 109, 103]] :: p.images.map eStr⟩), (13, ⟨true, false, 1, 1, [[.str [105, 109, 103]]]⟩)]⟩ [] [(13, ⟨true, false, 1, 1, [[.str [105, 109, 103]]]⟩)] rfl (by simp) rfl (by simp [Region.binds]; rfl) (by decide) (by simp [Region.binds]; rfl) (by simp; rfl) rfl ?_ ?_; (focus (refine at_appendE (by first | (simp; rfl) | (simp; done) | rfl) rfl (by first | (simp; rfl) | (simp; done) | rfl) (by first | (simp; rfl) | (simp; done) | rfl) (by first | (simp; rfl) | (simp; done) | rfl) (by simp; exact ⟨rfl, rfl⟩) (by simp) (by simp) (by simp; omega) (by simp; omega))))|(refine d3_make (j := 13) (v := .obj 3 1) ⟨3, 1, [(16, ⟨true, false, 1, 2, [.str [105, 109, 103]] :: p.images.map eStr⟩), (13, ⟨true, false, 1, 1, [[.str [105, 109, 103]]]⟩)]⟩ [(16, ⟨true, false, 1, 2, [.str [105, 109, 103]] :: p.images.map eStr⟩)] [] rfl (by simp) rfl (by simp [Region.binds]; rfl) (by decide) (by simp [Region.binds]; rfl) (by simp; rfl) rfl ?_ ?_; (focus (refine at_litE (by simp; exact ⟨rfl, rfl⟩) (by simp) rfl rfl (by decide) (by decide) (by first | (simp; rfl) | rfl) (by simp [AV.plainV]) (by simp [AV.good, AV.cells]) (by simp) (by simp [AV.cells]))))|(refine d3_pure rfl ?_ (by simp [Region.binds]; rfl) (by decide) (by simp [Region.binds]; rfl) (by simp; rfl) ?_ rfl (by first | rfl | (simp; done)) ?_; (focus (first | rfl | (simp; done))); (focus (first | rfl | (simp [quietA]; done))))|(refine nx ?_; refine so ?_)|fail
        have W := And.intro h2 hn
        have V := And.intro h2 hn
        repeat' first|refine st ?_|(refine nx ?_;first|refine se ?_|refine so ?_)|(refine cx ?_;refine sc (fun hc=>?_) (fun hc=>?_)<;>try exact hc.elim)|(refine lx ?_;refine sp (fun hc=>?_) (fun hc=>?_)<;>try exact hc.elim)|refine sx ?_ ?_|refine sy ?_ ?_|fail
        all_goals (try (refine ⟨.inr rfl, ?_⟩; simp [Hands, Tryz.results188, h2, hn, wNonce]))
        all_goals (exact absurd (by assumption) hn)
    · rw [if_neg (fun h => h2 h.2)]
      simp only [Bool.not_eq_true] at h2
      rw [h1, h2] at c0
      refine ent Tryz.mix Tryz.func188 Tryz.ntmps188 ?_
      have W := h2
      have V := h2
      repeat' first|refine st ?_|(refine nx ?_;first|refine se ?_|refine so ?_)|(refine cx ?_;refine sc (fun hc=>?_) (fun hc=>?_)<;>try exact hc.elim)|(refine lx ?_;refine sp (fun hc=>?_) (fun hc=>?_)<;>try exact hc.elim)|refine sx ?_ ?_|refine sy ?_ ?_|fail
      all_goals (try (refine ⟨.inr rfl, ?_⟩; simp [Hands, Tryz.results188]))
  · rw [if_neg (fun h => h1 h.1)]
    simp only [Bool.not_eq_true] at h1
    rw [h1] at c0
    refine ent Tryz.mix Tryz.func188 Tryz.ntmps188 ?_
    have W := trivial
    repeat' first|refine st ?_|(refine nx ?_;first|refine se ?_|refine so ?_)|(refine cx ?_;refine sc (fun hc=>?_) (fun hc=>?_)<;>try exact hc.elim)|(refine lx ?_;refine sp (fun hc=>?_) (fun hc=>?_)<;>try exact hc.elim)|refine sx ?_ ?_|refine sy ?_ ?_|fail
    all_goals (try (refine ⟨.inr rfl, ?_⟩; simp [Hands, Tryz.results188]))
end Go.Proofs.YtphofanfadgalaaGreatDoor
