/-
  Proved here: steps towards the statement of this claim, text SI7.
  No condition beyond what each statement spells out.
-/
import Derived.Test.YtonajehhfkkglabGreatI3
import Derived.Test.YtonajehhfkkglabGreatSPL
import Derived.Test.YtonajehhfkkglabGreatU5
set_option linter.all false
set_option maxRecDepth 4000
set_option maxHeartbeats 4000000
namespace Go.Proofs.YtonajehhfkkglabGreat
open Go.Aw
theorem askMods_sz (p : DPage) (a : DAddr) (k : Nat) : szL szModule (askMods p a k) = szL szModule p.mods + 1 + szAddr a := by
  have h1 : sumN szModule (p.mods.take k) + sumN szModule (p.mods.drop k) = sumN szModule p.mods := by rw [← sumN_join, List.take_append_drop]
  have h2 : (p.mods.take k).length + (p.mods.drop k).length = p.mods.length := by rw [← List.length_append, List.take_append_drop]
  have h3 : szModule (newMod p a) = szAddr a := by unfold newMod; split <;> simp [szModule]
  simp only [askMods, szL, List.length_append, List.length_cons, sumN_join, sumN, h3]
  omega
theorem ask_sz (p : DPage) (a : DAddr) : szPage (askModule p a) ≤ szPage p + szAddr a + 1 := by
  have h := askMods_sz p a (askAt p.mods a)
  unfold askModule
  split
  · split
    · omega
    · simp only [szPage, h]; omega
  · simp only [szPage, h]; omega
end Go.Proofs.YtonajehhfkkglabGreat

set_option maxRecDepth 4000
set_option maxHeartbeats 4000000
namespace Go.Proofs.YtonajehhfkkglabGreat
open Go.Aw
theorem toPage_ok [Tabs Tryz.prog] (a : DPage) (hs : szPage a ≤ 1048576) : Ok Tryz.prog 6 [.agg (ePage .view a)] (.agg (ePage .own a)) := by
  simp only [szPage] at hs
  refine ent Tryz.mix Tryz.func6 Tryz.ntmps6 ?_
  have W := trivial
  repeat' first|refine st ?_|(refine nx ?_;first|refine so ?_|refine sk (hc:=toAddr_ok a.addr (by omega)) (h:=?_)|refine sk (hc:=toPolicy_ok a.policy (by omega)) (h:=?_)|refine sk (hc:=toTokenizer_ok a.tok (by omega)) (h:=?_)|refine sk (hc:=toTokenS_ok a.queue (by omega)) (h:=?_)|refine sk (hc:=toBuilder_ok a.builder (by omega)) (h:=?_)|refine sk (hc:=toSlotS_ok a.slots (by omega)) (h:=?_)|refine sk (hc:=toModuleS_ok a.mods (by omega)) (h:=?_)|refine sk (hc:=toAddrS_ok a.entries (by omega)) (h:=?_)|refine sk (hc:=toAddrS_ok a.ran (by omega)) (h:=?_)|refine sk (hc:=toStringS_ok a.log (by omega)) (h:=?_))|(refine cx ?_;refine sc (fun hc=>?_) (fun hc=>?_)<;>try exact hc.elim)|(refine lx ?_;refine sp (fun hc=>?_) (fun hc=>?_)<;>try exact hc.elim)|refine sx ?_ ?_|refine sy ?_ ?_|fail
  all_goals (try (refine ⟨.inr rfl, ?_⟩; simp [Hands, Tryz.results6]))
end Go.Proofs.YtonajehhfkkglabGreat

set_option maxRecDepth 4000
set_option maxHeartbeats 4000000
namespace Go.Proofs.YtonajehhfkkglabGreat
open Go.Aw
theorem szPage_ok [Tabs Tryz.prog] (a : DPage) (n : Int) (h0 : 0 ≤ n) (h1 : n ≤ 1048576) (hw : wfPage a) : Ok Tryz.prog 4 [.agg (ePage .view a), .int .i64 n] (.int .i64 (sub n (szPage a))) := by
  simp only [wfPage] at hw
  obtain ⟨waddr, wpolicy, wtok, wqueue, wbuilder, wslots, wmods, wentries, wran, wlog⟩ := hw
  refine ent Tryz.mix Tryz.func4 Tryz.ntmps4 ?_
  have W := trivial
  repeat' first|refine st ?_|(refine nx ?_;first|refine so ?_|refine sk (hc:=szAddr_ok a.addr _ (by omega) (by repeat' (first | omega | apply purse_le | apply purse_len)) waddr) (h:=?_)|refine sk (hc:=szPolicy_ok a.policy _ (by omega) (by repeat' (first | omega | apply purse_le | apply purse_len)) wpolicy) (h:=?_)|refine sk (hc:=szTokenizer_ok a.tok _ (by omega) (by repeat' (first | omega | apply purse_le | apply purse_len)) wtok) (h:=?_)|refine sk (hc:=szTokenS_ok a.queue _ (by omega) (by repeat' (first | omega | apply purse_le | apply purse_len)) wqueue) (h:=?_)|refine sk (hc:=szBuilder_ok a.builder _ (by omega) (by repeat' (first | omega | apply purse_le | apply purse_len)) wbuilder) (h:=?_)|refine sk (hc:=szSlotS_ok a.slots _ (by omega) (by repeat' (first | omega | apply purse_le | apply purse_len)) wslots) (h:=?_)|refine sk (hc:=szModuleS_ok a.mods _ (by omega) (by repeat' (first | omega | apply purse_le | apply purse_len)) wmods) (h:=?_)|refine sk (hc:=szAddrS_ok a.entries _ (by omega) (by repeat' (first | omega | apply purse_le | apply purse_len)) wentries) (h:=?_)|refine sk (hc:=szAddrS_ok a.ran _ (by omega) (by repeat' (first | omega | apply purse_le | apply purse_len)) wran) (h:=?_)|refine sk (hc:=szStringS_ok a.log _ (by omega) (by repeat' (first | omega | apply purse_le | apply purse_len)) wlog) (h:=?_))|(refine cx ?_;refine sc (fun hc=>?_) (fun hc=>?_)<;>try exact hc.elim)|(refine lx ?_;refine sp (fun hc=>?_) (fun hc=>?_)<;>try exact hc.elim)|refine sx ?_ ?_|refine sy ?_ ?_|fail
  all_goals (try (refine ⟨.inr rfl, ?_⟩; simp [Hands, Tryz.results4, szPage]))
  all_goals (
    (try generalize e0 : sub n (szAddr a.addr) = m0 at *)
    (try (first | have f0 := purse_ok e0 (by omega) | have f0 := purse_bad e0 (by omega) (by omega)))
    (try generalize e1 : sub m0 (szPolicy a.policy) = m1 at *)
    (try (first | have f1 := purse_ok e1 (by omega) | have f1 := purse_bad e1 (by omega) (by omega)))
    (try generalize e2 : sub m1 (szTokenizer a.tok) = m2 at *)
    (try (first | have f2 := purse_ok e2 (by omega) | have f2 := purse_bad e2 (by omega) (by omega)))
    (try generalize e3 : sub m2 (szL szToken a.queue) = m3 at *)
    (try (first | have f3 := purse_ok e3 (by omega) | have f3 := purse_bad e3 (by omega) (by omega)))
    (try generalize e4 : sub m3 (szBuilder a.builder) = m4 at *)
    (try (first | have f4 := purse_ok e4 (by omega) | have f4 := purse_bad e4 (by omega) (by omega)))
    (try generalize e5 : sub m4 (szL szSlot a.slots) = m5 at *)
    (try (first | have f5 := purse_ok e5 (by omega) | have f5 := purse_bad e5 (by omega) (by omega)))
    (try generalize e6 : sub m5 (szL szModule a.mods) = m6 at *)
    (try (first | have f6 := purse_ok e6 (by omega) | have f6 := purse_bad e6 (by omega) (by omega)))
    (try generalize e7 : sub m6 (szL szAddr a.entries) = m7 at *)
    (try (first | have f7 := purse_ok e7 (by omega) | have f7 := purse_bad e7 (by omega) (by omega)))
    (try generalize e8 : sub m7 (szL szAddr a.ran) = m8 at *)
    (try (first | have f8 := purse_ok e8 (by omega) | have f8 := purse_bad e8 (by omega) (by omega)))
    (try generalize e9 : sub m8 (szL szStr a.log) = m9 at *)
    (try (first | have f9 := purse_ok e9 (by omega) | have f9 := purse_bad e9 (by omega) (by omega)))
    repeat (simp (disch := omega) only [wrap64] at *)
    (try simp only [sub]); (try split); all_goals omega)
end Go.Proofs.YtonajehhfkkglabGreat
