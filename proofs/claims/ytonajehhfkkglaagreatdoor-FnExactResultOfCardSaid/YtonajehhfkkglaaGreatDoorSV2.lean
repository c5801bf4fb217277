/-
  Proved here: steps towards the statement of this claim, text SV2.
  No condition beyond what each statement spells out.
-/
import Derived.Test.YtonajehhfkkglaaGreatDoorSU5
import Derived.Test.YtonajehhfkkglaaGreatDoorSA0
import Derived.Test.YtonajehhfkkglaaGreatDoorF4
set_option linter.all false
set_option maxRecDepth 4000
set_option maxHeartbeats 4000000
namespace Go.Proofs.YtonajehhfkkglaaGreatDoor
open Go.Aw
theorem szPage_ok [Tabs Tryz.prog] (a : DPage) (n : Int) (h0 : 0 ≤ n) (h1 : n ≤ 1048576) (hw : wfPage a) : Ok Tryz.prog 4 [.agg (ePage .view a), .int .i64 n] (.int .i64 (sub n (szPage a))) := by
  simp only [wfPage] at hw
  obtain ⟨waddr, wpolicy, wtok, wqueue, wbuilder, wslots, wmods, wentries, wran, wlog⟩ := hw
  refine ent Tryz.mix Tryz.func4 Tryz.ntmps4 ?_
  have W := trivial
  repeat' first|refine st ?_|(refine nx ?_;first|refine so ?_|refine sk (hc:=szAddr_ok a.addr _ (by omega) (by repeat' (first | omega | apply purse_le | apply purse_len)) waddr) (h:=?_)|refine sk (hc:=szPolicy_ok a.policy _ (by omega) (by repeat' (first | omega | apply purse_le | apply purse_len)) wpolicy) (h:=?_)|refine sk (hc:=szTokenizer_ok a.tok _ (by omega) (by repeat' (first | omega | apply purse_le | apply purse_len)) wtok) (h:=?_)|refine sk (hc:=szTokenS_ok a.queue _ (by omega) (by repeat' (first | omega | apply purse_le | apply purse_len)) wqueue) (h:=?_)|refine sk (hc:=szBuilder_ok a.builder _ (by omega) (by repeat' (first | omega | apply purse_le | apply purse_len)) wbuilder) (h:=?_)|refine sk (hc:=szSlotS_ok a.slots _ (by omega) (by repeat' (first | omega | apply purse_le | apply purse_len)) wslots) (h:=?_)|refine sk (hc:=szModuleS_ok a.mods _ (by omega) (by repeat' (first | omega | apply purse_le | apply purse_len)) wmods) (h:=?_)|refine sk (hc:=szAddrS_ok a.entries _ (by omega) (by repeat' (first | omega | apply purse_le | apply purse_len)) wentries) (h:=?_)|refine sk (hc:=szAddrS_ok a.ran _ (by omega) (by repeat' (first | omega | apply purse_le | apply purse_len)) wran) (h:=?_)|refine sk (hc:=szStringS_ok a.log _ (by omega) (by repeat' (first | omega | apply purse_le | apply purse_len)) wlog) (h:=?_))|(refine cx ?_;refine sc (fun hc=>?_) (fun hc=>?_)<;>try exact hc.elim)|(refine lx ?_;refine sp (fun hc=>?_) (fun hc=>?_)<;>try exact hc.elim)|refine sx ?_ ?_|refine sy ?_ ?_|fail
  all_goals (try (refine ⟨.inr rfl, ?_⟩; simp [Hands, Tryz.results4, szPage]))
  all_goals (
    (try generalize e0 : sub n (szAddr a.addr) = m0 at *)
    (try (first | have f0 := purse_ok e0 (by omega) | have f0 := purse_bad e0 (by omega) (by omega)))
    (try generalize e1 : sub m0 (szPolicy a.policy) = m1 at *)
    (try (first | have f1 := purse_ok e1 (by omega) | have f1 := purse_bad e1 (by omega) (by omega)))
    (try generalize e2 : sub m1 (szTokenizer a.tok) = m2 at *)
    (try (first | have f2 := purse_ok e2 (by omega) | have f2 := purse_bad e2 (by omega) (by omega)))
    (try generalize e3 : sub m2 (szL szToken a.queue) = m3 at *)
    (try (first | have f3 := purse_ok e3 (by omega) | have f3 := purse_bad e3 (by omega) (by omega)))
    (try generalize e4 : sub m3 (szBuilder a.builder) = m4 at *)
    (try (first | have f4 := purse_ok e4 (by omega) | have f4 := purse_bad e4 (by omega) (by omega)))
    (try generalize e5 : sub m4 (szL szSlot a.slots) = m5 at *)
    (try (first | have f5 := purse_ok e5 (by omega) | have f5 := purse_bad e5 (by omega) (by omega)))
    (try generalize e6 : sub m5 (szL szModule a.mods) = m6 at *)
    (try (first | have f6 := purse_ok e6 (by omega) | have f6 := purse_bad e6 (by omega) (by omega)))
    (try generalize e7 : sub m6 (szL szAddr a.entries) = m7 at *)
    (try (first | have f7 := purse_ok e7 (by omega) | have f7 := purse_bad e7 (by omega) (by omega)))
    (try generalize e8 : sub m7 (szL szAddr a.ran) = m8 at *)
    (try (first | have f8 := purse_ok e8 (by omega) | have f8 := purse_bad e8 (by omega) (by omega)))
    (try generalize e9 : sub m8 (szL szStr a.log) = m9 at *)
    (try (first | have f9 := purse_ok e9 (by omega) | have f9 := purse_bad e9 (by omega) (by omega)))
    repeat (simp (disch := omega) only [wrap64] at *)
    (try simp only [sub]); (try split); all_goals omega)
end Go.Proofs.YtonajehhfkkglaaGreatDoor

set_option maxRecDepth 4000
set_option maxHeartbeats 4000000
namespace Go.Proofs.YtonajehhfkkglaaGreatDoor
open Go.Aw
theorem eqPage_ok [Tabs Tryz.prog] (a b : DPage) (hs : szPage a ≤ 1099511627776) : Ok Tryz.prog 9 [.agg (ePage .view a), .agg (ePage .view b)] (.bool (decide (a = b))) := by
  simp only [szPage] at hs
  refine ent Tryz.mix Tryz.func9 Tryz.ntmps9 ?_
  have W := trivial
  repeat' first|refine st ?_|(refine nx ?_;first|refine so ?_|refine sk (hc:=eqAddr_ok a.addr b.addr (by omega)) (h:=?_)|refine sk (hc:=eqPolicy_ok a.policy b.policy (by omega)) (h:=?_)|refine sk (hc:=eqTokenizer_ok a.tok b.tok (by omega)) (h:=?_)|refine sk (hc:=eqTokenS_ok a.queue b.queue (by omega)) (h:=?_)|refine sk (hc:=eqBuilder_ok a.builder b.builder (by omega)) (h:=?_)|refine sk (hc:=eqSlotS_ok a.slots b.slots (by omega)) (h:=?_)|refine sk (hc:=eqModuleS_ok a.mods b.mods (by omega)) (h:=?_)|refine sk (hc:=eqAddrS_ok a.entries b.entries (by omega)) (h:=?_)|refine sk (hc:=eqAddrS_ok a.ran b.ran (by omega)) (h:=?_)|refine sk (hc:=eqStringS_ok a.log b.log (by omega)) (h:=?_))|(refine cx ?_;refine sc (fun hc=>?_) (fun hc=>?_)<;>try exact hc.elim)|(refine lx ?_;refine sp (fun hc=>?_) (fun hc=>?_)<;>try exact hc.elim)|refine sx ?_ ?_|refine sy ?_ ?_|fail
  all_goals (try (refine ⟨.inr rfl, ?_⟩; simp [Hands, Tryz.results9]))
  all_goals ((repeat clear hK K); cases a; cases b; simp_all)
end Go.Proofs.YtonajehhfkkglaaGreatDoor

set_option maxRecDepth 4000
set_option maxHeartbeats 4000000
namespace Go.Proofs.YtonajehhfkkglaaGreatDoor
open Go.Aw
end Go.Proofs.YtonajehhfkkglaaGreatDoor
