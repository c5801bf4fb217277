/-
  Proved here: steps towards the statement of this claim, text SW6.
  No condition beyond what each statement spells out.
-/
import Derived.Test.YtgkcdgaljknohaaGreatDoorSPL
import Derived.Test.YtgkcdgaljknohaaGreatDoorF4
import Derived.Test.YtgkcdgaljknohaaGreatDoorSW4
set_option linter.all false
set_option maxRecDepth 4000
set_option maxHeartbeats 4000000
namespace Go.Proofs.YtgkcdgaljknohaaGreatDoor
open Go.Aw
theorem heldSlotS_ok [Tabs Tryz.prog] (l0:List DSlot) (k:Int) (h0:0≤k) (hl:k+(sumN (fun _=>8) l0:Nat)≤4611686018427387000) (hll:l0.length≤4611686018427387904):Ok Tryz.prog 71 [.sl .view 8 ((mkL mkSlot (fun _=>8) k l0).map eSlot),.int .i64 k] (.int .i64 (k+(sumN (fun _=>8) l0:Nat))):=by
 have hget:∀j (h:j < l0.length),(mkL mkSlot (fun _=>8) k l0)[j]? =some (mkSlot (k+(sumN (fun _=>8) (l0.take j):Nat)) l0[j]):=fun j h=>by
  rw [List.getElem?_eq_getElem (by rw [mkL_length];exact h),mkL_get]
 generalize hu:mkL mkSlot (fun _=>8) k l0=l at *
 have hlen:l.length=l0.length:=by rw [←hu,mkL_length]
 refine ent Tryz.mix Tryz.func71 Tryz.ntmps71 ?_
 have W:=trivial
 repeat' first|refine wl ?_|(refine sq (fun hc=>?_) (fun hc=>?_)<;>try exact hc.elim)|fail
 refine awp_loop' (ι:={j:Nat // j≤l0.length}) (fun t o i=>⟨upds t [(1,.int .i64 (k+(sumN (fun _=>8) (l0.take i.1):Nat))),(5,.int .i64 i.1)],o⟩)
  (fun i=>l0.length - i.1) ⟨0,by simp⟩ (weak_o (by simp) (by simp [sumN])) ?_
 rintro ⟨j,hj⟩ K1 hK1
 simp only [upds,List.set_cons_succ,List.set_cons_zero] at hK1⊢
 have hj1:IntKind.i64.wrap ((j:Int)+1)=((j+1:Nat):Int):=by rw [wrap64]<;>omega
 have hle:=sumN_take_le (fun _=>8) l0 (j+1)
 by_cases hlt:j < l0.length
 ·have hts:=sumN_take_succ (fun _=>8) l0 j hlt
  have hg:l[j]? =some (mkSlot (k+(sumN (fun _=>8) (l0.take j):Nat)) l0[j]):=hget j hlt
  generalize hq:k+(sumN (fun _=>8) (l0.take j):Nat)=q at *
  have e2:q+1+1=q+2:=by omega
  have e3:q+2+1=q+3:=by omega
  have e4:q+3+1=q+4:=by omega
  have e5:q+4+1=q+5:=by omega
  have e6:q+5+1=q+6:=by omega
  have e7:q+6+1=q+7:=by omega
  have e8:q+7+1=q+8:=by omega
  simp only [mkSlot,markB] at hg
  have W:=And.intro hlen (And.intro hj1 (And.intro hg (And.intro e2 (And.intro e3 (And.intro e4 (And.intro e5 (And.intro e6 (And.intro e7 e8))))))))
  have V:=And.intro hlen (And.intro hj1 (And.intro hg (And.intro hlt (And.intro e2 (And.intro e3 (And.intro e4 (And.intro e5 (And.intro e6 (And.intro e7 e8)))))))))
  repeat' first|refine wl ?_|(refine nx ?_;refine sk (hc:=markText_ok _ (by omega)) (h:=?_))|(refine sq (fun hc=>?_) (fun hc=>?_)<;>try exact hc.elim)|fail
  refine hK1 _ ⟨j+1,by omega⟩ (weak_o (by simp) ?_) (by simp only;omega)
  simp
  omega
 ·have htk:l0.take j=l0:=List.take_of_length_le (by omega)
  have hjl:j=l0.length:=by omega
  rw [htk] at *
  have W:=And.intro hlen hj1
  repeat' first|refine wl ?_|(refine sq (fun hc=>?_) (fun hc=>?_)<;>try exact hc.elim)|fail
  all_goals (try (refine ⟨.inr rfl,?_⟩;simp [Hands,Tryz.results71]))
theorem heldModuleS_ok [Tabs Tryz.prog] (l0:List DModule) (k:Int) (h0:0≤k) (hl:k+(sumN (fun _=>5) l0:Nat)≤4611686018427387000) (hll:l0.length≤4611686018427387904):Ok Tryz.prog 72 [.sl .view 5 ((mkL mkModule (fun _=>5) k l0).map eModule),.int .i64 k] (.int .i64 (k+(sumN (fun _=>5) l0:Nat))):=by
 have hget:∀j (h:j < l0.length),(mkL mkModule (fun _=>5) k l0)[j]? =some (mkModule (k+(sumN (fun _=>5) (l0.take j):Nat)) l0[j]):=fun j h=>by
  rw [List.getElem?_eq_getElem (by rw [mkL_length];exact h),mkL_get]
 generalize hu:mkL mkModule (fun _=>5) k l0=l at *
 have hlen:l.length=l0.length:=by rw [←hu,mkL_length]
 refine ent Tryz.mix Tryz.func72 Tryz.ntmps72 ?_
 have W:=trivial
 repeat' first|refine wl ?_|(refine sq (fun hc=>?_) (fun hc=>?_)<;>try exact hc.elim)|fail
 refine awp_loop' (ι:={j:Nat // j≤l0.length}) (fun t o i=>⟨upds t [(1,.int .i64 (k+(sumN (fun _=>5) (l0.take i.1):Nat))),(5,.int .i64 i.1)],o⟩)
  (fun i=>l0.length - i.1) ⟨0,by simp⟩ (weak_o (by simp) (by simp [sumN])) ?_
 rintro ⟨j,hj⟩ K1 hK1
 simp only [upds,List.set_cons_succ,List.set_cons_zero] at hK1⊢
 have hj1:IntKind.i64.wrap ((j:Int)+1)=((j+1:Nat):Int):=by rw [wrap64]<;>omega
 have hle:=sumN_take_le (fun _=>5) l0 (j+1)
 by_cases hlt:j < l0.length
 ·have hts:=sumN_take_succ (fun _=>5) l0 j hlt
  have hg:l[j]? =some (mkModule (k+(sumN (fun _=>5) (l0.take j):Nat)) l0[j]):=hget j hlt
  generalize hq:k+(sumN (fun _=>5) (l0.take j):Nat)=q at *
  have e2:q+1+1=q+2:=by omega
  have e3:q+2+1=q+3:=by omega
  have e4:q+3+1=q+4:=by omega
  have e5:q+4+1=q+5:=by omega
  simp only [mkModule,markB] at hg
  have W:=And.intro hlen (And.intro hj1 (And.intro hg (And.intro e2 (And.intro e3 (And.intro e4 e5)))))
  have V:=And.intro hlen (And.intro hj1 (And.intro hg (And.intro hlt (And.intro e2 (And.intro e3 (And.intro e4 e5))))))
  repeat' first|refine wl ?_|(refine nx ?_;refine sk (hc:=markText_ok _ (by omega)) (h:=?_))|(refine sq (fun hc=>?_) (fun hc=>?_)<;>try exact hc.elim)|fail
  refine hK1 _ ⟨j+1,by omega⟩ (weak_o (by simp) ?_) (by simp only;omega)
  simp
  omega
 ·have htk:l0.take j=l0:=List.take_of_length_le (by omega)
  have hjl:j=l0.length:=by omega
  rw [htk] at *
  have W:=And.intro hlen hj1
  repeat' first|refine wl ?_|(refine sq (fun hc=>?_) (fun hc=>?_)<;>try exact hc.elim)|fail
  all_goals (try (refine ⟨.inr rfl,?_⟩;simp [Hands,Tryz.results72]))
end Go.Proofs.YtgkcdgaljknohaaGreatDoor

set_option maxRecDepth 8000
set_option maxHeartbeats 8000000
namespace Go.Proofs.YtgkcdgaljknohaaGreatDoor
open Go.Aw
theorem heldPolicy_ok [Tabs Tryz.prog] (a:DPolicy) (k:Int) (h0:0≤k) (hl:k+(cPolicy a:Nat)≤4611686018427387000):
  Ok Tryz.prog 68 [.agg (ePolicy .view (mkPolicy k a)),.int .i64 k] (.int .i64 (k+(cPolicy a:Nat))):=by
 simp only [cPolicy] at hl
 have l1:=sumN_const 1 a.scripts
 have l2:=sumN_const 1 a.styles
 have l3:=sumN_const 1 a.images
 simp only [mkPolicy,ePolicy]
 refine ent Tryz.mix Tryz.func68 Tryz.ntmps68 ?_
 have W:=trivial
 repeat' first|refine wl ?_|(refine nx ?_;first|refine sk (hc:=heldStringS_ok a.scripts _ (by omega) (by omega) (by omega)) (h:=?_)|refine sk (hc:=heldStringS_ok a.styles _ (by omega) (by omega) (by omega)) (h:=?_)|refine sk (hc:=heldStringS_ok a.images _ (by omega) (by omega) (by omega)) (h:=?_))|(refine sq (fun hc=>?_) (fun hc=>?_)<;>try exact hc.elim)|fail
 all_goals (try (refine ⟨.inr rfl,?_⟩;simp [Hands,Tryz.results68,cPolicy]))
 all_goals omega
theorem heldBuilder_ok [Tabs Tryz.prog] (a:DBuilder) (k:Int) (h0:0≤k) (hl:k+(cBuilder a:Nat)≤4611686018427387000) (hb:a.nodes.length≤4611686018427387904) (hba:∀x∈a.nodes,x.attrs.length≤4611686018427387904):
  Ok Tryz.prog 70 [.agg (eBuilder .view (mkBuilder k a)),.int .i64 k] (.int .i64 (k+(cBuilder a:Nat))):=by
 simp only [cBuilder] at hl
 have l1:=sumN_const 1 a.opens
 simp only [mkBuilder,eBuilder]
 refine ent Tryz.mix Tryz.func70 Tryz.ntmps70 ?_
 have W:=trivial
 repeat' first|refine wl ?_|(refine nx ?_;first|refine sk (hc:=heldNodeS_ok a.nodes _ (by omega) (by omega) hb hba) (h:=?_)|refine sk (hc:=heldIntS_ok a.opens _ (by omega) (by omega) (by omega)) (h:=?_))|(refine sq (fun hc=>?_) (fun hc=>?_)<;>try exact hc.elim)|fail
 all_goals (try (refine ⟨.inr rfl,?_⟩;simp [Hands,Tryz.results70,cBuilder]))
 all_goals omega
theorem heldPage_ok [Tabs Tryz.prog] (a:DPage) (k:Int) (h0:0≤k) (hl:k+(cPage a:Nat)≤4611686018427387000) (hq:a.queue.length≤4611686018427387904) (hqa:∀x∈a.queue,x.attrs.length≤4611686018427387904)
  (hb:a.builder.nodes.length≤4611686018427387904) (hba:∀x∈a.builder.nodes,x.attrs.length≤4611686018427387904):
  Ok Tryz.prog 14 [.agg (ePage .view (mkPage k a)),.int .i64 k] (.int .i64 (k+(cPage a:Nat))):=by
 simp only [cPage] at hl
 have l1:=sumN_const 8 a.slots
 have l2:=sumN_const 5 a.mods
 have l3:=sumN_const 2 a.entries
 have l4:=sumN_const 2 a.ran
 have l5:=sumN_const 1 a.log
 simp only [mkPage,ePage,mkPolicy,mkBuilder]
 refine ent Tryz.mix Tryz.func14 Tryz.ntmps14 ?_
 have W:=trivial
 repeat' first|refine wl ?_|(refine nx ?_;first|refine sk (hc:=heldPolicy_ok a.policy _ (by omega) (by omega)) (h:=?_)|refine sk (hc:=heldTokenS_ok a.queue _ (by omega) (by omega) hq hqa) (h:=?_)|refine sk (hc:=heldBuilder_ok a.builder _ (by omega) (by omega) hb hba) (h:=?_)|refine sk (hc:=heldSlotS_ok a.slots _ (by omega) (by omega) (by omega)) (h:=?_)|refine sk (hc:=heldModuleS_ok a.mods _ (by omega) (by omega) (by omega)) (h:=?_)|refine sk (hc:=heldAddrS_ok a.entries _ (by omega) (by omega) (by omega)) (h:=?_)|refine sk (hc:=heldAddrS_ok a.ran _ (by omega) (by omega) (by omega)) (h:=?_)|refine sk (hc:=heldStringS_ok a.log _ (by omega) (by omega) (by omega)) (h:=?_))|(refine sq (fun hc=>?_) (fun hc=>?_)<;>try exact hc.elim)|fail
 all_goals (try (refine ⟨.inr rfl,?_⟩;simp [Hands,Tryz.results14,cPage]))
 all_goals omega
end Go.Proofs.YtgkcdgaljknohaaGreatDoor
