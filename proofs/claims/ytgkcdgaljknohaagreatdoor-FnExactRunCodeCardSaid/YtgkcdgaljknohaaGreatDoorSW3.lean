/-
  Proved here: steps towards the statement of this claim, text SW3.
  No condition beyond what each statement spells out.
-/
import Derived.Test.YtgkcdgaljknohaaGreatDoorSPL
import Derived.Test.YtgkcdgaljknohaaGreatDoorF4
import Derived.Test.YtgkcdgaljknohaaGreatDoorSM5
set_option linter.all false
set_option maxRecDepth 4000
set_option maxHeartbeats 4000000
namespace Go.Proofs.YtgkcdgaljknohaaGreatDoor
open Go.Aw
theorem markSlotS_ok [Tabs Tryz.prog] (l:List DSlot) (k:Int) (h0:0≤k) (hl:k+(sumN (fun _=>8) l:Nat)≤4611686018427387000) (hll:l.length≤4611686018427387904):OkM Tryz.prog 64 (.sl .own 8 (l.map eSlot)) (.sl .own 8 ((mkL mkSlot (fun _=>8) k l).map eSlot)) [.int .i64 k] (.int .i64 (k+(sumN (fun _=>8) l:Nat))):=by
 generalize hu:(mkL mkSlot (fun _=>8) k l).map eSlot=l'
 have hul:l'.length=(l.map eSlot).length:=by rw [←hu];simp [mkL_length]
 refine entM Tryz.mix Tryz.func64 Tryz.ntmps64 ?_
 have W:=trivial
 repeat' first|refine wl ?_|(refine sq (fun hc=>?_) (fun hc=>?_)<;>try exact hc.elim)|fail
 refine awp_loop' (ι:={j:Nat // j≤l.length}) (fun t o i=>⟨upds t [(1,.int .i64 (k+(sumN (fun _=>8) (l.take i.1):Nat))),(5,.int .i64 i.1)],[⟨true,false,8,0,mixL (l.map eSlot) l' i.1⟩]⟩)
  (fun i=>l.length - i.1) ⟨0,by simp⟩ (weak_o (by simp [mixL_zero]) (by simp [sumN])) ?_
 rintro ⟨j,hj⟩ K1 hK1
 simp only [upds,List.set_cons_succ,List.set_cons_zero] at hK1⊢
 have hj1:IntKind.i64.wrap ((j:Int)+1)=((j+1:Nat):Int):=by rw [wrap64]<;>omega
 have hml:(mixL (l.map eSlot) l' j).length=l.length:=by rw [mixL_length _ _ _ hul];simp
 have hle:=sumN_take_le (fun _=>8) l (j+1)
 by_cases hlt:j < l.length
 ·have hts:=sumN_take_succ (fun _=>8) l j hlt
  have hmg:=mixL_get (l.map eSlot) l' j (by simpa using hlt) (by rw [hul];simpa using hlt)
  have hms:=mixL_set (l.map eSlot) l' j (by simpa using hlt) (by rw [hul];simpa using hlt)
  have he:l'[j]'(by rw [hul];simpa using hlt)=eSlot (mkSlot (k+(sumN (fun _=>8) (l.take j):Nat)) l[j]):=by
   subst hu
   rw [List.getElem_map,mkL_get]
  rw [he] at hms
  generalize hq:k+(sumN (fun _=>8) (l.take j):Nat)=q at *
  have e2:q+1+1=q+2:=by omega
  have e3:q+2+1=q+3:=by omega
  have e4:q+3+1=q+4:=by omega
  have e5:q+4+1=q+5:=by omega
  have e6:q+5+1=q+6:=by omega
  have e7:q+6+1=q+7:=by omega
  have e8:q+7+1=q+8:=by omega
  simp only [eSlot,mkSlot,markB] at hms
  have W:=And.intro hml (And.intro hmg (And.intro hj1 (And.intro hms (And.intro e2 (And.intro e3 (And.intro e4 (And.intro e5 (And.intro e6 (And.intro e7 e8)))))))))
  have V:=And.intro hml (And.intro hj1 (And.intro hms (And.intro hlt (And.intro e2 (And.intro e3 (And.intro e4 (And.intro e5 (And.intro e6 (And.intro e7 e8)))))))))
  repeat' first|refine wl ?_|(refine nx ?_;refine sk (hc:=markText_ok _ (by omega)) (h:=?_))|(refine sq (fun hc=>?_) (fun hc=>?_)<;>try exact hc.elim)|fail
  refine hK1 _ ⟨j+1,by omega⟩ (weak_o (by simp) ?_) (by simp only;omega)
  simp
  omega
 ·have hma:=mixL_all (l.map eSlot) l' j hul (by simp;omega)
  have hjl:j=l.length:=by omega
  have hcl:cleanr l'=true:=by rw [←hu];simp
  have htk:l.take j=l:=List.take_of_length_le (by omega)
  rw [htk] at *
  have W:=And.intro hml hj1
  repeat' first|refine wl ?_|(refine sq (fun hc=>?_) (fun hc=>?_)<;>try exact hc.elim)|fail
  all_goals (try (refine ⟨.inr rfl,?_⟩;simp [HandsM,Tryz.results64,hma,hcl]))
theorem markModuleS_ok [Tabs Tryz.prog] (l:List DModule) (k:Int) (h0:0≤k) (hl:k+(sumN (fun _=>5) l:Nat)≤4611686018427387000) (hll:l.length≤4611686018427387904):OkM Tryz.prog 65 (.sl .own 5 (l.map eModule)) (.sl .own 5 ((mkL mkModule (fun _=>5) k l).map eModule)) [.int .i64 k] (.int .i64 (k+(sumN (fun _=>5) l:Nat))):=by
 generalize hu:(mkL mkModule (fun _=>5) k l).map eModule=l'
 have hul:l'.length=(l.map eModule).length:=by rw [←hu];simp [mkL_length]
 refine entM Tryz.mix Tryz.func65 Tryz.ntmps65 ?_
 have W:=trivial
 repeat' first|refine wl ?_|(refine sq (fun hc=>?_) (fun hc=>?_)<;>try exact hc.elim)|fail
 refine awp_loop' (ι:={j:Nat // j≤l.length}) (fun t o i=>⟨upds t [(1,.int .i64 (k+(sumN (fun _=>5) (l.take i.1):Nat))),(5,.int .i64 i.1)],[⟨true,false,5,0,mixL (l.map eModule) l' i.1⟩]⟩)
  (fun i=>l.length - i.1) ⟨0,by simp⟩ (weak_o (by simp [mixL_zero]) (by simp [sumN])) ?_
 rintro ⟨j,hj⟩ K1 hK1
 simp only [upds,List.set_cons_succ,List.set_cons_zero] at hK1⊢
 have hj1:IntKind.i64.wrap ((j:Int)+1)=((j+1:Nat):Int):=by rw [wrap64]<;>omega
 have hml:(mixL (l.map eModule) l' j).length=l.length:=by rw [mixL_length _ _ _ hul];simp
 have hle:=sumN_take_le (fun _=>5) l (j+1)
 by_cases hlt:j < l.length
 ·have hts:=sumN_take_succ (fun _=>5) l j hlt
  have hmg:=mixL_get (l.map eModule) l' j (by simpa using hlt) (by rw [hul];simpa using hlt)
  have hms:=mixL_set (l.map eModule) l' j (by simpa using hlt) (by rw [hul];simpa using hlt)
  have he:l'[j]'(by rw [hul];simpa using hlt)=eModule (mkModule (k+(sumN (fun _=>5) (l.take j):Nat)) l[j]):=by
   subst hu
   rw [List.getElem_map,mkL_get]
  rw [he] at hms
  generalize hq:k+(sumN (fun _=>5) (l.take j):Nat)=q at *
  have e2:q+1+1=q+2:=by omega
  have e3:q+2+1=q+3:=by omega
  have e4:q+3+1=q+4:=by omega
  have e5:q+4+1=q+5:=by omega
  simp only [eModule,mkModule,markB] at hms
  have W:=And.intro hml (And.intro hmg (And.intro hj1 (And.intro hms (And.intro e2 (And.intro e3 (And.intro e4 e5))))))
  have V:=And.intro hml (And.intro hj1 (And.intro hms (And.intro hlt (And.intro e2 (And.intro e3 (And.intro e4 e5))))))
  repeat' first|refine wl ?_|(refine nx ?_;refine sk (hc:=markText_ok _ (by omega)) (h:=?_))|(refine sq (fun hc=>?_) (fun hc=>?_)<;>try exact hc.elim)|fail
  refine hK1 _ ⟨j+1,by omega⟩ (weak_o (by simp) ?_) (by simp only;omega)
  simp
  omega
 ·have hma:=mixL_all (l.map eModule) l' j hul (by simp;omega)
  have hjl:j=l.length:=by omega
  have hcl:cleanr l'=true:=by rw [←hu];simp
  have htk:l.take j=l:=List.take_of_length_le (by omega)
  rw [htk] at *
  have W:=And.intro hml hj1
  repeat' first|refine wl ?_|(refine sq (fun hc=>?_) (fun hc=>?_)<;>try exact hc.elim)|fail
  all_goals (try (refine ⟨.inr rfl,?_⟩;simp [HandsM,Tryz.results65,hma,hcl]))
end Go.Proofs.YtgkcdgaljknohaaGreatDoor

set_option maxRecDepth 8000
set_option maxHeartbeats 8000000
namespace Go.Proofs.YtgkcdgaljknohaaGreatDoor
open Go.Aw
theorem markPage_ok [Tabs Tryz.prog] (a:DPage) (k:Int) (h0:0≤k) (hl:k+(cPage a:Nat)≤4611686018427387000) (hq:a.queue.length≤4611686018427387904) (hqa:∀x∈a.queue,x.attrs.length≤4611686018427387904)
  (hb:a.builder.nodes.length≤4611686018427387904) (hba:∀x∈a.builder.nodes,x.attrs.length≤4611686018427387904):
  OkM Tryz.prog 13 (.agg (ePage .own a)) (.agg (ePage .own (mkPage k a))) [.int .i64 k] (.int .i64 (k+(cPage a:Nat))):=by
 simp only [cPage] at hl
 have l1:=sumN_const 8 a.slots
 have l2:=sumN_const 5 a.mods
 have l3:=sumN_const 2 a.entries
 have l4:=sumN_const 2 a.ran
 have l5:=sumN_const 1 a.log
 refine entM Tryz.mix Tryz.func13 Tryz.ntmps13 ?_
 have W:=trivial
 repeat' first|refine wl ?_|(refine nx ?_;first|refine sm (hc:=markPolicy_ok a.policy _ (by omega) (by omega)) (h:=?_)|refine sm (hc:=markTokenS_ok a.queue _ (by omega) (by omega) hq hqa) (h:=?_)|refine sm (hc:=markBuilder_ok a.builder _ (by omega) (by omega) hb hba) (h:=?_)|refine sm (hc:=markSlotS_ok a.slots _ (by omega) (by omega) (by omega)) (h:=?_)|refine sm (hc:=markModuleS_ok a.mods _ (by omega) (by omega) (by omega)) (h:=?_)|refine sm (hc:=markAddrS_ok a.entries _ (by omega) (by omega) (by omega)) (h:=?_)|refine sm (hc:=markAddrS_ok a.ran _ (by omega) (by omega) (by omega)) (h:=?_)|refine sm (hc:=markStringS_ok a.log _ (by omega) (by omega) (by omega)) (h:=?_))|(refine sq (fun hc=>?_) (fun hc=>?_)<;>try exact hc.elim)|fail
 all_goals (try (refine ⟨.inr rfl,?_⟩;simp [HandsM,Tryz.results13,mkPage,cPage,mkPolicy,mkBuilder]))
 all_goals (try omega)
end Go.Proofs.YtgkcdgaljknohaaGreatDoor
