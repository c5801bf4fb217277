/-
  Proved here: steps towards the statement of this claim, text W1.
  No condition beyond what each statement spells out.
-/
import Derived.Test.YtgkcdgaljknohaaGreatDoorSPL
import Derived.Test.YtgkcdgaljknohaaGreatDoorF4
set_option linter.all false
set_option maxRecDepth 4000
set_option maxHeartbeats 4000000
namespace Go.Proofs.YtgkcdgaljknohaaGreatDoor
open Go.Aw
theorem markIntS_ok [Tabs Tryz.prog] (l:List Int) (k:Int) (h0:0≤k) (hl:k+(sumN (fun _=>1) l:Nat)≤4611686018427387000) (hll:l.length≤4611686018427387904):OkM Tryz.prog 134 (.sl .own 1 (l.map eInt)) (.sl .own 1 ((mkL mkint (fun _=>1) k l).map eInt)) [.int .i64 k] (.int .i64 (k+(sumN (fun _=>1) l:Nat))):=by
 generalize hu:(mkL mkint (fun _=>1) k l).map eInt=l'
 have hul:l'.length=(l.map eInt).length:=by rw [←hu];simp [mkL_length]
 refine entM Tryz.mix Tryz.func134 Tryz.ntmps134 ?_
 have W:=trivial
 repeat' first|refine wl ?_|(refine sq (fun hc=>?_) (fun hc=>?_)<;>try exact hc.elim)|fail
 refine awp_loop' (ι:={j:Nat // j≤l.length}) (fun t o i=>⟨upds t [(1,.int .i64 (k+(sumN (fun _=>1) (l.take i.1):Nat))),(5,.int .i64 i.1)],[⟨true,false,1,0,mixL (l.map eInt) l' i.1⟩]⟩)
  (fun i=>l.length - i.1) ⟨0,by simp⟩ (weak_o (by simp [mixL_zero]) (by simp [sumN])) ?_
 rintro ⟨j,hj⟩ K1 hK1
 simp only [upds,List.set_cons_succ,List.set_cons_zero] at hK1⊢
 have hj1:IntKind.i64.wrap ((j:Int)+1)=((j+1:Nat):Int):=by rw [wrap64]<;>omega
 have hml:(mixL (l.map eInt) l' j).length=l.length:=by rw [mixL_length _ _ _ hul];simp
 have hle:=sumN_take_le (fun _=>1) l (j+1)
 by_cases hlt:j < l.length
 ·have hts:=sumN_take_succ (fun _=>1) l j hlt
  have hmg:=mixL_get (l.map eInt) l' j (by simpa using hlt) (by rw [hul];simpa using hlt)
  have hms:=mixL_set (l.map eInt) l' j (by simpa using hlt) (by rw [hul];simpa using hlt)
  have he:l'[j]'(by rw [hul];simpa using hlt)=eInt (mkint (k+(sumN (fun _=>1) (l.take j):Nat)) l[j]):=by
   subst hu
   rw [List.getElem_map,mkL_get]
  rw [he] at hms
  generalize hq:k+(sumN (fun _=>1) (l.take j):Nat)=q at *
  simp only [eInt,mkint,markB] at hms
  have W:=And.intro hml (And.intro hmg (And.intro hj1 hms))
  have V:=And.intro hml (And.intro hj1 (And.intro hms hlt))
  repeat' first|refine wl ?_|(refine sq (fun hc=>?_) (fun hc=>?_)<;>try exact hc.elim)|fail
  refine hK1 _ ⟨j+1,by omega⟩ (weak_o (by simp) ?_) (by simp only;omega)
  simp
  omega
 ·have hma:=mixL_all (l.map eInt) l' j hul (by simp;omega)
  have hjl:j=l.length:=by omega
  have hcl:cleanr l'=true:=by rw [←hu];simp
  have htk:l.take j=l:=List.take_of_length_le (by omega)
  rw [htk] at *
  have W:=And.intro hml hj1
  repeat' first|refine wl ?_|(refine sq (fun hc=>?_) (fun hc=>?_)<;>try exact hc.elim)|fail
  all_goals (try (refine ⟨.inr rfl,?_⟩;simp [HandsM,Tryz.results134,hma,hcl]))
theorem markStringS_ok [Tabs Tryz.prog] (l:List Str) (k:Int) (h0:0≤k) (hl:k+(sumN (fun _=>1) l:Nat)≤4611686018427387000) (hll:l.length≤4611686018427387904):OkM Tryz.prog 67 (.sl .own 1 (l.map eStr)) (.sl .own 1 ((mkL mkstring (fun _=>1) k l).map eStr)) [.int .i64 k] (.int .i64 (k+(sumN (fun _=>1) l:Nat))):=by
 generalize hu:(mkL mkstring (fun _=>1) k l).map eStr=l'
 have hul:l'.length=(l.map eStr).length:=by rw [←hu];simp [mkL_length]
 refine entM Tryz.mix Tryz.func67 Tryz.ntmps67 ?_
 have W:=trivial
 repeat' first|refine wl ?_|(refine sq (fun hc=>?_) (fun hc=>?_)<;>try exact hc.elim)|fail
 refine awp_loop' (ι:={j:Nat // j≤l.length}) (fun t o i=>⟨upds t [(1,.int .i64 (k+(sumN (fun _=>1) (l.take i.1):Nat))),(5,.int .i64 i.1)],[⟨true,false,1,0,mixL (l.map eStr) l' i.1⟩]⟩)
  (fun i=>l.length - i.1) ⟨0,by simp⟩ (weak_o (by simp [mixL_zero]) (by simp [sumN])) ?_
 rintro ⟨j,hj⟩ K1 hK1
 simp only [upds,List.set_cons_succ,List.set_cons_zero] at hK1⊢
 have hj1:IntKind.i64.wrap ((j:Int)+1)=((j+1:Nat):Int):=by rw [wrap64]<;>omega
 have hml:(mixL (l.map eStr) l' j).length=l.length:=by rw [mixL_length _ _ _ hul];simp
 have hle:=sumN_take_le (fun _=>1) l (j+1)
 by_cases hlt:j < l.length
 ·have hts:=sumN_take_succ (fun _=>1) l j hlt
  have hmg:=mixL_get (l.map eStr) l' j (by simpa using hlt) (by rw [hul];simpa using hlt)
  have hms:=mixL_set (l.map eStr) l' j (by simpa using hlt) (by rw [hul];simpa using hlt)
  have he:l'[j]'(by rw [hul];simpa using hlt)=eStr (mkstring (k+(sumN (fun _=>1) (l.take j):Nat)) l[j]):=by
   subst hu
   rw [List.getElem_map,mkL_get]
  rw [he] at hms
  generalize hq:k+(sumN (fun _=>1) (l.take j):Nat)=q at *
  simp only [eStr,mkstring,markB] at hms
  have W:=And.intro hml (And.intro hmg (And.intro hj1 hms))
  have V:=And.intro hml (And.intro hj1 (And.intro hms hlt))
  repeat' first|refine wl ?_|(refine nx ?_;refine sk (hc:=markText_ok _ (by omega)) (h:=?_))|(refine sq (fun hc=>?_) (fun hc=>?_)<;>try exact hc.elim)|fail
  refine hK1 _ ⟨j+1,by omega⟩ (weak_o (by simp) ?_) (by simp only;omega)
  simp
  omega
 ·have hma:=mixL_all (l.map eStr) l' j hul (by simp;omega)
  have hjl:j=l.length:=by omega
  have hcl:cleanr l'=true:=by rw [←hu];simp
  have htk:l.take j=l:=List.take_of_length_le (by omega)
  rw [htk] at *
  have W:=And.intro hml hj1
  repeat' first|refine wl ?_|(refine sq (fun hc=>?_) (fun hc=>?_)<;>try exact hc.elim)|fail
  all_goals (try (refine ⟨.inr rfl,?_⟩;simp [HandsM,Tryz.results67,hma,hcl]))
theorem markAddrS_ok [Tabs Tryz.prog] (l:List DAddr) (k:Int) (h0:0≤k) (hl:k+(sumN (fun _=>2) l:Nat)≤4611686018427387000) (hll:l.length≤4611686018427387904):OkM Tryz.prog 66 (.sl .own 2 (l.map eAddr)) (.sl .own 2 ((mkL mkAddr (fun _=>2) k l).map eAddr)) [.int .i64 k] (.int .i64 (k+(sumN (fun _=>2) l:Nat))):=by
 generalize hu:(mkL mkAddr (fun _=>2) k l).map eAddr=l'
 have hul:l'.length=(l.map eAddr).length:=by rw [←hu];simp [mkL_length]
 refine entM Tryz.mix Tryz.func66 Tryz.ntmps66 ?_
 have W:=trivial
 repeat' first|refine wl ?_|(refine sq (fun hc=>?_) (fun hc=>?_)<;>try exact hc.elim)|fail
 refine awp_loop' (ι:={j:Nat // j≤l.length}) (fun t o i=>⟨upds t [(1,.int .i64 (k+(sumN (fun _=>2) (l.take i.1):Nat))),(5,.int .i64 i.1)],[⟨true,false,2,0,mixL (l.map eAddr) l' i.1⟩]⟩)
  (fun i=>l.length - i.1) ⟨0,by simp⟩ (weak_o (by simp [mixL_zero]) (by simp [sumN])) ?_
 rintro ⟨j,hj⟩ K1 hK1
 simp only [upds,List.set_cons_succ,List.set_cons_zero] at hK1⊢
 have hj1:IntKind.i64.wrap ((j:Int)+1)=((j+1:Nat):Int):=by rw [wrap64]<;>omega
 have hml:(mixL (l.map eAddr) l' j).length=l.length:=by rw [mixL_length _ _ _ hul];simp
 have hle:=sumN_take_le (fun _=>2) l (j+1)
 by_cases hlt:j < l.length
 ·have hts:=sumN_take_succ (fun _=>2) l j hlt
  have hmg:=mixL_get (l.map eAddr) l' j (by simpa using hlt) (by rw [hul];simpa using hlt)
  have hms:=mixL_set (l.map eAddr) l' j (by simpa using hlt) (by rw [hul];simpa using hlt)
  have he:l'[j]'(by rw [hul];simpa using hlt)=eAddr (mkAddr (k+(sumN (fun _=>2) (l.take j):Nat)) l[j]):=by
   subst hu
   rw [List.getElem_map,mkL_get]
  rw [he] at hms
  generalize hq:k+(sumN (fun _=>2) (l.take j):Nat)=q at *
  have e2:q+1+1=q+2:=by omega
  simp only [eAddr,mkAddr,markB] at hms
  have W:=And.intro hml (And.intro hmg (And.intro hj1 (And.intro hms e2)))
  have V:=And.intro hml (And.intro hj1 (And.intro hms (And.intro hlt e2)))
  repeat' first|refine wl ?_|(refine nx ?_;refine sk (hc:=markText_ok _ (by omega)) (h:=?_))|(refine sq (fun hc=>?_) (fun hc=>?_)<;>try exact hc.elim)|fail
  refine hK1 _ ⟨j+1,by omega⟩ (weak_o (by simp) ?_) (by simp only;omega)
  simp
  omega
 ·have hma:=mixL_all (l.map eAddr) l' j hul (by simp;omega)
  have hjl:j=l.length:=by omega
  have hcl:cleanr l'=true:=by rw [←hu];simp
  have htk:l.take j=l:=List.take_of_length_le (by omega)
  rw [htk] at *
  have W:=And.intro hml hj1
  repeat' first|refine wl ?_|(refine sq (fun hc=>?_) (fun hc=>?_)<;>try exact hc.elim)|fail
  all_goals (try (refine ⟨.inr rfl,?_⟩;simp [HandsM,Tryz.results66,hma,hcl]))
theorem markAttrS_ok [Tabs Tryz.prog] (l:List DAttr) (k:Int) (h0:0≤k) (hl:k+(sumN (fun _=>2) l:Nat)≤4611686018427387000) (hll:l.length≤4611686018427387904):OkM Tryz.prog 132 (.sl .own 2 (l.map eAttr)) (.sl .own 2 ((mkL mkAttr (fun _=>2) k l).map eAttr)) [.int .i64 k] (.int .i64 (k+(sumN (fun _=>2) l:Nat))):=by
 generalize hu:(mkL mkAttr (fun _=>2) k l).map eAttr=l'
 have hul:l'.length=(l.map eAttr).length:=by rw [←hu];simp [mkL_length]
 refine entM Tryz.mix Tryz.func132 Tryz.ntmps132 ?_
 have W:=trivial
 repeat' first|refine wl ?_|(refine sq (fun hc=>?_) (fun hc=>?_)<;>try exact hc.elim)|fail
 refine awp_loop' (ι:={j:Nat // j≤l.length}) (fun t o i=>⟨upds t [(1,.int .i64 (k+(sumN (fun _=>2) (l.take i.1):Nat))),(5,.int .i64 i.1)],[⟨true,false,2,0,mixL (l.map eAttr) l' i.1⟩]⟩)
  (fun i=>l.length - i.1) ⟨0,by simp⟩ (weak_o (by simp [mixL_zero]) (by simp [sumN])) ?_
 rintro ⟨j,hj⟩ K1 hK1
 simp only [upds,List.set_cons_succ,List.set_cons_zero] at hK1⊢
 have hj1:IntKind.i64.wrap ((j:Int)+1)=((j+1:Nat):Int):=by rw [wrap64]<;>omega
 have hml:(mixL (l.map eAttr) l' j).length=l.length:=by rw [mixL_length _ _ _ hul];simp
 have hle:=sumN_take_le (fun _=>2) l (j+1)
 by_cases hlt:j < l.length
 ·have hts:=sumN_take_succ (fun _=>2) l j hlt
  have hmg:=mixL_get (l.map eAttr) l' j (by simpa using hlt) (by rw [hul];simpa using hlt)
  have hms:=mixL_set (l.map eAttr) l' j (by simpa using hlt) (by rw [hul];simpa using hlt)
  have he:l'[j]'(by rw [hul];simpa using hlt)=eAttr (mkAttr (k+(sumN (fun _=>2) (l.take j):Nat)) l[j]):=by
   subst hu
   rw [List.getElem_map,mkL_get]
  rw [he] at hms
  generalize hq:k+(sumN (fun _=>2) (l.take j):Nat)=q at *
  have e2:q+1+1=q+2:=by omega
  simp only [eAttr,mkAttr,markB] at hms
  have W:=And.intro hml (And.intro hmg (And.intro hj1 (And.intro hms e2)))
  have V:=And.intro hml (And.intro hj1 (And.intro hms (And.intro hlt e2)))
  repeat' first|refine wl ?_|(refine nx ?_;refine sk (hc:=markText_ok _ (by omega)) (h:=?_))|(refine sq (fun hc=>?_) (fun hc=>?_)<;>try exact hc.elim)|fail
  refine hK1 _ ⟨j+1,by omega⟩ (weak_o (by simp) ?_) (by simp only;omega)
  simp
  omega
 ·have hma:=mixL_all (l.map eAttr) l' j hul (by simp;omega)
  have hjl:j=l.length:=by omega
  have hcl:cleanr l'=true:=by rw [←hu];simp
  have htk:l.take j=l:=List.take_of_length_le (by omega)
  rw [htk] at *
  have W:=And.intro hml hj1
  repeat' first|refine wl ?_|(refine sq (fun hc=>?_) (fun hc=>?_)<;>try exact hc.elim)|fail
  all_goals (try (refine ⟨.inr rfl,?_⟩;simp [HandsM,Tryz.results132,hma,hcl]))
end Go.Proofs.YtgkcdgaljknohaaGreatDoor
