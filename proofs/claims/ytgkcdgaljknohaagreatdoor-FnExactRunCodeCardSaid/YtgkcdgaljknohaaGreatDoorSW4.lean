/-
  Proved here: steps towards the statement of this claim, text SW4.
  No condition beyond what each statement spells out.
-/
import Derived.Test.YtgkcdgaljknohaaGreatDoorSPL
import Derived.Test.YtgkcdgaljknohaaGreatDoorF4
import Derived.Test.YtgkcdgaljknohaaGreatDoorSMK5
set_option linter.all false
set_option maxRecDepth 4000
set_option maxHeartbeats 4000000
namespace Go.Proofs.YtgkcdgaljknohaaGreatDoor
open Go.Aw
theorem heldStringS_ok [Tabs Tryz.prog] (l0:List Str) (k:Int) (h0:0≤k) (hl:k+(sumN (fun _=>1) l0:Nat)≤4611686018427387000) (hll:l0.length≤4611686018427387904):Ok Tryz.prog 74 [.sl .view 1 ((mkL mkstring (fun _=>1) k l0).map eStr),.int .i64 k] (.int .i64 (k+(sumN (fun _=>1) l0:Nat))):=by
 have hget:∀j (h:j < l0.length),(mkL mkstring (fun _=>1) k l0)[j]? =some (mkstring (k+(sumN (fun _=>1) (l0.take j):Nat)) l0[j]):=fun j h=>by
  rw [List.getElem?_eq_getElem (by rw [mkL_length];exact h),mkL_get]
 generalize hu:mkL mkstring (fun _=>1) k l0=l at *
 have hlen:l.length=l0.length:=by rw [←hu,mkL_length]
 refine ent Tryz.mix Tryz.func74 Tryz.ntmps74 ?_
 have W:=trivial
 repeat' first|refine wl ?_|(refine sq (fun hc=>?_) (fun hc=>?_)<;>try exact hc.elim)|fail
 refine awp_loop' (ι:={j:Nat // j≤l0.length}) (fun t o i=>⟨upds t [(1,.int .i64 (k+(sumN (fun _=>1) (l0.take i.1):Nat))),(5,.int .i64 i.1)],o⟩)
  (fun i=>l0.length - i.1) ⟨0,by simp⟩ (weak_o (by simp) (by simp [sumN])) ?_
 rintro ⟨j,hj⟩ K1 hK1
 simp only [upds,List.set_cons_succ,List.set_cons_zero] at hK1⊢
 have hj1:IntKind.i64.wrap ((j:Int)+1)=((j+1:Nat):Int):=by rw [wrap64]<;>omega
 have hle:=sumN_take_le (fun _=>1) l0 (j+1)
 by_cases hlt:j < l0.length
 ·have hts:=sumN_take_succ (fun _=>1) l0 j hlt
  have hg:l[j]? =some (mkstring (k+(sumN (fun _=>1) (l0.take j):Nat)) l0[j]):=hget j hlt
  generalize hq:k+(sumN (fun _=>1) (l0.take j):Nat)=q at *
  simp only [mkstring,markB] at hg
  have W:=And.intro hlen (And.intro hj1 hg)
  have V:=And.intro hlen (And.intro hj1 (And.intro hg hlt))
  repeat' first|refine wl ?_|(refine nx ?_;refine sk (hc:=markText_ok _ (by omega)) (h:=?_))|(refine sq (fun hc=>?_) (fun hc=>?_)<;>try exact hc.elim)|fail
  refine hK1 _ ⟨j+1,by omega⟩ (weak_o (by simp) ?_) (by simp only;omega)
  simp
  omega
 ·have htk:l0.take j=l0:=List.take_of_length_le (by omega)
  have hjl:j=l0.length:=by omega
  rw [htk] at *
  have W:=And.intro hlen hj1
  repeat' first|refine wl ?_|(refine sq (fun hc=>?_) (fun hc=>?_)<;>try exact hc.elim)|fail
  all_goals (try (refine ⟨.inr rfl,?_⟩;simp [Hands,Tryz.results74]))
theorem heldAddrS_ok [Tabs Tryz.prog] (l0:List DAddr) (k:Int) (h0:0≤k) (hl:k+(sumN (fun _=>2) l0:Nat)≤4611686018427387000) (hll:l0.length≤4611686018427387904):Ok Tryz.prog 73 [.sl .view 2 ((mkL mkAddr (fun _=>2) k l0).map eAddr),.int .i64 k] (.int .i64 (k+(sumN (fun _=>2) l0:Nat))):=by
 have hget:∀j (h:j < l0.length),(mkL mkAddr (fun _=>2) k l0)[j]? =some (mkAddr (k+(sumN (fun _=>2) (l0.take j):Nat)) l0[j]):=fun j h=>by
  rw [List.getElem?_eq_getElem (by rw [mkL_length];exact h),mkL_get]
 generalize hu:mkL mkAddr (fun _=>2) k l0=l at *
 have hlen:l.length=l0.length:=by rw [←hu,mkL_length]
 refine ent Tryz.mix Tryz.func73 Tryz.ntmps73 ?_
 have W:=trivial
 repeat' first|refine wl ?_|(refine sq (fun hc=>?_) (fun hc=>?_)<;>try exact hc.elim)|fail
 refine awp_loop' (ι:={j:Nat // j≤l0.length}) (fun t o i=>⟨upds t [(1,.int .i64 (k+(sumN (fun _=>2) (l0.take i.1):Nat))),(5,.int .i64 i.1)],o⟩)
  (fun i=>l0.length - i.1) ⟨0,by simp⟩ (weak_o (by simp) (by simp [sumN])) ?_
 rintro ⟨j,hj⟩ K1 hK1
 simp only [upds,List.set_cons_succ,List.set_cons_zero] at hK1⊢
 have hj1:IntKind.i64.wrap ((j:Int)+1)=((j+1:Nat):Int):=by rw [wrap64]<;>omega
 have hle:=sumN_take_le (fun _=>2) l0 (j+1)
 by_cases hlt:j < l0.length
 ·have hts:=sumN_take_succ (fun _=>2) l0 j hlt
  have hg:l[j]? =some (mkAddr (k+(sumN (fun _=>2) (l0.take j):Nat)) l0[j]):=hget j hlt
  generalize hq:k+(sumN (fun _=>2) (l0.take j):Nat)=q at *
  have e2:q+1+1=q+2:=by omega
  simp only [mkAddr,markB] at hg
  have W:=And.intro hlen (And.intro hj1 (And.intro hg e2))
  have V:=And.intro hlen (And.intro hj1 (And.intro hg (And.intro hlt e2)))
  repeat' first|refine wl ?_|(refine nx ?_;refine sk (hc:=markText_ok _ (by omega)) (h:=?_))|(refine sq (fun hc=>?_) (fun hc=>?_)<;>try exact hc.elim)|fail
  refine hK1 _ ⟨j+1,by omega⟩ (weak_o (by simp) ?_) (by simp only;omega)
  simp
  omega
 ·have htk:l0.take j=l0:=List.take_of_length_le (by omega)
  have hjl:j=l0.length:=by omega
  rw [htk] at *
  have W:=And.intro hlen hj1
  repeat' first|refine wl ?_|(refine sq (fun hc=>?_) (fun hc=>?_)<;>try exact hc.elim)|fail
  all_goals (try (refine ⟨.inr rfl,?_⟩;simp [Hands,Tryz.results73]))
theorem heldAttrS_ok [Tabs Tryz.prog] (l0:List DAttr) (k:Int) (h0:0≤k) (hl:k+(sumN (fun _=>2) l0:Nat)≤4611686018427387000) (hll:l0.length≤4611686018427387904):Ok Tryz.prog 135 [.sl .view 2 ((mkL mkAttr (fun _=>2) k l0).map eAttr),.int .i64 k] (.int .i64 (k+(sumN (fun _=>2) l0:Nat))):=by
 have hget:∀j (h:j < l0.length),(mkL mkAttr (fun _=>2) k l0)[j]? =some (mkAttr (k+(sumN (fun _=>2) (l0.take j):Nat)) l0[j]):=fun j h=>by
  rw [List.getElem?_eq_getElem (by rw [mkL_length];exact h),mkL_get]
 generalize hu:mkL mkAttr (fun _=>2) k l0=l at *
 have hlen:l.length=l0.length:=by rw [←hu,mkL_length]
 refine ent Tryz.mix Tryz.func135 Tryz.ntmps135 ?_
 have W:=trivial
 repeat' first|refine wl ?_|(refine sq (fun hc=>?_) (fun hc=>?_)<;>try exact hc.elim)|fail
 refine awp_loop' (ι:={j:Nat // j≤l0.length}) (fun t o i=>⟨upds t [(1,.int .i64 (k+(sumN (fun _=>2) (l0.take i.1):Nat))),(5,.int .i64 i.1)],o⟩)
  (fun i=>l0.length - i.1) ⟨0,by simp⟩ (weak_o (by simp) (by simp [sumN])) ?_
 rintro ⟨j,hj⟩ K1 hK1
 simp only [upds,List.set_cons_succ,List.set_cons_zero] at hK1⊢
 have hj1:IntKind.i64.wrap ((j:Int)+1)=((j+1:Nat):Int):=by rw [wrap64]<;>omega
 have hle:=sumN_take_le (fun _=>2) l0 (j+1)
 by_cases hlt:j < l0.length
 ·have hts:=sumN_take_succ (fun _=>2) l0 j hlt
  have hg:l[j]? =some (mkAttr (k+(sumN (fun _=>2) (l0.take j):Nat)) l0[j]):=hget j hlt
  generalize hq:k+(sumN (fun _=>2) (l0.take j):Nat)=q at *
  have e2:q+1+1=q+2:=by omega
  simp only [mkAttr,markB] at hg
  have W:=And.intro hlen (And.intro hj1 (And.intro hg e2))
  have V:=And.intro hlen (And.intro hj1 (And.intro hg (And.intro hlt e2)))
  repeat' first|refine wl ?_|(refine nx ?_;refine sk (hc:=markText_ok _ (by omega)) (h:=?_))|(refine sq (fun hc=>?_) (fun hc=>?_)<;>try exact hc.elim)|fail
  refine hK1 _ ⟨j+1,by omega⟩ (weak_o (by simp) ?_) (by simp only;omega)
  simp
  omega
 ·have htk:l0.take j=l0:=List.take_of_length_le (by omega)
  have hjl:j=l0.length:=by omega
  rw [htk] at *
  have W:=And.intro hlen hj1
  repeat' first|refine wl ?_|(refine sq (fun hc=>?_) (fun hc=>?_)<;>try exact hc.elim)|fail
  all_goals (try (refine ⟨.inr rfl,?_⟩;simp [Hands,Tryz.results135]))
end Go.Proofs.YtgkcdgaljknohaaGreatDoor

set_option maxRecDepth 4000
set_option maxHeartbeats 4000000
namespace Go.Proofs.YtgkcdgaljknohaaGreatDoor
open Go.Aw
theorem heldTokenS_ok [Tabs Tryz.prog] (l0:List DToken) (k:Int) (h0:0≤k) (hl:k+(sumN cToken l0:Nat)≤4611686018427387000) (hll:l0.length≤4611686018427387904) (hla:∀x∈l0,x.attrs.length≤4611686018427387904):
  Ok Tryz.prog 69 [.sl .view 4 ((mkL mkToken cToken k l0).map (eToken .view)),.int .i64 k] (.int .i64 (k+(sumN cToken l0:Nat))):=by
 have hget:∀j (h:j < l0.length),(mkL mkToken cToken k l0)[j]? =some (mkToken (k+(sumN cToken (l0.take j):Nat)) l0[j]):=fun j h=>by
  rw [List.getElem?_eq_getElem (by rw [mkL_length];exact h),mkL_get]
 generalize hu:mkL mkToken cToken k l0=l at *
 have hlen:l.length=l0.length:=by rw [←hu,mkL_length]
 refine ent Tryz.mix Tryz.func69 Tryz.ntmps69 ?_
 have W:=trivial
 repeat' first|refine wl ?_|(refine sq (fun hc=>?_) (fun hc=>?_)<;>try exact hc.elim)|fail
 refine awp_loop' (ι:={j:Nat // j≤l0.length}) (fun t o i=>⟨upds t [(1,.int .i64 (k+(sumN cToken (l0.take i.1):Nat))),(5,.int .i64 i.1)],o⟩)
  (fun i=>l0.length - i.1) ⟨0,by simp⟩ (weak_o (by simp) (by simp [sumN])) ?_
 rintro ⟨j,hj⟩ K1 hK1
 simp only [upds,List.set_cons_succ,List.set_cons_zero] at hK1⊢
 have hj1:IntKind.i64.wrap ((j:Int)+1)=((j+1:Nat):Int):=by rw [wrap64]<;>omega
 have hle:=sumN_take_le cToken l0 (j+1)
 by_cases hlt:j < l0.length
 ·have hts:=sumN_take_succ cToken l0 j hlt
  have hg:l[j]? =some (mkToken (k+(sumN cToken (l0.take j):Nat)) l0[j]):=hget j hlt
  have hcx:cToken l0[j]=3+sumN (fun _=>2) l0[j].attrs:=rfl
  have hax:=hla _ (List.getElem_mem hlt)
  generalize hq:k+(sumN cToken (l0.take j):Nat)=q at *
  have e2:q+1+1=q+2:=by omega
  simp only [mkToken,markB] at hg
  have W:=And.intro hlen (And.intro hj1 (And.intro hg e2))
  have V:=And.intro hlen (And.intro hj1 (And.intro hg (And.intro hlt e2)))
  repeat' first|refine wl ?_|(refine nx ?_;first|refine sk (hc:=heldAttrS_ok l0[j].attrs _ (by omega) (by omega) (by omega)) (h:=?_)|refine sk (hc:=markText_ok _ (by omega)) (h:=?_))|(refine sq (fun hc=>?_) (fun hc=>?_)<;>try exact hc.elim)|fail
  all_goals first|(exfalso;omega)|refine hK1 _ ⟨j+1,by omega⟩ (weak_o (by simp) ?_) (by simp only;omega)
  all_goals (simp;omega)
 ·have htk:l0.take j=l0:=List.take_of_length_le (by omega)
  have hjl:j=l0.length:=by omega
  rw [htk] at *
  have W:=And.intro hlen hj1
  repeat' first|refine wl ?_|(refine sq (fun hc=>?_) (fun hc=>?_)<;>try exact hc.elim)|fail
  all_goals (try (refine ⟨.inr rfl,?_⟩;simp [Hands,Tryz.results69]))
theorem heldNodeS_ok [Tabs Tryz.prog] (l0:List DNode) (k:Int) (h0:0≤k) (hl:k+(sumN cNode l0:Nat)≤4611686018427387000) (hll:l0.length≤4611686018427387904) (hla:∀x∈l0,x.attrs.length≤4611686018427387904):
  Ok Tryz.prog 136 [.sl .view 4 ((mkL mkNode cNode k l0).map (eNode .view)),.int .i64 k] (.int .i64 (k+(sumN cNode l0:Nat))):=by
 have hget:∀j (h:j < l0.length),(mkL mkNode cNode k l0)[j]? =some (mkNode (k+(sumN cNode (l0.take j):Nat)) l0[j]):=fun j h=>by
  rw [List.getElem?_eq_getElem (by rw [mkL_length];exact h),mkL_get]
 generalize hu:mkL mkNode cNode k l0=l at *
 have hlen:l.length=l0.length:=by rw [←hu,mkL_length]
 refine ent Tryz.mix Tryz.func136 Tryz.ntmps136 ?_
 have W:=trivial
 repeat' first|refine wl ?_|(refine sq (fun hc=>?_) (fun hc=>?_)<;>try exact hc.elim)|fail
 refine awp_loop' (ι:={j:Nat // j≤l0.length}) (fun t o i=>⟨upds t [(1,.int .i64 (k+(sumN cNode (l0.take i.1):Nat))),(5,.int .i64 i.1)],o⟩)
  (fun i=>l0.length - i.1) ⟨0,by simp⟩ (weak_o (by simp) (by simp [sumN])) ?_
 rintro ⟨j,hj⟩ K1 hK1
 simp only [upds,List.set_cons_succ,List.set_cons_zero] at hK1⊢
 have hj1:IntKind.i64.wrap ((j:Int)+1)=((j+1:Nat):Int):=by rw [wrap64]<;>omega
 have hle:=sumN_take_le cNode l0 (j+1)
 by_cases hlt:j < l0.length
 ·have hts:=sumN_take_succ cNode l0 j hlt
  have hg:l[j]? =some (mkNode (k+(sumN cNode (l0.take j):Nat)) l0[j]):=hget j hlt
  have hcx:cNode l0[j]=3+sumN (fun _=>2) l0[j].attrs:=rfl
  have hax:=hla _ (List.getElem_mem hlt)
  generalize hq:k+(sumN cNode (l0.take j):Nat)=q at *
  have e2:q+1+1=q+2:=by omega
  have e3:q+2+1=q+3:=by omega
  simp only [mkNode,markB] at hg
  have W:=And.intro hlen (And.intro hj1 (And.intro hg (And.intro e2 e3)))
  have V:=And.intro hlen (And.intro hj1 (And.intro hg (And.intro hlt (And.intro e2 e3))))
  repeat' first|refine wl ?_|(refine nx ?_;first|refine sk (hc:=heldAttrS_ok l0[j].attrs _ (by omega) (by omega) (by omega)) (h:=?_)|refine sk (hc:=markText_ok _ (by omega)) (h:=?_))|(refine sq (fun hc=>?_) (fun hc=>?_)<;>try exact hc.elim)|fail
  all_goals first|(exfalso;omega)|refine hK1 _ ⟨j+1,by omega⟩ (weak_o (by simp) ?_) (by simp only;omega)
  all_goals (simp;omega)
 ·have htk:l0.take j=l0:=List.take_of_length_le (by omega)
  have hjl:j=l0.length:=by omega
  rw [htk] at *
  have W:=And.intro hlen hj1
  repeat' first|refine wl ?_|(refine sq (fun hc=>?_) (fun hc=>?_)<;>try exact hc.elim)|fail
  all_goals (try (refine ⟨.inr rfl,?_⟩;simp [Hands,Tryz.results136]))
end Go.Proofs.YtgkcdgaljknohaaGreatDoor

set_option maxRecDepth 4000
set_option maxHeartbeats 4000000
namespace Go.Proofs.YtgkcdgaljknohaaGreatDoor
open Go.Aw
theorem heldIntS_ok [Tabs Tryz.prog] (l0:List Int) (k:Int) (h0:0≤k) (hl:k+(sumN (fun _=>1) l0:Nat)≤4611686018427387000) (hll:l0.length≤4611686018427387904):Ok Tryz.prog 137 [.sl .view 1 ((mkL mkint (fun _=>1) k l0).map eInt),.int .i64 k] (.int .i64 (k+(sumN (fun _=>1) l0:Nat))):=by
 have hget:∀j (h:j < l0.length),(mkL mkint (fun _=>1) k l0)[j]? =some (mkint (k+(sumN (fun _=>1) (l0.take j):Nat)) l0[j]):=fun j h=>by
  rw [List.getElem?_eq_getElem (by rw [mkL_length];exact h),mkL_get]
 generalize hu:mkL mkint (fun _=>1) k l0=l at *
 have hlen:l.length=l0.length:=by rw [←hu,mkL_length]
 refine ent Tryz.mix Tryz.func137 Tryz.ntmps137 ?_
 have W:=trivial
 repeat' first|refine wl ?_|(refine sq (fun hc=>?_) (fun hc=>?_)<;>try exact hc.elim)|fail
 refine awp_loop' (ι:={j:Nat // j≤l0.length}) (fun t o i=>⟨upds t [(1,.int .i64 (k+(sumN (fun _=>1) (l0.take i.1):Nat))),(5,.int .i64 i.1)],o⟩)
  (fun i=>l0.length - i.1) ⟨0,by simp⟩ (weak_o (by simp) (by simp [sumN])) ?_
 rintro ⟨j,hj⟩ K1 hK1
 simp only [upds,List.set_cons_succ,List.set_cons_zero] at hK1⊢
 have hj1:IntKind.i64.wrap ((j:Int)+1)=((j+1:Nat):Int):=by rw [wrap64]<;>omega
 have hle:=sumN_take_le (fun _=>1) l0 (j+1)
 by_cases hlt:j < l0.length
 ·have hts:=sumN_take_succ (fun _=>1) l0 j hlt
  have hg:l[j]? =some (mkint (k+(sumN (fun _=>1) (l0.take j):Nat)) l0[j]):=hget j hlt
  generalize hq:k+(sumN (fun _=>1) (l0.take j):Nat)=q at *
  simp only [mkint,markB] at hg
  have W:=And.intro hlen (And.intro hj1 hg)
  have V:=And.intro hlen (And.intro hj1 (And.intro hg hlt))
  repeat' first|refine wl ?_|(refine sq (fun hc=>?_) (fun hc=>?_)<;>try exact hc.elim)|fail
  refine hK1 _ ⟨j+1,by omega⟩ (weak_o (by simp) ?_) (by simp only;omega)
  simp
  omega
 ·have htk:l0.take j=l0:=List.take_of_length_le (by omega)
  have hjl:j=l0.length:=by omega
  rw [htk] at *
  have W:=And.intro hlen hj1
  repeat' first|refine wl ?_|(refine sq (fun hc=>?_) (fun hc=>?_)<;>try exact hc.elim)|fail
  all_goals (try (refine ⟨.inr rfl,?_⟩;simp [Hands,Tryz.results137]))
end Go.Proofs.YtgkcdgaljknohaaGreatDoor

set_option maxRecDepth 4000
set_option maxHeartbeats 4000000
namespace Go.Proofs.YtgkcdgaljknohaaGreatDoor
open Go.Aw
end Go.Proofs.YtgkcdgaljknohaaGreatDoor
