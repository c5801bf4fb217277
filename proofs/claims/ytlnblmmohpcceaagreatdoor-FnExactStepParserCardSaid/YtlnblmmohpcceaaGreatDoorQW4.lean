/-
  Proved here: steps towards the statement of this claim, text QW4.
  No condition beyond what each statement spells out.
-/
import Derived.Test.YtlnblmmohpcceaaGreatDoorQV1
import Derived.Test.YtlnblmmohpcceaaGreatDoorF4
import Derived.Test.YtlnblmmohpcceaaGreatDoorQMK6
set_option linter.all false
set_option maxRecDepth 8000
set_option maxHeartbeats 8000000
namespace Go.Proofs.YtlnblmmohpcceaaGreatDoor
open Go.Aw
theorem tZ [aA Tryz.prog] (l0:List Str) (k:Int) (h0:0≤k) (hl:k+(aC (fun _=>1) l0:Nat)≤4611686018427387000) (hll:l0.length≤4611686018427387904):Ok Tryz.prog 112 [.sl .view 1 ((mkL lM (fun _=>1) k l0).map bU),.int .i64 k] (.int .i64 (k+(aC (fun _=>1) l0:Nat))):=by
 have hget:∀j (h:j < l0.length),(mkL lM (fun _=>1) k l0)[j]? =some (lM (k+(aC (fun _=>1) (l0.take j):Nat)) l0[j]):=fun j h=>by
  rw [List.getElem?_eq_getElem (by rw [dS];exact h),lI]
 generalize hu:mkL lM (fun _=>1) k l0=l at *
 have hlen:l.length=l0.length:=by rw [←hu,dS]
 refine ent Tryz.mix Tryz.func112 Tryz.ntmps112 ?_
 have W:=trivial
 repeat' first|refine wl ?_|(refine sq (fun hc=>?_) (fun hc=>?_)<;>try exact hc.elim)|fail
 refine aM (ι:={j:Nat // j≤l0.length}) (fun t o i=>⟨aO t [(1,.int .i64 (k+(aC (fun _=>1) (l0.take i.1):Nat))),(5,.int .i64 i.1)],o⟩)
  (fun i=>l0.length - i.1) ⟨0,by simp⟩ (aH (by simp) (by simp [aC])) ?_
 rintro ⟨j,hj⟩ K1 hK1
 simp only [aO,List.set_cons_succ,List.set_cons_zero] at hK1⊢
 have hj1:IntKind.i64.wrap ((j:Int)+1)=((j+1:Nat):Int):=by rw [wrap64]<;>omega
 have hle:=dC (fun _=>1) l0 (j+1)
 by_cases hlt:j < l0.length
 ·have hts:=bT (fun _=>1) l0 j hlt
  have hg:l[j]? =some (lM (k+(aC (fun _=>1) (l0.take j):Nat)) l0[j]):=hget j hlt
  generalize hq:k+(aC (fun _=>1) (l0.take j):Nat)=q at *
  simp only [lM,qD] at hg
  have W:=And.intro hlen (And.intro hj1 hg)
  have V:=And.intro hlen (And.intro hj1 (And.intro hg hlt))
  repeat' first|refine wl ?_|(refine nx ?_;refine sk (hc:=iN _ (by omega)) (h:=?_))|(refine sq (fun hc=>?_) (fun hc=>?_)<;>try exact hc.elim)|fail
  refine hK1 _ ⟨j+1,by omega⟩ (aH (by simp) ?_) (by simp only;omega)
  simp
  omega
 ·have htk:l0.take j=l0:=List.take_of_length_le (by omega)
  have hjl:j=l0.length:=by omega
  rw [htk] at *
  have W:=And.intro hlen hj1
  repeat' first|refine wl ?_|(refine sq (fun hc=>?_) (fun hc=>?_)<;>try exact hc.elim)|fail
  all_goals (try (refine ⟨.inr rfl,?_⟩;simp [Hands,Tryz.results112]))
theorem aE4 [aA Tryz.prog] (l0:List aK) (k:Int) (h0:0≤k) (hl:k+(aC (fun _=>2) l0:Nat)≤4611686018427387000) (hll:l0.length≤4611686018427387904):Ok Tryz.prog 111 [.sl .view 2 ((mkL rR (fun _=>2) k l0).map aF),.int .i64 k] (.int .i64 (k+(aC (fun _=>2) l0:Nat))):=by
 have hget:∀j (h:j < l0.length),(mkL rR (fun _=>2) k l0)[j]? =some (rR (k+(aC (fun _=>2) (l0.take j):Nat)) l0[j]):=fun j h=>by
  rw [List.getElem?_eq_getElem (by rw [dS];exact h),lI]
 generalize hu:mkL rR (fun _=>2) k l0=l at *
 have hlen:l.length=l0.length:=by rw [←hu,dS]
 refine ent Tryz.mix Tryz.func111 Tryz.ntmps111 ?_
 have W:=trivial
 repeat' first|refine wl ?_|(refine sq (fun hc=>?_) (fun hc=>?_)<;>try exact hc.elim)|fail
 refine aM (ι:={j:Nat // j≤l0.length}) (fun t o i=>⟨aO t [(1,.int .i64 (k+(aC (fun _=>2) (l0.take i.1):Nat))),(5,.int .i64 i.1)],o⟩)
  (fun i=>l0.length - i.1) ⟨0,by simp⟩ (aH (by simp) (by simp [aC])) ?_
 rintro ⟨j,hj⟩ K1 hK1
 simp only [aO,List.set_cons_succ,List.set_cons_zero] at hK1⊢
 have hj1:IntKind.i64.wrap ((j:Int)+1)=((j+1:Nat):Int):=by rw [wrap64]<;>omega
 have hle:=dC (fun _=>2) l0 (j+1)
 by_cases hlt:j < l0.length
 ·have hts:=bT (fun _=>2) l0 j hlt
  have hg:l[j]? =some (rR (k+(aC (fun _=>2) (l0.take j):Nat)) l0[j]):=hget j hlt
  generalize hq:k+(aC (fun _=>2) (l0.take j):Nat)=q at *
  have e2:q+1+1=q+2:=by omega
  simp only [rR,qD] at hg
  have W:=And.intro hlen (And.intro hj1 (And.intro hg e2))
  have V:=And.intro hlen (And.intro hj1 (And.intro hg (And.intro hlt e2)))
  repeat' first|refine wl ?_|(refine nx ?_;refine sk (hc:=iN _ (by omega)) (h:=?_))|(refine sq (fun hc=>?_) (fun hc=>?_)<;>try exact hc.elim)|fail
  refine hK1 _ ⟨j+1,by omega⟩ (aH (by simp) ?_) (by simp only;omega)
  simp
  omega
 ·have htk:l0.take j=l0:=List.take_of_length_le (by omega)
  have hjl:j=l0.length:=by omega
  rw [htk] at *
  have W:=And.intro hlen hj1
  repeat' first|refine wl ?_|(refine sq (fun hc=>?_) (fun hc=>?_)<;>try exact hc.elim)|fail
  all_goals (try (refine ⟨.inr rfl,?_⟩;simp [Hands,Tryz.results111]))
theorem aFv [aA Tryz.prog] (l0:List fA) (k:Int) (h0:0≤k) (hl:k+(aC (fun _=>2) l0:Nat)≤4611686018427387000) (hll:l0.length≤4611686018427387904):Ok Tryz.prog 182 [.sl .view 2 ((mkL rV (fun _=>2) k l0).map dI),.int .i64 k] (.int .i64 (k+(aC (fun _=>2) l0:Nat))):=by
 have hget:∀j (h:j < l0.length),(mkL rV (fun _=>2) k l0)[j]? =some (rV (k+(aC (fun _=>2) (l0.take j):Nat)) l0[j]):=fun j h=>by
  rw [List.getElem?_eq_getElem (by rw [dS];exact h),lI]
 generalize hu:mkL rV (fun _=>2) k l0=l at *
 have hlen:l.length=l0.length:=by rw [←hu,dS]
 refine ent Tryz.mix Tryz.func182 Tryz.ntmps182 ?_
 have W:=trivial
 repeat' first|refine wl ?_|(refine sq (fun hc=>?_) (fun hc=>?_)<;>try exact hc.elim)|fail
 refine aM (ι:={j:Nat // j≤l0.length}) (fun t o i=>⟨aO t [(1,.int .i64 (k+(aC (fun _=>2) (l0.take i.1):Nat))),(5,.int .i64 i.1)],o⟩)
  (fun i=>l0.length - i.1) ⟨0,by simp⟩ (aH (by simp) (by simp [aC])) ?_
 rintro ⟨j,hj⟩ K1 hK1
 simp only [aO,List.set_cons_succ,List.set_cons_zero] at hK1⊢
 have hj1:IntKind.i64.wrap ((j:Int)+1)=((j+1:Nat):Int):=by rw [wrap64]<;>omega
 have hle:=dC (fun _=>2) l0 (j+1)
 by_cases hlt:j < l0.length
 ·have hts:=bT (fun _=>2) l0 j hlt
  have hg:l[j]? =some (rV (k+(aC (fun _=>2) (l0.take j):Nat)) l0[j]):=hget j hlt
  generalize hq:k+(aC (fun _=>2) (l0.take j):Nat)=q at *
  have e2:q+1+1=q+2:=by omega
  simp only [rV,qD] at hg
  have W:=And.intro hlen (And.intro hj1 (And.intro hg e2))
  have V:=And.intro hlen (And.intro hj1 (And.intro hg (And.intro hlt e2)))
  repeat' first|refine wl ?_|(refine nx ?_;refine sk (hc:=iN _ (by omega)) (h:=?_))|(refine sq (fun hc=>?_) (fun hc=>?_)<;>try exact hc.elim)|fail
  refine hK1 _ ⟨j+1,by omega⟩ (aH (by simp) ?_) (by simp only;omega)
  simp
  omega
 ·have htk:l0.take j=l0:=List.take_of_length_le (by omega)
  have hjl:j=l0.length:=by omega
  rw [htk] at *
  have W:=And.intro hlen hj1
  repeat' first|refine wl ?_|(refine sq (fun hc=>?_) (fun hc=>?_)<;>try exact hc.elim)|fail
  all_goals (try (refine ⟨.inr rfl,?_⟩;simp [Hands,Tryz.results182]))
theorem aPq [aA Tryz.prog] (l0:List aW) (k:Int) (h0:0≤k) (hl:k+(aC fM l0:Nat)≤4611686018427387000) (hll:l0.length≤4611686018427387904) (hla:∀x∈l0,x.attrs.length≤4611686018427387904):
  Ok Tryz.prog 107 [.sl .view 4 ((mkL nD fM k l0).map (aU .view)),.int .i64 k] (.int .i64 (k+(aC fM l0:Nat))):=by
 have hget:∀j (h:j < l0.length),(mkL nD fM k l0)[j]? =some (nD (k+(aC fM (l0.take j):Nat)) l0[j]):=fun j h=>by
  rw [List.getElem?_eq_getElem (by rw [dS];exact h),lI]
 generalize hu:mkL nD fM k l0=l at *
 have hlen:l.length=l0.length:=by rw [←hu,dS]
 refine ent Tryz.mix Tryz.func107 Tryz.ntmps107 ?_
 have W:=trivial
 repeat' first|refine wl ?_|(refine sq (fun hc=>?_) (fun hc=>?_)<;>try exact hc.elim)|fail
 refine aM (ι:={j:Nat // j≤l0.length}) (fun t o i=>⟨aO t [(1,.int .i64 (k+(aC fM (l0.take i.1):Nat))),(5,.int .i64 i.1)],o⟩)
  (fun i=>l0.length - i.1) ⟨0,by simp⟩ (aH (by simp) (by simp [aC])) ?_
 rintro ⟨j,hj⟩ K1 hK1
 simp only [aO,List.set_cons_succ,List.set_cons_zero] at hK1⊢
 have hj1:IntKind.i64.wrap ((j:Int)+1)=((j+1:Nat):Int):=by rw [wrap64]<;>omega
 have hle:=dC fM l0 (j+1)
 by_cases hlt:j < l0.length
 ·have hts:=bT fM l0 j hlt
  have hg:l[j]? =some (nD (k+(aC fM (l0.take j):Nat)) l0[j]):=hget j hlt
  have hcx:fM l0[j]=3+aC (fun _=>2) l0[j].attrs:=rfl
  have hax:=hla _ (List.getElem_mem hlt)
  generalize hq:k+(aC fM (l0.take j):Nat)=q at *
  have e2:q+1+1=q+2:=by omega
  simp only [nD,qD] at hg
  have W:=And.intro hlen (And.intro hj1 (And.intro hg e2))
  have V:=And.intro hlen (And.intro hj1 (And.intro hg (And.intro hlt e2)))
  repeat' first|refine wl ?_|(refine nx ?_;first|refine sk (hc:=aFv l0[j].attrs _ (by omega) (by omega) (by omega)) (h:=?_)|refine sk (hc:=iN _ (by omega)) (h:=?_))|(refine sq (fun hc=>?_) (fun hc=>?_)<;>try exact hc.elim)|fail
  all_goals first|(exfalso;omega)|refine hK1 _ ⟨j+1,by omega⟩ (aH (by simp) ?_) (by simp only;omega)
  all_goals (simp;omega)
 ·have htk:l0.take j=l0:=List.take_of_length_le (by omega)
  have hjl:j=l0.length:=by omega
  rw [htk] at *
  have W:=And.intro hlen hj1
  repeat' first|refine wl ?_|(refine sq (fun hc=>?_) (fun hc=>?_)<;>try exact hc.elim)|fail
  all_goals (try (refine ⟨.inr rfl,?_⟩;simp [Hands,Tryz.results107]))
theorem aTs [aA Tryz.prog] (l0:List dA) (k:Int) (h0:0≤k) (hl:k+(aC jE l0:Nat)≤4611686018427387000) (hll:l0.length≤4611686018427387904) (hla:∀x∈l0,x.attrs.length≤4611686018427387904):
  Ok Tryz.prog 183 [.sl .view 4 ((mkL pG jE k l0).map (bB .view)),.int .i64 k] (.int .i64 (k+(aC jE l0:Nat))):=by
 have hget:∀j (h:j < l0.length),(mkL pG jE k l0)[j]? =some (pG (k+(aC jE (l0.take j):Nat)) l0[j]):=fun j h=>by
  rw [List.getElem?_eq_getElem (by rw [dS];exact h),lI]
 generalize hu:mkL pG jE k l0=l at *
 have hlen:l.length=l0.length:=by rw [←hu,dS]
 refine ent Tryz.mix Tryz.func183 Tryz.ntmps183 ?_
 have W:=trivial
 repeat' first|refine wl ?_|(refine sq (fun hc=>?_) (fun hc=>?_)<;>try exact hc.elim)|fail
 refine aM (ι:={j:Nat // j≤l0.length}) (fun t o i=>⟨aO t [(1,.int .i64 (k+(aC jE (l0.take i.1):Nat))),(5,.int .i64 i.1)],o⟩)
  (fun i=>l0.length - i.1) ⟨0,by simp⟩ (aH (by simp) (by simp [aC])) ?_
 rintro ⟨j,hj⟩ K1 hK1
 simp only [aO,List.set_cons_succ,List.set_cons_zero] at hK1⊢
 have hj1:IntKind.i64.wrap ((j:Int)+1)=((j+1:Nat):Int):=by rw [wrap64]<;>omega
 have hle:=dC jE l0 (j+1)
 by_cases hlt:j < l0.length
 ·have hts:=bT jE l0 j hlt
  have hg:l[j]? =some (pG (k+(aC jE (l0.take j):Nat)) l0[j]):=hget j hlt
  have hcx:jE l0[j]=3+aC (fun _=>2) l0[j].attrs:=rfl
  have hax:=hla _ (List.getElem_mem hlt)
  generalize hq:k+(aC jE (l0.take j):Nat)=q at *
  have e2:q+1+1=q+2:=by omega
  have e3:q+2+1=q+3:=by omega
  simp only [pG,qD] at hg
  have W:=And.intro hlen (And.intro hj1 (And.intro hg (And.intro e2 e3)))
  have V:=And.intro hlen (And.intro hj1 (And.intro hg (And.intro hlt (And.intro e2 e3))))
  repeat' first|refine wl ?_|(refine nx ?_;first|refine sk (hc:=aFv l0[j].attrs _ (by omega) (by omega) (by omega)) (h:=?_)|refine sk (hc:=iN _ (by omega)) (h:=?_))|(refine sq (fun hc=>?_) (fun hc=>?_)<;>try exact hc.elim)|fail
  all_goals first|(exfalso;omega)|refine hK1 _ ⟨j+1,by omega⟩ (aH (by simp) ?_) (by simp only;omega)
  all_goals (simp;omega)
 ·have htk:l0.take j=l0:=List.take_of_length_le (by omega)
  have hjl:j=l0.length:=by omega
  rw [htk] at *
  have W:=And.intro hlen hj1
  repeat' first|refine wl ?_|(refine sq (fun hc=>?_) (fun hc=>?_)<;>try exact hc.elim)|fail
  all_goals (try (refine ⟨.inr rfl,?_⟩;simp [Hands,Tryz.results183]))
theorem aUf [aA Tryz.prog] (l0:List Int) (k:Int) (h0:0≤k) (hl:k+(aC (fun _=>1) l0:Nat)≤4611686018427387000) (hll:l0.length≤4611686018427387904):Ok Tryz.prog 184 [.sl .view 1 ((mkL xC (fun _=>1) k l0).map dV),.int .i64 k] (.int .i64 (k+(aC (fun _=>1) l0:Nat))):=by
 have hget:∀j (h:j < l0.length),(mkL xC (fun _=>1) k l0)[j]? =some (xC (k+(aC (fun _=>1) (l0.take j):Nat)) l0[j]):=fun j h=>by
  rw [List.getElem?_eq_getElem (by rw [dS];exact h),lI]
 generalize hu:mkL xC (fun _=>1) k l0=l at *
 have hlen:l.length=l0.length:=by rw [←hu,dS]
 refine ent Tryz.mix Tryz.func184 Tryz.ntmps184 ?_
 have W:=trivial
 repeat' first|refine wl ?_|(refine sq (fun hc=>?_) (fun hc=>?_)<;>try exact hc.elim)|fail
 refine aM (ι:={j:Nat // j≤l0.length}) (fun t o i=>⟨aO t [(1,.int .i64 (k+(aC (fun _=>1) (l0.take i.1):Nat))),(5,.int .i64 i.1)],o⟩)
  (fun i=>l0.length - i.1) ⟨0,by simp⟩ (aH (by simp) (by simp [aC])) ?_
 rintro ⟨j,hj⟩ K1 hK1
 simp only [aO,List.set_cons_succ,List.set_cons_zero] at hK1⊢
 have hj1:IntKind.i64.wrap ((j:Int)+1)=((j+1:Nat):Int):=by rw [wrap64]<;>omega
 have hle:=dC (fun _=>1) l0 (j+1)
 by_cases hlt:j < l0.length
 ·have hts:=bT (fun _=>1) l0 j hlt
  have hg:l[j]? =some (xC (k+(aC (fun _=>1) (l0.take j):Nat)) l0[j]):=hget j hlt
  generalize hq:k+(aC (fun _=>1) (l0.take j):Nat)=q at *
  simp only [xC,qD] at hg
  have W:=And.intro hlen (And.intro hj1 hg)
  have V:=And.intro hlen (And.intro hj1 (And.intro hg hlt))
  repeat' first|refine wl ?_|(refine sq (fun hc=>?_) (fun hc=>?_)<;>try exact hc.elim)|fail
  refine hK1 _ ⟨j+1,by omega⟩ (aH (by simp) ?_) (by simp only;omega)
  simp
  omega
 ·have htk:l0.take j=l0:=List.take_of_length_le (by omega)
  have hjl:j=l0.length:=by omega
  rw [htk] at *
  have W:=And.intro hlen hj1
  repeat' first|refine wl ?_|(refine sq (fun hc=>?_) (fun hc=>?_)<;>try exact hc.elim)|fail
  all_goals (try (refine ⟨.inr rfl,?_⟩;simp [Hands,Tryz.results184]))
theorem aSr [aA Tryz.prog] (l0:List gP) (k:Int) (h0:0≤k) (hl:k+(aC (fun _=>8) l0:Nat)≤4611686018427387000) (hll:l0.length≤4611686018427387904):Ok Tryz.prog 109 [.sl .view 8 ((mkL sI (fun _=>8) k l0).map eX),.int .i64 k] (.int .i64 (k+(aC (fun _=>8) l0:Nat))):=by
 have hget:∀j (h:j < l0.length),(mkL sI (fun _=>8) k l0)[j]? =some (sI (k+(aC (fun _=>8) (l0.take j):Nat)) l0[j]):=fun j h=>by
  rw [List.getElem?_eq_getElem (by rw [dS];exact h),lI]
 generalize hu:mkL sI (fun _=>8) k l0=l at *
 have hlen:l.length=l0.length:=by rw [←hu,dS]
 refine ent Tryz.mix Tryz.func109 Tryz.ntmps109 ?_
 have W:=trivial
 repeat' first|refine wl ?_|(refine sq (fun hc=>?_) (fun hc=>?_)<;>try exact hc.elim)|fail
 refine aM (ι:={j:Nat // j≤l0.length}) (fun t o i=>⟨aO t [(1,.int .i64 (k+(aC (fun _=>8) (l0.take i.1):Nat))),(5,.int .i64 i.1)],o⟩)
  (fun i=>l0.length - i.1) ⟨0,by simp⟩ (aH (by simp) (by simp [aC])) ?_
 rintro ⟨j,hj⟩ K1 hK1
 simp only [aO,List.set_cons_succ,List.set_cons_zero] at hK1⊢
 have hj1:IntKind.i64.wrap ((j:Int)+1)=((j+1:Nat):Int):=by rw [wrap64]<;>omega
 have hle:=dC (fun _=>8) l0 (j+1)
 by_cases hlt:j < l0.length
 ·have hts:=bT (fun _=>8) l0 j hlt
  have hg:l[j]? =some (sI (k+(aC (fun _=>8) (l0.take j):Nat)) l0[j]):=hget j hlt
  generalize hq:k+(aC (fun _=>8) (l0.take j):Nat)=q at *
  have e2:q+1+1=q+2:=by omega
  have e3:q+2+1=q+3:=by omega
  have e4:q+3+1=q+4:=by omega
  have e5:q+4+1=q+5:=by omega
  have e6:q+5+1=q+6:=by omega
  have e7:q+6+1=q+7:=by omega
  have e8:q+7+1=q+8:=by omega
  simp only [sI,qD] at hg
  have W:=And.intro hlen (And.intro hj1 (And.intro hg (And.intro e2 (And.intro e3 (And.intro e4 (And.intro e5 (And.intro e6 (And.intro e7 e8))))))))
  have V:=And.intro hlen (And.intro hj1 (And.intro hg (And.intro hlt (And.intro e2 (And.intro e3 (And.intro e4 (And.intro e5 (And.intro e6 (And.intro e7 e8)))))))))
  repeat' first|refine wl ?_|(refine nx ?_;refine sk (hc:=iN _ (by omega)) (h:=?_))|(refine sq (fun hc=>?_) (fun hc=>?_)<;>try exact hc.elim)|fail
  refine hK1 _ ⟨j+1,by omega⟩ (aH (by simp) ?_) (by simp only;omega)
  simp
  omega
 ·have htk:l0.take j=l0:=List.take_of_length_le (by omega)
  have hjl:j=l0.length:=by omega
  rw [htk] at *
  have W:=And.intro hlen hj1
  repeat' first|refine wl ?_|(refine sq (fun hc=>?_) (fun hc=>?_)<;>try exact hc.elim)|fail
  all_goals (try (refine ⟨.inr rfl,?_⟩;simp [Hands,Tryz.results109]))
theorem aMm [aA Tryz.prog] (l0:List cZ) (k:Int) (h0:0≤k) (hl:k+(aC (fun _=>5) l0:Nat)≤4611686018427387000) (hll:l0.length≤4611686018427387904):Ok Tryz.prog 110 [.sl .view 5 ((mkL oF (fun _=>5) k l0).map bD),.int .i64 k] (.int .i64 (k+(aC (fun _=>5) l0:Nat))):=by
 have hget:∀j (h:j < l0.length),(mkL oF (fun _=>5) k l0)[j]? =some (oF (k+(aC (fun _=>5) (l0.take j):Nat)) l0[j]):=fun j h=>by
  rw [List.getElem?_eq_getElem (by rw [dS];exact h),lI]
 generalize hu:mkL oF (fun _=>5) k l0=l at *
 have hlen:l.length=l0.length:=by rw [←hu,dS]
 refine ent Tryz.mix Tryz.func110 Tryz.ntmps110 ?_
 have W:=trivial
 repeat' first|refine wl ?_|(refine sq (fun hc=>?_) (fun hc=>?_)<;>try exact hc.elim)|fail
 refine aM (ι:={j:Nat // j≤l0.length}) (fun t o i=>⟨aO t [(1,.int .i64 (k+(aC (fun _=>5) (l0.take i.1):Nat))),(5,.int .i64 i.1)],o⟩)
  (fun i=>l0.length - i.1) ⟨0,by simp⟩ (aH (by simp) (by simp [aC])) ?_
 rintro ⟨j,hj⟩ K1 hK1
 simp only [aO,List.set_cons_succ,List.set_cons_zero] at hK1⊢
 have hj1:IntKind.i64.wrap ((j:Int)+1)=((j+1:Nat):Int):=by rw [wrap64]<;>omega
 have hle:=dC (fun _=>5) l0 (j+1)
 by_cases hlt:j < l0.length
 ·have hts:=bT (fun _=>5) l0 j hlt
  have hg:l[j]? =some (oF (k+(aC (fun _=>5) (l0.take j):Nat)) l0[j]):=hget j hlt
  generalize hq:k+(aC (fun _=>5) (l0.take j):Nat)=q at *
  have e2:q+1+1=q+2:=by omega
  have e3:q+2+1=q+3:=by omega
  have e4:q+3+1=q+4:=by omega
  have e5:q+4+1=q+5:=by omega
  simp only [oF,qD] at hg
  have W:=And.intro hlen (And.intro hj1 (And.intro hg (And.intro e2 (And.intro e3 (And.intro e4 e5)))))
  have V:=And.intro hlen (And.intro hj1 (And.intro hg (And.intro hlt (And.intro e2 (And.intro e3 (And.intro e4 e5))))))
  repeat' first|refine wl ?_|(refine nx ?_;refine sk (hc:=iN _ (by omega)) (h:=?_))|(refine sq (fun hc=>?_) (fun hc=>?_)<;>try exact hc.elim)|fail
  refine hK1 _ ⟨j+1,by omega⟩ (aH (by simp) ?_) (by simp only;omega)
  simp
  omega
 ·have htk:l0.take j=l0:=List.take_of_length_le (by omega)
  have hjl:j=l0.length:=by omega
  rw [htk] at *
  have W:=And.intro hlen hj1
  repeat' first|refine wl ?_|(refine sq (fun hc=>?_) (fun hc=>?_)<;>try exact hc.elim)|fail
  all_goals (try (refine ⟨.inr rfl,?_⟩;simp [Hands,Tryz.results110]))
theorem aOr [aA Tryz.prog] (a:fC) (k:Int) (h0:0≤k) (hl:k+(lJ a:Nat)≤4611686018427387000):
  Ok Tryz.prog 106 [.agg (bJ .view (vI k a)),.int .i64 k] (.int .i64 (k+(lJ a:Nat))):=by
 simp only [lJ] at hl
 have l1:=fH 1 a.scripts
 have l2:=fH 1 a.styles
 have l3:=fH 1 a.images
 simp only [vI,bJ]
 refine ent Tryz.mix Tryz.func106 Tryz.ntmps106 ?_
 have W:=trivial
 repeat' first|refine wl ?_|(refine nx ?_;first|refine sk (hc:=tZ a.scripts _ (by omega) (by omega) (by omega)) (h:=?_)|refine sk (hc:=tZ a.styles _ (by omega) (by omega) (by omega)) (h:=?_)|refine sk (hc:=tZ a.images _ (by omega) (by omega) (by omega)) (h:=?_))|(refine sq (fun hc=>?_) (fun hc=>?_)<;>try exact hc.elim)|fail
 all_goals (try (refine ⟨.inr rfl,?_⟩;simp [Hands,Tryz.results106,lJ]))
 all_goals omega
theorem aL1 [aA Tryz.prog] (a:aS) (k:Int) (h0:0≤k) (hl:k+(lC a:Nat)≤4611686018427387000) (hb:a.nodes.length≤4611686018427387904) (hba:∀x∈a.nodes,x.attrs.length≤4611686018427387904):
  Ok Tryz.prog 108 [.agg (aL .view (sH k a)),.int .i64 k] (.int .i64 (k+(lC a:Nat))):=by
 simp only [lC] at hl
 have l1:=fH 1 a.opens
 simp only [sH,aL]
 refine ent Tryz.mix Tryz.func108 Tryz.ntmps108 ?_
 have W:=trivial
 repeat' first|refine wl ?_|(refine nx ?_;first|refine sk (hc:=aTs a.nodes _ (by omega) (by omega) hb hba) (h:=?_)|refine sk (hc:=aUf a.opens _ (by omega) (by omega) (by omega)) (h:=?_))|(refine sq (fun hc=>?_) (fun hc=>?_)<;>try exact hc.elim)|fail
 all_goals (try (refine ⟨.inr rfl,?_⟩;simp [Hands,Tryz.results108,lC]))
 all_goals omega
theorem aHl [aA Tryz.prog] (a:aJ) (k:Int) (h0:0≤k) (hl:k+(wJ a:Nat)≤4611686018427387000) (hq:a.queue.length≤4611686018427387904) (hqa:∀x∈a.queue,x.attrs.length≤4611686018427387904)
  (hb:a.builder.nodes.length≤4611686018427387904) (hba:∀x∈a.builder.nodes,x.attrs.length≤4611686018427387904):
  Ok Tryz.prog 22 [.agg (aG .view (aKp k a)),.int .i64 k] (.int .i64 (k+(wJ a:Nat))):=by
 simp only [wJ] at hl
 have l1:=fH 8 a.slots
 have l2:=fH 5 a.mods
 have l3:=fH 2 a.entries
 have l4:=fH 2 a.ran
 have l5:=fH 1 a.log
 simp only [aKp,aG,vI,sH]
 refine ent Tryz.mix Tryz.func22 Tryz.ntmps22 ?_
 have W:=trivial
 repeat' first|refine wl ?_|(refine nx ?_;first|refine sk (hc:=aOr a.policy _ (by omega) (by omega)) (h:=?_)|refine sk (hc:=aPq a.queue _ (by omega) (by omega) hq hqa) (h:=?_)|refine sk (hc:=aL1 a.builder _ (by omega) (by omega) hb hba) (h:=?_)|refine sk (hc:=aSr a.slots _ (by omega) (by omega) (by omega)) (h:=?_)|refine sk (hc:=aMm a.mods _ (by omega) (by omega) (by omega)) (h:=?_)|refine sk (hc:=aE4 a.entries _ (by omega) (by omega) (by omega)) (h:=?_)|refine sk (hc:=aE4 a.ran _ (by omega) (by omega) (by omega)) (h:=?_)|refine sk (hc:=tZ a.log _ (by omega) (by omega) (by omega)) (h:=?_))|(refine sq (fun hc=>?_) (fun hc=>?_)<;>try exact hc.elim)|fail
 all_goals (try (refine ⟨.inr rfl,?_⟩;simp [Hands,Tryz.results22,wJ]))
 all_goals omega
end Go.Proofs.YtlnblmmohpcceaaGreatDoor
