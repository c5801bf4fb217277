/-
  Proved here: steps towards the statement of this claim, text R4.
  No condition beyond what each statement spells out.
-/
import Derived.Test.YtlnblmmohpcceaaGreatDoorDR3
import Derived.Test.YtlnblmmohpcceaaGreatDoorDF4
set_option linter.all false
set_option maxRecDepth 4000
set_option maxHeartbeats 400000
namespace Go.Proofs.YtlnblmmohpcceaaGreatDoor
open Go.Aw
theorem aKm [aB Tryz.prog] (g:fZ) (n:Str):Ok Tryz.prog 256 [.agg (kR g),.vptr .view [.str n] 0] (.bool (fK n g)):=by
 refine ent Tryz.mix Tryz.func256 Tryz.ntmps256 ?_
 have W:=trivial
 repeat' first|refine wl ?_|(refine sq (fun hc=>?_) (fun hc=>?_)<;>try exact hc.elim)|fail
 all_goals (try (refine ⟨.inr rfl,?_⟩;simp [Hands,Tryz.results256]))
 rw [Bool.eq_iff_iff]
 simp [fK]
theorem aEe [aB Tryz.prog] (l:List fZ) (n:Str) (hl:l.length≤1099511627776):Ok Tryz.prog 255 [.sl .view 2 (l.map kR),.fn 256 [.vptr .view [.str n] 0]] (.int .i64 (pM (fK n) l)):=by
 refine ent Tryz.mix Tryz.func255 Tryz.ntmps255 ?_
 have W:=trivial
 repeat' first|refine wl ?_|(refine sq (fun hc=>?_) (fun hc=>?_)<;>try exact hc.elim)|fail
 refine aS (ι:={k:Nat // k≤l.length∧∀x∈l.take k,fK n x=false}) (fun t o i=>⟨aP t [(8,.int .i64 i.1),(5,.undef)],o⟩)
  (fun i=>l.length - i.1) ⟨0,by simp,by simp⟩ (aL (by simp) (by simp)) ?_
 rintro ⟨k,hk,hi⟩ K1 hK1
 simp only [aP,List.set_cons_succ,List.set_cons_zero] at hK1⊢
 have hk1:IntKind.i64.wrap ((k:Int)+1)=((k+1:Nat):Int):=by rw [wrap64]<;>omega
 by_cases hlt:k < l.length
 ·have hg:=List.getElem?_eq_getElem hlt
  have W:=And.intro hk1 (And.intro hg hlt)
  have c0:=aKm l[k] n
  repeat' first|refine wl ?_|(refine sq (fun hc=>?_) (fun hc=>?_)<;>try exact hc.elim)|fail
  ·all_goals (try (refine ⟨.inr rfl,?_⟩;simp [Hands,Tryz.results255]))
   rw [aG5 hlt (by simpa using hc) hi]
  ·exact hK1 _ ⟨k+1,by omega,iA hlt hi (by simpa using hc)⟩ (aL (by simp) (by simp)) (by simp only;omega)
 ·have W:=hk1
  repeat' first|refine wl ?_|(refine sq (fun hc=>?_) (fun hc=>?_)<;>try exact hc.elim)|fail
  all_goals (try (refine ⟨.inr rfl,?_⟩;simp [Hands,Tryz.results255]))
  rw [vB (lL (by omega) hi)]
theorem aNg {α:Type} (f:α→Bool) (l:List α) (h:l.findIdx f < l.length):pM f l=(l.findIdx f:Nat):=by
 unfold pM
 rw [if_pos]
 exact List.any_eq_true.2 ⟨_,List.getElem_mem h,List.findIdx_getElem (w:=h)⟩
theorem aMw {α:Type} (f:α→Bool) (l:List α) (h:¬l.findIdx f < l.length):pM f l= -1:=by
 refine vB fun x hx=> ?_
 have he:l.findIdx f=l.length:=by have:=List.findIdx_le_length (p:=f) (xs:=l);omega
 have:=List.findIdx_eq_length.1 he x hx
 simpa using this
theorem aGf (l:List fZ) (n:Str) (h:l.findIdx (fK n) < l.length):iE l n=(l[l.findIdx (fK n)].value,true):=by
 refine aGa h (List.findIdx_getElem (w:=h)) ?_
 intro x hx
 obtain ⟨i,hi,rfl⟩:=List.getElem_of_mem hx
 have hi':i < l.findIdx (fK n):=by have:=hi;simp at this;omega
 rw [List.getElem_take]
 have:=List.not_of_lt_findIdx (p:=(fK n)) (xs:=l) hi'
 simpa using this
theorem aGb (l:List fZ) (n:Str) (h:¬l.findIdx (fK n) < l.length):iE l n=([],false):=by
 refine aC8 fun x hx=> ?_
 have he:l.findIdx (fK n)=l.length:=by have:=List.findIdx_le_length (p:=fK n) (xs:=l);omega
 have:=List.findIdx_eq_length.1 he x hx
 simpa using this
theorem yR [aB Tryz.prog] (l:List fZ) (n:Str) (hl:l.length≤1099511627776):Ok Tryz.prog 199 [.sl .view 2 (l.map kR),.str n] (.tup [.str (iE l n).1,.bool (iE l n).2]):=by
 have hF:=aEe l n hl
 by_cases h:l.findIdx (fK n) < l.length
 ·rw [aNg _ _ h] at hF
  rw [aGf _ _ h]
  generalize hk:l.findIdx (fK n)=k at *
  have hg:=List.getElem?_eq_getElem h
  refine ent Tryz.mix Tryz.func199 Tryz.ntmps199 ?_
  have W:=hg
  have V:=h
  have c0:=hF
  repeat' first|refine wl ?_|(refine sq (fun hc=>?_) (fun hc=>?_)<;>try exact hc.elim)|fail
  all_goals (try (refine ⟨.inr rfl,?_⟩;simp [Hands,Tryz.results199]))
  all_goals simp
 ·rw [aMw _ _ h] at hF
  rw [aGb _ _ h]
  refine ent Tryz.mix Tryz.func199 Tryz.ntmps199 ?_
  have W:=trivial
  have c0:=hF
  repeat' first|refine wl ?_|(refine sq (fun hc=>?_) (fun hc=>?_)<;>try exact hc.elim)|fail
  all_goals (try (refine ⟨.inr rfl,?_⟩;simp [Hands,Tryz.results199]))
  all_goals simp
theorem vT [aB Tryz.prog] (s:Str) (c:UInt8):OkN Tryz.prog 252 [.str s,.int .u8 c.toNat] (.int .i64 (ixI c s)):=
 aDb (fn:=Tryz.f252) (by kernel_rfl) (by decide+kernel) rfl (by decide+kernel) (by rfl) s c
end Go.Proofs.YtlnblmmohpcceaaGreatDoor
