/-
  Proved here: steps towards the statement of this claim, text FA0.
  No condition beyond what each statement spells out.
-/
import Derived.Test.YtlnblmmohpcceaaGreatDoorDQY3
import Derived.Test.YtlnblmmohpcceaaGreatDoorDY5
set_option linter.all false
set_option maxRecDepth 4000
set_option maxHeartbeats 4000000
namespace Go.Proofs.YtlnblmmohpcceaaGreatDoor
open Go.Aw
theorem tH {c:UInt8}:∀{x t:Str},ixB c x < x.length→ixB c (x++t)=ixB c x
 |[],t,h=>by simp at h
 |a::x,t,h=>by
  rw [List.cons_append,lI,lI] at *
  split
  ·rfl
  ·rename_i hac
   rw [if_neg hac] at h
   rw [tH (by simpa using h)]
theorem aC2 {x t:Str} {ts:List bY} {y:Str} (h:bZ x=some (ts,y)):bZ (x++t)=some (ts,y++t):=by
 unfold bZ at h⊢
 split at h
 ·rename_i hc
  simp only [Option.some.injEq,Prod.mk.injEq] at h
  obtain ⟨rfl,rfl⟩:=h
  rw [tH hc.2,if_pos ⟨hc.1,by simp only [List.length_append];omega⟩]
  rw [List.take_append_of_le_length (by omega),List.drop_append_of_le_length (by omega)]
 ·rename_i hc
  split at h
  ·cases h
  ·rename_i hd
   have h60:ixB 60 x=0:=by
    by_cases h0:ixB 60 x=0
    ·exact h0
    ·exact (hd (.inl h0)).elim
   have h62:ixB 62 x≠x.length:=fun e=>hd (.inr e)
   have h62l:=pU 62 x
   have hlt:ixB 62 x < x.length:=by omega
   have h60l:ixB 60 x < x.length:=by omega
   simp only [Option.some.injEq,Prod.mk.injEq] at h
   obtain ⟨rfl,rfl⟩:=h
   rw [tH h60l,tH hlt,h60]
   rw [if_neg (by omega),if_neg (by simp only [List.length_append];omega)]
   rw [List.take_append_of_le_length (by omega),List.drop_append_of_le_length (by omega)]
theorem aCh:∀(n:Nat) (x t:Str),x.length≤n→feed (x++t)=((feed x).1++(feed ((feed x).2++t)).1,(feed ((feed x).2++t)).2)
 |n,x,t,hn=>by
  cases hs:bZ x with
  |none=>
   have e:=lZ hs
   rw [e];simp
  |some q=>
   obtain ⟨ts,y⟩:=q
   have hlt:=(nR hs).1
   cases n with
   |zero=>omega
   |succ n=>
    have ih:=aCh n y t (by omega)
    rw [oK hs,oK (aC2 (t:=t) hs),ih]
    simp [List.append_assoc]
theorem aFw (p:dS) (s t:Str):bM (bM p s) t=bM p (s++t):=by
 unfold bM
 by_cases he:p.ended=true
 ·simp [he]
 ·rw [if_neg he,if_neg he,if_neg (by simpa using he)]
  have h:=aCh _ (p.tok.rest++s) t (Nat.le_refl _)
  rw [List.append_assoc] at h
  rw [h]
  simp [List.append_assoc]
theorem aH7 (p:dS) (h:(feed p.tok.rest)=([],p.tok.rest)):bM p []=p:=by
 unfold bM
 split
 ·rfl
 ·simp [h]
theorem aIo (p:dS) (s:Str):bM (gH p) s=gH p:=by
 have h:(gH p).ended=true:=by unfold gH;split<;>simp_all
 unfold bM
 rw [if_pos h]
theorem aM1 (p:dS):gH (gH p)=gH p:=by
 have h:(gH p).ended=true:=by unfold gH;split<;>simp_all
 rw [gH,if_pos h]
end Go.Proofs.YtlnblmmohpcceaaGreatDoor
