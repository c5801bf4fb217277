/-
  Proved here: steps towards the statement of this claim, text R6.
  No condition beyond what each statement spells out.
-/
import Derived.Test.YtejigeoigebhcaaGreatAQJ1
set_option linter.all false
set_option maxRecDepth 4000
set_option maxHeartbeats 400000
namespace Go.Proofs.YtejigeoigebhcaaGreat
open Go.Aw
theorem aOv {c:UInt8} {n:Nat} (hn:n < 256) (h:(c.toNat:Int)=n):c=UInt8.ofNat n:=by
 have:c.toNat=n:=by omega
 rw [←this];simp
theorem aPf {c:UInt8} {n:Nat} (hn:n < 256) (h:¬(c.toNat:Int)=n):c≠UInt8.ofNat n:=by
 rintro rfl
 apply h
 simp
 omega
theorem aBw {s b:Str} {k:Nat} (h:ixB 47 s=k) (hk:k < s.length):addrOf s b=⟨s.take k,s.drop (k+1)⟩:=by
 subst h;exact if_pos hk
theorem aAa {s b:Str} (h:ixB 47 s=s.length):addrOf s b=⟨b,s⟩:=if_neg (by omega)
theorem sQ [aB Tryz.prog] (s b:Str) (hl:s.length+b.length≤1099511627776):Ok Tryz.prog 29 [.str s,.str b] (.tup [.agg (aO (bA s b).1),.bool (bA s b).2]):=by
 simp only [bA]
 refine ent Tryz.mix Tryz.func29 Tryz.ntmps29 ?_
 have W:=trivial
 repeat' first|refine st ?_|(refine nx ?_;refine so ?_)|(refine cx ?_;refine sc (fun hc=>?_) (fun hc=>?_)<;>try exact hc.elim)|(refine lx ?_;refine sp (fun hc=>?_) (fun hc=>?_)<;>try exact hc.elim)|refine sx ?_ ?_|refine sy ?_ ?_|fail
 refine aQ (ι:={k:Nat // k≤s.length∧∀x∈s.take k,x≠47}) (fun t o i=>⟨bB t [(7,.int .i64 i.1)],o⟩)
  (fun i=>s.length - i.1) ⟨0,by simp,by simp⟩ (aY (by simp) (by simp)) ?_
 rintro ⟨k,hk,hi⟩ K1 hK1
 simp only [bB,List.set_cons_succ,List.set_cons_zero] at hK1⊢
 have hk1:IntKind.i64.wrap ((k:Int)+1)=((k+1:Nat):Int):=by rw [wrap64]<;>omega
 by_cases hlt:k < s.length
 ·have hg:=List.getElem?_eq_getElem hlt
  have W:=And.intro hk1 (And.intro hg hlt)
  repeat' first|refine st ?_|(refine nx ?_;refine so ?_)|(refine cx ?_;refine sc (fun hc=>?_) (fun hc=>?_)<;>try exact hc.elim)|(refine lx ?_;refine sp (fun hc=>?_) (fun hc=>?_)<;>try exact hc.elim)|refine sx ?_ ?_|refine sy ?_ ?_|fail
  ·have e:=aBw (b:=b) (aK0 hlt (aOv (by decide) hc) hi) hlt
   have h1:=mW ⟨s.take k,s.drop (k+1)⟩ (by simp [bG];omega)
   rw [e]
   simp only [aO] at h1
   have W:=trivial
   repeat' first|refine st ?_|(refine nx ?_;refine so ?_)|(refine cx ?_;refine sc (fun hc=>?_) (fun hc=>?_)<;>try exact hc.elim)|(refine lx ?_;refine sp (fun hc=>?_) (fun hc=>?_)<;>try exact hc.elim)|refine sx ?_ ?_|refine sy ?_ ?_|fail
   all_goals (try (refine ⟨.inr rfl,?_⟩;simp [Hands,Tryz.results29,lS]))
   all_goals simp_all [lS]
  ·exact hK1 _ ⟨k+1,by omega,dZ hlt hi (aPf (by decide) hc)⟩ (aY (by simp) (by simp)) (by simp only;omega)
 ·have e:=aAa (b:=b) (aE4 (jA (by omega) hi))
  have h1:=mW ⟨b,s⟩ (by simp [bG];omega)
  rw [e]
  simp only [aO] at h1
  have W:=hk1
  repeat' first|refine st ?_|(refine nx ?_;refine so ?_)|(refine cx ?_;refine sc (fun hc=>?_) (fun hc=>?_)<;>try exact hc.elim)|(refine lx ?_;refine sp (fun hc=>?_) (fun hc=>?_)<;>try exact hc.elim)|refine sx ?_ ?_|refine sy ?_ ?_|fail
  all_goals (try (refine ⟨.inr rfl,?_⟩;simp [Hands,Tryz.results29,lS]))
  all_goals simp_all [lS]
theorem sS [aB Tryz.prog] (s b:Str) (hl:s.length+b.length≤1099511627776):Ok Tryz.prog 26 [.str s,.str b] (.tup [.agg (aO (bA s b).1),.bool (bA s b).2]):=by
 have hC:=aD8 s 47 (by omega)
 have hle:=mO 47 s
 simp only [bA]
 by_cases h:ixB 47 s < s.length
 ·rw [aBw rfl h]
  rw [decide_eq_true h] at hC
  generalize ixB 47 s=k at *
  have h1:=qP ⟨s.take k,s.drop (k+1)⟩ (by simp [bG];omega)
  simp only [aO] at h1
  refine ent Tryz.mix Tryz.func26 Tryz.ntmps26 ?_
  have W:=trivial
  repeat' first|refine st ?_|(refine nx ?_;refine so ?_)|(refine cx ?_;refine sc (fun hc=>?_) (fun hc=>?_)<;>try exact hc.elim)|(refine lx ?_;refine sp (fun hc=>?_) (fun hc=>?_)<;>try exact hc.elim)|refine sx ?_ ?_|refine sy ?_ ?_|fail
  all_goals (try (refine ⟨.inr rfl,?_⟩;simp [Hands,Tryz.results26,lS]))
  all_goals simp_all [lS]
 ·have e2:ixB 47 s=s.length:=by omega
  rw [aAa e2]
  rw [decide_eq_false h] at hC
  have h1:=qP ⟨b,s⟩ (by simp [bG];omega)
  simp only [aO] at h1
  refine ent Tryz.mix Tryz.func26 Tryz.ntmps26 ?_
  have W:=trivial
  repeat' first|refine st ?_|(refine nx ?_;refine so ?_)|(refine cx ?_;refine sc (fun hc=>?_) (fun hc=>?_)<;>try exact hc.elim)|(refine lx ?_;refine sp (fun hc=>?_) (fun hc=>?_)<;>try exact hc.elim)|refine sx ?_ ?_|refine sy ?_ ?_|fail
  all_goals (try (refine ⟨.inr rfl,?_⟩;simp [Hands,Tryz.results26,lS]))
  all_goals simp_all [lS]
end Go.Proofs.YtejigeoigebhcaaGreat
