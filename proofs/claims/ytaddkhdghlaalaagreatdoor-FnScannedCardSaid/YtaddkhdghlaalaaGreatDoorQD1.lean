/-
  Proved here: contracts of the library's Itoa and Join, and of FormatInt in the reference and in the program.
  No condition beyond what each statement spells out.
-/
import Derived.Test.YtaddkhdghlaalaaGreatDoorQMK1
import Derived.Test.YtaddkhdghlaalaaGreatDoorYShelf
import Derived.Test.YtaddkhdghlaalaaGreatDoorF5
import Derived.Test.YtaddkhdghlaalaaGreatDoorF4
set_option linter.all false
set_option maxRecDepth 4000
set_option maxHeartbeats 400000
namespace Go.Proofs.YtaddkhdghlaalaaGreatDoor
open Go.Aw
theorem eX [aB Tryz.prog] (n:Int) (h: -9223372036854775808≤n∧n≤9223372036854775807):Ok Tryz.prog 200 [.int .i64 n] (.str (Lib.itoa n)):=by
 by_cases h0:n=0
 ·subst h0
  refine ent Tryz.mix Tryz.func200 Tryz.ntmps200 ?_
  refine bA ?_
  all_goals (try (refine ⟨.inr rfl,?_⟩;simp [Hands,Tryz.results200]))
  all_goals exact bAo.symm
 ·refine ent Tryz.mix Tryz.func200 Tryz.ntmps200 ?_
  have W:=h0
  refine wl ?_
  refine aR (ι:={p:Int×Str // (-9223372036854775808≤p.1∧p.1≤9223372036854775807)∧vY p.1.natAbs++p.2=vY n.natAbs}) (fun t o i=>⟨aS t [(4,.int .i64 i.1.1),(3,.str i.1.2),(5,.undef)],o⟩)
   (fun i=>i.1.1.natAbs) ⟨(n,[]),h,by simp⟩ aO ?_
  rintro ⟨⟨x,s⟩,⟨hx1,hx2⟩,hi⟩ K1 hK1
  simp only [aS,List.set_cons_succ,List.set_cons_zero] at hK1 hx1 hx2 hi⊢
  have hsl:=congrArg List.length hi
  have hnl:=bC0 n h.1 h.2
  rw [List.length_append] at hsl
  have hs1:1+s.length≤9223372036854775807:=by omega
  have hs2:s.length≤9223372036854775806:=by omega
  clear hsl hnl
  by_cases hx:x=0
  ·subst hx
   have hs:s=vY n.natAbs:=by simpa [vY] using hi
   have W:=And.intro hs1 hs2
   repeat' first|refine st ?_|(refine nx ?_;refine so ?_)|(refine cx ?_;refine sc (fun hc=>?_) (fun hc=>?_)<;>try exact hc.elim)|(refine lx ?_;refine sp (fun hc=>?_) (fun hc=>?_)<;>try exact hc.elim)|refine sx ?_ ?_|refine sy ?_ ?_|fail
   ·all_goals (try (refine ⟨.inr rfl,?_⟩;simp [Hands,Tryz.results200]))
    exact (itoa_neg (by omega) hs).symm
   ·all_goals (try (refine ⟨.inr rfl,?_⟩;simp [Hands,Tryz.results200]))
    exact (bCy h0 (by omega) hs).symm
  ·obtain ⟨r,q,hr0,hr9,hq,hq1,hq2,hqa,hr,ht⟩:=aXe x hx1 hx2
   have hp:=aZp x.natAbs (by omega)
   have hu8:=bAh (48+r) (by omega) (by omega)
   have hb:UInt8.ofNat (48+r).toNat=UInt8.ofNat (48+x.natAbs % 10):=by congr 1;omega
   have hi2:vY q.natAbs++UInt8.ofNat (48+r).toNat::s=vY n.natAbs:=by rw [←hi,hp,hqa,hb];simp
   have hm:q.natAbs < x.natAbs:=by omega
   clear hr hb hp
   rcases ht with ht|⟨ht,hrp⟩
   ·have W:=And.intro hx (And.intro ht (And.intro hq (And.intro hu8 (And.intro hs1 hs2))))
    refine wl ?_
    refine hK1 _ ⟨(q,UInt8.ofNat (48+r).toNat::s),⟨hq1,hq2⟩,hi2⟩ (aN 0) (by simp only;omega)
   ·have W:=And.intro hx (And.intro ht (And.intro hq (And.intro hu8 (And.intro hs1 hs2))))
    refine wl ?_
    refine hK1 _ ⟨(q,UInt8.ofNat (48+r).toNat::s),⟨hq1,hq2⟩,hi2⟩ (aN 0) (by simp only;omega)
theorem eQ [aB Tryz.prog] (a b c:Int):Ok Tryz.prog 86 [.int .i64 a,.int .i64 b,.int .i64 c] (.bool (decide (b≤a)&&decide (a≤c))):=by
 refine ent Tryz.mix Tryz.func86 Tryz.ntmps86 ?_
 have W:=trivial
 repeat' first|refine st ?_|(refine nx ?_;refine so ?_)|(refine cx ?_;refine sc (fun hc=>?_) (fun hc=>?_)<;>try exact hc.elim)|(refine lx ?_;refine sp (fun hc=>?_) (fun hc=>?_)<;>try exact hc.elim)|refine sx ?_ ?_|refine sy ?_ ?_|fail
 all_goals (try (refine ⟨.inr rfl,?_⟩;simp [Hands,Tryz.results86]))
 all_goals (first|(simp_all;done)|(simp_all;omega))
theorem aGq [aB Tryz.prog] (a b c:Int):Ok Tryz.prog 81 [.int .i64 a,.int .i64 b,.int .i64 c] (.bool (decide (b≤a)&&decide (a≤c))):=by
 refine ent Tryz.mix Tryz.func81 Tryz.ntmps81 ?_
 have W:=trivial
 repeat' first|refine st ?_|(refine nx ?_;refine so ?_)|(refine cx ?_;refine sc (fun hc=>?_) (fun hc=>?_)<;>try exact hc.elim)|(refine lx ?_;refine sp (fun hc=>?_) (fun hc=>?_)<;>try exact hc.elim)|refine sx ?_ ?_|refine sy ?_ ?_|fail
 all_goals (try (refine ⟨.inr rfl,?_⟩;simp [Hands,Tryz.results81]))
 all_goals (first|(simp_all;done)|(simp_all;omega))
theorem aVy {s:Str} {k:Nat} (h:k < s.length) (hc:lowerB s[k]=false):bU s=false:=by
 have:s.all lowerB=false:=by
  rw [List.all_eq_false]
  exact ⟨s[k],List.getElem_mem h,by simp [hc]⟩
 simp [bU,this]
theorem aV6 {s:Str} {k:Nat} (h:k < s.length) (hc:(s[k].toNat:Int) < 97):bU s=false:=aVy h (by simp [lowerB];omega)
theorem aVx {s:Str} {k:Nat} (h:k < s.length) (hc:122 < (s[k].toNat:Int)):bU s=false:=aVy h (by simp [lowerB];omega)
theorem aN0 {c:UInt8} (h:97≤(c.toNat:Int)) (hc:(c.toNat:Int)≤122):lowerB c=true:=by simp [lowerB];omega
theorem aRk {s:Str} (h:∀x∈s,lowerB x=true):bU s=(decide ((1:Int)≤s.length)&&decide ((s.length:Int)≤8)):=by
 have:s.all lowerB=true:=List.all_eq_true.2 h
 have h1:decide ((1:Int)≤s.length)=decide (1≤s.length):=by simp only [decide_eq_decide];omega
 have h2:decide ((s.length:Int)≤8)=decide (s.length≤8):=by simp only [decide_eq_decide];omega
 rw [bU,this,h1,h2,Bool.true_and]
theorem dW [aB Tryz.prog] (s:Str) (hl:s.length≤1099511627776):Ok Tryz.prog 64 [.str s] (.bool (bU s)):=by
 have h1:=eQ s.length 1 8
 refine ent Tryz.mix Tryz.func64 Tryz.ntmps64 ?_
 refine bA ?_
 refine aR (ι:={k:Nat // k≤s.length∧∀x∈s.take k,lowerB x=true}) (fun t o i=>⟨aS t [(3,.int .i64 i.1)],o⟩)
  (fun i=>s.length - i.1) ⟨0,by simp,by simp⟩ aO ?_
 rintro ⟨k,hk,hi⟩ K1 hK1
 simp only [aS,List.set_cons_succ,List.set_cons_zero] at hK1⊢
 have hk1:=wk1 (k:=k) (by omega)
 by_cases hlt:k < s.length
 ·have hg:=List.getElem?_eq_getElem hlt
  have W:=And.intro hk1 (And.intro hg hlt)
  repeat' first|refine st ?_|(refine nx ?_;refine so ?_)|(refine cx ?_;refine sc (fun hc=>?_) (fun hc=>?_)<;>try exact hc.elim)|(refine lx ?_;refine sp (fun hc=>?_) (fun hc=>?_)<;>try exact hc.elim)|refine sx ?_ ?_|refine sy ?_ ?_|fail
  ·skip
   all_goals (try (refine ⟨.inr rfl,?_⟩;simp [Hands,Tryz.results64]))
   rw [aV6 hlt (by assumption)]
  ·skip
   all_goals (try (refine ⟨.inr rfl,?_⟩;simp [Hands,Tryz.results64]))
   rw [aVx hlt (by assumption)]
  ·skip
   exact hK1 _ ⟨k+1,by omega,dK hlt hi (aN0 (by assumption) (by assumption))⟩ aO (by simp only;omega)
 ·have W:=hk1
  refine wl ?_
  all_goals (try (refine ⟨.inr rfl,?_⟩;simp [Hands,Tryz.results64]))
  rw [aRk (iQ (by omega) hi)]
theorem qH [aB Tryz.prog] (s:Str) (hl:s.length≤1099511627776):Ok Tryz.prog 82 [.str s] (.bool (bU s)):=by
 have h1:=aGq s.length 1 8
 refine ent Tryz.mix Tryz.func82 Tryz.ntmps82 ?_
 refine bA ?_
 refine aR (ι:={k:Nat // k≤s.length∧∀x∈s.take k,lowerB x=true}) (fun t o i=>⟨aS t [(3,.int .i64 i.1)],o⟩)
  (fun i=>s.length - i.1) ⟨0,by simp,by simp⟩ aO ?_
 rintro ⟨k,hk,hi⟩ K1 hK1
 simp only [aS,List.set_cons_succ,List.set_cons_zero] at hK1⊢
 have hk1:=wk1 (k:=k) (by omega)
 by_cases hlt:k < s.length
 ·have hg:=List.getElem?_eq_getElem hlt
  have W:=And.intro hk1 (And.intro hg hlt)
  repeat' first|refine st ?_|(refine nx ?_;refine so ?_)|(refine cx ?_;refine sc (fun hc=>?_) (fun hc=>?_)<;>try exact hc.elim)|(refine lx ?_;refine sp (fun hc=>?_) (fun hc=>?_)<;>try exact hc.elim)|refine sx ?_ ?_|refine sy ?_ ?_|fail
  ·skip
   all_goals (try (refine ⟨.inr rfl,?_⟩;simp [Hands,Tryz.results82]))
   rw [aV6 hlt (by assumption)]
  ·skip
   all_goals (try (refine ⟨.inr rfl,?_⟩;simp [Hands,Tryz.results82]))
   rw [aVx hlt (by assumption)]
  ·skip
   exact hK1 _ ⟨k+1,by omega,dK hlt hi (aN0 (by assumption) (by assumption))⟩ aO (by simp only;omega)
 ·have W:=hk1
  refine wl ?_
  all_goals (try (refine ⟨.inr rfl,?_⟩;simp [Hands,Tryz.results82]))
  rw [aRk (iQ (by omega) hi)]
theorem sQ [aB Tryz.prog] (a:aD) (hl:aI a≤1099511627776):Ok Tryz.prog 71 [.agg (aF a)] (.bool (nT a)):=by
 simp only [aI] at hl
 have h1:=dW a.host (by omega)
 have h2:=dW a.path (by omega)
 refine ent Tryz.mix Tryz.func71 Tryz.ntmps71 ?_
 have W:=trivial
 repeat' first|refine st ?_|(refine nx ?_;refine so ?_)|(refine cx ?_;refine sc (fun hc=>?_) (fun hc=>?_)<;>try exact hc.elim)|(refine lx ?_;refine sp (fun hc=>?_) (fun hc=>?_)<;>try exact hc.elim)|refine sx ?_ ?_|refine sy ?_ ?_|fail
 all_goals (try (refine ⟨.inr rfl,?_⟩;simp [Hands,Tryz.results71]))
 all_goals simp_all [nT]
theorem aAj [aB Tryz.prog] (a:aD) (hl:aI a≤1099511627776):Ok Tryz.prog 70 [.agg (aF a)] (.bool (nT a)):=by
 simp only [aI] at hl
 have h1:=qH a.host (by omega)
 have h2:=qH a.path (by omega)
 refine ent Tryz.mix Tryz.func70 Tryz.ntmps70 ?_
 have W:=trivial
 repeat' first|refine st ?_|(refine nx ?_;refine so ?_)|(refine cx ?_;refine sc (fun hc=>?_) (fun hc=>?_)<;>try exact hc.elim)|(refine lx ?_;refine sp (fun hc=>?_) (fun hc=>?_)<;>try exact hc.elim)|refine sx ?_ ?_|refine sy ?_ ?_|fail
 all_goals (try (refine ⟨.inr rfl,?_⟩;simp [Hands,Tryz.results70]))
 all_goals simp_all [nT]
end Go.Proofs.YtaddkhdghlaalaaGreatDoor
