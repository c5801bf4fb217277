/-
  Proved here: contracts of the library's Itoa and Join, and of FormatInt in the reference and in the program.
  No condition beyond what each statement spells out.
-/
import Derived.Test.YtlnblmmohpcceaaGreatDoorQMK6
import Derived.Test.YtlnblmmohpcceaaGreatDoorYShelf
import Derived.Test.YtlnblmmohpcceaaGreatDoorF5
import Derived.Test.YtlnblmmohpcceaaGreatDoorQU3
import Derived.Test.YtlnblmmohpcceaaGreatDoorF4
set_option linter.all false
set_option maxRecDepth 4000
set_option maxHeartbeats 400000
namespace Go.Proofs.YtlnblmmohpcceaaGreatDoor
open Go.Aw
theorem bEe [aA Tryz.prog] [dY Tryz.prog] (n:Int) (h: -9223372036854775808≤n∧n≤9223372036854775807):Ok Tryz.prog 311 [.int .i64 n] (.str (Lib.itoa n)):=bDs Tryz.laysM171 n h.1 h.2
theorem fE [aA Tryz.prog] [dY Tryz.prog] (n:Int) (h: -9223372036854775808≤n∧n≤9223372036854775807):Ok Tryz.prog 290 [.int .i64 n] (.str (Lib.itoa n)):=by
 have h1:=bEe n h
 refine ent Tryz.mix Tryz.func290 Tryz.ntmps290 ?_
 have W:=trivial
 repeat' first|refine wl ?_|(refine sq (fun hc=>?_) (fun hc=>?_)<;>try exact hc.elim)|fail
 all_goals (try (refine ⟨.inr rfl,?_⟩;simp [Hands,Tryz.results290]))
theorem fB [aA Tryz.prog] [dY Tryz.prog] (n:Int) (h: -9223372036854775808≤n∧n≤9223372036854775807):Ok Tryz.prog 262 [.int .i64 n] (.str (Lib.itoa n)):=by
 by_cases h0:n=0
 ·subst h0
  refine ent Tryz.mix Tryz.func262 Tryz.ntmps262 ?_
  have W:=trivial
  repeat' first|refine wl ?_|(refine sq (fun hc=>?_) (fun hc=>?_)<;>try exact hc.elim)|fail
  all_goals (try (refine ⟨.inr rfl,?_⟩;simp [Hands,Tryz.results262]))
  all_goals exact aZ7.symm
 ·refine ent Tryz.mix Tryz.func262 Tryz.ntmps262 ?_
  have W:=h0
  repeat' first|refine wl ?_|(refine sq (fun hc=>?_) (fun hc=>?_)<;>try exact hc.elim)|fail
  refine aM (ι:={p:Int×Str // (-9223372036854775808≤p.1∧p.1≤9223372036854775807)∧vD p.1.natAbs++p.2=vD n.natAbs}) (fun t o i=>⟨aO t [(4,.int .i64 i.1.1),(3,.str i.1.2),(5,.undef)],o⟩)
   (fun i=>i.1.1.natAbs) ⟨(n,[]),h,by simp⟩ (aH (by simp) (by simp)) ?_
  rintro ⟨⟨x,s⟩,⟨hx1,hx2⟩,hi⟩ K1 hK1
  simp only [aO,List.set_cons_succ,List.set_cons_zero] at hK1 hx1 hx2 hi⊢
  have hsl:=congrArg List.length hi
  have hnl:=bBa n h.1 h.2
  rw [List.length_append] at hsl
  have hs1:1+s.length≤9223372036854775807:=by omega
  have hs2:s.length≤9223372036854775806:=by omega
  clear hsl hnl
  by_cases hx:x=0
  ·subst hx
   have hs:s=vD n.natAbs:=by simpa [vD] using hi
   have W:=And.intro hs1 hs2
   repeat' first|refine wl ?_|(refine sq (fun hc=>?_) (fun hc=>?_)<;>try exact hc.elim)|fail
   ·all_goals (try (refine ⟨.inr rfl,?_⟩;simp [Hands,Tryz.results262]))
    exact (itoa_neg (by omega) hs).symm
   ·all_goals (try (refine ⟨.inr rfl,?_⟩;simp [Hands,Tryz.results262]))
    exact (bAy h0 (by omega) hs).symm
  ·obtain ⟨r,q,hr0,hr9,hq,hq1,hq2,hqa,hr,ht⟩:=aW3 x hx1 hx2
   have hp:=aZs x.natAbs (by omega)
   have hu8:=aY1 (48+r) (by omega) (by omega)
   have hb:UInt8.ofNat (48+r).toNat=UInt8.ofNat (48+x.natAbs % 10):=by congr 1;omega
   have hi2:vD q.natAbs++UInt8.ofNat (48+r).toNat::s=vD n.natAbs:=by rw [←hi,hp,hqa,hb];simp
   have hm:q.natAbs < x.natAbs:=by omega
   clear hr hb hp
   rcases ht with ht|⟨ht,hrp⟩
   ·have W:=And.intro hx (And.intro ht (And.intro hq (And.intro hu8 (And.intro hs1 hs2))))
    repeat' first|refine wl ?_|(refine sq (fun hc=>?_) (fun hc=>?_)<;>try exact hc.elim)|fail
    refine hK1 _ ⟨(q,UInt8.ofNat (48+r).toNat::s),⟨hq1,hq2⟩,hi2⟩ (aQ 0 (by simp) (by simp) (by simp) (by simp)) (by simp only;omega)
   ·have W:=And.intro hx (And.intro ht (And.intro hq (And.intro hu8 (And.intro hs1 hs2))))
    repeat' first|refine wl ?_|(refine sq (fun hc=>?_) (fun hc=>?_)<;>try exact hc.elim)|fail
    refine hK1 _ ⟨(q,UInt8.ofNat (48+r).toNat::s),⟨hq1,hq2⟩,hi2⟩ (aQ 0 (by simp) (by simp) (by simp) (by simp)) (by simp only;omega)
theorem gM [aA Tryz.prog] (a b c:Int):Ok Tryz.prog 114 [.int .i64 a,.int .i64 b,.int .i64 c] (.bool (decide (b≤a)&&decide (a≤c))):=by
 refine ent Tryz.mix Tryz.func114 Tryz.ntmps114 ?_
 have W:=trivial
 repeat' first|refine wl ?_|(refine sq (fun hc=>?_) (fun hc=>?_)<;>try exact hc.elim)|fail
 all_goals (try (refine ⟨.inr rfl,?_⟩;simp [Hands,Tryz.results114]))
 all_goals (first|(simp_all;done)|(simp_all;omega))
theorem jT [aA Tryz.prog] (a b c:Int):Ok Tryz.prog 122 [.int .i64 a,.int .i64 b,.int .i64 c] (.bool (decide (b≤a)&&decide (a≤c))):=by
 refine ent Tryz.mix Tryz.func122 Tryz.ntmps122 ?_
 have W:=trivial
 repeat' first|refine wl ?_|(refine sq (fun hc=>?_) (fun hc=>?_)<;>try exact hc.elim)|fail
 all_goals (try (refine ⟨.inr rfl,?_⟩;simp [Hands,Tryz.results122]))
 all_goals (first|(simp_all;done)|(simp_all;omega))
theorem aVr {s:Str} {k:Nat} (h:k < s.length) (hc:lowerB s[k]=false):bS s=false:=by
 have:s.all lowerB=false:=by
  rw [List.all_eq_false]
  exact ⟨s[k],List.getElem_mem h,by simp [hc]⟩
 simp [bS,this]
theorem aVn {s:Str} {k:Nat} (h:k < s.length) (hc:(s[k].toNat:Int) < 97):bS s=false:=aVr h (by simp [lowerB];omega)
theorem aV3 {s:Str} {k:Nat} (h:k < s.length) (hc:122 < (s[k].toNat:Int)):bS s=false:=aVr h (by simp [lowerB];omega)
theorem aM8 {c:UInt8} (h:97≤(c.toNat:Int)) (hc:(c.toNat:Int)≤122):lowerB c=true:=by simp [lowerB];omega
theorem aRf {s:Str} (h:∀x∈s,lowerB x=true):bS s=(decide ((1:Int)≤s.length)&&decide ((s.length:Int)≤8)):=by
 have:s.all lowerB=true:=List.all_eq_true.2 h
 have h1:decide ((1:Int)≤s.length)=decide (1≤s.length):=by simp only [decide_eq_decide];omega
 have h2:decide ((s.length:Int)≤8)=decide (s.length≤8):=by simp only [decide_eq_decide];omega
 rw [bS,this,h1,h2,Bool.true_and]
theorem eP [aA Tryz.prog] (s:Str) (hl:s.length≤1099511627776):Ok Tryz.prog 137 [.str s] (.bool (bS s)):=by
 have h1:=gM s.length 1 8
 refine ent Tryz.mix Tryz.func137 Tryz.ntmps137 ?_
 have W:=trivial
 repeat' first|refine wl ?_|(refine sq (fun hc=>?_) (fun hc=>?_)<;>try exact hc.elim)|fail
 refine aM (ι:={k:Nat // k≤s.length∧∀x∈s.take k,lowerB x=true}) (fun t o i=>⟨aO t [(3,.int .i64 i.1)],o⟩)
  (fun i=>s.length - i.1) ⟨0,by simp,by simp⟩ (aH (by simp) (by simp)) ?_
 rintro ⟨k,hk,hi⟩ K1 hK1
 simp only [aO,List.set_cons_succ,List.set_cons_zero] at hK1⊢
 have hk1:IntKind.i64.wrap ((k:Int)+1)=((k+1:Nat):Int):=by rw [wrap64]<;>omega
 by_cases hlt:k < s.length
 ·have hg:=List.getElem?_eq_getElem hlt
  have W:=And.intro hk1 (And.intro hg hlt)
  repeat' first|refine wl ?_|(refine sq (fun hc=>?_) (fun hc=>?_)<;>try exact hc.elim)|fail
  ·skip
   all_goals (try (refine ⟨.inr rfl,?_⟩;simp [Hands,Tryz.results137]))
   rw [aVn hlt (by assumption)]
  ·skip
   all_goals (try (refine ⟨.inr rfl,?_⟩;simp [Hands,Tryz.results137]))
   rw [aV3 hlt (by assumption)]
  ·skip
   exact hK1 _ ⟨k+1,by omega,dP hlt hi (aM8 (by assumption) (by assumption))⟩ (aH (by simp) (by simp)) (by simp only;omega)
 ·have W:=hk1
  repeat' first|refine wl ?_|(refine sq (fun hc=>?_) (fun hc=>?_)<;>try exact hc.elim)|fail
  all_goals (try (refine ⟨.inr rfl,?_⟩;simp [Hands,Tryz.results137]))
  rw [aRf (kG (by omega) hi)]
theorem gJ [aA Tryz.prog] (s:Str) (hl:s.length≤1099511627776):Ok Tryz.prog 121 [.str s] (.bool (bS s)):=by
 have h1:=jT s.length 1 8
 refine ent Tryz.mix Tryz.func121 Tryz.ntmps121 ?_
 have W:=trivial
 repeat' first|refine wl ?_|(refine sq (fun hc=>?_) (fun hc=>?_)<;>try exact hc.elim)|fail
 refine aM (ι:={k:Nat // k≤s.length∧∀x∈s.take k,lowerB x=true}) (fun t o i=>⟨aO t [(3,.int .i64 i.1)],o⟩)
  (fun i=>s.length - i.1) ⟨0,by simp,by simp⟩ (aH (by simp) (by simp)) ?_
 rintro ⟨k,hk,hi⟩ K1 hK1
 simp only [aO,List.set_cons_succ,List.set_cons_zero] at hK1⊢
 have hk1:IntKind.i64.wrap ((k:Int)+1)=((k+1:Nat):Int):=by rw [wrap64]<;>omega
 by_cases hlt:k < s.length
 ·have hg:=List.getElem?_eq_getElem hlt
  have W:=And.intro hk1 (And.intro hg hlt)
  repeat' first|refine wl ?_|(refine sq (fun hc=>?_) (fun hc=>?_)<;>try exact hc.elim)|fail
  ·skip
   all_goals (try (refine ⟨.inr rfl,?_⟩;simp [Hands,Tryz.results121]))
   rw [aVn hlt (by assumption)]
  ·skip
   all_goals (try (refine ⟨.inr rfl,?_⟩;simp [Hands,Tryz.results121]))
   rw [aV3 hlt (by assumption)]
  ·skip
   exact hK1 _ ⟨k+1,by omega,dP hlt hi (aM8 (by assumption) (by assumption))⟩ (aH (by simp) (by simp)) (by simp only;omega)
 ·have W:=hk1
  repeat' first|refine wl ?_|(refine sq (fun hc=>?_) (fun hc=>?_)<;>try exact hc.elim)|fail
  all_goals (try (refine ⟨.inr rfl,?_⟩;simp [Hands,Tryz.results121]))
  rw [aRf (kG (by omega) hi)]
theorem uO [aA Tryz.prog] (a:aK) (hl:aR a≤1099511627776):Ok Tryz.prog 42 [.agg (aF a)] (.bool (uG a)):=by
 simp only [aR] at hl
 have h1:=eP a.host (by omega)
 have h2:=eP a.path (by omega)
 refine ent Tryz.mix Tryz.func42 Tryz.ntmps42 ?_
 have W:=trivial
 repeat' first|refine wl ?_|(refine sq (fun hc=>?_) (fun hc=>?_)<;>try exact hc.elim)|fail
 all_goals (try (refine ⟨.inr rfl,?_⟩;simp [Hands,Tryz.results42]))
 all_goals simp_all [uG]
theorem uR [aA Tryz.prog] (a:aK) (hl:aR a≤1099511627776):Ok Tryz.prog 30 [.agg (aF a)] (.bool (uG a)):=by
 simp only [aR] at hl
 have h1:=gJ a.host (by omega)
 have h2:=gJ a.path (by omega)
 refine ent Tryz.mix Tryz.func30 Tryz.ntmps30 ?_
 have W:=trivial
 repeat' first|refine wl ?_|(refine sq (fun hc=>?_) (fun hc=>?_)<;>try exact hc.elim)|fail
 all_goals (try (refine ⟨.inr rfl,?_⟩;simp [Hands,Tryz.results30]))
 all_goals simp_all [uG]
end Go.Proofs.YtlnblmmohpcceaaGreatDoor
