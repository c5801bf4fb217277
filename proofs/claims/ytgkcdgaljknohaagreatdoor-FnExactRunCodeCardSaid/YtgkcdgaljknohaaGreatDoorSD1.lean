/-
  Proved here: contracts of the library's Itoa and Join, and of FormatInt in the reference and in the program.
  No condition beyond what each statement spells out.
-/
import Derived.Test.YtgkcdgaljknohaaGreatDoorSMK5
import Derived.Test.YtgkcdgaljknohaaGreatDoorYShelf
import Derived.Test.YtgkcdgaljknohaaGreatDoorF5
import Derived.Test.YtgkcdgaljknohaaGreatDoorU3
import Derived.Test.YtgkcdgaljknohaaGreatDoorF4
set_option linter.all false
set_option maxRecDepth 4000
set_option maxHeartbeats 400000
namespace Go.Proofs.YtgkcdgaljknohaaGreatDoor
open Go.Aw
theorem itoa_ok [Tabs Tryz.prog] [HasPow Tryz.prog] (n:Int) (h: -9223372036854775808≤n∧n≤9223372036854775807):Ok Tryz.prog 270 [.int .i64 n] (.str (Lib.itoa n)):=ok_itoa Tryz.laysM171 n h.1 h.2
theorem implFormatInt_ok [Tabs Tryz.prog] [HasPow Tryz.prog] (n:Int) (h: -9223372036854775808≤n∧n≤9223372036854775807):Ok Tryz.prog 237 [.int .i64 n] (.str (Lib.itoa n)):=by
 have h1:=itoa_ok n h
 refine ent Tryz.mix Tryz.func237 Tryz.ntmps237 ?_
 have W:=trivial
 repeat' first|refine wl ?_|refine sq (fun hc=>?_) fun hc=>?_|fail
 all_goals (try (refine ⟨.inr rfl,?_⟩;simp [Hands,Tryz.results237]))
theorem specFormatInt_ok [Tabs Tryz.prog] [HasPow Tryz.prog] (n:Int) (h: -9223372036854775808≤n∧n≤9223372036854775807):Ok Tryz.prog 173 [.int .i64 n] (.str (Lib.itoa n)):=by
 by_cases h0:n=0
 ·subst h0
  refine ent Tryz.mix Tryz.func173 Tryz.ntmps173 ?_
  have W:=trivial
  repeat' first|refine wl ?_|refine sq (fun hc=>?_) fun hc=>?_|fail
  all_goals (try (refine ⟨.inr rfl,?_⟩;simp [Hands,Tryz.results173]))
  all_goals exact itoa_zero.symm
 ·refine ent Tryz.mix Tryz.func173 Tryz.ntmps173 ?_
  have W:=h0
  repeat' first|refine wl ?_|refine sq (fun hc=>?_) fun hc=>?_|fail
  refine awp_loop' (ι:={p:Int×Str // (-9223372036854775808≤p.1∧p.1≤9223372036854775807)∧preD p.1.natAbs++p.2=preD n.natAbs}) (fun t o i=>⟨upds t [(4,.int .i64 i.1.1),(3,.str i.1.2),(5,.undef)],o⟩)
   (fun i=>i.1.1.natAbs) ⟨(n,[]),h,by simp⟩ (weak_o (by simp) (by simp)) ?_
  rintro ⟨⟨x,s⟩,⟨hx1,hx2⟩,hi⟩ K1 hK1
  simp only [upds,List.set_cons_succ,List.set_cons_zero] at hK1 hx1 hx2 hi⊢
  have hsl:=congrArg List.length hi
  have hnl:=preD_len n h.1 h.2
  rw [List.length_append] at hsl
  have hs1:1+s.length≤9223372036854775807:=by omega
  have hs2:s.length≤9223372036854775806:=by omega
  clear hsl hnl
  by_cases hx:x=0
  ·subst hx
   have hs:s=preD n.natAbs:=by simpa [preD] using hi
   have W:=And.intro hs1 hs2
   repeat' first|refine wl ?_|refine sq (fun hc=>?_) fun hc=>?_|fail
   ·all_goals (try (refine ⟨.inr rfl,?_⟩;simp [Hands,Tryz.results173]))
    exact (itoa_neg (by omega) hs).symm
   ·all_goals (try (refine ⟨.inr rfl,?_⟩;simp [Hands,Tryz.results173]))
    exact (itoa_pos h0 (by omega) hs).symm
  ·obtain ⟨r,q,hr0,hr9,hq,hq1,hq2,hqa,hr,ht⟩:=tmod_cases x hx1 hx2
   have hp:=preD_step x.natAbs (by omega)
   have hu8:=wrapU8 (48+r) (by omega) (by omega)
   have hb:UInt8.ofNat (48+r).toNat=UInt8.ofNat (48+x.natAbs % 10):=by congr 1;omega
   have hi2:preD q.natAbs++UInt8.ofNat (48+r).toNat::s=preD n.natAbs:=by rw [←hi,hp,hqa,hb];simp
   have hm:q.natAbs < x.natAbs:=by omega
   clear hr hb hp
   rcases ht with ht|⟨ht,hrp⟩
   ·have W:=And.intro hx (And.intro ht (And.intro hq (And.intro hu8 (And.intro hs1 hs2))))
    repeat' first|refine wl ?_|refine sq (fun hc=>?_) fun hc=>?_|fail
    refine hK1 _ ⟨(q,UInt8.ofNat (48+r).toNat::s),⟨hq1,hq2⟩,hi2⟩ (weak_take 0 (by simp) (by simp) (by simp) (by simp)) (by simp only;omega)
   ·have W:=And.intro hx (And.intro ht (And.intro hq (And.intro hu8 (And.intro hs1 hs2))))
    repeat' first|refine wl ?_|refine sq (fun hc=>?_) fun hc=>?_|fail
    refine hK1 _ ⟨(q,UInt8.ofNat (48+r).toNat::s),⟨hq1,hq2⟩,hi2⟩ (weak_take 0 (by simp) (by simp) (by simp) (by simp)) (by simp only;omega)
end Go.Proofs.YtgkcdgaljknohaaGreatDoor

set_option maxRecDepth 4000
set_option maxHeartbeats 400000
namespace Go.Proofs.YtgkcdgaljknohaaGreatDoor
open Go.Aw
theorem specIn_ok [Tabs Tryz.prog] (a b c:Int):Ok Tryz.prog 77 [.int .i64 a,.int .i64 b,.int .i64 c] (.bool (decide (b≤a)&&decide (a≤c))):=by
 refine ent Tryz.mix Tryz.func77 Tryz.ntmps77 ?_
 have W:=trivial
 repeat' first|refine wl ?_|refine sq (fun hc=>?_) fun hc=>?_|fail
 all_goals (try (refine ⟨.inr rfl,?_⟩;simp [Hands,Tryz.results77]))
 all_goals (first|(simp_all;done)|(simp_all;omega))
theorem implIn_ok [Tabs Tryz.prog] (a b c:Int):Ok Tryz.prog 235 [.int .i64 a,.int .i64 b,.int .i64 c] (.bool (decide (b≤a)&&decide (a≤c))):=by
 refine ent Tryz.mix Tryz.func235 Tryz.ntmps235 ?_
 have W:=trivial
 repeat' first|refine wl ?_|refine sq (fun hc=>?_) fun hc=>?_|fail
 all_goals (try (refine ⟨.inr rfl,?_⟩;simp [Hands,Tryz.results235]))
 all_goals (first|(simp_all;done)|(simp_all;omega))
theorem name_no {s:Str} {k:Nat} (h:k < s.length) (hc:lowerB s[k]=false):isName s=false:=by
 have:s.all lowerB=false:=by
  rw [List.all_eq_false]
  exact ⟨s[k],List.getElem_mem h,by simp [hc]⟩
 simp [isName,this]
theorem name_lo {s:Str} {k:Nat} (h:k < s.length) (hc:(s[k].toNat:Int) < 97):isName s=false:=name_no h (by simp [lowerB];omega)
theorem name_hi {s:Str} {k:Nat} (h:k < s.length) (hc:122 < (s[k].toNat:Int)):isName s=false:=name_no h (by simp [lowerB];omega)
theorem lower_mid {c:UInt8} (h:97≤(c.toNat:Int)) (hc:(c.toNat:Int)≤122):lowerB c=true:=by simp [lowerB];omega
theorem name_end {s:Str} (h:∀x∈s,lowerB x=true):isName s=(decide ((1:Int)≤s.length)&&decide ((s.length:Int)≤8)):=by
 have:s.all lowerB=true:=List.all_eq_true.2 h
 have h1:decide ((1:Int)≤s.length)=decide (1≤s.length):=by simp only [decide_eq_decide];omega
 have h2:decide ((s.length:Int)≤8)=decide (s.length≤8):=by simp only [decide_eq_decide];omega
 rw [isName,this,h1,h2,Bool.true_and]
theorem specIsName_ok [Tabs Tryz.prog] (s:Str) (hl:s.length≤1099511627776):Ok Tryz.prog 171 [.str s] (.bool (isName s)):=by
 have h1:=specIn_ok s.length 1 8
 refine ent Tryz.mix Tryz.func171 Tryz.ntmps171 ?_
 have W:=trivial
 repeat' first|refine wl ?_|refine sq (fun hc=>?_) fun hc=>?_|fail
 refine awp_loop' (ι:={k:Nat // k≤s.length∧∀x∈s.take k,lowerB x=true}) (fun t o i=>⟨upds t [(3,.int .i64 i.1)],o⟩)
  (fun i=>s.length - i.1) ⟨0,by simp,by simp⟩ (weak_o (by simp) (by simp)) ?_
 rintro ⟨k,hk,hi⟩ K1 hK1
 simp only [upds,List.set_cons_succ,List.set_cons_zero] at hK1⊢
 have hk1:IntKind.i64.wrap ((k:Int)+1)=((k+1:Nat):Int):=by rw [wrap64]<;>omega
 by_cases hlt:k < s.length
 ·have hg:=List.getElem?_eq_getElem hlt
  have W:=And.intro hk1 (And.intro hg hlt)
  repeat' first|refine wl ?_|refine sq (fun hc=>?_) fun hc=>?_|fail
  ·skip
   all_goals (try (refine ⟨.inr rfl,?_⟩;simp [Hands,Tryz.results171]))
   rw [name_lo hlt (by assumption)]
  ·skip
   all_goals (try (refine ⟨.inr rfl,?_⟩;simp [Hands,Tryz.results171]))
   rw [name_hi hlt (by assumption)]
  ·skip
   exact hK1 _ ⟨k+1,by omega,take_succ_all hlt hi (lower_mid (by assumption) (by assumption))⟩ (weak_o (by simp) (by simp)) (by simp only;omega)
 ·have W:=hk1
  repeat' first|refine wl ?_|refine sq (fun hc=>?_) fun hc=>?_|fail
  all_goals (try (refine ⟨.inr rfl,?_⟩;simp [Hands,Tryz.results171]))
  rw [name_end (take_all (by omega) hi)]
theorem implIsName_ok [Tabs Tryz.prog] (s:Str) (hl:s.length≤1099511627776):Ok Tryz.prog 185 [.str s] (.bool (isName s)):=by
 have h1:=implIn_ok s.length 1 8
 refine ent Tryz.mix Tryz.func185 Tryz.ntmps185 ?_
 have W:=trivial
 repeat' first|refine wl ?_|refine sq (fun hc=>?_) fun hc=>?_|fail
 refine awp_loop' (ι:={k:Nat // k≤s.length∧∀x∈s.take k,lowerB x=true}) (fun t o i=>⟨upds t [(3,.int .i64 i.1)],o⟩)
  (fun i=>s.length - i.1) ⟨0,by simp,by simp⟩ (weak_o (by simp) (by simp)) ?_
 rintro ⟨k,hk,hi⟩ K1 hK1
 simp only [upds,List.set_cons_succ,List.set_cons_zero] at hK1⊢
 have hk1:IntKind.i64.wrap ((k:Int)+1)=((k+1:Nat):Int):=by rw [wrap64]<;>omega
 by_cases hlt:k < s.length
 ·have hg:=List.getElem?_eq_getElem hlt
  have W:=And.intro hk1 (And.intro hg hlt)
  repeat' first|refine wl ?_|refine sq (fun hc=>?_) fun hc=>?_|fail
  ·skip
   all_goals (try (refine ⟨.inr rfl,?_⟩;simp [Hands,Tryz.results185]))
   rw [name_lo hlt (by assumption)]
  ·skip
   all_goals (try (refine ⟨.inr rfl,?_⟩;simp [Hands,Tryz.results185]))
   rw [name_hi hlt (by assumption)]
  ·skip
   exact hK1 _ ⟨k+1,by omega,take_succ_all hlt hi (lower_mid (by assumption) (by assumption))⟩ (weak_o (by simp) (by simp)) (by simp only;omega)
 ·have W:=hk1
  repeat' first|refine wl ?_|refine sq (fun hc=>?_) fun hc=>?_|fail
  all_goals (try (refine ⟨.inr rfl,?_⟩;simp [Hands,Tryz.results185]))
  rw [name_end (take_all (by omega) hi)]
end Go.Proofs.YtgkcdgaljknohaaGreatDoor
