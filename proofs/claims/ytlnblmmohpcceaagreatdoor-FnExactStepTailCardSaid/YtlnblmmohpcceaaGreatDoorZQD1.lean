/- Proved here: steps towards the statement of this claim. No condition. -/
import Derived.Test.YtlnblmmohpcceaaGreatDoorZYShelf
import Derived.Test.YtlnblmmohpcceaaGreatDoorZF5
import Derived.Test.YtlnblmmohpcceaaGreatDoorZQU3
set_option linter.all false
set_option maxRecDepth 4000
set_option maxHeartbeats 400000
namespace Go.Proofs.YtlnblmmohpcceaaGreatDoor
open Go.Aw Proofs.Tryz List IntKind
theorem aDe [aD prog] [fV prog] (n:Int) (h: -9223372036854775808<=n/\n<=9223372036854775807):Ok prog 311 [.int .i64 n] (.str (Lib.itoa n)):=aCm Tryz.laysM171 n h.1 h.2
theorem eQ [aD prog] [fV prog] (n:Int) (h: -9223372036854775808<=n/\n<=9223372036854775807):Ok prog 290 [.int .i64 n] (.str (Lib.itoa n)):=by
 have h1:=aDe n h
 refine bR aAc func290 ntmps290 ?_
 have W:=trivial
 repeat' first|refine wl ?_|(refine sq ?_ ?_<;>intro hc<;>try exact hc.elim)|fail
 all_goals try(refine ⟨.inr rfl,?_⟩;simp [aB,results290])
theorem eT [aD prog] [fV prog] (n:Int) (h: -9223372036854775808<=n/\n<=9223372036854775807):Ok prog 262 [.int .i64 n] (.str (Lib.itoa n)):=by
 by_cases h0:n=0
 ·subst h0
  refine bR aAc func262 ntmps262 ?_
  have W:=trivial
  repeat' first|refine wl ?_|(refine sq ?_ ?_<;>intro hc<;>try exact hc.elim)|fail
  all_goals try(refine ⟨.inr rfl,?_⟩;simp [aB,results262])
  all_goals exact fw.symm
 ·refine bR aAc func262 ntmps262 ?_
  have W:=h0
  repeat' first|refine wl ?_|(refine sq ?_ ?_<;>intro hc<;>try exact hc.elim)|fail
  refine aJ (ι:={p:Int×bC // (-9223372036854775808<=p.1/\p.1<=9223372036854775807)/\Fq p.1.natAbs++p.2=Fq n.natAbs}) (fun t o i=>⟨aZ t [(4,.int .i64 i.1.1),(3,.str i.1.2),(5,.undef)],o⟩)
   (fun i=>i.1.1.natAbs) ⟨(n,[]),h,by simp⟩ (aI (by simp) (by simp)) ?_
  rintro ⟨⟨x,s⟩,⟨hx1,hx2⟩,hi⟩ K1 hK1
  simp only [aZ,set_cons_succ,set_cons_zero] at hK1 hx1 hx2 hi⊢
  have hsl:=congrArg length hi
  have hnl:=D8 n h.1 h.2
  rw [length_append] at hsl
  have hs1:1+s.length<=9223372036854775807:=by omega
  have hs2:s.length<=9223372036854775806:=by omega
  clear hsl hnl
  by_cases hx:x=0
  ·subst hx
   have hs:s=Fq n.natAbs:=by simpa [Fq] using hi
   have W:=aA hs1 hs2
   repeat' first|refine wl ?_|(refine sq ?_ ?_<;>intro hc<;>try exact hc.elim)|fail
   ·all_goals try(refine ⟨.inr rfl,?_⟩;simp [aB,results262])
    exact (itoa_neg (by omega) hs).symm
   ·all_goals try(refine ⟨.inr rfl,?_⟩;simp [aB,results262])
    exact (D6 h0 (by omega) hs).symm
  ·obtain ⟨r,q,hr0,hr9,hq,hq1,hq2,hqa,hr,ht⟩:=XL x hx1 hx2
   have hp:=fu x.natAbs (by omega)
   have hu8:=D7 (48+r) (by omega) (by omega)
   have hb:UInt8.ofNat (48+r).toNat=UInt8.ofNat (48+x.natAbs % 10):=by congr 1;omega
   have hi2:Fq q.natAbs++UInt8.ofNat (48+r).toNat::s=Fq n.natAbs:=by rw [<-hi,hp,hqa,hb];simp
   have hm:q.natAbs < x.natAbs:=by omega
   clear hr hb hp
   rcases ht with ht|⟨ht,Tc⟩
   ·have W:=aA hx (aA ht (aA hq (aA hu8 (aA hs1 hs2))))
    repeat' first|refine wl ?_|(refine sq ?_ ?_<;>intro hc<;>try exact hc.elim)|fail
    refine hK1 _ ⟨(q,UInt8.ofNat (48+r).toNat::s),⟨hq1,hq2⟩,hi2⟩ (aS 0 (by simp) (by simp) (by simp) (by simp)) (by simp only;omega)
   ·have W:=aA hx (aA ht (aA hq (aA hu8 (aA hs1 hs2))))
    repeat' first|refine wl ?_|(refine sq ?_ ?_<;>intro hc<;>try exact hc.elim)|fail
    refine hK1 _ ⟨(q,UInt8.ofNat (48+r).toNat::s),⟨hq1,hq2⟩,hi2⟩ (aS 0 (by simp) (by simp) (by simp) (by simp)) (by simp only;omega)
theorem iA [aD prog] (a b c:Int):Ok prog 114 [.int .i64 a,.int .i64 b,.int .i64 c] (.bool (decide (b<=a)&&decide (a<=c))):=by
 refine bR aAc func114 ntmps114 ?_
 have W:=trivial
 repeat' first|refine wl ?_|(refine sq ?_ ?_<;>intro hc<;>try exact hc.elim)|fail
 all_goals try(refine ⟨.inr rfl,?_⟩;simp [aB,results114])
 all_goals (first|(simp_all;done)|(simp_all;omega))
theorem kX [aD prog] (a b c:Int):Ok prog 122 [.int .i64 a,.int .i64 b,.int .i64 c] (.bool (decide (b<=a)&&decide (a<=c))):=by
 refine bR aAc func122 ntmps122 ?_
 have W:=trivial
 repeat' first|refine wl ?_|(refine sq ?_ ?_<;>intro hc<;>try exact hc.elim)|fail
 all_goals try(refine ⟨.inr rfl,?_⟩;simp [aB,results122])
 all_goals (first|(simp_all;done)|(simp_all;omega))
theorem ZM {s:bC} {k:Nat} (h:k < s.length) (hc:lowerB s[k]=false):dJ s=false:=by
 have:s.all lowerB=false:=by
  rw [all_eq_false]
  exact ⟨s[k],getElem_mem h,by simp [hc]⟩
 simp [dJ,this]
theorem ZN {s:bC} {k:Nat} (h:k < s.length) (hc:(s[k].toNat:Int) < 97):dJ s=false:=ZM h (by simp [lowerB];omega)
theorem ZO {s:bC} {k:Nat} (h:k < s.length) (hc:122 < (s[k].toNat:Int)):dJ s=false:=ZM h (by simp [lowerB];omega)
theorem Rf {c:UInt8} (h:97<=(c.toNat:Int)) (hc:(c.toNat:Int)<=122):lowerB c=true:=by simp [lowerB];omega
theorem Vz {s:bC} (h:∀x∈s,lowerB x=true):dJ s=(decide ((1:Int)<=s.length)&&decide ((s.length:Int)<=8)):=by
 have:s.all lowerB=true:=all_eq_true.2 h
 have h1:decide ((1:Int)<=s.length)=decide (1<=s.length):=by simp only [decide_eq_decide];omega
 have h2:decide ((s.length:Int)<=8)=decide (s.length<=8):=by simp only [decide_eq_decide];omega
 rw [dJ,this,h1,h2,Bool.true_and]
theorem eP [aD prog] (s:bC) (hl:s.length<=1099511627776):Ok prog 137 [.str s] (.bool (dJ s)):=by
 have h1:=iA s.length 1 8
 refine bR aAc func137 ntmps137 ?_
 have W:=trivial
 repeat' first|refine wl ?_|(refine sq ?_ ?_<;>intro hc<;>try exact hc.elim)|fail
 refine aJ (ι:={k:Nat // k<=s.length/\∀x∈s.take k,lowerB x=true}) (fun t o i=>⟨aZ t [(3,.int .i64 i.1)],o⟩)
  (fun i=>s.length - i.1) ⟨0,by simp,by simp⟩ (aI (by simp) (by simp)) ?_
 rintro ⟨k,hk,hi⟩ K1 hK1
 simp only [aZ,set_cons_succ,set_cons_zero] at hK1⊢
 have hk1:i64.wrap ((k:Int)+1)=((k+1:Nat):Int):=by rw [wrap64]<;>omega
 by_cases hlt:k < s.length
 ·have hg:=getElem?_eq_getElem hlt
  have W:=aA hk1 (aA hg hlt)
  repeat' first|refine wl ?_|(refine sq ?_ ?_<;>intro hc<;>try exact hc.elim)|fail
  ·skip
   all_goals try(refine ⟨.inr rfl,?_⟩;simp [aB,results137])
   rw [ZN hlt (by assumption)]
  ·skip
   all_goals try(refine ⟨.inr rfl,?_⟩;simp [aB,results137])
   rw [ZO hlt (by assumption)]
  ·skip
   exact hK1 _ ⟨k+1,by omega,dS hlt hi (Rf (by assumption) (by assumption))⟩ (aI (by simp) (by simp)) (by simp only;omega)
 ·have W:=hk1
  repeat' first|refine wl ?_|(refine sq ?_ ?_<;>intro hc<;>try exact hc.elim)|fail
  all_goals try(refine ⟨.inr rfl,?_⟩;simp [aB,results137])
  rw [Vz (lW (by omega) hi)]
theorem gJ [aD prog] (s:bC) (hl:s.length<=1099511627776):Ok prog 121 [.str s] (.bool (dJ s)):=by
 have h1:=kX s.length 1 8
 refine bR aAc func121 ntmps121 ?_
 have W:=trivial
 repeat' first|refine wl ?_|(refine sq ?_ ?_<;>intro hc<;>try exact hc.elim)|fail
 refine aJ (ι:={k:Nat // k<=s.length/\∀x∈s.take k,lowerB x=true}) (fun t o i=>⟨aZ t [(3,.int .i64 i.1)],o⟩)
  (fun i=>s.length - i.1) ⟨0,by simp,by simp⟩ (aI (by simp) (by simp)) ?_
 rintro ⟨k,hk,hi⟩ K1 hK1
 simp only [aZ,set_cons_succ,set_cons_zero] at hK1⊢
 have hk1:i64.wrap ((k:Int)+1)=((k+1:Nat):Int):=by rw [wrap64]<;>omega
 by_cases hlt:k < s.length
 ·have hg:=getElem?_eq_getElem hlt
  have W:=aA hk1 (aA hg hlt)
  repeat' first|refine wl ?_|(refine sq ?_ ?_<;>intro hc<;>try exact hc.elim)|fail
  ·skip
   all_goals try(refine ⟨.inr rfl,?_⟩;simp [aB,results121])
   rw [ZN hlt (by assumption)]
  ·skip
   all_goals try(refine ⟨.inr rfl,?_⟩;simp [aB,results121])
   rw [ZO hlt (by assumption)]
  ·skip
   exact hK1 _ ⟨k+1,by omega,dS hlt hi (Rf (by assumption) (by assumption))⟩ (aI (by simp) (by simp)) (by simp only;omega)
 ·have W:=hk1
  repeat' first|refine wl ?_|(refine sq ?_ ?_<;>intro hc<;>try exact hc.elim)|fail
  all_goals try(refine ⟨.inr rfl,?_⟩;simp [aB,results121])
  rw [Vz (lW (by omega) hi)]
theorem vU [aD prog] (a:aT) (hl:aV a<=1099511627776):Ok prog 42 [.agg (aK a)] (.bool (yO a)):=by
 simp only [aV] at hl
 have h1:=eP a.host (by omega)
 have h2:=eP a.path (by omega)
 refine bR aAc func42 ntmps42 ?_
 have W:=trivial
 repeat' first|refine wl ?_|(refine sq ?_ ?_<;>intro hc<;>try exact hc.elim)|fail
 all_goals try(refine ⟨.inr rfl,?_⟩;simp [aB,results42])
 all_goals simp_all [yO]
theorem vV [aD prog] (a:aT) (hl:aV a<=1099511627776):Ok prog 30 [.agg (aK a)] (.bool (yO a)):=by
 simp only [aV] at hl
 have h1:=gJ a.host (by omega)
 have h2:=gJ a.path (by omega)
 refine bR aAc func30 ntmps30 ?_
 have W:=trivial
 repeat' first|refine wl ?_|(refine sq ?_ ?_<;>intro hc<;>try exact hc.elim)|fail
 all_goals try(refine ⟨.inr rfl,?_⟩;simp [aB,results30])
 all_goals simp_all [yO]
end Go.Proofs.YtlnblmmohpcceaaGreatDoor
