/-
  Proved here: steps towards the statement of this claim, text T1.
  No condition beyond what each statement spells out.
-/
import Derived.Test.YtgkcdgaljknohaaGreatDoorSD1
import Derived.Test.YtgkcdgaljknohaaGreatDoorYShelf2
import Derived.Test.YtgkcdgaljknohaaGreatDoorF7
set_option linter.all false
set_option maxRecDepth 4000
set_option maxHeartbeats 4000000
namespace Go.Proofs.YtgkcdgaljknohaaGreatDoor
open Go.Aw
def pIntR (s:Str):AV:=match pInt s with|some v=> .tup [.int .i64 v,.bool true]|none=> .tup [.int .i64 0,.bool false]
theorem pIntR_none {s:Str} (h:pInt s=none):pIntR s= .tup [.int .i64 0,.bool false]:=by rw [pIntR,h]
theorem pIntR_some {s:Str} {v:Int} (h:pInt s=some v):pIntR s= .tup [.int .i64 v,.bool true]:=by rw [pIntR,h]
theorem pInt_long {s:Str} (h:¬(1≤s.length∧s.length≤13)):pInt s=none:=by
 cases hp:pInt s with
 |none=>rfl
 |some v=>
  obtain ⟨m,_,_,hs,hl,_⟩:=pInt_some hp
  have:=decDigits_ne m
  rw [←hs] at this
  exact absurd ⟨by have:=List.length_pos_iff.2 this;omega,hl⟩ h
theorem pInt_bad {s:Str} {k:Nat} (hk:k < s.length) (h:¬(48≤s[k].toNat∧s[k].toNat≤57)):pInt s=none:=by
 cases hp:pInt s with
 |none=>rfl
 |some v=>
  obtain ⟨m,_,_,hs,hl,hd⟩:=pInt_some hp
  have hd':Lib.decFrom 0 s=some m:=by
   unfold Lib.decNat at hd;split at hd
   ·cases hd
   ·exact hd
  obtain ⟨d,h2⟩:=Lib.digit_of_decFrom s 0 m hd' k s[k] (List.getElem?_eq_getElem hk)
  unfold Lib.digitVal at h2
  rw [if_neg h] at h2;cases h2
theorem pInt_all {s:Str} {m:Nat} (h0:s≠[]) (hl:s.length≤13) (h:Lib.decFrom 0 s=some m):pInt s=if m≤1000000000000∧Lib.decDigits m=s then some (m:Int) else none:=by
 have:Lib.decNat s=some m:=by unfold Lib.decNat;rw [if_neg (by simpa using h0)];exact h
 simp [pInt,this,hl]
theorem itoa_nat (m:Nat):Lib.itoa (m:Int)=Lib.decDigits m:=by
 unfold Lib.itoa
 rw [if_neg (by omega)];rfl
theorem specParseInt_ok [Tabs Tryz.prog] [HasPow Tryz.prog] (s:Str) (hl:s.length≤1099511627776):Ok Tryz.prog 176 [.str s] (pIntR s):=by
 have c1:=specIn_ok (s.length:Int) 1 13
 by_cases h1:1≤s.length∧s.length≤13
 ·rw [show (decide ((1:Int)≤(s.length:Int))&&decide ((s.length:Int)≤13))=true by simp;omega] at c1
  have h0:s≠[]:=by intro e;rw [e] at h1;simp at h1
  refine ent Tryz.mix Tryz.func176 Tryz.ntmps176 ?_
  have W:=trivial
  repeat' first|refine we ?_|refine sq (fun hc=>?_) fun hc=>?_|fail
  refine awp_loop' (ι:={p:Nat×Nat // p.1≤s.length∧Lib.decFrom 0 (s.take p.1)=some p.2}) (fun t o i=>⟨upds t [(4,.int .i64 (i.1.2:Int)),(5,.int .i64 (i.1.1:Int))],o⟩)
   (fun i=>s.length - i.1.1) ⟨(0,0),by simp,by simp [Lib.decFrom]⟩ (weak_o (by simp) (by simp)) ?_
  rintro ⟨⟨k,m⟩,⟨hk,hi⟩⟩ K1 hK1
  simp only [upds,List.set_cons_succ,List.set_cons_zero] at hK1 hk hi⊢
  have hk1:IntKind.i64.wrap ((k:Int)+1)=((k+1:Nat):Int):=by rw [wrap64]<;>omega
  have hm13:m < 10000000000000:=by
   have h2:=decFrom_lt' hi
   have h3:(10:Nat) ^ (s.take k).length≤10 ^ 13:=Nat.pow_le_pow_right (by decide) (by simp;omega)
   omega
  by_cases hlt:k < s.length
  ·have hg:=List.getElem?_eq_getElem hlt
   have c2:=specIn_ok (s[k].toNat:Int) 48 57
   have hu:s[k].toNat < 256:=s[k].toNat_lt
   by_cases hd:48≤s[k].toNat∧s[k].toNat≤57
   ·have hb:(decide ((48:Int)≤(s[k].toNat:Int))&&decide ((s[k].toNat:Int)≤57))=true:=by simp;omega
    rw [hb] at c2
    have hw1:IntKind.u8.wrap ((s[k].toNat:Int) - 48)=((s[k].toNat - 48:Nat):Int):=by rw [wrapU8]<;>omega
    have hw2:IntKind.i64.wrap ((s[k].toNat - 48:Nat):Int)=((s[k].toNat - 48:Nat):Int):=by rw [wrap64]<;>omega
    have hw3:IntKind.i64.wrap (10 * (m:Int))=((10 * m:Nat):Int):=by rw [wrap64]<;>omega
    have hw4:IntKind.i64.wrap (((10 * m:Nat):Int)+((s[k].toNat - 48:Nat):Int))=((m * 10+(s[k].toNat - 48):Nat):Int):=by rw [wrap64]<;>omega
    have hw5:IntKind.i64.wrap (s[k].toNat:Int)=(s[k].toNat:Int):=by rw [wrap64]<;>omega
    have hn:=Lib.decFrom_take s k 0 m s[k] _ hi hg (show Lib.digitVal s[k]=some (s[k].toNat - 48) by unfold Lib.digitVal;rw [if_pos hd])
    have W:=And.intro hk1 (And.intro hg (And.intro hlt (And.intro hw1 (And.intro hw2 (And.intro hw3 (And.intro hw4 hw5))))))
    repeat' first|refine we ?_|refine sq (fun hc=>?_) fun hc=>?_|fail
    exact hK1 _ ⟨(k+1,m * 10+(s[k].toNat - 48)),by simp only;omega,hn⟩ (weak_o (by simp) (by simp;try omega)) (by simp only;omega)
   ·have hb:(decide ((48:Int)≤(s[k].toNat:Int))&&decide ((s[k].toNat:Int)≤57))=false:=by
     simp only [Bool.and_eq_false_iff,decide_eq_false_iff_not];omega
    rw [hb] at c2
    have hw5:IntKind.i64.wrap (s[k].toNat:Int)=(s[k].toNat:Int):=by rw [wrap64]<;>omega
    rw [pIntR_none (pInt_bad hlt hd)] at *
    have W:=And.intro hk1 (And.intro hg (And.intro hlt hw5))
    repeat' first|refine we ?_|refine sq (fun hc=>?_) fun hc=>?_|fail
    all_goals (try (refine ⟨.inr rfl,?_⟩;simp [Hands,Tryz.results176]))
  ·have hke:k=s.length:=by omega
   subst hke
   rw [List.take_length] at hi
   have hp:=pInt_all h0 h1.2 hi
   have c3:=specFormatInt_ok (m:Int) (by omega)
   rw [itoa_nat] at c3
   by_cases hm:m≤1000000000000
   ·by_cases he:Lib.decDigits m=s
    ·rw [if_pos ⟨hm,he⟩] at hp
     rw [pIntR_some hp] at *
     have hm':¬(1000000000000:Int) < (m:Int):=by omega
     have W:=And.intro hm' he
     repeat' first|refine we ?_|refine sq (fun hc=>?_) fun hc=>?_|fail
     all_goals (try (refine ⟨.inr rfl,?_⟩;simp [Hands,Tryz.results176]))
    ·rw [if_neg (fun h=>he h.2)] at hp
     rw [pIntR_none hp] at *
     have hm':¬(1000000000000:Int) < (m:Int):=by omega
     have W:=And.intro hm' he
     repeat' first|refine we ?_|refine sq (fun hc=>?_) fun hc=>?_|fail
     all_goals first
      |exact absurd ‹Lib.decDigits m=s› he
      |skip
     all_goals (try (refine ⟨.inr rfl,?_⟩;simp [Hands,Tryz.results176]))
   ·rw [if_neg (fun h=>hm h.1)] at hp
    rw [pIntR_none hp] at *
    have hm':(1000000000000:Int) < (m:Int):=by omega
    have W:=hm'
    repeat' first|refine we ?_|refine sq (fun hc=>?_) fun hc=>?_|fail
    all_goals (try (refine ⟨.inr rfl,?_⟩;simp [Hands,Tryz.results176]))
 ·rw [show (decide ((1:Int)≤(s.length:Int))&&decide ((s.length:Int)≤13))=false by simp only [Bool.and_eq_false_iff,decide_eq_false_iff_not];omega] at c1
  rw [pIntR_none (pInt_long h1)]
  refine ent Tryz.mix Tryz.func176 Tryz.ntmps176 ?_
  have W:=trivial
  repeat' first|refine we ?_|refine sq (fun hc=>?_) fun hc=>?_|fail
  all_goals (try (refine ⟨.inr rfl,?_⟩;simp [Hands,Tryz.results176]))
end Go.Proofs.YtgkcdgaljknohaaGreatDoor
