/-
  Proved here: steps towards the statement of this claim, text QT1.
  No condition beyond what each statement spells out.
-/
import Derived.Test.YtaddkhdghlaalaaGreatDoorQD1
import Derived.Test.YtaddkhdghlaalaaGreatDoorYShelf2
import Derived.Test.YtaddkhdghlaalaaGreatDoorF7
import Derived.WalkKit
import Derived.BigCall
import Derived.Test.YtaddkhdghlaalaaGreatDoorF4
set_option linter.all false
set_option maxRecDepth 4000
set_option maxHeartbeats 4000000
namespace Go.Proofs.YtaddkhdghlaalaaGreatDoor
open Go.Aw
def aJ5 (s:Str):AV:=match uE s with|some v=> .tup [.int .i64 v,.bool true]|none=> .tup [.int .i64 0,.bool false]
theorem xO {s:Str} (h:uE s=none):aJ5 s= .tup [.int .i64 0,.bool false]:=by rw [aJ5,h]
theorem aL7 {s:Str} {v:Int} (h:uE s=some v):aJ5 s= .tup [.int .i64 v,.bool true]:=by rw [aJ5,h]
theorem aNv {s:Str} (h:¬(1≤s.length∧s.length≤13)):uE s=none:=by
 cases hp:uE s with
 |none=>rfl
 |some v=>
  obtain ⟨m,_,_,hs,hl,_⟩:=aOr hp
  have:=aTp m
  rw [←hs] at this
  exact absurd ⟨by have:=List.length_pos_iff.2 this;omega,hl⟩ h
theorem aTl {s:Str} {k:Nat} (hk:k < s.length) (h:¬(48≤s[k].toNat∧s[k].toNat≤57)):uE s=none:=by
 cases hp:uE s with
 |none=>rfl
 |some v=>
  obtain ⟨m,_,_,hs,hl,hd⟩:=aOr hp
  have hd':Lib.decFrom 0 s=some m:=by
   unfold Lib.decNat at hd;split at hd
   ·cases hd
   ·exact hd
  obtain ⟨d,h2⟩:=Lib.digit_of_decFrom s 0 m hd' k s[k] (List.getElem?_eq_getElem hk)
  unfold Lib.digitVal at h2
  rw [if_neg h] at h2;cases h2
theorem bB0 {s:Str} {m:Nat} (h0:s≠[]) (hl:s.length≤13) (h:Lib.decFrom 0 s=some m):uE s=if m≤1000000000000∧Lib.decDigits m=s then some (m:Int) else none:=by
 have:Lib.decNat s=some m:=by unfold Lib.decNat;rw [if_neg (by simpa using h0)];exact h
 simp [uE,this,hl]
theorem bB7 (m:Nat):Lib.itoa (m:Int)=Lib.decDigits m:=by
 unfold Lib.itoa
 rw [if_neg (by omega)];rfl
theorem aK4 [aB Tryz.prog] (s:Str) (hl:s.length≤1099511627776):Ok Tryz.prog 209 [.str s] (aJ5 s):=by
 have c1:=eQ (s.length:Int) 1 13
 by_cases h1:1≤s.length∧s.length≤13
 ·rw [show (decide ((1:Int)≤(s.length:Int))&&decide ((s.length:Int)≤13))=true by simp;omega] at c1
  have h0:s≠[]:=by intro e;rw [e] at h1;simp at h1
  refine ent Tryz.mix Tryz.func209 Tryz.ntmps209 ?_
  refine aW ?_
  refine aR (ι:={p:Nat×Nat // p.1≤s.length∧Lib.decFrom 0 (s.take p.1)=some p.2}) (fun t o i=>⟨aS t [(4,.int .i64 (i.1.2:Int)),(5,.int .i64 (i.1.1:Int))],o⟩)
   (fun i=>s.length - i.1.1) ⟨(0,0),by simp,by simp [Lib.decFrom]⟩ aO ?_
  rintro ⟨⟨k,m⟩,⟨hk,hi⟩⟩ K1 hK1
  simp only [aS,List.set_cons_succ,List.set_cons_zero] at hK1 hk hi⊢
  have hk1:=wk1 (k:=k) (by omega)
  have hm13:m < 10000000000000:=by
   have h2:=aUf hi
   have h3:(10:Nat) ^ (s.take k).length≤10 ^ 13:=Nat.pow_le_pow_right (by decide) (by simp;omega)
   omega
  by_cases hlt:k < s.length
  ·have hg:=List.getElem?_eq_getElem hlt
   have c2:=eQ (s[k].toNat:Int) 48 57
   have hu:s[k].toNat < 256:=s[k].toNat_lt
   by_cases hd:48≤s[k].toNat∧s[k].toNat≤57
   ·have hb:(decide ((48:Int)≤(s[k].toNat:Int))&&decide ((s[k].toNat:Int)≤57))=true:=by simp;omega
    rw [hb] at c2
    have hw1:IntKind.u8.wrap ((s[k].toNat:Int) - 48)=((s[k].toNat - 48:Nat):Int):=by rw [bAh]<;>omega
    have hw2:IntKind.i64.wrap ((s[k].toNat - 48:Nat):Int)=((s[k].toNat - 48:Nat):Int):=by rw [wrap64]<;>omega
    have hw3:IntKind.i64.wrap (10 * (m:Int))=((10 * m:Nat):Int):=by rw [wrap64]<;>omega
    have hw4:IntKind.i64.wrap (((10 * m:Nat):Int)+((s[k].toNat - 48:Nat):Int))=((m * 10+(s[k].toNat - 48):Nat):Int):=by rw [wrap64]<;>omega
    have hw5:IntKind.i64.wrap (s[k].toNat:Int)=(s[k].toNat:Int):=by rw [wrap64]<;>omega
    have hn:=Lib.decFrom_take s k 0 m s[k] _ hi hg (show Lib.digitVal s[k]=some (s[k].toNat - 48) by unfold Lib.digitVal;rw [if_pos hd])
    have W:=And.intro hk1 (And.intro hg (And.intro hlt (And.intro hw1 (And.intro hw2 (And.intro hw3 (And.intro hw4 hw5))))))
    refine we ?_
    exact hK1 _ ⟨(k+1,m * 10+(s[k].toNat - 48)),by simp only;omega,hn⟩ (aO (by simp) (by simp;try omega)) (by simp only;omega)
   ·have hb:(decide ((48:Int)≤(s[k].toNat:Int))&&decide ((s[k].toNat:Int)≤57))=false:=by
     simp only [Bool.and_eq_false_iff,decide_eq_false_iff_not];omega
    rw [hb] at c2
    have hw5:IntKind.i64.wrap (s[k].toNat:Int)=(s[k].toNat:Int):=by rw [wrap64]<;>omega
    rw [xO (aTl hlt hd)] at *
    have W:=And.intro hk1 (And.intro hg (And.intro hlt hw5))
    refine we ?_
    exact aM Tryz.results209
  ·have hke:k=s.length:=by omega
   subst hke
   rw [List.take_length] at hi
   have hp:=bB0 h0 h1.2 hi
   have c3:=eX (m:Int) (by omega)
   rw [bB7] at c3
   by_cases hm:m≤1000000000000
   ·by_cases he:Lib.decDigits m=s
    ·rw [if_pos ⟨hm,he⟩] at hp
     rw [aL7 hp] at *
     have hm':¬(1000000000000:Int) < (m:Int):=by omega
     have W:=And.intro hm' he
     refine we ?_
     exact aM Tryz.results209
    ·rw [if_neg (fun h=>he h.2)] at hp
     rw [xO hp] at *
     have hm':¬(1000000000000:Int) < (m:Int):=by omega
     have W:=And.intro hm' he
     repeat' first|refine st ?_|(refine nx ?_;first|refine se ?_|refine so ?_)|(refine cx ?_;refine sc (fun hc=>?_) (fun hc=>?_)<;>try exact hc.elim)|(refine lx ?_;refine sp (fun hc=>?_) (fun hc=>?_)<;>try exact hc.elim)|refine sx ?_ ?_|refine sy ?_ ?_|fail
     all_goals first
      |exact absurd ‹Lib.decDigits m=s› he
      |skip
     all_goals (try (refine ⟨.inr rfl,?_⟩;simp [Hands,Tryz.results209]))
   ·rw [if_neg (fun h=>hm h.1)] at hp
    rw [xO hp] at *
    have hm':(1000000000000:Int) < (m:Int):=by omega
    have W:=hm'
    refine we ?_
    exact aM Tryz.results209
 ·rw [show (decide ((1:Int)≤(s.length:Int))&&decide ((s.length:Int)≤13))=false by simp only [Bool.and_eq_false_iff,decide_eq_false_iff_not];omega] at c1
  rw [xO (aNv h1)]
  refine ent Tryz.mix Tryz.func209 Tryz.ntmps209 ?_
  refine aW ?_
  exact aM Tryz.results209
end Go.Proofs.YtaddkhdghlaalaaGreatDoor

set_option maxRecDepth 100000
set_option maxHeartbeats 4000000
namespace Go.Proofs.YtaddkhdghlaalaaGreatDoor
open Go.Aw Go.Shelf Go.RowKit
end Go.Proofs.YtaddkhdghlaalaaGreatDoor

set_option maxRecDepth 4000
set_option maxHeartbeats 400000
namespace Go.Proofs.YtaddkhdghlaalaaGreatDoor
open Go.Aw
theorem fZ [aB Tryz.prog] (l:List iJ) (n:Str) (hl:l.length≤1099511627776):Ok Tryz.prog 43 [.sl .view 2 (l.map mW),.str n] (.tup [.str (aP l n).1,.bool (aP l n).2]):=by
 refine ent Tryz.mix Tryz.func43 Tryz.ntmps43 ?_
 refine bA ?_
 refine aR (ι:={k:Nat // k≤l.length∧∀x∈l.take k,jW n x=false}) (fun t o i=>⟨aS t [(6,.int .i64 i.1)],o⟩)
  (fun i=>l.length - i.1) ⟨0,by simp,by simp⟩ aO ?_
 rintro ⟨k,hk,hi⟩ K1 hK1
 simp only [aS,List.set_cons_succ,List.set_cons_zero] at hK1⊢
 have hk1:=wk1 (k:=k) (by omega)
 by_cases hlt:k < l.length
 ·have hg:=List.getElem?_eq_getElem hlt
  have W:=And.intro hk1 (And.intro hg hlt)
  repeat' first|refine st ?_|(refine nx ?_;refine so ?_)|(refine cx ?_;refine sc (fun hc=>?_) (fun hc=>?_)<;>try exact hc.elim)|(refine lx ?_;refine sp (fun hc=>?_) (fun hc=>?_)<;>try exact hc.elim)|refine sx ?_ ?_|refine sy ?_ ?_|fail
  ·all_goals (try (refine ⟨.inr rfl,?_⟩;simp [Hands,Tryz.results43]))
   rw [aI8 hlt (by simpa [jW] using hc) hi]
   simp
  ·exact hK1 _ ⟨k+1,by omega,dK hlt hi (by simpa [jW] using hc)⟩ aO (by simp only;omega)
 ·have W:=hk1
  refine wl ?_
  all_goals (try (refine ⟨.inr rfl,?_⟩;simp [Hands,Tryz.results43]))
  rw [aFj (iQ (by omega) hi)]
  simp
theorem bDl [aB Tryz.prog] (g:iJ) (n:Str):Ok Tryz.prog 68 [.agg (mW g),.vptr .view [.str n] 0] (.bool (jW n g)):=by
 refine ent Tryz.mix Tryz.func68 Tryz.ntmps68 ?_
 have W:=trivial
 repeat' first|refine st ?_|(refine nx ?_;refine so ?_)|(refine cx ?_;refine sc (fun hc=>?_) (fun hc=>?_)<;>try exact hc.elim)|(refine lx ?_;refine sp (fun hc=>?_) (fun hc=>?_)<;>try exact hc.elim)|refine sx ?_ ?_|refine sy ?_ ?_|fail
 all_goals (try (refine ⟨.inr rfl,?_⟩;simp [Hands,Tryz.results68]))
 rw [Bool.eq_iff_iff]
 simp [jW]
theorem aTj [aB Tryz.prog] (l:List iJ) (n:Str) (hl:l.length≤1099511627776):Ok Tryz.prog 67 [.sl .view 2 (l.map mW),.fn 68 [.vptr .view [.str n] 0]] (.int .i64 (kP (jW n) l)):=by
 refine ent Tryz.mix Tryz.func67 Tryz.ntmps67 ?_
 have W:=trivial
 repeat' first|refine st ?_|(refine nx ?_;refine so ?_)|(refine cx ?_;refine sc (fun hc=>?_) (fun hc=>?_)<;>try exact hc.elim)|(refine lx ?_;refine sp (fun hc=>?_) (fun hc=>?_)<;>try exact hc.elim)|refine sx ?_ ?_|refine sy ?_ ?_|fail
 refine aR (ι:={k:Nat // k≤l.length∧∀x∈l.take k,jW n x=false}) (fun t o i=>⟨aS t [(8,.int .i64 i.1),(5,.undef)],o⟩)
  (fun i=>l.length - i.1) ⟨0,by simp,by simp⟩ aO ?_
 rintro ⟨k,hk,hi⟩ K1 hK1
 simp only [aS,List.set_cons_succ,List.set_cons_zero] at hK1⊢
 have hk1:=wk1 (k:=k) (by omega)
 by_cases hlt:k < l.length
 ·have hg:=List.getElem?_eq_getElem hlt
  have W:=And.intro hk1 (And.intro hg hlt)
  have c0:=bDl l[k] n
  repeat' first|refine st ?_|(refine nx ?_;refine so ?_)|(refine cx ?_;refine sc (fun hc=>?_) (fun hc=>?_)<;>try exact hc.elim)|(refine lx ?_;refine sp (fun hc=>?_) (fun hc=>?_)<;>try exact hc.elim)|refine sx ?_ ?_|refine sy ?_ ?_|fail
  ·all_goals (try (refine ⟨.inr rfl,?_⟩;simp [Hands,Tryz.results67]))
   rw [uQ hlt (by simpa using hc) hi]
  ·exact hK1 _ ⟨k+1,by omega,dK hlt hi (by simpa using hc)⟩ aO (by simp only;omega)
 ·have W:=hk1
  repeat' first|refine st ?_|(refine nx ?_;refine so ?_)|(refine cx ?_;refine sc (fun hc=>?_) (fun hc=>?_)<;>try exact hc.elim)|(refine lx ?_;refine sp (fun hc=>?_) (fun hc=>?_)<;>try exact hc.elim)|refine sx ?_ ?_|refine sy ?_ ?_|fail
  all_goals (try (refine ⟨.inr rfl,?_⟩;simp [Hands,Tryz.results67]))
  rw [pI (iQ (by omega) hi)]
theorem bFo {α:Type} (f:α→Bool) (l:List α) (h:l.findIdx f < l.length):kP f l=(l.findIdx f:Nat):=by
 unfold kP
 rw [if_pos]
 exact List.any_eq_true.2 ⟨_,List.getElem_mem h,List.findIdx_getElem (w:=h)⟩
theorem bFx {α:Type} (f:α→Bool) (l:List α) (h:¬l.findIdx f < l.length):kP f l= -1:=by
 refine pI fun x hx=> ?_
 have he:l.findIdx f=l.length:=by have:=List.findIdx_le_length (p:=f) (xs:=l);omega
 have:=List.findIdx_eq_length.1 he x hx
 simpa using this
theorem aUp (l:List iJ) (n:Str) (h:l.findIdx (jW n) < l.length):aP l n=(l[l.findIdx (jW n)].value,true):=by
 refine aI8 h (List.findIdx_getElem (w:=h)) ?_
 intro x hx
 obtain ⟨i,hi,rfl⟩:=List.getElem_of_mem hx
 have hi':i < l.findIdx (jW n):=by have:=hi;simp at this;omega
 rw [List.getElem_take]
 have:=List.not_of_lt_findIdx (p:=(jW n)) (xs:=l) hi'
 simpa using this
theorem aUw (l:List iJ) (n:Str) (h:¬l.findIdx (jW n) < l.length):aP l n=([],false):=by
 refine aFj fun x hx=> ?_
 have he:l.findIdx (jW n)=l.length:=by have:=List.findIdx_le_length (p:=jW n) (xs:=l);omega
 have:=List.findIdx_eq_length.1 he x hx
 simpa using this
theorem qL [aB Tryz.prog] (l:List iJ) (n:Str) (hl:l.length≤1099511627776):Ok Tryz.prog 41 [.sl .view 2 (l.map mW),.str n] (.tup [.str (aP l n).1,.bool (aP l n).2]):=by
 have hF:=aTj l n hl
 by_cases h:l.findIdx (jW n) < l.length
 ·rw [bFo _ _ h] at hF
  rw [aUp _ _ h]
  generalize hk:l.findIdx (jW n)=k at *
  have hg:=List.getElem?_eq_getElem h
  refine ent Tryz.mix Tryz.func41 Tryz.ntmps41 ?_
  have W:=hg
  have V:=h
  have c0:=hF
  repeat' first|refine st ?_|(refine nx ?_;refine so ?_)|(refine cx ?_;refine sc (fun hc=>?_) (fun hc=>?_)<;>try exact hc.elim)|(refine lx ?_;refine sp (fun hc=>?_) (fun hc=>?_)<;>try exact hc.elim)|refine sx ?_ ?_|refine sy ?_ ?_|fail
  all_goals (try (refine ⟨.inr rfl,?_⟩;simp [Hands,Tryz.results41]))
  all_goals simp
 ·rw [bFx _ _ h] at hF
  rw [aUw _ _ h]
  refine ent Tryz.mix Tryz.func41 Tryz.ntmps41 ?_
  have W:=trivial
  have c0:=hF
  repeat' first|refine st ?_|(refine nx ?_;refine so ?_)|(refine cx ?_;refine sc (fun hc=>?_) (fun hc=>?_)<;>try exact hc.elim)|(refine lx ?_;refine sp (fun hc=>?_) (fun hc=>?_)<;>try exact hc.elim)|refine sx ?_ ?_|refine sy ?_ ?_|fail
  all_goals (try (refine ⟨.inr rfl,?_⟩;simp [Hands,Tryz.results41]))
  all_goals simp
theorem aGv [aB Tryz.prog] (s:Str) (c:UInt8):OkN Tryz.prog 156 [.str s,.int .u8 c.toNat] (.int .i64 (ixI c s)):=
 aPg (fn:=Tryz.f156) (by kernel_rfl) (by decide+kernel) rfl (by decide+kernel) (by rfl) s c
end Go.Proofs.YtaddkhdghlaalaaGreatDoor
