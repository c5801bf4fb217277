/-
  Proved here: steps towards the statement of this claim, text QT1.
  No condition beyond what each statement spells out.
-/
import Derived.Test.YtlnblmmohpcceaaGreatDoorQD1
import Derived.Test.YtlnblmmohpcceaaGreatDoorYShelf2
import Derived.Test.YtlnblmmohpcceaaGreatDoorF7
import Derived.WalkKit
import Derived.BigCall
import Derived.Test.YtlnblmmohpcceaaGreatDoorF4
import Derived.Test.YtlnblmmohpcceaaGreatDoorF5
set_option linter.all false
set_option maxRecDepth 4000
set_option maxHeartbeats 4000000
namespace Go.Proofs.YtlnblmmohpcceaaGreatDoor
open Go.Aw
def aBv (s:Str):AV:=match nG s with|some v=> .tup [.int .i64 v,.bool true]|none=> .tup [.int .i64 0,.bool false]
theorem pE {s:Str} (h:nG s=none):aBv s= .tup [.int .i64 0,.bool false]:=by rw [aBv,h]
theorem zY {s:Str} {v:Int} (h:nG s=some v):aBv s= .tup [.int .i64 v,.bool true]:=by rw [aBv,h]
theorem aNn {s:Str} (h:¬(1≤s.length∧s.length≤13)):nG s=none:=by
 cases hp:nG s with
 |none=>rfl
 |some v=>
  obtain ⟨m,_,_,hs,hl,_⟩:=aBf hp
  have:=aGi m
  rw [←hs] at this
  exact absurd ⟨by have:=List.length_pos_iff.2 this;omega,hl⟩ h
theorem aQm {s:Str} {k:Nat} (hk:k < s.length) (h:¬(48≤s[k].toNat∧s[k].toNat≤57)):nG s=none:=by
 cases hp:nG s with
 |none=>rfl
 |some v=>
  obtain ⟨m,_,_,hs,hl,hd⟩:=aBf hp
  have hd':Lib.decFrom 0 s=some m:=by
   unfold Lib.decNat at hd;split at hd
   ·cases hd
   ·exact hd
  obtain ⟨d,h2⟩:=Lib.digit_of_decFrom s 0 m hd' k s[k] (List.getElem?_eq_getElem hk)
  unfold Lib.digitVal at h2
  rw [if_neg h] at h2;cases h2
theorem bAx {s:Str} {m:Nat} (h0:s≠[]) (hl:s.length≤13) (h:Lib.decFrom 0 s=some m):nG s=if m≤1000000000000∧Lib.decDigits m=s then some (m:Int) else none:=by
 have:Lib.decNat s=some m:=by unfold Lib.decNat;rw [if_neg (by simpa using h0)];exact h
 simp [nG,this,hl]
theorem bA6 (m:Nat):Lib.itoa (m:Int)=Lib.decDigits m:=by
 unfold Lib.itoa
 rw [if_neg (by omega)];rfl
theorem aK6 [aA Tryz.prog] [dY Tryz.prog] (s:Str) (hl:s.length≤1099511627776):Ok Tryz.prog 265 [.str s] (aBv s):=by
 have c1:=gM (s.length:Int) 1 13
 by_cases h1:1≤s.length∧s.length≤13
 ·rw [show (decide ((1:Int)≤(s.length:Int))&&decide ((s.length:Int)≤13))=true by simp;omega] at c1
  have h0:s≠[]:=by intro e;rw [e] at h1;simp at h1
  refine ent Tryz.mix Tryz.func265 Tryz.ntmps265 ?_
  have W:=trivial
  repeat' first|refine we ?_|(refine sq (fun hc=>?_) (fun hc=>?_)<;>try exact hc.elim)|fail
  refine aM (ι:={p:Nat×Nat // p.1≤s.length∧Lib.decFrom 0 (s.take p.1)=some p.2}) (fun t o i=>⟨aO t [(4,.int .i64 (i.1.2:Int)),(5,.int .i64 (i.1.1:Int))],o⟩)
   (fun i=>s.length - i.1.1) ⟨(0,0),by simp,by simp [Lib.decFrom]⟩ (aH (by simp) (by simp)) ?_
  rintro ⟨⟨k,m⟩,⟨hk,hi⟩⟩ K1 hK1
  simp only [aO,List.set_cons_succ,List.set_cons_zero] at hK1 hk hi⊢
  have hk1:IntKind.i64.wrap ((k:Int)+1)=((k+1:Nat):Int):=by rw [wrap64]<;>omega
  have hm13:m < 10000000000000:=by
   have h2:=aT0 hi
   have h3:(10:Nat) ^ (s.take k).length≤10 ^ 13:=Nat.pow_le_pow_right (by decide) (by simp;omega)
   omega
  by_cases hlt:k < s.length
  ·have hg:=List.getElem?_eq_getElem hlt
   have c2:=gM (s[k].toNat:Int) 48 57
   have hu:s[k].toNat < 256:=s[k].toNat_lt
   by_cases hd:48≤s[k].toNat∧s[k].toNat≤57
   ·have hb:(decide ((48:Int)≤(s[k].toNat:Int))&&decide ((s[k].toNat:Int)≤57))=true:=by simp;omega
    rw [hb] at c2
    have hw1:IntKind.u8.wrap ((s[k].toNat:Int) - 48)=((s[k].toNat - 48:Nat):Int):=by rw [aY1]<;>omega
    have hw2:IntKind.i64.wrap ((s[k].toNat - 48:Nat):Int)=((s[k].toNat - 48:Nat):Int):=by rw [wrap64]<;>omega
    have hw3:IntKind.i64.wrap (10 * (m:Int))=((10 * m:Nat):Int):=by rw [wrap64]<;>omega
    have hw4:IntKind.i64.wrap (((10 * m:Nat):Int)+((s[k].toNat - 48:Nat):Int))=((m * 10+(s[k].toNat - 48):Nat):Int):=by rw [wrap64]<;>omega
    have hw5:IntKind.i64.wrap (s[k].toNat:Int)=(s[k].toNat:Int):=by rw [wrap64]<;>omega
    have hn:=Lib.decFrom_take s k 0 m s[k] _ hi hg (show Lib.digitVal s[k]=some (s[k].toNat - 48) by unfold Lib.digitVal;rw [if_pos hd])
    have W:=And.intro hk1 (And.intro hg (And.intro hlt (And.intro hw1 (And.intro hw2 (And.intro hw3 (And.intro hw4 hw5))))))
    repeat' first|refine we ?_|(refine sq (fun hc=>?_) (fun hc=>?_)<;>try exact hc.elim)|fail
    exact hK1 _ ⟨(k+1,m * 10+(s[k].toNat - 48)),by simp only;omega,hn⟩ (aH (by simp) (by simp;try omega)) (by simp only;omega)
   ·have hb:(decide ((48:Int)≤(s[k].toNat:Int))&&decide ((s[k].toNat:Int)≤57))=false:=by
     simp only [Bool.and_eq_false_iff,decide_eq_false_iff_not];omega
    rw [hb] at c2
    have hw5:IntKind.i64.wrap (s[k].toNat:Int)=(s[k].toNat:Int):=by rw [wrap64]<;>omega
    rw [pE (aQm hlt hd)] at *
    have W:=And.intro hk1 (And.intro hg (And.intro hlt hw5))
    repeat' first|refine we ?_|(refine sq (fun hc=>?_) (fun hc=>?_)<;>try exact hc.elim)|fail
    all_goals (try (refine ⟨.inr rfl,?_⟩;simp [Hands,Tryz.results265]))
  ·have hke:k=s.length:=by omega
   subst hke
   rw [List.take_length] at hi
   have hp:=bAx h0 h1.2 hi
   have c3:=fB (m:Int) (by omega)
   rw [bA6] at c3
   by_cases hm:m≤1000000000000
   ·by_cases he:Lib.decDigits m=s
    ·rw [if_pos ⟨hm,he⟩] at hp
     rw [zY hp] at *
     have hm':¬(1000000000000:Int) < (m:Int):=by omega
     have W:=And.intro hm' he
     repeat' first|refine we ?_|(refine sq (fun hc=>?_) (fun hc=>?_)<;>try exact hc.elim)|fail
     all_goals (try (refine ⟨.inr rfl,?_⟩;simp [Hands,Tryz.results265]))
    ·rw [if_neg (fun h=>he h.2)] at hp
     rw [pE hp] at *
     have hm':¬(1000000000000:Int) < (m:Int):=by omega
     have W:=And.intro hm' he
     repeat' first|refine we ?_|(refine sq (fun hc=>?_) (fun hc=>?_)<;>try exact hc.elim)|fail
     all_goals first
      |exact absurd ‹Lib.decDigits m=s› he
      |skip
     all_goals (try (refine ⟨.inr rfl,?_⟩;simp [Hands,Tryz.results265]))
   ·rw [if_neg (fun h=>hm h.1)] at hp
    rw [pE hp] at *
    have hm':(1000000000000:Int) < (m:Int):=by omega
    have W:=hm'
    repeat' first|refine we ?_|(refine sq (fun hc=>?_) (fun hc=>?_)<;>try exact hc.elim)|fail
    all_goals (try (refine ⟨.inr rfl,?_⟩;simp [Hands,Tryz.results265]))
 ·rw [show (decide ((1:Int)≤(s.length:Int))&&decide ((s.length:Int)≤13))=false by simp only [Bool.and_eq_false_iff,decide_eq_false_iff_not];omega] at c1
  rw [pE (aNn h1)]
  refine ent Tryz.mix Tryz.func265 Tryz.ntmps265 ?_
  have W:=trivial
  repeat' first|refine we ?_|(refine sq (fun hc=>?_) (fun hc=>?_)<;>try exact hc.elim)|fail
  all_goals (try (refine ⟨.inr rfl,?_⟩;simp [Hands,Tryz.results265]))
end Go.Proofs.YtlnblmmohpcceaaGreatDoor

set_option maxRecDepth 100000
set_option maxHeartbeats 4000000
namespace Go.Proofs.YtlnblmmohpcceaaGreatDoor
open Go.Aw Go.Shelf Go.RowKit
theorem bA7 {w:World} {E:Env} {a:Str} {vs:List Value} {fp:List Nat} (h:Rc w E [.str a] vs fp):vs=[.string ⟨a.toArray⟩]:=by
 match vs,h with
 |[],h=>simp [Rc] at h
 |[x],h=>
  simp only [Rc,R] at h
  obtain ⟨_,_,h1,_,_⟩:=h
  rw [h1.1]
 |_::_::_,h=>simp [Rc] at h
theorem aOe [aA Tryz.prog] [dY Tryz.prog] (v:Int) (h1: -9223372036854775808≤v∧v≤9223372036854775807) (w:World) (hg:aA.holds Tryz.prog w):
  Calls Tryz.prog 290 #[.int .i64 v] w fun e w'=>e= .returned (.string ⟨(Lib.itoa v).toArray⟩)∧Below w.heap.size w w':=by
 refine (fE v h1 w [.int .i64 v] hg (by simp [Rc,R])).mono fun e w' h=> ?_
 obtain ⟨x,fp,he,hr,_,_,h3,h4,h5⟩:=h
 simp only [R] at hr
 rw [hr.1] at he
 exact ⟨he,⟨h5.os,h5.tape,h5.output,h3,h4⟩⟩
theorem aKa [aA Tryz.prog] [dY Tryz.prog] [lY Tryz.prog] (s:Str) (hl:s.length≤1099511627776):Ok Tryz.prog 293 [.str s] (aBv s):=by
 intro w vs hg h
 obtain rfl:=bA7 h
 have fin:∀{e:Ending} {w':World} {n:Int} {b:Bool},aBv s= .tup [.int .i64 n,.bool b]→e= .returned (.tuple #[.int .i64 n,.bool b])→Below w.heap.size w w'→∃v fp,e= .returned v∧R w' (aAh w.heap.size w' fp) (aBv s) v fp∧fp.Nodup∧
   (∀b∈fp,w.heap.size≤b∧b < w'.heap.size)∧w.heap.size≤w'.heap.size∧(∀b,b < w.heap.size→w'.heap[b]? =w.heap[b]?)∧Same w w':=
  fun hp he hb=>⟨_,[],he,by rw [hp];simp [R,Rc],List.nodup_nil,by simp,hb.size,hb.block,aAd hb⟩
 have A:=aW7 Tryz.LaysCx172 s (by omega) w hg
 go_enter Tryz.func293,Tryz.ntmps293
 go_wp2_with (go_at_call 312;refine A.mono ?_)
 rintro e w1 ⟨hA,hb⟩
 clear A
 have hg1:=aA.stable w w1 hg fun b h=>hb.block b (Nat.lt_of_lt_of_le h (aA.low_le w hg))
 rcases hA with ⟨v,hv,rfl⟩|⟨hn,v,t,p,rfl⟩
 ·rcases aNt s with ⟨v',hv',h0,h1,hi,hp⟩|⟨hp,hall⟩
  ·obtain rfl:v=v':=by rw [hv] at hv';exact Lib.NumEnd.ok.inj hv'
   have d0:decide (v < 0)=false:=by simpa using h0
   have d1:decide (1000000000000 < v)=false:=by simpa using h1
   have C:=aOe v (by omega) w1 hg1
   rw [hi] at C
   have F:= @fin
   clear hv hv' h0 h1 hi fin
   go_wp2_with (go_at_call 290;refine C.mono ?_)
   rintro e w2 ⟨rfl,hb2⟩
   clear C
   go_wp2
   go_ret2
   exact F (zY hp) rfl (hb.trans (hb2.mono hb.size))
  ·have hr:=pE hp
   have bd:=Lib.atoiAll_bounds hv
   by_cases h0:v < 0
   ·have d0:decide (v < 0)=true:=by simpa using h0
    clear hv h0 hall bd
    go_wp2
    go_ret2
    exact fin hr rfl hb
   by_cases h1:1000000000000 < v
   ·have d0:decide (v < 0)=false:=by simpa using h0
    have d1:decide (1000000000000 < v)=true:=by simpa using h1
    clear hv h0 h1 hall bd
    go_wp2
    go_ret2
    exact fin hr rfl hb
   ·have hi:Lib.itoa v≠s:=by
     rcases hall v hv with h|h|h
     ·exact absurd h h0
     ·exact absurd h h1
     ·exact h
    have d0:decide (v < 0)=false:=by simpa using h0
    have d1:decide (1000000000000 < v)=false:=by simpa using h1
    have C:=aOe v (by omega) w1 hg1
    generalize Lib.itoa v=x at C hi
    have d2:(x == s)=false:=by simpa using hi
    have d3:(x != s)=true:=by simpa using hi
    clear hv h0 h1 hall bd
    go_wp2_with (go_at_call 290;refine C.mono ?_)
    rintro e w2 ⟨rfl,hb2⟩
    clear C
    go_wp2
    go_ret2
    exact fin hr rfl (hb.trans (hb2.mono hb.size))
 ·have hp:nG s=none:=by
   rcases aNt s with ⟨v',hv',_⟩|⟨hp,_⟩
   ·exact absurd hv' (hn _)
   ·exact hp
  have hr:=pE hp
  clear hn
  go_wp2
  go_ret2
  exact fin hr rfl hb
end Go.Proofs.YtlnblmmohpcceaaGreatDoor

set_option maxRecDepth 4000
set_option maxHeartbeats 400000
namespace Go.Proofs.YtlnblmmohpcceaaGreatDoor
open Go.Aw
theorem jO [aA Tryz.prog] (l:List fA) (n:Str) (hl:l.length≤1099511627776):Ok Tryz.prog 236 [.sl .view 2 (l.map dI),.str n] (.tup [.str (aN l n).1,.bool (aN l n).2]):=by
 refine ent Tryz.mix Tryz.func236 Tryz.ntmps236 ?_
 have W:=trivial
 repeat' first|refine wl ?_|(refine sq (fun hc=>?_) (fun hc=>?_)<;>try exact hc.elim)|fail
 refine aM (ι:={k:Nat // k≤l.length∧∀x∈l.take k,jV n x=false}) (fun t o i=>⟨aO t [(6,.int .i64 i.1)],o⟩)
  (fun i=>l.length - i.1) ⟨0,by simp,by simp⟩ (aH (by simp) (by simp)) ?_
 rintro ⟨k,hk,hi⟩ K1 hK1
 simp only [aO,List.set_cons_succ,List.set_cons_zero] at hK1⊢
 have hk1:IntKind.i64.wrap ((k:Int)+1)=((k+1:Nat):Int):=by rw [wrap64]<;>omega
 by_cases hlt:k < l.length
 ·have hg:=List.getElem?_eq_getElem hlt
  have W:=And.intro hk1 (And.intro hg hlt)
  repeat' first|refine wl ?_|(refine sq (fun hc=>?_) (fun hc=>?_)<;>try exact hc.elim)|fail
  ·all_goals (try (refine ⟨.inr rfl,?_⟩;simp [Hands,Tryz.results236]))
   rw [aH1 hlt (by simpa [jV] using hc) hi]
   simp
  ·exact hK1 _ ⟨k+1,by omega,dP hlt hi (by simpa [jV] using hc)⟩ (aH (by simp) (by simp)) (by simp only;omega)
 ·have W:=hk1
  repeat' first|refine wl ?_|(refine sq (fun hc=>?_) (fun hc=>?_)<;>try exact hc.elim)|fail
  all_goals (try (refine ⟨.inr rfl,?_⟩;simp [Hands,Tryz.results236]))
  rw [aEj (kG (by omega) hi)]
  simp
theorem bAl [aA Tryz.prog] (g:fA) (n:Str):Ok Tryz.prog 256 [.agg (dI g),.vptr .view [.str n] 0] (.bool (jV n g)):=by
 refine ent Tryz.mix Tryz.func256 Tryz.ntmps256 ?_
 have W:=trivial
 repeat' first|refine wl ?_|(refine sq (fun hc=>?_) (fun hc=>?_)<;>try exact hc.elim)|fail
 all_goals (try (refine ⟨.inr rfl,?_⟩;simp [Hands,Tryz.results256]))
 rw [Bool.eq_iff_iff]
 simp [jV]
theorem aRx [aA Tryz.prog] (l:List fA) (n:Str) (hl:l.length≤1099511627776):Ok Tryz.prog 255 [.sl .view 2 (l.map dI),.fn 256 [.vptr .view [.str n] 0]] (.int .i64 (rM (jV n) l)):=by
 refine ent Tryz.mix Tryz.func255 Tryz.ntmps255 ?_
 have W:=trivial
 repeat' first|refine wl ?_|(refine sq (fun hc=>?_) (fun hc=>?_)<;>try exact hc.elim)|fail
 refine aM (ι:={k:Nat // k≤l.length∧∀x∈l.take k,jV n x=false}) (fun t o i=>⟨aO t [(8,.int .i64 i.1),(5,.undef)],o⟩)
  (fun i=>l.length - i.1) ⟨0,by simp,by simp⟩ (aH (by simp) (by simp)) ?_
 rintro ⟨k,hk,hi⟩ K1 hK1
 simp only [aO,List.set_cons_succ,List.set_cons_zero] at hK1⊢
 have hk1:IntKind.i64.wrap ((k:Int)+1)=((k+1:Nat):Int):=by rw [wrap64]<;>omega
 by_cases hlt:k < l.length
 ·have hg:=List.getElem?_eq_getElem hlt
  have W:=And.intro hk1 (And.intro hg hlt)
  have c0:=bAl l[k] n
  repeat' first|refine wl ?_|(refine sq (fun hc=>?_) (fun hc=>?_)<;>try exact hc.elim)|fail
  ·all_goals (try (refine ⟨.inr rfl,?_⟩;simp [Hands,Tryz.results255]))
   rw [aAf hlt (by simpa using hc) hi]
  ·exact hK1 _ ⟨k+1,by omega,dP hlt hi (by simpa using hc)⟩ (aH (by simp) (by simp)) (by simp only;omega)
 ·have W:=hk1
  repeat' first|refine wl ?_|(refine sq (fun hc=>?_) (fun hc=>?_)<;>try exact hc.elim)|fail
  all_goals (try (refine ⟨.inr rfl,?_⟩;simp [Hands,Tryz.results255]))
  rw [sO (kG (by omega) hi)]
theorem bC9 {α:Type} (f:α→Bool) (l:List α) (h:l.findIdx f < l.length):rM f l=(l.findIdx f:Nat):=by
 unfold rM
 rw [if_pos]
 exact List.any_eq_true.2 ⟨_,List.getElem_mem h,List.findIdx_getElem (w:=h)⟩
theorem bC6 {α:Type} (f:α→Bool) (l:List α) (h:¬l.findIdx f < l.length):rM f l= -1:=by
 refine sO fun x hx=> ?_
 have he:l.findIdx f=l.length:=by have:=List.findIdx_le_length (p:=f) (xs:=l);omega
 have:=List.findIdx_eq_length.1 he x hx
 simpa using this
theorem aTx (l:List fA) (n:Str) (h:l.findIdx (jV n) < l.length):aN l n=(l[l.findIdx (jV n)].value,true):=by
 refine aH1 h (List.findIdx_getElem (w:=h)) ?_
 intro x hx
 obtain ⟨i,hi,rfl⟩:=List.getElem_of_mem hx
 have hi':i < l.findIdx (jV n):=by have:=hi;simp at this;omega
 rw [List.getElem_take]
 have:=List.not_of_lt_findIdx (p:=(jV n)) (xs:=l) hi'
 simpa using this
theorem aUc (l:List fA) (n:Str) (h:¬l.findIdx (jV n) < l.length):aN l n=([],false):=by
 refine aEj fun x hx=> ?_
 have he:l.findIdx (jV n)=l.length:=by have:=List.findIdx_le_length (p:=jV n) (xs:=l);omega
 have:=List.findIdx_eq_length.1 he x hx
 simpa using this
theorem kJ [aA Tryz.prog] (l:List fA) (n:Str) (hl:l.length≤1099511627776):Ok Tryz.prog 199 [.sl .view 2 (l.map dI),.str n] (.tup [.str (aN l n).1,.bool (aN l n).2]):=by
 have hF:=aRx l n hl
 by_cases h:l.findIdx (jV n) < l.length
 ·rw [bC9 _ _ h] at hF
  rw [aTx _ _ h]
  generalize hk:l.findIdx (jV n)=k at *
  have hg:=List.getElem?_eq_getElem h
  refine ent Tryz.mix Tryz.func199 Tryz.ntmps199 ?_
  have W:=hg
  have V:=h
  have c0:=hF
  repeat' first|refine wl ?_|(refine sq (fun hc=>?_) (fun hc=>?_)<;>try exact hc.elim)|fail
  all_goals (try (refine ⟨.inr rfl,?_⟩;simp [Hands,Tryz.results199]))
  all_goals simp
 ·rw [bC6 _ _ h] at hF
  rw [aUc _ _ h]
  refine ent Tryz.mix Tryz.func199 Tryz.ntmps199 ?_
  have W:=trivial
  have c0:=hF
  repeat' first|refine wl ?_|(refine sq (fun hc=>?_) (fun hc=>?_)<;>try exact hc.elim)|fail
  all_goals (try (refine ⟨.inr rfl,?_⟩;simp [Hands,Tryz.results199]))
  all_goals simp
theorem aGj [aA Tryz.prog] (s:Str) (c:UInt8):OkN Tryz.prog 252 [.str s,.int .u8 c.toNat] (.int .i64 (ixI c s)):=
 aO1 (fn:=Tryz.f252) (by kernel_rfl) (by decide+kernel) rfl (by decide+kernel) (by rfl) s c
end Go.Proofs.YtlnblmmohpcceaaGreatDoor

set_option maxRecDepth 4000
set_option maxHeartbeats 400000
namespace Go.Proofs.YtlnblmmohpcceaaGreatDoor
open Go.Aw
theorem xD [aA Tryz.prog] (s:Str) (c:UInt8):Ok Tryz.prog 196 [.str s,.int .u8 c.toNat] (.int .i64 (ixI c s)):=by
 have h1:=aGj s c
 refine ent Tryz.mix Tryz.func196 Tryz.ntmps196 ?_
 have W:=trivial
 repeat' first|refine wl ?_|(refine sq (fun hc=>?_) (fun hc=>?_)<;>try exact hc.elim)|fail
 all_goals (try (refine ⟨.inr rfl,?_⟩;simp [Hands,Tryz.results196]))
theorem aJr [aA Tryz.prog] (s:Str) (c:UInt8):Ok Tryz.prog 284 [.str s,.str [c]] (.int .i64 (ixI c s)):=by
 have h1:=xD s c
 refine ent Tryz.mix Tryz.func284 Tryz.ntmps284 ?_
 have W:=trivial
 repeat' first|refine wl ?_|(refine sq (fun hc=>?_) (fun hc=>?_)<;>try exact hc.elim)|fail
 all_goals (try (refine ⟨.inr rfl,?_⟩;simp [Hands,Tryz.results284]))
 all_goals (subst hc;simp [ixI,vG])
theorem aWy [aA Tryz.prog] (s:Str) (c:UInt8) (hl:s.length≤1099511627776):Ok Tryz.prog 254 [.str s,.str [c]] (.tup [.str (s.take (ixB c s)),.str (s.drop (ixB c s+1)),.bool (decide (ixB c s < s.length))]):=by
 have h1:=aJr s c
 have hle:=mQ c s
 by_cases h:ixB c s < s.length
 ·have e:ixI c s=ixB c s:=if_pos h
  rw [e] at h1
  generalize ixB c s=k at *
  refine ent Tryz.mix Tryz.func254 Tryz.ntmps254 ?_
  have W:=h
  repeat' first|refine wl ?_|(refine sq (fun hc=>?_) (fun hc=>?_)<;>try exact hc.elim)|fail
  all_goals (try (refine ⟨.inr rfl,?_⟩;simp [Hands,Tryz.results254]))
  all_goals simp_all
 ·have e:ixI c s= -1:=if_neg h
  rw [e] at h1
  have e2:ixB c s=s.length:=by omega
  rw [e2]
  refine ent Tryz.mix Tryz.func254 Tryz.ntmps254 ?_
  have W:=trivial
  repeat' first|refine wl ?_|(refine sq (fun hc=>?_) (fun hc=>?_)<;>try exact hc.elim)|fail
  all_goals (try (refine ⟨.inr rfl,?_⟩;simp [Hands,Tryz.results254]))
  all_goals simp
theorem uV [aA Tryz.prog] (s:Str) (c:UInt8) (hl:s.length≤1099511627776):Ok Tryz.prog 198 [.str s,.str [c]] (.tup [.str (s.take (ixB c s)),.str (s.drop (ixB c s+1)),.bool (decide (ixB c s < s.length))]):=by
 have h1:=aWy s c hl
 refine ent Tryz.mix Tryz.func198 Tryz.ntmps198 ?_
 have W:=trivial
 repeat' first|refine wl ?_|(refine sq (fun hc=>?_) (fun hc=>?_)<;>try exact hc.elim)|fail
 all_goals (try (refine ⟨.inr rfl,?_⟩;simp [Hands,Tryz.results198]))
end Go.Proofs.YtlnblmmohpcceaaGreatDoor

set_option maxRecDepth 4000
set_option maxHeartbeats 400000
namespace Go.Proofs.YtlnblmmohpcceaaGreatDoor
open Go.Aw
theorem bD3 {c:UInt8} {n:Nat} (hn:n < 256) (h:(c.toNat:Int)=n):c=UInt8.ofNat n:=by
 have:c.toNat=n:=by omega
 rw [←this];simp
theorem bC8 {c:UInt8} {n:Nat} (hn:n < 256) (h:¬(c.toNat:Int)=n):c≠UInt8.ofNat n:=by
 rintro rfl
 apply h
 simp
 omega
theorem aJ6 {s b:Str} {k:Nat} (h:ixB 47 s=k) (hk:k < s.length):addrOf s b=⟨s.take k,s.drop (k+1)⟩:=by
 subst h;exact if_pos hk
theorem aHq {s b:Str} (h:ixB 47 s=s.length):addrOf s b=⟨b,s⟩:=if_neg (by omega)
theorem vE [aA Tryz.prog] (s b:Str) (hl:s.length+b.length≤1099511627776):Ok Tryz.prog 219 [.str s,.str b] (.tup [.agg (aF (bI s b).1),.bool (bI s b).2]):=by
 simp only [bI]
 refine ent Tryz.mix Tryz.func219 Tryz.ntmps219 ?_
 have W:=trivial
 repeat' first|refine wl ?_|(refine sq (fun hc=>?_) (fun hc=>?_)<;>try exact hc.elim)|fail
 refine aM (ι:={k:Nat // k≤s.length∧∀x∈s.take k,x≠47}) (fun t o i=>⟨aO t [(7,.int .i64 i.1)],o⟩)
  (fun i=>s.length - i.1) ⟨0,by simp,by simp⟩ (aH (by simp) (by simp)) ?_
 rintro ⟨k,hk,hi⟩ K1 hK1
 simp only [aO,List.set_cons_succ,List.set_cons_zero] at hK1⊢
 have hk1:IntKind.i64.wrap ((k:Int)+1)=((k+1:Nat):Int):=by rw [wrap64]<;>omega
 by_cases hlt:k < s.length
 ·have hg:=List.getElem?_eq_getElem hlt
  have W:=And.intro hk1 (And.intro hg hlt)
  repeat' first|refine wl ?_|(refine sq (fun hc=>?_) (fun hc=>?_)<;>try exact hc.elim)|fail
  ·have e:=aJ6 (b:=b) (aSu hlt (bD3 (by decide) hc) hi) hlt
   have h1:=uO ⟨s.take k,s.drop (k+1)⟩ (by simp [aR];omega)
   rw [e]
   simp only [aF] at h1
   have W:=trivial
   repeat' first|refine wl ?_|(refine sq (fun hc=>?_) (fun hc=>?_)<;>try exact hc.elim)|fail
   all_goals (try (refine ⟨.inr rfl,?_⟩;simp [Hands,Tryz.results219,qI]))
   all_goals simp_all [qI]
  ·exact hK1 _ ⟨k+1,by omega,dP hlt hi (bC8 (by decide) hc)⟩ (aH (by simp) (by simp)) (by simp only;omega)
 ·have e:=aHq (b:=b) (aP9 (kG (by omega) hi))
  have h1:=uO ⟨b,s⟩ (by simp [aR];omega)
  rw [e]
  simp only [aF] at h1
  have W:=hk1
  repeat' first|refine wl ?_|(refine sq (fun hc=>?_) (fun hc=>?_)<;>try exact hc.elim)|fail
  all_goals (try (refine ⟨.inr rfl,?_⟩;simp [Hands,Tryz.results219,qI]))
  all_goals simp_all [qI]
theorem vF [aA Tryz.prog] (s b:Str) (hl:s.length+b.length≤1099511627776):Ok Tryz.prog 231 [.str s,.str b] (.tup [.agg (aF (bI s b).1),.bool (bI s b).2]):=by
 have hC:=uV s 47 (by omega)
 have hle:=mQ 47 s
 simp only [bI]
 by_cases h:ixB 47 s < s.length
 ·rw [aJ6 rfl h]
  rw [decide_eq_true h] at hC
  generalize ixB 47 s=k at *
  have h1:=uR ⟨s.take k,s.drop (k+1)⟩ (by simp [aR];omega)
  simp only [aF] at h1
  refine ent Tryz.mix Tryz.func231 Tryz.ntmps231 ?_
  have W:=trivial
  repeat' first|refine wl ?_|(refine sq (fun hc=>?_) (fun hc=>?_)<;>try exact hc.elim)|fail
  all_goals (try (refine ⟨.inr rfl,?_⟩;simp [Hands,Tryz.results231,qI]))
  all_goals simp_all [qI]
 ·have e2:ixB 47 s=s.length:=by omega
  rw [aHq e2]
  rw [decide_eq_false h] at hC
  have h1:=uR ⟨b,s⟩ (by simp [aR];omega)
  simp only [aF] at h1
  refine ent Tryz.mix Tryz.func231 Tryz.ntmps231 ?_
  have W:=trivial
  repeat' first|refine wl ?_|(refine sq (fun hc=>?_) (fun hc=>?_)<;>try exact hc.elim)|fail
  all_goals (try (refine ⟨.inr rfl,?_⟩;simp [Hands,Tryz.results231,qI]))
  all_goals simp_all [qI]
end Go.Proofs.YtlnblmmohpcceaaGreatDoor

set_option maxRecDepth 4000
set_option maxHeartbeats 4000000
namespace Go.Proofs.YtlnblmmohpcceaaGreatDoor
open Go.Aw
theorem bAd {c:UInt8} {s:Str} {f i:Nat} (hf:f≤i) (hi:i < s.length) (hc:s[i]=c) (hn:∀x∈(s.take i).drop f,x≠c):bH c (s.drop f)=(s.take i).drop f::bH c (s.drop (i+1)):=by
 have e:s.drop f=(s.take i).drop f++c::s.drop (i+1):=by
  have h1:s=s.take i++s[i]::s.drop (i+1):=by simp
  conv=>lhs;rw [h1]
  rw [List.drop_append_of_le_length (by simp;omega),hc]
 rw [e,aI3 c _ _ hn]
theorem aYs {c:UInt8} {s:Str} {f:Nat} (hn:∀x∈(s.take s.length).drop f,x≠c):bH c (s.drop f)=[(s.take s.length).drop f]:=by
 rw [List.take_length] at hn⊢
 exact aAi c _ hn
theorem aYp {c:UInt8} {s:Str} {f i:Nat} (hf:f≤i) (hi:i < s.length) (hc:s[i]≠c) (hn:∀x∈(s.take i).drop f,x≠c):∀x∈(s.take (i+1)).drop f,x≠c:=by
 rw [List.take_succ_eq_append_getElem hi,List.drop_append_of_le_length (by simp;omega)]
 intro x hx
 rcases List.mem_append.1 hx with h|h
 ·exact hn x h
 ·rw [List.mem_singleton.1 h];exact hc
theorem tV [aA Tryz.prog] (s:Str) (c:UInt8) (hl:s.length≤1099511627776):Ok Tryz.prog 136 [.str s,.int .u8 c.toNat] (.sl .own 1 ((bH c s).map bU)):=by
 refine ent Tryz.mix Tryz.func136 Tryz.ntmps136 ?_
 have W:=trivial
 repeat' first|refine wl ?_|(refine sq (fun hc=>?_) (fun hc=>?_)<;>try exact hc.elim)|fail
 refine aM (ι:={q:Nat×Nat×List Str×Nat // q.1≤s.length+1∧q.2.1≤q.1∧q.2.2.1.length≤q.1∧1≤q.2.2.2∧(q.1≤s.length→bH c s=q.2.2.1++bH c (s.drop q.2.1)∧∀x∈(s.take q.1).drop q.2.1,x≠c)∧(q.1=s.length+1→q.2.2.1=bH c s)})
  (fun t o i=>⟨aO t [(7,.int .i64 i.1.1),(6,.int .i64 i.1.2.1),(5,.obj 0 i.1.2.2.2)],[⟨true,false,1,i.1.2.2.2,i.1.2.2.1.map bU⟩]⟩)
  (fun i=>s.length+1 - i.1.1) ⟨(0,0,[],1),by simp,by simp,by simp,by simp,by simp,by simp⟩ (aH (by simp) (by simp)) ?_
 rintro ⟨⟨k,f,out,v⟩,hk,hf,ho,hv,hin,hout⟩ K1 hK1
 simp only at hk hf ho hv hin hout
 simp only [aO,List.set_cons_succ,List.set_cons_zero] at hK1⊢
 have hk1:IntKind.i64.wrap ((k:Int)+1)=((k+1:Nat):Int):=by rw [wrap64]<;>omega
 by_cases h1:k=s.length+1
 ·have e:=hout h1
  subst e
  subst h1
  have W:=hk1
  repeat' first|refine wl ?_|(refine sq (fun hc=>?_) (fun hc=>?_)<;>try exact hc.elim)|fail
  all_goals (try (refine ⟨.inr rfl,?_⟩;simp [Hands,Tryz.results136]))
 ·have hle:k≤s.length:=by omega
  obtain ⟨g1,g2⟩:=hin hle
  by_cases h2:k=s.length
  ·subst h2
   have e:=aYs g2
   rw [e,List.take_length] at g1
   have W:=hk1
   repeat' first|refine wl ?_|(refine sq (fun hc=>?_) (fun hc=>?_)<;>try exact hc.elim)|fail
   exact hK1 _ ⟨(s.length+1,s.length+1,out++[s.drop f],v+1),by simp only;omega,by simp only;omega,by simp;omega,by simp only;omega,fun h=>by simp only at h;omega,fun _=>g1.symm⟩ (aQ 1 (by simp) (by simp) (by simp) (by simp)) (by simp only;omega)
  ·have hlt:k < s.length:=by omega
   have hg:=List.getElem?_eq_getElem hlt
   have W:=And.intro hk1 (And.intro hg hlt)
   repeat' first|refine wl ?_|(refine sq (fun hc=>?_) (fun hc=>?_)<;>try exact hc.elim)|fail
   ·have hcc:s[k]=c:=UInt8.toNat_inj.1 (by omega)
    rw [bAd hf hlt hcc g2] at g1
    exact hK1 _ ⟨(k+1,k+1,out++[(s.take k).drop f],v+1),by simp only;omega,by simp only;omega,by simp;omega,by simp only;omega,fun _=>⟨by rw [g1];simp,by simp⟩,fun h=>by simp only at h;omega⟩ (aQ 1 (by simp) (by simp) (by simp) (by simp)) (by simp only;omega)
   ·have hcc:s[k]≠c:=fun h=>hc (by rw [h])
    exact hK1 _ ⟨(k+1,f,out,v),by simp only;omega,by simp only;omega,by simp only;omega,by simp only;omega,fun _=>⟨g1,aYp hf hlt hcc g2⟩,fun h=>by simp only at h;omega⟩ (aQ 1 (by simp) (by simp) (by simp) (by simp)) (by simp only;omega)
end Go.Proofs.YtlnblmmohpcceaaGreatDoor

set_option maxRecDepth 4000
set_option maxHeartbeats 4000000
namespace Go.Proofs.YtlnblmmohpcceaaGreatDoor
open Go.Aw
theorem bFb [aA Tryz.prog] (a b:Int):Ok Tryz.prog 220 [.int .i64 a,.int .i64 b] (.int .i64 (min a b)):=by
 by_cases h:b < a
 ·have hr:min a b=b:=by omega
  rw [hr]
  refine ent Tryz.mix Tryz.func220 Tryz.ntmps220 ?_
  have W:=h
  repeat' first|refine we ?_|(refine sq (fun hc=>?_) (fun hc=>?_)<;>try exact hc.elim)|fail
  all_goals (try (refine ⟨.inr rfl,?_⟩;simp [Hands,Tryz.results220]))
 ·have hr:min a b=a:=by omega
  rw [hr]
  refine ent Tryz.mix Tryz.func220 Tryz.ntmps220 ?_
  have W:=h
  repeat' first|refine we ?_|(refine sq (fun hc=>?_) (fun hc=>?_)<;>try exact hc.elim)|fail
  all_goals (try (refine ⟨.inr rfl,?_⟩;simp [Hands,Tryz.results220]))
theorem aD7 [aA Tryz.prog] (s:Str) (c:UInt8) (hl:s.length≤1099511627776):Ok Tryz.prog 218 [.str s,.int .u8 c.toNat] (.int .i64 (ixB c s:Nat)):=by
 refine ent Tryz.mix Tryz.func218 Tryz.ntmps218 ?_
 have W:=trivial
 repeat' first|refine we ?_|(refine sq (fun hc=>?_) (fun hc=>?_)<;>try exact hc.elim)|fail
 refine aM (ι:={k:Nat // k≤s.length∧∀x∈s.take k,x≠c}) (fun t o i=>⟨aO t [(5,.int .i64 i.1)],o⟩)
  (fun i=>s.length - i.1) ⟨0,by simp,by simp⟩ (aH (by simp) (by simp)) ?_
 rintro ⟨k,hk,hi⟩ K1 hK1
 simp only [aO,List.set_cons_succ,List.set_cons_zero] at hK1⊢
 have hk1:IntKind.i64.wrap ((k:Int)+1)=((k+1:Nat):Int):=by rw [wrap64]<;>omega
 by_cases hlt:k < s.length
 ·have hg:=List.getElem?_eq_getElem hlt
  have W:=And.intro hk1 (And.intro hg hlt)
  repeat' first|refine we ?_|(refine sq (fun hc=>?_) (fun hc=>?_)<;>try exact hc.elim)|fail
  ·have e:=aSu hlt (UInt8.toNat_inj.1 (by omega)) hi
   rw [e]
   all_goals (try (refine ⟨.inr rfl,?_⟩;simp [Hands,Tryz.results218]))
  ·exact hK1 _ ⟨k+1,by omega,dP hlt hi (fun h=>hc (by rw [h]))⟩ (aH (by simp) (by simp)) (by simp only;omega)
 ·have e:=aP9 (kG (by omega) hi)
  rw [e]
  have W:=hk1
  repeat' first|refine we ?_|(refine sq (fun hc=>?_) (fun hc=>?_)<;>try exact hc.elim)|fail
  all_goals (try (refine ⟨.inr rfl,?_⟩;simp [Hands,Tryz.results218]))
def pfx (p s:Str):Bool:=decide (p.length≤s.length)&&(s.take p.length == p)
theorem aTv [aA Tryz.prog] (s p:Str) (hl:s.length≤1099511627776) (hp:p.length≤1099511627776):Ok Tryz.prog 247 [.str s,.str p] (.bool (pfx p s)):=by
 by_cases h:p.length≤s.length
 ·have hi:(p.length:Int)≤(s.length:Int):=by omega
  have hr:pfx p s=(s.take p.length == p):=by simp [pfx,h]
  rw [hr]
  refine ent Tryz.mix Tryz.func247 Tryz.ntmps247 ?_
  have W:=And.intro h hi
  repeat' first|refine we ?_|(refine sq (fun hc=>?_) (fun hc=>?_)<;>try exact hc.elim)|fail
  all_goals (try (refine ⟨.inr rfl,?_⟩;simp [Hands,Tryz.results247]))
 ·have hi:¬(p.length:Int)≤(s.length:Int):=by omega
  have hr:pfx p s=false:=by simp [pfx,h]
  rw [hr]
  refine ent Tryz.mix Tryz.func247 Tryz.ntmps247 ?_
  have W:=And.intro h hi
  repeat' first|refine we ?_|(refine sq (fun hc=>?_) (fun hc=>?_)<;>try exact hc.elim)|fail
  all_goals (try (refine ⟨.inr rfl,?_⟩;simp [Hands,Tryz.results247]))
theorem aKi {p s:Str} (h:pfx p s=true):p.length≤s.length:=by
 simp only [pfx,Bool.and_eq_true,decide_eq_true_eq] at h
 exact h.1
theorem aO7 [aA Tryz.prog] (s p:Str) (hl:s.length≤1099511627776) (hp:p.length≤1099511627776):Ok Tryz.prog 253 [.str s,.str p] (.tup [.str (if pfx p s=true then s.drop p.length else s),.bool (pfx p s)]):=by
 have c1:=aTv s p hl hp
 have h1:= @aKi p s
 generalize pfx p s=b at *
 cases b
 ·refine ent Tryz.mix Tryz.func253 Tryz.ntmps253 ?_
  have W:=trivial
  repeat' first|refine we ?_|(refine sq (fun hc=>?_) (fun hc=>?_)<;>try exact hc.elim)|fail
  all_goals (try (refine ⟨.inr rfl,?_⟩;simp [Hands,Tryz.results253]))
 ·have h2:=h1 rfl
  refine ent Tryz.mix Tryz.func253 Tryz.ntmps253 ?_
  have W:=h2
  repeat' first|refine we ?_|(refine sq (fun hc=>?_) (fun hc=>?_)<;>try exact hc.elim)|fail
  all_goals (try (refine ⟨.inr rfl,?_⟩;simp [Hands,Tryz.results253]))
theorem aA8 [aA Tryz.prog] (s p:Str) (hl:s.length≤1099511627776) (hp:p.length≤1099511627776):Ok Tryz.prog 197 [.str s,.str p] (.tup [.str (if pfx p s=true then s.drop p.length else s),.bool (pfx p s)]):=by
 have c1:=aO7 s p hl hp
 generalize (if pfx p s=true then s.drop p.length else s)=q at *
 generalize pfx p s=b at *
 refine ent Tryz.mix Tryz.func197 Tryz.ntmps197 ?_
 have W:=trivial
 repeat' first|refine we ?_|(refine sq (fun hc=>?_) (fun hc=>?_)<;>try exact hc.elim)|fail
 all_goals (try (refine ⟨.inr rfl,?_⟩;simp [Hands,Tryz.results197]))
end Go.Proofs.YtlnblmmohpcceaaGreatDoor
