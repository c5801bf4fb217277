/-
  Proved here: steps towards the statement of this claim, text QT1.
  No condition beyond what each statement spells out.
-/
import Derived.Test.YtkidoegojckmiaaGreatDoorAQD1
import Derived.Test.YtkidoegojckmiaaGreatDoorAQU1
import Derived.Test.YtkidoegojckmiaaGreatDoorAYShelf2
import Derived.Test.YtkidoegojckmiaaGreatDoorAF7
import Derived.WalkKit
import Derived.BigCall
set_option linter.all false
set_option maxRecDepth 4000
set_option maxHeartbeats 4000000
namespace Go.Proofs.YtkidoegojckmiaaGreatDoor
open Go.Aw
def vM (s:Str):AV:=match jI s with|some v=> .tup [.int .i64 v,.bool true]|none=> .tup [.int .i64 0,.bool false]
theorem kR {s:Str} (h:jI s=none):vM s= .tup [.int .i64 0,.bool false]:=by rw [vM,h]
theorem tF {s:Str} {v:Int} (h:jI s=some v):vM s= .tup [.int .i64 v,.bool true]:=by rw [vM,h]
theorem aG1 {s:Str} (h:¬(1≤s.length∧s.length≤13)):jI s=none:=by
 cases hp:jI s with
 |none=>rfl
 |some v=>
  obtain ⟨m,_,_,hs,hl,_⟩:=vR hp
  have:=zU m
  rw [←hs] at this
  exact absurd ⟨by have:=List.length_pos_iff.2 this;omega,hl⟩ h
theorem aJc {s:Str} {k:Nat} (hk:k < s.length) (h:¬(48≤s[k].toNat∧s[k].toNat≤57)):jI s=none:=by
 cases hp:jI s with
 |none=>rfl
 |some v=>
  obtain ⟨m,_,_,hs,hl,hd⟩:=vR hp
  have hd':Lib.decFrom 0 s=some m:=by
   unfold Lib.decNat at hd;split at hd
   ·cases hd
   ·exact hd
  obtain ⟨d,h2⟩:=Lib.digit_of_decFrom s 0 m hd' k s[k] (List.getElem?_eq_getElem hk)
  unfold Lib.digitVal at h2
  rw [if_neg h] at h2;cases h2
theorem aSi {s:Str} {m:Nat} (h0:s≠[]) (hl:s.length≤13) (h:Lib.decFrom 0 s=some m):jI s=if m≤1000000000000∧Lib.decDigits m=s then some (m:Int) else none:=by
 have:Lib.decNat s=some m:=by unfold Lib.decNat;rw [if_neg (by simpa using h0)];exact h
 simp [jI,this,hl]
theorem aSh (m:Nat):Lib.itoa (m:Int)=Lib.decDigits m:=by
 unfold Lib.itoa
 rw [if_neg (by omega)];rfl
theorem aD3 [aB Tryz.prog] [eG Tryz.prog] (s:Str) (hl:s.length≤1099511627776):Ok Tryz.prog 87 [.str s] (vM s):=by
 have c1:=gH (s.length:Int) 1 13
 by_cases h1:1≤s.length∧s.length≤13
 ·rw [show (decide ((1:Int)≤(s.length:Int))&&decide ((s.length:Int)≤13))=true by simp;omega] at c1
  have h0:s≠[]:=by intro e;rw [e] at h1;simp at h1
  refine ent Tryz.mix Tryz.func87 Tryz.ntmps87 ?_
  have W:=trivial
  repeat' first|refine st ?_|(refine nx ?_;first|refine se ?_|refine so ?_)|(refine cx ?_;refine sc (fun hc=>?_) (fun hc=>?_)<;>try exact hc.elim)|(refine lx ?_;refine sp (fun hc=>?_) (fun hc=>?_)<;>try exact hc.elim)|refine sx ?_ ?_|refine sy ?_ ?_|fail
  refine aJ (ι:={p:Nat×Nat // p.1≤s.length∧Lib.decFrom 0 (s.take p.1)=some p.2}) (fun t o i=>⟨aL t [(4,.int .i64 (i.1.2:Int)),(5,.int .i64 (i.1.1:Int))],o⟩)
   (fun i=>s.length - i.1.1) ⟨(0,0),by simp,by simp [Lib.decFrom]⟩ (aH (by simp) (by simp)) ?_
  rintro ⟨⟨k,m⟩,⟨hk,hi⟩⟩ K1 hK1
  simp only [aL,List.set_cons_succ,List.set_cons_zero] at hK1 hk hi⊢
  have hk1:IntKind.i64.wrap ((k:Int)+1)=((k+1:Nat):Int):=by rw [wrap64]<;>omega
  have hm13:m < 10000000000000:=by
   have h2:=aLi hi
   have h3:(10:Nat) ^ (s.take k).length≤10 ^ 13:=Nat.pow_le_pow_right (by decide) (by simp;omega)
   omega
  by_cases hlt:k < s.length
  ·have hg:=List.getElem?_eq_getElem hlt
   have c2:=gH (s[k].toNat:Int) 48 57
   have hu:s[k].toNat < 256:=s[k].toNat_lt
   by_cases hd:48≤s[k].toNat∧s[k].toNat≤57
   ·have hb:(decide ((48:Int)≤(s[k].toNat:Int))&&decide ((s[k].toNat:Int)≤57))=true:=by simp;omega
    rw [hb] at c2
    have hw1:IntKind.u8.wrap ((s[k].toNat:Int) - 48)=((s[k].toNat - 48:Nat):Int):=by rw [aP5]<;>omega
    have hw2:IntKind.i64.wrap ((s[k].toNat - 48:Nat):Int)=((s[k].toNat - 48:Nat):Int):=by rw [wrap64]<;>omega
    have hw3:IntKind.i64.wrap (10 * (m:Int))=((10 * m:Nat):Int):=by rw [wrap64]<;>omega
    have hw4:IntKind.i64.wrap (((10 * m:Nat):Int)+((s[k].toNat - 48:Nat):Int))=((m * 10+(s[k].toNat - 48):Nat):Int):=by rw [wrap64]<;>omega
    have hw5:IntKind.i64.wrap (s[k].toNat:Int)=(s[k].toNat:Int):=by rw [wrap64]<;>omega
    have hn:=Lib.decFrom_take s k 0 m s[k] _ hi hg (show Lib.digitVal s[k]=some (s[k].toNat - 48) by unfold Lib.digitVal;rw [if_pos hd])
    have W:=And.intro hk1 (And.intro hg (And.intro hlt (And.intro hw1 (And.intro hw2 (And.intro hw3 (And.intro hw4 hw5))))))
    repeat' first|refine st ?_|(refine nx ?_;first|refine se ?_|refine so ?_)|(refine cx ?_;refine sc (fun hc=>?_) (fun hc=>?_)<;>try exact hc.elim)|(refine lx ?_;refine sp (fun hc=>?_) (fun hc=>?_)<;>try exact hc.elim)|refine sx ?_ ?_|refine sy ?_ ?_|fail
    exact hK1 _ ⟨(k+1,m * 10+(s[k].toNat - 48)),by simp only;omega,hn⟩ (aH (by simp) (by simp;try omega)) (by simp only;omega)
   ·have hb:(decide ((48:Int)≤(s[k].toNat:Int))&&decide ((s[k].toNat:Int)≤57))=false:=by
     simp only [Bool.and_eq_false_iff,decide_eq_false_iff_not];omega
    rw [hb] at c2
    have hw5:IntKind.i64.wrap (s[k].toNat:Int)=(s[k].toNat:Int):=by rw [wrap64]<;>omega
    rw [kR (aJc hlt hd)] at *
    have W:=And.intro hk1 (And.intro hg (And.intro hlt hw5))
    repeat' first|refine st ?_|(refine nx ?_;first|refine se ?_|refine so ?_)|(refine cx ?_;refine sc (fun hc=>?_) (fun hc=>?_)<;>try exact hc.elim)|(refine lx ?_;refine sp (fun hc=>?_) (fun hc=>?_)<;>try exact hc.elim)|refine sx ?_ ?_|refine sy ?_ ?_|fail
    all_goals (try (refine ⟨.inr rfl,?_⟩;simp [Hands,Tryz.results87]))
  ·have hke:k=s.length:=by omega
   subst hke
   rw [List.take_length] at hi
   have hp:=aSi h0 h1.2 hi
   have c3:=vG (m:Int) (by omega)
   rw [aSh] at c3
   by_cases hm:m≤1000000000000
   ·by_cases he:Lib.decDigits m=s
    ·rw [if_pos ⟨hm,he⟩] at hp
     rw [tF hp] at *
     have hm':¬(1000000000000:Int) < (m:Int):=by omega
     have W:=And.intro hm' he
     repeat' first|refine st ?_|(refine nx ?_;first|refine se ?_|refine so ?_)|(refine cx ?_;refine sc (fun hc=>?_) (fun hc=>?_)<;>try exact hc.elim)|(refine lx ?_;refine sp (fun hc=>?_) (fun hc=>?_)<;>try exact hc.elim)|refine sx ?_ ?_|refine sy ?_ ?_|fail
     all_goals (try (refine ⟨.inr rfl,?_⟩;simp [Hands,Tryz.results87]))
    ·rw [if_neg (fun h=>he h.2)] at hp
     rw [kR hp] at *
     have hm':¬(1000000000000:Int) < (m:Int):=by omega
     have W:=And.intro hm' he
     repeat' first|refine st ?_|(refine nx ?_;first|refine se ?_|refine so ?_)|(refine cx ?_;refine sc (fun hc=>?_) (fun hc=>?_)<;>try exact hc.elim)|(refine lx ?_;refine sp (fun hc=>?_) (fun hc=>?_)<;>try exact hc.elim)|refine sx ?_ ?_|refine sy ?_ ?_|fail
     all_goals first
      |exact absurd ‹Lib.decDigits m=s› he
      |skip
     all_goals (try (refine ⟨.inr rfl,?_⟩;simp [Hands,Tryz.results87]))
   ·rw [if_neg (fun h=>hm h.1)] at hp
    rw [kR hp] at *
    have hm':(1000000000000:Int) < (m:Int):=by omega
    have W:=hm'
    repeat' first|refine st ?_|(refine nx ?_;first|refine se ?_|refine so ?_)|(refine cx ?_;refine sc (fun hc=>?_) (fun hc=>?_)<;>try exact hc.elim)|(refine lx ?_;refine sp (fun hc=>?_) (fun hc=>?_)<;>try exact hc.elim)|refine sx ?_ ?_|refine sy ?_ ?_|fail
    all_goals (try (refine ⟨.inr rfl,?_⟩;simp [Hands,Tryz.results87]))
 ·rw [show (decide ((1:Int)≤(s.length:Int))&&decide ((s.length:Int)≤13))=false by simp only [Bool.and_eq_false_iff,decide_eq_false_iff_not];omega] at c1
  rw [kR (aG1 h1)]
  refine ent Tryz.mix Tryz.func87 Tryz.ntmps87 ?_
  have W:=trivial
  repeat' first|refine st ?_|(refine nx ?_;first|refine se ?_|refine so ?_)|(refine cx ?_;refine sc (fun hc=>?_) (fun hc=>?_)<;>try exact hc.elim)|(refine lx ?_;refine sp (fun hc=>?_) (fun hc=>?_)<;>try exact hc.elim)|refine sx ?_ ?_|refine sy ?_ ?_|fail
  all_goals (try (refine ⟨.inr rfl,?_⟩;simp [Hands,Tryz.results87]))
end Go.Proofs.YtkidoegojckmiaaGreatDoor

set_option maxRecDepth 100000
set_option maxHeartbeats 4000000
namespace Go.Proofs.YtkidoegojckmiaaGreatDoor
open Go.Aw Go.Shelf Go.RowKit
theorem aRo {w:World} {E:Env} {a:Str} {vs:List Value} {fp:List Nat} (h:Rc w E [.str a] vs fp):vs=[.string ⟨a.toArray⟩]:=by
 match vs,h with
 |[],h=>simp [Rc] at h
 |[x],h=>
  simp only [Rc,R] at h
  obtain ⟨_,_,h1,_,_⟩:=h
  rw [h1.1]
 |_::_::_,h=>simp [Rc] at h
theorem aF6 [aB Tryz.prog] [eG Tryz.prog] (v:Int) (h1: -9223372036854775808≤v∧v≤9223372036854775807) (w:World) (hg:aB.holds Tryz.prog w):
  Calls Tryz.prog 76 #[.int .i64 v] w fun e w'=>e= .returned (.string ⟨(Lib.itoa v).toArray⟩)∧Below w.heap.size w w':=by
 refine (uU v h1 w [.int .i64 v] hg (by simp [Rc,R])).mono fun e w' h=> ?_
 obtain ⟨x,fp,he,hr,_,_,h3,h4,h5⟩:=h
 simp only [R] at hr
 rw [hr.1] at he
 exact ⟨he,⟨h5.os,h5.tape,h5.output,h3,h4⟩⟩
theorem aEn [aB Tryz.prog] [eG Tryz.prog] [uQ Tryz.prog] (s:Str) (hl:s.length≤1099511627776):Ok Tryz.prog 83 [.str s] (vM s):=by
 intro w vs hg h
 obtain rfl:=aRo h
 have fin:∀{e:Ending} {w':World} {n:Int} {b:Bool},vM s= .tup [.int .i64 n,.bool b]→e= .returned (.tuple #[.int .i64 n,.bool b])→Below w.heap.size w w'→∃v fp,e= .returned v∧R w' (nE w.heap.size w' fp) (vM s) v fp∧fp.Nodup∧
   (∀b∈fp,w.heap.size≤b∧b < w'.heap.size)∧w.heap.size≤w'.heap.size∧(∀b,b < w.heap.size→w'.heap[b]? =w.heap[b]?)∧Same w w':=
  fun hp he hb=>⟨_,[],he,by rw [hp];simp [R,Rc],List.nodup_nil,by simp,hb.size,hb.block,tL hb⟩
 have A:=aNg Tryz.LaysCx172 s (by omega) w hg
 go_enter Tryz.func83,Tryz.ntmps83
 go_wp2_with (go_at_call 115;refine A.mono ?_)
 rintro e w1 ⟨hA,hb⟩
 clear A
 have hg1:=aB.stable w w1 hg fun b h=>hb.block b (Nat.lt_of_lt_of_le h (aB.low_le w hg))
 rcases hA with ⟨v,hv,rfl⟩|⟨hn,v,t,p,rfl⟩
 ·rcases aGt s with ⟨v',hv',h0,h1,hi,hp⟩|⟨hp,hall⟩
  ·obtain rfl:v=v':=by rw [hv] at hv';exact Lib.NumEnd.ok.inj hv'
   have d0:decide (v < 0)=false:=by simpa using h0
   have d1:decide (1000000000000 < v)=false:=by simpa using h1
   have C:=aF6 v (by omega) w1 hg1
   rw [hi] at C
   have F:= @fin
   clear hv hv' h0 h1 hi fin
   go_wp2_with (go_at_call 76;refine C.mono ?_)
   rintro e w2 ⟨rfl,hb2⟩
   clear C
   go_wp2
   go_ret2
   exact F (tF hp) rfl (hb.trans (hb2.mono hb.size))
  ·have hr:=kR hp
   have bd:=Lib.atoiAll_bounds hv
   by_cases h0:v < 0
   ·have d0:decide (v < 0)=true:=by simpa using h0
    clear hv h0 hall bd
    go_wp2
    go_ret2
    exact fin hr rfl hb
   by_cases h1:1000000000000 < v
   ·have d0:decide (v < 0)=false:=by simpa using h0
    have d1:decide (1000000000000 < v)=true:=by simpa using h1
    clear hv h0 h1 hall bd
    go_wp2
    go_ret2
    exact fin hr rfl hb
   ·have hi:Lib.itoa v≠s:=by
     rcases hall v hv with h|h|h
     ·exact absurd h h0
     ·exact absurd h h1
     ·exact h
    have d0:decide (v < 0)=false:=by simpa using h0
    have d1:decide (1000000000000 < v)=false:=by simpa using h1
    have C:=aF6 v (by omega) w1 hg1
    generalize Lib.itoa v=x at C hi
    have d2:(x == s)=false:=by simpa using hi
    have d3:(x != s)=true:=by simpa using hi
    clear hv h0 h1 hall bd
    go_wp2_with (go_at_call 76;refine C.mono ?_)
    rintro e w2 ⟨rfl,hb2⟩
    clear C
    go_wp2
    go_ret2
    exact fin hr rfl (hb.trans (hb2.mono hb.size))
 ·have hp:jI s=none:=by
   rcases aGt s with ⟨v',hv',_⟩|⟨hp,_⟩
   ·exact absurd hv' (hn _)
   ·exact hp
  have hr:=kR hp
  clear hn
  go_wp2
  go_ret2
  exact fin hr rfl hb
end Go.Proofs.YtkidoegojckmiaaGreatDoor
