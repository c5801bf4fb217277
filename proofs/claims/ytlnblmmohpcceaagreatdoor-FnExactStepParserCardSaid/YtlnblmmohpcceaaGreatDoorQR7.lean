/-
  Proved here: steps towards the statement of this claim, text QR7.
  No condition beyond what each statement spells out.
-/
import Derived.Test.YtlnblmmohpcceaaGreatDoorQT1
import Derived.Test.YtlnblmmohpcceaaGreatDoorQU3
import Derived.Test.YtlnblmmohpcceaaGreatDoorQY4
import Derived.Test.YtlnblmmohpcceaaGreatDoorF6
set_option linter.all false
set_option maxRecDepth 4000
set_option maxHeartbeats 4000000
namespace Go.Proofs.YtlnblmmohpcceaaGreatDoor
open Go.Aw
def eU:Str:=[115,99,114,105,112,116]
def yF:Str:=[108,105,110,107]
def xM:Str:=[105,109,103]
def aAc:Str:=[107,105,110,100]
def vN:Str:=[109,111,100,117,108,101]
def fV:Str:=[115,114,99]
def pO:Str:=[104,114,101,102]
def bW:Str:=[100,105,103,101,115,116]
def aF9:gY:=⟨0,qI,[],[]⟩
def aKg (k:Int) (v d b:Str):gY×Bool:=if (bI v b).2=true then (⟨k,(bI v b).1,b,d⟩,true) else (aF9,false)
def aOn (t:aW) (b:Str):gY×Bool:=
 if t.kind=1 then
  if t.name=eU then
   if (aN t.attrs aAc).1=vN then aKg 5 (aN t.attrs fV).1 [] b else aKg 2 (aN t.attrs fV).1 (aN t.attrs bW).1 b
  else if t.name=yF then aKg 3 (aN t.attrs pO).1 (aN t.attrs bW).1 b
  else if t.name=xM then aKg 4 (aN t.attrs fV).1 (aN t.attrs bW).1 b
  else (aF9,false)
 else (aF9,false)
theorem gX (l:List fA) (n:Str):(aN l n).1.length≤aC eQ l:=by
 unfold aN
 split
 ·rename_i a h
  have:=List.mem_of_find?_eq_some h
  have:=bV eQ this
  simp only [eQ] at this⊢
  omega
 ·simp
theorem bAh (s b:Str):aR (addrOf s b)≤s.length+b.length:=by
 have:=mQ 47 s
 unfold addrOf
 split<;>simp [aR]<;>omega
theorem aAt (s b:Str):aR (bI s b).1≤s.length+b.length:=by
 have:=bAh s b
 unfold bI
 split
 ·exact this
 ·simp [aR,qI]
def bCa (b:Str) (t:aW):Option gY:=if (aOn t b).2=true then some (aOn t b).1 else none
def aXd (l:List aW) (b:Str):List gY:=l.filterMap (bCa b)
@[simp] theorem bC3 (b:Str):aXd [] b=[]:=rfl
def oH (s:Str):List aW:=(feed s).1++kR ⟨(feed s).2⟩
theorem aB9 (t:iU):aC aV (kR t)≤t.rest.length∧(kR t).length≤1:=by
 unfold kR
 split
 ·simp [aC]
 ·simp [aC,aV,szL]
theorem aCn (s:Str):(oH s).length≤s.length+1∧aC aV (oH s)≤s.length:=by
 obtain ⟨h1,h2⟩:=aGy s.length s (Nat.le_refl _)
 obtain ⟨h3,h4⟩:=aB9 ⟨(feed s).2⟩
 have hj:∀a b:List aW,aC aV (a++b)=aC aV a+aC aV b:=by
  intro a b
  induction a with
  |nil=>simp [aC]
  |cons x xs ih=>simp only [List.cons_append,aC,ih];omega
 simp only [oH,List.length_append,hj] at *
 omega
theorem aK8 [aA Tryz.prog] [dG Tryz.prog] (s:Str) (hl:s.length≤1048576):Ok Tryz.prog 153 [.str s] (.sl .own 4 ((oH s).map (aU .own))):=by
 have c1:=aJz ⟨[]⟩ s (by simp;omega)
 obtain ⟨h1,h2⟩:=aGy s.length s (Nat.le_refl _)
 simp only [List.nil_append,bZ] at c1
 unfold oH
 generalize feed s=f at *
 obtain ⟨l,x⟩:=f
 simp only at c1 h1 h2⊢
 have c2:=aMb ⟨x⟩ (by simp only;omega)
 have h4:=(aB9 ⟨x⟩).2
 simp only [bZ] at c2
 generalize kR ⟨x⟩=g at *
 have hb1:(l.length+g.length) * 64≤140737488355328:=by omega
 refine ent Tryz.mix Tryz.func153 Tryz.ntmps153 ?_
 have W:=hb1
 repeat' first|refine we ?_|(refine sq (fun hc=>?_) (fun hc=>?_)<;>try exact hc.elim)|fail
 all_goals (try (refine ⟨.inr rfl,?_⟩;simp [Hands,Tryz.results153]))
 all_goals (first|(rw [←List.map_append];exact sZ _)|simp)
theorem aJh [aA Tryz.prog] [dG Tryz.prog] (s:Str) (hl:s.length≤1048576):Ok Tryz.prog 226 [.str s] (.sl .own 4 ((oH s).map (aU .own))):=by
 have c1:=aKh ⟨[]⟩ s (by simp;omega)
 obtain ⟨h1,h2⟩:=aGy s.length s (Nat.le_refl _)
 simp only [List.nil_append,bZ] at c1
 unfold oH
 generalize feed s=f at *
 obtain ⟨l,x⟩:=f
 simp only at c1 h1 h2⊢
 have c2:=aLp ⟨x⟩ (by simp only;omega)
 have h4:=(aB9 ⟨x⟩).2
 simp only [bZ] at c2
 generalize kR ⟨x⟩=g at *
 have hb1:(l.length+g.length) * 64≤140737488355328:=by omega
 refine ent Tryz.mix Tryz.func226 Tryz.ntmps226 ?_
 have W:=hb1
 repeat' first|refine we ?_|(refine sq (fun hc=>?_) (fun hc=>?_)<;>try exact hc.elim)|fail
 all_goals (try (refine ⟨.inr rfl,?_⟩;simp [Hands,Tryz.results226]))
 all_goals (first|(rw [←List.map_append];exact sZ _)|simp)
def wd:Nat→Str
 |1=>[119,114,105,116,101]
 |2=>[97,100,100]
 |3=>[99,111,117,110,116]
 |4=>[108,111,111,107]
 |5=>[115,97,121]
 |_=>[]
def wM (op:Nat):Bool:=op == 1 || op == 5
def dX (op:Nat) (x:Str):Bool:=if wM op=true then decide (x.length≤60) else bS x
def fQ (s:Str) (op:Nat):Option (fI×Bool):=
 if (wd op).length+1≤s.length∧s.take ((wd op).length+1)=wd op++[32] then some (⟨op,s.drop ((wd op).length+1)⟩,dX op (s.drop ((wd op).length+1))) else none
def bG (s:Str):fI×Bool:=((((fQ s 1).or (fQ s 2)).or (fQ s 3)).or (fQ s 4)).or (fQ s 5) |>.getD (⟨0,[]⟩,false)
theorem aWr [aA Tryz.prog]:Ok Tryz.prog 260 [] (.sl .own 1 [[.str []],[.str [119,114,105,116,101,32]],[.str [97,100,100,32]],[.str [99,111,117,110,116,32]],[.str [108,111,111,107,32]],[.str [115,97,121,32]]]):=by
 refine ent Tryz.mix Tryz.func260 Tryz.ntmps260 ?_
 have W:=trivial
 repeat' first|refine we ?_|(refine sq (fun hc=>?_) (fun hc=>?_)<;>try exact hc.elim)|fail
 all_goals (try (refine ⟨.inr rfl,?_⟩;simp [Hands,Tryz.results260]))
theorem lQ {s:Str} {op:Nat} (h:¬((((wd op).length+1:Nat):Int)≤(s.length:Int)∧s.take ((wd op).length+1)=wd op++[32])):fQ s op=none:=by
 unfold fQ
 rw [if_neg]
 rintro ⟨h1,h2⟩
 exact h ⟨by omega,h2⟩
theorem tJ {s:Str} {op:Nat} (h1:(((wd op).length+1:Nat):Int)≤(s.length:Int)) (h2:s.take ((wd op).length+1)=wd op++[32]):fQ s op=some (⟨op,s.drop ((wd op).length+1)⟩,dX op (s.drop ((wd op).length+1))):=by
 unfold fQ
 exact if_pos ⟨by omega,h2⟩
theorem jY {s:Str} {k:Nat} (hn:∀j,1≤j→j < k→fQ s j=none) (h:fQ s k=none):∀j,1≤j→j < k+1→fQ s j=none:=by
 intro j h1 h2
 rcases Nat.lt_or_ge j k with h3|h3
 ·exact hn j h1 h3
 ·obtain rfl:j=k:=by omega
  exact h
theorem aYn [aA Tryz.prog] (s:Str) (hl:s.length≤1099511627776):Ok Tryz.prog 211 [.str s] (.tup [.agg (fU (bG s).1),.bool (bG s).2]):=by
 have c0:=aWr
 refine ent Tryz.mix Tryz.func211 Tryz.ntmps211 ?_
 have W:=trivial
 repeat' first|refine we ?_|(refine sq (fun hc=>?_) (fun hc=>?_)<;>try exact hc.elim)|fail
 refine aM (ι:={i:Nat // (1≤i∧i≤6)∧∀j,1≤j→j < i→fQ s j=none}) (fun t o i=>⟨aO t [(5,.int .i64 i.1)],o⟩) (fun i=>6 - i.1) ⟨1,by simp,fun j h1 h2=>by omega⟩ (aH (by simp) (by simp)) ?_
 rintro ⟨k,⟨hk,hk6⟩,hn⟩ K1 hK1
 try simp only at hk hk6 hn
 simp only [aO,List.set_cons_succ,List.set_cons_zero] at hK1⊢
 obtain rfl|rfl|rfl|rfl|rfl|rfl:k=1∨k=2∨k=3∨k=4∨k=5∨k=6:=by omega
 ·by_cases h1:(6:Int)≤(s.length:Int)
  ·have h1n:((6:Nat):Int)≤(s.length:Int):=by omega
   by_cases h2:s.take 6=[119,114,105,116,101,32]
   ·have ht:fQ s 1=some (⟨1,s.drop 6⟩,dX 1 (s.drop 6)):=tJ (op:=1) h1n h2
    have hr:bG s=(⟨1,s.drop 6⟩,dX 1 (s.drop 6)):=by simp [bG,ht]
    rw [hr]
    clear hr ht hn h1n
    by_cases h3:((s.length - 6:Nat):Int)≤60
    ·have hg:dX 1 (s.drop 6)=true:=by simp [dX,wM];omega
     rw [hg]
     have W:=And.intro h1 (And.intro h2 h3)
     repeat' first|refine we ?_|(refine sq (fun hc=>?_) (fun hc=>?_)<;>try exact hc.elim)|fail
     all_goals (try (refine ⟨.inr rfl,?_⟩;simp [Hands,Tryz.results211]))
    ·have hg:dX 1 (s.drop 6)=false:=by simp [dX,wM];omega
     rw [hg]
     have W:=And.intro h1 (And.intro h2 h3)
     repeat' first|refine we ?_|(refine sq (fun hc=>?_) (fun hc=>?_)<;>try exact hc.elim)|fail
     all_goals (try (refine ⟨.inr rfl,?_⟩;simp [Hands,Tryz.results211]))
   ·have ht:fQ s 1=none:=lQ (op:=1) (fun h=>h2 h.2)
    have hb:(s.take 6 == ([119,114,105,116,101,32]:Str))=false:=by simpa using h2
    have W:=And.intro h1 (And.intro h2 hb)
    repeat' first|refine we ?_|(refine sq (fun hc=>?_) (fun hc=>?_)<;>try exact hc.elim)|fail
    exact hK1 _ ⟨2,by omega,jY hn ht⟩ (aH (by simp) (by simp)) (by simp only;omega)
  ·have ht:fQ s 1=none:=lQ (op:=1) (fun h=>h1 (by have:=h.1;simp only [wd,List.length_cons,List.length_nil] at this;omega))
   have W:=h1
   repeat' first|refine we ?_|(refine sq (fun hc=>?_) (fun hc=>?_)<;>try exact hc.elim)|fail
   exact hK1 _ ⟨2,by omega,jY hn ht⟩ (aH (by simp) (by simp)) (by simp only;omega)
 ·by_cases h1:(4:Int)≤(s.length:Int)
  ·have h1n:((4:Nat):Int)≤(s.length:Int):=by omega
   by_cases h2:s.take 4=[97,100,100,32]
   ·have ht:fQ s 2=some (⟨2,s.drop 4⟩,dX 2 (s.drop 4)):=tJ (op:=2) h1n h2
    have hr:bG s=(⟨2,s.drop 4⟩,dX 2 (s.drop 4)):=by simp [bG,hn 1 (by omega) (by omega),ht]
    rw [hr]
    clear hr ht hn h1n
    have c1:=eP (s.drop 4) (by simp;omega)
    have hg:dX 2 (s.drop 4)=bS (s.drop 4):=rfl
    rw [hg]
    generalize bS (s.drop 4)=b at *
    have W:=And.intro h1 h2
    repeat' first|refine we ?_|(refine sq (fun hc=>?_) (fun hc=>?_)<;>try exact hc.elim)|fail
    all_goals (try (refine ⟨.inr rfl,?_⟩;simp [Hands,Tryz.results211]))
   ·have ht:fQ s 2=none:=lQ (op:=2) (fun h=>h2 h.2)
    have hb:(s.take 4 == ([97,100,100,32]:Str))=false:=by simpa using h2
    have W:=And.intro h1 (And.intro h2 hb)
    repeat' first|refine we ?_|(refine sq (fun hc=>?_) (fun hc=>?_)<;>try exact hc.elim)|fail
    exact hK1 _ ⟨3,by omega,jY hn ht⟩ (aH (by simp) (by simp)) (by simp only;omega)
  ·have ht:fQ s 2=none:=lQ (op:=2) (fun h=>h1 (by have:=h.1;simp only [wd,List.length_cons,List.length_nil] at this;omega))
   have W:=h1
   repeat' first|refine we ?_|(refine sq (fun hc=>?_) (fun hc=>?_)<;>try exact hc.elim)|fail
   exact hK1 _ ⟨3,by omega,jY hn ht⟩ (aH (by simp) (by simp)) (by simp only;omega)
 ·by_cases h1:(6:Int)≤(s.length:Int)
  ·have h1n:((6:Nat):Int)≤(s.length:Int):=by omega
   by_cases h2:s.take 6=[99,111,117,110,116,32]
   ·have ht:fQ s 3=some (⟨3,s.drop 6⟩,dX 3 (s.drop 6)):=tJ (op:=3) h1n h2
    have hr:bG s=(⟨3,s.drop 6⟩,dX 3 (s.drop 6)):=by simp [bG,hn 1 (by omega) (by omega),hn 2 (by omega) (by omega),ht]
    rw [hr]
    clear hr ht hn h1n
    have c1:=eP (s.drop 6) (by simp;omega)
    have hg:dX 3 (s.drop 6)=bS (s.drop 6):=rfl
    rw [hg]
    generalize bS (s.drop 6)=b at *
    have W:=And.intro h1 h2
    repeat' first|refine we ?_|(refine sq (fun hc=>?_) (fun hc=>?_)<;>try exact hc.elim)|fail
    all_goals (try (refine ⟨.inr rfl,?_⟩;simp [Hands,Tryz.results211]))
   ·have ht:fQ s 3=none:=lQ (op:=3) (fun h=>h2 h.2)
    have hb:(s.take 6 == ([99,111,117,110,116,32]:Str))=false:=by simpa using h2
    have W:=And.intro h1 (And.intro h2 hb)
    repeat' first|refine we ?_|(refine sq (fun hc=>?_) (fun hc=>?_)<;>try exact hc.elim)|fail
    exact hK1 _ ⟨4,by omega,jY hn ht⟩ (aH (by simp) (by simp)) (by simp only;omega)
  ·have ht:fQ s 3=none:=lQ (op:=3) (fun h=>h1 (by have:=h.1;simp only [wd,List.length_cons,List.length_nil] at this;omega))
   have W:=h1
   repeat' first|refine we ?_|(refine sq (fun hc=>?_) (fun hc=>?_)<;>try exact hc.elim)|fail
   exact hK1 _ ⟨4,by omega,jY hn ht⟩ (aH (by simp) (by simp)) (by simp only;omega)
 ·by_cases h1:(5:Int)≤(s.length:Int)
  ·have h1n:((5:Nat):Int)≤(s.length:Int):=by omega
   by_cases h2:s.take 5=[108,111,111,107,32]
   ·have ht:fQ s 4=some (⟨4,s.drop 5⟩,dX 4 (s.drop 5)):=tJ (op:=4) h1n h2
    have hr:bG s=(⟨4,s.drop 5⟩,dX 4 (s.drop 5)):=by simp [bG,hn 1 (by omega) (by omega),hn 2 (by omega) (by omega),hn 3 (by omega) (by omega),ht]
    rw [hr]
    clear hr ht hn h1n
    have c1:=eP (s.drop 5) (by simp;omega)
    have hg:dX 4 (s.drop 5)=bS (s.drop 5):=rfl
    rw [hg]
    generalize bS (s.drop 5)=b at *
    have W:=And.intro h1 h2
    repeat' first|refine we ?_|(refine sq (fun hc=>?_) (fun hc=>?_)<;>try exact hc.elim)|fail
    all_goals (try (refine ⟨.inr rfl,?_⟩;simp [Hands,Tryz.results211]))
   ·have ht:fQ s 4=none:=lQ (op:=4) (fun h=>h2 h.2)
    have hb:(s.take 5 == ([108,111,111,107,32]:Str))=false:=by simpa using h2
    have W:=And.intro h1 (And.intro h2 hb)
    repeat' first|refine we ?_|(refine sq (fun hc=>?_) (fun hc=>?_)<;>try exact hc.elim)|fail
    exact hK1 _ ⟨5,by omega,jY hn ht⟩ (aH (by simp) (by simp)) (by simp only;omega)
  ·have ht:fQ s 4=none:=lQ (op:=4) (fun h=>h1 (by have:=h.1;simp only [wd,List.length_cons,List.length_nil] at this;omega))
   have W:=h1
   repeat' first|refine we ?_|(refine sq (fun hc=>?_) (fun hc=>?_)<;>try exact hc.elim)|fail
   exact hK1 _ ⟨5,by omega,jY hn ht⟩ (aH (by simp) (by simp)) (by simp only;omega)
 ·by_cases h1:(4:Int)≤(s.length:Int)
  ·have h1n:((4:Nat):Int)≤(s.length:Int):=by omega
   by_cases h2:s.take 4=[115,97,121,32]
   ·have ht:fQ s 5=some (⟨5,s.drop 4⟩,dX 5 (s.drop 4)):=tJ (op:=5) h1n h2
    have hr:bG s=(⟨5,s.drop 4⟩,dX 5 (s.drop 4)):=by simp [bG,hn 1 (by omega) (by omega),hn 2 (by omega) (by omega),hn 3 (by omega) (by omega),hn 4 (by omega) (by omega),ht]
    rw [hr]
    clear hr ht hn h1n
    by_cases h3:((s.length - 4:Nat):Int)≤60
    ·have hg:dX 5 (s.drop 4)=true:=by simp [dX,wM];omega
     rw [hg]
     have W:=And.intro h1 (And.intro h2 h3)
     repeat' first|refine we ?_|(refine sq (fun hc=>?_) (fun hc=>?_)<;>try exact hc.elim)|fail
     all_goals (try (refine ⟨.inr rfl,?_⟩;simp [Hands,Tryz.results211]))
    ·have hg:dX 5 (s.drop 4)=false:=by simp [dX,wM];omega
     rw [hg]
     have W:=And.intro h1 (And.intro h2 h3)
     repeat' first|refine we ?_|(refine sq (fun hc=>?_) (fun hc=>?_)<;>try exact hc.elim)|fail
     all_goals (try (refine ⟨.inr rfl,?_⟩;simp [Hands,Tryz.results211]))
   ·have ht:fQ s 5=none:=lQ (op:=5) (fun h=>h2 h.2)
    have hb:(s.take 4 == ([115,97,121,32]:Str))=false:=by simpa using h2
    have W:=And.intro h1 (And.intro h2 hb)
    repeat' first|refine we ?_|(refine sq (fun hc=>?_) (fun hc=>?_)<;>try exact hc.elim)|fail
    exact hK1 _ ⟨6,by omega,jY hn ht⟩ (aH (by simp) (by simp)) (by simp only;omega)
  ·have ht:fQ s 5=none:=lQ (op:=5) (fun h=>h1 (by have:=h.1;simp only [wd,List.length_cons,List.length_nil] at this;omega))
   have W:=h1
   repeat' first|refine we ?_|(refine sq (fun hc=>?_) (fun hc=>?_)<;>try exact hc.elim)|fail
   exact hK1 _ ⟨6,by omega,jY hn ht⟩ (aH (by simp) (by simp)) (by simp only;omega)
 ·have hr:bG s=(⟨0,[]⟩,false):=by simp [bG,hn 1 (by omega) (by omega),hn 2 (by omega) (by omega),hn 3 (by omega) (by omega),hn 4 (by omega) (by omega),hn 5 (by omega) (by omega)]
  rw [hr]
  have W:=trivial
  repeat' first|refine we ?_|(refine sq (fun hc=>?_) (fun hc=>?_)<;>try exact hc.elim)|fail
  all_goals (try (refine ⟨.inr rfl,?_⟩;simp [Hands,Tryz.results211]))
end Go.Proofs.YtlnblmmohpcceaaGreatDoor
