/-
  Proved here: steps towards the statement of this claim, text P2.
  No condition beyond what each statement spells out.
-/
import Derived.Test.YtgkllebnnakojaaGreatDoorQD1
import Derived.Test.YtgkllebnnakojaaGreatDoorF6
set_option linter.all false
set_option maxRecDepth 4000
set_option maxHeartbeats 4000000
namespace Go.Proofs.YtgkllebnnakojaaGreatDoor
open Go.Aw
def wd:Nat→Str
 |1=>[119,114,105,116,101]
 |2=>[97,100,100]
 |3=>[99,111,117,110,116]
 |4=>[108,111,111,107]
 |5=>[115,97,121]
 |_=>[]
def qX (op:Nat):Bool:=op == 1 || op == 5
def cZ (op:Nat) (x:Str):Bool:=if qX op=true then decide (x.length≤60) else dA x
def eD (s:Str) (op:Nat):Option (uM×Bool):=
 if (wd op).length+1≤s.length∧s.take ((wd op).length+1)=wd op++[32] then some (⟨op,s.drop ((wd op).length+1)⟩,cZ op (s.drop ((wd op).length+1))) else none
def aY (s:Str):uM×Bool:=((((eD s 1).or (eD s 2)).or (eD s 3)).or (eD s 4)).or (eD s 5) |>.getD (⟨0,[]⟩,false)
theorem aOo [aB Tryz.prog]:Ok Tryz.prog 150 [] (.sl .own 1 [[.str []],[.str [119,114,105,116,101,32]],[.str [97,100,100,32]],[.str [99,111,117,110,116,32]],[.str [108,111,111,107,32]],[.str [115,97,121,32]]]):=by
 refine ent Tryz.mix Tryz.func150 Tryz.ntmps150 ?_
 have W:=trivial
 repeat' first|refine st ?_|(refine nx ?_;first|refine se ?_|refine so ?_)|(refine cx ?_;refine sc (fun hc=>?_) (fun hc=>?_)<;>try exact hc.elim)|(refine lx ?_;refine sp (fun hc=>?_) (fun hc=>?_)<;>try exact hc.elim)|refine sx ?_ ?_|refine sy ?_ ?_|fail
 all_goals (try (refine ⟨.inr rfl,?_⟩;simp [Hands,Tryz.results150]))
theorem iN {s:Str} {op:Nat} (h:¬((((wd op).length+1:Nat):Int)≤(s.length:Int)∧s.take ((wd op).length+1)=wd op++[32])):eD s op=none:=by
 unfold eD
 rw [if_neg]
 rintro ⟨h1,h2⟩
 exact h ⟨by omega,h2⟩
theorem nY {s:Str} {op:Nat} (h1:(((wd op).length+1:Nat):Int)≤(s.length:Int)) (h2:s.take ((wd op).length+1)=wd op++[32]):eD s op=some (⟨op,s.drop ((wd op).length+1)⟩,cZ op (s.drop ((wd op).length+1))):=by
 unfold eD
 exact if_pos ⟨by omega,h2⟩
theorem gB {s:Str} {k:Nat} (hn:∀j,1≤j→j < k→eD s j=none) (h:eD s k=none):∀j,1≤j→j < k+1→eD s j=none:=by
 intro j h1 h2
 rcases Nat.lt_or_ge j k with h3|h3
 ·exact hn j h1 h3
 ·obtain rfl:j=k:=by omega
  exact h
theorem aQj [aB Tryz.prog] (s:Str) (hl:s.length≤1099511627776):Ok Tryz.prog 132 [.str s] (.tup [.agg (jM (aY s).1),.bool (aY s).2]):=by
 have c0:=aOo
 refine ent Tryz.mix Tryz.func132 Tryz.ntmps132 ?_
 have W:=trivial
 repeat' first|refine st ?_|(refine nx ?_;first|refine se ?_|refine so ?_)|(refine cx ?_;refine sc (fun hc=>?_) (fun hc=>?_)<;>try exact hc.elim)|(refine lx ?_;refine sp (fun hc=>?_) (fun hc=>?_)<;>try exact hc.elim)|refine sx ?_ ?_|refine sy ?_ ?_|fail
 refine aT (ι:={i:Nat // (1≤i∧i≤6)∧∀j,1≤j→j < i→eD s j=none}) (fun t o i=>⟨bB t [(5,.int .i64 i.1)],o⟩) (fun i=>6 - i.1) ⟨1,by simp,fun j h1 h2=>by omega⟩ (aI (by simp) (by simp)) ?_
 rintro ⟨k,⟨hk,hk6⟩,hn⟩ K1 hK1
 try simp only at hk hk6 hn
 simp only [bB,List.set_cons_succ,List.set_cons_zero] at hK1⊢
 obtain rfl|rfl|rfl|rfl|rfl|rfl:k=1∨k=2∨k=3∨k=4∨k=5∨k=6:=by omega
 ·by_cases h1:(6:Int)≤(s.length:Int)
  ·have h1n:((6:Nat):Int)≤(s.length:Int):=by omega
   by_cases h2:s.take 6=[119,114,105,116,101,32]
   ·have ht:eD s 1=some (⟨1,s.drop 6⟩,cZ 1 (s.drop 6)):=nY (op:=1) h1n h2
    have hr:aY s=(⟨1,s.drop 6⟩,cZ 1 (s.drop 6)):=by simp [aY,ht]
    rw [hr]
    clear hr ht hn h1n
    by_cases h3:((s.length - 6:Nat):Int)≤60
    ·have hg:cZ 1 (s.drop 6)=true:=by simp [cZ,qX];omega
     rw [hg]
     have W:=And.intro h1 (And.intro h2 h3)
     repeat' first|refine st ?_|(refine nx ?_;first|refine se ?_|refine so ?_)|(refine cx ?_;refine sc (fun hc=>?_) (fun hc=>?_)<;>try exact hc.elim)|(refine lx ?_;refine sp (fun hc=>?_) (fun hc=>?_)<;>try exact hc.elim)|refine sx ?_ ?_|refine sy ?_ ?_|fail
     all_goals (try (refine ⟨.inr rfl,?_⟩;simp [Hands,Tryz.results132]))
    ·have hg:cZ 1 (s.drop 6)=false:=by simp [cZ,qX];omega
     rw [hg]
     have W:=And.intro h1 (And.intro h2 h3)
     repeat' first|refine st ?_|(refine nx ?_;first|refine se ?_|refine so ?_)|(refine cx ?_;refine sc (fun hc=>?_) (fun hc=>?_)<;>try exact hc.elim)|(refine lx ?_;refine sp (fun hc=>?_) (fun hc=>?_)<;>try exact hc.elim)|refine sx ?_ ?_|refine sy ?_ ?_|fail
     all_goals (try (refine ⟨.inr rfl,?_⟩;simp [Hands,Tryz.results132]))
   ·have ht:eD s 1=none:=iN (op:=1) (fun h=>h2 h.2)
    have hb:(s.take 6 == ([119,114,105,116,101,32]:Str))=false:=by simpa using h2
    have W:=And.intro h1 (And.intro h2 hb)
    repeat' first|refine st ?_|(refine nx ?_;first|refine se ?_|refine so ?_)|(refine cx ?_;refine sc (fun hc=>?_) (fun hc=>?_)<;>try exact hc.elim)|(refine lx ?_;refine sp (fun hc=>?_) (fun hc=>?_)<;>try exact hc.elim)|refine sx ?_ ?_|refine sy ?_ ?_|fail
    exact hK1 _ ⟨2,by omega,gB hn ht⟩ (aI (by simp) (by simp)) (by simp only;omega)
  ·have ht:eD s 1=none:=iN (op:=1) (fun h=>h1 (by have:=h.1;simp only [wd,List.length_cons,List.length_nil] at this;omega))
   have W:=h1
   repeat' first|refine st ?_|(refine nx ?_;first|refine se ?_|refine so ?_)|(refine cx ?_;refine sc (fun hc=>?_) (fun hc=>?_)<;>try exact hc.elim)|(refine lx ?_;refine sp (fun hc=>?_) (fun hc=>?_)<;>try exact hc.elim)|refine sx ?_ ?_|refine sy ?_ ?_|fail
   exact hK1 _ ⟨2,by omega,gB hn ht⟩ (aI (by simp) (by simp)) (by simp only;omega)
 ·by_cases h1:(4:Int)≤(s.length:Int)
  ·have h1n:((4:Nat):Int)≤(s.length:Int):=by omega
   by_cases h2:s.take 4=[97,100,100,32]
   ·have ht:eD s 2=some (⟨2,s.drop 4⟩,cZ 2 (s.drop 4)):=nY (op:=2) h1n h2
    have hr:aY s=(⟨2,s.drop 4⟩,cZ 2 (s.drop 4)):=by simp [aY,hn 1 (by omega) (by omega),ht]
    rw [hr]
    clear hr ht hn h1n
    have c1:=gY (s.drop 4) (by simp;omega)
    have hg:cZ 2 (s.drop 4)=dA (s.drop 4):=rfl
    rw [hg]
    generalize dA (s.drop 4)=b at *
    have W:=And.intro h1 h2
    repeat' first|refine st ?_|(refine nx ?_;first|refine se ?_|refine so ?_)|(refine cx ?_;refine sc (fun hc=>?_) (fun hc=>?_)<;>try exact hc.elim)|(refine lx ?_;refine sp (fun hc=>?_) (fun hc=>?_)<;>try exact hc.elim)|refine sx ?_ ?_|refine sy ?_ ?_|fail
    all_goals (try (refine ⟨.inr rfl,?_⟩;simp [Hands,Tryz.results132]))
   ·have ht:eD s 2=none:=iN (op:=2) (fun h=>h2 h.2)
    have hb:(s.take 4 == ([97,100,100,32]:Str))=false:=by simpa using h2
    have W:=And.intro h1 (And.intro h2 hb)
    repeat' first|refine st ?_|(refine nx ?_;first|refine se ?_|refine so ?_)|(refine cx ?_;refine sc (fun hc=>?_) (fun hc=>?_)<;>try exact hc.elim)|(refine lx ?_;refine sp (fun hc=>?_) (fun hc=>?_)<;>try exact hc.elim)|refine sx ?_ ?_|refine sy ?_ ?_|fail
    exact hK1 _ ⟨3,by omega,gB hn ht⟩ (aI (by simp) (by simp)) (by simp only;omega)
  ·have ht:eD s 2=none:=iN (op:=2) (fun h=>h1 (by have:=h.1;simp only [wd,List.length_cons,List.length_nil] at this;omega))
   have W:=h1
   repeat' first|refine st ?_|(refine nx ?_;first|refine se ?_|refine so ?_)|(refine cx ?_;refine sc (fun hc=>?_) (fun hc=>?_)<;>try exact hc.elim)|(refine lx ?_;refine sp (fun hc=>?_) (fun hc=>?_)<;>try exact hc.elim)|refine sx ?_ ?_|refine sy ?_ ?_|fail
   exact hK1 _ ⟨3,by omega,gB hn ht⟩ (aI (by simp) (by simp)) (by simp only;omega)
 ·by_cases h1:(6:Int)≤(s.length:Int)
  ·have h1n:((6:Nat):Int)≤(s.length:Int):=by omega
   by_cases h2:s.take 6=[99,111,117,110,116,32]
   ·have ht:eD s 3=some (⟨3,s.drop 6⟩,cZ 3 (s.drop 6)):=nY (op:=3) h1n h2
    have hr:aY s=(⟨3,s.drop 6⟩,cZ 3 (s.drop 6)):=by simp [aY,hn 1 (by omega) (by omega),hn 2 (by omega) (by omega),ht]
    rw [hr]
    clear hr ht hn h1n
    have c1:=gY (s.drop 6) (by simp;omega)
    have hg:cZ 3 (s.drop 6)=dA (s.drop 6):=rfl
    rw [hg]
    generalize dA (s.drop 6)=b at *
    have W:=And.intro h1 h2
    repeat' first|refine st ?_|(refine nx ?_;first|refine se ?_|refine so ?_)|(refine cx ?_;refine sc (fun hc=>?_) (fun hc=>?_)<;>try exact hc.elim)|(refine lx ?_;refine sp (fun hc=>?_) (fun hc=>?_)<;>try exact hc.elim)|refine sx ?_ ?_|refine sy ?_ ?_|fail
    all_goals (try (refine ⟨.inr rfl,?_⟩;simp [Hands,Tryz.results132]))
   ·have ht:eD s 3=none:=iN (op:=3) (fun h=>h2 h.2)
    have hb:(s.take 6 == ([99,111,117,110,116,32]:Str))=false:=by simpa using h2
    have W:=And.intro h1 (And.intro h2 hb)
    repeat' first|refine st ?_|(refine nx ?_;first|refine se ?_|refine so ?_)|(refine cx ?_;refine sc (fun hc=>?_) (fun hc=>?_)<;>try exact hc.elim)|(refine lx ?_;refine sp (fun hc=>?_) (fun hc=>?_)<;>try exact hc.elim)|refine sx ?_ ?_|refine sy ?_ ?_|fail
    exact hK1 _ ⟨4,by omega,gB hn ht⟩ (aI (by simp) (by simp)) (by simp only;omega)
  ·have ht:eD s 3=none:=iN (op:=3) (fun h=>h1 (by have:=h.1;simp only [wd,List.length_cons,List.length_nil] at this;omega))
   have W:=h1
   repeat' first|refine st ?_|(refine nx ?_;first|refine se ?_|refine so ?_)|(refine cx ?_;refine sc (fun hc=>?_) (fun hc=>?_)<;>try exact hc.elim)|(refine lx ?_;refine sp (fun hc=>?_) (fun hc=>?_)<;>try exact hc.elim)|refine sx ?_ ?_|refine sy ?_ ?_|fail
   exact hK1 _ ⟨4,by omega,gB hn ht⟩ (aI (by simp) (by simp)) (by simp only;omega)
 ·by_cases h1:(5:Int)≤(s.length:Int)
  ·have h1n:((5:Nat):Int)≤(s.length:Int):=by omega
   by_cases h2:s.take 5=[108,111,111,107,32]
   ·have ht:eD s 4=some (⟨4,s.drop 5⟩,cZ 4 (s.drop 5)):=nY (op:=4) h1n h2
    have hr:aY s=(⟨4,s.drop 5⟩,cZ 4 (s.drop 5)):=by simp [aY,hn 1 (by omega) (by omega),hn 2 (by omega) (by omega),hn 3 (by omega) (by omega),ht]
    rw [hr]
    clear hr ht hn h1n
    have c1:=gY (s.drop 5) (by simp;omega)
    have hg:cZ 4 (s.drop 5)=dA (s.drop 5):=rfl
    rw [hg]
    generalize dA (s.drop 5)=b at *
    have W:=And.intro h1 h2
    repeat' first|refine st ?_|(refine nx ?_;first|refine se ?_|refine so ?_)|(refine cx ?_;refine sc (fun hc=>?_) (fun hc=>?_)<;>try exact hc.elim)|(refine lx ?_;refine sp (fun hc=>?_) (fun hc=>?_)<;>try exact hc.elim)|refine sx ?_ ?_|refine sy ?_ ?_|fail
    all_goals (try (refine ⟨.inr rfl,?_⟩;simp [Hands,Tryz.results132]))
   ·have ht:eD s 4=none:=iN (op:=4) (fun h=>h2 h.2)
    have hb:(s.take 5 == ([108,111,111,107,32]:Str))=false:=by simpa using h2
    have W:=And.intro h1 (And.intro h2 hb)
    repeat' first|refine st ?_|(refine nx ?_;first|refine se ?_|refine so ?_)|(refine cx ?_;refine sc (fun hc=>?_) (fun hc=>?_)<;>try exact hc.elim)|(refine lx ?_;refine sp (fun hc=>?_) (fun hc=>?_)<;>try exact hc.elim)|refine sx ?_ ?_|refine sy ?_ ?_|fail
    exact hK1 _ ⟨5,by omega,gB hn ht⟩ (aI (by simp) (by simp)) (by simp only;omega)
  ·have ht:eD s 4=none:=iN (op:=4) (fun h=>h1 (by have:=h.1;simp only [wd,List.length_cons,List.length_nil] at this;omega))
   have W:=h1
   repeat' first|refine st ?_|(refine nx ?_;first|refine se ?_|refine so ?_)|(refine cx ?_;refine sc (fun hc=>?_) (fun hc=>?_)<;>try exact hc.elim)|(refine lx ?_;refine sp (fun hc=>?_) (fun hc=>?_)<;>try exact hc.elim)|refine sx ?_ ?_|refine sy ?_ ?_|fail
   exact hK1 _ ⟨5,by omega,gB hn ht⟩ (aI (by simp) (by simp)) (by simp only;omega)
 ·by_cases h1:(4:Int)≤(s.length:Int)
  ·have h1n:((4:Nat):Int)≤(s.length:Int):=by omega
   by_cases h2:s.take 4=[115,97,121,32]
   ·have ht:eD s 5=some (⟨5,s.drop 4⟩,cZ 5 (s.drop 4)):=nY (op:=5) h1n h2
    have hr:aY s=(⟨5,s.drop 4⟩,cZ 5 (s.drop 4)):=by simp [aY,hn 1 (by omega) (by omega),hn 2 (by omega) (by omega),hn 3 (by omega) (by omega),hn 4 (by omega) (by omega),ht]
    rw [hr]
    clear hr ht hn h1n
    by_cases h3:((s.length - 4:Nat):Int)≤60
    ·have hg:cZ 5 (s.drop 4)=true:=by simp [cZ,qX];omega
     rw [hg]
     have W:=And.intro h1 (And.intro h2 h3)
     repeat' first|refine st ?_|(refine nx ?_;first|refine se ?_|refine so ?_)|(refine cx ?_;refine sc (fun hc=>?_) (fun hc=>?_)<;>try exact hc.elim)|(refine lx ?_;refine sp (fun hc=>?_) (fun hc=>?_)<;>try exact hc.elim)|refine sx ?_ ?_|refine sy ?_ ?_|fail
     all_goals (try (refine ⟨.inr rfl,?_⟩;simp [Hands,Tryz.results132]))
    ·have hg:cZ 5 (s.drop 4)=false:=by simp [cZ,qX];omega
     rw [hg]
     have W:=And.intro h1 (And.intro h2 h3)
     repeat' first|refine st ?_|(refine nx ?_;first|refine se ?_|refine so ?_)|(refine cx ?_;refine sc (fun hc=>?_) (fun hc=>?_)<;>try exact hc.elim)|(refine lx ?_;refine sp (fun hc=>?_) (fun hc=>?_)<;>try exact hc.elim)|refine sx ?_ ?_|refine sy ?_ ?_|fail
     all_goals (try (refine ⟨.inr rfl,?_⟩;simp [Hands,Tryz.results132]))
   ·have ht:eD s 5=none:=iN (op:=5) (fun h=>h2 h.2)
    have hb:(s.take 4 == ([115,97,121,32]:Str))=false:=by simpa using h2
    have W:=And.intro h1 (And.intro h2 hb)
    repeat' first|refine st ?_|(refine nx ?_;first|refine se ?_|refine so ?_)|(refine cx ?_;refine sc (fun hc=>?_) (fun hc=>?_)<;>try exact hc.elim)|(refine lx ?_;refine sp (fun hc=>?_) (fun hc=>?_)<;>try exact hc.elim)|refine sx ?_ ?_|refine sy ?_ ?_|fail
    exact hK1 _ ⟨6,by omega,gB hn ht⟩ (aI (by simp) (by simp)) (by simp only;omega)
  ·have ht:eD s 5=none:=iN (op:=5) (fun h=>h1 (by have:=h.1;simp only [wd,List.length_cons,List.length_nil] at this;omega))
   have W:=h1
   repeat' first|refine st ?_|(refine nx ?_;first|refine se ?_|refine so ?_)|(refine cx ?_;refine sc (fun hc=>?_) (fun hc=>?_)<;>try exact hc.elim)|(refine lx ?_;refine sp (fun hc=>?_) (fun hc=>?_)<;>try exact hc.elim)|refine sx ?_ ?_|refine sy ?_ ?_|fail
   exact hK1 _ ⟨6,by omega,gB hn ht⟩ (aI (by simp) (by simp)) (by simp only;omega)
 ·have hr:aY s=(⟨0,[]⟩,false):=by simp [aY,hn 1 (by omega) (by omega),hn 2 (by omega) (by omega),hn 3 (by omega) (by omega),hn 4 (by omega) (by omega),hn 5 (by omega) (by omega)]
  rw [hr]
  have W:=trivial
  repeat' first|refine st ?_|(refine nx ?_;first|refine se ?_|refine so ?_)|(refine cx ?_;refine sc (fun hc=>?_) (fun hc=>?_)<;>try exact hc.elim)|(refine lx ?_;refine sp (fun hc=>?_) (fun hc=>?_)<;>try exact hc.elim)|refine sx ?_ ?_|refine sy ?_ ?_|fail
  all_goals (try (refine ⟨.inr rfl,?_⟩;simp [Hands,Tryz.results132]))
end Go.Proofs.YtgkllebnnakojaaGreatDoor
