/-
  Proved here: steps towards the statement of this claim, text P2.
  No condition beyond what each statement spells out.
-/
import Derived.Test.YtajppdidkjbmkaaGreatDoorQD1
import Derived.Test.YtajppdidkjbmkaaGreatDoorF6
set_option linter.all false
set_option maxRecDepth 4000
set_option maxHeartbeats 4000000
namespace Go.Proofs.YtajppdidkjbmkaaGreatDoor
open Go.Aw
def wd:Nat→Str
 |1=>[119,114,105,116,101]
 |2=>[97,100,100]
 |3=>[99,111,117,110,116]
 |4=>[108,111,111,107]
 |5=>[115,97,121]
 |_=>[]
def rX (op:Nat):Bool:=op == 1 || op == 5
def dC (op:Nat) (x:Str):Bool:=if rX op=true then decide (x.length≤60) else bV x
def eY (s:Str) (op:Nat):Option (uU×Bool):=
 if (wd op).length+1≤s.length∧s.take ((wd op).length+1)=wd op++[32] then some (⟨op,s.drop ((wd op).length+1)⟩,dC op (s.drop ((wd op).length+1))) else none
def bK (s:Str):uU×Bool:=((((eY s 1).or (eY s 2)).or (eY s 3)).or (eY s 4)).or (eY s 5) |>.getD (⟨0,[]⟩,false)
theorem aO2 [aB Tryz.prog]:Ok Tryz.prog 115 [] (.sl .own 1 [[.str []],[.str [119,114,105,116,101,32]],[.str [97,100,100,32]],[.str [99,111,117,110,116,32]],[.str [108,111,111,107,32]],[.str [115,97,121,32]]]):=by
 refine ent Tryz.mix Tryz.func115 Tryz.ntmps115 ?_
 have W:=trivial
 repeat' first|refine st ?_|(refine nx ?_;first|refine se ?_|refine so ?_)|(refine cx ?_;refine sc (fun hc=>?_) (fun hc=>?_)<;>try exact hc.elim)|(refine lx ?_;refine sp (fun hc=>?_) (fun hc=>?_)<;>try exact hc.elim)|refine sx ?_ ?_|refine sy ?_ ?_|fail
 all_goals (try (refine ⟨.inr rfl,?_⟩;simp [Hands,Tryz.results115]))
theorem iZ {s:Str} {op:Nat} (h:¬((((wd op).length+1:Nat):Int)≤(s.length:Int)∧s.take ((wd op).length+1)=wd op++[32])):eY s op=none:=by
 unfold eY
 rw [if_neg]
 rintro ⟨h1,h2⟩
 exact h ⟨by omega,h2⟩
theorem oO {s:Str} {op:Nat} (h1:(((wd op).length+1:Nat):Int)≤(s.length:Int)) (h2:s.take ((wd op).length+1)=wd op++[32]):eY s op=some (⟨op,s.drop ((wd op).length+1)⟩,dC op (s.drop ((wd op).length+1))):=by
 unfold eY
 exact if_pos ⟨by omega,h2⟩
theorem gV {s:Str} {k:Nat} (hn:∀j,1≤j→j < k→eY s j=none) (h:eY s k=none):∀j,1≤j→j < k+1→eY s j=none:=by
 intro j h1 h2
 rcases Nat.lt_or_ge j k with h3|h3
 ·exact hn j h1 h3
 ·obtain rfl:j=k:=by omega
  exact h
theorem aRo [aB Tryz.prog] (s:Str) (hl:s.length≤1099511627776):Ok Tryz.prog 68 [.str s] (.tup [.agg (iG (bK s).1),.bool (bK s).2]):=by
 have c0:=aO2
 refine ent Tryz.mix Tryz.func68 Tryz.ntmps68 ?_
 have W:=trivial
 repeat' first|refine st ?_|(refine nx ?_;first|refine se ?_|refine so ?_)|(refine cx ?_;refine sc (fun hc=>?_) (fun hc=>?_)<;>try exact hc.elim)|(refine lx ?_;refine sp (fun hc=>?_) (fun hc=>?_)<;>try exact hc.elim)|refine sx ?_ ?_|refine sy ?_ ?_|fail
 refine aJ (ι:={i:Nat // (1≤i∧i≤6)∧∀j,1≤j→j < i→eY s j=none}) (fun t o i=>⟨aS t [(5,.int .i64 i.1)],o⟩) (fun i=>6 - i.1) ⟨1,by simp,fun j h1 h2=>by omega⟩ (aD (by simp) (by simp)) ?_
 rintro ⟨k,⟨hk,hk6⟩,hn⟩ K1 hK1
 try simp only at hk hk6 hn
 simp only [aS,List.set_cons_succ,List.set_cons_zero] at hK1⊢
 obtain rfl|rfl|rfl|rfl|rfl|rfl:k=1∨k=2∨k=3∨k=4∨k=5∨k=6:=by omega
 ·by_cases h1:(6:Int)≤(s.length:Int)
  ·have h1n:((6:Nat):Int)≤(s.length:Int):=by omega
   by_cases h2:s.take 6=[119,114,105,116,101,32]
   ·have ht:eY s 1=some (⟨1,s.drop 6⟩,dC 1 (s.drop 6)):=oO (op:=1) h1n h2
    have hr:bK s=(⟨1,s.drop 6⟩,dC 1 (s.drop 6)):=by simp [bK,ht]
    rw [hr]
    clear hr ht hn h1n
    by_cases h3:((s.length - 6:Nat):Int)≤60
    ·have hg:dC 1 (s.drop 6)=true:=by simp [dC,rX];omega
     rw [hg]
     have W:=And.intro h1 (And.intro h2 h3)
     repeat' first|refine st ?_|(refine nx ?_;first|refine se ?_|refine so ?_)|(refine cx ?_;refine sc (fun hc=>?_) (fun hc=>?_)<;>try exact hc.elim)|(refine lx ?_;refine sp (fun hc=>?_) (fun hc=>?_)<;>try exact hc.elim)|refine sx ?_ ?_|refine sy ?_ ?_|fail
     all_goals (try (refine ⟨.inr rfl,?_⟩;simp [Hands,Tryz.results68]))
    ·have hg:dC 1 (s.drop 6)=false:=by simp [dC,rX];omega
     rw [hg]
     have W:=And.intro h1 (And.intro h2 h3)
     repeat' first|refine st ?_|(refine nx ?_;first|refine se ?_|refine so ?_)|(refine cx ?_;refine sc (fun hc=>?_) (fun hc=>?_)<;>try exact hc.elim)|(refine lx ?_;refine sp (fun hc=>?_) (fun hc=>?_)<;>try exact hc.elim)|refine sx ?_ ?_|refine sy ?_ ?_|fail
     all_goals (try (refine ⟨.inr rfl,?_⟩;simp [Hands,Tryz.results68]))
   ·have ht:eY s 1=none:=iZ (op:=1) (fun h=>h2 h.2)
    have hb:(s.take 6 == ([119,114,105,116,101,32]:Str))=false:=by simpa using h2
    have W:=And.intro h1 (And.intro h2 hb)
    repeat' first|refine st ?_|(refine nx ?_;first|refine se ?_|refine so ?_)|(refine cx ?_;refine sc (fun hc=>?_) (fun hc=>?_)<;>try exact hc.elim)|(refine lx ?_;refine sp (fun hc=>?_) (fun hc=>?_)<;>try exact hc.elim)|refine sx ?_ ?_|refine sy ?_ ?_|fail
    exact hK1 _ ⟨2,by omega,gV hn ht⟩ (aD (by simp) (by simp)) (by simp only;omega)
  ·have ht:eY s 1=none:=iZ (op:=1) (fun h=>h1 (by have:=h.1;simp only [wd,List.length_cons,List.length_nil] at this;omega))
   have W:=h1
   repeat' first|refine st ?_|(refine nx ?_;first|refine se ?_|refine so ?_)|(refine cx ?_;refine sc (fun hc=>?_) (fun hc=>?_)<;>try exact hc.elim)|(refine lx ?_;refine sp (fun hc=>?_) (fun hc=>?_)<;>try exact hc.elim)|refine sx ?_ ?_|refine sy ?_ ?_|fail
   exact hK1 _ ⟨2,by omega,gV hn ht⟩ (aD (by simp) (by simp)) (by simp only;omega)
 ·by_cases h1:(4:Int)≤(s.length:Int)
  ·have h1n:((4:Nat):Int)≤(s.length:Int):=by omega
   by_cases h2:s.take 4=[97,100,100,32]
   ·have ht:eY s 2=some (⟨2,s.drop 4⟩,dC 2 (s.drop 4)):=oO (op:=2) h1n h2
    have hr:bK s=(⟨2,s.drop 4⟩,dC 2 (s.drop 4)):=by simp [bK,hn 1 (by omega) (by omega),ht]
    rw [hr]
    clear hr ht hn h1n
    have c1:=iQ (s.drop 4) (by simp;omega)
    have hg:dC 2 (s.drop 4)=bV (s.drop 4):=rfl
    rw [hg]
    generalize bV (s.drop 4)=b at *
    have W:=And.intro h1 h2
    repeat' first|refine st ?_|(refine nx ?_;first|refine se ?_|refine so ?_)|(refine cx ?_;refine sc (fun hc=>?_) (fun hc=>?_)<;>try exact hc.elim)|(refine lx ?_;refine sp (fun hc=>?_) (fun hc=>?_)<;>try exact hc.elim)|refine sx ?_ ?_|refine sy ?_ ?_|fail
    all_goals (try (refine ⟨.inr rfl,?_⟩;simp [Hands,Tryz.results68]))
   ·have ht:eY s 2=none:=iZ (op:=2) (fun h=>h2 h.2)
    have hb:(s.take 4 == ([97,100,100,32]:Str))=false:=by simpa using h2
    have W:=And.intro h1 (And.intro h2 hb)
    repeat' first|refine st ?_|(refine nx ?_;first|refine se ?_|refine so ?_)|(refine cx ?_;refine sc (fun hc=>?_) (fun hc=>?_)<;>try exact hc.elim)|(refine lx ?_;refine sp (fun hc=>?_) (fun hc=>?_)<;>try exact hc.elim)|refine sx ?_ ?_|refine sy ?_ ?_|fail
    exact hK1 _ ⟨3,by omega,gV hn ht⟩ (aD (by simp) (by simp)) (by simp only;omega)
  ·have ht:eY s 2=none:=iZ (op:=2) (fun h=>h1 (by have:=h.1;simp only [wd,List.length_cons,List.length_nil] at this;omega))
   have W:=h1
   repeat' first|refine st ?_|(refine nx ?_;first|refine se ?_|refine so ?_)|(refine cx ?_;refine sc (fun hc=>?_) (fun hc=>?_)<;>try exact hc.elim)|(refine lx ?_;refine sp (fun hc=>?_) (fun hc=>?_)<;>try exact hc.elim)|refine sx ?_ ?_|refine sy ?_ ?_|fail
   exact hK1 _ ⟨3,by omega,gV hn ht⟩ (aD (by simp) (by simp)) (by simp only;omega)
 ·by_cases h1:(6:Int)≤(s.length:Int)
  ·have h1n:((6:Nat):Int)≤(s.length:Int):=by omega
   by_cases h2:s.take 6=[99,111,117,110,116,32]
   ·have ht:eY s 3=some (⟨3,s.drop 6⟩,dC 3 (s.drop 6)):=oO (op:=3) h1n h2
    have hr:bK s=(⟨3,s.drop 6⟩,dC 3 (s.drop 6)):=by simp [bK,hn 1 (by omega) (by omega),hn 2 (by omega) (by omega),ht]
    rw [hr]
    clear hr ht hn h1n
    have c1:=iQ (s.drop 6) (by simp;omega)
    have hg:dC 3 (s.drop 6)=bV (s.drop 6):=rfl
    rw [hg]
    generalize bV (s.drop 6)=b at *
    have W:=And.intro h1 h2
    repeat' first|refine st ?_|(refine nx ?_;first|refine se ?_|refine so ?_)|(refine cx ?_;refine sc (fun hc=>?_) (fun hc=>?_)<;>try exact hc.elim)|(refine lx ?_;refine sp (fun hc=>?_) (fun hc=>?_)<;>try exact hc.elim)|refine sx ?_ ?_|refine sy ?_ ?_|fail
    all_goals (try (refine ⟨.inr rfl,?_⟩;simp [Hands,Tryz.results68]))
   ·have ht:eY s 3=none:=iZ (op:=3) (fun h=>h2 h.2)
    have hb:(s.take 6 == ([99,111,117,110,116,32]:Str))=false:=by simpa using h2
    have W:=And.intro h1 (And.intro h2 hb)
    repeat' first|refine st ?_|(refine nx ?_;first|refine se ?_|refine so ?_)|(refine cx ?_;refine sc (fun hc=>?_) (fun hc=>?_)<;>try exact hc.elim)|(refine lx ?_;refine sp (fun hc=>?_) (fun hc=>?_)<;>try exact hc.elim)|refine sx ?_ ?_|refine sy ?_ ?_|fail
    exact hK1 _ ⟨4,by omega,gV hn ht⟩ (aD (by simp) (by simp)) (by simp only;omega)
  ·have ht:eY s 3=none:=iZ (op:=3) (fun h=>h1 (by have:=h.1;simp only [wd,List.length_cons,List.length_nil] at this;omega))
   have W:=h1
   repeat' first|refine st ?_|(refine nx ?_;first|refine se ?_|refine so ?_)|(refine cx ?_;refine sc (fun hc=>?_) (fun hc=>?_)<;>try exact hc.elim)|(refine lx ?_;refine sp (fun hc=>?_) (fun hc=>?_)<;>try exact hc.elim)|refine sx ?_ ?_|refine sy ?_ ?_|fail
   exact hK1 _ ⟨4,by omega,gV hn ht⟩ (aD (by simp) (by simp)) (by simp only;omega)
 ·by_cases h1:(5:Int)≤(s.length:Int)
  ·have h1n:((5:Nat):Int)≤(s.length:Int):=by omega
   by_cases h2:s.take 5=[108,111,111,107,32]
   ·have ht:eY s 4=some (⟨4,s.drop 5⟩,dC 4 (s.drop 5)):=oO (op:=4) h1n h2
    have hr:bK s=(⟨4,s.drop 5⟩,dC 4 (s.drop 5)):=by simp [bK,hn 1 (by omega) (by omega),hn 2 (by omega) (by omega),hn 3 (by omega) (by omega),ht]
    rw [hr]
    clear hr ht hn h1n
    have c1:=iQ (s.drop 5) (by simp;omega)
    have hg:dC 4 (s.drop 5)=bV (s.drop 5):=rfl
    rw [hg]
    generalize bV (s.drop 5)=b at *
    have W:=And.intro h1 h2
    repeat' first|refine st ?_|(refine nx ?_;first|refine se ?_|refine so ?_)|(refine cx ?_;refine sc (fun hc=>?_) (fun hc=>?_)<;>try exact hc.elim)|(refine lx ?_;refine sp (fun hc=>?_) (fun hc=>?_)<;>try exact hc.elim)|refine sx ?_ ?_|refine sy ?_ ?_|fail
    all_goals (try (refine ⟨.inr rfl,?_⟩;simp [Hands,Tryz.results68]))
   ·have ht:eY s 4=none:=iZ (op:=4) (fun h=>h2 h.2)
    have hb:(s.take 5 == ([108,111,111,107,32]:Str))=false:=by simpa using h2
    have W:=And.intro h1 (And.intro h2 hb)
    repeat' first|refine st ?_|(refine nx ?_;first|refine se ?_|refine so ?_)|(refine cx ?_;refine sc (fun hc=>?_) (fun hc=>?_)<;>try exact hc.elim)|(refine lx ?_;refine sp (fun hc=>?_) (fun hc=>?_)<;>try exact hc.elim)|refine sx ?_ ?_|refine sy ?_ ?_|fail
    exact hK1 _ ⟨5,by omega,gV hn ht⟩ (aD (by simp) (by simp)) (by simp only;omega)
  ·have ht:eY s 4=none:=iZ (op:=4) (fun h=>h1 (by have:=h.1;simp only [wd,List.length_cons,List.length_nil] at this;omega))
   have W:=h1
   repeat' first|refine st ?_|(refine nx ?_;first|refine se ?_|refine so ?_)|(refine cx ?_;refine sc (fun hc=>?_) (fun hc=>?_)<;>try exact hc.elim)|(refine lx ?_;refine sp (fun hc=>?_) (fun hc=>?_)<;>try exact hc.elim)|refine sx ?_ ?_|refine sy ?_ ?_|fail
   exact hK1 _ ⟨5,by omega,gV hn ht⟩ (aD (by simp) (by simp)) (by simp only;omega)
 ·by_cases h1:(4:Int)≤(s.length:Int)
  ·have h1n:((4:Nat):Int)≤(s.length:Int):=by omega
   by_cases h2:s.take 4=[115,97,121,32]
   ·have ht:eY s 5=some (⟨5,s.drop 4⟩,dC 5 (s.drop 4)):=oO (op:=5) h1n h2
    have hr:bK s=(⟨5,s.drop 4⟩,dC 5 (s.drop 4)):=by simp [bK,hn 1 (by omega) (by omega),hn 2 (by omega) (by omega),hn 3 (by omega) (by omega),hn 4 (by omega) (by omega),ht]
    rw [hr]
    clear hr ht hn h1n
    by_cases h3:((s.length - 4:Nat):Int)≤60
    ·have hg:dC 5 (s.drop 4)=true:=by simp [dC,rX];omega
     rw [hg]
     have W:=And.intro h1 (And.intro h2 h3)
     repeat' first|refine st ?_|(refine nx ?_;first|refine se ?_|refine so ?_)|(refine cx ?_;refine sc (fun hc=>?_) (fun hc=>?_)<;>try exact hc.elim)|(refine lx ?_;refine sp (fun hc=>?_) (fun hc=>?_)<;>try exact hc.elim)|refine sx ?_ ?_|refine sy ?_ ?_|fail
     all_goals (try (refine ⟨.inr rfl,?_⟩;simp [Hands,Tryz.results68]))
    ·have hg:dC 5 (s.drop 4)=false:=by simp [dC,rX];omega
     rw [hg]
     have W:=And.intro h1 (And.intro h2 h3)
     repeat' first|refine st ?_|(refine nx ?_;first|refine se ?_|refine so ?_)|(refine cx ?_;refine sc (fun hc=>?_) (fun hc=>?_)<;>try exact hc.elim)|(refine lx ?_;refine sp (fun hc=>?_) (fun hc=>?_)<;>try exact hc.elim)|refine sx ?_ ?_|refine sy ?_ ?_|fail
     all_goals (try (refine ⟨.inr rfl,?_⟩;simp [Hands,Tryz.results68]))
   ·have ht:eY s 5=none:=iZ (op:=5) (fun h=>h2 h.2)
    have hb:(s.take 4 == ([115,97,121,32]:Str))=false:=by simpa using h2
    have W:=And.intro h1 (And.intro h2 hb)
    repeat' first|refine st ?_|(refine nx ?_;first|refine se ?_|refine so ?_)|(refine cx ?_;refine sc (fun hc=>?_) (fun hc=>?_)<;>try exact hc.elim)|(refine lx ?_;refine sp (fun hc=>?_) (fun hc=>?_)<;>try exact hc.elim)|refine sx ?_ ?_|refine sy ?_ ?_|fail
    exact hK1 _ ⟨6,by omega,gV hn ht⟩ (aD (by simp) (by simp)) (by simp only;omega)
  ·have ht:eY s 5=none:=iZ (op:=5) (fun h=>h1 (by have:=h.1;simp only [wd,List.length_cons,List.length_nil] at this;omega))
   have W:=h1
   repeat' first|refine st ?_|(refine nx ?_;first|refine se ?_|refine so ?_)|(refine cx ?_;refine sc (fun hc=>?_) (fun hc=>?_)<;>try exact hc.elim)|(refine lx ?_;refine sp (fun hc=>?_) (fun hc=>?_)<;>try exact hc.elim)|refine sx ?_ ?_|refine sy ?_ ?_|fail
   exact hK1 _ ⟨6,by omega,gV hn ht⟩ (aD (by simp) (by simp)) (by simp only;omega)
 ·have hr:bK s=(⟨0,[]⟩,false):=by simp [bK,hn 1 (by omega) (by omega),hn 2 (by omega) (by omega),hn 3 (by omega) (by omega),hn 4 (by omega) (by omega),hn 5 (by omega) (by omega)]
  rw [hr]
  have W:=trivial
  repeat' first|refine st ?_|(refine nx ?_;first|refine se ?_|refine so ?_)|(refine cx ?_;refine sc (fun hc=>?_) (fun hc=>?_)<;>try exact hc.elim)|(refine lx ?_;refine sp (fun hc=>?_) (fun hc=>?_)<;>try exact hc.elim)|refine sx ?_ ?_|refine sy ?_ ?_|fail
  all_goals (try (refine ⟨.inr rfl,?_⟩;simp [Hands,Tryz.results68]))
end Go.Proofs.YtajppdidkjbmkaaGreatDoor
