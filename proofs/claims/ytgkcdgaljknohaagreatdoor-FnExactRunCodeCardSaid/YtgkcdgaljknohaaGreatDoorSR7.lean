/-
  Proved here: steps towards the statement of this claim, text SR7.
  No condition beyond what each statement spells out.
-/
import Derived.Test.YtgkcdgaljknohaaGreatDoorSR5
import Derived.Test.YtgkcdgaljknohaaGreatDoorU4
import Derived.Test.YtgkcdgaljknohaaGreatDoorS3
import Derived.Test.YtgkcdgaljknohaaGreatDoorF6
set_option linter.all false
set_option maxRecDepth 4000
set_option maxHeartbeats 400000
namespace Go.Proofs.YtgkcdgaljknohaaGreatDoor
open Go.Aw
def sScript:Str:=[115,99,114,105,112,116]
def sLink:Str:=[108,105,110,107]
def sImg:Str:=[105,109,103]
def sKind:Str:=[107,105,110,100]
def sModule:Str:=[109,111,100,117,108,101]
def sSrc:Str:=[115,114,99]
def sHref:Str:=[104,114,101,102]
def sDigest:Str:=[100,105,103,101,115,116]
def noRequest:DRequest:=⟨0,noAddr,[],[]⟩
def scanAs (k:Int) (v d b:Str):DRequest×Bool:=if (parseAddr v b).2=true then (⟨k,(parseAddr v b).1,b,d⟩,true) else (noRequest,false)
def scanToken (t:DToken) (b:Str):DRequest×Bool:=
 if t.kind=1 then
  if t.name=sScript then
   if (findAttr t.attrs sKind).1=sModule then scanAs 5 (findAttr t.attrs sSrc).1 [] b else scanAs 2 (findAttr t.attrs sSrc).1 (findAttr t.attrs sDigest).1 b
  else if t.name=sLink then scanAs 3 (findAttr t.attrs sHref).1 (findAttr t.attrs sDigest).1 b
  else if t.name=sImg then scanAs 4 (findAttr t.attrs sSrc).1 (findAttr t.attrs sDigest).1 b
  else (noRequest,false)
 else (noRequest,false)
end Go.Proofs.YtgkcdgaljknohaaGreatDoor

set_option maxRecDepth 4000
set_option maxHeartbeats 400000
namespace Go.Proofs.YtgkcdgaljknohaaGreatDoor
open Go.Aw
end Go.Proofs.YtgkcdgaljknohaaGreatDoor

set_option maxRecDepth 4000
set_option maxHeartbeats 400000
namespace Go.Proofs.YtgkcdgaljknohaaGreatDoor
open Go.Aw
def scanPick (b:Str) (t:DToken):Option DRequest:=if (scanToken t b).2=true then some (scanToken t b).1 else none
def scanTokens (l:List DToken) (b:Str):List DRequest:=l.filterMap (scanPick b)
@[simp] theorem scanTokens_nil (b:Str):scanTokens [] b=[]:=rfl
end Go.Proofs.YtgkcdgaljknohaaGreatDoor

set_option maxRecDepth 4000
set_option maxHeartbeats 400000
namespace Go.Proofs.YtgkcdgaljknohaaGreatDoor
open Go.Aw
end Go.Proofs.YtgkcdgaljknohaaGreatDoor

set_option maxRecDepth 4000
set_option maxHeartbeats 4000000
namespace Go.Proofs.YtgkcdgaljknohaaGreatDoor
open Go.Aw
def tokensOf (s:Str):List DToken:=(feed s).1++endText ⟨(feed s).2⟩
theorem endText_szS (t:DTokenizer):sumN szToken (endText t)≤t.rest.length∧(endText t).length≤1:=by
 unfold endText
 split
 ·simp [sumN]
 ·simp [sumN,szToken,szL]
theorem tokensOf_sz (s:Str):(tokensOf s).length≤s.length+1∧sumN szToken (tokensOf s)≤s.length:=by
 obtain ⟨h1,h2⟩:=feed_sz s.length s (Nat.le_refl _)
 obtain ⟨h3,h4⟩:=endText_szS ⟨(feed s).2⟩
 have hj:∀a b:List DToken,sumN szToken (a++b)=sumN szToken a+sumN szToken b:=by
  intro a b
  induction a with
  |nil=>simp [sumN]
  |cons x xs ih=>simp only [List.cons_append,sumN,ih];omega
 simp only [tokensOf,List.length_append,hj] at *
 omega
theorem specTokensOf_ok [Tabs Tryz.prog] [HasMax Tryz.prog] (s:Str) (hl:s.length≤1048576):Ok Tryz.prog 39 [.str s] (.sl .own 4 ((tokensOf s).map (eToken .own))):=by
 have c1:=specFeedText_ok ⟨[]⟩ s (by simp;omega)
 obtain ⟨h1,h2⟩:=feed_sz s.length s (Nat.le_refl _)
 simp only [List.nil_append,eTokenizer] at c1
 unfold tokensOf
 generalize feed s=f at *
 obtain ⟨l,x⟩:=f
 simp only at c1 h1 h2⊢
 have c2:=specEndText_ok ⟨x⟩ (by simp only;omega)
 have h4:=(endText_szS ⟨x⟩).2
 simp only [eTokenizer] at c2
 generalize endText ⟨x⟩=g at *
 have hb1:(l.length+g.length) * 64≤140737488355328:=by omega
 refine ent Tryz.mix Tryz.func39 Tryz.ntmps39 ?_
 have W:=hb1
 repeat' first|refine we ?_|(refine sq (fun hc=>?_) (fun hc=>?_)<;>try exact hc.elim)|fail
 all_goals (try (refine ⟨.inr rfl,?_⟩;simp [Hands,Tryz.results39]))
 all_goals (first|(rw [←List.map_append];exact clean_eToken _)|simp)
theorem implTokensOf_ok [Tabs Tryz.prog] [HasMax Tryz.prog] (s:Str) (hl:s.length≤1048576):Ok Tryz.prog 125 [.str s] (.sl .own 4 ((tokensOf s).map (eToken .own))):=by
 have c1:=implFeedText_ok ⟨[]⟩ s (by simp;omega)
 obtain ⟨h1,h2⟩:=feed_sz s.length s (Nat.le_refl _)
 simp only [List.nil_append,eTokenizer] at c1
 unfold tokensOf
 generalize feed s=f at *
 obtain ⟨l,x⟩:=f
 simp only at c1 h1 h2⊢
 have c2:=implEndText_ok ⟨x⟩ (by simp only;omega)
 have h4:=(endText_szS ⟨x⟩).2
 simp only [eTokenizer] at c2
 generalize endText ⟨x⟩=g at *
 have hb1:(l.length+g.length) * 64≤140737488355328:=by omega
 refine ent Tryz.mix Tryz.func125 Tryz.ntmps125 ?_
 have W:=hb1
 repeat' first|refine we ?_|(refine sq (fun hc=>?_) (fun hc=>?_)<;>try exact hc.elim)|fail
 all_goals (try (refine ⟨.inr rfl,?_⟩;simp [Hands,Tryz.results125]))
 all_goals (first|(rw [←List.map_append];exact clean_eToken _)|simp)
end Go.Proofs.YtgkcdgaljknohaaGreatDoor

set_option maxRecDepth 4000
set_option maxHeartbeats 4000000
namespace Go.Proofs.YtgkcdgaljknohaaGreatDoor
open Go.Aw
def wd:Nat→Str
 |1=>[119,114,105,116,101]
 |2=>[97,100,100]
 |3=>[99,111,117,110,116]
 |4=>[108,111,111,107]
 |5=>[115,97,121]
 |_=>[]
def freeOp (op:Nat):Bool:=op == 1 || op == 5
def lnGood (op:Nat) (x:Str):Bool:=if freeOp op=true then decide (x.length≤60) else isName x
def lnTry (s:Str) (op:Nat):Option (DLine×Bool):=
 if (wd op).length+1≤s.length∧s.take ((wd op).length+1)=wd op++[32] then some (⟨op,s.drop ((wd op).length+1)⟩,lnGood op (s.drop ((wd op).length+1))) else none
def specLine (s:Str):DLine×Bool:=((((lnTry s 1).or (lnTry s 2)).or (lnTry s 3)).or (lnTry s 4)).or (lnTry s 5) |>.getD (⟨0,[]⟩,false)
theorem l8Words_ok [Tabs Tryz.prog]:Ok Tryz.prog 170 [] (.sl .own 1 [[.str []],[.str [119,114,105,116,101,32]],[.str [97,100,100,32]],[.str [99,111,117,110,116,32]],[.str [108,111,111,107,32]],[.str [115,97,121,32]]]):=by
 refine ent Tryz.mix Tryz.func170 Tryz.ntmps170 ?_
 have W:=trivial
 repeat' first|refine we ?_|(refine sq (fun hc=>?_) (fun hc=>?_)<;>try exact hc.elim)|fail
 all_goals (try (refine ⟨.inr rfl,?_⟩;simp [Hands,Tryz.results170]))
theorem lnTry_none {s:Str} {op:Nat} (h:¬((((wd op).length+1:Nat):Int)≤(s.length:Int)∧s.take ((wd op).length+1)=wd op++[32])):lnTry s op=none:=by
 unfold lnTry
 rw [if_neg]
 rintro ⟨h1,h2⟩
 exact h ⟨by omega,h2⟩
theorem lnTry_some {s:Str} {op:Nat} (h1:(((wd op).length+1:Nat):Int)≤(s.length:Int)) (h2:s.take ((wd op).length+1)=wd op++[32]):lnTry s op=some (⟨op,s.drop ((wd op).length+1)⟩,lnGood op (s.drop ((wd op).length+1))):=by
 unfold lnTry
 exact if_pos ⟨by omega,h2⟩
theorem none_succ {s:Str} {k:Nat} (hn:∀j,1≤j→j < k→lnTry s j=none) (h:lnTry s k=none):∀j,1≤j→j < k+1→lnTry s j=none:=by
 intro j h1 h2
 rcases Nat.lt_or_ge j k with h3|h3
 ·exact hn j h1 h3
 ·obtain rfl:j=k:=by omega
  exact h
theorem l8Line_ok [Tabs Tryz.prog] (s:Str) (hl:s.length≤1099511627776):Ok Tryz.prog 108 [.str s] (.tup [.agg (eLine (specLine s).1),.bool (specLine s).2]):=by
 have c0:=l8Words_ok
 refine ent Tryz.mix Tryz.func108 Tryz.ntmps108 ?_
 have W:=trivial
 repeat' first|refine we ?_|(refine sq (fun hc=>?_) (fun hc=>?_)<;>try exact hc.elim)|fail
 refine awp_loop' (ι:={i:Nat // (1≤i∧i≤6)∧∀j,1≤j→j < i→lnTry s j=none}) (fun t o i=>⟨upds t [(5,.int .i64 i.1)],o⟩) (fun i=>6 - i.1) ⟨1,by simp,fun j h1 h2=>by omega⟩ (weak_o (by simp) (by simp)) ?_
 rintro ⟨k,⟨hk,hk6⟩,hn⟩ K1 hK1
 try simp only at hk hk6 hn
 simp only [upds,List.set_cons_succ,List.set_cons_zero] at hK1⊢
 obtain rfl|rfl|rfl|rfl|rfl|rfl:k=1∨k=2∨k=3∨k=4∨k=5∨k=6:=by omega
 ·by_cases h1:(6:Int)≤(s.length:Int)
  ·have h1n:((6:Nat):Int)≤(s.length:Int):=by omega
   by_cases h2:s.take 6=[119,114,105,116,101,32]
   ·have ht:lnTry s 1=some (⟨1,s.drop 6⟩,lnGood 1 (s.drop 6)):=lnTry_some (op:=1) h1n h2
    have hr:specLine s=(⟨1,s.drop 6⟩,lnGood 1 (s.drop 6)):=by simp [specLine,ht]
    rw [hr]
    clear hr ht hn h1n
    by_cases h3:((s.length - 6:Nat):Int)≤60
    ·have hg:lnGood 1 (s.drop 6)=true:=by simp [lnGood,freeOp];omega
     rw [hg]
     have W:=And.intro h1 (And.intro h2 h3)
     repeat' first|refine we ?_|(refine sq (fun hc=>?_) (fun hc=>?_)<;>try exact hc.elim)|fail
     all_goals (try (refine ⟨.inr rfl,?_⟩;simp [Hands,Tryz.results108]))
    ·have hg:lnGood 1 (s.drop 6)=false:=by simp [lnGood,freeOp];omega
     rw [hg]
     have W:=And.intro h1 (And.intro h2 h3)
     repeat' first|refine we ?_|(refine sq (fun hc=>?_) (fun hc=>?_)<;>try exact hc.elim)|fail
     all_goals (try (refine ⟨.inr rfl,?_⟩;simp [Hands,Tryz.results108]))
   ·have ht:lnTry s 1=none:=lnTry_none (op:=1) (fun h=>h2 h.2)
    have hb:(s.take 6 == ([119,114,105,116,101,32]:Str))=false:=by simpa using h2
    have W:=And.intro h1 (And.intro h2 hb)
    repeat' first|refine we ?_|(refine sq (fun hc=>?_) (fun hc=>?_)<;>try exact hc.elim)|fail
    exact hK1 _ ⟨2,by omega,none_succ hn ht⟩ (weak_o (by simp) (by simp)) (by simp only;omega)
  ·have ht:lnTry s 1=none:=lnTry_none (op:=1) (fun h=>h1 (by have:=h.1;simp only [wd,List.length_cons,List.length_nil] at this;omega))
   have W:=h1
   repeat' first|refine we ?_|(refine sq (fun hc=>?_) (fun hc=>?_)<;>try exact hc.elim)|fail
   exact hK1 _ ⟨2,by omega,none_succ hn ht⟩ (weak_o (by simp) (by simp)) (by simp only;omega)
 ·by_cases h1:(4:Int)≤(s.length:Int)
  ·have h1n:((4:Nat):Int)≤(s.length:Int):=by omega
   by_cases h2:s.take 4=[97,100,100,32]
   ·have ht:lnTry s 2=some (⟨2,s.drop 4⟩,lnGood 2 (s.drop 4)):=lnTry_some (op:=2) h1n h2
    have hr:specLine s=(⟨2,s.drop 4⟩,lnGood 2 (s.drop 4)):=by simp [specLine,hn 1 (by omega) (by omega),ht]
    rw [hr]
    clear hr ht hn h1n
    have c1:=specIsName_ok (s.drop 4) (by simp;omega)
    have hg:lnGood 2 (s.drop 4)=isName (s.drop 4):=rfl
    rw [hg]
    generalize isName (s.drop 4)=b at *
    have W:=And.intro h1 h2
    repeat' first|refine we ?_|(refine sq (fun hc=>?_) (fun hc=>?_)<;>try exact hc.elim)|fail
    all_goals (try (refine ⟨.inr rfl,?_⟩;simp [Hands,Tryz.results108]))
   ·have ht:lnTry s 2=none:=lnTry_none (op:=2) (fun h=>h2 h.2)
    have hb:(s.take 4 == ([97,100,100,32]:Str))=false:=by simpa using h2
    have W:=And.intro h1 (And.intro h2 hb)
    repeat' first|refine we ?_|(refine sq (fun hc=>?_) (fun hc=>?_)<;>try exact hc.elim)|fail
    exact hK1 _ ⟨3,by omega,none_succ hn ht⟩ (weak_o (by simp) (by simp)) (by simp only;omega)
  ·have ht:lnTry s 2=none:=lnTry_none (op:=2) (fun h=>h1 (by have:=h.1;simp only [wd,List.length_cons,List.length_nil] at this;omega))
   have W:=h1
   repeat' first|refine we ?_|(refine sq (fun hc=>?_) (fun hc=>?_)<;>try exact hc.elim)|fail
   exact hK1 _ ⟨3,by omega,none_succ hn ht⟩ (weak_o (by simp) (by simp)) (by simp only;omega)
 ·by_cases h1:(6:Int)≤(s.length:Int)
  ·have h1n:((6:Nat):Int)≤(s.length:Int):=by omega
   by_cases h2:s.take 6=[99,111,117,110,116,32]
   ·have ht:lnTry s 3=some (⟨3,s.drop 6⟩,lnGood 3 (s.drop 6)):=lnTry_some (op:=3) h1n h2
    have hr:specLine s=(⟨3,s.drop 6⟩,lnGood 3 (s.drop 6)):=by simp [specLine,hn 1 (by omega) (by omega),hn 2 (by omega) (by omega),ht]
    rw [hr]
    clear hr ht hn h1n
    have c1:=specIsName_ok (s.drop 6) (by simp;omega)
    have hg:lnGood 3 (s.drop 6)=isName (s.drop 6):=rfl
    rw [hg]
    generalize isName (s.drop 6)=b at *
    have W:=And.intro h1 h2
    repeat' first|refine we ?_|(refine sq (fun hc=>?_) (fun hc=>?_)<;>try exact hc.elim)|fail
    all_goals (try (refine ⟨.inr rfl,?_⟩;simp [Hands,Tryz.results108]))
   ·have ht:lnTry s 3=none:=lnTry_none (op:=3) (fun h=>h2 h.2)
    have hb:(s.take 6 == ([99,111,117,110,116,32]:Str))=false:=by simpa using h2
    have W:=And.intro h1 (And.intro h2 hb)
    repeat' first|refine we ?_|(refine sq (fun hc=>?_) (fun hc=>?_)<;>try exact hc.elim)|fail
    exact hK1 _ ⟨4,by omega,none_succ hn ht⟩ (weak_o (by simp) (by simp)) (by simp only;omega)
  ·have ht:lnTry s 3=none:=lnTry_none (op:=3) (fun h=>h1 (by have:=h.1;simp only [wd,List.length_cons,List.length_nil] at this;omega))
   have W:=h1
   repeat' first|refine we ?_|(refine sq (fun hc=>?_) (fun hc=>?_)<;>try exact hc.elim)|fail
   exact hK1 _ ⟨4,by omega,none_succ hn ht⟩ (weak_o (by simp) (by simp)) (by simp only;omega)
 ·by_cases h1:(5:Int)≤(s.length:Int)
  ·have h1n:((5:Nat):Int)≤(s.length:Int):=by omega
   by_cases h2:s.take 5=[108,111,111,107,32]
   ·have ht:lnTry s 4=some (⟨4,s.drop 5⟩,lnGood 4 (s.drop 5)):=lnTry_some (op:=4) h1n h2
    have hr:specLine s=(⟨4,s.drop 5⟩,lnGood 4 (s.drop 5)):=by simp [specLine,hn 1 (by omega) (by omega),hn 2 (by omega) (by omega),hn 3 (by omega) (by omega),ht]
    rw [hr]
    clear hr ht hn h1n
    have c1:=specIsName_ok (s.drop 5) (by simp;omega)
    have hg:lnGood 4 (s.drop 5)=isName (s.drop 5):=rfl
    rw [hg]
    generalize isName (s.drop 5)=b at *
    have W:=And.intro h1 h2
    repeat' first|refine we ?_|(refine sq (fun hc=>?_) (fun hc=>?_)<;>try exact hc.elim)|fail
    all_goals (try (refine ⟨.inr rfl,?_⟩;simp [Hands,Tryz.results108]))
   ·have ht:lnTry s 4=none:=lnTry_none (op:=4) (fun h=>h2 h.2)
    have hb:(s.take 5 == ([108,111,111,107,32]:Str))=false:=by simpa using h2
    have W:=And.intro h1 (And.intro h2 hb)
    repeat' first|refine we ?_|(refine sq (fun hc=>?_) (fun hc=>?_)<;>try exact hc.elim)|fail
    exact hK1 _ ⟨5,by omega,none_succ hn ht⟩ (weak_o (by simp) (by simp)) (by simp only;omega)
  ·have ht:lnTry s 4=none:=lnTry_none (op:=4) (fun h=>h1 (by have:=h.1;simp only [wd,List.length_cons,List.length_nil] at this;omega))
   have W:=h1
   repeat' first|refine we ?_|(refine sq (fun hc=>?_) (fun hc=>?_)<;>try exact hc.elim)|fail
   exact hK1 _ ⟨5,by omega,none_succ hn ht⟩ (weak_o (by simp) (by simp)) (by simp only;omega)
 ·by_cases h1:(4:Int)≤(s.length:Int)
  ·have h1n:((4:Nat):Int)≤(s.length:Int):=by omega
   by_cases h2:s.take 4=[115,97,121,32]
   ·have ht:lnTry s 5=some (⟨5,s.drop 4⟩,lnGood 5 (s.drop 4)):=lnTry_some (op:=5) h1n h2
    have hr:specLine s=(⟨5,s.drop 4⟩,lnGood 5 (s.drop 4)):=by simp [specLine,hn 1 (by omega) (by omega),hn 2 (by omega) (by omega),hn 3 (by omega) (by omega),hn 4 (by omega) (by omega),ht]
    rw [hr]
    clear hr ht hn h1n
    by_cases h3:((s.length - 4:Nat):Int)≤60
    ·have hg:lnGood 5 (s.drop 4)=true:=by simp [lnGood,freeOp];omega
     rw [hg]
     have W:=And.intro h1 (And.intro h2 h3)
     repeat' first|refine we ?_|(refine sq (fun hc=>?_) (fun hc=>?_)<;>try exact hc.elim)|fail
     all_goals (try (refine ⟨.inr rfl,?_⟩;simp [Hands,Tryz.results108]))
    ·have hg:lnGood 5 (s.drop 4)=false:=by simp [lnGood,freeOp];omega
     rw [hg]
     have W:=And.intro h1 (And.intro h2 h3)
     repeat' first|refine we ?_|(refine sq (fun hc=>?_) (fun hc=>?_)<;>try exact hc.elim)|fail
     all_goals (try (refine ⟨.inr rfl,?_⟩;simp [Hands,Tryz.results108]))
   ·have ht:lnTry s 5=none:=lnTry_none (op:=5) (fun h=>h2 h.2)
    have hb:(s.take 4 == ([115,97,121,32]:Str))=false:=by simpa using h2
    have W:=And.intro h1 (And.intro h2 hb)
    repeat' first|refine we ?_|(refine sq (fun hc=>?_) (fun hc=>?_)<;>try exact hc.elim)|fail
    exact hK1 _ ⟨6,by omega,none_succ hn ht⟩ (weak_o (by simp) (by simp)) (by simp only;omega)
  ·have ht:lnTry s 5=none:=lnTry_none (op:=5) (fun h=>h1 (by have:=h.1;simp only [wd,List.length_cons,List.length_nil] at this;omega))
   have W:=h1
   repeat' first|refine we ?_|(refine sq (fun hc=>?_) (fun hc=>?_)<;>try exact hc.elim)|fail
   exact hK1 _ ⟨6,by omega,none_succ hn ht⟩ (weak_o (by simp) (by simp)) (by simp only;omega)
 ·have hr:specLine s=(⟨0,[]⟩,false):=by simp [specLine,hn 1 (by omega) (by omega),hn 2 (by omega) (by omega),hn 3 (by omega) (by omega),hn 4 (by omega) (by omega),hn 5 (by omega) (by omega)]
  rw [hr]
  have W:=trivial
  repeat' first|refine we ?_|(refine sq (fun hc=>?_) (fun hc=>?_)<;>try exact hc.elim)|fail
  all_goals (try (refine ⟨.inr rfl,?_⟩;simp [Hands,Tryz.results108]))
end Go.Proofs.YtgkcdgaljknohaaGreatDoor
