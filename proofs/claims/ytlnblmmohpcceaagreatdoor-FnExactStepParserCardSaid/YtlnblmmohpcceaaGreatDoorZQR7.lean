/- Proved here: steps towards the statement of this claim. No condition. -/
import Derived.Test.YtlnblmmohpcceaaGreatDoorZQY4
set_option linter.all false
set_option maxRecDepth 4000
set_option maxHeartbeats 4000000
namespace Go.Proofs.YtlnblmmohpcceaaGreatDoor
open Go.Aw Proofs.Tryz List IntKind
def gK:bC:=[115,99,114,105,112,116]
def EI:bC:=[108,105,110,107]
def Jp:bC:=[105,109,103]
def Hd:bC:=[107,105,110,100]
def Aj:bC:=[109,111,100,117,108,101]
def lX:bC:=[115,114,99]
def xP:bC:=[104,114,101,102]
def dE:bC:=[100,105,103,101,115,116]
def Jq:jA:=⟨0,uI,[],[]⟩
def TE (k:Int) (v d b:bC):jA×Bool:=if (bQ v b).2=true then (⟨k,(bQ v b).1,b,d⟩,true) else (Jq,false)
def Rs (t:bH) (b:bC):jA×Bool:=
 if t.kind=1 then
  if t.name=gK then
   if (aQ t.attrs Hd).1=Aj then TE 5 (aQ t.attrs lX).1 [] b else TE 2 (aQ t.attrs lX).1 (aQ t.attrs dE).1 b
  else if t.name=EI then TE 3 (aQ t.attrs xP).1 (aQ t.attrs dE).1 b
  else if t.name=Jp then TE 4 (aQ t.attrs lX).1 (aQ t.attrs dE).1 b
  else (Jq,false)
 else (Jq,false)
theorem kJ (l:List iU) (n:bC):(aQ l n).1.length<=aO fI l:=by
 unfold aQ
 split
 ·rename_i a h
  have:=mem_of_find?_eq_some h
  have:=bU fI this
  simp only [fI] at this⊢
  omega
 ·simp
theorem mo (s b:bC):aV (addrOf s b)<=s.length+b.length:=by
 have:=qW 47 s
 unfold addrOf
 split<;>simp [aV]<;>omega
theorem He (s b:bC):aV (bQ s b).1<=s.length+b.length:=by
 have:=mo s b
 unfold bQ
 split
 ·exact this
 ·simp [aV,uI]
def Q8 (b:bC) (t:bH):Option jA:=if (Rs t b).2=true then some (Rs t b).1 else none
def Yy (l:List bH) (b:bC):List jA:=l.filterMap (Q8 b)
@[simp] theorem Q9 (b:bC):Yy [] b=[]:=rfl
def rD (s:bC):List bH:=(feed s).1++mZ ⟨(feed s).2⟩
theorem Dl (t:jH):aO bF (mZ t)<=t.rest.length/\(mZ t).length<=1:=by
 unfold mZ
 split
 ·simp [aO]
 ·simp [aO,bF,bP]
theorem Dm (s:bC):(rD s).length<=s.length+1/\aO bF (rD s)<=s.length:=by
 obtain ⟨h1,h2⟩:=LB s.length s (Nat.le_refl _)
 obtain ⟨h3,h4⟩:=Dl ⟨(feed s).2⟩
 have hj:∀a b:List bH,aO bF (a++b)=aO bF a+aO bF b:=by
  intro a b
  induction a with
  |nil=>simp [aO]
  |cons x xs ih=>simp only [cons_append,aO,ih];omega
 simp only [rD,length_append,hj] at *
 omega
theorem KS [aD prog] [eO prog] (s:bC) (hl:s.length<=1048576):Ok prog 153 [.str s] (.sl .own 4 ((rD s).map (bB .own))):=by
 have c1:=KQ ⟨[]⟩ s (by simp;omega)
 obtain ⟨h1,h2⟩:=LB s.length s (Nat.le_refl _)
 simp only [nil_append,dB] at c1
 unfold rD
 generalize feed s=f at *
 obtain ⟨l,x⟩:=f
 simp only at c1 h1 h2⊢
 have c2:=NT ⟨x⟩ (by simp only;omega)
 have h4:=(Dl ⟨x⟩).2
 simp only [dB] at c2
 generalize mZ ⟨x⟩=g at *
 have hb1:(l.length+g.length) * 64<=140737488355328:=by omega
 refine bR aAc func153 ntmps153 ?_
 have W:=hb1
 repeat' first|refine we ?_|(refine sq ?_ ?_<;>intro hc<;>try exact hc.elim)|fail
 all_goals try(refine ⟨.inr rfl,?_⟩;simp [aB,results153])
 all_goals (first|(rw [<-map_append];exact uG _)|simp)
theorem KT [aD prog] [eO prog] (s:bC) (hl:s.length<=1048576):Ok prog 226 [.str s] (.sl .own 4 ((rD s).map (bB .own))):=by
 have c1:=KR ⟨[]⟩ s (by simp;omega)
 obtain ⟨h1,h2⟩:=LB s.length s (Nat.le_refl _)
 simp only [nil_append,dB] at c1
 unfold rD
 generalize feed s=f at *
 obtain ⟨l,x⟩:=f
 simp only at c1 h1 h2⊢
 have c2:=NS ⟨x⟩ (by simp only;omega)
 have h4:=(Dl ⟨x⟩).2
 simp only [dB] at c2
 generalize mZ ⟨x⟩=g at *
 have hb1:(l.length+g.length) * 64<=140737488355328:=by omega
 refine bR aAc func226 ntmps226 ?_
 have W:=hb1
 repeat' first|refine we ?_|(refine sq ?_ ?_<;>intro hc<;>try exact hc.elim)|fail
 all_goals try(refine ⟨.inr rfl,?_⟩;simp [aB,results226])
 all_goals (first|(rw [<-map_append];exact uG _)|simp)
def wd:Nat->bC
 |1=>[119,114,105,116,101]
 |2=>[97,100,100]
 |3=>[99,111,117,110,116]
 |4=>[108,111,111,107]
 |5=>[115,97,121]
 |_=>[]
def BX (op:Nat):Bool:=op == 1 || op == 5
def fZ (op:Nat) (x:bC):Bool:=if BX op=true then decide (x.length<=60) else dJ x
def jO (s:bC) (op:Nat):Option (iG×Bool):=
 if (wd op).length+1<=s.length/\s.take ((wd op).length+1)=wd op++[32] then some (⟨op,s.drop ((wd op).length+1)⟩,fZ op (s.drop ((wd op).length+1))) else none
def bS (s:bC):iG×Bool:=((((jO s 1).or (jO s 2)).or (jO s 3)).or (jO s 4)).or (jO s 5) |>.getD (⟨0,[]⟩,false)
theorem Yz [aD prog]:Ok prog 260 [] (.sl .own 1 [[.str []],[.str [119,114,105,116,101,32]],[.str [97,100,100,32]],[.str [99,111,117,110,116,32]],[.str [108,111,111,107,32]],[.str [115,97,121,32]]]):=by
 refine bR aAc func260 ntmps260 ?_
 have W:=trivial
 repeat' first|refine we ?_|(refine sq ?_ ?_<;>intro hc<;>try exact hc.elim)|fail
 all_goals try(refine ⟨.inr rfl,?_⟩;simp [aB,results260])
theorem mU {s:bC} {op:Nat} (h:¬((((wd op).length+1:Nat):Int)<=(s.length:Int)/\s.take ((wd op).length+1)=wd op++[32])):jO s op=none:=by
 unfold jO
 rw [if_neg]
 rintro ⟨h1,h2⟩
 exact h ⟨by omega,h2⟩
theorem vM {s:bC} {op:Nat} (h1:(((wd op).length+1:Nat):Int)<=(s.length:Int)) (h2:s.take ((wd op).length+1)=wd op++[32]):jO s op=some (⟨op,s.drop ((wd op).length+1)⟩,fZ op (s.drop ((wd op).length+1))):=by
 unfold jO
 exact if_pos ⟨by omega,h2⟩
theorem kY {s:bC} {k:Nat} (hn:∀j,1<=j->j < k->jO s j=none) (h:jO s k=none):∀j,1<=j->j < k+1->jO s j=none:=by
 intro j h1 h2
 rcases Nat.lt_or_ge j k with h3|h3
 ·exact hn j h1 h3
 ·obtain rfl:j=k:=by omega
  exact h
theorem mq [aD prog] (s:bC) (hl:s.length<=1099511627776):Ok prog 211 [.str s] (.gV [.agg (jL (bS s).1),.bool (bS s).2]):=by
 have c0:=Yz
 refine bR aAc func211 ntmps211 ?_
 have W:=trivial
 repeat' first|refine we ?_|(refine sq ?_ ?_<;>intro hc<;>try exact hc.elim)|fail
 refine aJ (ι:={i:Nat // (1<=i/\i<=6)/\∀j,1<=j->j < i->jO s j=none}) (fun t o i=>⟨aZ t [(5,.int .i64 i.1)],o⟩) (fun i=>6 - i.1) ⟨1,by simp,fun j h1 h2=>by omega⟩ (aI (by simp) (by simp)) ?_
 rintro ⟨k,⟨hk,hk6⟩,hn⟩ K1 hK1
 try simp only at hk hk6 hn
 simp only [aZ,set_cons_succ,set_cons_zero] at hK1⊢
 obtain rfl|rfl|rfl|rfl|rfl|rfl:k=1\/k=2\/k=3\/k=4\/k=5\/k=6:=by omega
 ·by_cases h1:(6:Int)<=(s.length:Int)
  ·have KU:((6:Nat):Int)<=(s.length:Int):=by omega
   by_cases h2:s.take 6=[119,114,105,116,101,32]
   ·have ht:jO s 1=some (⟨1,s.drop 6⟩,fZ 1 (s.drop 6)):=vM (op:=1) KU h2
    have hr:bS s=(⟨1,s.drop 6⟩,fZ 1 (s.drop 6)):=by simp [bS,ht]
    rw [hr]
    clear hr ht hn KU
    by_cases h3:((s.length - 6:Nat):Int)<=60
    ·have hg:fZ 1 (s.drop 6)=true:=by simp [fZ,BX];omega
     rw [hg]
     have W:=aA h1 (aA h2 h3)
     repeat' first|refine we ?_|(refine sq ?_ ?_<;>intro hc<;>try exact hc.elim)|fail
     all_goals try(refine ⟨.inr rfl,?_⟩;simp [aB,results211])
    ·have hg:fZ 1 (s.drop 6)=false:=by simp [fZ,BX];omega
     rw [hg]
     have W:=aA h1 (aA h2 h3)
     repeat' first|refine we ?_|(refine sq ?_ ?_<;>intro hc<;>try exact hc.elim)|fail
     all_goals try(refine ⟨.inr rfl,?_⟩;simp [aB,results211])
   ·have ht:jO s 1=none:=mU (op:=1) (fun h=>h2 h.2)
    have hb:(s.take 6 == ([119,114,105,116,101,32]:bC))=false:=by simpa using h2
    have W:=aA h1 (aA h2 hb)
    repeat' first|refine we ?_|(refine sq ?_ ?_<;>intro hc<;>try exact hc.elim)|fail
    exact hK1 _ ⟨2,by omega,kY hn ht⟩ (aI (by simp) (by simp)) (by simp only;omega)
  ·have ht:jO s 1=none:=mU (op:=1) (fun h=>h1 (by have:=h.1;simp only [wd,length_cons,length_nil] at this;omega))
   have W:=h1
   repeat' first|refine we ?_|(refine sq ?_ ?_<;>intro hc<;>try exact hc.elim)|fail
   exact hK1 _ ⟨2,by omega,kY hn ht⟩ (aI (by simp) (by simp)) (by simp only;omega)
 ·by_cases h1:(4:Int)<=(s.length:Int)
  ·have KU:((4:Nat):Int)<=(s.length:Int):=by omega
   by_cases h2:s.take 4=[97,100,100,32]
   ·have ht:jO s 2=some (⟨2,s.drop 4⟩,fZ 2 (s.drop 4)):=vM (op:=2) KU h2
    have hr:bS s=(⟨2,s.drop 4⟩,fZ 2 (s.drop 4)):=by simp [bS,hn 1 (by omega) (by omega),ht]
    rw [hr]
    clear hr ht hn KU
    have c1:=eP (s.drop 4) (by simp;omega)
    have hg:fZ 2 (s.drop 4)=dJ (s.drop 4):=rfl
    rw [hg]
    generalize dJ (s.drop 4)=b at *
    have W:=aA h1 h2
    repeat' first|refine we ?_|(refine sq ?_ ?_<;>intro hc<;>try exact hc.elim)|fail
    all_goals try(refine ⟨.inr rfl,?_⟩;simp [aB,results211])
   ·have ht:jO s 2=none:=mU (op:=2) (fun h=>h2 h.2)
    have hb:(s.take 4 == ([97,100,100,32]:bC))=false:=by simpa using h2
    have W:=aA h1 (aA h2 hb)
    repeat' first|refine we ?_|(refine sq ?_ ?_<;>intro hc<;>try exact hc.elim)|fail
    exact hK1 _ ⟨3,by omega,kY hn ht⟩ (aI (by simp) (by simp)) (by simp only;omega)
  ·have ht:jO s 2=none:=mU (op:=2) (fun h=>h1 (by have:=h.1;simp only [wd,length_cons,length_nil] at this;omega))
   have W:=h1
   repeat' first|refine we ?_|(refine sq ?_ ?_<;>intro hc<;>try exact hc.elim)|fail
   exact hK1 _ ⟨3,by omega,kY hn ht⟩ (aI (by simp) (by simp)) (by simp only;omega)
 ·by_cases h1:(6:Int)<=(s.length:Int)
  ·have KU:((6:Nat):Int)<=(s.length:Int):=by omega
   by_cases h2:s.take 6=[99,111,117,110,116,32]
   ·have ht:jO s 3=some (⟨3,s.drop 6⟩,fZ 3 (s.drop 6)):=vM (op:=3) KU h2
    have hr:bS s=(⟨3,s.drop 6⟩,fZ 3 (s.drop 6)):=by simp [bS,hn 1 (by omega) (by omega),hn 2 (by omega) (by omega),ht]
    rw [hr]
    clear hr ht hn KU
    have c1:=eP (s.drop 6) (by simp;omega)
    have hg:fZ 3 (s.drop 6)=dJ (s.drop 6):=rfl
    rw [hg]
    generalize dJ (s.drop 6)=b at *
    have W:=aA h1 h2
    repeat' first|refine we ?_|(refine sq ?_ ?_<;>intro hc<;>try exact hc.elim)|fail
    all_goals try(refine ⟨.inr rfl,?_⟩;simp [aB,results211])
   ·have ht:jO s 3=none:=mU (op:=3) (fun h=>h2 h.2)
    have hb:(s.take 6 == ([99,111,117,110,116,32]:bC))=false:=by simpa using h2
    have W:=aA h1 (aA h2 hb)
    repeat' first|refine we ?_|(refine sq ?_ ?_<;>intro hc<;>try exact hc.elim)|fail
    exact hK1 _ ⟨4,by omega,kY hn ht⟩ (aI (by simp) (by simp)) (by simp only;omega)
  ·have ht:jO s 3=none:=mU (op:=3) (fun h=>h1 (by have:=h.1;simp only [wd,length_cons,length_nil] at this;omega))
   have W:=h1
   repeat' first|refine we ?_|(refine sq ?_ ?_<;>intro hc<;>try exact hc.elim)|fail
   exact hK1 _ ⟨4,by omega,kY hn ht⟩ (aI (by simp) (by simp)) (by simp only;omega)
 ·by_cases h1:(5:Int)<=(s.length:Int)
  ·have KU:((5:Nat):Int)<=(s.length:Int):=by omega
   by_cases h2:s.take 5=[108,111,111,107,32]
   ·have ht:jO s 4=some (⟨4,s.drop 5⟩,fZ 4 (s.drop 5)):=vM (op:=4) KU h2
    have hr:bS s=(⟨4,s.drop 5⟩,fZ 4 (s.drop 5)):=by simp [bS,hn 1 (by omega) (by omega),hn 2 (by omega) (by omega),hn 3 (by omega) (by omega),ht]
    rw [hr]
    clear hr ht hn KU
    have c1:=eP (s.drop 5) (by simp;omega)
    have hg:fZ 4 (s.drop 5)=dJ (s.drop 5):=rfl
    rw [hg]
    generalize dJ (s.drop 5)=b at *
    have W:=aA h1 h2
    repeat' first|refine we ?_|(refine sq ?_ ?_<;>intro hc<;>try exact hc.elim)|fail
    all_goals try(refine ⟨.inr rfl,?_⟩;simp [aB,results211])
   ·have ht:jO s 4=none:=mU (op:=4) (fun h=>h2 h.2)
    have hb:(s.take 5 == ([108,111,111,107,32]:bC))=false:=by simpa using h2
    have W:=aA h1 (aA h2 hb)
    repeat' first|refine we ?_|(refine sq ?_ ?_<;>intro hc<;>try exact hc.elim)|fail
    exact hK1 _ ⟨5,by omega,kY hn ht⟩ (aI (by simp) (by simp)) (by simp only;omega)
  ·have ht:jO s 4=none:=mU (op:=4) (fun h=>h1 (by have:=h.1;simp only [wd,length_cons,length_nil] at this;omega))
   have W:=h1
   repeat' first|refine we ?_|(refine sq ?_ ?_<;>intro hc<;>try exact hc.elim)|fail
   exact hK1 _ ⟨5,by omega,kY hn ht⟩ (aI (by simp) (by simp)) (by simp only;omega)
 ·by_cases h1:(4:Int)<=(s.length:Int)
  ·have KU:((4:Nat):Int)<=(s.length:Int):=by omega
   by_cases h2:s.take 4=[115,97,121,32]
   ·have ht:jO s 5=some (⟨5,s.drop 4⟩,fZ 5 (s.drop 4)):=vM (op:=5) KU h2
    have hr:bS s=(⟨5,s.drop 4⟩,fZ 5 (s.drop 4)):=by simp [bS,hn 1 (by omega) (by omega),hn 2 (by omega) (by omega),hn 3 (by omega) (by omega),hn 4 (by omega) (by omega),ht]
    rw [hr]
    clear hr ht hn KU
    by_cases h3:((s.length - 4:Nat):Int)<=60
    ·have hg:fZ 5 (s.drop 4)=true:=by simp [fZ,BX];omega
     rw [hg]
     have W:=aA h1 (aA h2 h3)
     repeat' first|refine we ?_|(refine sq ?_ ?_<;>intro hc<;>try exact hc.elim)|fail
     all_goals try(refine ⟨.inr rfl,?_⟩;simp [aB,results211])
    ·have hg:fZ 5 (s.drop 4)=false:=by simp [fZ,BX];omega
     rw [hg]
     have W:=aA h1 (aA h2 h3)
     repeat' first|refine we ?_|(refine sq ?_ ?_<;>intro hc<;>try exact hc.elim)|fail
     all_goals try(refine ⟨.inr rfl,?_⟩;simp [aB,results211])
   ·have ht:jO s 5=none:=mU (op:=5) (fun h=>h2 h.2)
    have hb:(s.take 4 == ([115,97,121,32]:bC))=false:=by simpa using h2
    have W:=aA h1 (aA h2 hb)
    repeat' first|refine we ?_|(refine sq ?_ ?_<;>intro hc<;>try exact hc.elim)|fail
    exact hK1 _ ⟨6,by omega,kY hn ht⟩ (aI (by simp) (by simp)) (by simp only;omega)
  ·have ht:jO s 5=none:=mU (op:=5) (fun h=>h1 (by have:=h.1;simp only [wd,length_cons,length_nil] at this;omega))
   have W:=h1
   repeat' first|refine we ?_|(refine sq ?_ ?_<;>intro hc<;>try exact hc.elim)|fail
   exact hK1 _ ⟨6,by omega,kY hn ht⟩ (aI (by simp) (by simp)) (by simp only;omega)
 ·have hr:bS s=(⟨0,[]⟩,false):=by simp [bS,hn 1 (by omega) (by omega),hn 2 (by omega) (by omega),hn 3 (by omega) (by omega),hn 4 (by omega) (by omega),hn 5 (by omega) (by omega)]
  rw [hr]
  have W:=trivial
  repeat' first|refine we ?_|(refine sq ?_ ?_<;>intro hc<;>try exact hc.elim)|fail
  all_goals try(refine ⟨.inr rfl,?_⟩;simp [aB,results211])
end Go.Proofs.YtlnblmmohpcceaaGreatDoor
