/-
  Proved here: steps towards the statement of this claim, text P3.
  No condition beyond what each statement spells out.
-/
import Derived.Test.YtgkllebnnakojaaGreatDoorP2
set_option linter.all false
set_option maxRecDepth 4000
set_option maxHeartbeats 4000000
namespace Go.Proofs.YtgkllebnnakojaaGreatDoor
open Go.Aw
theorem aN4 [aB Tryz.prog]:Ok Tryz.prog 93 [.int .i64 1] (.str [119,114,105,116,101]):=by
 have c0:=pU 1 1 5
 simp only [Int.reduceLE,decide_true,Bool.and_self] at c0
 refine ent Tryz.mix Tryz.func93 Tryz.ntmps93 ?_
 have W:=trivial
 repeat' first|refine st ?_|(refine nx ?_;first|refine se ?_|refine so ?_)|(refine cx ?_;refine sc (fun hc=>?_) (fun hc=>?_)<;>try exact hc.elim)|(refine lx ?_;refine sp (fun hc=>?_) (fun hc=>?_)<;>try exact hc.elim)|refine sx ?_ ?_|refine sy ?_ ?_|fail
 all_goals (try (refine ⟨.inr rfl,?_⟩;simp [Hands,Tryz.results93]))
theorem aN3 [aB Tryz.prog]:Ok Tryz.prog 93 [.int .i64 2] (.str [97,100,100]):=by
 have c0:=pU 2 1 5
 simp only [Int.reduceLE,decide_true,Bool.and_self] at c0
 refine ent Tryz.mix Tryz.func93 Tryz.ntmps93 ?_
 have W:=trivial
 repeat' first|refine st ?_|(refine nx ?_;first|refine se ?_|refine so ?_)|(refine cx ?_;refine sc (fun hc=>?_) (fun hc=>?_)<;>try exact hc.elim)|(refine lx ?_;refine sp (fun hc=>?_) (fun hc=>?_)<;>try exact hc.elim)|refine sx ?_ ?_|refine sy ?_ ?_|fail
 all_goals (try (refine ⟨.inr rfl,?_⟩;simp [Hands,Tryz.results93]))
theorem aOj [aB Tryz.prog]:Ok Tryz.prog 93 [.int .i64 3] (.str [99,111,117,110,116]):=by
 have c0:=pU 3 1 5
 simp only [Int.reduceLE,decide_true,Bool.and_self] at c0
 refine ent Tryz.mix Tryz.func93 Tryz.ntmps93 ?_
 have W:=trivial
 repeat' first|refine st ?_|(refine nx ?_;first|refine se ?_|refine so ?_)|(refine cx ?_;refine sc (fun hc=>?_) (fun hc=>?_)<;>try exact hc.elim)|(refine lx ?_;refine sp (fun hc=>?_) (fun hc=>?_)<;>try exact hc.elim)|refine sx ?_ ?_|refine sy ?_ ?_|fail
 all_goals (try (refine ⟨.inr rfl,?_⟩;simp [Hands,Tryz.results93]))
theorem aN1 [aB Tryz.prog]:Ok Tryz.prog 93 [.int .i64 4] (.str [108,111,111,107]):=by
 have c0:=pU 4 1 5
 simp only [Int.reduceLE,decide_true,Bool.and_self] at c0
 refine ent Tryz.mix Tryz.func93 Tryz.ntmps93 ?_
 have W:=trivial
 repeat' first|refine st ?_|(refine nx ?_;first|refine se ?_|refine so ?_)|(refine cx ?_;refine sc (fun hc=>?_) (fun hc=>?_)<;>try exact hc.elim)|(refine lx ?_;refine sp (fun hc=>?_) (fun hc=>?_)<;>try exact hc.elim)|refine sx ?_ ?_|refine sy ?_ ?_|fail
 all_goals (try (refine ⟨.inr rfl,?_⟩;simp [Hands,Tryz.results93]))
theorem aNk [aB Tryz.prog]:Ok Tryz.prog 93 [.int .i64 5] (.str [115,97,121]):=by
 have c0:=pU 5 1 5
 simp only [Int.reduceLE,decide_true,Bool.and_self] at c0
 refine ent Tryz.mix Tryz.func93 Tryz.ntmps93 ?_
 have W:=trivial
 repeat' first|refine st ?_|(refine nx ?_;first|refine se ?_|refine so ?_)|(refine cx ?_;refine sc (fun hc=>?_) (fun hc=>?_)<;>try exact hc.elim)|(refine lx ?_;refine sp (fun hc=>?_) (fun hc=>?_)<;>try exact hc.elim)|refine sx ?_ ?_|refine sy ?_ ?_|fail
 all_goals (try (refine ⟨.inr rfl,?_⟩;simp [Hands,Tryz.results93]))
theorem aX9 (op:Nat):∀x∈wd op,x≠32:=by
 have h:(wd op).all (fun x=>decide (x≠32))=true:=by
  unfold wd
  split<;>decide
 intro x hx
 simpa using List.all_eq_true.1 h x hx
theorem aUn {s:Str} {op:Nat} (hk:ixB 32 s < s.length) (hw:s.take (ixB 32 s)=wd op):eD s op=some (⟨op,s.drop (ixB 32 s+1)⟩,cZ op (s.drop (ixB 32 s+1))):=by
 have hL:(wd op).length=ixB 32 s:=by rw [←hw];simp;omega
 have h2:s.take ((wd op).length+1)=wd op++[32]:=by
  rw [hL,List.take_succ_eq_append_getElem hk,hw,aMs hk]
 rw [nY (by omega) h2,hL]
theorem aT5 {s:Str} {op:Nat} (h:¬(ixB 32 s < s.length∧s.take (ixB 32 s)=wd op)):eD s op=none:=by
 refine iN fun ⟨h1,h2⟩=>h ?_
 have hlt:(wd op).length < s.length:=by omega
 have ht:s.take (wd op).length=wd op:=by
  have:=congrArg (List.take (wd op).length) h2
  simpa [List.take_take] using this
 have hg:s[(wd op).length]=32:=by
  have:=congrArg (fun l=>l[(wd op).length]?) h2
  simp only [List.getElem?_append_right (Nat.le_refl _),Nat.sub_self,List.getElem?_cons_zero] at this
  rw [List.getElem?_take,if_pos (by omega),List.getElem?_eq_getElem hlt] at this
  exact Option.some.inj this
 have hi:ixB 32 s=(wd op).length:=aJ7 hlt hg (by rw [ht];exact aX9 op)
 rw [hi]
 exact ⟨hlt,ht⟩
theorem pY {s:Str} (h:∀j,1≤j→j < 6→eD s j=none):aY s=(⟨0,[]⟩,false):=by
 simp [aY,h 1 (by omega) (by omega),h 2 (by omega) (by omega),h 3 (by omega) (by omega),h 4 (by omega) (by omega),h 5 (by omega) (by omega)]
def fF (p:uM×Bool):uM:=if p.2=true then p.1 else ⟨0,[]⟩
theorem aIt [aB Tryz.prog] (s:Str) (hl:s.length≤1099511627776):Ok Tryz.prog 53 [.str s] (.tup [.agg (jM (fF (aY s))),.bool (aY s).2]):=by
 have hC:=zL s 32 (by omega)
 have hle:=qY 32 s
 have c1:=aN4
 have c2:=aN3
 have c3:=aOj
 have c4:=aN1
 have c5:=aNk
 have cN:=tO (s.drop (ixB 32 s+1)) (by simp;omega)
 have ht:∀op,ixB 32 s < s.length→s.take (ixB 32 s)=wd op→eD s op=some (⟨op,s.drop (ixB 32 s+1)⟩,cZ op (s.drop (ixB 32 s+1))):=fun op=>aUn
 have hf:∀op,¬(ixB 32 s < s.length∧s.take (ixB 32 s)=wd op)→eD s op=none:=fun op=>aT5
 generalize ixB 32 s=p at *
 generalize hword:s.take p=word at *
 generalize htext:s.drop (p+1)=text at *
 have htl:text.length≤s.length:=by rw [←htext];simp
 refine ent Tryz.mix Tryz.func53 Tryz.ntmps53 ?_
 have W:=trivial
 repeat' first|refine st ?_|(refine nx ?_;first|refine se ?_|refine so ?_)|(refine cx ?_;refine sc (fun hc=>?_) (fun hc=>?_)<;>try exact hc.elim)|(refine lx ?_;refine sp (fun hc=>?_) (fun hc=>?_)<;>try exact hc.elim)|refine sx ?_ ?_|refine sy ?_ ?_|fail
 refine aT (ι:={i:Nat // (1≤i∧i≤6)∧∀j,1≤j→j < i→eD s j=none}) (fun t o i=>⟨bB t [(7,.int .i64 i.1),(8,.undef)],o⟩) (fun i=>6 - i.1) ⟨1,by simp,fun j h1 h2=>by omega⟩ (aI (by simp) (by simp)) ?_
 rintro ⟨k,⟨hk,hk6⟩,hn⟩ K1 hK1
 try simp only at hk hk6 hn
 simp only [bB,List.set_cons_succ,List.set_cons_zero] at hK1⊢
 obtain rfl|rfl|rfl|rfl|rfl|rfl:k=1∨k=2∨k=3∨k=4∨k=5∨k=6:=by omega
 ·by_cases hw:word=[119,114,105,116,101]
  ·by_cases hp:p < s.length
   ·have hr:aY s=(⟨1,text⟩,cZ 1 text):=by simp [aY,ht 1 hp hw]
    rw [hr]
    rw [decide_eq_true hp] at hC
    clear hr hf ht hn
    subst hw
    by_cases h3:(text.length:Int)≤60
    ·have hg:cZ 1 text=true:=by simp [cZ,qX];omega
     have h4:¬(60:Int) < (text.length:Int):=by omega
     rw [hg]
     have W:=And.intro hp (And.intro h3 h4)
     repeat' first|refine st ?_|(refine nx ?_;first|refine se ?_|refine so ?_)|(refine cx ?_;refine sc (fun hc=>?_) (fun hc=>?_)<;>try exact hc.elim)|(refine lx ?_;refine sp (fun hc=>?_) (fun hc=>?_)<;>try exact hc.elim)|refine sx ?_ ?_|refine sy ?_ ?_|fail
     all_goals (try (refine ⟨.inr rfl,?_⟩;simp [Hands,Tryz.results53,fF]))
    ·have hg:cZ 1 text=false:=by simp [cZ,qX];omega
     have h4:(60:Int) < (text.length:Int):=by omega
     rw [hg]
     have W:=And.intro hp (And.intro h3 h4)
     repeat' first|refine st ?_|(refine nx ?_;first|refine se ?_|refine so ?_)|(refine cx ?_;refine sc (fun hc=>?_) (fun hc=>?_)<;>try exact hc.elim)|(refine lx ?_;refine sp (fun hc=>?_) (fun hc=>?_)<;>try exact hc.elim)|refine sx ?_ ?_|refine sy ?_ ?_|fail
     all_goals (try (refine ⟨.inr rfl,?_⟩;simp [Hands,Tryz.results53,fF]))
   ·have hr:aY s=(⟨0,[]⟩,false):=pY fun j _ _=>hf j fun h=>hp h.1
    rw [hr]
    rw [decide_eq_false hp] at hC
    clear hr hf ht hn
    subst hw
    have hp2:s.length≤p:=by omega
    have W:=And.intro hp hp2
    repeat' first|refine st ?_|(refine nx ?_;first|refine se ?_|refine so ?_)|(refine cx ?_;refine sc (fun hc=>?_) (fun hc=>?_)<;>try exact hc.elim)|(refine lx ?_;refine sp (fun hc=>?_) (fun hc=>?_)<;>try exact hc.elim)|refine sx ?_ ?_|refine sy ?_ ?_|fail
    all_goals (try (refine ⟨.inr rfl,?_⟩;simp [Hands,Tryz.results53,fF]))
  ·have hx:=hf 1 fun h=>hw h.2
   have hb:(([119,114,105,116,101]:Str) == word)=false:=by simpa using fun h=>hw h.symm
   have hw2:¬[119,114,105,116,101]=word:=fun h=>hw h.symm
   clear hf ht
   have W:=And.intro hw (And.intro hw2 hb)
   repeat' first|refine st ?_|(refine nx ?_;first|refine se ?_|refine so ?_)|(refine cx ?_;refine sc (fun hc=>?_) (fun hc=>?_)<;>try exact hc.elim)|(refine lx ?_;refine sp (fun hc=>?_) (fun hc=>?_)<;>try exact hc.elim)|refine sx ?_ ?_|refine sy ?_ ?_|fail
   exact hK1 _ ⟨2,by omega,gB hn hx⟩ (aI (by simp) (by simp)) (by simp only;omega)
 ·by_cases hw:word=[97,100,100]
  ·by_cases hp:p < s.length
   ·have hr:aY s=(⟨2,text⟩,cZ 2 text):=by simp [aY,hn 1 (by omega) (by omega),ht 2 hp hw]
    rw [hr]
    rw [decide_eq_true hp] at hC
    clear hr hf ht hn
    subst hw
    have hg:cZ 2 text=dA text:=rfl
    rw [hg]
    generalize dA text=b at *
    cases b
    ·have W:=hp
     repeat' first|refine st ?_|(refine nx ?_;first|refine se ?_|refine so ?_)|(refine cx ?_;refine sc (fun hc=>?_) (fun hc=>?_)<;>try exact hc.elim)|(refine lx ?_;refine sp (fun hc=>?_) (fun hc=>?_)<;>try exact hc.elim)|refine sx ?_ ?_|refine sy ?_ ?_|fail
     all_goals (try (refine ⟨.inr rfl,?_⟩;simp [Hands,Tryz.results53,fF]))
    ·have W:=hp
     repeat' first|refine st ?_|(refine nx ?_;first|refine se ?_|refine so ?_)|(refine cx ?_;refine sc (fun hc=>?_) (fun hc=>?_)<;>try exact hc.elim)|(refine lx ?_;refine sp (fun hc=>?_) (fun hc=>?_)<;>try exact hc.elim)|refine sx ?_ ?_|refine sy ?_ ?_|fail
     all_goals (try (refine ⟨.inr rfl,?_⟩;simp [Hands,Tryz.results53,fF]))
   ·have hr:aY s=(⟨0,[]⟩,false):=pY fun j _ _=>hf j fun h=>hp h.1
    rw [hr]
    rw [decide_eq_false hp] at hC
    clear hr hf ht hn
    subst hw
    have hp2:s.length≤p:=by omega
    have W:=And.intro hp hp2
    repeat' first|refine st ?_|(refine nx ?_;first|refine se ?_|refine so ?_)|(refine cx ?_;refine sc (fun hc=>?_) (fun hc=>?_)<;>try exact hc.elim)|(refine lx ?_;refine sp (fun hc=>?_) (fun hc=>?_)<;>try exact hc.elim)|refine sx ?_ ?_|refine sy ?_ ?_|fail
    all_goals (try (refine ⟨.inr rfl,?_⟩;simp [Hands,Tryz.results53,fF]))
  ·have hx:=hf 2 fun h=>hw h.2
   have hb:(([97,100,100]:Str) == word)=false:=by simpa using fun h=>hw h.symm
   have hw2:¬[97,100,100]=word:=fun h=>hw h.symm
   clear hf ht
   have W:=And.intro hw (And.intro hw2 hb)
   repeat' first|refine st ?_|(refine nx ?_;first|refine se ?_|refine so ?_)|(refine cx ?_;refine sc (fun hc=>?_) (fun hc=>?_)<;>try exact hc.elim)|(refine lx ?_;refine sp (fun hc=>?_) (fun hc=>?_)<;>try exact hc.elim)|refine sx ?_ ?_|refine sy ?_ ?_|fail
   exact hK1 _ ⟨3,by omega,gB hn hx⟩ (aI (by simp) (by simp)) (by simp only;omega)
 ·by_cases hw:word=[99,111,117,110,116]
  ·by_cases hp:p < s.length
   ·have hr:aY s=(⟨3,text⟩,cZ 3 text):=by simp [aY,hn 1 (by omega) (by omega),hn 2 (by omega) (by omega),ht 3 hp hw]
    rw [hr]
    rw [decide_eq_true hp] at hC
    clear hr hf ht hn
    subst hw
    have hg:cZ 3 text=dA text:=rfl
    rw [hg]
    generalize dA text=b at *
    cases b
    ·have W:=hp
     repeat' first|refine st ?_|(refine nx ?_;first|refine se ?_|refine so ?_)|(refine cx ?_;refine sc (fun hc=>?_) (fun hc=>?_)<;>try exact hc.elim)|(refine lx ?_;refine sp (fun hc=>?_) (fun hc=>?_)<;>try exact hc.elim)|refine sx ?_ ?_|refine sy ?_ ?_|fail
     all_goals (try (refine ⟨.inr rfl,?_⟩;simp [Hands,Tryz.results53,fF]))
    ·have W:=hp
     repeat' first|refine st ?_|(refine nx ?_;first|refine se ?_|refine so ?_)|(refine cx ?_;refine sc (fun hc=>?_) (fun hc=>?_)<;>try exact hc.elim)|(refine lx ?_;refine sp (fun hc=>?_) (fun hc=>?_)<;>try exact hc.elim)|refine sx ?_ ?_|refine sy ?_ ?_|fail
     all_goals (try (refine ⟨.inr rfl,?_⟩;simp [Hands,Tryz.results53,fF]))
   ·have hr:aY s=(⟨0,[]⟩,false):=pY fun j _ _=>hf j fun h=>hp h.1
    rw [hr]
    rw [decide_eq_false hp] at hC
    clear hr hf ht hn
    subst hw
    have hp2:s.length≤p:=by omega
    have W:=And.intro hp hp2
    repeat' first|refine st ?_|(refine nx ?_;first|refine se ?_|refine so ?_)|(refine cx ?_;refine sc (fun hc=>?_) (fun hc=>?_)<;>try exact hc.elim)|(refine lx ?_;refine sp (fun hc=>?_) (fun hc=>?_)<;>try exact hc.elim)|refine sx ?_ ?_|refine sy ?_ ?_|fail
    all_goals (try (refine ⟨.inr rfl,?_⟩;simp [Hands,Tryz.results53,fF]))
  ·have hx:=hf 3 fun h=>hw h.2
   have hb:(([99,111,117,110,116]:Str) == word)=false:=by simpa using fun h=>hw h.symm
   have hw2:¬[99,111,117,110,116]=word:=fun h=>hw h.symm
   clear hf ht
   have W:=And.intro hw (And.intro hw2 hb)
   repeat' first|refine st ?_|(refine nx ?_;first|refine se ?_|refine so ?_)|(refine cx ?_;refine sc (fun hc=>?_) (fun hc=>?_)<;>try exact hc.elim)|(refine lx ?_;refine sp (fun hc=>?_) (fun hc=>?_)<;>try exact hc.elim)|refine sx ?_ ?_|refine sy ?_ ?_|fail
   exact hK1 _ ⟨4,by omega,gB hn hx⟩ (aI (by simp) (by simp)) (by simp only;omega)
 ·by_cases hw:word=[108,111,111,107]
  ·by_cases hp:p < s.length
   ·have hr:aY s=(⟨4,text⟩,cZ 4 text):=by simp [aY,hn 1 (by omega) (by omega),hn 2 (by omega) (by omega),hn 3 (by omega) (by omega),ht 4 hp hw]
    rw [hr]
    rw [decide_eq_true hp] at hC
    clear hr hf ht hn
    subst hw
    have hg:cZ 4 text=dA text:=rfl
    rw [hg]
    generalize dA text=b at *
    cases b
    ·have W:=hp
     repeat' first|refine st ?_|(refine nx ?_;first|refine se ?_|refine so ?_)|(refine cx ?_;refine sc (fun hc=>?_) (fun hc=>?_)<;>try exact hc.elim)|(refine lx ?_;refine sp (fun hc=>?_) (fun hc=>?_)<;>try exact hc.elim)|refine sx ?_ ?_|refine sy ?_ ?_|fail
     all_goals (try (refine ⟨.inr rfl,?_⟩;simp [Hands,Tryz.results53,fF]))
    ·have W:=hp
     repeat' first|refine st ?_|(refine nx ?_;first|refine se ?_|refine so ?_)|(refine cx ?_;refine sc (fun hc=>?_) (fun hc=>?_)<;>try exact hc.elim)|(refine lx ?_;refine sp (fun hc=>?_) (fun hc=>?_)<;>try exact hc.elim)|refine sx ?_ ?_|refine sy ?_ ?_|fail
     all_goals (try (refine ⟨.inr rfl,?_⟩;simp [Hands,Tryz.results53,fF]))
   ·have hr:aY s=(⟨0,[]⟩,false):=pY fun j _ _=>hf j fun h=>hp h.1
    rw [hr]
    rw [decide_eq_false hp] at hC
    clear hr hf ht hn
    subst hw
    have hp2:s.length≤p:=by omega
    have W:=And.intro hp hp2
    repeat' first|refine st ?_|(refine nx ?_;first|refine se ?_|refine so ?_)|(refine cx ?_;refine sc (fun hc=>?_) (fun hc=>?_)<;>try exact hc.elim)|(refine lx ?_;refine sp (fun hc=>?_) (fun hc=>?_)<;>try exact hc.elim)|refine sx ?_ ?_|refine sy ?_ ?_|fail
    all_goals (try (refine ⟨.inr rfl,?_⟩;simp [Hands,Tryz.results53,fF]))
  ·have hx:=hf 4 fun h=>hw h.2
   have hb:(([108,111,111,107]:Str) == word)=false:=by simpa using fun h=>hw h.symm
   have hw2:¬[108,111,111,107]=word:=fun h=>hw h.symm
   clear hf ht
   have W:=And.intro hw (And.intro hw2 hb)
   repeat' first|refine st ?_|(refine nx ?_;first|refine se ?_|refine so ?_)|(refine cx ?_;refine sc (fun hc=>?_) (fun hc=>?_)<;>try exact hc.elim)|(refine lx ?_;refine sp (fun hc=>?_) (fun hc=>?_)<;>try exact hc.elim)|refine sx ?_ ?_|refine sy ?_ ?_|fail
   exact hK1 _ ⟨5,by omega,gB hn hx⟩ (aI (by simp) (by simp)) (by simp only;omega)
 ·by_cases hw:word=[115,97,121]
  ·by_cases hp:p < s.length
   ·have hr:aY s=(⟨5,text⟩,cZ 5 text):=by simp [aY,hn 1 (by omega) (by omega),hn 2 (by omega) (by omega),hn 3 (by omega) (by omega),hn 4 (by omega) (by omega),ht 5 hp hw]
    rw [hr]
    rw [decide_eq_true hp] at hC
    clear hr hf ht hn
    subst hw
    by_cases h3:(text.length:Int)≤60
    ·have hg:cZ 5 text=true:=by simp [cZ,qX];omega
     have h4:¬(60:Int) < (text.length:Int):=by omega
     rw [hg]
     have W:=And.intro hp (And.intro h3 h4)
     repeat' first|refine st ?_|(refine nx ?_;first|refine se ?_|refine so ?_)|(refine cx ?_;refine sc (fun hc=>?_) (fun hc=>?_)<;>try exact hc.elim)|(refine lx ?_;refine sp (fun hc=>?_) (fun hc=>?_)<;>try exact hc.elim)|refine sx ?_ ?_|refine sy ?_ ?_|fail
     all_goals (try (refine ⟨.inr rfl,?_⟩;simp [Hands,Tryz.results53,fF]))
    ·have hg:cZ 5 text=false:=by simp [cZ,qX];omega
     have h4:(60:Int) < (text.length:Int):=by omega
     rw [hg]
     have W:=And.intro hp (And.intro h3 h4)
     repeat' first|refine st ?_|(refine nx ?_;first|refine se ?_|refine so ?_)|(refine cx ?_;refine sc (fun hc=>?_) (fun hc=>?_)<;>try exact hc.elim)|(refine lx ?_;refine sp (fun hc=>?_) (fun hc=>?_)<;>try exact hc.elim)|refine sx ?_ ?_|refine sy ?_ ?_|fail
     all_goals (try (refine ⟨.inr rfl,?_⟩;simp [Hands,Tryz.results53,fF]))
   ·have hr:aY s=(⟨0,[]⟩,false):=pY fun j _ _=>hf j fun h=>hp h.1
    rw [hr]
    rw [decide_eq_false hp] at hC
    clear hr hf ht hn
    subst hw
    have hp2:s.length≤p:=by omega
    have W:=And.intro hp hp2
    repeat' first|refine st ?_|(refine nx ?_;first|refine se ?_|refine so ?_)|(refine cx ?_;refine sc (fun hc=>?_) (fun hc=>?_)<;>try exact hc.elim)|(refine lx ?_;refine sp (fun hc=>?_) (fun hc=>?_)<;>try exact hc.elim)|refine sx ?_ ?_|refine sy ?_ ?_|fail
    all_goals (try (refine ⟨.inr rfl,?_⟩;simp [Hands,Tryz.results53,fF]))
  ·have hx:=hf 5 fun h=>hw h.2
   have hb:(([115,97,121]:Str) == word)=false:=by simpa using fun h=>hw h.symm
   have hw2:¬[115,97,121]=word:=fun h=>hw h.symm
   clear hf ht
   have W:=And.intro hw (And.intro hw2 hb)
   repeat' first|refine st ?_|(refine nx ?_;first|refine se ?_|refine so ?_)|(refine cx ?_;refine sc (fun hc=>?_) (fun hc=>?_)<;>try exact hc.elim)|(refine lx ?_;refine sp (fun hc=>?_) (fun hc=>?_)<;>try exact hc.elim)|refine sx ?_ ?_|refine sy ?_ ?_|fail
   exact hK1 _ ⟨6,by omega,gB hn hx⟩ (aI (by simp) (by simp)) (by simp only;omega)
 ·have hr:aY s=(⟨0,[]⟩,false):=pY fun j h1 h2=>hn j h1 h2
  rw [hr]
  clear hr hf ht hn
  have W:=trivial
  repeat' first|refine st ?_|(refine nx ?_;first|refine se ?_|refine so ?_)|(refine cx ?_;refine sc (fun hc=>?_) (fun hc=>?_)<;>try exact hc.elim)|(refine lx ?_;refine sp (fun hc=>?_) (fun hc=>?_)<;>try exact hc.elim)|refine sx ?_ ?_|refine sy ?_ ?_|fail
  all_goals (try (refine ⟨.inr rfl,?_⟩;simp [Hands,Tryz.results53,fF]))
end Go.Proofs.YtgkllebnnakojaaGreatDoor
