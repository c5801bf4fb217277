/-
  Proved here: steps towards the statement of this claim, text QP3.
  No condition beyond what each statement spells out.
-/
import Derived.Test.YtlnblmmohpcceaaGreatDoorQR7
import Derived.Test.YtlnblmmohpcceaaGreatDoorF5
set_option linter.all false
set_option maxRecDepth 4000
set_option maxHeartbeats 4000000
namespace Go.Proofs.YtlnblmmohpcceaaGreatDoor
open Go.Aw
theorem aW5 [aA Tryz.prog]:Ok Tryz.prog 268 [.int .i64 1] (.str [119,114,105,116,101]):=by
 have c0:=jT 1 1 5
 simp only [Int.reduceLE,decide_true,Bool.and_self] at c0
 refine ent Tryz.mix Tryz.func268 Tryz.ntmps268 ?_
 have W:=trivial
 repeat' first|refine we ?_|(refine sq (fun hc=>?_) (fun hc=>?_)<;>try exact hc.elim)|fail
 all_goals (try (refine ⟨.inr rfl,?_⟩;simp [Hands,Tryz.results268]))
theorem aXe [aA Tryz.prog]:Ok Tryz.prog 268 [.int .i64 2] (.str [97,100,100]):=by
 have c0:=jT 2 1 5
 simp only [Int.reduceLE,decide_true,Bool.and_self] at c0
 refine ent Tryz.mix Tryz.func268 Tryz.ntmps268 ?_
 have W:=trivial
 repeat' first|refine we ?_|(refine sq (fun hc=>?_) (fun hc=>?_)<;>try exact hc.elim)|fail
 all_goals (try (refine ⟨.inr rfl,?_⟩;simp [Hands,Tryz.results268]))
theorem aXv [aA Tryz.prog]:Ok Tryz.prog 268 [.int .i64 3] (.str [99,111,117,110,116]):=by
 have c0:=jT 3 1 5
 simp only [Int.reduceLE,decide_true,Bool.and_self] at c0
 refine ent Tryz.mix Tryz.func268 Tryz.ntmps268 ?_
 have W:=trivial
 repeat' first|refine we ?_|(refine sq (fun hc=>?_) (fun hc=>?_)<;>try exact hc.elim)|fail
 all_goals (try (refine ⟨.inr rfl,?_⟩;simp [Hands,Tryz.results268]))
theorem aX1 [aA Tryz.prog]:Ok Tryz.prog 268 [.int .i64 4] (.str [108,111,111,107]):=by
 have c0:=jT 4 1 5
 simp only [Int.reduceLE,decide_true,Bool.and_self] at c0
 refine ent Tryz.mix Tryz.func268 Tryz.ntmps268 ?_
 have W:=trivial
 repeat' first|refine we ?_|(refine sq (fun hc=>?_) (fun hc=>?_)<;>try exact hc.elim)|fail
 all_goals (try (refine ⟨.inr rfl,?_⟩;simp [Hands,Tryz.results268]))
theorem aXq [aA Tryz.prog]:Ok Tryz.prog 268 [.int .i64 5] (.str [115,97,121]):=by
 have c0:=jT 5 1 5
 simp only [Int.reduceLE,decide_true,Bool.and_self] at c0
 refine ent Tryz.mix Tryz.func268 Tryz.ntmps268 ?_
 have W:=trivial
 repeat' first|refine we ?_|(refine sq (fun hc=>?_) (fun hc=>?_)<;>try exact hc.elim)|fail
 all_goals (try (refine ⟨.inr rfl,?_⟩;simp [Hands,Tryz.results268]))
theorem bGg (op:Nat):∀x∈wd op,x≠32:=by
 have h:(wd op).all (fun x=>decide (x≠32))=true:=by
  unfold wd
  split<;>decide
 intro x hx
 simpa using List.all_eq_true.1 h x hx
theorem bDz {s:Str} {op:Nat} (hk:ixB 32 s < s.length) (hw:s.take (ixB 32 s)=wd op):fQ s op=some (⟨op,s.drop (ixB 32 s+1)⟩,dX op (s.drop (ixB 32 s+1))):=by
 have hL:(wd op).length=ixB 32 s:=by rw [←hw];simp;omega
 have h2:s.take ((wd op).length+1)=wd op++[32]:=by
  rw [hL,List.take_succ_eq_append_getElem hk,hw,aVh hk]
 rw [tJ (by omega) h2,hL]
theorem bD9 {s:Str} {op:Nat} (h:¬(ixB 32 s < s.length∧s.take (ixB 32 s)=wd op)):fQ s op=none:=by
 refine lQ fun ⟨h1,h2⟩=>h ?_
 have hlt:(wd op).length < s.length:=by omega
 have ht:s.take (wd op).length=wd op:=by
  have:=congrArg (List.take (wd op).length) h2
  simpa [List.take_take] using this
 have hg:s[(wd op).length]=32:=by
  have:=congrArg (fun l=>l[(wd op).length]?) h2
  simp only [List.getElem?_append_right (Nat.le_refl _),Nat.sub_self,List.getElem?_cons_zero] at this
  rw [List.getElem?_take,if_pos (by omega),List.getElem?_eq_getElem hlt] at this
  exact Option.some.inj this
 have hi:ixB 32 s=(wd op).length:=aSu hlt hg (by rw [ht];exact bGg op)
 rw [hi]
 exact ⟨hlt,ht⟩
theorem vX {s:Str} (h:∀j,1≤j→j < 6→fQ s j=none):bG s=(⟨0,[]⟩,false):=by
 simp [bG,h 1 (by omega) (by omega),h 2 (by omega) (by omega),h 3 (by omega) (by omega),h 4 (by omega) (by omega),h 5 (by omega) (by omega)]
def jB (p:fI×Bool):fI:=if p.2=true then p.1 else ⟨0,[]⟩
theorem aTf [aA Tryz.prog] (s:Str) (hl:s.length≤1099511627776):Ok Tryz.prog 223 [.str s] (.tup [.agg (fU (jB (bG s))),.bool (bG s).2]):=by
 have hC:=uV s 32 (by omega)
 have hle:=mQ 32 s
 have c1:=aW5
 have c2:=aXe
 have c3:=aXv
 have c4:=aX1
 have c5:=aXq
 have cN:=gJ (s.drop (ixB 32 s+1)) (by simp;omega)
 have ht:∀op,ixB 32 s < s.length→s.take (ixB 32 s)=wd op→fQ s op=some (⟨op,s.drop (ixB 32 s+1)⟩,dX op (s.drop (ixB 32 s+1))):=fun op=>bDz
 have hf:∀op,¬(ixB 32 s < s.length∧s.take (ixB 32 s)=wd op)→fQ s op=none:=fun op=>bD9
 generalize ixB 32 s=p at *
 generalize hword:s.take p=word at *
 generalize htext:s.drop (p+1)=text at *
 have htl:text.length≤s.length:=by rw [←htext];simp
 refine ent Tryz.mix Tryz.func223 Tryz.ntmps223 ?_
 have W:=trivial
 repeat' first|refine we ?_|(refine sq (fun hc=>?_) (fun hc=>?_)<;>try exact hc.elim)|fail
 refine aM (ι:={i:Nat // (1≤i∧i≤6)∧∀j,1≤j→j < i→fQ s j=none}) (fun t o i=>⟨aO t [(7,.int .i64 i.1),(8,.undef)],o⟩) (fun i=>6 - i.1) ⟨1,by simp,fun j h1 h2=>by omega⟩ (aH (by simp) (by simp)) ?_
 rintro ⟨k,⟨hk,hk6⟩,hn⟩ K1 hK1
 try simp only at hk hk6 hn
 simp only [aO,List.set_cons_succ,List.set_cons_zero] at hK1⊢
 obtain rfl|rfl|rfl|rfl|rfl|rfl:k=1∨k=2∨k=3∨k=4∨k=5∨k=6:=by omega
 ·by_cases hw:word=[119,114,105,116,101]
  ·by_cases hp:p < s.length
   ·have hr:bG s=(⟨1,text⟩,dX 1 text):=by simp [bG,ht 1 hp hw]
    rw [hr]
    rw [decide_eq_true hp] at hC
    clear hr hf ht hn
    subst hw
    by_cases h3:(text.length:Int)≤60
    ·have hg:dX 1 text=true:=by simp [dX,wM];omega
     have h4:¬(60:Int) < (text.length:Int):=by omega
     rw [hg]
     have W:=And.intro hp (And.intro h3 h4)
     repeat' first|refine we ?_|(refine sq (fun hc=>?_) (fun hc=>?_)<;>try exact hc.elim)|fail
     all_goals (try (refine ⟨.inr rfl,?_⟩;simp [Hands,Tryz.results223,jB]))
    ·have hg:dX 1 text=false:=by simp [dX,wM];omega
     have h4:(60:Int) < (text.length:Int):=by omega
     rw [hg]
     have W:=And.intro hp (And.intro h3 h4)
     repeat' first|refine we ?_|(refine sq (fun hc=>?_) (fun hc=>?_)<;>try exact hc.elim)|fail
     all_goals (try (refine ⟨.inr rfl,?_⟩;simp [Hands,Tryz.results223,jB]))
   ·have hr:bG s=(⟨0,[]⟩,false):=vX fun j _ _=>hf j fun h=>hp h.1
    rw [hr]
    rw [decide_eq_false hp] at hC
    clear hr hf ht hn
    subst hw
    have hp2:s.length≤p:=by omega
    have W:=And.intro hp hp2
    repeat' first|refine we ?_|(refine sq (fun hc=>?_) (fun hc=>?_)<;>try exact hc.elim)|fail
    all_goals (try (refine ⟨.inr rfl,?_⟩;simp [Hands,Tryz.results223,jB]))
  ·have hx:=hf 1 fun h=>hw h.2
   have hb:(([119,114,105,116,101]:Str) == word)=false:=by simpa using fun h=>hw h.symm
   have hw2:¬[119,114,105,116,101]=word:=fun h=>hw h.symm
   clear hf ht
   have W:=And.intro hw (And.intro hw2 hb)
   repeat' first|refine we ?_|(refine sq (fun hc=>?_) (fun hc=>?_)<;>try exact hc.elim)|fail
   exact hK1 _ ⟨2,by omega,jY hn hx⟩ (aH (by simp) (by simp)) (by simp only;omega)
 ·by_cases hw:word=[97,100,100]
  ·by_cases hp:p < s.length
   ·have hr:bG s=(⟨2,text⟩,dX 2 text):=by simp [bG,hn 1 (by omega) (by omega),ht 2 hp hw]
    rw [hr]
    rw [decide_eq_true hp] at hC
    clear hr hf ht hn
    subst hw
    have hg:dX 2 text=bS text:=rfl
    rw [hg]
    generalize bS text=b at *
    cases b
    ·have W:=hp
     repeat' first|refine we ?_|(refine sq (fun hc=>?_) (fun hc=>?_)<;>try exact hc.elim)|fail
     all_goals (try (refine ⟨.inr rfl,?_⟩;simp [Hands,Tryz.results223,jB]))
    ·have W:=hp
     repeat' first|refine we ?_|(refine sq (fun hc=>?_) (fun hc=>?_)<;>try exact hc.elim)|fail
     all_goals (try (refine ⟨.inr rfl,?_⟩;simp [Hands,Tryz.results223,jB]))
   ·have hr:bG s=(⟨0,[]⟩,false):=vX fun j _ _=>hf j fun h=>hp h.1
    rw [hr]
    rw [decide_eq_false hp] at hC
    clear hr hf ht hn
    subst hw
    have hp2:s.length≤p:=by omega
    have W:=And.intro hp hp2
    repeat' first|refine we ?_|(refine sq (fun hc=>?_) (fun hc=>?_)<;>try exact hc.elim)|fail
    all_goals (try (refine ⟨.inr rfl,?_⟩;simp [Hands,Tryz.results223,jB]))
  ·have hx:=hf 2 fun h=>hw h.2
   have hb:(([97,100,100]:Str) == word)=false:=by simpa using fun h=>hw h.symm
   have hw2:¬[97,100,100]=word:=fun h=>hw h.symm
   clear hf ht
   have W:=And.intro hw (And.intro hw2 hb)
   repeat' first|refine we ?_|(refine sq (fun hc=>?_) (fun hc=>?_)<;>try exact hc.elim)|fail
   exact hK1 _ ⟨3,by omega,jY hn hx⟩ (aH (by simp) (by simp)) (by simp only;omega)
 ·by_cases hw:word=[99,111,117,110,116]
  ·by_cases hp:p < s.length
   ·have hr:bG s=(⟨3,text⟩,dX 3 text):=by simp [bG,hn 1 (by omega) (by omega),hn 2 (by omega) (by omega),ht 3 hp hw]
    rw [hr]
    rw [decide_eq_true hp] at hC
    clear hr hf ht hn
    subst hw
    have hg:dX 3 text=bS text:=rfl
    rw [hg]
    generalize bS text=b at *
    cases b
    ·have W:=hp
     repeat' first|refine we ?_|(refine sq (fun hc=>?_) (fun hc=>?_)<;>try exact hc.elim)|fail
     all_goals (try (refine ⟨.inr rfl,?_⟩;simp [Hands,Tryz.results223,jB]))
    ·have W:=hp
     repeat' first|refine we ?_|(refine sq (fun hc=>?_) (fun hc=>?_)<;>try exact hc.elim)|fail
     all_goals (try (refine ⟨.inr rfl,?_⟩;simp [Hands,Tryz.results223,jB]))
   ·have hr:bG s=(⟨0,[]⟩,false):=vX fun j _ _=>hf j fun h=>hp h.1
    rw [hr]
    rw [decide_eq_false hp] at hC
    clear hr hf ht hn
    subst hw
    have hp2:s.length≤p:=by omega
    have W:=And.intro hp hp2
    repeat' first|refine we ?_|(refine sq (fun hc=>?_) (fun hc=>?_)<;>try exact hc.elim)|fail
    all_goals (try (refine ⟨.inr rfl,?_⟩;simp [Hands,Tryz.results223,jB]))
  ·have hx:=hf 3 fun h=>hw h.2
   have hb:(([99,111,117,110,116]:Str) == word)=false:=by simpa using fun h=>hw h.symm
   have hw2:¬[99,111,117,110,116]=word:=fun h=>hw h.symm
   clear hf ht
   have W:=And.intro hw (And.intro hw2 hb)
   repeat' first|refine we ?_|(refine sq (fun hc=>?_) (fun hc=>?_)<;>try exact hc.elim)|fail
   exact hK1 _ ⟨4,by omega,jY hn hx⟩ (aH (by simp) (by simp)) (by simp only;omega)
 ·by_cases hw:word=[108,111,111,107]
  ·by_cases hp:p < s.length
   ·have hr:bG s=(⟨4,text⟩,dX 4 text):=by simp [bG,hn 1 (by omega) (by omega),hn 2 (by omega) (by omega),hn 3 (by omega) (by omega),ht 4 hp hw]
    rw [hr]
    rw [decide_eq_true hp] at hC
    clear hr hf ht hn
    subst hw
    have hg:dX 4 text=bS text:=rfl
    rw [hg]
    generalize bS text=b at *
    cases b
    ·have W:=hp
     repeat' first|refine we ?_|(refine sq (fun hc=>?_) (fun hc=>?_)<;>try exact hc.elim)|fail
     all_goals (try (refine ⟨.inr rfl,?_⟩;simp [Hands,Tryz.results223,jB]))
    ·have W:=hp
     repeat' first|refine we ?_|(refine sq (fun hc=>?_) (fun hc=>?_)<;>try exact hc.elim)|fail
     all_goals (try (refine ⟨.inr rfl,?_⟩;simp [Hands,Tryz.results223,jB]))
   ·have hr:bG s=(⟨0,[]⟩,false):=vX fun j _ _=>hf j fun h=>hp h.1
    rw [hr]
    rw [decide_eq_false hp] at hC
    clear hr hf ht hn
    subst hw
    have hp2:s.length≤p:=by omega
    have W:=And.intro hp hp2
    repeat' first|refine we ?_|(refine sq (fun hc=>?_) (fun hc=>?_)<;>try exact hc.elim)|fail
    all_goals (try (refine ⟨.inr rfl,?_⟩;simp [Hands,Tryz.results223,jB]))
  ·have hx:=hf 4 fun h=>hw h.2
   have hb:(([108,111,111,107]:Str) == word)=false:=by simpa using fun h=>hw h.symm
   have hw2:¬[108,111,111,107]=word:=fun h=>hw h.symm
   clear hf ht
   have W:=And.intro hw (And.intro hw2 hb)
   repeat' first|refine we ?_|(refine sq (fun hc=>?_) (fun hc=>?_)<;>try exact hc.elim)|fail
   exact hK1 _ ⟨5,by omega,jY hn hx⟩ (aH (by simp) (by simp)) (by simp only;omega)
 ·by_cases hw:word=[115,97,121]
  ·by_cases hp:p < s.length
   ·have hr:bG s=(⟨5,text⟩,dX 5 text):=by simp [bG,hn 1 (by omega) (by omega),hn 2 (by omega) (by omega),hn 3 (by omega) (by omega),hn 4 (by omega) (by omega),ht 5 hp hw]
    rw [hr]
    rw [decide_eq_true hp] at hC
    clear hr hf ht hn
    subst hw
    by_cases h3:(text.length:Int)≤60
    ·have hg:dX 5 text=true:=by simp [dX,wM];omega
     have h4:¬(60:Int) < (text.length:Int):=by omega
     rw [hg]
     have W:=And.intro hp (And.intro h3 h4)
     repeat' first|refine we ?_|(refine sq (fun hc=>?_) (fun hc=>?_)<;>try exact hc.elim)|fail
     all_goals (try (refine ⟨.inr rfl,?_⟩;simp [Hands,Tryz.results223,jB]))
    ·have hg:dX 5 text=false:=by simp [dX,wM];omega
     have h4:(60:Int) < (text.length:Int):=by omega
     rw [hg]
     have W:=And.intro hp (And.intro h3 h4)
     repeat' first|refine we ?_|(refine sq (fun hc=>?_) (fun hc=>?_)<;>try exact hc.elim)|fail
     all_goals (try (refine ⟨.inr rfl,?_⟩;simp [Hands,Tryz.results223,jB]))
   ·have hr:bG s=(⟨0,[]⟩,false):=vX fun j _ _=>hf j fun h=>hp h.1
    rw [hr]
    rw [decide_eq_false hp] at hC
    clear hr hf ht hn
    subst hw
    have hp2:s.length≤p:=by omega
    have W:=And.intro hp hp2
    repeat' first|refine we ?_|(refine sq (fun hc=>?_) (fun hc=>?_)<;>try exact hc.elim)|fail
    all_goals (try (refine ⟨.inr rfl,?_⟩;simp [Hands,Tryz.results223,jB]))
  ·have hx:=hf 5 fun h=>hw h.2
   have hb:(([115,97,121]:Str) == word)=false:=by simpa using fun h=>hw h.symm
   have hw2:¬[115,97,121]=word:=fun h=>hw h.symm
   clear hf ht
   have W:=And.intro hw (And.intro hw2 hb)
   repeat' first|refine we ?_|(refine sq (fun hc=>?_) (fun hc=>?_)<;>try exact hc.elim)|fail
   exact hK1 _ ⟨6,by omega,jY hn hx⟩ (aH (by simp) (by simp)) (by simp only;omega)
 ·have hr:bG s=(⟨0,[]⟩,false):=vX fun j h1 h2=>hn j h1 h2
  rw [hr]
  clear hr hf ht hn
  have W:=trivial
  repeat' first|refine we ?_|(refine sq (fun hc=>?_) (fun hc=>?_)<;>try exact hc.elim)|fail
  all_goals (try (refine ⟨.inr rfl,?_⟩;simp [Hands,Tryz.results223,jB]))
theorem aGz (c:UInt8):∀s:Str,∀p∈bH c s,p.length≤s.length
 |[],p,h=>by
  simp only [bH,List.mem_singleton] at h;subst h;simp
 |x::s,p,h=>by
  have ih:=aGz c s
  simp only [bH] at h
  split at h
  ·rcases List.mem_cons.1 h with rfl|h
   ·simp
   ·have:=ih p h;simp;omega
  ·split at h
   ·rename_i h0;exact absurd h0 (uC c s)
   ·rename_i q r h0
    rw [h0] at ih
    rcases List.mem_cons.1 h with rfl|h
    ·have:=ih q (by simp);simp;omega
    ·have:=ih p (by simp [h]);simp;omega
def eO (s:Str):List fI×Bool:=
 if s=[] then ([],true) else if ((bH 59 s).all fun p=>(bG p).2)=true∧(bH 59 s).length≤6 then ((bH 59 s).map fun p=>(bG p).1,true) else ([],false)
theorem aLc {s:Str} {k:Nat} (h0:s≠[]) (hk:k < (bH 59 s).length) (h:(bG (bH 59 s)[k]).2=false):eO s=([],false):=by
 unfold eO
 rw [if_neg h0,if_neg]
 rintro ⟨h1,_⟩
 have:=List.all_eq_true.1 h1 _ (List.getElem_mem hk)
 rw [h] at this;cases this
theorem aIa {s:Str} (h0:s≠[]) (h:6 < (bH 59 s).length):eO s=([],false):=by
 unfold eO
 rw [if_neg h0,if_neg]
 rintro ⟨_,h1⟩
 omega
theorem aHm {s:Str} (h0:s≠[]) (h1:∀p∈bH 59 s,(bG p).2=true) (h2:(bH 59 s).length≤6):eO s=((bH 59 s).map fun p=>(bG p).1,true):=by
 unfold eO
 rw [if_neg h0,if_pos ⟨List.all_eq_true.2 h1,h2⟩]
theorem aOl {l:List Str} {k:Nat} (hk:k < l.length) (h:∀p∈l.take k,(bG p).2=true) (h1:(bG l[k]).2=true):∀p∈l.take (k+1),(bG p).2=true:=by
 intro p hp
 rw [List.take_succ_eq_append_getElem hk] at hp
 rcases List.mem_append.1 hp with hp|hp
 ·exact h p hp
 ·rw [List.mem_singleton.1 hp];exact h1
theorem aSh {α β:Type} (f:α→β) (l:List α) (k:Nat) (h:k < l.length):(l.take (k+1)).map f=(l.take k).map f++[f l[k]]:=by
 rw [List.take_succ_eq_append_getElem h,List.map_append];rfl
def eSp (p:Str):List AV:=fU (bG p).1
theorem aWf (l:List Str):(l.map fun p=>(bG p).1).map fU=l.map eSp:=by rw [List.map_map];rfl
theorem yY [aA Tryz.prog] [dG Tryz.prog] (s:Str) (hl:s.length≤1073741824):Ok Tryz.prog 150 [.str s] (.tup [.sl .own 2 ((eO s).1.map fU),.bool (eO s).2]):=by
 by_cases h0:s=[]
 ·subst h0
  have hr:eO []=([],true):=rfl
  rw [hr]
  refine ent Tryz.mix Tryz.func150 Tryz.ntmps150 ?_
  have W:=trivial
  repeat' first|refine we ?_|(refine sq (fun hc=>?_) (fun hc=>?_)<;>try exact hc.elim)|fail
  all_goals (try (refine ⟨.inr rfl,?_⟩;simp [Hands,Tryz.results150]))
 ·have cS:Ok Tryz.prog 136 [.str s,.int .u8 59] (.sl .own 1 ((bH 59 s).map bU)):=tV s 59 (by omega)
  have hb0:(s == ([]:Str))=false:=by simp [h0]
  have hle:=aGz 59 s
  have hn:=iP 59 s
  have hcn:s.count 59≤s.length:=List.count_le_length
  have hb:=fun k hk=>aLc (k:=k) h0 hk
  have hlg:=aIa h0
  have hgd:=aHm h0
  have hne:=uC 59 s
  generalize bH 59 s=l at *
  have hll:l.length≤1073741825:=by omega
  have hl0:0 < l.length:=List.length_pos_iff.2 hne
  generalize eO s=g at *
  refine ent Tryz.mix Tryz.func150 Tryz.ntmps150 ?_
  have W:=And.intro h0 hb0
  repeat' first|refine we ?_|(refine sq (fun hc=>?_) (fun hc=>?_)<;>try exact hc.elim)|fail
  refine aM (ι:={q:Nat×Nat // (q.1≤l.length∧1≤q.2)∧(∀p∈l.take q.1,(bG p).2=true)∧(0 < q.1→l.length≤6)}) (fun t o i=>⟨aO t [(6,.int .i64 i.1.1),(4,.obj 0 i.1.2),(7,.undef),(8,.undef)],[⟨true,false,2,i.1.2,(l.take i.1.1).map eSp⟩]++o.drop 1⟩)
   (fun i=>l.length - i.1.1) ⟨(0,1),by simp,by simp,by simp⟩ (aH (by simp) (by simp)) ?_
  rintro ⟨⟨k,v⟩,⟨hk,hv⟩,hgood,hsix⟩ K1 hK1
  simp only at hk hv hgood hsix
  simp only [aO,List.set_cons_succ,List.set_cons_zero,List.drop_succ_cons,List.drop_zero,List.cons_append,List.nil_append] at hK1⊢
  have hk1:IntKind.i64.wrap ((k:Int)+1)=((k+1:Nat):Int):=by rw [wrap64]<;>omega
  by_cases hlt:k < l.length
  ·have hg:=List.getElem?_eq_getElem hlt
   have c1:=aYn l[k] (by have:=hle _ (List.getElem_mem hlt);omega)
   have hps:=aSh eSp l k hlt
   have hx:eSp l[k]=fU (bG l[k]).1:=rfl
   have hgl:((l.take k).map eSp).length=k:=by simp;omega
   have hbk:=hb k hlt
   have hgk:=aOl hlt hgood
   simp only [fU] at c1
   generalize (l.take k).map eSp=rows at *
   generalize bG l[k]=x at *
   obtain ⟨x,ok⟩:=x
   simp only [fU] at c1 hbk hgk hps hx
   rw [hx] at hps
   cases ok with
   |false=>
    have hr:=hbk rfl
    subst hr
    have W:=And.intro hk1 (And.intro hg hlt)
    repeat' first|refine we ?_|(refine sq (fun hc=>?_) (fun hc=>?_)<;>try exact hc.elim)|fail
    all_goals (try (refine ⟨.inr rfl,?_⟩;simp [Hands,Tryz.results150]))
   |true=>
    by_cases h6:6 < l.length
    ·have hr:=hlg h6
     subst hr
     have h6i:(6:Int) < (l.length:Int):=by omega
     have W:=And.intro hk1 (And.intro hg (And.intro hlt h6i))
     repeat' first|refine we ?_|(refine sq (fun hc=>?_) (fun hc=>?_)<;>try exact hc.elim)|fail
     all_goals (try (refine ⟨.inr rfl,?_⟩;simp [Hands,Tryz.results150]))
    ·have h6i:¬(6:Int) < (l.length:Int):=by omega
     have W:=And.intro hk1 (And.intro hg (And.intro hlt (And.intro hgl h6i)))
     repeat' first|refine we ?_|(refine sq (fun hc=>?_) (fun hc=>?_)<;>try exact hc.elim)|fail
     all_goals exact hK1 _ ⟨(k+1,v+1),⟨by simp only;omega,by simp only;omega⟩,hgk rfl,fun _=>by omega⟩ (aQ 2 (by simp [hps]) (by simp) (by simp) (by simp)) (by simp only;omega)
  ·have htk:l.take k=l:=List.take_of_length_le (by omega)
   rw [htk] at hgood⊢
   have hr:=hgd hgood (hsix (by omega))
   subst hr
   simp only [aWf]
   have W:=hk1
   repeat' first|refine we ?_|(refine sq (fun hc=>?_) (fun hc=>?_)<;>try exact hc.elim)|fail
   all_goals (try (refine ⟨.inr rfl,?_⟩;simp [Hands,Tryz.results150]))
   all_goals exact dJ _ (by intro x;rfl) l
theorem aTk [aA Tryz.prog] [dG Tryz.prog] (s:Str) (c:UInt8) (hs:s.length < 4294967281):Ok Tryz.prog 123 [.str s,.str [c]] (.sl .own 1 ((bH c s).map bU)):=aQz Tryz.laysM146 (by kernel_rfl) s c hs
theorem yT [aA Tryz.prog] [dG Tryz.prog] (s:Str) (hl:s.length≤1073741824):Ok Tryz.prog 165 [.str s] (.tup [.sl .own 2 ((eO s).1.map fU),.bool (eO s).2]):=by
 by_cases h0:s=[]
 ·subst h0
  have hr:eO []=([],true):=rfl
  rw [hr]
  refine ent Tryz.mix Tryz.func165 Tryz.ntmps165 ?_
  have W:=trivial
  repeat' first|refine we ?_|(refine sq (fun hc=>?_) (fun hc=>?_)<;>try exact hc.elim)|fail
  all_goals (try (refine ⟨.inr rfl,?_⟩;simp [Hands,Tryz.results165]))
 ·have cS:=aTk s 59 (by omega)
  have hb0:(s == ([]:Str))=false:=by simp [h0]
  have hle:=aGz 59 s
  have hn:=iP 59 s
  have hcn:s.count 59≤s.length:=List.count_le_length
  have hb:=fun k hk=>aLc (k:=k) h0 hk
  have hlg:=aIa h0
  have hgd:=aHm h0
  have hne:=uC 59 s
  generalize bH 59 s=l at *
  have hll:l.length≤1073741825:=by omega
  have hl0:0 < l.length:=List.length_pos_iff.2 hne
  generalize eO s=g at *
  refine ent Tryz.mix Tryz.func165 Tryz.ntmps165 ?_
  have W:=And.intro h0 hb0
  repeat' first|refine we ?_|(refine sq (fun hc=>?_) (fun hc=>?_)<;>try exact hc.elim)|fail
  refine aM (ι:={q:Nat×Nat // (q.1≤l.length∧1≤q.2)∧(∀p∈l.take q.1,(bG p).2=true)∧q.1≤6}) (fun t o i=>⟨aO t [(16,.int .i64 i.1.1),(4,.obj 0 i.1.2),(6,.undef),(7,.undef),(8,.undef)],[⟨true,false,2,i.1.2,(l.take i.1.1).map eSp⟩]++o.drop 1⟩)
   (fun i=>l.length - i.1.1) ⟨(0,1),by simp,by simp,by simp⟩ (aH (by simp) (by simp)) ?_
  rintro ⟨⟨k,v⟩,⟨hk,hv⟩,hgood,hsix⟩ K1 hK1
  simp only at hk hv hgood hsix
  simp only [aO,List.set_cons_succ,List.set_cons_zero,List.drop_succ_cons,List.drop_zero,List.cons_append,List.nil_append] at hK1⊢
  have hk1:IntKind.i64.wrap ((k:Int)+1)=((k+1:Nat):Int):=by rw [wrap64]<;>omega
  by_cases hlt:k < l.length
  ·have hg:=List.getElem?_eq_getElem hlt
   have c1:=aTf l[k] (by have:=hle _ (List.getElem_mem hlt);omega)
   have hps:=aSh eSp l k hlt
   have hx:eSp l[k]=fU (bG l[k]).1:=rfl
   have hgl:((l.take k).map eSp).length=k:=by simp;omega
   have hbk:=hb k hlt
   have hgk:=aOl hlt hgood
   simp only [fU] at c1
   generalize (l.take k).map eSp=rows at *
   generalize bG l[k]=x at *
   obtain ⟨x,ok⟩:=x
   simp only [fU] at hbk hgk hps hx
   rw [hx] at hps
   cases ok with
   |false=>
    have hr:=hbk rfl
    subst hr
    simp only [jB,fU,Bool.false_eq_true,if_false] at c1
    have W:=And.intro hk1 (And.intro hg hlt)
    repeat' first|refine we ?_|(refine sq (fun hc=>?_) (fun hc=>?_)<;>try exact hc.elim)|fail
    all_goals (try (refine ⟨.inr rfl,?_⟩;simp [Hands,Tryz.results165]))
   |true=>
    simp only [jB,fU,if_true] at c1
    by_cases h6:k=6
    ·have hr:=hlg (by omega)
     subst hr
     have h6b:((k:Int) == 6)=true:=by simp;omega
     clear h6
     have W:=And.intro hk1 (And.intro hg (And.intro hlt (And.intro hgl h6b)))
     repeat' first|refine we ?_|(refine sq (fun hc=>?_) (fun hc=>?_)<;>try exact hc.elim)|fail
     all_goals (try (refine ⟨.inr rfl,?_⟩;simp [Hands,Tryz.results165]))
    ·have h6i:¬(k:Int)=6:=by omega
     have h6b:((k:Int) == 6)=false:=by simpa using h6i
     have W:=And.intro hk1 (And.intro hg (And.intro hlt (And.intro hgl (And.intro h6i h6b))))
     repeat' first|refine we ?_|(refine sq (fun hc=>?_) (fun hc=>?_)<;>try exact hc.elim)|fail
     all_goals exact hK1 _ ⟨(k+1,v+1),⟨by simp only;omega,by simp only;omega⟩,hgk rfl,by simp only;omega⟩ (aQ 2 (by simp [hps]) (by simp) (by simp) (by simp)) (by simp only;omega)
  ·have htk:l.take k=l:=List.take_of_length_le (by omega)
   rw [htk] at hgood⊢
   have hr:=hgd hgood (by omega)
   subst hr
   simp only [aWf]
   have W:=hk1
   repeat' first|refine we ?_|(refine sq (fun hc=>?_) (fun hc=>?_)<;>try exact hc.elim)|fail
   all_goals (try (refine ⟨.inr rfl,?_⟩;simp [Hands,Tryz.results165]))
   all_goals exact dJ _ (by intro x;rfl) l
end Go.Proofs.YtlnblmmohpcceaaGreatDoor
