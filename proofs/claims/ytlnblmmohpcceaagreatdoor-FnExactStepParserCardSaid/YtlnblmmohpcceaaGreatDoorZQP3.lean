/- Proved here: steps towards the statement of this claim. No condition. -/
import Derived.Test.YtlnblmmohpcceaaGreatDoorZQR7
set_option linter.all false
set_option maxRecDepth 4000
set_option maxHeartbeats 4000000
namespace Go.Proofs.YtlnblmmohpcceaaGreatDoor
open Go.Aw Proofs.Tryz List IntKind
theorem YA [aD prog]:Ok prog 268 [.int .i64 1] (.str [119,114,105,116,101]):=by
 have c0:=kX 1 1 5
 simp only [Int.reduceLE,decide_true,Bool.and_self] at c0
 refine bR aAc func268 ntmps268 ?_
 have W:=trivial
 repeat' first|refine we ?_|(refine sq ?_ ?_<;>intro hc<;>try exact hc.elim)|fail
 all_goals try(refine ⟨.inr rfl,?_⟩;simp [aB,results268])
theorem YB [aD prog]:Ok prog 268 [.int .i64 2] (.str [97,100,100]):=by
 have c0:=kX 2 1 5
 simp only [Int.reduceLE,decide_true,Bool.and_self] at c0
 refine bR aAc func268 ntmps268 ?_
 have W:=trivial
 repeat' first|refine we ?_|(refine sq ?_ ?_<;>intro hc<;>try exact hc.elim)|fail
 all_goals try(refine ⟨.inr rfl,?_⟩;simp [aB,results268])
theorem YC [aD prog]:Ok prog 268 [.int .i64 3] (.str [99,111,117,110,116]):=by
 have c0:=kX 3 1 5
 simp only [Int.reduceLE,decide_true,Bool.and_self] at c0
 refine bR aAc func268 ntmps268 ?_
 have W:=trivial
 repeat' first|refine we ?_|(refine sq ?_ ?_<;>intro hc<;>try exact hc.elim)|fail
 all_goals try(refine ⟨.inr rfl,?_⟩;simp [aB,results268])
theorem YD [aD prog]:Ok prog 268 [.int .i64 4] (.str [108,111,111,107]):=by
 have c0:=kX 4 1 5
 simp only [Int.reduceLE,decide_true,Bool.and_self] at c0
 refine bR aAc func268 ntmps268 ?_
 have W:=trivial
 repeat' first|refine we ?_|(refine sq ?_ ?_<;>intro hc<;>try exact hc.elim)|fail
 all_goals try(refine ⟨.inr rfl,?_⟩;simp [aB,results268])
theorem YE [aD prog]:Ok prog 268 [.int .i64 5] (.str [115,97,121]):=by
 have c0:=kX 5 1 5
 simp only [Int.reduceLE,decide_true,Bool.and_self] at c0
 refine bR aAc func268 ntmps268 ?_
 have W:=trivial
 repeat' first|refine we ?_|(refine sq ?_ ?_<;>intro hc<;>try exact hc.elim)|fail
 all_goals try(refine ⟨.inr rfl,?_⟩;simp [aB,results268])
theorem aL1 (op:Nat):∀x∈wd op,x≠32:=by
 have h:(wd op).all (fun x=>decide (x≠32))=true:=by
  unfold wd
  split<;>decide
 intro x hx
 simpa using all_eq_true.1 h x hx
theorem aDz {s:bC} {op:Nat} (hk:gG 32 s < s.length) (hw:s.take (gG 32 s)=wd op):jO s op=some (⟨op,s.drop (gG 32 s+1)⟩,fZ op (s.drop (gG 32 s+1))):=by
 have hL:(wd op).length=gG 32 s:=by rw [<-hw];simp;omega
 have h2:s.take ((wd op).length+1)=wd op++[32]:=by
  rw [hL,take_succ_eq_append_getElem hk,hw,ZC hk]
 rw [vM (by omega) h2,hL]
theorem aD0 {s:bC} {op:Nat} (h:¬(gG 32 s < s.length/\s.take (gG 32 s)=wd op)):jO s op=none:=by
 refine mU fun ⟨h1,h2⟩=>h ?_
 have hlt:(wd op).length < s.length:=by omega
 have ht:s.take (wd op).length=wd op:=by
  have:=congrArg (take (wd op).length) h2
  simpa [take_take] using this
 have hg:s[(wd op).length]=32:=by
  have:=congrArg (fun l=>l[(wd op).length]?) h2
  simp only [getElem?_append_right (Nat.le_refl _),Nat.sub_self,getElem?_cons_zero] at this
  rw [getElem?_take,if_pos (by omega),getElem?_eq_getElem hlt] at this
  exact Option.some.inj this
 have hi:gG 32 s=(wd op).length:=XK hlt hg (by rw [ht];exact aL1 op)
 rw [hi]
 exact ⟨hlt,ht⟩
theorem yL {s:bC} (h:∀j,1<=j->j < 6->jO s j=none):bS s=(⟨0,[]⟩,false):=by
 simp [bS,h 1 (by omega) (by omega),h 2 (by omega) (by omega),h 3 (by omega) (by omega),h 4 (by omega) (by omega),h 5 (by omega) (by omega)]
def kC (p:iG×Bool):iG:=if p.2=true then p.1 else ⟨0,[]⟩
theorem TF [aD prog] (s:bC) (hl:s.length<=1099511627776):Ok prog 223 [.str s] (.gV [.agg (jL (kC (bS s))),.bool (bS s).2]):=by
 have hC:=vW s 32 (by omega)
 have hle:=qW 32 s
 have c1:=YA
 have c2:=YB
 have c3:=YC
 have c4:=YD
 have c5:=YE
 have cN:=gJ (s.drop (gG 32 s+1)) (by simp;omega)
 have ht:∀op,gG 32 s < s.length->s.take (gG 32 s)=wd op->jO s op=some (⟨op,s.drop (gG 32 s+1)⟩,fZ op (s.drop (gG 32 s+1))):=fun op=>aDz
 have hf:∀op,¬(gG 32 s < s.length/\s.take (gG 32 s)=wd op)->jO s op=none:=fun op=>aD0
 generalize gG 32 s=p at *
 generalize aS1:s.take p=word at *
 generalize aL2:s.drop (p+1)=text at *
 have htl:text.length<=s.length:=by rw [<-aL2];simp
 refine bR aAc func223 ntmps223 ?_
 have W:=trivial
 repeat' first|refine we ?_|(refine sq ?_ ?_<;>intro hc<;>try exact hc.elim)|fail
 refine aJ (ι:={i:Nat // (1<=i/\i<=6)/\∀j,1<=j->j < i->jO s j=none}) (fun t o i=>⟨aZ t [(7,.int .i64 i.1),(8,.undef)],o⟩) (fun i=>6 - i.1) ⟨1,by simp,fun j h1 h2=>by omega⟩ (aI (by simp) (by simp)) ?_
 rintro ⟨k,⟨hk,hk6⟩,hn⟩ K1 hK1
 try simp only at hk hk6 hn
 simp only [aZ,set_cons_succ,set_cons_zero] at hK1⊢
 obtain rfl|rfl|rfl|rfl|rfl|rfl:k=1\/k=2\/k=3\/k=4\/k=5\/k=6:=by omega
 ·by_cases hw:word=[119,114,105,116,101]
  ·by_cases hp:p < s.length
   ·have hr:bS s=(⟨1,text⟩,fZ 1 text):=by simp [bS,ht 1 hp hw]
    rw [hr]
    rw [decide_eq_true hp] at hC
    clear hr hf ht hn
    subst hw
    by_cases h3:(text.length:Int)<=60
    ·have hg:fZ 1 text=true:=by simp [fZ,BX];omega
     have h4:¬(60:Int) < (text.length:Int):=by omega
     rw [hg]
     have W:=aA hp (aA h3 h4)
     repeat' first|refine we ?_|(refine sq ?_ ?_<;>intro hc<;>try exact hc.elim)|fail
     all_goals try(refine ⟨.inr rfl,?_⟩;simp [aB,results223,kC])
    ·have hg:fZ 1 text=false:=by simp [fZ,BX];omega
     have h4:(60:Int) < (text.length:Int):=by omega
     rw [hg]
     have W:=aA hp (aA h3 h4)
     repeat' first|refine we ?_|(refine sq ?_ ?_<;>intro hc<;>try exact hc.elim)|fail
     all_goals try(refine ⟨.inr rfl,?_⟩;simp [aB,results223,kC])
   ·have hr:bS s=(⟨0,[]⟩,false):=yL fun j _ _=>hf j fun h=>hp h.1
    rw [hr]
    rw [decide_eq_false hp] at hC
    clear hr hf ht hn
    subst hw
    have QM:s.length<=p:=by omega
    have W:=aA hp QM
    repeat' first|refine we ?_|(refine sq ?_ ?_<;>intro hc<;>try exact hc.elim)|fail
    all_goals try(refine ⟨.inr rfl,?_⟩;simp [aB,results223,kC])
  ·have hx:=hf 1 fun h=>hw h.2
   have hb:(([119,114,105,116,101]:bC) == word)=false:=by simpa using fun h=>hw h.symm
   have hw2:¬[119,114,105,116,101]=word:=fun h=>hw h.symm
   clear hf ht
   have W:=aA hw (aA hw2 hb)
   repeat' first|refine we ?_|(refine sq ?_ ?_<;>intro hc<;>try exact hc.elim)|fail
   exact hK1 _ ⟨2,by omega,kY hn hx⟩ (aI (by simp) (by simp)) (by simp only;omega)
 ·by_cases hw:word=[97,100,100]
  ·by_cases hp:p < s.length
   ·have hr:bS s=(⟨2,text⟩,fZ 2 text):=by simp [bS,hn 1 (by omega) (by omega),ht 2 hp hw]
    rw [hr]
    rw [decide_eq_true hp] at hC
    clear hr hf ht hn
    subst hw
    have hg:fZ 2 text=dJ text:=rfl
    rw [hg]
    generalize dJ text=b at *
    cases b
    ·have W:=hp
     repeat' first|refine we ?_|(refine sq ?_ ?_<;>intro hc<;>try exact hc.elim)|fail
     all_goals try(refine ⟨.inr rfl,?_⟩;simp [aB,results223,kC])
    ·have W:=hp
     repeat' first|refine we ?_|(refine sq ?_ ?_<;>intro hc<;>try exact hc.elim)|fail
     all_goals try(refine ⟨.inr rfl,?_⟩;simp [aB,results223,kC])
   ·have hr:bS s=(⟨0,[]⟩,false):=yL fun j _ _=>hf j fun h=>hp h.1
    rw [hr]
    rw [decide_eq_false hp] at hC
    clear hr hf ht hn
    subst hw
    have QM:s.length<=p:=by omega
    have W:=aA hp QM
    repeat' first|refine we ?_|(refine sq ?_ ?_<;>intro hc<;>try exact hc.elim)|fail
    all_goals try(refine ⟨.inr rfl,?_⟩;simp [aB,results223,kC])
  ·have hx:=hf 2 fun h=>hw h.2
   have hb:(([97,100,100]:bC) == word)=false:=by simpa using fun h=>hw h.symm
   have hw2:¬[97,100,100]=word:=fun h=>hw h.symm
   clear hf ht
   have W:=aA hw (aA hw2 hb)
   repeat' first|refine we ?_|(refine sq ?_ ?_<;>intro hc<;>try exact hc.elim)|fail
   exact hK1 _ ⟨3,by omega,kY hn hx⟩ (aI (by simp) (by simp)) (by simp only;omega)
 ·by_cases hw:word=[99,111,117,110,116]
  ·by_cases hp:p < s.length
   ·have hr:bS s=(⟨3,text⟩,fZ 3 text):=by simp [bS,hn 1 (by omega) (by omega),hn 2 (by omega) (by omega),ht 3 hp hw]
    rw [hr]
    rw [decide_eq_true hp] at hC
    clear hr hf ht hn
    subst hw
    have hg:fZ 3 text=dJ text:=rfl
    rw [hg]
    generalize dJ text=b at *
    cases b
    ·have W:=hp
     repeat' first|refine we ?_|(refine sq ?_ ?_<;>intro hc<;>try exact hc.elim)|fail
     all_goals try(refine ⟨.inr rfl,?_⟩;simp [aB,results223,kC])
    ·have W:=hp
     repeat' first|refine we ?_|(refine sq ?_ ?_<;>intro hc<;>try exact hc.elim)|fail
     all_goals try(refine ⟨.inr rfl,?_⟩;simp [aB,results223,kC])
   ·have hr:bS s=(⟨0,[]⟩,false):=yL fun j _ _=>hf j fun h=>hp h.1
    rw [hr]
    rw [decide_eq_false hp] at hC
    clear hr hf ht hn
    subst hw
    have QM:s.length<=p:=by omega
    have W:=aA hp QM
    repeat' first|refine we ?_|(refine sq ?_ ?_<;>intro hc<;>try exact hc.elim)|fail
    all_goals try(refine ⟨.inr rfl,?_⟩;simp [aB,results223,kC])
  ·have hx:=hf 3 fun h=>hw h.2
   have hb:(([99,111,117,110,116]:bC) == word)=false:=by simpa using fun h=>hw h.symm
   have hw2:¬[99,111,117,110,116]=word:=fun h=>hw h.symm
   clear hf ht
   have W:=aA hw (aA hw2 hb)
   repeat' first|refine we ?_|(refine sq ?_ ?_<;>intro hc<;>try exact hc.elim)|fail
   exact hK1 _ ⟨4,by omega,kY hn hx⟩ (aI (by simp) (by simp)) (by simp only;omega)
 ·by_cases hw:word=[108,111,111,107]
  ·by_cases hp:p < s.length
   ·have hr:bS s=(⟨4,text⟩,fZ 4 text):=by simp [bS,hn 1 (by omega) (by omega),hn 2 (by omega) (by omega),hn 3 (by omega) (by omega),ht 4 hp hw]
    rw [hr]
    rw [decide_eq_true hp] at hC
    clear hr hf ht hn
    subst hw
    have hg:fZ 4 text=dJ text:=rfl
    rw [hg]
    generalize dJ text=b at *
    cases b
    ·have W:=hp
     repeat' first|refine we ?_|(refine sq ?_ ?_<;>intro hc<;>try exact hc.elim)|fail
     all_goals try(refine ⟨.inr rfl,?_⟩;simp [aB,results223,kC])
    ·have W:=hp
     repeat' first|refine we ?_|(refine sq ?_ ?_<;>intro hc<;>try exact hc.elim)|fail
     all_goals try(refine ⟨.inr rfl,?_⟩;simp [aB,results223,kC])
   ·have hr:bS s=(⟨0,[]⟩,false):=yL fun j _ _=>hf j fun h=>hp h.1
    rw [hr]
    rw [decide_eq_false hp] at hC
    clear hr hf ht hn
    subst hw
    have QM:s.length<=p:=by omega
    have W:=aA hp QM
    repeat' first|refine we ?_|(refine sq ?_ ?_<;>intro hc<;>try exact hc.elim)|fail
    all_goals try(refine ⟨.inr rfl,?_⟩;simp [aB,results223,kC])
  ·have hx:=hf 4 fun h=>hw h.2
   have hb:(([108,111,111,107]:bC) == word)=false:=by simpa using fun h=>hw h.symm
   have hw2:¬[108,111,111,107]=word:=fun h=>hw h.symm
   clear hf ht
   have W:=aA hw (aA hw2 hb)
   repeat' first|refine we ?_|(refine sq ?_ ?_<;>intro hc<;>try exact hc.elim)|fail
   exact hK1 _ ⟨5,by omega,kY hn hx⟩ (aI (by simp) (by simp)) (by simp only;omega)
 ·by_cases hw:word=[115,97,121]
  ·by_cases hp:p < s.length
   ·have hr:bS s=(⟨5,text⟩,fZ 5 text):=by simp [bS,hn 1 (by omega) (by omega),hn 2 (by omega) (by omega),hn 3 (by omega) (by omega),hn 4 (by omega) (by omega),ht 5 hp hw]
    rw [hr]
    rw [decide_eq_true hp] at hC
    clear hr hf ht hn
    subst hw
    by_cases h3:(text.length:Int)<=60
    ·have hg:fZ 5 text=true:=by simp [fZ,BX];omega
     have h4:¬(60:Int) < (text.length:Int):=by omega
     rw [hg]
     have W:=aA hp (aA h3 h4)
     repeat' first|refine we ?_|(refine sq ?_ ?_<;>intro hc<;>try exact hc.elim)|fail
     all_goals try(refine ⟨.inr rfl,?_⟩;simp [aB,results223,kC])
    ·have hg:fZ 5 text=false:=by simp [fZ,BX];omega
     have h4:(60:Int) < (text.length:Int):=by omega
     rw [hg]
     have W:=aA hp (aA h3 h4)
     repeat' first|refine we ?_|(refine sq ?_ ?_<;>intro hc<;>try exact hc.elim)|fail
     all_goals try(refine ⟨.inr rfl,?_⟩;simp [aB,results223,kC])
   ·have hr:bS s=(⟨0,[]⟩,false):=yL fun j _ _=>hf j fun h=>hp h.1
    rw [hr]
    rw [decide_eq_false hp] at hC
    clear hr hf ht hn
    subst hw
    have QM:s.length<=p:=by omega
    have W:=aA hp QM
    repeat' first|refine we ?_|(refine sq ?_ ?_<;>intro hc<;>try exact hc.elim)|fail
    all_goals try(refine ⟨.inr rfl,?_⟩;simp [aB,results223,kC])
  ·have hx:=hf 5 fun h=>hw h.2
   have hb:(([115,97,121]:bC) == word)=false:=by simpa using fun h=>hw h.symm
   have hw2:¬[115,97,121]=word:=fun h=>hw h.symm
   clear hf ht
   have W:=aA hw (aA hw2 hb)
   repeat' first|refine we ?_|(refine sq ?_ ?_<;>intro hc<;>try exact hc.elim)|fail
   exact hK1 _ ⟨6,by omega,kY hn hx⟩ (aI (by simp) (by simp)) (by simp only;omega)
 ·have hr:bS s=(⟨0,[]⟩,false):=yL fun j h1 h2=>hn j h1 h2
  rw [hr]
  clear hr hf ht hn
  have W:=trivial
  repeat' first|refine we ?_|(refine sq ?_ ?_<;>intro hc<;>try exact hc.elim)|fail
  all_goals try(refine ⟨.inr rfl,?_⟩;simp [aB,results223,kC])
theorem LC (c:UInt8):∀s:bC,∀p∈eF c s,p.length<=s.length
 |[],p,h=>by
  simp only [eF,mem_singleton] at h;subst h;simp
 |x::s,p,h=>by
  have ih:=LC c s
  simp only [eF] at h
  split at h
  ·rcases mem_cons.1 h with rfl|h
   ·simp
   ·have:=ih p h;simp;omega
  ·split at h
   ·rename_i h0;exact absurd h0 (xV c s)
   ·rename_i q r h0
    rw [h0] at ih
    rcases mem_cons.1 h with rfl|h
    ·have:=ih q (by simp);simp;omega
    ·have:=ih p (by simp [h]);simp;omega
def eG (s:bC):List iG×Bool:=
 if s=[] then ([],true) else if ((eF 59 s).all fun p=>(bS p).2)=true/\(eF 59 s).length<=6 then ((eF 59 s).map fun p=>(bS p).1,true) else ([],false)
theorem NU {s:bC} {k:Nat} (h0:s≠[]) (hk:k < (eF 59 s).length) (h:(bS (eF 59 s)[k]).2=false):eG s=([],false):=by
 unfold eG
 rw [if_neg h0,if_neg]
 rintro ⟨h1,_⟩
 have:=all_eq_true.1 h1 _ (getElem_mem hk)
 rw [h] at this;cases this
theorem Kq {s:bC} (h0:s≠[]) (h:6 < (eF 59 s).length):eG s=([],false):=by
 unfold eG
 rw [if_neg h0,if_neg]
 rintro ⟨_,h1⟩
 omega
theorem Kr {s:bC} (h0:s≠[]) (h1:∀p∈eF 59 s,(bS p).2=true) (h2:(eF 59 s).length<=6):eG s=((eF 59 s).map fun p=>(bS p).1,true):=by
 unfold eG
 rw [if_neg h0,if_pos ⟨all_eq_true.2 h1,h2⟩]
theorem Rt {l:List bC} {k:Nat} (hk:k < l.length) (h:∀p∈l.take k,(bS p).2=true) (h1:(bS l[k]).2=true):∀p∈l.take (k+1),(bS p).2=true:=by
 intro p hp
 rw [take_succ_eq_append_getElem hk] at hp
 rcases mem_append.1 hp with hp|hp
 ·exact h p hp
 ·rw [mem_singleton.1 hp];exact h1
theorem VT {α β:Type} (f:α->β) (l:List α) (k:Nat) (h:k < l.length):(l.take (k+1)).map f=(l.take k).map f++[f l[k]]:=by
 rw [take_succ_eq_append_getElem h,map_append];rfl
def S9 (p:bC):List AV:=jL (bS p).1
theorem ZY (l:List bC):(l.map fun p=>(bS p).1).map jL=l.map S9:=by rw [map_map];rfl
theorem yU [aD prog] [eO prog] (s:bC) (hl:s.length<=1073741824):Ok prog 150 [.str s] (.gV [.sl .own 2 ((eG s).1.map jL),.bool (eG s).2]):=by
 by_cases h0:s=[]
 ·subst h0
  have hr:eG []=([],true):=rfl
  rw [hr]
  refine bR aAc func150 ntmps150 ?_
  have W:=trivial
  repeat' first|refine we ?_|(refine sq ?_ ?_<;>intro hc<;>try exact hc.elim)|fail
  all_goals try(refine ⟨.inr rfl,?_⟩;simp [aB,results150])
 ·have cS:Ok prog 136 [.str s,.int .u8 59] (.sl .own 1 ((eF 59 s).map fF)):=vK s 59 (by omega)
  have hb0:(s == ([]:bC))=false:=by simp [h0]
  have hle:=LC 59 s
  have hn:=iV 59 s
  have hcn:s.count 59<=s.length:=count_le_length
  have hb:=fun k hk=>NU (k:=k) h0 hk
  have Xj:=Kq h0
  have hgd:=Kr h0
  have hne:=xV 59 s
  generalize eF 59 s=l at *
  have Lx:l.length<=1073741825:=by omega
  have hl0:0 < l.length:=length_pos_iff.2 hne
  generalize eG s=g at *
  refine bR aAc func150 ntmps150 ?_
  have W:=aA h0 hb0
  repeat' first|refine we ?_|(refine sq ?_ ?_<;>intro hc<;>try exact hc.elim)|fail
  refine aJ (ι:={q:Nat×Nat // (q.1<=l.length/\1<=q.2)/\(∀p∈l.take q.1,(bS p).2=true)/\(0 < q.1->l.length<=6)}) (fun t o i=>⟨aZ t [(6,.int .i64 i.1.1),(4,.obj 0 i.1.2),(7,.undef),(8,.undef)],[⟨true,false,2,i.1.2,(l.take i.1.1).map S9⟩]++o.drop 1⟩)
   (fun i=>l.length - i.1.1) ⟨(0,1),by simp,by simp,by simp⟩ (aI (by simp) (by simp)) ?_
  rintro ⟨⟨k,v⟩,⟨hk,hv⟩,hgood,aD1⟩ K1 hK1
  simp only at hk hv hgood aD1
  simp only [aZ,set_cons_succ,set_cons_zero,drop_succ_cons,drop_zero,cons_append,nil_append] at hK1⊢
  have hk1:i64.wrap ((k:Int)+1)=((k+1:Nat):Int):=by rw [wrap64]<;>omega
  by_cases hlt:k < l.length
  ·have hg:=getElem?_eq_getElem hlt
   have c1:=mq l[k] (by have:=hle _ (getElem_mem hlt);omega)
   have hps:=VT S9 l k hlt
   have hx:S9 l[k]=jL (bS l[k]).1:=rfl
   have Lt:((l.take k).map S9).length=k:=by simp;omega
   have hbk:=hb k hlt
   have Bn:=Rt hlt hgood
   simp only [jL] at c1
   generalize (l.take k).map S9=rows at *
   generalize bS l[k]=x at *
   obtain ⟨x,ok⟩:=x
   simp only [jL] at c1 hbk Bn hps hx
   rw [hx] at hps
   cases ok with
   |false=>
    have hr:=hbk rfl
    subst hr
    have W:=aA hk1 (aA hg hlt)
    repeat' first|refine we ?_|(refine sq ?_ ?_<;>intro hc<;>try exact hc.elim)|fail
    all_goals try(refine ⟨.inr rfl,?_⟩;simp [aB,results150])
   |true=>
    by_cases h6:6 < l.length
    ·have hr:=Xj h6
     subst hr
     have h6i:(6:Int) < (l.length:Int):=by omega
     have W:=aA hk1 (aA hg (aA hlt h6i))
     repeat' first|refine we ?_|(refine sq ?_ ?_<;>intro hc<;>try exact hc.elim)|fail
     all_goals try(refine ⟨.inr rfl,?_⟩;simp [aB,results150])
    ·have h6i:¬(6:Int) < (l.length:Int):=by omega
     have W:=aA hk1 (aA hg (aA hlt (aA Lt h6i)))
     repeat' first|refine we ?_|(refine sq ?_ ?_<;>intro hc<;>try exact hc.elim)|fail
     all_goals exact hK1 _ ⟨(k+1,v+1),⟨by simp only;omega,by simp only;omega⟩,Bn rfl,fun _=>by omega⟩ (aS 2 (by simp [hps]) (by simp) (by simp) (by simp)) (by simp only;omega)
  ·have htk:l.take k=l:=take_of_length_le (by omega)
   rw [htk] at hgood⊢
   have hr:=hgd hgood (aD1 (by omega))
   subst hr
   simp only [ZY]
   have W:=hk1
   repeat' first|refine we ?_|(refine sq ?_ ?_<;>intro hc<;>try exact hc.elim)|fail
   all_goals try(refine ⟨.inr rfl,?_⟩;simp [aB,results150])
   all_goals exact dQ _ (by intro x;rfl) l
theorem VU [aD prog] [eO prog] (s:bC) (c:UInt8) (hs:s.length < 4294967281):Ok prog 123 [.str s,.str [c]] (.sl .own 1 ((eF c s).map fF)):=UQ Tryz.laysM146 (by kernel_rfl) s c hs
theorem yV [aD prog] [eO prog] (s:bC) (hl:s.length<=1073741824):Ok prog 165 [.str s] (.gV [.sl .own 2 ((eG s).1.map jL),.bool (eG s).2]):=by
 by_cases h0:s=[]
 ·subst h0
  have hr:eG []=([],true):=rfl
  rw [hr]
  refine bR aAc func165 ntmps165 ?_
  have W:=trivial
  repeat' first|refine we ?_|(refine sq ?_ ?_<;>intro hc<;>try exact hc.elim)|fail
  all_goals try(refine ⟨.inr rfl,?_⟩;simp [aB,results165])
 ·have cS:=VU s 59 (by omega)
  have hb0:(s == ([]:bC))=false:=by simp [h0]
  have hle:=LC 59 s
  have hn:=iV 59 s
  have hcn:s.count 59<=s.length:=count_le_length
  have hb:=fun k hk=>NU (k:=k) h0 hk
  have Xj:=Kq h0
  have hgd:=Kr h0
  have hne:=xV 59 s
  generalize eF 59 s=l at *
  have Lx:l.length<=1073741825:=by omega
  have hl0:0 < l.length:=length_pos_iff.2 hne
  generalize eG s=g at *
  refine bR aAc func165 ntmps165 ?_
  have W:=aA h0 hb0
  repeat' first|refine we ?_|(refine sq ?_ ?_<;>intro hc<;>try exact hc.elim)|fail
  refine aJ (ι:={q:Nat×Nat // (q.1<=l.length/\1<=q.2)/\(∀p∈l.take q.1,(bS p).2=true)/\q.1<=6}) (fun t o i=>⟨aZ t [(16,.int .i64 i.1.1),(4,.obj 0 i.1.2),(6,.undef),(7,.undef),(8,.undef)],[⟨true,false,2,i.1.2,(l.take i.1.1).map S9⟩]++o.drop 1⟩)
   (fun i=>l.length - i.1.1) ⟨(0,1),by simp,by simp,by simp⟩ (aI (by simp) (by simp)) ?_
  rintro ⟨⟨k,v⟩,⟨hk,hv⟩,hgood,aD1⟩ K1 hK1
  simp only at hk hv hgood aD1
  simp only [aZ,set_cons_succ,set_cons_zero,drop_succ_cons,drop_zero,cons_append,nil_append] at hK1⊢
  have hk1:i64.wrap ((k:Int)+1)=((k+1:Nat):Int):=by rw [wrap64]<;>omega
  by_cases hlt:k < l.length
  ·have hg:=getElem?_eq_getElem hlt
   have c1:=TF l[k] (by have:=hle _ (getElem_mem hlt);omega)
   have hps:=VT S9 l k hlt
   have hx:S9 l[k]=jL (bS l[k]).1:=rfl
   have Lt:((l.take k).map S9).length=k:=by simp;omega
   have hbk:=hb k hlt
   have Bn:=Rt hlt hgood
   simp only [jL] at c1
   generalize (l.take k).map S9=rows at *
   generalize bS l[k]=x at *
   obtain ⟨x,ok⟩:=x
   simp only [jL] at hbk Bn hps hx
   rw [hx] at hps
   cases ok with
   |false=>
    have hr:=hbk rfl
    subst hr
    simp only [kC,jL,Bool.false_eq_true,if_false] at c1
    have W:=aA hk1 (aA hg hlt)
    repeat' first|refine we ?_|(refine sq ?_ ?_<;>intro hc<;>try exact hc.elim)|fail
    all_goals try(refine ⟨.inr rfl,?_⟩;simp [aB,results165])
   |true=>
    simp only [kC,jL,if_true] at c1
    by_cases h6:k=6
    ·have hr:=Xj (by omega)
     subst hr
     have h6b:((k:Int) == 6)=true:=by simp;omega
     clear h6
     have W:=aA hk1 (aA hg (aA hlt (aA Lt h6b)))
     repeat' first|refine we ?_|(refine sq ?_ ?_<;>intro hc<;>try exact hc.elim)|fail
     all_goals try(refine ⟨.inr rfl,?_⟩;simp [aB,results165])
    ·have h6i:¬(k:Int)=6:=by omega
     have h6b:((k:Int) == 6)=false:=by simpa using h6i
     have W:=aA hk1 (aA hg (aA hlt (aA Lt (aA h6i h6b))))
     repeat' first|refine we ?_|(refine sq ?_ ?_<;>intro hc<;>try exact hc.elim)|fail
     all_goals exact hK1 _ ⟨(k+1,v+1),⟨by simp only;omega,by simp only;omega⟩,Bn rfl,by simp only;omega⟩ (aS 2 (by simp [hps]) (by simp) (by simp) (by simp)) (by simp only;omega)
  ·have htk:l.take k=l:=take_of_length_le (by omega)
   rw [htk] at hgood⊢
   have hr:=hgd hgood (by omega)
   subst hr
   simp only [ZY]
   have W:=hk1
   repeat' first|refine we ?_|(refine sq ?_ ?_<;>intro hc<;>try exact hc.elim)|fail
   all_goals try(refine ⟨.inr rfl,?_⟩;simp [aB,results165])
   all_goals exact dQ _ (by intro x;rfl) l
end Go.Proofs.YtlnblmmohpcceaaGreatDoor
