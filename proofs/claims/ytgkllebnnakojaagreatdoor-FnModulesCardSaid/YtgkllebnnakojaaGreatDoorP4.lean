/-
  Proved here: steps towards the statement of this claim, text P4.
  No condition beyond what each statement spells out.
-/
import Derived.Test.YtgkllebnnakojaaGreatDoorP2
import Derived.Test.YtgkllebnnakojaaGreatDoorP3
import Derived.Test.YtgkllebnnakojaaGreatDoorF5
set_option linter.all false
set_option maxRecDepth 4000
set_option maxHeartbeats 4000000
namespace Go.Proofs.YtgkllebnnakojaaGreatDoor
open Go.Aw
theorem aBs (c:UInt8):∀s:Str,∀p∈bA c s,p.length≤s.length
 |[],p,h=>by
  simp only [bA,List.mem_singleton] at h;subst h;simp
 |x::s,p,h=>by
  have ih:=aBs c s
  simp only [bA] at h
  split at h
  ·rcases List.mem_cons.1 h with rfl|h
   ·simp
   ·have:=ih p h;simp;omega
  ·split at h
   ·rename_i h0;exact absurd h0 (kW c s)
   ·rename_i q r h0
    rw [h0] at ih
    rcases List.mem_cons.1 h with rfl|h
    ·have:=ih q (by simp);simp;omega
    ·have:=ih p (by simp [h]);simp;omega
def dY (s:Str):List uM×Bool:=
 if s=[] then ([],true) else if ((bA 59 s).all fun p=>(aY p).2)=true∧(bA 59 s).length≤6 then ((bA 59 s).map fun p=>(aY p).1,true) else ([],false)
theorem aFb {s:Str} {k:Nat} (h0:s≠[]) (hk:k < (bA 59 s).length) (h:(aY (bA 59 s)[k]).2=false):dY s=([],false):=by
 unfold dY
 rw [if_neg h0,if_neg]
 rintro ⟨h1,_⟩
 have:=List.all_eq_true.1 h1 _ (List.getElem_mem hk)
 rw [h] at this;cases this
theorem aCn {s:Str} (h0:s≠[]) (h:6 < (bA 59 s).length):dY s=([],false):=by
 unfold dY
 rw [if_neg h0,if_neg]
 rintro ⟨_,h1⟩
 omega
theorem aC0 {s:Str} (h0:s≠[]) (h1:∀p∈bA 59 s,(aY p).2=true) (h2:(bA 59 s).length≤6):dY s=((bA 59 s).map fun p=>(aY p).1,true):=by
 unfold dY
 rw [if_neg h0,if_pos ⟨List.all_eq_true.2 h1,h2⟩]
theorem aGn {l:List Str} {k:Nat} (hk:k < l.length) (h:∀p∈l.take k,(aY p).2=true) (h1:(aY l[k]).2=true):∀p∈l.take (k+1),(aY p).2=true:=by
 intro p hp
 rw [List.take_succ_eq_append_getElem hk] at hp
 rcases List.mem_append.1 hp with hp|hp
 ·exact h p hp
 ·rw [List.mem_singleton.1 hp];exact h1
theorem aJw {α β:Type} (f:α→β) (l:List α) (k:Nat) (h:k < l.length):(l.take (k+1)).map f=(l.take k).map f++[f l[k]]:=by
 rw [List.take_succ_eq_append_getElem h,List.map_append];rfl
def eSp (p:Str):List AV:=jM (aY p).1
theorem aMx (l:List Str):(l.map fun p=>(aY p).1).map jM=l.map eSp:=by rw [List.map_map];rfl
theorem aBg [aB Tryz.prog] [cO Tryz.prog] (s:Str) (hl:s.length≤1073741824):Ok Tryz.prog 98 [.str s] (.tup [.sl .own 2 ((dY s).1.map jM),.bool (dY s).2]):=by
 by_cases h0:s=[]
 ·subst h0
  have hr:dY []=([],true):=rfl
  rw [hr]
  refine ent Tryz.mix Tryz.func98 Tryz.ntmps98 ?_
  have W:=trivial
  repeat' first|refine st ?_|(refine nx ?_;first|refine se ?_|refine so ?_)|(refine cx ?_;refine sc (fun hc=>?_) (fun hc=>?_)<;>try exact hc.elim)|(refine lx ?_;refine sp (fun hc=>?_) (fun hc=>?_)<;>try exact hc.elim)|refine sx ?_ ?_|refine sy ?_ ?_|fail
  all_goals (try (refine ⟨.inr rfl,?_⟩;simp [Hands,Tryz.results98]))
 ·have cS:Ok Tryz.prog 131 [.str s,.int .u8 59] (.sl .own 1 ((bA 59 s).map bZ)):=aEo s 59 (by omega)
  have hb0:(s == ([]:Str))=false:=by simp [h0]
  have hle:=aBs 59 s
  have hn:=jX 59 s
  have hcn:s.count 59≤s.length:=List.count_le_length
  have hb:=fun k hk=>aFb (k:=k) h0 hk
  have hlg:=aCn h0
  have hgd:=aC0 h0
  have hne:=kW 59 s
  generalize bA 59 s=l at *
  have hll:l.length≤1073741825:=by omega
  have hl0:0 < l.length:=List.length_pos_iff.2 hne
  generalize dY s=g at *
  refine ent Tryz.mix Tryz.func98 Tryz.ntmps98 ?_
  have W:=And.intro h0 hb0
  repeat' first|refine st ?_|(refine nx ?_;first|refine se ?_|refine so ?_)|(refine cx ?_;refine sc (fun hc=>?_) (fun hc=>?_)<;>try exact hc.elim)|(refine lx ?_;refine sp (fun hc=>?_) (fun hc=>?_)<;>try exact hc.elim)|refine sx ?_ ?_|refine sy ?_ ?_|fail
  refine aT (ι:={q:Nat×Nat // (q.1≤l.length∧1≤q.2)∧(∀p∈l.take q.1,(aY p).2=true)∧(0 < q.1→l.length≤6)}) (fun t o i=>⟨bB t [(6,.int .i64 i.1.1),(4,.obj 0 i.1.2),(7,.undef),(8,.undef)],[⟨true,false,2,i.1.2,(l.take i.1.1).map eSp⟩]++o.drop 1⟩)
   (fun i=>l.length - i.1.1) ⟨(0,1),by simp,by simp,by simp⟩ (aI (by simp) (by simp)) ?_
  rintro ⟨⟨k,v⟩,⟨hk,hv⟩,hgood,hsix⟩ K1 hK1
  simp only at hk hv hgood hsix
  simp only [bB,List.set_cons_succ,List.set_cons_zero,List.drop_succ_cons,List.drop_zero,List.cons_append,List.nil_append] at hK1⊢
  have hk1:IntKind.i64.wrap ((k:Int)+1)=((k+1:Nat):Int):=by rw [wrap64]<;>omega
  by_cases hlt:k < l.length
  ·have hg:=List.getElem?_eq_getElem hlt
   have c1:=aQj l[k] (by have:=hle _ (List.getElem_mem hlt);omega)
   have hps:=aJw eSp l k hlt
   have hx:eSp l[k]=jM (aY l[k]).1:=rfl
   have hgl:((l.take k).map eSp).length=k:=by simp;omega
   have hbk:=hb k hlt
   have hgk:=aGn hlt hgood
   simp only [jM] at c1
   generalize (l.take k).map eSp=rows at *
   generalize aY l[k]=x at *
   obtain ⟨x,ok⟩:=x
   simp only [jM] at c1 hbk hgk hps hx
   rw [hx] at hps
   cases ok with
   |false=>
    have hr:=hbk rfl
    subst hr
    have W:=And.intro hk1 (And.intro hg hlt)
    repeat' first|refine st ?_|(refine nx ?_;first|refine se ?_|refine so ?_)|(refine cx ?_;refine sc (fun hc=>?_) (fun hc=>?_)<;>try exact hc.elim)|(refine lx ?_;refine sp (fun hc=>?_) (fun hc=>?_)<;>try exact hc.elim)|refine sx ?_ ?_|refine sy ?_ ?_|fail
    all_goals (try (refine ⟨.inr rfl,?_⟩;simp [Hands,Tryz.results98]))
   |true=>
    by_cases h6:6 < l.length
    ·have hr:=hlg h6
     subst hr
     have h6i:(6:Int) < (l.length:Int):=by omega
     have W:=And.intro hk1 (And.intro hg (And.intro hlt h6i))
     repeat' first|refine st ?_|(refine nx ?_;first|refine se ?_|refine so ?_)|(refine cx ?_;refine sc (fun hc=>?_) (fun hc=>?_)<;>try exact hc.elim)|(refine lx ?_;refine sp (fun hc=>?_) (fun hc=>?_)<;>try exact hc.elim)|refine sx ?_ ?_|refine sy ?_ ?_|fail
     all_goals (try (refine ⟨.inr rfl,?_⟩;simp [Hands,Tryz.results98]))
    ·have h6i:¬(6:Int) < (l.length:Int):=by omega
     have W:=And.intro hk1 (And.intro hg (And.intro hlt (And.intro hgl h6i)))
     repeat' first|refine st ?_|(refine nx ?_;first|refine se ?_|refine so ?_)|(refine cx ?_;refine sc (fun hc=>?_) (fun hc=>?_)<;>try exact hc.elim)|(refine lx ?_;refine sp (fun hc=>?_) (fun hc=>?_)<;>try exact hc.elim)|refine sx ?_ ?_|refine sy ?_ ?_|fail
     all_goals exact hK1 _ ⟨(k+1,v+1),⟨by simp only;omega,by simp only;omega⟩,hgk rfl,fun _=>by omega⟩ (aO 2 (by simp [hps]) (by simp) (by simp) (by simp)) (by simp only;omega)
  ·have htk:l.take k=l:=List.take_of_length_le (by omega)
   rw [htk] at hgood⊢
   have hr:=hgd hgood (hsix (by omega))
   subst hr
   simp only [aMx]
   have W:=hk1
   repeat' first|refine st ?_|(refine nx ?_;first|refine se ?_|refine so ?_)|(refine cx ?_;refine sc (fun hc=>?_) (fun hc=>?_)<;>try exact hc.elim)|(refine lx ?_;refine sp (fun hc=>?_) (fun hc=>?_)<;>try exact hc.elim)|refine sx ?_ ?_|refine sy ?_ ?_|fail
   all_goals (try (refine ⟨.inr rfl,?_⟩;simp [Hands,Tryz.results98]))
   all_goals exact bV _ (by intro x;rfl) l
theorem aKr [aB Tryz.prog] [cO Tryz.prog] (s:Str) (c:UInt8) (hs:s.length < 4294967281):Ok Tryz.prog 26 [.str s,.str [c]] (.sl .own 1 ((bA c s).map bZ)):=aTa Tryz.laysM146 (by kernel_rfl) s c hs
theorem aAg [aB Tryz.prog] [cO Tryz.prog] (s:Str) (hl:s.length≤1073741824):Ok Tryz.prog 29 [.str s] (.tup [.sl .own 2 ((dY s).1.map jM),.bool (dY s).2]):=by
 by_cases h0:s=[]
 ·subst h0
  have hr:dY []=([],true):=rfl
  rw [hr]
  refine ent Tryz.mix Tryz.func29 Tryz.ntmps29 ?_
  have W:=trivial
  repeat' first|refine st ?_|(refine nx ?_;first|refine se ?_|refine so ?_)|(refine cx ?_;refine sc (fun hc=>?_) (fun hc=>?_)<;>try exact hc.elim)|(refine lx ?_;refine sp (fun hc=>?_) (fun hc=>?_)<;>try exact hc.elim)|refine sx ?_ ?_|refine sy ?_ ?_|fail
  all_goals (try (refine ⟨.inr rfl,?_⟩;simp [Hands,Tryz.results29]))
 ·have cS:=aKr s 59 (by omega)
  have hb0:(s == ([]:Str))=false:=by simp [h0]
  have hle:=aBs 59 s
  have hn:=jX 59 s
  have hcn:s.count 59≤s.length:=List.count_le_length
  have hb:=fun k hk=>aFb (k:=k) h0 hk
  have hlg:=aCn h0
  have hgd:=aC0 h0
  have hne:=kW 59 s
  generalize bA 59 s=l at *
  have hll:l.length≤1073741825:=by omega
  have hl0:0 < l.length:=List.length_pos_iff.2 hne
  generalize dY s=g at *
  refine ent Tryz.mix Tryz.func29 Tryz.ntmps29 ?_
  have W:=And.intro h0 hb0
  repeat' first|refine st ?_|(refine nx ?_;first|refine se ?_|refine so ?_)|(refine cx ?_;refine sc (fun hc=>?_) (fun hc=>?_)<;>try exact hc.elim)|(refine lx ?_;refine sp (fun hc=>?_) (fun hc=>?_)<;>try exact hc.elim)|refine sx ?_ ?_|refine sy ?_ ?_|fail
  refine aT (ι:={q:Nat×Nat // (q.1≤l.length∧1≤q.2)∧(∀p∈l.take q.1,(aY p).2=true)∧q.1≤6}) (fun t o i=>⟨bB t [(16,.int .i64 i.1.1),(4,.obj 0 i.1.2),(6,.undef),(7,.undef),(8,.undef)],[⟨true,false,2,i.1.2,(l.take i.1.1).map eSp⟩]++o.drop 1⟩)
   (fun i=>l.length - i.1.1) ⟨(0,1),by simp,by simp,by simp⟩ (aI (by simp) (by simp)) ?_
  rintro ⟨⟨k,v⟩,⟨hk,hv⟩,hgood,hsix⟩ K1 hK1
  simp only at hk hv hgood hsix
  simp only [bB,List.set_cons_succ,List.set_cons_zero,List.drop_succ_cons,List.drop_zero,List.cons_append,List.nil_append] at hK1⊢
  have hk1:IntKind.i64.wrap ((k:Int)+1)=((k+1:Nat):Int):=by rw [wrap64]<;>omega
  by_cases hlt:k < l.length
  ·have hg:=List.getElem?_eq_getElem hlt
   have c1:=aIt l[k] (by have:=hle _ (List.getElem_mem hlt);omega)
   have hps:=aJw eSp l k hlt
   have hx:eSp l[k]=jM (aY l[k]).1:=rfl
   have hgl:((l.take k).map eSp).length=k:=by simp;omega
   have hbk:=hb k hlt
   have hgk:=aGn hlt hgood
   simp only [jM] at c1
   generalize (l.take k).map eSp=rows at *
   generalize aY l[k]=x at *
   obtain ⟨x,ok⟩:=x
   simp only [jM] at hbk hgk hps hx
   rw [hx] at hps
   cases ok with
   |false=>
    have hr:=hbk rfl
    subst hr
    simp only [fF,jM,Bool.false_eq_true,if_false] at c1
    have W:=And.intro hk1 (And.intro hg hlt)
    repeat' first|refine st ?_|(refine nx ?_;first|refine se ?_|refine so ?_)|(refine cx ?_;refine sc (fun hc=>?_) (fun hc=>?_)<;>try exact hc.elim)|(refine lx ?_;refine sp (fun hc=>?_) (fun hc=>?_)<;>try exact hc.elim)|refine sx ?_ ?_|refine sy ?_ ?_|fail
    all_goals (try (refine ⟨.inr rfl,?_⟩;simp [Hands,Tryz.results29]))
   |true=>
    simp only [fF,jM,if_true] at c1
    by_cases h6:k=6
    ·have hr:=hlg (by omega)
     subst hr
     have h6b:((k:Int) == 6)=true:=by simp;omega
     clear h6
     have W:=And.intro hk1 (And.intro hg (And.intro hlt (And.intro hgl h6b)))
     repeat' first|refine st ?_|(refine nx ?_;first|refine se ?_|refine so ?_)|(refine cx ?_;refine sc (fun hc=>?_) (fun hc=>?_)<;>try exact hc.elim)|(refine lx ?_;refine sp (fun hc=>?_) (fun hc=>?_)<;>try exact hc.elim)|refine sx ?_ ?_|refine sy ?_ ?_|fail
     all_goals (try (refine ⟨.inr rfl,?_⟩;simp [Hands,Tryz.results29]))
    ·have h6i:¬(k:Int)=6:=by omega
     have h6b:((k:Int) == 6)=false:=by simpa using h6i
     have W:=And.intro hk1 (And.intro hg (And.intro hlt (And.intro hgl (And.intro h6i h6b))))
     repeat' first|refine st ?_|(refine nx ?_;first|refine se ?_|refine so ?_)|(refine cx ?_;refine sc (fun hc=>?_) (fun hc=>?_)<;>try exact hc.elim)|(refine lx ?_;refine sp (fun hc=>?_) (fun hc=>?_)<;>try exact hc.elim)|refine sx ?_ ?_|refine sy ?_ ?_|fail
     all_goals exact hK1 _ ⟨(k+1,v+1),⟨by simp only;omega,by simp only;omega⟩,hgk rfl,by simp only;omega⟩ (aO 2 (by simp [hps]) (by simp) (by simp) (by simp)) (by simp only;omega)
  ·have htk:l.take k=l:=List.take_of_length_le (by omega)
   rw [htk] at hgood⊢
   have hr:=hgd hgood (by omega)
   subst hr
   simp only [aMx]
   have W:=hk1
   repeat' first|refine st ?_|(refine nx ?_;first|refine se ?_|refine so ?_)|(refine cx ?_;refine sc (fun hc=>?_) (fun hc=>?_)<;>try exact hc.elim)|(refine lx ?_;refine sp (fun hc=>?_) (fun hc=>?_)<;>try exact hc.elim)|refine sx ?_ ?_|refine sy ?_ ?_|fail
   all_goals (try (refine ⟨.inr rfl,?_⟩;simp [Hands,Tryz.results29]))
   all_goals exact bV _ (by intro x;rfl) l
end Go.Proofs.YtgkllebnnakojaaGreatDoor
