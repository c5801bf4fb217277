/-
  Proved here: steps towards the statement of this claim, text S1.
  No condition beyond what each statement spells out.
-/
import Derived.Test.YtgkcdgaljknohaaGreatDoorSR5
import Derived.Test.YtgkcdgaljknohaaGreatDoorF3
import Derived.Test.YtgkcdgaljknohaaGreatDoorF6
set_option linter.all false
set_option maxRecDepth 4000
set_option maxHeartbeats 4000000
namespace Go.Proofs.YtgkcdgaljknohaaGreatDoor
open Go.Aw
theorem splitS_ok [Tabs Tryz.prog] [HasMax Tryz.prog] (s:Str) (c:UInt8) (hs:s.length < 4294967281):Ok Tryz.prog 121 [.str s,.str [c]] (.sl .own 1 ((segs c s).map eStr)):=ok_split Tryz.laysM146 (by kernel_rfl) s c hs
def noTok:DToken:=⟨0,[],[],[]⟩
def wKey (w:Str):Str:=w.take (ixB 61 w)
def wVal (w:Str):Str:=w.drop (ixB 61 w+1)
def addAttrs:List Str→List DAttr→Option (List DAttr)
 |[],acc=>some acc
 |w::ws,acc=>if (decide (ixB 61 w < w.length)&&isName (wKey w)&&isValue (wVal w)&& !(findAttr acc (wKey w)).2)=true then addAttrs ws (acc++[⟨wKey w,wVal w⟩]) else none
def tagAt (w0:Str) (ws:List Str):DToken×Bool:=
 if isName w0=true∧ws.length≤4 then (match addAttrs ws [] with
  |some l=>(⟨1,w0,l,[]⟩,true)
  |none=>(noTok,false)) else (noTok,false)
def tagOf (s:Str):DToken×Bool:=
 if 60 < s.length then (noTok,false)
 else if pfx [47] s=true then (if isName (s.drop 1)=true then (⟨2,s.drop 1,[],[]⟩,true) else (noTok,false))
 else tagAt (s.take (ixB 32 s)) (if ixB 32 s < s.length then segs 32 (s.drop (ixB 32 s+1)) else [])
theorem segs_first1 (c:UInt8) (s:Str):segs c s=s.take (ixB c s)::(if ixB c s < s.length then segs c (s.drop (ixB c s+1)) else []):=by
 rw [segs_step]
 have h:=ixB_le c s
 split
 ·rfl
 ·rw [List.take_of_length_le (by omega)]
theorem tagAt_no {w0:Str} {ws:List Str} (h:¬(isName w0=true∧ws.length≤4)):tagAt w0 ws=(noTok,false):=by unfold tagAt;rw [if_neg h]
theorem tagAt_none {w0:Str} {ws:List Str} (h:addAttrs ws []=none):tagAt w0 ws=(noTok,false):=by
 unfold tagAt;rw [h];split<;>rfl
theorem tagAt_some {w0:Str} {ws:List Str} {l:List DAttr} (h1:isName w0=true) (h2:ws.length≤4) (h:addAttrs ws []=some l):tagAt w0 ws=(⟨1,w0,l,[]⟩,true):=by
 unfold tagAt;rw [h,if_pos ⟨h1,h2⟩]
theorem addAttrs_len:∀(ws:List Str) (acc l:List DAttr),addAttrs ws acc=some l→l.length=acc.length+ws.length
 |[],acc,l,h=>by simp only [addAttrs,Option.some.injEq] at h;subst h;simp
 |w::ws,acc,l,h=>by
  simp only [addAttrs] at h
  split at h
  ·have:=addAttrs_len ws _ l h
   simp at this⊢;omega
  ·cases h
theorem addAttrs_sz:∀(ws:List Str) (acc l:List DAttr),addAttrs ws acc=some l→szL szAttr l≤szL szAttr acc+sumN szStr ws
 |[],acc,l,h=>by simp only [addAttrs,Option.some.injEq] at h;subst h;simp [sumN]
 |w::ws,acc,l,h=>by
  simp only [addAttrs] at h
  split at h
  ·rename_i hc
   simp only [Bool.and_eq_true,decide_eq_true_eq] at hc
   have:=addAttrs_sz ws _ l h
   have hj:∀a b:List DAttr,sumN szAttr (a++b)=sumN szAttr a+sumN szAttr b:=by
    intro a b
    induction a with
    |nil=>simp [sumN]
    |cons x xs ih=>simp only [List.cons_append,sumN,ih];omega
   simp only [szL,hj,sumN,szAttr,wKey,wVal,List.length_append,List.length_take,List.length_drop,List.length_cons,List.length_nil,szStr] at this⊢
   omega
  ·cases h
theorem segs_sumS (c:UInt8):∀s:Str,sumN szStr (segs c s)≤s.length
 |[]=>by simp [segs,sumN,szStr]
 |x::s=>by
  have ih:=segs_sumS c s
  simp only [segs]
  split
  ·simp only [sumN,szStr,List.length_nil,List.length_cons] at ih⊢;omega
  ·split
   ·rename_i h0;exact absurd h0 (segs_ne c s)
   ·rename_i p q h0
    rw [h0] at ih
    simp only [sumN,szStr,List.length_cons] at ih⊢;omega
theorem tagOf_sz (s:Str):szToken (tagOf s).1≤s.length:=by
 have hn:szToken noTok=0:=by simp [noTok,szToken,szL,sumN]
 unfold tagOf
 split
 ·simp only [hn];omega
 ·split
  ·split
   ·simp [szToken,szL,sumN]
   ·simp only [hn];omega
  ·have hs:=segs_sumS 32 s
   rw [segs_first1] at hs
   simp only [sumN,szStr] at hs
   generalize (if ixB 32 s < s.length then segs 32 (s.drop (ixB 32 s+1)) else [])=ws at *
   unfold tagAt
   split
   ·split
    ·rename_i l hl
     have:=addAttrs_sz ws [] l hl
     simp only [szToken,szL,sumN,List.length_nil] at this⊢
     omega
    ·simp only [hn];omega
   ·simp only [hn];omega
theorem implTagOf_ok [Tabs Tryz.prog] [HasMax Tryz.prog] (s:Str) (hl:s.length≤1099511627776):Ok Tryz.prog 242 [.str s] (.tup [.agg (eToken .own (tagOf s).1),.bool (tagOf s).2]):=by
 by_cases h60:(60:Int) < (s.length:Int)
 ·have hr:tagOf s=(noTok,false):=by unfold tagOf;rw [if_pos (by omega)]
  rw [hr]
  refine entB Tryz.mix Tryz.func242 Tryz.ntmps242 ?_
  have W:=h60
  repeat' first|refine we ?_|(refine sq (fun hc=>?_) (fun hc=>?_)<;>try exact hc.elim)|fail
  all_goals (try (first|(refine ⟨.inr rfl,.inl ?_⟩;simp [Hands,Tryz.results242,noTok];done)|(refine ⟨.inr rfl,.inr (handsB_of ?_)⟩;simp [AS.rvB,AS.rvs,AS.rv,Tryz.results242,noTok];done)|(refine ⟨.inr rfl,.inl ?_⟩;simp [Hands,Tryz.results242,noTok])))
 have c0:=cutPrefix_ok s [47] hl (by simp)
 cases hp:pfx [47] s
 case true=>
  rw [hp] at c0
  simp only [if_true] at c0
  have c1:=implIsName_ok (s.drop 1) (by simp;omega)
  simp only [List.length_cons,List.length_nil,Nat.zero_add,Nat.reduceAdd] at c0
  generalize hs1:s.drop 1=s1 at *
  cases hn:isName s1
  ·have hr:tagOf s=(noTok,false):=by unfold tagOf;rw [if_neg (by omega),if_pos hp,hs1,hn];rfl
   rw [hr]
   rw [hn] at c1
   refine entB Tryz.mix Tryz.func242 Tryz.ntmps242 ?_
   have W:=h60
   repeat' first|refine we ?_|(refine sq (fun hc=>?_) (fun hc=>?_)<;>try exact hc.elim)|fail
   all_goals (try (first|(refine ⟨.inr rfl,.inl ?_⟩;simp [Hands,Tryz.results242,noTok];done)|(refine ⟨.inr rfl,.inr (handsB_of ?_)⟩;simp [AS.rvB,AS.rvs,AS.rv,Tryz.results242,noTok];done)|(refine ⟨.inr rfl,.inl ?_⟩;simp [Hands,Tryz.results242,noTok])))
  ·have hr:tagOf s=(⟨2,s1,[],[]⟩,true):=by unfold tagOf;rw [if_neg (by omega),if_pos hp,hs1,hn];rfl
   rw [hr]
   rw [hn] at c1
   refine entB Tryz.mix Tryz.func242 Tryz.ntmps242 ?_
   have W:=h60
   repeat' first|refine we ?_|(refine sq (fun hc=>?_) (fun hc=>?_)<;>try exact hc.elim)|fail
   all_goals (try (first|(refine ⟨.inr rfl,.inl ?_⟩;simp [Hands,Tryz.results242];done)|(refine ⟨.inr rfl,.inr (handsB_of ?_)⟩;simp [AS.rvB,AS.rvs,AS.rv,Tryz.results242];done)|(refine ⟨.inr rfl,.inl ?_⟩;simp [Hands,Tryz.results242])))
 case false=>
  rw [hp] at c0
  simp only [Bool.false_eq_true,if_false] at c0
  have hr:tagOf s=tagAt (s.take (ixB 32 s)) (if ixB 32 s < s.length then segs 32 (s.drop (ixB 32 s+1)) else []):=by unfold tagOf;rw [if_neg (by omega),if_neg (by rw [hp];simp)]
  have c2:=splitS_ok s 32 (by omega)
  have hsl:=segs_length 32 s
  have hcn:s.count 32≤s.length:=List.count_le_length
  have hsm:=segs_sumS 32 s
  rw [segs_first1] at c2 hsl hsm
  rw [hr]
  have c1:=implIsName_ok (s.take (ixB 32 s)) (by simp;omega)
  generalize (if ixB 32 s < s.length then segs 32 (s.drop (ixB 32 s+1)) else [])=ws at *
  generalize s.take (ixB 32 s)=w0 at *
  simp only [sumN,szStr,List.length_cons] at hsl hsm
  simp only [List.map_cons] at c2
  clear hr hp
  have hw1:IntKind.i64.wrap ((ws.length:Int)+1 - 1)=(ws.length:Int):=by rw [wrap64]<;>omega
  have htk:List.take ws.length (ws.map eStr)=ws.map eStr:=List.take_of_length_le (by simp)
  cases hn:isName w0
  ·rw [tagAt_no (by rw [hn];simp)]
   rw [hn] at c1
   refine entB Tryz.mix Tryz.func242 Tryz.ntmps242 ?_
   have W:=And.intro h60 hw1
   repeat' first|refine we ?_|(refine sq (fun hc=>?_) (fun hc=>?_)<;>try exact hc.elim)|fail
   all_goals (try (first|(refine ⟨.inr rfl,.inl ?_⟩;simp [Hands,Tryz.results242,noTok];done)|(refine ⟨.inr rfl,.inr (handsB_of ?_)⟩;simp [AS.rvB,AS.rvs,AS.rv,Tryz.results242,noTok];done)|(refine ⟨.inr rfl,.inl ?_⟩;simp [Hands,Tryz.results242,noTok])))
  rw [hn] at c1
  by_cases h4:(4:Int) < (ws.length:Int)
  ·rw [tagAt_no (by omega)]
   refine entB Tryz.mix Tryz.func242 Tryz.ntmps242 ?_
   have W:=And.intro h60 (And.intro hw1 h4)
   repeat' first|refine we ?_|(refine sq (fun hc=>?_) (fun hc=>?_)<;>try exact hc.elim)|fail
   all_goals (try (first|(refine ⟨.inr rfl,.inl ?_⟩;simp [Hands,Tryz.results242,noTok];done)|(refine ⟨.inr rfl,.inr (handsB_of ?_)⟩;simp [AS.rvB,AS.rvs,AS.rv,Tryz.results242,noTok];done)|(refine ⟨.inr rfl,.inl ?_⟩;simp [Hands,Tryz.results242,noTok])))
  have hnone:=fun h=>tagAt_none (w0:=w0) (ws:=ws) h
  have hsome:=fun l=>tagAt_some (w0:=w0) (ws:=ws) (l:=l) hn (by omega)
  generalize tagAt w0 ws=res at *
  refine entB Tryz.mix Tryz.func242 Tryz.ntmps242 ?_
  have W:=And.intro h60 (And.intro hw1 (And.intro h4 htk))
  repeat' first|refine we ?_|(refine sq (fun hc=>?_) (fun hc=>?_)<;>try exact hc.elim)|fail
  refine awp_loop' (ι:={q:Nat×Nat×List DAttr // (q.1≤ws.length∧1≤q.2.1)∧q.2.2.length=q.1∧addAttrs ws []=addAttrs (ws.drop q.1) q.2.2}) (fun t o i=>⟨upds t [(52,.int .i64 i.1.1),(48,.undef)],[⟨true,true,4,0,[[.int .i64 0,.str [],.sl .own 2 [],.str []]]⟩,⟨true,false,1,2,ws.map eStr⟩,⟨true,true,4,0,[[.int .i64 1,.str w0,.obj 3 i.1.2.1,.str []]]⟩,⟨true,false,2,i.1.2.1,i.1.2.2.map eAttr⟩]⟩)
   (fun i=>ws.length - i.1.1) ⟨(0,1,[]),by simp,by simp,by simp⟩ (weak_openB 2 0 2 (ob:=⟨true,true,4,0,[[.int .i64 1,.str w0,.sl .own 2 [],.str []]]⟩) (by rfl) (by rfl) (by rfl) (by simp) (by rfl) (by rfl) (by simp) (by simp [rtc,rt,dropf])) ?_
  rintro ⟨⟨k,v,acc⟩,⟨hk,hv⟩,hacc,hgo⟩ K1 hK1
  simp only at hk hv hacc hgo
  simp only [upds,List.set_cons_succ,List.set_cons_zero] at hK1⊢
  have hk1:IntKind.i64.wrap ((k:Int)+1)=((k+1:Nat):Int):=by rw [wrap64]<;>omega
  by_cases hlt:k < ws.length
  ·have hg:=List.getElem?_eq_getElem hlt
   have hwz:=sumN_get_le szStr ws k hlt
   rw [List.drop_eq_getElem_cons hlt] at hgo
   simp only [szStr] at hwz
   have cC:=stringsCut_ok ws[k] 61 (by omega)
   have cN:=implIsName_ok (wKey ws[k]) (by simp [wKey];omega)
   have cV:=implIsValue_ok (wVal ws[k]) (by simp [wVal];omega)
   have cF:=implFindAttr_ok acc (wKey ws[k]) (by omega)
   have hbad:(decide (ixB 61 ws[k] < ws[k].length)&&isName (wKey ws[k])&&isValue (wVal ws[k])&& !(findAttr acc (wKey ws[k])).2)=false→res=(noTok,false):=fun h=>hnone (by rw [hgo];simp only [addAttrs];rw [h];rfl)
   have hnext:(decide (ixB 61 ws[k] < ws[k].length)&&isName (wKey ws[k])&&isValue (wVal ws[k])&& !(findAttr acc (wKey ws[k])).2)=true→addAttrs ws []=addAttrs (ws.drop (k+1)) (acc++[⟨wKey ws[k],wVal ws[k]⟩]):=fun h=>by rw [hgo];simp only [addAttrs];rw [if_pos h]
   change Ok _ _ _ (.tup [.str (wKey ws[k]),.str (wVal ws[k]),.bool (decide (ixB 61 ws[k] < ws[k].length))]) at cC
   clear hgo hnone hsome
   generalize decide (ixB 61 ws[k] < ws[k].length)=b1 at *
   generalize isName (wKey ws[k])=b2 at *
   generalize isValue (wVal ws[k])=b3 at *
   generalize findAttr acc (wKey ws[k])=fa at *
   obtain ⟨fv,b4⟩:=fa
   generalize wKey ws[k]=ky at *
   generalize wVal ws[k]=vl at *
   simp only at cF hbad hnext
   cases b1
   ·rw [hbad (by simp)]
    clear hbad hnext hK1
    have W:=And.intro hk1 (And.intro hg hlt)
    repeat' first|refine we ?_|(refine sq (fun hc=>?_) (fun hc=>?_)<;>try exact hc.elim)|fail
    all_goals (try (first|(refine ⟨.inr rfl,.inl ?_⟩;simp [Hands,Tryz.results242,noTok];done)|(refine ⟨.inr rfl,.inr (handsB_of ?_)⟩;simp [AS.rvB,AS.rvs,AS.rv,Tryz.results242,noTok];done)|(refine ⟨.inr rfl,.inl ?_⟩;simp [Hands,Tryz.results242,noTok])))
   cases b2
   ·rw [hbad (by simp)]
    clear hbad hnext hK1
    have W:=And.intro hk1 (And.intro hg hlt)
    repeat' first|refine we ?_|(refine sq (fun hc=>?_) (fun hc=>?_)<;>try exact hc.elim)|fail
    all_goals (try (first|(refine ⟨.inr rfl,.inl ?_⟩;simp [Hands,Tryz.results242,noTok];done)|(refine ⟨.inr rfl,.inr (handsB_of ?_)⟩;simp [AS.rvB,AS.rvs,AS.rv,Tryz.results242,noTok];done)|(refine ⟨.inr rfl,.inl ?_⟩;simp [Hands,Tryz.results242,noTok])))
   cases b3
   ·rw [hbad (by simp)]
    clear hbad hnext hK1
    have W:=And.intro hk1 (And.intro hg hlt)
    repeat' first|refine we ?_|(refine sq (fun hc=>?_) (fun hc=>?_)<;>try exact hc.elim)|fail
    all_goals (try (first|(refine ⟨.inr rfl,.inl ?_⟩;simp [Hands,Tryz.results242,noTok];done)|(refine ⟨.inr rfl,.inr (handsB_of ?_)⟩;simp [AS.rvB,AS.rvs,AS.rv,Tryz.results242,noTok];done)|(refine ⟨.inr rfl,.inl ?_⟩;simp [Hands,Tryz.results242,noTok])))
   cases b4
   ·have hn2:=hnext (by simp)
    clear hbad hnext
    have W:=And.intro hk1 (And.intro hg hlt)
    repeat' first|refine we ?_|(refine sq (fun hc=>?_) (fun hc=>?_)<;>try exact hc.elim)|fail
    all_goals refine hK1 _ ⟨(k+1,v+1,acc++[⟨ky,vl⟩]),⟨by simp only;omega,by simp only;omega⟩,by simp;omega,hn2⟩ (weak_take 4 (by simp) (by simp) (by simp) (by simp)) (by simp only;omega)
   ·rw [hbad (by simp)]
    clear hbad hnext hK1
    have W:=And.intro hk1 (And.intro hg hlt)
    repeat' first|refine we ?_|(refine sq (fun hc=>?_) (fun hc=>?_)<;>try exact hc.elim)|fail
    all_goals (try (first|(refine ⟨.inr rfl,.inl ?_⟩;simp [Hands,Tryz.results242,noTok];done)|(refine ⟨.inr rfl,.inr (handsB_of ?_)⟩;simp [AS.rvB,AS.rvs,AS.rv,Tryz.results242,noTok];done)|(refine ⟨.inr rfl,.inl ?_⟩;simp [Hands,Tryz.results242,noTok])))
  ·have hdn:ws.drop k=[]:=List.drop_of_length_le (by omega)
   rw [hdn] at hgo
   rw [hsome acc (by rw [hgo];rfl)]
   clear hK1
   have W:=hk1
   repeat' first|refine we ?_|(refine sq (fun hc=>?_) (fun hc=>?_)<;>try exact hc.elim)|fail
   all_goals (try (first|(refine ⟨.inr rfl,.inl ?_⟩;simp [Hands,Tryz.results242];done)|(refine ⟨.inr rfl,.inr (handsB_of ?_)⟩;simp [AS.rvB,AS.rvs,AS.rv,Tryz.results242];done)|(refine ⟨.inr rfl,.inl ?_⟩;simp [Hands,Tryz.results242])))
end Go.Proofs.YtgkcdgaljknohaaGreatDoor
