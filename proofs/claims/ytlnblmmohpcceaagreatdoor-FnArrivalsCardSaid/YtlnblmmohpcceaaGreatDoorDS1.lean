/-
  Proved here: steps towards the statement of this claim, text S1.
  No condition beyond what each statement spells out.
-/
import Derived.Test.YtlnblmmohpcceaaGreatDoorDP5
import Derived.Test.YtlnblmmohpcceaaGreatDoorDQ1
import Derived.Test.YtlnblmmohpcceaaGreatDoorDF3
import Derived.Test.YtlnblmmohpcceaaGreatDoorDF6
set_option linter.all false
set_option maxRecDepth 4000
set_option maxHeartbeats 4000000
namespace Go.Proofs.YtlnblmmohpcceaaGreatDoor
open Go.Aw
theorem aJp [aB Tryz.prog] [dO Tryz.prog] (s:Str) (c:UInt8) (hs:s.length < 4294967281):Ok Tryz.prog 123 [.str s,.str [c]] (.sl .own 1 ((aQ c s).map aI)):=aEr Tryz.laysM146 (by kernel_rfl) s c hs
def bW:bY:=⟨0,[],[],[]⟩
def kY (w:Str):Str:=w.take (ixB 61 w)
def qI (w:Str):Str:=w.drop (ixB 61 w+1)
def gL:List Str→List fZ→Option (List fZ)
 |[],acc=>some acc
 |w::ws,acc=>if (decide (ixB 61 w < w.length)&&bK (kY w)&&eG (qI w)&& !(iE acc (kY w)).2)=true then gL ws (acc++[⟨kY w,qI w⟩]) else none
def nQ (w0:Str) (ws:List Str):bY×Bool:=
 if bK w0=true∧ws.length≤4 then (match gL ws [] with
  |some l=>(⟨1,w0,l,[]⟩,true)
  |none=>(bW,false)) else (bW,false)
def jC (s:Str):bY×Bool:=
 if 60 < s.length then (bW,false)
 else if pfx [47] s=true then (if bK (s.drop 1)=true then (⟨2,s.drop 1,[],[]⟩,true) else (bW,false))
 else nQ (s.take (ixB 32 s)) (if ixB 32 s < s.length then aQ 32 (s.drop (ixB 32 s+1)) else [])
theorem xH (c:UInt8) (s:Str):aQ c s=s.take (ixB c s)::(if ixB c s < s.length then aQ c (s.drop (ixB c s+1)) else []):=by
 rw [aB0]
 have h:=pU c s
 split
 ·rfl
 ·rw [List.take_of_length_le (by omega)]
theorem aFn {w0:Str} {ws:List Str} (h:¬(bK w0=true∧ws.length≤4)):nQ w0 ws=(bW,false):=by unfold nQ;rw [if_neg h]
theorem aHt {w0:Str} {ws:List Str} (h:gL ws []=none):nQ w0 ws=(bW,false):=by
 unfold nQ;rw [h];split<;>rfl
theorem aHj {w0:Str} {ws:List Str} {l:List fZ} (h1:bK w0=true) (h2:ws.length≤4) (h:gL ws []=some l):nQ w0 ws=(⟨1,w0,l,[]⟩,true):=by
 unfold nQ;rw [h,if_pos ⟨h1,h2⟩]
theorem xI:∀(ws:List Str) (acc l:List fZ),gL ws acc=some l→szL nY l≤szL nY acc+bC bG ws
 |[],acc,l,h=>by simp only [gL,Option.some.injEq] at h;subst h;simp [bC]
 |w::ws,acc,l,h=>by
  simp only [gL] at h
  split at h
  ·rename_i hc
   simp only [Bool.and_eq_true,decide_eq_true_eq] at hc
   have:=xI ws _ l h
   have hj:∀a b:List fZ,bC nY (a++b)=bC nY a+bC nY b:=by
    intro a b
    induction a with
    |nil=>simp [bC]
    |cons x xs ih=>simp only [List.cons_append,bC,ih];omega
   simp only [szL,hj,bC,nY,kY,qI,List.length_append,List.length_take,List.length_drop,List.length_cons,List.length_nil,bG] at this⊢
   omega
  ·cases h
theorem vY (c:UInt8):∀s:Str,bC bG (aQ c s)≤s.length
 |[]=>by simp [aQ,bC,bG]
 |x::s=>by
  have ih:=vY c s
  simp only [aQ]
  split
  ·simp only [bC,bG,List.length_nil,List.length_cons] at ih⊢;omega
  ·split
   ·rename_i h0;exact absurd h0 (jQ c s)
   ·rename_i p q h0
    rw [h0] at ih
    simp only [bC,bG,List.length_cons] at ih⊢;omega
theorem aLk (s:Str):dW (jC s).1≤s.length:=by
 have hn:dW bW=0:=by simp [bW,dW,szL,bC]
 unfold jC
 split
 ·simp only [hn];omega
 ·split
  ·split
   ·simp [dW,szL,bC]
   ·simp only [hn];omega
  ·have hs:=vY 32 s
   rw [xH] at hs
   simp only [bC,bG] at hs
   generalize (if ixB 32 s < s.length then aQ 32 (s.drop (ixB 32 s+1)) else [])=ws at *
   unfold nQ
   split
   ·split
    ·rename_i l hl
     have:=xI ws [] l hl
     simp only [dW,szL,bC,List.length_nil] at this⊢
     omega
    ·simp only [hn];omega
   ·simp only [hn];omega
theorem aEc [aB Tryz.prog] [dO Tryz.prog] (s:Str) (hl:s.length≤1099511627776):Ok Tryz.prog 130 [.str s] (.tup [.agg (bP .own (jC s).1),.bool (jC s).2]):=by
 by_cases h60:(60:Int) < (s.length:Int)
 ·have hr:jC s=(bW,false):=by unfold jC;rw [if_pos (by omega)]
  rw [hr]
  refine nJ Tryz.mix Tryz.func130 Tryz.ntmps130 ?_
  have W:=h60
  repeat' first|refine we ?_|(refine sq (fun hc=>?_) (fun hc=>?_)<;>try exact hc.elim)|fail
  all_goals (try (first|(refine ⟨.inr rfl,.inl ?_⟩;simp [Hands,Tryz.results130,bW];done)|(refine ⟨.inr rfl,.inr (dH ?_)⟩;simp [AS.rvB,AS.rvs,AS.rv,Tryz.results130,bW];done)|(refine ⟨.inr rfl,.inl ?_⟩;simp [Hands,Tryz.results130,bW])))
 have c0:=aEb s [47] hl (by simp)
 cases hp:pfx [47] s
 case true=>
  rw [hp] at c0
  simp only [if_true] at c0
  have c1:=iL (s.drop 1) (by simp;omega)
  simp only [List.length_cons,List.length_nil,Nat.zero_add,Nat.reduceAdd] at c0
  generalize hs1:s.drop 1=s1 at *
  cases hn:bK s1
  ·have hr:jC s=(bW,false):=by unfold jC;rw [if_neg (by omega),if_pos hp,hs1,hn];rfl
   rw [hr]
   rw [hn] at c1
   refine nJ Tryz.mix Tryz.func130 Tryz.ntmps130 ?_
   have W:=h60
   repeat' first|refine we ?_|(refine sq (fun hc=>?_) (fun hc=>?_)<;>try exact hc.elim)|fail
   all_goals (try (first|(refine ⟨.inr rfl,.inl ?_⟩;simp [Hands,Tryz.results130,bW];done)|(refine ⟨.inr rfl,.inr (dH ?_)⟩;simp [AS.rvB,AS.rvs,AS.rv,Tryz.results130,bW];done)|(refine ⟨.inr rfl,.inl ?_⟩;simp [Hands,Tryz.results130,bW])))
  ·have hr:jC s=(⟨2,s1,[],[]⟩,true):=by unfold jC;rw [if_neg (by omega),if_pos hp,hs1,hn];rfl
   rw [hr]
   rw [hn] at c1
   refine nJ Tryz.mix Tryz.func130 Tryz.ntmps130 ?_
   have W:=h60
   repeat' first|refine we ?_|(refine sq (fun hc=>?_) (fun hc=>?_)<;>try exact hc.elim)|fail
   all_goals (try (first|(refine ⟨.inr rfl,.inl ?_⟩;simp [Hands,Tryz.results130];done)|(refine ⟨.inr rfl,.inr (dH ?_)⟩;simp [AS.rvB,AS.rvs,AS.rv,Tryz.results130];done)|(refine ⟨.inr rfl,.inl ?_⟩;simp [Hands,Tryz.results130])))
 case false=>
  rw [hp] at c0
  simp only [Bool.false_eq_true,if_false] at c0
  have hr:jC s=nQ (s.take (ixB 32 s)) (if ixB 32 s < s.length then aQ 32 (s.drop (ixB 32 s+1)) else []):=by unfold jC;rw [if_neg (by omega),if_neg (by rw [hp];simp)]
  have c2:=aJp s 32 (by omega)
  have hsl:=jR 32 s
  have hcn:s.count 32≤s.length:=List.count_le_length
  have hsm:=vY 32 s
  rw [xH] at c2 hsl hsm
  rw [hr]
  have c1:=iL (s.take (ixB 32 s)) (by simp;omega)
  generalize (if ixB 32 s < s.length then aQ 32 (s.drop (ixB 32 s+1)) else [])=ws at *
  generalize s.take (ixB 32 s)=w0 at *
  simp only [bC,bG,List.length_cons] at hsl hsm
  simp only [List.map_cons] at c2
  clear hr hp
  have hw1:IntKind.i64.wrap ((ws.length:Int)+1 - 1)=(ws.length:Int):=by rw [wrap64]<;>omega
  have htk:List.take ws.length (ws.map aI)=ws.map aI:=List.take_of_length_le (by simp)
  cases hn:bK w0
  ·rw [aFn (by rw [hn];simp)]
   rw [hn] at c1
   refine nJ Tryz.mix Tryz.func130 Tryz.ntmps130 ?_
   have W:=And.intro h60 hw1
   repeat' first|refine we ?_|(refine sq (fun hc=>?_) (fun hc=>?_)<;>try exact hc.elim)|fail
   all_goals (try (first|(refine ⟨.inr rfl,.inl ?_⟩;simp [Hands,Tryz.results130,bW];done)|(refine ⟨.inr rfl,.inr (dH ?_)⟩;simp [AS.rvB,AS.rvs,AS.rv,Tryz.results130,bW];done)|(refine ⟨.inr rfl,.inl ?_⟩;simp [Hands,Tryz.results130,bW])))
  rw [hn] at c1
  by_cases h4:(4:Int) < (ws.length:Int)
  ·rw [aFn (by omega)]
   refine nJ Tryz.mix Tryz.func130 Tryz.ntmps130 ?_
   have W:=And.intro h60 (And.intro hw1 h4)
   repeat' first|refine we ?_|(refine sq (fun hc=>?_) (fun hc=>?_)<;>try exact hc.elim)|fail
   all_goals (try (first|(refine ⟨.inr rfl,.inl ?_⟩;simp [Hands,Tryz.results130,bW];done)|(refine ⟨.inr rfl,.inr (dH ?_)⟩;simp [AS.rvB,AS.rvs,AS.rv,Tryz.results130,bW];done)|(refine ⟨.inr rfl,.inl ?_⟩;simp [Hands,Tryz.results130,bW])))
  have hnone:=fun h=>aHt (w0:=w0) (ws:=ws) h
  have hsome:=fun l=>aHj (w0:=w0) (ws:=ws) (l:=l) hn (by omega)
  generalize nQ w0 ws=res at *
  refine nJ Tryz.mix Tryz.func130 Tryz.ntmps130 ?_
  have W:=And.intro h60 (And.intro hw1 (And.intro h4 htk))
  repeat' first|refine we ?_|(refine sq (fun hc=>?_) (fun hc=>?_)<;>try exact hc.elim)|fail
  refine aS (ι:={q:Nat×Nat×List fZ // (q.1≤ws.length∧1≤q.2.1)∧q.2.2.length=q.1∧gL ws []=gL (ws.drop q.1) q.2.2}) (fun t o i=>⟨aP t [(52,.int .i64 i.1.1),(48,.undef)],[⟨true,true,4,0,[[.int .i64 0,.str [],.sl .own 2 [],.str []]]⟩,⟨true,false,1,2,ws.map aI⟩,⟨true,true,4,0,[[.int .i64 1,.str w0,.obj 3 i.1.2.1,.str []]]⟩,⟨true,false,2,i.1.2.1,i.1.2.2.map kR⟩]⟩)
   (fun i=>ws.length - i.1.1) ⟨(0,1,[]),by simp,by simp,by simp⟩ (zV 2 0 2 (ob:=⟨true,true,4,0,[[.int .i64 1,.str w0,.sl .own 2 [],.str []]]⟩) (by rfl) (by rfl) (by rfl) (by simp) (by rfl) (by rfl) (by simp) (by simp [rtc,rt,eP])) ?_
  rintro ⟨⟨k,v,acc⟩,⟨hk,hv⟩,hacc,hgo⟩ K1 hK1
  simp only at hk hv hacc hgo
  simp only [aP,List.set_cons_succ,List.set_cons_zero] at hK1⊢
  have hk1:IntKind.i64.wrap ((k:Int)+1)=((k+1:Nat):Int):=by rw [wrap64]<;>omega
  by_cases hlt:k < ws.length
  ·have hg:=List.getElem?_eq_getElem hlt
   have hwz:=gN bG ws k hlt
   rw [List.drop_eq_getElem_cons hlt] at hgo
   simp only [bG] at hwz
   have cC:=aCu ws[k] 61 (by omega)
   have cN:=iL (kY ws[k]) (by simp [kY];omega)
   have cV:=sP (qI ws[k]) (by simp [qI];omega)
   have cF:=yR acc (kY ws[k]) (by omega)
   have hbad:(decide (ixB 61 ws[k] < ws[k].length)&&bK (kY ws[k])&&eG (qI ws[k])&& !(iE acc (kY ws[k])).2)=false→res=(bW,false):=fun h=>hnone (by rw [hgo];simp only [gL];rw [h];rfl)
   have hnext:(decide (ixB 61 ws[k] < ws[k].length)&&bK (kY ws[k])&&eG (qI ws[k])&& !(iE acc (kY ws[k])).2)=true→gL ws []=gL (ws.drop (k+1)) (acc++[⟨kY ws[k],qI ws[k]⟩]):=fun h=>by rw [hgo];simp only [gL];rw [if_pos h]
   change Ok _ _ _ (.tup [.str (kY ws[k]),.str (qI ws[k]),.bool (decide (ixB 61 ws[k] < ws[k].length))]) at cC
   clear hgo hnone hsome
   generalize decide (ixB 61 ws[k] < ws[k].length)=b1 at *
   generalize bK (kY ws[k])=b2 at *
   generalize eG (qI ws[k])=b3 at *
   generalize iE acc (kY ws[k])=fa at *
   obtain ⟨fv,b4⟩:=fa
   generalize kY ws[k]=ky at *
   generalize qI ws[k]=vl at *
   simp only at cF hbad hnext
   cases b1
   ·rw [hbad (by simp)]
    clear hbad hnext hK1
    have W:=And.intro hk1 (And.intro hg hlt)
    repeat' first|refine we ?_|(refine sq (fun hc=>?_) (fun hc=>?_)<;>try exact hc.elim)|fail
    all_goals (try (first|(refine ⟨.inr rfl,.inl ?_⟩;simp [Hands,Tryz.results130,bW];done)|(refine ⟨.inr rfl,.inr (dH ?_)⟩;simp [AS.rvB,AS.rvs,AS.rv,Tryz.results130,bW];done)|(refine ⟨.inr rfl,.inl ?_⟩;simp [Hands,Tryz.results130,bW])))
   cases b2
   ·rw [hbad (by simp)]
    clear hbad hnext hK1
    have W:=And.intro hk1 (And.intro hg hlt)
    repeat' first|refine we ?_|(refine sq (fun hc=>?_) (fun hc=>?_)<;>try exact hc.elim)|fail
    all_goals (try (first|(refine ⟨.inr rfl,.inl ?_⟩;simp [Hands,Tryz.results130,bW];done)|(refine ⟨.inr rfl,.inr (dH ?_)⟩;simp [AS.rvB,AS.rvs,AS.rv,Tryz.results130,bW];done)|(refine ⟨.inr rfl,.inl ?_⟩;simp [Hands,Tryz.results130,bW])))
   cases b3
   ·rw [hbad (by simp)]
    clear hbad hnext hK1
    have W:=And.intro hk1 (And.intro hg hlt)
    repeat' first|refine we ?_|(refine sq (fun hc=>?_) (fun hc=>?_)<;>try exact hc.elim)|fail
    all_goals (try (first|(refine ⟨.inr rfl,.inl ?_⟩;simp [Hands,Tryz.results130,bW];done)|(refine ⟨.inr rfl,.inr (dH ?_)⟩;simp [AS.rvB,AS.rvs,AS.rv,Tryz.results130,bW];done)|(refine ⟨.inr rfl,.inl ?_⟩;simp [Hands,Tryz.results130,bW])))
   cases b4
   ·have hn2:=hnext (by simp)
    clear hbad hnext
    have W:=And.intro hk1 (And.intro hg hlt)
    repeat' first|refine we ?_|(refine sq (fun hc=>?_) (fun hc=>?_)<;>try exact hc.elim)|fail
    all_goals refine hK1 _ ⟨(k+1,v+1,acc++[⟨ky,vl⟩]),⟨by simp only;omega,by simp only;omega⟩,by simp;omega,hn2⟩ (bX 4 (by simp) (by simp) (by simp) (by simp)) (by simp only;omega)
   ·rw [hbad (by simp)]
    clear hbad hnext hK1
    have W:=And.intro hk1 (And.intro hg hlt)
    repeat' first|refine we ?_|(refine sq (fun hc=>?_) (fun hc=>?_)<;>try exact hc.elim)|fail
    all_goals (try (first|(refine ⟨.inr rfl,.inl ?_⟩;simp [Hands,Tryz.results130,bW];done)|(refine ⟨.inr rfl,.inr (dH ?_)⟩;simp [AS.rvB,AS.rvs,AS.rv,Tryz.results130,bW];done)|(refine ⟨.inr rfl,.inl ?_⟩;simp [Hands,Tryz.results130,bW])))
  ·have hdn:ws.drop k=[]:=List.drop_of_length_le (by omega)
   rw [hdn] at hgo
   rw [hsome acc (by rw [hgo];rfl)]
   clear hK1
   have W:=hk1
   repeat' first|refine we ?_|(refine sq (fun hc=>?_) (fun hc=>?_)<;>try exact hc.elim)|fail
   all_goals (try (first|(refine ⟨.inr rfl,.inl ?_⟩;simp [Hands,Tryz.results130];done)|(refine ⟨.inr rfl,.inr (dH ?_)⟩;simp [AS.rvB,AS.rvs,AS.rv,Tryz.results130];done)|(refine ⟨.inr rfl,.inl ?_⟩;simp [Hands,Tryz.results130])))
end Go.Proofs.YtlnblmmohpcceaaGreatDoor
