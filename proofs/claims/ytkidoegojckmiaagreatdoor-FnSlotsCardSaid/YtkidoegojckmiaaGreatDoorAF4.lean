/-
  Proved here: what fits the shape of a type is some datum of it.
  No condition beyond what each statement spells out.
-/
import Derived.Test.YtkidoegojckmiaaGreatDoorAF3
import Derived.Test.YtkidoegojckmiaaGreatDoorAF6
import Derived.Test.YtkidoegojckmiaaGreatDoorAF1
import Derived.Laws.StandIn
import Derived.Lib.Bytealg
set_option linter.all false
namespace Go.Aw
def rgI (n:Int):Prop:= -9223372036854775808≤n∧n≤9223372036854775807
theorem aNe {α:Type} {row:List Sh} {n:Nat} {e:α→List AV} {p q:α→Prop} (h:∀r,fF row r→∃x,r=e x∧(p x∧q x)) {x:AV} (hx:fF [.sl n row] [x]):∃l:List α,x= .sl .view n (l.map e)∧(l.length≤9223372036854775807∧∀y∈l,p y)∧∀y∈l,q y:=by
 obtain ⟨rows,r',he,hlen,hrows,hr⟩:=aTd hx
 obtain ⟨l,rfl,hl⟩:=aJi h rows hrows
 simp only [List.cons.injEq] at he
 exact ⟨l,he.1,⟨by simpa using hlen,fun y hy=>(hl y hy).1⟩,fun y hy=>(hl y hy).2⟩
end Go.Aw

namespace Go.Aw
end Go.Aw

namespace Go.Aw
end Go.Aw

namespace Go.Aw
def n1 {α:Type} (l:List α):Nat:=bD (fun _=>1) l
@[simp] theorem aT0 (u:List Nat) (b:Bool) (l:List dM):rtr (dW u) b (l.map (bP .view))=l.map (bP .view):=aI (by intro x;simp) l
@[simp] theorem aU1 (u:List Nat) (b:Bool) (l:List lJ):rtr (dW u) b (l.map (dE .view))=l.map (dE .view):=aI (by intro x;simp) l
end Go.Aw

namespace Go.Aw
def lowerB (c:UInt8):Bool:=decide (97≤c.toNat)&&decide (c.toNat≤122)
def jX (c:UInt8):Bool:=lowerB c || (decide (48≤c.toNat)&&decide (c.toNat≤57)) || decide (c.toNat=47)
def bL (s:Str):Bool:=s.all lowerB&&(decide (1≤s.length)&&decide (s.length≤8))
def dB (s:Str):Bool:=s.all jX&&(decide (1≤s.length)&&decide (s.length≤20))
def mY (a:bC):Bool:=bL a.host&&bL a.path
def ixB (c:UInt8) (s:Str):Nat:=s.findIdx (· == c)
theorem uN (c:UInt8) (s:Str):ixB c s≤s.length:=List.findIdx_le_length
theorem aTm (c:UInt8):ixB c []=0:=rfl
theorem uT (c x:UInt8) (s:Str):ixB c (x::s)=if x=c then 0 else ixB c s+1:=by
 unfold ixB
 rw [List.findIdx_cons]
 by_cases h:x=c
 ·subst h;simp
 ·have:(x == c)=false:=by simpa using h
  simp [this,h]
theorem aCo (c:UInt8):∀(p s:Str),(∀x∈p,x≠c)→ixB c (p++s)=p.length+ixB c s
 |[],s,_=>by simp
 |x::p,s,h=>by
  rw [List.cons_append,uT,if_neg (h x (by simp)),aCo c p s (fun y hy=>h y (by simp [hy]))]
  simp;omega
theorem aVc {c:UInt8} {s:Str} {k:Nat} (hk:k < s.length) (hc:s[k]=c) (hp:∀x∈s.take k,x≠c):ixB c s=k:=by
 have e:s=s.take k++s.drop k:=(List.take_append_drop k s).symm
 rw [e,aCo c _ _ hp,List.drop_eq_getElem_cons hk,uT,if_pos hc]
 simp;omega
theorem aQx {c:UInt8} {s:Str} (hp:∀x∈s,x≠c):ixB c s=s.length:=by
 have:=aCo c s [] hp
 simpa [aTm] using this
theorem aTw {c:UInt8} {s:Str} (h:ixB c s < s.length):s[ixB c s]=c:=by
 have:=List.findIdx_getElem (p:=(· == c)) (w:=h)
 exact eq_of_beq this
theorem aQ6 (c:UInt8) (s:Str):∀x∈s.take (ixB c s),x≠c:=by
 intro x hx
 obtain ⟨i,hi,rfl⟩:=List.getElem_of_mem hx
 have hi':i < ixB c s:=by have:=hi;simp at this;omega
 rw [List.getElem_take]
 have:=List.not_of_lt_findIdx (p:=(· == c)) (xs:=s) hi'
 simpa using this
def aT (c:UInt8):Str→List Str
 |[]=>[[]]
 |x::s=>if x=c then []::aT c s else match aT c s with
  |[]=>[[x]]
  |p::r=>(x::p)::r
theorem lV (c:UInt8):∀s,aT c s≠[]
 |[]=>by simp [aT]
 |x::s=>by
  simp only [aT]
  split
  ·simp
  ·split<;>simp
theorem qV (c:UInt8):∀(p s:Str),(∀x∈p,x≠c)→aT c (p++c::s)=p::aT c s
 |[],s,_=>by simp [aT]
 |x::p,s,h=>by
  rw [List.cons_append]
  simp only [aT]
  rw [if_neg (h x (by simp)),qV c p s (fun y hy=>h y (by simp [hy]))]
theorem oN (c:UInt8):∀(p:Str),(∀x∈p,x≠c)→aT c p=[p]
 |[],_=>rfl
 |x::p,h=>by
  simp only [aT]
  rw [if_neg (h x (by simp)),oN c p (fun y hy=>h y (by simp [hy]))]
theorem aF3 (c:UInt8) (s:Str):aT c s=if ixB c s < s.length then s.take (ixB c s)::aT c (s.drop (ixB c s+1)) else [s]:=by
 have ht:=aQ6 c s
 split
 ·rename_i h
  conv=>lhs;rw [←List.take_append_drop (ixB c s) s,List.drop_eq_getElem_cons h,aTw h]
  exact qV c _ _ ht
 ·rename_i h
  have:s.take (ixB c s)=s:=List.take_of_length_le (by omega)
  rw [this] at ht
  exact oN c s ht
theorem fV (c:UInt8):∀s:Str,(aT c s).length=s.count c+1
 |[]=>rfl
 |x::s=>by
  simp only [aT]
  split
  ·rename_i h;subst h;simp [fV x s]
  ·rename_i h
   have:=fV c s
   split
   ·rename_i h0;exact absurd h0 (lV c s)
   ·rename_i p r h0
    rw [h0] at this
    rw [List.count_cons_of_ne h]
    simpa using this
def oF (n:Str) (a:iF):Bool:=decide (a.name=n)
def iM (l:List iF) (n:Str):Str×Bool:=match l.find? (oF n) with
 |some a=>(a.value,true)
 |none=>([],false)
theorem aKo {l:List iF} {n:Str} {k:Nat} (h:k < l.length) (hf:oF n l[k]=true) (hn:∀x∈l.take k,oF n x=false):iM l n=(l[k].value,true):=by
 have e:l=l.take k++l[k]::l.drop (k+1):=by rw [←List.drop_eq_getElem_cons h,List.take_append_drop]
 have:l.find? (oF n)=some l[k]:=by
  generalize hx:l[k]=y at *
  rw [e,List.find?_append]
  have:(l.take k).find? (oF n)=none:=List.find?_eq_none.2 (fun x hx=>by simp [hn x hx])
  rw [this]
  simp [hf]
 simp [iM,this]
theorem aHq {l:List iF} {n:Str} (hn:∀x∈l,oF n x=false):iM l n=([],false):=by
 have:l.find? (oF n)=none:=List.find?_eq_none.2 (fun x hx=>by simp [hn x hx])
 simp [iM,this]
end Go.Aw

namespace Go.Aw
def ixI (c:UInt8) (s:Str):Int:=if ixB c s < s.length then ixB c s else -1
theorem qD (c:UInt8):∀s:Str,Go.Lib.indexByte s c=ixI c s
 |[]=>by simp [Go.Lib.indexByte,ixI]
 |x::s=>by
  have ih:=qD c s
  have hl:=uN c s
  simp only [Go.Lib.indexByte,ih,ixI,uT,List.length_cons]
  by_cases h:x=c
  ·simp [h]
  ·have:(x == c)=false:=by simpa using h
   simp only [this,h,if_false,Bool.false_eq_true]
   by_cases h2:ixB c s < s.length
   ·have h3:((ixB c s:Int) == -1)=false:=by rw [beq_eq_false_iff_ne];omega
    simp [h2,h3]
   ·simp [h2]
theorem aHj {P:Program} [aB P] {f:FuncId} {fn:Func} (hf:P.funcs[f]? =some fn) (hname:(fn.name == "runtime.NumGoroutine")=false)
  (hb:fn.body.isNone=true) (hn:Extern.findNext fn=none) (he:Extern.find fn=some Extern.BytealgIndexByte.indexByte) (s:Str) (c:UInt8):
  OkN P f [.str s,.int .u8 c.toNat] (.int .i64 (ixI c s)):=by
 intro w vs h
 obtain ⟨v1,h⟩:∃v,vs=[.string ⟨s.toArray⟩,.int .u8 (c.toNat:Int)]:=by
  cases vs with
  |nil=>simp [Rc] at h
  |cons a vs=>cases vs with
   |nil=>simp [Rc] at h
   |cons b vs=>cases vs with
    |nil=>
     simp only [Rc,R] at h
     obtain ⟨f1,f2,h1,h2,h3⟩:=h
     obtain ⟨f3,f4,h4,h5,h6⟩:=h2
     exact ⟨a,by rw [h1.1,h4.1]⟩
    |cons d vs=>
     simp only [Rc,R] at h
     obtain ⟨f1,f2,h1,h2,h3⟩:=h
     obtain ⟨f3,f4,h4,h5,h6⟩:=h2
     simp [Rc] at h5
 subst h
 refine ⟨.int .i64 (ixI c s),w,?_,rfl,Same.rfl,fun _ _=>by simp [R]⟩
 rw [run_callFunc_indexByte hf hname hb hn he]
 have:=Go.Lib.run_indexByteString (P:=P) ⟨s.toArray⟩ (c.toNat:Int) w
 simp only [Int.toNat_natCast] at this
 have hc:c.toNat.toUInt8=c:=by simp
 rw [hc,qD] at this
 rw [show [Value.string ⟨s.toArray⟩,Value.int .u8 (c.toNat:Int)].toArray=#[Value.string ⟨s.toArray⟩,Value.int .u8 (c.toNat:Int)] from rfl,this]
 rfl
end Go.Aw
