/-
  Proved here: what fits the shape of a type is some datum of it.
  No condition beyond what each statement spells out.
-/
import Derived.Test.YtgkllebnnakojaaGreatDoorF3
import Derived.Test.YtgkllebnnakojaaGreatDoorF6
import Derived.Test.YtgkllebnnakojaaGreatDoorF1
import Derived.Laws.StandIn
import Derived.Lib.Bytealg
set_option linter.all false
namespace Go.Aw
def rgI (n:Int):Prop:= -9223372036854775808≤n∧n≤9223372036854775807
theorem aO8 {α:Type} {row:List Sh} {n:Nat} {e:α→List AV} {p q:α→Prop} (h:∀r,fO row r→∃x,r=e x∧(p x∧q x)) {x:AV} (hx:fO [.sl n row] [x]):∃l:List α,x= .sl .view n (l.map e)∧(l.length≤9223372036854775807∧∀y∈l,p y)∧∀y∈l,q y:=by
 obtain ⟨rows,r',he,hlen,hrows,hr⟩:=aUr hx
 obtain ⟨l,rfl,hl⟩:=aJm h rows hrows
 simp only [List.cons.injEq] at he
 exact ⟨l,he.1,⟨by simpa using hlen,fun y hy=>(hl y hy).1⟩,fun y hy=>(hl y hy).2⟩
end Go.Aw

namespace Go.Aw
end Go.Aw

namespace Go.Aw
end Go.Aw

namespace Go.Aw
def n1 {α:Type} (l:List α):Nat:=bF (fun _=>1) l
@[simp] theorem aUy (u:List Nat) (b:Bool) (l:List kG):rtr (dU u) b (l.map (dR .view))=l.map (dR .view):=aM (by intro x;simp) l
@[simp] theorem aVk (u:List Nat) (b:Bool) (l:List mJ):rtr (dU u) b (l.map (eB .view))=l.map (eB .view):=aM (by intro x;simp) l
end Go.Aw

namespace Go.Aw
def lowerB (c:UInt8):Bool:=decide (97≤c.toNat)&&decide (c.toNat≤122)
def oK (c:UInt8):Bool:=lowerB c || (decide (48≤c.toNat)&&decide (c.toNat≤57)) || decide (c.toNat=47)
def dA (s:Str):Bool:=s.all lowerB&&(decide (1≤s.length)&&decide (s.length≤8))
def kR (s:Str):Bool:=s.all oK&&(decide (1≤s.length)&&decide (s.length≤20))
def mR (a:aC):Bool:=dA a.host&&dA a.path
def ixB (c:UInt8) (s:Str):Nat:=s.findIdx (· == c)
theorem qY (c:UInt8) (s:Str):ixB c s≤s.length:=List.findIdx_le_length
theorem aU4 (c:UInt8):ixB c []=0:=rfl
theorem zG (c x:UInt8) (s:Str):ixB c (x::s)=if x=c then 0 else ixB c s+1:=by
 unfold ixB
 rw [List.findIdx_cons]
 by_cases h:x=c
 ·subst h;simp
 ·have:(x == c)=false:=by simpa using h
  simp [this,h]
theorem yU (c:UInt8):∀(p s:Str),(∀x∈p,x≠c)→ixB c (p++s)=p.length+ixB c s
 |[],s,_=>by simp
 |x::p,s,h=>by
  rw [List.cons_append,zG,if_neg (h x (by simp)),yU c p s (fun y hy=>h y (by simp [hy]))]
  simp;omega
theorem aJ7 {c:UInt8} {s:Str} {k:Nat} (hk:k < s.length) (hc:s[k]=c) (hp:∀x∈s.take k,x≠c):ixB c s=k:=by
 have e:s=s.take k++s.drop k:=(List.take_append_drop k s).symm
 rw [e,yU c _ _ hp,List.drop_eq_getElem_cons hk,zG,if_pos hc]
 simp;omega
theorem aK3 {c:UInt8} {s:Str} (hp:∀x∈s,x≠c):ixB c s=s.length:=by
 have:=yU c s [] hp
 simpa [aU4] using this
theorem aMs {c:UInt8} {s:Str} (h:ixB c s < s.length):s[ixB c s]=c:=by
 have:=List.findIdx_getElem (p:=(· == c)) (w:=h)
 exact eq_of_beq this
theorem aRn (c:UInt8) (s:Str):∀x∈s.take (ixB c s),x≠c:=by
 intro x hx
 obtain ⟨i,hi,rfl⟩:=List.getElem_of_mem hx
 have hi':i < ixB c s:=by have:=hi;simp at this;omega
 rw [List.getElem_take]
 have:=List.not_of_lt_findIdx (p:=(· == c)) (xs:=s) hi'
 simpa using this
def bA (c:UInt8):Str→List Str
 |[]=>[[]]
 |x::s=>if x=c then []::bA c s else match bA c s with
  |[]=>[[x]]
  |p::r=>(x::p)::r
theorem kW (c:UInt8):∀s,bA c s≠[]
 |[]=>by simp [bA]
 |x::s=>by
  simp only [bA]
  split
  ·simp
  ·split<;>simp
theorem aDb (c:UInt8):∀(p s:Str),(∀x∈p,x≠c)→bA c (p++c::s)=p::bA c s
 |[],s,_=>by simp [bA]
 |x::p,s,h=>by
  rw [List.cons_append]
  simp only [bA]
  rw [if_neg (h x (by simp)),aDb c p s (fun y hy=>h y (by simp [hy]))]
theorem aC4 (c:UInt8):∀(p:Str),(∀x∈p,x≠c)→bA c p=[p]
 |[],_=>rfl
 |x::p,h=>by
  simp only [bA]
  rw [if_neg (h x (by simp)),aC4 c p (fun y hy=>h y (by simp [hy]))]
theorem aGh (c:UInt8) (s:Str):bA c s=if ixB c s < s.length then s.take (ixB c s)::bA c (s.drop (ixB c s+1)) else [s]:=by
 have ht:=aRn c s
 split
 ·rename_i h
  conv=>lhs;rw [←List.take_append_drop (ixB c s) s,List.drop_eq_getElem_cons h,aMs h]
  exact aDb c _ _ ht
 ·rename_i h
  have:s.take (ixB c s)=s:=List.take_of_length_le (by omega)
  rw [this] at ht
  exact aC4 c s ht
theorem jX (c:UInt8):∀s:Str,(bA c s).length=s.count c+1
 |[]=>rfl
 |x::s=>by
  simp only [bA]
  split
  ·rename_i h;subst h;simp [jX x s]
  ·rename_i h
   have:=jX c s
   split
   ·rename_i h0;exact absurd h0 (kW c s)
   ·rename_i p r h0
    rw [h0] at this
    rw [List.count_cons_of_ne h]
    simpa using this
def mV:aC:=⟨[],[]⟩
def addrOf (s base:Str):aC:=if ixB 47 s < s.length then ⟨s.take (ixB 47 s),s.drop (ixB 47 s+1)⟩ else ⟨base,s⟩
def dG (s base:Str):aC×Bool:=if mR (addrOf s base) then (addrOf s base,true) else (mV,false)
end Go.Aw

namespace Go.Aw
def ixI (c:UInt8) (s:Str):Int:=if ixB c s < s.length then ixB c s else -1
theorem qW (c:UInt8):∀s:Str,Go.Lib.indexByte s c=ixI c s
 |[]=>by simp [Go.Lib.indexByte,ixI]
 |x::s=>by
  have ih:=qW c s
  have hl:=qY c s
  simp only [Go.Lib.indexByte,ih,ixI,zG,List.length_cons]
  by_cases h:x=c
  ·simp [h]
  ·have:(x == c)=false:=by simpa using h
   simp only [this,h,if_false,Bool.false_eq_true]
   by_cases h2:ixB c s < s.length
   ·have h3:((ixB c s:Int) == -1)=false:=by rw [beq_eq_false_iff_ne];omega
    simp [h2,h3]
   ·simp [h2]
theorem aH8 {P:Program} [aB P] {f:FuncId} {fn:Func} (hf:P.funcs[f]? =some fn) (hname:(fn.name == "runtime.NumGoroutine")=false)
  (hb:fn.body.isNone=true) (hn:Extern.findNext fn=none) (he:Extern.find fn=some Extern.BytealgIndexByte.indexByte) (s:Str) (c:UInt8):
  OkN P f [.str s,.int .u8 c.toNat] (.int .i64 (ixI c s)):=by
 intro w vs h
 obtain ⟨v1,h⟩:∃v,vs=[.string ⟨s.toArray⟩,.int .u8 (c.toNat:Int)]:=by
  cases vs with
  |nil=>simp [Rc] at h
  |cons a vs=>cases vs with
   |nil=>simp [Rc] at h
   |cons b vs=>cases vs with
    |nil=>
     simp only [Rc,R] at h
     obtain ⟨f1,f2,h1,h2,h3⟩:=h
     obtain ⟨f3,f4,h4,h5,h6⟩:=h2
     exact ⟨a,by rw [h1.1,h4.1]⟩
    |cons d vs=>
     simp only [Rc,R] at h
     obtain ⟨f1,f2,h1,h2,h3⟩:=h
     obtain ⟨f3,f4,h4,h5,h6⟩:=h2
     simp [Rc] at h5
 subst h
 refine ⟨.int .i64 (ixI c s),w,?_,rfl,Same.rfl,fun _ _=>by simp [R]⟩
 rw [run_callFunc_indexByte hf hname hb hn he]
 have:=Go.Lib.run_indexByteString (P:=P) ⟨s.toArray⟩ (c.toNat:Int) w
 simp only [Int.toNat_natCast] at this
 have hc:c.toNat.toUInt8=c:=by simp
 rw [hc,qW] at this
 rw [show [Value.string ⟨s.toArray⟩,Value.int .u8 (c.toNat:Int)].toArray=#[Value.string ⟨s.toArray⟩,Value.int .u8 (c.toNat:Int)] from rfl,this]
 rfl
end Go.Aw
