/-
  Proved here: what fits the shape of a type is some datum of it.
  No condition beyond what each statement spells out.
-/
import Derived.Test.YtlnblmmohpcceaaGreatDoorDF3
import Derived.Test.YtlnblmmohpcceaaGreatDoorDF6
import Derived.Test.YtlnblmmohpcceaaGreatDoorDF1
import Derived.Laws.StandIn
import Derived.Lib.Bytealg
set_option linter.all false
namespace Go.Aw
theorem aHi {α:Type} {row:List Sh} {n:Nat} {e:α→List AV} {p q:α→Prop} (h:∀r,dP row r→∃x,r=e x∧(p x∧q x)) {x:AV} (hx:dP [.sl n row] [x]):∃l:List α,x= .sl .view n (l.map e)∧(l.length≤9223372036854775807∧∀y∈l,p y)∧∀y∈l,q y:=by
 obtain ⟨rows,r',he,hlen,hrows,hr⟩:=aNf hx
 obtain ⟨l,rfl,hl⟩:=aD4 h rows hrows
 simp only [List.cons.injEq] at he
 exact ⟨l,he.1,⟨by simpa using hlen,fun y hy=>(hl y hy).1⟩,fun y hy=>(hl y hy).2⟩
end Go.Aw

namespace Go.Aw
def lowerB (c:UInt8):Bool:=decide (97≤c.toNat)&&decide (c.toNat≤122)
def iO (c:UInt8):Bool:=lowerB c || (decide (48≤c.toNat)&&decide (c.toNat≤57)) || decide (c.toNat=47)
def bK (s:Str):Bool:=s.all lowerB&&(decide (1≤s.length)&&decide (s.length≤8))
def eG (s:Str):Bool:=s.all iO&&(decide (1≤s.length)&&decide (s.length≤20))
def mG (a:eH):Bool:=bK a.host&&bK a.path
def ixB (c:UInt8) (s:Str):Nat:=s.findIdx (· == c)
theorem pU (c:UInt8) (s:Str):ixB c s≤s.length:=List.findIdx_le_length
theorem aNh (c:UInt8):ixB c []=0:=rfl
theorem lI (c x:UInt8) (s:Str):ixB c (x::s)=if x=c then 0 else ixB c s+1:=by
 unfold ixB
 rw [List.findIdx_cons]
 by_cases h:x=c
 ·subst h;simp
 ·have:(x == c)=false:=by simpa using h
  simp [this,h]
theorem aMy {c:UInt8} {s:Str} (h:ixB c s < s.length):s[ixB c s]=c:=by
 have:=List.findIdx_getElem (p:=(· == c)) (w:=h)
 exact eq_of_beq this
theorem aKs (c:UInt8) (s:Str):∀x∈s.take (ixB c s),x≠c:=by
 intro x hx
 obtain ⟨i,hi,rfl⟩:=List.getElem_of_mem hx
 have hi':i < ixB c s:=by have:=hi;simp at this;omega
 rw [List.getElem_take]
 have:=List.not_of_lt_findIdx (p:=(· == c)) (xs:=s) hi'
 simpa using this
def aQ (c:UInt8):Str→List Str
 |[]=>[[]]
 |x::s=>if x=c then []::aQ c s else match aQ c s with
  |[]=>[[x]]
  |p::r=>(x::p)::r
theorem jQ (c:UInt8):∀s,aQ c s≠[]
 |[]=>by simp [aQ]
 |x::s=>by
  simp only [aQ]
  split
  ·simp
  ·split<;>simp
theorem nD (c:UInt8):∀(p s:Str),(∀x∈p,x≠c)→aQ c (p++c::s)=p::aQ c s
 |[],s,_=>by simp [aQ]
 |x::p,s,h=>by
  rw [List.cons_append]
  simp only [aQ]
  rw [if_neg (h x (by simp)),nD c p s (fun y hy=>h y (by simp [hy]))]
theorem qB (c:UInt8):∀(p:Str),(∀x∈p,x≠c)→aQ c p=[p]
 |[],_=>rfl
 |x::p,h=>by
  simp only [aQ]
  rw [if_neg (h x (by simp)),qB c p (fun y hy=>h y (by simp [hy]))]
theorem aB0 (c:UInt8) (s:Str):aQ c s=if ixB c s < s.length then s.take (ixB c s)::aQ c (s.drop (ixB c s+1)) else [s]:=by
 have ht:=aKs c s
 split
 ·rename_i h
  conv=>lhs;rw [←List.take_append_drop (ixB c s) s,List.drop_eq_getElem_cons h,aMy h]
  exact nD c _ _ ht
 ·rename_i h
  have:s.take (ixB c s)=s:=List.take_of_length_le (by omega)
  rw [this] at ht
  exact qB c s ht
theorem jR (c:UInt8):∀s:Str,(aQ c s).length=s.count c+1
 |[]=>rfl
 |x::s=>by
  simp only [aQ]
  split
  ·rename_i h;subst h;simp [jR x s]
  ·rename_i h
   have:=jR c s
   split
   ·rename_i h0;exact absurd h0 (jQ c s)
   ·rename_i p r h0
    rw [h0] at this
    rw [List.count_cons_of_ne h]
    simpa using this
def fK (n:Str) (a:fZ):Bool:=decide (a.name=n)
def iE (l:List fZ) (n:Str):Str×Bool:=match l.find? (fK n) with
 |some a=>(a.value,true)
 |none=>([],false)
theorem aGa {l:List fZ} {n:Str} {k:Nat} (h:k < l.length) (hf:fK n l[k]=true) (hn:∀x∈l.take k,fK n x=false):iE l n=(l[k].value,true):=by
 have e:l=l.take k++l[k]::l.drop (k+1):=by rw [←List.drop_eq_getElem_cons h,List.take_append_drop]
 have:l.find? (fK n)=some l[k]:=by
  generalize hx:l[k]=y at *
  rw [e,List.find?_append]
  have:(l.take k).find? (fK n)=none:=List.find?_eq_none.2 (fun x hx=>by simp [hn x hx])
  rw [this]
  simp [hf]
 simp [iE,this]
theorem aC8 {l:List fZ} {n:Str} (hn:∀x∈l,fK n x=false):iE l n=([],false):=by
 have:l.find? (fK n)=none:=List.find?_eq_none.2 (fun x hx=>by simp [hn x hx])
 simp [iE,this]
end Go.Aw

namespace Go.Aw
def ixI (c:UInt8) (s:Str):Int:=if ixB c s < s.length then ixB c s else -1
theorem mW (c:UInt8):∀s:Str,Go.Lib.indexByte s c=ixI c s
 |[]=>by simp [Go.Lib.indexByte,ixI]
 |x::s=>by
  have ih:=mW c s
  have hl:=pU c s
  simp only [Go.Lib.indexByte,ih,ixI,lI,List.length_cons]
  by_cases h:x=c
  ·simp [h]
  ·have:(x == c)=false:=by simpa using h
   simp only [this,h,if_false,Bool.false_eq_true]
   by_cases h2:ixB c s < s.length
   ·have h3:((ixB c s:Int) == -1)=false:=by rw [beq_eq_false_iff_ne];omega
    simp [h2,h3]
   ·simp [h2]
theorem aDb {P:Program} [aB P] {f:FuncId} {fn:Func} (hf:P.funcs[f]? =some fn) (hname:(fn.name == "runtime.NumGoroutine")=false)
  (hb:fn.body.isNone=true) (hn:Extern.findNext fn=none) (he:Extern.find fn=some Extern.BytealgIndexByte.indexByte) (s:Str) (c:UInt8):
  OkN P f [.str s,.int .u8 c.toNat] (.int .i64 (ixI c s)):=by
 intro w vs h
 obtain ⟨v1,h⟩:∃v,vs=[.string ⟨s.toArray⟩,.int .u8 (c.toNat:Int)]:=by
  cases vs with
  |nil=>simp [Rc] at h
  |cons a vs=>cases vs with
   |nil=>simp [Rc] at h
   |cons b vs=>cases vs with
    |nil=>
     simp only [Rc,R] at h
     obtain ⟨f1,f2,h1,h2,h3⟩:=h
     obtain ⟨f3,f4,h4,h5,h6⟩:=h2
     exact ⟨a,by rw [h1.1,h4.1]⟩
    |cons d vs=>
     simp only [Rc,R] at h
     obtain ⟨f1,f2,h1,h2,h3⟩:=h
     obtain ⟨f3,f4,h4,h5,h6⟩:=h2
     simp [Rc] at h5
 subst h
 refine ⟨.int .i64 (ixI c s),w,?_,rfl,Same.rfl,fun _ _=>by simp [R]⟩
 rw [run_callFunc_indexByte hf hname hb hn he]
 have:=Go.Lib.run_indexByteString (P:=P) ⟨s.toArray⟩ (c.toNat:Int) w
 simp only [Int.toNat_natCast] at this
 have hc:c.toNat.toUInt8=c:=by simp
 rw [hc,mW] at this
 rw [show [Value.string ⟨s.toArray⟩,Value.int .u8 (c.toNat:Int)].toArray=#[Value.string ⟨s.toArray⟩,Value.int .u8 (c.toNat:Int)] from rfl,this]
 rfl
end Go.Aw
