/-
  Proved here: what fits the shape of a type is some datum of it.
  No condition beyond what each statement spells out.
-/
import Derived.Test.YtaddkhdghlaalaaGreatDoorF3
import Derived.Test.YtaddkhdghlaalaaGreatDoorF6
import Derived.Test.YtaddkhdghlaalaaGreatDoorF1
import Derived.Laws.StandIn
import Derived.Lib.Bytealg
set_option linter.all false
namespace Go.Aw
def rgI (n:Int):Prop:= -9223372036854775808≤n∧n≤9223372036854775807
theorem aXz {α:Type} {row:List Sh} {n:Nat} {e:α→List AV} {p q:α→Prop} (h:∀r,jK row r→∃x,r=e x∧(p x∧q x)) {x:AV} (hx:jK [.sl n row] [x]):∃l:List α,x= .sl .view n (l.map e)∧(l.length≤9223372036854775807∧∀y∈l,p y)∧∀y∈l,q y:=by
 obtain ⟨rows,r',he,hlen,hrows,hr⟩:=bFj hx
 obtain ⟨l,rfl,hl⟩:=aRx h rows hrows
 simp only [List.cons.injEq] at he
 exact ⟨l,he.1,⟨by simpa using hlen,fun y hy=>(hl y hy).1⟩,fun y hy=>(hl y hy).2⟩
end Go.Aw

namespace Go.Aw
end Go.Aw

namespace Go.Aw
end Go.Aw

namespace Go.Aw
def n1 {α:Type} (l:List α):Nat:=aK (fun _=>1) l
@[simp] theorem bFm (u:List Nat) (b:Bool) (l:List bE):rtr (eZ u) b (l.map (bL .view))=l.map (bL .view):=aY (by intro x;simp) l
@[simp] theorem bGq (u:List Nat) (b:Bool) (l:List gW):rtr (eZ u) b (l.map (dY .view))=l.map (dY .view):=aY (by intro x;simp) l
end Go.Aw

namespace Go.Aw
def lowerB (c:UInt8):Bool:=decide (97≤c.toNat)&&decide (c.toNat≤122)
def qK (c:UInt8):Bool:=lowerB c || (decide (48≤c.toNat)&&decide (c.toNat≤57)) || decide (c.toNat=47)
def bU (s:Str):Bool:=s.all lowerB&&(decide (1≤s.length)&&decide (s.length≤8))
def gG (s:Str):Bool:=s.all qK&&(decide (1≤s.length)&&decide (s.length≤20))
def nT (a:aD):Bool:=bU a.host&&bU a.path
def oV (a:aD):Str:=if nT a then a.host++(47::a.path) else []
def ixB (c:UInt8) (s:Str):Nat:=s.findIdx (· == c)
theorem oU (c:UInt8) (s:Str):ixB c s≤s.length:=List.findIdx_le_length
theorem aNq (c:UInt8):ixB c []=0:=rfl
theorem wC (c x:UInt8) (s:Str):ixB c (x::s)=if x=c then 0 else ixB c s+1:=by
 unfold ixB
 rw [List.findIdx_cons]
 by_cases h:x=c
 ·subst h;simp
 ·have:(x == c)=false:=by simpa using h
  simp [this,h]
theorem aEa (c:UInt8):∀(p s:Str),(∀x∈p,x≠c)→ixB c (p++s)=p.length+ixB c s
 |[],s,_=>by simp
 |x::p,s,h=>by
  rw [List.cons_append,wC,if_neg (h x (by simp)),aEa c p s (fun y hy=>h y (by simp [hy]))]
  simp;omega
theorem bBg {c:UInt8} {s:Str} {k:Nat} (hk:k < s.length) (hc:s[k]=c) (hp:∀x∈s.take k,x≠c):ixB c s=k:=by
 have e:s=s.take k++s.drop k:=(List.take_append_drop k s).symm
 rw [e,aEa c _ _ hp,List.drop_eq_getElem_cons hk,wC,if_pos hc]
 simp;omega
theorem aSa {c:UInt8} {s:Str} (hp:∀x∈s,x≠c):ixB c s=s.length:=by
 have:=aEa c s [] hp
 simpa [aNq] using this
theorem bE6 {c:UInt8} {s:Str} (h:ixB c s < s.length):s[ixB c s]=c:=by
 have:=List.findIdx_getElem (p:=(· == c)) (w:=h)
 exact eq_of_beq this
theorem bD0 (c:UInt8) (s:Str):∀x∈s.take (ixB c s),x≠c:=by
 intro x hx
 obtain ⟨i,hi,rfl⟩:=List.getElem_of_mem hx
 have hi':i < ixB c s:=by have:=hi;simp at this;omega
 rw [List.getElem_take]
 have:=List.not_of_lt_findIdx (p:=(· == c)) (xs:=s) hi'
 simpa using this
def bF (c:UInt8):Str→List Str
 |[]=>[[]]
 |x::s=>if x=c then []::bF c s else match bF c s with
  |[]=>[[x]]
  |p::r=>(x::p)::r
theorem pR (c:UInt8):∀s,bF c s≠[]
 |[]=>by simp [bF]
 |x::s=>by
  simp only [bF]
  split
  ·simp
  ·split<;>simp
theorem aJo (c:UInt8):∀(p s:Str),(∀x∈p,x≠c)→bF c (p++c::s)=p::bF c s
 |[],s,_=>by simp [bF]
 |x::p,s,h=>by
  rw [List.cons_append]
  simp only [bF]
  rw [if_neg (h x (by simp)),aJo c p s (fun y hy=>h y (by simp [hy]))]
theorem aBc (c:UInt8):∀(p:Str),(∀x∈p,x≠c)→bF c p=[p]
 |[],_=>rfl
 |x::p,h=>by
  simp only [bF]
  rw [if_neg (h x (by simp)),aBc c p (fun y hy=>h y (by simp [hy]))]
theorem aGo (c:UInt8) (s:Str):bF c s=if ixB c s < s.length then s.take (ixB c s)::bF c (s.drop (ixB c s+1)) else [s]:=by
 have ht:=bD0 c s
 split
 ·rename_i h
  conv=>lhs;rw [←List.take_append_drop (ixB c s) s,List.drop_eq_getElem_cons h,bE6 h]
  exact aJo c _ _ ht
 ·rename_i h
  have:s.take (ixB c s)=s:=List.take_of_length_le (by omega)
  rw [this] at ht
  exact aBc c s ht
theorem jO (c:UInt8):∀s:Str,(bF c s).length=s.count c+1
 |[]=>rfl
 |x::s=>by
  simp only [bF]
  split
  ·rename_i h;subst h;simp [jO x s]
  ·rename_i h
   have:=jO c s
   split
   ·rename_i h0;exact absurd h0 (pR c s)
   ·rename_i p r h0
    rw [h0] at this
    rw [List.count_cons_of_ne h]
    simpa using this
def kZ:aD:=⟨[],[]⟩
def addrOf (s base:Str):aD:=if ixB 47 s < s.length then ⟨s.take (ixB 47 s),s.drop (ixB 47 s+1)⟩ else ⟨base,s⟩
def bO (s base:Str):aD×Bool:=if nT (addrOf s base) then (addrOf s base,true) else (kZ,false)
def jW (n:Str) (a:iJ):Bool:=decide (a.name=n)
def aP (l:List iJ) (n:Str):Str×Bool:=match l.find? (jW n) with
 |some a=>(a.value,true)
 |none=>([],false)
theorem aI8 {l:List iJ} {n:Str} {k:Nat} (h:k < l.length) (hf:jW n l[k]=true) (hn:∀x∈l.take k,jW n x=false):aP l n=(l[k].value,true):=by
 have e:l=l.take k++l[k]::l.drop (k+1):=by rw [←List.drop_eq_getElem_cons h,List.take_append_drop]
 have:l.find? (jW n)=some l[k]:=by
  generalize hx:l[k]=y at *
  rw [e,List.find?_append]
  have:(l.take k).find? (jW n)=none:=List.find?_eq_none.2 (fun x hx=>by simp [hn x hx])
  rw [this]
  simp [hf]
 simp [aP,this]
theorem aFj {l:List iJ} {n:Str} (hn:∀x∈l,jW n x=false):aP l n=([],false):=by
 have:l.find? (jW n)=none:=List.find?_eq_none.2 (fun x hx=>by simp [hn x hx])
 simp [aP,this]
end Go.Aw

namespace Go.Aw
def ixI (c:UInt8) (s:Str):Int:=if ixB c s < s.length then ixB c s else -1
theorem wX (c:UInt8):∀s:Str,Go.Lib.indexByte s c=ixI c s
 |[]=>by simp [Go.Lib.indexByte,ixI]
 |x::s=>by
  have ih:=wX c s
  have hl:=oU c s
  simp only [Go.Lib.indexByte,ih,ixI,wC,List.length_cons]
  by_cases h:x=c
  ·simp [h]
  ·have:(x == c)=false:=by simpa using h
   simp only [this,h,if_false,Bool.false_eq_true]
   by_cases h2:ixB c s < s.length
   ·have h3:((ixB c s:Int) == -1)=false:=by rw [beq_eq_false_iff_ne];omega
    simp [h2,h3]
   ·simp [h2]
theorem aPg {P:Program} [aB P] {f:FuncId} {fn:Func} (hf:P.funcs[f]? =some fn) (hname:(fn.name == "runtime.NumGoroutine")=false)
  (hb:fn.body.isNone=true) (hn:Extern.findNext fn=none) (he:Extern.find fn=some Extern.BytealgIndexByte.indexByte) (s:Str) (c:UInt8):
  OkN P f [.str s,.int .u8 c.toNat] (.int .i64 (ixI c s)):=by
 intro w vs h
 obtain ⟨v1,h⟩:∃v,vs=[.string ⟨s.toArray⟩,.int .u8 (c.toNat:Int)]:=by
  cases vs with
  |nil=>simp [Rc] at h
  |cons a vs=>cases vs with
   |nil=>simp [Rc] at h
   |cons b vs=>cases vs with
    |nil=>
     simp only [Rc,R] at h
     obtain ⟨f1,f2,h1,h2,h3⟩:=h
     obtain ⟨f3,f4,h4,h5,h6⟩:=h2
     exact ⟨a,by rw [h1.1,h4.1]⟩
    |cons d vs=>
     simp only [Rc,R] at h
     obtain ⟨f1,f2,h1,h2,h3⟩:=h
     obtain ⟨f3,f4,h4,h5,h6⟩:=h2
     simp [Rc] at h5
 subst h
 refine ⟨.int .i64 (ixI c s),w,?_,rfl,Same.rfl,fun _ _=>by simp [R]⟩
 rw [run_callFunc_indexByte hf hname hb hn he]
 have:=Go.Lib.run_indexByteString (P:=P) ⟨s.toArray⟩ (c.toNat:Int) w
 simp only [Int.toNat_natCast] at this
 have hc:c.toNat.toUInt8=c:=by simp
 rw [hc,wX] at this
 rw [show [Value.string ⟨s.toArray⟩,Value.int .u8 (c.toNat:Int)].toArray=#[Value.string ⟨s.toArray⟩,Value.int .u8 (c.toNat:Int)] from rfl,this]
 rfl
end Go.Aw
