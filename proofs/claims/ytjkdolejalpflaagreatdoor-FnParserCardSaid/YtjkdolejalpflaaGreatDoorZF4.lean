/- Proved here: steps towards the statement of this claim. No condition. -/
import Derived.Test.YtjkdolejalpflaaGreatDoorZF6
import Derived.Lib.Bytealg
set_option linter.all false
namespace Go.Aw
open List
def rgI(n:Int):Prop:= -9223372036854775808<=n/\n<=9223372036854775807
theorem VA{α:Type}{row:List Sh}{n:Nat}{e:α->List AV}{p q:α->Prop}(h:∀r,mR row r->∃x,r=e x/\(p x/\q x)){x:AV}(hx:mR [.sl n row] [x]):∃l:List α,x= .sl .view n (l.map e)/\(l.length<=9223372036854775807/\∀y∈l,p y)/\∀y∈l,q y:=by obtain⟨rows,r',he,hlen,Sl,hr⟩:=zi hx;obtain⟨l,rfl,hl⟩:=Sm h rows Sl;simp only[List.cons.injEq]at he;exact⟨l,he.1,⟨by simpa using hlen,λy hy=>(hl y hy).1⟩,λy hy=>(hl y hy).2⟩
def n1{α:Type}(l:List α):Nat:=bM (λ_=>1) l
@[simp] theorem pq(u:List Nat)(b:Bool)(l:List bD):iL (iV u) b (l.map (bE .view))=l.map (bE .view):=bB (by intro x;simp) l
@[simp] theorem xy(u:List Nat)(b:Bool)(l:List gQ):iL (iV u) b (l.map (dK .view))=l.map (dK .view):=bB (by intro x;simp) l
def lowerB(c:UInt8):Bool:=decide (97<=c.toNat)&&decide (c.toNat<=122)
def tC(c:UInt8):Bool:=lowerB c || (decide (48<=c.toNat)&&decide (c.toNat<=57)) || decide (c.toNat=47)
def bP(s:aX):Bool:=s.all lowerB&&(decide (1<=s.length)&&decide (s.length<=8))
def isValue(s:aX):Bool:=s.all tC&&(decide (1<=s.length)&&decide (s.length<=20))
def uK(a:gH):Bool:=bP a.host&&bP a.path
def gD(c:UInt8)(s:aX):Nat:=s.findIdx (· == c)
theorem uL(c:UInt8)(s:aX):gD c s<=s.length:=findIdx_le_length
theorem Xb(c:UInt8):gD c []=0:=rfl
theorem xB(c x:UInt8)(s:aX):gD c (x::s)=if x=c then 0 else gD c s+1:=by
 unfold gD;rw[findIdx_cons];by_cases h:x=c
 .subst h;simp
 .have:(x == c)=false:=by simpa using h
  simp[this,h]
theorem Lg(c:UInt8):∀(p s:aX),(∀x∈p,x≠c)->gD c (p++s)=p.length+gD c s
 |[],s,_=>by simp
 |x::p,s,h=>by rw[cM,xB,cU (h x (by simp)),Lg c p s (λy hy=>h y (by simp[hy]))];simp;omega
theorem Vl{c:UInt8}{s:aX}{k:Nat}(hk:k<s.length)(hc:s[k]=c)(hp:∀x∈s.take k,x≠c):gD c s=k:=by have e:s=s.take k++s.drop k:=(mT k s).symm;rw[e,Lg c _ _ hp,mB hk,xB,eA hc];simp;omega
theorem Sw{c:UInt8}{s:aX}(hp:∀x∈s,x≠c):gD c s=s.length:=by have:=Lg c s [] hp;simpa [Xb]using this
theorem Xc{c:UInt8}{s:aX}(h:gD c s<s.length):s[gD c s]=c:=by have:=findIdx_getElem (p:=(· == c)) (w:=h);exact eq_of_beq this
theorem ik(c:UInt8)(s:aX):∀x∈s.take (gD c s),x≠c:=by
 intro x hx;obtain⟨i,hi,rfl⟩:=getElem_of_mem hx;have hi':i<gD c s:=by have:=hi;simp at this;omega
 rw[getElem_take];have:=not_of_lt_findIdx (p:=(· == c)) (xs:=s) hi';simpa using this
def dP(c:UInt8):aX->List aX
 |[]=>[[]]
 |x::s=>if x=c then []::dP c s else match dP c s with
  |[]=>[[x]]
  |p::r=>(x::p)::r
theorem tF(c:UInt8):∀s,dP c s≠[]
 |[]=>by simp[dP]
 |x::s=>by
  simp only[dP];split
  .simp
  .split<;>simp
theorem Lh(c:UInt8):∀(p s:aX),(∀x∈p,x≠c)->dP c (p++c::s)=p::dP c s
 |[],s,_=>by simp[dP]
 |x::p,s,h=>by rw[cM];simp only[dP];rw[cU (h x (by simp)),Lh c p s (λy hy=>h y (by simp[hy]))]
theorem BV(c:UInt8):∀(p:aX),(∀x∈p,x≠c)->dP c p=[p]
 |[],_=>rfl
 |x::p,h=>by simp only[dP];rw[cU (h x (by simp)),BV c p (λy hy=>h y (by simp[hy]))]
theorem Oz(c:UInt8)(s:aX):dP c s=if gD c s<s.length then s.take (gD c s)::dP c (s.drop (gD c s+1))else [s]:=by
 have ht:=ik c s;split
 .rename_i h;conv=>lhs;rw[<-mT (gD c s) s,mB h,Xc h]
  exact Lh c _ _ ht
 .rename_i h;have:s.take (gD c s)=s:=eL (by omega);rw[this]at ht;exact BV c s ht
theorem iI(c:UInt8):∀s:aX,(dP c s).length=s.count c+1
 |[]=>rfl
 |x::s=>by
  simp only[dP];split
  .rename_i h;subst h;simp[iI x s]
  .rename_i h;have:=iI c s;split
   .rename_i h0;exact absurd h0 (tF c s)
   .rename_i p r h0;rw[h0]at this;rw[count_cons_of_ne h];simpa using this
def uM:gH:=⟨[],[]⟩
def addrOf(s base:aX):gH:=if gD 47 s<s.length then⟨s.take (gD 47 s),s.drop (gD 47 s+1)⟩else⟨base,s⟩
def bQ(s base:aX):gH×Bool:=if uK (addrOf s base)then(addrOf s base,true)else(uM,false)
def mI(n:aX)(a:lD):Bool:=decide (a.name=n)
def aI(l:List lD)(n:aX):aX×Bool:=match l.find? (mI n)with
 |some a=>(a.value,true)
 |none=>([],false)
theorem II{l:List lD}{n:aX}{k:Nat}(h:k<l.length)(hf:mI n l[k]=true)(hn:∀x∈l.take k,mI n x=false):aI l n=(l[k].value,true):=by
 have e:l=l.take k++l[k]::l.drop (k+1):=by rw[<-mB h,mT]
 have:l.find? (mI n)=some l[k]:=by generalize hx:l[k]=y at*;rw[e,find?_append];have:(l.take k).find? (mI n)=none:=find?_eq_none.2 (λx hx=>by simp[hn x hx]);rw[this];simp[hf]
 simp[aI,this]
theorem DI{l:List lD}{n:aX}(hn:∀x∈l,mI n x=false):aI l n=([],false):=by have:l.find? (mI n)=none:=find?_eq_none.2 (λx hx=>by simp[hn x hx]);simp[aI,this]
def Sy(c:UInt8)(s:aX):Int:=if gD c s<s.length then gD c s else -1
theorem wK(c:UInt8):∀s:aX,Go.Lib.indexByte s c=Sy c s
 |[]=>by simp[Go.Lib.indexByte,Sy]
 |x::s=>by
  have ih:=wK c s;have hl:=uL c s;simp only[Go.Lib.indexByte,ih,Sy,xB,eE];by_cases h:x=c
  .simp [h]
  .have:(x == c)=false:=by simpa using h
   simp only[this,h,eK,cJ];by_cases h2:gD c s<s.length
   .have h3:((gD c s:Int) == -1)=false:=by rw[Bx];omega
    simp[h2,h3]
   .simp [h2]
theorem Nn{P:Program}[aB P]{f:FuncId}{fn:Func}(hf:P.funcs[f]? =some fn)(Sz:(fn.name == "runtime.NumGoroutine")=false)
  (hb:fn.body.isNone=true) (hn:Extern.findNext fn=none) (he:Extern.find fn=some Extern.BytealgIndexByte.indexByte) (s:aX) (c:UInt8):
  OkN P f [.str s,.int .u8 c.toNat] (.int .i64 (Sy c s)):=by
 intro w vs h;obtain⟨v1,h⟩:∃v,vs=[.string ⟨s.toArray⟩,.int .u8 (c.toNat:Int)]:=by
  cases vs with
  |nil=>simp[Rc]at h
  |cons a vs=>cases vs with
   |nil=>simp[Rc]at h
   |cons b vs=>cases vs with
    |nil=>simp only[Rc,R]at h;obtain⟨f1,f2,h1,h2,h3⟩:=h;obtain⟨f3,f4,h4,h5,h6⟩:=h2;exact⟨a,by rw[h1.1,h4.1]⟩
    |cons d vs=>simp only[Rc,R]at h;obtain⟨f1,f2,h1,h2,h3⟩:=h;obtain⟨f3,f4,h4,h5,h6⟩:=h2;simp[Rc]at h5
 subst h;refine⟨.int .i64 (Sy c s),w,?_,rfl,iW.rfl,λ_ _=>by simp[R]⟩;rw[run_callFunc_indexByte hf Sz hb hn he];have:=Go.Lib.run_indexByteString (P:=P) ⟨s.toArray⟩ (c.toNat:Int) w;simp only[rK]at this;have hc:c.toNat.toUInt8=c:=by simp
 rw[hc,wK]at this;rw[show [Value.string ⟨s.toArray⟩,Value.int .u8 (c.toNat:Int)].toArray=#[Value.string ⟨s.toArray⟩,Value.int .u8 (c.toNat:Int)]from rfl,this];rfl
end Go.Aw
