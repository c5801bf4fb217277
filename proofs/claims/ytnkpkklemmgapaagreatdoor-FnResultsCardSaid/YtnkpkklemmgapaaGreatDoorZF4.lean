/- Proved here: steps towards the statement of this claim. No condition. -/
import Derived.Test.YtnkpkklemmgapaaGreatDoorZF6
import Derived.Lib.Bytealg
set_option linter.all false
namespace Go.Aw
open List
def Sd(n:Int):Prop:= -9223372036854775808<=n/\n<=9223372036854775807
def ED(x:gV):Prop:=Sd x.parent
def Um(x:aY):Prop:=(∀y∈x.nodes,ED y)/\(∀y∈x.opens,Sd y)
def Iq(x:nZ):Prop:=Sd x.color
def wy(x:bW):Prop:=(∀y∈x.rules,Iq y)
def EE(x:mI):Prop:=Um x.builder/\wy x.sN
theorem iq{α:Type}{row:List Sh}{n:Nat}{e:α->List AV}{p q:α->Prop}(h:∀r,nX row r->∃x,r=e x/\(p x/\q x)){x:AV}(hx:nX [.sl n row] [x]):∃l:List α,x= .sl .view n (l.map e)/\(l.length<=9223372036854775807/\∀y∈l,p y)/\∀y∈l,q y:=by obtain⟨rows,r',he,hlen,Xo,hr⟩:=aGs hx;obtain⟨l,rfl,hl⟩:=Xp h rows Xo;simp only[List.cons.injEq]at he;exact⟨l,he.1,⟨by simpa using hlen,λy hy=>(hl y hy).1⟩,λy hy=>(hl y hy).2⟩
def n1{α:Type}(l:List α):Nat:=bB (λ_=>1) l
@[simp] theorem aDl(u:List Nat)(b:Bool)(l:List bU):iI (gU u) b (l.map (eG .view))=l.map (eG .view):=bJ (by intro x;simp) l
@[simp] theorem aF3(u:List Nat)(b:Bool)(l:List gV):iI (gU u) b (l.map (fC .view))=l.map (fC .view):=bJ (by intro x;simp) l
def lowerB(c:UInt8):Bool:=decide (97<=c.toNat)&&decide (c.toNat<=122)
def Ai(c:UInt8):Bool:=lowerB c || (decide (48<=c.toNat)&&decide (c.toNat<=57)) || decide (c.toNat=47)
def dJ(s:aU):Bool:=s.all lowerB&&(decide (1<=s.length)&&decide (s.length<=8))
def isValue(s:aU):Bool:=s.all Ai&&(decide (1<=s.length)&&decide (s.length<=20))
def vG(a:aK):Bool:=dJ a.host&&dJ a.path
def dG(a:aK):aU:=if vG a then a.host++(47::a.path)else []
def kC(c:UInt8)(s:aU):Nat:=s.findIdx (· == c)
theorem xK(c:UInt8)(s:aU):kC c s<=s.length:=findIdx_le_length
theorem aG9(c:UInt8):kC c []=0:=rfl
theorem Ev(c x:UInt8)(s:aU):kC c (x::s)=if x=c then 0 else kC c s+1:=by
 unfold kC;rw[findIdx_cons];by_cases h:x=c
 .subst h;simp
 .have:(x == c)=false:=by simpa using h
  simp[this,h]
theorem JI(c:UInt8):∀(p s:aU),(∀x∈p,x≠c)->kC c (p++s)=p.length+kC c s
 |[],s,_=>by simp
 |x::p,s,h=>by rw[cW,Ev,eK (h x (by simp)),JI c p s (λy hy=>h y (by simp[hy]))];simp;omega
theorem aCa{c:UInt8}{s:aU}{k:Nat}(hk:k<s.length)(hc:s[k]=c)(hp:∀x∈s.take k,x≠c):kC c s=k:=by have e:s=s.take k++s.drop k:=(mN k s).symm;rw[e,JI c _ _ hp,oS hk,Ev,eW hc];simp;omega
theorem Xy{c:UInt8}{s:aU}(hp:∀x∈s,x≠c):kC c s=s.length:=by have:=JI c s [] hp;simpa [aG9]using this
theorem aHa{c:UInt8}{s:aU}(h:kC c s<s.length):s[kC c s]=c:=by have:=findIdx_getElem (p:=(· == c)) (w:=h);exact eq_of_beq this
theorem aCb(c:UInt8)(s:aU):∀x∈s.take (kC c s),x≠c:=by
 intro x hx;obtain⟨i,hi,rfl⟩:=DQ hx;have hi':i<kC c s:=by have:=hi;simp at this;omega
 rw[getElem_take];have:=not_of_lt_findIdx (p:=(· == c)) (xs:=s) hi';simpa using this
def dP(c:UInt8):aU->List aU
 |[]=>[[]]
 |x::s=>if x=c then []::dP c s else match dP c s with
  |[]=>[[x]]
  |p::r=>(x::p)::r
theorem uD(c:UInt8):∀s,dP c s≠[]
 |[]=>by simp[dP]
 |x::s=>by
  simp only[dP];split
  .simp
  .split<;>simp
theorem Pv(c:UInt8):∀(p s:aU),(∀x∈p,x≠c)->dP c (p++c::s)=p::dP c s
 |[],s,_=>by simp[dP]
 |x::p,s,h=>by rw[cW];simp only[dP];rw[eK (h x (by simp)),Pv c p s (λy hy=>h y (by simp[hy]))]
theorem Ew(c:UInt8):∀(p:aU),(∀x∈p,x≠c)->dP c p=[p]
 |[],_=>rfl
 |x::p,h=>by simp only[dP];rw[eK (h x (by simp)),Ew c p (λy hy=>h y (by simp[hy]))]
theorem Lp(c:UInt8)(s:aU):dP c s=if kC c s<s.length then s.take (kC c s)::dP c (s.drop (kC c s+1))else [s]:=by
 have ht:=aCb c s;split
 .rename_i h;conv=>lhs;rw[<-mN (kC c s) s,oS h,aHa h]
  exact Pv c _ _ ht
 .rename_i h;have:s.take (kC c s)=s:=eJ (by omega);rw[this]at ht;exact Ew c s ht
theorem jU(c:UInt8):∀s:aU,(dP c s).length=s.count c+1
 |[]=>rfl
 |x::s=>by
  simp only[dP];split
  .rename_i h;subst h;simp[jU x s]
  .rename_i h;have:=jU c s;split
   .rename_i h0;exact absurd h0 (uD c s)
   .rename_i p r h0;rw[h0]at this;rw[count_cons_of_ne h];simpa using this
def Aj:aK:=⟨[],[]⟩
def addrOf(s base:aU):aK:=if kC 47 s<s.length then⟨s.take (kC 47 s),s.drop (kC 47 s+1)⟩else⟨base,s⟩
def cB(s base:aU):aK×Bool:=if vG (addrOf s base)then(addrOf s base,true)else(Aj,false)
def BK(n:aU)(a:nY):Bool:=decide (a.name=n)
def bD(l:List nY)(n:aU):aU×Bool:=match l.find? (BK n)with
 |some a=>(a.value,true)
 |none=>([],false)
theorem Xz{l:List nY}{n:aU}{k:Nat}(h:k<l.length)(hf:BK n l[k]=true)(hn:∀x∈l.take k,BK n x=false):bD l n=(l[k].value,true):=by
 have e:l=l.take k++l[k]::l.drop (k+1):=by rw[<-oS h,mN]
 have:l.find? (BK n)=some l[k]:=by generalize hx:l[k]=y at*;rw[e,find?_append];have:(l.take k).find? (BK n)=none:=Dg.2 (λx hx=>by simp[hn x hx]);rw[this];simp[hf]
 simp[bD,this]
theorem RX{l:List nY}{n:aU}(hn:∀x∈l,BK n x=false):bD l n=([],false):=by have:l.find? (BK n)=none:=Dg.2 (λx hx=>by simp[hn x hx]);simp[bD,this]
def E5(c:UInt8)(s:aU):Int:=if kC c s<s.length then kC c s else -1
theorem zN(c:UInt8):∀s:aU,Go.Lib.indexByte s c=E5 c s
 |[]=>by simp[Go.Lib.indexByte,E5]
 |x::s=>by
  have ih:=zN c s;have hl:=xK c s;simp only[Go.Lib.indexByte,ih,E5,Ev,dT];by_cases h:x=c
  .simp [h]
  .have:(x == c)=false:=by simpa using h
   simp only[this,h,eS,cX];by_cases h2:kC c s<s.length
   .have h3:((kC c s:Int) == -1)=false:=by rw[beq_eq_false_iff_ne];omega
    simp[h2,h3]
   .simp [h2]
theorem RY{P:Program}[aB P]{f:FuncId}{fn:Func}(hf:P.funcs[f]? =some fn)(aCc:(fn.name == "runtime.NumGoroutine")=false)
  (hb:fn.body.isNone=true) (hn:Extern.findNext fn=none) (he:Extern.find fn=some Extern.BytealgIndexByte.indexByte) (s:aU) (c:UInt8):
  OkN P f [.str s,.int .u8 c.toNat] (.int .i64 (E5 c s)):=by
 intro w vs h;obtain⟨v1,h⟩:∃v,vs=[.string ⟨s.toArray⟩,.int .u8 (c.toNat:Int)]:=by
  cases vs with
  |nil=>simp[Rc]at h
  |cons a vs=>cases vs with
   |nil=>simp[Rc]at h
   |cons b vs=>cases vs with
    |nil=>simp only[Rc,R]at h;obtain⟨f1,f2,h1,h2,h3⟩:=h;obtain⟨f3,f4,h4,h5,h6⟩:=h2;exact⟨a,by rw[h1.1,h4.1]⟩
    |cons d vs=>simp only[Rc,R]at h;obtain⟨f1,f2,h1,h2,h3⟩:=h;obtain⟨f3,f4,h4,h5,h6⟩:=h2;simp[Rc]at h5
 subst h;refine⟨.int .i64 (E5 c s),w,?_,rfl,nV.rfl,λ_ _=>by simp[R]⟩;rw[run_callFunc_indexByte hf aCc hb hn he];have:=Go.Lib.run_indexByteString (P:=P) ⟨s.toArray⟩ (c.toNat:Int) w;simp only[pD]at this;have hc:c.toNat.toUInt8=c:=by simp
 rw[hc,zN]at this;rw[show [Value.string ⟨s.toArray⟩,Value.int .u8 (c.toNat:Int)].toArray=#[Value.string ⟨s.toArray⟩,Value.int .u8 (c.toNat:Int)]from rfl,this];rfl
end Go.Aw
