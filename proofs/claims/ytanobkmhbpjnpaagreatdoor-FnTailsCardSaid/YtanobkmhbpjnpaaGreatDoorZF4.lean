/- Steps. No condition. -/
import Derived.Test.YtanobkmhbpjnpaaGreatDoorZF6
import Derived.Lib.Bytealg
set_option linter.all false
namespace Go.Aw
open List
def K6(n:Int):Prop:= -9223372036854775808<=n/\n<=9223372036854775807
def aHk(x:kG):Prop:=K6 x.wV
def aCw(x:bC):Prop:=(∀y∈x.aJ,aHk y)/\(∀y∈x.bD,K6 y)
def K7{α:Type}{row:List Sh}{n:Nat}{e:α->List AV}{p q:α->Prop}(h:∀r,sI row r->∃x,r=e x/\(p x/\q x)){x:AV}(hx:sI [.sl n row] [x]):∃l:List α,x= .sl .view n (l.map e)/\(l.length<=9223372036854775807/\∀y∈l,p y)/\∀y∈l,q y:=by obtain⟨rows,r',he,dF,bu,hr⟩:=aLg hx;obtain⟨l,rfl,hl⟩:=bz h rows bu;simp only[List.cons.injEq]at he;exact⟨l,he.1,⟨by simpa using dF,λy hy=>(hl y hy).1⟩,λy hy=>(hl y hy).2⟩
def n1{α:Type}(l:List α):Nat:=bU (λ_=>1) l
@[simp] def aIb(u:List Nat)(b:Bool)(l:List bM):lW (lV u) b (l.map (dK .view))=l.map (dK .view):=dD (by intro x;simp) l
@[simp] def aKo(u:List Nat)(b:Bool)(l:List kG):lW (lV u) b (l.map (gU .view))=l.map (gU .view):=dD (by intro x;simp) l
def lowerB(c:UInt8):Bool:=decide (97<=c.toNat)&&decide (c.toNat<=122)
def yQ(c:UInt8):Bool:=lowerB c || (decide (48<=c.toNat)&&decide (c.toNat<=57)) || decide (c.toNat=47)
def dW(s:bE):Bool:=s.all lowerB&&(decide (1<=s.length)&&decide (s.length<=8))
def kP(s:bE):Bool:=s.all yQ&&(decide (1<=s.length)&&decide (s.length<=20))
def xV(a:aR):Bool:=dW a.bN&&dW a.iD
def oG(a:aR):bE:=if xV a then a.bN++(47::a.iD)else []
def jQ(c:UInt8)(s:bE):Nat:=s.findIdx (· == c)
def vL(c:UInt8)(s:bE):jQ c s<=s.length:=findIdx_le_length
def aAx(c:UInt8):jQ c []=0:=rfl
def yD(c x:UInt8)(s:bE):jQ c (x::s)=if x=c then 0 else jQ c s+1:=by
 unfold jQ;rw[findIdx_cons];by_cases h:x=c
 .subst h;simp
 .have:(x == c)=false:=by simpa using h
  simp[this,h]
def Hq(c:UInt8):∀(p s:bE),(∀x∈p,x≠c)->jQ c (p++s)=p.length+jQ c s
 |[],s,_=>by simp
 |x::p,s,h=>by rw[cW,yD,eC (h x (by simp)),Hq c p s (λy hy=>h y (by simp[hy]))];simp;omega
def F6{c:UInt8}{s:bE}{k:Nat}(hk:k<s.length)(hc:s[k]=c)(hp:∀x∈s.take k,x≠c):jQ c s=k:=by have e:s=s.take k++s.drop k:=(pC k s).symm;rw[e,Hq c _ _ hp,oY hk,yD,eM hc];simp;omega
def Tf{c:UInt8}{s:bE}(hp:∀x∈s,x≠c):jQ c s=s.length:=by have:=Hq c s [] hp;simpa [aAx]using this
def aAy{c:UInt8}{s:bE}(h:jQ c s<s.length):s[jQ c s]=c:=by have:=findIdx_getElem (p:=(· == c)) (w:=h);exact eq_of_beq this
def aGw(c:UInt8)(s:bE):∀x∈s.take (jQ c s),x≠c:=by
 intro x hx;obtain⟨i,hi,rfl⟩:=getElem_of_mem hx;have hi':i<jQ c s:=by have:=hi;simp at this;omega
 rw[getElem_take];have:=not_of_lt_findIdx (p:=(· == c)) (xs:=s) hi';simpa using this
def dQ(c:UInt8):bE->List bE
 |[]=>[[]]
 |x::s=>if x=c then []::dQ c s else match dQ c s with
  |[]=>[[x]]
  |p::r=>(x::p)::r
def sD(c:UInt8):∀s,dQ c s≠[]
 |[]=>by simp[dQ]
 |x::s=>by
  simp only[dQ];split
  .simp
  .split<;>simp
def EM(c:UInt8):∀(p s:bE),(∀x∈p,x≠c)->dQ c (p++c::s)=p::dQ c s
 |[],s,_=>by simp[dQ]
 |x::p,s,h=>by rw[cW];simp only[dQ];rw[eC (h x (by simp)),EM c p s (λy hy=>h y (by simp[hy]))]
def CG(c:UInt8):∀(p:bE),(∀x∈p,x≠c)->dQ c p=[p]
 |[],_=>rfl
 |x::p,h=>by simp only[dQ];rw[eC (h x (by simp)),CG c p (λy hy=>h y (by simp[hy]))]
def Oi(c:UInt8)(s:bE):dQ c s=if jQ c s<s.length then s.take (jQ c s)::dQ c (s.drop (jQ c s+1))else [s]:=by
 have ht:=aGw c s;split
 .rename_i h;conv=>lhs;rw[<-pC (jQ c s) s,oY h,aAy h]
  exact EM c _ _ ht
 .rename_i h;have:s.take (jQ c s)=s:=eN (by omega);rw[this]at ht;exact CG c s ht
def kW(c:UInt8):∀s:bE,(dQ c s).length=s.count c+1
 |[]=>rfl
 |x::s=>by
  simp only[dQ];split
  .rename_i h;subst h;simp[kW x s]
  .rename_i h;have:=kW c s;split
   .rename_i h0;exact absurd h0 (sD c s)
   .rename_i p r h0;rw[h0]at this;rw[count_cons_of_ne h];simpa using this
def yR:aR:=⟨[],[]⟩
def addrOf(s base:bE):aR:=if jQ 47 s<s.length then⟨s.take (jQ 47 s),s.drop (jQ 47 s+1)⟩else⟨base,s⟩
def dR(s base:bE):aR×Bool:=if xV (addrOf s base)then(addrOf s base,true)else(yR,false)
def rT(n:bE)(a:pV):Bool:=decide (a.name=n)
def aX(l:List pV)(n:bE):bE×Bool:=match l.find? (rT n)with
 |some a=>(a.value,true)
 |none=>([],false)
def PO{l:List pV}{n:bE}{k:Nat}(h:k<l.length)(hf:rT n l[k]=true)(hn:∀x∈l.take k,rT n x=false):aX l n=(l[k].value,true):=by
 have e:l=l.take k++l[k]::l.drop (k+1):=by rw[<-oY h,pC]
 have:l.find? (rT n)=some l[k]:=by generalize hx:l[k]=y at*;rw[e,find?_append];have:(l.take k).find? (rT n)=none:=Fi.2 (λx hx=>by simp[hn x hx]);rw[this];simp[hf]
 simp[aX,this]
def JM{l:List pV}{n:bE}(hn:∀x∈l,rT n x=false):aX l n=([],false):=by have:l.find? (rT n)=none:=Fi.2 (λx hx=>by simp[hn x hx]);simp[aX,this]
def dx(c:UInt8)(s:bE):Int:=if jQ c s<s.length then jQ c s else -1
def Ca(c:UInt8):∀s:bE,Go.Lib.indexByte s c=dx c s
 |[]=>by simp[Go.Lib.indexByte,dx]
 |x::s=>by
  have ih:=Ca c s;have hl:=vL c s;simp only[Go.Lib.indexByte,ih,dx,yD,eL];by_cases h:x=c
  .simp [h]
  .have:(x == c)=false:=by simpa using h
   simp only[this,h,eW,cY];by_cases h2:jQ c s<s.length
   .have h3:((jQ c s:Int) == -1)=false:=by rw[EV];omega
    simp[h2,h3]
   .simp [h2]
def VM{P:Program}[aG P]{f:FuncId}{fn:Func}(hf:P.funcs[f]? =some fn)(dz:(fn.name == "runtime.NumGoroutine")=false)
  (hb:fn.body.isNone=true) (hn:Extern.findNext fn=none) (he:Extern.find fn=some Extern.BytealgIndexByte.indexByte) (s:bE) (c:UInt8):
  OkN P f [.str s,.int .u8 c.toNat] (.int .i64 (dx c s)):=by
 intro w vs h;obtain⟨v1,h⟩:∃v,vs=[.string ⟨s.toArray⟩,.int .u8 (c.toNat:Int)]:=by
  cases vs with
  |nil=>simp[Rc]at h
  |cons a vs=>cases vs with
   |nil=>simp[Rc]at h
   |cons b vs=>cases vs with
    |nil=>simp only[Rc,R]at h;obtain⟨f1,f2,h1,h2,h3⟩:=h;obtain⟨f3,f4,h4,h5,h6⟩:=h2;exact⟨a,by rw[h1.1,h4.1]⟩
    |cons d vs=>simp only[Rc,R]at h;obtain⟨f1,f2,h1,h2,h3⟩:=h;obtain⟨f3,f4,h4,h5,h6⟩:=h2;simp[Rc]at h5
 subst h;refine⟨.int .i64 (dx c s),w,?_,rfl,nZ.rfl,λ_ _=>by simp[R]⟩;rw[run_callFunc_indexByte hf dz hb hn he];have:=Go.Lib.run_indexByteString (P:=P) ⟨s.toArray⟩ (c.toNat:Int) w;simp only[oB]at this;have hc:c.toNat.toUInt8=c:=by simp
 rw[hc,Ca]at this;rw[show [Value.string ⟨s.toArray⟩,Value.int .u8 (c.toNat:Int)].toArray=#[Value.string ⟨s.toArray⟩,Value.int .u8 (c.toNat:Int)]from rfl,this];rfl
end Go.Aw
