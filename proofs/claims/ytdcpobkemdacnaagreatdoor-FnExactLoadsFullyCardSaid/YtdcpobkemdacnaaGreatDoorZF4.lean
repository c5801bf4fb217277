/- Proved here: steps towards the statement of this claim. No condition. -/
import Derived.Test.YtdcpobkemdacnaaGreatDoorZF6
import Derived.Lib.Bytealg
set_option linter.all false
namespace Go.Aw
open List
def rgI (n:Int):Prop:= -9223372036854775808<=n/\n<=9223372036854775807
def aC6:List Sh:=[.str,.str]
def aC7 (x:aK):Prop:=True
theorem M7 (r:List AV) (h0:mO aC6 r):∃x,r=aL x/\(Mt x/\aC7 x):=by
 obtain ⟨a0,r,rfl,w0,h1⟩:=qK h0;obtain ⟨a1,r,rfl,w1,h2⟩:=qK h1;obtain rfl:=Dk h2;refine ⟨⟨a0,a1⟩,rfl,?_,?_⟩
 .exact ⟨w0,w1⟩
 .exact trivial
def Rm (x:bA):Prop:=rgI x.status/\rgI x.kind/\rgI x.Hm
def aC8:List Sh:=[.str,.int .i64,.int .i64,.str,.int .i64,.bool,.str]
def aC9 (x:zS):Prop:=Rm x.response
theorem M8 (r:List AV) (h0:mO aC8 r):∃x,r=uA x/\(QM x/\aC9 x):=by
 obtain ⟨a0,r,rfl,w0,h1⟩:=qK h0;obtain ⟨a1,r,rfl,w1,h2⟩:=fits_int h1;obtain ⟨a2,r,rfl,w2,h3⟩:=fits_int h2;obtain ⟨a3,r,rfl,w3,h4⟩:=qK h3;obtain ⟨a4,r,rfl,w4,h5⟩:=fits_int h4;obtain ⟨a5,r,rfl,h6⟩:=fits_bool h5;obtain ⟨a6,r,rfl,w6,h7⟩:=qK h6;obtain rfl:=Dk h7;refine ⟨⟨a0,⟨a1,a2,a3,a4,a5,a6⟩⟩,rfl,?_,?_⟩
 .exact ⟨w0,⟨w3,w6⟩⟩
 .exact ⟨w1,w2,w4⟩
def Zt:List Sh:=[.str,.sl 7 aC8]
def Zu (x:iQ):Prop:=(∀y∈x.files,aC9 y)
theorem Zv (r:List AV) (h0:mO Zt r):∃x,r=dH .view x/\(FH x/\Zu x):=by
 obtain ⟨a0,r,rfl,w0,h1⟩:=qK h0;obtain ⟨s1,r,rfl,w1,k1,h2⟩:=PQ h1;obtain ⟨a1,rfl,z1⟩:=FD M8 s1 k1;rw [oX] at w1;obtain rfl:=Dk h2;refine ⟨⟨a0,a1⟩,rfl,?_,?_⟩
 .exact ⟨w0,⟨w1,λy hy=>(z1 y hy).1⟩⟩
 .exact λy hy=>(z1 y hy).2
def zf:List Sh:=[.str,.str,.str,.int .i64,.int .i64,.str,.int .i64,.bool,.str,.int .i64]
def zg (x:gI):Prop:=Rm x.response/\rgI x.til
theorem ow (r:List AV) (h0:mO zf r):∃x,r=iU x/\(Kr x/\zg x):=by
 obtain ⟨a0,r,rfl,w0,h1⟩:=qK h0;obtain ⟨a1,r,rfl,w1,h2⟩:=qK h1;obtain ⟨a2,r,rfl,w2,h3⟩:=qK h2;obtain ⟨a3,r,rfl,w3,h4⟩:=fits_int h3;obtain ⟨a4,r,rfl,w4,h5⟩:=fits_int h4;obtain ⟨a5,r,rfl,w5,h6⟩:=qK h5;obtain ⟨a6,r,rfl,w6,h7⟩:=fits_int h6;obtain ⟨a7,r,rfl,h8⟩:=fits_bool h7;obtain ⟨a8,r,rfl,w8,h9⟩:=qK h8;obtain ⟨a9,r,rfl,w9,h10⟩:=fits_int h9;obtain rfl:=Dk h10;refine ⟨⟨a0,⟨a1,a2⟩,⟨a3,a4,a5,a6,a7,a8⟩,a9⟩,rfl,?_,?_⟩
 .exact ⟨w0,⟨w1,w2⟩,⟨w5,w8⟩⟩
 .exact ⟨⟨w3,w4,w6⟩,w9⟩
def aG9 (x:rV):Prop:=(∀y∈x.entries,zg y)
def aDa:List Sh:=[.str,.str,.str,.bool]
def aK7 (x:Ap):Prop:=True
theorem M9 (r:List AV) (h0:mO aDa r):∃x,r=rE x/\(QN x/\aK7 x):=by
 obtain ⟨a0,r,rfl,w0,h1⟩:=qK h0;obtain ⟨a1,r,rfl,w1,h2⟩:=qK h1;obtain ⟨a2,r,rfl,w2,h3⟩:=qK h2;obtain ⟨a3,r,rfl,h4⟩:=fits_bool h3;obtain rfl:=Dk h4;refine ⟨⟨a0,⟨a1,a2⟩,a3⟩,rfl,?_,?_⟩
 .exact ⟨w0,⟨w1,w2⟩⟩
 .exact trivial
def aI7:List Sh:=[.sl 2 Zt,.sl 10 zf,.sl 4 aDa,.int .i64]
def aI8 (x:nN):Prop:=(∀y∈x.jO,Zu y)/\aG9 x.cache/\rgI x.now
theorem aDb (r:List AV) (h0:mO aI7 r):∃x,r=mP .view x/\(yg x/\aI8 x):=by
 obtain ⟨s0,r,rfl,w0,k0,h1⟩:=PQ h0;obtain ⟨a0,rfl,z0⟩:=FD Zv s0 k0;rw [oX] at w0;obtain ⟨s1,r,rfl,w1,k1,h2⟩:=PQ h1;obtain ⟨a1,rfl,z1⟩:=FD ow s1 k1;rw [oX] at w1;obtain ⟨s2,r,rfl,w2,k2,h3⟩:=PQ h2;obtain ⟨a2,rfl,z2⟩:=FD M9 s2 k2;rw [oX] at w2;obtain ⟨a3,r,rfl,w3,h4⟩:=fits_int h3;obtain rfl:=Dk h4;refine ⟨⟨a0,⟨a1⟩,a2,a3⟩,rfl,?_,?_⟩
 .exact ⟨⟨w0,λy hy=>(z0 y hy).1⟩,⟨w1,λy hy=>(z1 y hy).1⟩,⟨w2,λy hy=>(z2 y hy).1⟩⟩
 .exact ⟨λy hy=>(z0 y hy).2,λy hy=>(z1 y hy).2,w3⟩
def n1 {α:Type} (l:List α):Nat:=bH (λ_=>1) l
@[simp] theorem aEg (u:List Nat) (b:Bool) (l:List bV):mM (jV u) b (l.map (cB .view))=l.map (cB .view):=bS (by intro x;simp) l
@[simp] theorem aFy (u:List Nat) (b:Bool) (l:List jL):mM (jV u) b (l.map (fD .view))=l.map (fD .view):=bS (by intro x;simp) l
def lowerB (c:UInt8):Bool:=decide (97<=c.toNat)&&decide (c.toNat<=122)
def wU (c:UInt8):Bool:=lowerB c || (decide (48<=c.toNat)&&decide (c.toNat<=57)) || decide (c.toNat=47)
def dB (s:bB):Bool:=s.all lowerB&&(decide (1<=s.length)&&decide (s.length<=8))
def isValue (s:bB):Bool:=s.all wU&&(decide (1<=s.length)&&decide (s.length<=20))
def oP (a:aK):Bool:=dB a.host&&dB a.path
def lZ (a:aK):bB:=if oP a then a.host++(47::a.path) else []
def iL (c:UInt8) (s:bB):Nat:=s.findIdx (· == c)
theorem uX (c:UInt8) (s:bB):iL c s<=s.length:=findIdx_le_length
theorem yh (c:UInt8):iL c []=0:=rfl
theorem Bj (c x:UInt8) (s:bB):iL c (x::s)=if x=c then 0 else iL c s+1:=by
 unfold iL;rw [findIdx_cons];by_cases h:x=c
 .subst h;simp
 .have:(x == c)=false:=by simpa using h
  simp [this,h]
theorem Kt (c:UInt8):∀(p s:bB),(∀x∈p,x≠c)->iL c (p++s)=p.length+iL c s
 |[],s,_=>by simp
 |x::p,s,h=>by rw [eA,Bj,cX (h x (by simp)),Kt c p s (λy hy=>h y (by simp [hy]))];simp;omega
theorem ll {c:UInt8} {s:bB} {k:Nat} (hk:k < s.length) (hc:s[k]=c) (hp:∀x∈s.take k,x≠c):iL c s=k:=by have e:s=s.take k++s.drop k:=(nF k s).symm;rw [e,Kt c _ _ hp,mL hk,Bj,eI hc];simp;omega
theorem YN {c:UInt8} {s:bB} (hp:∀x∈s,x≠c):iL c s=s.length:=by have:=Kt c s [] hp;simpa [yh] using this
theorem yj {c:UInt8} {s:bB} (h:iL c s < s.length):s[iL c s]=c:=by have:=findIdx_getElem (p:=(· == c)) (w:=h);exact eq_of_beq this
theorem aCj (c:UInt8) (s:bB):∀x∈s.take (iL c s),x≠c:=by
 intro x hx;obtain ⟨i,hi,rfl⟩:=getElem_of_mem hx;have hi':i < iL c s:=by have:=hi;simp at this;omega
 rw [getElem_take];have:=not_of_lt_findIdx (p:=(· == c)) (xs:=s) hi';simpa using this
def dG (c:UInt8):bB->List bB
 |[]=>[[]]
 |x::s=>if x=c then []::dG c s else match dG c s with
  |[]=>[[x]]
  |p::r=>(x::p)::r
theorem qL (c:UInt8):∀s,dG c s≠[]
 |[]=>by simp [dG]
 |x::s=>by
  simp only [dG];split
  .simp
  .split<;>simp
theorem Dn (c:UInt8):∀(p s:bB),(∀x∈p,x≠c)->dG c (p++c::s)=p::dG c s
 |[],s,_=>by simp [dG]
 |x::p,s,h=>by rw [eA];simp only [dG];rw [cX (h x (by simp)),Dn c p s (λy hy=>h y (by simp [hy]))]
theorem Bl (c:UInt8):∀(p:bB),(∀x∈p,x≠c)->dG c p=[p]
 |[],_=>rfl
 |x::p,h=>by simp only [dG];rw [cX (h x (by simp)),Bl c p (λy hy=>h y (by simp [hy]))]
theorem Mv (c:UInt8) (s:bB):dG c s=if iL c s < s.length then s.take (iL c s)::dG c (s.drop (iL c s+1)) else [s]:=by
 have ht:=aCj c s;split
 .rename_i h;conv=>lhs;rw [<-nF (iL c s) s,mL h,yj h]
  exact Dn c _ _ ht
 .rename_i h;have:s.take (iL c s)=s:=cY (by omega);rw [this] at ht;exact Bl c s ht
theorem iW (c:UInt8):∀s:bB,(dG c s).length=s.count c+1
 |[]=>rfl
 |x::s=>by
  simp only [dG];split
  .rename_i h;subst h;simp [iW x s]
  .rename_i h;have:=iW c s;split
   .rename_i h0;exact absurd h0 (qL c s)
   .rename_i p r h0;rw [h0] at this;rw [count_cons_of_ne h];simpa using this
def wV:aK:=⟨[],[]⟩
def addrOf (s base:bB):aK:=if iL 47 s < s.length then ⟨s.take (iL 47 s),s.drop (iL 47 s+1)⟩ else ⟨base,s⟩
def bY (s base:bB):aK×Bool:=if oP (addrOf s base) then (addrOf s base,true) else (wV,false)
def pK (n:bB) (a:oL):Bool:=decide (a.name=n)
def aW (l:List oL) (n:bB):bB×Bool:=match l.find? (pK n) with
 |some a=>(a.value,true)
 |none=>([],false)
theorem NN {l:List oL} {n:bB} {k:Nat} (h:k < l.length) (hf:pK n l[k]=true) (hn:∀x∈l.take k,pK n x=false):aW l n=(l[k].value,true):=by
 have e:l=l.take k++l[k]::l.drop (k+1):=by rw [<-mL h,nF]
 have:l.find? (pK n)=some l[k]:=by generalize hx:l[k]=y at *;rw [e,find?_append];have:(l.take k).find? (pK n)=none:=CT.2 (λx hx=>by simp [hn x hx]);rw [this];simp [hf]
 simp [aW,this]
theorem Ig {l:List oL} {n:bB} (hn:∀x∈l,pK n x=false):aW l n=([],false):=by have:l.find? (pK n)=none:=CT.2 (λx hx=>by simp [hn x hx]);simp [aW,this]
def YO (c:UInt8) (s:bB):Int:=if iL c s < s.length then iL c s else -1
theorem AL (c:UInt8):∀s:bB,Go.Lib.indexByte s c=YO c s
 |[]=>by simp [Go.Lib.indexByte,YO]
 |x::s=>by
  have ih:=AL c s;have hl:=uX c s;simp only [Go.Lib.indexByte,ih,YO,Bj,eN];by_cases h:x=c
  .simp [h]
  .have:(x == c)=false:=by simpa using h
   simp only [this,h,hH,eS];by_cases h2:iL c s < s.length
   .have h3:((iL c s:Int) == -1)=false:=by rw [CI];omega
    simp [h2,h3]
   .simp [h2]
theorem Uh {P:Program} [aC P] {f:FuncId} {fn:Func} (hf:P.funcs[f]? =some fn) (YP:(fn.name == "runtime.NumGoroutine")=false)
  (hb:fn.body.isNone=true) (hn:Extern.findNext fn=none) (he:Extern.find fn=some Extern.BytealgIndexByte.indexByte) (s:bB) (c:UInt8):
  OkN P f [.str s,.int .u8 c.toNat] (.int .i64 (YO c s)):=by
 intro w vs h;obtain ⟨v1,h⟩:∃v,vs=[.string ⟨s.toArray⟩,.int .u8 (c.toNat:Int)]:=by
  cases vs with
  |nil=>simp [Rc] at h
  |cons a vs=>cases vs with
   |nil=>simp [Rc] at h
   |cons b vs=>cases vs with
    |nil=>simp only [Rc,R] at h;obtain ⟨f1,f2,h1,h2,h3⟩:=h;obtain ⟨f3,f4,h4,h5,h6⟩:=h2;exact ⟨a,by rw [h1.1,h4.1]⟩
    |cons d vs=>simp only [Rc,R] at h;obtain ⟨f1,f2,h1,h2,h3⟩:=h;obtain ⟨f3,f4,h4,h5,h6⟩:=h2;simp [Rc] at h5
 subst h;refine ⟨.int .i64 (YO c s),w,?_,rfl,oD.rfl,λ_ _=>by simp [R]⟩;rw [run_callFunc_indexByte hf YP hb hn he];have:=Go.Lib.run_indexByteString (P:=P) ⟨s.toArray⟩ (c.toNat:Int) w;simp only [lP] at this;have hc:c.toNat.toUInt8=c:=by simp
 rw [hc,AL] at this;rw [show [Value.string ⟨s.toArray⟩,Value.int .u8 (c.toNat:Int)].toArray=#[Value.string ⟨s.toArray⟩,Value.int .u8 (c.toNat:Int)] from rfl,this];rfl
end Go.Aw
