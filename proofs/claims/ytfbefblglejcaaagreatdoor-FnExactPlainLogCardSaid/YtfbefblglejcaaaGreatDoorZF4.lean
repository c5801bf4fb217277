/- Proved here: steps towards the statement of this claim. No condition. -/
import Derived.Test.YtfbefblglejcaaaGreatDoorZF6
import Derived.Lib.Bytealg
set_option linter.all false
namespace Go.Aw
open List
def rgI(n:Int):Prop:= -9223372036854775808<=n/\n<=9223372036854775807
def aE5:List Sh:=[.str,.str]
def aE6(x:aK):Prop:=True
theorem aAt(r:List AV)(h0:nA aE5 r):∃x,r=aL x/\(Nj x/\aE6 x):=by
 obtain⟨a0,r,rfl,w0,h1⟩:=qX h0;obtain⟨a1,r,rfl,w1,h2⟩:=qX h1;obtain rfl:=DJ h2;refine⟨⟨a0,a1⟩,rfl,?_,?_⟩
 .exact ⟨w0,w1⟩
 .exact trivial
def Sw(x:aZ):Prop:=rgI x.status/\rgI x.kind/\rgI x.Gc
def aE7:List Sh:=[.str,.int .i64,.int .i64,.str,.int .i64,.bool,.str]
def aE8(x:xM):Prop:=Sw x.response
theorem aAu(r:List AV)(h0:nA aE7 r):∃x,r=mI x/\(RL x/\aE8 x):=by
 obtain⟨a0,r,rfl,w0,h1⟩:=qX h0;obtain⟨a1,r,rfl,w1,h2⟩:=fits_int h1;obtain⟨a2,r,rfl,w2,h3⟩:=fits_int h2;obtain⟨a3,r,rfl,w3,h4⟩:=qX h3;obtain⟨a4,r,rfl,w4,h5⟩:=fits_int h4;obtain⟨a5,r,rfl,h6⟩:=fits_bool h5;obtain⟨a6,r,rfl,w6,h7⟩:=qX h6;obtain rfl:=DJ h7;refine⟨⟨a0,⟨a1,a2,a3,a4,a5,a6⟩⟩,rfl,?_,?_⟩
 .exact ⟨w0,⟨w3,w6⟩⟩
 .exact ⟨w1,w2,w4⟩
def bq:List Sh:=[.str,.sl 7 aE7]
def bu(x:fU):Prop:=(∀y∈x.files,aE8 y)
theorem bz(r:List AV)(h0:nA bq r):∃x,r=bY .view x/\(Gd x/\bu x):=by
 obtain⟨a0,r,rfl,w0,h1⟩:=qX h0;obtain⟨s1,r,rfl,w1,k1,h2⟩:=QD h1;obtain⟨a1,rfl,z1⟩:=Ga aAu s1 k1;rw[oY]at w1;obtain rfl:=DJ h2;refine⟨⟨a0,a1⟩,rfl,?_,?_⟩
 .exact ⟨w0,⟨w1,λy hy=>(z1 y hy).1⟩⟩
 .exact λy hy=>(z1 y hy).2
def O3:List Sh:=[.str,.str,.str,.int .i64,.int .i64,.str,.int .i64,.bool,.str,.int .i64]
def O4(x:fH):Prop:=Sw x.response/\rgI x.til
theorem xy(r:List AV)(h0:nA O3 r):∃x,r=fP x/\(Le x/\O4 x):=by
 obtain⟨a0,r,rfl,w0,h1⟩:=qX h0;obtain⟨a1,r,rfl,w1,h2⟩:=qX h1;obtain⟨a2,r,rfl,w2,h3⟩:=qX h2;obtain⟨a3,r,rfl,w3,h4⟩:=fits_int h3;obtain⟨a4,r,rfl,w4,h5⟩:=fits_int h4;obtain⟨a5,r,rfl,w5,h6⟩:=qX h5;obtain⟨a6,r,rfl,w6,h7⟩:=fits_int h6;obtain⟨a7,r,rfl,h8⟩:=fits_bool h7;obtain⟨a8,r,rfl,w8,h9⟩:=qX h8;obtain⟨a9,r,rfl,w9,h10⟩:=fits_int h9;obtain rfl:=DJ h10;refine⟨⟨a0,⟨a1,a2⟩,⟨a3,a4,a5,a6,a7,a8⟩,a9⟩,rfl,?_,?_⟩
 .exact ⟨w0,⟨w1,w2⟩,⟨w5,w8⟩⟩
 .exact ⟨⟨w3,w4,w6⟩,w9⟩
def aJb(x:oV):Prop:=(∀y∈x.entries,O4 y)
def aE9:List Sh:=[.str,.str,.str,.bool]
def aNf(x:yD):Prop:=True
theorem aAv(r:List AV)(h0:nA aE9 r):∃x,r=mJ x/\(RN x/\aNf x):=by
 obtain⟨a0,r,rfl,w0,h1⟩:=qX h0;obtain⟨a1,r,rfl,w1,h2⟩:=qX h1;obtain⟨a2,r,rfl,w2,h3⟩:=qX h2;obtain⟨a3,r,rfl,h4⟩:=fits_bool h3;obtain rfl:=DJ h4;refine⟨⟨a0,⟨a1,a2⟩,a3⟩,rfl,?_,?_⟩
 .exact ⟨w0,⟨w1,w2⟩⟩
 .exact trivial
def aLe:List Sh:=[.sl 2 bq,.sl 10 O3,.sl 4 aE9,.int .i64]
def aLf(x:lW):Prop:=(∀y∈x.gD,bu y)/\aJb x.cache/\rgI x.now
theorem aFa(r:List AV)(h0:nA aLe r):∃x,r=mY .view x/\(K9 x/\aLf x):=by
 obtain⟨s0,r,rfl,w0,k0,h1⟩:=QD h0;obtain⟨a0,rfl,z0⟩:=Ga bz s0 k0;rw[oY]at w0;obtain⟨s1,r,rfl,w1,k1,h2⟩:=QD h1;obtain⟨a1,rfl,z1⟩:=Ga xy s1 k1;rw[oY]at w1;obtain⟨s2,r,rfl,w2,k2,h3⟩:=QD h2;obtain⟨a2,rfl,z2⟩:=Ga aAv s2 k2;rw[oY]at w2;obtain⟨a3,r,rfl,w3,h4⟩:=fits_int h3;obtain rfl:=DJ h4;refine⟨⟨a0,⟨a1⟩,a2,a3⟩,rfl,?_,?_⟩
 .exact ⟨⟨w0,λy hy=>(z0 y hy).1⟩,⟨w1,λy hy=>(z1 y hy).1⟩,⟨w2,λy hy=>(z2 y hy).1⟩⟩
 .exact ⟨λy hy=>(z0 y hy).2,λy hy=>(z1 y hy).2,w3⟩
def yO{α:Type}(l l':List α)(j:Nat):List α:=l'.take j++l.drop j
theorem GJ{α:Type}(l l':List α)(j:Nat)(h:j<l.length)(h':j<l'.length):(yO l l' j).set j l'[j]=yO l l' (j+1):=by
 unfold yO;rw[eI h',mL h,sY _ _ (by simp;omega)];have:j-(l'.take j).length=0:=by simp;omega
 rw[this,cU,rN];rfl
theorem GK{α:Type}(l l':List α)(j:Nat)(h:j<l.length)(h':j<l'.length):(yO l l' j)[j]? =some l[j]:=by
 unfold yO;rw[hY (by simp;omega)];have:j-(l'.take j).length=0:=by simp;omega
 rw[this];simp[h]
theorem Ap{α:Type}(l l':List α)(j:Nat)(h:l'.length=l.length):(yO l l' j).length=l.length:=by unfold yO;simp;omega
theorem Ef{α:Type}(l l':List α)(j:Nat)(h:l'.length=l.length)(hj:l.length<=j):yO l l' j=l':=by unfold yO;rw[cY (by omega),AE hj,fW]
theorem Eg{α:Type}(l l':List α):yO l l' 0=l:=by simp[yO]
def Pb{α:Type}(f:Int->α->α)(c:α->Nat):Int->List α->List α
 |_,[]=>[]
 |k,x::xs=>f k x::Pb f c (k+c x) xs
theorem uA{α:Type}(f:Int->α->α)(c:α->Nat):∀(l:List α) (k:Int),(Pb f c k l).length=l.length
 |[],_=>rfl
 |x::xs,k=>by simp[Pb,uA f c xs]
theorem EY{α:Type}(f:Int->α->α)(c:α->Nat):∀(l:List α) (k:Int) (j:Nat) (h:j<l.length),(Pb f c k l)[j]'(by rw[uA];exact h)=f (k+(bA c (l.take j):Nat)) l[j]
 |[],_,_,h=>by simp at h
 |x::xs,k,0,_=>by simp[Pb,bA]
 |x::xs,k,j+1,h=>by simp only[Pb,getElem_cons_succ,eL,bA];rw[EY f c xs (k+c x) j (by simpa using h)];congr 1;omega
theorem Q3{α:Type}{p:α->Bool}{l l':List α}{j:Nat}(h:l.all p=true)(h':l'.all p=true):(yO l l' j).all p=true:=by unfold yO;rw[all_append,SY j h',Ta j h];rfl
theorem aJ4{α:Type}{p:α->Bool}{l:List α}{k:Nat}{r:α}(h:l.all p=true)(hr:p r=true):(l.set k r).all p=true:=by
 rw[fN]at h⊢;intro x hx;rcases CA hx with hx|rfl
 .exact h x hx
 .exact hr
def digit(k:Int):UInt8:=UInt8.ofNat (IntKind.u8.wrap (IntKind.i64.wrap (48+k.tmod 10))).toNat
def digits:Nat->Int->bB->bB
 |0,_,out=>out
 |f+1,k,out=>if k<=0 then out else digits f (k.tdiv 10) (digit k::out)
def Be(k:Int):bB:=if k<=0 then [109,48]else 109::digits 20 k []
theorem zu(f:Nat)(k:Int)(out:bB)(h:k<=0):digits f k out=out:=by cases f<;>simp[digits,h]
def Pd(k:Int):Bool:=k.tmod 3 == 0
def wO(k:Int)(x:bB):bB:=Be k
def Tx(k:Int)(x:xM):xM:={path:=Be k,response:={status:=k+1,kind:=k+2,body:=Be (k+3),Gc:=k+4,shares:=Pd (k+5),bD:=Be (k+6)}}
def LV(k:Int)(x:fH):fH:={top:=Be k,to:={host:=Be (k+1),path:=Be (k+2)},response:={status:=k+3,kind:=k+4,body:=Be (k+5),Gc:=k+6,shares:=Pd (k+7),bD:=Be (k+8)},til:=k+9}
def Ty(k:Int)(x:yD):yD:={top:=Be k,to:={host:=Be (k+1),path:=Be (k+2)},aK6:=Pd (k+3)}
def n1{α:Type}(l:List α):Nat:=bA (λ_=>1) l
theorem BZ{α:Type}(c:Nat)(l:List α):bA (λ_=>c) l=c*l.length:=by
 induction l with
 |nil=>simp[bA]
 |cons x xs ih=>simp only[bA,ih,eN,Nat.mul_add];omega
theorem WO{α:Type}{f g:α->Nat}(c:Nat)(h:∀x,f x<=c*(g x+1)):∀l:List α,bA f l<=c*(l.length+bA g l)
 |[]=>by simp[bA]
 |x::xs=>by
  simp only[bA,eN];have h1:=h x;have h2:=WO c h xs;have e:c*(xs.length+1+(g x+bA g xs))=c*(g x+1)+c*(xs.length+bA g xs):=by rw[<-Nat.mul_add];congr 1;omega
  omega
@[simp] theorem aGh(u:List Nat)(b:Bool)(l:List bT):mX (iP u) b (l.map (cZ .view))=l.map (cZ .view):=bO (by intro x;simp) l
@[simp] theorem aHz(u:List Nat)(b:Bool)(l:List jK):mX (iP u) b (l.map (fA .view))=l.map (fA .view):=bO (by intro x;simp) l
def lowerB(c:UInt8):Bool:=decide (97<=c.toNat)&&decide (c.toNat<=122)
def wY(c:UInt8):Bool:=lowerB c || (decide (48<=c.toNat)&&decide (c.toNat<=57)) || decide (c.toNat=47)
def dA(s:bB):Bool:=s.all lowerB&&(decide (1<=s.length)&&decide (s.length<=8))
def isValue(s:bB):Bool:=s.all wY&&(decide (1<=s.length)&&decide (s.length<=20))
def oZ(a:aK):Bool:=dA a.host&&dA a.path
def mK(a:aK):bB:=if oZ a then a.host++(47::a.path)else []
def iH(c:UInt8)(s:bB):Nat:=s.findIdx (· == c)
theorem vD(c:UInt8)(s:bB):iH c s<=s.length:=findIdx_le_length
theorem L6(c:UInt8):iH c []=0:=rfl
theorem BG(c x:UInt8)(s:bB):iH c (x::s)=if x=c then 0 else iH c s+1:=by
 unfold iH;rw[findIdx_cons];by_cases h:x=c
 .subst h;simp
 .have:(x == c)=false:=by simpa using h
  simp[this,h]
theorem Lf(c:UInt8):∀(p s:bB),(∀x∈p,x≠c)->iH c (p++s)=p.length+iH c s
 |[],s,_=>by simp
 |x::p,s,h=>by rw[eA,BG,cX (h x (by simp)),Lf c p s (λy hy=>h y (by simp[hy]))];simp;omega
theorem ve{c:UInt8}{s:bB}{k:Nat}(hk:k<s.length)(hc:s[k]=c)(hp:∀x∈s.take k,x≠c):iH c s=k:=by have e:s=s.take k++s.drop k:=(oA k s).symm;rw[e,Lf c _ _ hp,mL hk,BG,eK hc];simp;omega
theorem ZJ{c:UInt8}{s:bB}(hp:∀x∈s,x≠c):iH c s=s.length:=by have:=Lf c s [] hp;simpa [L6]using this
theorem L8{c:UInt8}{s:bB}(h:iH c s<s.length):s[iH c s]=c:=by have:=findIdx_getElem (p:=(· == c)) (w:=h);exact eq_of_beq this
theorem aEi(c:UInt8)(s:bB):∀x∈s.take (iH c s),x≠c:=by
 intro x hx;obtain⟨i,hi,rfl⟩:=getElem_of_mem hx;have hi':i<iH c s:=by have:=hi;simp at this;omega
 rw[getElem_take];have:=not_of_lt_findIdx (p:=(· == c)) (xs:=s) hi';simpa using this
def dE(c:UInt8):bB->List bB
 |[]=>[[]]
 |x::s=>if x=c then []::dE c s else match dE c s with
  |[]=>[[x]]
  |p::r=>(x::p)::r
theorem qY(c:UInt8):∀s,dE c s≠[]
 |[]=>by simp[dE]
 |x::s=>by
  simp only[dE];split
  .simp
  .split<;>simp
theorem DN(c:UInt8):∀(p s:bB),(∀x∈p,x≠c)->dE c (p++c::s)=p::dE c s
 |[],s,_=>by simp[dE]
 |x::p,s,h=>by rw[eA];simp only[dE];rw[cX (h x (by simp)),DN c p s (λy hy=>h y (by simp[hy]))]
theorem BH(c:UInt8):∀(p:bB),(∀x∈p,x≠c)->dE c p=[p]
 |[],_=>rfl
 |x::p,h=>by simp only[dE];rw[cX (h x (by simp)),BH c p (λy hy=>h y (by simp[hy]))]
theorem Nk(c:UInt8)(s:bB):dE c s=if iH c s<s.length then s.take (iH c s)::dE c (s.drop (iH c s+1))else [s]:=by
 have ht:=aEi c s;split
 .rename_i h;conv=>lhs;rw[<-oA (iH c s) s,mL h,L8 h]
  exact DN c _ _ ht
 .rename_i h;have:s.take (iH c s)=s:=cY (by omega);rw[this]at ht;exact BH c s ht
theorem iQ(c:UInt8):∀s:bB,(dE c s).length=s.count c+1
 |[]=>rfl
 |x::s=>by
  simp only[dE];split
  .rename_i h;subst h;simp[iQ x s]
  .rename_i h;have:=iQ c s;split
   .rename_i h0;exact absurd h0 (qY c s)
   .rename_i p r h0;rw[h0]at this;rw[count_cons_of_ne h];simpa using this
def wZ:aK:=⟨[],[]⟩
def addrOf(s base:bB):aK:=if iH 47 s<s.length then⟨s.take (iH 47 s),s.drop (iH 47 s+1)⟩else⟨base,s⟩
def bZ(s base:bB):aK×Bool:=if oZ (addrOf s base)then(addrOf s base,true)else(wZ,false)
def pW(n:bB)(a:oN):Bool:=decide (a.name=n)
def aW(l:List oN)(n:bB):bB×Bool:=match l.find? (pW n)with
 |some a=>(a.value,true)
 |none=>([],false)
theorem OI{l:List oN}{n:bB}{k:Nat}(h:k<l.length)(hf:pW n l[k]=true)(hn:∀x∈l.take k,pW n x=false):aW l n=(l[k].value,true):=by
 have e:l=l.take k++l[k]::l.drop (k+1):=by rw[<-mL h,oA]
 have:l.find? (pW n)=some l[k]:=by generalize hx:l[k]=y at*;rw[e,find?_append];have:(l.take k).find? (pW n)=none:=DA.2 (λx hx=>by simp[hn x hx]);rw[this];simp[hf]
 simp[aW,this]
theorem IV{l:List oN}{n:bB}(hn:∀x∈l,pW n x=false):aW l n=([],false):=by have:l.find? (pW n)=none:=DA.2 (λx hx=>by simp[hn x hx]);simp[aW,this]
def ZK(c:UInt8)(s:bB):Int:=if iH c s<s.length then iH c s else -1
theorem Bj(c:UInt8):∀s:bB,Go.Lib.indexByte s c=ZK c s
 |[]=>by simp[Go.Lib.indexByte,ZK]
 |x::s=>by
  have ih:=Bj c s;have hl:=vD c s;simp only[Go.Lib.indexByte,ih,ZK,BG,eN];by_cases h:x=c
  .simp [h]
  .have:(x == c)=false:=by simpa using h
   simp only[this,h,gS,eS];by_cases h2:iH c s<s.length
   .have h3:((iH c s:Int) == -1)=false:=by rw[Ds];omega
    simp[h2,h3]
   .simp [h2]
theorem UN{P:Program}[aC P]{f:FuncId}{fn:Func}(hf:P.funcs[f]? =some fn)(ZL:(fn.name == "runtime.NumGoroutine")=false)
  (hb:fn.body.isNone=true) (hn:Extern.findNext fn=none) (he:Extern.find fn=some Extern.BytealgIndexByte.indexByte) (s:bB) (c:UInt8):
  OkN P f [.str s,.int .u8 c.toNat] (.int .i64 (ZK c s)):=by
 intro w vs h;obtain⟨v1,h⟩:∃v,vs=[.string ⟨s.toArray⟩,.int .u8 (c.toNat:Int)]:=by
  cases vs with
  |nil=>simp[Rc]at h
  |cons a vs=>cases vs with
   |nil=>simp[Rc]at h
   |cons b vs=>cases vs with
    |nil=>simp only[Rc,R]at h;obtain⟨f1,f2,h1,h2,h3⟩:=h;obtain⟨f3,f4,h4,h5,h6⟩:=h2;exact⟨a,by rw[h1.1,h4.1]⟩
    |cons d vs=>simp only[Rc,R]at h;obtain⟨f1,f2,h1,h2,h3⟩:=h;obtain⟨f3,f4,h4,h5,h6⟩:=h2;simp[Rc]at h5
 subst h;refine⟨.int .i64 (ZK c s),w,?_,rfl,nS.rfl,λ_ _=>by simp[R]⟩;rw[run_callFunc_indexByte hf ZL hb hn he];have:=Go.Lib.run_indexByteString (P:=P) ⟨s.toArray⟩ (c.toNat:Int) w;simp only[mA]at this;have hc:c.toNat.toUInt8=c:=by simp
 rw[hc,Bj]at this;rw[show [Value.string ⟨s.toArray⟩,Value.int .u8 (c.toNat:Int)].toArray=#[Value.string ⟨s.toArray⟩,Value.int .u8 (c.toNat:Int)]from rfl,this];rfl
end Go.Aw
