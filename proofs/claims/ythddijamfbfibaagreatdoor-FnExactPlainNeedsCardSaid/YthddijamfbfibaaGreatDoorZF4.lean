/- Proved here: steps towards the statement of this claim. No condition. -/
import Derived.Test.YthddijamfbfibaaGreatDoorZF6
import Derived.Lib.Bytealg
set_option linter.all false
namespace Go.Aw
open List
def rgI(n:Int):Prop:= -9223372036854775808<=n/\n<=9223372036854775807
def aGn:List Sh:=[.str,.str]
def aGo(x:aD):Prop:=True
theorem aB9(r:List AV)(h0:nH aGn r):∃x,r=aH x/\(NI x/\aGo x):=by
 obtain⟨a0,r,rfl,w0,h1⟩:=rG h0;obtain⟨a1,r,rfl,w1,h2⟩:=rG h1;obtain rfl:=Ea h2;refine⟨⟨a0,a1⟩,rfl,?_,?_⟩
 .exact ⟨w0,w1⟩
 .exact trivial
def Tp(x:bA):Prop:=rgI x.status/\rgI x.kind/\rgI x.Gw
def aGp:List Sh:=[.str,.int .i64,.int .i64,.str,.int .i64,.bool,.str]
def aGq(x:xS):Prop:=Tp x.response
theorem aCa(r:List AV)(h0:nH aGp r):∃x,r=mP x/\(SA x/\aGq x):=by
 obtain⟨a0,r,rfl,w0,h1⟩:=rG h0;obtain⟨a1,r,rfl,w1,h2⟩:=fits_int h1;obtain⟨a2,r,rfl,w2,h3⟩:=fits_int h2;obtain⟨a3,r,rfl,w3,h4⟩:=rG h3;obtain⟨a4,r,rfl,w4,h5⟩:=fits_int h4;obtain⟨a5,r,rfl,h6⟩:=fits_bool h5;obtain⟨a6,r,rfl,w6,h7⟩:=rG h6;obtain rfl:=Ea h7;refine⟨⟨a0,⟨a1,a2,a3,a4,a5,a6⟩⟩,rfl,?_,?_⟩
 .exact ⟨w0,⟨w3,w6⟩⟩
 .exact ⟨w1,w2,w4⟩
def kr:List Sh:=[.str,.sl 7 aGp]
def ku(x:fU):Prop:=(∀y∈x.files,aGq y)
theorem kz(r:List AV)(h0:nH kr r):∃x,r=bX .view x/\(Gx x/\ku x):=by
 obtain⟨a0,r,rfl,w0,h1⟩:=rG h0;obtain⟨s1,r,rfl,w1,k1,h2⟩:=Ra h1;obtain⟨a1,rfl,z1⟩:=Gu aCa s1 k1;rw[mL]at w1;obtain rfl:=Ea h2;refine⟨⟨a0,a1⟩,rfl,?_,?_⟩
 .exact ⟨w0,⟨w1,λy hy=>(z1 y hy).1⟩⟩
 .exact λy hy=>(z1 y hy).2
def aAm:List Sh:=[.str,.str,.str,.int .i64,.int .i64,.str,.int .i64,.bool,.str,.int .i64]
def aAn(x:fH):Prop:=Tp x.response/\rgI x.til
theorem F4(r:List AV)(h0:nH aAm r):∃x,r=fP x/\(Lx x/\aAn x):=by
 obtain⟨a0,r,rfl,w0,h1⟩:=rG h0;obtain⟨a1,r,rfl,w1,h2⟩:=rG h1;obtain⟨a2,r,rfl,w2,h3⟩:=rG h2;obtain⟨a3,r,rfl,w3,h4⟩:=fits_int h3;obtain⟨a4,r,rfl,w4,h5⟩:=fits_int h4;obtain⟨a5,r,rfl,w5,h6⟩:=rG h5;obtain⟨a6,r,rfl,w6,h7⟩:=fits_int h6;obtain⟨a7,r,rfl,h8⟩:=fits_bool h7;obtain⟨a8,r,rfl,w8,h9⟩:=rG h8;obtain⟨a9,r,rfl,w9,h10⟩:=fits_int h9;obtain rfl:=Ea h10;refine⟨⟨a0,⟨a1,a2⟩,⟨a3,a4,a5,a6,a7,a8⟩,a9⟩,rfl,?_,?_⟩
 .exact ⟨w0,⟨w1,w2⟩,⟨w5,w8⟩⟩
 .exact ⟨⟨w3,w4,w6⟩,w9⟩
def aLa(x:pE):Prop:=(∀y∈x.entries,aAn y)
def aGr:List Sh:=[.str,.str,.str,.bool]
def aPe(x:tT):Prop:=True
theorem aCb(r:List AV)(h0:nH aGr r):∃x,r=jL x/\(SB x/\aPe x):=by
 obtain⟨a0,r,rfl,w0,h1⟩:=rG h0;obtain⟨a1,r,rfl,w1,h2⟩:=rG h1;obtain⟨a2,r,rfl,w2,h3⟩:=rG h2;obtain⟨a3,r,rfl,h4⟩:=fits_bool h3;obtain rfl:=Ea h4;refine⟨⟨a0,⟨a1,a2⟩,a3⟩,rfl,?_,?_⟩
 .exact ⟨w0,⟨w1,w2⟩⟩
 .exact trivial
def aNi:List Sh:=[.sl 2 kr,.sl 10 aAm,.sl 4 aGr,.int .i64]
def aNj(x:kU):Prop:=(∀y∈x.gD,ku y)/\aLa x.cache/\rgI x.now
theorem aGs(r:List AV)(h0:nH aNi r):∃x,r=nA .view x/\(Y7 x/\aNj x):=by
 obtain⟨s0,r,rfl,w0,k0,h1⟩:=Ra h0;obtain⟨a0,rfl,z0⟩:=Gu kz s0 k0;rw[mL]at w0;obtain⟨s1,r,rfl,w1,k1,h2⟩:=Ra h1;obtain⟨a1,rfl,z1⟩:=Gu F4 s1 k1;rw[mL]at w1;obtain⟨s2,r,rfl,w2,k2,h3⟩:=Ra h2;obtain⟨a2,rfl,z2⟩:=Gu aCb s2 k2;rw[mL]at w2;obtain⟨a3,r,rfl,w3,h4⟩:=fits_int h3;obtain rfl:=Ea h4;refine⟨⟨a0,⟨a1⟩,a2,a3⟩,rfl,?_,?_⟩
 .exact ⟨⟨w0,λy hy=>(z0 y hy).1⟩,⟨w1,λy hy=>(z1 y hy).1⟩,⟨w2,λy hy=>(z2 y hy).1⟩⟩
 .exact ⟨λy hy=>(z0 y hy).2,λy hy=>(z1 y hy).2,w3⟩
def yR{α:Type}(l l':List α)(j:Nat):List α:=l'.take j++l.drop j
theorem Hg{α:Type}(l l':List α)(j:Nat)(h:j<l.length)(h':j<l'.length):(yR l l' j).set j l'[j]=yR l l' (j+1):=by
 unfold yR;rw[eJ h',mC h,tI _ _ (by simp;omega)];have:j-(l'.take j).length=0:=by simp;omega
 rw[this,cU,sB];rfl
theorem Hl{α:Type}(l l':List α)(j:Nat)(h:j<l.length)(h':j<l'.length):(yR l l' j)[j]? =some l[j]:=by
 unfold yR;rw[kO (by simp;omega)];have:j-(l'.take j).length=0:=by simp;omega
 rw[this];simp[h]
theorem AJ{α:Type}(l l':List α)(j:Nat)(h:l'.length=l.length):(yR l l' j).length=l.length:=by unfold yR;simp;omega
theorem Et{α:Type}(l l':List α)(j:Nat)(h:l'.length=l.length)(hj:l.length<=j):yR l l' j=l':=by unfold yR;rw[cX (by omega),AH hj,fX]
theorem Eu{α:Type}(l l':List α):yR l l' 0=l:=by simp[yR]
def PH{α:Type}(f:Int->α->α)(c:α->Nat):Int->List α->List α
 |_,[]=>[]
 |k,x::xs=>f k x::PH f c (k+c x) xs
theorem uD{α:Type}(f:Int->α->α)(c:α->Nat):∀(l:List α) (k:Int),(PH f c k l).length=l.length
 |[],_=>rfl
 |x::xs,k=>by simp[PH,uD f c xs]
theorem Fv{α:Type}(f:Int->α->α)(c:α->Nat):∀(l:List α) (k:Int) (j:Nat) (h:j<l.length),(PH f c k l)[j]'(by rw[uD];exact h)=f (k+(aY c (l.take j):Nat)) l[j]
 |[],_,_,h=>by simp at h
 |x::xs,k,0,_=>by simp[PH,aY]
 |x::xs,k,j+1,h=>by simp only[PH,getElem_cons_succ,eL,aY];rw[Fv f c xs (k+c x) j (by simpa using h)];congr 1;omega
theorem aAt{α:Type}{p:α->Bool}{l l':List α}{j:Nat}(h:l.all p=true)(h':l'.all p=true):(yR l l' j).all p=true:=by unfold yR;rw[all_append,TJ j h',TK j h];rfl
theorem aL3{α:Type}{p:α->Bool}{l:List α}{k:Nat}{r:α}(h:l.all p=true)(hr:p r=true):(l.set k r).all p=true:=by
 rw[fR]at h⊢;intro x hx;rcases CM hx with hx|rfl
 .exact h x hx
 .exact hr
def digit(k:Int):UInt8:=UInt8.ofNat (IntKind.u8.wrap (IntKind.i64.wrap (48+k.tmod 10))).toNat
def digits:Nat->Int->bB->bB
 |0,_,out=>out
 |f+1,k,out=>if k<=0 then out else digits f (k.tdiv 10) (digit k::out)
def AL(k:Int):bB:=if k<=0 then [109,48]else 109::digits 20 k []
theorem M7(f:Nat)(k:Int)(out:bB)(h:k<=0):digits f k out=out:=by cases f<;>simp[digits,h]
def PI(k:Int):Bool:=k.tmod 3 == 0
def DK(k:Int)(x:aD):aD:={host:=AL k,path:=AL (k+1)}
def Uc(k:Int)(x:xS):xS:={path:=AL k,response:={status:=k+1,kind:=k+2,body:=AL (k+3),Gw:=k+4,shares:=PI (k+5),bD:=AL (k+6)}}
def Mj(k:Int)(x:fH):fH:={top:=AL k,to:={host:=AL (k+1),path:=AL (k+2)},response:={status:=k+3,kind:=k+4,body:=AL (k+5),Gw:=k+6,shares:=PI (k+7),bD:=AL (k+8)},til:=k+9}
def Ud(k:Int)(x:tT):tT:={top:=AL k,to:={host:=AL (k+1),path:=AL (k+2)},aNa:=PI (k+3)}
def n1{α:Type}(l:List α):Nat:=aY (λ_=>1) l
theorem Cn{α:Type}(c:Nat)(l:List α):aY (λ_=>c) l=c*l.length:=by
 induction l with
 |nil=>simp[aY]
 |cons x xs ih=>simp only[aY,ih,eN,Nat.mul_add];omega
theorem Ya{α:Type}{f g:α->Nat}(c:Nat)(h:∀x,f x<=c*(g x+1)):∀l:List α,aY f l<=c*(l.length+aY g l)
 |[]=>by simp[aY]
 |x::xs=>by
  simp only[aY,eN];have h1:=h x;have h2:=Ya c h xs;have e:c*(xs.length+1+(g x+aY g xs))=c*(g x+1)+c*(xs.length+aY g xs):=by rw[<-Nat.mul_add];congr 1;omega
  omega
@[simp] theorem aH2(u:List Nat)(b:Bool)(l:List bT):mX (iU u) b (l.map (cB .view))=l.map (cB .view):=bO (by intro x;simp) l
@[simp] theorem aJx(u:List Nat)(b:Bool)(l:List jP):mX (iU u) b (l.map (fA .view))=l.map (fA .view):=bO (by intro x;simp) l
def lowerB(c:UInt8):Bool:=decide (97<=c.toNat)&&decide (c.toNat<=122)
def xC(c:UInt8):Bool:=lowerB c || (decide (48<=c.toNat)&&decide (c.toNat<=57)) || decide (c.toNat=47)
def cZ(s:bB):Bool:=s.all lowerB&&(decide (1<=s.length)&&decide (s.length<=8))
def isValue(s:bB):Bool:=s.all xC&&(decide (1<=s.length)&&decide (s.length<=20))
def pG(a:aD):Bool:=cZ a.host&&cZ a.path
def mQ(a:aD):bB:=if pG a then a.host++(47::a.path)else []
def iK(c:UInt8)(s:bB):Nat:=s.findIdx (· == c)
theorem vI(c:UInt8)(s:bB):iK c s<=s.length:=findIdx_le_length
theorem Y8(c:UInt8):iK c []=0:=rfl
theorem BS(c x:UInt8)(s:bB):iK c (x::s)=if x=c then 0 else iK c s+1:=by
 unfold iK;rw[findIdx_cons];by_cases h:x=c
 .subst h;simp
 .have:(x == c)=false:=by simpa using h
  simp[this,h]
theorem LA(c:UInt8):∀(p s:bB),(∀x∈p,x≠c)->iK c (p++s)=p.length+iK c s
 |[],s,_=>by simp
 |x::p,s,h=>by rw[eA,BS,cY (h x (by simp)),LA c p s (λy hy=>h y (by simp[hy]))];simp;omega
theorem zm{c:UInt8}{s:bB}{k:Nat}(hk:k<s.length)(hc:s[k]=c)(hp:∀x∈s.take k,x≠c):iK c s=k:=by have e:s=s.take k++s.drop k:=(oA k s).symm;rw[e,LA c _ _ hp,mC hk,BS,eK hc];simp;omega
theorem gu{c:UInt8}{s:bB}(hp:∀x∈s,x≠c):iK c s=s.length:=by have:=LA c s [] hp;simpa [Y8]using this
theorem Y9{c:UInt8}{s:bB}(h:iK c s<s.length):s[iK c s]=c:=by have:=findIdx_getElem (p:=(· == c)) (w:=h);exact eq_of_beq this
theorem aFz(c:UInt8)(s:bB):∀x∈s.take (iK c s),x≠c:=by
 intro x hx;obtain⟨i,hi,rfl⟩:=FG hx;have hi':i<iK c s:=by have:=hi;simp at this;omega
 rw[getElem_take];have:=not_of_lt_findIdx (p:=(· == c)) (xs:=s) hi';simpa using this
def dE(c:UInt8):bB->List bB
 |[]=>[[]]
 |x::s=>if x=c then []::dE c s else match dE c s with
  |[]=>[[x]]
  |p::r=>(x::p)::r
theorem rH(c:UInt8):∀s,dE c s≠[]
 |[]=>by simp[dE]
 |x::s=>by
  simp only[dE];split
  .simp
  .split<;>simp
theorem Ed(c:UInt8):∀(p s:bB),(∀x∈p,x≠c)->dE c (p++c::s)=p::dE c s
 |[],s,_=>by simp[dE]
 |x::p,s,h=>by rw[eA];simp only[dE];rw[cY (h x (by simp)),Ed c p s (λy hy=>h y (by simp[hy]))]
theorem BU(c:UInt8):∀(p:bB),(∀x∈p,x≠c)->dE c p=[p]
 |[],_=>rfl
 |x::p,h=>by simp only[dE];rw[cY (h x (by simp)),BU c p (λy hy=>h y (by simp[hy]))]
theorem NJ(c:UInt8)(s:bB):dE c s=if iK c s<s.length then s.take (iK c s)::dE c (s.drop (iK c s+1))else [s]:=by
 have ht:=aFz c s;split
 .rename_i h;conv=>lhs;rw[<-oA (iK c s) s,mC h,Y9 h]
  exact Ed c _ _ ht
 .rename_i h;have:s.take (iK c s)=s:=cX (by omega);rw[this]at ht;exact BU c s ht
theorem iV(c:UInt8):∀s:bB,(dE c s).length=s.count c+1
 |[]=>rfl
 |x::s=>by
  simp only[dE];split
  .rename_i h;subst h;simp[iV x s]
  .rename_i h;have:=iV c s;split
   .rename_i h0;exact absurd h0 (rH c s)
   .rename_i p r h0;rw[h0]at this;rw[count_cons_of_ne h];simpa using this
def xD:aD:=⟨[],[]⟩
def addrOf(s base:bB):aD:=if iK 47 s<s.length then⟨s.take (iK 47 s),s.drop (iK 47 s+1)⟩else⟨base,s⟩
def bY(s base:bB):aD×Bool:=if pG (addrOf s base)then(addrOf s base,true)else(xD,false)
def qF(n:bB)(a:oU):Bool:=decide (a.name=n)
def aW(l:List oU)(n:bB):bB×Bool:=match l.find? (qF n)with
 |some a=>(a.value,true)
 |none=>([],false)
theorem Pn{l:List oU}{n:bB}{k:Nat}(h:k<l.length)(hf:qF n l[k]=true)(hn:∀x∈l.take k,qF n x=false):aW l n=(l[k].value,true):=by
 have e:l=l.take k++l[k]::l.drop (k+1):=by rw[<-mC h,oA]
 have:l.find? (qF n)=some l[k]:=by generalize hx:l[k]=y at*;rw[e,find?_append];have:(l.take k).find? (qF n)=none:=DP.2 (λx hx=>by simp[hn x hx]);rw[this];simp[hf]
 simp[aW,this]
theorem Jj{l:List oU}{n:bB}(hn:∀x∈l,qF n x=false):aW l n=([],false):=by have:l.find? (qF n)=none:=DP.2 (λx hx=>by simp[hn x hx]);simp[aW,this]
def gy(c:UInt8)(s:bB):Int:=if iK c s<s.length then iK c s else -1
theorem Bw(c:UInt8):∀s:bB,Go.Lib.indexByte s c=gy c s
 |[]=>by simp[Go.Lib.indexByte,gy]
 |x::s=>by
  have ih:=Bw c s;have hl:=vI c s;simp only[Go.Lib.indexByte,ih,gy,BS,eN];by_cases h:x=c
  .simp [h]
  .have:(x == c)=false:=by simpa using h
   simp only[this,h,hM,eS];by_cases h2:iK c s<s.length
   .have h3:((iK c s:Int) == -1)=false:=by rw[rK];omega
    simp[h2,h3]
   .simp [h2]
theorem VT{P:Program}[aB P]{f:FuncId}{fn:Func}(hf:P.funcs[f]? =some fn)(gz:(fn.name == "runtime.NumGoroutine")=false)
  (hb:fn.body.isNone=true) (hn:Extern.findNext fn=none) (he:Extern.find fn=some Extern.BytealgIndexByte.indexByte) (s:bB) (c:UInt8):
  OkN P f [.str s,.int .u8 c.toNat] (.int .i64 (gy c s)):=by
 intro w vs h;obtain⟨v1,h⟩:∃v,vs=[.string ⟨s.toArray⟩,.int .u8 (c.toNat:Int)]:=by
  cases vs with
  |nil=>simp[Rc]at h
  |cons a vs=>cases vs with
   |nil=>simp[Rc]at h
   |cons b vs=>cases vs with
    |nil=>simp only[Rc,R]at h;obtain⟨f1,f2,h1,h2,h3⟩:=h;obtain⟨f3,f4,h4,h5,h6⟩:=h2;exact⟨a,by rw[h1.1,h4.1]⟩
    |cons d vs=>simp only[Rc,R]at h;obtain⟨f1,f2,h1,h2,h3⟩:=h;obtain⟨f3,f4,h4,h5,h6⟩:=h2;simp[Rc]at h5
 subst h;refine⟨.int .i64 (gy c s),w,?_,rfl,mI.rfl,λ_ _=>by simp[R]⟩;rw[run_callFunc_indexByte hf gz hb hn he];have:=Go.Lib.run_indexByteString (P:=P) ⟨s.toArray⟩ (c.toNat:Int) w;simp only[mA]at this;have hc:c.toNat.toUInt8=c:=by simp
 rw[hc,Bw]at this;rw[show [Value.string ⟨s.toArray⟩,Value.int .u8 (c.toNat:Int)].toArray=#[Value.string ⟨s.toArray⟩,Value.int .u8 (c.toNat:Int)]from rfl,this];rfl
end Go.Aw
