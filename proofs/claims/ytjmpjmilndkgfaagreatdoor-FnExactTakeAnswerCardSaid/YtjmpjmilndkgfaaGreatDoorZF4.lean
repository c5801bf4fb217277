/- Proved here: steps towards the statement of this claim. No condition. -/
import Derived.Test.YtjmpjmilndkgfaaGreatDoorZF6
import Derived.Lib.Bytealg
set_option linter.all false
namespace Go.Aw
open List
def TN (n:Int):Prop:= -9223372036854775808<=n/\n<=9223372036854775807
theorem Gf (r:List AV) (h:lI [.str] r):∃x,r=bW x/\(x.length<=9223372036854775807/\True):=by obtain ⟨a,r,rfl,ha,h⟩:=jX h;obtain rfl:=vB h;exact ⟨a,rfl,ha,trivial⟩
theorem K7 (r:List AV) (h:lI [.int .i64] r):∃x,r=jE x/\(True/\TN x):=by obtain ⟨a,r,rfl,ha,h⟩:=fits_int h;obtain rfl:=vB h;exact ⟨a,rfl,trivial,ha⟩
def WU:List Sh:=[.str,.str]
def aC5 (x:aT):Prop:=True
theorem LF (r:List AV) (h0:lI WU r):∃x,r=aO x/\(Cz x/\aC5 x):=by
 obtain ⟨a0,r,rfl,w0,h1⟩:=jX h0;obtain ⟨a1,r,rfl,w1,h2⟩:=jX h1;obtain rfl:=vB h2;refine ⟨⟨a0,a1⟩,rfl,?_,?_⟩
 .exact ⟨w0,w1⟩
 .exact trivial
def mg:List Sh:=[.str,.str]
def aK6 (x:jY):Prop:=True
theorem Vt (r:List AV) (h0:lI mg r):∃x,r=gU x/\(Lm x/\aK6 x):=by
 obtain ⟨a0,r,rfl,w0,h1⟩:=jX h0;obtain ⟨a1,r,rfl,w1,h2⟩:=jX h1;obtain rfl:=vB h2;refine ⟨⟨a0,a1⟩,rfl,?_,?_⟩
 .exact ⟨w0,w1⟩
 .exact trivial
def yl:List Sh:=[.int .i64,.str,.sl 2 mg,.str]
def ym (x:bP):Prop:=TN x.kind
theorem mh (r:List AV) (h0:lI yl r):∃x,r=bK .view x/\(JD x/\ym x):=by
 obtain ⟨a0,r,rfl,w0,h1⟩:=fits_int h0;obtain ⟨a1,r,rfl,w1,h2⟩:=jX h1;obtain ⟨s2,r,rfl,w2,k2,h3⟩:=uJ h2;obtain ⟨a2,rfl,z2⟩:=pO Vt s2 k2;rw [lR] at w2;obtain ⟨a3,r,rfl,w3,h4⟩:=jX h3;obtain rfl:=vB h4;refine ⟨⟨a0,a1,a2,a3⟩,rfl,?_,?_⟩
 .exact ⟨w1,⟨w2,λy hy=>(z2 y hy).1⟩,w3⟩
 .exact w0
def aC6:List Sh:=[.str,.str,.int .i64,.sl 2 mg]
def aC7 (x:gF):Prop:=TN x.parent
theorem K8 (r:List AV) (h0:lI aC6 r):∃x,r=dE .view x/\(PZ x/\aC7 x):=by
 obtain ⟨a0,r,rfl,w0,h1⟩:=jX h0;obtain ⟨a1,r,rfl,w1,h2⟩:=jX h1;obtain ⟨a2,r,rfl,w2,h3⟩:=fits_int h2;obtain ⟨s3,r,rfl,w3,k3,h4⟩:=uJ h3;obtain ⟨a3,rfl,z3⟩:=pO Vt s3 k3;rw [lR] at w3;obtain rfl:=vB h4;refine ⟨⟨a0,a1,a2,a3⟩,rfl,?_,?_⟩
 .exact ⟨w0,w1,⟨w3,λy hy=>(z3 y hy).1⟩⟩
 .exact w2
def K9 (x:bC):Prop:=(∀y∈x.nodes,aC7 y)/\(∀y∈x.opens,TN y)
def QG:List Sh:=[.int .i64,.int .i64,.str,.int .i64,.bool,.str]
def QH (x:bL):Prop:=TN x.status/\TN x.kind/\TN x.F4
theorem TP (r:List AV) (h0:lI QG r):∃x,r=dQ x/\(DN x/\QH x):=by
 obtain ⟨a0,r,rfl,w0,h1⟩:=fits_int h0;obtain ⟨a1,r,rfl,w1,h2⟩:=fits_int h1;obtain ⟨a2,r,rfl,w2,h3⟩:=jX h2;obtain ⟨a3,r,rfl,w3,h4⟩:=fits_int h3;obtain ⟨a4,r,rfl,h5⟩:=fits_bool h4;obtain ⟨a5,r,rfl,w5,h6⟩:=jX h5;obtain rfl:=vB h6;refine ⟨⟨a0,a1,a2,a3,a4,a5⟩,rfl,?_,?_⟩
 .exact ⟨w2,w5⟩
 .exact ⟨w0,w1,w3⟩
def aC8:List Sh:=[.int .i64,.str,.str,.str,.int .i64,.bool,.int .i64,.str]
def aC9 (x:kJ):Prop:=TN x.mode/\TN x.node/\TN x.code
theorem L6 (r:List AV) (h0:lI aC8 r):∃x,r=iY x/\(Qc x/\aC9 x):=by
 obtain ⟨a0,r,rfl,w0,h1⟩:=fits_int h0;obtain ⟨a1,r,rfl,w1,h2⟩:=jX h1;obtain ⟨a2,r,rfl,w2,h3⟩:=jX h2;obtain ⟨a3,r,rfl,w3,h4⟩:=jX h3;obtain ⟨a4,r,rfl,w4,h5⟩:=fits_int h4;obtain ⟨a5,r,rfl,h6⟩:=fits_bool h5;obtain ⟨a6,r,rfl,w6,h7⟩:=fits_int h6;obtain ⟨a7,r,rfl,w7,h8⟩:=jX h7;obtain rfl:=vB h8;refine ⟨⟨a0,⟨a1,a2⟩,a3,a4,a5,a6,a7⟩,rfl,?_,?_⟩
 .exact ⟨⟨w1,w2⟩,w3,w7⟩
 .exact ⟨w0,w4,w6⟩
def Zd:List Sh:=[.str,.str,.bool,.int .i64,.str]
def Ze (x:dB):Prop:=TN x.code
theorem Zf (r:List AV) (h0:lI Zd r):∃x,r=bU x/\(EU x/\Ze x):=by
 obtain ⟨a0,r,rfl,w0,h1⟩:=jX h0;obtain ⟨a1,r,rfl,w1,h2⟩:=jX h1;obtain ⟨a2,r,rfl,h3⟩:=fits_bool h2;obtain ⟨a3,r,rfl,w3,h4⟩:=fits_int h3;obtain ⟨a4,r,rfl,w4,h5⟩:=jX h4;obtain rfl:=vB h5;refine ⟨⟨⟨a0,a1⟩,a2,a3,a4⟩,rfl,?_,?_⟩
 .exact ⟨⟨w0,w1⟩,w4⟩
 .exact w3
def aDa:List Sh:=[.str,.str,.bool,.sl 1 [.str],.sl 1 [.str],.sl 1 [.str],.str,.str,.sl 4 yl,.bool,.sl 4 aC6,.sl 1 [.int .i64],.sl 8 aC8,.sl 5 Zd,.sl 2 WU,.int .i64,.int .i64,.int .i64,.int .i64,.sl 2 WU,.sl 1 [.str],.bool]
def aDb (x:aI):Prop:=(∀y∈x.queue,ym y)/\K9 x.builder/\(∀y∈x.aB,aC9 y)/\(∀y∈x.aN,Ze y)/\TN x.block/\TN x.inline/\TN x.deferred/\TN x.gW
theorem L8 (r:List AV) (h0:lI aDa r):∃x,r=aJ .view x/\(Wx x/\aDb x):=by
 obtain ⟨a0,r,rfl,w0,h1⟩:=jX h0;obtain ⟨a1,r,rfl,w1,h2⟩:=jX h1;obtain ⟨a2,r,rfl,h3⟩:=fits_bool h2;obtain ⟨s3,r,rfl,w3,k3,h4⟩:=uJ h3;obtain ⟨a3,rfl,z3⟩:=pO Gf s3 k3;rw [lR] at w3;obtain ⟨s4,r,rfl,w4,k4,h5⟩:=uJ h4;obtain ⟨a4,rfl,z4⟩:=pO Gf s4 k4;rw [lR] at w4;obtain ⟨s5,r,rfl,w5,k5,h6⟩:=uJ h5;obtain ⟨a5,rfl,z5⟩:=pO Gf s5 k5;rw [lR] at w5;obtain ⟨a6,r,rfl,w6,h7⟩:=jX h6;obtain ⟨a7,r,rfl,w7,h8⟩:=jX h7;obtain ⟨s8,r,rfl,w8,k8,h9⟩:=uJ h8;obtain ⟨a8,rfl,z8⟩:=pO mh s8 k8;rw [lR] at w8;obtain ⟨a9,r,rfl,h10⟩:=fits_bool h9;obtain ⟨s10,r,rfl,w10,k10,h11⟩:=uJ h10;obtain ⟨a10,rfl,z10⟩:=pO K8 s10 k10;rw [lR] at w10;obtain ⟨s11,r,rfl,w11,k11,mi⟩:=uJ h11;obtain ⟨a11,rfl,z11⟩:=pO K7 s11 k11;rw [lR] at w11;obtain ⟨s12,r,rfl,w12,k12,h13⟩:=uJ mi;obtain ⟨a12,rfl,z12⟩:=pO L6 s12 k12;rw [lR] at w12;obtain ⟨s13,r,rfl,w13,k13,h14⟩:=uJ h13;obtain ⟨a13,rfl,z13⟩:=pO Zf s13 k13;rw [lR] at w13;obtain ⟨s14,r,rfl,w14,k14,h15⟩:=uJ h14;obtain ⟨a14,rfl,z14⟩:=pO LF s14 k14;rw [lR] at w14;obtain ⟨a15,r,rfl,w15,h16⟩:=fits_int h15;obtain ⟨a16,r,rfl,w16,h17⟩:=fits_int h16;obtain ⟨a17,r,rfl,w17,h18⟩:=fits_int h17;obtain ⟨a18,r,rfl,w18,h19⟩:=fits_int h18;obtain ⟨s19,r,rfl,w19,k19,Fg⟩:=uJ h19;obtain ⟨a19,rfl,z19⟩:=pO LF s19 k19;rw [lR] at w19;obtain ⟨s20,r,rfl,w20,k20,h21⟩:=uJ Fg;obtain ⟨a20,rfl,z20⟩:=pO Gf s20 k20;rw [lR] at w20;obtain ⟨a21,r,rfl,h22⟩:=fits_bool h21;obtain rfl:=vB h22;refine ⟨⟨⟨a0,a1⟩,⟨a2,a3,a4,a5,a6⟩,⟨a7⟩,a8,a9,⟨a10,a11⟩,a12,a13,a14,a15,a16,a17,a18,a19,a20,a21⟩,rfl,?_,?_⟩
 .exact ⟨⟨w0,w1⟩,⟨⟨w3,λy hy=>(z3 y hy).1⟩,⟨w4,λy hy=>(z4 y hy).1⟩,⟨w5,λy hy=>(z5 y hy).1⟩,w6⟩,w7,⟨w8,λy hy=>(z8 y hy).1⟩,⟨⟨w10,λy hy=>(z10 y hy).1⟩,w11⟩,⟨w12,λy hy=>(z12 y hy).1⟩,⟨w13,λy hy=>(z13 y hy).1⟩,⟨w14,λy hy=>(z14 y hy).1⟩,⟨w19,λy hy=>(z19 y hy).1⟩,⟨w20,λy hy=>(z20 y hy).1⟩⟩
 .exact ⟨λy hy=>(z8 y hy).2,⟨λy hy=>(z10 y hy).2,λy hy=>(z11 y hy).2⟩,λy hy=>(z12 y hy).2,λy hy=>(z13 y hy).2,w15,w16,w17,w18⟩
def qZ {α:Type} (l l':List α) (j:Nat):List α:=l'.take j++l.drop j
theorem zO {α:Type} (l l':List α) (j:Nat) (h:j < l.length) (h':j < l'.length):(qZ l l' j).set j l'[j]=qZ l l' (j+1):=by
 unfold qZ;rw [eA h',mL h,sX _ _ (by simp;omega)];have:j - (l'.take j).length=0:=by simp;omega
 rw [this,cU,rL];rfl
theorem zP {α:Type} (l l':List α) (j:Nat) (h:j < l.length) (h':j < l'.length):(qZ l l' j)[j]? =some l[j]:=by
 unfold qZ;rw [hY (by simp;omega)];have:j - (l'.take j).length=0:=by simp;omega
 rw [this];simp [h]
theorem rP {α:Type} (l l':List α) (j:Nat) (h:l'.length=l.length):(qZ l l' j).length=l.length:=by unfold qZ;simp;omega
theorem vE {α:Type} (l l':List α) (j:Nat) (h:l'.length=l.length) (hj:l.length<=j):qZ l l' j=l':=by unfold qZ;rw [cX (by omega),Ax hj,fX]
theorem wL {α:Type} (l l':List α):qZ l l' 0=l:=by simp [qZ]
def vF {α:Type} (f:Int->α->α) (c:α->Nat):Int->List α->List α
 |_,[]=>[]
 |k,x::xs=>f k x::vF f c (k+c x) xs
theorem fM {α:Type} (f:Int->α->α) (c:α->Nat):∀(l:List α) (k:Int),(vF f c k l).length=l.length
 |[],_=>rfl
 |x::xs,k=>by simp [vF,fM f c xs]
theorem pR {α:Type} (f:Int->α->α) (c:α->Nat):∀(l:List α) (k:Int) (j:Nat) (h:j < l.length),(vF f c k l)[j]'(by rw [fM];exact h)=f (k+(aQ c (l.take j):Nat)) l[j]
 |[],_,_,h=>by simp at h
 |x::xs,k,0,_=>by simp [vF,aQ]
 |x::xs,k,j+1,h=>by simp only [vF,getElem_cons_succ,eM,aQ];rw [pR f c xs (k+c x) j (by simpa using h)];congr 1;omega
theorem OQ {α:Type} {p:α->Bool} {l l':List α} {j:Nat} (h:l.all p=true) (h':l'.all p=true):(qZ l l' j).all p=true:=by unfold qZ;rw [all_append,QC j h',QD j h];rfl
theorem yw {α:Type} {p:α->Bool} {l:List α} {k:Nat} {r:α} (h:l.all p=true) (hr:p r=true):(l.set k r).all p=true:=by
 rw [fS] at h⊢;intro x hx;rcases mem_or_eq_of_mem_set hx with hx|rfl
 .exact h x hx
 .exact hr
def jN (x:bP):Nat:=3+aQ (λ_=>2) x.attrs
def oU (x:gF):Nat:=3+aQ (λ_=>2) x.attrs
def digit (k:Int):UInt8:=UInt8.ofNat (IntKind.u8.wrap (IntKind.i64.wrap (48+k.tmod 10))).toNat
def digits:Nat->Int->bF->bF
 |0,_,out=>out
 |f+1,k,out=>if k<=0 then out else digits f (k.tdiv 10) (digit k::out)
def xB (k:Int):bF:=if k<=0 then [109,48] else 109::digits 20 k []
theorem qd (f:Nat) (k:Int) (out:bF) (h:k<=0):digits f k out=out:=by cases f<;>simp [digits,h]
def Am (k:Int):Bool:=k.tmod 3 == 0
def Fw (k:Int) (x:Int):Int:=k
def pU (k:Int) (x:bF):bF:=xB k
def Ab (k:Int) (x:aT):aT:={host:=xB k,path:=xB (k+1)}
def Ac (k:Int) (x:jY):jY:={name:=xB k,value:=xB (k+1)}
def Bq (k:Int) (x:kJ):kJ:={mode:=k,to:={host:=xB (k+1),path:=xB (k+2)},digest:=xB (k+3),node:=k+4,done:=Am (k+5),code:=k+6,body:=xB (k+7)}
def tZ (k:Int) (x:dB):dB:={to:={host:=xB k,path:=xB (k+1)},done:=Am (k+2),code:=k+3,body:=xB (k+4)}
def sV (k:Int) (x:bP):bP:={kind:=k,name:=xB (k+1),attrs:=vF Ac (λ_=>2) (k+2) x.attrs,text:=xB (k+2+(aQ (λ_=>2) x.attrs:Nat))}
def mkNode (k:Int) (x:gF):gF:={name:=xB k,text:=xB (k+1),parent:=k+2,attrs:=vF Ac (λ_=>2) (k+3) x.attrs}
def n1 {α:Type} (l:List α):Nat:=aQ (λ_=>1) l
def pV (a:dL):Nat:=aQ (λ_=>1) a.dG+aQ (λ_=>1) a.eZ+aQ (λ_=>1) a.fD
def Br (k:Int) (a:dL):dL:={a with
 dG:=vF pU (λ_=>1) k a.dG
 eZ:=vF pU (λ_=>1) (k+(aQ (λ_=>1) a.dG:Nat)) a.eZ
 fD:=vF pU (λ_=>1) (k+(aQ (λ_=>1) a.dG:Nat)+(aQ (λ_=>1) a.eZ:Nat)) a.fD}
def oL (a:bC):Nat:=aQ oU a.nodes+aQ (λ_=>1) a.opens
def yJ (k:Int) (a:bC):bC:={a with
 nodes:=vF mkNode oU k a.nodes
 opens:=vF Fw (λ_=>1) (k+(aQ oU a.nodes:Nat)) a.opens}
def Fx (a:aI):Nat:=pV a.bG+aQ jN a.queue+oL a.builder+aQ (λ_=>8) a.aB+aQ (λ_=>5) a.aN+aQ (λ_=>2) a.entries+aQ (λ_=>2) a.oD+aQ (λ_=>1) a.log
def Xg (k:Int) (a:aI):aI:={a with
 bG:=Br k a.bG
 queue:=vF sV jN (k+(pV a.bG:Nat)) a.queue
 builder:=yJ (k+(pV a.bG:Nat)+(aQ jN a.queue:Nat)) a.builder
 aB:=vF Bq (λ_=>8) (k+(pV a.bG:Nat)+(aQ jN a.queue:Nat)+(oL a.builder:Nat)) a.aB
 aN:=vF tZ (λ_=>5) (k+(pV a.bG:Nat)+(aQ jN a.queue:Nat)+(oL a.builder:Nat)+(aQ (λ_=>8) a.aB:Nat)) a.aN
 entries:=vF Ab (λ_=>2) (k+(pV a.bG:Nat)+(aQ jN a.queue:Nat)+(oL a.builder:Nat)+(aQ (λ_=>8) a.aB:Nat)+(aQ (λ_=>5) a.aN:Nat)) a.entries
 oD:=vF Ab (λ_=>2) (k+(pV a.bG:Nat)+(aQ jN a.queue:Nat)+(oL a.builder:Nat)+(aQ (λ_=>8) a.aB:Nat)+(aQ (λ_=>5) a.aN:Nat)+(aQ (λ_=>2) a.entries:Nat)) a.oD
 log:=vF pU (λ_=>1) (k+(pV a.bG:Nat)+(aQ jN a.queue:Nat)+(oL a.builder:Nat)+(aQ (λ_=>8) a.aB:Nat)+(aQ (λ_=>5) a.aN:Nat)+(aQ (λ_=>2) a.entries:Nat)+(aQ (λ_=>2) a.oD:Nat)) a.log}
theorem iA {α:Type} (c:Nat) (l:List α):aQ (λ_=>c) l=c * l.length:=by
 induction l with
 |nil=>simp [aQ]
 |cons x xs ih=>simp only [aQ,ih,eL,Nat.mul_add];omega
theorem Ma {α:Type} {f g:α->Nat} (c:Nat) (h:∀x,f x<=c * (g x+1)):∀l:List α,aQ f l<=c * (l.length+aQ g l)
 |[]=>by simp [aQ]
 |x::xs=>by
  simp only [aQ,eL];have h1:=h x;have h2:=Ma c h xs;have e:c * (xs.length+1+(g x+aQ g xs))=c * (g x+1)+c * (xs.length+aQ g xs):=by rw [<-Nat.mul_add];congr 1;omega
  omega
theorem Kb (l:List jY):l.length<=bV gY l:=by unfold bV;omega
theorem O5 (x:bP):jN x<=3 * (bO x+1):=by have:=Kb x.attrs;unfold jN bO;rw [iA];omega
theorem aD3 (x:gF):oU x<=3 * (iF x+1):=by have:=Kb x.attrs;unfold oU iF;rw [iA];omega
theorem Zy {l:List bP} {n:Nat} (h:aQ bO l<=n):∀x∈l,x.attrs.length<=n:=λx hx=>by have h1:=cB bO hx;have h2:=Kb x.attrs;have h3:bO x=x.name.length+bV gY x.attrs+x.text.length:=rfl;omega
theorem qf {l:List gF} {n:Nat} (h:aQ iF l<=n):∀x∈l,x.attrs.length<=n:=λx hx=>by have h1:=cB iF hx;have h2:=Kb x.attrs;have h3:iF x=x.name.length+x.text.length+bV gY x.attrs:=rfl;omega
@[simp] theorem aD4 (u:List Nat) (b:Bool) (l:List bP):mU (iU u) b (l.map (bK .view))=l.map (bK .view):=bS (by intro x;simp) l
@[simp] theorem aFt (u:List Nat) (b:Bool) (l:List gF):mU (iU u) b (l.map (dE .view))=l.map (dE .view):=bS (by intro x;simp) l
def lowerB (c:UInt8):Bool:=decide (97<=c.toNat)&&decide (c.toNat<=122)
def vR (c:UInt8):Bool:=lowerB c || (decide (48<=c.toNat)&&decide (c.toNat<=57)) || decide (c.toNat=47)
def dA (s:bF):Bool:=s.all lowerB&&(decide (1<=s.length)&&decide (s.length<=8))
def isValue (s:bF):Bool:=s.all vR&&(decide (1<=s.length)&&decide (s.length<=20))
def zZ (a:aT):Bool:=dA a.host&&dA a.path
def lX (a:aT):bF:=if zZ a then a.host++(47::a.path) else []
def iL (c:UInt8) (s:bF):Nat:=s.findIdx (· == c)
theorem tL (c:UInt8) (s:bF):iL c s<=s.length:=findIdx_le_length
theorem xh (c:UInt8):iL c []=0:=rfl
theorem Bd (c x:UInt8) (s:bF):iL c (x::s)=if x=c then 0 else iL c s+1:=by
 unfold iL;rw [findIdx_cons];by_cases h:x=c
 .subst h;simp
 .have:(x == c)=false:=by simpa using h
  simp [this,h]
theorem JE (c:UInt8):∀(p s:bF),(∀x∈p,x≠c)->iL c (p++s)=p.length+iL c s
 |[],s,_=>by simp
 |x::p,s,h=>by rw [eI,Bd,cY (h x (by simp)),JE c p s (λy hy=>h y (by simp [hy]))];simp;omega
theorem jd {c:UInt8} {s:bF} {k:Nat} (hk:k < s.length) (hc:s[k]=c) (hp:∀x∈s.take k,x≠c):iL c s=k:=by have e:s=s.take k++s.drop k:=(oA k s).symm;rw [e,JE c _ _ hp,mL hk,Bd,eK hc];simp;omega
theorem Yp {c:UInt8} {s:bF} (hp:∀x∈s,x≠c):iL c s=s.length:=by have:=JE c s [] hp;simpa [xh] using this
theorem xk {c:UInt8} {s:bF} (h:iL c s < s.length):s[iL c s]=c:=by have:=findIdx_getElem (p:=(· == c)) (w:=h);exact eq_of_beq this
theorem aCe (c:UInt8) (s:bF):∀x∈s.take (iL c s),x≠c:=by
 intro x hx;obtain ⟨i,hi,rfl⟩:=getElem_of_mem hx;have hi':i < iL c s:=by have:=hi;simp at this;omega
 rw [getElem_take];have:=not_of_lt_findIdx (p:=(· == c)) (xs:=s) hi';simpa using this
def dF (c:UInt8):bF->List bF
 |[]=>[[]]
 |x::s=>if x=c then []::dF c s else match dF c s with
  |[]=>[[x]]
  |p::r=>(x::p)::r
theorem pQ (c:UInt8):∀s,dF c s≠[]
 |[]=>by simp [dF]
 |x::s=>by
  simp only [dF];split
  .simp
  .split<;>simp
theorem CX (c:UInt8):∀(p s:bF),(∀x∈p,x≠c)->dF c (p++c::s)=p::dF c s
 |[],s,_=>by simp [dF]
 |x::p,s,h=>by rw [eI];simp only [dF];rw [cY (h x (by simp)),CX c p s (λy hy=>h y (by simp [hy]))]
theorem Be (c:UInt8):∀(p:bF),(∀x∈p,x≠c)->dF c p=[p]
 |[],_=>rfl
 |x::p,h=>by simp only [dF];rw [cY (h x (by simp)),Be c p (λy hy=>h y (by simp [hy]))]
theorem Ls (c:UInt8) (s:bF):dF c s=if iL c s < s.length then s.take (iL c s)::dF c (s.drop (iL c s+1)) else [s]:=by
 have ht:=aCe c s;split
 .rename_i h;conv=>lhs;rw [<-oA (iL c s) s,mL h,xk h]
  exact CX c _ _ ht
 .rename_i h;have:s.take (iL c s)=s:=cX (by omega);rw [this] at ht;exact Be c s ht
theorem iV (c:UInt8):∀s:bF,(dF c s).length=s.count c+1
 |[]=>rfl
 |x::s=>by
  simp only [dF];split
  .rename_i h;subst h;simp [iV x s]
  .rename_i h;have:=iV c s;split
   .rename_i h0;exact absurd h0 (pQ c s)
   .rename_i p r h0;rw [h0] at this;rw [count_cons_of_ne h];simpa using this
def vS:aT:=⟨[],[]⟩
def addrOf (s base:bF):aT:=if iL 47 s < s.length then ⟨s.take (iL 47 s),s.drop (iL 47 s+1)⟩ else ⟨base,s⟩
def bZ (s base:bF):aT×Bool:=if zZ (addrOf s base) then (addrOf s base,true) else (vS,false)
def oH (n:bF) (a:jY):Bool:=decide (a.name=n)
def aV (l:List jY) (n:bF):bF×Bool:=match l.find? (oH n) with
 |some a=>(a.value,true)
 |none=>([],false)
theorem MO {l:List jY} {n:bF} {k:Nat} (h:k < l.length) (hf:oH n l[k]=true) (hn:∀x∈l.take k,oH n x=false):aV l n=(l[k].value,true):=by
 have e:l=l.take k++l[k]::l.drop (k+1):=by rw [<-mL h,oA]
 have:l.find? (oH n)=some l[k]:=by generalize hx:l[k]=y at *;rw [e,find?_append];have:(l.take k).find? (oH n)=none:=Dg.2 (λx hx=>by simp [hn x hx]);rw [this];simp [hf]
 simp [aV,this]
theorem GM {l:List jY} {n:bF} (hn:∀x∈l,oH n x=false):aV l n=([],false):=by have:l.find? (oH n)=none:=Dg.2 (λx hx=>by simp [hn x hx]);simp [aV,this]
def Yq (c:UInt8) (s:bF):Int:=if iL c s < s.length then iL c s else -1
theorem Au (c:UInt8):∀s:bF,Go.Lib.indexByte s c=Yq c s
 |[]=>by simp [Go.Lib.indexByte,Yq]
 |x::s=>by
  have ih:=Au c s;have hl:=tL c s;simp only [Go.Lib.indexByte,ih,Yq,Bd,eL];by_cases h:x=c
  .simp [h]
  .have:(x == c)=false:=by simpa using h
   simp only [this,h,gS,eS];by_cases h2:iL c s < s.length
   .have h3:((iL c s:Int) == -1)=false:=by rw [Dd];omega
    simp [h2,h3]
   .simp [h2]
theorem TE {P:Program} [aC P] {f:FuncId} {fn:Func} (hf:P.funcs[f]? =some fn) (Yr:(fn.name == "runtime.NumGoroutine")=false)
  (hb:fn.body.isNone=true) (hn:Extern.findNext fn=none) (he:Extern.find fn=some Extern.BytealgIndexByte.indexByte) (s:bF) (c:UInt8):
  OkN P f [.str s,.int .u8 c.toNat] (.int .i64 (Yq c s)):=by
 intro w vs h;obtain ⟨v1,h⟩:∃v,vs=[.string ⟨s.toArray⟩,.int .u8 (c.toNat:Int)]:=by
  cases vs with
  |nil=>simp [Rc] at h
  |cons a vs=>cases vs with
   |nil=>simp [Rc] at h
   |cons b vs=>cases vs with
    |nil=>simp only [Rc,R] at h;obtain ⟨f1,f2,h1,h2,h3⟩:=h;obtain ⟨f3,f4,h4,h5,h6⟩:=h2;exact ⟨a,by rw [h1.1,h4.1]⟩
    |cons d vs=>simp only [Rc,R] at h;obtain ⟨f1,f2,h1,h2,h3⟩:=h;obtain ⟨f3,f4,h4,h5,h6⟩:=h2;simp [Rc] at h5
 subst h;refine ⟨.int .i64 (Yq c s),w,?_,rfl,nG.rfl,λ_ _=>by simp [R]⟩;rw [run_callFunc_indexByte hf Yr hb hn he];have:=Go.Lib.run_indexByteString (P:=P) ⟨s.toArray⟩ (c.toNat:Int) w;simp only [mC] at this;have hc:c.toNat.toUInt8=c:=by simp
 rw [hc,Au] at this;rw [show [Value.string ⟨s.toArray⟩,Value.int .u8 (c.toNat:Int)].toArray=#[Value.string ⟨s.toArray⟩,Value.int .u8 (c.toNat:Int)] from rfl,this];rfl
end Go.Aw
