/- Proved here: steps towards the statement of this claim. No condition. -/
import Derived.Test.YtlnblmmohpcceaaGreatDoorZF6
import Derived.Lib.Bytealg
set_option linter.all false
namespace Go.Aw
open List
def bG (n:Int):Prop:= -9223372036854775808<=n/\n<=9223372036854775807
theorem Ee (r:List AV) (h:jR [.str] r):∃x,r=fF x/\(x.length<=9223372036854775807/\True):=by
 obtain ⟨a,r,rfl,ha,h⟩:=jK h
 obtain rfl:=uF h
 exact ⟨a,rfl,ha,trivial⟩
theorem jw (r:List AV) (h:jR [.int .i64] r):∃x,r=iX x/\(True/\bG x):=by
 obtain ⟨a,r,rfl,ha,h⟩:=fits_int h
 obtain rfl:=uF h
 exact ⟨a,rfl,trivial,ha⟩
def Yk:List Sh:=[.str,.str]
def aG8 (x:aT):Prop:=True
theorem Rj (r:List AV) (h0:jR Yk r):∃x,r=aK x/\(BH x/\aG8 x):=by
 obtain ⟨a0,r,rfl,w0,h1⟩:=jK h0
 obtain ⟨a1,r,rfl,w1,h2⟩:=jK h1
 obtain rfl:=uF h2
 refine ⟨⟨a0,a1⟩,rfl,?_,?_⟩
 ·exact ⟨w0,w1⟩
 ·exact trivial
def Yl:List Sh:=[.str,.str]
def aG9 (x:iU):Prop:=True
theorem Rk (r:List AV) (h0:jR Yl r):∃x,r=fQ x/\(IU x/\aG9 x):=by
 obtain ⟨a0,r,rfl,w0,h1⟩:=jK h0
 obtain ⟨a1,r,rfl,w1,h2⟩:=jK h1
 obtain rfl:=uF h2
 refine ⟨⟨a0,a1⟩,rfl,?_,?_⟩
 ·exact ⟨w0,w1⟩
 ·exact trivial
def ZP:List Sh:=[.int .i64,.str,.sl 2 Yl,.str]
def ZQ (x:bH):Prop:=bG x.kind
theorem Ym (r:List AV) (h0:jR ZP r):∃x,r=bB .view x/\(Gw x/\ZQ x):=by
 obtain ⟨a0,r,rfl,w0,h1⟩:=fits_int h0
 obtain ⟨a1,r,rfl,w1,h2⟩:=jK h1
 obtain ⟨s2,r,rfl,w2,k2,h3⟩:=rG h2
 obtain ⟨a2,rfl,z2⟩:=nM Rk s2 k2
 rw [length_map] at w2
 obtain ⟨a3,r,rfl,w3,h4⟩:=jK h3
 obtain rfl:=uF h4
 refine ⟨⟨a0,a1,a2,a3⟩,rfl,?_,?_⟩
 ·exact ⟨w1,⟨w2,fun y hy=>(z2 y hy).1⟩,w3⟩
 ·exact w0
def K6:List Sh:=[.str,.str,.int .i64,.sl 2 Yl]
def K7 (x:eY):Prop:=bG x.parent
theorem jy (r:List AV) (h0:jR K6 r):∃x,r=bX .view x/\(MJ x/\K7 x):=by
 obtain ⟨a0,r,rfl,w0,h1⟩:=jK h0
 obtain ⟨a1,r,rfl,w1,h2⟩:=jK h1
 obtain ⟨a2,r,rfl,w2,h3⟩:=fits_int h2
 obtain ⟨s3,r,rfl,w3,k3,h4⟩:=rG h3
 obtain ⟨a3,rfl,z3⟩:=nM Rk s3 k3
 rw [length_map] at w3
 obtain rfl:=uF h4
 refine ⟨⟨a0,a1,a2,a3⟩,rfl,?_,?_⟩
 ·exact ⟨w0,w1,⟨w3,fun y hy=>(z3 y hy).1⟩⟩
 ·exact w2
def kg (x:aW):Prop:=(∀y∈x.nodes,K7 y)/\(∀y∈x.opens,bG y)
def K8:List Sh:=[.int .i64,.str,.str,.str,.int .i64,.bool,.int .i64,.str]
def K9 (x:lF):Prop:=bG x.mode/\bG x.node/\bG x.code
theorem ko (r:List AV) (h0:jR K8 r):∃x,r=iO x/\(MM x/\K9 x):=by
 obtain ⟨a0,r,rfl,w0,h1⟩:=fits_int h0
 obtain ⟨a1,r,rfl,w1,h2⟩:=jK h1
 obtain ⟨a2,r,rfl,w2,h3⟩:=jK h2
 obtain ⟨a3,r,rfl,w3,h4⟩:=jK h3
 obtain ⟨a4,r,rfl,w4,h5⟩:=fits_int h4
 obtain ⟨a5,r,rfl,h6⟩:=fits_bool h5
 obtain ⟨a6,r,rfl,w6,h7⟩:=fits_int h6
 obtain ⟨a7,r,rfl,w7,h8⟩:=jK h7
 obtain rfl:=uF h8
 refine ⟨⟨a0,⟨a1,a2⟩,a3,a4,a5,a6,a7⟩,rfl,?_,?_⟩
 ·exact ⟨⟨w1,w2⟩,w3,w7⟩
 ·exact ⟨w0,w4,w6⟩
def VD:List Sh:=[.str,.str,.bool,.int .i64,.str]
def VE (x:dD):Prop:=bG x.code
theorem VF (r:List AV) (h0:jR VD r):∃x,r=bO x/\(CV x/\VE x):=by
 obtain ⟨a0,r,rfl,w0,h1⟩:=jK h0
 obtain ⟨a1,r,rfl,w1,h2⟩:=jK h1
 obtain ⟨a2,r,rfl,h3⟩:=fits_bool h2
 obtain ⟨a3,r,rfl,w3,h4⟩:=fits_int h3
 obtain ⟨a4,r,rfl,w4,h5⟩:=jK h4
 obtain rfl:=uF h5
 refine ⟨⟨⟨a0,a1⟩,a2,a3,a4⟩,rfl,?_,?_⟩
 ·exact ⟨⟨w0,w1⟩,w4⟩
 ·exact w3
def L6:List Sh:=[.str,.str,.bool,.sl 1 [.str],.sl 1 [.str],.sl 1 [.str],.str,.str,.sl 4 ZP,.bool,.sl 4 K6,.sl 1 [.int .i64],.sl 8 K8,.sl 5 VD,.sl 2 Yk,.int .i64,.int .i64,.int .i64,.int .i64,.sl 2 Yk,.sl 1 [.str],.bool]
def L8 (x:aP):Prop:=(∀y∈x.queue,ZQ y)/\kg x.builder/\(∀y∈x.aF,K9 y)/\(∀y∈x.aX,VE y)/\bG x.block/\bG x.inline/\bG x.deferred/\bG x.fO
theorem kr (r:List AV) (h0:jR L6 r):∃x,r=aM .view x/\(Sy x/\L8 x):=by
 obtain ⟨a0,r,rfl,w0,h1⟩:=jK h0
 obtain ⟨a1,r,rfl,w1,h2⟩:=jK h1
 obtain ⟨a2,r,rfl,h3⟩:=fits_bool h2
 obtain ⟨s3,r,rfl,w3,k3,h4⟩:=rG h3
 obtain ⟨a3,rfl,z3⟩:=nM Ee s3 k3
 rw [length_map] at w3
 obtain ⟨s4,r,rfl,w4,k4,h5⟩:=rG h4
 obtain ⟨a4,rfl,z4⟩:=nM Ee s4 k4
 rw [length_map] at w4
 obtain ⟨s5,r,rfl,w5,k5,h6⟩:=rG h5
 obtain ⟨a5,rfl,z5⟩:=nM Ee s5 k5
 rw [length_map] at w5
 obtain ⟨a6,r,rfl,w6,h7⟩:=jK h6
 obtain ⟨a7,r,rfl,w7,h8⟩:=jK h7
 obtain ⟨s8,r,rfl,w8,k8,h9⟩:=rG h8
 obtain ⟨a8,rfl,z8⟩:=nM Ym s8 k8
 rw [length_map] at w8
 obtain ⟨a9,r,rfl,h10⟩:=fits_bool h9
 obtain ⟨s10,r,rfl,w10,k10,h11⟩:=rG h10
 obtain ⟨a10,rfl,z10⟩:=nM jy s10 k10
 rw [length_map] at w10
 obtain ⟨s11,r,rfl,w11,k11,ku⟩:=rG h11
 obtain ⟨a11,rfl,z11⟩:=nM jw s11 k11
 rw [length_map] at w11
 obtain ⟨s12,r,rfl,w12,k12,h13⟩:=rG ku
 obtain ⟨a12,rfl,z12⟩:=nM ko s12 k12
 rw [length_map] at w12
 obtain ⟨s13,r,rfl,w13,k13,h14⟩:=rG h13
 obtain ⟨a13,rfl,z13⟩:=nM VF s13 k13
 rw [length_map] at w13
 obtain ⟨s14,r,rfl,w14,k14,h15⟩:=rG h14
 obtain ⟨a14,rfl,z14⟩:=nM Rj s14 k14
 rw [length_map] at w14
 obtain ⟨a15,r,rfl,w15,h16⟩:=fits_int h15
 obtain ⟨a16,r,rfl,w16,h17⟩:=fits_int h16
 obtain ⟨a17,r,rfl,w17,h18⟩:=fits_int h17
 obtain ⟨a18,r,rfl,w18,h19⟩:=fits_int h18
 obtain ⟨s19,r,rfl,w19,k19,Tu⟩:=rG h19
 obtain ⟨a19,rfl,z19⟩:=nM Rj s19 k19
 rw [length_map] at w19
 obtain ⟨s20,r,rfl,w20,k20,h21⟩:=rG Tu
 obtain ⟨a20,rfl,z20⟩:=nM Ee s20 k20
 rw [length_map] at w20
 obtain ⟨a21,r,rfl,h22⟩:=fits_bool h21
 obtain rfl:=uF h22
 refine ⟨⟨⟨a0,a1⟩,⟨a2,a3,a4,a5,a6⟩,⟨a7⟩,a8,a9,⟨a10,a11⟩,a12,a13,a14,a15,a16,a17,a18,a19,a20,a21⟩,rfl,?_,?_⟩
 ·exact ⟨⟨w0,w1⟩,⟨⟨w3,fun y hy=>(z3 y hy).1⟩,⟨w4,fun y hy=>(z4 y hy).1⟩,⟨w5,fun y hy=>(z5 y hy).1⟩,w6⟩,w7,⟨w8,fun y hy=>(z8 y hy).1⟩,⟨⟨w10,fun y hy=>(z10 y hy).1⟩,w11⟩,⟨w12,fun y hy=>(z12 y hy).1⟩,⟨w13,fun y hy=>(z13 y hy).1⟩,⟨w14,fun y hy=>(z14 y hy).1⟩,⟨w19,fun y hy=>(z19 y hy).1⟩,⟨w20,fun y hy=>(z20 y hy).1⟩⟩
 ·exact ⟨fun y hy=>(z8 y hy).2,⟨fun y hy=>(z10 y hy).2,fun y hy=>(z11 y hy).2⟩,fun y hy=>(z12 y hy).2,fun y hy=>(z13 y hy).2,w15,w16,w17,w18⟩
end Go.Aw

namespace Go.Aw
open List
def oN {α:Type} (l l':List α) (j:Nat):List α:=l'.take j++l.drop j
theorem wP {α:Type} (l l':List α) (j:Nat) (h:j < l.length) (h':j < l'.length):(oN l l' j).set j l'[j]=oN l l' (j+1):=by
 unfold oN
 rw [take_succ_eq_append_getElem h',drop_eq_getElem_cons h,set_append_right _ _ (by simp;omega)]
 have:j - (l'.take j).length=0:=by simp;omega
 rw [this,set_cons_zero,append_assoc];rfl
theorem wQ {α:Type} (l l':List α) (j:Nat) (h:j < l.length) (h':j < l'.length):(oN l l' j)[j]? =some l[j]:=by
 unfold oN
 rw [getElem?_append_right (by simp;omega)]
 have:j - (l'.take j).length=0:=by simp;omega
 rw [this];simp [h]
theorem pE {α:Type} (l l':List α) (j:Nat) (h:l'.length=l.length):(oN l l' j).length=l.length:=by unfold oN;simp;omega
theorem sG {α:Type} (l l':List α) (j:Nat) (h:l'.length=l.length) (hj:l.length<=j):oN l l' j=l':=by
 unfold oN;rw [take_of_length_le (by omega),drop_of_length_le hj,append_nil]
theorem tT {α:Type} (l l':List α):oN l l' 0=l:=by simp [oN]
def sH {α:Type} (f:Int->α->α) (c:α->Nat):Int->List α->List α
 |_,[]=>[]
 |k,x::xs=>f k x::sH f c (k+c x) xs
theorem dZ {α:Type} (f:Int->α->α) (c:α->Nat):∀(l:List α) (k:Int),(sH f c k l).length=l.length
 |[],_=>rfl
 |x::xs,k=>by simp [sH,dZ f c xs]
theorem nN {α:Type} (f:Int->α->α) (c:α->Nat):∀(l:List α) (k:Int) (j:Nat) (h:j < l.length),(sH f c k l)[j]'(by rw [dZ];exact h)=f (k+(aO c (l.take j):Nat)) l[j]
 |[],_,_,h=>by simp at h
 |x::xs,k,0,_=>by simp [sH,aO]
 |x::xs,k,j+1,h=>by
  simp only [sH,getElem_cons_succ,take_succ_cons,aO]
  rw [nN f c xs (k+c x) j (by simpa using h)]
  congr 1;omega
theorem LD {α:Type} {p:α->Bool} {l l':List α} {j:Nat} (h:l.all p=true) (h':l'.all p=true):(oN l l' j).all p=true:=by
 unfold oN
 rw [all_append,Ns j h',Nt j h];rfl
theorem ZZ {α:Type} {p:α->Bool} {l:List α} {k:Nat} {r:α} (h:l.all p=true) (hr:p r=true):(l.set k r).all p=true:=by
 rw [all_eq_true] at h⊢
 intro x hx
 rcases mem_or_eq_of_mem_set hx with hx|rfl
 ·exact h x hx
 ·exact hr
def iE (x:bH):Nat:=3+aO (fun _=>2) x.attrs
def nC (x:eY):Nat:=3+aO (fun _=>2) x.attrs
def digit (k:Int):UInt8:=UInt8.ofNat (IntKind.u8.wrap (IntKind.i64.wrap (48+k.tmod 10))).toNat
def digits:Nat->Int->bC->bC
 |0,_,out=>out
 |f+1,k,out=>if k<=0 then out else digits f (k.tdiv 10) (digit k::out)
def uM (k:Int):bC:=if k<=0 then [109,48] else 109::digits 20 k []
theorem YH (f:Nat) (k:Int) (out:bC) (h:k<=0):digits f k out=out:=by
 cases f<;>simp [digits,h]
def xQ (k:Int):Bool:=k.tmod 3 == 0
end Go.Aw

namespace Go.Aw
open List
def Dp (k:Int) (x:Int):Int:=k
def nO (k:Int) (x:bC):bC:=uM k
def xC (k:Int) (x:aT):aT:={host:=uM k,path:=uM (k+1)}
def xD (k:Int) (x:iU):iU:={name:=uM k,value:=uM (k+1)}
def zA (k:Int) (x:lF):lF:={mode:=k,to:={host:=uM (k+1),path:=uM (k+2)},digest:=uM (k+3),node:=k+4,done:=xQ (k+5),code:=k+6,body:=uM (k+7)}
def rE (k:Int) (x:dD):dD:={to:={host:=uM k,path:=uM (k+1)},done:=xQ (k+2),code:=k+3,body:=uM (k+4)}
def qN (k:Int) (x:bH):bH:={kind:=k,name:=uM (k+1),attrs:=sH xD (fun _=>2) (k+2) x.attrs,text:=uM (k+2+(aO (fun _=>2) x.attrs:Nat))}
def mkNode (k:Int) (x:eY):eY:={name:=uM k,text:=uM (k+1),parent:=k+2,attrs:=sH xD (fun _=>2) (k+3) x.attrs}
end Go.Aw

namespace Go.Aw
open List
def n1 {α:Type} (l:List α):Nat:=aO (fun _=>1) l
def nP (a:gN):Nat:=aO (fun _=>1) a.jQ+aO (fun _=>1) a.mO+aO (fun _=>1) a.nD
def zB (k:Int) (a:gN):gN:={a with
 jQ:=sH nO (fun _=>1) k a.jQ
 mO:=sH nO (fun _=>1) (k+(aO (fun _=>1) a.jQ:Nat)) a.mO
 nD:=sH nO (fun _=>1) (k+(aO (fun _=>1) a.jQ:Nat)+(aO (fun _=>1) a.mO:Nat)) a.nD}
def mV (a:aW):Nat:=aO nC a.nodes+aO (fun _=>1) a.opens
def vN (k:Int) (a:aW):aW:={a with
 nodes:=sH mkNode nC k a.nodes
 opens:=sH Dp (fun _=>1) (k+(aO nC a.nodes:Nat)) a.opens}
def Dq (a:aP):Nat:=nP a.cB+aO iE a.queue+mV a.builder+aO (fun _=>8) a.aF+aO (fun _=>5) a.aX+aO (fun _=>2) a.entries+aO (fun _=>2) a.nY+aO (fun _=>1) a.log
def TH (k:Int) (a:aP):aP:={a with
 cB:=zB k a.cB
 queue:=sH qN iE (k+(nP a.cB:Nat)) a.queue
 builder:=vN (k+(nP a.cB:Nat)+(aO iE a.queue:Nat)) a.builder
 aF:=sH zA (fun _=>8) (k+(nP a.cB:Nat)+(aO iE a.queue:Nat)+(mV a.builder:Nat)) a.aF
 aX:=sH rE (fun _=>5) (k+(nP a.cB:Nat)+(aO iE a.queue:Nat)+(mV a.builder:Nat)+(aO (fun _=>8) a.aF:Nat)) a.aX
 entries:=sH xC (fun _=>2) (k+(nP a.cB:Nat)+(aO iE a.queue:Nat)+(mV a.builder:Nat)+(aO (fun _=>8) a.aF:Nat)+(aO (fun _=>5) a.aX:Nat)) a.entries
 nY:=sH xC (fun _=>2) (k+(nP a.cB:Nat)+(aO iE a.queue:Nat)+(mV a.builder:Nat)+(aO (fun _=>8) a.aF:Nat)+(aO (fun _=>5) a.aX:Nat)+(aO (fun _=>2) a.entries:Nat)) a.nY
 log:=sH nO (fun _=>1) (k+(nP a.cB:Nat)+(aO iE a.queue:Nat)+(mV a.builder:Nat)+(aO (fun _=>8) a.aF:Nat)+(aO (fun _=>5) a.aX:Nat)+(aO (fun _=>2) a.entries:Nat)+(aO (fun _=>2) a.nY:Nat)) a.log}
theorem fK {α:Type} (c:Nat) (l:List α):aO (fun _=>c) l=c * l.length:=by
 induction l with
 |nil=>simp [aO]
 |cons x xs ih=>simp only [aO,ih,length_cons,Nat.mul_add];omega
theorem Jt {α:Type} {f g:α->Nat} (c:Nat) (h:∀x,f x<=c * (g x+1)):∀l:List α,aO f l<=c * (l.length+aO g l)
 |[]=>by simp [aO]
 |x::xs=>by
  simp only [aO,length_cons]
  have h1:=h x
  have h2:=Jt c h xs
  have e:c * (xs.length+1+(g x+aO g xs))=c * (g x+1)+c * (xs.length+aO g xs):=by rw [<-Nat.mul_add];congr 1;omega
  omega
theorem Hg (l:List iU):l.length<=bP fI l:=by unfold bP;omega
theorem mr (x:bH):iE x<=3 * (bF x+1):=by
 have:=Hg x.attrs
 unfold iE bF;rw [fK];omega
theorem V5 (x:eY):nC x<=3 * (fU x+1):=by
 have:=Hg x.attrs
 unfold nC fU;rw [fK];omega
theorem VW {l:List bH} {n:Nat} (h:aO bF l<=n):∀x∈l,x.attrs.length<=n:=fun x hx=>by
 have h1:=bU bF hx
 have h2:=Hg x.attrs
 have h3:bF x=x.name.length+bP fI x.attrs+x.text.length:=rfl
 omega
theorem YI {l:List eY} {n:Nat} (h:aO fU l<=n):∀x∈l,x.attrs.length<=n:=fun x hx=>by
 have h1:=bU fU hx
 have h2:=Hg x.attrs
 have h3:fU x=x.name.length+x.text.length+bP fI x.attrs:=rfl
 omega
@[simp] theorem V6 (u:List Nat) (b:Bool) (l:List bH):lD (gM u) b (l.map (bB .view))=l.map (bB .view):=bK (by intro x;simp) l
@[simp] theorem aBl (u:List Nat) (b:Bool) (l:List eY):lD (gM u) b (l.map (bX .view))=l.map (bX .view):=bK (by intro x;simp) l
end Go.Aw

namespace Go.Aw
open List
def lowerB (c:UInt8):Bool:=decide (97<=c.toNat)&&decide (c.toNat<=122)
def uH (c:UInt8):Bool:=lowerB c || (decide (48<=c.toNat)&&decide (c.toNat<=57)) || decide (c.toNat=47)
def dJ (s:bC):Bool:=s.all lowerB&&(decide (1<=s.length)&&decide (s.length<=8))
def isValue (s:bC):Bool:=s.all uH&&(decide (1<=s.length)&&decide (s.length<=20))
def yO (a:aT):Bool:=dJ a.host&&dJ a.path
def jW (a:aT):bC:=if yO a then a.host++(47::a.path) else []
def gG (c:UInt8) (s:bC):Nat:=s.findIdx (· == c)
theorem qW (c:UInt8) (s:bC):gG c s<=s.length:=findIdx_le_length
theorem ZB (c:UInt8):gG c []=0:=rfl
theorem yP (c x:UInt8) (s:bC):gG c (x::s)=if x=c then 0 else gG c s+1:=by
 unfold gG
 rw [findIdx_cons]
 by_cases h:x=c
 ·subst h;simp
 ·have:(x == c)=false:=by simpa using h
  simp [this,h]
theorem Gy (c:UInt8):∀(p s:bC),(∀x∈p,x≠c)->gG c (p++s)=p.length+gG c s
 |[],s,_=>by simp
 |x::p,s,h=>by
  rw [cons_append,yP,if_neg (h x (by simp)),Gy c p s (fun y hy=>h y (by simp [hy]))]
  simp;omega
theorem XK {c:UInt8} {s:bC} {k:Nat} (hk:k < s.length) (hc:s[k]=c) (hp:∀x∈s.take k,x≠c):gG c s=k:=by
 have e:s=s.take k++s.drop k:=(take_append_drop k s).symm
 rw [e,Gy c _ _ hp,drop_eq_getElem_cons hk,yP,if_pos hc]
 simp;omega
theorem UK {c:UInt8} {s:bC} (hp:∀x∈s,x≠c):gG c s=s.length:=by
 have:=Gy c s [] hp
 simpa [ZB] using this
theorem ZC {c:UInt8} {s:bC} (h:gG c s < s.length):s[gG c s]=c:=by
 have:=findIdx_getElem (p:=(· == c)) (w:=h)
 exact eq_of_beq this
theorem C9 (c:UInt8) (s:bC):∀x∈s.take (gG c s),x≠c:=by
 intro x hx
 obtain ⟨i,hi,rfl⟩:=getElem_of_mem hx
 have hi':i < gG c s:=by have:=hi;simp at this;omega
 rw [getElem_take]
 have:=not_of_lt_findIdx (p:=(· == c)) (xs:=s) hi'
 simpa using this
def eF (c:UInt8):bC->List bC
 |[]=>[[]]
 |x::s=>if x=c then []::eF c s else match eF c s with
  |[]=>[[x]]
  |p::r=>(x::p)::r
theorem xV (c:UInt8):∀s,eF c s≠[]
 |[]=>by simp [eF]
 |x::s=>by
  simp only [eF]
  split
  ·simp
  ·split<;>simp
theorem MN (c:UInt8):∀(p s:bC),(∀x∈p,x≠c)->eF c (p++c::s)=p::eF c s
 |[],s,_=>by simp [eF]
 |x::p,s,h=>by
  rw [cons_append]
  simp only [eF]
  rw [if_neg (h x (by simp)),MN c p s (fun y hy=>h y (by simp [hy]))]
theorem CW (c:UInt8):∀(p:bC),(∀x∈p,x≠c)->eF c p=[p]
 |[],_=>rfl
 |x::p,h=>by
  simp only [eF]
  rw [if_neg (h x (by simp)),CW c p (fun y hy=>h y (by simp [hy]))]
theorem IY (c:UInt8) (s:bC):eF c s=if gG c s < s.length then s.take (gG c s)::eF c (s.drop (gG c s+1)) else [s]:=by
 have ht:=C9 c s
 split
 ·rename_i h
  conv=>lhs;rw [<-take_append_drop (gG c s) s,drop_eq_getElem_cons h,ZC h]
  exact MN c _ _ ht
 ·rename_i h
  have:s.take (gG c s)=s:=take_of_length_le (by omega)
  rw [this] at ht
  exact CW c s ht
theorem iV (c:UInt8):∀s:bC,(eF c s).length=s.count c+1
 |[]=>rfl
 |x::s=>by
  simp only [eF]
  split
  ·rename_i h;subst h;simp [iV x s]
  ·rename_i h
   have:=iV c s
   split
   ·rename_i h0;exact absurd h0 (xV c s)
   ·rename_i p r h0
    rw [h0] at this
    rw [count_cons_of_ne h]
    simpa using this
def uI:aT:=⟨[],[]⟩
def addrOf (s base:bC):aT:=if gG 47 s < s.length then ⟨s.take (gG 47 s),s.drop (gG 47 s+1)⟩ else ⟨base,s⟩
def bQ (s base:bC):aT×Bool:=if yO (addrOf s base) then (addrOf s base,true) else (uI,false)
def mQ (n:bC) (a:iU):Bool:=decide (a.name=n)
def aQ (l:List iU) (n:bC):bC×Bool:=match l.find? (mQ n) with
 |some a=>(a.value,true)
 |none=>([],false)
theorem Ka {l:List iU} {n:bC} {k:Nat} (h:k < l.length) (hf:mQ n l[k]=true) (hn:∀x∈l.take k,mQ n x=false):aQ l n=(l[k].value,true):=by
 have e:l=l.take k++l[k]::l.drop (k+1):=by rw [<-drop_eq_getElem_cons h,take_append_drop]
 have:l.find? (mQ n)=some l[k]:=by
  generalize hx:l[k]=y at *
  rw [e,find?_append]
  have:(l.take k).find? (mQ n)=none:=find?_eq_none.2 (fun x hx=>by simp [hn x hx])
  rw [this]
  simp [hf]
 simp [aQ,this]
theorem Ez {l:List iU} {n:bC} (hn:∀x∈l,mQ n x=false):aQ l n=([],false):=by
 have:l.find? (mQ n)=none:=find?_eq_none.2 (fun x hx=>by simp [hn x hx])
 simp [aQ,this]
end Go.Aw

namespace Go.Aw
open List
def UL (c:UInt8) (s:bC):Int:=if gG c s < s.length then gG c s else -1
theorem xW (c:UInt8):∀s:bC,Go.Lib.indexByte s c=UL c s
 |[]=>by simp [Go.Lib.indexByte,UL]
 |x::s=>by
  have ih:=xW c s
  have hl:=qW c s
  simp only [Go.Lib.indexByte,ih,UL,yP,length_cons]
  by_cases h:x=c
  ·simp [h]
  ·have:(x == c)=false:=by simpa using h
   simp only [this,h,if_false,Bool.false_eq_true]
   by_cases h2:gG c s < s.length
   ·have h3:((gG c s:Int) == -1)=false:=by rw [beq_eq_false_iff_ne];omega
    simp [h2,h3]
   ·simp [h2]
theorem Pv {P:Program} [aD P] {f:FuncId} {fn:Func} (hf:P.funcs[f]? =some fn) (UM:(fn.name == "runtime.NumGoroutine")=false)
  (hb:fn.body.isNone=true) (hn:Extern.findNext fn=none) (he:Extern.find fn=some Extern.BytealgIndexByte.indexByte) (s:bC) (c:UInt8):
  OkN P f [.str s,.int .u8 c.toNat] (.int .i64 (UL c s)):=by
 intro w vs h
 obtain ⟨v1,h⟩:∃v,vs=[.string ⟨s.toArray⟩,.int .u8 (c.toNat:Int)]:=by
  cases vs with
  |nil=>simp [Rc] at h
  |cons a vs=>cases vs with
   |nil=>simp [Rc] at h
   |cons b vs=>cases vs with
    |nil=>
     simp only [Rc,R] at h
     obtain ⟨f1,f2,h1,h2,h3⟩:=h
     obtain ⟨f3,f4,h4,h5,h6⟩:=h2
     exact ⟨a,by rw [h1.1,h4.1]⟩
    |cons d vs=>
     simp only [Rc,R] at h
     obtain ⟨f1,f2,h1,h2,h3⟩:=h
     obtain ⟨f3,f4,h4,h5,h6⟩:=h2
     simp [Rc] at h5
 subst h
 refine ⟨.int .i64 (UL c s),w,?_,rfl,lU.rfl,fun _ _=>by simp [R]⟩
 rw [run_callFunc_indexByte hf UM hb hn he]
 have:=Go.Lib.run_indexByteString (P:=P) ⟨s.toArray⟩ (c.toNat:Int) w
 simp only [Int.toNat_natCast] at this
 have hc:c.toNat.toUInt8=c:=by simp
 rw [hc,xW] at this
 rw [show [Value.string ⟨s.toArray⟩,Value.int .u8 (c.toNat:Int)].toArray=#[Value.string ⟨s.toArray⟩,Value.int .u8 (c.toNat:Int)] from rfl,this]
 rfl
end Go.Aw
