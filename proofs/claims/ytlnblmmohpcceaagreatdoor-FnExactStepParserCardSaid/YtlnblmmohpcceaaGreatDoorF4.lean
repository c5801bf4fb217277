/-
  Proved here: what fits the shape of a type is some datum of it.
  No condition beyond what each statement spells out.
-/
import Derived.Test.YtlnblmmohpcceaaGreatDoorF3
import Derived.Test.YtlnblmmohpcceaaGreatDoorF6
import Derived.Test.YtlnblmmohpcceaaGreatDoorF1
import Derived.Laws.StandIn
import Derived.Lib.Bytealg
set_option linter.all false
namespace Go.Aw
def rgI (n:Int):Prop:= -9223372036854775808≤n∧n≤9223372036854775807
theorem aB2 (r:List AV) (h:gD [.str] r):∃x,r=bU x∧(x.length≤9223372036854775807∧True):=by
 obtain ⟨a,r,rfl,ha,h⟩:=iL h
 obtain rfl:=rH h
 exact ⟨a,rfl,ha,trivial⟩
theorem aZj (r:List AV) (h:gD [.int .i64] r):∃x,r=dV x∧(True∧rgI x):=by
 obtain ⟨a,r,rfl,ha,h⟩:=fits_int h
 obtain rfl:=rH h
 exact ⟨a,rfl,trivial,ha⟩
def aRg:List Sh:=[.str,.str]
def bFv (x:aK):Prop:=True
theorem aOc (r:List AV) (h0:gD aRg r):∃x,r=aF x∧(wI x∧bFv x):=by
 obtain ⟨a0,r,rfl,w0,h1⟩:=iL h0
 obtain ⟨a1,r,rfl,w1,h2⟩:=iL h1
 obtain rfl:=rH h2
 refine ⟨⟨a0,a1⟩,rfl,?_,?_⟩
 ·exact ⟨w0,w1⟩
 ·exact trivial
def aRt:List Sh:=[.str,.str]
def bFl (x:fA):Prop:=True
theorem aOh (r:List AV) (h0:gD aRt r):∃x,r=dI x∧(aCo x∧bFl x):=by
 obtain ⟨a0,r,rfl,w0,h1⟩:=iL h0
 obtain ⟨a1,r,rfl,w1,h2⟩:=iL h1
 obtain rfl:=rH h2
 refine ⟨⟨a0,a1⟩,rfl,?_,?_⟩
 ·exact ⟨w0,w1⟩
 ·exact trivial
def aWe:List Sh:=[.int .i64,.str,.sl 2 aRt,.str]
def aVt (x:aW):Prop:=rgI x.kind
theorem aWw (r:List AV) (h0:gD aWe r):∃x,r=aU .view x∧(aCp x∧aVt x):=by
 obtain ⟨a0,r,rfl,w0,h1⟩:=fits_int h0
 obtain ⟨a1,r,rfl,w1,h2⟩:=iL h1
 obtain ⟨s2,r,rfl,w2,k2,h3⟩:=nV h2
 obtain ⟨a2,rfl,z2⟩:=lS aOh s2 k2
 rw [List.length_map] at w2
 obtain ⟨a3,r,rfl,w3,h4⟩:=iL h3
 obtain rfl:=rH h4
 refine ⟨⟨a0,a1,a2,a3⟩,rfl,?_,?_⟩
 ·exact ⟨w1,⟨w2,fun y hy=>(z2 y hy).1⟩,w3⟩
 ·exact w0
def aZt:List Sh:=[.str,.str,.int .i64,.sl 2 aRt]
def aYy (x:dA):Prop:=rgI x.parent
theorem bAi (r:List AV) (h0:gD aZt r):∃x,r=bB .view x∧(aFr x∧aYy x):=by
 obtain ⟨a0,r,rfl,w0,h1⟩:=iL h0
 obtain ⟨a1,r,rfl,w1,h2⟩:=iL h1
 obtain ⟨a2,r,rfl,w2,h3⟩:=fits_int h2
 obtain ⟨s3,r,rfl,w3,k3,h4⟩:=nV h3
 obtain ⟨a3,rfl,z3⟩:=lS aOh s3 k3
 rw [List.length_map] at w3
 obtain rfl:=rH h4
 refine ⟨⟨a0,a1,a2,a3⟩,rfl,?_,?_⟩
 ·exact ⟨w0,w1,⟨w3,fun y hy=>(z3 y hy).1⟩⟩
 ·exact w2
def aZ1 (x:aS):Prop:=(∀y∈x.nodes,aYy y)∧(∀y∈x.opens,rgI y)
def bAg:List Sh:=[.int .i64,.str,.str,.str,.int .i64,.bool,.int .i64,.str]
def bAb (x:gP):Prop:=rgI x.mode∧rgI x.node∧rgI x.code
theorem aY0 (r:List AV) (h0:gD bAg r):∃x,r=eX x∧(aFd x∧bAb x):=by
 obtain ⟨a0,r,rfl,w0,h1⟩:=fits_int h0
 obtain ⟨a1,r,rfl,w1,h2⟩:=iL h1
 obtain ⟨a2,r,rfl,w2,h3⟩:=iL h2
 obtain ⟨a3,r,rfl,w3,h4⟩:=iL h3
 obtain ⟨a4,r,rfl,w4,h5⟩:=fits_int h4
 obtain ⟨a5,r,rfl,h6⟩:=fits_bool h5
 obtain ⟨a6,r,rfl,w6,h7⟩:=fits_int h6
 obtain ⟨a7,r,rfl,w7,h8⟩:=iL h7
 obtain rfl:=rH h8
 refine ⟨⟨a0,⟨a1,a2⟩,a3,a4,a5,a6,a7⟩,rfl,?_,?_⟩
 ·exact ⟨⟨w1,w2⟩,w3,w7⟩
 ·exact ⟨w0,w4,w6⟩
def aS0:List Sh:=[.str,.str,.bool,.int .i64,.str]
def aRu (x:cZ):Prop:=rgI x.code
theorem aVe (r:List AV) (h0:gD aS0 r):∃x,r=bD x∧(aBb x∧aRu x):=by
 obtain ⟨a0,r,rfl,w0,h1⟩:=iL h0
 obtain ⟨a1,r,rfl,w1,h2⟩:=iL h1
 obtain ⟨a2,r,rfl,h3⟩:=fits_bool h2
 obtain ⟨a3,r,rfl,w3,h4⟩:=fits_int h3
 obtain ⟨a4,r,rfl,w4,h5⟩:=iL h4
 obtain rfl:=rH h5
 refine ⟨⟨⟨a0,a1⟩,a2,a3,a4⟩,rfl,?_,?_⟩
 ·exact ⟨⟨w0,w1⟩,w4⟩
 ·exact w3
def aSz:List Sh:=[.str,.str,.bool,.sl 1 [.str],.sl 1 [.str],.sl 1 [.str],.str,.str,.sl 4 aWe,.bool,.sl 4 aZt,.sl 1 [.int .i64],.sl 8 bAg,.sl 5 aS0,.sl 2 aRg,.int .i64,.int .i64,.int .i64,.int .i64,.sl 2 aRg,.sl 1 [.str],.bool]
def aQc (x:aJ):Prop:=(∀y∈x.queue,aVt y)∧aZ1 x.builder∧(∀y∈x.slots,bAb y)∧(∀y∈x.mods,aRu y)∧rgI x.block∧rgI x.inline∧rgI x.deferred∧rgI x.entered
theorem aNb (r:List AV) (h0:gD aSz r):∃x,r=aG .view x∧(aFn x∧aQc x):=by
 obtain ⟨a0,r,rfl,w0,h1⟩:=iL h0
 obtain ⟨a1,r,rfl,w1,h2⟩:=iL h1
 obtain ⟨a2,r,rfl,h3⟩:=fits_bool h2
 obtain ⟨s3,r,rfl,w3,k3,h4⟩:=nV h3
 obtain ⟨a3,rfl,z3⟩:=lS aB2 s3 k3
 rw [List.length_map] at w3
 obtain ⟨s4,r,rfl,w4,k4,h5⟩:=nV h4
 obtain ⟨a4,rfl,z4⟩:=lS aB2 s4 k4
 rw [List.length_map] at w4
 obtain ⟨s5,r,rfl,w5,k5,h6⟩:=nV h5
 obtain ⟨a5,rfl,z5⟩:=lS aB2 s5 k5
 rw [List.length_map] at w5
 obtain ⟨a6,r,rfl,w6,h7⟩:=iL h6
 obtain ⟨a7,r,rfl,w7,h8⟩:=iL h7
 obtain ⟨s8,r,rfl,w8,k8,h9⟩:=nV h8
 obtain ⟨a8,rfl,z8⟩:=lS aWw s8 k8
 rw [List.length_map] at w8
 obtain ⟨a9,r,rfl,h10⟩:=fits_bool h9
 obtain ⟨s10,r,rfl,w10,k10,h11⟩:=nV h10
 obtain ⟨a10,rfl,z10⟩:=lS bAi s10 k10
 rw [List.length_map] at w10
 obtain ⟨s11,r,rfl,w11,k11,h12⟩:=nV h11
 obtain ⟨a11,rfl,z11⟩:=lS aZj s11 k11
 rw [List.length_map] at w11
 obtain ⟨s12,r,rfl,w12,k12,h13⟩:=nV h12
 obtain ⟨a12,rfl,z12⟩:=lS aY0 s12 k12
 rw [List.length_map] at w12
 obtain ⟨s13,r,rfl,w13,k13,h14⟩:=nV h13
 obtain ⟨a13,rfl,z13⟩:=lS aVe s13 k13
 rw [List.length_map] at w13
 obtain ⟨s14,r,rfl,w14,k14,h15⟩:=nV h14
 obtain ⟨a14,rfl,z14⟩:=lS aOc s14 k14
 rw [List.length_map] at w14
 obtain ⟨a15,r,rfl,w15,h16⟩:=fits_int h15
 obtain ⟨a16,r,rfl,w16,h17⟩:=fits_int h16
 obtain ⟨a17,r,rfl,w17,h18⟩:=fits_int h17
 obtain ⟨a18,r,rfl,w18,h19⟩:=fits_int h18
 obtain ⟨s19,r,rfl,w19,k19,h20⟩:=nV h19
 obtain ⟨a19,rfl,z19⟩:=lS aOc s19 k19
 rw [List.length_map] at w19
 obtain ⟨s20,r,rfl,w20,k20,h21⟩:=nV h20
 obtain ⟨a20,rfl,z20⟩:=lS aB2 s20 k20
 rw [List.length_map] at w20
 obtain ⟨a21,r,rfl,h22⟩:=fits_bool h21
 obtain rfl:=rH h22
 refine ⟨⟨⟨a0,a1⟩,⟨a2,a3,a4,a5,a6⟩,⟨a7⟩,a8,a9,⟨a10,a11⟩,a12,a13,a14,a15,a16,a17,a18,a19,a20,a21⟩,rfl,?_,?_⟩
 ·exact ⟨⟨w0,w1⟩,⟨⟨w3,fun y hy=>(z3 y hy).1⟩,⟨w4,fun y hy=>(z4 y hy).1⟩,⟨w5,fun y hy=>(z5 y hy).1⟩,w6⟩,w7,⟨w8,fun y hy=>(z8 y hy).1⟩,⟨⟨w10,fun y hy=>(z10 y hy).1⟩,w11⟩,⟨w12,fun y hy=>(z12 y hy).1⟩,⟨w13,fun y hy=>(z13 y hy).1⟩,⟨w14,fun y hy=>(z14 y hy).1⟩,⟨w19,fun y hy=>(z19 y hy).1⟩,⟨w20,fun y hy=>(z20 y hy).1⟩⟩
 ·exact ⟨fun y hy=>(z8 y hy).2,⟨fun y hy=>(z10 y hy).2,fun y hy=>(z11 y hy).2⟩,fun y hy=>(z12 y hy).2,fun y hy=>(z13 y hy).2,w15,w16,w17,w18⟩
end Go.Aw

namespace Go.Aw
def iM {α:Type} (l l':List α) (j:Nat):List α:=l'.take j++l.drop j
theorem tF {α:Type} (l l':List α) (j:Nat) (h:j < l.length) (h':j < l'.length):(iM l l' j).set j l'[j]=iM l l' (j+1):=by
 unfold iM
 rw [List.take_succ_eq_append_getElem h',List.drop_eq_getElem_cons h,List.set_append_right _ _ (by simp;omega)]
 have:j - (l'.take j).length=0:=by simp;omega
 rw [this,List.set_cons_zero,List.append_assoc];rfl
theorem sN {α:Type} (l l':List α) (j:Nat) (h:j < l.length) (h':j < l'.length):(iM l l' j)[j]? =some l[j]:=by
 unfold iM
 rw [List.getElem?_append_right (by simp;omega)]
 have:j - (l'.take j).length=0:=by simp;omega
 rw [this];simp [h]
theorem nT {α:Type} (l l':List α) (j:Nat) (h:l'.length=l.length):(iM l l' j).length=l.length:=by unfold iM;simp;omega
theorem pV {α:Type} (l l':List α) (j:Nat) (h:l'.length=l.length) (hj:l.length≤j):iM l l' j=l':=by
 unfold iM;rw [List.take_of_length_le (by omega),List.drop_of_length_le hj,List.append_nil]
theorem qQ {α:Type} (l l':List α):iM l l' 0=l:=by simp [iM]
def mkL {α:Type} (f:Int→α→α) (c:α→Nat):Int→List α→List α
 |_,[]=>[]
 |k,x::xs=>f k x::mkL f c (k+c x) xs
theorem dS {α:Type} (f:Int→α→α) (c:α→Nat):∀(l:List α) (k:Int),(mkL f c k l).length=l.length
 |[],_=>rfl
 |x::xs,k=>by simp [mkL,dS f c xs]
theorem lI {α:Type} (f:Int→α→α) (c:α→Nat):∀(l:List α) (k:Int) (j:Nat) (h:j < l.length),(mkL f c k l)[j]'(by rw [dS];exact h)=f (k+(aC c (l.take j):Nat)) l[j]
 |[],_,_,h=>by simp at h
 |x::xs,k,0,_=>by simp [mkL,aC]
 |x::xs,k,j+1,h=>by
  simp only [mkL,List.getElem_cons_succ,List.take_succ_cons,aC]
  rw [lI f c xs (k+c x) j (by simpa using h)]
  congr 1;omega
theorem aGq {α:Type} {p:α→Bool} {l l':List α} {j:Nat} (h:l.all p=true) (h':l'.all p=true):(iM l l' j).all p=true:=by
 unfold iM
 rw [List.all_append,aIi j h',aIe j h];rfl
theorem aWh {α:Type} {p:α→Bool} {l:List α} {k:Nat} {r:α} (h:l.all p=true) (hr:p r=true):(l.set k r).all p=true:=by
 rw [List.all_eq_true] at h⊢
 intro x hx
 rcases List.mem_or_eq_of_mem_set hx with hx|rfl
 ·exact h x hx
 ·exact hr
def fM (x:aW):Nat:=3+aC (fun _=>2) x.attrs
def jE (x:dA):Nat:=3+aC (fun _=>2) x.attrs
def digit (k:Int):UInt8:=UInt8.ofNat (IntKind.u8.wrap (IntKind.i64.wrap (48+k.tmod 10))).toNat
def digits:Nat→Int→Str→Str
 |0,_,out=>out
 |f+1,k,out=>if k≤0 then out else digits f (k.tdiv 10) (digit k::out)
def markT (k:Int):Str:=if k≤0 then [109,48] else 109::digits 20 k []
theorem aWz (f:Nat) (k:Int) (out:Str) (h:k≤0):digits f k out=out:=by
 cases f<;>simp [digits,h]
def qD (k:Int):Bool:=k.tmod 3 == 0
end Go.Aw

namespace Go.Aw
def xC (k:Int) (x:Int):Int:=k
def lM (k:Int) (x:Str):Str:=markT k
def rR (k:Int) (x:aK):aK:={host:=markT k,path:=markT (k+1)}
def rV (k:Int) (x:fA):fA:={name:=markT k,value:=markT (k+1)}
def sI (k:Int) (x:gP):gP:={mode:=k,to:={host:=markT (k+1),path:=markT (k+2)},digest:=markT (k+3),node:=k+4,done:=qD (k+5),code:=k+6,body:=markT (k+7)}
def oF (k:Int) (x:cZ):cZ:={to:={host:=markT k,path:=markT (k+1)},done:=qD (k+2),code:=k+3,body:=markT (k+4)}
def nD (k:Int) (x:aW):aW:={kind:=k,name:=markT (k+1),attrs:=mkL rV (fun _=>2) (k+2) x.attrs,text:=markT (k+2+(aC (fun _=>2) x.attrs:Nat))}
def pG (k:Int) (x:dA):dA:={name:=markT k,text:=markT (k+1),parent:=k+2,attrs:=mkL rV (fun _=>2) (k+3) x.attrs}
end Go.Aw

namespace Go.Aw
def n1 {α:Type} (l:List α):Nat:=aC (fun _=>1) l
def lJ (a:fC):Nat:=aC (fun _=>1) a.scripts+aC (fun _=>1) a.styles+aC (fun _=>1) a.images
def vI (k:Int) (a:fC):fC:={a with
 scripts:=mkL lM (fun _=>1) k a.scripts
 styles:=mkL lM (fun _=>1) (k+(aC (fun _=>1) a.scripts:Nat)) a.styles
 images:=mkL lM (fun _=>1) (k+(aC (fun _=>1) a.scripts:Nat)+(aC (fun _=>1) a.styles:Nat)) a.images}
def lC (a:aS):Nat:=aC jE a.nodes+aC (fun _=>1) a.opens
def sH (k:Int) (a:aS):aS:={a with
 nodes:=mkL pG jE k a.nodes
 opens:=mkL xC (fun _=>1) (k+(aC jE a.nodes:Nat)) a.opens}
def wJ (a:aJ):Nat:=lJ a.policy+aC fM a.queue+lC a.builder+aC (fun _=>8) a.slots+aC (fun _=>5) a.mods+aC (fun _=>2) a.entries+aC (fun _=>2) a.ran+aC (fun _=>1) a.log
def aKp (k:Int) (a:aJ):aJ:={a with
 policy:=vI k a.policy
 queue:=mkL nD fM (k+(lJ a.policy:Nat)) a.queue
 builder:=sH (k+(lJ a.policy:Nat)+(aC fM a.queue:Nat)) a.builder
 slots:=mkL sI (fun _=>8) (k+(lJ a.policy:Nat)+(aC fM a.queue:Nat)+(lC a.builder:Nat)) a.slots
 mods:=mkL oF (fun _=>5) (k+(lJ a.policy:Nat)+(aC fM a.queue:Nat)+(lC a.builder:Nat)+(aC (fun _=>8) a.slots:Nat)) a.mods
 entries:=mkL rR (fun _=>2) (k+(lJ a.policy:Nat)+(aC fM a.queue:Nat)+(lC a.builder:Nat)+(aC (fun _=>8) a.slots:Nat)+(aC (fun _=>5) a.mods:Nat)) a.entries
 ran:=mkL rR (fun _=>2) (k+(lJ a.policy:Nat)+(aC fM a.queue:Nat)+(lC a.builder:Nat)+(aC (fun _=>8) a.slots:Nat)+(aC (fun _=>5) a.mods:Nat)+(aC (fun _=>2) a.entries:Nat)) a.ran
 log:=mkL lM (fun _=>1) (k+(lJ a.policy:Nat)+(aC fM a.queue:Nat)+(lC a.builder:Nat)+(aC (fun _=>8) a.slots:Nat)+(aC (fun _=>5) a.mods:Nat)+(aC (fun _=>2) a.entries:Nat)+(aC (fun _=>2) a.ran:Nat)) a.log}
theorem fH {α:Type} (c:Nat) (l:List α):aC (fun _=>c) l=c * l.length:=by
 induction l with
 |nil=>simp [aC]
 |cons x xs ih=>simp only [aC,ih,List.length_cons,Nat.mul_add];omega
theorem aFz {α:Type} {f g:α→Nat} (c:Nat) (h:∀x,f x≤c * (g x+1)):∀l:List α,aC f l≤c * (l.length+aC g l)
 |[]=>by simp [aC]
 |x::xs=>by
  simp only [aC,List.length_cons]
  have h1:=h x
  have h2:=aFz c h xs
  have e:c * (xs.length+1+(g x+aC g xs))=c * (g x+1)+c * (xs.length+aC g xs):=by rw [←Nat.mul_add];congr 1;omega
  omega
theorem aDp (l:List fA):l.length≤szL eQ l:=by unfold szL;omega
theorem aZa (x:aW):fM x≤3 * (aV x+1):=by
 have:=aDp x.attrs
 unfold fM aV;rw [fH];omega
theorem bBu (x:dA):jE x≤3 * (dW x+1):=by
 have:=aDp x.attrs
 unfold jE dW;rw [fH];omega
theorem aU9 {l:List aW} {n:Nat} (h:aC aV l≤n):∀x∈l,x.attrs.length≤n:=fun x hx=>by
 have h1:=bV aV hx
 have h2:=aDp x.attrs
 have h3:aV x=x.name.length+szL eQ x.attrs+x.text.length:=rfl
 omega
theorem aYc {l:List dA} {n:Nat} (h:aC dW l≤n):∀x∈l,x.attrs.length≤n:=fun x hx=>by
 have h1:=bV dW hx
 have h2:=aDp x.attrs
 have h3:dW x=x.name.length+x.text.length+szL eQ x.attrs:=rfl
 omega
@[simp] theorem bC2 (u:List Nat) (b:Bool) (l:List aW):rtr (dQ u) b (l.map (aU .view))=l.map (aU .view):=aY (by intro x;simp) l
@[simp] theorem bEk (u:List Nat) (b:Bool) (l:List dA):rtr (dQ u) b (l.map (bB .view))=l.map (bB .view):=aY (by intro x;simp) l
end Go.Aw

namespace Go.Aw
def lowerB (c:UInt8):Bool:=decide (97≤c.toNat)&&decide (c.toNat≤122)
def pQ (c:UInt8):Bool:=lowerB c || (decide (48≤c.toNat)&&decide (c.toNat≤57)) || decide (c.toNat=47)
def bS (s:Str):Bool:=s.all lowerB&&(decide (1≤s.length)&&decide (s.length≤8))
def gZ (s:Str):Bool:=s.all pQ&&(decide (1≤s.length)&&decide (s.length≤20))
def uG (a:aK):Bool:=bS a.host&&bS a.path
def iZ (a:aK):Str:=if uG a then a.host++(47::a.path) else []
def ixB (c:UInt8) (s:Str):Nat:=s.findIdx (· == c)
theorem mQ (c:UInt8) (s:Str):ixB c s≤s.length:=List.findIdx_le_length
theorem aV7 (c:UInt8):ixB c []=0:=rfl
theorem vG (c x:UInt8) (s:Str):ixB c (x::s)=if x=c then 0 else ixB c s+1:=by
 unfold ixB
 rw [List.findIdx_cons]
 by_cases h:x=c
 ·subst h;simp
 ·have:(x == c)=false:=by simpa using h
  simp [this,h]
theorem aDt (c:UInt8):∀(p s:Str),(∀x∈p,x≠c)→ixB c (p++s)=p.length+ixB c s
 |[],s,_=>by simp
 |x::p,s,h=>by
  rw [List.cons_append,vG,if_neg (h x (by simp)),aDt c p s (fun y hy=>h y (by simp [hy]))]
  simp;omega
theorem aSu {c:UInt8} {s:Str} {k:Nat} (hk:k < s.length) (hc:s[k]=c) (hp:∀x∈s.take k,x≠c):ixB c s=k:=by
 have e:s=s.take k++s.drop k:=(List.take_append_drop k s).symm
 rw [e,aDt c _ _ hp,List.drop_eq_getElem_cons hk,vG,if_pos hc]
 simp;omega
theorem aP9 {c:UInt8} {s:Str} (hp:∀x∈s,x≠c):ixB c s=s.length:=by
 have:=aDt c s [] hp
 simpa [aV7] using this
theorem aVh {c:UInt8} {s:Str} (h:ixB c s < s.length):s[ixB c s]=c:=by
 have:=List.findIdx_getElem (p:=(· == c)) (w:=h)
 exact eq_of_beq this
theorem bAv (c:UInt8) (s:Str):∀x∈s.take (ixB c s),x≠c:=by
 intro x hx
 obtain ⟨i,hi,rfl⟩:=List.getElem_of_mem hx
 have hi':i < ixB c s:=by have:=hi;simp at this;omega
 rw [List.getElem_take]
 have:=List.not_of_lt_findIdx (p:=(· == c)) (xs:=s) hi'
 simpa using this
def bH (c:UInt8):Str→List Str
 |[]=>[[]]
 |x::s=>if x=c then []::bH c s else match bH c s with
  |[]=>[[x]]
  |p::r=>(x::p)::r
theorem uC (c:UInt8):∀s,bH c s≠[]
 |[]=>by simp [bH]
 |x::s=>by
  simp only [bH]
  split
  ·simp
  ·split<;>simp
theorem aI3 (c:UInt8):∀(p s:Str),(∀x∈p,x≠c)→bH c (p++c::s)=p::bH c s
 |[],s,_=>by simp [bH]
 |x::p,s,h=>by
  rw [List.cons_append]
  simp only [bH]
  rw [if_neg (h x (by simp)),aI3 c p s (fun y hy=>h y (by simp [hy]))]
theorem aAi (c:UInt8):∀(p:Str),(∀x∈p,x≠c)→bH c p=[p]
 |[],_=>rfl
 |x::p,h=>by
  simp only [bH]
  rw [if_neg (h x (by simp)),aAi c p (fun y hy=>h y (by simp [hy]))]
theorem aF6 (c:UInt8) (s:Str):bH c s=if ixB c s < s.length then s.take (ixB c s)::bH c (s.drop (ixB c s+1)) else [s]:=by
 have ht:=bAv c s
 split
 ·rename_i h
  conv=>lhs;rw [←List.take_append_drop (ixB c s) s,List.drop_eq_getElem_cons h,aVh h]
  exact aI3 c _ _ ht
 ·rename_i h
  have:s.take (ixB c s)=s:=List.take_of_length_le (by omega)
  rw [this] at ht
  exact aAi c s ht
theorem iP (c:UInt8):∀s:Str,(bH c s).length=s.count c+1
 |[]=>rfl
 |x::s=>by
  simp only [bH]
  split
  ·rename_i h;subst h;simp [iP x s]
  ·rename_i h
   have:=iP c s
   split
   ·rename_i h0;exact absurd h0 (uC c s)
   ·rename_i p r h0
    rw [h0] at this
    rw [List.count_cons_of_ne h]
    simpa using this
def qI:aK:=⟨[],[]⟩
def addrOf (s base:Str):aK:=if ixB 47 s < s.length then ⟨s.take (ixB 47 s),s.drop (ixB 47 s+1)⟩ else ⟨base,s⟩
def bI (s base:Str):aK×Bool:=if uG (addrOf s base) then (addrOf s base,true) else (qI,false)
def jV (n:Str) (a:fA):Bool:=decide (a.name=n)
def aN (l:List fA) (n:Str):Str×Bool:=match l.find? (jV n) with
 |some a=>(a.value,true)
 |none=>([],false)
theorem aH1 {l:List fA} {n:Str} {k:Nat} (h:k < l.length) (hf:jV n l[k]=true) (hn:∀x∈l.take k,jV n x=false):aN l n=(l[k].value,true):=by
 have e:l=l.take k++l[k]::l.drop (k+1):=by rw [←List.drop_eq_getElem_cons h,List.take_append_drop]
 have:l.find? (jV n)=some l[k]:=by
  generalize hx:l[k]=y at *
  rw [e,List.find?_append]
  have:(l.take k).find? (jV n)=none:=List.find?_eq_none.2 (fun x hx=>by simp [hn x hx])
  rw [this]
  simp [hf]
 simp [aN,this]
theorem aEj {l:List fA} {n:Str} (hn:∀x∈l,jV n x=false):aN l n=([],false):=by
 have:l.find? (jV n)=none:=List.find?_eq_none.2 (fun x hx=>by simp [hn x hx])
 simp [aN,this]
end Go.Aw

namespace Go.Aw
def ixI (c:UInt8) (s:Str):Int:=if ixB c s < s.length then ixB c s else -1
theorem wH (c:UInt8):∀s:Str,Go.Lib.indexByte s c=ixI c s
 |[]=>by simp [Go.Lib.indexByte,ixI]
 |x::s=>by
  have ih:=wH c s
  have hl:=mQ c s
  simp only [Go.Lib.indexByte,ih,ixI,vG,List.length_cons]
  by_cases h:x=c
  ·simp [h]
  ·have:(x == c)=false:=by simpa using h
   simp only [this,h,if_false,Bool.false_eq_true]
   by_cases h2:ixB c s < s.length
   ·have h3:((ixB c s:Int) == -1)=false:=by rw [beq_eq_false_iff_ne];omega
    simp [h2,h3]
   ·simp [h2]
theorem aO1 {P:Program} [aA P] {f:FuncId} {fn:Func} (hf:P.funcs[f]? =some fn) (hname:(fn.name == "runtime.NumGoroutine")=false)
  (hb:fn.body.isNone=true) (hn:Extern.findNext fn=none) (he:Extern.find fn=some Extern.BytealgIndexByte.indexByte) (s:Str) (c:UInt8):
  OkN P f [.str s,.int .u8 c.toNat] (.int .i64 (ixI c s)):=by
 intro w vs h
 obtain ⟨v1,h⟩:∃v,vs=[.string ⟨s.toArray⟩,.int .u8 (c.toNat:Int)]:=by
  cases vs with
  |nil=>simp [Rc] at h
  |cons a vs=>cases vs with
   |nil=>simp [Rc] at h
   |cons b vs=>cases vs with
    |nil=>
     simp only [Rc,R] at h
     obtain ⟨f1,f2,h1,h2,h3⟩:=h
     obtain ⟨f3,f4,h4,h5,h6⟩:=h2
     exact ⟨a,by rw [h1.1,h4.1]⟩
    |cons d vs=>
     simp only [Rc,R] at h
     obtain ⟨f1,f2,h1,h2,h3⟩:=h
     obtain ⟨f3,f4,h4,h5,h6⟩:=h2
     simp [Rc] at h5
 subst h
 refine ⟨.int .i64 (ixI c s),w,?_,rfl,Same.rfl,fun _ _=>by simp [R]⟩
 rw [run_callFunc_indexByte hf hname hb hn he]
 have:=Go.Lib.run_indexByteString (P:=P) ⟨s.toArray⟩ (c.toNat:Int) w
 simp only [Int.toNat_natCast] at this
 have hc:c.toNat.toUInt8=c:=by simp
 rw [hc,wH] at this
 rw [show [Value.string ⟨s.toArray⟩,Value.int .u8 (c.toNat:Int)].toArray=#[Value.string ⟨s.toArray⟩,Value.int .u8 (c.toNat:Int)] from rfl,this]
 rfl
end Go.Aw
