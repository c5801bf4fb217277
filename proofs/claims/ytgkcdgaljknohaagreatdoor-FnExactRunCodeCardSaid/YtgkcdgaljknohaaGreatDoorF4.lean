/-
  Proved here: what fits the shape of a type is some datum of it.
  No condition beyond what each statement spells out.
-/
import Derived.Test.YtgkcdgaljknohaaGreatDoorF3
import Derived.Test.YtgkcdgaljknohaaGreatDoorF6
import Derived.Test.YtgkcdgaljknohaaGreatDoorF1
import Derived.Laws.StandIn
import Derived.Lib.Bytealg
set_option linter.all false
namespace Go.Aw
def rgI (n:Int):Prop:= -9223372036854775808≤n∧n≤9223372036854775807
theorem fits_eStr (r:List AV) (h:FitsC [.str] r):∃x,r=eStr x∧(x.length≤9223372036854775807∧True):=by
 obtain ⟨a,r,rfl,ha,h⟩:=fits_str h
 obtain rfl:=fits_nil h
 exact ⟨a,rfl,ha,trivial⟩
theorem fits_eInt (r:List AV) (h:FitsC [.int .i64] r):∃x,r=eInt x∧(True∧rgI x):=by
 obtain ⟨a,r,rfl,ha,h⟩:=fits_int h
 obtain rfl:=fits_nil h
 exact ⟨a,rfl,trivial,ha⟩
def shAddr:List Sh:=[.str,.str]
def rgAddr (x:DAddr):Prop:=True
theorem fits_Addr (r:List AV) (h0:FitsC shAddr r):∃x,r=eAddr x∧(wfAddr x∧rgAddr x):=by
 obtain ⟨a0,r,rfl,w0,h1⟩:=fits_str h0
 obtain ⟨a1,r,rfl,w1,h2⟩:=fits_str h1
 obtain rfl:=fits_nil h2
 refine ⟨⟨a0,a1⟩,rfl,?_,?_⟩
 ·exact ⟨w0,w1⟩
 ·exact trivial
def shAttr:List Sh:=[.str,.str]
def rgAttr (x:DAttr):Prop:=True
theorem fits_Attr (r:List AV) (h0:FitsC shAttr r):∃x,r=eAttr x∧(wfAttr x∧rgAttr x):=by
 obtain ⟨a0,r,rfl,w0,h1⟩:=fits_str h0
 obtain ⟨a1,r,rfl,w1,h2⟩:=fits_str h1
 obtain rfl:=fits_nil h2
 refine ⟨⟨a0,a1⟩,rfl,?_,?_⟩
 ·exact ⟨w0,w1⟩
 ·exact trivial
def shToken:List Sh:=[.int .i64,.str,.sl 2 shAttr,.str]
def rgToken (x:DToken):Prop:=rgI x.kind
theorem fits_Token (r:List AV) (h0:FitsC shToken r):∃x,r=eToken .view x∧(wfToken x∧rgToken x):=by
 obtain ⟨a0,r,rfl,w0,h1⟩:=fits_int h0
 obtain ⟨a1,r,rfl,w1,h2⟩:=fits_str h1
 obtain ⟨s2,r,rfl,w2,k2,h3⟩:=fits_sl h2
 obtain ⟨a2,rfl,z2⟩:=fits_map fits_Attr s2 k2
 rw [List.length_map] at w2
 obtain ⟨a3,r,rfl,w3,h4⟩:=fits_str h3
 obtain rfl:=fits_nil h4
 refine ⟨⟨a0,a1,a2,a3⟩,rfl,?_,?_⟩
 ·exact ⟨w1,⟨w2,fun y hy=>(z2 y hy).1⟩,w3⟩
 ·exact w0
def shNode:List Sh:=[.str,.str,.int .i64,.sl 2 shAttr]
def rgNode (x:DNode):Prop:=rgI x.parent
theorem fits_Node (r:List AV) (h0:FitsC shNode r):∃x,r=eNode .view x∧(wfNode x∧rgNode x):=by
 obtain ⟨a0,r,rfl,w0,h1⟩:=fits_str h0
 obtain ⟨a1,r,rfl,w1,h2⟩:=fits_str h1
 obtain ⟨a2,r,rfl,w2,h3⟩:=fits_int h2
 obtain ⟨s3,r,rfl,w3,k3,h4⟩:=fits_sl h3
 obtain ⟨a3,rfl,z3⟩:=fits_map fits_Attr s3 k3
 rw [List.length_map] at w3
 obtain rfl:=fits_nil h4
 refine ⟨⟨a0,a1,a2,a3⟩,rfl,?_,?_⟩
 ·exact ⟨w0,w1,⟨w3,fun y hy=>(z3 y hy).1⟩⟩
 ·exact w2
def rgBuilder (x:DBuilder):Prop:=(∀y∈x.nodes,rgNode y)∧(∀y∈x.opens,rgI y)
def shSlot:List Sh:=[.int .i64,.str,.str,.str,.int .i64,.bool,.int .i64,.str]
def rgSlot (x:DSlot):Prop:=rgI x.mode∧rgI x.node∧rgI x.code
theorem fits_Slot (r:List AV) (h0:FitsC shSlot r):∃x,r=eSlot x∧(wfSlot x∧rgSlot x):=by
 obtain ⟨a0,r,rfl,w0,h1⟩:=fits_int h0
 obtain ⟨a1,r,rfl,w1,h2⟩:=fits_str h1
 obtain ⟨a2,r,rfl,w2,h3⟩:=fits_str h2
 obtain ⟨a3,r,rfl,w3,h4⟩:=fits_str h3
 obtain ⟨a4,r,rfl,w4,h5⟩:=fits_int h4
 obtain ⟨a5,r,rfl,h6⟩:=fits_bool h5
 obtain ⟨a6,r,rfl,w6,h7⟩:=fits_int h6
 obtain ⟨a7,r,rfl,w7,h8⟩:=fits_str h7
 obtain rfl:=fits_nil h8
 refine ⟨⟨a0,⟨a1,a2⟩,a3,a4,a5,a6,a7⟩,rfl,?_,?_⟩
 ·exact ⟨⟨w1,w2⟩,w3,w7⟩
 ·exact ⟨w0,w4,w6⟩
def shModule:List Sh:=[.str,.str,.bool,.int .i64,.str]
def rgModule (x:DModule):Prop:=rgI x.code
theorem fits_Module (r:List AV) (h0:FitsC shModule r):∃x,r=eModule x∧(wfModule x∧rgModule x):=by
 obtain ⟨a0,r,rfl,w0,h1⟩:=fits_str h0
 obtain ⟨a1,r,rfl,w1,h2⟩:=fits_str h1
 obtain ⟨a2,r,rfl,h3⟩:=fits_bool h2
 obtain ⟨a3,r,rfl,w3,h4⟩:=fits_int h3
 obtain ⟨a4,r,rfl,w4,h5⟩:=fits_str h4
 obtain rfl:=fits_nil h5
 refine ⟨⟨⟨a0,a1⟩,a2,a3,a4⟩,rfl,?_,?_⟩
 ·exact ⟨⟨w0,w1⟩,w4⟩
 ·exact w3
def shPage:List Sh:=[.str,.str,.bool,.sl 1 [.str],.sl 1 [.str],.sl 1 [.str],.str,.str,.sl 4 shToken,.bool,.sl 4 shNode,.sl 1 [.int .i64],.sl 8 shSlot,.sl 5 shModule,.sl 2 shAddr,.int .i64,.int .i64,.int .i64,.int .i64,.sl 2 shAddr,.sl 1 [.str],.bool]
def rgPage (x:DPage):Prop:=(∀y∈x.queue,rgToken y)∧rgBuilder x.builder∧(∀y∈x.slots,rgSlot y)∧(∀y∈x.mods,rgModule y)∧rgI x.block∧rgI x.inline∧rgI x.deferred∧rgI x.entered
theorem fits_Page (r:List AV) (h0:FitsC shPage r):∃x,r=ePage .view x∧(wfPage x∧rgPage x):=by
 obtain ⟨a0,r,rfl,w0,h1⟩:=fits_str h0
 obtain ⟨a1,r,rfl,w1,h2⟩:=fits_str h1
 obtain ⟨a2,r,rfl,h3⟩:=fits_bool h2
 obtain ⟨s3,r,rfl,w3,k3,h4⟩:=fits_sl h3
 obtain ⟨a3,rfl,z3⟩:=fits_map fits_eStr s3 k3
 rw [List.length_map] at w3
 obtain ⟨s4,r,rfl,w4,k4,h5⟩:=fits_sl h4
 obtain ⟨a4,rfl,z4⟩:=fits_map fits_eStr s4 k4
 rw [List.length_map] at w4
 obtain ⟨s5,r,rfl,w5,k5,h6⟩:=fits_sl h5
 obtain ⟨a5,rfl,z5⟩:=fits_map fits_eStr s5 k5
 rw [List.length_map] at w5
 obtain ⟨a6,r,rfl,w6,h7⟩:=fits_str h6
 obtain ⟨a7,r,rfl,w7,h8⟩:=fits_str h7
 obtain ⟨s8,r,rfl,w8,k8,h9⟩:=fits_sl h8
 obtain ⟨a8,rfl,z8⟩:=fits_map fits_Token s8 k8
 rw [List.length_map] at w8
 obtain ⟨a9,r,rfl,h10⟩:=fits_bool h9
 obtain ⟨s10,r,rfl,w10,k10,h11⟩:=fits_sl h10
 obtain ⟨a10,rfl,z10⟩:=fits_map fits_Node s10 k10
 rw [List.length_map] at w10
 obtain ⟨s11,r,rfl,w11,k11,h12⟩:=fits_sl h11
 obtain ⟨a11,rfl,z11⟩:=fits_map fits_eInt s11 k11
 rw [List.length_map] at w11
 obtain ⟨s12,r,rfl,w12,k12,h13⟩:=fits_sl h12
 obtain ⟨a12,rfl,z12⟩:=fits_map fits_Slot s12 k12
 rw [List.length_map] at w12
 obtain ⟨s13,r,rfl,w13,k13,h14⟩:=fits_sl h13
 obtain ⟨a13,rfl,z13⟩:=fits_map fits_Module s13 k13
 rw [List.length_map] at w13
 obtain ⟨s14,r,rfl,w14,k14,h15⟩:=fits_sl h14
 obtain ⟨a14,rfl,z14⟩:=fits_map fits_Addr s14 k14
 rw [List.length_map] at w14
 obtain ⟨a15,r,rfl,w15,h16⟩:=fits_int h15
 obtain ⟨a16,r,rfl,w16,h17⟩:=fits_int h16
 obtain ⟨a17,r,rfl,w17,h18⟩:=fits_int h17
 obtain ⟨a18,r,rfl,w18,h19⟩:=fits_int h18
 obtain ⟨s19,r,rfl,w19,k19,h20⟩:=fits_sl h19
 obtain ⟨a19,rfl,z19⟩:=fits_map fits_Addr s19 k19
 rw [List.length_map] at w19
 obtain ⟨s20,r,rfl,w20,k20,h21⟩:=fits_sl h20
 obtain ⟨a20,rfl,z20⟩:=fits_map fits_eStr s20 k20
 rw [List.length_map] at w20
 obtain ⟨a21,r,rfl,h22⟩:=fits_bool h21
 obtain rfl:=fits_nil h22
 refine ⟨⟨⟨a0,a1⟩,⟨a2,a3,a4,a5,a6⟩,⟨a7⟩,a8,a9,⟨a10,a11⟩,a12,a13,a14,a15,a16,a17,a18,a19,a20,a21⟩,rfl,?_,?_⟩
 ·exact ⟨⟨w0,w1⟩,⟨⟨w3,fun y hy=>(z3 y hy).1⟩,⟨w4,fun y hy=>(z4 y hy).1⟩,⟨w5,fun y hy=>(z5 y hy).1⟩,w6⟩,w7,⟨w8,fun y hy=>(z8 y hy).1⟩,⟨⟨w10,fun y hy=>(z10 y hy).1⟩,w11⟩,⟨w12,fun y hy=>(z12 y hy).1⟩,⟨w13,fun y hy=>(z13 y hy).1⟩,⟨w14,fun y hy=>(z14 y hy).1⟩,⟨w19,fun y hy=>(z19 y hy).1⟩,⟨w20,fun y hy=>(z20 y hy).1⟩⟩
 ·exact ⟨fun y hy=>(z8 y hy).2,⟨fun y hy=>(z10 y hy).2,fun y hy=>(z11 y hy).2⟩,fun y hy=>(z12 y hy).2,fun y hy=>(z13 y hy).2,w15,w16,w17,w18⟩
theorem fits_one_str {x:AV} (hx:FitsC [.str] [x]):∃s:Str,x= .str s∧s.length≤9223372036854775807:=by
 obtain ⟨s,r',he,h1,_⟩:=fits_str hx
 simp only [List.cons.injEq] at he
 exact ⟨s,he.1,h1⟩
theorem fits_one_bool {x:AV} (hx:FitsC [.bool] [x]):∃b:Bool,x= .bool b:=by
 obtain ⟨b,r',he,_⟩:=fits_bool hx
 simp only [List.cons.injEq] at he
 exact ⟨b,he.1⟩
end Go.Aw

namespace Go.Aw
def mixL {α:Type} (l l':List α) (j:Nat):List α:=l'.take j++l.drop j
theorem mixL_set {α:Type} (l l':List α) (j:Nat) (h:j < l.length) (h':j < l'.length):(mixL l l' j).set j l'[j]=mixL l l' (j+1):=by
 unfold mixL
 rw [List.take_succ_eq_append_getElem h',List.drop_eq_getElem_cons h,List.set_append_right _ _ (by simp;omega)]
 have:j - (l'.take j).length=0:=by simp;omega
 rw [this,List.set_cons_zero,List.append_assoc];rfl
theorem mixL_get {α:Type} (l l':List α) (j:Nat) (h:j < l.length) (h':j < l'.length):(mixL l l' j)[j]? =some l[j]:=by
 unfold mixL
 rw [List.getElem?_append_right (by simp;omega)]
 have:j - (l'.take j).length=0:=by simp;omega
 rw [this];simp [h]
theorem mixL_length {α:Type} (l l':List α) (j:Nat) (h:l'.length=l.length):(mixL l l' j).length=l.length:=by unfold mixL;simp;omega
theorem mixL_all {α:Type} (l l':List α) (j:Nat) (h:l'.length=l.length) (hj:l.length≤j):mixL l l' j=l':=by
 unfold mixL;rw [List.take_of_length_le (by omega),List.drop_of_length_le hj,List.append_nil]
theorem mixL_zero {α:Type} (l l':List α):mixL l l' 0=l:=by simp [mixL]
def mkL {α:Type} (f:Int→α→α) (c:α→Nat):Int→List α→List α
 |_,[]=>[]
 |k,x::xs=>f k x::mkL f c (k+c x) xs
theorem mkL_length {α:Type} (f:Int→α→α) (c:α→Nat):∀(l:List α) (k:Int),(mkL f c k l).length=l.length
 |[],_=>rfl
 |x::xs,k=>by simp [mkL,mkL_length f c xs]
theorem mkL_get {α:Type} (f:Int→α→α) (c:α→Nat):∀(l:List α) (k:Int) (j:Nat) (h:j < l.length),(mkL f c k l)[j]'(by rw [mkL_length];exact h)=f (k+(sumN c (l.take j):Nat)) l[j]
 |[],_,_,h=>by simp at h
 |x::xs,k,0,_=>by simp [mkL,sumN]
 |x::xs,k,j+1,h=>by
  simp only [mkL,List.getElem_cons_succ,List.take_succ_cons,sumN]
  rw [mkL_get f c xs (k+c x) j (by simpa using h)]
  congr 1;omega
theorem mix_all {α:Type} {p:α→Bool} {l l':List α} {j:Nat} (h:l.all p=true) (h':l'.all p=true):(mixL l l' j).all p=true:=by
 unfold mixL
 rw [List.all_append,all_take j h',all_drop j h];rfl
theorem set_all {α:Type} {p:α→Bool} {l:List α} {k:Nat} {r:α} (h:l.all p=true) (hr:p r=true):(l.set k r).all p=true:=by
 rw [List.all_eq_true] at h⊢
 intro x hx
 rcases List.mem_or_eq_of_mem_set hx with hx|rfl
 ·exact h x hx
 ·exact hr
def cToken (x:DToken):Nat:=3+sumN (fun _=>2) x.attrs
def cNode (x:DNode):Nat:=3+sumN (fun _=>2) x.attrs
def digit (k:Int):UInt8:=UInt8.ofNat (IntKind.u8.wrap (IntKind.i64.wrap (48+k.tmod 10))).toNat
def digits:Nat→Int→Str→Str
 |0,_,out=>out
 |f+1,k,out=>if k≤0 then out else digits f (k.tdiv 10) (digit k::out)
def markT (k:Int):Str:=if k≤0 then [109,48] else 109::digits 20 k []
theorem digits_end (f:Nat) (k:Int) (out:Str) (h:k≤0):digits f k out=out:=by
 cases f<;>simp [digits,h]
def markB (k:Int):Bool:=k.tmod 3 == 0
end Go.Aw

namespace Go.Aw
def mkint (k:Int) (x:Int):Int:=k
def mkstring (k:Int) (x:Str):Str:=markT k
def mkAddr (k:Int) (x:DAddr):DAddr:={host:=markT k,path:=markT (k+1)}
def mkAttr (k:Int) (x:DAttr):DAttr:={name:=markT k,value:=markT (k+1)}
def mkSlot (k:Int) (x:DSlot):DSlot:={mode:=k,to:={host:=markT (k+1),path:=markT (k+2)},digest:=markT (k+3),node:=k+4,done:=markB (k+5),code:=k+6,body:=markT (k+7)}
def mkModule (k:Int) (x:DModule):DModule:={to:={host:=markT k,path:=markT (k+1)},done:=markB (k+2),code:=k+3,body:=markT (k+4)}
def mkToken (k:Int) (x:DToken):DToken:={kind:=k,name:=markT (k+1),attrs:=mkL mkAttr (fun _=>2) (k+2) x.attrs,text:=markT (k+2+(sumN (fun _=>2) x.attrs:Nat))}
def mkNode (k:Int) (x:DNode):DNode:={name:=markT k,text:=markT (k+1),parent:=k+2,attrs:=mkL mkAttr (fun _=>2) (k+3) x.attrs}
end Go.Aw

namespace Go.Aw
def n1 {α:Type} (l:List α):Nat:=sumN (fun _=>1) l
def cPolicy (a:DPolicy):Nat:=sumN (fun _=>1) a.scripts+sumN (fun _=>1) a.styles+sumN (fun _=>1) a.images
def mkPolicy (k:Int) (a:DPolicy):DPolicy:={a with
 scripts:=mkL mkstring (fun _=>1) k a.scripts
 styles:=mkL mkstring (fun _=>1) (k+(sumN (fun _=>1) a.scripts:Nat)) a.styles
 images:=mkL mkstring (fun _=>1) (k+(sumN (fun _=>1) a.scripts:Nat)+(sumN (fun _=>1) a.styles:Nat)) a.images}
def cBuilder (a:DBuilder):Nat:=sumN cNode a.nodes+sumN (fun _=>1) a.opens
def mkBuilder (k:Int) (a:DBuilder):DBuilder:={a with
 nodes:=mkL mkNode cNode k a.nodes
 opens:=mkL mkint (fun _=>1) (k+(sumN cNode a.nodes:Nat)) a.opens}
def cPage (a:DPage):Nat:=cPolicy a.policy+sumN cToken a.queue+cBuilder a.builder+sumN (fun _=>8) a.slots+sumN (fun _=>5) a.mods+sumN (fun _=>2) a.entries+sumN (fun _=>2) a.ran+sumN (fun _=>1) a.log
def mkPage (k:Int) (a:DPage):DPage:={a with
 policy:=mkPolicy k a.policy
 queue:=mkL mkToken cToken (k+(cPolicy a.policy:Nat)) a.queue
 builder:=mkBuilder (k+(cPolicy a.policy:Nat)+(sumN cToken a.queue:Nat)) a.builder
 slots:=mkL mkSlot (fun _=>8) (k+(cPolicy a.policy:Nat)+(sumN cToken a.queue:Nat)+(cBuilder a.builder:Nat)) a.slots
 mods:=mkL mkModule (fun _=>5) (k+(cPolicy a.policy:Nat)+(sumN cToken a.queue:Nat)+(cBuilder a.builder:Nat)+(sumN (fun _=>8) a.slots:Nat)) a.mods
 entries:=mkL mkAddr (fun _=>2) (k+(cPolicy a.policy:Nat)+(sumN cToken a.queue:Nat)+(cBuilder a.builder:Nat)+(sumN (fun _=>8) a.slots:Nat)+(sumN (fun _=>5) a.mods:Nat)) a.entries
 ran:=mkL mkAddr (fun _=>2) (k+(cPolicy a.policy:Nat)+(sumN cToken a.queue:Nat)+(cBuilder a.builder:Nat)+(sumN (fun _=>8) a.slots:Nat)+(sumN (fun _=>5) a.mods:Nat)+(sumN (fun _=>2) a.entries:Nat)) a.ran
 log:=mkL mkstring (fun _=>1) (k+(cPolicy a.policy:Nat)+(sumN cToken a.queue:Nat)+(cBuilder a.builder:Nat)+(sumN (fun _=>8) a.slots:Nat)+(sumN (fun _=>5) a.mods:Nat)+(sumN (fun _=>2) a.entries:Nat)+(sumN (fun _=>2) a.ran:Nat)) a.log}
theorem sumN_const {α:Type} (c:Nat) (l:List α):sumN (fun _=>c) l=c * l.length:=by
 induction l with
 |nil=>simp [sumN]
 |cons x xs ih=>simp only [sumN,ih,List.length_cons,Nat.mul_add];omega
theorem sumN_le_c {α:Type} {f g:α→Nat} (c:Nat) (h:∀x,f x≤c * (g x+1)):∀l:List α,sumN f l≤c * (l.length+sumN g l)
 |[]=>by simp [sumN]
 |x::xs=>by
  simp only [sumN,List.length_cons]
  have h1:=h x
  have h2:=sumN_le_c c h xs
  have e:c * (xs.length+1+(g x+sumN g xs))=c * (g x+1)+c * (xs.length+sumN g xs):=by rw [←Nat.mul_add];congr 1;omega
  omega
theorem attrs_le (l:List DAttr):l.length≤szL szAttr l:=by unfold szL;omega
theorem cToken_le (x:DToken):cToken x≤3 * (szToken x+1):=by
 have:=attrs_le x.attrs
 unfold cToken szToken;rw [sumN_const];omega
theorem cNode_le (x:DNode):cNode x≤3 * (szNode x+1):=by
 have:=attrs_le x.attrs
 unfold cNode szNode;rw [sumN_const];omega
theorem attrs_Token {l:List DToken} {n:Nat} (h:sumN szToken l≤n):∀x∈l,x.attrs.length≤n:=fun x hx=>by
 have h1:=sumN_mem_le szToken hx
 have h2:=attrs_le x.attrs
 have h3:szToken x=x.name.length+szL szAttr x.attrs+x.text.length:=rfl
 omega
theorem attrs_Node {l:List DNode} {n:Nat} (h:sumN szNode l≤n):∀x∈l,x.attrs.length≤n:=fun x hx=>by
 have h1:=sumN_mem_le szNode hx
 have h2:=attrs_le x.attrs
 have h3:szNode x=x.name.length+x.text.length+szL szAttr x.attrs:=rfl
 omega
@[simp] theorem rtr_dfv_eToken (u:List Nat) (b:Bool) (l:List DToken):rtr (dropf u) b (l.map (eToken .view))=l.map (eToken .view):=rtr_map (by intro x;simp) l
@[simp] theorem rtr_dfv_eNode (u:List Nat) (b:Bool) (l:List DNode):rtr (dropf u) b (l.map (eNode .view))=l.map (eNode .view):=rtr_map (by intro x;simp) l
end Go.Aw

namespace Go.Aw
def lowerB (c:UInt8):Bool:=decide (97≤c.toNat)&&decide (c.toNat≤122)
def valueB (c:UInt8):Bool:=lowerB c || (decide (48≤c.toNat)&&decide (c.toNat≤57)) || decide (c.toNat=47)
def isName (s:Str):Bool:=s.all lowerB&&(decide (1≤s.length)&&decide (s.length≤8))
def isValue (s:Str):Bool:=s.all valueB&&(decide (1≤s.length)&&decide (s.length≤20))
def isAddr (a:DAddr):Bool:=isName a.host&&isName a.path
def ixB (c:UInt8) (s:Str):Nat:=s.findIdx (· == c)
theorem ixB_le (c:UInt8) (s:Str):ixB c s≤s.length:=List.findIdx_le_length
theorem ixB_nil (c:UInt8):ixB c []=0:=rfl
theorem ixB_cons (c x:UInt8) (s:Str):ixB c (x::s)=if x=c then 0 else ixB c s+1:=by
 unfold ixB
 rw [List.findIdx_cons]
 by_cases h:x=c
 ·subst h;simp
 ·have:(x == c)=false:=by simpa using h
  simp [this,h]
theorem ixB_skip (c:UInt8):∀(p s:Str),(∀x∈p,x≠c)→ixB c (p++s)=p.length+ixB c s
 |[],s,_=>by simp
 |x::p,s,h=>by
  rw [List.cons_append,ixB_cons,if_neg (h x (by simp)),ixB_skip c p s (fun y hy=>h y (by simp [hy]))]
  simp;omega
theorem ixB_at {c:UInt8} {s:Str} {k:Nat} (hk:k < s.length) (hc:s[k]=c) (hp:∀x∈s.take k,x≠c):ixB c s=k:=by
 have e:s=s.take k++s.drop k:=(List.take_append_drop k s).symm
 rw [e,ixB_skip c _ _ hp,List.drop_eq_getElem_cons hk,ixB_cons,if_pos hc]
 simp;omega
theorem ixB_none {c:UInt8} {s:Str} (hp:∀x∈s,x≠c):ixB c s=s.length:=by
 have:=ixB_skip c s [] hp
 simpa [ixB_nil] using this
theorem ixB_get {c:UInt8} {s:Str} (h:ixB c s < s.length):s[ixB c s]=c:=by
 have:=List.findIdx_getElem (p:=(· == c)) (w:=h)
 exact eq_of_beq this
theorem ixB_take (c:UInt8) (s:Str):∀x∈s.take (ixB c s),x≠c:=by
 intro x hx
 obtain ⟨i,hi,rfl⟩:=List.getElem_of_mem hx
 have hi':i < ixB c s:=by have:=hi;simp at this;omega
 rw [List.getElem_take]
 have:=List.not_of_lt_findIdx (p:=(· == c)) (xs:=s) hi'
 simpa using this
def segs (c:UInt8):Str→List Str
 |[]=>[[]]
 |x::s=>if x=c then []::segs c s else match segs c s with
  |[]=>[[x]]
  |p::r=>(x::p)::r
theorem segs_ne (c:UInt8):∀s,segs c s≠[]
 |[]=>by simp [segs]
 |x::s=>by
  simp only [segs]
  split
  ·simp
  ·split<;>simp
theorem segs_cut (c:UInt8):∀(p s:Str),(∀x∈p,x≠c)→segs c (p++c::s)=p::segs c s
 |[],s,_=>by simp [segs]
 |x::p,s,h=>by
  rw [List.cons_append]
  simp only [segs]
  rw [if_neg (h x (by simp)),segs_cut c p s (fun y hy=>h y (by simp [hy]))]
theorem segs_one (c:UInt8):∀(p:Str),(∀x∈p,x≠c)→segs c p=[p]
 |[],_=>rfl
 |x::p,h=>by
  simp only [segs]
  rw [if_neg (h x (by simp)),segs_one c p (fun y hy=>h y (by simp [hy]))]
theorem segs_step (c:UInt8) (s:Str):segs c s=if ixB c s < s.length then s.take (ixB c s)::segs c (s.drop (ixB c s+1)) else [s]:=by
 have ht:=ixB_take c s
 split
 ·rename_i h
  conv=>lhs;rw [←List.take_append_drop (ixB c s) s,List.drop_eq_getElem_cons h,ixB_get h]
  exact segs_cut c _ _ ht
 ·rename_i h
  have:s.take (ixB c s)=s:=List.take_of_length_le (by omega)
  rw [this] at ht
  exact segs_one c s ht
theorem segs_length (c:UInt8):∀s:Str,(segs c s).length=s.count c+1
 |[]=>rfl
 |x::s=>by
  simp only [segs]
  split
  ·rename_i h;subst h;simp [segs_length x s]
  ·rename_i h
   have:=segs_length c s
   split
   ·rename_i h0;exact absurd h0 (segs_ne c s)
   ·rename_i p r h0
    rw [h0] at this
    rw [List.count_cons_of_ne h]
    simpa using this
def noAddr:DAddr:=⟨[],[]⟩
def addrOf (s base:Str):DAddr:=if ixB 47 s < s.length then ⟨s.take (ixB 47 s),s.drop (ixB 47 s+1)⟩ else ⟨base,s⟩
def parseAddr (s base:Str):DAddr×Bool:=if isAddr (addrOf s base) then (addrOf s base,true) else (noAddr,false)
def attrIs (n:Str) (a:DAttr):Bool:=decide (a.name=n)
def findAttr (l:List DAttr) (n:Str):Str×Bool:=match l.find? (attrIs n) with
 |some a=>(a.value,true)
 |none=>([],false)
theorem findAttr_at {l:List DAttr} {n:Str} {k:Nat} (h:k < l.length) (hf:attrIs n l[k]=true) (hn:∀x∈l.take k,attrIs n x=false):findAttr l n=(l[k].value,true):=by
 have e:l=l.take k++l[k]::l.drop (k+1):=by rw [←List.drop_eq_getElem_cons h,List.take_append_drop]
 have:l.find? (attrIs n)=some l[k]:=by
  generalize hx:l[k]=y at *
  rw [e,List.find?_append]
  have:(l.take k).find? (attrIs n)=none:=List.find?_eq_none.2 (fun x hx=>by simp [hn x hx])
  rw [this]
  simp [hf]
 simp [findAttr,this]
theorem findAttr_none {l:List DAttr} {n:Str} (hn:∀x∈l,attrIs n x=false):findAttr l n=([],false):=by
 have:l.find? (attrIs n)=none:=List.find?_eq_none.2 (fun x hx=>by simp [hn x hx])
 simp [findAttr,this]
end Go.Aw

namespace Go.Aw
def ixI (c:UInt8) (s:Str):Int:=if ixB c s < s.length then ixB c s else -1
theorem indexByte_ix (c:UInt8):∀s:Str,Go.Lib.indexByte s c=ixI c s
 |[]=>by simp [Go.Lib.indexByte,ixI]
 |x::s=>by
  have ih:=indexByte_ix c s
  have hl:=ixB_le c s
  simp only [Go.Lib.indexByte,ih,ixI,ixB_cons,List.length_cons]
  by_cases h:x=c
  ·simp [h]
  ·have:(x == c)=false:=by simpa using h
   simp only [this,h,if_false,Bool.false_eq_true]
   by_cases h2:ixB c s < s.length
   ·have h3:((ixB c s:Int) == -1)=false:=by rw [beq_eq_false_iff_ne];omega
    simp [h2,h3]
   ·simp [h2]
theorem okN_indexByte {P:Program} [Tabs P] {f:FuncId} {fn:Func} (hf:P.funcs[f]? =some fn) (hname:(fn.name == "runtime.NumGoroutine")=false)
  (hb:fn.body.isNone=true) (hn:Extern.findNext fn=none) (he:Extern.find fn=some Extern.BytealgIndexByte.indexByte) (s:Str) (c:UInt8):
  OkN P f [.str s,.int .u8 c.toNat] (.int .i64 (ixI c s)):=by
 intro w vs h
 obtain ⟨v1,h⟩:∃v,vs=[.string ⟨s.toArray⟩,.int .u8 (c.toNat:Int)]:=by
  cases vs with
  |nil=>simp [Rc] at h
  |cons a vs=>cases vs with
   |nil=>simp [Rc] at h
   |cons b vs=>cases vs with
    |nil=>
     simp only [Rc,R] at h
     obtain ⟨f1,f2,h1,h2,h3⟩:=h
     obtain ⟨f3,f4,h4,h5,h6⟩:=h2
     exact ⟨a,by rw [h1.1,h4.1]⟩
    |cons d vs=>
     simp only [Rc,R] at h
     obtain ⟨f1,f2,h1,h2,h3⟩:=h
     obtain ⟨f3,f4,h4,h5,h6⟩:=h2
     simp [Rc] at h5
 subst h
 refine ⟨.int .i64 (ixI c s),w,?_,rfl,Same.rfl,fun _ _=>by simp [R]⟩
 rw [run_callFunc_indexByte hf hname hb hn he]
 have:=Go.Lib.run_indexByteString (P:=P) ⟨s.toArray⟩ (c.toNat:Int) w
 simp only [Int.toNat_natCast] at this
 have hc:c.toNat.toUInt8=c:=by simp
 rw [hc,indexByte_ix] at this
 rw [show [Value.string ⟨s.toArray⟩,Value.int .u8 (c.toNat:Int)].toArray=#[Value.string ⟨s.toArray⟩,Value.int .u8 (c.toNat:Int)] from rfl,this]
 rfl
end Go.Aw
