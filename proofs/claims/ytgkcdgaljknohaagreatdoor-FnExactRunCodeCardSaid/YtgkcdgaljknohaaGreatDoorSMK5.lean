/-
  Proved here: steps towards the statement of this claim, text SMK5.
  No condition beyond what each statement spells out.
-/
import Derived.Test.YtgkcdgaljknohaaGreatDoorSMK3
import Derived.Test.YtgkcdgaljknohaaGreatDoorF3
import Derived.Test.YtgkcdgaljknohaaGreatDoorF1
import Derived.Test.YtgkcdgaljknohaaGreatDoorF8
import Derived.Lib.Overlaps
import Derived.Lib.AppendZerosOnto
import Derived.Test.YtgkcdgaljknohaaGreatDoorF2
import Derived.Test.YtgkcdgaljknohaaGreatDoorYFacts
import Derived.Test.YtgkcdgaljknohaaGreatDoorF6
set_option linter.all false
set_option maxRecDepth 100000
set_option maxHeartbeats 4000000
namespace Go.Proofs.YtgkcdgaljknohaaGreatDoor
open Go.Aw Go.RowKit Go.Lib
theorem mk_replace (w:World) (rb sb sc:Nat) (r0:Value) (s:ByteArray) (hs:s.size≤1099511627776) (hrb:rb < w.heap.size) (h0:w.cell? ⟨rb,0,none⟩=some (.int .u32 0)) (h1:w.cell? ⟨rb,1,none⟩=some (.int .i32 0)) (hr:w.cell? ⟨rb,3,none⟩=some r0) (fr:∀j,w.frozen? ⟨rb,j,none⟩=false)
  (hl:w.cell? ⟨rb,4,none⟩=some (.slice (some ⟨sb,0,none⟩) 4 sc)) (hc:CellsAt w sb 0 mkPairs) (hsb:sb≠rb):
  Calls Tryz.prog 269 #[.pointer (some ⟨rb,0,none⟩),.string s] w fun e w'=>e= .returned (.string ⟨(s.data.toList.map markC).toArray⟩)∧w.heap.size≤w'.heap.size∧(∀b,b < w.heap.size→b≠rb→w'.heap[b]? =w.heap[b]?)∧Same w w':=by
 have hnot:∀(x:Bool) (w:World),(Op.unary .not (.bool x)).run Tryz.prog w= .ok (.bool (!x)) w:=fun _ _=>rfl
 have hmf:∀(fn:Fn) (first cap:Array Value) (w:World),(Instr.makeFunc fn first cap).run Tryz.prog w= .ok (.func fn first cap) w:=fun _ _ _ _=>rfl
 have hm:∀(nb:Nat) (w:World),(method 513 330 (.pointer (some ⟨nb,0,none⟩)) "Replace").run Tryz.prog w= .ok (394,.pointer (some ⟨nb,0,none⟩)) w:=fun _ _=>by kernel_rfl
 have hld:=run_call_load (P:=Tryz.prog) Tryz.func321 (by kernel_rfl) (by kernel_rfl) (by kernel_rfl) .u32 (by kernel_rfl) (w:=w) (a:=⟨rb,0,none⟩) (x:=0) h0
 go_enter Tryz.func269,Tryz.ntmps269
 go_wp2_with (first|(go_at_call 292;go_in)|(go_at_call 310;go_in)|(go_at_call 311;refine (mk_slow w rb sb sc r0 hrb h0 h1 hr fr hl hc hsb).mono ?_;rintro e w1 ⟨rfl,nb,n1,n2,n3,n4,n5,n6,n7⟩))
 go_end0
 go_wp2_with (go_at_call 394;refine (mk_bytes _ _ s hs n2 n3).mono ?_;rintro e w2 ⟨rfl,hx⟩)
 go_ret
 exact ⟨rfl,Nat.le_trans n5 hx.size,fun b hb hbr=>(hx.old b (Nat.lt_of_lt_of_le hb n5)).trans (n6 b hb hbr),n7.trans hx.same⟩
end Go.Proofs.YtgkcdgaljknohaaGreatDoor

namespace Go.Aw
structure Insd (w w' : World) (b k n : Nat) (cs : List Value) (v : Value) (b' off' cap' : Nat) (C' : Array Value) (e' : TypeId) (fz' : Nat × Nat) : Prop where
  ret : v = .slice (some ⟨b', off', none⟩) n cap'
  blk : w'.heap[b']? = some (.cells C' e' fz')
  hz : (C'.size ≤ fz'.1 ∧ k = 1) ∨ fz'.2 = 0
  fit : off' + cap' * k ≤ C'.size
  len : n ≤ cap'
  max : cap' ≤ maxLen
  at' : CellsAt w' b' off' cs
  new : b' = b ∨ w.heap.size ≤ b'
  lt : b' < w'.heap.size
  size : w.heap.size ≤ w'.heap.size
  frame : ∀ x, x < w.heap.size → x ≠ b → w'.heap[x]? = w.heap[x]?
  same : Same w w'
end Go.Aw

set_option maxRecDepth 100000
set_option maxHeartbeats 4000000
namespace Go.Proofs.YtgkcdgaljknohaaGreatDoor
open Go.Aw Go.RowKit Go.Lib
theorem mk_new (w:World) (vb vc:Nat) (hc:CellsAt w vb 0 mkPairs):
  Calls Tryz.prog 268 #[.slice (some ⟨vb,0,none⟩) 4 vc] w fun e w'=>∃rb sb sc r0,e= .returned (.pointer (some ⟨rb,0,none⟩))∧w.heap.size≤rb∧rb < w'.heap.size∧w'.cell? ⟨rb,0,none⟩=some (.int .u32 0)∧w'.cell? ⟨rb,1,none⟩=some (.int .i32 0)∧w'.cell? ⟨rb,3,none⟩=some r0∧(∀j,w'.frozen? ⟨rb,j,none⟩=false)∧
   w'.cell? ⟨rb,4,none⟩=some (.slice (some ⟨sb,0,none⟩) 4 sc)∧CellsAt w' sb 0 mkPairs∧sb≠rb∧Ext w w':=by
 obtain ⟨inf,hinf,hq⟩:=Option.map_eq_some_iff.1 (show (Tryz.prog.info? 9).map (fun i=>(i.size,i.bytes))=some (1,16) by kernel_rfl)
 obtain ⟨hsz,hby⟩:=Prod.mk.inj hq
 obtain ⟨z,hz0⟩:∃z,inf.zero=some z:=by
  have h:=Tryz.zsz9
  simp only [zeroSz,hinf] at h
  cases hz:inf.zero with
  |none=>simp [hz] at h
  |some z=>exact ⟨z,rfl⟩
 obtain ⟨G,hG⟩:∃G,G=grownCap w 4 0 9:=⟨_,rfl⟩
 obtain ⟨ROW,hROW⟩:∃ROW:Array Value,ROW=mkPairs.toArray++Builtin.zeroCells z.cells (G - 4):=⟨_,rfl⟩
 have hap:∀ty,(Builtin.append_ #[24,24] ty #[.slice none 0 0,.slice (some ⟨vb,0,none⟩) 4 vc]).run Tryz.prog w= .ok (.slice (some ⟨w.heap.size,0,none⟩) 4 G) (w.drew.alloc (.cells ROW 9)):=fun ty=>by
  have h:=(Go.Aw.run_append (P:=Tryz.prog) (w:=w) (tS:=24) (xT:=24) (ty:=ty) Tryz.underlying24 ⟨_,Tryz.underlying24,fun k h=>by cases h⟩ hinf hz0 (base:=none) (sLen:=0) (sCap:=0) (n:=4) (x:= .slice (some ⟨vb,0,none⟩) 4 vc) (by simp [Builtin.lenOf]) (news:=mkPairs) (olds:=[]) (fun w' hw=>by rw [hsz];exact firstCells_run rfl (show CellsAt w' vb 0 mkPairs from fun j v hv=>by simpa [World.cell?,hw] using hc j v hv)) (fun w' hw=>by rw [hsz];rfl) (by rw [hby];decide) (by decide)).2 (by decide)
  rw [hROW,hG]
  simpa using h
 have hself:=heap_alloc_self w.drew (.cells ROW 9)
 have hold:=heap_alloc w.drew (.cells ROW 9)
 have hx1:Ext w (w.drew.alloc (.cells ROW 9)):=⟨by simp,hold,⟨rfl,rfl,rfl⟩⟩
 have hs1:(w.drew.alloc (.cells ROW 9)).heap.size=w.heap.size+1:=by simp
 generalize w.drew.alloc (.cells ROW 9)=W1 at *
 have hc1:CellsAt W1 w.heap.size 0 mkPairs:=fun j v hv=>by
  have hself2:W1.heap[w.heap.size]? =some (.cells ROW 9 (0,0)):=hself
  have hj:=(List.getElem?_eq_some_iff.1 hv).1
  have:ROW[j]? =some v:=by rw [hROW,Array.getElem?_append_left (by simpa using hj)];simpa using hv
  simp [World.cell?,hself2,this]
 clear hself hold hROW
 subst hG
 go_enter Tryz.func268,Tryz.ntmps268
 go_wp2_with (at_builtin;refine Lib.wpList_append_run _ rfl _ _ _ _ rfl _ _ rfl rfl _ _ (hap _) ?_)
 go_ret
 have hself:=heap_alloc_self W1 (.cells #[Value.int IntKind.u32 0,Value.int IntKind.i32 0,Value.int IntKind.u32 0,Value.nilIface,Value.slice (some ⟨w.heap.size,0,none⟩) 4 (grownCap w 4 0 9)] 294)
 have hold:=heap_alloc W1 (.cells #[Value.int IntKind.u32 0,Value.int IntKind.i32 0,Value.int IntKind.u32 0,Value.nilIface,Value.slice (some ⟨w.heap.size,0,none⟩) 4 (grownCap w 4 0 9)] 294)
 have hsz2:(W1.alloc (.cells #[Value.int IntKind.u32 0,Value.int IntKind.i32 0,Value.int IntKind.u32 0,Value.nilIface,Value.slice (some ⟨w.heap.size,0,none⟩) 4 (grownCap w 4 0 9)] 294)).heap.size=W1.heap.size+1:=by simp
 have hsm:Same W1 (W1.alloc (.cells #[Value.int IntKind.u32 0,Value.int IntKind.i32 0,Value.int IntKind.u32 0,Value.nilIface,Value.slice (some ⟨w.heap.size,0,none⟩) 4 (grownCap w 4 0 9)] 294)):=⟨rfl,rfl,rfl⟩
 generalize W1.alloc (.cells #[Value.int IntKind.u32 0,Value.int IntKind.i32 0,Value.int IntKind.u32 0,Value.nilIface,Value.slice (some ⟨w.heap.size,0,none⟩) 4 (grownCap w 4 0 9)] 294)=W2 at *
 have hself2:W2.heap[w.heap.size+1]? =some (.cells #[Value.int IntKind.u32 0,Value.int IntKind.i32 0,Value.int IntKind.u32 0,Value.nilIface,Value.slice (some ⟨w.heap.size,0,none⟩) 4 (grownCap w 4 0 9)] 294 (0,0)):=by rw [←hs1];exact hself
 refine ⟨w.heap.size+1,w.heap.size,grownCap w 4 0 9,.nilIface,rfl,by omega,by omega,by simp [World.cell?,hself2],by simp [World.cell?,hself2],by simp [World.cell?,hself2],fun j=>by simp [World.frozen?,hself2],by simp [World.cell?,hself2],fun j v hv=> ?_,by omega,hx1.trans ⟨by omega,fun b hb=>hold b hb,hsm⟩⟩
 have h2:=hold w.heap.size (by omega)
 have:=hc1 j v hv
 simpa [World.cell?,h2] using this
theorem mk_markup (w:World) (s:ByteArray) (hs:s.size≤1099511627776):
  Calls Tryz.prog 236 #[.string s] w fun e w'=>e= .returned (.string ⟨(s.data.toList.map markC).toArray⟩)∧Ext w w':=by
 have hbs:∀w:World,(Instr.buildSlice 24 4 #[(0,.string ⟨#[91]⟩),(1,.string ⟨#[60]⟩),(2,.string ⟨#[93]⟩),(3,.string ⟨#[62]⟩)]).run Tryz.prog w= .ok (.slice (some ⟨w.heap.size,0,none⟩) 4 4) (w.alloc (.cells mkPairs.toArray 9)):=fun w=>by
  letI:Tabs Tryz.prog:={holds:=fun _=>True,low:=0,low_le:=fun _ _=>Nat.zero_le _,stable:=fun _ _ _ _=>trivial}
  have h:=Go.Aw.run_buildSlice (P:=Tryz.prog) (t:=24) (e:=9) (n:=1) (by':=16) (len:=4) (vs:=mkPairs) (w:=w) (by kernel_rfl) (by kernel_rfl) rfl (by decide) (by intro v hv;simp only [mkPairs,List.mem_cons,List.not_mem_nil,or_false] at hv;rcases hv with rfl|rfl|rfl|rfl<;>rfl)
  exact h
 go_enter Tryz.func236,Tryz.ntmps236
 go_wp2_with (simp only [hbs])
 have hself:=heap_alloc_self w (.cells #[Value.string ⟨#[91]⟩,Value.string ⟨#[60]⟩,Value.string ⟨#[93]⟩,Value.string ⟨#[62]⟩] 9)
 have hx:Ext w (w.alloc (.cells #[Value.string ⟨#[91]⟩,Value.string ⟨#[60]⟩,Value.string ⟨#[93]⟩,Value.string ⟨#[62]⟩] 9)):=⟨by simp,fun b hb=>heap_alloc w _ b hb,⟨rfl,rfl,rfl⟩⟩
 generalize w.alloc (.cells #[Value.string ⟨#[91]⟩,Value.string ⟨#[60]⟩,Value.string ⟨#[93]⟩,Value.string ⟨#[62]⟩] 9)=W1 at *
 have hc:CellsAt W1 w.heap.size 0 mkPairs:=fun j v hv=>by
  have hself2:W1.heap[w.heap.size]? =some (.cells mkPairs.toArray 9 (0,0)):=hself
  simp [World.cell?,hself2,hv]
 clear hself hbs
 refine (mk_new W1 w.heap.size 4 hc).mono ?_
 rintro e W2 ⟨rb,sb,sc,r0,rfl,a1,a2,a3,a4,a5,a6,a7,a8,a9,a10⟩
 go_wp2_with (go_at_call 269;refine (mk_replace _ rb sb sc r0 s hs a2 a3 a4 a5 a6 a7 a8 a9).mono ?_;rintro e W3 ⟨rfl,b1,b2,b3⟩)
 go_ret
 exact ⟨rfl,⟨Nat.le_trans hx.size (Nat.le_trans a10.size b1),fun b hb=>by
  have h1:=hx.size
  have h2:=a10.size
  rw [b2 b (by omega) (by omega),a10.old b (by omega),hx.old b hb],(hx.same.trans a10.same).trans b3⟩⟩
theorem implMarkupOf_ok [Tabs Tryz.prog] (s:Str) (hs:s.length≤1099511627776):Ok Tryz.prog 236 [.str s] (.str (s.map markC)):=by
 intro w vs hg hargs
 obtain ⟨c,rest,rfl⟩:∃c rest,vs=c::rest:=by
  cases vs with
  |nil=>simp [Rc] at hargs
  |cons c rest=>exact ⟨c,rest,rfl⟩
 simp only [Rc,R] at hargs
 obtain ⟨f1,f2,⟨rfl,_⟩,h2,_⟩:=hargs
 obtain rfl:rest=[]:=by
  cases rest with
  |nil=>rfl
  |cons=>simp [Rc] at h2
 refine (mk_markup w ⟨s.toArray⟩ (by simpa [ByteArray.size] using hs)).mono ?_
 rintro e w' ⟨rfl,hx⟩
 exact ⟨.string ⟨(s.map markC).toArray⟩,[],by simp,by simp [R],by simp,by simp,hx.size,hx.old,hx.same⟩
end Go.Proofs.YtgkcdgaljknohaaGreatDoor

namespace Go.Proofs.YtgkcdgaljknohaaGreatDoor
theorem Tryz.mix:Tryz.prog.follows .mixedOrders=true:=by kernel_rfl
end Go.Proofs.YtgkcdgaljknohaaGreatDoor
