/-
  Proved here: steps towards the statement of this claim, text QMK1.
  No condition beyond what each statement spells out.
-/
import Derived.Test.YtaddkhdghlaalaaGreatDoorYFacts
import Derived.Test.YtaddkhdghlaalaaGreatDoorF1
import Derived.WalkKit
import Derived.Defers
import Derived.Laws.Pointers
import Derived.Laws.LoneSync
import Derived.RegionTactic
import Derived.RegionCalls
import Derived.Laws.NewBlocks
import Derived.Lib.SliceRun
import Derived.Laws.IdiomStrings
import Derived.Deep.WholeRow
import Derived.Test.YtaddkhdghlaalaaGreatDoorF3
import Derived.Test.YtaddkhdghlaalaaGreatDoorF8
import Derived.Lib.Overlaps
import Derived.Lib.AppendZerosOnto
import Derived.Test.YtaddkhdghlaalaaGreatDoorF2
import Derived.Test.YtaddkhdghlaalaaGreatDoorF6
set_option linter.all false
set_option maxRecDepth 100000
set_option maxHeartbeats 4000000
namespace Go.Proofs.YtaddkhdghlaalaaGreatDoor
open Go.Aw
end Go.Proofs.YtaddkhdghlaalaaGreatDoor

set_option maxRecDepth 100000
set_option maxHeartbeats 4000000
namespace Go.Proofs.YtaddkhdghlaalaaGreatDoor
open Go.Aw Go.RowKit Go.Lib
def uN (c:UInt8):UInt8:=if c=91 then 60 else if c=93 then 62 else c
structure Ext (w w' : World) : Prop where
  size : w.heap.size ≤ w'.heap.size
  old : ∀ b, b < w.heap.size → w'.heap[b]? = w.heap[b]?
  same : Same w w'
theorem Ext.refl (w:World):Ext w w:=⟨Nat.le_refl _,fun _ _=>rfl,Same.rfl⟩
theorem Ext.trans {a b c:World} (h:Ext a b) (k:Ext b c):Ext a c:=⟨Nat.le_trans h.size k.size,fun x hx=>(k.old x (Nat.lt_of_lt_of_le hx h.size)).trans (h.old x hx),h.same.trans k.same⟩
theorem Ext.cell {w w':World} (h:Ext w w') {b:Nat} (hb:b < w.heap.size) (j:Nat):w'.cell? ⟨b,j,none⟩=w.cell? ⟨b,j,none⟩:=by simp [World.cell?,h.old b hb]
theorem Ext.frozen {w w':World} (h:Ext w w') {b:Nat} (hb:b < w.heap.size) (j:Nat):w'.frozen? ⟨b,j,none⟩=w.frozen? ⟨b,j,none⟩:=by simp [World.frozen?,h.old b hb]
theorem aRb (w:World) (b o:Nat) (v:Value) {k:Nat} (h:k≠b):(w.setCell ⟨b,o,none⟩ v).heap[k]? =w.heap[k]?:=by
 have:=Go.Aw.heap_setCells b k h [v] o w
 simpa [World.setCells] using this
theorem Ext.set {w w':World} (h:Ext w w') {b:Nat} (hb:w.heap.size≤b) (o:Nat) (v:Value):Ext w (w'.setCell ⟨b,o,none⟩ v):=by
 have h1:=Go.Aw.size_setCells b [v] o w'
 have h2:=Go.Aw.same_setCells b [v] o w'
 simp only [World.setCells] at h1 h2
 exact ⟨by rw [h1];exact h.size,fun x hx=>(aRb w' b o v (by omega)).trans (h.old x hx),h.same.trans h2⟩
end Go.Proofs.YtaddkhdghlaalaaGreatDoor

set_option maxRecDepth 100000
set_option maxHeartbeats 4000000
namespace Go.Proofs.YtaddkhdghlaalaaGreatDoor
open Go.Aw Go.RowKit Go.Lib
end Go.Proofs.YtaddkhdghlaalaaGreatDoor

set_option maxRecDepth 100000
set_option maxHeartbeats 4000000
namespace Go.Proofs.YtaddkhdghlaalaaGreatDoor
open Go.Aw Go.RowKit Go.Lib
end Go.Proofs.YtaddkhdghlaalaaGreatDoor

set_option maxRecDepth 100000
set_option maxHeartbeats 4000000
namespace Go.Proofs.YtaddkhdghlaalaaGreatDoor
open Go.Aw Go.RowKit Go.Lib
end Go.Proofs.YtaddkhdghlaalaaGreatDoor

namespace Go.Aw
structure bJ7 (w w' : World) (b k n : Nat) (cs : List Value) (v : Value) (b' off' cap' : Nat) (C' : Array Value) (e' : TypeId) (fz' : Nat × Nat) : Prop where
  ret : v = .slice (some ⟨b', off', none⟩) n cap'
  blk : w'.heap[b']? = some (.cells C' e' fz')
  hz : (C'.size ≤ fz'.1 ∧ k = 1) ∨ fz'.2 = 0
  fit : off' + cap' * k ≤ C'.size
  len : n ≤ cap'
  max : cap' ≤ maxLen
  at' : dE w' b' off' cs
  new : b' = b ∨ w.heap.size ≤ b'
  lt : b' < w'.heap.size
  size : w.heap.size ≤ w'.heap.size
  frame : ∀ x, x < w.heap.size → x ≠ b → w'.heap[x]? = w.heap[x]?
  same : Same w w'
end Go.Aw

set_option maxRecDepth 100000
set_option maxHeartbeats 4000000
namespace Go.Proofs.YtaddkhdghlaalaaGreatDoor
open Go.Aw Go.RowKit Go.Lib
end Go.Proofs.YtaddkhdghlaalaaGreatDoor

namespace Go.Proofs.YtaddkhdghlaalaaGreatDoor
theorem Tryz.mix:Tryz.prog.follows .mixedOrders=true:=by kernel_rfl
end Go.Proofs.YtaddkhdghlaalaaGreatDoor

set_option maxRecDepth 4000
set_option maxHeartbeats 4000000
namespace Go.Proofs.YtaddkhdghlaalaaGreatDoor
open Go.Aw
end Go.Proofs.YtaddkhdghlaalaaGreatDoor

set_option maxRecDepth 4000
set_option maxHeartbeats 4000000
namespace Go.Proofs.YtaddkhdghlaalaaGreatDoor
open Go.Aw
end Go.Proofs.YtaddkhdghlaalaaGreatDoor

set_option maxRecDepth 4000
set_option maxHeartbeats 4000000
namespace Go.Proofs.YtaddkhdghlaalaaGreatDoor
open Go.Aw
end Go.Proofs.YtaddkhdghlaalaaGreatDoor

set_option maxRecDepth 4000
set_option maxHeartbeats 4000000
namespace Go.Proofs.YtaddkhdghlaalaaGreatDoor
open Go.Aw
end Go.Proofs.YtaddkhdghlaalaaGreatDoor

set_option maxRecDepth 4000
set_option maxHeartbeats 4000000
namespace Go.Proofs.YtaddkhdghlaalaaGreatDoor
open Go.Aw
end Go.Proofs.YtaddkhdghlaalaaGreatDoor

set_option maxRecDepth 4000
set_option maxHeartbeats 4000000
namespace Go.Proofs.YtaddkhdghlaalaaGreatDoor
open Go.Aw
theorem aJh {α β:Type} (f:α→β) (l:List α) (k:Nat) (h:k < l.length):(l.take (k+1)).map f=(l.take k).map f++[f l[k]]:=by
 rw [List.take_succ_eq_append_getElem h,List.map_append];rfl
theorem aFb [aB Tryz.prog] (l:List iJ) (hl:l.length≤1099511627776):Ok Tryz.prog 170 [.sl .view 2 (l.map mW)] (.sl .own 2 (l.map mW)):=by
 refine ent Tryz.mix Tryz.func170 Tryz.ntmps170 ?_
 refine aW ?_
 exact aM Tryz.results170
theorem aQd [aB Tryz.prog] (l:List bE) (hs:szL bN l≤274877906944):Ok Tryz.prog 138 [.sl .view 4 (l.map (bL .view))] (.sl .own 4 (l.map (bL .own))):=by
 simp only [szL] at hs
 refine ent Tryz.mix Tryz.func138 Tryz.ntmps138 ?_
 refine aW ?_
 refine aR (ι:={q:Nat×Nat // q.1≤l.length∧1≤q.2}) (fun t o i=>⟨aS t [(3,.obj 0 i.1.2),(4,.int .i64 i.1.1),(5,.undef)],o.take 0++[⟨true,false,4,i.1.2,(l.take i.1.1).map (bL .own)⟩]⟩)
  (fun i=>l.length - i.1.1) ⟨(0,1),by simp,by first|(simp;done)|(simp only;omega)⟩ aO ?_
 rintro ⟨⟨k,v⟩,hk,hv⟩ K1 hK1
 simp only at hk hv
 simp only [aS,List.set_cons_succ,List.set_cons_zero,List.take_succ_cons,List.take_zero,List.cons_append,List.nil_append] at hK1⊢
 have hk1:=wk1 (k:=k) (by omega)
 by_cases hlt:k < l.length
 ·have hg:=List.getElem?_eq_getElem hlt
  have hps:=aJh (bL .own) l k hlt
  have hz:=fM bN l k hlt
  simp only [bN,szL] at hz
  have c1:=aFb l[k].attrs (by omega)
  have hgl:((l.take k).map (bL .own)).length=k:=by simp;omega
  generalize (l.take k).map (bL .own)=g at *
  have W:=And.intro hk1 (And.intro hg (And.intro hlt hgl))
  refine we ?_
  all_goals refine hK1 _ ⟨(k+1,v+1),by simp only;omega,by simp only;omega⟩ (aN 1 (by simp [hps])) (by simp only;omega)
 ·have htk:l.take k=l:=List.take_of_length_le (by omega)
  rw [htk]
  have W:=hk1
  refine we ?_
  exact aM Tryz.results138
theorem aP8 [aB Tryz.prog] (a:dU) (hs:dX a≤274877906944):Ok Tryz.prog 137 [.agg (bY .view a)] (.agg (bY .own a)):=by
 simp only [dX,szL] at hs
 refine ent Tryz.mix Tryz.func137 Tryz.ntmps137 ?_
 refine aW ?_
 exact aM Tryz.results137
def iI (t:kV):List bE:=if t.rest=[]∨t.rest.head? =some 60 then [] else [⟨3,[],[],t.rest⟩]
end Go.Proofs.YtaddkhdghlaalaaGreatDoor

set_option maxRecDepth 4000
set_option maxHeartbeats 4000000
namespace Go.Proofs.YtaddkhdghlaalaaGreatDoor
open Go.Aw
theorem aY3 (u:List Nat) (b:Bool) (l:List gW):rtr (eZ u) b (l.map (dY .view))=l.map (dY .view):=by
 induction l with
 |nil=>rfl
 |cons x l ih=>rw [List.map_cons,rtr,ih];simp [rtc,rt,dY,eZ]
theorem jM [aB Tryz.prog] (b:aX) (hs:aU b≤274877906944):Ok Tryz.prog 139 [.agg (aZ .view b)] (.agg (aZ .own b)):=by
 simp only [aU,szL] at hs
 obtain ⟨l,opens⟩:=b
 simp only at hs
 refine ent Tryz.mix Tryz.func139 Tryz.ntmps139 ?_
 refine aW ?_
 refine aR (ι:={q:Nat×Nat // q.1≤l.length∧1≤q.2}) (fun t o i=>⟨aS t [(4,.int .i64 i.1.1),(5,.undef),(10,.undef)],o.take 3++[⟨true,true,2,0,[[.obj 4 i.1.2,.obj 2 2]]⟩,⟨true,false,4,i.1.2,(l.take i.1.1).map (dY .own)⟩]⟩)
  (fun i=>l.length - i.1.1) ⟨(0,1),by simp,by simp⟩ (sP 3 0 0 (ob:=⟨true,true,2,0,[[.sl .own 4 [],.obj 2 2]]⟩) (by rfl) (by rfl) (by rfl) (by simp) (by rfl) (by rfl) (by simp) (by simp [rtc,rt,eZ,aY3])) ?_
 rintro ⟨⟨k,v⟩,hk,hv⟩ K1 hK1
 simp only at hk hv
 simp only [aS,List.set_cons_succ,List.set_cons_zero,List.take_succ_cons,List.take_zero,List.cons_append,List.nil_append] at hK1⊢
 have hk1:=wk1 (k:=k) (by omega)
 by_cases hlt:k < l.length
 ·have hg:=List.getElem?_eq_getElem hlt
  have hps:=aJh (dY .own) l k hlt
  have hz:=fM nU l k hlt
  simp only [nU,szL] at hz
  have c1:=aFb l[k].attrs (by omega)
  have hgl:((l.take k).map (dY .own)).length=k:=by simp;omega
  generalize (l.take k).map (dY .own)=g at *
  have W:=And.intro hk1 (And.intro hg (And.intro hlt hgl))
  refine we ?_
  all_goals refine hK1 _ ⟨(k+1,v+1),by simp only;omega,by simp only;omega⟩ (aN 5 (by simp [hps])) (by simp only;omega)
 ·have htk:l.take k=l:=List.take_of_length_le (by omega)
  rw [htk]
  have W:=hk1
  refine we ?_
  exact aM Tryz.results139
end Go.Proofs.YtaddkhdghlaalaaGreatDoor

set_option maxRecDepth 4000
set_option maxHeartbeats 4000000
namespace Go.Proofs.YtaddkhdghlaalaaGreatDoor
open Go.Aw
theorem bBm (s:Str) (k:Nat) (h:k < s.length):(aT s)[k]? =some [.int .u8 s[k].toNat]:=by
 simp [aT,h]
theorem aGl:∀s:Str,bytesOf (aT s)=some s
 |[]=>rfl
 |c::s=>by
  have ih:=aGl s
  simp only [aT,List.map_cons] at ih⊢
  simp only [bytesOf,ih,Option.map_some,Int.toNat_natCast]
  simp
@[simp] theorem bJe (f:Tg→Option Tg) (b:Bool) (l:Str):rtr f b (aT l)=aT l:=by
 induction l with
 |nil=>rfl
 |cons x l ih=>simp only [aT,List.map_cons,rtr,rtc,rt] at ih⊢;rw [ih]
def upTo (s:Str) (k:Nat):Str:=(s.take k).map uN++s.drop k
theorem aTc (s:Str) (k:Nat):(upTo s k).length=s.length:=by
 unfold upTo
 rw [List.length_append,List.length_map,List.length_take,List.length_drop];omega
theorem aS3 (s:Str) (k:Nat) (h:k < s.length):(upTo s k)[k]? =some s[k]:=by
 unfold upTo
 rw [List.getElem?_append_right (by rw [List.length_map,List.length_take];omega)]
 simp [show min k s.length=k by omega,List.getElem?_eq_getElem h]
theorem aTa (s:Str) (k:Nat) (h:k < s.length):(upTo s k).set k (uN s[k])=upTo s (k+1):=by
 unfold upTo
 have hl:((s.take k).map uN).length=k:=by simp;omega
 rw [List.set_append_right _ _ (by omega),hl,Nat.sub_self,List.drop_eq_getElem_cons h,List.set_cons_zero,List.take_succ_eq_append_getElem h,List.map_append]
 simp
theorem aZz (s:Str) (k:Nat) (h:k < s.length) (hm:uN s[k]=s[k]):upTo s (k+1)=upTo s k:=by
 rw [←aTa s k h,hm]
 have e:=aS3 s k h
 refine List.ext_getElem? fun i=> ?_
 rw [List.getElem?_set]
 split
 ·rename_i hi
  subst hi
  rw [if_pos (by rw [aTc];exact h)]
  exact e.symm
 ·rfl
theorem aSv (l:Str) (k:Nat) (c:UInt8):(aT l).set k [.int .u8 c.toNat]=aT (l.set k c):=by simp [aT,List.map_set]
theorem nZ [aB Tryz.prog] (s:Str) (hl:s.length≤1099511627776):Ok Tryz.prog 206 [.str s] (.str (s.map uN)):=by
 refine ent Tryz.mix Tryz.func206 Tryz.ntmps206 ?_
 have W:=trivial
 repeat' first|refine st ?_|(refine nx ?_;first|refine se ?_|refine so ?_|refine sb ?_)|(refine cx ?_;refine sc (fun hc=>?_) (fun hc=>?_)<;>try exact hc.elim)|(refine lx ?_;refine sp (fun hc=>?_) (fun hc=>?_)<;>try exact hc.elim)|refine sx ?_ ?_|refine sy ?_ ?_|fail
 refine aR (ι:={k:Nat // k≤s.length}) (fun t o i=>⟨aS t [(4,.int .i64 i.1)],[⟨true,false,1,1,aT (upTo s i.1)⟩]⟩)
  (fun i=>s.length - i.1) ⟨0,by simp⟩ (aO (by simp [upTo]) (by simp)) ?_
 rintro ⟨k,hk⟩ K1 hK1
 simp only [aS,List.set_cons_succ,List.set_cons_zero] at hK1⊢
 have hk1:=wk1 (k:=k) (by omega)
 by_cases hlt:k < s.length
 ·have hul:=aTc s k
  have hug:=aS3 s k hlt
  have hbl:=nE (upTo s k)
  have hg:(aT (upTo s k))[k]? =some [.int .u8 s[k].toNat]:=by
   rw [bBm _ _ (by omega)]
   rw [List.getElem?_eq_getElem (by omega)] at hug
   rw [Option.some.inj hug]
  have hlb:k < (aT (upTo s k)).length:=by omega
  have hs1:=aTa s k hlt
  have hsame:=aZz s k hlt
  by_cases h1:s[k]=91
  ·have h1i:((s[k].toNat:Nat):Int)=91:=by rw [h1];rfl
   have hset:(aT (upTo s k)).set k [.int .u8 60]=aT (upTo s (k+1)):=by
    rw [←hs1,←aSv];simp [uN,h1]
   have W:=And.intro hk1 (And.intro hg (And.intro hbl (And.intro hul (And.intro h1i hset))))
   have V:=And.intro hlb hlt
   repeat' first|refine st ?_|(refine nx ?_;first|refine se ?_|refine so ?_|refine sb ?_)|(refine cx ?_;refine sc (fun hc=>?_) (fun hc=>?_)<;>try exact hc.elim)|(refine lx ?_;refine sp (fun hc=>?_) (fun hc=>?_)<;>try exact hc.elim)|refine sx ?_ ?_|refine sy ?_ ?_|fail
   all_goals exact hK1 _ ⟨k+1,by omega⟩ aO (by simp only;omega)
  ·have h1i:¬((s[k].toNat:Nat):Int)=91:=fun h=>h1 (UInt8.toNat.inj (by exact_mod_cast h))
   by_cases h2:s[k]=93
   ·have h2i:((s[k].toNat:Nat):Int)=93:=by rw [h2];rfl
    have hset:(aT (upTo s k)).set k [.int .u8 62]=aT (upTo s (k+1)):=by
     rw [←hs1,←aSv];simp [uN,h2]
    have W:=And.intro hk1 (And.intro hg (And.intro hbl (And.intro hul (And.intro h1i (And.intro h2i hset)))))
    have V:=And.intro hlb hlt
    repeat' first|refine st ?_|(refine nx ?_;first|refine se ?_|refine so ?_|refine sb ?_)|(refine cx ?_;refine sc (fun hc=>?_) (fun hc=>?_)<;>try exact hc.elim)|(refine lx ?_;refine sp (fun hc=>?_) (fun hc=>?_)<;>try exact hc.elim)|refine sx ?_ ?_|refine sy ?_ ?_|fail
    all_goals exact hK1 _ ⟨k+1,by omega⟩ aO (by simp only;omega)
   ·have h2i:¬((s[k].toNat:Nat):Int)=93:=fun h=>h2 (UInt8.toNat.inj (by exact_mod_cast h))
    have hsm:=hsame (by simp [uN,h1,h2])
    have W:=And.intro hk1 (And.intro hg (And.intro hbl (And.intro hul (And.intro h1i h2i))))
    have V:=And.intro hlb hlt
    repeat' first|refine st ?_|(refine nx ?_;first|refine se ?_|refine so ?_|refine sb ?_)|(refine cx ?_;refine sc (fun hc=>?_) (fun hc=>?_)<;>try exact hc.elim)|(refine lx ?_;refine sp (fun hc=>?_) (fun hc=>?_)<;>try exact hc.elim)|refine sx ?_ ?_|refine sy ?_ ?_|fail
    all_goals exact hK1 _ ⟨k+1,by omega⟩ (aO (by simp [hsm]) (by simp)) (by simp only;omega)
 ·have hk2:k=s.length:=by omega
  have hup:upTo s k=s.map uN:=by simp [upTo,hk2]
  have hul:(s.map uN).length=s.length:=by simp
  have hbl:=nE (s.map uN)
  have hbo:=aGl (s.map uN)
  rw [hup]
  have hnk:¬k < s.length:=hlt
  have W:=And.intro hk1 (And.intro hbl (And.intro hul hbo))
  repeat' first|refine st ?_|(refine nx ?_;first|refine se ?_|refine so ?_|refine sb ?_)|(refine cx ?_;refine sc (fun hc=>?_) (fun hc=>?_)<;>try exact hc.elim)|(refine lx ?_;refine sp (fun hc=>?_) (fun hc=>?_)<;>try exact hc.elim)|refine sx ?_ ?_|refine sy ?_ ?_|fail
  exact aM Tryz.results206
def bM (b:aX) (n:Str):Int:=(((b.nodes.filter fun x=>decide (x.name=n)).length:Nat):Int)
theorem aY2 (b:aX) (n:Str) (k:Nat) (h:k < b.nodes.length):((b.nodes.take (k+1)).filter fun x=>decide (x.name=n)).length=((b.nodes.take k).filter fun x=>decide (x.name=n)).length+(if b.nodes[k].name=n then 1 else 0):=by
 rw [List.take_succ_eq_append_getElem h,List.filter_append,List.length_append]
 congr 1
 by_cases hn:b.nodes[k].name=n<;>simp [hn]
end Go.Proofs.YtaddkhdghlaalaaGreatDoor
