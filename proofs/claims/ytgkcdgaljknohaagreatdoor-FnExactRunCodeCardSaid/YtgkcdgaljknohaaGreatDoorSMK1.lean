/-
  Proved here: steps towards the statement of this claim, text SMK1.
  No condition beyond what each statement spells out.
-/
import Derived.Test.YtgkcdgaljknohaaGreatDoorYFacts
import Derived.Test.YtgkcdgaljknohaaGreatDoorF1
import Derived.WalkKit
import Derived.Defers
import Derived.Laws.Pointers
import Derived.Laws.LoneSync
import Derived.RegionTactic
import Derived.RegionCalls
import Derived.Laws.NewBlocks
import Derived.Lib.SliceRun
import Derived.Laws.IdiomStrings
set_option linter.all false
set_option maxRecDepth 100000
set_option maxHeartbeats 4000000
namespace Go.Proofs.YtgkcdgaljknohaaGreatDoor
open Go.Aw
theorem mk_disable (w:World):(callFunc 350 #[]).run Tryz.prog w= .ok (.value (.tuple #[])) w:=run_call_mark0 Tryz.func350 (by kernel_rfl) (by kernel_rfl) (by kernel_rfl) .disable (by kernel_rfl) w
theorem mk_enable (w:World):(callFunc 352 #[]).run Tryz.prog w= .ok (.value (.tuple #[])) w:=run_call_mark0 Tryz.func352 (by kernel_rfl) (by kernel_rfl) (by kernel_rfl) .enable (by kernel_rfl) w
theorem mk_acquire (a:Addr) (w:World):(callFunc 353 #[.pointer (some a)]).run Tryz.prog w= .ok (.value (.tuple #[])) w:=run_call_marked Tryz.func353 (by kernel_rfl) (by kernel_rfl) (by kernel_rfl) .acquire (by kernel_rfl) a w
theorem mk_release (a:Addr) (w:World):(callFunc 355 #[.pointer (some a)]).run Tryz.prog w= .ok (.value (.tuple #[])) w:=run_call_marked Tryz.func355 (by kernel_rfl) (by kernel_rfl) (by kernel_rfl) .releaseMerge (by kernel_rfl) a w
theorem mk_store (a:Addr) (x:Value) (u:FrameMode) (w:World) (hc:w.cell? a=some x) (hz:w.frozen? a=false):
  CallsD Tryz.prog 324 #[.pointer (some a),.bool true] u w fun e u' w'=>u'=u∧(e= .returned (.tuple #[])∧w'=w.drew.setCell a (.int .u32 1)):=by
 have hc':w.drew.cell? a=some x:=by go_simp
 have hz':w.drew.frozen? a=false:=by go_simp
 have hst:=run_call_store (P:=Tryz.prog) Tryz.func338 (by kernel_rfl) (by kernel_rfl) (by kernel_rfl) (by kernel_rfl) (k:= .u32) (y:=1) hc' hz'
 go_enter_d Tryz.func324,Tryz.ntmps324
 go_wp2
 go_region_calls
 all_goals (go_end0;exact ⟨rfl,rfl⟩)
theorem mk_unlock (a:Addr) (u:FrameMode) (w:World) (hc:w.cell? a=some (.int .i32 1)) (hz:w.frozen? a=false):
  CallsD Tryz.prog 323 #[.pointer (some a)] u w fun e u' w'=>u'=u∧(e= .returned (.tuple #[])∧w'=w.setCell a (.int .i32 0)):=by
 have hd:=mk_disable
 have he:=mk_enable
 have hr:=mk_release
 have hadd:=run_call_add (P:=Tryz.prog) Tryz.func356 (by kernel_rfl) (by kernel_rfl) (by kernel_rfl) .i32 (by kernel_rfl) (y:= -1) (s:=0) hc hz (by simp [go_sem];rfl)
 have hcv:=run_convert_to_unsafe (P:=Tryz.prog) (src:=371) (dst:=297) Tryz.underlying371 Tryz.underlying297 (by kernel_rfl) hc
 go_enter_d Tryz.func323,Tryz.ntmps323
 go_wp2
 go_end0
 go_wp2
 go_end0
 exact ⟨rfl,rfl⟩
theorem mk_lock (a:Addr) (w:World) (hc:w.cell? a=some (.int .i32 0)) (hz:w.frozen? a=false):
  Calls Tryz.prog 322 #[.pointer (some a)] w fun e w'=>e= .returned (.tuple #[])∧w'=w.setCell a (.int .i32 1):=by
 have hd:=mk_disable
 have he:=mk_enable
 have ha:=mk_acquire
 have hcas:=run_call_cas_hit (P:=Tryz.prog) Tryz.func351 (by kernel_rfl) (by kernel_rfl) (by kernel_rfl) .i32 (by kernel_rfl) (y:=1) hc hz
 have hc':(w.setCell a (.int .i32 1)).cell? a=some (.int .i32 1):=World.cell?_setCell_same w a _ hc
 have hcv:=run_convert_to_unsafe (P:=Tryz.prog) (src:=371) (dst:=297) Tryz.underlying371 Tryz.underlying297 (by kernel_rfl) hc'
 go_enter Tryz.func322,Tryz.ntmps322
 go_wp2
 first|go_end0|(simp only [Exit.inBlock,Exit.then];refine bodyPost_ret (results_none rfl _ _ _) rfl ?_)|refine bodyPost_ret (results_none rfl _ _ _) rfl ?_
 go_wp2
 go_end0
 exact ⟨rfl,rfl⟩
end Go.Proofs.YtgkcdgaljknohaaGreatDoor

set_option maxRecDepth 100000
set_option maxHeartbeats 4000000
namespace Go.Proofs.YtgkcdgaljknohaaGreatDoor
open Go.Aw Go.RowKit Go.Lib
def tabC (n:Nat):Nat:=if n=91 then 60 else if n=93 then 62 else n
def markC (c:UInt8):UInt8:=if c=91 then 60 else if c=93 then 62 else c
theorem markC_toNat (c:UInt8):(markC c).toNat=tabC c.toNat:=by
 unfold markC tabC
 by_cases h1:c=91
 ·subst h1;rfl
 ·have h1':¬c.toNat=91:=fun h=>h1 (UInt8.toNat.inj h)
  rw [if_neg h1,if_neg h1']
  by_cases h2:c=93
  ·subst h2;rfl
  ·have h2':¬c.toNat=93:=fun h=>h2 (UInt8.toNat.inj h)
   rw [if_neg h2,if_neg h2']
structure Ext (w w' : World) : Prop where
  size : w.heap.size ≤ w'.heap.size
  old : ∀ b, b < w.heap.size → w'.heap[b]? = w.heap[b]?
  same : Same w w'
theorem Ext.refl (w:World):Ext w w:=⟨Nat.le_refl _,fun _ _=>rfl,Same.rfl⟩
theorem Ext.trans {a b c:World} (h:Ext a b) (k:Ext b c):Ext a c:=⟨Nat.le_trans h.size k.size,fun x hx=>(k.old x (Nat.lt_of_lt_of_le hx h.size)).trans (h.old x hx),h.same.trans k.same⟩
theorem Ext.cell {w w':World} (h:Ext w w') {b:Nat} (hb:b < w.heap.size) (j:Nat):w'.cell? ⟨b,j,none⟩=w.cell? ⟨b,j,none⟩:=by simp [World.cell?,h.old b hb]
theorem Ext.frozen {w w':World} (h:Ext w w') {b:Nat} (hb:b < w.heap.size) (j:Nat):w'.frozen? ⟨b,j,none⟩=w.frozen? ⟨b,j,none⟩:=by simp [World.frozen?,h.old b hb]
theorem setCell_heap (w:World) (b o:Nat) (v:Value) {k:Nat} (h:k≠b):(w.setCell ⟨b,o,none⟩ v).heap[k]? =w.heap[k]?:=by
 have:=Go.Aw.heap_setCells b k h [v] o w
 simpa [World.setCells] using this
theorem Ext.set {w w':World} (h:Ext w w') {b:Nat} (hb:w.heap.size≤b) (o:Nat) (v:Value):Ext w (w'.setCell ⟨b,o,none⟩ v):=by
 have h1:=Go.Aw.size_setCells b [v] o w'
 have h2:=Go.Aw.same_setCells b [v] o w'
 simp only [World.setCells] at h1 h2
 exact ⟨by rw [h1];exact h.size,fun x hx=>(setCell_heap w' b o v (by omega)).trans (h.old x hx),h.same.trans h2⟩
def Buf (w wr:World) (s:ByteArray) (k:Nat) (v:Value):Prop:=
 (v= .slice none 0 0∧∀j (h:j < s.size),j < k→markC s[j]=s[j])∨
 (∃B cap:Nat,v= .slice (some ⟨B,0,none⟩) s.size cap∧w.heap.size≤B∧∀j (h:j < s.size),wr.cell? ⟨B,j,none⟩=some (.int .u8 ((if j < k then markC s[j] else s[j]).toNat:Nat))∧wr.frozen? ⟨B,j,none⟩=false)
theorem mk_bytes (w:World) (nb:Nat) (s:ByteArray) (hs:s.size≤1099511627776) (hnb:nb < w.heap.size) (htab:∀j:Nat,j < 256→w.cell? ⟨nb,j,none⟩=some (.int .u8 (tabC j:Nat))):
  Calls Tryz.prog 394 #[.pointer (some ⟨nb,0,none⟩),.string s] w fun e w'=>e= .returned (.string ⟨(s.data.toList.map markC).toArray⟩)∧Ext w w':=by
 have qT:∀(w:World) (a:Option Addr) (n c n' c':Nat),(binOp .eql 216 (.slice a n c) (.slice none n' c')).run Tryz.prog w= .ok (.bool a.isNone) w:=fun w a n c n' c'=>Lib.run_eql_slice_nil w _ _ a n c n' c' Tryz.underlying216
 go_enter Tryz.func394,Tryz.ntmps394
 go_wp2
 go_loopw [5,6] (fun v i wr=>∃k:Nat,k≤s.size∧i= .int .i64 k∧Ext w wr∧Buf w wr s k v) (fun _ i _=>s.size - (intOf i).toNat)
 case atStart=>exact ⟨0,by omega,rfl,Ext.refl w,.inl ⟨rfl,fun j h h0=>absurd h0 (by omega)⟩⟩
 case round=>
  obtain ⟨k,hk,rfl,hx,hbuf⟩:=hrel
  by_cases hlt:k < s.size
  ·have hi:(0:Int)≤(k:Int)∧(k:Int) < (s.size:Int):=by omega
   have hc:∀j:Nat,j < 256→wr.cell? ⟨nb,j,none⟩=some (.int .u8 (tabC j:Nat)):=fun j hj=>(hx.cell hnb j).trans (htab j hj)
   have hcb:(0:Int)≤((s[k].toNat:Nat):Int)∧((s[k].toNat:Nat):Int) < 256:=⟨by omega,by have:=UInt8.toNat_lt s[k];omega⟩
   have hck:=hc s[k].toNat (UInt8.toNat_lt s[k])
   by_cases hne:markC s[k]=s[k]
   ·have hne2:((tabC s[k].toNat:Nat):Int)=((s[k].toNat:Nat):Int):=by rw [←markC_toNat,hne]
    have hb2:Buf w wr s (k+1) u5:=by
     rcases hbuf with ⟨h1,h2⟩|⟨B,cap,h1,h2,h3⟩
     ·refine .inl ⟨h1,fun j hj hj2=> ?_⟩
      rcases Nat.lt_or_ge j k with h|h
      ·exact h2 j hj h
      ·obtain rfl:j=k:=by omega
       exact hne
     ·refine .inr ⟨B,cap,h1,h2,fun j hj=>⟨?_,(h3 j hj).2⟩⟩
      rw [(h3 j hj).1]
      rcases Nat.lt_trichotomy j k with h|h|h
      ·rw [if_pos h,if_pos (by omega)]
      ·subst h;rw [if_neg (by omega),if_pos (by omega),hne]
      ·rw [if_neg (by omega),if_neg (by omega)]
    clear hbuf htab hc
    go_wp2
    exact ⟨⟨k+1,by omega,by simp,hx,hb2⟩,by simp [intOf]<;>omega⟩
   ·have hne2:¬((tabC s[k].toNat:Nat):Int)=((s[k].toNat:Nat):Int):=fun h=>hne (by
     have h2:tabC s[k].toNat=s[k].toNat:=by exact_mod_cast h
     rw [←markC_toNat] at h2
     exact UInt8.toNat.inj h2)
    rcases hbuf with ⟨rfl,h2⟩|⟨B,cap,rfl,h2,h3⟩
    ·have hcv:=Lib.run_convert_string_bytes (P:=Tryz.prog) wr 9 216 5 s Tryz.underlying9 Tryz.underlying216 Tryz.underlying5
     have hnew:=Lib.bytesWorld_at_new wr 5 s
     have hbs:=Lib.bytesWorld_size wr 5 s
     have hold:=Lib.bytesWorld_at_old wr 5 s
     have hcell:=Lib.bytesWorld_cell wr 5 s
     have hsm:Same wr (Lib.bytesWorld wr 5 s):=⟨rfl,rfl,rfl⟩
     have hcs:s.size≤(Lib.bytesCells wr 5 s).size:=by simp [Lib.bytesCells]
     generalize Lib.bytesCells wr 5 s=C1 at *
     generalize Lib.bytesWorld wr 5 s=W1 at *
     have hx1:Ext w W1:=hx.trans ⟨by omega,hold,hsm⟩
     have hck1:W1.cell? ⟨nb,s[k].toNat,none⟩=some (.int .u8 (tabC s[k].toNat:Nat)):=(hx1.cell hnb _).trans (htab _ (UInt8.toNat_lt s[k]))
     have hbj:∀j (h:j < s.size),W1.cell? ⟨wr.heap.size,j,none⟩=some (.int .u8 (s[j].toNat:Nat)):=fun j hj=>by
      rw [hcell j hj]
      have:s.data.toList.getD j 0=s[j]:=by
       rw [List.getD_eq_getElem?_getD,List.getElem?_eq_getElem (by simpa using hj)]
       rfl
      rw [this]
     have hbk:=hbj k hlt
     have hbz:∀j,j < s.size→W1.frozen? ⟨wr.heap.size,j,none⟩=false:=fun j hj=>by
      simp [World.frozen?,hnew]
      have:=hcs
      omega
     have hbzk:=hbz k hlt
     have hfin:Ext w (W1.setCell ⟨wr.heap.size,k,none⟩ (.int .u8 (tabC s[k].toNat:Nat)))∧Buf w (W1.setCell ⟨wr.heap.size,k,none⟩ (.int .u8 (tabC s[k].toNat:Nat))) s (k+1) (.slice (some ⟨wr.heap.size,0,none⟩) s.size (grownCap wr s.size 0 5)):=by
      refine ⟨hx1.set hx.size k _,.inr ⟨_,_,rfl,hx.size,fun j hj=>⟨?_,by simpa using hbz j hj⟩⟩⟩
      by_cases hjk:j=k
      ·subst hjk
       rw [World.cell?_setCell_same _ _ _ hbk,if_pos (by omega),markC_toNat]
      ·rw [World.cell?_setCell_other _ _ _ _ (by simp<;>omega),hbj j hj]
       by_cases hj2:j < k+1
       ·rw [if_pos hj2,h2 j hj (by omega)]
       ·rw [if_neg hj2]
     clear htab hc hold hnew hbs hsm hcell hcs hbj hbz h2
     go_wp2
     exact ⟨⟨k+1,by omega,by simp,hfin.1,hfin.2⟩,by simp [intOf]<;>omega⟩
    ·have hbk:=(h3 k hlt).1
     have hbz:=(h3 k hlt).2
     have hfin:Ext w (wr.setCell ⟨B,k,none⟩ (.int .u8 (tabC s[k].toNat:Nat)))∧Buf w (wr.setCell ⟨B,k,none⟩ (.int .u8 (tabC s[k].toNat:Nat))) s (k+1) (.slice (some ⟨B,0,none⟩) s.size cap):=by
      refine ⟨hx.set h2 k _,.inr ⟨_,_,rfl,h2,fun j hj=>⟨?_,by simpa using (h3 j hj).2⟩⟩⟩
      by_cases hjk:j=k
      ·subst hjk
       rw [World.cell?_setCell_same _ _ _ hbk,if_pos (by omega),markC_toNat]
      ·rw [World.cell?_setCell_other _ _ _ _ (by simp<;>omega),(h3 j hj).1]
       by_cases hj2:j < k
       ·rw [if_pos hj2,if_pos (by omega)]
       ·rw [if_neg hj2,if_neg (by omega)]
     clear htab hc h3
     go_wp2
     exact ⟨⟨k+1,by omega,by simp,hfin.1,hfin.2⟩,by simp [intOf]<;>omega⟩
  ·have hki:k=s.size:=by omega
   have hi:¬(k:Int) < (s.size:Int):=by omega
   rcases hbuf with ⟨rfl,h2⟩|⟨B,cap,rfl,h2,h3⟩
   ·have h4:s.data.toList.map markC=s.data.toList:=by
     refine List.ext_getElem (by simp) fun j h5 h6=> ?_
     have h7:j < s.size:=by simpa using h6
     rw [List.getElem_map]
     exact h2 j h7 (by omega)
    clear h2
    go_wp2
    refine bodyPost_ret (v:= .string s) (by simp [results,Tryz.results394,go_sem]) rfl ?_
    exact ⟨by first|rfl|(rw [h4];done),hx⟩
   ·have hback:(convert 216 9 (.slice (some ⟨B,0,none⟩) s.size cap)).run Tryz.prog wr= .ok (.string ⟨(s.data.toList.map markC).toArray⟩) wr:=by
     have h4:=run_convert_bytes_back (P:=Tryz.prog) wr 216 9 5 ⟨B,0,none⟩ cap (s.data.toList.map markC) Tryz.underlying216 Tryz.underlying5 Tryz.underlying9 (fun j hj=>by
      have h7:j < s.size:=by simpa using hj
      have h5:=(h3 j h7).1
      rw [if_pos (by omega)] at h5
      have e:(⟨B,0,none⟩:Addr).add j=⟨B,j,none⟩:=by
       unfold Addr.add
       split
       ·rename_i h0;subst h0;rfl
       ·simp
      rw [e,List.getElem_map]
      exact h5)
     simpa using h4
    clear h3
    go_wp2
    go_ret
    exact ⟨rfl,hx⟩
end Go.Proofs.YtgkcdgaljknohaaGreatDoor
