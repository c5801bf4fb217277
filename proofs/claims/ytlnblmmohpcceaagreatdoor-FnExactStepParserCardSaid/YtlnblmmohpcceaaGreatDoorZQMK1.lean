/- Proved here: steps towards the statement of this claim. No condition. -/
import Derived.Test.YtlnblmmohpcceaaGreatDoorZYFacts
import Derived.Lib.SliceRun
import Derived.Deep.WholeRow
set_option linter.all false
set_option maxRecDepth 100000
set_option maxHeartbeats 4000000
namespace Go.Proofs.YtlnblmmohpcceaaGreatDoor
open Go.Aw Proofs.Tryz List IntKind
theorem MU (w:World):(callFunc 364 #[]).run prog w= .ok (.value (.tuple #[])) w:=run_call_mark0 func364 (by kernel_rfl) (by kernel_rfl) (by kernel_rfl) .disable (by kernel_rfl) w
theorem QL (w:World):(callFunc 366 #[]).run prog w= .ok (.value (.tuple #[])) w:=run_call_mark0 func366 (by kernel_rfl) (by kernel_rfl) (by kernel_rfl) .enable (by kernel_rfl) w
theorem XO (a:Addr) (w:World):(callFunc 367 #[.pointer (some a)]).run prog w= .ok (.value (.tuple #[])) w:=run_call_marked func367 (by kernel_rfl) (by kernel_rfl) (by kernel_rfl) .acquire (by kernel_rfl) a w
theorem XP (a:Addr) (w:World):(callFunc 369 #[.pointer (some a)]).run prog w= .ok (.value (.tuple #[])) w:=run_call_marked func369 (by kernel_rfl) (by kernel_rfl) (by kernel_rfl) .releaseMerge (by kernel_rfl) a w
theorem E8 (a:Addr) (x:Value) (u:FrameMode) (w:World) (hc:w.cell? a=some x) (hz:w.frozen? a=false):
  CallsD prog 341 #[.pointer (some a),.bool true] u w fun e u' w'=>u'=u/\(e= .returned (.tuple #[])/\w'=w.drew.setCell a (.int .u32 1)):=by
 have hc':w.drew.cell? a=some x:=by go_simp
 have hz':w.drew.frozen? a=false:=by go_simp
 have hst:=run_call_store (P:=prog) func353 (by kernel_rfl) (by kernel_rfl) (by kernel_rfl) (by kernel_rfl) (k:= .u32) (y:=1) hc' hz'
 go_enter_d func341,ntmps341
 go_wp2
 go_region_calls
 all_goals (go_end0;exact ⟨rfl,rfl⟩)
theorem gm (a:Addr) (u:FrameMode) (w:World) (hc:w.cell? a=some (.int .i32 1)) (hz:w.frozen? a=false):
  CallsD prog 340 #[.pointer (some a)] u w fun e u' w'=>u'=u/\(e= .returned (.tuple #[])/\w'=w.setCell a (.int .i32 0)):=by
 have hd:=MU
 have he:=QL
 have hr:=XP
 have hadd:=run_call_add (P:=prog) func370 (by kernel_rfl) (by kernel_rfl) (by kernel_rfl) .i32 (by kernel_rfl) (y:= -1) (s:=0) hc hz (by simp [go_sem];rfl)
 have hcv:=run_convert_to_unsafe (P:=prog) (src:=385) (dst:=294) Tryz.underlying385 Tryz.underlying294 (by kernel_rfl) hc
 go_enter_d func340,ntmps340
 go_wp2
 go_end0
 go_wp2
 go_end0
 exact ⟨rfl,rfl⟩
theorem aCq (a:Addr) (w:World) (hc:w.cell? a=some (.int .i32 0)) (hz:w.frozen? a=false):
  Calls prog 339 #[.pointer (some a)] w fun e w'=>e= .returned (.tuple #[])/\w'=w.setCell a (.int .i32 1):=by
 have hd:=MU
 have he:=QL
 have ha:=XO
 have hcas:=run_call_cas_hit (P:=prog) func365 (by kernel_rfl) (by kernel_rfl) (by kernel_rfl) .i32 (by kernel_rfl) (y:=1) hc hz
 have hc':(w.setCell a (.int .i32 1)).cell? a=some (.int .i32 1):=World.cell?_setCell_same w a _ hc
 have hcv:=run_convert_to_unsafe (P:=prog) (src:=385) (dst:=294) Tryz.underlying385 Tryz.underlying294 (by kernel_rfl) hc'
 go_enter func339,ntmps339
 go_wp2
 first|go_end0|(simp only [Exit.inBlock,Exit.then];refine bodyPost_ret (results_none rfl _ _ _) rfl ?_)|refine bodyPost_ret (results_none rfl _ _ _) rfl ?_
 go_wp2
 go_end0
 exact ⟨rfl,rfl⟩
end Go.Proofs.YtlnblmmohpcceaaGreatDoor

set_option maxRecDepth 100000
set_option maxHeartbeats 4000000
namespace Go.Proofs.YtlnblmmohpcceaaGreatDoor
open Go.Aw Go.RowKit Go.Lib Proofs.Tryz List IntKind
def BK (n:Nat):Nat:=if n=91 then 60 else if n=93 then 62 else n
def oZ (c:UInt8):UInt8:=if c=91 then 60 else if c=93 then 62 else c
theorem Aa (c:UInt8):(oZ c).toNat=BK c.toNat:=by
 unfold oZ BK
 by_cases h1:c=91
 ·subst h1;rfl
 ·have h1':¬c.toNat=91:=fun h=>h1 (UInt8.toNat.inj h)
  rw [if_neg h1,if_neg h1']
  by_cases h2:c=93
  ·subst h2;rfl
  ·have h2':¬c.toNat=93:=fun h=>h2 (UInt8.toNat.inj h)
   rw [if_neg h2,if_neg h2']
structure Ext (w w' : World) : Prop where
  size : w.heap.size <= w'.heap.size
  Px : ∀ b, b < w.heap.size -> w'.heap[b]? = w.heap[b]?
  same : lU w w'
theorem Ext.refl (w:World):Ext w w:=⟨Nat.le_refl _,fun _ _=>rfl,lU.rfl⟩
theorem Ext.trans {a b c:World} (h:Ext a b) (k:Ext b c):Ext a c:=⟨Nat.le_trans h.size k.size,fun x hx=>(k.Px x (Nat.lt_of_lt_of_le hx h.size)).trans (h.Px x hx),h.same.trans k.same⟩
theorem Ext.cell {w w':World} (h:Ext w w') {b:Nat} (hb:b < w.heap.size) (j:Nat):w'.cell? ⟨b,j,none⟩=w.cell? ⟨b,j,none⟩:=by simp [World.cell?,h.Px b hb]
theorem Ext.frozen {w w':World} (h:Ext w w') {b:Nat} (hb:b < w.heap.size) (j:Nat):w'.frozen? ⟨b,j,none⟩=w.frozen? ⟨b,j,none⟩:=by simp [World.frozen?,h.Px b hb]
theorem rM (w:World) (b o:Nat) (v:Value) {k:Nat} (h:k≠b):(w.setCell ⟨b,o,none⟩ v).heap[k]? =w.heap[k]?:=by
 have:=Go.Aw.jS b k h [v] o w
 simpa [World.setCells] using this
theorem Ext.set {w w':World} (h:Ext w w') {b:Nat} (hb:w.heap.size<=b) (o:Nat) (v:Value):Ext w (w'.setCell ⟨b,o,none⟩ v):=by
 have h1:=Go.Aw.fH b [v] o w'
 have h2:=Go.Aw.iY b [v] o w'
 simp only [World.setCells] at h1 h2
 exact ⟨by rw [h1];exact h.size,fun x hx=>(rM w' b o v (by omega)).trans (h.Px x hx),h.same.trans h2⟩
def Buf (w wr:World) (s:ByteArray) (k:Nat) (v:Value):Prop:=
 (v= .slice none 0 0/\∀j (h:j < s.size),j < k->oZ s[j]=s[j])\/
 (∃B cap:Nat,v= .slice (some ⟨B,0,none⟩) s.size cap/\w.heap.size<=B/\∀j (h:j < s.size),wr.cell? ⟨B,j,none⟩=some (.int .u8 ((if j < k then oZ s[j] else s[j]).toNat:Nat))/\wr.frozen? ⟨B,j,none⟩=false)
theorem E9 (w:World) (nb:Nat) (s:ByteArray) (hs:s.size<=1099511627776) (hnb:nb < w.heap.size) (htab:∀j:Nat,j < 256->w.cell? ⟨nb,j,none⟩=some (.int .u8 (BK j:Nat))):
  Calls prog 408 #[.pointer (some ⟨nb,0,none⟩),.string s] w fun e w'=>e= .returned (.string ⟨(s.data.toList.map oZ).toArray⟩)/\Ext w w':=by
 have qT:∀(w:World) (a:Option Addr) (n c n' c':Nat),(binOp .eql 22 (.slice a n c) (.slice none n' c')).run prog w= .ok (.bool a.isNone) w:=fun w a n c n' c'=>Lib.run_eql_slice_nil w _ _ a n c n' c' Tryz.underlying22
 go_enter func408,ntmps408
 go_wp2
 go_loopw [5,6] (fun v i wr=>∃k:Nat,k<=s.size/\i= .int .i64 k/\Ext w wr/\Buf w wr s k v) (fun _ i _=>s.size - (intOf i).toNat)
 case atStart=>exact ⟨0,by omega,rfl,Ext.refl w,.inl ⟨rfl,fun j h h0=>absurd h0 (by omega)⟩⟩
 case round=>
  obtain ⟨k,hk,rfl,hx,hbuf⟩:=hrel
  by_cases hlt:k < s.size
  ·have hi:(0:Int)<=(k:Int)/\(k:Int) < (s.size:Int):=by omega
   have hc:∀j:Nat,j < 256->wr.cell? ⟨nb,j,none⟩=some (.int .u8 (BK j:Nat)):=fun j hj=>(hx.cell hnb j).trans (htab j hj)
   have hcb:(0:Int)<=((s[k].toNat:Nat):Int)/\((s[k].toNat:Nat):Int) < 256:=⟨by omega,by have:=UInt8.toNat_lt s[k];omega⟩
   have hck:=hc s[k].toNat (UInt8.toNat_lt s[k])
   by_cases hne:oZ s[k]=s[k]
   ·have hne2:((BK s[k].toNat:Nat):Int)=((s[k].toNat:Nat):Int):=by rw [<-Aa,hne]
    have hb2:Buf w wr s (k+1) u5:=by
     rcases hbuf with ⟨h1,h2⟩|⟨B,cap,h1,h2,h3⟩
     ·refine .inl ⟨h1,fun j hj hj2=> ?_⟩
      rcases Nat.lt_or_ge j k with h|h
      ·exact h2 j hj h
      ·obtain rfl:j=k:=by omega
       exact hne
     ·refine .inr ⟨B,cap,h1,h2,fun j hj=>⟨?_,(h3 j hj).2⟩⟩
      rw [(h3 j hj).1]
      rcases Nat.lt_trichotomy j k with h|h|h
      ·rw [if_pos h,if_pos (by omega)]
      ·subst h;rw [if_neg (by omega),if_pos (by omega),hne]
      ·rw [if_neg (by omega),if_neg (by omega)]
    clear hbuf htab hc
    go_wp2
    exact ⟨⟨k+1,by omega,by simp,hx,hb2⟩,by simp [intOf]<;>omega⟩
   ·have hne2:¬((BK s[k].toNat:Nat):Int)=((s[k].toNat:Nat):Int):=fun h=>hne (by
     have h2:BK s[k].toNat=s[k].toNat:=by exact_mod_cast h
     rw [<-Aa] at h2
     exact UInt8.toNat.inj h2)
    rcases hbuf with ⟨rfl,h2⟩|⟨B,cap,rfl,h2,h3⟩
    ·have hcv:=Lib.run_convert_string_bytes (P:=prog) wr 9 22 5 s Tryz.underlying9 Tryz.underlying22 Tryz.underlying5
     have hnew:=Lib.bytesWorld_at_new wr 5 s
     have hbs:=Lib.bytesWorld_size wr 5 s
     have hold:=Lib.bytesWorld_at_old wr 5 s
     have hcell:=Lib.bytesWorld_cell wr 5 s
     have hsm:lU wr (Lib.bytesWorld wr 5 s):=⟨rfl,rfl,rfl⟩
     have hcs:s.size<=(Lib.bytesCells wr 5 s).size:=by simp [Lib.bytesCells]
     generalize Lib.bytesCells wr 5 s=C1 at *
     generalize Lib.bytesWorld wr 5 s=W1 at *
     have hx1:Ext w W1:=hx.trans ⟨by omega,hold,hsm⟩
     have aTy:W1.cell? ⟨nb,s[k].toNat,none⟩=some (.int .u8 (BK s[k].toNat:Nat)):=(hx1.cell hnb _).trans (htab _ (UInt8.toNat_lt s[k]))
     have hbj:∀j (h:j < s.size),W1.cell? ⟨wr.heap.size,j,none⟩=some (.int .u8 (s[j].toNat:Nat)):=fun j hj=>by
      rw [hcell j hj]
      have:s.data.toList.getD j 0=s[j]:=by
       rw [getD_eq_getElem?_getD,getElem?_eq_getElem (by simpa using hj)]
       rfl
      rw [this]
     have hbk:=hbj k hlt
     have hbz:∀j,j < s.size->W1.frozen? ⟨wr.heap.size,j,none⟩=false:=fun j hj=>by
      simp [World.frozen?,hnew]
      have:=hcs
      omega
     have aTz:=hbz k hlt
     have hfin:Ext w (W1.setCell ⟨wr.heap.size,k,none⟩ (.int .u8 (BK s[k].toNat:Nat)))/\Buf w (W1.setCell ⟨wr.heap.size,k,none⟩ (.int .u8 (BK s[k].toNat:Nat))) s (k+1) (.slice (some ⟨wr.heap.size,0,none⟩) s.size (grownCap wr s.size 0 5)):=by
      refine ⟨hx1.set hx.size k _,.inr ⟨_,_,rfl,hx.size,fun j hj=>⟨?_,by simpa using hbz j hj⟩⟩⟩
      by_cases hjk:j=k
      ·subst hjk
       rw [World.cell?_setCell_same _ _ _ hbk,if_pos (by omega),Aa]
      ·rw [World.cell?_setCell_other _ _ _ _ (by simp<;>omega),hbj j hj]
       by_cases hj2:j < k+1
       ·rw [if_pos hj2,h2 j hj (by omega)]
       ·rw [if_neg hj2]
     clear htab hc hold hnew hbs hsm hcell hcs hbj hbz h2
     go_wp2
     exact ⟨⟨k+1,by omega,by simp,hfin.1,hfin.2⟩,by simp [intOf]<;>omega⟩
    ·have hbk:=(h3 k hlt).1
     have hbz:=(h3 k hlt).2
     have hfin:Ext w (wr.setCell ⟨B,k,none⟩ (.int .u8 (BK s[k].toNat:Nat)))/\Buf w (wr.setCell ⟨B,k,none⟩ (.int .u8 (BK s[k].toNat:Nat))) s (k+1) (.slice (some ⟨B,0,none⟩) s.size cap):=by
      refine ⟨hx.set h2 k _,.inr ⟨_,_,rfl,h2,fun j hj=>⟨?_,by simpa using (h3 j hj).2⟩⟩⟩
      by_cases hjk:j=k
      ·subst hjk
       rw [World.cell?_setCell_same _ _ _ hbk,if_pos (by omega),Aa]
      ·rw [World.cell?_setCell_other _ _ _ _ (by simp<;>omega),(h3 j hj).1]
       by_cases hj2:j < k
       ·rw [if_pos hj2,if_pos (by omega)]
       ·rw [if_neg hj2,if_neg (by omega)]
     clear htab hc h3
     go_wp2
     exact ⟨⟨k+1,by omega,by simp,hfin.1,hfin.2⟩,by simp [intOf]<;>omega⟩
  ·have hki:k=s.size:=by omega
   have hi:¬(k:Int) < (s.size:Int):=by omega
   rcases hbuf with ⟨rfl,h2⟩|⟨B,cap,rfl,h2,h3⟩
   ·have h4:s.data.toList.map oZ=s.data.toList:=by
     refine ext_getElem (by simp) fun j h5 h6=> ?_
     have h7:j < s.size:=by simpa using h6
     rw [getElem_map]
     exact h2 j h7 (by omega)
    clear h2
    go_wp2
    refine bodyPost_ret (v:= .string s) (by simp [results,results408,go_sem]) rfl ?_
    exact ⟨by first|rfl|(rw [h4];done),hx⟩
   ·have hback:(convert 22 9 (.slice (some ⟨B,0,none⟩) s.size cap)).run prog wr= .ok (.string ⟨(s.data.toList.map oZ).toArray⟩) wr:=by
     have h4:=run_convert_bytes_back (P:=prog) wr 22 9 5 ⟨B,0,none⟩ cap (s.data.toList.map oZ) Tryz.underlying22 Tryz.underlying5 Tryz.underlying9 (fun j hj=>by
      have h7:j < s.size:=by simpa using hj
      have h5:=(h3 j h7).1
      rw [if_pos (by omega)] at h5
      have e:(⟨B,0,none⟩:Addr).add j=⟨B,j,none⟩:=by
       unfold Addr.add
       split
       ·rename_i h0;subst h0;rfl
       ·simp
      rw [e,getElem_map]
      exact h5)
     simpa using h4
    clear h3
    go_wp2
    go_ret
    exact ⟨rfl,hx⟩
end Go.Proofs.YtlnblmmohpcceaaGreatDoor

set_option maxRecDepth 100000
set_option maxHeartbeats 4000000
namespace Go.Proofs.YtlnblmmohpcceaaGreatDoor
open Go.Aw Go.RowKit Go.Lib Proofs.Tryz List IntKind
def mkPairs:List Value:=[.string ⟨#[91]⟩,.string ⟨#[60]⟩,.string ⟨#[93]⟩,.string ⟨#[62]⟩]
def XQ (q j:Nat):Nat:=if 2<=q/\j=91 then 60 else if 1<=q/\j=93 then 62 else j
theorem F3 (w:World) (rb sb sc:Nat) (hl:w.cell? ⟨rb,4,none⟩=some (.slice (some ⟨sb,0,none⟩) 4 sc)) (hc:bD w sb 0 mkPairs):
  Calls prog 329 #[.pointer (some ⟨rb,0,none⟩)] w fun e w'=>∃nb,e= .returned (.iface 346 (.pointer (some ⟨nb,0,none⟩)))/\w.heap.size<=nb/\nb < w'.heap.size/\(∀j:Nat,j < 256->w'.cell? ⟨nb,j,none⟩=some (.int .u8 (BK j:Nat)))/\Ext w w':=by
 have h0:w.cell? ⟨sb,0,none⟩=some (.string ⟨#[91]⟩):=hc 0 _ rfl
 have h1:w.cell? ⟨sb,1,none⟩=some (.string ⟨#[60]⟩):=hc 1 _ rfl
 have h2:w.cell? ⟨sb,2,none⟩=some (.string ⟨#[93]⟩):=hc 2 _ rfl
 have h3:w.cell? ⟨sb,3,none⟩=some (.string ⟨#[62]⟩):=hc 3 _ rfl
 go_enter func329,ntmps329
 go_wp2
 go_loopw [4,5] (fun a i wr=>w=wr/\a= .bool true/\∃k:Nat,k<=2/\i= .int .i64 ((2 * k:Nat):Int)) (fun _ i _=>4 - (intOf i).toNat)
 case atStart=>exact ⟨rfl,rfl,0,by omega,rfl⟩
 case round=>
  obtain ⟨rfl,rfl,k,hk,rfl⟩:=hrel
  have hk3:k=0\/k=1\/k=2:=by omega
  rcases hk3 with rfl|rfl|rfl
  ·go_wp2
   exact ⟨⟨trivial,rfl,1,by omega,rfl⟩,by simp [intOf]⟩
  ·go_wp2
   exact ⟨⟨trivial,rfl,2,by omega,rfl⟩,by simp [intOf]⟩
  ·have hst:=run_storeCells_new (P:=prog) w 345 Tryz.zeroCells345 Tryz.zeroCells345 (by kernel_rfl) rfl (by kernel_rfl)
   go_wp2
   have hx0:Ext w (w.alloc (.cells Tryz.zeroCells345 345)):=⟨by simp,fun b hb=>heap_alloc w _ b hb,⟨rfl,rfl,rfl⟩⟩
   have hs0:(w.alloc (.cells Tryz.zeroCells345 345)).heap.size=w.heap.size+1:=by simp
   have hz:Tryz.zeroCells345=Array.replicate 256 (.int .u8 0):=by kernel_rfl
   have hself:=eD w (.cells Tryz.zeroCells345 345)
   generalize w.alloc (.cells Tryz.zeroCells345 345)=W0 at *
   rw [hz] at hself
   have hc0:∀j:Nat,j < 256->W0.cell? ⟨w.heap.size,j,none⟩=some (.int .u8 ((0:Nat):Int))/\W0.frozen? ⟨w.heap.size,j,none⟩=false:=fun j hj=>
    ⟨by simp [World.cell?,hself,hj],by simp [World.frozen?,hself]⟩
   clear hz hself hst
   go_loopw [61] (fun i w2=>∃k:Nat,k<=256/\i= .int .i64 k/\Ext w w2/\w.heap.size < w2.heap.size/\∀j:Nat,j < 256->w2.cell? ⟨w.heap.size,j,none⟩=some (.int .u8 ((if j < k then j else 0:Nat):Int))/\w2.frozen? ⟨w.heap.size,j,none⟩=false) (fun i _=>256 - (intOf i).toNat)
   case atStart=>exact ⟨0,by omega,rfl,hx0,by omega,fun j hj=>by simpa using hc0 j hj⟩
   case round=>
    clear hc0
    obtain ⟨k,hk,rfl,hx,hsz,hcs⟩:=hrel
    by_cases hlt:k < 256
    ·have hki:(k:Int) < 256:=by omega
     have aT0:(0:Int)<=(k:Int)/\(k:Int) < 256:=by omega
     have hwk:IntKind.u8.wrap (k:Int)=(k:Int):=by rw [IntKind.wrap_u8];omega
     have hck:=(hcs k hlt).1
     have hfk:=(hcs k hlt).2
     rw [if_neg (by omega)] at hck
     have hfin:∀j:Nat,j < 256->(wr.setCell ⟨w.heap.size,k,none⟩ (.int .u8 (k:Int))).cell? ⟨w.heap.size,j,none⟩=some (.int .u8 ((if j < k+1 then j else 0:Nat):Int))/\(wr.setCell ⟨w.heap.size,k,none⟩ (.int .u8 (k:Int))).frozen? ⟨w.heap.size,j,none⟩=false:=fun j hj=>by
      refine ⟨?_,by simpa using (hcs j hj).2⟩
      by_cases hjk:j=k
      ·subst hjk
       rw [World.cell?_setCell_same _ _ _ hck,if_pos (by omega)]
      ·rw [World.cell?_setCell_other _ _ _ _ (by simp<;>omega),(hcs j hj).1]
       by_cases hj2:j < k
       ·rw [if_pos hj2,if_pos (by omega)]
       ·rw [if_neg hj2,if_neg (by omega)]
     have hxs:=hx.set (Nat.le_refl _) k (.int .u8 (k:Int))
     have IZ:w.heap.size < (wr.setCell ⟨w.heap.size,k,none⟩ (.int .u8 (k:Int))).heap.size:=by simpa using hsz
     clear hcs
     go_wp2
     exact ⟨⟨k+1,by omega,by simp,hxs,IZ,hfin⟩,by simp [intOf]<;>omega⟩
    ·have hki:¬(k:Int) < 256:=by omega
     have aPl:k=256:=by omega
     subst aPl
     have hcs2:∀j:Nat,j < 256->wr.cell? ⟨w.heap.size,j,none⟩=some (.int .u8 ((XQ 0 j:Nat):Int))/\wr.frozen? ⟨w.heap.size,j,none⟩=false:=fun j hj=>by
      have:=hcs j hj
      rw [if_pos hj] at this
      exact this
     have hsb:sb < w.heap.size:=World.block_lt_of_cell? _ _ h0
     clear hcs
     go_wp2
     have f91:∀h,((⟨#[91]⟩:ByteArray)[0]'h).toNat=91:=fun _=>rfl
     have f93:∀h,((⟨#[93]⟩:ByteArray)[0]'h).toNat=93:=fun _=>rfl
     have f60:∀h,((⟨#[60]⟩:ByteArray)[0]'h).toNat=60:=fun _=>rfl
     have f62:∀h,((⟨#[62]⟩:ByteArray)[0]'h).toNat=62:=fun _=>rfl
     have e91:(⟨#[91]⟩:ByteArray).size=1:=rfl
     have e93:(⟨#[93]⟩:ByteArray).size=1:=rfl
     have e60:(⟨#[60]⟩:ByteArray).size=1:=rfl
     have e62:(⟨#[62]⟩:ByteArray).size=1:=rfl
     generalize hW2:wr=W2 at *
     clear hW2
     go_loopw [8] (fun i w3=>∃q:Nat,q<=2/\i= .int .i64 (2 - 2 * (q:Int))/\Ext w w3/\w.heap.size < w3.heap.size/\∀j:Nat,j < 256->w3.cell? ⟨w.heap.size,j,none⟩=some (.int .u8 ((XQ q j:Nat):Int))/\w3.frozen? ⟨w.heap.size,j,none⟩=false) (fun i _=>(intOf i+2).toNat)
     case atStart=>exact ⟨0,by omega,rfl,hx,hsz,hcs2⟩
     case round=>
      clear hcs2 hx hsz
      obtain ⟨q,hq,rfl,hx,hsz,hcs⟩:=hrel
      have g0:=(hx.cell hsb 0).trans h0
      have g1:=(hx.cell hsb 1).trans h1
      have g2:=(hx.cell hsb 2).trans h2
      have g3:=(hx.cell hsb 3).trans h3
      clear h0 h1 h2 h3
      have hk3:q=0\/q=1\/q=2:=by omega
      rcases hk3 with rfl|rfl|rfl
      ·have hck:=(hcs 93 (by omega)).1
       have hfk:=(hcs 93 (by omega)).2
       have hxs:=hx.set (Nat.le_refl _) 93 (.int .u8 62)
       have IZ:w.heap.size < (wr.setCell ⟨w.heap.size,93,none⟩ (.int .u8 62)).heap.size:=by simpa using hsz
       have hfin:∀j:Nat,j < 256->(wr.setCell ⟨w.heap.size,93,none⟩ (.int .u8 62)).cell? ⟨w.heap.size,j,none⟩=some (.int .u8 ((XQ 1 j:Nat):Int))/\(wr.setCell ⟨w.heap.size,93,none⟩ (.int .u8 62)).frozen? ⟨w.heap.size,j,none⟩=false:=fun j hj=>by
        refine ⟨?_,by simpa using (hcs j hj).2⟩
        by_cases hjk:j=93
        ·subst hjk
         rw [World.cell?_setCell_same _ _ _ hck];rfl
        ·rw [World.cell?_setCell_other _ _ _ _ (by simp<;>omega),(hcs j hj).1]
         simp [XQ,hjk]
       clear hcs
       go_wp2
       exact ⟨⟨1,by omega,rfl,hxs,IZ,hfin⟩,by simp [intOf]⟩
      ·have hck:=(hcs 91 (by omega)).1
       have hfk:=(hcs 91 (by omega)).2
       have hxs:=hx.set (Nat.le_refl _) 91 (.int .u8 60)
       have IZ:w.heap.size < (wr.setCell ⟨w.heap.size,91,none⟩ (.int .u8 60)).heap.size:=by simpa using hsz
       have hfin:∀j:Nat,j < 256->(wr.setCell ⟨w.heap.size,91,none⟩ (.int .u8 60)).cell? ⟨w.heap.size,j,none⟩=some (.int .u8 ((XQ 2 j:Nat):Int))/\(wr.setCell ⟨w.heap.size,91,none⟩ (.int .u8 60)).frozen? ⟨w.heap.size,j,none⟩=false:=fun j hj=>by
        refine ⟨?_,by simpa using (hcs j hj).2⟩
        by_cases hjk:j=91
        ·subst hjk
         rw [World.cell?_setCell_same _ _ _ hck];rfl
        ·rw [World.cell?_setCell_other _ _ _ _ (by simp<;>omega),(hcs j hj).1]
         simp [XQ,hjk]
       clear hcs
       go_wp2
       exact ⟨⟨2,by omega,rfl,hxs,IZ,hfin⟩,by simp [intOf]⟩
      ·have hfin:∀j:Nat,j < 256->wr.cell? ⟨w.heap.size,j,none⟩=some (.int .u8 ((BK j:Nat):Int)):=fun j hj=>by
        rw [(hcs j hj).1]
        simp [XQ,BK]
       clear hcs
       go_wp2
       go_ret
       exact ⟨w.heap.size,rfl,Nat.le_refl _,hsz,hfin,hx⟩
end Go.Proofs.YtlnblmmohpcceaaGreatDoor

set_option maxRecDepth 100000
set_option maxHeartbeats 4000000
namespace Go.Proofs.YtlnblmmohpcceaaGreatDoor
open Go.Aw Go.RowKit Go.Lib Proofs.Tryz List IntKind
theorem SB (w:World) (rb sb sc:Nat) (r0:Value) (hrb:rb < w.heap.size) (hr:w.cell? ⟨rb,3,none⟩=some r0) (fr:∀j,w.frozen? ⟨rb,j,none⟩=false) (hl:w.cell? ⟨rb,4,none⟩=some (.slice (some ⟨sb,0,none⟩) 4 sc)) (hc:bD w sb 0 mkPairs):
  Calls prog 320 #[.pointer (some ⟨rb,0,none⟩)] w fun e w'=>e= .returned (.tuple #[])/\∃nb w1,w.heap.size<=nb/\nb < w1.heap.size/\(∀j:Nat,j < 256->w1.cell? ⟨nb,j,none⟩=some (.int .u8 (BK j:Nat)))/\Ext w w1/\
   w'=(w1.setCell ⟨rb,3,none⟩ (.iface 346 (.pointer (some ⟨nb,0,none⟩)))).setCell ⟨rb,4,none⟩ (.slice none 0 0):=by
 go_enter func320,ntmps320
 go_wp2_with (go_at_call 329;refine (F3 w rb sb sc hl hc).mono ?_;rintro e w1 ⟨nb,rfl,hn1,hn2,hn3,hn4⟩;have k3:=(hn4.cell hrb 3).trans hr;have k4:=(hn4.cell hrb 4).trans hl;have z3:=(hn4.frozen hrb 3).trans (fr 3);have z4:=(hn4.frozen hrb 4).trans (fr 4))
 go_end0
 exact ⟨rfl,nb,w1,hn1,hn2,hn3,hn4,rfl⟩
theorem aCr (w:World) (rb sb sc:Nat) (r0:Value) (hrb:rb < w.heap.size) (h0:w.cell? ⟨rb,0,none⟩=some (.int .u32 0)) (h1:w.cell? ⟨rb,1,none⟩=some (.int .i32 0)) (hr:w.cell? ⟨rb,3,none⟩=some r0) (fr:∀j,w.frozen? ⟨rb,j,none⟩=false)
  (hl:w.cell? ⟨rb,4,none⟩=some (.slice (some ⟨sb,0,none⟩) 4 sc)) (hc:bD w sb 0 mkPairs) (hsb:sb≠rb):
  Calls prog 328 #[.pointer (some ⟨rb,0,none⟩),.func (.func 320) #[.pointer (some ⟨rb,0,none⟩)] #[]] w fun e w'=>e= .returned (.tuple #[])/\∃nb,w.heap.size<=nb/\nb < w'.heap.size/\(∀j:Nat,j < 256->w'.cell? ⟨nb,j,none⟩=some (.int .u8 (BK j:Nat)))/\
   w'.cell? ⟨rb,3,none⟩=some (.iface 346 (.pointer (some ⟨nb,0,none⟩)))/\w.heap.size<=w'.heap.size/\(∀b,b < w.heap.size->b≠rb->w'.heap[b]? =w.heap[b]?)/\lU w w':=by
 have hnot:∀(x:Bool) (w:World),(Op.unary .not (.bool x)).run prog w= .ok (.bool (!x)) w:=fun _ _=>rfl
 have ho:∀i j:Nat,i≠j->(⟨rb,i,none⟩:Addr)≠⟨rb,j,none⟩:=fun i j h e=>h (by simpa using e)
 generalize PI:w.setCell ⟨rb,1,none⟩ (.int .i32 1)=WL
 have l0:WL.cell? ⟨rb,0,none⟩=some (.int .u32 0):=by rw [<-PI,World.cell?_setCell_other _ _ _ _ (ho _ _ (by decide))];exact h0
 have l1:WL.cell? ⟨rb,1,none⟩=some (.int .i32 1):=by rw [<-PI];exact World.cell?_setCell_same _ _ _ h1
 have l3:WL.cell? ⟨rb,3,none⟩=some r0:=by rw [<-PI,World.cell?_setCell_other _ _ _ _ (ho _ _ (by decide))];exact hr
 have l4:WL.cell? ⟨rb,4,none⟩=some (.slice (some ⟨sb,0,none⟩) 4 sc):=by rw [<-PI,World.cell?_setCell_other _ _ _ _ (ho _ _ (by decide))];exact hl
 have lz:∀j,WL.frozen? ⟨rb,j,none⟩=false:=fun j=>by rw [<-PI];simpa using fr j
 have lc:bD WL sb 0 mkPairs:=fun j v hv=>by
  rw [<-PI,World.cell?_setCell_other _ _ _ _ (by simp [Ne.symm hsb])];exact hc j v hv
 have lh:∀b,b≠rb->WL.heap[b]? =w.heap[b]?:=fun b hb=>by rw [<-PI];exact rM w rb 1 _ hb
 have lsz:WL.heap.size=w.heap.size:=by
  have:=Go.Aw.fH rb [.int .i32 1] 1 w
  simpa only [World.setCells,PI] using this
 have lsm:lU w WL:=by
  have:=Go.Aw.iY rb [.int .i32 1] 1 w
  simpa only [World.setCells,PI] using this
 have hld:=run_call_load (P:=prog) func338 (by kernel_rfl) (by kernel_rfl) (by kernel_rfl) .u32 (by kernel_rfl) (w:=WL) (a:=⟨rb,0,none⟩) (x:=0) l0
 go_enter_defers func328,ntmps328
 go_wp2_with (first|(go_at_call 339;refine (aCq ⟨rb,1,none⟩ _ h1 (fr 1)).mono ?_;rintro e w' ⟨rfl,rfl⟩;rw [PI])|(go_at_call 320;refine (SB WL rb sb sc r0 (by omega) l3 lz l4 lc).mono ?_;rintro e w' ⟨rfl,nb,w1,n1,n2,n3,n4,rfl⟩)|(go_at_call 327;go_in))
 have hrl:rb < WL.heap.size:=by omega
 generalize Te:(w1.setCell ⟨rb,3,none⟩ (.iface 346 (.pointer (some ⟨nb,0,none⟩)))).setCell ⟨rb,4,none⟩ (.slice none 0 0)=W5
 have p0:W5.cell? ⟨rb,0,none⟩=some (.int .u32 0):=by rw [<-Te,World.cell?_setCell_other _ _ _ _ (ho _ _ (by decide)),World.cell?_setCell_other _ _ _ _ (ho _ _ (by decide))];exact (n4.cell hrl 0).trans l0
 have p1:W5.cell? ⟨rb,1,none⟩=some (.int .i32 1):=by rw [<-Te,World.cell?_setCell_other _ _ _ _ (ho _ _ (by decide)),World.cell?_setCell_other _ _ _ _ (ho _ _ (by decide))];exact (n4.cell hrl 1).trans l1
 have pz:∀j,W5.frozen? ⟨rb,j,none⟩=false:=fun j=>by rw [<-Te];simpa using (n4.frozen hrl j).trans (lz j)
 refine leaves_cons (f:=341) (args:=#[.pointer (some ⟨rb,0,none⟩),.bool true]) (by simp) (by simp [go_sem]) ?_
 refine (E8 ⟨rb,0,none⟩ (.int .u32 0) .returning _ p0 (pz 0)).mono ?_
 rintro e u' w'' ⟨rfl,rfl,rfl⟩
 refine leaves_cons (f:=340) (args:=#[.pointer (some ⟨rb,1,none⟩)]) (by simp [settle]) (by simp [go_sem]) ?_
 refine (gm ⟨rb,1,none⟩ _ _ (by rw [World.cell?_setCell_other _ _ _ _ (ho _ _ (by decide)),World.cell?_drew];exact p1) (by simpa using pz 1)).mono ?_
 rintro e u' w'' ⟨rfl,rfl,rfl⟩
 have hne:nb≠rb:=by omega
 have hcn:∀(W:World) (o:Nat) (v:Value) (j:Nat),(W.setCell ⟨rb,o,none⟩ v).cell? ⟨nb,j,none⟩=W.cell? ⟨nb,j,none⟩:=fun W o v j=>World.cell?_setCell_other _ _ _ _ (by simp [Ne.symm hne])
 have t1:∀j:Nat,j < 256->((W5.drew.setCell ⟨rb,0,none⟩ (.int .u32 1)).setCell ⟨rb,1,none⟩ (.int .i32 0)).cell? ⟨nb,j,none⟩=some (.int .u8 (BK j:Nat)):=fun j hj=>by
  rw [hcn,hcn,World.cell?_drew,<-Te,hcn,hcn];exact n3 j hj
 have t2:((W5.drew.setCell ⟨rb,0,none⟩ (.int .u32 1)).setCell ⟨rb,1,none⟩ (.int .i32 0)).cell? ⟨rb,3,none⟩=some (.iface 346 (.pointer (some ⟨nb,0,none⟩))):=by
  rw [World.cell?_setCell_other _ _ _ _ (ho _ _ (by decide)),World.cell?_setCell_other _ _ _ _ (ho _ _ (by decide)),World.cell?_drew,<-Te,World.cell?_setCell_other _ _ _ _ (ho _ _ (by decide))]
  exact World.cell?_setCell_same _ _ _ ((n4.cell hrl 3).trans l3)
 have hsz:∀(W:World) (o:Nat) (v:Value),(W.setCell ⟨rb,o,none⟩ v).heap.size=W.heap.size:=fun W o v=>by simpa only [World.setCells] using Go.Aw.fH rb [v] o W
 have hsm:∀(W:World) (o:Nat) (v:Value),lU W (W.setCell ⟨rb,o,none⟩ v):=fun W o v=>by simpa only [World.setCells] using Go.Aw.iY rb [v] o W
 have t3:((W5.drew.setCell ⟨rb,0,none⟩ (.int .u32 1)).setCell ⟨rb,1,none⟩ (.int .i32 0)).heap.size=w1.heap.size:=by
  rw [hsz,hsz];show W5.heap.size=_;rw [<-Te,hsz,hsz]
 have t4:∀b,b < w.heap.size->b≠rb->((W5.drew.setCell ⟨rb,0,none⟩ (.int .u32 1)).setCell ⟨rb,1,none⟩ (.int .i32 0)).heap[b]? =w.heap[b]?:=fun b hb hbr=>by
  rw [rM _ _ _ _ hbr,rM _ _ _ _ hbr]
  show W5.heap[b]? =_
  rw [<-Te,rM _ _ _ _ hbr,rM _ _ _ _ hbr,n4.Px b (by omega),lh b hbr]
 have t5:lU w ((W5.drew.setCell ⟨rb,0,none⟩ (.int .u32 1)).setCell ⟨rb,1,none⟩ (.int .i32 0)):=by
  have e1:lU w W5:=by rw [<-Te];exact ((lsm.trans n4.same).trans (hsm _ _ _)).trans (hsm _ _ _)
  exact ((e1.trans (b:=W5) (c:=W5.drew) ⟨rfl,rfl,rfl⟩).trans (hsm _ _ _)).trans (hsm _ _ _)
 generalize (W5.drew.setCell ⟨rb,0,none⟩ (.int .u32 1)).setCell ⟨rb,1,none⟩ (.int .i32 0)=W7 at *
 have hfin:∃nb,w.heap.size<=nb/\nb < W7.heap.size/\(∀j:Nat,j < 256->W7.cell? ⟨nb,j,none⟩=some (.int .u8 (BK j:Nat)))/\W7.cell? ⟨rb,3,none⟩=some (.iface 346 (.pointer (some ⟨nb,0,none⟩)))/\w.heap.size<=W7.heap.size/\(∀b,b < w.heap.size->b≠rb->W7.heap[b]? =w.heap[b]?)/\lU w W7:=
  ⟨nb,by omega,by omega,t1,t2,by have:=n4.size;omega,t4,t5⟩
 clear t1 t2 t3 t4 t5 p0 p1 pz Te hcn hsz hsm l0 l1 l3 l4 lz lc lh
 simpa [Leaves,settle,results,results328] using hfin
end Go.Proofs.YtlnblmmohpcceaaGreatDoor

set_option maxRecDepth 100000
set_option maxHeartbeats 4000000
namespace Go.Proofs.YtlnblmmohpcceaaGreatDoor
open Go.Aw Go.RowKit Go.Lib Proofs.Tryz List IntKind
theorem XR (w:World) (rb sb sc:Nat) (r0:Value) (s:ByteArray) (hs:s.size<=1099511627776) (hrb:rb < w.heap.size) (h0:w.cell? ⟨rb,0,none⟩=some (.int .u32 0)) (h1:w.cell? ⟨rb,1,none⟩=some (.int .i32 0)) (hr:w.cell? ⟨rb,3,none⟩=some r0) (fr:∀j,w.frozen? ⟨rb,j,none⟩=false)
  (hl:w.cell? ⟨rb,4,none⟩=some (.slice (some ⟨sb,0,none⟩) 4 sc)) (hc:bD w sb 0 mkPairs) (hsb:sb≠rb):
  Calls prog 310 #[.pointer (some ⟨rb,0,none⟩),.string s] w fun e w'=>e= .returned (.string ⟨(s.data.toList.map oZ).toArray⟩)/\w.heap.size<=w'.heap.size/\(∀b,b < w.heap.size->b≠rb->w'.heap[b]? =w.heap[b]?)/\lU w w':=by
 have hnot:∀(x:Bool) (w:World),(Op.unary .not (.bool x)).run prog w= .ok (.bool (!x)) w:=fun _ _=>rfl
 have hmf:∀(fn:Fn) (first cap:Array Value) (w:World),(Instr.makeFunc fn first cap).run prog w= .ok (.func fn first cap) w:=fun _ _ _ _=>rfl
 have hm:∀(nb:Nat) (w:World),(method 527 346 (.pointer (some ⟨nb,0,none⟩)) "Replace").run prog w= .ok (408,.pointer (some ⟨nb,0,none⟩)) w:=fun _ _=>by kernel_rfl
 have hld:=run_call_load (P:=prog) func338 (by kernel_rfl) (by kernel_rfl) (by kernel_rfl) .u32 (by kernel_rfl) (w:=w) (a:=⟨rb,0,none⟩) (x:=0) h0
 go_enter func310,ntmps310
 go_wp2_with (first|(go_at_call 319;go_in)|(go_at_call 327;go_in)|(go_at_call 328;refine (aCr w rb sb sc r0 hrb h0 h1 hr fr hl hc hsb).mono ?_;rintro e w1 ⟨rfl,nb,n1,n2,n3,n4,n5,n6,n7⟩))
 go_end0
 go_wp2_with (go_at_call 408;refine (E9 _ _ s hs n2 n3).mono ?_;rintro e w2 ⟨rfl,hx⟩)
 go_ret
 exact ⟨rfl,Nat.le_trans n5 hx.size,fun b hb hbr=>(hx.Px b (Nat.lt_of_lt_of_le hb n5)).trans (n6 b hb hbr),n7.trans hx.same⟩
end Go.Proofs.YtlnblmmohpcceaaGreatDoor
