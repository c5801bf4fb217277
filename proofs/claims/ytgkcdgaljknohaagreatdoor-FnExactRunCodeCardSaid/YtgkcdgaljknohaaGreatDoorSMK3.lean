/-
  Proved here: steps towards the statement of this claim, text SMK3.
  No condition beyond what each statement spells out.
-/
import Derived.Test.YtgkcdgaljknohaaGreatDoorSMK1
import Derived.Deep.WholeRow
set_option linter.all false
set_option maxRecDepth 100000
set_option maxHeartbeats 4000000
namespace Go.Proofs.YtgkcdgaljknohaaGreatDoor
open Go.Aw Go.RowKit Go.Lib
def mkPairs:List Value:=[.string ⟨#[91]⟩,.string ⟨#[60]⟩,.string ⟨#[93]⟩,.string ⟨#[62]⟩]
def tabQ (q j:Nat):Nat:=if 2≤q∧j=91 then 60 else if 1≤q∧j=93 then 62 else j
theorem mk_build (w:World) (rb sb sc:Nat) (hl:w.cell? ⟨rb,4,none⟩=some (.slice (some ⟨sb,0,none⟩) 4 sc)) (hc:CellsAt w sb 0 mkPairs):
  Calls Tryz.prog 312 #[.pointer (some ⟨rb,0,none⟩)] w fun e w'=>∃nb,e= .returned (.iface 330 (.pointer (some ⟨nb,0,none⟩)))∧w.heap.size≤nb∧nb < w'.heap.size∧(∀j:Nat,j < 256→w'.cell? ⟨nb,j,none⟩=some (.int .u8 (tabC j:Nat)))∧Ext w w':=by
 have h0:w.cell? ⟨sb,0,none⟩=some (.string ⟨#[91]⟩):=hc 0 _ rfl
 have h1:w.cell? ⟨sb,1,none⟩=some (.string ⟨#[60]⟩):=hc 1 _ rfl
 have h2:w.cell? ⟨sb,2,none⟩=some (.string ⟨#[93]⟩):=hc 2 _ rfl
 have h3:w.cell? ⟨sb,3,none⟩=some (.string ⟨#[62]⟩):=hc 3 _ rfl
 go_enter Tryz.func312,Tryz.ntmps312
 go_wp2
 go_loopw [4,5] (fun a i wr=>w=wr∧a= .bool true∧∃k:Nat,k≤2∧i= .int .i64 ((2 * k:Nat):Int)) (fun _ i _=>4 - (intOf i).toNat)
 case atStart=>exact ⟨rfl,rfl,0,by omega,rfl⟩
 case round=>
  obtain ⟨rfl,rfl,k,hk,rfl⟩:=hrel
  have hk3:k=0∨k=1∨k=2:=by omega
  rcases hk3 with rfl|rfl|rfl
  ·go_wp2
   exact ⟨⟨trivial,rfl,1,by omega,rfl⟩,by simp [intOf]⟩
  ·go_wp2
   exact ⟨⟨trivial,rfl,2,by omega,rfl⟩,by simp [intOf]⟩
  ·have hst:=run_storeCells_new (P:=Tryz.prog) w 329 Tryz.zeroCells329 Tryz.zeroCells329 (by kernel_rfl) rfl (by kernel_rfl)
   go_wp2
   have hx0:Ext w (w.alloc (.cells Tryz.zeroCells329 329)):=⟨by simp,fun b hb=>heap_alloc w _ b hb,⟨rfl,rfl,rfl⟩⟩
   have hs0:(w.alloc (.cells Tryz.zeroCells329 329)).heap.size=w.heap.size+1:=by simp
   have hz:Tryz.zeroCells329=Array.replicate 256 (.int .u8 0):=by kernel_rfl
   have hself:=heap_alloc_self w (.cells Tryz.zeroCells329 329)
   generalize w.alloc (.cells Tryz.zeroCells329 329)=W0 at *
   rw [hz] at hself
   have hc0:∀j:Nat,j < 256→W0.cell? ⟨w.heap.size,j,none⟩=some (.int .u8 ((0:Nat):Int))∧W0.frozen? ⟨w.heap.size,j,none⟩=false:=fun j hj=>
    ⟨by simp [World.cell?,hself,hj],by simp [World.frozen?,hself]⟩
   clear hz hself hst
   go_loopw [61] (fun i w2=>∃k:Nat,k≤256∧i= .int .i64 k∧Ext w w2∧w.heap.size < w2.heap.size∧∀j:Nat,j < 256→w2.cell? ⟨w.heap.size,j,none⟩=some (.int .u8 ((if j < k then j else 0:Nat):Int))∧w2.frozen? ⟨w.heap.size,j,none⟩=false) (fun i _=>256 - (intOf i).toNat)
   case atStart=>exact ⟨0,by omega,rfl,hx0,by omega,fun j hj=>by simpa using hc0 j hj⟩
   case round=>
    clear hc0
    obtain ⟨k,hk,rfl,hx,hsz,hcs⟩:=hrel
    by_cases hlt:k < 256
    ·have hki:(k:Int) < 256:=by omega
     have hki2:(0:Int)≤(k:Int)∧(k:Int) < 256:=by omega
     have hwk:IntKind.u8.wrap (k:Int)=(k:Int):=by rw [IntKind.wrap_u8];omega
     have hck:=(hcs k hlt).1
     have hfk:=(hcs k hlt).2
     rw [if_neg (by omega)] at hck
     have hfin:∀j:Nat,j < 256→(wr.setCell ⟨w.heap.size,k,none⟩ (.int .u8 (k:Int))).cell? ⟨w.heap.size,j,none⟩=some (.int .u8 ((if j < k+1 then j else 0:Nat):Int))∧(wr.setCell ⟨w.heap.size,k,none⟩ (.int .u8 (k:Int))).frozen? ⟨w.heap.size,j,none⟩=false:=fun j hj=>by
      refine ⟨?_,by simpa using (hcs j hj).2⟩
      by_cases hjk:j=k
      ·subst hjk
       rw [World.cell?_setCell_same _ _ _ hck,if_pos (by omega)]
      ·rw [World.cell?_setCell_other _ _ _ _ (by simp<;>omega),(hcs j hj).1]
       by_cases hj2:j < k
       ·rw [if_pos hj2,if_pos (by omega)]
       ·rw [if_neg hj2,if_neg (by omega)]
     have hxs:=hx.set (Nat.le_refl _) k (.int .u8 (k:Int))
     have hszs:w.heap.size < (wr.setCell ⟨w.heap.size,k,none⟩ (.int .u8 (k:Int))).heap.size:=by simpa using hsz
     clear hcs
     go_wp2
     exact ⟨⟨k+1,by omega,by simp,hxs,hszs,hfin⟩,by simp [intOf]<;>omega⟩
    ·have hki:¬(k:Int) < 256:=by omega
     have h256:k=256:=by omega
     subst h256
     have hcs2:∀j:Nat,j < 256→wr.cell? ⟨w.heap.size,j,none⟩=some (.int .u8 ((tabQ 0 j:Nat):Int))∧wr.frozen? ⟨w.heap.size,j,none⟩=false:=fun j hj=>by
      have:=hcs j hj
      rw [if_pos hj] at this
      exact this
     have hsb:sb < w.heap.size:=World.block_lt_of_cell? _ _ h0
     clear hcs
     go_wp2
     have f91:∀h,((⟨#[91]⟩:ByteArray)[0]'h).toNat=91:=fun _=>rfl
     have f93:∀h,((⟨#[93]⟩:ByteArray)[0]'h).toNat=93:=fun _=>rfl
     have f60:∀h,((⟨#[60]⟩:ByteArray)[0]'h).toNat=60:=fun _=>rfl
     have f62:∀h,((⟨#[62]⟩:ByteArray)[0]'h).toNat=62:=fun _=>rfl
     have e91:(⟨#[91]⟩:ByteArray).size=1:=rfl
     have e93:(⟨#[93]⟩:ByteArray).size=1:=rfl
     have e60:(⟨#[60]⟩:ByteArray).size=1:=rfl
     have e62:(⟨#[62]⟩:ByteArray).size=1:=rfl
     generalize hW2:wr=W2 at *
     clear hW2
     go_loopw [8] (fun i w3=>∃q:Nat,q≤2∧i= .int .i64 (2 - 2 * (q:Int))∧Ext w w3∧w.heap.size < w3.heap.size∧∀j:Nat,j < 256→w3.cell? ⟨w.heap.size,j,none⟩=some (.int .u8 ((tabQ q j:Nat):Int))∧w3.frozen? ⟨w.heap.size,j,none⟩=false) (fun i _=>(intOf i+2).toNat)
     case atStart=>exact ⟨0,by omega,rfl,hx,hsz,hcs2⟩
     case round=>
      clear hcs2 hx hsz
      obtain ⟨q,hq,rfl,hx,hsz,hcs⟩:=hrel
      have g0:=(hx.cell hsb 0).trans h0
      have g1:=(hx.cell hsb 1).trans h1
      have g2:=(hx.cell hsb 2).trans h2
      have g3:=(hx.cell hsb 3).trans h3
      clear h0 h1 h2 h3
      have hk3:q=0∨q=1∨q=2:=by omega
      rcases hk3 with rfl|rfl|rfl
      ·have hck:=(hcs 93 (by omega)).1
       have hfk:=(hcs 93 (by omega)).2
       have hxs:=hx.set (Nat.le_refl _) 93 (.int .u8 62)
       have hszs:w.heap.size < (wr.setCell ⟨w.heap.size,93,none⟩ (.int .u8 62)).heap.size:=by simpa using hsz
       have hfin:∀j:Nat,j < 256→(wr.setCell ⟨w.heap.size,93,none⟩ (.int .u8 62)).cell? ⟨w.heap.size,j,none⟩=some (.int .u8 ((tabQ 1 j:Nat):Int))∧(wr.setCell ⟨w.heap.size,93,none⟩ (.int .u8 62)).frozen? ⟨w.heap.size,j,none⟩=false:=fun j hj=>by
        refine ⟨?_,by simpa using (hcs j hj).2⟩
        by_cases hjk:j=93
        ·subst hjk
         rw [World.cell?_setCell_same _ _ _ hck];rfl
        ·rw [World.cell?_setCell_other _ _ _ _ (by simp<;>omega),(hcs j hj).1]
         simp [tabQ,hjk]
       clear hcs
       go_wp2
       exact ⟨⟨1,by omega,rfl,hxs,hszs,hfin⟩,by simp [intOf]⟩
      ·have hck:=(hcs 91 (by omega)).1
       have hfk:=(hcs 91 (by omega)).2
       have hxs:=hx.set (Nat.le_refl _) 91 (.int .u8 60)
       have hszs:w.heap.size < (wr.setCell ⟨w.heap.size,91,none⟩ (.int .u8 60)).heap.size:=by simpa using hsz
       have hfin:∀j:Nat,j < 256→(wr.setCell ⟨w.heap.size,91,none⟩ (.int .u8 60)).cell? ⟨w.heap.size,j,none⟩=some (.int .u8 ((tabQ 2 j:Nat):Int))∧(wr.setCell ⟨w.heap.size,91,none⟩ (.int .u8 60)).frozen? ⟨w.heap.size,j,none⟩=false:=fun j hj=>by
        refine ⟨?_,by simpa using (hcs j hj).2⟩
        by_cases hjk:j=91
        ·subst hjk
         rw [World.cell?_setCell_same _ _ _ hck];rfl
        ·rw [World.cell?_setCell_other _ _ _ _ (by simp<;>omega),(hcs j hj).1]
         simp [tabQ,hjk]
       clear hcs
       go_wp2
       exact ⟨⟨2,by omega,rfl,hxs,hszs,hfin⟩,by simp [intOf]⟩
      ·have hfin:∀j:Nat,j < 256→wr.cell? ⟨w.heap.size,j,none⟩=some (.int .u8 ((tabC j:Nat):Int)):=fun j hj=>by
        rw [(hcs j hj).1]
        simp [tabQ,tabC]
       clear hcs
       go_wp2
       go_ret
       exact ⟨w.heap.size,rfl,Nat.le_refl _,hsz,hfin,hx⟩
end Go.Proofs.YtgkcdgaljknohaaGreatDoor

set_option maxRecDepth 100000
set_option maxHeartbeats 4000000
namespace Go.Proofs.YtgkcdgaljknohaaGreatDoor
open Go.Aw Go.RowKit Go.Lib
theorem mk_buildOnce (w:World) (rb sb sc:Nat) (r0:Value) (hrb:rb < w.heap.size) (hr:w.cell? ⟨rb,3,none⟩=some r0) (fr:∀j,w.frozen? ⟨rb,j,none⟩=false) (hl:w.cell? ⟨rb,4,none⟩=some (.slice (some ⟨sb,0,none⟩) 4 sc)) (hc:CellsAt w sb 0 mkPairs):
  Calls Tryz.prog 293 #[.pointer (some ⟨rb,0,none⟩)] w fun e w'=>e= .returned (.tuple #[])∧∃nb w1,w.heap.size≤nb∧nb < w1.heap.size∧(∀j:Nat,j < 256→w1.cell? ⟨nb,j,none⟩=some (.int .u8 (tabC j:Nat)))∧Ext w w1∧
   w'=(w1.setCell ⟨rb,3,none⟩ (.iface 330 (.pointer (some ⟨nb,0,none⟩)))).setCell ⟨rb,4,none⟩ (.slice none 0 0):=by
 go_enter Tryz.func293,Tryz.ntmps293
 go_wp2_with (go_at_call 312;refine (mk_build w rb sb sc hl hc).mono ?_;rintro e w1 ⟨nb,rfl,hn1,hn2,hn3,hn4⟩;have k3:=(hn4.cell hrb 3).trans hr;have k4:=(hn4.cell hrb 4).trans hl;have z3:=(hn4.frozen hrb 3).trans (fr 3);have z4:=(hn4.frozen hrb 4).trans (fr 4))
 go_end0
 exact ⟨rfl,nb,w1,hn1,hn2,hn3,hn4,rfl⟩
theorem mk_slow (w:World) (rb sb sc:Nat) (r0:Value) (hrb:rb < w.heap.size) (h0:w.cell? ⟨rb,0,none⟩=some (.int .u32 0)) (h1:w.cell? ⟨rb,1,none⟩=some (.int .i32 0)) (hr:w.cell? ⟨rb,3,none⟩=some r0) (fr:∀j,w.frozen? ⟨rb,j,none⟩=false)
  (hl:w.cell? ⟨rb,4,none⟩=some (.slice (some ⟨sb,0,none⟩) 4 sc)) (hc:CellsAt w sb 0 mkPairs) (hsb:sb≠rb):
  Calls Tryz.prog 311 #[.pointer (some ⟨rb,0,none⟩),.func (.func 293) #[.pointer (some ⟨rb,0,none⟩)] #[]] w fun e w'=>e= .returned (.tuple #[])∧∃nb,w.heap.size≤nb∧nb < w'.heap.size∧(∀j:Nat,j < 256→w'.cell? ⟨nb,j,none⟩=some (.int .u8 (tabC j:Nat)))∧
   w'.cell? ⟨rb,3,none⟩=some (.iface 330 (.pointer (some ⟨nb,0,none⟩)))∧w.heap.size≤w'.heap.size∧(∀b,b < w.heap.size→b≠rb→w'.heap[b]? =w.heap[b]?)∧Same w w':=by
 have hnot:∀(x:Bool) (w:World),(Op.unary .not (.bool x)).run Tryz.prog w= .ok (.bool (!x)) w:=fun _ _=>rfl
 have ho:∀i j:Nat,i≠j→(⟨rb,i,none⟩:Addr)≠⟨rb,j,none⟩:=fun i j h e=>h (by simpa using e)
 generalize hWL:w.setCell ⟨rb,1,none⟩ (.int .i32 1)=WL
 have l0:WL.cell? ⟨rb,0,none⟩=some (.int .u32 0):=by rw [←hWL,World.cell?_setCell_other _ _ _ _ (ho _ _ (by decide))];exact h0
 have l1:WL.cell? ⟨rb,1,none⟩=some (.int .i32 1):=by rw [←hWL];exact World.cell?_setCell_same _ _ _ h1
 have l3:WL.cell? ⟨rb,3,none⟩=some r0:=by rw [←hWL,World.cell?_setCell_other _ _ _ _ (ho _ _ (by decide))];exact hr
 have l4:WL.cell? ⟨rb,4,none⟩=some (.slice (some ⟨sb,0,none⟩) 4 sc):=by rw [←hWL,World.cell?_setCell_other _ _ _ _ (ho _ _ (by decide))];exact hl
 have lz:∀j,WL.frozen? ⟨rb,j,none⟩=false:=fun j=>by rw [←hWL];simpa using fr j
 have lc:CellsAt WL sb 0 mkPairs:=fun j v hv=>by
  rw [←hWL,World.cell?_setCell_other _ _ _ _ (by simp [Ne.symm hsb])];exact hc j v hv
 have lh:∀b,b≠rb→WL.heap[b]? =w.heap[b]?:=fun b hb=>by rw [←hWL];exact setCell_heap w rb 1 _ hb
 have lsz:WL.heap.size=w.heap.size:=by
  have:=Go.Aw.size_setCells rb [.int .i32 1] 1 w
  simpa only [World.setCells,hWL] using this
 have lsm:Same w WL:=by
  have:=Go.Aw.same_setCells rb [.int .i32 1] 1 w
  simpa only [World.setCells,hWL] using this
 have hld:=run_call_load (P:=Tryz.prog) Tryz.func321 (by kernel_rfl) (by kernel_rfl) (by kernel_rfl) .u32 (by kernel_rfl) (w:=WL) (a:=⟨rb,0,none⟩) (x:=0) l0
 go_enter_defers Tryz.func311,Tryz.ntmps311
 go_wp2_with (first|(go_at_call 322;refine (mk_lock ⟨rb,1,none⟩ _ h1 (fr 1)).mono ?_;rintro e w' ⟨rfl,rfl⟩;rw [hWL])|(go_at_call 293;refine (mk_buildOnce WL rb sb sc r0 (by omega) l3 lz l4 lc).mono ?_;rintro e w' ⟨rfl,nb,w1,n1,n2,n3,n4,rfl⟩)|(go_at_call 310;go_in))
 have hrl:rb < WL.heap.size:=by omega
 generalize hW5:(w1.setCell ⟨rb,3,none⟩ (.iface 330 (.pointer (some ⟨nb,0,none⟩)))).setCell ⟨rb,4,none⟩ (.slice none 0 0)=W5
 have p0:W5.cell? ⟨rb,0,none⟩=some (.int .u32 0):=by rw [←hW5,World.cell?_setCell_other _ _ _ _ (ho _ _ (by decide)),World.cell?_setCell_other _ _ _ _ (ho _ _ (by decide))];exact (n4.cell hrl 0).trans l0
 have p1:W5.cell? ⟨rb,1,none⟩=some (.int .i32 1):=by rw [←hW5,World.cell?_setCell_other _ _ _ _ (ho _ _ (by decide)),World.cell?_setCell_other _ _ _ _ (ho _ _ (by decide))];exact (n4.cell hrl 1).trans l1
 have pz:∀j,W5.frozen? ⟨rb,j,none⟩=false:=fun j=>by rw [←hW5];simpa using (n4.frozen hrl j).trans (lz j)
 refine leaves_cons (f:=324) (args:=#[.pointer (some ⟨rb,0,none⟩),.bool true]) (by simp) (by simp [go_sem]) ?_
 refine (mk_store ⟨rb,0,none⟩ (.int .u32 0) .returning _ p0 (pz 0)).mono ?_
 rintro e u' w'' ⟨rfl,rfl,rfl⟩
 refine leaves_cons (f:=323) (args:=#[.pointer (some ⟨rb,1,none⟩)]) (by simp [settle]) (by simp [go_sem]) ?_
 refine (mk_unlock ⟨rb,1,none⟩ _ _ (by rw [World.cell?_setCell_other _ _ _ _ (ho _ _ (by decide)),World.cell?_drew];exact p1) (by simpa using pz 1)).mono ?_
 rintro e u' w'' ⟨rfl,rfl,rfl⟩
 have hne:nb≠rb:=by omega
 have hcn:∀(W:World) (o:Nat) (v:Value) (j:Nat),(W.setCell ⟨rb,o,none⟩ v).cell? ⟨nb,j,none⟩=W.cell? ⟨nb,j,none⟩:=fun W o v j=>World.cell?_setCell_other _ _ _ _ (by simp [Ne.symm hne])
 have t1:∀j:Nat,j < 256→((W5.drew.setCell ⟨rb,0,none⟩ (.int .u32 1)).setCell ⟨rb,1,none⟩ (.int .i32 0)).cell? ⟨nb,j,none⟩=some (.int .u8 (tabC j:Nat)):=fun j hj=>by
  rw [hcn,hcn,World.cell?_drew,←hW5,hcn,hcn];exact n3 j hj
 have t2:((W5.drew.setCell ⟨rb,0,none⟩ (.int .u32 1)).setCell ⟨rb,1,none⟩ (.int .i32 0)).cell? ⟨rb,3,none⟩=some (.iface 330 (.pointer (some ⟨nb,0,none⟩))):=by
  rw [World.cell?_setCell_other _ _ _ _ (ho _ _ (by decide)),World.cell?_setCell_other _ _ _ _ (ho _ _ (by decide)),World.cell?_drew,←hW5,World.cell?_setCell_other _ _ _ _ (ho _ _ (by decide))]
  exact World.cell?_setCell_same _ _ _ ((n4.cell hrl 3).trans l3)
 have hsz:∀(W:World) (o:Nat) (v:Value),(W.setCell ⟨rb,o,none⟩ v).heap.size=W.heap.size:=fun W o v=>by simpa only [World.setCells] using Go.Aw.size_setCells rb [v] o W
 have hsm:∀(W:World) (o:Nat) (v:Value),Same W (W.setCell ⟨rb,o,none⟩ v):=fun W o v=>by simpa only [World.setCells] using Go.Aw.same_setCells rb [v] o W
 have t3:((W5.drew.setCell ⟨rb,0,none⟩ (.int .u32 1)).setCell ⟨rb,1,none⟩ (.int .i32 0)).heap.size=w1.heap.size:=by
  rw [hsz,hsz];show W5.heap.size=_;rw [←hW5,hsz,hsz]
 have t4:∀b,b < w.heap.size→b≠rb→((W5.drew.setCell ⟨rb,0,none⟩ (.int .u32 1)).setCell ⟨rb,1,none⟩ (.int .i32 0)).heap[b]? =w.heap[b]?:=fun b hb hbr=>by
  rw [setCell_heap _ _ _ _ hbr,setCell_heap _ _ _ _ hbr]
  show W5.heap[b]? =_
  rw [←hW5,setCell_heap _ _ _ _ hbr,setCell_heap _ _ _ _ hbr,n4.old b (by omega),lh b hbr]
 have t5:Same w ((W5.drew.setCell ⟨rb,0,none⟩ (.int .u32 1)).setCell ⟨rb,1,none⟩ (.int .i32 0)):=by
  have e1:Same w W5:=by rw [←hW5];exact ((lsm.trans n4.same).trans (hsm _ _ _)).trans (hsm _ _ _)
  exact ((e1.trans (b:=W5) (c:=W5.drew) ⟨rfl,rfl,rfl⟩).trans (hsm _ _ _)).trans (hsm _ _ _)
 generalize (W5.drew.setCell ⟨rb,0,none⟩ (.int .u32 1)).setCell ⟨rb,1,none⟩ (.int .i32 0)=W7 at *
 have hfin:∃nb,w.heap.size≤nb∧nb < W7.heap.size∧(∀j:Nat,j < 256→W7.cell? ⟨nb,j,none⟩=some (.int .u8 (tabC j:Nat)))∧W7.cell? ⟨rb,3,none⟩=some (.iface 330 (.pointer (some ⟨nb,0,none⟩)))∧w.heap.size≤W7.heap.size∧(∀b,b < w.heap.size→b≠rb→W7.heap[b]? =w.heap[b]?)∧Same w W7:=
  ⟨nb,by omega,by omega,t1,t2,by have:=n4.size;omega,t4,t5⟩
 clear t1 t2 t3 t4 t5 p0 p1 pz hW5 hcn hsz hsm l0 l1 l3 l4 lz lc lh
 simpa [Leaves,settle,results,Tryz.results311] using hfin
end Go.Proofs.YtgkcdgaljknohaaGreatDoor
