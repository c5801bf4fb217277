/- Steps. No condition. -/
import Derived.Test.YtanobkmhbpjnpaaGreatDoorZQMK1
import Derived.Deep.WholeRow
import Derived.Test.YtanobkmhbpjnpaaGreatDoorZQU3
import Derived.Test.YtanobkmhbpjnpaaGreatDoorZYShelf2
import Derived.Test.YtanobkmhbpjnpaaGreatDoorZF7
import Derived.Shelf.Spec.SlicesInsertGrow
set_option linter.all false
set_option maxRecDepth 100000
set_option maxHeartbeats 4000000
namespace Go.Proofs.YtanobkmhbpjnpaaGreatDoor
open Go.Aw Go.RowKit Go.Lib Proofs.Tryz List IntKind
def mkPairs:List Value:=[.string ⟨#[91]⟩,.string ⟨#[60]⟩,.string ⟨#[93]⟩,.string ⟨#[62]⟩]
def G7(q j:Nat):Nat:=if 2<=q/\j=91 then 60 else if 1<=q/\j=93 then 62 else j
def aG6(w:World)(rb sb sc:Nat)(hl:w.cell? ⟨rb,4,none⟩=some (.slice (some ⟨sb,0,none⟩) 4 sc))(hc:dB w sb 0 mkPairs):
  Calls prog 286 #[.pointer (some ⟨rb,0,none⟩)] w λe w'=>∃nb,e= .returned (.iface 301 (.pointer (some ⟨nb,0,none⟩)))/\w.heap.size<=nb/\nb<w'.heap.size/\(∀j:Nat,j<256->w'.cell? ⟨nb,j,none⟩=some (.int .u8 (FM j:Nat)))/\Ext w w':=by
 have h0:w.cell? ⟨sb,0,none⟩=some (.string ⟨#[91]⟩):=hc 0 _ rfl;have h1:w.cell? ⟨sb,1,none⟩=some (.string ⟨#[60]⟩):=hc 1 _ rfl;have h2:w.cell? ⟨sb,2,none⟩=some (.string ⟨#[93]⟩):=hc 2 _ rfl;have h3:w.cell? ⟨sb,3,none⟩=some (.string ⟨#[62]⟩):=hc 3 _ rfl
 go_enter func286,ntmps286
 go_wp2
 go_loopw [4,5] (λa i wr=>w=wr/\a= .bool true/\∃k:Nat,k<=2/\i= .int .i64 ((2*k:Nat):Int)) (λ_ i _=>4-(RowKit.intOf i).toNat)
 case atStart=>exact⟨rfl,rfl,0,by omega,rfl⟩
 case round=>
  obtain⟨rfl,rfl,k,hk,rfl⟩:=hrel;have hk3:k=0\/k=1\/k=2:=by omega
  rcases hk3 with rfl|rfl|rfl
  .go_wp2
   exact⟨⟨trivial,rfl,1,by omega,rfl⟩,by simp[RowKit.intOf]⟩
  .go_wp2
   exact⟨⟨trivial,rfl,2,by omega,rfl⟩,by simp[RowKit.intOf]⟩
  .have hst:=run_storeCells_new (P:=prog) w 300 Tryz.zeroCells300 Tryz.zeroCells300 (by kernel_rfl) rfl (by kernel_rfl)
   go_wp2
   have hx0:Ext w (w.alloc (.cells Tryz.zeroCells300 300)):=⟨by simp,λb hb=>heap_alloc w _ b hb,⟨rfl,rfl,rfl⟩⟩;have hs0:(w.alloc (.cells Tryz.zeroCells300 300)).heap.size=w.heap.size+1:=by simp
   have hz:Tryz.zeroCells300=Array.replicate 256 (.int .u8 0):=by kernel_rfl
   have hself:=iT w (.cells Tryz.zeroCells300 300);generalize w.alloc (.cells Tryz.zeroCells300 300)=W0 at*;rw[hz]at hself;have hc0:∀j:Nat,j<256->W0.cell? ⟨w.heap.size,j,none⟩=some (.int .u8 ((0:Nat):Int))/\W0.frozen? ⟨w.heap.size,j,none⟩=false:=λj hj=>
    ⟨by simp[World.cell?,hself,hj],by simp[World.frozen?,hself]⟩
   clear hz hself hst
   go_loopw [61] (λi w2=>∃k:Nat,k<=256/\i= .int .i64 k/\Ext w w2/\w.heap.size<w2.heap.size/\∀j:Nat,j<256->w2.cell? ⟨w.heap.size,j,none⟩=some (.int .u8 ((if j<k then j else 0:Nat):Int))/\w2.frozen? ⟨w.heap.size,j,none⟩=false) (λi _=>256-(RowKit.intOf i).toNat)
   case atStart=>exact⟨0,by omega,rfl,hx0,by omega,λj hj=>by simpa using hc0 j hj⟩
   case round=>
    clear hc0;obtain⟨k,hk,rfl,hx,hsz,hcs⟩:=hrel;by_cases hlt:k<256
    .have hki:(k:Int)<256:=by omega
     have bBy:(0:Int)<=(k:Int)/\(k:Int)<256:=by omega
     have hwk:IntKind.u8.wrap (k:Int)=(k:Int):=by rw[IntKind.wrap_u8];omega
     have hck:=(hcs k hlt).1;have hfk:=(hcs k hlt).2;rw[eC (by omega)]at hck;have hfin:∀j:Nat,j<256->(wr.setCell ⟨w.heap.size,k,none⟩ (.int .u8 (k:Int))).cell? ⟨w.heap.size,j,none⟩=some (.int .u8 ((if j<k+1 then j else 0:Nat):Int))/\(wr.setCell ⟨w.heap.size,k,none⟩ (.int .u8 (k:Int))).frozen? ⟨w.heap.size,j,none⟩=false:=λj hj=>by
      refine⟨?_,by simpa using(hcs j hj).2⟩;by_cases hjk:j=k
      .subst hjk;rw[rB _ _ _ hck,eM (by omega)]
      .rw [lA _ _ _ _ (by simp<;>omega),(hcs j hj).1];by_cases hj2:j<k
       .rw [eM hj2,eM (by omega)]
       .rw [eC hj2,eC (by omega)]
     have hxs:=hx.set (eJ _) k (.int .u8 (k:Int));have Oj:w.heap.size<(wr.setCell ⟨w.heap.size,k,none⟩ (.int .u8 (k:Int))).heap.size:=by simpa using hsz
     clear hcs
     go_wp2
     exact⟨⟨k+1,by omega,by simp,hxs,Oj,hfin⟩,by simp[RowKit.intOf]<;>omega⟩
    .have hki:¬(k:Int)<256:=by omega
     have aX8:k=256:=by omega
     subst aX8;have hcs2:∀j:Nat,j<256->wr.cell? ⟨w.heap.size,j,none⟩=some (.int .u8 ((G7 0 j:Nat):Int))/\wr.frozen? ⟨w.heap.size,j,none⟩=false:=λj hj=>by have:=hcs j hj;rw[eM hj]at this;exact this
     have hsb:sb<w.heap.size:=World.block_lt_of_cell? _ _ h0;clear hcs
     go_wp2
     have f91:∀h,((⟨#[91]⟩:ByteArray)[0]'h).toNat=91:=λ_=>rfl
     have f93:∀h,((⟨#[93]⟩:ByteArray)[0]'h).toNat=93:=λ_=>rfl
     have f60:∀h,((⟨#[60]⟩:ByteArray)[0]'h).toNat=60:=λ_=>rfl
     have f62:∀h,((⟨#[62]⟩:ByteArray)[0]'h).toNat=62:=λ_=>rfl
     have e91:(⟨#[91]⟩:ByteArray).size=1:=rfl;have e93:(⟨#[93]⟩:ByteArray).size=1:=rfl;have e60:(⟨#[60]⟩:ByteArray).size=1:=rfl;have e62:(⟨#[62]⟩:ByteArray).size=1:=rfl;generalize hW2:wr=W2 at*;clear hW2
     go_loopw [8] (λi w3=>∃q:Nat,q<=2/\i= .int .i64 (2-2*(q:Int))/\Ext w w3/\w.heap.size<w3.heap.size/\∀j:Nat,j<256->w3.cell? ⟨w.heap.size,j,none⟩=some (.int .u8 ((G7 q j:Nat):Int))/\w3.frozen? ⟨w.heap.size,j,none⟩=false) (λi _=>(RowKit.intOf i+2).toNat)
     case atStart=>exact⟨0,by omega,rfl,hx,hsz,hcs2⟩
     case round=>
      clear hcs2 hx hsz;obtain⟨q,hq,rfl,hx,hsz,hcs⟩:=hrel;have g0:=(hx.cell hsb 0).trans h0;have g1:=(hx.cell hsb 1).trans h1;have g2:=(hx.cell hsb 2).trans h2;have g3:=(hx.cell hsb 3).trans h3;clear h0 h1 h2 h3;have hk3:q=0\/q=1\/q=2:=by omega
      rcases hk3 with rfl|rfl|rfl
      .have hck:=(hcs 93 (by omega)).1;have hfk:=(hcs 93 (by omega)).2;have hxs:=hx.set (eJ _) 93 (.int .u8 62);have Oj:w.heap.size<(wr.setCell ⟨w.heap.size,93,none⟩ (.int .u8 62)).heap.size:=by simpa using hsz
       have hfin:∀j:Nat,j<256->(wr.setCell ⟨w.heap.size,93,none⟩ (.int .u8 62)).cell? ⟨w.heap.size,j,none⟩=some (.int .u8 ((G7 1 j:Nat):Int))/\(wr.setCell ⟨w.heap.size,93,none⟩ (.int .u8 62)).frozen? ⟨w.heap.size,j,none⟩=false:=λj hj=>by
        refine⟨?_,by simpa using(hcs j hj).2⟩;by_cases hjk:j=93
        .subst hjk;rw[rB _ _ _ hck];rfl
        .rw [lA _ _ _ _ (by simp<;>omega),(hcs j hj).1];simp[G7,hjk]
       clear hcs
       go_wp2
       exact⟨⟨1,by omega,rfl,hxs,Oj,hfin⟩,by simp[RowKit.intOf]⟩
      .have hck:=(hcs 91 (by omega)).1;have hfk:=(hcs 91 (by omega)).2;have hxs:=hx.set (eJ _) 91 (.int .u8 60);have Oj:w.heap.size<(wr.setCell ⟨w.heap.size,91,none⟩ (.int .u8 60)).heap.size:=by simpa using hsz
       have hfin:∀j:Nat,j<256->(wr.setCell ⟨w.heap.size,91,none⟩ (.int .u8 60)).cell? ⟨w.heap.size,j,none⟩=some (.int .u8 ((G7 2 j:Nat):Int))/\(wr.setCell ⟨w.heap.size,91,none⟩ (.int .u8 60)).frozen? ⟨w.heap.size,j,none⟩=false:=λj hj=>by
        refine⟨?_,by simpa using(hcs j hj).2⟩;by_cases hjk:j=91
        .subst hjk;rw[rB _ _ _ hck];rfl
        .rw [lA _ _ _ _ (by simp<;>omega),(hcs j hj).1];simp[G7,hjk]
       clear hcs
       go_wp2
       exact⟨⟨2,by omega,rfl,hxs,Oj,hfin⟩,by simp[RowKit.intOf]⟩
      .have hfin:∀j:Nat,j<256->wr.cell? ⟨w.heap.size,j,none⟩=some (.int .u8 ((FM j:Nat):Int)):=λj hj=>by
        rw[(hcs j hj).1];simp[G7,FM]
       clear hcs
       go_wp2
       go_ret
       exact⟨w.heap.size,rfl,eJ _,hsz,hfin,hx⟩
def YB(w:World)(rb sb sc:Nat)(r0:Value)(hrb:rb<w.heap.size)(hr:w.cell? ⟨rb,3,none⟩=some r0)(fr:∀j,w.frozen? ⟨rb,j,none⟩=false)(hl:w.cell? ⟨rb,4,none⟩=some (.slice (some ⟨sb,0,none⟩) 4 sc))(hc:dB w sb 0 mkPairs):
  Calls prog 277 #[.pointer (some ⟨rb,0,none⟩)] w λe w'=>e= .returned (.tuple #[])/\∃nb w1,w.heap.size<=nb/\nb<w1.heap.size/\(∀j:Nat,j<256->w1.cell? ⟨nb,j,none⟩=some (.int .u8 (FM j:Nat)))/\Ext w w1/\
   w'=(w1.setCell ⟨rb,3,none⟩ (.iface 301 (.pointer (some ⟨nb,0,none⟩)))).setCell ⟨rb,4,none⟩ (.slice none 0 0):=by
 go_enter func277,ntmps277
 go_wp2_with (go_at_call 286;refine(aG6 w rb sb sc hl hc).mono ?_;rintro e w1 ⟨nb,rfl,hn1,hn2,hn3,hn4⟩;have k3:=(hn4.cell hrb 3).trans hr;have k4:=(hn4.cell hrb 4).trans hl;have z3:=(hn4.frozen hrb 3).trans (fr 3);have z4:=(hn4.frozen hrb 4).trans (fr 4))
 go_end0
 exact⟨rfl,nb,w1,hn1,hn2,hn3,hn4,rfl⟩
def aL1(w:World)(rb sb sc:Nat)(r0:Value)(hrb:rb<w.heap.size)(h0:w.cell? ⟨rb,0,none⟩=some (.int .u32 0))(h1:w.cell? ⟨rb,1,none⟩=some (.int .i32 0))(hr:w.cell? ⟨rb,3,none⟩=some r0)(fr:∀j,w.frozen? ⟨rb,j,none⟩=false)
  (hl:w.cell? ⟨rb,4,none⟩=some (.slice (some ⟨sb,0,none⟩) 4 sc)) (hc:dB w sb 0 mkPairs) (hsb:sb≠rb):
  Calls prog 285 #[.pointer (some ⟨rb,0,none⟩),.func (.func 277) #[.pointer (some ⟨rb,0,none⟩)] #[]] w λe w'=>e= .returned (.tuple #[])/\∃nb,w.heap.size<=nb/\nb<w'.heap.size/\(∀j:Nat,j<256->w'.cell? ⟨nb,j,none⟩=some (.int .u8 (FM j:Nat)))/\
   w'.cell? ⟨rb,3,none⟩=some (.iface 301 (.pointer (some ⟨nb,0,none⟩)))/\w.heap.size<=w'.heap.size/\(∀b,b<w.heap.size->b≠rb->w'.heap[b]? =w.heap[b]?)/\nZ w w':=by
 have hnot:∀(x:Bool) (w:World),(Op.unary .not (.bool x)).run prog w= .ok (.bool (!x)) w:=λ_ _=>rfl
 have ho:∀i j:Nat,i≠j->(⟨rb,i,none⟩:Addr)≠⟨rb,j,none⟩:=λi j h e=>h (by simpa using e)
 generalize hWL:w.setCell ⟨rb,1,none⟩ (.int .i32 1)=WL;have l0:WL.cell? ⟨rb,0,none⟩=some (.int .u32 0):=by rw[<-hWL,lA _ _ _ _ (ho _ _ (by decide))];exact h0
 have l1:WL.cell? ⟨rb,1,none⟩=some (.int .i32 1):=by rw[<-hWL];exact rB _ _ _ h1
 have l3:WL.cell? ⟨rb,3,none⟩=some r0:=by rw[<-hWL,lA _ _ _ _ (ho _ _ (by decide))];exact hr
 have l4:WL.cell? ⟨rb,4,none⟩=some (.slice (some ⟨sb,0,none⟩) 4 sc):=by rw[<-hWL,lA _ _ _ _ (ho _ _ (by decide))];exact hl
 have lz:∀j,WL.frozen? ⟨rb,j,none⟩=false:=λj=>by rw[<-hWL];simpa using fr j
 have lc:dB WL sb 0 mkPairs:=λj v hv=>by rw[<-hWL,lA _ _ _ _ (by simp[AH hsb])];exact hc j v hv
 have lh:∀b,b≠rb->WL.heap[b]? =w.heap[b]?:=λb hb=>by rw[<-hWL];exact xO w rb 1 _ hb
 have lsz:WL.heap.size=w.heap.size:=by have:=Go.Aw.jR rb [.int .i32 1] 1 w;simpa only[World.setCells,hWL]using this
 have lsm:nZ w WL:=by have:=Go.Aw.nA rb [.int .i32 1] 1 w;simpa only[World.setCells,hWL]using this
 have hld:=run_call_load (P:=prog) func298 (by kernel_rfl) (by kernel_rfl) (by kernel_rfl) .u32 (by kernel_rfl) (w:=WL) (a:=⟨rb,0,none⟩) (x:=0) l0
 go_enter_defers func285,ntmps285
 go_wp2_with (first|(go_at_call 299;refine(aL0 ⟨rb,1,none⟩ _ h1 (fr 1)).mono ?_;rintro e w' ⟨rfl,rfl⟩;rw[hWL])|(go_at_call 277;refine(YB WL rb sb sc r0 (by omega) l3 lz l4 lc).mono ?_;rintro e w' ⟨rfl,nb,w1,n1,n2,n3,n4,rfl⟩)|(go_at_call 284;go_in))
 have hrl:rb<WL.heap.size:=by omega
 generalize hW5:(w1.setCell ⟨rb,3,none⟩ (.iface 301 (.pointer (some ⟨nb,0,none⟩)))).setCell ⟨rb,4,none⟩ (.slice none 0 0)=W5;have p0:W5.cell? ⟨rb,0,none⟩=some (.int .u32 0):=by rw[<-hW5,lA _ _ _ _ (ho _ _ (by decide)),lA _ _ _ _ (ho _ _ (by decide))];exact(n4.cell hrl 0).trans l0
 have p1:W5.cell? ⟨rb,1,none⟩=some (.int .i32 1):=by rw[<-hW5,lA _ _ _ _ (ho _ _ (by decide)),lA _ _ _ _ (ho _ _ (by decide))];exact(n4.cell hrl 1).trans l1
 have pz:∀j,W5.frozen? ⟨rb,j,none⟩=false:=λj=>by rw[<-hW5];simpa using(n4.frozen hrl j).trans (lz j)
 refine leaves_cons (f:=301) (args:=#[.pointer (some ⟨rb,0,none⟩),.bool true]) (by simp) (by simp[go_sem]) ?_;refine(aG4 ⟨rb,0,none⟩ (.int .u32 0) .returning _ p0 (pz 0)).mono ?_;rintro e u' w'' ⟨rfl,rfl,rfl⟩;refine leaves_cons (f:=300) (args:=#[.pointer (some ⟨rb,1,none⟩)]) (by simp[settle]) (by simp[go_sem]) ?_;refine(aCn ⟨rb,1,none⟩ _ _ (by rw[lA _ _ _ _ (ho _ _ (by decide)),World.cell?_drew];exact p1) (by simpa using pz 1)).mono ?_;rintro e u' w'' ⟨rfl,rfl,rfl⟩;have jE:nb≠rb:=by omega
 have hcn:∀(W:World) (o:Nat) (v:Value) (j:Nat),(W.setCell ⟨rb,o,none⟩ v).cell? ⟨nb,j,none⟩=W.cell? ⟨nb,j,none⟩:=λW o v j=>lA _ _ _ _ (by simp[AH jE])
 have t1:∀j:Nat,j<256->((W5.drew.setCell ⟨rb,0,none⟩ (.int .u32 1)).setCell ⟨rb,1,none⟩ (.int .i32 0)).cell? ⟨nb,j,none⟩=some (.int .u8 (FM j:Nat)):=λj hj=>by rw[hcn,hcn,World.cell?_drew,<-hW5,hcn,hcn];exact n3 j hj
 have t2:((W5.drew.setCell ⟨rb,0,none⟩ (.int .u32 1)).setCell ⟨rb,1,none⟩ (.int .i32 0)).cell? ⟨rb,3,none⟩=some (.iface 301 (.pointer (some ⟨nb,0,none⟩))):=by rw[lA _ _ _ _ (ho _ _ (by decide)),lA _ _ _ _ (ho _ _ (by decide)),World.cell?_drew,<-hW5,lA _ _ _ _ (ho _ _ (by decide))];exact rB _ _ _ ((n4.cell hrl 3).trans l3)
 have hsz:∀(W:World) (o:Nat) (v:Value),(W.setCell ⟨rb,o,none⟩ v).heap.size=W.heap.size:=λW o v=>by simpa only[World.setCells]using Go.Aw.jR rb [v] o W
 have hsm:∀(W:World) (o:Nat) (v:Value),nZ W (W.setCell ⟨rb,o,none⟩ v):=λW o v=>by simpa only[World.setCells]using Go.Aw.nA rb [v] o W
 have t3:((W5.drew.setCell ⟨rb,0,none⟩ (.int .u32 1)).setCell ⟨rb,1,none⟩ (.int .i32 0)).heap.size=w1.heap.size:=by rw[hsz,hsz];show W5.heap.size=_;rw[<-hW5,hsz,hsz]
 have t4:∀b,b<w.heap.size->b≠rb->((W5.drew.setCell ⟨rb,0,none⟩ (.int .u32 1)).setCell ⟨rb,1,none⟩ (.int .i32 0)).heap[b]? =w.heap[b]?:=λb hb hbr=>by rw[xO _ _ _ _ hbr,xO _ _ _ _ hbr];show W5.heap[b]? =_;rw[<-hW5,xO _ _ _ _ hbr,xO _ _ _ _ hbr,n4.old b (by omega),lh b hbr]
 have t5:nZ w ((W5.drew.setCell ⟨rb,0,none⟩ (.int .u32 1)).setCell ⟨rb,1,none⟩ (.int .i32 0)):=by
  have e1:nZ w W5:=by rw[<-hW5];exact((lsm.trans n4.same).trans (hsm _ _ _)).trans (hsm _ _ _)
  exact((e1.trans (b:=W5) (c:=W5.drew) ⟨rfl,rfl,rfl⟩).trans (hsm _ _ _)).trans (hsm _ _ _)
 generalize (W5.drew.setCell ⟨rb,0,none⟩ (.int .u32 1)).setCell ⟨rb,1,none⟩ (.int .i32 0)=W7 at*;have hfin:∃nb,w.heap.size<=nb/\nb<W7.heap.size/\(∀j:Nat,j<256->W7.cell? ⟨nb,j,none⟩=some (.int .u8 (FM j:Nat)))/\W7.cell? ⟨rb,3,none⟩=some (.iface 301 (.pointer (some ⟨nb,0,none⟩)))/\w.heap.size<=W7.heap.size/\(∀b,b<w.heap.size->b≠rb->W7.heap[b]? =w.heap[b]?)/\nZ w W7:=
  ⟨nb,by omega,by omega,t1,t2,by have:=n4.size;omega,t4,t5⟩
 clear t1 t2 t3 t4 t5 p0 p1 pz hW5 hcn hsz hsm l0 l1 l3 l4 lz lc lh;simpa [Leaves,settle,results,results285]using hfin
def G8(w:World)(rb sb sc:Nat)(r0:Value)(s:ByteArray)(hs:s.size<=1099511627776)(hrb:rb<w.heap.size)(h0:w.cell? ⟨rb,0,none⟩=some (.int .u32 0))(h1:w.cell? ⟨rb,1,none⟩=some (.int .i32 0))(hr:w.cell? ⟨rb,3,none⟩=some r0)(fr:∀j,w.frozen? ⟨rb,j,none⟩=false)
  (hl:w.cell? ⟨rb,4,none⟩=some (.slice (some ⟨sb,0,none⟩) 4 sc)) (hc:dB w sb 0 mkPairs) (hsb:sb≠rb):
  Calls prog 259 #[.pointer (some ⟨rb,0,none⟩),.string s] w λe w'=>e= .returned (.string ⟨(s.data.toList.map uO).toArray⟩)/\w.heap.size<=w'.heap.size/\(∀b,b<w.heap.size->b≠rb->w'.heap[b]? =w.heap[b]?)/\nZ w w':=by
 have hnot:∀(x:Bool) (w:World),(Op.unary .not (.bool x)).run prog w= .ok (.bool (!x)) w:=λ_ _=>rfl
 have hmf:∀(fn:Fn) (first cap:Array Value) (w:World),(Instr.makeFunc fn first cap).run prog w= .ok (.func fn first cap) w:=λ_ _ _ _=>rfl
 have hm:∀(nb:Nat) (w:World),(method 477 301 (.pointer (some ⟨nb,0,none⟩)) "Replace").run prog w= .ok (365,.pointer (some ⟨nb,0,none⟩)) w:=λ_ _=>by kernel_rfl
 have hld:=run_call_load (P:=prog) func298 (by kernel_rfl) (by kernel_rfl) (by kernel_rfl) .u32 (by kernel_rfl) (w:=w) (a:=⟨rb,0,none⟩) (x:=0) h0
 go_enter func259,ntmps259
 go_wp2_with (first|(go_at_call 276;go_in)|(go_at_call 284;go_in)|(go_at_call 285;refine(aL1 w rb sb sc r0 hrb h0 h1 hr fr hl hc hsb).mono ?_;rintro e w1 ⟨rfl,nb,n1,n2,n3,n4,n5,n6,n7⟩))
 go_end0
 go_wp2_with (go_at_call 365;refine(aG5 _ _ s hs n2 n3).mono ?_;rintro e w2 ⟨rfl,hx⟩)
 go_ret
 exact⟨rfl,iS n5 hx.size,λb hb hbr=>(hx.old b (lP hb n5)).trans (n6 b hb hbr),n7.trans hx.same⟩
end Go.Proofs.YtanobkmhbpjnpaaGreatDoor
namespace Go.Aw
open List
def FP{P:Program}{w:World}{dT sT ty elem:TypeId}{i:TypeInfo}{b o aUj aYk b2 o2 sLen sCap n:Nat}{C:Array Value}{e:TypeId}{fz:Nat×Nat}{cs:List Value}{q:Prop}
  (hu:P.underlying dT=some (.slice elem)) (hi:P.info? elem=some i) (hm:Nat.min sLen aUj=n) (hn:cs.length=n*i.size)
  (aP3:dB w b2 o2 cs) (hb:w.heap[b]? =some (.cells C e fz)) (hz:(C.size<=fz.1/\q)\/fz.2=0) (hfit:o+cs.length<=C.size) (h1:∀v∈cs,v.oneCell'=true):
  (Builtin.copy_ #[dT,sT] ty #[.slice (some ⟨b,o,none⟩) aUj aYk,.slice (some ⟨b2,o2,none⟩) sLen sCap]).run P w= .ok (goInt n) (w.setCells b o cs):=by
 have hl:=nD (P:=P) (w:=w) (len:=sLen) (cap:=sCap) hn aP3;have hst:=vW (P:=P) hb hz hfit h1;simp[Builtin.copy_,kO hu,Builtin.lenOf,sizeOf,typeInfo,hi,hm,hl,hst]
def HV{w:World}{b o:Nat}{C:Array Value}{e:TypeId}{fz:Nat×Nat}{cs:List Value}(hb:w.heap[b]? =some (.cells C e fz))(hfit:o+cs.length<=C.size):dB (w.setCells b o cs) b o cs:=by
 intro j v hv;have hj:j<cs.length:=(cU.1 hv).1;have:=CT b cs o w (λj hj=>by
  have:o+j<C.size:=by omega
  simp[World.cell?,hb,this]) j hj
 rw[this];rw[aE hj]at hv;exact hv
def xP{w:World}{b o b2 p:Nat}{cs ds:List Value}(h:dB w b2 p ds)(ho:b2=b->p+ds.length<=o\/o+cs.length<=p):dB (w.setCells b o cs) b2 p ds:=by
 intro j v hv;have hj:j<ds.length:=(cU.1 hv).1;rw[CD]
 .exact h j v hv
 .intro h1 _;have:=ho h1;simp only;omega
structure VP(w w':World)(b k n:Nat)(cs:List Value)(v:Value)(b' off' cap':Nat)(C':Array Value)(e':TypeId)(Vz:Nat × Nat): Prop where
  ret:v = .slice (some ⟨b', off', none⟩) n cap'
  blk:w'.heap[b']? = some (.cells C' e' Vz)
  hz:(C'.size <= Vz.1 /\ k = 1) \/ Vz.2 = 0
  fit:off'+cap'*k <= C'.size
  len:n <= cap'
  max:cap' <= maxLen
  at':dB w' b' off' cs
  new:b' = b \/ w.heap.size <= b'
  lt:b'<w'.heap.size
  size:w.heap.size <= w'.heap.size
  frame:∀ x, x<w.heap.size -> x ≠ b -> w'.heap[x]? = w.heap[x]?
  same:nZ w w'
def TA{b:Nat}:∀(vs:List Value) (o:Nat) {w w0:World},w0.heap=w.heap->(w0.setCells b o vs).heap=(w.setCells b o vs).heap
 |[],_,_,_,h=>h
 |v::r,o,w,w0,h=>by rw[World.setCells,World.setCells];exact TA r (o+1) (by simp[World.setCell,h])
def H9{w W1:World}{b off n c i k:Nat}{C:Array Value}{e:TypeId}{fz:Nat×Nat}{olds eO:List Value}(hb:w.heap[b]? =some (.cells C e fz))(hz:(C.size<=fz.1/\k=1)\/fz.2=0)
  (hc:dB w b off olds) (hol:olds.length=n*k) (hnl:eO.length=k) (hi:i<n) (hroom:n+1<=c) (hfit:off+c*k<=C.size) (hmax:c<=maxLen)
  (hW:W1.heap=(w.setCells b (off+(i+1)*k) (olds.drop (i*k))).heap) (hs:nZ w W1):
  ∃C',VP w (W1.setCells b (off+i*k) eO) b k (n+1) (olds.take (i*k)++eO++olds.drop (i*k)) (.slice (some ⟨b,off,none⟩) (n+1) c) b off c C' e fz:=by
 have hik:i*k+k<=n*k:=by rw[<-Bx];exact mB k hi
 have hnk:(n+1)*k<=c*k:=mB k hroom;have aUk:(n+1)*k=n*k+k:=Bx n k;have aYl:(i+1)*k=i*k+k:=Bx i k;have hdl:(olds.drop (i*k)).length=n*k-i*k:=by rw[AN,hol]
 have htl:(olds.take (i*k)).length=i*k:=by rw[pL,hol];omega
 obtain⟨C1,jc,Mq⟩:=mE b e fz (olds.drop (i*k)) (off+(i+1)*k) w C hb;rw[<-hW]at jc;obtain⟨C2,hC2,aL7⟩:=mE b e fz eO (off+i*k) _ C1 jc;have hlt:b<w.heap.size:=(yW.1 hb).1;have hsz:W1.heap.size=w.heap.size:=by rw[hW,jR]
 refine⟨C2,rfl,hC2,by rw[aL7,Mq];exact hz,by rw[aL7,Mq];exact hfit,hroom,hmax,?_,.inl rfl,by rw[jR,hsz];exact hlt,by rw[jR,hsz];exact eJ _,?_,hs.trans (nA _ _ _ _)⟩
 .refine dB.append.2 ⟨dB.append.2 ⟨?_,?_⟩,?_⟩
  .refine xP ((xP hc.take λ_=> ?_:dB (w.setCells b (off+(i+1)*k) (olds.drop (i*k))) b off (olds.take (i*k))).heap hW) λ_=> ?_
   .rw [htl];left;omega
   .rw [htl];left;omega
  .rw [htl];exact HV jc (by omega)
  .rw [eR,htl,hnl,show off+(i*k+k)=off+(i+1)*k by omega];refine xP ((HV hb (by omega):dB (w.setCells b (off+(i+1)*k) (olds.drop (i*k))) b (off+(i+1)*k) (olds.drop (i*k))).heap hW) λ_=> ?_
   right;omega
 .intro x hx jE;rw[oC b x jE,hW,oC b x jE]
def aCs{w W1 W2:World}{b n i k cap:Nat}{ROW:Array Value}{e:TypeId}{olds eO:List Value}(hol:olds.length=n*k)(hnl:eO.length=k)(hi:i<n)
  (hR:∀(j:Nat) (v:Value),(olds.take (i*k))[j]? =some v->ROW[j]? =some v) (hRs:cap*k<=ROW.size) (uJ:n+1<=cap) (hmax:cap<=maxLen)
  (hN:W1.heap[w.heap.size]? =some (.cells ROW e (0,0))) (hO:∀x,x<w.heap.size->W1.heap[x]? =w.heap[x]?) (hs1:nZ w W1)
  (hW:W2.heap=(W1.setCells w.heap.size (i*k) eO).heap) (hs2:nZ W1 W2):
  ∃C',VP w (W2.setCells w.heap.size ((i+1)*k) (olds.drop (i*k))) b k (n+1) (olds.take (i*k)++eO++olds.drop (i*k)) (.slice (some ⟨w.heap.size,0,none⟩) (n+1) cap) w.heap.size 0 cap C' e (0,0):=by
 have hik:i*k+k<=n*k:=by rw[<-Bx];exact mB k hi
 have hnk:(n+1)*k<=cap*k:=mB k uJ;have aUk:(n+1)*k=n*k+k:=Bx n k;have aYl:(i+1)*k=i*k+k:=Bx i k;have hdl:(olds.drop (i*k)).length=n*k-i*k:=by rw[AN,hol]
 have htl:(olds.take (i*k)).length=i*k:=by rw[pL,hol];omega
 obtain⟨C1,jc,Mq⟩:=mE w.heap.size e (0,0) eO (i*k) W1 ROW hN;rw[<-hW]at jc;obtain⟨C2,hC2,aL7⟩:=mE w.heap.size e (0,0) (olds.drop (i*k)) ((i+1)*k) W2 C1 jc;have hlt:w.heap.size<W1.heap.size:=(yW.1 hN).1;have hsz:W2.heap.size=W1.heap.size:=by rw[hW,jR]
 have hc0:dB W1 w.heap.size 0 (olds.take (i*k)):=by refine tL hN ?_;intro j v hv;rw[lR];exact hR j v hv
 refine⟨C2,rfl,hC2,.inr rfl,by rw[aL7,Mq];omega,uJ,hmax,?_,.inr (eJ _),by rw[jR,hsz];exact hlt,by rw[jR,hsz];omega,?_,hs1.trans (hs2.trans (nA _ _ _ _))⟩
 .refine dB.append.2 ⟨dB.append.2 ⟨?_,?_⟩,?_⟩
  .refine xP ((xP hc0 λ_=> ?_:dB (W1.setCells w.heap.size (i*k) eO) w.heap.size 0 (olds.take (i*k))).heap hW) λ_=> ?_
   .rw [htl];left;omega
   .rw [htl];left;omega
  .rw [htl,lR];refine xP ((HV hN (by omega):dB (W1.setCells w.heap.size (i*k) eO) w.heap.size (i*k) eO).heap hW) λ_=> ?_
   left;omega
  .rw [eR,htl,hnl,lR,show i*k+k=(i+1)*k by omega];exact HV jc (by omega)
 .intro x hx jE;have hx':x≠w.heap.size:=by omega
  rw[oC _ x hx',hW,oC _ x hx',hO x hx]
def Gu:AV->Bool
 | .int _ _=>true
 | .bool _=>true
 | .str _=>true
 |_=>false
def aQj{w w':World}{E E':Env}{x:AV}{v:Value}{fp:List Nat}(h:Gu x=true)(hr:R w E x v fp):fp=[]/\R w' E' x v []:=by cases x<;>simp_all[Gu,R]
def aA5{w w':World}{E E':Env}:∀{c:List AV} {cs:List Value} {fp:List Nat},c.all Gu=true->Rc w E c cs fp->fp=[]/\Rc w' E' c cs []
 |[],[],_,_,h=>⟨by simpa [Rc]using h,by simp[Rc]⟩
 |[],_::_,_,_,h=>by simp[Rc]at h
 |_::_,[],_,_,h=>by simp[Rc]at h
 |x::xs,v::vs,fp,hf,h=>by simp only[Cl,eK]at hf;simp only[Rc]at h⊢;obtain⟨f1,f2,h1,h2,rfl⟩:=h;obtain⟨rfl,h3⟩:=aQj (w':=w') (E':=E') hf.1 h1;obtain⟨rfl,h4⟩:=aA5 (w':=w') (E':=E') hf.2 h2;exact⟨rfl,[],[],h3,h4,rfl⟩
def Mr{w w':World}{E E':Env}{n:Nat}:∀{l:List (List AV)} {vs:List Value} {fp:List Nat},(l.all λc=>c.all Gu)=true->Rv w E l vs n fp->fp=[]/\Rv w' E' l vs n []
 |[],_,_,_,h=>by simp only[Rv]at h⊢;exact⟨h.2,by simp[h.1]⟩
 |c::l,vs,fp,hf,h=>by simp only[Cl,eK]at hf;simp only[Rv]at h⊢;obtain⟨cs,rest,f1,f2,rfl,hn,ho,h1,h2,rfl⟩:=h;obtain⟨rfl,h3⟩:=aA5 (w':=w') (E':=E') hf.1 h1;obtain⟨rfl,h4⟩:=Mr (w':=w') (E':=E') hf.2 h2;exact⟨rfl,cs,rest,[],[],rfl,hn,ho,h3,h4,rfl⟩
def jd{w:World}{E:Env}{n:Nat}:∀(i:Nat) {l:List (List AV)} {vs:List Value},Rv w E l vs n []->Rv w E (l.take i) (vs.take (i*n)) n []/\Rv w E (l.drop i) (vs.drop (i*n)) n []
 |0,l,vs,h=>by simp[Rv,h]
 |i+1,[],vs,h=>by simp only[Rv]at h;obtain⟨rfl,_⟩:=h;simp[Rv]
 |i+1,c::l,vs,h=>by
  simp only[Rv]at h;obtain⟨cs,rest,f1,f2,rfl,hn,ho,h1,h2,hf⟩:=h;obtain⟨rfl,rfl⟩:=GF.1 hf.symm;obtain⟨h3,h4⟩:=jd i h2;have e:(i+1)*n=cs.length+i*n:=by rw[Bx,hn];omega
  simp only[eV,sX,e,take_length_add_append,drop_length_add_append,Rv];exact⟨⟨cs,_,[],[],rfl,hn,ho,h1,h3,rfl⟩,h4⟩
def EO{w:World}{O:Nat->Prop}{x:GA}{xs:List GA}:∀{vs:List Value} {wG:List (List Nat)} {lN:List Nat},Fx w O (x::xs) vs wG lN->
  ∃v vs' f fs k ks,vs=v::vs'/\wG=f::fs/\lN=k::ks/\RG w O x v f k/\Fx w O xs vs' fs ks
 |[],_,_,h=>by simp[Fx]at h
 |_::_,[],_,h=>by simp[Fx]at h
 |_::_,_::_,[],h=>by simp[Fx]at h
 |v::vs,f::fs,k::ks,h=>by simp only[Fx]at h;exact⟨v,vs,f,fs,k,ks,rfl,rfl,rfl,h.1,h.2⟩
def aA6{w:World}{O:Nat->Prop}:∀{vs:List Value} {wG:List (List Nat)} {lN:List Nat},Fx w O [] vs wG lN->vs=[]/\wG=[]/\lN=[]
 |[],[],[],_=>⟨rfl,rfl,rfl⟩
 |_::_,_,_,h=>by simp[Fx]at h
 |[],_::_,_,h=>by simp[Fx]at h
 |[],[],_::_,h=>by simp[Fx]at h
def aL8{P:Program}[aG P]{f:FuncId}{n i k:Nat}{l:List (List AV)}{x:List AV}(hl:l.length=n)(hi:i<n)(hfl:(l.all λc=>c.all Gu)=true)(hfx:x.all Gu=true)
  (H:∀(w:World) (b off c:Nat) (C:Array Value) (e:TypeId) (fz:Nat×Nat) (olds eO:List Value) (vb voff vc:Nat) (Cv:Array Value) (ev:TypeId) (ZK:Nat×Nat),w.heap[b]? =some (.cells C e fz)->((C.size<=fz.1/\k=1)\/fz.2=0)->dB w b off olds->olds.length=n*k->(∀v∈olds,v.oneCell'=true)->
   off+c*k<=C.size->n<=c->c<=maxLen->vb≠b->w.heap[vb]? =some (.cells Cv ev ZK)->((Cv.size<=ZK.1/\k=1)\/ZK.2=0)->dB w vb voff eO->eO.length=k->(∀v∈eO,v.oneCell'=true)->
   Calls P f #[.slice (some ⟨b,off,none⟩) n c,.int .i64 i,.slice (some ⟨vb,voff,none⟩) 1 vc] w λed w'=>∃v b' off' cap' C' e' Vz,ed= .returned v/\VP w w' b k (n+1) (olds.take (i*k)++eO++olds.drop (i*k)) v b' off' cap' C' e' Vz):
  Ob P f [.rF (.sl .own k l),.view (.int .i64 i),.rF (.sl .own k [x])] (.sl .own k (l.take i++[x]++l.drop i)):=by
 intro w vs wG lN hh hlow hnd hr;obtain⟨v1,vs,f1,wG,k1,lN,rfl,rfl,rfl,h1,hr⟩:=EO hr;obtain⟨v2,vs,f2,wG,k2,lN,rfl,rfl,rfl,h2,hr⟩:=EO hr;obtain⟨v3,vs,f3,wG,k3,lN,rfl,rfl,rfl,h3,hr⟩:=EO hr;obtain⟨rfl,rfl,rfl⟩:=aA6 hr;simp only[RG]at h1 h2 h3;obtain⟨rfl,h2⟩:=h2;obtain⟨a,cap,rfl,WC,ho⟩:=vU.1 h1;simp only[R]at h2;obtain⟨rfl,_⟩:=h2;rcases ho with⟨h0,_⟩|⟨b,off,C,e,fz,sH,rfl,hb,hz,hfit,hlc,hmax,rfl,QF⟩
 .subst h0;simp at hl;omega
 obtain⟨a3,aQk,rfl,_,h3⟩:=vU.1 h3;rcases h3 with⟨h0,_⟩|⟨vb,voff,Cv,ev,ZK,aUl,rfl,hb3,hz3,_,_,_,rfl,hr3⟩
 .cases h0
 obtain⟨olds,hv,hc⟩:=vG.1 QF;obtain⟨eO,hv3,hc3⟩:=vG.1 hr3;have hol:=mK hv;have hnl:=mK hv3;have jE:vb≠b:=λh=>by subst h;simp at hnd
 rw[hl]at hol;have:=H w b off cap C e fz olds eO vb voff aQk Cv ev ZK hb hz hc hol (Sd hv) hfit (by rw[<-hl];exact hlc) hmax jE hb3 hz3 hc3 (by simpa using hnl) (Sd hv3);rw[hl];refine this.mono λed w' h=> ?_
 obtain⟨v,b',off',cap',C',e',Vz,he,hI⟩:=h;have hq:=(Mr (w':=w') (E':=(pY).plain) hfl hv).2;have Xn:=(Mr (w':=w') (E':=(pY).plain) (by simp[hfx]) hv3).2;obtain⟨q1,q2⟩:=jd i hq;have q4:=Co q2 (Co Xn q1);have dF:(l.take i++[x]++l.drop i).length=n+1:=by simp;omega
 have hml:n+1<=maxLen:=iS hI.len hI.max;refine⟨v,[b'],[[],[],[]],he,vU.2 ⟨_,cap',by rw[dF];exact hI.ret,by rw[dF];exact hml,.inr ⟨b',off',C',e',Vz,[],rfl,hI.blk,hI.hz,hI.fit,by rw[dF];exact hI.len,hI.max,rfl,vG.2 ⟨_,by simpa using q4,hI.at'⟩⟩⟩,by simp[Vw,RP],by simp,?_,hI.size,?_,hI.same⟩
 .intro x hx;obtain rfl:x=b':=by simpa using hx
  refine⟨?_,hI.lt⟩;rcases hI.new with rfl|h
  .left;simp
  .exact .inr h
 .intro x hx hn;exact hI.frame x hx λh=>hn (by simp[h])
def YI{w:World}{b off n c k:Nat}{C:Array Value}{e:TypeId}{fz:Nat×Nat}{olds eO:List Value}(hb:w.heap[b]? =some (.cells C e fz))(hz:(C.size<=fz.1/\k=1)\/fz.2=0)
  (hc:dB w b off olds) (hol:olds.length=n*k) (hnl:eO.length=k) (hroom:n+1<=c) (hfit:off+c*k<=C.size) (hmax:c<=maxLen):
  ∃C',VP w (w.setCells b (off+n*k) eO) b k (n+1) (olds++eO) (.slice (some ⟨b,off,none⟩) (n+1) c) b off c C' e fz:=by
 have hnk:(n+1)*k<=c*k:=mB k hroom;have aUk:(n+1)*k=n*k+k:=Bx n k;obtain⟨C1,jc,Mq⟩:=mE b e fz eO (off+n*k) w C hb;have hlt:b<w.heap.size:=(yW.1 hb).1;refine⟨C1,rfl,jc,by rw[Mq];exact hz,by rw[Mq];exact hfit,hroom,hmax,?_,.inl rfl,by rw[jR];exact hlt,by rw[jR];exact eJ _,?_,nA _ _ _ _⟩
 .refine dB.append.2 ⟨xP hc λ_=> ?_,?_⟩
  .rw [hol];left;omega
  .rw [hol];exact HV hb (by omega)
 .intro x hx jE;rw[oC b x jE]
def YJ{w:World}{b n k cap:Nat}{ROW:Array Value}{e:TypeId}{olds eO:List Value}(hR:∀(j:Nat) (v:Value),(olds++eO)[j]? =some v->ROW[j]? =some v)(hRs:cap*k<=ROW.size)(uJ:n+1<=cap)(hmax:cap<=maxLen):
  ∃C',VP w (w.drew.alloc (.cells ROW e)) b k (n+1) (olds++eO) (.slice (some ⟨w.heap.size,0,none⟩) (n+1) cap) w.heap.size 0 cap C' e (0,0):=by
 have hN:(w.drew.alloc (.cells ROW e)).heap[w.heap.size]? =some (.cells ROW e):=iT w.drew _;refine⟨ROW,rfl,hN,.inr rfl,by omega,uJ,hmax,tL hN (by intro j v hv;rw[lR];exact hR j v hv),.inr (eJ _),by simp,by simp,λx hx _=>heap_alloc w.drew _ x hx,⟨rfl,rfl,rfl⟩⟩
def je{P:Program}[aG P]{f:FuncId}{n k:Nat}{l:List (List AV)}{x:List AV}(hl:l.length=n)(hfl:(l.all λc=>c.all Gu)=true)(hfx:x.all Gu=true)
  (H:∀(w:World) (base:Option Addr) (bb c:Nat) (olds eO:List Value) (vb voff vc:Nat),olds.length=n*k->n<=c->c<=maxLen->dB w vb voff eO->eO.length=k->(∀v∈eO,v.oneCell'=true)->
   ((n=0/\c=0)\/∃off C e fz,base=some ⟨bb,off,none⟩/\w.heap[bb]? =some (.cells C e fz)/\((C.size<=fz.1/\k=1)\/fz.2=0)/\dB w bb off olds/\off+c*k<=C.size)->
   Calls P f #[.slice base n c,.int .i64 n,.slice (some ⟨vb,voff,none⟩) 1 vc] w λed w'=>∃v b' off' cap' C' e' Vz,ed= .returned v/\VP w w' bb k (n+1) (olds++eO) v b' off' cap' C' e' Vz):
  Ob P f [.rF (.sl .own k l),.view (.int .i64 n),.rF (.sl .own k [x])] (.sl .own k (l++[x])):=by
 intro w vs wG lN hh hlow hnd hr;obtain⟨v1,vs,f1,wG,k1,lN,rfl,rfl,rfl,h1,hr⟩:=EO hr;obtain⟨v2,vs,f2,wG,k2,lN,rfl,rfl,rfl,h2,hr⟩:=EO hr;obtain⟨v3,vs,f3,wG,k3,lN,rfl,rfl,rfl,h3,hr⟩:=EO hr;obtain⟨rfl,rfl,rfl⟩:=aA6 hr;simp only[RG]at h1 h2 h3;obtain⟨rfl,h2⟩:=h2;obtain⟨a,cap,rfl,WC,ho⟩:=vU.1 h1;simp only[R]at h2;obtain⟨rfl,_⟩:=h2;obtain⟨a3,aQk,rfl,_,h3⟩:=vU.1 h3;rcases h3 with⟨h0,_⟩|⟨vb,voff,Cv,ev,ZK,aUl,rfl,hb3,hz3,_,_,_,rfl,hr3⟩
 .cases h0
 obtain⟨eO,hv3,hc3⟩:=vG.1 hr3;have hnl:eO.length=k:=by simpa using mK hv3
 obtain⟨bb,olds,hv,hbb,hnc,hmc,hor⟩:∃bb olds,Rv w (vJ w (· ∈(f1++([]++((vb::aUl)++[]))))).plain l olds k f1.tail/\(bb∈f1\/w.heap.size<=bb)/\n<=cap/\cap<=maxLen/\
   ((n=0/\cap=0)\/∃off C e fz,a=some ⟨bb,off,none⟩/\w.heap[bb]? =some (.cells C e fz)/\((C.size<=fz.1/\k=1)\/fz.2=0)/\dB w bb off olds/\off+cap*k<=C.size):=by
  rcases ho with⟨h0,h4,h5⟩|⟨b,off,C,e,fz,sH,rfl,hb,hz,hfit,hlc,hmax,rfl,QF⟩
  .subst h0;subst h5;simp at hl;subst hl;subst h4;exact⟨w.heap.size,[],by simp[Rv],.inr (eJ _),eJ _,by simp[maxLen],.inl ⟨rfl,rfl⟩⟩
  .obtain ⟨olds,hv,hc⟩:=vG.1 QF;exact⟨b,olds,hv,.inl (by simp),by rw[<-hl];exact hlc,hmax,.inr ⟨off,C,e,fz,rfl,hb,hz,hc,hfit⟩⟩
 have hol:=mK hv;rw[hl]at hol;have:=H w a bb cap olds eO vb voff aQk hol hnc hmc hc3 hnl (Sd hv3) hor;rw[hl];refine this.mono λed w' h=> ?_
 obtain⟨v,b',off',cap',C',e',Vz,he,hI⟩:=h;have hq:=(Mr (w':=w') (E':=(pY).plain) hfl hv).2;have Xn:=(Mr (w':=w') (E':=(pY).plain) (by simp[hfx]) hv3).2;have q4:=Co Xn hq;have dF:(l++[x]).length=n+1:=by simp;omega
 have hml:n+1<=maxLen:=iS hI.len hI.max;refine⟨v,[b'],[[],[],[]],he,vU.2 ⟨_,cap',by rw[dF];exact hI.ret,by rw[dF];exact hml,.inr ⟨b',off',C',e',Vz,[],rfl,hI.blk,hI.hz,hI.fit,by rw[dF];exact hI.len,hI.max,rfl,vG.2 ⟨_,by simpa using q4,hI.at'⟩⟩⟩,by simp[Vw,RP],by simp,?_,hI.size,?_,hI.same⟩
 .intro x hx;obtain rfl:x=b':=by simpa using hx
  refine⟨?_,hI.lt⟩;rcases hI.new with rfl|h
  .rcases hbb with h|h
   .left;simp[h]
   .exact .inr h
  .exact .inr h
 .intro x hx hn;refine hI.frame x hx λh=> ?_
  subst h;rcases hbb with h|h
  .exact hn (by simp[h])
  .omega
end Go.Aw
set_option maxRecDepth 4000
set_option maxHeartbeats 4000000
namespace Go.Proofs.YtanobkmhbpjnpaaGreatDoor
open Go.Aw Proofs.Tryz List IntKind
def PU(s:bE):AV:=match BJ s with|some v=> .iL [.int .i64 v,.bool true]|none=> .iL [.int .i64 0,.bool false]
def wW{s:bE}(h:BJ s=none):PU s= .iL [.int .i64 0,.bool false]:=by rw[PU,h]
def FR{s:bE}{v:Int}(h:BJ s=some v):PU s= .iL [.int .i64 v,.bool true]:=by rw[PU,h]
def Xq{s:bE}(h:¬(1<=s.length/\s.length<=13)):BJ s=none:=by
 cases hp:BJ s with
 |none=>rfl
 |some v=>obtain⟨m,_,_,hs,hl,_⟩:=Ja hp;have:=Mk m;rw[<-hs]at this;exact absurd ⟨by have:=AT.2 this;omega,hl⟩ h
def jr{s:bE}{k:Nat}(hk:k<s.length)(h:¬(48<=s[k].toNat/\s[k].toNat<=57)):BJ s=none:=by
 cases hp:BJ s with
 |none=>rfl
 |some v=>
  obtain⟨m,_,_,hs,hl,hd⟩:=Ja hp;have hd':Lib.decFrom 0 s=some m:=by
   unfold Lib.decNat at hd;split at hd
   .cases hd
   .exact hd
  obtain⟨d,h2⟩:=Lib.digit_of_decFrom s 0 m hd' k s[k] (aE hk);unfold Lib.digitVal at h2;rw[eC h]at h2;cases h2
def aHg{s:bE}{m:Nat}(h0:s≠[])(hl:s.length<=13)(h:Lib.decFrom 0 s=some m):BJ s=if m<=1000000000000/\Lib.decDigits m=s then some (m:Int)else none:=by
 have:Lib.decNat s=some m:=by unfold Lib.decNat;rw[eC (by simpa using h0)];exact h
 simp[BJ,this,hl]
def aHh(m:Nat):Lib.itoa (m:Int)=Lib.decDigits m:=by unfold Lib.itoa;rw[eC (by omega)];rfl
def QH[aG prog][fI prog](s:bE)(hl:s.length<=1099511627776):Ok prog 223 [.str s] (PU s):=by
 have c1:=jG (s.length:Int) 1 13;by_cases h1:1<=s.length/\s.length<=13
 .rw [show(decide ((1:Int)<=(s.length:Int))&&decide ((s.length:Int)<=13))=true by simp;omega]at c1;have h0:s≠[]:=by intro e;rw[e]at h1;simp at h1
  refine dN aK func223 ntmps223 ?_;refine bK ?_;refine aT (ι:={p:Nat×Nat // p.1<=s.length/\Lib.decFrom 0 (s.take p.1)=some p.2}) (λt o i=>⟨bP t [(4,.int .i64 (i.1.2:Int)),(5,.int .i64 (i.1.1:Int))],o⟩)
   (λi=>s.length-i.1.1) ⟨(0,0),by simp,by simp[Lib.decFrom]⟩ aP ?_
  rintro⟨⟨k,m⟩,⟨hk,hi⟩⟩ K1 hK1;simp only[bP,cH,cQ]at hK1 hk hi⊢;have hk1:=tQ (k:=k);have bCb:m<10000000000000:=by have h2:=fw hi;have h3:(10:Nat) ^ (s.take k).length<=10 ^ 13:=Nat.pow_le_pow_right (by decide) (by simp;omega);omega
  by_cases hlt:k<s.length
  .have hg:=aE hlt;have c2:=jG (s[k].toNat:Int) 48 57;have hu:s[k].toNat<256:=s[k].toNat_lt;by_cases hd:48<=s[k].toNat/\s[k].toNat<=57
   .have hb:(decide ((48:Int)<=(s[k].toNat:Int))&&decide ((s[k].toNat:Int)<=57))=true:=by simp;omega
    rw[hb]at c2;have hw1:IntKind.u8.wrap ((s[k].toNat:Int)-48)=((s[k].toNat-48:Nat):Int):=by rw[aG0]<;>omega
    have hw2:i64.wrap ((s[k].toNat-48:Nat):Int)=((s[k].toNat-48:Nat):Int):=by rw[wrap64]<;>omega
    have hw3:i64.wrap (10*(m:Int))=((10*m:Nat):Int):=by rw[wrap64]<;>omega
    have hw4:i64.wrap (((10*m:Nat):Int)+((s[k].toNat-48:Nat):Int))=((m*10+(s[k].toNat-48):Nat):Int):=by rw[wrap64]<;>omega
    have hw5:i64.wrap (s[k].toNat:Int)=(s[k].toNat:Int):=by rw[wrap64]<;>omega
    have hn:=Lib.decFrom_take s k 0 m s[k] _ hi hg (show Lib.digitVal s[k]=some (s[k].toNat-48)by unfold Lib.digitVal;rw[eM hd]);have W:=aA hk1 (aA hg (aA hlt (aA hw1 (aA hw2 (aA hw3 (aA hw4 hw5))))));refine we ?_;exact hK1 _ ⟨(k+1,m*10+(s[k].toNat-48)),by simp only;omega,hn⟩ (aP (by simp) (by simp;try omega)) (by simp only;omega)
   .have hb:(decide ((48:Int)<=(s[k].toNat:Int))&&decide ((s[k].toNat:Int)<=57))=false:=by simp only[At,sL];omega
    rw[hb]at c2;have hw5:i64.wrap (s[k].toNat:Int)=(s[k].toNat:Int):=by rw[wrap64]<;>omega
    rw[wW (jr hlt hd)]at*;have W:=aA hk1 (aA hg (aA hlt hw5));refine we ?_;exact aO results223
  .have hke:k=s.length:=by omega
   subst hke;rw[DM]at hi;have hp:=aHg h0 h1.2 hi;have c3:=iQ (m:Int) (by omega);rw[aHh]at c3;by_cases hm:m<=1000000000000
   .by_cases he:Lib.decDigits m=s
    .rw [eM ⟨hm,he⟩]at hp;rw[FR hp]at*;have hm':¬(1000000000000:Int)<(m:Int):=by omega
     have W:=aA hm' he;refine we ?_;exact aO results223
    .rw [eC (λh=>he h.2)]at hp
     rw[wW hp]at*;have hm':¬(1000000000000:Int)<(m:Int):=by omega
     have W:=aA hm' he;repeat' first|refine wf ?_|(refine sq ?_ ?_<;>intro hc<;>try exact hc.elim)|fail
     all_goals first
      |exact absurd ‹Lib.decDigits m=s› he
      |skip
     all_goals (try exact aO results223)
   .rw [eC (λh=>hm h.1)]at hp
    rw[wW hp]at*;have hm':(1000000000000:Int)<(m:Int):=by omega
    have W:=hm';refine we ?_;exact aO results223
 .rw [show(decide ((1:Int)<=(s.length:Int))&&decide ((s.length:Int)<=13))=false by simp only[At,sL];omega]at c1;rw[wW (Xq h1)];refine dN aK func223 ntmps223 ?_;refine bK ?_;exact aO results223
def aQt[aG prog](a b:Int):Ok prog 179 [.int .i64 a,.int .i64 b] (.int .i64 (min a b)):=by
 by_cases h:b<a
 .have hr:min a b=b:=by omega
  rw[hr];refine dN aK func179 ntmps179 ?_;have W:=h;refine we ?_;exact aO results179
 .have hr:min a b=a:=by omega
  rw[hr];refine dN aK func179 ntmps179 ?_;have W:=h;refine we ?_;exact aO results179
def KM[aG prog](s:bE)(c:UInt8)(hl:s.length<=1099511627776):Ok prog 177 [.str s,.int .u8 c.toNat] (.int .i64 (jQ c s:Nat)):=by
 refine dN aK func177 ntmps177 ?_;refine bK ?_;refine aT (ι:={k:Nat // k<=s.length/\∀x∈s.take k,x≠c}) (λt o i=>⟨bP t [(5,.int .i64 i.1)],o⟩)
  (λi=>s.length-i.1) ⟨0,by simp,by simp⟩ aP ?_
 rintro⟨k,hk,hi⟩ K1 hK1;simp only[bP,cH,cQ]at hK1⊢;have hk1:=tQ (k:=k);by_cases hlt:k<s.length
 .have hg:=aE hlt;have W:=aA hk1 (aA hg hlt);repeat' first|refine wf ?_|(refine sq ?_ ?_<;>intro hc<;>try exact hc.elim)|fail
  .have e:=F6 hlt (DA.1 (by omega)) hi;rw[e];all_goals (try exact aO results177)
  .exact hK1 _ ⟨k+1,by omega,fB hlt hi (λh=>hc (by rw[h]))⟩ aP (by simp only;omega)
 .have e:=Tf (nS (by omega) hi);rw[e];have W:=hk1;refine we ?_;exact aO results177
def Dt(p s:bE):Bool:=decide (p.length<=s.length)&&(s.take p.length == p)
def Mt[aG prog](s p:bE)(hl:s.length<=1099511627776)(hp:p.length<=1099511627776):Ok prog 235 [.str s,.str p] (.bool (Dt p s)):=by
 by_cases h:p.length<=s.length
 .have hi:(p.length:Int)<=(s.length:Int):=by omega
  have hr:Dt p s=(s.take p.length == p):=by simp[Dt,h]
  rw[hr];refine dN aK func235 ntmps235 ?_;have W:=aA h hi;refine we ?_;exact aO results235
 .have hi:¬(p.length:Int)<=(s.length:Int):=by omega
  have hr:Dt p s=false:=by simp[Dt,h]
  rw[hr];refine dN aK func235 ntmps235 ?_;have W:=aA h hi;refine we ?_;exact aO results235
def TD{p s:bE}(h:Dt p s=true):p.length<=s.length:=by simp only[Dt,eK,fY]at h;exact h.1
def VT[aG prog](s p:bE)(hl:s.length<=1099511627776)(hp:p.length<=1099511627776):Ok prog 189 [.str s,.str p] (.iL [.str (if Dt p s=true then s.drop p.length else s),.bool (Dt p s)]):=by
 have c1:=Mt s p hl hp;have h1:= @TD p s;generalize Dt p s=b at*;cases b
 .refine dN aK func189 ntmps189 ?_;refine bK ?_;exact aO results189
 .have h2:=h1 rfl;refine dN aK func189 ntmps189 ?_;have W:=h2;refine we ?_;exact aO results189
def FT[aG prog](s p:bE)(hl:s.length<=1099511627776)(hp:p.length<=1099511627776):Ok prog 134 [.str s,.str p] (.iL [.str (if Dt p s=true then s.drop p.length else s),.bool (Dt p s)]):=by have c1:=VT s p hl hp;generalize (if Dt p s=true then s.drop p.length else s)=q at*;generalize Dt p s=b at*;refine dN aK func134 ntmps134 ?_;refine bK ?_;exact aO results134
end Go.Proofs.YtanobkmhbpjnpaaGreatDoor
set_option maxRecDepth 100000
set_option maxHeartbeats 4000000
namespace Go.Proofs.YtanobkmhbpjnpaaGreatDoor
open Go.Aw Go.Shelf Go.RowKit Go.Lib Proofs.Tryz List IntKind
def Zb(w:World)(b off n c i vb voff vc:Nat)(C Cv:Array Value)(e ev:TypeId)(fz ZK:Nat×Nat)(olds eO:List Value)(hi:i<n)(hroom:n+1<=c)
  (hb:w.heap[b]? =some (.cells C e fz)) (hz:(C.size<=fz.1/\5=1)\/fz.2=0) (hc:dB w b off olds) (hol:olds.length=n*5) (h1o:∀v∈olds,v.oneCell'=true)
  (hfit:off+c*5<=C.size) (hmax:c<=maxLen) (jE:vb≠b) (hvb:w.heap[vb]? =some (.cells Cv ev ZK)) (hzv:(Cv.size<=ZK.1/\5=1)\/ZK.2=0) (hcv:dB w vb voff eO) (hnl:eO.length=5) (QO:∀v∈eO,v.oneCell'=true):
  Calls prog 152 #[.slice (some ⟨b,off,none⟩) n c,.int .i64 i,.slice (some ⟨vb,voff,none⟩) 1 vc] w λed w'=>∃v b' off' cap' C' e' Vz,ed= .returned v/\VP w w' b 5 (n+1) (olds.take (i*5)++eO++olds.drop (i*5)) v b' off' cap' C' e' Vz:=by
 have hfz:fz.2=0:=by rcases hz with⟨_,h⟩|h;cases h;exact h
 have aU7:ZK.2=0:=by rcases hzv with⟨_,h⟩|h;cases h;exact h
 have hC5:C.size≠0:=by omega
 have hfr:∀x,w.frozen? ⟨vb,x,none⟩=false:=λx=>by simp[World.frozen?,hvb,aU7]
 have hz2:¬((i:Int)=(n:Int)):=by omega
 have aIc:c<=9223372036854775807:=hmax;have hov:∀o lb cb,(callFunc 209 #[.slice (some ⟨vb,voff,none⟩) 1 vc,.slice (some ⟨b,o,none⟩) lb cb]).run prog w= .ok (.value (.bool false)) w:=λo lb cb=>by
  rw[run_callFunc_extern func209 (by kernel_rfl) (by kernel_rfl) (by kernel_rfl) (e:=Extern.SlicesOverlaps.overlaps #[37,37] #[4]) (by kernel_rfl),
   Lib.run_overlaps_apart w 37 4 67 Tryz.underlying37 5 Tryz.sizeOf67 ⟨vb,voff,none⟩ ⟨b,o,none⟩ 1 vc lb cb jE ev e Cv.size C.size (by simp[World.shape?,hvb]) (by simp[World.shape?,hb]) hC5 (hfr _) (hfr _)]
  rfl
 have aDb:(olds.drop (i*5)).length=(n-i)*5:=by rw[AN,hol];omega
 have hw1:i64.wrap ((i:Int)+1)=(i:Int)+1:=by rw[Dd];omega
 have hw2:i64.wrap ((n:Int)+1)=(n:Int)+1:=by rw[Dd];omega
 have mixed:prog.follows .mixedOrders=true:=by kernel_rfl
 have hb1:(0:Int)<=(i:Int)+1:=by omega
 have hin:i<=n:=by omega
 have hb2:¬(c=i+1):=by omega
 have hb3:(i:Int)<=(n:Int)+1:=by omega
 have hb4:¬(c=i):=by omega
 obtain⟨inf,KI,hsz⟩:=xF.1 (show(prog.info? 67).map (·.size)=some 5 by kernel_rfl);obtain⟨W1,hW1⟩:∃W1,W1=w.drew.setCells b (off+(i+1)*5) (olds.drop (i*5)):=⟨_,rfl⟩;have hWh:W1.heap=(w.setCells b (off+(i+1)*5) (olds.drop (i*5))).heap:=by rw[hW1];exact TA _ _ rfl
 have hWs:nZ w W1:=by rw[hW1];exact nZ.trans (b:=w.drew) ⟨rfl,rfl,rfl⟩ (nA _ _ _ _)
 have hcp1:∀ty,(Builtin.copy_ #[37,37] ty #[.slice (some ⟨b,off+(i+1)*5,none⟩) (n-i) (c-(i+1)),.slice (some ⟨b,off+i*5,none⟩) (n+1-i) (c-i)]).run prog w.drew= .ok (goInt ((n-i:Nat):Int)) W1:=λty=>by rw[hW1];exact FP Tryz.underlying37 KI (by simp only[Nat.min_def];split<;>omega) (by rw[aDb,hsz]) (show dB w.drew b (off+i*5) (olds.drop (i*5))from hc.drop) hb hz (by rw[aDb];omega) (λv hv=>h1o v (BW hv))
 obtain⟨C1,jc,Mq⟩:=mE b e fz (olds.drop (i*5)) (off+(i+1)*5) w C hb;rw[<-hWh]at jc;have hcp2:∀ty,(Builtin.copy_ #[37,37] ty #[.slice (some ⟨b,off+i*5,none⟩) (n+1-i) (c-i),.slice (some ⟨vb,voff,none⟩) 1 vc]).run prog W1= .ok (goInt ((1:Nat):Int)) (W1.setCells b (off+i*5) eO):=λty=>
  FP Tryz.underlying37 KI (by simp only[Nat.min_def];split<;>omega) (by rw[hnl,hsz]) (dB.heap (xP hcv (λh=>absurd h jE)) hWh) jc (by rw[Mq];exact hz) (by rw[Mq];omega) QO
 have fin:∃v b' off' cap' C' e' Vz,Ending.returned (.slice (some ⟨b,off,none⟩) (n+1) c)= .returned v/\VP w (W1.setCells b (off+i*5) eO) b 5 (n+1) (olds.take (i*5)++eO++olds.drop (i*5)) v b' off' cap' C' e' Vz:=by obtain⟨C',h⟩:=H9 (k:=5) (c:=c) hb hz hc hol hnl hi hroom hfit hmax hWh hWs;exact⟨_,_,_,_,_,_,_,rfl,h⟩
 go_enter func152,ntmps152
 go_wp2_with (simp only[hov])
 clear hb hz hc hol h1o hfit hmax hvb hzv hcv hnl QO hfz aU7 hC5 hfr hov aDb KI hsz hW1 hWh hWs jc Mq
 go_region_law_o (refine step_copy_runI rfl _ _ 37 37 rfl (.slice (some ⟨b,off+(i+1)*5,none⟩) (n-i) (c-(i+1))) (.slice (some ⟨b,off+i*5,none⟩) (n+1-i) (c-i)) (by simp[Act.eval,Act.put]) (by simp[Act.eval,Act.put]) (hcp1 _) ?_)
 go_wp2_with (at_builtin;refine wpList_copy_runI _ rfl _ _ 37 37 rfl _ _ rfl rfl (hcp2 _) ?_)
 go_ret
 exact fin
def ny(w:World)(b off n c i vb voff vc:Nat)(C Cv:Array Value)(e ev:TypeId)(fz ZK:Nat×Nat)(olds eO:List Value)(hi:i<n)(hroom:c<n+1)(hn:n<=1099511627776)
  (hb:w.heap[b]? =some (.cells C e fz)) (hz:(C.size<=fz.1/\5=1)\/fz.2=0) (hc:dB w b off olds) (hol:olds.length=n*5) (h1o:∀v∈olds,v.oneCell'=true)
  (hfit:off+c*5<=C.size) (hnc:n<=c) (hmax:c<=maxLen) (jE:vb≠b) (hvb:w.heap[vb]? =some (.cells Cv ev ZK)) (hzv:(Cv.size<=ZK.1/\5=1)\/ZK.2=0) (hcv:dB w vb voff eO) (hnl:eO.length=5) (QO:∀v∈eO,v.oneCell'=true):
  Calls prog 152 #[.slice (some ⟨b,off,none⟩) n c,.int .i64 i,.slice (some ⟨vb,voff,none⟩) 1 vc] w λed w'=>∃v b' off' cap' C' e' Vz,ed= .returned v/\VP w w' b 5 (n+1) (olds.take (i*5)++eO++olds.drop (i*5)) v b' off' cap' C' e' Vz:=by
 have hz2:¬((i:Int)=(n:Int)):=by omega
 have hz3:(c:Int)<(n:Int)+1:=by omega
 have hw1:i64.wrap ((i:Int)+1)=(i:Int)+1:=by rw[Dd];omega
 have hw2:i64.wrap ((n:Int)+1)=(n:Int)+1:=by rw[Dd];omega
 have hw3:i64.wrap ((n:Int)+1-(i:Int))=(n:Int)+1-(i:Int):=by rw[Dd];omega
 have mixed:prog.follows .mixedOrders=true:=by kernel_rfl
 have hb1:(0:Int)<=(i:Int)+1:=by omega
 have hin:i<=n:=by omega
 have hic:i<=c:=by omega
 have hb3:(i:Int)<=(n:Int)+1:=by omega
 have hb4:¬(c=i):=by omega
 have hlt:∀{x:Nat} {q},w.heap[x]? =some q->x<w.heap.size:=λh=>(yW.1 h).1
 have aDb:(olds.drop (i*5)).length=(n-i)*5:=by rw[AN,hol];omega
 have htl:(olds.take (i*5)).length=i*5:=by rw[pL,hol];omega
 obtain⟨inf,KI,hq⟩:=xF.1 (show(prog.info? 67).map (λi=>(i.size,i.bytes))=some (5,64)by kernel_rfl);obtain⟨hsz,hby⟩:=Prod.mk.inj hq;obtain⟨z,hz0,hzc⟩:∃z,inf.zero=some z/\z.cells.size=5:=by
  have h:=Tryz.zsz67;simp only[kZ,KI]at h;cases hz:inf.zero with
  |none=>simp[hz]at h
  |some z=>exact⟨z,rfl,by simpa [hz]using h⟩
 obtain⟨G,hG⟩:∃G,G=grownCap w (n+1) c 67:=⟨_,rfl⟩;have hGn:n+1<=G:=by rw[hG];exact grownCap_ge _ _ _ _
 have hGm:G<=maxLen:=by rw[hG];exact Ft _ _ _ _ (by simp[maxLen];omega)
 have hG63:G<=9223372036854775807:=hGm;obtain⟨ROW,hROW⟩:∃ROW:Array Value,ROW=(olds.take (i*5)).toArray++Builtin.zeroCells z.cells (n+1-i)++Builtin.zeroCells z.cells (G-(n+1)):=⟨_,rfl⟩;have hRs:ROW.size=G*5:=by rw[hROW];simp only[Array.size_append,size_toArray,size_zeroCells,hzc,htl,<-rK];congr 1;omega
 have hR:∀(j:Nat) (v:Value),(olds.take (i*5))[j]? =some v->ROW[j]? =some v:=λj v hv=>by rw[hROW,Array.append_assoc,wA (by simpa using(cU.1 hv).1)];simpa using hv
 obtain⟨W1,hW1⟩:∃W1,W1=w.drew.alloc (.cells ROW 67):=⟨_,rfl⟩;have hrz:∀ty,(Builtin.append_ #[37,3] ty #[.slice (some ⟨b,off,none⟩) i c,.int .i64 ((n:Int)+1-(i:Int))]).run prog w= .ok (.slice (some ⟨w.heap.size,0,none⟩) (n+1) G) W1:=λty=>by
  have h:=Lib.run_append_grow_zeros w 37 3 ty 67 inf z .i64 .i64 Tryz.underlying37 Tryz.underlying3 KI hz0 (some ⟨b,off,none⟩) i c (olds.take (i*5))
   (by rw[hsz];exact nD htl (show dB w.drew b off (olds.take (i*5))from hc.take)) (n+1-i) (by omega) (by omega) (by omega) (by omega) (by rw[hby];omega) (by rw[hby,show i+(n+1-i)=n+1 by omega];exact growslice_fits hroom (by omega))
  rw[show i+(n+1-i)=n+1 by omega,<-hG,<-hROW,<-hW1]at h;rw[show(n:Int)+1-(i:Int)=((n+1-i:Nat):Int)by omega];exact h
 have hN:W1.heap[w.heap.size]? =some (.cells ROW 67 (0,0)):=by rw[hW1];exact iT w.drew _
 have hO:∀x,x<w.heap.size->W1.heap[x]? =w.heap[x]?:=λx hx=>by rw[hW1];exact heap_alloc w.drew _ x hx
 have hs1:nZ w W1:=by rw[hW1];exact⟨rfl,rfl,rfl⟩
 obtain⟨W2,hW2⟩:∃W2,W2=W1.setCells w.heap.size (i*5) eO:=⟨_,rfl⟩;have hs2:nZ W1 W2.drew:=by rw[hW2];exact(nA _ _ _ _).trans ⟨rfl,rfl,rfl⟩
 have hcp1:∀ty,(Builtin.copy_ #[37,37] ty #[.slice (some ⟨w.heap.size,i*5,none⟩) (n+1-i) (G-i),.slice (some ⟨vb,voff,none⟩) 1 vc]).run prog W1= .ok (goInt ((1:Nat):Int)) W2:=λty=>by rw[hW2];exact FP Tryz.underlying37 KI (by simp only[Nat.min_def];split<;>omega) (by rw[hnl,hsz]) (hcv.same (hO _ (hlt hvb))) hN (q:=True) (.inr rfl) (by omega) QO
 obtain⟨C1,jc,Mq⟩:=mE w.heap.size 67 (0,0) eO (i*5) W1 ROW hN;rw[<-hW2]at jc;have hcp2:∀ty,(Builtin.copy_ #[37,37] ty #[.slice (some ⟨w.heap.size,(i+1)*5,none⟩) (n-i) (G-(i+1)),.slice (some ⟨b,off+i*5,none⟩) (n-i) (c-i)]).run prog W2.drew= .ok (goInt ((n-i:Nat):Int)) (W2.drew.setCells w.heap.size ((i+1)*5) (olds.drop (i*5))):=λty=>
  FP (w:=W2.drew) Tryz.underlying37 KI (by simp only[Nat.min_def];split<;>omega) (by rw[aDb,hsz]) (show dB W2.drew b (off+i*5) (olds.drop (i*5))from by
   refine dB.heap (w:=W2) ?_ rfl;rw[hW2];exact xP (hc.drop.same (hO _ (hlt hb))) (λh=>absurd h (by have:=hlt hb;omega))) (show W2.drew.heap[w.heap.size]? =_ from jc) (q:=True) (.inr rfl) (by rw[Mq];omega) (λv hv=>h1o v (BW hv))
 have fin:∃v b' off' cap' C' e' Vz,Ending.returned (.slice (some ⟨w.heap.size,0,none⟩) (n+1) G)= .returned v/\VP w (W2.drew.setCells w.heap.size ((i+1)*5) (olds.drop (i*5))) b 5 (n+1) (olds.take (i*5)++eO++olds.drop (i*5)) v b' off' cap' C' e' Vz:=by obtain⟨C',h⟩:=aCs (k:=5) (b:=b) (cap:=G) hol hnl hi hR (by omega) hGn hGm hN hO hs1 (show W2.drew.heap=_ by rw[hW2];rfl) hs2;exact⟨_,_,_,_,_,_,_,rfl,h⟩
 have hG4:¬(G=i):=by omega
 have hG5:¬(G=i+1):=by omega
 clear hb hz hc hol h1o hfit hmax hvb hzv hcv hnl QO aDb htl KI hq hsz hby hz0 hzc hG hROW hRs hR hW1 hN hO hs1 hW2 hs2 jc Mq hlt
 go_enter func152,ntmps152
 go_wp2_with (first
  |(at_builtin;refine Lib.wpList_append_run _ rfl _ _ _ _ rfl _ _ rfl rfl _ _ (hrz _) ?_)
  |(at_builtin;refine wpList_copy_runI _ rfl _ _ 37 37 rfl _ _ rfl rfl (hcp1 _) ?_))
 go_region_law_o (refine step_copy_runI rfl _ _ 37 37 rfl (.slice (some ⟨w.heap.size,(i+1)*5,none⟩) (n-i) (G-(i+1))) (.slice (some ⟨b,off+i*5,none⟩) (n-i) (c-i)) (by simp[Act.eval,Act.put]) (by simp[Act.eval,Act.put]) (hcp2 _) ?_)
 go_wp2
 go_ret
 exact fin
def JX(w:World)(base:Option Addr)(n c vb voff vc:Nat)(v':Value)(w':World)(Q:Ending->World->Prop)(hnc:n<=c)(hmax:c<=9223372036854775807)(hnil:base=none->n=0)
  (hrun:∀ty,(Builtin.append_ #[37,37] ty #[.slice base n c,.slice (some ⟨vb,voff,none⟩) 1 vc]).run prog w= .ok v' w') (fin:Q (.returned v') w'):
  Calls prog 152 #[.slice base n c,.int .i64 n,.slice (some ⟨vb,voff,none⟩) 1 vc] w Q:=by
 have mixed:prog.follows .mixedOrders=true:=by kernel_rfl
 go_enter func152,ntmps152
 cases base with
 |none=>
  have h0:=hnil rfl;subst h0
  go_wp2_with (at_builtin;refine Lib.wpList_append_run _ rfl _ _ _ _ rfl _ _ rfl rfl _ _ (hrun _) ?_)
  exact fin
 |some a=>
  obtain⟨ab,ao,asp⟩:=a
  go_wp2_with (at_builtin;refine Lib.wpList_append_run _ rfl _ _ _ _ rfl _ _ rfl rfl _ _ (hrun _) ?_)
  all_goals exact fin
end Go.Proofs.YtanobkmhbpjnpaaGreatDoor
