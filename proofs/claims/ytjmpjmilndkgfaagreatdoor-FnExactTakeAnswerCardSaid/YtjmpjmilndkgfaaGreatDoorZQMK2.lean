/- Proved here: steps towards the statement of this claim. No condition. -/
import Derived.Test.YtjmpjmilndkgfaaGreatDoorZQMK1
import Derived.Deep.WholeRow
import Derived.Test.YtjmpjmilndkgfaaGreatDoorZQAwIns
import Derived.Test.YtjmpjmilndkgfaaGreatDoorZQ1
set_option linter.all false
set_option maxRecDepth 100000
set_option maxHeartbeats 4000000
namespace Go.Proofs.YtjmpjmilndkgfaaGreatDoor
open Go.Aw Go.RowKit Go.Lib Proofs.Tryz List IntKind
def DU (n:Nat):Nat:=if n=91 then 60 else if n=93 then 62 else n
def rO (c:UInt8):UInt8:=if c=91 then 60 else if c=93 then 62 else c
theorem BZ (c:UInt8):(rO c).toNat=DU c.toNat:=by
 unfold rO DU;by_cases h1:c=91
 .subst h1;rfl
 .have h1':¬c.toNat=91:=λh=>h1 (Ds h)
  rw [cY h1,cY h1'];by_cases h2:c=93
  .subst h2;rfl
  .have h2':¬c.toNat=93:=λh=>h2 (Ds h)
   rw [cY h2,cY h2']
structure Ext (w w' : World) : Prop where
  size : w.heap.size <= w'.heap.size
  old : ∀ b, b < w.heap.size -> w'.heap[b]? = w.heap[b]?
  same : nG w w'
theorem Ext.refl (w:World):Ext w w:=⟨eE _,λ_ _=>rfl,nG.rfl⟩
theorem Ext.trans {a b c:World} (h:Ext a b) (k:Ext b c):Ext a c:=⟨lO h.size k.size,λx hx=>(k.old x (oX hx h.size)).trans (h.old x hx),h.same.trans k.same⟩
theorem Ext.cell {w w':World} (h:Ext w w') {b:Nat} (hb:b < w.heap.size) (j:Nat):w'.cell? ⟨b,j,none⟩=w.cell? ⟨b,j,none⟩:=by simp [World.cell?,h.old b hb]
theorem Ext.frozen {w w':World} (h:Ext w w') {b:Nat} (hb:b < w.heap.size) (j:Nat):w'.frozen? ⟨b,j,none⟩=w.frozen? ⟨b,j,none⟩:=by simp [World.frozen?,h.old b hb]
theorem uM (w:World) (b o:Nat) (v:Value) {k:Nat} (h:k≠b):(w.setCell ⟨b,o,none⟩ v).heap[k]? =w.heap[k]?:=by have:=Go.Aw.lS b k h [v] o w;simpa [World.setCells] using this
theorem Ext.set {w w':World} (h:Ext w w') {b:Nat} (hb:w.heap.size<=b) (o:Nat) (v:Value):Ext w (w'.setCell ⟨b,o,none⟩ v):=by have h1:=Go.Aw.gX b [v] o w';have h2:=Go.Aw.kP b [v] o w';simp only [World.setCells] at h1 h2;exact ⟨by rw [h1];exact h.size,λx hx=>(uM w' b o v (by omega)).trans (h.old x hx),h.same.trans h2⟩
def Buf (w wr:World) (s:ByteArray) (k:Nat) (v:Value):Prop:=
 (v= .slice none 0 0/\∀j (h:j < s.size),j < k->rO s[j]=s[j])\/
 (∃B cap:Nat,v= .slice (some ⟨B,0,none⟩) s.size cap/\w.heap.size<=B/\∀j (h:j < s.size),wr.cell? ⟨B,j,none⟩=some (.int .u8 ((if j < k then rO s[j] else s[j]).toNat:Nat))/\wr.frozen? ⟨B,j,none⟩=false)
theorem aCm (w:World) (nb:Nat) (s:ByteArray) (hs:s.size<=1099511627776) (hnb:nb < w.heap.size) (htab:∀j:Nat,j < 256->w.cell? ⟨nb,j,none⟩=some (.int .u8 (DU j:Nat))):
  Calls prog 390 #[.pointer (some ⟨nb,0,none⟩),.string s] w λe w'=>e= .returned (.string ⟨(s.data.toList.map rO).toArray⟩)/\Ext w w':=by
 have qT:∀(w:World) (a:Option Addr) (n c n' c':Nat),(binOp .eql 182 (.slice a n c) (.slice none n' c')).run prog w= .ok (.bool a.isNone) w:=λw a n c n' c'=>Lib.run_eql_slice_nil w _ _ a n c n' c' Tryz.underlying182
 go_enter func390,ntmps390
 go_wp2
 go_loopw [5,6] (λv i wr=>∃k:Nat,k<=s.size/\i= .int .i64 k/\Ext w wr/\Buf w wr s k v) (λ_ i _=>s.size - (RowKit.intOf i).toNat)
 case atStart=>exact ⟨0,by omega,rfl,Ext.refl w,.inl ⟨rfl,λj h h0=>absurd h0 (by omega)⟩⟩
 case round=>
  obtain ⟨k,hk,rfl,hx,hbuf⟩:=hrel;by_cases hlt:k < s.size
  .have hi:(0:Int)<=(k:Int)/\(k:Int) < (s.size:Int):=by omega
   have hc:∀j:Nat,j < 256->wr.cell? ⟨nb,j,none⟩=some (.int .u8 (DU j:Nat)):=λj hj=>(hx.cell hnb j).trans (htab j hj)
   have hcb:(0:Int)<=((s[k].toNat:Nat):Int)/\((s[k].toNat:Nat):Int) < 256:=⟨by omega,by have:=CA s[k];omega⟩;have hck:=hc s[k].toNat (CA s[k]);by_cases hne:rO s[k]=s[k]
   .have hne2:((DU s[k].toNat:Nat):Int)=((s[k].toNat:Nat):Int):=by rw [<-BZ,hne]
    have hb2:Buf w wr s (k+1) u5:=by
     rcases hbuf with ⟨h1,h2⟩|⟨B,cap,h1,h2,h3⟩
     .refine .inl ⟨h1,λj hj hj2=> ?_⟩
      rcases yW j k with h|h
      .exact h2 j hj h
      .obtain rfl:j=k:=by omega
       exact hne
     .refine .inr ⟨B,cap,h1,h2,λj hj=>⟨?_,(h3 j hj).2⟩⟩
      rw [(h3 j hj).1];rcases Nat.lt_trichotomy j k with h|h|h
      .rw [eK h,eK (by omega)]
      .subst h;rw [cY (by omega),eK (by omega),hne]
      .rw [cY (by omega),cY (by omega)]
    clear hbuf htab hc
    go_wp2
    exact ⟨⟨k+1,by omega,by simp,hx,hb2⟩,by simp [RowKit.intOf]<;>omega⟩
   .have hne2:¬((DU s[k].toNat:Nat):Int)=((s[k].toNat:Nat):Int):=λh=>hne (by
     have h2:DU s[k].toNat=s[k].toNat:=by exact_mod_cast h
     rw [<-BZ] at h2;exact Ds h2)
    rcases hbuf with ⟨rfl,h2⟩|⟨B,cap,rfl,h2,h3⟩
    .have hcv:=Lib.run_convert_string_bytes (P:=prog) wr 9 182 5 s Tryz.underlying9 Tryz.underlying182 Tryz.underlying5;have hnew:=Lib.bytesWorld_at_new wr 5 s;have hbs:=Lib.bytesWorld_size wr 5 s;have hold:=Lib.bytesWorld_at_old wr 5 s;have hcell:=Lib.bytesWorld_cell wr 5 s;have hsm:nG wr (Lib.bytesWorld wr 5 s):=⟨rfl,rfl,rfl⟩;have hcs:s.size<=(Lib.bytesCells wr 5 s).size:=by simp [Lib.bytesCells]
     generalize Lib.bytesCells wr 5 s=C1 at *;generalize Lib.bytesWorld wr 5 s=W1 at *;have hx1:Ext w W1:=hx.trans ⟨by omega,hold,hsm⟩;have aU8:W1.cell? ⟨nb,s[k].toNat,none⟩=some (.int .u8 (DU s[k].toNat:Nat)):=(hx1.cell hnb _).trans (htab _ (CA s[k]));have hbj:∀j (h:j < s.size),W1.cell? ⟨wr.heap.size,j,none⟩=some (.int .u8 (s[j].toNat:Nat)):=λj hj=>by
      rw [hcell j hj];have:s.data.toList.getD j 0=s[j]:=by rw [iS,aE (by simpa using hj)];rfl
      rw [this]
     have hbk:=hbj k hlt;have hbz:∀j,j < s.size->W1.frozen? ⟨wr.heap.size,j,none⟩=false:=λj hj=>by simp [World.frozen?,hnew];have:=hcs;omega
     have aU9:=hbz k hlt;have hfin:Ext w (W1.setCell ⟨wr.heap.size,k,none⟩ (.int .u8 (DU s[k].toNat:Nat)))/\Buf w (W1.setCell ⟨wr.heap.size,k,none⟩ (.int .u8 (DU s[k].toNat:Nat))) s (k+1) (.slice (some ⟨wr.heap.size,0,none⟩) s.size (grownCap wr s.size 0 5)):=by
      refine ⟨hx1.set hx.size k _,.inr ⟨_,_,rfl,hx.size,λj hj=>⟨?_,by simpa using hbz j hj⟩⟩⟩;by_cases hjk:j=k
      .subst hjk;rw [pL _ _ _ hbk,eK (by omega),BZ]
      .rw [gO _ _ _ _ (by simp<;>omega),hbj j hj];by_cases hj2:j < k+1
       .rw [eK hj2,h2 j hj (by omega)]
       .rw [cY hj2]
     clear htab hc hold hnew hbs hsm hcell hcs hbj hbz h2
     go_wp2
     exact ⟨⟨k+1,by omega,by simp,hfin.1,hfin.2⟩,by simp [RowKit.intOf]<;>omega⟩
    .have hbk:=(h3 k hlt).1;have hbz:=(h3 k hlt).2;have hfin:Ext w (wr.setCell ⟨B,k,none⟩ (.int .u8 (DU s[k].toNat:Nat)))/\Buf w (wr.setCell ⟨B,k,none⟩ (.int .u8 (DU s[k].toNat:Nat))) s (k+1) (.slice (some ⟨B,0,none⟩) s.size cap):=by
      refine ⟨hx.set h2 k _,.inr ⟨_,_,rfl,h2,λj hj=>⟨?_,by simpa using (h3 j hj).2⟩⟩⟩;by_cases hjk:j=k
      .subst hjk;rw [pL _ _ _ hbk,eK (by omega),BZ]
      .rw [gO _ _ _ _ (by simp<;>omega),(h3 j hj).1];by_cases hj2:j < k
       .rw [eK hj2,eK (by omega)]
       .rw [cY hj2,cY (by omega)]
     clear htab hc h3
     go_wp2
     exact ⟨⟨k+1,by omega,by simp,hfin.1,hfin.2⟩,by simp [RowKit.intOf]<;>omega⟩
  .have hki:k=s.size:=by omega
   have hi:¬(k:Int) < (s.size:Int):=by omega
   rcases hbuf with ⟨rfl,h2⟩|⟨B,cap,rfl,h2,h3⟩
   .have h4:s.data.toList.map rO=s.data.toList:=by
     refine ext_getElem (by simp) λj h5 h6=> ?_
     have h7:j < s.size:=by simpa using h6
     rw [pT];exact h2 j h7 (by omega)
    clear h2
    go_wp2
    refine bodyPost_ret (v:= .string s) (by simp [results,results390,go_sem]) rfl ?_;exact ⟨by first|rfl|(rw [h4];done),hx⟩
   .have hback:(convert 182 9 (.slice (some ⟨B,0,none⟩) s.size cap)).run prog wr= .ok (.string ⟨(s.data.toList.map rO).toArray⟩) wr:=by
     have h4:=run_convert_bytes_back (P:=prog) wr 182 9 5 ⟨B,0,none⟩ cap (s.data.toList.map rO) Tryz.underlying182 Tryz.underlying5 Tryz.underlying9 (λj hj=>by
      have h7:j < s.size:=by simpa using hj
      have h5:=(h3 j h7).1;rw [eK (by omega)] at h5;have e:(⟨B,0,none⟩:Addr).add j=⟨B,j,none⟩:=by
       unfold Addr.add;split
       .rename_i h0;subst h0;rfl
       .simp
      rw [e,pT];exact h5)
     simpa using h4
    clear h3
    go_wp2
    go_ret
    exact ⟨rfl,hx⟩
end Go.Proofs.YtjmpjmilndkgfaaGreatDoor
set_option maxRecDepth 100000
set_option maxHeartbeats 4000000
namespace Go.Proofs.YtjmpjmilndkgfaaGreatDoor
open Go.Aw Go.RowKit Go.Lib Proofs.Tryz List IntKind
def mkPairs:List Value:=[.string ⟨#[91]⟩,.string ⟨#[60]⟩,.string ⟨#[93]⟩,.string ⟨#[62]⟩]
def jk (q j:Nat):Nat:=if 2<=q/\j=91 then 60 else if 1<=q/\j=93 then 62 else j
theorem aCn (w:World) (rb sb sc:Nat) (hl:w.cell? ⟨rb,4,none⟩=some (.slice (some ⟨sb,0,none⟩) 4 sc)) (hc:bN w sb 0 mkPairs):
  Calls prog 323 #[.pointer (some ⟨rb,0,none⟩)] w λe w'=>∃nb,e= .returned (.iface 342 (.pointer (some ⟨nb,0,none⟩)))/\w.heap.size<=nb/\nb < w'.heap.size/\(∀j:Nat,j < 256->w'.cell? ⟨nb,j,none⟩=some (.int .u8 (DU j:Nat)))/\Ext w w':=by
 have h0:w.cell? ⟨sb,0,none⟩=some (.string ⟨#[91]⟩):=hc 0 _ rfl;have h1:w.cell? ⟨sb,1,none⟩=some (.string ⟨#[60]⟩):=hc 1 _ rfl;have h2:w.cell? ⟨sb,2,none⟩=some (.string ⟨#[93]⟩):=hc 2 _ rfl;have h3:w.cell? ⟨sb,3,none⟩=some (.string ⟨#[62]⟩):=hc 3 _ rfl
 go_enter func323,ntmps323
 go_wp2
 go_loopw [4,5] (λa i wr=>w=wr/\a= .bool true/\∃k:Nat,k<=2/\i= .int .i64 ((2 * k:Nat):Int)) (λ_ i _=>4 - (RowKit.intOf i).toNat)
 case atStart=>exact ⟨rfl,rfl,0,by omega,rfl⟩
 case round=>
  obtain ⟨rfl,rfl,k,hk,rfl⟩:=hrel;have hk3:k=0\/k=1\/k=2:=by omega
  rcases hk3 with rfl|rfl|rfl
  .go_wp2
   exact ⟨⟨trivial,rfl,1,by omega,rfl⟩,by simp [RowKit.intOf]⟩
  .go_wp2
   exact ⟨⟨trivial,rfl,2,by omega,rfl⟩,by simp [RowKit.intOf]⟩
  .have hst:=run_storeCells_new (P:=prog) w 341 Tryz.zeroCells341 Tryz.zeroCells341 (by kernel_rfl) rfl (by kernel_rfl)
   go_wp2
   have hx0:Ext w (w.alloc (.cells Tryz.zeroCells341 341)):=⟨by simp,λb hb=>heap_alloc w _ b hb,⟨rfl,rfl,rfl⟩⟩;have hs0:(w.alloc (.cells Tryz.zeroCells341 341)).heap.size=w.heap.size+1:=by simp
   have hz:Tryz.zeroCells341=Array.replicate 256 (.int .u8 0):=by kernel_rfl
   have hself:=fV w (.cells Tryz.zeroCells341 341);generalize w.alloc (.cells Tryz.zeroCells341 341)=W0 at *;rw [hz] at hself;have hc0:∀j:Nat,j < 256->W0.cell? ⟨w.heap.size,j,none⟩=some (.int .u8 ((0:Nat):Int))/\W0.frozen? ⟨w.heap.size,j,none⟩=false:=λj hj=>
    ⟨by simp [World.cell?,hself,hj],by simp [World.frozen?,hself]⟩
   clear hz hself hst
   go_loopw [61] (λi w2=>∃k:Nat,k<=256/\i= .int .i64 k/\Ext w w2/\w.heap.size < w2.heap.size/\∀j:Nat,j < 256->w2.cell? ⟨w.heap.size,j,none⟩=some (.int .u8 ((if j < k then j else 0:Nat):Int))/\w2.frozen? ⟨w.heap.size,j,none⟩=false) (λi _=>256 - (RowKit.intOf i).toNat)
   case atStart=>exact ⟨0,by omega,rfl,hx0,by omega,λj hj=>by simpa using hc0 j hj⟩
   case round=>
    clear hc0;obtain ⟨k,hk,rfl,hx,hsz,hcs⟩:=hrel;by_cases hlt:k < 256
    .have hki:(k:Int) < 256:=by omega
     have aVa:(0:Int)<=(k:Int)/\(k:Int) < 256:=by omega
     have hwk:IntKind.u8.wrap (k:Int)=(k:Int):=by rw [IntKind.wrap_u8];omega
     have hck:=(hcs k hlt).1;have hfk:=(hcs k hlt).2;rw [cY (by omega)] at hck;have hfin:∀j:Nat,j < 256->(wr.setCell ⟨w.heap.size,k,none⟩ (.int .u8 (k:Int))).cell? ⟨w.heap.size,j,none⟩=some (.int .u8 ((if j < k+1 then j else 0:Nat):Int))/\(wr.setCell ⟨w.heap.size,k,none⟩ (.int .u8 (k:Int))).frozen? ⟨w.heap.size,j,none⟩=false:=λj hj=>by
      refine ⟨?_,by simpa using (hcs j hj).2⟩;by_cases hjk:j=k
      .subst hjk;rw [pL _ _ _ hck,eK (by omega)]
      .rw [gO _ _ _ _ (by simp<;>omega),(hcs j hj).1];by_cases hj2:j < k
       .rw [eK hj2,eK (by omega)]
       .rw [cY hj2,cY (by omega)]
     have hxs:=hx.set (eE _) k (.int .u8 (k:Int));have Lt:w.heap.size < (wr.setCell ⟨w.heap.size,k,none⟩ (.int .u8 (k:Int))).heap.size:=by simpa using hsz
     clear hcs
     go_wp2
     exact ⟨⟨k+1,by omega,by simp,hxs,Lt,hfin⟩,by simp [RowKit.intOf]<;>omega⟩
    .have hki:¬(k:Int) < 256:=by omega
     have aRh:k=256:=by omega
     subst aRh;have hcs2:∀j:Nat,j < 256->wr.cell? ⟨w.heap.size,j,none⟩=some (.int .u8 ((jk 0 j:Nat):Int))/\wr.frozen? ⟨w.heap.size,j,none⟩=false:=λj hj=>by have:=hcs j hj;rw [eK hj] at this;exact this
     have hsb:sb < w.heap.size:=World.block_lt_of_cell? _ _ h0;clear hcs
     go_wp2
     have f91:∀h,((⟨#[91]⟩:ByteArray)[0]'h).toNat=91:=λ_=>rfl
     have f93:∀h,((⟨#[93]⟩:ByteArray)[0]'h).toNat=93:=λ_=>rfl
     have f60:∀h,((⟨#[60]⟩:ByteArray)[0]'h).toNat=60:=λ_=>rfl
     have f62:∀h,((⟨#[62]⟩:ByteArray)[0]'h).toNat=62:=λ_=>rfl
     have e91:(⟨#[91]⟩:ByteArray).size=1:=rfl;have e93:(⟨#[93]⟩:ByteArray).size=1:=rfl;have e60:(⟨#[60]⟩:ByteArray).size=1:=rfl;have e62:(⟨#[62]⟩:ByteArray).size=1:=rfl;generalize hW2:wr=W2 at *;clear hW2
     go_loopw [8] (λi w3=>∃q:Nat,q<=2/\i= .int .i64 (2 - 2 * (q:Int))/\Ext w w3/\w.heap.size < w3.heap.size/\∀j:Nat,j < 256->w3.cell? ⟨w.heap.size,j,none⟩=some (.int .u8 ((jk q j:Nat):Int))/\w3.frozen? ⟨w.heap.size,j,none⟩=false) (λi _=>(RowKit.intOf i+2).toNat)
     case atStart=>exact ⟨0,by omega,rfl,hx,hsz,hcs2⟩
     case round=>
      clear hcs2 hx hsz;obtain ⟨q,hq,rfl,hx,hsz,hcs⟩:=hrel;have g0:=(hx.cell hsb 0).trans h0;have g1:=(hx.cell hsb 1).trans h1;have g2:=(hx.cell hsb 2).trans h2;have g3:=(hx.cell hsb 3).trans h3;clear h0 h1 h2 h3;have hk3:q=0\/q=1\/q=2:=by omega
      rcases hk3 with rfl|rfl|rfl
      .have hck:=(hcs 93 (by omega)).1;have hfk:=(hcs 93 (by omega)).2;have hxs:=hx.set (eE _) 93 (.int .u8 62);have Lt:w.heap.size < (wr.setCell ⟨w.heap.size,93,none⟩ (.int .u8 62)).heap.size:=by simpa using hsz
       have hfin:∀j:Nat,j < 256->(wr.setCell ⟨w.heap.size,93,none⟩ (.int .u8 62)).cell? ⟨w.heap.size,j,none⟩=some (.int .u8 ((jk 1 j:Nat):Int))/\(wr.setCell ⟨w.heap.size,93,none⟩ (.int .u8 62)).frozen? ⟨w.heap.size,j,none⟩=false:=λj hj=>by
        refine ⟨?_,by simpa using (hcs j hj).2⟩;by_cases hjk:j=93
        .subst hjk;rw [pL _ _ _ hck];rfl
        .rw [gO _ _ _ _ (by simp<;>omega),(hcs j hj).1];simp [jk,hjk]
       clear hcs
       go_wp2
       exact ⟨⟨1,by omega,rfl,hxs,Lt,hfin⟩,by simp [RowKit.intOf]⟩
      .have hck:=(hcs 91 (by omega)).1;have hfk:=(hcs 91 (by omega)).2;have hxs:=hx.set (eE _) 91 (.int .u8 60);have Lt:w.heap.size < (wr.setCell ⟨w.heap.size,91,none⟩ (.int .u8 60)).heap.size:=by simpa using hsz
       have hfin:∀j:Nat,j < 256->(wr.setCell ⟨w.heap.size,91,none⟩ (.int .u8 60)).cell? ⟨w.heap.size,j,none⟩=some (.int .u8 ((jk 2 j:Nat):Int))/\(wr.setCell ⟨w.heap.size,91,none⟩ (.int .u8 60)).frozen? ⟨w.heap.size,j,none⟩=false:=λj hj=>by
        refine ⟨?_,by simpa using (hcs j hj).2⟩;by_cases hjk:j=91
        .subst hjk;rw [pL _ _ _ hck];rfl
        .rw [gO _ _ _ _ (by simp<;>omega),(hcs j hj).1];simp [jk,hjk]
       clear hcs
       go_wp2
       exact ⟨⟨2,by omega,rfl,hxs,Lt,hfin⟩,by simp [RowKit.intOf]⟩
      .have hfin:∀j:Nat,j < 256->wr.cell? ⟨w.heap.size,j,none⟩=some (.int .u8 ((DU j:Nat):Int)):=λj hj=>by
        rw [(hcs j hj).1];simp [jk,DU]
       clear hcs
       go_wp2
       go_ret
       exact ⟨w.heap.size,rfl,eE _,hsz,hfin,hx⟩
end Go.Proofs.YtjmpjmilndkgfaaGreatDoor
set_option maxRecDepth 100000
set_option maxHeartbeats 4000000
namespace Go.Proofs.YtjmpjmilndkgfaaGreatDoor
open Go.Aw Go.RowKit Go.Lib Proofs.Tryz List IntKind
theorem WA (w:World) (rb sb sc:Nat) (r0:Value) (hrb:rb < w.heap.size) (hr:w.cell? ⟨rb,3,none⟩=some r0) (fr:∀j,w.frozen? ⟨rb,j,none⟩=false) (hl:w.cell? ⟨rb,4,none⟩=some (.slice (some ⟨sb,0,none⟩) 4 sc)) (hc:bN w sb 0 mkPairs):
  Calls prog 312 #[.pointer (some ⟨rb,0,none⟩)] w λe w'=>e= .returned (.tuple #[])/\∃nb w1,w.heap.size<=nb/\nb < w1.heap.size/\(∀j:Nat,j < 256->w1.cell? ⟨nb,j,none⟩=some (.int .u8 (DU j:Nat)))/\Ext w w1/\
   w'=(w1.setCell ⟨rb,3,none⟩ (.iface 342 (.pointer (some ⟨nb,0,none⟩)))).setCell ⟨rb,4,none⟩ (.slice none 0 0):=by
 go_enter func312,ntmps312
 go_wp2_with (go_at_call 323;refine (aCn w rb sb sc hl hc).mono ?_;rintro e w1 ⟨nb,rfl,hn1,hn2,hn3,hn4⟩;have k3:=(hn4.cell hrb 3).trans hr;have k4:=(hn4.cell hrb 4).trans hl;have z3:=(hn4.frozen hrb 3).trans (fr 3);have z4:=(hn4.frozen hrb 4).trans (fr 4))
 go_end0
 exact ⟨rfl,nb,w1,hn1,hn2,hn3,hn4,rfl⟩
theorem aG0 (w:World) (rb sb sc:Nat) (r0:Value) (hrb:rb < w.heap.size) (h0:w.cell? ⟨rb,0,none⟩=some (.int .u32 0)) (h1:w.cell? ⟨rb,1,none⟩=some (.int .i32 0)) (hr:w.cell? ⟨rb,3,none⟩=some r0) (fr:∀j,w.frozen? ⟨rb,j,none⟩=false)
  (hl:w.cell? ⟨rb,4,none⟩=some (.slice (some ⟨sb,0,none⟩) 4 sc)) (hc:bN w sb 0 mkPairs) (hsb:sb≠rb):
  Calls prog 322 #[.pointer (some ⟨rb,0,none⟩),.func (.func 312) #[.pointer (some ⟨rb,0,none⟩)] #[]] w λe w'=>e= .returned (.tuple #[])/\∃nb,w.heap.size<=nb/\nb < w'.heap.size/\(∀j:Nat,j < 256->w'.cell? ⟨nb,j,none⟩=some (.int .u8 (DU j:Nat)))/\
   w'.cell? ⟨rb,3,none⟩=some (.iface 342 (.pointer (some ⟨nb,0,none⟩)))/\w.heap.size<=w'.heap.size/\(∀b,b < w.heap.size->b≠rb->w'.heap[b]? =w.heap[b]?)/\nG w w':=by
 have hnot:∀(x:Bool) (w:World),(Op.unary .not (.bool x)).run prog w= .ok (.bool (!x)) w:=λ_ _=>rfl
 have ho:∀i j:Nat,i≠j->(⟨rb,i,none⟩:Addr)≠⟨rb,j,none⟩:=λi j h e=>h (by simpa using e)
 generalize hWL:w.setCell ⟨rb,1,none⟩ (.int .i32 1)=WL;have l0:WL.cell? ⟨rb,0,none⟩=some (.int .u32 0):=by rw [<-hWL,gO _ _ _ _ (ho _ _ (by decide))];exact h0
 have l1:WL.cell? ⟨rb,1,none⟩=some (.int .i32 1):=by rw [<-hWL];exact pL _ _ _ h1
 have l3:WL.cell? ⟨rb,3,none⟩=some r0:=by rw [<-hWL,gO _ _ _ _ (ho _ _ (by decide))];exact hr
 have l4:WL.cell? ⟨rb,4,none⟩=some (.slice (some ⟨sb,0,none⟩) 4 sc):=by rw [<-hWL,gO _ _ _ _ (ho _ _ (by decide))];exact hl
 have lz:∀j,WL.frozen? ⟨rb,j,none⟩=false:=λj=>by rw [<-hWL];simpa using fr j
 have lc:bN WL sb 0 mkPairs:=λj v hv=>by rw [<-hWL,gO _ _ _ _ (by simp [As hsb])];exact hc j v hv
 have lh:∀b,b≠rb->WL.heap[b]? =w.heap[b]?:=λb hb=>by rw [<-hWL];exact uM w rb 1 _ hb
 have lsz:WL.heap.size=w.heap.size:=by have:=Go.Aw.gX rb [.int .i32 1] 1 w;simpa only [World.setCells,hWL] using this
 have lsm:nG w WL:=by have:=Go.Aw.kP rb [.int .i32 1] 1 w;simpa only [World.setCells,hWL] using this
 have hld:=run_call_load (P:=prog) func331 (by kernel_rfl) (by kernel_rfl) (by kernel_rfl) .u32 (by kernel_rfl) (w:=WL) (a:=⟨rb,0,none⟩) (x:=0) l0
 go_enter_defers func322,ntmps322
 go_wp2_with (first|(go_at_call 332;refine (aGz ⟨rb,1,none⟩ _ h1 (fr 1)).mono ?_;rintro e w' ⟨rfl,rfl⟩;rw [hWL])|(go_at_call 312;refine (WA WL rb sb sc r0 (by omega) l3 lz l4 lc).mono ?_;rintro e w' ⟨rfl,nb,w1,n1,n2,n3,n4,rfl⟩)|(go_at_call 321;go_in))
 have hrl:rb < WL.heap.size:=by omega
 generalize hW5:(w1.setCell ⟨rb,3,none⟩ (.iface 342 (.pointer (some ⟨nb,0,none⟩)))).setCell ⟨rb,4,none⟩ (.slice none 0 0)=W5;have p0:W5.cell? ⟨rb,0,none⟩=some (.int .u32 0):=by rw [<-hW5,gO _ _ _ _ (ho _ _ (by decide)),gO _ _ _ _ (ho _ _ (by decide))];exact (n4.cell hrl 0).trans l0
 have p1:W5.cell? ⟨rb,1,none⟩=some (.int .i32 1):=by rw [<-hW5,gO _ _ _ _ (ho _ _ (by decide)),gO _ _ _ _ (ho _ _ (by decide))];exact (n4.cell hrl 1).trans l1
 have pz:∀j,W5.frozen? ⟨rb,j,none⟩=false:=λj=>by rw [<-hW5];simpa using (n4.frozen hrl j).trans (lz j)
 refine leaves_cons (f:=334) (args:=#[.pointer (some ⟨rb,0,none⟩),.bool true]) (by simp) (by simp [go_sem]) ?_;refine (aCl ⟨rb,0,none⟩ (.int .u32 0) .returning _ p0 (pz 0)).mono ?_;rintro e u' w'' ⟨rfl,rfl,rfl⟩;refine leaves_cons (f:=333) (args:=#[.pointer (some ⟨rb,1,none⟩)]) (by simp [settle]) (by simp [go_sem]) ?_;refine (F7 ⟨rb,1,none⟩ _ _ (by rw [gO _ _ _ _ (ho _ _ (by decide)),World.cell?_drew];exact p1) (by simpa using pz 1)).mono ?_;rintro e u' w'' ⟨rfl,rfl,rfl⟩;have hne:nb≠rb:=by omega
 have hcn:∀(W:World) (o:Nat) (v:Value) (j:Nat),(W.setCell ⟨rb,o,none⟩ v).cell? ⟨nb,j,none⟩=W.cell? ⟨nb,j,none⟩:=λW o v j=>gO _ _ _ _ (by simp [As hne])
 have t1:∀j:Nat,j < 256->((W5.drew.setCell ⟨rb,0,none⟩ (.int .u32 1)).setCell ⟨rb,1,none⟩ (.int .i32 0)).cell? ⟨nb,j,none⟩=some (.int .u8 (DU j:Nat)):=λj hj=>by rw [hcn,hcn,World.cell?_drew,<-hW5,hcn,hcn];exact n3 j hj
 have t2:((W5.drew.setCell ⟨rb,0,none⟩ (.int .u32 1)).setCell ⟨rb,1,none⟩ (.int .i32 0)).cell? ⟨rb,3,none⟩=some (.iface 342 (.pointer (some ⟨nb,0,none⟩))):=by rw [gO _ _ _ _ (ho _ _ (by decide)),gO _ _ _ _ (ho _ _ (by decide)),World.cell?_drew,<-hW5,gO _ _ _ _ (ho _ _ (by decide))];exact pL _ _ _ ((n4.cell hrl 3).trans l3)
 have hsz:∀(W:World) (o:Nat) (v:Value),(W.setCell ⟨rb,o,none⟩ v).heap.size=W.heap.size:=λW o v=>by simpa only [World.setCells] using Go.Aw.gX rb [v] o W
 have hsm:∀(W:World) (o:Nat) (v:Value),nG W (W.setCell ⟨rb,o,none⟩ v):=λW o v=>by simpa only [World.setCells] using Go.Aw.kP rb [v] o W
 have t3:((W5.drew.setCell ⟨rb,0,none⟩ (.int .u32 1)).setCell ⟨rb,1,none⟩ (.int .i32 0)).heap.size=w1.heap.size:=by rw [hsz,hsz];show W5.heap.size=_;rw [<-hW5,hsz,hsz]
 have t4:∀b,b < w.heap.size->b≠rb->((W5.drew.setCell ⟨rb,0,none⟩ (.int .u32 1)).setCell ⟨rb,1,none⟩ (.int .i32 0)).heap[b]? =w.heap[b]?:=λb hb hbr=>by rw [uM _ _ _ _ hbr,uM _ _ _ _ hbr];show W5.heap[b]? =_;rw [<-hW5,uM _ _ _ _ hbr,uM _ _ _ _ hbr,n4.old b (by omega),lh b hbr]
 have t5:nG w ((W5.drew.setCell ⟨rb,0,none⟩ (.int .u32 1)).setCell ⟨rb,1,none⟩ (.int .i32 0)):=by
  have e1:nG w W5:=by rw [<-hW5];exact ((lsm.trans n4.same).trans (hsm _ _ _)).trans (hsm _ _ _)
  exact ((e1.trans (b:=W5) (c:=W5.drew) ⟨rfl,rfl,rfl⟩).trans (hsm _ _ _)).trans (hsm _ _ _)
 generalize (W5.drew.setCell ⟨rb,0,none⟩ (.int .u32 1)).setCell ⟨rb,1,none⟩ (.int .i32 0)=W7 at *;have hfin:∃nb,w.heap.size<=nb/\nb < W7.heap.size/\(∀j:Nat,j < 256->W7.cell? ⟨nb,j,none⟩=some (.int .u8 (DU j:Nat)))/\W7.cell? ⟨rb,3,none⟩=some (.iface 342 (.pointer (some ⟨nb,0,none⟩)))/\w.heap.size<=W7.heap.size/\(∀b,b < w.heap.size->b≠rb->W7.heap[b]? =w.heap[b]?)/\nG w W7:=
  ⟨nb,by omega,by omega,t1,t2,by have:=n4.size;omega,t4,t5⟩
 clear t1 t2 t3 t4 t5 p0 p1 pz hW5 hcn hsz hsm l0 l1 l3 l4 lz lc lh;simpa [Leaves,settle,results,results322] using hfin
end Go.Proofs.YtjmpjmilndkgfaaGreatDoor
set_option maxRecDepth 100000
set_option maxHeartbeats 4000000
namespace Go.Proofs.YtjmpjmilndkgfaaGreatDoor
open Go.Aw Go.RowKit Go.Lib Proofs.Tryz List IntKind
theorem jl (w:World) (rb sb sc:Nat) (r0:Value) (s:ByteArray) (hs:s.size<=1099511627776) (hrb:rb < w.heap.size) (h0:w.cell? ⟨rb,0,none⟩=some (.int .u32 0)) (h1:w.cell? ⟨rb,1,none⟩=some (.int .i32 0)) (hr:w.cell? ⟨rb,3,none⟩=some r0) (fr:∀j,w.frozen? ⟨rb,j,none⟩=false)
  (hl:w.cell? ⟨rb,4,none⟩=some (.slice (some ⟨sb,0,none⟩) 4 sc)) (hc:bN w sb 0 mkPairs) (hsb:sb≠rb):
  Calls prog 301 #[.pointer (some ⟨rb,0,none⟩),.string s] w λe w'=>e= .returned (.string ⟨(s.data.toList.map rO).toArray⟩)/\w.heap.size<=w'.heap.size/\(∀b,b < w.heap.size->b≠rb->w'.heap[b]? =w.heap[b]?)/\nG w w':=by
 have hnot:∀(x:Bool) (w:World),(Op.unary .not (.bool x)).run prog w= .ok (.bool (!x)) w:=λ_ _=>rfl
 have hmf:∀(fn:Fn) (first cap:Array Value) (w:World),(Instr.makeFunc fn first cap).run prog w= .ok (.func fn first cap) w:=λ_ _ _ _=>rfl
 have hm:∀(nb:Nat) (w:World),(method 511 342 (.pointer (some ⟨nb,0,none⟩)) "Replace").run prog w= .ok (390,.pointer (some ⟨nb,0,none⟩)) w:=λ_ _=>by kernel_rfl
 have hld:=run_call_load (P:=prog) func331 (by kernel_rfl) (by kernel_rfl) (by kernel_rfl) .u32 (by kernel_rfl) (w:=w) (a:=⟨rb,0,none⟩) (x:=0) h0
 go_enter func301,ntmps301
 go_wp2_with (first|(go_at_call 311;go_in)|(go_at_call 321;go_in)|(go_at_call 322;refine (aG0 w rb sb sc r0 hrb h0 h1 hr fr hl hc hsb).mono ?_;rintro e w1 ⟨rfl,nb,n1,n2,n3,n4,n5,n6,n7⟩))
 go_end0
 go_wp2_with (go_at_call 390;refine (aCm _ _ s hs n2 n3).mono ?_;rintro e w2 ⟨rfl,hx⟩)
 go_ret
 exact ⟨rfl,lO n5 hx.size,λb hb hbr=>(hx.old b (oX hb n5)).trans (n6 b hb hbr),n7.trans hx.same⟩
end Go.Proofs.YtjmpjmilndkgfaaGreatDoor
set_option maxRecDepth 100000
set_option maxHeartbeats 4000000
namespace Go.Proofs.YtjmpjmilndkgfaaGreatDoor
open Go.Aw Go.RowKit Go.Lib Proofs.Tryz List IntKind
theorem aKy (w:World) (vb vc:Nat) (hc:bN w vb 0 mkPairs):
  Calls prog 300 #[.slice (some ⟨vb,0,none⟩) 4 vc] w λe w'=>∃rb sb sc r0,e= .returned (.pointer (some ⟨rb,0,none⟩))/\w.heap.size<=rb/\rb < w'.heap.size/\w'.cell? ⟨rb,0,none⟩=some (.int .u32 0)/\w'.cell? ⟨rb,1,none⟩=some (.int .i32 0)/\w'.cell? ⟨rb,3,none⟩=some r0/\(∀j,w'.frozen? ⟨rb,j,none⟩=false)/\
   w'.cell? ⟨rb,4,none⟩=some (.slice (some ⟨sb,0,none⟩) 4 sc)/\bN w' sb 0 mkPairs/\sb≠rb/\Ext w w':=by
 obtain ⟨inf,Io,hq⟩:=tB.1 (show (prog.info? 9).map (λi=>(i.size,i.bytes))=some (1,16) by kernel_rfl);obtain ⟨hsz,hby⟩:=Prod.mk.inj hq;obtain ⟨z,hz0⟩:∃z,inf.zero=some z:=by
  have h:=Tryz.zsz9;simp only [bT,Io] at h;cases hz:inf.zero with
  |none=>simp [hz] at h
  |some z=>exact ⟨z,rfl⟩
 obtain ⟨G,hG⟩:∃G,G=grownCap w 4 0 9:=⟨_,rfl⟩;obtain ⟨ROW,hROW⟩:∃ROW:Array Value,ROW=mkPairs.toArray++Builtin.zeroCells z.cells (G - 4):=⟨_,rfl⟩;have hap:∀ty,(Builtin.append_ #[24,24] ty #[.slice none 0 0,.slice (some ⟨vb,0,none⟩) 4 vc]).run prog w= .ok (.slice (some ⟨w.heap.size,0,none⟩) 4 G) (w.drew.alloc (.cells ROW 9)):=λty=>by have h:=(Go.Aw.Hw (P:=prog) (w:=w) (tS:=24) (xT:=24) (ty:=ty) Tryz.underlying24 ⟨_,Tryz.underlying24,λk h=>by cases h⟩ Io hz0 (base:=none) (sLen:=0) (sCap:=0) (n:=4) (x:= .slice (some ⟨vb,0,none⟩) 4 vc) (by simp [Builtin.lenOf]) (news:=mkPairs) (olds:=[]) (λw' hw=>by rw [hsz];exact kQ rfl (show bN w' vb 0 mkPairs from λj v hv=>by simpa [World.cell?,hw] using hc j v hv)) (λw' hw=>by rw [hsz];rfl) (by rw [hby];decide) (by decide)).2 (by decide);rw [hROW,hG];simpa using h
 have hself:=fV w.drew (.cells ROW 9);have hold:=heap_alloc w.drew (.cells ROW 9);have hx1:Ext w (w.drew.alloc (.cells ROW 9)):=⟨by simp,hold,⟨rfl,rfl,rfl⟩⟩;have hs1:(w.drew.alloc (.cells ROW 9)).heap.size=w.heap.size+1:=by simp
 generalize w.drew.alloc (.cells ROW 9)=W1 at *;have hc1:bN W1 w.heap.size 0 mkPairs:=λj v hv=>by
  have Ea:W1.heap[w.heap.size]? =some (.cells ROW 9 (0,0)):=hself;have hj:=(cH.1 hv).1;have:ROW[j]? =some v:=by rw [hROW,tA (by simpa using hj)];simpa using hv
  simp [World.cell?,Ea,this]
 clear hself hold hROW;subst hG
 go_enter func300,ntmps300
 go_wp2_with (at_builtin;refine Lib.wpList_append_run _ rfl _ _ _ _ rfl _ _ rfl rfl _ _ (hap _) ?_)
 go_ret
 have hself:=fV W1 (.cells #[Value.int IntKind.u32 0,Value.int IntKind.i32 0,Value.int IntKind.u32 0,Value.nilIface,Value.slice (some ⟨w.heap.size,0,none⟩) 4 (grownCap w 4 0 9)] 314);have hold:=heap_alloc W1 (.cells #[Value.int IntKind.u32 0,Value.int IntKind.i32 0,Value.int IntKind.u32 0,Value.nilIface,Value.slice (some ⟨w.heap.size,0,none⟩) 4 (grownCap w 4 0 9)] 314);have hsz2:(W1.alloc (.cells #[Value.int IntKind.u32 0,Value.int IntKind.i32 0,Value.int IntKind.u32 0,Value.nilIface,Value.slice (some ⟨w.heap.size,0,none⟩) 4 (grownCap w 4 0 9)] 314)).heap.size=W1.heap.size+1:=by simp
 have hsm:nG W1 (W1.alloc (.cells #[Value.int IntKind.u32 0,Value.int IntKind.i32 0,Value.int IntKind.u32 0,Value.nilIface,Value.slice (some ⟨w.heap.size,0,none⟩) 4 (grownCap w 4 0 9)] 314)):=⟨rfl,rfl,rfl⟩;generalize W1.alloc (.cells #[Value.int IntKind.u32 0,Value.int IntKind.i32 0,Value.int IntKind.u32 0,Value.nilIface,Value.slice (some ⟨w.heap.size,0,none⟩) 4 (grownCap w 4 0 9)] 314)=W2 at *;have Ea:W2.heap[w.heap.size+1]? =some (.cells #[Value.int IntKind.u32 0,Value.int IntKind.i32 0,Value.int IntKind.u32 0,Value.nilIface,Value.slice (some ⟨w.heap.size,0,none⟩) 4 (grownCap w 4 0 9)] 314 (0,0)):=by rw [<-hs1];exact hself
 refine ⟨w.heap.size+1,w.heap.size,grownCap w 4 0 9,.nilIface,rfl,by omega,by omega,by simp [World.cell?,Ea],by simp [World.cell?,Ea],by simp [World.cell?,Ea],λj=>by simp [World.frozen?,Ea],by simp [World.cell?,Ea],λj v hv=> ?_,by omega,hx1.trans ⟨by omega,λb hb=>hold b hb,hsm⟩⟩;have h2:=hold w.heap.size (by omega);have:=hc1 j v hv;simpa [World.cell?,h2] using this
theorem G8 (w:World) (s:ByteArray) (hs:s.size<=1099511627776):
  Calls prog 287 #[.string s] w λe w'=>e= .returned (.string ⟨(s.data.toList.map rO).toArray⟩)/\Ext w w':=by
 have hbs:∀w:World,(Instr.buildSlice 24 4 #[(0,.string ⟨#[91]⟩),(1,.string ⟨#[60]⟩),(2,.string ⟨#[93]⟩),(3,.string ⟨#[62]⟩)]).run prog w= .ok (.slice (some ⟨w.heap.size,0,none⟩) 4 4) (w.alloc (.cells mkPairs.toArray 9)):=λw=>by
  letI:aC prog:={holds:=λ_=>True,low:=0,Pe:=λ_ _=>Nat.zero_le _,VV:=λ_ _ _ _=>trivial}
  have h:=Go.Aw.tH (P:=prog) (t:=24) (e:=9) (n:=1) (by':=16) (len:=4) (vs:=mkPairs) (w:=w) (by kernel_rfl) (by kernel_rfl) rfl (by decide) (by intro v hv;simp only [mkPairs,lB,CC,Ft] at hv;rcases hv with rfl|rfl|rfl|rfl<;>rfl);exact h
 go_enter func287,ntmps287
 go_wp2_with (simp only [hbs])
 have hself:=fV w (.cells #[Value.string ⟨#[91]⟩,Value.string ⟨#[60]⟩,Value.string ⟨#[93]⟩,Value.string ⟨#[62]⟩] 9);have hx:Ext w (w.alloc (.cells #[Value.string ⟨#[91]⟩,Value.string ⟨#[60]⟩,Value.string ⟨#[93]⟩,Value.string ⟨#[62]⟩] 9)):=⟨by simp,λb hb=>heap_alloc w _ b hb,⟨rfl,rfl,rfl⟩⟩;generalize w.alloc (.cells #[Value.string ⟨#[91]⟩,Value.string ⟨#[60]⟩,Value.string ⟨#[93]⟩,Value.string ⟨#[62]⟩] 9)=W1 at *;have hc:bN W1 w.heap.size 0 mkPairs:=λj v hv=>by have Ea:W1.heap[w.heap.size]? =some (.cells mkPairs.toArray 9 (0,0)):=hself;simp [World.cell?,Ea,hv]
 clear hself hbs;refine (aKy W1 w.heap.size 4 hc).mono ?_;rintro e W2 ⟨rb,sb,sc,r0,rfl,a1,a2,a3,a4,a5,a6,a7,a8,a9,a10⟩
 go_wp2_with (go_at_call 301;refine (jl _ rb sb sc r0 s hs a2 a3 a4 a5 a6 a7 a8 a9).mono ?_;rintro e W3 ⟨rfl,b1,b2,b3⟩)
 go_ret
 exact ⟨rfl,⟨lO hx.size (lO a10.size b1),λb hb=>by
  have h1:=hx.size;have h2:=a10.size;rw [b2 b (by omega) (by omega),a10.old b (by omega),hx.old b hb],(hx.same.trans a10.same).trans b3⟩⟩
theorem pE [aC prog] (s:bF) (hs:s.length<=1099511627776):Ok prog 287 [.str s] (.str (s.map rO)):=by
 intro w vs hg hargs;obtain ⟨c,rest,rfl⟩:∃c rest,vs=c::rest:=by
  cases vs with
  |nil=>simp [Rc] at hargs
  |cons c rest=>exact ⟨c,rest,rfl⟩
 simp only [Rc,R] at hargs;obtain ⟨f1,f2,⟨rfl,_⟩,h2,_⟩:=hargs;obtain rfl:rest=[]:=by
  cases rest with
  |nil=>rfl
  |cons=>simp [Rc] at h2
 refine (G8 w ⟨s.toArray⟩ (by simpa [ByteArray.size] using hs)).mono ?_;rintro e w' ⟨rfl,hx⟩;exact ⟨.string ⟨(s.map rO).toArray⟩,[],by simp,by simp [R],by simp,by simp,hx.size,hx.old,hx.same⟩
end Go.Proofs.YtjmpjmilndkgfaaGreatDoor
set_option maxRecDepth 4000
set_option maxHeartbeats 4000000
namespace Go.Proofs.YtjmpjmilndkgfaaGreatDoor
open Go.Aw Proofs.Tryz List IntKind
theorem K5 (s:bF) (k:Nat) (h:k < s.length):(dP s)[k]? =some [.int .u8 s[k].toNat]:=by simp [dP,h]
theorem JM:∀s:bF,bytesOf (dP s)=some s
 |[]=>rfl
 |c::s=>by have ih:=JM s;simp only [dP,mT] at ih⊢;simp only [bytesOf,ih,mS,mC];simp
@[simp] theorem aMr (f:Tg->Option Tg) (b:Bool) (l:bF):mU f b (dP l)=dP l:=by
 induction l with
 |nil=>rfl
 |cons x l ih=>simp only [dP,mT,mU,xS,rt] at ih⊢;rw [ih]
def Dc (s:bF) (k:Nat):bF:=(s.take k).map rO++s.drop k
theorem YV (s:bF) (k:Nat):(Dc s k).length=s.length:=by unfold Dc;rw [eR,lR,oT,zE];omega
theorem YW (s:bF) (k:Nat) (h:k < s.length):(Dc s k)[k]? =some s[k]:=by unfold Dc;rw [hY (by rw [lR,oT];omega)];simp [show min k s.length=k by omega,aE h]
theorem YX (s:bF) (k:Nat) (h:k < s.length):(Dc s k).set k (rO s[k])=Dc s (k+1):=by
 unfold Dc;have hl:((s.take k).map rO).length=k:=by simp;omega
 rw [sX _ _ (by omega),hl,xF,mL h,cU,eA h,rB];simp
theorem K6 (s:bF) (k:Nat) (h:k < s.length) (hm:rO s[k]=s[k]):Dc s (k+1)=Dc s k:=by
 rw [<-YX s k h,hm];have e:=YW s k h;refine BW λi=> ?_
 rw [getElem?_set];split
 .rename_i hi;subst hi;rw [eK (by rw [YV];exact h)];exact e.symm
 .rfl
theorem YY (l:bF) (k:Nat) (c:UInt8):(dP l).set k [.int .u8 c.toNat]=dP (l.set k c):=by simp [dP,map_set]
theorem pF [aC prog] (s:bF) (hl:s.length<=1099511627776):Ok prog 258 [.str s] (.str (s.map rO)):=by
 refine bR aD func258 ntmps258 ?_;have W:=trivial;repeat' first|refine wf ?_|(refine nx ?_;refine sb ?_)|(refine sq ?_ ?_<;>intro hc<;>try exact hc.elim)|fail
 refine aL (ι:={k:Nat // k<=s.length}) (λt o i=>⟨bD t [(4,.int .i64 i.1)],[⟨true,false,1,1,dP (Dc s i.1)⟩]⟩)
  (λi=>s.length - i.1) ⟨0,by simp⟩ (aH (by simp [Dc]) (by simp)) ?_
 rintro ⟨k,hk⟩ K1 hK1;simp only [bD,cW,cU] at hK1⊢;have hk1:=oW (k:=k);by_cases hlt:k < s.length
 .have Az:=YV s k;have hug:=YW s k hlt;have hbl:=mX (Dc s k);have hg:(dP (Dc s k))[k]? =some [.int .u8 s[k].toNat]:=by rw [K5 _ _ (by omega)];rw [aE (by omega)] at hug;rw [cQ hug]
  have hlb:k < (dP (Dc s k)).length:=by omega
  have hs1:=YX s k hlt;have nM:=K6 s k hlt;by_cases h1:s[k]=91
  .have h1i:((s[k].toNat:Nat):Int)=91:=by rw [h1];rfl
   have hset:(dP (Dc s k)).set k [.int .u8 60]=dP (Dc s (k+1)):=by rw [<-hs1,<-YY];simp [rO,h1]
   have W:=aA hk1 (aA hg (aA hbl (aA Az (aA h1i hset))));have V:=aA hlb hlt;repeat' first|refine wf ?_|(refine nx ?_;refine sb ?_)|(refine sq ?_ ?_<;>intro hc<;>try exact hc.elim)|fail
   all_goals exact hK1 _ ⟨k+1,by omega⟩ aH (by simp only;omega)
  .have h1i:¬((s[k].toNat:Nat):Int)=91:=λh=>h1 (Ds (by exact_mod_cast h))
   by_cases h2:s[k]=93
   .have h2i:((s[k].toNat:Nat):Int)=93:=by rw [h2];rfl
    have hset:(dP (Dc s k)).set k [.int .u8 62]=dP (Dc s (k+1)):=by rw [<-hs1,<-YY];simp [rO,h2]
    have W:=aA hk1 (aA hg (aA hbl (aA Az (aA h1i (aA h2i hset)))));have V:=aA hlb hlt;repeat' first|refine wf ?_|(refine nx ?_;refine sb ?_)|(refine sq ?_ ?_<;>intro hc<;>try exact hc.elim)|fail
    all_goals exact hK1 _ ⟨k+1,by omega⟩ aH (by simp only;omega)
   .have h2i:¬((s[k].toNat:Nat):Int)=93:=λh=>h2 (Ds (by exact_mod_cast h))
    have hsm:=nM (by simp [rO,h1,h2]);have W:=aA hk1 (aA hg (aA hbl (aA Az (aA h1i h2i))));have V:=aA hlb hlt;repeat' first|refine wf ?_|(refine nx ?_;refine sb ?_)|(refine sq ?_ ?_<;>intro hc<;>try exact hc.elim)|fail
    all_goals exact hK1 _ ⟨k+1,by omega⟩ (aH (by simp [hsm]) (by simp)) (by simp only;omega)
 .have hk2:k=s.length:=by omega
  have hup:Dc s k=s.map rO:=by simp [Dc,hk2]
  have Az:(s.map rO).length=s.length:=by simp
  have hbl:=mX (s.map rO);have hbo:=JM (s.map rO);rw [hup];have hnk:¬k < s.length:=hlt;have W:=aA hk1 (aA hbl (aA Az hbo));repeat' first|refine wf ?_|(refine nx ?_;refine sb ?_)|(refine sq ?_ ?_<;>intro hc<;>try exact hc.elim)|fail
  exact aK results258
def aX (b:bC) (n:bF):Int:=(((b.nodes.filter λx=>decide (x.name=n)).length:Nat):Int)
theorem QF (b:bC) (n:bF) (k:Nat) (h:k < b.nodes.length):((b.nodes.take (k+1)).filter λx=>decide (x.name=n)).length=((b.nodes.take k).filter λx=>decide (x.name=n)).length+(if b.nodes[k].name=n then 1 else 0):=by rw [eA h,filter_append,eR];congr 1;by_cases hn:b.nodes[k].name=n<;>simp [hn]
end Go.Proofs.YtjmpjmilndkgfaaGreatDoor
set_option maxRecDepth 4000
set_option maxHeartbeats 4000000
namespace Go.Proofs.YtjmpjmilndkgfaaGreatDoor
open Go.Aw Proofs.Tryz List IntKind
def lM (l:List bF):Bool:=l.all dA&&decide (l.length<=4)
def nL (p:dL):Bool:=
 if p.isSet=true then lM p.dG&&lM p.eZ&&lM p.fD&&(p.rM == [] || isValue p.rM)
 else p.dG == []&&p.eZ == []&&p.fD == []&&p.rM == []
def uR:bF:=[115,99,114,105,112,116]
def yO:bF:=[115,116,121,108,101]
def KD:bF:=[105,109,103]
def nT:bF:=[110,111,110,99,101,32]
def words (w:bF) (l:List bF):bF:=Lib.join (w::l) [32]
def Xn (n:bF):bF:=if n=[] then [] else 59::(nT++n)
def iW (p:dL):bF:=
 if nL p=true/\p.isSet=true then words uR p.dG++59::(words yO p.eZ++59::(words KD p.fD++Xn p.rM)) else []
def Dr:dL:=⟨false,[],[],[],[]⟩
def qI (f:bF->bF) (s:bF):dL:=
 ⟨true,(dF 32 ((dF 59 s).getD 0 [])).tail,(dF 32 ((dF 59 s).getD 1 [])).tail,(dF 32 ((dF 59 s).getD 2 [])).tail,match (dF 59 s)[3]? with|some x=>f x|none=>[]⟩
def vJ (f:bF->bF) (s:bF):dL×Bool:=
 if s=[] then (Dr,true) else if (dF 59 s).length < 3 then (Dr,false) else if iW (qI f s)=s then (qI f s,true) else (Dr,false)
def qE (x:bF):bF:=if nT.isPrefixOf x then x.drop 6 else x
def qF (x:bF):bF:=if 6 < x.length then x.drop 6 else []
theorem Xo (c:UInt8) (hc:c.toNat < 97):∀(s:bF),dA s=true->∀x∈s,x≠c:=by intro s h x hx e;subst e;simp only [dA,eJ,fS] at h;have:=h.1 x hx;simp [lowerB] at this;omega
theorem rz:∀(s:bF),isValue s=true->∀x∈s,x≠59:=by intro s h x hx e;subst e;simp only [isValue,eJ,fS] at h;have:=h.1 _ hx;simp [vR] at this
theorem KE (w:bF) (hw:∀x∈w,x≠59):∀(l:List bF),l.all dA=true->∀x∈words w l,x≠59:=by
 intro l hl x hx;have key:∀(l:List bF),(∀s∈l,∀x∈s,x≠(59:UInt8))->∀x∈Lib.join l [32],x≠(59:UInt8):=by
  intro l;unfold Lib.join;induction l with
  |nil=>intro _ x hx;simp at hx
  |cons a l ih=>
   intro h x hx;cases l with
   |nil=>simp at hx;exact h a (by simp) x hx
   |cons b l=>
    rw [intercalate_cons_cons] at hx;simp only [fL] at hx;rcases hx with (hx|hx)|hx
    .exact h a (by simp) x hx
    .simp at hx;subst hx;decide
    .exact ih (λs hs=>h s (by simp [hs])) x hx
 refine key (w::l) (λs hs=> ?_) x hx;rcases lB.1 hs with rfl|hs
 .exact hw
 .exact Xo 59 (by decide) s (fS.1 hl s hs)
theorem aEe (p:dL) (h:nL p=true) (hs:p.isSet=true):
  dF 59 (iW p)=words uR p.dG::words yO p.eZ::words KD p.fD::(if p.rM=[] then [] else [nT++p.rM]):=by
 simp only [nL,hs,gE,lM,eJ] at h;obtain ⟨⟨⟨h1,h2⟩,h3⟩,h4⟩:=h;have hp:nL p=true:=by simp only [nL,hs,gE,lM,eJ];exact ⟨⟨⟨h1,h2⟩,h3⟩,h4⟩
 unfold iW;rw [eK ⟨hp,hs⟩,CX _ _ _ (KE uR (by decide) _ h1.1),CX _ _ _ (KE yO (by decide) _ h2.1)];unfold Xn;by_cases hn:p.rM=[]
 .rw [eK hn,eK hn,fX,Be _ _ (KE KD (by decide) _ h3.1)]
 .rw [cY hn,cY hn,CX _ _ _ (KE KD (by decide) _ h3.1),Be];intro x hx;rcases fL.1 hx with hx|hx
  .exact (by decide:∀x∈nT,x≠59) x hx
  .have hv:isValue p.rM=true:=by simp only [AN,Bm] at h4;exact h4.resolve_left hn
   exact rz _ hv x hx
theorem aLt {p:dL} {s:bF} (hs:s≠[]) (h:iW p=s):nL p=true/\p.isSet=true:=by
 unfold iW at h;by_cases hc:nL p=true/\p.isSet=true
 .exact hc
 .rw [cY hc] at h;exact absurd h.symm hs
theorem RH {f g:bF->bF} (hf:∀n,n≠[]->f (nT++n)=n) (hg:∀n,n≠[]->g (nT++n)=n) {s:bF} (hs:s≠[]) (h:iW (qI f s)=s):qI f s=qI g s:=by
 obtain ⟨h1,h2⟩:=aLt hs h;have h3:=aEe _ h1 h2;rw [h] at h3;unfold qI;congr 1;cases hx:(dF 59 s)[3]? with
 |none=>rfl
 |some x=>
  dsimp only;rw [h3] at hx;by_cases hn:(qI f s).rM=[]
  .rw [eK hn] at hx;simp at hx
  .rw [cY hn] at hx;simp only [tU,sL,eC] at hx;rw [<-hx,hf _ hn,hg _ hn]
theorem VO (n:bF) (h:n≠[]):qE (nT++n)=n:=by unfold qE;rw [eK (by simp [isPrefixOf_iff_prefix])];simp [nT]
theorem VP (n:bF) (h:n≠[]):qF (nT++n)=n:=by unfold qF;have:0 < n.length:=CD.2 h;rw [eK (by simp [nT];omega)];simp [nT]
theorem si (s:bF):vJ qE s=vJ qF s:=by
 unfold vJ;by_cases hs:s=[]
 .rw [eK hs,eK hs]
 rw [cY hs,cY hs];by_cases hl:(dF 59 s).length < 3
 .rw [eK hl,eK hl]
 rw [cY hl,cY hl];by_cases h1:iW (qI qE s)=s
 .have e:=RH VO VP hs h1;rw [eK h1,eK (by rw [<-e];exact h1),e]
 .by_cases h2:iW (qI qF s)=s
  .have e:=RH VP VO hs h2;exact absurd (by rw [<-e];exact h2) h1
  .rw [cY h1,cY h2]
def pW (s:bF):dL×Bool:=vJ qF s
end Go.Proofs.YtjmpjmilndkgfaaGreatDoor
set_option maxRecDepth 4000
set_option maxHeartbeats 4000000
namespace Go.Proofs.YtjmpjmilndkgfaaGreatDoor
open Go.Aw Proofs.Tryz List IntKind
theorem kM [aC prog] (k:Int) (hk:k<=4611686018427387904):Ok prog 95 [.int .i64 k] (.str (xB k)):=by
 refine bR aD func95 ntmps95 ?_;have W:=trivial;repeat' first|refine wg ?_|(refine sq ?_ ?_<;>intro hc<;>try exact hc.elim)|fail
 .all_goals try(refine aR ?_;simp [aG,results95])
  all_goals (simp [xB];omega)
 .refine aL (ι:={p:Nat×Int×bF // 0<=p.2.1/\p.2.1 < 10 ^ p.1/\p.2.1<=4611686018427387904/\digits p.1 p.2.1 p.2.2=digits 20 k []/\p.2.2.length<=40 - p.1/\p.1<=20}) (λt o i=>⟨bD t [(0,.int .i64 i.1.2.1),(3,.str i.1.2.2)],[]⟩)
   (λi=>i.1.1) ⟨(20,k,[]),by simp only;omega,by simp only;omega,hk,rfl,by simp,by simp⟩ aH ?_
  rintro ⟨⟨f,n,out⟩,h0,hf,hn,hd,hl,hf2⟩ K1 hK1;simp only at h0 hf hn hd hl hf2;simp only [bD,cW,cU] at hK1⊢;have ht:n.tdiv 10=n / 10:=Int.tdiv_eq_ediv_of_nonneg h0;have hw:i64.wrap (n.tdiv 10)=n.tdiv 10:=by rw [wrap64]<;>omega
  have h63:1+out.length<=9223372036854775807:=by omega
  by_cases aS2:0 < n
  .cases f with
   |zero=>exfalso;simp at hf;omega
   |succ f=>
    have W:=aA hw (aA h63 aS2);refine wl ?_;refine hK1 _ ⟨(f,n.tdiv 10,digit n::out),by simp only;omega,?_,by simp only;omega,?_,by simp only [eL];omega,by simp only;omega⟩ (aW 0 rfl (by simp [digit]) (by simp) (by simp)) (by simp)
    .simp only [Int.pow_succ] at hf⊢;omega
    .rw [<-hd];simp only [digits];rw [cY (by omega)]
  .have:n=0:=by omega
   subst this;rw [qd _ _ _ (by omega)] at hd;have h64:1+out.length<=9223372036854775807:=by omega
   have W:=h64;refine wl ?_;all_goals try(refine aR ?_;simp [aG,results95])
   all_goals (rw [hd];simp [xB];omega)
end Go.Proofs.YtjmpjmilndkgfaaGreatDoor
set_option maxRecDepth 4000
set_option maxHeartbeats 4000000
namespace Go.Proofs.YtjmpjmilndkgfaaGreatDoor
open Go.Aw Proofs.Tryz List IntKind
theorem xR [aC prog] (l0:List bF) (k:Int) (h0:0<=k) (hl:k+(aQ (λ_=>1) l0:Nat)<=4611686018427387000) (OI:l0.length<=4611686018427387904):Ok prog 59 [.sl .view 1 ((vF pU (λ_=>1) k l0).map bW),.int .i64 k] (.int .i64 (k+(aQ (λ_=>1) l0:Nat))):=by
 have hget:∀j (h:j < l0.length),(vF pU (λ_=>1) k l0)[j]? =some (pU (k+(aQ (λ_=>1) (l0.take j):Nat)) l0[j]):=λj h=>by rw [aE (by rw [fM];exact h),pR]
 generalize hu:vF pU (λ_=>1) k l0=l at *;have hlen:l.length=l0.length:=by rw [<-hu,fM]
 refine bR aD func59 ntmps59 ?_;refine gJ ?_;refine aL (ι:={j:Nat // j<=l0.length}) (λt o i=>⟨bD t [(1,.int .i64 (k+(aQ (λ_=>1) (l0.take i.1):Nat))),(5,.int .i64 i.1)],o⟩)
  (λi=>l0.length - i.1) ⟨0,by simp⟩ (aH (by simp) (by simp [aQ])) ?_
 rintro ⟨j,hj⟩ K1 hK1;simp only [bD,cW,cU] at hK1⊢;have hj1:i64.wrap ((j:Int)+1)=((j+1:Nat):Int):=by rw [wrap64]<;>omega
 have hle:=dK (λ_=>1) l0 (j+1);by_cases hlt:j < l0.length
 .have hts:=dC (λ_=>1) l0 j hlt
  have hg:l[j]? =some (pU (k+(aQ (λ_=>1) (l0.take j):Nat)) l0[j]):=hget j hlt;generalize hq:k+(aQ (λ_=>1) (l0.take j):Nat)=q at *;simp only [pU,Am] at hg;have W:=aA hlen (aA hj1 hg);have V:=aA hlen (aA hj1 (aA hg hlt));repeat' first|refine wg ?_|(refine nx ?_;refine sk (hc:=kM _ (by omega)) (h:=?_))|(refine sq ?_ ?_<;>intro hc<;>try exact hc.elim)|fail
  refine hK1 _ ⟨j+1,by omega⟩ (aH (by simp) ?_) (by simp only;omega);simp;omega
 .have htk:l0.take j=l0:=cX (by omega);have hjl:j=l0.length:=by omega
  rw [htk] at *;have W:=aA hlen hj1;refine wl ?_;exact aK results59
theorem KR [aC prog] (l0:List aT) (k:Int) (h0:0<=k) (hl:k+(aQ (λ_=>2) l0:Nat)<=4611686018427387000) (OI:l0.length<=4611686018427387904):Ok prog 58 [.sl .view 2 ((vF Ab (λ_=>2) k l0).map aO),.int .i64 k] (.int .i64 (k+(aQ (λ_=>2) l0:Nat))):=by
 have hget:∀j (h:j < l0.length),(vF Ab (λ_=>2) k l0)[j]? =some (Ab (k+(aQ (λ_=>2) (l0.take j):Nat)) l0[j]):=λj h=>by rw [aE (by rw [fM];exact h),pR]
 generalize hu:vF Ab (λ_=>2) k l0=l at *;have hlen:l.length=l0.length:=by rw [<-hu,fM]
 refine bR aD func58 ntmps58 ?_;refine gJ ?_;refine aL (ι:={j:Nat // j<=l0.length}) (λt o i=>⟨bD t [(1,.int .i64 (k+(aQ (λ_=>2) (l0.take i.1):Nat))),(5,.int .i64 i.1)],o⟩)
  (λi=>l0.length - i.1) ⟨0,by simp⟩ (aH (by simp) (by simp [aQ])) ?_
 rintro ⟨j,hj⟩ K1 hK1;simp only [bD,cW,cU] at hK1⊢;have hj1:i64.wrap ((j:Int)+1)=((j+1:Nat):Int):=by rw [wrap64]<;>omega
 have hle:=dK (λ_=>2) l0 (j+1);by_cases hlt:j < l0.length
 .have hts:=dC (λ_=>2) l0 j hlt
  have hg:l[j]? =some (Ab (k+(aQ (λ_=>2) (l0.take j):Nat)) l0[j]):=hget j hlt;generalize hq:k+(aQ (λ_=>2) (l0.take j):Nat)=q at *;have e2:q+1+1=q+2:=by omega
  simp only [Ab,Am] at hg;have W:=aA hlen (aA hj1 (aA hg e2));have V:=aA hlen (aA hj1 (aA hg (aA hlt e2)));repeat' first|refine wg ?_|(refine nx ?_;refine sk (hc:=kM _ (by omega)) (h:=?_))|(refine sq ?_ ?_<;>intro hc<;>try exact hc.elim)|fail
  refine hK1 _ ⟨j+1,by omega⟩ (aH (by simp) ?_) (by simp only;omega);simp;omega
 .have htk:l0.take j=l0:=cX (by omega);have hjl:j=l0.length:=by omega
  rw [htk] at *;have W:=aA hlen hj1;refine wl ?_;exact aK results58
theorem KS [aC prog] (l0:List jY) (k:Int) (h0:0<=k) (hl:k+(aQ (λ_=>2) l0:Nat)<=4611686018427387000) (OI:l0.length<=4611686018427387904):Ok prog 99 [.sl .view 2 ((vF Ac (λ_=>2) k l0).map gU),.int .i64 k] (.int .i64 (k+(aQ (λ_=>2) l0:Nat))):=by
 have hget:∀j (h:j < l0.length),(vF Ac (λ_=>2) k l0)[j]? =some (Ac (k+(aQ (λ_=>2) (l0.take j):Nat)) l0[j]):=λj h=>by rw [aE (by rw [fM];exact h),pR]
 generalize hu:vF Ac (λ_=>2) k l0=l at *;have hlen:l.length=l0.length:=by rw [<-hu,fM]
 refine bR aD func99 ntmps99 ?_;refine gJ ?_;refine aL (ι:={j:Nat // j<=l0.length}) (λt o i=>⟨bD t [(1,.int .i64 (k+(aQ (λ_=>2) (l0.take i.1):Nat))),(5,.int .i64 i.1)],o⟩)
  (λi=>l0.length - i.1) ⟨0,by simp⟩ (aH (by simp) (by simp [aQ])) ?_
 rintro ⟨j,hj⟩ K1 hK1;simp only [bD,cW,cU] at hK1⊢;have hj1:i64.wrap ((j:Int)+1)=((j+1:Nat):Int):=by rw [wrap64]<;>omega
 have hle:=dK (λ_=>2) l0 (j+1);by_cases hlt:j < l0.length
 .have hts:=dC (λ_=>2) l0 j hlt
  have hg:l[j]? =some (Ac (k+(aQ (λ_=>2) (l0.take j):Nat)) l0[j]):=hget j hlt;generalize hq:k+(aQ (λ_=>2) (l0.take j):Nat)=q at *;have e2:q+1+1=q+2:=by omega
  simp only [Ac,Am] at hg;have W:=aA hlen (aA hj1 (aA hg e2));have V:=aA hlen (aA hj1 (aA hg (aA hlt e2)));repeat' first|refine wg ?_|(refine nx ?_;refine sk (hc:=kM _ (by omega)) (h:=?_))|(refine sq ?_ ?_<;>intro hc<;>try exact hc.elim)|fail
  refine hK1 _ ⟨j+1,by omega⟩ (aH (by simp) ?_) (by simp only;omega);simp;omega
 .have htk:l0.take j=l0:=cX (by omega);have hjl:j=l0.length:=by omega
  rw [htk] at *;have W:=aA hlen hj1;refine wl ?_;exact aK results99
end Go.Proofs.YtjmpjmilndkgfaaGreatDoor
