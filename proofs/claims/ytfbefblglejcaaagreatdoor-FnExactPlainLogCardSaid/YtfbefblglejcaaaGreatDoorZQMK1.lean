/- Proved here: steps towards the statement of this claim. No condition. -/
import Derived.Test.YtfbefblglejcaaaGreatDoorZYFacts
import Derived.Lib.SliceRun
import Derived.Deep.WholeRow
set_option linter.all false
set_option maxRecDepth 100000
set_option maxHeartbeats 4000000
namespace Go.Proofs.YtfbefblglejcaaaGreatDoor
open Go.Aw Proofs.Tryz List IntKind
theorem SQ(w:World):(callFunc 363 #[]).run prog w= .ok (.value (.tuple #[])) w:=run_call_mark0 func363 (by kernel_rfl) (by kernel_rfl) (by kernel_rfl) .disable (by kernel_rfl) w
theorem Wz(w:World):(callFunc 365 #[]).run prog w= .ok (.value (.tuple #[])) w:=run_call_mark0 func365 (by kernel_rfl) (by kernel_rfl) (by kernel_rfl) .enable (by kernel_rfl) w
theorem yu(a:Addr)(w:World):(callFunc 366 #[.pointer (some a)]).run prog w= .ok (.value (.tuple #[])) w:=run_call_marked func366 (by kernel_rfl) (by kernel_rfl) (by kernel_rfl) .acquire (by kernel_rfl) a w
theorem yw(a:Addr)(w:World):(callFunc 368 #[.pointer (some a)]).run prog w= .ok (.value (.tuple #[])) w:=run_call_marked func368 (by kernel_rfl) (by kernel_rfl) (by kernel_rfl) .releaseMerge (by kernel_rfl) a w
theorem aFi(a:Addr)(x:Value)(u:FrameMode)(w:World)(hc:w.cell? a=some x)(hz:w.frozen? a=false):
  CallsD prog 342 #[.pointer (some a),.bool true] u w λe u' w'=>u'=u/\(e= .returned (.tuple #[])/\w'=w.drew.setCell a (.int .u32 1)):=by
 have hc':w.drew.cell? a=some x:=by go_simp
 have hz':w.drew.frozen? a=false:=by go_simp
 have hst:=run_call_store (P:=prog) func355 (by kernel_rfl) (by kernel_rfl) (by kernel_rfl) (by kernel_rfl) (k:= .u32) (y:=1) hc' hz'
 go_enter_d func342,ntmps342
 go_wp2
 go_region_calls
 all_goals (go_end0;exact⟨rfl,rfl⟩)
theorem aA6(a:Addr)(u:FrameMode)(w:World)(hc:w.cell? a=some (.int .i32 1))(hz:w.frozen? a=false):
  CallsD prog 341 #[.pointer (some a)] u w λe u' w'=>u'=u/\(e= .returned (.tuple #[])/\w'=w.setCell a (.int .i32 0)):=by
 have hd:=SQ;have he:=Wz;have hr:=yw;have hadd:=run_call_add (P:=prog) func369 (by kernel_rfl) (by kernel_rfl) (by kernel_rfl) .i32 (by kernel_rfl) (y:= -1) (s:=0) hc hz (by simp[go_sem];rfl);have hcv:=run_convert_to_unsafe (P:=prog) (src:=391) (dst:=301) Tryz.underlying391 Tryz.underlying301 (by kernel_rfl) hc
 go_enter_d func341,ntmps341
 go_wp2
 go_end0
 go_wp2
 go_end0
 exact⟨rfl,rfl⟩
theorem aJk(a:Addr)(w:World)(hc:w.cell? a=some (.int .i32 0))(hz:w.frozen? a=false):
  Calls prog 340 #[.pointer (some a)] w λe w'=>e= .returned (.tuple #[])/\w'=w.setCell a (.int .i32 1):=by
 have hd:=SQ;have he:=Wz;have ha:=yu;have hcas:=run_call_cas_hit (P:=prog) func364 (by kernel_rfl) (by kernel_rfl) (by kernel_rfl) .i32 (by kernel_rfl) (y:=1) hc hz;have hc':(w.setCell a (.int .i32 1)).cell? a=some (.int .i32 1):=pT w a _ hc;have hcv:=run_convert_to_unsafe (P:=prog) (src:=391) (dst:=301) Tryz.underlying391 Tryz.underlying301 (by kernel_rfl) hc'
 go_enter func340,ntmps340
 go_wp2
 first|go_end0|(simp only[Exit.inBlock,Exit.then];refine bodyPost_ret (results_none rfl _ _ _) rfl ?_)|refine bodyPost_ret (results_none rfl _ _ _) rfl ?_
 go_wp2
 go_end0
 exact⟨rfl,rfl⟩
end Go.Proofs.YtfbefblglejcaaaGreatDoor
set_option maxRecDepth 100000
set_option maxHeartbeats 4000000
namespace Go.Proofs.YtfbefblglejcaaaGreatDoor
open Go.Aw Go.RowKit Go.Lib Proofs.Tryz List IntKind
def EN(n:Nat):Nat:=if n=91 then 60 else if n=93 then 62 else n
def tL(c:UInt8):UInt8:=if c=91 then 60 else if c=93 then 62 else c
theorem CX(c:UInt8):(tL c).toNat=EN c.toNat:=by
 unfold tL EN;by_cases h1:c=91
 .subst h1;rfl
 .have h1':¬c.toNat=91:=λh=>h1 (DH h)
  rw[cX h1,cX h1'];by_cases h2:c=93
  .subst h2;rfl
  .have h2':¬c.toNat=93:=λh=>h2 (DH h)
   rw[cX h2,cX h2']
structure Ext(w w':World): Prop where
  size:w.heap.size <= w'.heap.size
  old:∀ b, b<w.heap.size -> w'.heap[b]? = w.heap[b]?
  same:nS w w'
theorem Ext.refl(w:World):Ext w w:=⟨eE _,λ_ _=>rfl,nS.rfl⟩
theorem Ext.trans{a b c:World}(h:Ext a b)(k:Ext b c):Ext a c:=⟨kO h.size k.size,λx hx=>(k.old x (oX hx h.size)).trans (h.old x hx),h.same.trans k.same⟩
theorem Ext.cell{w w':World}(h:Ext w w'){b:Nat}(hb:b<w.heap.size)(j:Nat):w'.cell? ⟨b,j,none⟩=w.cell? ⟨b,j,none⟩:=by simp[World.cell?,h.old b hb]
theorem Ext.frozen{w w':World}(h:Ext w w'){b:Nat}(hb:b<w.heap.size)(j:Nat):w'.frozen? ⟨b,j,none⟩=w.frozen? ⟨b,j,none⟩:=by simp[World.frozen?,h.old b hb]
theorem vZ(w:World)(b o:Nat)(v:Value){k:Nat}(h:k≠b):(w.setCell ⟨b,o,none⟩ v).heap[k]? =w.heap[k]?:=by have:=Go.Aw.lZ b k h [v] o w;simpa [World.setCells]using this
theorem Ext.set{w w':World}(h:Ext w w'){b:Nat}(hb:w.heap.size<=b)(o:Nat)(v:Value):Ext w (w'.setCell ⟨b,o,none⟩ v):=by have h1:=Go.Aw.gW b [v] o w';have h2:=Go.Aw.kJ b [v] o w';simp only[World.setCells]at h1 h2;exact⟨by rw[h1];exact h.size,λx hx=>(vZ w' b o v (by omega)).trans (h.old x hx),h.same.trans h2⟩
def Buf(w wr:World)(s:ByteArray)(k:Nat)(v:Value):Prop:=
 (v= .slice none 0 0/\∀j (h:j<s.size),j<k->tL s[j]=s[j])\/
 (∃B cap:Nat,v= .slice (some ⟨B,0,none⟩) s.size cap/\w.heap.size<=B/\∀j (h:j<s.size),wr.cell? ⟨B,j,none⟩=some (.int .u8 ((if j<k then tL s[j]else s[j]).toNat:Nat))/\wr.frozen? ⟨B,j,none⟩=false)
theorem aFj(w:World)(nb:Nat)(s:ByteArray)(hs:s.size<=1099511627776)(hnb:nb<w.heap.size)(htab:∀j:Nat,j<256->w.cell? ⟨nb,j,none⟩=some (.int .u8 (EN j:Nat))):
  Calls prog 405 #[.pointer (some ⟨nb,0,none⟩),.string s] w λe w'=>e= .returned (.string ⟨(s.data.toList.map tL).toArray⟩)/\Ext w w':=by
 have qT:∀(w:World) (a:Option Addr) (n c n' c':Nat),(binOp .eql 115 (.slice a n c) (.slice none n' c')).run prog w= .ok (.bool a.isNone) w:=λw a n c n' c'=>Lib.run_eql_slice_nil w _ _ a n c n' c' Tryz.underlying115
 go_enter func405,ntmps405
 go_wp2
 go_loopw [5,6] (λv i wr=>∃k:Nat,k<=s.size/\i= .int .i64 k/\Ext w wr/\Buf w wr s k v) (λ_ i _=>s.size-(RowKit.intOf i).toNat)
 case atStart=>exact⟨0,by omega,rfl,Ext.refl w,.inl ⟨rfl,λj h h0=>absurd h0 (by omega)⟩⟩
 case round=>
  obtain⟨k,hk,rfl,hx,hbuf⟩:=hrel;by_cases hlt:k<s.size
  .have hi:(0:Int)<=(k:Int)/\(k:Int)<(s.size:Int):=by omega
   have hc:∀j:Nat,j<256->wr.cell? ⟨nb,j,none⟩=some (.int .u8 (EN j:Nat)):=λj hj=>(hx.cell hnb j).trans (htab j hj)
   have hcb:(0:Int)<=((s[k].toNat:Nat):Int)/\((s[k].toNat:Nat):Int)<256:=⟨by omega,by have:=CI s[k];omega⟩;have hck:=hc s[k].toNat (CI s[k]);by_cases hne:tL s[k]=s[k]
   .have hne2:((EN s[k].toNat:Nat):Int)=((s[k].toNat:Nat):Int):=by rw[<-CX,hne]
    have hb2:Buf w wr s (k+1) u5:=by
     rcases hbuf with⟨h1,h2⟩|⟨B,cap,h1,h2,h3⟩
     .refine .inl ⟨h1,λj hj hj2=> ?_⟩
      rcases sL j k with h|h
      .exact h2 j hj h
      .obtain rfl:j=k:=by omega
       exact hne
     .refine .inr ⟨B,cap,h1,h2,λj hj=>⟨?_,(h3 j hj).2⟩⟩
      rw[(h3 j hj).1];rcases Nat.lt_trichotomy j k with h|h|h
      .rw [eK h,eK (by omega)]
      .subst h;rw[cX (by omega),eK (by omega),hne]
      .rw [cX (by omega),cX (by omega)]
    clear hbuf htab hc
    go_wp2
    exact⟨⟨k+1,by omega,by simp,hx,hb2⟩,by simp[RowKit.intOf]<;>omega⟩
   .have hne2:¬((EN s[k].toNat:Nat):Int)=((s[k].toNat:Nat):Int):=λh=>hne (by
     have h2:EN s[k].toNat=s[k].toNat:=by exact_mod_cast h
     rw[<-CX]at h2;exact DH h2)
    rcases hbuf with⟨rfl,h2⟩|⟨B,cap,rfl,h2,h3⟩
    .have hcv:=Lib.run_convert_string_bytes (P:=prog) wr 9 115 5 s Tryz.underlying9 Tryz.underlying115 Tryz.underlying5;have hnew:=Lib.bytesWorld_at_new wr 5 s;have hbs:=Lib.bytesWorld_size wr 5 s;have hold:=Lib.bytesWorld_at_old wr 5 s;have hcell:=Lib.bytesWorld_cell wr 5 s;have hsm:nS wr (Lib.bytesWorld wr 5 s):=⟨rfl,rfl,rfl⟩;have hcs:s.size<=(Lib.bytesCells wr 5 s).size:=by simp[Lib.bytesCells]
     generalize Lib.bytesCells wr 5 s=C1 at*;generalize Lib.bytesWorld wr 5 s=W1 at*;have hx1:Ext w W1:=hx.trans ⟨by omega,hold,hsm⟩;have aXb:W1.cell? ⟨nb,s[k].toNat,none⟩=some (.int .u8 (EN s[k].toNat:Nat)):=(hx1.cell hnb _).trans (htab _ (CI s[k]));have hbj:∀j (h:j<s.size),W1.cell? ⟨wr.heap.size,j,none⟩=some (.int .u8 (s[j].toNat:Nat)):=λj hj=>by
      rw[hcell j hj];have:s.data.toList.getD j 0=s[j]:=by rw[iS,aE (by simpa using hj)];rfl
      rw[this]
     have hbk:=hbj k hlt;have hbz:∀j,j<s.size->W1.frozen? ⟨wr.heap.size,j,none⟩=false:=λj hj=>by simp[World.frozen?,hnew];have:=hcs;omega
     have aXc:=hbz k hlt;have hfin:Ext w (W1.setCell ⟨wr.heap.size,k,none⟩ (.int .u8 (EN s[k].toNat:Nat)))/\Buf w (W1.setCell ⟨wr.heap.size,k,none⟩ (.int .u8 (EN s[k].toNat:Nat))) s (k+1) (.slice (some ⟨wr.heap.size,0,none⟩) s.size (grownCap wr s.size 0 5)):=by
      refine⟨hx1.set hx.size k _,.inr ⟨_,_,rfl,hx.size,λj hj=>⟨?_,by simpa using hbz j hj⟩⟩⟩;by_cases hjk:j=k
      .subst hjk;rw[pT _ _ _ hbk,eK (by omega),CX]
      .rw [gR _ _ _ _ (by simp<;>omega),hbj j hj];by_cases hj2:j<k+1
       .rw [eK hj2,h2 j hj (by omega)]
       .rw [cX hj2]
     clear htab hc hold hnew hbs hsm hcell hcs hbj hbz h2
     go_wp2
     exact⟨⟨k+1,by omega,by simp,hfin.1,hfin.2⟩,by simp[RowKit.intOf]<;>omega⟩
    .have hbk:=(h3 k hlt).1;have hbz:=(h3 k hlt).2;have hfin:Ext w (wr.setCell ⟨B,k,none⟩ (.int .u8 (EN s[k].toNat:Nat)))/\Buf w (wr.setCell ⟨B,k,none⟩ (.int .u8 (EN s[k].toNat:Nat))) s (k+1) (.slice (some ⟨B,0,none⟩) s.size cap):=by
      refine⟨hx.set h2 k _,.inr ⟨_,_,rfl,h2,λj hj=>⟨?_,by simpa using(h3 j hj).2⟩⟩⟩;by_cases hjk:j=k
      .subst hjk;rw[pT _ _ _ hbk,eK (by omega),CX]
      .rw [gR _ _ _ _ (by simp<;>omega),(h3 j hj).1];by_cases hj2:j<k
       .rw [eK hj2,eK (by omega)]
       .rw [cX hj2,cX (by omega)]
     clear htab hc h3
     go_wp2
     exact⟨⟨k+1,by omega,by simp,hfin.1,hfin.2⟩,by simp[RowKit.intOf]<;>omega⟩
  .have hki:k=s.size:=by omega
   have hi:¬(k:Int)<(s.size:Int):=by omega
   rcases hbuf with⟨rfl,h2⟩|⟨B,cap,rfl,h2,h3⟩
   .have h4:s.data.toList.map tL=s.data.toList:=by
     refine ext_getElem (by simp) λj h5 h6=> ?_
     have h7:j<s.size:=by simpa using h6
     rw[AH];exact h2 j h7 (by omega)
    clear h2
    go_wp2
    refine bodyPost_ret (v:= .string s) (by simp[results,results405,go_sem]) rfl ?_;exact⟨by first|rfl|(rw[h4];done),hx⟩
   .have hback:(convert 115 9 (.slice (some ⟨B,0,none⟩) s.size cap)).run prog wr= .ok (.string ⟨(s.data.toList.map tL).toArray⟩) wr:=by
     have h4:=run_convert_bytes_back (P:=prog) wr 115 9 5 ⟨B,0,none⟩ cap (s.data.toList.map tL) Tryz.underlying115 Tryz.underlying5 Tryz.underlying9 (λj hj=>by
      have h7:j<s.size:=by simpa using hj
      have h5:=(h3 j h7).1;rw[eK (by omega)]at h5;have e:(⟨B,0,none⟩:Addr).add j=⟨B,j,none⟩:=by
       unfold Addr.add;split
       .rename_i h0;subst h0;rfl
       .simp
      rw[e,AH];exact h5)
     simpa using h4
    clear h3
    go_wp2
    go_ret
    exact⟨rfl,hx⟩
end Go.Proofs.YtfbefblglejcaaaGreatDoor
set_option maxRecDepth 100000
set_option maxHeartbeats 4000000
namespace Go.Proofs.YtfbefblglejcaaaGreatDoor
open Go.Aw Go.RowKit Go.Lib Proofs.Tryz List IntKind
def mkPairs:List Value:=[.string ⟨#[91]⟩,.string ⟨#[60]⟩,.string ⟨#[93]⟩,.string ⟨#[62]⟩]
def yx(q j:Nat):Nat:=if 2<=q/\j=91 then 60 else if 1<=q/\j=93 then 62 else j
theorem aFk(w:World)(rb sb sc:Nat)(hl:w.cell? ⟨rb,4,none⟩=some (.slice (some ⟨sb,0,none⟩) 4 sc))(hc:bL w sb 0 mkPairs):
  Calls prog 329 #[.pointer (some ⟨rb,0,none⟩)] w λe w'=>∃nb,e= .returned (.iface 357 (.pointer (some ⟨nb,0,none⟩)))/\w.heap.size<=nb/\nb<w'.heap.size/\(∀j:Nat,j<256->w'.cell? ⟨nb,j,none⟩=some (.int .u8 (EN j:Nat)))/\Ext w w':=by
 have h0:w.cell? ⟨sb,0,none⟩=some (.string ⟨#[91]⟩):=hc 0 _ rfl;have h1:w.cell? ⟨sb,1,none⟩=some (.string ⟨#[60]⟩):=hc 1 _ rfl;have h2:w.cell? ⟨sb,2,none⟩=some (.string ⟨#[93]⟩):=hc 2 _ rfl;have h3:w.cell? ⟨sb,3,none⟩=some (.string ⟨#[62]⟩):=hc 3 _ rfl
 go_enter func329,ntmps329
 go_wp2
 go_loopw [4,5] (λa i wr=>w=wr/\a= .bool true/\∃k:Nat,k<=2/\i= .int .i64 ((2*k:Nat):Int)) (λ_ i _=>4-(RowKit.intOf i).toNat)
 case atStart=>exact⟨rfl,rfl,0,by omega,rfl⟩
 case round=>
  obtain⟨rfl,rfl,k,hk,rfl⟩:=hrel;have hk3:k=0\/k=1\/k=2:=by omega
  rcases hk3 with rfl|rfl|rfl
  .go_wp2
   exact⟨⟨trivial,rfl,1,by omega,rfl⟩,by simp[RowKit.intOf]⟩
  .go_wp2
   exact⟨⟨trivial,rfl,2,by omega,rfl⟩,by simp[RowKit.intOf]⟩
  .have hst:=run_storeCells_new (P:=prog) w 356 Tryz.zeroCells356 Tryz.zeroCells356 (by kernel_rfl) rfl (by kernel_rfl)
   go_wp2
   have hx0:Ext w (w.alloc (.cells Tryz.zeroCells356 356)):=⟨by simp,λb hb=>heap_alloc w _ b hb,⟨rfl,rfl,rfl⟩⟩;have hs0:(w.alloc (.cells Tryz.zeroCells356 356)).heap.size=w.heap.size+1:=by simp
   have hz:Tryz.zeroCells356=Array.replicate 256 (.int .u8 0):=by kernel_rfl
   have hself:=fO w (.cells Tryz.zeroCells356 356);generalize w.alloc (.cells Tryz.zeroCells356 356)=W0 at*;rw[hz]at hself;have hc0:∀j:Nat,j<256->W0.cell? ⟨w.heap.size,j,none⟩=some (.int .u8 ((0:Nat):Int))/\W0.frozen? ⟨w.heap.size,j,none⟩=false:=λj hj=>
    ⟨by simp[World.cell?,hself,hj],by simp[World.frozen?,hself]⟩
   clear hz hself hst
   go_loopw [61] (λi w2=>∃k:Nat,k<=256/\i= .int .i64 k/\Ext w w2/\w.heap.size<w2.heap.size/\∀j:Nat,j<256->w2.cell? ⟨w.heap.size,j,none⟩=some (.int .u8 ((if j<k then j else 0:Nat):Int))/\w2.frozen? ⟨w.heap.size,j,none⟩=false) (λi _=>256-(RowKit.intOf i).toNat)
   case atStart=>exact⟨0,by omega,rfl,hx0,by omega,λj hj=>by simpa using hc0 j hj⟩
   case round=>
    clear hc0;obtain⟨k,hk,rfl,hx,hsz,hcs⟩:=hrel;by_cases hlt:k<256
    .have hki:(k:Int)<256:=by omega
     have aXd:(0:Int)<=(k:Int)/\(k:Int)<256:=by omega
     have hwk:IntKind.u8.wrap (k:Int)=(k:Int):=by rw[IntKind.wrap_u8];omega
     have hck:=(hcs k hlt).1;have hfk:=(hcs k hlt).2;rw[cX (by omega)]at hck;have hfin:∀j:Nat,j<256->(wr.setCell ⟨w.heap.size,k,none⟩ (.int .u8 (k:Int))).cell? ⟨w.heap.size,j,none⟩=some (.int .u8 ((if j<k+1 then j else 0:Nat):Int))/\(wr.setCell ⟨w.heap.size,k,none⟩ (.int .u8 (k:Int))).frozen? ⟨w.heap.size,j,none⟩=false:=λj hj=>by
      refine⟨?_,by simpa using(hcs j hj).2⟩;by_cases hjk:j=k
      .subst hjk;rw[pT _ _ _ hck,eK (by omega)]
      .rw [gR _ _ _ _ (by simp<;>omega),(hcs j hj).1];by_cases hj2:j<k
       .rw [eK hj2,eK (by omega)]
       .rw [cX hj2,cX (by omega)]
     have hxs:=hx.set (eE _) k (.int .u8 (k:Int));have NI:w.heap.size<(wr.setCell ⟨w.heap.size,k,none⟩ (.int .u8 (k:Int))).heap.size:=by simpa using hsz
     clear hcs
     go_wp2
     exact⟨⟨k+1,by omega,by simp,hxs,NI,hfin⟩,by simp[RowKit.intOf]<;>omega⟩
    .have hki:¬(k:Int)<256:=by omega
     have aT5:k=256:=by omega
     subst aT5;have hcs2:∀j:Nat,j<256->wr.cell? ⟨w.heap.size,j,none⟩=some (.int .u8 ((yx 0 j:Nat):Int))/\wr.frozen? ⟨w.heap.size,j,none⟩=false:=λj hj=>by have:=hcs j hj;rw[eK hj]at this;exact this
     have hsb:sb<w.heap.size:=World.block_lt_of_cell? _ _ h0;clear hcs
     go_wp2
     have f91:∀h,((⟨#[91]⟩:ByteArray)[0]'h).toNat=91:=λ_=>rfl
     have f93:∀h,((⟨#[93]⟩:ByteArray)[0]'h).toNat=93:=λ_=>rfl
     have f60:∀h,((⟨#[60]⟩:ByteArray)[0]'h).toNat=60:=λ_=>rfl
     have f62:∀h,((⟨#[62]⟩:ByteArray)[0]'h).toNat=62:=λ_=>rfl
     have e91:(⟨#[91]⟩:ByteArray).size=1:=rfl;have e93:(⟨#[93]⟩:ByteArray).size=1:=rfl;have e60:(⟨#[60]⟩:ByteArray).size=1:=rfl;have e62:(⟨#[62]⟩:ByteArray).size=1:=rfl;generalize hW2:wr=W2 at*;clear hW2
     go_loopw [8] (λi w3=>∃q:Nat,q<=2/\i= .int .i64 (2-2*(q:Int))/\Ext w w3/\w.heap.size<w3.heap.size/\∀j:Nat,j<256->w3.cell? ⟨w.heap.size,j,none⟩=some (.int .u8 ((yx q j:Nat):Int))/\w3.frozen? ⟨w.heap.size,j,none⟩=false) (λi _=>(RowKit.intOf i+2).toNat)
     case atStart=>exact⟨0,by omega,rfl,hx,hsz,hcs2⟩
     case round=>
      clear hcs2 hx hsz;obtain⟨q,hq,rfl,hx,hsz,hcs⟩:=hrel;have g0:=(hx.cell hsb 0).trans h0;have g1:=(hx.cell hsb 1).trans h1;have g2:=(hx.cell hsb 2).trans h2;have g3:=(hx.cell hsb 3).trans h3;clear h0 h1 h2 h3;have hk3:q=0\/q=1\/q=2:=by omega
      rcases hk3 with rfl|rfl|rfl
      .have hck:=(hcs 93 (by omega)).1;have hfk:=(hcs 93 (by omega)).2;have hxs:=hx.set (eE _) 93 (.int .u8 62);have NI:w.heap.size<(wr.setCell ⟨w.heap.size,93,none⟩ (.int .u8 62)).heap.size:=by simpa using hsz
       have hfin:∀j:Nat,j<256->(wr.setCell ⟨w.heap.size,93,none⟩ (.int .u8 62)).cell? ⟨w.heap.size,j,none⟩=some (.int .u8 ((yx 1 j:Nat):Int))/\(wr.setCell ⟨w.heap.size,93,none⟩ (.int .u8 62)).frozen? ⟨w.heap.size,j,none⟩=false:=λj hj=>by
        refine⟨?_,by simpa using(hcs j hj).2⟩;by_cases hjk:j=93
        .subst hjk;rw[pT _ _ _ hck];rfl
        .rw [gR _ _ _ _ (by simp<;>omega),(hcs j hj).1];simp[yx,hjk]
       clear hcs
       go_wp2
       exact⟨⟨1,by omega,rfl,hxs,NI,hfin⟩,by simp[RowKit.intOf]⟩
      .have hck:=(hcs 91 (by omega)).1;have hfk:=(hcs 91 (by omega)).2;have hxs:=hx.set (eE _) 91 (.int .u8 60);have NI:w.heap.size<(wr.setCell ⟨w.heap.size,91,none⟩ (.int .u8 60)).heap.size:=by simpa using hsz
       have hfin:∀j:Nat,j<256->(wr.setCell ⟨w.heap.size,91,none⟩ (.int .u8 60)).cell? ⟨w.heap.size,j,none⟩=some (.int .u8 ((yx 2 j:Nat):Int))/\(wr.setCell ⟨w.heap.size,91,none⟩ (.int .u8 60)).frozen? ⟨w.heap.size,j,none⟩=false:=λj hj=>by
        refine⟨?_,by simpa using(hcs j hj).2⟩;by_cases hjk:j=91
        .subst hjk;rw[pT _ _ _ hck];rfl
        .rw [gR _ _ _ _ (by simp<;>omega),(hcs j hj).1];simp[yx,hjk]
       clear hcs
       go_wp2
       exact⟨⟨2,by omega,rfl,hxs,NI,hfin⟩,by simp[RowKit.intOf]⟩
      .have hfin:∀j:Nat,j<256->wr.cell? ⟨w.heap.size,j,none⟩=some (.int .u8 ((EN j:Nat):Int)):=λj hj=>by
        rw[(hcs j hj).1];simp[yx,EN]
       clear hcs
       go_wp2
       go_ret
       exact⟨w.heap.size,rfl,eE _,hsz,hfin,hx⟩
end Go.Proofs.YtfbefblglejcaaaGreatDoor
set_option maxRecDepth 100000
set_option maxHeartbeats 4000000
namespace Go.Proofs.YtfbefblglejcaaaGreatDoor
open Go.Aw Go.RowKit Go.Lib Proofs.Tryz List IntKind
theorem XX(w:World)(rb sb sc:Nat)(r0:Value)(hrb:rb<w.heap.size)(hr:w.cell? ⟨rb,3,none⟩=some r0)(fr:∀j,w.frozen? ⟨rb,j,none⟩=false)(hl:w.cell? ⟨rb,4,none⟩=some (.slice (some ⟨sb,0,none⟩) 4 sc))(hc:bL w sb 0 mkPairs):
  Calls prog 323 #[.pointer (some ⟨rb,0,none⟩)] w λe w'=>e= .returned (.tuple #[])/\∃nb w1,w.heap.size<=nb/\nb<w1.heap.size/\(∀j:Nat,j<256->w1.cell? ⟨nb,j,none⟩=some (.int .u8 (EN j:Nat)))/\Ext w w1/\
   w'=(w1.setCell ⟨rb,3,none⟩ (.iface 357 (.pointer (some ⟨nb,0,none⟩)))).setCell ⟨rb,4,none⟩ (.slice none 0 0):=by
 go_enter func323,ntmps323
 go_wp2_with (go_at_call 329;refine(aFk w rb sb sc hl hc).mono ?_;rintro e w1 ⟨nb,rfl,hn1,hn2,hn3,hn4⟩;have k3:=(hn4.cell hrb 3).trans hr;have k4:=(hn4.cell hrb 4).trans hl;have z3:=(hn4.frozen hrb 3).trans (fr 3);have z4:=(hn4.frozen hrb 4).trans (fr 4))
 go_end0
 exact⟨rfl,nb,w1,hn1,hn2,hn3,hn4,rfl⟩
theorem aJl(w:World)(rb sb sc:Nat)(r0:Value)(hrb:rb<w.heap.size)(h0:w.cell? ⟨rb,0,none⟩=some (.int .u32 0))(h1:w.cell? ⟨rb,1,none⟩=some (.int .i32 0))(hr:w.cell? ⟨rb,3,none⟩=some r0)(fr:∀j,w.frozen? ⟨rb,j,none⟩=false)
  (hl:w.cell? ⟨rb,4,none⟩=some (.slice (some ⟨sb,0,none⟩) 4 sc)) (hc:bL w sb 0 mkPairs) (hsb:sb≠rb):
  Calls prog 328 #[.pointer (some ⟨rb,0,none⟩),.func (.func 323) #[.pointer (some ⟨rb,0,none⟩)] #[]] w λe w'=>e= .returned (.tuple #[])/\∃nb,w.heap.size<=nb/\nb<w'.heap.size/\(∀j:Nat,j<256->w'.cell? ⟨nb,j,none⟩=some (.int .u8 (EN j:Nat)))/\
   w'.cell? ⟨rb,3,none⟩=some (.iface 357 (.pointer (some ⟨nb,0,none⟩)))/\w.heap.size<=w'.heap.size/\(∀b,b<w.heap.size->b≠rb->w'.heap[b]? =w.heap[b]?)/\nS w w':=by
 have hnot:∀(x:Bool) (w:World),(Op.unary .not (.bool x)).run prog w= .ok (.bool (!x)) w:=λ_ _=>rfl
 have ho:∀i j:Nat,i≠j->(⟨rb,i,none⟩:Addr)≠⟨rb,j,none⟩:=λi j h e=>h (by simpa using e)
 generalize hWL:w.setCell ⟨rb,1,none⟩ (.int .i32 1)=WL;have l0:WL.cell? ⟨rb,0,none⟩=some (.int .u32 0):=by rw[<-hWL,gR _ _ _ _ (ho _ _ (by decide))];exact h0
 have l1:WL.cell? ⟨rb,1,none⟩=some (.int .i32 1):=by rw[<-hWL];exact pT _ _ _ h1
 have l3:WL.cell? ⟨rb,3,none⟩=some r0:=by rw[<-hWL,gR _ _ _ _ (ho _ _ (by decide))];exact hr
 have l4:WL.cell? ⟨rb,4,none⟩=some (.slice (some ⟨sb,0,none⟩) 4 sc):=by rw[<-hWL,gR _ _ _ _ (ho _ _ (by decide))];exact hl
 have lz:∀j,WL.frozen? ⟨rb,j,none⟩=false:=λj=>by rw[<-hWL];simpa using fr j
 have lc:bL WL sb 0 mkPairs:=λj v hv=>by rw[<-hWL,gR _ _ _ _ (by simp[Ax hsb])];exact hc j v hv
 have lh:∀b,b≠rb->WL.heap[b]? =w.heap[b]?:=λb hb=>by rw[<-hWL];exact vZ w rb 1 _ hb
 have lsz:WL.heap.size=w.heap.size:=by have:=Go.Aw.gW rb [.int .i32 1] 1 w;simpa only[World.setCells,hWL]using this
 have lsm:nS w WL:=by have:=Go.Aw.kJ rb [.int .i32 1] 1 w;simpa only[World.setCells,hWL]using this
 have hld:=run_call_load (P:=prog) func339 (by kernel_rfl) (by kernel_rfl) (by kernel_rfl) .u32 (by kernel_rfl) (w:=WL) (a:=⟨rb,0,none⟩) (x:=0) l0
 go_enter_defers func328,ntmps328
 go_wp2_with (first|(go_at_call 340;refine(aJk ⟨rb,1,none⟩ _ h1 (fr 1)).mono ?_;rintro e w' ⟨rfl,rfl⟩;rw[hWL])|(go_at_call 323;refine(XX WL rb sb sc r0 (by omega) l3 lz l4 lc).mono ?_;rintro e w' ⟨rfl,nb,w1,n1,n2,n3,n4,rfl⟩)|(go_at_call 327;go_in))
 have hrl:rb<WL.heap.size:=by omega
 generalize hW5:(w1.setCell ⟨rb,3,none⟩ (.iface 357 (.pointer (some ⟨nb,0,none⟩)))).setCell ⟨rb,4,none⟩ (.slice none 0 0)=W5;have p0:W5.cell? ⟨rb,0,none⟩=some (.int .u32 0):=by rw[<-hW5,gR _ _ _ _ (ho _ _ (by decide)),gR _ _ _ _ (ho _ _ (by decide))];exact(n4.cell hrl 0).trans l0
 have p1:W5.cell? ⟨rb,1,none⟩=some (.int .i32 1):=by rw[<-hW5,gR _ _ _ _ (ho _ _ (by decide)),gR _ _ _ _ (ho _ _ (by decide))];exact(n4.cell hrl 1).trans l1
 have pz:∀j,W5.frozen? ⟨rb,j,none⟩=false:=λj=>by rw[<-hW5];simpa using(n4.frozen hrl j).trans (lz j)
 refine leaves_cons (f:=342) (args:=#[.pointer (some ⟨rb,0,none⟩),.bool true]) (by simp) (by simp[go_sem]) ?_;refine(aFi ⟨rb,0,none⟩ (.int .u32 0) .returning _ p0 (pz 0)).mono ?_;rintro e u' w'' ⟨rfl,rfl,rfl⟩;refine leaves_cons (f:=341) (args:=#[.pointer (some ⟨rb,1,none⟩)]) (by simp[settle]) (by simp[go_sem]) ?_;refine(aA6 ⟨rb,1,none⟩ _ _ (by rw[gR _ _ _ _ (ho _ _ (by decide)),World.cell?_drew];exact p1) (by simpa using pz 1)).mono ?_;rintro e u' w'' ⟨rfl,rfl,rfl⟩;have hne:nb≠rb:=by omega
 have hcn:∀(W:World) (o:Nat) (v:Value) (j:Nat),(W.setCell ⟨rb,o,none⟩ v).cell? ⟨nb,j,none⟩=W.cell? ⟨nb,j,none⟩:=λW o v j=>gR _ _ _ _ (by simp[Ax hne])
 have t1:∀j:Nat,j<256->((W5.drew.setCell ⟨rb,0,none⟩ (.int .u32 1)).setCell ⟨rb,1,none⟩ (.int .i32 0)).cell? ⟨nb,j,none⟩=some (.int .u8 (EN j:Nat)):=λj hj=>by rw[hcn,hcn,World.cell?_drew,<-hW5,hcn,hcn];exact n3 j hj
 have t2:((W5.drew.setCell ⟨rb,0,none⟩ (.int .u32 1)).setCell ⟨rb,1,none⟩ (.int .i32 0)).cell? ⟨rb,3,none⟩=some (.iface 357 (.pointer (some ⟨nb,0,none⟩))):=by rw[gR _ _ _ _ (ho _ _ (by decide)),gR _ _ _ _ (ho _ _ (by decide)),World.cell?_drew,<-hW5,gR _ _ _ _ (ho _ _ (by decide))];exact pT _ _ _ ((n4.cell hrl 3).trans l3)
 have hsz:∀(W:World) (o:Nat) (v:Value),(W.setCell ⟨rb,o,none⟩ v).heap.size=W.heap.size:=λW o v=>by simpa only[World.setCells]using Go.Aw.gW rb [v] o W
 have hsm:∀(W:World) (o:Nat) (v:Value),nS W (W.setCell ⟨rb,o,none⟩ v):=λW o v=>by simpa only[World.setCells]using Go.Aw.kJ rb [v] o W
 have t3:((W5.drew.setCell ⟨rb,0,none⟩ (.int .u32 1)).setCell ⟨rb,1,none⟩ (.int .i32 0)).heap.size=w1.heap.size:=by rw[hsz,hsz];show W5.heap.size=_;rw[<-hW5,hsz,hsz]
 have t4:∀b,b<w.heap.size->b≠rb->((W5.drew.setCell ⟨rb,0,none⟩ (.int .u32 1)).setCell ⟨rb,1,none⟩ (.int .i32 0)).heap[b]? =w.heap[b]?:=λb hb hbr=>by rw[vZ _ _ _ _ hbr,vZ _ _ _ _ hbr];show W5.heap[b]? =_;rw[<-hW5,vZ _ _ _ _ hbr,vZ _ _ _ _ hbr,n4.old b (by omega),lh b hbr]
 have t5:nS w ((W5.drew.setCell ⟨rb,0,none⟩ (.int .u32 1)).setCell ⟨rb,1,none⟩ (.int .i32 0)):=by
  have e1:nS w W5:=by rw[<-hW5];exact((lsm.trans n4.same).trans (hsm _ _ _)).trans (hsm _ _ _)
  exact((e1.trans (b:=W5) (c:=W5.drew) ⟨rfl,rfl,rfl⟩).trans (hsm _ _ _)).trans (hsm _ _ _)
 generalize (W5.drew.setCell ⟨rb,0,none⟩ (.int .u32 1)).setCell ⟨rb,1,none⟩ (.int .i32 0)=W7 at*;have hfin:∃nb,w.heap.size<=nb/\nb<W7.heap.size/\(∀j:Nat,j<256->W7.cell? ⟨nb,j,none⟩=some (.int .u8 (EN j:Nat)))/\W7.cell? ⟨rb,3,none⟩=some (.iface 357 (.pointer (some ⟨nb,0,none⟩)))/\w.heap.size<=W7.heap.size/\(∀b,b<w.heap.size->b≠rb->W7.heap[b]? =w.heap[b]?)/\nS w W7:=
  ⟨nb,by omega,by omega,t1,t2,by have:=n4.size;omega,t4,t5⟩
 clear t1 t2 t3 t4 t5 p0 p1 pz hW5 hcn hsz hsm l0 l1 l3 l4 lz lc lh;simpa [Leaves,settle,results,results328]using hfin
end Go.Proofs.YtfbefblglejcaaaGreatDoor
set_option maxRecDepth 100000
set_option maxHeartbeats 4000000
namespace Go.Proofs.YtfbefblglejcaaaGreatDoor
open Go.Aw Go.RowKit Go.Lib Proofs.Tryz List IntKind
theorem yz(w:World)(rb sb sc:Nat)(r0:Value)(s:ByteArray)(hs:s.size<=1099511627776)(hrb:rb<w.heap.size)(h0:w.cell? ⟨rb,0,none⟩=some (.int .u32 0))(h1:w.cell? ⟨rb,1,none⟩=some (.int .i32 0))(hr:w.cell? ⟨rb,3,none⟩=some r0)(fr:∀j,w.frozen? ⟨rb,j,none⟩=false)
  (hl:w.cell? ⟨rb,4,none⟩=some (.slice (some ⟨sb,0,none⟩) 4 sc)) (hc:bL w sb 0 mkPairs) (hsb:sb≠rb):
  Calls prog 315 #[.pointer (some ⟨rb,0,none⟩),.string s] w λe w'=>e= .returned (.string ⟨(s.data.toList.map tL).toArray⟩)/\w.heap.size<=w'.heap.size/\(∀b,b<w.heap.size->b≠rb->w'.heap[b]? =w.heap[b]?)/\nS w w':=by
 have hnot:∀(x:Bool) (w:World),(Op.unary .not (.bool x)).run prog w= .ok (.bool (!x)) w:=λ_ _=>rfl
 have hmf:∀(fn:Fn) (first cap:Array Value) (w:World),(Instr.makeFunc fn first cap).run prog w= .ok (.func fn first cap) w:=λ_ _ _ _=>rfl
 have hm:∀(nb:Nat) (w:World),(method 532 357 (.pointer (some ⟨nb,0,none⟩)) "Replace").run prog w= .ok (405,.pointer (some ⟨nb,0,none⟩)) w:=λ_ _=>by kernel_rfl
 have hld:=run_call_load (P:=prog) func339 (by kernel_rfl) (by kernel_rfl) (by kernel_rfl) .u32 (by kernel_rfl) (w:=w) (a:=⟨rb,0,none⟩) (x:=0) h0
 go_enter func315,ntmps315
 go_wp2_with (first|(go_at_call 322;go_in)|(go_at_call 327;go_in)|(go_at_call 328;refine(aJl w rb sb sc r0 hrb h0 h1 hr fr hl hc hsb).mono ?_;rintro e w1 ⟨rfl,nb,n1,n2,n3,n4,n5,n6,n7⟩))
 go_end0
 go_wp2_with (go_at_call 405;refine(aFj _ _ s hs n2 n3).mono ?_;rintro e w2 ⟨rfl,hx⟩)
 go_ret
 exact⟨rfl,kO n5 hx.size,λb hb hbr=>(hx.old b (oX hb n5)).trans (n6 b hb hbr),n7.trans hx.same⟩
end Go.Proofs.YtfbefblglejcaaaGreatDoor
