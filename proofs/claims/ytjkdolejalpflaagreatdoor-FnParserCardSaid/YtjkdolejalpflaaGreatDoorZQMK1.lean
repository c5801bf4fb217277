/- Proved here: steps towards the statement of this claim. No condition. -/
import Derived.Test.YtjkdolejalpflaaGreatDoorZYFacts
import Derived.Lib.SliceRun
import Derived.Deep.WholeRow
set_option linter.all false
set_option maxRecDepth 100000
set_option maxHeartbeats 4000000
namespace Go.Proofs.YtjkdolejalpflaaGreatDoor
open Go.Aw Proofs.Tryz List IntKind
theorem Lr(w:World):(callFunc 238 #[]).run prog w= .ok (.value (.tuple #[])) w:=run_call_mark0 func238 (by kernel_rfl) (by kernel_rfl) (by kernel_rfl) .disable (by kernel_rfl) w
theorem OB(w:World):(callFunc 240 #[]).run prog w= .ok (.value (.tuple #[])) w:=run_call_mark0 func240 (by kernel_rfl) (by kernel_rfl) (by kernel_rfl) .enable (by kernel_rfl) w
theorem Vp(a:Addr)(w:World):(callFunc 241 #[.pointer (some a)]).run prog w= .ok (.value (.tuple #[])) w:=run_call_marked func241 (by kernel_rfl) (by kernel_rfl) (by kernel_rfl) .acquire (by kernel_rfl) a w
theorem Vq(a:Addr)(w:World):(callFunc 243 #[.pointer (some a)]).run prog w= .ok (.value (.tuple #[])) w:=run_call_marked func243 (by kernel_rfl) (by kernel_rfl) (by kernel_rfl) .releaseMerge (by kernel_rfl) a w
theorem jc(a:Addr)(x:Value)(u:FrameMode)(w:World)(hc:w.cell? a=some x)(hz:w.frozen? a=false):
  CallsD prog 215 #[.pointer (some a),.bool true] u w λe u' w'=>u'=u/\(e= .returned (.tuple #[])/\w'=w.drew.setCell a (.int .u32 1)):=by
 have hc':w.drew.cell? a=some x:=by go_simp
 have hz':w.drew.frozen? a=false:=by go_simp
 have hst:=run_call_store (P:=prog) func227 (by kernel_rfl) (by kernel_rfl) (by kernel_rfl) (by kernel_rfl) (k:= .u32) (y:=1) hc' hz'
 go_enter_d func215,ntmps215
 go_wp2
 go_region_calls
 all_goals (go_end0;exact⟨rfl,rfl⟩)
theorem Ye(a:Addr)(u:FrameMode)(w:World)(hc:w.cell? a=some (.int .i32 1))(hz:w.frozen? a=false):
  CallsD prog 214 #[.pointer (some a)] u w λe u' w'=>u'=u/\(e= .returned (.tuple #[])/\w'=w.setCell a (.int .i32 0)):=by
 have hd:=Lr;have he:=OB;have hr:=Vq;have hadd:=run_call_add (P:=prog) func244 (by kernel_rfl) (by kernel_rfl) (by kernel_rfl) .i32 (by kernel_rfl) (y:= -1) (s:=0) hc hz (by simp[go_sem];rfl);have hcv:=run_convert_to_unsafe (P:=prog) (src:=284) (dst:=288) Tryz.underlying284 Tryz.underlying288 (by kernel_rfl) hc
 go_enter_d func214,ntmps214
 go_wp2
 go_end0
 go_wp2
 go_end0
 exact⟨rfl,rfl⟩
theorem D8(a:Addr)(w:World)(hc:w.cell? a=some (.int .i32 0))(hz:w.frozen? a=false):
  Calls prog 213 #[.pointer (some a)] w λe w'=>e= .returned (.tuple #[])/\w'=w.setCell a (.int .i32 1):=by
 have hd:=Lr;have he:=OB;have ha:=Vp;have hcas:=run_call_cas_hit (P:=prog) func239 (by kernel_rfl) (by kernel_rfl) (by kernel_rfl) .i32 (by kernel_rfl) (y:=1) hc hz;have hc':(w.setCell a (.int .i32 1)).cell? a=some (.int .i32 1):=oA w a _ hc;have hcv:=run_convert_to_unsafe (P:=prog) (src:=284) (dst:=288) Tryz.underlying284 Tryz.underlying288 (by kernel_rfl) hc'
 go_enter func213,ntmps213
 go_wp2
 first|go_end0|(simp only[Exit.inBlock,Exit.then];refine bodyPost_ret (results_none rfl _ _ _) rfl ?_)|refine bodyPost_ret (results_none rfl _ _ _) rfl ?_
 go_wp2
 go_end0
 exact⟨rfl,rfl⟩
end Go.Proofs.YtjkdolejalpflaaGreatDoor
set_option maxRecDepth 100000
set_option maxHeartbeats 4000000
namespace Go.Proofs.YtjkdolejalpflaaGreatDoor
open Go.Aw Go.RowKit Go.Lib Proofs.Tryz List IntKind
def AQ(n:Nat):Nat:=if n=91 then 60 else if n=93 then 62 else n
def oH(c:UInt8):UInt8:=if c=91 then 60 else if c=93 then 62 else c
theorem yF(c:UInt8):(oH c).toNat=AQ c.toNat:=by
 unfold oH AQ;by_cases h1:c=91
 .subst h1;rfl
 .have h1':¬c.toNat=91:=λh=>h1 (BT h)
  rw[cU h1,cU h1'];by_cases h2:c=93
  .subst h2;rfl
  .have h2':¬c.toNat=93:=λh=>h2 (BT h)
   rw[cU h2,cU h2']
structure Ext(w w':World): Prop where
  size:w.heap.size <= w'.heap.size
  xk:∀ b, b<w.heap.size -> w'.heap[b]? = w.heap[b]?
  same:iW w w'
theorem Ext.refl(w:World):Ext w w:=⟨cX _,λ_ _=>rfl,iW.rfl⟩
theorem Ext.trans{a b c:World}(h:Ext a b)(k:Ext b c):Ext a c:=⟨fW h.size k.size,λx hx=>(k.xk x (fS hx h.size)).trans (h.xk x hx),h.same.trans k.same⟩
theorem Ext.cell{w w':World}(h:Ext w w'){b:Nat}(hb:b<w.heap.size)(j:Nat):w'.cell? ⟨b,j,none⟩=w.cell? ⟨b,j,none⟩:=by simp[World.cell?,h.xk b hb]
theorem Ext.frozen{w w':World}(h:Ext w w'){b:Nat}(hb:b<w.heap.size)(j:Nat):w'.frozen? ⟨b,j,none⟩=w.frozen? ⟨b,j,none⟩:=by simp[World.frozen?,h.xk b hb]
theorem qQ(w:World)(b o:Nat)(v:Value){k:Nat}(h:k≠b):(w.setCell ⟨b,o,none⟩ v).heap[k]? =w.heap[k]?:=by have:=Go.Aw.jC b k h [v] o w;simpa [World.setCells]using this
theorem Ext.set{w w':World}(h:Ext w w'){b:Nat}(hb:w.heap.size<=b)(o:Nat)(v:Value):Ext w (w'.setCell ⟨b,o,none⟩ v):=by have h1:=Go.Aw.fC b [v] o w';have h2:=Go.Aw.iM b [v] o w';simp only[World.setCells]at h1 h2;exact⟨by rw[h1];exact h.size,λx hx=>(qQ w' b o v (by omega)).trans (h.xk x hx),h.same.trans h2⟩
def Buf(w wr:World)(s:ByteArray)(k:Nat)(v:Value):Prop:=
 (v= .slice none 0 0/\∀j (h:j<s.size),j<k->oH s[j]=s[j])\/
 (∃B cap:Nat,v= .slice (some ⟨B,0,none⟩) s.size cap/\w.heap.size<=B/\∀j (h:j<s.size),wr.cell? ⟨B,j,none⟩=some (.int .u8 ((if j<k then oH s[j]else s[j]).toNat:Nat))/\wr.frozen? ⟨B,j,none⟩=false)
theorem jd(w:World)(nb:Nat)(s:ByteArray)(hs:s.size<=1099511627776)(hnb:nb<w.heap.size)(htab:∀j:Nat,j<256->w.cell? ⟨nb,j,none⟩=some (.int .u8 (AQ j:Nat))):
  Calls prog 288 #[.pointer (some ⟨nb,0,none⟩),.string s] w λe w'=>e= .returned (.string ⟨(s.data.toList.map oH).toArray⟩)/\Ext w w':=by
 have qT:∀(w:World) (a:Option Addr) (n c n' c':Nat),(binOp .eql 22 (.slice a n c) (.slice none n' c')).run prog w= .ok (.bool a.isNone) w:=λw a n c n' c'=>Lib.run_eql_slice_nil w _ _ a n c n' c' Tryz.underlying22
 go_enter func288,ntmps288
 go_wp2
 go_loopw [5,6] (λv i wr=>∃k:Nat,k<=s.size/\i= .int .i64 k/\Ext w wr/\Buf w wr s k v) (λ_ i _=>s.size-(RowKit.intOf i).toNat)
 case atStart=>exact⟨0,by omega,rfl,Ext.refl w,.inl ⟨rfl,λj h h0=>absurd h0 (by omega)⟩⟩
 case round=>
  obtain⟨k,hk,rfl,hx,hbuf⟩:=hrel;by_cases hlt:k<s.size
  .have hi:(0:Int)<=(k:Int)/\(k:Int)<(s.size:Int):=by omega
   have hc:∀j:Nat,j<256->wr.cell? ⟨nb,j,none⟩=some (.int .u8 (AQ j:Nat)):=λj hj=>(hx.cell hnb j).trans (htab j hj)
   have hcb:(0:Int)<=((s[k].toNat:Nat):Int)/\((s[k].toNat:Nat):Int)<256:=⟨by omega,by have:=CI s[k];omega⟩;have hck:=hc s[k].toNat (CI s[k]);by_cases hne:oH s[k]=s[k]
   .have hne2:((AQ s[k].toNat:Nat):Int)=((s[k].toNat:Nat):Int):=by rw[<-yF,hne]
    have hb2:Buf w wr s (k+1) u5:=by
     rcases hbuf with⟨h1,h2⟩|⟨B,cap,h1,h2,h3⟩
     .refine .inl ⟨h1,λj hj hj2=> ?_⟩
      rcases At j k with h|h
      .exact h2 j hj h
      .obtain rfl:j=k:=by omega
       exact hne
     .refine .inr ⟨B,cap,h1,h2,λj hj=>⟨?_,(h3 j hj).2⟩⟩
      rw[(h3 j hj).1];rcases Nat.lt_trichotomy j k with h|h|h
      .rw [eA h,eA (by omega)]
      .subst h;rw[cU (by omega),eA (by omega),hne]
      .rw [cU (by omega),cU (by omega)]
    clear hbuf htab hc
    go_wp2
    exact⟨⟨k+1,by omega,by simp,hx,hb2⟩,by simp[RowKit.intOf]<;>omega⟩
   .have hne2:¬((AQ s[k].toNat:Nat):Int)=((s[k].toNat:Nat):Int):=λh=>hne (by
     have h2:AQ s[k].toNat=s[k].toNat:=by exact_mod_cast h
     rw[<-yF]at h2;exact BT h2)
    rcases hbuf with⟨rfl,h2⟩|⟨B,cap,rfl,h2,h3⟩
    .have hcv:=Lib.run_convert_string_bytes (P:=prog) wr 9 22 5 s Tryz.underlying9 Tryz.underlying22 Tryz.underlying5;have hnew:=Lib.bytesWorld_at_new wr 5 s;have hbs:=Lib.bytesWorld_size wr 5 s;have hold:=Lib.bytesWorld_at_old wr 5 s;have hcell:=Lib.bytesWorld_cell wr 5 s;have hsm:iW wr (Lib.bytesWorld wr 5 s):=⟨rfl,rfl,rfl⟩;have hcs:s.size<=(Lib.bytesCells wr 5 s).size:=by simp[Lib.bytesCells]
     generalize Lib.bytesCells wr 5 s=C1 at*;generalize Lib.bytesWorld wr 5 s=W1 at*;have hx1:Ext w W1:=hx.trans ⟨by omega,hold,hsm⟩;have aKm:W1.cell? ⟨nb,s[k].toNat,none⟩=some (.int .u8 (AQ s[k].toNat:Nat)):=(hx1.cell hnb _).trans (htab _ (CI s[k]));have hbj:∀j (h:j<s.size),W1.cell? ⟨wr.heap.size,j,none⟩=some (.int .u8 (s[j].toNat:Nat)):=λj hj=>by
      rw[hcell j hj];have:s.data.toList.getD j 0=s[j]:=by rw[lO,aE (by simpa using hj)];rfl
      rw[this]
     have hbk:=hbj k hlt;have hbz:∀j,j<s.size->W1.frozen? ⟨wr.heap.size,j,none⟩=false:=λj hj=>by simp[World.frozen?,hnew];have:=hcs;omega
     have aKn:=hbz k hlt;have hfin:Ext w (W1.setCell ⟨wr.heap.size,k,none⟩ (.int .u8 (AQ s[k].toNat:Nat)))/\Buf w (W1.setCell ⟨wr.heap.size,k,none⟩ (.int .u8 (AQ s[k].toNat:Nat))) s (k+1) (.slice (some ⟨wr.heap.size,0,none⟩) s.size (grownCap wr s.size 0 5)):=by
      refine⟨hx1.set hx.size k _,.inr ⟨_,_,rfl,hx.size,λj hj=>⟨?_,by simpa using hbz j hj⟩⟩⟩;by_cases hjk:j=k
      .subst hjk;rw[oA _ _ _ hbk,eA (by omega),yF]
      .rw [fN _ _ _ _ (by simp<;>omega),hbj j hj];by_cases hj2:j<k+1
       .rw [eA hj2,h2 j hj (by omega)]
       .rw [cU hj2]
     clear htab hc hold hnew hbs hsm hcell hcs hbj hbz h2
     go_wp2
     exact⟨⟨k+1,by omega,by simp,hfin.1,hfin.2⟩,by simp[RowKit.intOf]<;>omega⟩
    .have hbk:=(h3 k hlt).1;have hbz:=(h3 k hlt).2;have hfin:Ext w (wr.setCell ⟨B,k,none⟩ (.int .u8 (AQ s[k].toNat:Nat)))/\Buf w (wr.setCell ⟨B,k,none⟩ (.int .u8 (AQ s[k].toNat:Nat))) s (k+1) (.slice (some ⟨B,0,none⟩) s.size cap):=by
      refine⟨hx.set h2 k _,.inr ⟨_,_,rfl,h2,λj hj=>⟨?_,by simpa using(h3 j hj).2⟩⟩⟩;by_cases hjk:j=k
      .subst hjk;rw[oA _ _ _ hbk,eA (by omega),yF]
      .rw [fN _ _ _ _ (by simp<;>omega),(h3 j hj).1];by_cases hj2:j<k
       .rw [eA hj2,eA (by omega)]
       .rw [cU hj2,cU (by omega)]
     clear htab hc h3
     go_wp2
     exact⟨⟨k+1,by omega,by simp,hfin.1,hfin.2⟩,by simp[RowKit.intOf]<;>omega⟩
  .have hki:k=s.size:=by omega
   have hi:¬(k:Int)<(s.size:Int):=by omega
   rcases hbuf with⟨rfl,h2⟩|⟨B,cap,rfl,h2,h3⟩
   .have h4:s.data.toList.map oH=s.data.toList:=by
     refine ext_getElem (by simp) λj h5 h6=> ?_
     have h7:j<s.size:=by simpa using h6
     rw[getElem_map];exact h2 j h7 (by omega)
    clear h2
    go_wp2
    refine bodyPost_ret (v:= .string s) (by simp[results,results288,go_sem]) rfl ?_;exact⟨by first|rfl|(rw[h4];done),hx⟩
   .have hback:(convert 22 9 (.slice (some ⟨B,0,none⟩) s.size cap)).run prog wr= .ok (.string ⟨(s.data.toList.map oH).toArray⟩) wr:=by
     have h4:=run_convert_bytes_back (P:=prog) wr 22 9 5 ⟨B,0,none⟩ cap (s.data.toList.map oH) Tryz.underlying22 Tryz.underlying5 Tryz.underlying9 (λj hj=>by
      have h7:j<s.size:=by simpa using hj
      have h5:=(h3 j h7).1;rw[eA (by omega)]at h5;have e:(⟨B,0,none⟩:Addr).add j=⟨B,j,none⟩:=by
       unfold Addr.add;split
       .rename_i h0;subst h0;rfl
       .simp
      rw[e,getElem_map];exact h5)
     simpa using h4
    clear h3
    go_wp2
    go_ret
    exact⟨rfl,hx⟩
end Go.Proofs.YtjkdolejalpflaaGreatDoor
set_option maxRecDepth 100000
set_option maxHeartbeats 4000000
namespace Go.Proofs.YtjkdolejalpflaaGreatDoor
open Go.Aw Go.RowKit Go.Lib Proofs.Tryz List IntKind
def mkPairs:List Value:=[.string ⟨#[91]⟩,.string ⟨#[60]⟩,.string ⟨#[93]⟩,.string ⟨#[62]⟩]
def Vr(q j:Nat):Nat:=if 2<=q/\j=91 then 60 else if 1<=q/\j=93 then 62 else j
theorem je(w:World)(rb sb sc:Nat)(hl:w.cell? ⟨rb,4,none⟩=some (.slice (some ⟨sb,0,none⟩) 4 sc))(hc:bA w sb 0 mkPairs):
  Calls prog 203 #[.pointer (some ⟨rb,0,none⟩)] w λe w'=>∃nb,e= .returned (.iface 244 (.pointer (some ⟨nb,0,none⟩)))/\w.heap.size<=nb/\nb<w'.heap.size/\(∀j:Nat,j<256->w'.cell? ⟨nb,j,none⟩=some (.int .u8 (AQ j:Nat)))/\Ext w w':=by
 have h0:w.cell? ⟨sb,0,none⟩=some (.string ⟨#[91]⟩):=hc 0 _ rfl;have h1:w.cell? ⟨sb,1,none⟩=some (.string ⟨#[60]⟩):=hc 1 _ rfl;have h2:w.cell? ⟨sb,2,none⟩=some (.string ⟨#[93]⟩):=hc 2 _ rfl;have h3:w.cell? ⟨sb,3,none⟩=some (.string ⟨#[62]⟩):=hc 3 _ rfl
 go_enter func203,ntmps203
 go_wp2
 go_loopw [4,5] (λa i wr=>w=wr/\a= .bool true/\∃k:Nat,k<=2/\i= .int .i64 ((2*k:Nat):Int)) (λ_ i _=>4-(RowKit.intOf i).toNat)
 case atStart=>exact⟨rfl,rfl,0,by omega,rfl⟩
 case round=>
  obtain⟨rfl,rfl,k,hk,rfl⟩:=hrel;have hk3:k=0\/k=1\/k=2:=by omega
  rcases hk3 with rfl|rfl|rfl
  .go_wp2
   exact⟨⟨trivial,rfl,1,by omega,rfl⟩,by simp[RowKit.intOf]⟩
  .go_wp2
   exact⟨⟨trivial,rfl,2,by omega,rfl⟩,by simp[RowKit.intOf]⟩
  .have hst:=run_storeCells_new (P:=prog) w 243 Tryz.zeroCells243 Tryz.zeroCells243 (by kernel_rfl) rfl (by kernel_rfl)
   go_wp2
   have hx0:Ext w (w.alloc (.cells Tryz.zeroCells243 243)):=⟨by simp,λb hb=>heap_alloc w _ b hb,⟨rfl,rfl,rfl⟩⟩;have hs0:(w.alloc (.cells Tryz.zeroCells243 243)).heap.size=w.heap.size+1:=by simp
   have hz:Tryz.zeroCells243=Array.replicate 256 (.int .u8 0):=by kernel_rfl
   have hself:=eU w (.cells Tryz.zeroCells243 243);generalize w.alloc (.cells Tryz.zeroCells243 243)=W0 at*;rw[hz]at hself;have hc0:∀j:Nat,j<256->W0.cell? ⟨w.heap.size,j,none⟩=some (.int .u8 ((0:Nat):Int))/\W0.frozen? ⟨w.heap.size,j,none⟩=false:=λj hj=>
    ⟨by simp[World.cell?,hself,hj],by simp[World.frozen?,hself]⟩
   clear hz hself hst
   go_loopw [61] (λi w2=>∃k:Nat,k<=256/\i= .int .i64 k/\Ext w w2/\w.heap.size<w2.heap.size/\∀j:Nat,j<256->w2.cell? ⟨w.heap.size,j,none⟩=some (.int .u8 ((if j<k then j else 0:Nat):Int))/\w2.frozen? ⟨w.heap.size,j,none⟩=false) (λi _=>256-(RowKit.intOf i).toNat)
   case atStart=>exact⟨0,by omega,rfl,hx0,by omega,λj hj=>by simpa using hc0 j hj⟩
   case round=>
    clear hc0;obtain⟨k,hk,rfl,hx,hsz,hcs⟩:=hrel;by_cases hlt:k<256
    .have hki:(k:Int)<256:=by omega
     have aKo:(0:Int)<=(k:Int)/\(k:Int)<256:=by omega
     have hwk:IntKind.u8.wrap (k:Int)=(k:Int):=by rw[IntKind.wrap_u8];omega
     have hck:=(hcs k hlt).1;have hfk:=(hcs k hlt).2;rw[cU (by omega)]at hck;have hfin:∀j:Nat,j<256->(wr.setCell ⟨w.heap.size,k,none⟩ (.int .u8 (k:Int))).cell? ⟨w.heap.size,j,none⟩=some (.int .u8 ((if j<k+1 then j else 0:Nat):Int))/\(wr.setCell ⟨w.heap.size,k,none⟩ (.int .u8 (k:Int))).frozen? ⟨w.heap.size,j,none⟩=false:=λj hj=>by
      refine⟨?_,by simpa using(hcs j hj).2⟩;by_cases hjk:j=k
      .subst hjk;rw[oA _ _ _ hck,eA (by omega)]
      .rw [fN _ _ _ _ (by simp<;>omega),(hcs j hj).1];by_cases hj2:j<k
       .rw [eA hj2,eA (by omega)]
       .rw [cU hj2,cU (by omega)]
     have hxs:=hx.set (cX _) k (.int .u8 (k:Int));have jf:w.heap.size<(wr.setCell ⟨w.heap.size,k,none⟩ (.int .u8 (k:Int))).heap.size:=by simpa using hsz
     clear hcs
     go_wp2
     exact⟨⟨k+1,by omega,by simp,hxs,jf,hfin⟩,by simp[RowKit.intOf]<;>omega⟩
    .have hki:¬(k:Int)<256:=by omega
     have aHs:k=256:=by omega
     subst aHs;have hcs2:∀j:Nat,j<256->wr.cell? ⟨w.heap.size,j,none⟩=some (.int .u8 ((Vr 0 j:Nat):Int))/\wr.frozen? ⟨w.heap.size,j,none⟩=false:=λj hj=>by have:=hcs j hj;rw[eA hj]at this;exact this
     have hsb:sb<w.heap.size:=World.block_lt_of_cell? _ _ h0;clear hcs
     go_wp2
     have f91:∀h,((⟨#[91]⟩:ByteArray)[0]'h).toNat=91:=λ_=>rfl
     have f93:∀h,((⟨#[93]⟩:ByteArray)[0]'h).toNat=93:=λ_=>rfl
     have f60:∀h,((⟨#[60]⟩:ByteArray)[0]'h).toNat=60:=λ_=>rfl
     have f62:∀h,((⟨#[62]⟩:ByteArray)[0]'h).toNat=62:=λ_=>rfl
     have e91:(⟨#[91]⟩:ByteArray).size=1:=rfl;have e93:(⟨#[93]⟩:ByteArray).size=1:=rfl;have e60:(⟨#[60]⟩:ByteArray).size=1:=rfl;have e62:(⟨#[62]⟩:ByteArray).size=1:=rfl;generalize hW2:wr=W2 at*;clear hW2
     go_loopw [8] (λi w3=>∃q:Nat,q<=2/\i= .int .i64 (2-2*(q:Int))/\Ext w w3/\w.heap.size<w3.heap.size/\∀j:Nat,j<256->w3.cell? ⟨w.heap.size,j,none⟩=some (.int .u8 ((Vr q j:Nat):Int))/\w3.frozen? ⟨w.heap.size,j,none⟩=false) (λi _=>(RowKit.intOf i+2).toNat)
     case atStart=>exact⟨0,by omega,rfl,hx,hsz,hcs2⟩
     case round=>
      clear hcs2 hx hsz;obtain⟨q,hq,rfl,hx,hsz,hcs⟩:=hrel;have g0:=(hx.cell hsb 0).trans h0;have g1:=(hx.cell hsb 1).trans h1;have g2:=(hx.cell hsb 2).trans h2;have g3:=(hx.cell hsb 3).trans h3;clear h0 h1 h2 h3;have hk3:q=0\/q=1\/q=2:=by omega
      rcases hk3 with rfl|rfl|rfl
      .have hck:=(hcs 93 (by omega)).1;have hfk:=(hcs 93 (by omega)).2;have hxs:=hx.set (cX _) 93 (.int .u8 62);have jf:w.heap.size<(wr.setCell ⟨w.heap.size,93,none⟩ (.int .u8 62)).heap.size:=by simpa using hsz
       have hfin:∀j:Nat,j<256->(wr.setCell ⟨w.heap.size,93,none⟩ (.int .u8 62)).cell? ⟨w.heap.size,j,none⟩=some (.int .u8 ((Vr 1 j:Nat):Int))/\(wr.setCell ⟨w.heap.size,93,none⟩ (.int .u8 62)).frozen? ⟨w.heap.size,j,none⟩=false:=λj hj=>by
        refine⟨?_,by simpa using(hcs j hj).2⟩;by_cases hjk:j=93
        .subst hjk;rw[oA _ _ _ hck];rfl
        .rw [fN _ _ _ _ (by simp<;>omega),(hcs j hj).1];simp[Vr,hjk]
       clear hcs
       go_wp2
       exact⟨⟨1,by omega,rfl,hxs,jf,hfin⟩,by simp[RowKit.intOf]⟩
      .have hck:=(hcs 91 (by omega)).1;have hfk:=(hcs 91 (by omega)).2;have hxs:=hx.set (cX _) 91 (.int .u8 60);have jf:w.heap.size<(wr.setCell ⟨w.heap.size,91,none⟩ (.int .u8 60)).heap.size:=by simpa using hsz
       have hfin:∀j:Nat,j<256->(wr.setCell ⟨w.heap.size,91,none⟩ (.int .u8 60)).cell? ⟨w.heap.size,j,none⟩=some (.int .u8 ((Vr 2 j:Nat):Int))/\(wr.setCell ⟨w.heap.size,91,none⟩ (.int .u8 60)).frozen? ⟨w.heap.size,j,none⟩=false:=λj hj=>by
        refine⟨?_,by simpa using(hcs j hj).2⟩;by_cases hjk:j=91
        .subst hjk;rw[oA _ _ _ hck];rfl
        .rw [fN _ _ _ _ (by simp<;>omega),(hcs j hj).1];simp[Vr,hjk]
       clear hcs
       go_wp2
       exact⟨⟨2,by omega,rfl,hxs,jf,hfin⟩,by simp[RowKit.intOf]⟩
      .have hfin:∀j:Nat,j<256->wr.cell? ⟨w.heap.size,j,none⟩=some (.int .u8 ((AQ j:Nat):Int)):=λj hj=>by
        rw[(hcs j hj).1];simp[Vr,AQ]
       clear hcs
       go_wp2
       go_ret
       exact⟨w.heap.size,rfl,cX _,hsz,hfin,hx⟩
end Go.Proofs.YtjkdolejalpflaaGreatDoor
