/- Steps. No condition. -/
import Derived.Test.YtanobkmhbpjnpaaGreatDoorZYFacts
import Derived.Lib.SliceRun
set_option linter.all false
set_option maxRecDepth 100000
set_option maxHeartbeats 4000000
namespace Go.Proofs.YtanobkmhbpjnpaaGreatDoor
open Go.Aw Proofs.Tryz List IntKind
def Tq(w:World):(callFunc 323 #[]).run prog w= .ok (.value (.tuple #[])) w:=run_call_mark0 func323 (by kernel_rfl) (by kernel_rfl) (by kernel_rfl) .disable (by kernel_rfl) w
def Xa(w:World):(callFunc 325 #[]).run prog w= .ok (.value (.tuple #[])) w:=run_call_mark0 func325 (by kernel_rfl) (by kernel_rfl) (by kernel_rfl) .enable (by kernel_rfl) w
def G5(a:Addr)(w:World):(callFunc 326 #[.pointer (some a)]).run prog w= .ok (.value (.tuple #[])) w:=run_call_marked func326 (by kernel_rfl) (by kernel_rfl) (by kernel_rfl) .acquire (by kernel_rfl) a w
def G6(a:Addr)(w:World):(callFunc 328 #[.pointer (some a)]).run prog w= .ok (.value (.tuple #[])) w:=run_call_marked func328 (by kernel_rfl) (by kernel_rfl) (by kernel_rfl) .releaseMerge (by kernel_rfl) a w
def aG4(a:Addr)(x:Value)(u:FrameMode)(w:World)(hc:w.cell? a=some x)(hz:w.frozen? a=false):
  CallsD prog 301 #[.pointer (some a),.bool true] u w λe u' w'=>u'=u/\(e= .returned (.tuple #[])/\w'=w.drew.setCell a (.int .u32 1)):=by
 have hc':w.drew.cell? a=some x:=by go_simp
 have hz':w.drew.frozen? a=false:=by go_simp
 have hst:=run_call_store (P:=prog) func315 (by kernel_rfl) (by kernel_rfl) (by kernel_rfl) (by kernel_rfl) (k:= .u32) (y:=1) hc' hz'
 go_enter_d func301,ntmps301
 go_wp2
 go_region_calls
 all_goals (go_end0;exact⟨rfl,rfl⟩)
def aCn(a:Addr)(u:FrameMode)(w:World)(hc:w.cell? a=some (.int .i32 1))(hz:w.frozen? a=false):
  CallsD prog 300 #[.pointer (some a)] u w λe u' w'=>u'=u/\(e= .returned (.tuple #[])/\w'=w.setCell a (.int .i32 0)):=by
 have hd:=Tq;have he:=Xa;have hr:=G6;have hadd:=run_call_add (P:=prog) func329 (by kernel_rfl) (by kernel_rfl) (by kernel_rfl) .i32 (by kernel_rfl) (y:= -1) (s:=0) hc hz (by simp[go_sem];rfl);have hcv:=run_convert_to_unsafe (P:=prog) (src:=336) (dst:=246) Tryz.underlying336 Tryz.underlying246 (by kernel_rfl) hc
 go_enter_d func300,ntmps300
 go_wp2
 go_end0
 go_wp2
 go_end0
 exact⟨rfl,rfl⟩
def aL0(a:Addr)(w:World)(hc:w.cell? a=some (.int .i32 0))(hz:w.frozen? a=false):
  Calls prog 299 #[.pointer (some a)] w λe w'=>e= .returned (.tuple #[])/\w'=w.setCell a (.int .i32 1):=by
 have hd:=Tq;have he:=Xa;have ha:=G5;have hcas:=run_call_cas_hit (P:=prog) func324 (by kernel_rfl) (by kernel_rfl) (by kernel_rfl) .i32 (by kernel_rfl) (y:=1) hc hz;have hc':(w.setCell a (.int .i32 1)).cell? a=some (.int .i32 1):=rB w a _ hc;have hcv:=run_convert_to_unsafe (P:=prog) (src:=336) (dst:=246) Tryz.underlying336 Tryz.underlying246 (by kernel_rfl) hc'
 go_enter func299,ntmps299
 go_wp2
 first|go_end0|(simp only[Exit.inBlock,Exit.then];refine bodyPost_ret (results_none rfl _ _ _) rfl ?_)|refine bodyPost_ret (results_none rfl _ _ _) rfl ?_
 go_wp2
 go_end0
 exact⟨rfl,rfl⟩
end Go.Proofs.YtanobkmhbpjnpaaGreatDoor
set_option maxRecDepth 100000
set_option maxHeartbeats 4000000
namespace Go.Proofs.YtanobkmhbpjnpaaGreatDoor
open Go.Aw Go.RowKit Go.Lib Proofs.Tryz List IntKind
def FM(n:Nat):Nat:=if n=91 then 60 else if n=93 then 62 else n
def uO(c:UInt8):UInt8:=if c=91 then 60 else if c=93 then 62 else c
def DF(c:UInt8):(uO c).toNat=FM c.toNat:=by
 unfold uO FM;by_cases h1:c=91
 .subst h1;rfl
 .have h1':¬c.toNat=91:=λh=>h1 (Fm h)
  rw[eC h1,eC h1'];by_cases h2:c=93
  .subst h2;rfl
  .have h2':¬c.toNat=93:=λh=>h2 (Fm h)
   rw[eC h2,eC h2']
structure Ext(w w':World): Prop where
  size:w.heap.size <= w'.heap.size
  old:∀ b, b<w.heap.size -> w'.heap[b]? = w.heap[b]?
  same:nZ w w'
def Ext.refl(w:World):Ext w w:=⟨eJ _,λ_ _=>rfl,nZ.rfl⟩
def Ext.trans{a b c:World}(h:Ext a b)(k:Ext b c):Ext a c:=⟨iS h.size k.size,λx hx=>(k.old x (lP hx h.size)).trans (h.old x hx),h.same.trans k.same⟩
def Ext.cell{w w':World}(h:Ext w w'){b:Nat}(hb:b<w.heap.size)(j:Nat):w'.cell? ⟨b,j,none⟩=w.cell? ⟨b,j,none⟩:=by simp[World.cell?,h.old b hb]
def Ext.frozen{w w':World}(h:Ext w w'){b:Nat}(hb:b<w.heap.size)(j:Nat):w'.frozen? ⟨b,j,none⟩=w.frozen? ⟨b,j,none⟩:=by simp[World.frozen?,h.old b hb]
def xO(w:World)(b o:Nat)(v:Value){k:Nat}(h:k≠b):(w.setCell ⟨b,o,none⟩ v).heap[k]? =w.heap[k]?:=by have:=Go.Aw.oC b k h [v] o w;simpa [World.setCells]using this
def Ext.set{w w':World}(h:Ext w w'){b:Nat}(hb:w.heap.size<=b)(o:Nat)(v:Value):Ext w (w'.setCell ⟨b,o,none⟩ v):=by have h1:=Go.Aw.jR b [v] o w';have h2:=Go.Aw.nA b [v] o w';simp only[World.setCells]at h1 h2;exact⟨by rw[h1];exact h.size,λx hx=>(xO w' b o v (by omega)).trans (h.old x hx),h.same.trans h2⟩
def Buf(w wr:World)(s:ByteArray)(k:Nat)(v:Value):Prop:=
 (v= .slice none 0 0/\∀j (h:j<s.size),j<k->uO s[j]=s[j])\/
 (∃B cap:Nat,v= .slice (some ⟨B,0,none⟩) s.size cap/\w.heap.size<=B/\∀j (h:j<s.size),wr.cell? ⟨B,j,none⟩=some (.int .u8 ((if j<k then uO s[j]else s[j]).toNat:Nat))/\wr.frozen? ⟨B,j,none⟩=false)
def aG5(w:World)(nb:Nat)(s:ByteArray)(hs:s.size<=1099511627776)(hnb:nb<w.heap.size)(htab:∀j:Nat,j<256->w.cell? ⟨nb,j,none⟩=some (.int .u8 (FM j:Nat))):
  Calls prog 365 #[.pointer (some ⟨nb,0,none⟩),.string s] w λe w'=>e= .returned (.string ⟨(s.data.toList.map uO).toArray⟩)/\Ext w w':=by
 have qT:∀(w:World) (a:Option Addr) (n c n' c':Nat),(binOp .eql 22 (.slice a n c) (.slice none n' c')).run prog w= .ok (.bool a.isNone) w:=λw a n c n' c'=>Lib.run_eql_slice_nil w _ _ a n c n' c' Tryz.underlying22
 go_enter func365,ntmps365
 go_wp2
 go_loopw [5,6] (λv i wr=>∃k:Nat,k<=s.size/\i= .int .i64 k/\Ext w wr/\Buf w wr s k v) (λ_ i _=>s.size-(RowKit.intOf i).toNat)
 case atStart=>exact⟨0,by omega,rfl,Ext.refl w,.inl ⟨rfl,λj h h0=>absurd h0 (by omega)⟩⟩
 case round=>
  obtain⟨k,hk,rfl,hx,hbuf⟩:=hrel;by_cases hlt:k<s.size
  .have hi:(0:Int)<=(k:Int)/\(k:Int)<(s.size:Int):=by omega
   have hc:∀j:Nat,j<256->wr.cell? ⟨nb,j,none⟩=some (.int .u8 (FM j:Nat)):=λj hj=>(hx.cell hnb j).trans (htab j hj)
   have hcb:(0:Int)<=((s[k].toNat:Nat):Int)/\((s[k].toNat:Nat):Int)<256:=⟨by omega,by have:=DG s[k];omega⟩;have hck:=hc s[k].toNat (DG s[k]);by_cases jE:uO s[k]=s[k]
   .have hne2:((FM s[k].toNat:Nat):Int)=((s[k].toNat:Nat):Int):=by rw[<-DF,jE]
    have hb2:Buf w wr s (k+1) u5:=by
     rcases hbuf with⟨h1,h2⟩|⟨B,cap,h1,h2,h3⟩
     .refine .inl ⟨h1,λj hj hj2=> ?_⟩
      rcases AM j k with h|h
      .exact h2 j hj h
      .obtain rfl:j=k:=by omega
       exact jE
     .refine .inr ⟨B,cap,h1,h2,λj hj=>⟨?_,(h3 j hj).2⟩⟩
      rw[(h3 j hj).1];rcases Nat.lt_trichotomy j k with h|h|h
      .rw [eM h,eM (by omega)]
      .subst h;rw[eC (by omega),eM (by omega),jE]
      .rw [eC (by omega),eC (by omega)]
    clear hbuf htab hc
    go_wp2
    exact⟨⟨k+1,by omega,by simp,hx,hb2⟩,by simp[RowKit.intOf]<;>omega⟩
   .have hne2:¬((FM s[k].toNat:Nat):Int)=((s[k].toNat:Nat):Int):=λh=>jE (by
     have h2:FM s[k].toNat=s[k].toNat:=by exact_mod_cast h
     rw[<-DF]at h2;exact Fm h2)
    rcases hbuf with⟨rfl,h2⟩|⟨B,cap,rfl,h2,h3⟩
    .have hcv:=Lib.run_convert_string_bytes (P:=prog) wr 9 22 5 s Tryz.underlying9 Tryz.underlying22 Tryz.underlying5;have hnew:=Lib.bytesWorld_at_new wr 5 s;have hbs:=Lib.bytesWorld_size wr 5 s;have hold:=Lib.bytesWorld_at_old wr 5 s;have hcell:=Lib.bytesWorld_cell wr 5 s;have hsm:nZ wr (Lib.bytesWorld wr 5 s):=⟨rfl,rfl,rfl⟩;have hcs:s.size<=(Lib.bytesCells wr 5 s).size:=by simp[Lib.bytesCells]
     generalize Lib.bytesCells wr 5 s=C1 at*;generalize Lib.bytesWorld wr 5 s=W1 at*;have hx1:Ext w W1:=hx.trans ⟨by omega,hold,hsm⟩;have bBw:W1.cell? ⟨nb,s[k].toNat,none⟩=some (.int .u8 (FM s[k].toNat:Nat)):=(hx1.cell hnb _).trans (htab _ (DG s[k]));have hbj:∀j (h:j<s.size),W1.cell? ⟨wr.heap.size,j,none⟩=some (.int .u8 (s[j].toNat:Nat)):=λj hj=>by
      rw[hcell j hj];have:s.data.toList.getD j 0=s[j]:=by rw[mA,aE (by simpa using hj)];rfl
      rw[this]
     have hbk:=hbj k hlt;have hbz:∀j,j<s.size->W1.frozen? ⟨wr.heap.size,j,none⟩=false:=λj hj=>by simp[World.frozen?,hnew];have:=hcs;omega
     have bBx:=hbz k hlt;have hfin:Ext w (W1.setCell ⟨wr.heap.size,k,none⟩ (.int .u8 (FM s[k].toNat:Nat)))/\Buf w (W1.setCell ⟨wr.heap.size,k,none⟩ (.int .u8 (FM s[k].toNat:Nat))) s (k+1) (.slice (some ⟨wr.heap.size,0,none⟩) s.size (grownCap wr s.size 0 5)):=by
      refine⟨hx1.set hx.size k _,.inr ⟨_,_,rfl,hx.size,λj hj=>⟨?_,by simpa using hbz j hj⟩⟩⟩;by_cases hjk:j=k
      .subst hjk;rw[rB _ _ _ hbk,eM (by omega),DF]
      .rw [lA _ _ _ _ (by simp<;>omega),hbj j hj];by_cases hj2:j<k+1
       .rw [eM hj2,h2 j hj (by omega)]
       .rw [eC hj2]
     clear htab hc hold hnew hbs hsm hcell hcs hbj hbz h2
     go_wp2
     exact⟨⟨k+1,by omega,by simp,hfin.1,hfin.2⟩,by simp[RowKit.intOf]<;>omega⟩
    .have hbk:=(h3 k hlt).1;have hbz:=(h3 k hlt).2;have hfin:Ext w (wr.setCell ⟨B,k,none⟩ (.int .u8 (FM s[k].toNat:Nat)))/\Buf w (wr.setCell ⟨B,k,none⟩ (.int .u8 (FM s[k].toNat:Nat))) s (k+1) (.slice (some ⟨B,0,none⟩) s.size cap):=by
      refine⟨hx.set h2 k _,.inr ⟨_,_,rfl,h2,λj hj=>⟨?_,by simpa using(h3 j hj).2⟩⟩⟩;by_cases hjk:j=k
      .subst hjk;rw[rB _ _ _ hbk,eM (by omega),DF]
      .rw [lA _ _ _ _ (by simp<;>omega),(h3 j hj).1];by_cases hj2:j<k
       .rw [eM hj2,eM (by omega)]
       .rw [eC hj2,eC (by omega)]
     clear htab hc h3
     go_wp2
     exact⟨⟨k+1,by omega,by simp,hfin.1,hfin.2⟩,by simp[RowKit.intOf]<;>omega⟩
  .have hki:k=s.size:=by omega
   have hi:¬(k:Int)<(s.size:Int):=by omega
   rcases hbuf with⟨rfl,h2⟩|⟨B,cap,rfl,h2,h3⟩
   .have h4:s.data.toList.map uO=s.data.toList:=by
     refine ext_getElem (by simp) λj h5 h6=> ?_
     have h7:j<s.size:=by simpa using h6
     rw[getElem_map];exact h2 j h7 (by omega)
    clear h2
    go_wp2
    refine bodyPost_ret (v:= .string s) (by simp[results,results365,go_sem]) rfl ?_;exact⟨by first|rfl|(rw[h4];done),hx⟩
   .have hback:(convert 22 9 (.slice (some ⟨B,0,none⟩) s.size cap)).run prog wr= .ok (.string ⟨(s.data.toList.map uO).toArray⟩) wr:=by
     have h4:=run_convert_bytes_back (P:=prog) wr 22 9 5 ⟨B,0,none⟩ cap (s.data.toList.map uO) Tryz.underlying22 Tryz.underlying5 Tryz.underlying9 (λj hj=>by
      have h7:j<s.size:=by simpa using hj
      have h5:=(h3 j h7).1;rw[eM (by omega)]at h5;have e:(⟨B,0,none⟩:Addr).add j=⟨B,j,none⟩:=by
       unfold Addr.add;split
       .rename_i h0;subst h0;rfl
       .simp
      rw[e,getElem_map];exact h5)
     simpa using h4
    clear h3
    go_wp2
    go_ret
    exact⟨rfl,hx⟩
end Go.Proofs.YtanobkmhbpjnpaaGreatDoor
