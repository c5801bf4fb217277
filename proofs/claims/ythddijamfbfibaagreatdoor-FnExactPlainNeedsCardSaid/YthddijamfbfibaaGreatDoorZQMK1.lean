/- Proved here: steps towards the statement of this claim. No condition. -/
import Derived.Test.YthddijamfbfibaaGreatDoorZYFacts
import Derived.Lib.SliceRun
set_option linter.all false
set_option maxRecDepth 100000
set_option maxHeartbeats 4000000
namespace Go.Proofs.YthddijamfbfibaaGreatDoor
open Go.Aw Proofs.Tryz List IntKind
theorem TE(w:World):(callFunc 386 #[]).run prog w= .ok (.value (.tuple #[])) w:=run_call_mark0 func386 (by kernel_rfl) (by kernel_rfl) (by kernel_rfl) .disable (by kernel_rfl) w
theorem XO(w:World):(callFunc 388 #[]).run prog w= .ok (.value (.tuple #[])) w:=run_call_mark0 func388 (by kernel_rfl) (by kernel_rfl) (by kernel_rfl) .enable (by kernel_rfl) w
theorem H6(a:Addr)(w:World):(callFunc 389 #[.pointer (some a)]).run prog w= .ok (.value (.tuple #[])) w:=run_call_marked func389 (by kernel_rfl) (by kernel_rfl) (by kernel_rfl) .acquire (by kernel_rfl) a w
theorem H7(a:Addr)(w:World):(callFunc 391 #[.pointer (some a)]).run prog w= .ok (.value (.tuple #[])) w:=run_call_marked func391 (by kernel_rfl) (by kernel_rfl) (by kernel_rfl) .releaseMerge (by kernel_rfl) a w
theorem aG2(a:Addr)(x:Value)(u:FrameMode)(w:World)(hc:w.cell? a=some x)(hz:w.frozen? a=false):
  CallsD prog 366 #[.pointer (some a),.bool true] u w λe u' w'=>u'=u/\(e= .returned (.tuple #[])/\w'=w.drew.setCell a (.int .u32 1)):=by
 have hc':w.drew.cell? a=some x:=by go_simp
 have hz':w.drew.frozen? a=false:=by go_simp
 have hst:=run_call_store (P:=prog) func378 (by kernel_rfl) (by kernel_rfl) (by kernel_rfl) (by kernel_rfl) (k:= .u32) (y:=1) hc' hz'
 go_enter_d func366,ntmps366
 go_wp2
 go_region_calls
 all_goals (go_end0;exact⟨rfl,rfl⟩)
theorem aCm(a:Addr)(u:FrameMode)(w:World)(hc:w.cell? a=some (.int .i32 1))(hz:w.frozen? a=false):
  CallsD prog 365 #[.pointer (some a)] u w λe u' w'=>u'=u/\(e= .returned (.tuple #[])/\w'=w.setCell a (.int .i32 0)):=by
 have hd:=TE;have he:=XO;have hr:=H7;have hadd:=run_call_add (P:=prog) func392 (by kernel_rfl) (by kernel_rfl) (by kernel_rfl) .i32 (by kernel_rfl) (y:= -1) (s:=0) hc hz (by simp[go_sem];rfl);have hcv:=run_convert_to_unsafe (P:=prog) (src:=411) (dst:=326) Tryz.underlying411 Tryz.underlying326 (by kernel_rfl) hc
 go_enter_d func365,ntmps365
 go_wp2
 go_end0
 go_wp2
 go_end0
 exact⟨rfl,rfl⟩
theorem aLj(a:Addr)(w:World)(hc:w.cell? a=some (.int .i32 0))(hz:w.frozen? a=false):
  Calls prog 364 #[.pointer (some a)] w λe w'=>e= .returned (.tuple #[])/\w'=w.setCell a (.int .i32 1):=by
 have hd:=TE;have he:=XO;have ha:=H6;have hcas:=run_call_cas_hit (P:=prog) func387 (by kernel_rfl) (by kernel_rfl) (by kernel_rfl) .i32 (by kernel_rfl) (y:=1) hc hz;have hc':(w.setCell a (.int .i32 1)).cell? a=some (.int .i32 1):=qS w a _ hc;have hcv:=run_convert_to_unsafe (P:=prog) (src:=411) (dst:=326) Tryz.underlying411 Tryz.underlying326 (by kernel_rfl) hc'
 go_enter func364,ntmps364
 go_wp2
 first|go_end0|(simp only[Exit.inBlock,Exit.then];refine bodyPost_ret (results_none rfl _ _ _) rfl ?_)|refine bodyPost_ret (results_none rfl _ _ _) rfl ?_
 go_wp2
 go_end0
 exact⟨rfl,rfl⟩
end Go.Proofs.YthddijamfbfibaaGreatDoor
set_option maxRecDepth 100000
set_option maxHeartbeats 4000000
namespace Go.Proofs.YthddijamfbfibaaGreatDoor
open Go.Aw Go.RowKit Go.Lib Proofs.Tryz List IntKind
def Fe(n:Nat):Nat:=if n=91 then 60 else if n=93 then 62 else n
def tV(c:UInt8):UInt8:=if c=91 then 60 else if c=93 then 62 else c
theorem Dl(c:UInt8):(tV c).toNat=Fe c.toNat:=by
 unfold tV Fe;by_cases h1:c=91
 .subst h1;rfl
 .have h1':¬c.toNat=91:=λh=>h1 (Ek h)
  rw[cY h1,cY h1'];by_cases h2:c=93
  .subst h2;rfl
  .have h2':¬c.toNat=93:=λh=>h2 (Ek h)
   rw[cY h2,cY h2']
structure Ext(w w':World): Prop where
  size:w.heap.size <= w'.heap.size
  old:∀ b, b<w.heap.size -> w'.heap[b]? = w.heap[b]?
  same:mI w w'
theorem Ext.refl(w:World):Ext w w:=⟨eC _,λ_ _=>rfl,mI.rfl⟩
theorem Ext.trans{a b c:World}(h:Ext a b)(k:Ext b c):Ext a c:=⟨lB h.size k.size,λx hx=>(k.old x (nF hx h.size)).trans (h.old x hx),h.same.trans k.same⟩
theorem Ext.cell{w w':World}(h:Ext w w'){b:Nat}(hb:b<w.heap.size)(j:Nat):w'.cell? ⟨b,j,none⟩=w.cell? ⟨b,j,none⟩:=by simp[World.cell?,h.old b hb]
theorem Ext.frozen{w w':World}(h:Ext w w'){b:Nat}(hb:b<w.heap.size)(j:Nat):w'.frozen? ⟨b,j,none⟩=w.frozen? ⟨b,j,none⟩:=by simp[World.frozen?,h.old b hb]
theorem wH(w:World)(b o:Nat)(v:Value){k:Nat}(h:k≠b):(w.setCell ⟨b,o,none⟩ v).heap[k]? =w.heap[k]?:=by have:=Go.Aw.mF b k h [v] o w;simpa [World.setCells]using this
theorem Ext.set{w w':World}(h:Ext w w'){b:Nat}(hb:w.heap.size<=b)(o:Nat)(v:Value):Ext w (w'.setCell ⟨b,o,none⟩ v):=by have h1:=Go.Aw.gX b [v] o w';have h2:=Go.Aw.kQ b [v] o w';simp only[World.setCells]at h1 h2;exact⟨by rw[h1];exact h.size,λx hx=>(wH w' b o v (by omega)).trans (h.old x hx),h.same.trans h2⟩
def Buf(w wr:World)(s:ByteArray)(k:Nat)(v:Value):Prop:=
 (v= .slice none 0 0/\∀j (h:j<s.size),j<k->tV s[j]=s[j])\/
 (∃B cap:Nat,v= .slice (some ⟨B,0,none⟩) s.size cap/\w.heap.size<=B/\∀j (h:j<s.size),wr.cell? ⟨B,j,none⟩=some (.int .u8 ((if j<k then tV s[j]else s[j]).toNat:Nat))/\wr.frozen? ⟨B,j,none⟩=false)
theorem aG4(w:World)(nb:Nat)(s:ByteArray)(hs:s.size<=1099511627776)(hnb:nb<w.heap.size)(htab:∀j:Nat,j<256->w.cell? ⟨nb,j,none⟩=some (.int .u8 (Fe j:Nat))):
  Calls prog 428 #[.pointer (some ⟨nb,0,none⟩),.string s] w λe w'=>e= .returned (.string ⟨(s.data.toList.map tV).toArray⟩)/\Ext w w':=by
 have qT:∀(w:World) (a:Option Addr) (n c n' c':Nat),(binOp .eql 119 (.slice a n c) (.slice none n' c')).run prog w= .ok (.bool a.isNone) w:=λw a n c n' c'=>Lib.run_eql_slice_nil w _ _ a n c n' c' Tryz.underlying119
 go_enter func428,ntmps428
 go_wp2
 go_loopw [5,6] (λv i wr=>∃k:Nat,k<=s.size/\i= .int .i64 k/\Ext w wr/\Buf w wr s k v) (λ_ i _=>s.size-(RowKit.intOf i).toNat)
 case atStart=>exact⟨0,by omega,rfl,Ext.refl w,.inl ⟨rfl,λj h h0=>absurd h0 (by omega)⟩⟩
 case round=>
  obtain⟨k,hk,rfl,hx,hbuf⟩:=hrel;by_cases hlt:k<s.size
  .have hi:(0:Int)<=(k:Int)/\(k:Int)<(s.size:Int):=by omega
   have hc:∀j:Nat,j<256->wr.cell? ⟨nb,j,none⟩=some (.int .u8 (Fe j:Nat)):=λj hj=>(hx.cell hnb j).trans (htab j hj)
   have hcb:(0:Int)<=((s[k].toNat:Nat):Int)/\((s[k].toNat:Nat):Int)<256:=⟨by omega,by have:=Ds s[k];omega⟩;have hck:=hc s[k].toNat (Ds s[k]);by_cases hne:tV s[k]=s[k]
   .have hne2:((Fe s[k].toNat:Nat):Int)=((s[k].toNat:Nat):Int):=by rw[<-Dl,hne]
    have hb2:Buf w wr s (k+1) u5:=by
     rcases hbuf with⟨h1,h2⟩|⟨B,cap,h1,h2,h3⟩
     .refine .inl ⟨h1,λj hj hj2=> ?_⟩
      rcases tD j k with h|h
      .exact h2 j hj h
      .obtain rfl:j=k:=by omega
       exact hne
     .refine .inr ⟨B,cap,h1,h2,λj hj=>⟨?_,(h3 j hj).2⟩⟩
      rw[(h3 j hj).1];rcases Nat.lt_trichotomy j k with h|h|h
      .rw [eK h,eK (by omega)]
      .subst h;rw[cY (by omega),eK (by omega),hne]
      .rw [cY (by omega),cY (by omega)]
    clear hbuf htab hc
    go_wp2
    exact⟨⟨k+1,by omega,by simp,hx,hb2⟩,by simp[RowKit.intOf]<;>omega⟩
   .have hne2:¬((Fe s[k].toNat:Nat):Int)=((s[k].toNat:Nat):Int):=λh=>hne (by
     have h2:Fe s[k].toNat=s[k].toNat:=by exact_mod_cast h
     rw[<-Dl]at h2;exact Ek h2)
    rcases hbuf with⟨rfl,h2⟩|⟨B,cap,rfl,h2,h3⟩
    .have hcv:=Lib.run_convert_string_bytes (P:=prog) wr 9 119 5 s Tryz.underlying9 Tryz.underlying119 Tryz.underlying5;have hnew:=Lib.bytesWorld_at_new wr 5 s;have hbs:=Lib.bytesWorld_size wr 5 s;have hold:=Lib.bytesWorld_at_old wr 5 s;have hcell:=Lib.bytesWorld_cell wr 5 s;have hsm:mI wr (Lib.bytesWorld wr 5 s):=⟨rfl,rfl,rfl⟩;have hcs:s.size<=(Lib.bytesCells wr 5 s).size:=by simp[Lib.bytesCells]
     generalize Lib.bytesCells wr 5 s=C1 at*;generalize Lib.bytesWorld wr 5 s=W1 at*;have hx1:Ext w W1:=hx.trans ⟨by omega,hold,hsm⟩;have aZi:W1.cell? ⟨nb,s[k].toNat,none⟩=some (.int .u8 (Fe s[k].toNat:Nat)):=(hx1.cell hnb _).trans (htab _ (Ds s[k]));have hbj:∀j (h:j<s.size),W1.cell? ⟨wr.heap.size,j,none⟩=some (.int .u8 (s[j].toNat:Nat)):=λj hj=>by
      rw[hcell j hj];have:s.data.toList.getD j 0=s[j]:=by rw[lA,aE (by simpa using hj)];rfl
      rw[this]
     have hbk:=hbj k hlt;have hbz:∀j,j<s.size->W1.frozen? ⟨wr.heap.size,j,none⟩=false:=λj hj=>by simp[World.frozen?,hnew];have:=hcs;omega
     have aZj:=hbz k hlt;have hfin:Ext w (W1.setCell ⟨wr.heap.size,k,none⟩ (.int .u8 (Fe s[k].toNat:Nat)))/\Buf w (W1.setCell ⟨wr.heap.size,k,none⟩ (.int .u8 (Fe s[k].toNat:Nat))) s (k+1) (.slice (some ⟨wr.heap.size,0,none⟩) s.size (grownCap wr s.size 0 5)):=by
      refine⟨hx1.set hx.size k _,.inr ⟨_,_,rfl,hx.size,λj hj=>⟨?_,by simpa using hbz j hj⟩⟩⟩;by_cases hjk:j=k
      .subst hjk;rw[qS _ _ _ hbk,eK (by omega),Dl]
      .rw [gR _ _ _ _ (by simp<;>omega),hbj j hj];by_cases hj2:j<k+1
       .rw [eK hj2,h2 j hj (by omega)]
       .rw [cY hj2]
     clear htab hc hold hnew hbs hsm hcell hcs hbj hbz h2
     go_wp2
     exact⟨⟨k+1,by omega,by simp,hfin.1,hfin.2⟩,by simp[RowKit.intOf]<;>omega⟩
    .have hbk:=(h3 k hlt).1;have hbz:=(h3 k hlt).2;have hfin:Ext w (wr.setCell ⟨B,k,none⟩ (.int .u8 (Fe s[k].toNat:Nat)))/\Buf w (wr.setCell ⟨B,k,none⟩ (.int .u8 (Fe s[k].toNat:Nat))) s (k+1) (.slice (some ⟨B,0,none⟩) s.size cap):=by
      refine⟨hx.set h2 k _,.inr ⟨_,_,rfl,h2,λj hj=>⟨?_,by simpa using(h3 j hj).2⟩⟩⟩;by_cases hjk:j=k
      .subst hjk;rw[qS _ _ _ hbk,eK (by omega),Dl]
      .rw [gR _ _ _ _ (by simp<;>omega),(h3 j hj).1];by_cases hj2:j<k
       .rw [eK hj2,eK (by omega)]
       .rw [cY hj2,cY (by omega)]
     clear htab hc h3
     go_wp2
     exact⟨⟨k+1,by omega,by simp,hfin.1,hfin.2⟩,by simp[RowKit.intOf]<;>omega⟩
  .have hki:k=s.size:=by omega
   have hi:¬(k:Int)<(s.size:Int):=by omega
   rcases hbuf with⟨rfl,h2⟩|⟨B,cap,rfl,h2,h3⟩
   .have h4:s.data.toList.map tV=s.data.toList:=by
     refine ext_getElem (by simp) λj h5 h6=> ?_
     have h7:j<s.size:=by simpa using h6
     rw[AT];exact h2 j h7 (by omega)
    clear h2
    go_wp2
    refine bodyPost_ret (v:= .string s) (by simp[results,results428,go_sem]) rfl ?_;exact⟨by first|rfl|(rw[h4];done),hx⟩
   .have hback:(convert 119 9 (.slice (some ⟨B,0,none⟩) s.size cap)).run prog wr= .ok (.string ⟨(s.data.toList.map tV).toArray⟩) wr:=by
     have h4:=run_convert_bytes_back (P:=prog) wr 119 9 5 ⟨B,0,none⟩ cap (s.data.toList.map tV) Tryz.underlying119 Tryz.underlying5 Tryz.underlying9 (λj hj=>by
      have h7:j<s.size:=by simpa using hj
      have h5:=(h3 j h7).1;rw[eK (by omega)]at h5;have e:(⟨B,0,none⟩:Addr).add j=⟨B,j,none⟩:=by
       unfold Addr.add;split
       .rename_i h0;subst h0;rfl
       .simp
      rw[e,AT];exact h5)
     simpa using h4
    clear h3
    go_wp2
    go_ret
    exact⟨rfl,hx⟩
end Go.Proofs.YthddijamfbfibaaGreatDoor
