/- Proved here: steps towards the statement of this claim. No condition. -/
import Derived.Test.YthddijamfbfibaaGreatDoorZQA0
import Derived.Test.YthddijamfbfibaaGreatDoorZQMK1
import Derived.Deep.WholeRow
import Derived.Sort.EncStr
import Derived.Shelf.GgSortFunc.InsertionK
set_option linter.all false
set_option maxRecDepth 4000
set_option maxHeartbeats 4000000
namespace Go.Proofs.YthddijamfbfibaaGreatDoor
open Go.Aw Proofs.Tryz List IntKind
theorem Au{α β:Type}(f:α->β)(l:List α)(k:Nat)(h:k<l.length):(l.take (k+1)).map f=(l.take k).map f++[f l[k]]:=by rw[eJ h,oY];rfl
theorem Kl[aB prog](l:List oU)(hl:l.length<=1099511627776):Ok prog 182 [.sl .view 2 (l.map uX)] (.sl .own 2 (l.map uX)):=by refine bM aG func182 ntmps182 ?_;refine aZ ?_;exact aF results182
theorem YZ[aB prog](t:bT)(hl:t.attrs.length<=1099511627776):Ok prog 209 [.agg (cB .view t)] (.agg (cB .own t)):=by refine bM aG func209 ntmps209 ?_;refine aZ ?_;exact aF results209
theorem VZ[aB prog](l:List bT)(hs:bP bW l<=274877906944):Ok prog 154 [.sl .view 4 (l.map (cB .view))] (.sl .own 4 (l.map (cB .own))):=by
 simp only[bP]at hs;refine bM aG func154 ntmps154 ?_;refine aZ ?_;refine aM (ι:={q:Nat×Nat // q.1<=l.length/\1<=q.2}) (λt o i=>⟨bC t [(3,.obj 0 i.1.2),(9,.int .i64 i.1.1),(5,.undef)],o.take 0++[⟨true,false,4,i.1.2,(l.take i.1.1).map (cB .own)⟩]⟩)
  (λi=>l.length-i.1.1) ⟨(0,1),by simp,by first|(simp;done)|(simp only;omega)⟩ aK ?_
 rintro⟨⟨k,v⟩,hk,hv⟩ K1 hK1;simp only at hk hv;simp only[bC,cW,cU,eL,fW,eA,eM]at hK1⊢;have hk1:=oQ (k:=k);by_cases hlt:k<l.length
 .have hg:=aE hlt;have hps:=Au (cB .own) l k hlt;have hz:=dI bW l k hlt;simp only[bW,bP]at hz;have c1:=YZ l[k] (by omega);simp only[cB]at c1;have IQ:((l.take k).map (cB .own)).length=k:=by simp;omega
  generalize (l.take k).map (cB .own)=g at*;have W:=aA hk1 (aA hg (aA hlt IQ));refine we ?_;all_goals refine hK1 _ ⟨(k+1,v+1),by simp only;omega,by simp only;omega⟩ (aT 1 (by simp[hps])) (by simp only;omega)
 .have htk:l.take k=l:=cX (by omega);rw[htk];have W:=hk1;refine we ?_;exact aF results154
theorem Wd[aB prog](l:List bT)(hs:bP bW l<=274877906944):Ok prog 119 [.sl .view 4 (l.map (cB .view))] (.sl .own 4 (l.map (cB .own))):=by
 simp only[bP]at hs;refine bM aG func119 ntmps119 ?_;refine aZ ?_;refine aM (ι:={q:Nat×Nat // q.1<=l.length/\1<=q.2}) (λt o i=>⟨bC t [(3,.obj 0 i.1.2),(4,.int .i64 i.1.1),(5,.undef)],o.take 0++[⟨true,false,4,i.1.2,(l.take i.1.1).map (cB .own)⟩]⟩)
  (λi=>l.length-i.1.1) ⟨(0,1),by simp,by first|(simp;done)|(simp only;omega)⟩ aK ?_
 rintro⟨⟨k,v⟩,hk,hv⟩ K1 hK1;simp only at hk hv;simp only[bC,cW,cU,eL,fW,eA,eM]at hK1⊢;have hk1:=oQ (k:=k);by_cases hlt:k<l.length
 .have hg:=aE hlt;have hps:=Au (cB .own) l k hlt;have hz:=dI bW l k hlt;simp only[bW,bP]at hz;have c1:=Kl l[k].attrs (by omega);have IQ:((l.take k).map (cB .own)).length=k:=by simp;omega
  generalize (l.take k).map (cB .own)=g at*;have W:=aA hk1 (aA hg (aA hlt IQ));refine we ?_;all_goals refine hK1 _ ⟨(k+1,v+1),by simp only;omega,by simp only;omega⟩ (aT 1 (by simp[hps])) (by simp only;omega)
 .have htk:l.take k=l:=cX (by omega);rw[htk];have W:=hk1;refine we ?_;exact aF results119
theorem Jp[aB prog](a:eX)(hs:eF a<=274877906944):Ok prog 153 [.agg (bN .view a)] (.agg (bN .own a)):=by simp only[eF,bP]at hs;refine bM aG func153 ntmps153 ?_;refine aZ ?_;exact aF results153
theorem We[aB prog](a:eX)(hs:eF a<=274877906944):Ok prog 118 [.agg (bN .view a)] (.agg (bN .own a)):=by simp only[eF,bP]at hs;refine bM aG func118 ntmps118 ?_;refine aZ ?_;exact aF results118
def kM(t:nM):List bT:=if t.rest=[]\/t.rest.head? =some 60 then []else [⟨3,[],[],t.rest⟩]
end Go.Proofs.YthddijamfbfibaaGreatDoor
set_option maxRecDepth 100000
set_option maxHeartbeats 4000000
namespace Go.Proofs.YthddijamfbfibaaGreatDoor
open Go.Aw Go.RowKit Go.Lib Proofs.Tryz List IntKind
def mkPairs:List Value:=[.string ⟨#[91]⟩,.string ⟨#[60]⟩,.string ⟨#[93]⟩,.string ⟨#[62]⟩]
def H8(q j:Nat):Nat:=if 2<=q/\j=91 then 60 else if 1<=q/\j=93 then 62 else j
theorem aG5(w:World)(rb sb sc:Nat)(hl:w.cell? ⟨rb,4,none⟩=some (.slice (some ⟨sb,0,none⟩) 4 sc))(hc:bK w sb 0 mkPairs):
  Calls prog 353 #[.pointer (some ⟨rb,0,none⟩)] w λe w'=>∃nb,e= .returned (.iface 379 (.pointer (some ⟨nb,0,none⟩)))/\w.heap.size<=nb/\nb<w'.heap.size/\(∀j:Nat,j<256->w'.cell? ⟨nb,j,none⟩=some (.int .u8 (Fe j:Nat)))/\Ext w w':=by
 have h0:w.cell? ⟨sb,0,none⟩=some (.string ⟨#[91]⟩):=hc 0 _ rfl;have h1:w.cell? ⟨sb,1,none⟩=some (.string ⟨#[60]⟩):=hc 1 _ rfl;have h2:w.cell? ⟨sb,2,none⟩=some (.string ⟨#[93]⟩):=hc 2 _ rfl;have h3:w.cell? ⟨sb,3,none⟩=some (.string ⟨#[62]⟩):=hc 3 _ rfl
 go_enter func353,ntmps353
 go_wp2
 go_loopw [4,5] (λa i wr=>w=wr/\a= .bool true/\∃k:Nat,k<=2/\i= .int .i64 ((2*k:Nat):Int)) (λ_ i _=>4-(RowKit.intOf i).toNat)
 case atStart=>exact⟨rfl,rfl,0,by omega,rfl⟩
 case round=>
  obtain⟨rfl,rfl,k,hk,rfl⟩:=hrel;have hk3:k=0\/k=1\/k=2:=by omega
  rcases hk3 with rfl|rfl|rfl
  .go_wp2
   exact⟨⟨trivial,rfl,1,by omega,rfl⟩,by simp[RowKit.intOf]⟩
  .go_wp2
   exact⟨⟨trivial,rfl,2,by omega,rfl⟩,by simp[RowKit.intOf]⟩
  .have hst:=run_storeCells_new (P:=prog) w 378 Tryz.zeroCells378 Tryz.zeroCells378 (by kernel_rfl) rfl (by kernel_rfl)
   go_wp2
   have hx0:Ext w (w.alloc (.cells Tryz.zeroCells378 378)):=⟨by simp,λb hb=>heap_alloc w _ b hb,⟨rfl,rfl,rfl⟩⟩;have hs0:(w.alloc (.cells Tryz.zeroCells378 378)).heap.size=w.heap.size+1:=by simp
   have hz:Tryz.zeroCells378=Array.replicate 256 (.int .u8 0):=by kernel_rfl
   have hself:=fO w (.cells Tryz.zeroCells378 378);generalize w.alloc (.cells Tryz.zeroCells378 378)=W0 at*;rw[hz]at hself;have hc0:∀j:Nat,j<256->W0.cell? ⟨w.heap.size,j,none⟩=some (.int .u8 ((0:Nat):Int))/\W0.frozen? ⟨w.heap.size,j,none⟩=false:=λj hj=>
    ⟨by simp[World.cell?,hself,hj],by simp[World.frozen?,hself]⟩
   clear hz hself hst
   go_loopw [61] (λi w2=>∃k:Nat,k<=256/\i= .int .i64 k/\Ext w w2/\w.heap.size<w2.heap.size/\∀j:Nat,j<256->w2.cell? ⟨w.heap.size,j,none⟩=some (.int .u8 ((if j<k then j else 0:Nat):Int))/\w2.frozen? ⟨w.heap.size,j,none⟩=false) (λi _=>256-(RowKit.intOf i).toNat)
   case atStart=>exact⟨0,by omega,rfl,hx0,by omega,λj hj=>by simpa using hc0 j hj⟩
   case round=>
    clear hc0;obtain⟨k,hk,rfl,hx,hsz,hcs⟩:=hrel;by_cases hlt:k<256
    .have hki:(k:Int)<256:=by omega
     have aZk:(0:Int)<=(k:Int)/\(k:Int)<256:=by omega
     have hwk:IntKind.u8.wrap (k:Int)=(k:Int):=by rw[IntKind.wrap_u8];omega
     have hck:=(hcs k hlt).1;have hfk:=(hcs k hlt).2;rw[cY (by omega)]at hck;have hfin:∀j:Nat,j<256->(wr.setCell ⟨w.heap.size,k,none⟩ (.int .u8 (k:Int))).cell? ⟨w.heap.size,j,none⟩=some (.int .u8 ((if j<k+1 then j else 0:Nat):Int))/\(wr.setCell ⟨w.heap.size,k,none⟩ (.int .u8 (k:Int))).frozen? ⟨w.heap.size,j,none⟩=false:=λj hj=>by
      refine⟨?_,by simpa using(hcs j hj).2⟩;by_cases hjk:j=k
      .subst hjk;rw[qS _ _ _ hck,eK (by omega)]
      .rw [gR _ _ _ _ (by simp<;>omega),(hcs j hj).1];by_cases hj2:j<k
       .rw [eK hj2,eK (by omega)]
       .rw [cY hj2,cY (by omega)]
     have hxs:=hx.set (eC _) k (.int .u8 (k:Int));have Og:w.heap.size<(wr.setCell ⟨w.heap.size,k,none⟩ (.int .u8 (k:Int))).heap.size:=by simpa using hsz
     clear hcs
     go_wp2
     exact⟨⟨k+1,by omega,by simp,hxs,Og,hfin⟩,by simp[RowKit.intOf]<;>omega⟩
    .have hki:¬(k:Int)<256:=by omega
     have aWd:k=256:=by omega
     subst aWd;have hcs2:∀j:Nat,j<256->wr.cell? ⟨w.heap.size,j,none⟩=some (.int .u8 ((H8 0 j:Nat):Int))/\wr.frozen? ⟨w.heap.size,j,none⟩=false:=λj hj=>by have:=hcs j hj;rw[eK hj]at this;exact this
     have hsb:sb<w.heap.size:=World.block_lt_of_cell? _ _ h0;clear hcs
     go_wp2
     have f91:∀h,((⟨#[91]⟩:ByteArray)[0]'h).toNat=91:=λ_=>rfl
     have f93:∀h,((⟨#[93]⟩:ByteArray)[0]'h).toNat=93:=λ_=>rfl
     have f60:∀h,((⟨#[60]⟩:ByteArray)[0]'h).toNat=60:=λ_=>rfl
     have f62:∀h,((⟨#[62]⟩:ByteArray)[0]'h).toNat=62:=λ_=>rfl
     have e91:(⟨#[91]⟩:ByteArray).size=1:=rfl;have e93:(⟨#[93]⟩:ByteArray).size=1:=rfl;have e60:(⟨#[60]⟩:ByteArray).size=1:=rfl;have e62:(⟨#[62]⟩:ByteArray).size=1:=rfl;generalize hW2:wr=W2 at*;clear hW2
     go_loopw [8] (λi w3=>∃q:Nat,q<=2/\i= .int .i64 (2-2*(q:Int))/\Ext w w3/\w.heap.size<w3.heap.size/\∀j:Nat,j<256->w3.cell? ⟨w.heap.size,j,none⟩=some (.int .u8 ((H8 q j:Nat):Int))/\w3.frozen? ⟨w.heap.size,j,none⟩=false) (λi _=>(RowKit.intOf i+2).toNat)
     case atStart=>exact⟨0,by omega,rfl,hx,hsz,hcs2⟩
     case round=>
      clear hcs2 hx hsz;obtain⟨q,hq,rfl,hx,hsz,hcs⟩:=hrel;have g0:=(hx.cell hsb 0).trans h0;have g1:=(hx.cell hsb 1).trans h1;have g2:=(hx.cell hsb 2).trans h2;have g3:=(hx.cell hsb 3).trans h3;clear h0 h1 h2 h3;have hk3:q=0\/q=1\/q=2:=by omega
      rcases hk3 with rfl|rfl|rfl
      .have hck:=(hcs 93 (by omega)).1;have hfk:=(hcs 93 (by omega)).2;have hxs:=hx.set (eC _) 93 (.int .u8 62);have Og:w.heap.size<(wr.setCell ⟨w.heap.size,93,none⟩ (.int .u8 62)).heap.size:=by simpa using hsz
       have hfin:∀j:Nat,j<256->(wr.setCell ⟨w.heap.size,93,none⟩ (.int .u8 62)).cell? ⟨w.heap.size,j,none⟩=some (.int .u8 ((H8 1 j:Nat):Int))/\(wr.setCell ⟨w.heap.size,93,none⟩ (.int .u8 62)).frozen? ⟨w.heap.size,j,none⟩=false:=λj hj=>by
        refine⟨?_,by simpa using(hcs j hj).2⟩;by_cases hjk:j=93
        .subst hjk;rw[qS _ _ _ hck];rfl
        .rw [gR _ _ _ _ (by simp<;>omega),(hcs j hj).1];simp[H8,hjk]
       clear hcs
       go_wp2
       exact⟨⟨1,by omega,rfl,hxs,Og,hfin⟩,by simp[RowKit.intOf]⟩
      .have hck:=(hcs 91 (by omega)).1;have hfk:=(hcs 91 (by omega)).2;have hxs:=hx.set (eC _) 91 (.int .u8 60);have Og:w.heap.size<(wr.setCell ⟨w.heap.size,91,none⟩ (.int .u8 60)).heap.size:=by simpa using hsz
       have hfin:∀j:Nat,j<256->(wr.setCell ⟨w.heap.size,91,none⟩ (.int .u8 60)).cell? ⟨w.heap.size,j,none⟩=some (.int .u8 ((H8 2 j:Nat):Int))/\(wr.setCell ⟨w.heap.size,91,none⟩ (.int .u8 60)).frozen? ⟨w.heap.size,j,none⟩=false:=λj hj=>by
        refine⟨?_,by simpa using(hcs j hj).2⟩;by_cases hjk:j=91
        .subst hjk;rw[qS _ _ _ hck];rfl
        .rw [gR _ _ _ _ (by simp<;>omega),(hcs j hj).1];simp[H8,hjk]
       clear hcs
       go_wp2
       exact⟨⟨2,by omega,rfl,hxs,Og,hfin⟩,by simp[RowKit.intOf]⟩
      .have hfin:∀j:Nat,j<256->wr.cell? ⟨w.heap.size,j,none⟩=some (.int .u8 ((Fe j:Nat):Int)):=λj hj=>by
        rw[(hcs j hj).1];simp[H8,Fe]
       clear hcs
       go_wp2
       go_ret
       exact⟨w.heap.size,rfl,eC _,hsz,hfin,hx⟩
end Go.Proofs.YthddijamfbfibaaGreatDoor
set_option maxRecDepth 100000
set_option maxHeartbeats 4000000
namespace Go.Proofs.YthddijamfbfibaaGreatDoor
open Go.Aw Go.RowKit Go.Lib Proofs.Tryz List IntKind
theorem Zi(w:World)(rb sb sc:Nat)(r0:Value)(hrb:rb<w.heap.size)(hr:w.cell? ⟨rb,3,none⟩=some r0)(fr:∀j,w.frozen? ⟨rb,j,none⟩=false)(hl:w.cell? ⟨rb,4,none⟩=some (.slice (some ⟨sb,0,none⟩) 4 sc))(hc:bK w sb 0 mkPairs):
  Calls prog 347 #[.pointer (some ⟨rb,0,none⟩)] w λe w'=>e= .returned (.tuple #[])/\∃nb w1,w.heap.size<=nb/\nb<w1.heap.size/\(∀j:Nat,j<256->w1.cell? ⟨nb,j,none⟩=some (.int .u8 (Fe j:Nat)))/\Ext w w1/\
   w'=(w1.setCell ⟨rb,3,none⟩ (.iface 379 (.pointer (some ⟨nb,0,none⟩)))).setCell ⟨rb,4,none⟩ (.slice none 0 0):=by
 go_enter func347,ntmps347
 go_wp2_with (go_at_call 353;refine(aG5 w rb sb sc hl hc).mono ?_;rintro e w1 ⟨nb,rfl,hn1,hn2,hn3,hn4⟩;have k3:=(hn4.cell hrb 3).trans hr;have k4:=(hn4.cell hrb 4).trans hl;have z3:=(hn4.frozen hrb 3).trans (fr 3);have z4:=(hn4.frozen hrb 4).trans (fr 4))
 go_end0
 exact⟨rfl,nb,w1,hn1,hn2,hn3,hn4,rfl⟩
theorem aLk(w:World)(rb sb sc:Nat)(r0:Value)(hrb:rb<w.heap.size)(h0:w.cell? ⟨rb,0,none⟩=some (.int .u32 0))(h1:w.cell? ⟨rb,1,none⟩=some (.int .i32 0))(hr:w.cell? ⟨rb,3,none⟩=some r0)(fr:∀j,w.frozen? ⟨rb,j,none⟩=false)
  (hl:w.cell? ⟨rb,4,none⟩=some (.slice (some ⟨sb,0,none⟩) 4 sc)) (hc:bK w sb 0 mkPairs) (hsb:sb≠rb):
  Calls prog 352 #[.pointer (some ⟨rb,0,none⟩),.func (.func 347) #[.pointer (some ⟨rb,0,none⟩)] #[]] w λe w'=>e= .returned (.tuple #[])/\∃nb,w.heap.size<=nb/\nb<w'.heap.size/\(∀j:Nat,j<256->w'.cell? ⟨nb,j,none⟩=some (.int .u8 (Fe j:Nat)))/\
   w'.cell? ⟨rb,3,none⟩=some (.iface 379 (.pointer (some ⟨nb,0,none⟩)))/\w.heap.size<=w'.heap.size/\(∀b,b<w.heap.size->b≠rb->w'.heap[b]? =w.heap[b]?)/\mI w w':=by
 have hnot:∀(x:Bool) (w:World),(Op.unary .not (.bool x)).run prog w= .ok (.bool (!x)) w:=λ_ _=>rfl
 have ho:∀i j:Nat,i≠j->(⟨rb,i,none⟩:Addr)≠⟨rb,j,none⟩:=λi j h e=>h (by simpa using e)
 generalize hWL:w.setCell ⟨rb,1,none⟩ (.int .i32 1)=WL;have l0:WL.cell? ⟨rb,0,none⟩=some (.int .u32 0):=by rw[<-hWL,gR _ _ _ _ (ho _ _ (by decide))];exact h0
 have l1:WL.cell? ⟨rb,1,none⟩=some (.int .i32 1):=by rw[<-hWL];exact qS _ _ _ h1
 have l3:WL.cell? ⟨rb,3,none⟩=some r0:=by rw[<-hWL,gR _ _ _ _ (ho _ _ (by decide))];exact hr
 have l4:WL.cell? ⟨rb,4,none⟩=some (.slice (some ⟨sb,0,none⟩) 4 sc):=by rw[<-hWL,gR _ _ _ _ (ho _ _ (by decide))];exact hl
 have lz:∀j,WL.frozen? ⟨rb,j,none⟩=false:=λj=>by rw[<-hWL];simpa using fr j
 have lc:bK WL sb 0 mkPairs:=λj v hv=>by rw[<-hWL,gR _ _ _ _ (by simp[wA hsb])];exact hc j v hv
 have lh:∀b,b≠rb->WL.heap[b]? =w.heap[b]?:=λb hb=>by rw[<-hWL];exact wH w rb 1 _ hb
 have lsz:WL.heap.size=w.heap.size:=by have:=Go.Aw.gX rb [.int .i32 1] 1 w;simpa only[World.setCells,hWL]using this
 have lsm:mI w WL:=by have:=Go.Aw.kQ rb [.int .i32 1] 1 w;simpa only[World.setCells,hWL]using this
 have hld:=run_call_load (P:=prog) func363 (by kernel_rfl) (by kernel_rfl) (by kernel_rfl) .u32 (by kernel_rfl) (w:=WL) (a:=⟨rb,0,none⟩) (x:=0) l0
 go_enter_defers func352,ntmps352
 go_wp2_with (first|(go_at_call 364;refine(aLj ⟨rb,1,none⟩ _ h1 (fr 1)).mono ?_;rintro e w' ⟨rfl,rfl⟩;rw[hWL])|(go_at_call 347;refine(Zi WL rb sb sc r0 (by omega) l3 lz l4 lc).mono ?_;rintro e w' ⟨rfl,nb,w1,n1,n2,n3,n4,rfl⟩)|(go_at_call 351;go_in))
 have hrl:rb<WL.heap.size:=by omega
 generalize hW5:(w1.setCell ⟨rb,3,none⟩ (.iface 379 (.pointer (some ⟨nb,0,none⟩)))).setCell ⟨rb,4,none⟩ (.slice none 0 0)=W5;have p0:W5.cell? ⟨rb,0,none⟩=some (.int .u32 0):=by rw[<-hW5,gR _ _ _ _ (ho _ _ (by decide)),gR _ _ _ _ (ho _ _ (by decide))];exact(n4.cell hrl 0).trans l0
 have p1:W5.cell? ⟨rb,1,none⟩=some (.int .i32 1):=by rw[<-hW5,gR _ _ _ _ (ho _ _ (by decide)),gR _ _ _ _ (ho _ _ (by decide))];exact(n4.cell hrl 1).trans l1
 have pz:∀j,W5.frozen? ⟨rb,j,none⟩=false:=λj=>by rw[<-hW5];simpa using(n4.frozen hrl j).trans (lz j)
 refine leaves_cons (f:=366) (args:=#[.pointer (some ⟨rb,0,none⟩),.bool true]) (by simp) (by simp[go_sem]) ?_;refine(aG2 ⟨rb,0,none⟩ (.int .u32 0) .returning _ p0 (pz 0)).mono ?_;rintro e u' w'' ⟨rfl,rfl,rfl⟩;refine leaves_cons (f:=365) (args:=#[.pointer (some ⟨rb,1,none⟩)]) (by simp[settle]) (by simp[go_sem]) ?_;refine(aCm ⟨rb,1,none⟩ _ _ (by rw[gR _ _ _ _ (ho _ _ (by decide)),World.cell?_drew];exact p1) (by simpa using pz 1)).mono ?_;rintro e u' w'' ⟨rfl,rfl,rfl⟩;have hne:nb≠rb:=by omega
 have hcn:∀(W:World) (o:Nat) (v:Value) (j:Nat),(W.setCell ⟨rb,o,none⟩ v).cell? ⟨nb,j,none⟩=W.cell? ⟨nb,j,none⟩:=λW o v j=>gR _ _ _ _ (by simp[wA hne])
 have t1:∀j:Nat,j<256->((W5.drew.setCell ⟨rb,0,none⟩ (.int .u32 1)).setCell ⟨rb,1,none⟩ (.int .i32 0)).cell? ⟨nb,j,none⟩=some (.int .u8 (Fe j:Nat)):=λj hj=>by rw[hcn,hcn,World.cell?_drew,<-hW5,hcn,hcn];exact n3 j hj
 have t2:((W5.drew.setCell ⟨rb,0,none⟩ (.int .u32 1)).setCell ⟨rb,1,none⟩ (.int .i32 0)).cell? ⟨rb,3,none⟩=some (.iface 379 (.pointer (some ⟨nb,0,none⟩))):=by rw[gR _ _ _ _ (ho _ _ (by decide)),gR _ _ _ _ (ho _ _ (by decide)),World.cell?_drew,<-hW5,gR _ _ _ _ (ho _ _ (by decide))];exact qS _ _ _ ((n4.cell hrl 3).trans l3)
 have hsz:∀(W:World) (o:Nat) (v:Value),(W.setCell ⟨rb,o,none⟩ v).heap.size=W.heap.size:=λW o v=>by simpa only[World.setCells]using Go.Aw.gX rb [v] o W
 have hsm:∀(W:World) (o:Nat) (v:Value),mI W (W.setCell ⟨rb,o,none⟩ v):=λW o v=>by simpa only[World.setCells]using Go.Aw.kQ rb [v] o W
 have t3:((W5.drew.setCell ⟨rb,0,none⟩ (.int .u32 1)).setCell ⟨rb,1,none⟩ (.int .i32 0)).heap.size=w1.heap.size:=by rw[hsz,hsz];show W5.heap.size=_;rw[<-hW5,hsz,hsz]
 have t4:∀b,b<w.heap.size->b≠rb->((W5.drew.setCell ⟨rb,0,none⟩ (.int .u32 1)).setCell ⟨rb,1,none⟩ (.int .i32 0)).heap[b]? =w.heap[b]?:=λb hb hbr=>by rw[wH _ _ _ _ hbr,wH _ _ _ _ hbr];show W5.heap[b]? =_;rw[<-hW5,wH _ _ _ _ hbr,wH _ _ _ _ hbr,n4.old b (by omega),lh b hbr]
 have t5:mI w ((W5.drew.setCell ⟨rb,0,none⟩ (.int .u32 1)).setCell ⟨rb,1,none⟩ (.int .i32 0)):=by
  have e1:mI w W5:=by rw[<-hW5];exact((lsm.trans n4.same).trans (hsm _ _ _)).trans (hsm _ _ _)
  exact((e1.trans (b:=W5) (c:=W5.drew) ⟨rfl,rfl,rfl⟩).trans (hsm _ _ _)).trans (hsm _ _ _)
 generalize (W5.drew.setCell ⟨rb,0,none⟩ (.int .u32 1)).setCell ⟨rb,1,none⟩ (.int .i32 0)=W7 at*;have hfin:∃nb,w.heap.size<=nb/\nb<W7.heap.size/\(∀j:Nat,j<256->W7.cell? ⟨nb,j,none⟩=some (.int .u8 (Fe j:Nat)))/\W7.cell? ⟨rb,3,none⟩=some (.iface 379 (.pointer (some ⟨nb,0,none⟩)))/\w.heap.size<=W7.heap.size/\(∀b,b<w.heap.size->b≠rb->W7.heap[b]? =w.heap[b]?)/\mI w W7:=
  ⟨nb,by omega,by omega,t1,t2,by have:=n4.size;omega,t4,t5⟩
 clear t1 t2 t3 t4 t5 p0 p1 pz hW5 hcn hsz hsm l0 l1 l3 l4 lz lc lh;simpa [Leaves,settle,results,results352]using hfin
end Go.Proofs.YthddijamfbfibaaGreatDoor
set_option maxRecDepth 100000
set_option maxHeartbeats 4000000
namespace Go.Proofs.YthddijamfbfibaaGreatDoor
open Go.Aw Go.RowKit Go.Lib Proofs.Tryz List IntKind
theorem H9(w:World)(rb sb sc:Nat)(r0:Value)(s:ByteArray)(hs:s.size<=1099511627776)(hrb:rb<w.heap.size)(h0:w.cell? ⟨rb,0,none⟩=some (.int .u32 0))(h1:w.cell? ⟨rb,1,none⟩=some (.int .i32 0))(hr:w.cell? ⟨rb,3,none⟩=some r0)(fr:∀j,w.frozen? ⟨rb,j,none⟩=false)
  (hl:w.cell? ⟨rb,4,none⟩=some (.slice (some ⟨sb,0,none⟩) 4 sc)) (hc:bK w sb 0 mkPairs) (hsb:sb≠rb):
  Calls prog 340 #[.pointer (some ⟨rb,0,none⟩),.string s] w λe w'=>e= .returned (.string ⟨(s.data.toList.map tV).toArray⟩)/\w.heap.size<=w'.heap.size/\(∀b,b<w.heap.size->b≠rb->w'.heap[b]? =w.heap[b]?)/\mI w w':=by
 have hnot:∀(x:Bool) (w:World),(Op.unary .not (.bool x)).run prog w= .ok (.bool (!x)) w:=λ_ _=>rfl
 have hmf:∀(fn:Fn) (first cap:Array Value) (w:World),(Instr.makeFunc fn first cap).run prog w= .ok (.func fn first cap) w:=λ_ _ _ _=>rfl
 have hm:∀(nb:Nat) (w:World),(method 552 379 (.pointer (some ⟨nb,0,none⟩)) "Replace").run prog w= .ok (428,.pointer (some ⟨nb,0,none⟩)) w:=λ_ _=>by kernel_rfl
 have hld:=run_call_load (P:=prog) func363 (by kernel_rfl) (by kernel_rfl) (by kernel_rfl) .u32 (by kernel_rfl) (w:=w) (a:=⟨rb,0,none⟩) (x:=0) h0
 go_enter func340,ntmps340
 go_wp2_with (first|(go_at_call 346;go_in)|(go_at_call 351;go_in)|(go_at_call 352;refine(aLk w rb sb sc r0 hrb h0 h1 hr fr hl hc hsb).mono ?_;rintro e w1 ⟨rfl,nb,n1,n2,n3,n4,n5,n6,n7⟩))
 go_end0
 go_wp2_with (go_at_call 428;refine(aG4 _ _ s hs n2 n3).mono ?_;rintro e w2 ⟨rfl,hx⟩)
 go_ret
 exact⟨rfl,lB n5 hx.size,λb hb hbr=>(hx.old b (nF hb n5)).trans (n6 b hb hbr),n7.trans hx.same⟩
end Go.Proofs.YthddijamfbfibaaGreatDoor
set_option maxRecDepth 4000
set_option maxHeartbeats 4000000
namespace Go.Proofs.YthddijamfbfibaaGreatDoor
open Go.Aw Proofs.Tryz List IntKind
theorem XP(u:List Nat)(b:Bool)(l:List jP):mX (iU u) b (l.map (fA .view))=l.map (fA .view):=by
 induction l with
 |nil=>rfl
 |cons x l ih=>rw[mB,mX,ih];simp[xO,rt,fA,iU]
theorem kX[aB prog](b:bE)(hs:aU b<=274877906944):Ok prog 155 [.agg (aV .view b)] (.agg (aV .own b)):=by
 simp only[aU,bP]at hs;obtain⟨l,opens⟩:=b;simp only at hs;refine bM aG func155 ntmps155 ?_;refine aZ ?_;refine aM (ι:={q:Nat×Nat // q.1<=l.length/\1<=q.2}) (λt o i=>⟨bC t [(14,.int .i64 i.1.1),(5,.undef),(10,.undef)],o.take 3++[⟨true,true,2,0,[[.obj 4 i.1.2,.obj 2 2]]⟩,⟨true,false,4,i.1.2,(l.take i.1.1).map (fA .own)⟩]⟩)
  (λi=>l.length-i.1.1) ⟨(0,1),by simp,by simp⟩ (vN 3 0 0 (ob:=⟨true,true,2,0,[[.sl .own 4 [],.obj 2 2]]⟩) (by rfl) (by rfl) (by rfl) (by simp) (by rfl) (by rfl) (by simp) (by simp[xO,rt,iU,XP])) ?_
 rintro⟨⟨k,v⟩,hk,hv⟩ K1 hK1;simp only at hk hv;simp only[bC,cW,cU,eL,fW,eA,eM]at hK1⊢;have hk1:=oQ (k:=k);by_cases hlt:k<l.length
 .have hg:=aE hlt;have hps:=Au (fA .own) l k hlt;have hz:=dI sU l k hlt;simp only[sU,bP]at hz;have IQ:((l.take k).map (fA .own)).length=k:=by simp;omega
  generalize (l.take k).map (fA .own)=g at*;have W:=aA hk1 (aA hg (aA hlt IQ));refine we ?_;all_goals refine hK1 _ ⟨(k+1,v+1),by simp only;omega,by simp only;omega⟩ (aT 5 (by simp[hps])) (by simp only;omega)
 .have htk:l.take k=l:=cX (by omega);rw[htk];have W:=hk1;refine we ?_;exact aF results155
theorem kY[aB prog](b:bE)(hs:aU b<=274877906944):Ok prog 120 [.agg (aV .view b)] (.agg (aV .own b)):=by
 simp only[aU,bP]at hs;obtain⟨l,opens⟩:=b;simp only at hs;refine bM aG func120 ntmps120 ?_;refine aZ ?_;refine aM (ι:={q:Nat×Nat // q.1<=l.length/\1<=q.2}) (λt o i=>⟨bC t [(4,.int .i64 i.1.1),(5,.undef),(10,.undef)],o.take 3++[⟨true,true,2,0,[[.obj 4 i.1.2,.obj 2 2]]⟩,⟨true,false,4,i.1.2,(l.take i.1.1).map (fA .own)⟩]⟩)
  (λi=>l.length-i.1.1) ⟨(0,1),by simp,by simp⟩ (vN 3 0 0 (ob:=⟨true,true,2,0,[[.sl .own 4 [],.obj 2 2]]⟩) (by rfl) (by rfl) (by rfl) (by simp) (by rfl) (by rfl) (by simp) (by simp[xO,rt,iU,XP])) ?_
 rintro⟨⟨k,v⟩,hk,hv⟩ K1 hK1;simp only at hk hv;simp only[bC,cW,cU,eL,fW,eA,eM]at hK1⊢;have hk1:=oQ (k:=k);by_cases hlt:k<l.length
 .have hg:=aE hlt;have hps:=Au (fA .own) l k hlt;have hz:=dI sU l k hlt;simp only[sU,bP]at hz;have c1:=Kl l[k].attrs (by omega);have IQ:((l.take k).map (fA .own)).length=k:=by simp;omega
  generalize (l.take k).map (fA .own)=g at*;have W:=aA hk1 (aA hg (aA hlt IQ));refine we ?_;all_goals refine hK1 _ ⟨(k+1,v+1),by simp only;omega,by simp only;omega⟩ (aT 5 (by simp[hps])) (by simp only;omega)
 .have htk:l.take k=l:=cX (by omega);rw[htk];have W:=hk1;refine we ?_;exact aF results120
end Go.Proofs.YthddijamfbfibaaGreatDoor
namespace Go.Aw
open List
instance:Inhabited aD := ⟨⟨[], []⟩⟩
open Go.Sort Go.Proofs
def iJ(a:aD):List Value:=[encStr a.host,encStr a.path]
theorem Ym{w:World}{b off n:Nat}{C:Array Value}{e:TypeId}{fz:Nat×Nat}{d:Array Value}{os:Array Obj}(hb:w.heap[b]? =some (.cells C e fz)):
  (grow (putRow id (Sort.ahead w n) b off d) os).heap[b]? =some (.cells (putCells id off d C) e fz)/\(∀x,x<w.heap.size->x≠b->(grow (putRow id (Sort.ahead w n) b off d) os).heap[x]? =w.heap[x]?)/\
  w.heap.size<=(grow (putRow id (Sort.ahead w n) b off d) os).heap.size/\mI w (grow (putRow id (Sort.ahead w n) b off d) os):=by
 have hlt:b<w.heap.size:=(pH.1 hb).1;have hsz:(putRow id (Sort.ahead w n) b off d).heap.size=w.heap.size:=by simp
 refine⟨?_,λx hx hne=> ?_,?_,⟨rfl,rfl,rfl⟩⟩
 .show ((putRow id (Sort.ahead w n) b off d).heap++os)[b]? =_;rw[rN (by omega)];simp[putRow,mapBlock,CI,hb,onCells]
 .show ((putRow id (Sort.ahead w n) b off d).heap++os)[x]? =_;rw[rN (by omega)];simp[putRow,mapBlock,CI,wA hne]
 .show _<=((putRow id (Sort.ahead w n) b off d).heap++os).size;rw[FA,hsz];omega
theorem UO{w:World}{b off:Nat}{C:Array Value}{e:TypeId}{fz:Nat×Nat}{d:List Value}(hb:w.heap[b]? =some (.cells (putCells id off d.toArray C) e fz))(hfit:off+d.length<=C.size):bK w b off d:=by
 refine pO hb ?_;intro j v hv;have hj:j<d.length:=(cH.1 hv).1;rw[aE hj]at hv;simp only[eE]at hv;subst hv;simp only[putCells,Array.getElem?_mapIdx];have:off+j<C.size:=by omega
 simp[this,hj]
theorem zD:∀l:List aD,(l.flatMap iJ).length=l.length*2
 |[]=>rfl
 |a::l=>by simp only[DE,eR,zD l,iJ,eN,eV];omega
theorem vo:∀(l:List aD) (t:Nat),t<l.length*2->(l.flatMap iJ)[t]! =(iJ l[t/2]!)[t%2]!
 |[],t,h=>by simp at h
 |a::l,0,h=>by simp[iJ]
 |a::l,1,h=>by simp[iJ]
 |a::l,t+2,h=>by
  have ih:=vo l t (by simp only[eN]at h;omega);have e1:(t+2)/2=t/2+1:=by omega
  have e2:(t+2)%2=t%2:=by omega
  rw[e1,e2];simpa [iJ]using ih
theorem MS(l:List aD):flatK iJ 2 l.toArray=(l.flatMap iJ).toArray:=by
 apply Array.ext
 .rw [size_flatK];simp only[DB,zD]
 .intro i h1 h2;simp only[size_flatK,DB]at h1;have g1:=get_flatK iJ 2 l.toArray i (by simpa using h1);have g2:=vo l i h1;rw[DH _ i (by simpa using h1)]at g1;rw[DH _ i (by rw[zD];exact h1)]at g2;rw[g1];simp only[getElem_toArray];rw[g2];simp
theorem UQ{w:World}{E:Env}:∀{l:List aD} {vs:List Value} {fp:List Nat},Rv w E (l.map aH) vs 2 fp->vs=l.flatMap iJ/\fp=[]
 |[],vs,fp,h=>by simp only[DG,Rv]at h;exact⟨by simp[h.1],h.2⟩
 |s::l,vs,fp,h=>by
  simp only[mB,Rv]at h;obtain⟨cs,rest,f1,f2,rfl,hn,_,h1,h2,rfl⟩:=h;obtain⟨rfl,rfl⟩:=UQ h2;match cs,hn,h1 with
  |[c,d],_,h1=>simp only[aH,Rc,R]at h1;obtain⟨g1,g2,⟨rfl,rfl⟩,⟨g3,g4,⟨rfl,rfl⟩,rfl,rfl⟩,rfl⟩:=h1;exact⟨rfl,rfl⟩
theorem OJ{w:World}{E:Env}:∀(l:List aD),Rv w E (l.map aH) (l.flatMap iJ) 2 []
 |[]=>by simp[Rv]
 |s::l=>by simp only[mB,Rv];exact⟨iJ s,l.flatMap iJ,[],[],rfl,rfl,by simp[iJ,encStr,Value.oneCell'],by simp[aH,Rc,R,iJ,encStr],OJ l,rfl⟩
theorem UR{w:World}{b off:Nat}{C:Array Value}{e:TypeId}{fz:Nat×Nat}{d:List Value}(hb:w.heap[b]? =some (.cells C e fz))(hz:fz.2=0)(hc:bK w b off d)(hfit:off+d.length<=C.size):Holds id w b off d.toArray:=by
 intro j hj;have xc:j<d.length:=by simpa using hj
 refine⟨?_,?_⟩
 .rw [hc j d[j] (aE xc)];simp[xc]
 .simp [World.frozen?,hb,hz]
theorem aC7{P:Program}[aB P]{f g:FuncId}{srt:List aD->List aD}(hsl:∀l,(srt l).length=l.length)
  (hc:∀(b off cap:Nat) (zs:List aD) (w:World),HoldsK iJ 2 w b off zs.toArray->b<w.heap.size->zs.length<4611686018427387904->
   Calls P f #[.slice (some ⟨b,off,none⟩) zs.length cap,.func (.func g) #[] #[]] w λe w'=>e= .returned (.tuple #[])/\∃n os,w'=sortWorldK iJ 2 w b off n (srt zs).toArray os)
  (hn:∀(p:Option Addr) (cap:Nat) (w:World),Calls P f #[.slice p 0 cap,.func (.func g) #[] #[]] w λe w'=>e= .returned (.tuple #[])/\w'=w)
  (l:List aD) (hl:l.length<4611686018427387904):OkM P f (.sl .own 2 (l.map aH)) (.sl .own 2 ((srt l).map aH)) [.fn g []] (.gM []):=by
 intro w v vs fp hh hlow hr hnd hlt hrest;have hvs:vs=[.func (.func g) #[] #[]]:=by
  match vs,hrest with
  |[],h=>simp only[Rc]at h
  |[x],h=>
   simp only[Rc,R]at h;obtain⟨f1,f2,⟨_,cs,rfl,h1⟩,h2⟩:=h;cases cs with
   |nil=>rfl
   |cons c cs=>simp only[Rc]at h1
  |x::y::vs,h=>simp only[Rc]at h;obtain⟨f1,f2,_,h2,_⟩:=h;exact h2.elim
 subst hvs;obtain⟨a,cap,rfl,hlm,ho⟩:=pM.1 hr;have VH:(srt l).length=l.length:=hsl l;rcases ho with⟨h0,h4,rfl⟩|⟨b,off,C,e,fz,qN,rfl,hb,hz,hfit,hlc,hmax,rfl,hrr⟩
 .have hl0:l=[]:=by simpa using h0
  subst hl0;have hs0:srt []=[]:=hS (hsl []);rw[hs0];refine(hn a cap w).mono λed w' h=> ?_
  obtain⟨rfl,rfl⟩:=h;exact⟨_,[],rfl,by simp[R,Rc],pM.2 ⟨a,cap,by simp,by simp[maxLen],.inl ⟨by simp,h4,rfl⟩⟩,by simp,by simp,eC _,λ_ _ _=>rfl,mI.rfl⟩
 .obtain ⟨olds,hv,hcl⟩:=qD.1 hrr;obtain⟨rfl,rfl⟩:=UQ hv;simp only[mL]at hlm hlc;have hblt:b<w.heap.size:=(pH.1 hb).1;have hz0:fz.2=0:=by rcases hz with⟨_,h⟩|h;exact absurd h (by decide);exact h
  have hfl:off+(l.flatMap iJ).length<=C.size:=by rw[zD];omega
  have hH:HoldsK iJ 2 w b off l.toArray:=by unfold HoldsK;rw[MS];exact UR hb hz0 hcl hfl
  simp only[mL];refine(hc b off cap l w hH hblt hl).mono λed w' h=> ?_
  obtain⟨rfl,n,os,rfl⟩:=h;unfold sortWorldK putRowK;rw[MS];obtain⟨k1,k2,k3,k4⟩:=Ym (n:=n) (os:=os) (d:=((srt l).flatMap iJ).toArray) (off:=off) hb;have hsz:(putCells id off ((srt l).flatMap iJ).toArray C).size=C.size:=by simp[putCells]
  refine⟨_,[b],rfl,by simp[R,Rc],pM.2 ⟨some ⟨b,off,none⟩,cap,by simp[VH],by simpa [VH]using hlm,.inr ⟨b,off,_,e,fz,[],rfl,k1,by rw[hsz];exact hz,by rw[hsz];exact hfit,by simpa [VH]using hlc,hmax,rfl,qD.2 ⟨_,OJ _,UO k1 (by rw[zD,VH,<-zD];exact hfl)⟩⟩⟩,by simp,?_,k3,?_,k4⟩
  .intro x hx;obtain rfl:x=b:=by simpa using hx
   exact⟨.inl (by simp),nF hblt k3⟩
  .intro x hx hne;exact k2 x hx λh=>hne (by simp[h])
end Go.Aw
