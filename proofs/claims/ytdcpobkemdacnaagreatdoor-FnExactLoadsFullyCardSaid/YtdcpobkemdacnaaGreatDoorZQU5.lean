/- Proved here: steps towards the statement of this claim. No condition. -/
import Derived.Test.YtdcpobkemdacnaaGreatDoorZQU2
import Derived.Test.YtdcpobkemdacnaaGreatDoorZQMK1
import Derived.Test.YtdcpobkemdacnaaGreatDoorZQAwIns
set_option linter.all false
set_option maxRecDepth 4000
set_option maxHeartbeats 4000000
namespace Go.Proofs.YtdcpobkemdacnaaGreatDoor
open Go.Aw Proofs.Tryz List IntKind
end Go.Proofs.YtdcpobkemdacnaaGreatDoor
set_option maxRecDepth 4000
set_option maxHeartbeats 4000000
namespace Go.Proofs.YtdcpobkemdacnaaGreatDoor
open Go.Aw Proofs.Tryz List IntKind
theorem Dr {α β:Type} (f:α->β) (l:List α) (k:Nat) (h:k < l.length):(l.take (k+1)).map f=(l.take k).map f++[f l[k]]:=by rw [eK h,oS];rfl
theorem Jk [aC prog] (l:List oL) (hl:l.length<=1099511627776):Ok prog 161 [.sl .view 2 (l.map uL)] (.sl .own 2 (l.map uL)):=by refine bO aD func161 ntmps161 ?_;refine aZ ?_;exact aF results161
theorem Xo [aC prog] (t:bV) (hl:t.attrs.length<=1099511627776):Ok prog 190 [.agg (cB .view t)] (.agg (cB .own t)):=by refine bO aD func190 ntmps190 ?_;refine aZ ?_;exact aF results190
theorem Un [aC prog] (l:List bV) (hs:bT bX l<=274877906944):Ok prog 136 [.sl .view 4 (l.map (cB .view))] (.sl .own 4 (l.map (cB .own))):=by
 simp only [bT] at hs;refine bO aD func136 ntmps136 ?_;refine aZ ?_;refine aP (ι:={q:Nat×Nat // q.1<=l.length/\1<=q.2}) (λt o i=>⟨bE t [(3,.obj 0 i.1.2),(9,.int .i64 i.1.1),(5,.undef)],o.take 0++[⟨true,false,4,i.1.2,(l.take i.1.1).map (cB .own)⟩]⟩)
  (λi=>l.length - i.1.1) ⟨(0,1),by simp,by first|(simp;done)|(simp only;omega)⟩ aO ?_
 rintro ⟨⟨k,v⟩,hk,hv⟩ K1 hK1;simp only at hk hv;simp only [bE,cW,cU,eL,fS,eA,eM] at hK1⊢;have hk1:=oW (k:=k);by_cases hlt:k < l.length
 .have hg:=aE hlt;have hps:=Dr (cB .own) l k hlt;have hz:=dO bX l k hlt;simp only [bX,bT] at hz;have c1:=Xo l[k] (by omega);simp only [cB] at c1;have Mc:((l.take k).map (cB .own)).length=k:=by simp;omega
  generalize (l.take k).map (cB .own)=g at *;have W:=aA hk1 (aA hg (aA hlt Mc));refine we ?_;all_goals refine hK1 _ ⟨(k+1,v+1),by simp only;omega,by simp only;omega⟩ (aX 1 (by simp [hps])) (by simp only;omega)
 .have htk:l.take k=l:=cY (by omega);rw [htk];have W:=hk1;refine we ?_;exact aF results136
theorem Uo [aC prog] (l:List bV) (hs:bT bX l<=274877906944):Ok prog 101 [.sl .view 4 (l.map (cB .view))] (.sl .own 4 (l.map (cB .own))):=by
 simp only [bT] at hs;refine bO aD func101 ntmps101 ?_;refine aZ ?_;refine aP (ι:={q:Nat×Nat // q.1<=l.length/\1<=q.2}) (λt o i=>⟨bE t [(3,.obj 0 i.1.2),(4,.int .i64 i.1.1),(5,.undef)],o.take 0++[⟨true,false,4,i.1.2,(l.take i.1.1).map (cB .own)⟩]⟩)
  (λi=>l.length - i.1.1) ⟨(0,1),by simp,by first|(simp;done)|(simp only;omega)⟩ aO ?_
 rintro ⟨⟨k,v⟩,hk,hv⟩ K1 hK1;simp only at hk hv;simp only [bE,cW,cU,eL,fS,eA,eM] at hK1⊢;have hk1:=oW (k:=k);by_cases hlt:k < l.length
 .have hg:=aE hlt;have hps:=Dr (cB .own) l k hlt;have hz:=dO bX l k hlt;simp only [bX,bT] at hz;have c1:=Jk l[k].attrs (by omega);have Mc:((l.take k).map (cB .own)).length=k:=by simp;omega
  generalize (l.take k).map (cB .own)=g at *;have W:=aA hk1 (aA hg (aA hlt Mc));refine we ?_;all_goals refine hK1 _ ⟨(k+1,v+1),by simp only;omega,by simp only;omega⟩ (aX 1 (by simp [hps])) (by simp only;omega)
 .have htk:l.take k=l:=cY (by omega);rw [htk];have W:=hk1;refine we ?_;exact aF results101
theorem Im [aC prog] (a:eY) (hs:eO a<=274877906944):Ok prog 135 [.agg (bP .view a)] (.agg (bP .own a)):=by simp only [eO,bT] at hs;refine bO aD func135 ntmps135 ?_;refine aZ ?_;exact aF results135
theorem Uq [aC prog] (a:eY) (hs:eO a<=274877906944):Ok prog 100 [.agg (bP .view a)] (.agg (bP .own a)):=by simp only [eO,bT] at hs;refine bO aD func100 ntmps100 ?_;refine aZ ?_;exact aF results100
def kK (t:mY):List bV:=if t.rest=[]\/t.rest.head? =some 60 then [] else [⟨3,[],[],t.rest⟩]
end Go.Proofs.YtdcpobkemdacnaaGreatDoor
set_option maxRecDepth 100000
set_option maxHeartbeats 4000000
namespace Go.Proofs.YtdcpobkemdacnaaGreatDoor
open Go.Aw Go.RowKit Go.Lib Proofs.Tryz List IntKind
theorem XA (w:World) (rb sb sc:Nat) (r0:Value) (hrb:rb < w.heap.size) (hr:w.cell? ⟨rb,3,none⟩=some r0) (fr:∀j,w.frozen? ⟨rb,j,none⟩=false) (hl:w.cell? ⟨rb,4,none⟩=some (.slice (some ⟨sb,0,none⟩) 4 sc)) (hc:bN w sb 0 mkPairs):
  Calls prog 315 #[.pointer (some ⟨rb,0,none⟩)] w λe w'=>e= .returned (.tuple #[])/\∃nb w1,w.heap.size<=nb/\nb < w1.heap.size/\(∀j:Nat,j < 256->w1.cell? ⟨nb,j,none⟩=some (.int .u8 (Et j:Nat)))/\Ext w w1/\
   w'=(w1.setCell ⟨rb,3,none⟩ (.iface 349 (.pointer (some ⟨nb,0,none⟩)))).setCell ⟨rb,4,none⟩ (.slice none 0 0):=by
 go_enter func315,ntmps315
 go_wp2_with (go_at_call 321;refine (aDl w rb sb sc hl hc).mono ?_;rintro e w1 ⟨nb,rfl,hn1,hn2,hn3,hn4⟩;have k3:=(hn4.cell hrb 3).trans hr;have k4:=(hn4.cell hrb 4).trans hl;have z3:=(hn4.frozen hrb 3).trans (fr 3);have z4:=(hn4.frozen hrb 4).trans (fr 4))
 go_end0
 exact ⟨rfl,nb,w1,hn1,hn2,hn3,hn4,rfl⟩
theorem aHj (w:World) (rb sb sc:Nat) (r0:Value) (hrb:rb < w.heap.size) (h0:w.cell? ⟨rb,0,none⟩=some (.int .u32 0)) (h1:w.cell? ⟨rb,1,none⟩=some (.int .i32 0)) (hr:w.cell? ⟨rb,3,none⟩=some r0) (fr:∀j,w.frozen? ⟨rb,j,none⟩=false)
  (hl:w.cell? ⟨rb,4,none⟩=some (.slice (some ⟨sb,0,none⟩) 4 sc)) (hc:bN w sb 0 mkPairs) (hsb:sb≠rb):
  Calls prog 320 #[.pointer (some ⟨rb,0,none⟩),.func (.func 315) #[.pointer (some ⟨rb,0,none⟩)] #[]] w λe w'=>e= .returned (.tuple #[])/\∃nb,w.heap.size<=nb/\nb < w'.heap.size/\(∀j:Nat,j < 256->w'.cell? ⟨nb,j,none⟩=some (.int .u8 (Et j:Nat)))/\
   w'.cell? ⟨rb,3,none⟩=some (.iface 349 (.pointer (some ⟨nb,0,none⟩)))/\w.heap.size<=w'.heap.size/\(∀b,b < w.heap.size->b≠rb->w'.heap[b]? =w.heap[b]?)/\oD w w':=by
 have hnot:∀(x:Bool) (w:World),(Op.unary .not (.bool x)).run prog w= .ok (.bool (!x)) w:=λ_ _=>rfl
 have ho:∀i j:Nat,i≠j->(⟨rb,i,none⟩:Addr)≠⟨rb,j,none⟩:=λi j h e=>h (by simpa using e)
 generalize hWL:w.setCell ⟨rb,1,none⟩ (.int .i32 1)=WL;have l0:WL.cell? ⟨rb,0,none⟩=some (.int .u32 0):=by rw [<-hWL,gE _ _ _ _ (ho _ _ (by decide))];exact h0
 have l1:WL.cell? ⟨rb,1,none⟩=some (.int .i32 1):=by rw [<-hWL];exact pP _ _ _ h1
 have l3:WL.cell? ⟨rb,3,none⟩=some r0:=by rw [<-hWL,gE _ _ _ _ (ho _ _ (by decide))];exact hr
 have l4:WL.cell? ⟨rb,4,none⟩=some (.slice (some ⟨sb,0,none⟩) 4 sc):=by rw [<-hWL,gE _ _ _ _ (ho _ _ (by decide))];exact hl
 have lz:∀j,WL.frozen? ⟨rb,j,none⟩=false:=λj=>by rw [<-hWL];simpa using fr j
 have lc:bN WL sb 0 mkPairs:=λj v hv=>by rw [<-hWL,gE _ _ _ _ (by simp [AD hsb])];exact hc j v hv
 have lh:∀b,b≠rb->WL.heap[b]? =w.heap[b]?:=λb hb=>by rw [<-hWL];exact vW w rb 1 _ hb
 have lsz:WL.heap.size=w.heap.size:=by have:=Go.Aw.iA rb [.int .i32 1] 1 w;simpa only [World.setCells,hWL] using this
 have lsm:oD w WL:=by have:=Go.Aw.kM rb [.int .i32 1] 1 w;simpa only [World.setCells,hWL] using this
 have hld:=run_call_load (P:=prog) func331 (by kernel_rfl) (by kernel_rfl) (by kernel_rfl) .u32 (by kernel_rfl) (w:=WL) (a:=⟨rb,0,none⟩) (x:=0) l0
 go_enter_defers func320,ntmps320
 go_wp2_with (first|(go_at_call 332;refine (aHi ⟨rb,1,none⟩ _ h1 (fr 1)).mono ?_;rintro e w' ⟨rfl,rfl⟩;rw [hWL])|(go_at_call 315;refine (XA WL rb sb sc r0 (by omega) l3 lz l4 lc).mono ?_;rintro e w' ⟨rfl,nb,w1,n1,n2,n3,n4,rfl⟩)|(go_at_call 319;go_in))
 have hrl:rb < WL.heap.size:=by omega
 generalize hW5:(w1.setCell ⟨rb,3,none⟩ (.iface 349 (.pointer (some ⟨nb,0,none⟩)))).setCell ⟨rb,4,none⟩ (.slice none 0 0)=W5;have p0:W5.cell? ⟨rb,0,none⟩=some (.int .u32 0):=by rw [<-hW5,gE _ _ _ _ (ho _ _ (by decide)),gE _ _ _ _ (ho _ _ (by decide))];exact (n4.cell hrl 0).trans l0
 have p1:W5.cell? ⟨rb,1,none⟩=some (.int .i32 1):=by rw [<-hW5,gE _ _ _ _ (ho _ _ (by decide)),gE _ _ _ _ (ho _ _ (by decide))];exact (n4.cell hrl 1).trans l1
 have pz:∀j,W5.frozen? ⟨rb,j,none⟩=false:=λj=>by rw [<-hW5];simpa using (n4.frozen hrl j).trans (lz j)
 refine leaves_cons (f:=334) (args:=#[.pointer (some ⟨rb,0,none⟩),.bool true]) (by simp) (by simp [go_sem]) ?_;refine (aDj ⟨rb,0,none⟩ (.int .u32 0) .returning _ p0 (pz 0)).mono ?_;rintro e u' w'' ⟨rfl,rfl,rfl⟩;refine leaves_cons (f:=333) (args:=#[.pointer (some ⟨rb,1,none⟩)]) (by simp [settle]) (by simp [go_sem]) ?_;refine (O9 ⟨rb,1,none⟩ _ _ (by rw [gE _ _ _ _ (ho _ _ (by decide)),World.cell?_drew];exact p1) (by simpa using pz 1)).mono ?_;rintro e u' w'' ⟨rfl,rfl,rfl⟩;have hne:nb≠rb:=by omega
 have hcn:∀(W:World) (o:Nat) (v:Value) (j:Nat),(W.setCell ⟨rb,o,none⟩ v).cell? ⟨nb,j,none⟩=W.cell? ⟨nb,j,none⟩:=λW o v j=>gE _ _ _ _ (by simp [AD hne])
 have t1:∀j:Nat,j < 256->((W5.drew.setCell ⟨rb,0,none⟩ (.int .u32 1)).setCell ⟨rb,1,none⟩ (.int .i32 0)).cell? ⟨nb,j,none⟩=some (.int .u8 (Et j:Nat)):=λj hj=>by rw [hcn,hcn,World.cell?_drew,<-hW5,hcn,hcn];exact n3 j hj
 have t2:((W5.drew.setCell ⟨rb,0,none⟩ (.int .u32 1)).setCell ⟨rb,1,none⟩ (.int .i32 0)).cell? ⟨rb,3,none⟩=some (.iface 349 (.pointer (some ⟨nb,0,none⟩))):=by rw [gE _ _ _ _ (ho _ _ (by decide)),gE _ _ _ _ (ho _ _ (by decide)),World.cell?_drew,<-hW5,gE _ _ _ _ (ho _ _ (by decide))];exact pP _ _ _ ((n4.cell hrl 3).trans l3)
 have hsz:∀(W:World) (o:Nat) (v:Value),(W.setCell ⟨rb,o,none⟩ v).heap.size=W.heap.size:=λW o v=>by simpa only [World.setCells] using Go.Aw.iA rb [v] o W
 have hsm:∀(W:World) (o:Nat) (v:Value),oD W (W.setCell ⟨rb,o,none⟩ v):=λW o v=>by simpa only [World.setCells] using Go.Aw.kM rb [v] o W
 have t3:((W5.drew.setCell ⟨rb,0,none⟩ (.int .u32 1)).setCell ⟨rb,1,none⟩ (.int .i32 0)).heap.size=w1.heap.size:=by rw [hsz,hsz];show W5.heap.size=_;rw [<-hW5,hsz,hsz]
 have t4:∀b,b < w.heap.size->b≠rb->((W5.drew.setCell ⟨rb,0,none⟩ (.int .u32 1)).setCell ⟨rb,1,none⟩ (.int .i32 0)).heap[b]? =w.heap[b]?:=λb hb hbr=>by rw [vW _ _ _ _ hbr,vW _ _ _ _ hbr];show W5.heap[b]? =_;rw [<-hW5,vW _ _ _ _ hbr,vW _ _ _ _ hbr,n4.old b (by omega),lh b hbr]
 have t5:oD w ((W5.drew.setCell ⟨rb,0,none⟩ (.int .u32 1)).setCell ⟨rb,1,none⟩ (.int .i32 0)):=by
  have e1:oD w W5:=by rw [<-hW5];exact ((lsm.trans n4.same).trans (hsm _ _ _)).trans (hsm _ _ _)
  exact ((e1.trans (b:=W5) (c:=W5.drew) ⟨rfl,rfl,rfl⟩).trans (hsm _ _ _)).trans (hsm _ _ _)
 generalize (W5.drew.setCell ⟨rb,0,none⟩ (.int .u32 1)).setCell ⟨rb,1,none⟩ (.int .i32 0)=W7 at *;have hfin:∃nb,w.heap.size<=nb/\nb < W7.heap.size/\(∀j:Nat,j < 256->W7.cell? ⟨nb,j,none⟩=some (.int .u8 (Et j:Nat)))/\W7.cell? ⟨rb,3,none⟩=some (.iface 349 (.pointer (some ⟨nb,0,none⟩)))/\w.heap.size<=W7.heap.size/\(∀b,b < w.heap.size->b≠rb->W7.heap[b]? =w.heap[b]?)/\oD w W7:=
  ⟨nb,by omega,by omega,t1,t2,by have:=n4.size;omega,t4,t5⟩
 clear t1 t2 t3 t4 t5 p0 p1 pz hW5 hcn hsz hsm l0 l1 l3 l4 lz lc lh;simpa [Leaves,settle,results,results320] using hfin
end Go.Proofs.YtdcpobkemdacnaaGreatDoor
set_option maxRecDepth 100000
set_option maxHeartbeats 4000000
namespace Go.Proofs.YtdcpobkemdacnaaGreatDoor
open Go.Aw Go.RowKit Go.Lib Proofs.Tryz List IntKind
theorem qo (w:World) (rb sb sc:Nat) (r0:Value) (s:ByteArray) (hs:s.size<=1099511627776) (hrb:rb < w.heap.size) (h0:w.cell? ⟨rb,0,none⟩=some (.int .u32 0)) (h1:w.cell? ⟨rb,1,none⟩=some (.int .i32 0)) (hr:w.cell? ⟨rb,3,none⟩=some r0) (fr:∀j,w.frozen? ⟨rb,j,none⟩=false)
  (hl:w.cell? ⟨rb,4,none⟩=some (.slice (some ⟨sb,0,none⟩) 4 sc)) (hc:bN w sb 0 mkPairs) (hsb:sb≠rb):
  Calls prog 307 #[.pointer (some ⟨rb,0,none⟩),.string s] w λe w'=>e= .returned (.string ⟨(s.data.toList.map sQ).toArray⟩)/\w.heap.size<=w'.heap.size/\(∀b,b < w.heap.size->b≠rb->w'.heap[b]? =w.heap[b]?)/\oD w w':=by
 have hnot:∀(x:Bool) (w:World),(Op.unary .not (.bool x)).run prog w= .ok (.bool (!x)) w:=λ_ _=>rfl
 have hmf:∀(fn:Fn) (first cap:Array Value) (w:World),(Instr.makeFunc fn first cap).run prog w= .ok (.func fn first cap) w:=λ_ _ _ _=>rfl
 have hm:∀(nb:Nat) (w:World),(method 524 349 (.pointer (some ⟨nb,0,none⟩)) "Replace").run prog w= .ok (397,.pointer (some ⟨nb,0,none⟩)) w:=λ_ _=>by kernel_rfl
 have hld:=run_call_load (P:=prog) func331 (by kernel_rfl) (by kernel_rfl) (by kernel_rfl) .u32 (by kernel_rfl) (w:=w) (a:=⟨rb,0,none⟩) (x:=0) h0
 go_enter func307,ntmps307
 go_wp2_with (first|(go_at_call 314;go_in)|(go_at_call 319;go_in)|(go_at_call 320;refine (aHj w rb sb sc r0 hrb h0 h1 hr fr hl hc hsb).mono ?_;rintro e w1 ⟨rfl,nb,n1,n2,n3,n4,n5,n6,n7⟩))
 go_end0
 go_wp2_with (go_at_call 397;refine (aDk _ _ s hs n2 n3).mono ?_;rintro e w2 ⟨rfl,hx⟩)
 go_ret
 exact ⟨rfl,hM n5 hx.size,λb hb hbr=>(hx.old b (oT hb n5)).trans (n6 b hb hbr),n7.trans hx.same⟩
end Go.Proofs.YtdcpobkemdacnaaGreatDoor
set_option maxRecDepth 4000
set_option maxHeartbeats 4000000
namespace Go.Proofs.YtdcpobkemdacnaaGreatDoor
open Go.Aw Proofs.Tryz List IntKind
theorem VW (u:List Nat) (b:Bool) (l:List jL):mM (jV u) b (l.map (fD .view))=l.map (fD .view):=by
 induction l with
 |nil=>rfl
 |cons x l ih=>rw [mA,mM,ih];simp [xM,rt,fD,jV]
theorem kR [aC prog] (b:bF) (hs:aS b<=274877906944):Ok prog 137 [.agg (aU .view b)] (.agg (aU .own b)):=by
 simp only [aS,bT] at hs;obtain ⟨l,opens⟩:=b;simp only at hs;refine bO aD func137 ntmps137 ?_;refine aZ ?_;refine aP (ι:={q:Nat×Nat // q.1<=l.length/\1<=q.2}) (λt o i=>⟨bE t [(14,.int .i64 i.1.1),(5,.undef),(10,.undef)],o.take 3++[⟨true,true,2,0,[[.obj 4 i.1.2,.obj 2 2]]⟩,⟨true,false,4,i.1.2,(l.take i.1.1).map (fD .own)⟩]⟩)
  (λi=>l.length - i.1.1) ⟨(0,1),by simp,by simp⟩ (vD 3 0 0 (ob:=⟨true,true,2,0,[[.sl .own 4 [],.obj 2 2]]⟩) (by rfl) (by rfl) (by rfl) (by simp) (by rfl) (by rfl) (by simp) (by simp [xM,rt,jV,VW])) ?_
 rintro ⟨⟨k,v⟩,hk,hv⟩ K1 hK1;simp only at hk hv;simp only [bE,cW,cU,eL,fS,eA,eM] at hK1⊢;have hk1:=oW (k:=k);by_cases hlt:k < l.length
 .have hg:=aE hlt;have hps:=Dr (fD .own) l k hlt;have hz:=dO rU l k hlt;simp only [rU,bT] at hz;have Mc:((l.take k).map (fD .own)).length=k:=by simp;omega
  generalize (l.take k).map (fD .own)=g at *;have W:=aA hk1 (aA hg (aA hlt Mc));refine we ?_;all_goals refine hK1 _ ⟨(k+1,v+1),by simp only;omega,by simp only;omega⟩ (aX 5 (by simp [hps])) (by simp only;omega)
 .have htk:l.take k=l:=cY (by omega);rw [htk];have W:=hk1;refine we ?_;exact aF results137
theorem kU [aC prog] (b:bF) (hs:aS b<=274877906944):Ok prog 102 [.agg (aU .view b)] (.agg (aU .own b)):=by
 simp only [aS,bT] at hs;obtain ⟨l,opens⟩:=b;simp only at hs;refine bO aD func102 ntmps102 ?_;refine aZ ?_;refine aP (ι:={q:Nat×Nat // q.1<=l.length/\1<=q.2}) (λt o i=>⟨bE t [(4,.int .i64 i.1.1),(5,.undef),(10,.undef)],o.take 3++[⟨true,true,2,0,[[.obj 4 i.1.2,.obj 2 2]]⟩,⟨true,false,4,i.1.2,(l.take i.1.1).map (fD .own)⟩]⟩)
  (λi=>l.length - i.1.1) ⟨(0,1),by simp,by simp⟩ (vD 3 0 0 (ob:=⟨true,true,2,0,[[.sl .own 4 [],.obj 2 2]]⟩) (by rfl) (by rfl) (by rfl) (by simp) (by rfl) (by rfl) (by simp) (by simp [xM,rt,jV,VW])) ?_
 rintro ⟨⟨k,v⟩,hk,hv⟩ K1 hK1;simp only at hk hv;simp only [bE,cW,cU,eL,fS,eA,eM] at hK1⊢;have hk1:=oW (k:=k);by_cases hlt:k < l.length
 .have hg:=aE hlt;have hps:=Dr (fD .own) l k hlt;have hz:=dO rU l k hlt;simp only [rU,bT] at hz;have c1:=Jk l[k].attrs (by omega);have Mc:((l.take k).map (fD .own)).length=k:=by simp;omega
  generalize (l.take k).map (fD .own)=g at *;have W:=aA hk1 (aA hg (aA hlt Mc));refine we ?_;all_goals refine hK1 _ ⟨(k+1,v+1),by simp only;omega,by simp only;omega⟩ (aX 5 (by simp [hps])) (by simp only;omega)
 .have htk:l.take k=l:=cY (by omega);rw [htk];have W:=hk1;refine we ?_;exact aF results102
end Go.Proofs.YtdcpobkemdacnaaGreatDoor
set_option maxRecDepth 4000
set_option maxHeartbeats 4000000
namespace Go.Proofs.YtdcpobkemdacnaaGreatDoor
open Go.Aw Proofs.Tryz List IntKind
theorem iK [aC prog] (a:aG) (hs:aJ a<=274877906944):Ok prog 79 [.agg (aI .view a)] (.agg (aI .own a)):=by simp only [aJ] at hs;have c1:=Im a.bD (by omega);have c2:=Un a.queue (by omega);have c3:=kR a.builder (by omega);simp only [bT] at hs;simp only [bP] at c1;simp only [aU] at c3;refine bO aD func79 ntmps79 ?_;refine aZ ?_;exact aF results79
theorem gP [aC prog] (a:aG) (hs:aJ a<=274877906944):Ok prog 57 [.agg (aI .view a)] (.agg (aI .own a)):=by simp only [aJ] at hs;have c1:=Uq a.bD (by omega);have c2:=Uo a.queue (by omega);have c3:=kU a.builder (by omega);simp only [bT] at hs;simp only [bP] at c1;simp only [aU] at c3;refine bO aD func57 ntmps57 ?_;refine aZ ?_;exact aF results57
end Go.Proofs.YtdcpobkemdacnaaGreatDoor
set_option maxRecDepth 4000
set_option maxHeartbeats 400000
namespace Go.Proofs.YtdcpobkemdacnaaGreatDoor
open Go.Aw Proofs.Tryz List IntKind
def iT:bB:=[115,99,114,105,112,116]
def Ir:bB:=[108,105,110,107]
def MV:bB:=[105,109,103]
def KT:bB:=[107,105,110,100]
def CE:bB:=[109,111,100,117,108,101]
def oN:bB:=[115,114,99]
def Av:bB:=[104,114,101,102]
def dU:bB:=[100,105,103,101,115,116]
def MW:gD:=⟨0,wV,[],[]⟩
def XJ (k:Int) (v d b:bB):gD×Bool:=if (bY v b).2=true then (⟨k,(bY v b).1,b,d⟩,true) else (MW,false)
def Wh (t:bV) (b:bB):gD×Bool:=
 if t.kind=1 then
  if t.name=iT then
   if (aW t.attrs KT).1=CE then XJ 5 (aW t.attrs oN).1 [] b else XJ 2 (aW t.attrs oN).1 (aW t.attrs dU).1 b
  else if t.name=Ir then XJ 3 (aW t.attrs Av).1 (aW t.attrs dU).1 b
  else if t.name=MV then XJ 4 (aW t.attrs oN).1 (aW t.attrs dU).1 b
  else (MW,false)
 else (MW,false)
theorem mK (l:List oL) (n:bB):(aW l n).1.length<=bH oO l:=by
 unfold aW;split
 .rename_i a h;have:=oY h;have:=bU oO this;simp only [oO] at this⊢;omega
 .simp
end Go.Proofs.YtdcpobkemdacnaaGreatDoor
set_option maxRecDepth 4000
set_option maxHeartbeats 400000
namespace Go.Proofs.YtdcpobkemdacnaaGreatDoor
open Go.Aw Proofs.Tryz List IntKind
theorem T9 (s b:bB):aQ (addrOf s b)<=s.length+b.length:=by have:=uX 47 s;unfold addrOf;split<;>simp [aQ]<;>omega
theorem KU (s b:bB):aQ (bY s b).1<=s.length+b.length:=by
 have:=T9 s b;unfold bY;split
 .exact this
 .simp [aQ,wV]
end Go.Proofs.YtdcpobkemdacnaaGreatDoor
set_option maxRecDepth 4000
set_option maxHeartbeats 400000
namespace Go.Proofs.YtdcpobkemdacnaaGreatDoor
open Go.Aw Proofs.Tryz List IntKind
def aD8 (b:bB) (t:bV):Option gD:=if (Wh t b).2=true then some (Wh t b).1 else none
def rf (l:List bV) (b:bB):List gD:=l.filterMap (aD8 b)
@[simp] theorem aD9 (b:bB):rf [] b=[]:=rfl
end Go.Proofs.YtdcpobkemdacnaaGreatDoor
set_option maxRecDepth 4000
set_option maxHeartbeats 400000
namespace Go.Proofs.YtdcpobkemdacnaaGreatDoor
open Go.Aw Proofs.Tryz List IntKind
end Go.Proofs.YtdcpobkemdacnaaGreatDoor
set_option maxRecDepth 4000
set_option maxHeartbeats 400000
namespace Go.Proofs.YtdcpobkemdacnaaGreatDoor
open Go.Aw Proofs.Tryz List IntKind
theorem BF {α:Type} (f:α->Bool):∀(l:List α) (j:Nat) (i:Int),i∈places f j l->(j:Int)<=i/\i < j+l.length
 |[],j,i,h=>by simp [places] at h
 |x::xs,j,i,h=>by
  simp only [places] at h;have ih:=BF f xs (j+1) i;simp only [eN];split at h
  .rcases lE.1 h with rfl|h
   .omega
   .have:=ih h;omega
  .have:=ih h;omega
def fI (m:Int):Int:=if m=1 then 4 else if m=2 then 3 else if m=3 then 2 else if m=4 then 2 else 0
theorem CF [aC prog] (m:Int):Ok prog 114 [.int .i64 m] (.int .i64 (fI m)):=by
 refine bO aD func114 ntmps114 ?_;have W:=trivial;repeat' first|refine wg ?_|(refine sq ?_ ?_<;>intro hc<;>try exact hc.elim)|fail
 all_goals try(refine aV ?_;simp [aH,results114,fI])
 all_goals simp_all [fI]
theorem CG [aC prog] (m:Int):Ok prog 207 [.int .i64 m] (.int .i64 (fI m)):=by
 refine bO aD func207 ntmps207 ?_;have W:=trivial;repeat' first|refine wg ?_|(refine sq ?_ ?_<;>intro hc<;>try exact hc.elim)|fail
 all_goals try(refine aV ?_;simp [aH,results207,fI])
 all_goals simp_all [fI]
def zq:gD:=⟨0,⟨[],[]⟩,[],[]⟩
def fQ (p:aG) (s:oZ):gD:=⟨fI s.mode,s.to,p.addr.host,s.digest⟩
def eP (p:aG) (m:dY):gD:=⟨5,m.to,p.addr.host,[]⟩
def jC (p:aG) (i:Int):gD:=match p.aB[i.toNat]? with
 |some s=>fQ p s
 |none=>zq
def oU (p:aG) (i:Int):gD:=match p.aM[i.toNat]? with
 |some s=>eP p s
 |none=>zq
theorem Az {α:Type} {l:List α} {i:Int} (h0:0<=i) (h1:i < l.length):∃s,l[i.toNat]? =some s:=⟨l[i.toNat]'(by omega),aE _⟩
theorem at_eq {α:Type} {l:List α} {k:Nat} {s:α} (h:k < l.length) (hg:l[k]? =some s):l[k]=s:=by rw [aE h] at hg;exact cQ hg
theorem xA [aC prog] (p:aG) (i:Int) (h0:0<=i) (h1:i < p.aB.length) (hl:p.aB.length<=1099511627776):Ok prog 63 [.agg (aI .view p),.int .i64 i] (.agg (dF (jC p i))):=by
 obtain ⟨s,hg⟩:=Az h0 h1;have e:jC p i=fQ p s:=by simp [jC,hg]
 rw [e];obtain rfl:p.aB[i.toNat]'(by omega)=s:=at_eq (by omega) hg;have c1:=gK i 0 (p.aB.length - 1);rw [show (decide (0<=i)&&decide (i<=(p.aB.length:Int) - 1))=true by simp;omega] at c1;have c2:=CF (p.aB[i.toNat]'(by omega)).mode;refine bO aD func63 ntmps63 ?_;have W:=aA hg (aA h0 h1);refine wl ?_;all_goals try(refine aV ?_;simp [aH,results63,fQ])
theorem xB [aC prog] (p:aG) (i:Int) (h0:0<=i) (h1:i < p.aB.length) (hl:p.aB.length<=1099511627776):Ok prog 151 [.agg (aI .view p),.int .i64 i] (.agg (dF (jC p i))):=by
 obtain ⟨s,hg⟩:=Az h0 h1;have e:jC p i=fQ p s:=by simp [jC,hg]
 rw [e];obtain rfl:p.aB[i.toNat]'(by omega)=s:=at_eq (by omega) hg;have c2:=CG (p.aB[i.toNat]'(by omega)).mode;have n0:¬i < 0:=by omega
 have n1:¬(p.aB.length:Int)<=i:=by omega
 refine bO aD func151 ntmps151 ?_;have W:=aA hg (aA h0 (aA h1 (aA n0 n1)));refine wl ?_;all_goals try(refine aV ?_;simp [aH,results151,fQ])
theorem CJ [aC prog] (p:aG) (i:Int) (h0:0<=i) (h1:i < p.aM.length) (hl:p.aM.length<=1099511627776):Ok prog 65 [.agg (aI .view p),.int .i64 i] (.agg (dF (oU p i))):=by
 obtain ⟨s,hg⟩:=Az h0 h1;have e:oU p i=eP p s:=by simp [oU,hg]
 rw [e];obtain rfl:p.aM[i.toNat]'(by omega)=s:=at_eq (by omega) hg;have c1:=gK i 0 (p.aM.length - 1);rw [show (decide (0<=i)&&decide (i<=(p.aM.length:Int) - 1))=true by simp;omega] at c1;refine bO aD func65 ntmps65 ?_;have W:=aA hg (aA h0 h1);refine wl ?_;all_goals try(refine aV ?_;simp [aH,results65,eP])
theorem uO [aC prog] (p:aG) (i:Int) (h0:0<=i) (h1:i < p.aM.length) (hl:p.aM.length<=1099511627776):Ok prog 152 [.agg (aI .view p),.int .i64 i] (.agg (dF (oU p i))):=by
 obtain ⟨s,hg⟩:=Az h0 h1;have e:oU p i=eP p s:=by simp [oU,hg]
 rw [e];obtain rfl:p.aM[i.toNat]'(by omega)=s:=at_eq (by omega) hg;have n0:¬i < 0:=by omega
 have n1:¬(p.aM.length:Int)<=i:=by omega
 refine bO aD func152 ntmps152 ?_;have W:=aA hg (aA h0 (aA h1 (aA n0 n1)));refine wl ?_;all_goals try(refine aV ?_;simp [aH,results152,eP])
end Go.Proofs.YtdcpobkemdacnaaGreatDoor
set_option maxRecDepth 4000
set_option maxHeartbeats 400000
namespace Go.Proofs.YtdcpobkemdacnaaGreatDoor
open Go.Aw Proofs.Tryz List IntKind
theorem Lc [aC prog] (a:aK) (hl:aQ a<=1099511627776):Ok prog 171 [.agg (aL a)] (.str (lZ a)):=by
 have c1:=qW a (by omega);simp only [aQ] at hl;have f1:a.host.length<=9223372036854775806:=by omega
 have f2:a.host.length+1<=9223372036854775807:=by omega
 have f3:a.host.length+1+a.path.length<=9223372036854775807:=by omega
 have f4:a.host.length+(a.path.length+1)<=9223372036854775807:=by omega
 refine bO aD func171 ntmps171 ?_;have W:=aA f1 (aA f2 (aA f3 f4));repeat' first|refine wg ?_|(refine sq ?_ ?_<;>intro hc<;>try exact hc.elim)|fail
 all_goals try(refine aV ?_;simp [aH,results171,lZ])
 all_goals simp_all [lZ]
theorem BL (a:aK):(lZ a).length<=17:=by
 unfold lZ;split
 .rename_i h;simp [oP,dB] at h;simp;omega
 .simp
theorem Ld [aC prog] (a:aK) (hl:aQ a<=1099511627776):Ok prog 199 [.agg (aL a)] (.str (lZ a)):=by
 have c1:=qX a (by omega);simp only [aQ] at hl;have f1:a.host.length<=9223372036854775806:=by omega
 have f2:a.host.length+1<=9223372036854775807:=by omega
 have f3:a.host.length+1+a.path.length<=9223372036854775807:=by omega
 have f4:a.host.length+(a.path.length+1)<=9223372036854775807:=by omega
 refine bO aD func199 ntmps199 ?_;have W:=aA f1 (aA f2 (aA f3 f4));repeat' first|refine wg ?_|(refine sq ?_ ?_<;>intro hc<;>try exact hc.elim)|fail
 all_goals try(refine aV ?_;simp [aH,results199,lZ])
 all_goals simp_all [lZ]
end Go.Proofs.YtdcpobkemdacnaaGreatDoor
set_option maxRecDepth 100000
set_option maxHeartbeats 8000000
namespace Go.Proofs.YtdcpobkemdacnaaGreatDoor
open Go.Aw Proofs.Tryz List IntKind
end Go.Proofs.YtdcpobkemdacnaaGreatDoor
