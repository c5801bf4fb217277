/- Proved here: steps towards the statement of this claim. No condition. -/
import Derived.Test.YtjkdolejalpflaaGreatDoorZQMK1
import Derived.Test.YtjkdolejalpflaaGreatDoorZQU3
set_option linter.all false
set_option maxRecDepth 100000
set_option maxHeartbeats 4000000
namespace Go.Proofs.YtjkdolejalpflaaGreatDoor
open Go.Aw Go.RowKit Go.Lib Proofs.Tryz List IntKind
theorem Qa(w:World)(rb sb sc:Nat)(r0:Value)(hrb:rb<w.heap.size)(hr:w.cell? ⟨rb,3,none⟩=some r0)(fr:∀j,w.frozen? ⟨rb,j,none⟩=false)(hl:w.cell? ⟨rb,4,none⟩=some (.slice (some ⟨sb,0,none⟩) 4 sc))(hc:bA w sb 0 mkPairs):
  Calls prog 190 #[.pointer (some ⟨rb,0,none⟩)] w λe w'=>e= .returned (.tuple #[])/\∃nb w1,w.heap.size<=nb/\nb<w1.heap.size/\(∀j:Nat,j<256->w1.cell? ⟨nb,j,none⟩=some (.int .u8 (AQ j:Nat)))/\Ext w w1/\
   w'=(w1.setCell ⟨rb,3,none⟩ (.iface 244 (.pointer (some ⟨nb,0,none⟩)))).setCell ⟨rb,4,none⟩ (.slice none 0 0):=by
 go_enter func190,ntmps190
 go_wp2_with (go_at_call 203;refine(je w rb sb sc hl hc).mono ?_;rintro e w1 ⟨nb,rfl,hn1,hn2,hn3,hn4⟩;have k3:=(hn4.cell hrb 3).trans hr;have k4:=(hn4.cell hrb 4).trans hl;have z3:=(hn4.frozen hrb 3).trans (fr 3);have z4:=(hn4.frozen hrb 4).trans (fr 4))
 go_end0
 exact⟨rfl,nb,w1,hn1,hn2,hn3,hn4,rfl⟩
theorem D9(w:World)(rb sb sc:Nat)(r0:Value)(hrb:rb<w.heap.size)(h0:w.cell? ⟨rb,0,none⟩=some (.int .u32 0))(h1:w.cell? ⟨rb,1,none⟩=some (.int .i32 0))(hr:w.cell? ⟨rb,3,none⟩=some r0)(fr:∀j,w.frozen? ⟨rb,j,none⟩=false)
  (hl:w.cell? ⟨rb,4,none⟩=some (.slice (some ⟨sb,0,none⟩) 4 sc)) (hc:bA w sb 0 mkPairs) (hsb:sb≠rb):
  Calls prog 202 #[.pointer (some ⟨rb,0,none⟩),.func (.func 190) #[.pointer (some ⟨rb,0,none⟩)] #[]] w λe w'=>e= .returned (.tuple #[])/\∃nb,w.heap.size<=nb/\nb<w'.heap.size/\(∀j:Nat,j<256->w'.cell? ⟨nb,j,none⟩=some (.int .u8 (AQ j:Nat)))/\
   w'.cell? ⟨rb,3,none⟩=some (.iface 244 (.pointer (some ⟨nb,0,none⟩)))/\w.heap.size<=w'.heap.size/\(∀b,b<w.heap.size->b≠rb->w'.heap[b]? =w.heap[b]?)/\iW w w':=by
 have hnot:∀(x:Bool) (w:World),(Op.unary .not (.bool x)).run prog w= .ok (.bool (!x)) w:=λ_ _=>rfl
 have ho:∀i j:Nat,i≠j->(⟨rb,i,none⟩:Addr)≠⟨rb,j,none⟩:=λi j h e=>h (by simpa using e)
 generalize xm:w.setCell ⟨rb,1,none⟩ (.int .i32 1)=WL;have l0:WL.cell? ⟨rb,0,none⟩=some (.int .u32 0):=by rw[<-xm,fN _ _ _ _ (ho _ _ (by decide))];exact h0
 have l1:WL.cell? ⟨rb,1,none⟩=some (.int .i32 1):=by rw[<-xm];exact oA _ _ _ h1
 have l3:WL.cell? ⟨rb,3,none⟩=some r0:=by rw[<-xm,fN _ _ _ _ (ho _ _ (by decide))];exact hr
 have l4:WL.cell? ⟨rb,4,none⟩=some (.slice (some ⟨sb,0,none⟩) 4 sc):=by rw[<-xm,fN _ _ _ _ (ho _ _ (by decide))];exact hl
 have lz:∀j,WL.frozen? ⟨rb,j,none⟩=false:=λj=>by rw[<-xm];simpa using fr j
 have lc:bA WL sb 0 mkPairs:=λj v hv=>by rw[<-xm,fN _ _ _ _ (by simp[sX hsb])];exact hc j v hv
 have lh:∀b,b≠rb->WL.heap[b]? =w.heap[b]?:=λb hb=>by rw[<-xm];exact qQ w rb 1 _ hb
 have lsz:WL.heap.size=w.heap.size:=by have:=Go.Aw.fC rb [.int .i32 1] 1 w;simpa only[World.setCells,xm]using this
 have lsm:iW w WL:=by have:=Go.Aw.iM rb [.int .i32 1] 1 w;simpa only[World.setCells,xm]using this
 have hld:=run_call_load (P:=prog) func212 (by kernel_rfl) (by kernel_rfl) (by kernel_rfl) .u32 (by kernel_rfl) (w:=WL) (a:=⟨rb,0,none⟩) (x:=0) l0
 go_enter_defers func202,ntmps202
 go_wp2_with (first|(go_at_call 213;refine(D8 ⟨rb,1,none⟩ _ h1 (fr 1)).mono ?_;rintro e w' ⟨rfl,rfl⟩;rw[xm])|(go_at_call 190;refine(Qa WL rb sb sc r0 (by omega) l3 lz l4 lc).mono ?_;rintro e w' ⟨rfl,nb,w1,n1,n2,n3,n4,rfl⟩)|(go_at_call 201;go_in))
 have hrl:rb<WL.heap.size:=by omega
 generalize E5:(w1.setCell ⟨rb,3,none⟩ (.iface 244 (.pointer (some ⟨nb,0,none⟩)))).setCell ⟨rb,4,none⟩ (.slice none 0 0)=W5;have p0:W5.cell? ⟨rb,0,none⟩=some (.int .u32 0):=by rw[<-E5,fN _ _ _ _ (ho _ _ (by decide)),fN _ _ _ _ (ho _ _ (by decide))];exact(n4.cell hrl 0).trans l0
 have p1:W5.cell? ⟨rb,1,none⟩=some (.int .i32 1):=by rw[<-E5,fN _ _ _ _ (ho _ _ (by decide)),fN _ _ _ _ (ho _ _ (by decide))];exact(n4.cell hrl 1).trans l1
 have pz:∀j,W5.frozen? ⟨rb,j,none⟩=false:=λj=>by rw[<-E5];simpa using(n4.frozen hrl j).trans (lz j)
 refine leaves_cons (f:=215) (args:=#[.pointer (some ⟨rb,0,none⟩),.bool true]) (by simp) (by simp[go_sem]) ?_;refine(jc ⟨rb,0,none⟩ (.int .u32 0) .returning _ p0 (pz 0)).mono ?_;rintro e u' w'' ⟨rfl,rfl,rfl⟩;refine leaves_cons (f:=214) (args:=#[.pointer (some ⟨rb,1,none⟩)]) (by simp[settle]) (by simp[go_sem]) ?_;refine(Ye ⟨rb,1,none⟩ _ _ (by rw[fN _ _ _ _ (ho _ _ (by decide)),World.cell?_drew];exact p1) (by simpa using pz 1)).mono ?_;rintro e u' w'' ⟨rfl,rfl,rfl⟩;have hne:nb≠rb:=by omega
 have hcn:∀(W:World) (o:Nat) (v:Value) (j:Nat),(W.setCell ⟨rb,o,none⟩ v).cell? ⟨nb,j,none⟩=W.cell? ⟨nb,j,none⟩:=λW o v j=>fN _ _ _ _ (by simp[sX hne])
 have t1:∀j:Nat,j<256->((W5.drew.setCell ⟨rb,0,none⟩ (.int .u32 1)).setCell ⟨rb,1,none⟩ (.int .i32 0)).cell? ⟨nb,j,none⟩=some (.int .u8 (AQ j:Nat)):=λj hj=>by rw[hcn,hcn,World.cell?_drew,<-E5,hcn,hcn];exact n3 j hj
 have t2:((W5.drew.setCell ⟨rb,0,none⟩ (.int .u32 1)).setCell ⟨rb,1,none⟩ (.int .i32 0)).cell? ⟨rb,3,none⟩=some (.iface 244 (.pointer (some ⟨nb,0,none⟩))):=by rw[fN _ _ _ _ (ho _ _ (by decide)),fN _ _ _ _ (ho _ _ (by decide)),World.cell?_drew,<-E5,fN _ _ _ _ (ho _ _ (by decide))];exact oA _ _ _ ((n4.cell hrl 3).trans l3)
 have hsz:∀(W:World) (o:Nat) (v:Value),(W.setCell ⟨rb,o,none⟩ v).heap.size=W.heap.size:=λW o v=>by simpa only[World.setCells]using Go.Aw.fC rb [v] o W
 have hsm:∀(W:World) (o:Nat) (v:Value),iW W (W.setCell ⟨rb,o,none⟩ v):=λW o v=>by simpa only[World.setCells]using Go.Aw.iM rb [v] o W
 have t3:((W5.drew.setCell ⟨rb,0,none⟩ (.int .u32 1)).setCell ⟨rb,1,none⟩ (.int .i32 0)).heap.size=w1.heap.size:=by rw[hsz,hsz];show W5.heap.size=_;rw[<-E5,hsz,hsz]
 have t4:∀b,b<w.heap.size->b≠rb->((W5.drew.setCell ⟨rb,0,none⟩ (.int .u32 1)).setCell ⟨rb,1,none⟩ (.int .i32 0)).heap[b]? =w.heap[b]?:=λb hb hbr=>by rw[qQ _ _ _ _ hbr,qQ _ _ _ _ hbr];show W5.heap[b]? =_;rw[<-E5,qQ _ _ _ _ hbr,qQ _ _ _ _ hbr,n4.xk b (by omega),lh b hbr]
 have t5:iW w ((W5.drew.setCell ⟨rb,0,none⟩ (.int .u32 1)).setCell ⟨rb,1,none⟩ (.int .i32 0)):=by
  have e1:iW w W5:=by rw[<-E5];exact((lsm.trans n4.same).trans (hsm _ _ _)).trans (hsm _ _ _)
  exact((e1.trans (b:=W5) (c:=W5.drew) ⟨rfl,rfl,rfl⟩).trans (hsm _ _ _)).trans (hsm _ _ _)
 generalize (W5.drew.setCell ⟨rb,0,none⟩ (.int .u32 1)).setCell ⟨rb,1,none⟩ (.int .i32 0)=W7 at*;have hfin:∃nb,w.heap.size<=nb/\nb<W7.heap.size/\(∀j:Nat,j<256->W7.cell? ⟨nb,j,none⟩=some (.int .u8 (AQ j:Nat)))/\W7.cell? ⟨rb,3,none⟩=some (.iface 244 (.pointer (some ⟨nb,0,none⟩)))/\w.heap.size<=W7.heap.size/\(∀b,b<w.heap.size->b≠rb->W7.heap[b]? =w.heap[b]?)/\iW w W7:=
  ⟨nb,by omega,by omega,t1,t2,by have:=n4.size;omega,t4,t5⟩
 clear t1 t2 t3 t4 t5 p0 p1 pz E5 hcn hsz hsm l0 l1 l3 l4 lz lc lh;simpa [Leaves,settle,results,results202]using hfin
end Go.Proofs.YtjkdolejalpflaaGreatDoor
set_option maxRecDepth 4000
set_option maxHeartbeats 4000000
namespace Go.Proofs.YtjkdolejalpflaaGreatDoor
open Go.Aw Proofs.Tryz List IntKind
theorem NN[aB prog]:Iz prog 161 [] (YM 40):=by
 refine CB aJ func161 ntmps161 ?_;intro code i h hi hl;simp only[aU];have W:=trivial;repeat' first|refine st ?_|(refine nx ?_;refine so ?_)|(refine cx ?_;refine sc (λhc=>?_) (λhc=>?_)<;>try exact hc.elim)|(refine lx ?_;refine sp (λhc=>?_) (λhc=>?_)<;>try exact hc.elim)|refine sx ?_ ?_|refine sy ?_ ?_|fail
 refine cu (kM 4) ?_;rintro _ i2 h2 ⟨x,rfl,x0,x1,x2⟩ hi2;simp only[AS.drew,AS.called,aU,AS.put,aQ,aM,fO,cB,fI,bS,fU,bZ,cH,cG,cY,cW,cM];obtain⟨n,rfl⟩:=fX x0;have hn:n<=3:=by omega
 have W:=trivial;repeat' first|refine st ?_|(refine nx ?_;refine so ?_)|(refine cx ?_;refine sc (λhc=>?_) (λhc=>?_)<;>try exact hc.elim)|(refine lx ?_;refine sp (λhc=>?_) (λhc=>?_)<;>try exact hc.elim)|refine sx ?_ ?_|refine sy ?_ ?_|fail
 refine aY (ι:={x:Nat×aX×Int×Int // x.1<=3/\x.2.1.length+10*x.1<=30/\0<=x.2.2.1}) (λt o y=>⟨bN t [(3,.str y.1.2.1),(4,.int .i64 (y.1.1:Int))],[⟨true,true,3,2,[[.sl .view 1 (aR code),.int .i64 y.1.2.2.1,.int .i64 y.1.2.2.2]]⟩]⟩)
  (λy=>y.1.1) ⟨(n,[],i2,h2),hn,by simp;omega,hi2⟩ aC ?_
 rintro⟨⟨k,s,j,g⟩,hk,hs,hj⟩ K1 hK1;simp only at hk hs hj;have hK2:=hK1;simp only[bN,cH,cG]at hK1⊢;clear hK1;by_cases h0:0<k
 .have hk0:(k:Int) > 0:=by omega
  have hk1:i64.wrap ((k:Int)-1)=((k-1:Nat):Int):=by rw[wrap64]<;>omega
  have W:=hk0;repeat' first|refine st ?_|(refine nx ?_;refine so ?_)|(refine cx ?_;refine sc (λhc=>?_) (λhc=>?_)<;>try exact hc.elim)|(refine lx ?_;refine sp (λhc=>?_) (λhc=>?_)<;>try exact hc.elim)|refine sx ?_ ?_|refine sy ?_ ?_|fail
  refine mW (i:=1) (ver:=1) (by rfl) (by rfl) ?_ (by simp[AS.frozen,rW,rM,pW,rX,aD.pW,aD.kill,iL,pM,rt];rfl);refine cu (gF ([[112],[98],[112,97,103,101],[80],[]]:List aX) (by decide)) ?_;rintro _ j2 g2 ⟨u,Wi,rfl⟩ hj2;simp only[AS.drew,AS.called,aU,AS.put,aQ,aM,fO,cB,fI,bS,fU,bZ,cH,cG,cY,cW,cM];have hu:=(by decide:∀s∈([[112],[98],[112,97,103,101],[80],[]]:List aX),s.length<=4) u Wi;have Jk:s.length+u.length+1<=6200:=by omega
  have W:=Jk;repeat' first|refine st ?_|(refine nx ?_;refine so ?_)|(refine cx ?_;refine sc (λhc=>?_) (λhc=>?_)<;>try exact hc.elim)|(refine lx ?_;refine sp (λhc=>?_) (λhc=>?_)<;>try exact hc.elim)|refine sx ?_ ?_|refine sy ?_ ?_|fail
  refine mW (i:=2) (ver:=1) (by rfl) (by rfl) ?_ (by simp[AS.frozen,rW,rM,pW,rX,aD.pW,aD.kill,iL,pM,rt];rfl);refine cu (gF ([[49],[55],[57,57,57],[49,48,48,48],[48],[120]]:List aX) (by decide)) ?_;rintro _ j3 g3 ⟨q,hm3,rfl⟩ su;simp only[AS.drew,AS.called,aU,AS.put,aQ,aM,fO,cB,fI,bS,fU,bZ,cH,cG,cY,cW,cM];have hq:=(by decide:∀s∈([[49],[55],[57,57,57],[49,48,48,48],[48],[120]]:List aX),s.length<=4) q hm3;have YU:s.length+u.length+1+q.length+1<=6200:=by omega
  have W:=aA hk1 YU;repeat' first|refine st ?_|(refine nx ?_;refine so ?_)|(refine cx ?_;refine sc (λhc=>?_) (λhc=>?_)<;>try exact hc.elim)|(refine lx ?_;refine sp (λhc=>?_) (λhc=>?_)<;>try exact hc.elim)|refine sx ?_ ?_|refine sy ?_ ?_|fail
  refine hK2 _ ⟨(k-1,s++u++[58]++q++[59],j3,g3),by simp only;omega,by simp;omega,su⟩ ?_ (by simp only;omega);exact aS 1 (by simp) (by simp) (by simp) (by simp)
 .have hk0:¬(k:Int) > 0:=by omega
  have W:=hk0;repeat' first|refine st ?_|(refine nx ?_;refine so ?_)|(refine cx ?_;refine sc (λhc=>?_) (λhc=>?_)<;>try exact hc.elim)|(refine lx ?_;refine sp (λhc=>?_) (λhc=>?_)<;>try exact hc.elim)|refine sx ?_ ?_|refine sy ?_ ?_|fail
  refine⟨.inr rfl,pU (by simp[results161];rfl) (by rfl) (by rfl) (by omega) (by simp) (by simp) ?_⟩;simp only[single,res];exact⟨_,rfl,by omega⟩
theorem xS[aB prog](N:Nat)(hN1:1<=N)(hN4:N<=4):Iz prog 37 [.int .i64 (N:Int)] (YM (24*N)):=by
 refine CB aJ func37 ntmps37 ?_;intro code i h hi hl;simp only[aU];have W:=trivial;repeat' first|refine st ?_|(refine nx ?_;refine so ?_)|(refine cx ?_;refine sc (λhc=>?_) (λhc=>?_)<;>try exact hc.elim)|(refine lx ?_;refine sp (λhc=>?_) (λhc=>?_)<;>try exact hc.elim)|refine sx ?_ ?_|refine sy ?_ ?_|fail
 refine cu (kM (N:Int)) ?_;rintro _ i2 h2 ⟨x,rfl,x0,x1,x2⟩ hi2;simp only[AS.drew,AS.called,aU,AS.put,aQ,aM,fO,cB,fI,bS,fU,bZ,cH,cG,cY,cW,cM];obtain⟨n,rfl⟩:=fX x0;have hn:n+1<=N:=by omega
 have hn1:i64.wrap (1+(n:Int))=((n+1:Nat):Int):=by rw[wrap64]<;>omega
 have W:=hn1;repeat' first|refine st ?_|(refine nx ?_;refine so ?_)|(refine cx ?_;refine sc (λhc=>?_) (λhc=>?_)<;>try exact hc.elim)|(refine lx ?_;refine sp (λhc=>?_) (λhc=>?_)<;>try exact hc.elim)|refine sx ?_ ?_|refine sy ?_ ?_|fail
 refine aY (ι:={x:Nat×aX×Int×Int // x.1<=4/\x.2.1.length+24*x.1<=24*N/\0<=x.2.2.1}) (λt o y=>⟨bN t [(5,.str y.1.2.1),(6,.int .i64 (y.1.1:Int))],[⟨true,true,3,2,[[.sl .view 1 (aR code),.int .i64 y.1.2.2.1,.int .i64 y.1.2.2.2]]⟩]⟩)
  (λy=>y.1.1) ⟨(n+1,[],i2,h2),by simp only;omega,by simp;omega,hi2⟩ aC ?_
 rintro⟨⟨k,s,j,g⟩,hk,hs,hj⟩ K1 hK1;simp only at hk hs hj;have hK2:=hK1;simp only[bN,cH,cG]at hK1⊢;clear hK1;by_cases h0:0<k
 .have hk0:(k:Int) > 0:=by omega
  have hk1:i64.wrap ((k:Int)-1)=((k-1:Nat):Int):=by rw[wrap64]<;>omega
  have JZ:s.length+1<=6200:=by omega
  by_cases he:s=[]
  .subst he;have W:=hk0;repeat' first|refine st ?_|(refine nx ?_;refine so ?_)|(refine cx ?_;refine sc (λhc=>?_) (λhc=>?_)<;>try exact hc.elim)|(refine lx ?_;refine sp (λhc=>?_) (λhc=>?_)<;>try exact hc.elim)|refine sx ?_ ?_|refine sy ?_ ?_|fail
   refine mW (i:=1) (ver:=1) (by rfl) (by rfl) ?_ (by simp[AS.frozen,rW,rM,pW,rX,aD.pW,aD.kill,iL,pM,rt];rfl);refine cu (gF ([[115,97,121,32,104,105],[99,111,117,110,116,32,112],[99,111,117,110,116,32,115,99,114,105,112,116],[108,111,111,107,32,112],[108,111,111,107,32,98],[97,100,100,32,98],[97,100,100,32,112],[119,114,105,116,101,32,91,112,93,120,91,47,112,93],[119,114,105,116,101,32,91,105,109,103,32,115,114,99,61,108,111,103,111,93],[119,114,105,116,101,32,91,108,105,110,107,32,104,114,101,102,61,115,116,121,108,101,93],[119,114,105,116,101,32,91,98,93]]:List aX) (by decide)) ?_;rintro _ j2 g2 ⟨u,Wi,rfl⟩ hj2;simp only[AS.drew,AS.called,aU,AS.put,aQ,aM,fO,cB,fI,bS,fU,bZ,cH,cG,cY,cW,cM];have hu:=(by decide:∀s∈([[115,97,121,32,104,105],[99,111,117,110,116,32,112],[99,111,117,110,116,32,115,99,114,105,112,116],[108,111,111,107,32,112],[108,111,111,107,32,98],[97,100,100,32,98],[97,100,100,32,112],[119,114,105,116,101,32,91,112,93,120,91,47,112,93],[119,114,105,116,101,32,91,105,109,103,32,115,114,99,61,108,111,103,111,93],[119,114,105,116,101,32,91,108,105,110,107,32,104,114,101,102,61,115,116,121,108,101,93],[119,114,105,116,101,32,91,98,93]]:List aX),s.length<=23) u Wi;have Jk:u.length<=6200:=by omega
   have W:=aA hk1 Jk;repeat' first|refine st ?_|(refine nx ?_;refine so ?_)|(refine cx ?_;refine sc (λhc=>?_) (λhc=>?_)<;>try exact hc.elim)|(refine lx ?_;refine sp (λhc=>?_) (λhc=>?_)<;>try exact hc.elim)|refine sx ?_ ?_|refine sy ?_ ?_|fail
   refine hK2 _ ⟨(k-1,u,j2,g2),by simp only;omega,by simp only[eR]at hs⊢;omega,hj2⟩ ?_ (by simp only;omega);exact aS 1 (by simp) (by simp) (by simp) (by simp)
  .have W:=aA hk0 (aA he JZ);repeat' first|refine st ?_|(refine nx ?_;refine so ?_)|(refine cx ?_;refine sc (λhc=>?_) (λhc=>?_)<;>try exact hc.elim)|(refine lx ?_;refine sp (λhc=>?_) (λhc=>?_)<;>try exact hc.elim)|refine sx ?_ ?_|refine sy ?_ ?_|fail
   all_goals (try exact(he (by assumption)).elim)
   refine mW (i:=1) (ver:=1) (by rfl) (by rfl) ?_ (by simp[AS.frozen,rW,rM,pW,rX,aD.pW,aD.kill,iL,pM,rt];rfl);refine cu (gF ([[115,97,121,32,104,105],[99,111,117,110,116,32,112],[99,111,117,110,116,32,115,99,114,105,112,116],[108,111,111,107,32,112],[108,111,111,107,32,98],[97,100,100,32,98],[97,100,100,32,112],[119,114,105,116,101,32,91,112,93,120,91,47,112,93],[119,114,105,116,101,32,91,105,109,103,32,115,114,99,61,108,111,103,111,93],[119,114,105,116,101,32,91,108,105,110,107,32,104,114,101,102,61,115,116,121,108,101,93],[119,114,105,116,101,32,91,98,93]]:List aX) (by decide)) ?_;rintro _ j2 g2 ⟨u,Wi,rfl⟩ hj2;simp only[AS.drew,AS.called,aU,AS.put,aQ,aM,fO,cB,fI,bS,fU,bZ,cH,cG,cY,cW,cM];have hu:=(by decide:∀s∈([[115,97,121,32,104,105],[99,111,117,110,116,32,112],[99,111,117,110,116,32,115,99,114,105,112,116],[108,111,111,107,32,112],[108,111,111,107,32,98],[97,100,100,32,98],[97,100,100,32,112],[119,114,105,116,101,32,91,112,93,120,91,47,112,93],[119,114,105,116,101,32,91,105,109,103,32,115,114,99,61,108,111,103,111,93],[119,114,105,116,101,32,91,108,105,110,107,32,104,114,101,102,61,115,116,121,108,101,93],[119,114,105,116,101,32,91,98,93]]:List aX),s.length<=23) u Wi;have Jk:s.length+1+u.length<=6200:=by omega
   have W:=aA hk1 Jk;repeat' first|refine st ?_|(refine nx ?_;refine so ?_)|(refine cx ?_;refine sc (λhc=>?_) (λhc=>?_)<;>try exact hc.elim)|(refine lx ?_;refine sp (λhc=>?_) (λhc=>?_)<;>try exact hc.elim)|refine sx ?_ ?_|refine sy ?_ ?_|fail
   refine hK2 _ ⟨(k-1,s++[59]++u,j2,g2),by simp only;omega,by simp;omega,hj2⟩ ?_ (by simp only;omega);exact aS 1 (by simp) (by simp) (by simp) (by simp)
 .have hk0:¬(k:Int) > 0:=by omega
  have W:=hk0;repeat' first|refine st ?_|(refine nx ?_;refine so ?_)|(refine cx ?_;refine sc (λhc=>?_) (λhc=>?_)<;>try exact hc.elim)|(refine lx ?_;refine sp (λhc=>?_) (λhc=>?_)<;>try exact hc.elim)|refine sx ?_ ?_|refine sy ?_ ?_|fail
  refine⟨.inr rfl,pU (by simp[results37];rfl) (by rfl) (by rfl) (by omega) (by simp) (by simp) ?_⟩;simp only[single,res];exact⟨_,rfl,by omega⟩
end Go.Proofs.YtjkdolejalpflaaGreatDoor
set_option maxRecDepth 4000
set_option maxHeartbeats 4000000
namespace Go.Proofs.YtjkdolejalpflaaGreatDoor
open Go.Aw Proofs.Tryz List IntKind
def EZ:List aX:=[[104,111,109,101],[99,100,110],[101,118,105,108]]
def aBx(r:AV):Prop:=∃l:List aX,r= .sl .own 1 (l.map dR)/\l.length<=3/\∀s∈l,s.length<=4
theorem Bn[aB prog]:Iz prog 165 [] aBx:=by
 refine CB aJ func165 ntmps165 ?_;intro code i h hi hl;simp only[aU];have W:=trivial;repeat' first|refine st ?_|(refine nx ?_;refine so ?_)|(refine cx ?_;refine sc (λhc=>?_) (λhc=>?_)<;>try exact hc.elim)|(refine lx ?_;refine sp (λhc=>?_) (λhc=>?_)<;>try exact hc.elim)|refine sx ?_ ?_|refine sy ?_ ?_|fail
 refine aY (ι:={x:Nat×List aX×Nat×Int×Int // x.1<=3/\x.2.1.length<=x.1/\(∀s∈x.2.1,s.length<=4)/\1<=x.2.2.1/\0<=x.2.2.2.1}) (λt o y=>⟨bN t [(3,.obj 1 y.1.2.2.1),(5,.undef),(9,.int .i64 (y.1.1:Int))],[⟨true,true,3,2,[[.sl .view 1 (aR code),.int .i64 y.1.2.2.2.1,.int .i64 y.1.2.2.2.2]]⟩,⟨true,false,1,y.1.2.2.1,y.1.2.1.map dR⟩,⟨true,false,1,1,EZ.map dR⟩]⟩)
  (λy=>3-y.1.1) ⟨(0,[],1,i,h),by simp,by simp,by simp,by simp,hi⟩ (aC (by simp[EZ]) (by simp)) ?_
 rintro⟨⟨k,l,v,j,g⟩,hk,hlk,hs,hv,hj⟩ K1 hK1;simp only at hk hlk hs hv hj;have hK2:=hK1;simp only[bN,cH,cG]at hK1⊢;clear hK1;have h3:EZ.length=3:=rfl;by_cases h0:k<3
 .have hk0:(k:Int)<3:=by omega
  have hk1:=vJ (k:=k);have hlt:k<EZ.length:=by omega
  have hg:=aE hlt;have hu:=(by decide:∀s∈EZ,s.length<=4) _ (mL hlt);generalize EZ[k]=u at*;generalize EZ=H at*;have W:=aA hk0 hg;repeat' first|refine st ?_|(refine nx ?_;refine so ?_)|(refine cx ?_;refine sc (λhc=>?_) (λhc=>?_)<;>try exact hc.elim)|(refine lx ?_;refine sp (λhc=>?_) (λhc=>?_)<;>try exact hc.elim)|refine sx ?_ ?_|refine sy ?_ ?_|fail
  refine cu (kX 2) ?_;rintro _ j2 g2 ⟨b,rfl⟩ hj2;simp only[AS.drew,AS.called,aU,AS.put,aQ,aM,fO,cB,fI,bS,fU,bZ,cH,cG,cY,cW,cM];cases b
  .have W:=hk1;repeat' first|refine st ?_|(refine nx ?_;refine so ?_)|(refine cx ?_;refine sc (λhc=>?_) (λhc=>?_)<;>try exact hc.elim)|(refine lx ?_;refine sp (λhc=>?_) (λhc=>?_)<;>try exact hc.elim)|refine sx ?_ ?_|refine sy ?_ ?_|fail
   refine hK2 _ ⟨(k+1,l,v,j2,g2),by simp only;omega,by simp only;omega,hs,hv,hj2⟩ ?_ (by simp only;omega);exact aS 3 (by simp) (by simp) (by simp) (by simp)
  .obtain ⟨l1,hl1⟩:∃m,m=l++[u]:=⟨_,rfl⟩;have hap:l.map dR++[[.str u]]=l1.map dR:=by rw[hl1];simp
   have hl2:l1.length=l.length+1:=by rw[hl1];simp
   have hs1:∀s∈l1,s.length<=4:=λs hm=>by
    rw[hl1]at hm;rcases fR.1 hm with h|h
    .exact hs s h
    .simp only[pB]at h;subst h;exact hu
   have hb1:(l.length+1)*16<=140737488355328:=by omega
   have hb2:l.length+1<=9223372036854775807:=by omega
   have hb3:l.length<=9223372036854775806:=by omega
   have W:=aA hk1 (aA hap (aA hb1 (aA hb2 hb3)));repeat' first|refine st ?_|(refine nx ?_;refine so ?_)|(refine cx ?_;refine sc (λhc=>?_) (λhc=>?_)<;>try exact hc.elim)|(refine lx ?_;refine sp (λhc=>?_) (λhc=>?_)<;>try exact hc.elim)|refine sx ?_ ?_|refine sy ?_ ?_|fail
   refine hK2 _ ⟨(k+1,l1,v+1,j2,g2),by simp only;omega,by simp only;omega,hs1,by simp only;omega,hj2⟩ ?_ (by simp only;omega);exact aS 3 (by simp) (by simp) (by simp) (by simp)
 .have hk0:¬(k:Int)<3:=by omega
  have W:=hk0;repeat' first|refine st ?_|(refine nx ?_;refine so ?_)|(refine cx ?_;refine sc (λhc=>?_) (λhc=>?_)<;>try exact hc.elim)|(refine lx ?_;refine sp (λhc=>?_) (λhc=>?_)<;>try exact hc.elim)|refine sx ?_ ?_|refine sy ?_ ?_|fail
  refine⟨.inr rfl,pU (by simp[results165];rfl) (by rfl) (by rfl) (by omega) (by simp) (by simp) ?_⟩;simp only[single,res];exact⟨l,by simp[AV.isObj],by omega,hs⟩
theorem MH{l:List aX}(h:l.length<=3)(hs:∀s∈l,s.length<=4):dL dG l<=15:=by
 have key:∀l:List aX,(∀s∈l,s.length<=4)->bM dG l<=4*l.length:=by
  intro l;induction l with
  |nil=>intro _;simp[bM]
  |cons x l ih=>intro hs;have h1:=hs x (by simp);have h2:=ih (λs hm=>hs s (by simp[hm]));simp only[bM,dG,eE];omega
 have:=key l hs;simp only[dL];omega
def K8(r:AV):Prop:=∃p:dS,r= .agg (bG .own p)/\dD p<=60
theorem CE[aB prog]:Iz prog 134 [] K8:=by
 refine CB aJ func134 ntmps134 ?_;intro code i h hi hl;simp only[aU];have W:=trivial;repeat' first|refine st ?_|(refine nx ?_;refine so ?_)|(refine cx ?_;refine sc (λhc=>?_) (λhc=>?_)<;>try exact hc.elim)|(refine lx ?_;refine sp (λhc=>?_) (λhc=>?_)<;>try exact hc.elim)|refine sx ?_ ?_|refine sy ?_ ?_|fail
 refine cu (kX 2) ?_;rintro _ i2 h2 ⟨b,rfl⟩ hi2;simp only[AS.drew,AS.called,aU,AS.put,aQ,aM,fO,cB,fI,bS,fU,bZ,cH,cG,cY,cW,cM];cases b
 .have W:=trivial;repeat' first|refine st ?_|(refine nx ?_;refine so ?_)|(refine cx ?_;refine sc (λhc=>?_) (λhc=>?_)<;>try exact hc.elim)|(refine lx ?_;refine sp (λhc=>?_) (λhc=>?_)<;>try exact hc.elim)|refine sx ?_ ?_|refine sy ?_ ?_|fail
  refine cu (Bn) ?_;rintro _ i3 h3 ⟨l1,rfl,n1,s1⟩ hi3;simp only[AS.drew,AS.called,aU,AS.put,aQ,aM,fO,cB,fI,bS,fU,bZ,cH,cG,cY,cW,cM];have z1:=MH n1 s1;have W:=trivial;repeat' first|refine st ?_|(refine nx ?_;refine so ?_)|(refine cx ?_;refine sc (λhc=>?_) (λhc=>?_)<;>try exact hc.elim)|(refine lx ?_;refine sp (λhc=>?_) (λhc=>?_)<;>try exact hc.elim)|refine sx ?_ ?_|refine sy ?_ ?_|fail
  refine cu (Bn) ?_;rintro _ i4 h4 ⟨l2,rfl,n2,s2⟩ hi4;simp only[AS.drew,AS.called,aU,AS.put,aQ,aM,fO,cB,fI,bS,fU,bZ,cH,cG,cY,cW,cM];have z2:=MH n2 s2;have W:=trivial;repeat' first|refine st ?_|(refine nx ?_;refine so ?_)|(refine cx ?_;refine sc (λhc=>?_) (λhc=>?_)<;>try exact hc.elim)|(refine lx ?_;refine sp (λhc=>?_) (λhc=>?_)<;>try exact hc.elim)|refine sx ?_ ?_|refine sy ?_ ?_|fail
  refine cu (Bn) ?_;rintro _ i5 h5 ⟨l3,rfl,n3,s3⟩ hi5;simp only[AS.drew,AS.called,aU,AS.put,aQ,aM,fO,cB,fI,bS,fU,bZ,cH,cG,cY,cW,cM];have z3:=MH n3 s3;have W:=trivial;repeat' first|refine st ?_|(refine nx ?_;refine so ?_)|(refine cx ?_;refine sc (λhc=>?_) (λhc=>?_)<;>try exact hc.elim)|(refine lx ?_;refine sp (λhc=>?_) (λhc=>?_)<;>try exact hc.elim)|refine sx ?_ ?_|refine sy ?_ ?_|fail
  refine cu (kX 2) ?_;rintro _ i6 h6 ⟨b,rfl⟩ hi6;simp only[AS.drew,AS.called,aU,AS.put,aQ,aM,fO,cB,fI,bS,fU,bZ,cH,cG,cY,cW,cM];cases b
  .have W:=trivial;repeat' first|refine st ?_|(refine nx ?_;refine so ?_)|(refine cx ?_;refine sc (λhc=>?_) (λhc=>?_)<;>try exact hc.elim)|(refine lx ?_;refine sp (λhc=>?_) (λhc=>?_)<;>try exact hc.elim)|refine sx ?_ ?_|refine sy ?_ ?_|fail
   refine⟨.inr rfl,pU (by simp[results134];rfl) (by rfl) (by rfl) (by omega) (by simp) (by simp) ?_⟩;simp only[single,res];exact⟨⟨true,l1,l2,l3,[]⟩,by simp[qE,res,AV.isObj],by simp only[dD,eR];omega⟩
  .have W:=trivial;repeat' first|refine st ?_|(refine nx ?_;refine so ?_)|(refine cx ?_;refine sc (λhc=>?_) (λhc=>?_)<;>try exact hc.elim)|(refine lx ?_;refine sp (λhc=>?_) (λhc=>?_)<;>try exact hc.elim)|refine sx ?_ ?_|refine sy ?_ ?_|fail
   refine⟨.inr rfl,pU (by simp[results134];rfl) (by rfl) (by rfl) (by omega) (by simp) (by simp) ?_⟩;simp only[single,res];exact⟨⟨true,l1,l2,l3,[110,55]⟩,by simp[qE,res,AV.isObj],by simp only[dD,eE,eR];omega⟩
 .have W:=trivial;repeat' first|refine st ?_|(refine nx ?_;refine so ?_)|(refine cx ?_;refine sc (λhc=>?_) (λhc=>?_)<;>try exact hc.elim)|(refine lx ?_;refine sp (λhc=>?_) (λhc=>?_)<;>try exact hc.elim)|refine sx ?_ ?_|refine sy ?_ ?_|fail
  refine⟨.inr rfl,aFf (k:=1) (by simp[AS.zI,AS.wI,AS.rv,results134];rfl) (by rfl) (by rfl) (by omega) (by simp) (by simp) (by simp) (by simp) ?_⟩;simp only[single,res];exact⟨⟨false,[],[],[],[]⟩,by simp[qE,res,AV.isObj],by decide⟩
end Go.Proofs.YtjkdolejalpflaaGreatDoor
