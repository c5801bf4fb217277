/- Steps. No condition. -/
import Derived.Test.YtanobkmhbpjnpaaGreatDoorZQMK3
import Derived.Test.YtanobkmhbpjnpaaGreatDoorZQU4
set_option linter.all false
set_option maxRecDepth 100000
set_option maxHeartbeats 4000000
namespace Go.Proofs.YtanobkmhbpjnpaaGreatDoor
open Go.Aw Go.RowKit Go.Lib Proofs.Tryz List IntKind
def aQm(w:World)(vb vc:Nat)(hc:dB w vb 0 mkPairs):
  Calls prog 258 #[.slice (some ⟨vb,0,none⟩) 4 vc] w λe w'=>∃rb sb sc r0,e= .returned (.pointer (some ⟨rb,0,none⟩))/\w.heap.size<=rb/\rb<w'.heap.size/\w'.cell? ⟨rb,0,none⟩=some (.int .u32 0)/\w'.cell? ⟨rb,1,none⟩=some (.int .i32 0)/\w'.cell? ⟨rb,3,none⟩=some r0/\(∀j,w'.frozen? ⟨rb,j,none⟩=false)/\
   w'.cell? ⟨rb,4,none⟩=some (.slice (some ⟨sb,0,none⟩) 4 sc)/\dB w' sb 0 mkPairs/\sb≠rb/\Ext w w':=by
 obtain⟨inf,KI,hq⟩:=xF.1 (show(prog.info? 9).map (λi=>(i.size,i.bytes))=some (1,16)by kernel_rfl);obtain⟨hsz,hby⟩:=Prod.mk.inj hq;obtain⟨z,hz0⟩:∃z,inf.zero=some z:=by
  have h:=Tryz.zsz9;simp only[kZ,KI]at h;cases hz:inf.zero with
  |none=>simp[hz]at h
  |some z=>exact⟨z,rfl⟩
 obtain⟨G,hG⟩:∃G,G=grownCap w 4 0 9:=⟨_,rfl⟩;obtain⟨ROW,hROW⟩:∃ROW:Array Value,ROW=mkPairs.toArray++Builtin.zeroCells z.cells (G-4):=⟨_,rfl⟩;have hap:∀ty,(Builtin.append_ #[26,26] ty #[.slice none 0 0,.slice (some ⟨vb,0,none⟩) 4 vc]).run prog w= .ok (.slice (some ⟨w.heap.size,0,none⟩) 4 G) (w.drew.alloc (.cells ROW 9)):=λty=>by have h:=(Go.Aw.Kk (P:=prog) (w:=w) (tS:=26) (xT:=26) (ty:=ty) Tryz.underlying26 ⟨_,Tryz.underlying26,λk h=>by cases h⟩ KI hz0 (base:=none) (sLen:=0) (sCap:=0) (n:=4) (x:= .slice (some ⟨vb,0,none⟩) 4 vc) (by simp[Builtin.lenOf]) (eO:=mkPairs) (olds:=[]) (λw' hw=>by rw[hsz];exact nD rfl (show dB w' vb 0 mkPairs from λj v hv=>by simpa [World.cell?,hw]using hc j v hv)) (λw' hw=>by rw[hsz];rfl) (by rw[hby];decide) (by decide)).2 (by decide);rw[hROW,hG];simpa using h
 have hself:=iT w.drew (.cells ROW 9);have hold:=heap_alloc w.drew (.cells ROW 9);have hx1:Ext w (w.drew.alloc (.cells ROW 9)):=⟨by simp,hold,⟨rfl,rfl,rfl⟩⟩;have hs1:(w.drew.alloc (.cells ROW 9)).heap.size=w.heap.size+1:=by simp
 generalize w.drew.alloc (.cells ROW 9)=W1 at*;have hc1:dB W1 w.heap.size 0 mkPairs:=λj v hv=>by
  have FQ:W1.heap[w.heap.size]? =some (.cells ROW 9 (0,0)):=hself;have hj:=(cU.1 hv).1;have:ROW[j]? =some v:=by rw[hROW,wA (by simpa using hj)];simpa using hv
  simp[World.cell?,FQ,this]
 clear hself hold hROW;subst hG
 go_enter func258,ntmps258
 go_wp2_with (at_builtin;refine Lib.wpList_append_run _ rfl _ _ _ _ rfl _ _ rfl rfl _ _ (hap _) ?_)
 go_ret
 have hself:=iT W1 (.cells #[Value.int IntKind.u32 0,Value.int IntKind.i32 0,Value.int IntKind.u32 0,Value.nilIface,Value.slice (some ⟨w.heap.size,0,none⟩) 4 (grownCap w 4 0 9)] 266);have hold:=heap_alloc W1 (.cells #[Value.int IntKind.u32 0,Value.int IntKind.i32 0,Value.int IntKind.u32 0,Value.nilIface,Value.slice (some ⟨w.heap.size,0,none⟩) 4 (grownCap w 4 0 9)] 266);have hsz2:(W1.alloc (.cells #[Value.int IntKind.u32 0,Value.int IntKind.i32 0,Value.int IntKind.u32 0,Value.nilIface,Value.slice (some ⟨w.heap.size,0,none⟩) 4 (grownCap w 4 0 9)] 266)).heap.size=W1.heap.size+1:=by simp
 have hsm:nZ W1 (W1.alloc (.cells #[Value.int IntKind.u32 0,Value.int IntKind.i32 0,Value.int IntKind.u32 0,Value.nilIface,Value.slice (some ⟨w.heap.size,0,none⟩) 4 (grownCap w 4 0 9)] 266)):=⟨rfl,rfl,rfl⟩;generalize W1.alloc (.cells #[Value.int IntKind.u32 0,Value.int IntKind.i32 0,Value.int IntKind.u32 0,Value.nilIface,Value.slice (some ⟨w.heap.size,0,none⟩) 4 (grownCap w 4 0 9)] 266)=W2 at*;have FQ:W2.heap[w.heap.size+1]? =some (.cells #[Value.int IntKind.u32 0,Value.int IntKind.i32 0,Value.int IntKind.u32 0,Value.nilIface,Value.slice (some ⟨w.heap.size,0,none⟩) 4 (grownCap w 4 0 9)] 266 (0,0)):=by rw[<-hs1];exact hself
 refine⟨w.heap.size+1,w.heap.size,grownCap w 4 0 9,.nilIface,rfl,by omega,by omega,by simp[World.cell?,FQ],by simp[World.cell?,FQ],by simp[World.cell?,FQ],λj=>by simp[World.frozen?,FQ],by simp[World.cell?,FQ],λj v hv=> ?_,by omega,hx1.trans ⟨by omega,λb hb=>hold b hb,hsm⟩⟩;have h2:=hold w.heap.size (by omega);have:=hc1 j v hv;simpa [World.cell?,h2]using this
def aCt(w:World)(s:ByteArray)(hs:s.size<=1099511627776):
  Calls prog 229 #[.string s] w λe w'=>e= .returned (.string ⟨(s.data.toList.map uO).toArray⟩)/\Ext w w':=by
 have hbs:∀w:World,(Instr.buildSlice 26 4 #[(0,.string ⟨#[91]⟩),(1,.string ⟨#[60]⟩),(2,.string ⟨#[93]⟩),(3,.string ⟨#[62]⟩)]).run prog w= .ok (.slice (some ⟨w.heap.size,0,none⟩) 4 4) (w.alloc (.cells mkPairs.toArray 9)):=λw=>by
  letI:aG prog:={holds:=λ_=>True,low:=0,RX:=λ_ _=>Nat.zero_le _,Yf:=λ_ _ _ _=>trivial}
  have h:=Go.Aw.wS (P:=prog) (t:=26) (e:=9) (n:=1) (by':=16) (len:=4) (vs:=mkPairs) (w:=w) (by kernel_rfl) (by kernel_rfl) rfl (by decide) (by intro v hv;simp only[mkPairs,mC,DH,or_false]at hv;rcases hv with rfl|rfl|rfl|rfl<;>rfl);exact h
 go_enter func229,ntmps229
 go_wp2_with (simp only[hbs])
 have hself:=iT w (.cells #[Value.string ⟨#[91]⟩,Value.string ⟨#[60]⟩,Value.string ⟨#[93]⟩,Value.string ⟨#[62]⟩] 9);have hx:Ext w (w.alloc (.cells #[Value.string ⟨#[91]⟩,Value.string ⟨#[60]⟩,Value.string ⟨#[93]⟩,Value.string ⟨#[62]⟩] 9)):=⟨by simp,λb hb=>heap_alloc w _ b hb,⟨rfl,rfl,rfl⟩⟩;generalize w.alloc (.cells #[Value.string ⟨#[91]⟩,Value.string ⟨#[60]⟩,Value.string ⟨#[93]⟩,Value.string ⟨#[62]⟩] 9)=W1 at*;have hc:dB W1 w.heap.size 0 mkPairs:=λj v hv=>by have FQ:W1.heap[w.heap.size]? =some (.cells mkPairs.toArray 9 (0,0)):=hself;simp[World.cell?,FQ,hv]
 clear hself hbs;refine(aQm W1 w.heap.size 4 hc).mono ?_;rintro e W2 ⟨rb,sb,sc,r0,rfl,a1,a2,a3,a4,a5,a6,a7,a8,a9,a10⟩
 go_wp2_with (go_at_call 259;refine(G8 _ rb sb sc r0 s hs a2 a3 a4 a5 a6 a7 a8 a9).mono ?_;rintro e W3 ⟨rfl,b1,b2,b3⟩)
 go_ret
 exact⟨rfl,⟨iS hx.size (iS a10.size b1),λb hb=>by
  have h1:=hx.size;have h2:=a10.size;rw[b2 b (by omega) (by omega),a10.old b (by omega),hx.old b hb],(hx.same.trans a10.same).trans b3⟩⟩
def sM[aG prog](s:bE)(hs:s.length<=1099511627776):Ok prog 229 [.str s] (.str (s.map uO)):=by
 intro w vs hg hargs;obtain⟨c,rest,rfl⟩:∃c rest,vs=c::rest:=by
  cases vs with
  |nil=>simp[Rc]at hargs
  |cons c rest=>exact⟨c,rest,rfl⟩
 simp only[Rc,R]at hargs;obtain⟨f1,f2,⟨rfl,_⟩,h2,_⟩:=hargs;obtain rfl:rest=[]:=by
  cases rest with
  |nil=>rfl
  |cons=>simp[Rc]at h2
 refine(aCt w ⟨s.toArray⟩ (by simpa [ByteArray.size]using hs)).mono ?_;rintro e w' ⟨rfl,hx⟩;exact⟨.string ⟨(s.map uO).toArray⟩,[],by simp,by simp[R],by simp,by simp,hx.size,hx.old,hx.same⟩
end Go.Proofs.YtanobkmhbpjnpaaGreatDoor
set_option maxRecDepth 4000
set_option maxHeartbeats 4000000
namespace Go.Proofs.YtanobkmhbpjnpaaGreatDoor
open Go.Aw Proofs.Tryz List IntKind
def HY{α β:Type}(f:α->β)(l:List α)(k:Nat)(h:k<l.length):(l.take (k+1)).map f=(l.take k).map f++[f l[k]]:=by rw[fN h,pP];rfl
def KJ[aG prog](l:List pV)(hl:l.length<=1099511627776):Ok prog 111 [.sl .view 2 (l.map uB)] (.sl .own 2 (l.map uB)):=by refine dN aK func111 ntmps111 ?_;refine bK ?_;exact aO results111
def YK[aG prog](t:bM)(hl:t.iH.length<=1099511627776):Ok prog 107 [.agg (dK .view t)] (.agg (dK .own t)):=by refine dN aK func107 ntmps107 ?_;refine bK ?_;exact aO results107
def VQ[aG prog](l:List bM)(hs:dS dU l<=274877906944):Ok prog 52 [.sl .view 4 (l.map (dK .view))] (.sl .own 4 (l.map (dK .own))):=by
 simp only[dS]at hs;refine dN aK func52 ntmps52 ?_;refine bK ?_;refine aT (ι:={q:Nat×Nat // q.1<=l.length/\1<=q.2}) (λt o i=>⟨bP t [(3,.obj 0 i.1.2),(9,.int .i64 i.1.1),(5,.aB)],o.take 0++[⟨true,false,4,i.1.2,(l.take i.1.1).map (dK .own)⟩]⟩)
  (λi=>l.length-i.1.1) ⟨(0,1),by simp,by first|(simp;done)|(simp only;omega)⟩ aP ?_
 rintro⟨⟨k,v⟩,hk,hv⟩ K1 hK1;simp only at hk hv;simp only[bP,cH,cQ,eV,gS,cW,eA]at hK1⊢;have hk1:=tQ (k:=k);by_cases hlt:k<l.length
 .have hg:=aE hlt;have hps:=HY (dK .own) l k hlt;have hz:=iU dU l k hlt;simp only[dU,dS]at hz;have c1:=YK l[k] (by omega);simp only[dK]at c1;have hgl:((l.take k).map (dK .own)).length=k:=by simp;omega
  generalize (l.take k).map (dK .own)=g at*;have W:=aA hk1 (aA hg (aA hlt hgl));refine we ?_;all_goals refine hK1 _ ⟨(k+1,v+1),by simp only;omega,by simp only;omega⟩ (aQ 1 (by simp[hps])) (by simp only;omega)
 .have htk:l.take k=l:=eN (by omega);rw[htk];have W:=hk1;refine we ?_;exact aO results52
def VR[aG prog](l:List bM)(hs:dS dU l<=274877906944):Ok prog 61 [.sl .view 4 (l.map (dK .view))] (.sl .own 4 (l.map (dK .own))):=by
 simp only[dS]at hs;refine dN aK func61 ntmps61 ?_;refine bK ?_;refine aT (ι:={q:Nat×Nat // q.1<=l.length/\1<=q.2}) (λt o i=>⟨bP t [(3,.obj 0 i.1.2),(4,.int .i64 i.1.1),(5,.aB)],o.take 0++[⟨true,false,4,i.1.2,(l.take i.1.1).map (dK .own)⟩]⟩)
  (λi=>l.length-i.1.1) ⟨(0,1),by simp,by first|(simp;done)|(simp only;omega)⟩ aP ?_
 rintro⟨⟨k,v⟩,hk,hv⟩ K1 hK1;simp only at hk hv;simp only[bP,cH,cQ,eV,gS,cW,eA]at hK1⊢;have hk1:=tQ (k:=k);by_cases hlt:k<l.length
 .have hg:=aE hlt;have hps:=HY (dK .own) l k hlt;have hz:=iU dU l k hlt;simp only[dU,dS]at hz;have c1:=KJ l[k].iH (by omega);have hgl:((l.take k).map (dK .own)).length=k:=by simp;omega
  generalize (l.take k).map (dK .own)=g at*;have W:=aA hk1 (aA hg (aA hlt hgl));refine we ?_;all_goals refine hK1 _ ⟨(k+1,v+1),by simp only;omega,by simp only;omega⟩ (aQ 1 (by simp[hps])) (by simp only;omega)
 .have htk:l.take k=l:=eN (by omega);rw[htk];have W:=hk1;refine we ?_;exact aO results61
def JQ[aG prog](a:gG)(hs:eT a<=274877906944):Ok prog 51 [.agg (dA .view a)] (.agg (dA .own a)):=by simp only[eT,dS]at hs;refine dN aK func51 ntmps51 ?_;refine bK ?_;exact aO results51
def VS[aG prog](a:gG)(hs:eT a<=274877906944):Ok prog 60 [.agg (dA .view a)] (.agg (dA .own a)):=by simp only[eT,dS]at hs;refine dN aK func60 ntmps60 ?_;refine bK ?_;exact aO results60
def lD(t:nN):List bM:=if t.rest=[]\/t.rest.head? =some 60 then []else [⟨3,[],[],t.rest⟩]
def Xo(u:List Nat)(b:Bool)(l:List kG):lW (lV u) b (l.map (gU .view))=l.map (gU .view):=by
 induction l with
 |nil=>rfl
 |cons x l ih=>rw[oE,lW,ih];simp[tJ,rt,gU,lV]
def nE[aG prog](b:bC)(hs:aV b<=274877906944):Ok prog 53 [.agg (aZ .view b)] (.agg (aZ .own b)):=by
 simp only[aV,dS]at hs;obtain⟨l,bD⟩:=b;simp only at hs;refine dN aK func53 ntmps53 ?_;refine bK ?_;refine aT (ι:={q:Nat×Nat // q.1<=l.length/\1<=q.2}) (λt o i=>⟨bP t [(14,.int .i64 i.1.1),(5,.aB),(10,.aB)],o.take 3++[⟨true,true,2,0,[[.obj 4 i.1.2,.obj 2 2]]⟩,⟨true,false,4,i.1.2,(l.take i.1.1).map (gU .own)⟩]⟩)
  (λi=>l.length-i.1.1) ⟨(0,1),by simp,by simp⟩ (vM 3 0 0 (ob:=⟨true,true,2,0,[[.sl .own 4 [],.obj 2 2]]⟩) (by rfl) (by rfl) (by rfl) (by simp) (by rfl) (by rfl) (by simp) (by simp[tJ,rt,lV,Xo])) ?_
 rintro⟨⟨k,v⟩,hk,hv⟩ K1 hK1;simp only at hk hv;simp only[bP,cH,cQ,eV,gS,cW,eA]at hK1⊢;have hk1:=tQ (k:=k);by_cases hlt:k<l.length
 .have hg:=aE hlt;have hps:=HY (gU .own) l k hlt;have hz:=iU qP l k hlt;simp only[qP,dS]at hz;have hgl:((l.take k).map (gU .own)).length=k:=by simp;omega
  generalize (l.take k).map (gU .own)=g at*;have W:=aA hk1 (aA hg (aA hlt hgl));refine we ?_;all_goals refine hK1 _ ⟨(k+1,v+1),by simp only;omega,by simp only;omega⟩ (aQ 5 (by simp[hps])) (by simp only;omega)
 .have htk:l.take k=l:=eN (by omega);rw[htk];have W:=hk1;refine we ?_;exact aO results53
def nG[aG prog](b:bC)(hs:aV b<=274877906944):Ok prog 62 [.agg (aZ .view b)] (.agg (aZ .own b)):=by
 simp only[aV,dS]at hs;obtain⟨l,bD⟩:=b;simp only at hs;refine dN aK func62 ntmps62 ?_;refine bK ?_;refine aT (ι:={q:Nat×Nat // q.1<=l.length/\1<=q.2}) (λt o i=>⟨bP t [(4,.int .i64 i.1.1),(5,.aB),(10,.aB)],o.take 3++[⟨true,true,2,0,[[.obj 4 i.1.2,.obj 2 2]]⟩,⟨true,false,4,i.1.2,(l.take i.1.1).map (gU .own)⟩]⟩)
  (λi=>l.length-i.1.1) ⟨(0,1),by simp,by simp⟩ (vM 3 0 0 (ob:=⟨true,true,2,0,[[.sl .own 4 [],.obj 2 2]]⟩) (by rfl) (by rfl) (by rfl) (by simp) (by rfl) (by rfl) (by simp) (by simp[tJ,rt,lV,Xo])) ?_
 rintro⟨⟨k,v⟩,hk,hv⟩ K1 hK1;simp only at hk hv;simp only[bP,cH,cQ,eV,gS,cW,eA]at hK1⊢;have hk1:=tQ (k:=k);by_cases hlt:k<l.length
 .have hg:=aE hlt;have hps:=HY (gU .own) l k hlt;have hz:=iU qP l k hlt;simp only[qP,dS]at hz;have c1:=KJ l[k].iH (by omega);have hgl:((l.take k).map (gU .own)).length=k:=by simp;omega
  generalize (l.take k).map (gU .own)=g at*;have W:=aA hk1 (aA hg (aA hlt hgl));refine we ?_;all_goals refine hK1 _ ⟨(k+1,v+1),by simp only;omega,by simp only;omega⟩ (aQ 5 (by simp[hps])) (by simp only;omega)
 .have htk:l.take k=l:=eN (by omega);rw[htk];have W:=hk1;refine we ?_;exact aO results62
def lM[aG prog](a:aF)(hs:aM a<=274877906944):Ok prog 18 [.agg (aH .view a)] (.agg (aH .own a)):=by simp only[aM]at hs;have c1:=JQ a.bO (by omega);have c2:=VQ a.bT (by omega);have c3:=nE a.aC (by omega);simp only[dS]at hs;simp only[dA]at c1;simp only[aZ]at c3;refine dN aK func18 ntmps18 ?_;refine bK ?_;exact aO results18
def jH[aG prog](a:aF)(hs:aM a<=274877906944):Ok prog 28 [.agg (aH .view a)] (.agg (aH .own a)):=by simp only[aM]at hs;have c1:=VS a.bO (by omega);have c2:=VR a.bT (by omega);have c3:=nG a.aC (by omega);simp only[dS]at hs;simp only[dA]at c1;simp only[aZ]at c3;refine dN aK func28 ntmps28 ?_;refine bK ?_;exact aO results28
def TY[aG prog](t:nN)(hs:t.rest.length<=274877906):Ok prog 187 [.agg (fU t)] (.sl .own 4 ((lD t).map (dK .own))):=by
 obtain⟨s⟩:=t;simp only at hs;cases s with
 |nil=>simp only[lD,true_or,eS,GC];refine dN aK func187 ntmps187 ?_;refine bK ?_;exact aO results187
 |cons c r=>
  by_cases hc:c=60
  .subst hc;have he:lD ⟨60::r⟩=[]:=by simp[lD]
   rw[he];refine dN aK func187 ntmps187 ?_;refine bK ?_;exact aO results187
  .have he:lD ⟨c::r⟩=[⟨3,[],[],c::r⟩]:=by simp[lD,hc]
   rw[he];have hn:¬((c.toNat:Int)=60):=λh=>hc (DA.1 (by simp;omega))
   refine dN aK func187 ntmps187 ?_;have W:=hn;refine we ?_;exact aO results187
def Ic[aG prog](t:nN)(hs:t.rest.length<=274877906):Ok prog 168 [.agg (fU t)] (.sl .own 4 ((lD t).map (dK .own))):=by
 obtain⟨s⟩:=t;simp only at hs;cases s with
 |nil=>simp only[lD,true_or,eS,GC];refine dN aK func168 ntmps168 ?_;refine bK ?_;exact aO results168
 |cons c r=>
  by_cases hc:c=60
  .subst hc;have he:lD ⟨60::r⟩=[]:=by simp[lD]
   rw[he];refine dN aK func168 ntmps168 ?_;refine bK ?_;exact aO results168
  .have he:lD ⟨c::r⟩=[⟨3,[],[],c::r⟩]:=by simp[lD,hc]
   rw[he];have hn:¬((c.toNat:Int)=60):=λh=>hc (DA.1 (by simp;omega))
   refine dN aK func168 ntmps168 ?_;have W:=hn;refine we ?_;exact aO results168
def dY:bE:=[115,99,114,105,112,116]
def Ie:bE:=[108,105,110,107]
def MI:bE:=[105,109,103]
def MJ:bE:=[107,105,110,100]
def DX:bE:=[109,111,100,117,108,101]
def qB:bE:=[115,114,99]
def Bz:bE:=[104,114,101,102]
def fC:bE:=[100,105,103,101,115,116]
def OE:iO:=⟨0,yR,[],[]⟩
def YW(k:Int)(v d b:bE):iO×Bool:=if (dR v b).2=true then(⟨k,(dR v b).1,b,d⟩,true)else(OE,false)
def XB(t:bM)(b:bE):iO×Bool:=
 if t.kind=1 then
  if t.name=dY then
   if (aX t.iH MJ).1=DX then YW 5 (aX t.iH qB).1 [] b else YW 2 (aX t.iH qB).1 (aX t.iH fC).1 b
  else if t.name=Ie then YW 3 (aX t.iH Bz).1 (aX t.iH fC).1 b
  else if t.name=MI then YW 4 (aX t.iH qB).1 (aX t.iH fC).1 b
  else(OE,false)
 else(OE,false)
def oQ(l:List pV)(n:bE):(aX l n).1.length<=bU rR l:=by
 unfold aX;split
 .rename_i a h;have:=pN h;have:=dJ rR this;simp only[rR]at this⊢;omega
 .simp
def aC6(s b:bE):aW (addrOf s b)<=s.length+b.length:=by have:=vL 47 s;unfold addrOf;split<;>simp[aW]<;>omega
def MK(s b:bE):aW (dR s b).1<=s.length+b.length:=by
 have:=aC6 s b;unfold dR;split
 .exact this
 .simp [aW,yR]
def aH3(b:bE)(t:bM):Option iO:=if (XB t b).2=true then some (XB t b).1 else none
def M6(l:List bM)(b:bE):List iO:=l.filterMap (aH3 b)
@[simp] def aH4(b:bE):M6 [] b=[]:=rfl
def lL{α:Type}(f:α->Nat):∀a b:List α,bU f (a++b)=bU f a+bU f b
 |[],b=>by simp[bU]
 |x::xs,b=>by simp only[cW,bU,lL f xs b];omega
def aC9{a b:aR}:aS a=aS b↔a=b:=by obtain⟨a1,a2⟩:=a;obtain⟨b1,b2⟩:=b;simp
def vP(a b:aR):EqA prog 25 (aS a) (aS b) (decide (a=b)):=
 Ua (f:=6) (ss:=[.str,.str]) (by decide) (by kernel_rfl) (by kernel_rfl) (by kernel_rfl) (by kernel_rfl) (by simp[uV,Ga]) (by simp[uV,Ga]) (by rw[aC9,decide_eq_true_iff])
def mR(a:aR)(m:fO):Bool:=decide (m.to=a)
def BA[aG prog](p:aF)(a:aR)(hl:p.aL.length<=1099511627776):Ok prog 101 [.agg (aH .view p),.agg (aS a)] (.int .i64 (wR (mR a) p.aL)):=by
 refine dN aK func101 ntmps101 ?_;refine bK ?_;refine aT (ι:={k:Nat // k<=p.aL.length/\∀x∈p.aL.take k,mR a x=false}) (λt o i=>⟨bP t [(5,.int .i64 i.1)],o⟩)
  (λi=>p.aL.length-i.1) ⟨0,by simp⟩ aP ?_
 rintro⟨k,hk,hpre⟩ K1 hK1;simp only[bP,cH,cQ]at hK1⊢;have hk1:=tQ (k:=k);by_cases hlt:k<p.aL.length
 .have hg:=aE hlt;have W:=aA hk1 (aA hg hlt);have c0:=vP p.aL[k].to a;repeat' first|refine wf ?_|(refine sq ?_ ?_<;>intro hc<;>try exact hc.elim)|fail
  .all_goals try(refine bA ?_;simp[bB,results101])
   rw[Cb hlt (by simpa [mR]using hc) hpre]
  .exact hK1 _ ⟨k+1,by omega,fB hlt hpre (by simpa [mR]using hc)⟩ aP (by simp only;omega)
 .have W:=hk1;refine we ?_;all_goals try(refine bA ?_;simp[bB,results101])
  rw[wI (nS (by omega) hpre)]
def aDa[aG prog](m:fO)(a:aR):Ok prog 131 [.agg (gH m),.iW .view (aS a) 0] (.bool (mR a m)):=by
 refine dN aK func131 ntmps131 ?_;have c0:=vP m.to a;refine bK ?_;all_goals try(refine bA ?_;simp[bB,results131])
 rfl
def ni[aG prog](l:List fO)(a:aR)(hl:l.length<=1099511627776):Ok prog 130 [.sl .view 5 (l.map gH),.fn 131 [.iW .view (aS a) 0]] (.int .i64 (wR (mR a) l)):=by
 refine dN aK func130 ntmps130 ?_;refine bK ?_;refine aT (ι:={k:Nat // k<=l.length/\∀x∈l.take k,mR a x=false}) (λt o i=>⟨bP t [(8,.int .i64 i.1),(5,.aB)],o⟩)
  (λi=>l.length-i.1) ⟨0,by simp⟩ aP ?_
 rintro⟨k,hk,hpre⟩ K1 hK1;simp only[bP,cH,cQ]at hK1⊢;have hk1:=tQ (k:=k);by_cases hlt:k<l.length
 .have hg:=aE hlt;have W:=aA hk1 (aA hg hlt);have c0:=aDa l[k] a;repeat' first|refine wf ?_|(refine sq ?_ ?_<;>intro hc<;>try exact hc.elim)|fail
  .all_goals try(refine bA ?_;simp[bB,results130])
   rw[Cb hlt (by simpa using hc) hpre]
  .exact hK1 _ ⟨k+1,by omega,fB hlt hpre (by simpa using hc)⟩ aP (by simp only;omega)
 .have W:=hk1;refine we ?_;all_goals try(refine bA ?_;simp[bB,results130])
  rw[wI (nS (by omega) hpre)]
def kR(a x:aR):Bool:=decide (x=a)
def CW[aG prog](l:List aR)(a:aR)(hl:l.length<=1099511627776):Ok prog 122 [.sl .view 2 (l.map aS),.agg (aS a)] (.bool (l.any (kR a))):=by
 refine dN aK func122 ntmps122 ?_;refine bK ?_;refine aT (ι:={k:Nat // k<=l.length/\∀x∈l.take k,kR a x=false}) (λt o i=>⟨bP t [(5,.int .i64 i.1)],o⟩)
  (λi=>l.length-i.1) ⟨0,by simp,by simp⟩ aP ?_
 rintro⟨k,hk,hi⟩ K1 hK1;simp only[bP,cH,cQ]at hK1⊢;have hk1:=tQ (k:=k);by_cases hlt:k<l.length
 .have hg:=aE hlt;have W:=aA hk1 (aA hg hlt);have c0:=vP l[k] a;repeat' first|refine wf ?_|(refine sq ?_ ?_<;>intro hc<;>try exact hc.elim)|fail
  .all_goals try(refine bA ?_;simp[bB,results122])
   refine⟨_,gR hlt,by simpa [kR]using hc⟩
  .exact hK1 _ ⟨k+1,by omega,fB hlt hi (by simpa [kR]using hc)⟩ (aQ 1) (by simp only;omega)
 .have W:=hk1;refine we ?_;all_goals try(refine bA ?_;simp[bB,results122])
  have:=nS (by omega) hi;simpa using this
def YZ[aG prog](l:List aR)(a:aR)(hl:l.length<=1099511627776):Ok prog 188 [.sl .view 2 (l.map aS),.agg (aS a)] (.int .i64 (wR (kR a) l)):=by
 refine dN aK func188 ntmps188 ?_;refine bK ?_;refine aT (ι:={k:Nat // k<=l.length/\∀x∈l.take k,kR a x=false}) (λt o i=>⟨bP t [(8,.int .i64 i.1),(5,.aB)],o⟩)
  (λi=>l.length-i.1) ⟨0,by simp,by simp⟩ aP ?_
 rintro⟨k,hk,hi⟩ K1 hK1;simp only[bP,cH,cQ]at hK1⊢;have hk1:=tQ (k:=k);by_cases hlt:k<l.length
 .have hg:=aE hlt;have hq:EqA prog 25 (aS a) (aS l[k]) (decide (a=l[k])):=vP a l[k];have W:=aA hk1 (aA hg hlt);have c0:=hq;repeat' first|refine wf ?_|(refine sq ?_ ?_<;>intro hc<;>try exact hc.elim)|fail
  .all_goals try(refine bA ?_;simp[bB,results188])
   rw[Cb hlt (by simp[kR];exact hc.symm) hi]
  .exact hK1 _ ⟨k+1,by omega,fB hlt hi (by simp[kR];intro h;exact hc h.symm)⟩ (aQ 1) (by simp only;omega)
 .have W:=hk1;refine we ?_;all_goals try(refine bA ?_;simp[bB,results188])
  rw[wI (nS (by omega) hi)]
def BK[aG prog](l:List aR)(a:aR)(hl:l.length<=1099511627776):Ok prog 133 [.sl .view 2 (l.map aS),.agg (aS a)] (.bool (l.any (kR a))):=by
 have c1:=YZ l a hl;simp only[aS]at c1;refine dN aK func133 ntmps133 ?_;refine bK ?_;all_goals try(refine bA ?_;simp[bB,results133])
 exact Hz _ _
def Ub[aG prog](l:List aR)(a:aR)(hl:l.length<=1099511627776):Ok prog 82 [.sl .view 2 (l.map aS),.agg (aS a)] (.bool (l.any (kR a))):=by have c1:=BK l a hl;simp only[aS]at c1;refine dN aK func82 ntmps82 ?_;refine bK ?_;exact aO results82
def dO{α:Type}(f:α->Bool):Nat->List α->List Int
 |_,[]=>[]
 |i,x::xs=>if f x then(i:Int)::dO f (i+1) xs else dO f (i+1) xs
def Qc{α:Type}(f:α->Bool)(x:α):∀(l:List α) (i:Nat),dO f i (l++[x])=dO f i l++(if f x then [((i+l.length:Nat):Int)]else [])
 |[],i=>by simp only[eA,dO];cases f x<;>simp
 |y::ys,i=>by
  simp only[cW,dO];rw[Qc f x ys (i+1)];have:i+1+ys.length=i+(y::ys).length:=by simp;omega
  rw[this];cases f y<;>simp
def zI{α:Type}(f:α->Bool)(l:List α)(k:Nat)(h:k<l.length):dO f 0 (l.take (k+1))=dO f 0 (l.take k)++(if f l[k]then [(k:Int)]else []):=by
 rw[fN h,Qc];have:(l.take k).length=k:=by simp;omega
 rw[this,lR]
def jT{α:Type}(f:α->Bool):∀(l:List α) (i:Nat),(dO f i l).length<=l.length
 |[],_=>by simp[dO]
 |x::xs,i=>by simp only[dO];have:=jT f xs (i+1);cases f x<;>simp<;>omega
def sZ(s:qF):Bool:= !s.done
def tC(s:fO):Bool:= !s.done
def jY(s:qF):Bool:=s.nI == 4
def EX[aG prog](p:aF)(hl:p.aD.length<=16777216):Ok prog 72 [.agg (aH .view p)] (.sl .own 1 ((dO sZ 0 p.aD).map nM)):=by
 refine dN aK func72 ntmps72 ?_;refine bZ ?_;refine aT (ι:={q:Nat×Nat // q.1<=p.aD.length/\1<=q.2}) (λt o i=>⟨bP t [(3,.obj 1 i.1.2),(4,.int .i64 i.1.1)],o.take 1++[⟨true,false,1,i.1.2,(dO sZ 0 (p.aD.take i.1.1)).map nM⟩]⟩)
  (λi=>p.aD.length-i.1.1) ⟨(0,1),by simp,by simp⟩ (aP (by simp[dO]) (by simp)) ?_
 rintro⟨⟨k,v⟩,hk,hv⟩ K1 hK1;simp only at hk hv;simp only[bP,cH,cQ,eV,gS,cW,eA]at hK1⊢;have hk1:=tQ (k:=k);by_cases hlt:k<p.aD.length
 .have hg:=aE hlt;have hps:=zI sZ p.aD k hlt;have hpl:=jT sZ (p.aD.take k) 0;have htl:(p.aD.take k).length=k:=by simp;omega
  have hb1:((dO sZ 0 (p.aD.take k)).length+1)*8<=140737488355328:=by omega
  have hb2:(dO sZ 0 (p.aD.take k)).length+1<=9223372036854775807:=by omega
  have hb3:(dO sZ 0 (p.aD.take k)).length<=9223372036854775806:=by omega
  have W:=aA hk1 (aA hg (aA hlt (aA hb1 (aA hb2 hb3))));repeat' first|refine wg ?_|(refine sq ?_ ?_<;>intro hc<;>try exact hc.elim)|fail
  .refine hK1 _ ⟨(k+1,v+1),by simp only;omega,by simp only;omega⟩ (aQ 2 (by simp[hps,sZ,hc])) (by simp only;omega)
  .refine hK1 _ ⟨(k+1,v),by simp only;omega,hv⟩ (aQ 2 (by simp[hps,sZ,hc])) (by simp only;omega)
 .have htk:p.aD.take k=p.aD:=eN (by omega);rw[htk];have W:=hk1;refine wl ?_;exact aO results72
def EY[aG prog](p:aF)(hl:p.aD.length<=16777216):Ok prog 31 [.agg (aH .view p)] (.sl .own 1 ((dO sZ 0 p.aD).map nM)):=by
 refine dN aK func31 ntmps31 ?_;refine bZ ?_;refine aT (ι:={q:Nat×Nat // q.1<=p.aD.length/\1<=q.2}) (λt o i=>⟨bP t [(3,.obj 1 i.1.2),(10,.int .i64 i.1.1)],o.take 1++[⟨true,false,1,i.1.2,(dO sZ 0 (p.aD.take i.1.1)).map nM⟩]⟩)
  (λi=>p.aD.length-i.1.1) ⟨(0,1),by simp,by simp⟩ (aP (by simp[dO]) (by simp)) ?_
 rintro⟨⟨k,v⟩,hk,hv⟩ K1 hK1;simp only at hk hv;simp only[bP,cH,cQ,eV,gS,cW,eA]at hK1⊢;have hk1:=tQ (k:=k);by_cases hlt:k<p.aD.length
 .have hg:=aE hlt;have hps:=zI sZ p.aD k hlt;have hpl:=jT sZ (p.aD.take k) 0;have htl:(p.aD.take k).length=k:=by simp;omega
  have hb1:((dO sZ 0 (p.aD.take k)).length+1)*8<=140737488355328:=by omega
  have hb2:(dO sZ 0 (p.aD.take k)).length+1<=9223372036854775807:=by omega
  have hb3:(dO sZ 0 (p.aD.take k)).length<=9223372036854775806:=by omega
  have W:=aA hk1 (aA hg (aA hlt (aA hb1 (aA hb2 hb3))));repeat' first|refine wg ?_|(refine sq ?_ ?_<;>intro hc<;>try exact hc.elim)|fail
  .refine hK1 _ ⟨(k+1,v+1),by simp only;omega,by simp only;omega⟩ (aQ 2 (by simp[hps,sZ,hc])) (by simp only;omega)
  .refine hK1 _ ⟨(k+1,v),by simp only;omega,hv⟩ (aQ 2 (by simp[hps,sZ,hc])) (by simp only;omega)
 .have htk:p.aD.take k=p.aD:=eN (by omega);rw[htk];have W:=hk1;refine wl ?_;exact aO results31
def GG[aG prog](p:aF)(hl:p.aL.length<=16777216):Ok prog 73 [.agg (aH .view p)] (.sl .own 1 ((dO tC 0 p.aL).map nM)):=by
 refine dN aK func73 ntmps73 ?_;refine bZ ?_;refine aT (ι:={q:Nat×Nat // q.1<=p.aL.length/\1<=q.2}) (λt o i=>⟨bP t [(3,.obj 1 i.1.2),(4,.int .i64 i.1.1)],o.take 1++[⟨true,false,1,i.1.2,(dO tC 0 (p.aL.take i.1.1)).map nM⟩]⟩)
  (λi=>p.aL.length-i.1.1) ⟨(0,1),by simp,by simp⟩ (aP (by simp[dO]) (by simp)) ?_
 rintro⟨⟨k,v⟩,hk,hv⟩ K1 hK1;simp only at hk hv;simp only[bP,cH,cQ,eV,gS,cW,eA]at hK1⊢;have hk1:=tQ (k:=k);by_cases hlt:k<p.aL.length
 .have hg:=aE hlt;have hps:=zI tC p.aL k hlt;have hpl:=jT tC (p.aL.take k) 0;have htl:(p.aL.take k).length=k:=by simp;omega
  have hb1:((dO tC 0 (p.aL.take k)).length+1)*8<=140737488355328:=by omega
  have hb2:(dO tC 0 (p.aL.take k)).length+1<=9223372036854775807:=by omega
  have hb3:(dO tC 0 (p.aL.take k)).length<=9223372036854775806:=by omega
  have W:=aA hk1 (aA hg (aA hlt (aA hb1 (aA hb2 hb3))));repeat' first|refine wg ?_|(refine sq ?_ ?_<;>intro hc<;>try exact hc.elim)|fail
  .refine hK1 _ ⟨(k+1,v+1),by simp only;omega,by simp only;omega⟩ (aQ 2 (by simp[hps,tC,hc])) (by simp only;omega)
  .refine hK1 _ ⟨(k+1,v),by simp only;omega,hv⟩ (aQ 2 (by simp[hps,tC,hc])) (by simp only;omega)
 .have htk:p.aL.take k=p.aL:=eN (by omega);rw[htk];have W:=hk1;refine wl ?_;exact aO results73
def GH[aG prog](p:aF)(hl:p.aL.length<=16777216):Ok prog 33 [.agg (aH .view p)] (.sl .own 1 ((dO tC 0 p.aL).map nM)):=by
 refine dN aK func33 ntmps33 ?_;refine bZ ?_;refine aT (ι:={q:Nat×Nat // q.1<=p.aL.length/\1<=q.2}) (λt o i=>⟨bP t [(3,.obj 1 i.1.2),(10,.int .i64 i.1.1)],o.take 1++[⟨true,false,1,i.1.2,(dO tC 0 (p.aL.take i.1.1)).map nM⟩]⟩)
  (λi=>p.aL.length-i.1.1) ⟨(0,1),by simp,by simp⟩ (aP (by simp[dO]) (by simp)) ?_
 rintro⟨⟨k,v⟩,hk,hv⟩ K1 hK1;simp only at hk hv;simp only[bP,cH,cQ,eV,gS,cW,eA]at hK1⊢;have hk1:=tQ (k:=k);by_cases hlt:k<p.aL.length
 .have hg:=aE hlt;have hps:=zI tC p.aL k hlt;have hpl:=jT tC (p.aL.take k) 0;have htl:(p.aL.take k).length=k:=by simp;omega
  have hb1:((dO tC 0 (p.aL.take k)).length+1)*8<=140737488355328:=by omega
  have hb2:(dO tC 0 (p.aL.take k)).length+1<=9223372036854775807:=by omega
  have hb3:(dO tC 0 (p.aL.take k)).length<=9223372036854775806:=by omega
  have W:=aA hk1 (aA hg (aA hlt (aA hb1 (aA hb2 hb3))));repeat' first|refine wg ?_|(refine sq ?_ ?_<;>intro hc<;>try exact hc.elim)|fail
  .refine hK1 _ ⟨(k+1,v+1),by simp only;omega,by simp only;omega⟩ (aQ 2 (by simp[hps,tC,hc])) (by simp only;omega)
  .refine hK1 _ ⟨(k+1,v),by simp only;omega,hv⟩ (aQ 2 (by simp[hps,tC,hc])) (by simp only;omega)
 .have htk:p.aL.take k=p.aL:=eN (by omega);rw[htk];have W:=hk1;refine wl ?_;exact aO results33
def Ik[aG prog](p:aF)(hl:p.aD.length<=16777216):Ok prog 69 [.agg (aH .view p)] (.sl .own 1 ((dO jY 0 p.aD).map nM)):=by
 refine dN aK func69 ntmps69 ?_;refine bZ ?_;refine aT (ι:={q:Nat×Nat // q.1<=p.aD.length/\1<=q.2}) (λt o i=>⟨bP t [(3,.obj 1 i.1.2),(4,.int .i64 i.1.1)],o.take 1++[⟨true,false,1,i.1.2,(dO jY 0 (p.aD.take i.1.1)).map nM⟩]⟩)
  (λi=>p.aD.length-i.1.1) ⟨(0,1),by simp,by simp⟩ (aP (by simp[dO]) (by simp)) ?_
 rintro⟨⟨k,v⟩,hk,hv⟩ K1 hK1;simp only at hk hv;simp only[bP,cH,cQ,eV,gS,cW,eA]at hK1⊢;have hk1:=tQ (k:=k);by_cases hlt:k<p.aD.length
 .have hg:=aE hlt;have hps:=zI jY p.aD k hlt;have hpl:=jT jY (p.aD.take k) 0;have htl:(p.aD.take k).length=k:=by simp;omega
  have hb1:((dO jY 0 (p.aD.take k)).length+1)*8<=140737488355328:=by omega
  have hb2:(dO jY 0 (p.aD.take k)).length+1<=9223372036854775807:=by omega
  have hb3:(dO jY 0 (p.aD.take k)).length<=9223372036854775806:=by omega
  have W:=aA hk1 (aA hg (aA hlt (aA hb1 (aA hb2 hb3))));repeat' first|refine wg ?_|(refine sq ?_ ?_<;>intro hc<;>try exact hc.elim)|fail
  .refine hK1 _ ⟨(k+1,v+1),by simp only;omega,by simp only;omega⟩ (aQ 2 (by simp[hps,jY,hc])) (by simp only;omega)
  .refine hK1 _ ⟨(k+1,v),by simp only;omega,hv⟩ (aQ 2 (by simp[hps,jY,hc])) (by simp only;omega)
 .have htk:p.aD.take k=p.aD:=eN (by omega);rw[htk];have W:=hk1;refine wl ?_;exact aO results69
def BB[aG prog](p:aF)(hl:p.aD.length<=16777216):Ok prog 11 [.agg (aH .view p)] (.sl .own 1 ((dO jY 0 p.aD).map nM)):=by
 refine dN aK func11 ntmps11 ?_;refine bZ ?_;refine aT (ι:={q:Nat×Nat // q.1<=p.aD.length/\1<=q.2}) (λt o i=>⟨bP t [(3,.obj 1 i.1.2),(10,.int .i64 i.1.1)],o.take 1++[⟨true,false,1,i.1.2,(dO jY 0 (p.aD.take i.1.1)).map nM⟩]⟩)
  (λi=>p.aD.length-i.1.1) ⟨(0,1),by simp,by simp⟩ (aP (by simp[dO]) (by simp)) ?_
 rintro⟨⟨k,v⟩,hk,hv⟩ K1 hK1;simp only at hk hv;simp only[bP,cH,cQ,eV,gS,cW,eA]at hK1⊢;have hk1:=tQ (k:=k);by_cases hlt:k<p.aD.length
 .have hg:=aE hlt;have hps:=zI jY p.aD k hlt;have hpl:=jT jY (p.aD.take k) 0;have htl:(p.aD.take k).length=k:=by simp;omega
  have hb1:((dO jY 0 (p.aD.take k)).length+1)*8<=140737488355328:=by omega
  have hb2:(dO jY 0 (p.aD.take k)).length+1<=9223372036854775807:=by omega
  have hb3:(dO jY 0 (p.aD.take k)).length<=9223372036854775806:=by omega
  have W:=aA hk1 (aA hg (aA hlt (aA hb1 (aA hb2 hb3))));repeat' first|refine wg ?_|(refine sq ?_ ?_<;>intro hc<;>try exact hc.elim)|fail
  .refine hK1 _ ⟨(k+1,v+1),by simp only;omega,by simp only;omega⟩ (aQ 2 (by simp[hps,jY,hc])) (by simp only;omega)
  .refine hK1 _ ⟨(k+1,v),by simp only;omega,hv⟩ (aQ 2 (by simp[hps,jY,hc])) (by simp only;omega)
 .have htk:p.aD.take k=p.aD:=eN (by omega);rw[htk];have W:=hk1;refine wl ?_;exact aO results11
def CX{α:Type}(f:α->Bool):∀(l:List α) (j:Nat) (i:Int),i∈dO f j l->(j:Int)<=i/\i<j+l.length
 |[],j,i,h=>by simp[dO]at h
 |x::xs,j,i,h=>by
  simp only[dO]at h;have ih:=CX f xs (j+1) i;simp only[eL];split at h
  .rcases mC.1 h with rfl|h
   .omega
   .have:=ih h;omega
  .have:=ih h;omega
def iI(m:Int):Int:=if m=1 then 4 else if m=2 then 3 else if m=3 then 2 else if m=4 then 2 else 0
def DZ[aG prog](m:Int):Ok prog 143 [.int .i64 m] (.int .i64 (iI m)):=by
 refine dN aK func143 ntmps143 ?_;have W:=trivial;repeat' first|refine wg ?_|(refine sq ?_ ?_<;>intro hc<;>try exact hc.elim)|fail
 all_goals try(refine bA ?_;simp[bB,results143,iI])
 all_goals simp_all[iI]
def Ea[aG prog](m:Int):Ok prog 75 [.int .i64 m] (.int .i64 (iI m)):=by
 refine dN aK func75 ntmps75 ?_;have W:=trivial;repeat' first|refine wg ?_|(refine sq ?_ ?_<;>intro hc<;>try exact hc.elim)|fail
 all_goals try(refine bA ?_;simp[bB,results75,iI])
 all_goals simp_all[iI]
def aBh:iO:=⟨0,⟨[],[]⟩,[],[]⟩
def iG(p:aF)(s:qF):iO:=⟨iI s.nI,s.to,p.gZ.bN,s.eZ⟩
def gV(p:aF)(m:fO):iO:=⟨5,m.to,p.gZ.bN,[]⟩
def lK(p:aF)(i:Int):iO:=match p.aD[i.toNat]? with
 |some s=>iG p s
 |none=>aBh
def qY(p:aF)(i:Int):iO:=match p.aL[i.toNat]? with
 |some s=>gV p s
 |none=>aBh
def BU{α:Type}{l:List α}{i:Int}(h0:0<=i)(h1:i<l.length):∃s,l[i.toNat]? =some s:=⟨l[i.toNat]'(by omega),aE _⟩
def at_eq{α:Type}{l:List α}{k:Nat}{s:α}(h:k<l.length)(hg:l[k]? =some s):l[k]=s:=by rw[aE h]at hg;exact cX hg
def yU[aG prog](p:aF)(i:Int)(h0:0<=i)(h1:i<p.aD.length)(hl:p.aD.length<=1099511627776):Ok prog 90 [.agg (aH .view p),.int .i64 i] (.agg (eG (lK p i))):=by
 obtain⟨s,hg⟩:=BU h0 h1;have e:lK p i=iG p s:=by simp[lK,hg]
 rw[e];obtain rfl:p.aD[i.toNat]'(by omega)=s:=at_eq (by omega) hg;have c1:=jG i 0 (p.aD.length-1);rw[show(decide (0<=i)&&decide (i<=(p.aD.length:Int)-1))=true by simp;omega]at c1;have c2:=DZ (p.aD[i.toNat]'(by omega)).nI;refine dN aK func90 ntmps90 ?_;have W:=aA hg (aA h0 h1);refine wl ?_;all_goals try(refine bA ?_;simp[bB,results90,iG])
def yV[aG prog](p:aF)(i:Int)(h0:0<=i)(h1:i<p.aD.length)(hl:p.aD.length<=1099511627776):Ok prog 32 [.agg (aH .view p),.int .i64 i] (.agg (eG (lK p i))):=by
 obtain⟨s,hg⟩:=BU h0 h1;have e:lK p i=iG p s:=by simp[lK,hg]
 rw[e];obtain rfl:p.aD[i.toNat]'(by omega)=s:=at_eq (by omega) hg;have c2:=Ea (p.aD[i.toNat]'(by omega)).nI;have n0:¬i<0:=by omega
 have n1:¬(p.aD.length:Int)<=i:=by omega
 refine dN aK func32 ntmps32 ?_;have W:=aA hg (aA h0 (aA h1 (aA n0 n1)));refine wl ?_;all_goals try(refine bA ?_;simp[bB,results32,iG])
def Eb[aG prog](p:aF)(i:Int)(h0:0<=i)(h1:i<p.aL.length)(hl:p.aL.length<=1099511627776):Ok prog 91 [.agg (aH .view p),.int .i64 i] (.agg (eG (qY p i))):=by
 obtain⟨s,hg⟩:=BU h0 h1;have e:qY p i=gV p s:=by simp[qY,hg]
 rw[e];obtain rfl:p.aL[i.toNat]'(by omega)=s:=at_eq (by omega) hg;have c1:=jG i 0 (p.aL.length-1);rw[show(decide (0<=i)&&decide (i<=(p.aL.length:Int)-1))=true by simp;omega]at c1;refine dN aK func91 ntmps91 ?_;have W:=aA hg (aA h0 h1);refine wl ?_;all_goals try(refine bA ?_;simp[bB,results91,gV])
def wN[aG prog](p:aF)(i:Int)(h0:0<=i)(h1:i<p.aL.length)(hl:p.aL.length<=1099511627776):Ok prog 34 [.agg (aH .view p),.int .i64 i] (.agg (eG (qY p i))):=by
 obtain⟨s,hg⟩:=BU h0 h1;have e:qY p i=gV p s:=by simp[qY,hg]
 rw[e];obtain rfl:p.aL[i.toNat]'(by omega)=s:=at_eq (by omega) hg;have n0:¬i<0:=by omega
 have n1:¬(p.aL.length:Int)<=i:=by omega
 refine dN aK func34 ntmps34 ?_;have W:=aA hg (aA h0 (aA h1 (aA n0 n1)));refine wl ?_;all_goals try(refine bA ?_;simp[bB,results34,gV])
def Ec(n:bE):Bool:=decide (n=[105,109,103]) || decide (n=[108,105,110,107])
def xB(b:bC)(m:bE)(n:Int):Bool:=decide (0<=n)&&(b.aJ[n.toNat]?).any λx=>decide (x.name=m)
def oZ(b:bC)(m:bE):Nat->List Int
 |0=>b.bD
 |i+1=>if (b.bD[i+1]?).any (xB b m)then b.bD.take (i+1)else oZ b m i
def mU(t:bM):Bool:=decide (t.kind=1)&& !Ec t.name
def nY(b:bC)(t:bM):kG:=if t.kind=1 then⟨t.name,[],b.bD.getLastD 0,t.iH⟩else⟨[],t.text,b.bD.getLastD 0,[]⟩
def cZ(b:bC)(t:bM):bC×Int:=
 if t.kind=2 then({b with bD:=oZ b t.name (b.bD.length-1)}, -1)
 else if¬(t.kind=1\/(t.kind=3/\t.text≠[]))then(b, -1)
 else if 40<=b.aJ.length\/b.bD=[]\/(mU t=true/\8<=b.bD.length)then(b, -1)
 else({aJ:=b.aJ++[nY b t],bD:=if mU t=true then b.bD++[((b.aJ.length:Nat):Int)]else b.bD},((b.aJ.length:Nat):Int))
def Qe(b:bC)(m:bE):∀k,(oZ b m k).length<=b.bD.length
 |0=>eJ _
 |k+1=>by
  unfold oZ;split
  .simp;omega
  .exact Qe b m k
def VX[aG prog](n:bE):Ok prog 158 [.str n] (.bool (Ec n)):=by
 unfold Ec;refine dN aK func158 ntmps158 ?_;have W:=trivial;repeat' first|refine wf ?_|(refine sq ?_ ?_<;>intro hc<;>try exact hc.elim)|fail
 all_goals try(refine bA ?_;simp[bB,results158])
 all_goals first|(simp[hc];done)|(rw[Hi];simp[hc])
def VY[aG prog](n:bE):Ok prog 170 [.str n] (.bool (Ec n)):=by
 unfold Ec;refine dN aK func170 ntmps170 ?_;have W:=trivial;repeat' first|refine wf ?_|(refine sq ?_ ?_<;>intro hc<;>try exact hc.elim)|fail
 all_goals try(refine bA ?_;simp[bB,results170])
 all_goals first|(simp[hc];done)|(rw[Hi];simp[hc])
def nk{b:bC}{m:bE}{n:Int}(h:¬(0<=n/\n<(b.aJ.length:Int))):xB b m n=false:=by
 unfold xB;by_cases h0:0<=n
 .rw [pT (by omega)];simp
 .simp [h0]
def RN{b:bC}{m:bE}{k:Nat}(h:k<b.aJ.length):xB b m ((k:Nat):Int)=decide (b.aJ[k].name=m):=by unfold xB;simp[aE h]
set_option maxRecDepth 100000
def aDc[aG prog](l:List fO)(m:fO)(i:Nat)(hi:i<l.length)(hn:l.length<=1099511627776):Ob prog 152 [.rF (.sl .own 5 (l.map gH)),.view (.int .i64 i),.rF (.sl .own 5 [gH m])] (.sl .own 5 ((l.take i++m::l.drop i).map gH)):=by
 have h:=aL8 (P:=prog) (f:=152) (n:=l.length) (i:=i) (k:=5) (l:=l.map gH) (x:=gH m) (by simp) hi (by simp[all_map,Gu]) (by simp[Gu])
  (λw b off c C e fz olds eO vb voff vc Cv ev ZK hb hz hc hol h1o hfit hnc hmax jE hvb hzv hcv hnl QO=>by
   by_cases hr:l.length+1<=c
   .exact Zb w b off l.length c i vb voff vc C Cv e ev fz ZK olds eO hi hr hb hz hc hol h1o hfit hmax jE hvb hzv hcv hnl QO
   .exact ny w b off l.length c i vb voff vc C Cv e ev fz ZK olds eO hi (by omega) hn hb hz hc hol h1o hfit hnc hmax jE hvb hzv hcv hnl QO)
 rw[<-map_take,<-map_drop,rL]at h;simpa using h
def O5[aG prog](l:List fO)(m:fO)(hn:l.length<=1099511627776):Ob prog 152 [.rF (.sl .own 5 (l.map gH)),.view (.int .i64 l.length),.rF (.sl .own 5 [gH m])] (.sl .own 5 ((l++[m]).map gH)):=by
 have h:=je (P:=prog) (f:=152) (n:=l.length) (k:=5) (l:=l.map gH) (x:=gH m) (by simp) (by simp[all_map,Gu]) (by simp[Gu])
  (λw base bb c olds eO vb voff vc hol hnc hmax hcv hnl QO hor=>by
   obtain⟨inf,KI,hq⟩:=xF.1 (show(prog.info? 67).map (λi=>(i.size,i.bytes))=some (5,64)by kernel_rfl);obtain⟨hsz,hby⟩:=Prod.mk.inj hq;obtain⟨z,hz0,hzc⟩:=Bp Tryz.zsz67 KI;have aIc:c<=9223372036854775807:=hmax;have holds:∀w',w'.heap=w.heap->(Builtin.firstCells inf.size l.length (.slice base l.length c)).run prog w'= .ok olds.toArray w':=by
    intro w' hw';rcases hor with⟨h0,h1⟩|⟨off,C,e,fz,rfl,hb,hz,hc,hfit⟩
    .rw [h0]at hol⊢;obtain rfl:=gO (by simpa using hol);cases base with
     |none=>simp[Builtin.firstCells]
     |some a'=>simp[Builtin.firstCells,loadCells,loadCellsFrom]
    .rw [hsz];exact nD hol (hc.heap hw')
   obtain⟨hroom,aEy⟩:=Kk (P:=prog) (w:=w) (tS:=37) (xT:=37) (ty:=37) Tryz.underlying37 ⟨_,Tryz.underlying37,λk h=>by cases h⟩ KI hz0 (base:=base) (sLen:=l.length) (sCap:=c) (n:=1) (x:= .slice (some ⟨vb,voff,none⟩) 1 vc)
    (by simp[Builtin.lenOf]) (eO:=eO) (olds:=olds) (λw' hw'=>by rw[hsz];exact nD (by omega) (hcv.heap hw')) holds (by rw[hby];omega) (by omega)
   by_cases hr:l.length+1<=c
   .rcases hor with⟨h0,h1⟩|⟨off,C,e,fz,rfl,hb,hz,hc,hfit⟩
    .omega
    .have hst:=vW (P:=prog) (off:=off+l.length*5) hb hz (by rw[hnl];have:=mB 5 hr;omega) QO;have hrun:=hroom hr _ (by rw[hsz];simpa [addr_add]using hst);obtain⟨C',hI⟩:=YI (k:=5) hb hz hc hol hnl hr hfit hmax;exact JX w _ l.length c vb voff vc _ _ _ hnc aIc (λh=>by cases h) (λty=>hrun) ⟨_,_,_,_,_,_,_,rfl,hI⟩
   .have hrun:=aEy (by omega);have hgc:=grownCap_ge w (l.length+1) c 67;have hgm:grownCap w (l.length+1) c 67<=maxLen:=Ft _ _ _ _ (by simp[maxLen];omega);obtain⟨C',hI⟩:=YJ (w:=w) (b:=bb) (n:=l.length) (k:=5) (cap:=grownCap w (l.length+1) c 67) (e:=67) (olds:=olds) (eO:=eO) (ROW:=olds.toArray++eO.toArray++Builtin.zeroCells z.cells (grownCap w (l.length+1) c 67-(l.length+1)))
     (λj v hv=>by
      rw[show olds.toArray++eO.toArray=(olds++eO).toArray by simp,wA (by simpa using(cU.1 hv).1)];simpa using hv)
     (by simp only[Array.size_append,size_toArray,size_zeroCells,hzc,hol,hnl];omega) hgc hgm
    exact JX w _ l.length c vb voff vc _ _ _ hnc aIc (λh=>by
     subst h;rcases hor with⟨h0,h1⟩|⟨off,C,e,fz,h,_⟩
     .exact h0
     .cases h) (λty=>hrun) ⟨_,_,_,_,_,_,_,rfl,hI⟩)
 simpa using h
def XF[aG prog](l:List fO)(m:fO)(i:Nat)(hi:i<=l.length)(hn:l.length<=1099511627776):Ob prog 152 [.rF (.sl .own 5 (l.map gH)),.view (.int .i64 i),.rF (.sl .own 5 [gH m])] (.sl .own 5 ((l.take i++m::l.drop i).map gH)):=by
 by_cases h:i<l.length
 .exact aDc l m i h hn
 .obtain rfl:i=l.length:=by omega
  simpa using O5 l m hn
end Go.Proofs.YtanobkmhbpjnpaaGreatDoor
set_option maxRecDepth 8000
set_option maxHeartbeats 8000000
namespace Go.Proofs.YtanobkmhbpjnpaaGreatDoor
open Go.Aw Proofs.Tryz List IntKind
def Zc[aG prog](s t:bE):OkN prog 269 [.str s,.str t] (.int .i64 (Lib.compareBytes s t)):=
 nz (fn:=f269) (by kernel_rfl) (by decide+kernel) rfl (by decide+kernel) (by rfl) s t
def OI[aG prog](s t:bE):Ok prog 249 [.str s,.str t] (.int .i64 (Lib.compareBytes s t)):=by refine dN aK func249 ntmps249 ?_;have c0:=Zc s t;refine bK ?_;exact aO results249
def Ed[aG prog](s t:bE):Ok prog 208 [.str s,.str t] (.int .i64 (Lib.compareBytes s t)):=by refine dN aK func208 ntmps208 ?_;have c0:=OI s t;refine bK ?_;exact aO results208
def wO(a b:aR):Int:=if Lib.compareBytes a.bN b.bN≠0 then Lib.compareBytes a.bN b.bN else Lib.compareBytes a.iD b.iD
def Jy[aG prog](a b:aR):Ok prog 151 [.agg (aS a),.agg (aS b)] (.int .i64 (wO a b)):=by
 have c1:=Ed a.bN b.bN;have c2:=Ed a.iD b.iD;unfold wO;generalize Lib.compareBytes a.bN b.bN=x at*;generalize Lib.compareBytes a.iD b.iD=y at*;by_cases hx:x=0
 .refine dN aK func151 ntmps151 ?_;have W:=hx;refine we ?_;all_goals try(refine bA ?_;simp[bB,results151,hx])
 .refine dN aK func151 ntmps151 ?_;have W:=hx;refine we ?_;all_goals try(refine bA ?_;simp[bB,results151,hx])
def Ez:∀l:List UInt8,Op.bytesLess l l=false
 |[]=>rfl
 |x::l=>by simp[Op.bytesLess,Ez l,UInt8.lt_irrefl]
def oh(a b:aR):wO a b=if a=b then 0 else if (Op.bytesLess a.bN b.bN || (a.bN == b.bN&&Op.bytesLess a.iD b.iD))=true then -1 else 1:=by
 unfold wO;obtain⟨h1,p1⟩:=a;obtain⟨h2,p2⟩:=b;simp only[aBk,aR.mk.injEq];by_cases e1:h1=h2
 .subst e1;by_cases e2:p1=p2
  .simp [e2]
  .have:=Ez h1;simp[e2,this]
 .cases hb:Op.bytesLess h1 h2<;>simp[e1,hb]
def Jz[aG prog](a b:aR):Ok prog 157 [.agg (aS a),.agg (aS b)] (.int .i64 (wO a b)):=by
 rw[oh];have c1:=vP a b;by_cases he:a=b
 .subst he;simp only[aS,Dg]at c1;refine dN aK func157 ntmps157 ?_;have c0:=c1;refine bK ?_;exact aO results157
 .simp only[aS,he,decide_false]at c1;simp only[he,eW];cases h1:Op.bytesLess a.bN b.bN
  .by_cases h2:a.bN=b.bN
   .rw [h2]at c1;have h0:=Ez b.bN;cases h3:Op.bytesLess a.iD b.iD
    .refine dN aK func157 ntmps157 ?_;have W:=aA h0 (aA h1 (aA h2 h3));have c0:=c1;refine we ?_;all_goals try(refine bA ?_;simp[bB,results157,h0,h1,h2,h3])
    .refine dN aK func157 ntmps157 ?_;have W:=aA h0 (aA h1 (aA h2 h3));have c0:=c1;refine we ?_;all_goals try(refine bA ?_;simp[bB,results157,h0,h1,h2,h3])
   .refine dN aK func157 ntmps157 ?_;have W:=aA h1 h2;have c0:=c1;refine we ?_;all_goals try(refine bA ?_;simp[bB,results157,h1,h2])
  .refine dN aK func157 ntmps157 ?_;have W:=h1;have c0:=c1;refine we ?_;all_goals try(refine bA ?_;simp[bB,results157,h1])
def yJ(l:List fO)(a:aR):Nat:=(l.takeWhile λm=>decide (wO m.to a<0)).length
def Ip{a:aR}:∀{l:List fO} {k:Nat},k<=l.length->(∀x∈l.take k,wO x.to a<0)->(∀m,l[k]? =some m->¬wO m.to a<0)->yJ l a=k
 |[],k,h,_,_=>by simp at h;subst h;rfl
 |m::l,0,_,_,h=>by simp[yJ,h m rfl]
 |m::l,k+1,h0,h1,h2=>by have ih:=Ip (a:=a) (l:=l) (k:=k) (by simpa using h0) (λx hx=>h1 x (by simp[hx])) (λm hm=>h2 m (by simpa using hm));have:=h1 m (by simp);simp only[yJ,takeWhile_cons,tI this,eL]at ih⊢;simpa using ih
def CZ(p:aF)(a:aR):fO:=if iF p.bO ⟨5,a,p.gZ.bN,[]⟩=1 then⟨a,false,0,[]⟩else⟨a,true,2,[]⟩
def xQ(p:aF)(a:aR)(k:Nat):List fO:=p.aL.take k++CZ p a::p.aL.drop k
def fF(p:aF)(a:aR):aF:=
 match p.aL[yJ p.aL a]? with
 |some m=>if m.to=a then p else {p with aL:=xQ p a (yJ p.aL a)}
 |none=>{p with aL:=xQ p a (yJ p.aL a)}
def notFound:bG:=⟨404,1,[],0,false,[]⟩
def QR[aG prog]:Ok prog 93 [] (.agg (bR notFound)):=by refine dN aK func93 ntmps93 ?_;refine bK ?_;all_goals try(refine bA ?_;simp[bB,results93,notFound])
def tF{α:Type}{a b:List α}{k:Nat}(h1:a.take k=b.take k)(ha:k<a.length)(hb:k<b.length)(h:a[k]=b[k]):a.take (k+1)=b.take (k+1):=by rw[fN ha,fN hb,h1,h]
def vF{α:Type}{a b:List α}{k:Nat}(hl:a.length=b.length)(hk:¬k<a.length)(h:a.take k=b.take k):a=b:=by rw[eN (by omega),eN (by omega)]at h;exact h
def QD{α:Type}{a b:List α}{k:Nat}(ha:k<a.length)(hb:k<b.length)(h:¬a[k]=b[k]):¬a=b:=by rintro rfl;exact h rfl
def IM{α:Type}{a b:List α}(h:¬a.length=b.length):¬a=b:=by rintro rfl;exact h rfl
def aNx(a b:pV):EqA prog 93 (uB a) (uB b) (decide (a=b)):=
 Ua (f:=6) (ss:=[.str,.str]) (by decide) (by kernel_rfl) (by kernel_rfl) (by kernel_rfl) (by kernel_rfl) (by simp[uV,Ga]) (by simp[uV,Ga]) (by cases a;cases b;simp)
def Eu[aG prog](a b:List bE)(hl:a.length<=1099511627776):Ok prog 27 [.sl .view 1 (a.map eD),.sl .view 1 (b.map eD)] (.bool (decide (a=b))):=by
 refine dN aK func27 ntmps27 ?_;have W:=trivial;repeat' first|refine wg ?_|(refine sq ?_ ?_<;>intro hc<;>try exact hc.elim)|fail
 .all_goals try(refine bA ?_;simp[bB,results27])
  exact IM (by omega)
 .have dF:=hc;refine aT (ι:={k:Nat // k<=a.length/\a.take k=b.take k}) (λt o i=>⟨bP t [(13,.int .i64 i.1),(5,.aB)],o⟩)
   (λi=>a.length-i.1) ⟨0,by simp,by simp⟩ aP ?_
  rintro⟨k,hk,hi⟩ K1 hK1;simp only[bP,cH,cQ]at hK1⊢;have hk1:=tQ (k:=k);by_cases hlt:k<a.length
  .have hg:=aE hlt;have hg2:=aE (show k<b.length by omega);have yA:k<b.length:=by omega
   have W:=aA hk1 (aA hg (aA hg2 (aA hlt yA)));repeat' first|refine wg ?_|(refine sq ?_ ?_<;>intro hc<;>try exact hc.elim)|fail
   .all_goals try(refine bA ?_;simp[bB,results27])
    exact QD hlt yA hc
   .exact hK1 _ ⟨k+1,by omega,tF hi hlt yA hc⟩ aP (by simp only;omega)
  .have W:=hk1;refine wl ?_;all_goals try(refine bA ?_;simp[bB,results27])
   exact vF (by omega) hlt hi
def xm[aG prog](a b:List Int)(hl:a.length<=1099511627776):Ok prog 59 [.sl .view 1 (a.map nM),.sl .view 1 (b.map nM)] (.bool (decide (a=b))):=by
 refine dN aK func59 ntmps59 ?_;have W:=trivial;repeat' first|refine wg ?_|(refine sq ?_ ?_<;>intro hc<;>try exact hc.elim)|fail
 .all_goals try(refine bA ?_;simp[bB,results59])
  exact IM (by omega)
 .have dF:=hc;refine aT (ι:={k:Nat // k<=a.length/\a.take k=b.take k}) (λt o i=>⟨bP t [(13,.int .i64 i.1),(5,.aB)],o⟩)
   (λi=>a.length-i.1) ⟨0,by simp,by simp⟩ aP ?_
  rintro⟨k,hk,hi⟩ K1 hK1;simp only[bP,cH,cQ]at hK1⊢;have hk1:=tQ (k:=k);by_cases hlt:k<a.length
  .have hg:=aE hlt;have hg2:=aE (show k<b.length by omega);have yA:k<b.length:=by omega
   have W:=aA hk1 (aA hg (aA hg2 (aA hlt yA)));repeat' first|refine wg ?_|(refine sq ?_ ?_<;>intro hc<;>try exact hc.elim)|fail
   .all_goals try(refine bA ?_;simp[bB,results59])
    exact QD hlt yA hc
   .exact hK1 _ ⟨k+1,by omega,tF hi hlt yA hc⟩ aP (by simp only;omega)
  .have W:=hk1;refine wl ?_;all_goals try(refine bA ?_;simp[bB,results59])
   exact vF (by omega) hlt hi
def NC[aG prog](a b:List pV)(hl:a.length<=1099511627776):Ok prog 56 [.sl .view 2 (a.map uB),.sl .view 2 (b.map uB)] (.bool (decide (a=b))):=by
 refine dN aK func56 ntmps56 ?_;have W:=trivial;repeat' first|refine wg ?_|(refine sq ?_ ?_<;>intro hc<;>try exact hc.elim)|fail
 .all_goals try(refine bA ?_;simp[bB,results56])
  exact IM (by omega)
 .have dF:=hc;refine aT (ι:={k:Nat // k<=a.length/\a.take k=b.take k}) (λt o i=>⟨bP t [(13,.int .i64 i.1),(5,.aB)],o⟩)
   (λi=>a.length-i.1) ⟨0,by simp,by simp⟩ aP ?_
  rintro⟨k,hk,hi⟩ K1 hK1;simp only[bP,cH,cQ]at hK1⊢;have hk1:=tQ (k:=k);by_cases hlt:k<a.length
  .have hg:=aE hlt;have hg2:=aE (show k<b.length by omega);have yA:k<b.length:=by omega
   have W:=aA hk1 (aA hg (aA hg2 (aA hlt yA)));repeat' first|refine wg ?_|(refine nx ?_;refine sk (hc:=aNx a[k] (b[k]'(by omega))) (h:=?_))|(refine sq ?_ ?_<;>intro hc<;>try exact hc.elim)|fail
   .all_goals try(refine bA ?_;simp[bB,results56])
    exact QD hlt yA hc
   .exact hK1 _ ⟨k+1,by omega,tF hi hlt yA hc⟩ aP (by simp only;omega)
  .have W:=hk1;refine wl ?_;all_goals try(refine bA ?_;simp[bB,results56])
   exact vF (by omega) hlt hi
def aNy{a b:kG}:a=b↔a.name=b.name/\a.text=b.text/\a.wV=b.wV/\a.iH=b.iH:=by cases a;cases b;simp
def Ww[aG prog](a b:kG)(hl:a.iH.length<=1099511627776):Ok prog 58 [.agg (gU .view a),.agg (gU .view b)] (.bool (decide (a=b))):=by
 have c1:=NC a.iH b.iH hl;rw[show decide (a=b)=decide (a.name=b.name/\a.text=b.text/\a.wV=b.wV/\a.iH=b.iH)by rw[sC];exact aNy];refine dN aK func58 ntmps58 ?_;have W:=trivial;repeat' first|refine wg ?_|(refine sq ?_ ?_<;>intro hc<;>try exact hc.elim)|fail
 all_goals try(refine bA ?_;simp[bB,results58])
 all_goals simp_all
def Pk[aG prog](a b:List kG)(hl:dS qP a<=1099511627776):Ok prog 57 [.sl .view 4 (a.map (gU .view)),.sl .view 4 (b.map (gU .view)),.fn 58 []] (.bool (decide (a=b))):=by
 simp only[dS]at hl;refine dN aK func57 ntmps57 ?_;have W:=trivial;repeat' first|refine wg ?_|(refine sq ?_ ?_<;>intro hc<;>try exact hc.elim)|fail
 .all_goals try(refine bA ?_;simp[bB,results57])
  exact IM (by omega)
 .have dF:=hc;refine aT (ι:={k:Nat // k<=a.length/\a.take k=b.take k}) (λt o i=>⟨bP t [(17,.int .i64 i.1),(7,.aB)],o⟩)
   (λi=>a.length-i.1) ⟨0,by simp,by simp⟩ aP ?_
  rintro⟨k,hk,hi⟩ K1 hK1;simp only[bP,cH,cQ]at hK1⊢;have hk1:=tQ (k:=k);by_cases hlt:k<a.length
  .have hg:=aE hlt;have yA:k<b.length:=by omega
   have hg2:=aE yA;have hz:=iU qP a k hlt;simp only[qP,dS]at hz;have c1:=Ww a[k] b[k] (by omega);simp only[gU]at c1;have W:=aA hk1 (aA hg (aA hg2 (aA hlt yA)));repeat' first|refine wg ?_|(refine sq ?_ ?_<;>intro hc<;>try exact hc.elim)|fail
   .all_goals try(refine bA ?_;simp[bB,results57])
    exact QD hlt yA (by simpa using hc)
   .exact hK1 _ ⟨k+1,by omega,tF hi hlt yA (by simpa using hc)⟩ (aQ 0) (by simp only;omega)
  .have W:=hk1;refine wl ?_;all_goals try(refine bA ?_;simp[bB,results57])
   exact vF (by omega) hlt hi
def aR5[aG prog](d:List UInt8)(hd:d.length<=9223372036854775807):Ok prog 4 [.sl .view 1 (bL d)] (.bool (decide (1048576<(d.length:Int)))):=by
 refine dN aK func4 ntmps4 ?_;have hb:(bL d).length=d.length:=by simp[bL]
 have W:=hb;refine wl ?_;exact aO results4
def x8{x:AV}(hx:sI [.sl 1 [.int .u8]] [x]):∃d:List UInt8,x= .sl .view 1 (bL d)/\d.length<=9223372036854775807:=by
 obtain⟨l,rfl,⟨h,_⟩,_⟩:=K7 (e:=λc:UInt8=>[.int .u8 c.toNat]) (p:=λ_=>True) (q:=λ_=>True) (λr h=>by
  obtain⟨n,r',rfl,hn,h⟩:=fits_int h;obtain rfl:=aF3 h;have hn1:0<=n/\n<=255:=hn;refine⟨UInt8.ofNat n.toNat,?_,trivial,trivial⟩;have e:(((UInt8.ofNat n.toNat).toNat:Nat):Int)=n:=by rw[UInt8.toNat_ofNat'];omega
  rw[e]) hx
 exact⟨l,rfl,h⟩
end Go.Proofs.YtanobkmhbpjnpaaGreatDoor
