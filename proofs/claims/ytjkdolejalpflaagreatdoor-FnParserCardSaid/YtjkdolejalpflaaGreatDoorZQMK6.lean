/- Proved here: steps towards the statement of this claim. No condition. -/
import Derived.Test.YtjkdolejalpflaaGreatDoorZQP5
import Derived.Test.YtjkdolejalpflaaGreatDoorZQJ1
set_option linter.all false
set_option maxRecDepth 100000
set_option maxHeartbeats 4000000
namespace Go.Proofs.YtjkdolejalpflaaGreatDoor
open Go.Aw Go.RowKit Go.Lib Proofs.Tryz List IntKind
theorem aBa(w:World)(vb vc:Nat)(hc:bA w vb 0 mkPairs):
  Calls prog 172 #[.slice (some ⟨vb,0,none⟩) 4 vc] w λe w'=>∃rb sb sc r0,e= .returned (.pointer (some ⟨rb,0,none⟩))/\w.heap.size<=rb/\rb<w'.heap.size/\w'.cell? ⟨rb,0,none⟩=some (.int .u32 0)/\w'.cell? ⟨rb,1,none⟩=some (.int .i32 0)/\w'.cell? ⟨rb,3,none⟩=some r0/\(∀j,w'.frozen? ⟨rb,j,none⟩=false)/\
   w'.cell? ⟨rb,4,none⟩=some (.slice (some ⟨sb,0,none⟩) 4 sc)/\bA w' sb 0 mkPairs/\sb≠rb/\Ext w w':=by
 obtain⟨inf,EE,hq⟩:=tE.1 (show(prog.info? 9).map (λi=>(i.size,i.bytes))=some (1,16)by kernel_rfl);obtain⟨hsz,hby⟩:=Prod.mk.inj hq;obtain⟨z,hz0⟩:∃z,inf.zero=some z:=by
  have h:=Tryz.zsz9;simp only[jR,EE]at h;cases hz:inf.zero with
  |none=>simp[hz]at h
  |some z=>exact⟨z,rfl⟩
 obtain⟨G,hG⟩:∃G,G=grownCap w 4 0 9:=⟨_,rfl⟩;obtain⟨ROW,hROW⟩:∃ROW:Array Value,ROW=mkPairs.toArray++Builtin.zeroCells z.cells (G-4):=⟨_,rfl⟩;have hap:∀ty,(Builtin.append_ #[26,26] ty #[.slice none 0 0,.slice (some ⟨vb,0,none⟩) 4 vc]).run prog w= .ok (.slice (some ⟨w.heap.size,0,none⟩) 4 G) (w.drew.alloc (.cells ROW 9)):=λty=>by have h:=(Go.Aw.Eg (P:=prog) (w:=w) (tS:=26) (xT:=26) (ty:=ty) Tryz.underlying26 ⟨_,Tryz.underlying26,λk h=>by cases h⟩ EE hz0 (base:=none) (sLen:=0) (sCap:=0) (n:=4) (x:= .slice (some ⟨vb,0,none⟩) 4 vc) (by simp[Builtin.lenOf]) (news:=mkPairs) (olds:=[]) (λw' hw=>by rw[hsz];exact jG rfl (show bA w' vb 0 mkPairs from λj v hv=>by simpa [World.cell?,hw]using hc j v hv)) (λw' hw=>by rw[hsz];rfl) (by rw[hby];decide) (by decide)).2 (by decide);rw[hROW,hG];simpa using h
 have hself:=eU w.drew (.cells ROW 9);have hold:=heap_alloc w.drew (.cells ROW 9);have hx1:Ext w (w.drew.alloc (.cells ROW 9)):=⟨by simp,hold,⟨rfl,rfl,rfl⟩⟩;have hs1:(w.drew.alloc (.cells ROW 9)).heap.size=w.heap.size+1:=by simp
 generalize w.drew.alloc (.cells ROW 9)=W1 at*;have hc1:bA W1 w.heap.size 0 mkPairs:=λj v hv=>by
  have AX:W1.heap[w.heap.size]? =some (.cells ROW 9 (0,0)):=hself;have hj:=(cA.1 hv).1;have:ROW[j]? =some v:=by rw[hROW,rI (by simpa using hj)];simpa using hv
  simp[World.cell?,AX,this]
 clear hself hold hROW;subst hG
 go_enter func172,ntmps172
 go_wp2_with (at_builtin;refine Lib.wpList_append_run _ rfl _ _ _ _ rfl _ _ rfl rfl _ _ (hap _) ?_)
 go_ret
 have hself:=eU W1 (.cells #[Value.int IntKind.u32 0,Value.int IntKind.i32 0,Value.int IntKind.u32 0,Value.nilIface,Value.slice (some ⟨w.heap.size,0,none⟩) 4 (grownCap w 4 0 9)] 212);have hold:=heap_alloc W1 (.cells #[Value.int IntKind.u32 0,Value.int IntKind.i32 0,Value.int IntKind.u32 0,Value.nilIface,Value.slice (some ⟨w.heap.size,0,none⟩) 4 (grownCap w 4 0 9)] 212);have hsz2:(W1.alloc (.cells #[Value.int IntKind.u32 0,Value.int IntKind.i32 0,Value.int IntKind.u32 0,Value.nilIface,Value.slice (some ⟨w.heap.size,0,none⟩) 4 (grownCap w 4 0 9)] 212)).heap.size=W1.heap.size+1:=by simp
 have hsm:iW W1 (W1.alloc (.cells #[Value.int IntKind.u32 0,Value.int IntKind.i32 0,Value.int IntKind.u32 0,Value.nilIface,Value.slice (some ⟨w.heap.size,0,none⟩) 4 (grownCap w 4 0 9)] 212)):=⟨rfl,rfl,rfl⟩;generalize W1.alloc (.cells #[Value.int IntKind.u32 0,Value.int IntKind.i32 0,Value.int IntKind.u32 0,Value.nilIface,Value.slice (some ⟨w.heap.size,0,none⟩) 4 (grownCap w 4 0 9)] 212)=W2 at*;have AX:W2.heap[w.heap.size+1]? =some (.cells #[Value.int IntKind.u32 0,Value.int IntKind.i32 0,Value.int IntKind.u32 0,Value.nilIface,Value.slice (some ⟨w.heap.size,0,none⟩) 4 (grownCap w 4 0 9)] 212 (0,0)):=by rw[<-hs1];exact hself
 refine⟨w.heap.size+1,w.heap.size,grownCap w 4 0 9,.nilIface,rfl,by omega,by omega,by simp[World.cell?,AX],by simp[World.cell?,AX],by simp[World.cell?,AX],λj=>by simp[World.frozen?,AX],by simp[World.cell?,AX],λj v hv=> ?_,by omega,hx1.trans ⟨by omega,λb hb=>hold b hb,hsm⟩⟩;have h2:=hold w.heap.size (by omega);have:=hc1 j v hv;simpa [World.cell?,h2]using this
theorem Yj(w:World)(s:ByteArray)(hs:s.size<=1099511627776):
  Calls prog 141 #[.string s] w λe w'=>e= .returned (.string ⟨(s.data.toList.map oH).toArray⟩)/\Ext w w':=by
 have hbs:∀w:World,(Instr.buildSlice 26 4 #[(0,.string ⟨#[91]⟩),(1,.string ⟨#[60]⟩),(2,.string ⟨#[93]⟩),(3,.string ⟨#[62]⟩)]).run prog w= .ok (.slice (some ⟨w.heap.size,0,none⟩) 4 4) (w.alloc (.cells mkPairs.toArray 9)):=λw=>by
  letI:aB prog:={holds:=λ_=>True,low:=0,Kl:=λ_ _=>Nat.zero_le _,Px:=λ_ _ _ _=>trivial}
  have h:=Go.Aw.wX (P:=prog) (t:=26) (e:=9) (n:=1) (by':=16) (len:=4) (vs:=mkPairs) (w:=w) (by kernel_rfl) (by kernel_rfl) rfl (by decide) (by intro v hv;simp only[mkPairs,lE,Dd,or_false]at hv;rcases hv with rfl|rfl|rfl|rfl<;>rfl);exact h
 go_enter func141,ntmps141
 go_wp2_with (simp only[hbs])
 have hself:=eU w (.cells #[Value.string ⟨#[91]⟩,Value.string ⟨#[60]⟩,Value.string ⟨#[93]⟩,Value.string ⟨#[62]⟩] 9);have hx:Ext w (w.alloc (.cells #[Value.string ⟨#[91]⟩,Value.string ⟨#[60]⟩,Value.string ⟨#[93]⟩,Value.string ⟨#[62]⟩] 9)):=⟨by simp,λb hb=>heap_alloc w _ b hb,⟨rfl,rfl,rfl⟩⟩;generalize w.alloc (.cells #[Value.string ⟨#[91]⟩,Value.string ⟨#[60]⟩,Value.string ⟨#[93]⟩,Value.string ⟨#[62]⟩] 9)=W1 at*;have hc:bA W1 w.heap.size 0 mkPairs:=λj v hv=>by have AX:W1.heap[w.heap.size]? =some (.cells mkPairs.toArray 9 (0,0)):=hself;simp[World.cell?,AX,hv]
 clear hself hbs;refine(aBa W1 w.heap.size 4 hc).mono ?_;rintro e W2 ⟨rb,sb,sc,r0,rfl,a1,a2,a3,a4,a5,a6,a7,a8,a9,a10⟩
 go_wp2_with (go_at_call 173;refine(Vs _ rb sb sc r0 s hs a2 a3 a4 a5 a6 a7 a8 a9).mono ?_;rintro e W3 ⟨rfl,b1,b2,b3⟩)
 go_ret
 exact⟨rfl,⟨fW hx.size (fW a10.size b1),λb hb=>by
  have h1:=hx.size;have h2:=a10.size;rw[b2 b (by omega) (by omega),a10.xk b (by omega),hx.xk b hb],(hx.same.trans a10.same).trans b3⟩⟩
theorem mX[aB prog](s:aX)(hs:s.length<=1099511627776):Ok prog 141 [.str s] (.str (s.map oH)):=by
 intro w vs hg hargs;obtain⟨c,rest,rfl⟩:∃c rest,vs=c::rest:=by
  cases vs with
  |nil=>simp[Rc]at hargs
  |cons c rest=>exact⟨c,rest,rfl⟩
 simp only[Rc,R]at hargs;obtain⟨f1,f2,⟨rfl,_⟩,h2,_⟩:=hargs;obtain rfl:rest=[]:=by
  cases rest with
  |nil=>rfl
  |cons=>simp[Rc]at h2
 refine(Yj w ⟨s.toArray⟩ (by simpa [ByteArray.size]using hs)).mono ?_;rintro e w' ⟨rfl,hx⟩;exact⟨.string ⟨(s.map oH).toArray⟩,[],by simp,by simp[R],by simp,by simp,hx.size,hx.xk,hx.same⟩
end Go.Proofs.YtjkdolejalpflaaGreatDoor
set_option maxRecDepth 4000
set_option maxHeartbeats 4000000
namespace Go.Proofs.YtjkdolejalpflaaGreatDoor
open Go.Aw Proofs.Tryz List IntKind
theorem Pd[aB prog][eZ prog](s:aX)(c:UInt8)(hs:s.length<4294967281):Ok prog 68 [.str s,.str [c]] (.sl .own 1 ((dP c s).map dR)):=SC Tryz.laysM146 (by kernel_rfl) s c hs
def fB:bD:=⟨0,[],[],[]⟩
def oP(w:aX):aX:=w.take (gD 61 w)
def rQ(w:aX):aX:=w.drop (gD 61 w+1)
def fD:List aX->List lD->Option (List lD)
 |[],acc=>some acc
 |w::ws,acc=>if (decide (gD 61 w<w.length)&&bP (oP w)&&isValue (rQ w)&& !(aI acc (oP w)).2)=true then fD ws (acc++[⟨oP w,rQ w⟩])else none
def Bz(w0:aX)(ws:List aX):bD×Bool:=
 if bP w0=true/\ws.length<=4 then(match fD ws []with
  |some l=>(⟨1,w0,l,[]⟩,true)
  |none=>(fB,false))else(fB,false)
def nN(s:aX):bD×Bool:=
 if 60<s.length then(fB,false)
 else if Qn [47] s=true then(if bP (s.drop 1)=true then(⟨2,s.drop 1,[],[]⟩,true)else(fB,false))
 else Bz (s.take (gD 32 s)) (if gD 32 s<s.length then dP 32 (s.drop (gD 32 s+1))else [])
theorem qK(c:UInt8)(s:aX):dP c s=s.take (gD c s)::(if gD c s<s.length then dP c (s.drop (gD c s+1))else []):=by
 rw[Oz];have h:=uL c s;split
 .rfl
 .rw [eL (by omega)]
theorem LM{w0:aX}{ws:List aX}(h:¬(bP w0=true/\ws.length<=4)):Bz w0 ws=(fB,false):=by unfold Bz;rw[cU h]
theorem LP{w0:aX}{ws:List aX}(h:fD ws []=none):Bz w0 ws=(fB,false):=by unfold Bz;rw[h];split<;>rfl
theorem LQ{w0:aX}{ws:List aX}{l:List lD}(h1:bP w0=true)(h2:ws.length<=4)(h:fD ws []=some l):Bz w0 ws=(⟨1,w0,l,[]⟩,true):=by unfold Bz;rw[h,eA ⟨h1,h2⟩]
theorem Ba:∀(ws:List aX) (acc l:List lD),fD ws acc=some l->l.length=acc.length+ws.length
 |[],acc,l,h=>by simp only[fD,cQ]at h;subst h;simp
 |w::ws,acc,l,h=>by
  simp only[fD]at h;split at h
  .have:=Ba ws _ l h;simp at this⊢;omega
  .cases h
theorem IW:∀(ws:List aX) (acc l:List lD),fD ws acc=some l->dL mF l<=dL mF acc+bM dG ws
 |[],acc,l,h=>by simp only[fD,cQ]at h;subst h;simp[bM]
 |w::ws,acc,l,h=>by
  simp only[fD]at h;split at h
  .rename_i hc;simp only[eC,gS]at hc;have:=IW ws _ l h;have hj:∀a b:List lD,bM mF (a++b)=bM mF a+bM mF b:=by
    intro a b;induction a with
    |nil=>simp[bM]
    |cons x xs ih=>simp only[cM,bM,ih];omega
   simp only[dL,hj,bM,mF,oP,rQ,eJ,pN,tG,eE,eR,dG]at this⊢;omega
  .cases h
theorem wS(c:UInt8):∀s:aX,bM dG (dP c s)<=s.length
 |[]=>by simp[dP,bM,dG]
 |x::s=>by
  have ih:=wS c s;simp only[dP];split
  .simp only[bM,dG,eR,eE]at ih⊢;omega
  .split
   .rename_i h0;exact absurd h0 (tF c s)
   .rename_i p q h0;rw[h0]at ih;simp only[bM,dG,eE]at ih⊢;omega
theorem ku(s:aX):bF (nN s).1<=s.length:=by
 have hn:bF fB=0:=by simp[fB,bF,dL,bM]
 unfold nN;split
 .simp only[hn];omega
 .split
  .split
   .simp [bF,dL,bM]
   .simp only[hn];omega
  .have hs:=wS 32 s;rw[qK]at hs;simp only[bM,dG]at hs;generalize (if gD 32 s<s.length then dP 32 (s.drop (gD 32 s+1))else [])=ws at*;unfold Bz;split
   .split
    .rename_i l hl;have:=IW ws [] l hl;simp only[bF,dL,bM,eR]at this⊢;omega
    .simp only[hn];omega
   .simp only[hn];omega
theorem Qr[aB prog][eZ prog](s:aX)(hl:s.length<=1099511627776):Ok prog 147 [.str s] (.fH [.agg (bE .own (nN s).1),.bool (nN s).2]):=by
 by_cases kz:(60:Int)<(s.length:Int)
 .have hr:nN s=(fB,false):=by unfold nN;rw[eA (by omega)]
  rw[hr];refine LK aJ func147 ntmps147 ?_;have W:=kz;refine we ?_;all_goals (try first|(refine aP (.inl ?_);simp[aT,results147,fB];done)|(refine aP (.inr (gB ?_));simp[AS.zI,AS.wI,AS.rv,results147,fB]))
 have c0:=Qp s [47] hl (by simp);cases hp:Qn [47] s;case true=>
  rw[hp]at c0;simp only[eI]at c0;have c1:=fQ (s.drop 1) (by simp;omega);simp only[eE,eR,gE,Nat.reduceAdd]at c0;generalize hs1:s.drop 1=s1 at*;cases hn:bP s1
  .have hr:nN s=(fB,false):=by unfold nN;rw[cU (by omega),eA hp,hs1,hn];rfl
   rw[hr];rw[hn]at c1;refine LK aJ func147 ntmps147 ?_;have W:=kz;refine we ?_;all_goals (try first|(refine aP (.inl ?_);simp[aT,results147,fB];done)|(refine aP (.inr (gB ?_));simp[AS.zI,AS.wI,AS.rv,results147,fB]))
  .have hr:nN s=(⟨2,s1,[],[]⟩,true):=by unfold nN;rw[cU (by omega),eA hp,hs1,hn];rfl
   rw[hr];rw[hn]at c1;refine LK aJ func147 ntmps147 ?_;have W:=kz;refine we ?_;all_goals (try exact Tz results147)
 case false=>
  rw[hp]at c0;simp only[cJ,eK]at c0;have hr:nN s=Bz (s.take (gD 32 s)) (if gD 32 s<s.length then dP 32 (s.drop (gD 32 s+1))else []):=by unfold nN;rw[cU (by omega),cU (by rw[hp];simp)]
  have c2:=Pd s 32 (by omega);have hsl:=iI 32 s;have hcn:s.count 32<=s.length:=pC;have hsm:=wS 32 s;rw[qK]at c2 hsl hsm;rw[hr];have c1:=fQ (s.take (gD 32 s)) (by simp;omega);generalize (if gD 32 s<s.length then dP 32 (s.drop (gD 32 s+1))else [])=ws at*;generalize s.take (gD 32 s)=w0 at*;simp only[bM,dG,eE]at hsl hsm;simp only[mS]at c2;clear hr hp;have hw1:i64.wrap ((ws.length:Int)+1-1)=(ws.length:Int):=by rw[wrap64]<;>omega
  have Dm:List.take ws.length (ws.map dR)=ws.map dR:=eL (by simp);cases hn:bP w0
  .rw [LM (by rw[hn];simp)];rw[hn]at c1;refine LK aJ func147 ntmps147 ?_;have W:=aA kz hw1;refine we ?_;all_goals (try first|(refine aP (.inl ?_);simp[aT,results147,fB];done)|(refine aP (.inr (gB ?_));simp[AS.zI,AS.wI,AS.rv,results147,fB]))
  rw[hn]at c1;by_cases h4:(4:Int)<(ws.length:Int)
  .rw [LM (by omega)];refine LK aJ func147 ntmps147 ?_;have W:=aA kz (aA hw1 h4);refine we ?_;all_goals (try first|(refine aP (.inl ?_);simp[aT,results147,fB];done)|(refine aP (.inr (gB ?_));simp[AS.zI,AS.wI,AS.rv,results147,fB]))
  have FR:=λh=>LP (w0:=w0) (ws:=ws) h
  have FT:=λl=>LQ (w0:=w0) (ws:=ws) (l:=l) hn (by omega)
  generalize Bz w0 ws=res at*;refine LK aJ func147 ntmps147 ?_;have W:=aA kz (aA hw1 (aA h4 Dm));refine we ?_;refine aY (ι:={q:Nat×Nat×List lD // (q.1<=ws.length/\1<=q.2.1)/\q.2.2.length=q.1/\fD ws []=fD (ws.drop q.1) q.2.2}) (λt o i=>⟨bN t [(52,.int .i64 i.1.1),(48,.undef)],[⟨true,true,4,0,[[.int .i64 0,.str [],.sl .own 2 [],.str []]]⟩,⟨true,false,1,2,ws.map dR⟩,⟨true,true,4,0,[[.int .i64 1,.str w0,.obj 3 i.1.2.1,.str []]]⟩,⟨true,false,2,i.1.2.1,i.1.2.2.map oG⟩]⟩)
   (λi=>ws.length-i.1.1) ⟨(0,1,[]),by simp,by simp,by simp⟩ (qI 2 0 2 (ob:=⟨true,true,4,0,[[.int .i64 1,.str w0,.sl .own 2 [],.str []]]⟩) (by rfl) (by rfl) (by rfl) (by simp) (by rfl) (by rfl) (by simp) (by simp[pM,rt,iV])) ?_
  rintro⟨⟨k,v,acc⟩,⟨hk,hv⟩,tL,sO⟩ K1 hK1;simp only at hk hv tL sO;simp only[bN,cH,cG]at hK1⊢;have hk1:=vJ (k:=k);by_cases hlt:k<ws.length
  .have hg:=aE hlt;have Yp:=gM dG ws k hlt;rw[mB hlt]at sO;simp only[dG]at Yp;have cC:=uZ ws[k] 61 (by omega);have cN:=fQ (oP ws[k]) (by simp[oP];omega);have cV:=Cg (rQ ws[k]) (by simp[rQ];omega);have cF:=jP acc (oP ws[k]) (by omega);have lK:(decide (gD 61 ws[k]<ws[k].length)&&bP (oP ws[k])&&isValue (rQ ws[k])&& !(aI acc (oP ws[k])).2)=false->res=(fB,false):=λh=>FR (by rw[sO];simp only[fD];rw[h];rfl)
   have hnext:(decide (gD 61 ws[k]<ws[k].length)&&bP (oP ws[k])&&isValue (rQ ws[k])&& !(aI acc (oP ws[k])).2)=true->fD ws []=fD (ws.drop (k+1)) (acc++[⟨oP ws[k],rQ ws[k]⟩]):=λh=>by rw[sO];simp only[fD];rw[eA h]
   change Ok _ _ _ (.fH [.str (oP ws[k]),.str (rQ ws[k]),.bool (decide (gD 61 ws[k]<ws[k].length))])at cC;clear sO FR FT;generalize decide (gD 61 ws[k]<ws[k].length)=b1 at*;generalize bP (oP ws[k])=b2 at*;generalize isValue (rQ ws[k])=b3 at*;generalize aI acc (oP ws[k])=fa at*;obtain⟨fv,b4⟩:=fa;generalize oP ws[k]=ky at*;generalize rQ ws[k]=vl at*;simp only at cF lK hnext;cases b1
   .rw [lK (by simp)];clear lK hnext hK1;have W:=aA hk1 (aA hg hlt);refine we ?_;all_goals (try first|(refine aP (.inl ?_);simp[aT,results147,fB];done)|(refine aP (.inr (gB ?_));simp[AS.zI,AS.wI,AS.rv,results147,fB]))
   cases b2
   .rw [lK (by simp)];clear lK hnext hK1;have W:=aA hk1 (aA hg hlt);refine we ?_;all_goals (try first|(refine aP (.inl ?_);simp[aT,results147,fB];done)|(refine aP (.inr (gB ?_));simp[AS.zI,AS.wI,AS.rv,results147,fB]))
   cases b3
   .rw [lK (by simp)];clear lK hnext hK1;have W:=aA hk1 (aA hg hlt);refine we ?_;all_goals (try first|(refine aP (.inl ?_);simp[aT,results147,fB];done)|(refine aP (.inr (gB ?_));simp[AS.zI,AS.wI,AS.rv,results147,fB]))
   cases b4
   .have hn2:=hnext (by simp);clear lK hnext;have W:=aA hk1 (aA hg hlt);refine we ?_;all_goals refine hK1 _ ⟨(k+1,v+1,acc++[⟨ky,vl⟩]),⟨by simp only;omega,by simp only;omega⟩,by simp;omega,hn2⟩ (aS 4) (by simp only;omega)
   .rw [lK (by simp)];clear lK hnext hK1;have W:=aA hk1 (aA hg hlt);refine we ?_;all_goals (try first|(refine aP (.inl ?_);simp[aT,results147,fB];done)|(refine aP (.inr (gB ?_));simp[AS.zI,AS.wI,AS.rv,results147,fB]))
  .have hdn:ws.drop k=[]:=AK (by omega);rw[hdn]at sO;rw[FT acc (by rw[sO];rfl)];clear hK1;have W:=hk1;refine we ?_;all_goals (try exact Tz results147)
end Go.Proofs.YtjkdolejalpflaaGreatDoor
set_option maxRecDepth 4000
set_option maxHeartbeats 4000000
namespace Go.Proofs.YtjkdolejalpflaaGreatDoor
open Go.Aw Proofs.Tryz List IntKind
def Hm(p:aX):aX:=p.take (gD 58 p)
def Ab(p:aX):aX:=p.drop (gD 58 p+1)
def qL(p:aX):Option Bt:=match vU (Ab p)with
 |some v=>if bP (Hm p)=true/\1<=v/\v<=999 then some ⟨Hm p,v⟩else none
 |none=>none
def jJ(l:List aX):List Bt:=(l.filterMap qL).take 8
def qM(s:aX):eT:=⟨jJ (dP 59 s)⟩
theorem Da{p:aX}(h:vU (Ab p)=none):qL p=none:=by rw[qL,h]
theorem IX{p:aX}(h:bP (Hm p)=false):qL p=none:=by
 unfold qL;split
 .rw [cU (by simp[h])]
 .rfl
theorem LU{p:aX}{v:Int}(h:vU (Ab p)=some v)(h1:¬(1<=v/\v<=999)):qL p=none:=by rw[qL,h];exact cU (λh=>h1 h.2)
theorem LV{p:aX}{v:Int}(h:vU (Ab p)=some v)(hn:bP (Hm p)=true)(h1:1<=v/\v<=999):qL p=some ⟨Hm p,v⟩:=by rw[qL,h];exact eA ⟨hn,h1⟩
theorem LW{l:List aX}{k:Nat}(h:k<l.length)(hr:qL l[k]=none):jJ (l.take (k+1))=jJ (l.take k):=by unfold jJ;rw[eN h,filterMap_append];simp[hr]
theorem LX{l:List aX}{k:Nat}{r:Bt}(h:k<l.length)(hr:qL l[k]=some r)(h8:(jJ (l.take k)).length<8):jJ (l.take (k+1))=jJ (l.take k)++[r]:=by unfold jJ at*;rw[eN h,filterMap_append];simp only[pN]at h8;simp only[filterMap_cons,hr,filterMap_nil];generalize (l.take k).filterMap qL=x at*;rw[eL (l:=x++[r]) (by simp;omega),eL (l:=x) (by omega)]
theorem LY{l:List aX}{k:Nat}(h8:¬(jJ (l.take k)).length<8):jJ l=jJ (l.take k):=by
 unfold jJ at*;conv=>lhs;rw[<-mT k l,filterMap_append]
 simp only[pN]at h8;rw[take_append_of_le_length (by omega)]
theorem TA{l:List aX}{k:Nat}(h8:¬(jJ (l.take k)).length<8):jJ (l.take (k+1))=jJ (l.take k):=by have:= @LY (l.take (k+1)) k;rw[take_take,Nat.min_eq_left (by omega)]at this;exact this h8
theorem TB(l:List aX):(jJ l).length<=8:=by unfold jJ;simp;omega
theorem VD{p:aX}{x:UInt8}(hx:x∈Ab p)(h:x=58):vU (Ab p)=none:=by obtain⟨k,hk,e⟩:=mem_iff_getElem.1 hx;refine Tt hk ?_;rw[e,h];decide
theorem aBg(p:aX):(dP 58 p=[Hm p,Ab p])\/((dP 58 p).length≠2/\qL p=none):=by
 rw[qK];by_cases h:gD 58 p<p.length
 .rw [eA h];by_cases h2:∀x∈Ab p,x≠58
  .left;rw[show p.drop (gD 58 p+1)=Ab p from rfl,BV _ _ h2];rfl
  .right;have⟨x,hx⟩:=Classical.not_forall.1 h2;have⟨hm,hne⟩:=Classical.not_imp.1 hx;have aEk:=CA.1 hne;refine⟨?_,Da (VD hm aEk)⟩;rw[show p.drop (gD 58 p+1)=Ab p from rfl,eE,iI];have:0<(Ab p).count 58:=count_pos_iff.2 (aEk▸hm);omega
 .right;rw[cU h];refine⟨by simp,Da ?_⟩;have e:Ab p=[]:=by unfold Ab;exact drop_eq_nil_of_le (by omega)
  rw[e];exact OX (by simp)
theorem FU[aB prog][eZ prog][eD prog][oO prog](s:aX)(hl:s.length<=1073741824):Ok prog 108 [.str s] (.agg (cZ .own (qM s))):=by
 have cS:=Pd s 59 (by omega);have hsm:=wS 59 s;have hsl:=iI 59 s;have hcn:s.count 59<=s.length:=pC;unfold qM;generalize dP 59 s=l at*;have hll:l.length<=1073741825:=by omega
 simp only[cZ];refine dA aJ func108 ntmps108 ?_;refine bI ?_;refine aY (ι:={q:Nat×Nat×List Bt // (q.1<=l.length/\1<=q.2.1)/\q.2.2=jJ (l.take q.1)}) (λt o i=>⟨bN t [(15,.int .i64 i.1.1),(11,.undef)],o.take 1++[⟨true,true,1,0,[[.obj 3 i.1.2.1]]⟩,⟨true,false,1,1,l.map dR⟩,⟨true,false,2,i.1.2.1,i.1.2.2.map vL⟩]⟩)
  (λi=>l.length-i.1.1) ⟨(0,1,[]),by simp,by simp[jJ]⟩ (qI 1 0 0 (ob:=⟨true,true,1,0,[[.sl .own 2 []]]⟩) (by rfl) (by rfl) (by rfl) (by simp) (by rfl) (by rfl) (by simp) (by simp[pM,rt,iV])) ?_
 rintro⟨⟨k,v,acc⟩,⟨hk,hv⟩,tL⟩ K1 hK1;simp only at hk hv tL;simp only[bN,cH,cG,kO,sC,cM,cW]at hK1⊢;have hk1:=vJ (k:=k);by_cases hlt:k<l.length
 .have hg:=aE hlt;have Yp:=gM dG l k hlt;simp only[dG]at Yp;have cC:=uZ l[k] 58 (by omega);have cN:=fQ (Hm l[k]) (by simp[Hm];omega);have cP:=Ju (Ab l[k]) (by simp[Ab];omega);change Ok _ _ _ (.fH [.str (Hm l[k]),.str (Ab l[k]),.bool (decide (gD 58 l[k]<l[k].length))])at cC;have n1:= @LW l k hlt;have n2:=λr=> @LX l k r hlt
  have n3:= @TA l k;have r1:= @Da l[k];have r2:= @IX l[k];have r3:=λv=> @LU l[k] v
  have r4:=λv=> @LV l[k] v
  have ha8:=TB (l.take k);rw[<-tL]at n1 n2 n3 ha8;generalize Kh:jJ (l.take (k+1))=LZ at*;generalize hrl:qL l[k]=ru at*;generalize decide (gD 58 l[k]<l[k].length)=b1 at*;generalize Hm l[k]=ky at*;generalize Ab l[k]=vl at*;cases hp:vU vl with
  |none=>rw[qJ hp]at cP;have e2:=n1 (r1 hp);clear r1 r2 r3 r4 n1 n2 n3;have W:=aA hk1 (aA hg hlt);refine we ?_;exact hK1 _ ⟨(k+1,v,acc),⟨by simp only;omega,hv⟩,(by simp only;rw[Kh];exact e2.symm)⟩ (aS 4) (by simp only;omega)
  |some x=>
   rw[AY hp]at cP;cases hn:bP ky with
   |false=>rw[hn]at cN;have e2:=n1 (r2 hn);clear r1 r2 r3 r4 n1 n2 n3;have W:=aA hk1 (aA hg hlt);refine we ?_;exact hK1 _ ⟨(k+1,v,acc),⟨by simp only;omega,hv⟩,(by simp only;rw[Kh];exact e2.symm)⟩ (aS 4) (by simp only;omega)
   |true=>
    rw[hn]at cN;have cR:=kC x 1 999;by_cases hx:1<=x/\x<=999
    .have hb:(decide ((1:Int)<=x)&&decide (x<=(999:Int)))=true:=by simp;omega
     rw[hb]at cR;have hr:=r4 x hp hn hx;by_cases h8:acc.length<8
     .have ll:((acc.length:Int)<8):=by omega
      have e2:=n2 _ hr h8;clear r1 r2 r3 r4 n1 n2 n3;have Gv:LZ.map vL=acc.map vL++[vL ⟨ky,x⟩]:=by rw[e2];simp
      have Ke:(acc.map vL).length=acc.length:=by simp
      have W:=aA hk1 (aA hg (aA hlt ll));refine we ?_;exact hK1 _ ⟨(k+1,v+1,LZ),⟨by simp only;omega,by simp only;omega⟩,(by simp only;exact Kh.symm)⟩ (aS 4 (by simp[Gv])) (by simp only;omega)
     .have ll:¬((acc.length:Int)<8):=by omega
      have e2:=n3 h8;clear r1 r2 r3 r4 n1 n2 n3;have W:=aA hk1 (aA hg (aA hlt ll));refine we ?_;exact hK1 _ ⟨(k+1,v,acc),⟨by simp only;omega,hv⟩,(by simp only;rw[Kh];exact e2.symm)⟩ (aS 4) (by simp only;omega)
    .have hb:(decide ((1:Int)<=x)&&decide (x<=(999:Int)))=false:=by simp only[AI,qS];omega
     rw[hb]at cR;have e2:=n1 (r3 x hp hx);clear r1 r2 r3 r4 n1 n2 n3;have W:=aA hk1 (aA hg hlt);refine we ?_;exact hK1 _ ⟨(k+1,v,acc),⟨by simp only;omega,hv⟩,(by simp only;rw[Kh];exact e2.symm)⟩ (aS 4) (by simp only;omega)
 .have Dm:l.take k=l:=eL (by omega);rw[Dm]at tL;subst tL;have W:=hk1;refine we ?_;exact aO results108
end Go.Proofs.YtjkdolejalpflaaGreatDoor
set_option maxRecDepth 4000
set_option maxHeartbeats 4000000
namespace Go.Proofs.YtjkdolejalpflaaGreatDoor
open Go.Aw Proofs.Tryz List IntKind
theorem Ui[aB prog](k:Int):Iz prog 132 [.int .i64 k] (YM 520):=by
 refine CB aJ func132 ntmps132 ?_;intro code i h hi hl;simp only[aU];by_cases k2:k=2
 .subst k2;have W:=trivial;repeat' first|refine st ?_|(refine nx ?_;refine so ?_)|(refine cx ?_;refine sc (λhc=>?_) (λhc=>?_)<;>try exact hc.elim)|(refine lx ?_;refine sp (λhc=>?_) (λhc=>?_)<;>try exact hc.elim)|refine sx ?_ ?_|refine sy ?_ ?_|fail
  refine cu (xS 3 (by omega) (by omega)) ?_;rintro _ i2 h2 ⟨s,rfl,hs⟩ hi2;simp only[AS.drew,AS.called,aU,AS.put,aQ,aM,fO,cB,fI,bS,fU,bZ,cH,cG,cY,cW,cM];have W:=trivial;repeat' first|refine st ?_|(refine nx ?_;refine so ?_)|(refine cx ?_;refine sc (λhc=>?_) (λhc=>?_)<;>try exact hc.elim)|(refine lx ?_;refine sp (λhc=>?_) (λhc=>?_)<;>try exact hc.elim)|refine sx ?_ ?_|refine sy ?_ ?_|fail
  refine⟨.inr rfl,pU (by simp[results132];rfl) (by rfl) (by rfl) (by omega) (by simp) (by simp) ?_⟩;simp only[single,res];exact⟨_,rfl,by omega⟩
 .by_cases k3:k=3
  .subst k3;have W:=trivial;repeat' first|refine st ?_|(refine nx ?_;refine so ?_)|(refine cx ?_;refine sc (λhc=>?_) (λhc=>?_)<;>try exact hc.elim)|(refine lx ?_;refine sp (λhc=>?_) (λhc=>?_)<;>try exact hc.elim)|refine sx ?_ ?_|refine sy ?_ ?_|fail
   refine cu (NN) ?_;rintro _ i2 h2 ⟨s,rfl,hs⟩ hi2;simp only[AS.drew,AS.called,aU,AS.put,aQ,aM,fO,cB,fI,bS,fU,bZ,cH,cG,cY,cW,cM];have W:=trivial;repeat' first|refine st ?_|(refine nx ?_;refine so ?_)|(refine cx ?_;refine sc (λhc=>?_) (λhc=>?_)<;>try exact hc.elim)|(refine lx ?_;refine sp (λhc=>?_) (λhc=>?_)<;>try exact hc.elim)|refine sx ?_ ?_|refine sy ?_ ?_|fail
   refine⟨.inr rfl,pU (by simp[results132];rfl) (by rfl) (by rfl) (by omega) (by simp) (by simp) ?_⟩;simp only[single,res];exact⟨_,rfl,by omega⟩
  .by_cases k5:k=5
   .subst k5;have W:=trivial;repeat' first|refine st ?_|(refine nx ?_;refine so ?_)|(refine cx ?_;refine sc (λhc=>?_) (λhc=>?_)<;>try exact hc.elim)|(refine lx ?_;refine sp (λhc=>?_) (λhc=>?_)<;>try exact hc.elim)|refine sx ?_ ?_|refine sy ?_ ?_|fail
    refine mW (i:=1) (ver:=1) (by rfl) (by rfl) ?_ (by simp[AS.frozen,rW,rM,pW,rX,aD.pW,aD.kill,iL,pM,rt];rfl);refine cu (gF ([[],[105,109,112,111,114,116,32,117,116,105,108,59],[105,109,112,111,114,116,32,108,105,98,59],[105,109,112,111,114,116,32,99,100,110,47,108,105,98,59],[105,109,112,111,114,116,32,97,112,112,59,105,109,112,111,114,116,32,117,116,105,108,59]]:List aX) (by decide)) ?_;rintro _ j2 g2 ⟨u,Wi,rfl⟩ hj2;simp only[AS.drew,AS.called,aU,AS.put,aQ,aM,fO,cB,fI,bS,fU,bZ,cH,cG,cY,cW,cM];have hu:=(by decide:∀s∈([[],[105,109,112,111,114,116,32,117,116,105,108,59],[105,109,112,111,114,116,32,108,105,98,59],[105,109,112,111,114,116,32,99,100,110,47,108,105,98,59],[105,109,112,111,114,116,32,97,112,112,59,105,109,112,111,114,116,32,117,116,105,108,59]]:List aX),s.length<=23) u Wi;have W:=trivial;repeat' first|refine st ?_|(refine nx ?_;refine so ?_)|(refine cx ?_;refine sc (λhc=>?_) (λhc=>?_)<;>try exact hc.elim)|(refine lx ?_;refine sp (λhc=>?_) (λhc=>?_)<;>try exact hc.elim)|refine sx ?_ ?_|refine sy ?_ ?_|fail
    refine mW (i:=2) (ver:=1) (by rfl) (by rfl) ?_ (by simp[AS.frozen,rW,rM,pW,rX,aD.pW,aD.kill,iL,pM,rt];rfl);refine cu (gF ([[115,97,121,32,109],[99,111,117,110,116,32,112],[97,100,100,32,98],[108,111,111,107,32,112]]:List aX) (by decide)) ?_;rintro _ j3 g3 ⟨q,hm3,rfl⟩ su;simp only[AS.drew,AS.called,aU,AS.put,aQ,aM,fO,cB,fI,bS,fU,bZ,cH,cG,cY,cW,cM];have hq:=(by decide:∀s∈([[115,97,121,32,109],[99,111,117,110,116,32,112],[97,100,100,32,98],[108,111,111,107,32,112]]:List aX),s.length<=7) q hm3;have YU:u.length+q.length<=6200:=by omega
    have W:=YU;repeat' first|refine st ?_|(refine nx ?_;refine so ?_)|(refine cx ?_;refine sc (λhc=>?_) (λhc=>?_)<;>try exact hc.elim)|(refine lx ?_;refine sp (λhc=>?_) (λhc=>?_)<;>try exact hc.elim)|refine sx ?_ ?_|refine sy ?_ ?_|fail
    refine⟨.inr rfl,pU (by simp[results132];rfl) (by rfl) (by rfl) (by omega) (by simp) (by simp) ?_⟩;simp only[single,res];exact⟨_,rfl,by simp;omega⟩
   .by_cases k4:k=4
    .subst k4;have W:=trivial;repeat' first|refine st ?_|(refine nx ?_;refine so ?_)|(refine cx ?_;refine sc (λhc=>?_) (λhc=>?_)<;>try exact hc.elim)|(refine lx ?_;refine sp (λhc=>?_) (λhc=>?_)<;>try exact hc.elim)|refine sx ?_ ?_|refine sy ?_ ?_|fail
     refine⟨.inr rfl,pU (by simp[results132];rfl) (by rfl) (by rfl) (by omega) (by simp) (by simp) ?_⟩;simp only[single,res];exact⟨_,rfl,by decide⟩
    .have W:=aA k2 (aA k3 (aA k5 k4));repeat' first|refine st ?_|(refine nx ?_;refine so ?_)|(refine cx ?_;refine sc (λhc=>?_) (λhc=>?_)<;>try exact hc.elim)|(refine lx ?_;refine sp (λhc=>?_) (λhc=>?_)<;>try exact hc.elim)|refine sx ?_ ?_|refine sy ?_ ?_|fail
     refine cu (QJ 8 (by omega)) ?_;rintro _ i2 h2 ⟨s,rfl,hs⟩ hi2;simp only[AS.drew,AS.called,aU,AS.put,aQ,aM,fO,cB,fI,bS,fU,bZ,cH,cG,cY,cW,cM];have W:=trivial;repeat' first|refine st ?_|(refine nx ?_;refine so ?_)|(refine cx ?_;refine sc (λhc=>?_) (λhc=>?_)<;>try exact hc.elim)|(refine lx ?_;refine sp (λhc=>?_) (λhc=>?_)<;>try exact hc.elim)|refine sx ?_ ?_|refine sy ?_ ?_|fail
     refine⟨.inr rfl,pU (by simp[results132];rfl) (by rfl) (by rfl) (by omega) (by simp) (by simp) ?_⟩;simp only[single,res];exact⟨_,rfl,by omega⟩
theorem tq(l:List aX):(Lib.joinTail [32] l).length=dL dG l:=by
 unfold Lib.joinTail;induction l with
 |nil=>simp[dL,bM]
 |cons x l ih=>simp only[dL,bM,dG,eE]at ih⊢;simp only[mS,oY,eJ,eE,eR,ih];omega
theorem Wq(w:aX)(l:List aX):(words w l).length=w.length+dL dG l:=by unfold words;rw[Lib.join_cons,eJ,tq]
theorem Xz(p:dS):(lX p).length<=dD p+40:=by
 unfold lX;split
 .have h:(QF p.pX).length<=p.pX.length+10:=by unfold QF;split<;>simp[VX]<;>omega
  simp only[eJ,eE,Wq,dD,yS,Cu,Ua,eR];omega
 .simp
def aFi(n:Nat)(r:AV):Prop:=∃x:dB,r= .agg (iD x)/\gP x<=n
theorem Uj[aB prog](k:Int):Iz prog 96 [.int .i64 k] (aFi 620):=by
 refine CB aJ func96 ntmps96 ?_;intro code i h hi hl;simp only[aU];have W:=trivial;repeat' first|refine st ?_|(refine nx ?_;refine so ?_)|(refine cx ?_;refine sc (λhc=>?_) (λhc=>?_)<;>try exact hc.elim)|(refine lx ?_;refine sp (λhc=>?_) (λhc=>?_)<;>try exact hc.elim)|refine sx ?_ ?_|refine sy ?_ ?_|fail
 refine cu (Ui k) ?_;rintro _ i2 h2 ⟨s,rfl,hs⟩ hi2;simp only[AS.drew,AS.called,aU,AS.put,aQ,aM,fO,cB,fI,bS,fU,bZ,cH,cG,cY,cW,cM];have W:=trivial;repeat' first|refine st ?_|(refine nx ?_;refine so ?_)|(refine cx ?_;refine sc (λhc=>?_) (λhc=>?_)<;>try exact hc.elim)|(refine lx ?_;refine sp (λhc=>?_) (λhc=>?_)<;>try exact hc.elim)|refine sx ?_ ?_|refine sy ?_ ?_|fail
 refine mW (i:=2) (ver:=1) (by rfl) (by rfl) ?_ (by simp[AS.frozen,rW,rM,pW,rX,aD.pW,aD.kill,iL,pM,rt];rfl);refine cu (EY [0,5,50] (by decide)) ?_;rintro _ i3 h3 ⟨x,hx,rfl⟩ hi3;simp only[AS.drew,AS.called,aU,AS.put,aQ,aM,fO,cB,fI,bS,fU,bZ,cH,cG,cY,cW,cM];have W:=trivial;repeat' first|refine st ?_|(refine nx ?_;refine so ?_)|(refine cx ?_;refine sc (λhc=>?_) (λhc=>?_)<;>try exact hc.elim)|(refine lx ?_;refine sp (λhc=>?_) (λhc=>?_)<;>try exact hc.elim)|refine sx ?_ ?_|refine sy ?_ ?_|fail
 refine cu (kX 2) ?_;rintro _ i4 h4 ⟨b,rfl⟩ hi4;simp only[AS.drew,AS.called,aU,AS.put,aQ,aM,fO,cB,fI,bS,fU,bZ,cH,cG,cY,cW,cM];by_cases k1:k=1
 .subst k1;have W:=trivial;repeat' first|refine st ?_|(refine nx ?_;refine so ?_)|(refine cx ?_;refine sc (λhc=>?_) (λhc=>?_)<;>try exact hc.elim)|(refine lx ?_;refine sp (λhc=>?_) (λhc=>?_)<;>try exact hc.elim)|refine sx ?_ ?_|refine sy ?_ ?_|fail
  refine cu (CE) ?_;rintro _ i5 h5 ⟨p,rfl,hp⟩ hi5;simp only[AS.drew,AS.called,aU,AS.put,aQ,aM,fO,cB,fI,bS,fU,bZ,cH,cG,cY,cW,cM];have hf:=rD p (by omega);have hfl:=Xz p;generalize lX p=fp at*;simp only[bG]at hf⊢;have W:=trivial;repeat' first|refine st ?_|(refine nx ?_;refine so ?_)|(refine cx ?_;refine sc (λhc=>?_) (λhc=>?_)<;>try exact hc.elim)|(refine lx ?_;refine sp (λhc=>?_) (λhc=>?_)<;>try exact hc.elim)|refine sx ?_ ?_|refine sy ?_ ?_|fail
  refine⟨.inr rfl,pU (by simp[results96];rfl) (by rfl) (by rfl) (by omega) (by simp) (by simp) ?_⟩;simp only[single,res];exact⟨⟨200,1,s,x,b,fp⟩,rfl,by simp only[gP];omega⟩
 .have W:=k1;repeat' first|refine st ?_|(refine nx ?_;refine so ?_)|(refine cx ?_;refine sc (λhc=>?_) (λhc=>?_)<;>try exact hc.elim)|(refine lx ?_;refine sp (λhc=>?_) (λhc=>?_)<;>try exact hc.elim)|refine sx ?_ ?_|refine sy ?_ ?_|fail
  refine⟨.inr rfl,pU (by simp[results96];rfl) (by rfl) (by rfl) (by omega) (by simp) (by simp) ?_⟩;simp only[single,res];exact⟨⟨200,k,s,x,b,[]⟩,rfl,by simp only[gP,eR];omega⟩
end Go.Proofs.YtjkdolejalpflaaGreatDoor
set_option maxRecDepth 4000
set_option maxHeartbeats 400000
namespace Go.Proofs.YtjkdolejalpflaaGreatDoor
open Go.Aw Proofs.Tryz List IntKind
theorem nH{α:Type}{a b:List α}{k:Nat}(h1:a.take k=b.take k)(ha:k<a.length)(hb:k<b.length)(h:a[k]=b[k]):a.take (k+1)=b.take (k+1):=by rw[eN ha,eN hb,h1,h]
theorem oI{α:Type}{a b:List α}{k:Nat}(hl:a.length=b.length)(hk:¬k<a.length)(h:a.take k=b.take k):a=b:=by rw[eL (by omega),eL (by omega)]at h;exact h
theorem Jl{α:Type}{a b:List α}{k:Nat}(ha:k<a.length)(hb:k<b.length)(h:¬a[k]=b[k]):¬a=b:=by rintro rfl;exact h rfl
theorem CG{α:Type}{a b:List α}(h:¬a.length=b.length):¬a=b:=by rintro rfl;exact h rfl
theorem M0(a b:lD):N8 prog 94 (oG a) (oG b) (decide (a=b)):=
 Mj (f:=6) (ss:=[.str,.str]) (by decide) (by kernel_rfl) (by kernel_rfl) (by kernel_rfl) (by kernel_rfl) (by simp[nW,Be]) (by simp[nW,Be]) (by cases a;cases b;simp)
theorem zB[aB prog](a b:List aX)(hl:a.length<=1099511627776):Ok prog 30 [.sl .view 1 (a.map dR),.sl .view 1 (b.map dR)] (.bool (decide (a=b))):=by
 refine dA aJ func30 ntmps30 ?_;have W:=trivial;repeat' first|refine st ?_|(refine nx ?_;refine so ?_)|(refine cx ?_;refine sc (λhc=>?_) (λhc=>?_)<;>try exact hc.elim)|(refine lx ?_;refine sp (λhc=>?_) (λhc=>?_)<;>try exact hc.elim)|refine sx ?_ ?_|refine sy ?_ ?_|fail
 .all_goals try(refine aP ?_;simp[aT,results30])
  exact CG (by omega)
 .have hlen:=hc;refine aY (ι:={k:Nat // k<=a.length/\a.take k=b.take k}) (λt o i=>⟨bN t [(13,.int .i64 i.1),(5,.undef)],o⟩)
   (λi=>a.length-i.1) ⟨0,by simp,by simp⟩ aC ?_
  rintro⟨k,hk,hi⟩ K1 hK1;simp only[bN,cH,cG]at hK1⊢;have hk1:=vJ (k:=k);by_cases hlt:k<a.length
  .have hg:=aE hlt;have Wx:=aE (show k<b.length by omega);have rE:k<b.length:=by omega
   have W:=aA hk1 (aA hg (aA Wx (aA hlt rE)));repeat' first|refine st ?_|(refine nx ?_;refine so ?_)|(refine cx ?_;refine sc (λhc=>?_) (λhc=>?_)<;>try exact hc.elim)|(refine lx ?_;refine sp (λhc=>?_) (λhc=>?_)<;>try exact hc.elim)|refine sx ?_ ?_|refine sy ?_ ?_|fail
   .all_goals try(refine aP ?_;simp[aT,results30])
    exact Jl hlt rE hc
   .exact hK1 _ ⟨k+1,by omega,nH hi hlt rE hc⟩ aC (by simp only;omega)
  .have W:=hk1;repeat' first|refine st ?_|(refine nx ?_;refine so ?_)|(refine cx ?_;refine sc (λhc=>?_) (λhc=>?_)<;>try exact hc.elim)|(refine lx ?_;refine sp (λhc=>?_) (λhc=>?_)<;>try exact hc.elim)|refine sx ?_ ?_|refine sy ?_ ?_|fail
   all_goals try(refine aP ?_;simp[aT,results30])
   exact oI (by omega) hlt hi
theorem Uq[aB prog](a b:List Int)(hl:a.length<=1099511627776):Ok prog 57 [.sl .view 1 (a.map nP),.sl .view 1 (b.map nP)] (.bool (decide (a=b))):=by
 refine dA aJ func57 ntmps57 ?_;have W:=trivial;repeat' first|refine st ?_|(refine nx ?_;refine so ?_)|(refine cx ?_;refine sc (λhc=>?_) (λhc=>?_)<;>try exact hc.elim)|(refine lx ?_;refine sp (λhc=>?_) (λhc=>?_)<;>try exact hc.elim)|refine sx ?_ ?_|refine sy ?_ ?_|fail
 .all_goals try(refine aP ?_;simp[aT,results57])
  exact CG (by omega)
 .have hlen:=hc;refine aY (ι:={k:Nat // k<=a.length/\a.take k=b.take k}) (λt o i=>⟨bN t [(13,.int .i64 i.1),(5,.undef)],o⟩)
   (λi=>a.length-i.1) ⟨0,by simp,by simp⟩ aC ?_
  rintro⟨k,hk,hi⟩ K1 hK1;simp only[bN,cH,cG]at hK1⊢;have hk1:=vJ (k:=k);by_cases hlt:k<a.length
  .have hg:=aE hlt;have Wx:=aE (show k<b.length by omega);have rE:k<b.length:=by omega
   have W:=aA hk1 (aA hg (aA Wx (aA hlt rE)));repeat' first|refine st ?_|(refine nx ?_;refine so ?_)|(refine cx ?_;refine sc (λhc=>?_) (λhc=>?_)<;>try exact hc.elim)|(refine lx ?_;refine sp (λhc=>?_) (λhc=>?_)<;>try exact hc.elim)|refine sx ?_ ?_|refine sy ?_ ?_|fail
   .all_goals try(refine aP ?_;simp[aT,results57])
    exact Jl hlt rE hc
   .exact hK1 _ ⟨k+1,by omega,nH hi hlt rE hc⟩ aC (by simp only;omega)
  .have W:=hk1;repeat' first|refine st ?_|(refine nx ?_;refine so ?_)|(refine cx ?_;refine sc (λhc=>?_) (λhc=>?_)<;>try exact hc.elim)|(refine lx ?_;refine sp (λhc=>?_) (λhc=>?_)<;>try exact hc.elim)|refine sx ?_ ?_|refine sy ?_ ?_|fail
   all_goals try(refine aP ?_;simp[aT,results57])
   exact oI (by omega) hlt hi
theorem Gq[aB prog](a b:List lD)(hl:a.length<=1099511627776):Ok prog 54 [.sl .view 2 (a.map oG),.sl .view 2 (b.map oG)] (.bool (decide (a=b))):=by
 refine dA aJ func54 ntmps54 ?_;have W:=trivial;repeat' first|refine st ?_|(refine nx ?_;refine so ?_)|(refine cx ?_;refine sc (λhc=>?_) (λhc=>?_)<;>try exact hc.elim)|(refine lx ?_;refine sp (λhc=>?_) (λhc=>?_)<;>try exact hc.elim)|refine sx ?_ ?_|refine sy ?_ ?_|fail
 .all_goals try(refine aP ?_;simp[aT,results54])
  exact CG (by omega)
 .have hlen:=hc;refine aY (ι:={k:Nat // k<=a.length/\a.take k=b.take k}) (λt o i=>⟨bN t [(13,.int .i64 i.1),(5,.undef)],o⟩)
   (λi=>a.length-i.1) ⟨0,by simp,by simp⟩ aC ?_
  rintro⟨k,hk,hi⟩ K1 hK1;simp only[bN,cH,cG]at hK1⊢;have hk1:=vJ (k:=k);by_cases hlt:k<a.length
  .have hg:=aE hlt;have Wx:=aE (show k<b.length by omega);have rE:k<b.length:=by omega
   have W:=aA hk1 (aA hg (aA Wx (aA hlt rE)));repeat' first|refine st ?_|(refine nx ?_;first|refine so ?_|refine sk (hc:=M0 a[k] (b[k]'(by omega))) (h:=?_))|(refine cx ?_;refine sc (λhc=>?_) (λhc=>?_)<;>try exact hc.elim)|(refine lx ?_;refine sp (λhc=>?_) (λhc=>?_)<;>try exact hc.elim)|refine sx ?_ ?_|refine sy ?_ ?_|fail
   .all_goals try(refine aP ?_;simp[aT,results54])
    exact Jl hlt rE hc
   .exact hK1 _ ⟨k+1,by omega,nH hi hlt rE hc⟩ aC (by simp only;omega)
  .have W:=hk1;repeat' first|refine st ?_|(refine nx ?_;refine so ?_)|(refine cx ?_;refine sc (λhc=>?_) (λhc=>?_)<;>try exact hc.elim)|(refine lx ?_;refine sp (λhc=>?_) (λhc=>?_)<;>try exact hc.elim)|refine sx ?_ ?_|refine sy ?_ ?_|fail
   all_goals try(refine aP ?_;simp[aT,results54])
   exact oI (by omega) hlt hi
end Go.Proofs.YtjkdolejalpflaaGreatDoor
set_option maxRecDepth 4000
set_option maxHeartbeats 400000
namespace Go.Proofs.YtjkdolejalpflaaGreatDoor
open Go.Aw Proofs.Tryz List IntKind
theorem M3{a b:gQ}:a=b↔a.name=b.name/\a.text=b.text/\a.parent=b.parent/\a.attrs=b.attrs:=by cases a;cases b;simp
theorem NT[aB prog](a b:gQ)(hl:a.attrs.length<=1099511627776):Ok prog 56 [.agg (dK .view a),.agg (dK .view b)] (.bool (decide (a=b))):=by
 have c1:=Gq a.attrs b.attrs hl;rw[show decide (a=b)=decide (a.name=b.name/\a.text=b.text/\a.parent=b.parent/\a.attrs=b.attrs)by rw[pZ];exact M3];refine dA aJ func56 ntmps56 ?_;have W:=trivial;repeat' first|refine st ?_|(refine nx ?_;refine so ?_)|(refine cx ?_;refine sc (λhc=>?_) (λhc=>?_)<;>try exact hc.elim)|(refine lx ?_;refine sp (λhc=>?_) (λhc=>?_)<;>try exact hc.elim)|refine sx ?_ ?_|refine sy ?_ ?_|fail
 all_goals try(refine aP ?_;simp[aT,results56])
 all_goals simp_all
theorem Ii[aB prog](a b:List gQ)(hl:dL lJ a<=1099511627776):Ok prog 55 [.sl .view 4 (a.map (dK .view)),.sl .view 4 (b.map (dK .view)),.fn 56 []] (.bool (decide (a=b))):=by
 simp only[dL]at hl;refine dA aJ func55 ntmps55 ?_;have W:=trivial;repeat' first|refine st ?_|(refine nx ?_;refine so ?_)|(refine cx ?_;refine sc (λhc=>?_) (λhc=>?_)<;>try exact hc.elim)|(refine lx ?_;refine sp (λhc=>?_) (λhc=>?_)<;>try exact hc.elim)|refine sx ?_ ?_|refine sy ?_ ?_|fail
 .all_goals try(refine aP ?_;simp[aT,results55])
  exact CG (by omega)
 .have hlen:=hc;refine aY (ι:={k:Nat // k<=a.length/\a.take k=b.take k}) (λt o i=>⟨bN t [(17,.int .i64 i.1),(7,.undef)],o⟩)
   (λi=>a.length-i.1) ⟨0,by simp,by simp⟩ aC ?_
  rintro⟨k,hk,hi⟩ K1 hK1;simp only[bN,cH,cG]at hK1⊢;have hk1:=vJ (k:=k);by_cases hlt:k<a.length
  .have hg:=aE hlt;have rE:k<b.length:=by omega
   have Wx:=aE rE;have hz:=gM lJ a k hlt;simp only[lJ,dL]at hz;have c1:=NT a[k] b[k] (by omega);simp only[dK]at c1;have W:=aA hk1 (aA hg (aA Wx (aA hlt rE)));repeat' first|refine st ?_|(refine nx ?_;refine so ?_)|(refine cx ?_;refine sc (λhc=>?_) (λhc=>?_)<;>try exact hc.elim)|(refine lx ?_;refine sp (λhc=>?_) (λhc=>?_)<;>try exact hc.elim)|refine sx ?_ ?_|refine sy ?_ ?_|fail
   .all_goals try(refine aP ?_;simp[aT,results55])
    exact Jl hlt rE (by simpa using hc)
   .exact hK1 _ ⟨k+1,by omega,nH hi hlt rE (by simpa using hc)⟩ (aS 0) (by simp only;omega)
  .have W:=hk1;repeat' first|refine st ?_|(refine nx ?_;refine so ?_)|(refine cx ?_;refine sc (λhc=>?_) (λhc=>?_)<;>try exact hc.elim)|(refine lx ?_;refine sp (λhc=>?_) (λhc=>?_)<;>try exact hc.elim)|refine sx ?_ ?_|refine sy ?_ ?_|fail
   all_goals try(refine aP ?_;simp[aT,results55])
   exact oI (by omega) hlt hi
end Go.Proofs.YtjkdolejalpflaaGreatDoor
