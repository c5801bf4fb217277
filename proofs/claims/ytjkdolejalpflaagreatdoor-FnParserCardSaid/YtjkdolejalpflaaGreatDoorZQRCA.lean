/- Proved here: steps towards the statement of this claim. No condition. -/
import Derived.Test.YtjkdolejalpflaaGreatDoorZQRC8w
import Derived.Test.YtjkdolejalpflaaGreatDoorZQJ5
set_option linter.all false
set_option maxRecDepth 100000
set_option maxHeartbeats 8000000
namespace Go.Proofs.YtjkdolejalpflaaGreatDoor
open Go.Aw Proofs.Tryz List IntKind
def Cm:aX:=[101,114,114,111,114]
def jU(p:aW)(code:aX)(w:Bool):aW:=
 if (fZ code).2=true then lM p (fZ code).1 w else {p with log:=iE p.log Cm}
theorem xH[aB prog][eD prog][eZ prog][oO prog](p:aW)(code:aX)(w:Bool)(hs:aK p<=536870912)(hc:code.length<=1073741824):Ok prog 12 [.agg (aL .view p),.str code,.bool w] (.agg (aL .own (jU p code w))):=by
 have c1:=kV p (by omega);have c2:=EM code hc;have Xq:p.log.length<=536870912:=by simp only[aK,dL]at hs;omega
 obtain⟨b1,b2⟩:=vB code;have c3:=Mh p Cm (by omega);have c4:=JD p (fZ code).1 w hs b1 b2;unfold jU;generalize fZ code=g at*;obtain⟨l,ok⟩:=g;simp only at c2 c4⊢;generalize lM p l w=r at*;simp only[aL,Cm]at c1 c3 c4⊢;cases ok
 .rw [cU (by simp)];refine dA aJ func12 ntmps12 ?_;have W:=trivial;repeat' first|refine wg ?_|(refine nx ?_;refine sg (hc:=c3) (h:=?_))|(refine sq ?_ ?_<;>intro hc<;>try exact hc.elim)|fail
  exact aO results12
 .rw [eA rfl];refine dA aJ func12 ntmps12 ?_;have W:=trivial;repeat' first|refine wg ?_|(refine nx ?_;refine sg (hc:=c4) (h:=?_))|(refine sq ?_ ?_<;>intro hc<;>try exact hc.elim)|fail
  exact aO results12
theorem Jc(l:List aX)(h:¬l.length<40):∀ss:List aX,iR l ss=l
 |[]=>rfl
 |s::ss=>by
  show iR (iE l s) ss=l;have:iE l s=l:=by unfold iE;rw[cU h]
  rw[this];exact Jc l h ss
theorem TI(l ss:List aX)(k:Nat)(h:¬(iR l (ss.take k)).length<40):iR l (ss.take k)=iR l ss:=by
 have e:iR l ss=iR (iR l (ss.take k)) (ss.drop k):=by unfold iR;rw[<-foldl_append,mT]
 rw[e,Jc _ h]
theorem xI[aB prog][eD prog][eZ prog][oO prog](p:aW)(code:aX)(w:Bool)(hs:aK p<=536870912)(hc:code.length<=1073741824):Ok prog 13 [.agg (aL .view p),.str code,.bool w] (.agg (aL .own (jU p code w))):=by
 have c1:=gZ p (by omega);have c2:=EL code hc;have Xq:p.log.length<=536870912:=by simp only[aK,dL]at hs;omega
 obtain⟨b1,b2⟩:=vB code;unfold jU;generalize fZ code=g at*;obtain⟨l,ok⟩:=g;simp only at c2 b1 b2⊢;cases ok
 .rw [cU (by simp)];simp only[aL,Cm]at c1⊢;clear b1 b2;by_cases h:p.log.length<40
  .have hi:(p.log.length:Int)<40:=by omega
   obtain⟨l1,hl1⟩:∃l1,l1=p.log++[[101,114,114,111,114]]:=⟨_,rfl⟩;have hap:p.log.map dR++[[.str [101,114,114,111,114]]]=l1.map dR:=by rw[hl1];simp
   have e:iE p.log [101,114,114,111,114]=l1:=by unfold iE;rw[eA h,hl1]
   rw[e];clear e hl1;refine dA aJ func13 ntmps13 ?_;have W:=aA hi (aA hap Xq);refine wl ?_;exact aO results13
  .have hi:¬(p.log.length:Int)<40:=by omega
   have e:iE p.log [101,114,114,111,114]=p.log:=by unfold iE;rw[cU h]
   rw[e];clear e;refine dA aJ func13 ntmps13 ?_;have W:=hi;refine wl ?_;exact aO results13
 rw[eA rfl];have hsl:dL lN p.aG<=1073741824:=by simp only[aK,dL]at*;omega
 have hsb:aF p.builder<=536870912:=by simp only[aK]at hs;omega
 have hqu:p.queue.length<=536870912:=by simp only[aK,dL]at hs;omega
 have c3:=Jy p hsl;obtain⟨hb1,hb2⟩:=DT p;have aIo:(bO p).length<=536870912:=by simp only[aK,dL]at hs;omega
 have c4:=Hr p.builder (bO p) l (by omega) b1 (λx hm=>by have:=b2 x hm;omega) (by omega) (λx hm=>by have:=hb2 x hm;omega) (uQ p);obtain⟨z1,z2,z3,z4⟩:=xE 60 p.builder (bO p) l (by omega) b1 b2 (uQ p) (by omega) l.length (cX _);have zJ:nV p.builder (bO p) l l.length=cO p.builder (bO p) l:=by simp[nV]
 rw[zJ]at z1 z2 z3 z4;have c5:=JA (cO p.builder (bO p) l).2.1 (by omega);obtain⟨y1,y2⟩:=yM (cO p.builder (bO p) l).2.1;unfold lM;clear hb2 b2 zJ;generalize bO p=ss at*;generalize cO p.builder ss l=g at*;obtain⟨b,wr,lg⟩:=g;simp only at c4 c5 z1 z2 z3 z4 y1 y2⊢;generalize pI wr=tk at*;simp only[aL,aH]at c1 c3 c4;refine dA aJ func13 ntmps13 ?_;refine nG ?_;obtain⟨Q,hQ⟩:∃Q:Nat->List aX,∀k,Q k=iR p.log (lg.take k):=⟨_,λ_=>rfl⟩;have hQ0:Q 0=p.log:=by rw[hQ];rfl
 have hQn:∀k,(¬k<lg.length\/¬(Q k).length<40)->iR p.log lg=Q k:=λk h=>by
  rw[hQ]at h⊢;rcases h with h|h
  .rw [eL (by omega)]
  .rw [TI _ _ _ h]
 have hQl:∀k,(Q k).length<=536870918:=λk=>by rw[hQ];have:=Mi p.log (lg.take k);simp only[pN]at this⊢;omega
 have hQs:∀k (h:k<lg.length),(Q k).length<40->Q (k+1)=Q k++[lg[k]]:=λk h h4=>by rw[hQ,Jb _ _ _ h,<-hQ];unfold iE;rw[eA h4]
 refine aY (ι:={q:Nat×Nat // q.1<=lg.length/\1<=q.2}) (λt o i=>⟨bN t [(13,.int .i64 i.1.1),(15,.undef)],o.take 12++[⟨true,false,1,i.1.2,(Q i.1.1).map dR⟩,⟨true,true,22,0,[[.str p.addr.host,.str p.addr.path,.bool p.bC.isSet,.obj 2 1,.obj 3 1,.obj 4 1,.str p.bC.pX,.str p.tok.rest,.obj 5 1,.bool p.ended,.obj 17 1,.obj 18 1,.obj 8 1,.obj 9 1,.obj 10 1,.int .i64 p.block,.int .i64 p.inline,.int .i64 p.deferred,.int .i64 p.lG,.obj 11 1,.obj 12 i.1.2,.bool p.mU]]⟩]++o.drop 14⟩)
  (λi=>lg.length-i.1.1) ⟨(0,1),by simp,by simp⟩ (aC (by simp[hQ0]) (by simp)) ?_
 rintro⟨⟨k,v⟩,hk,hv⟩ K1 hK1;simp only at hk hv;simp only[bN,cH,cG,kO,sC,AW,drop_zero,cM,cW]at hK1⊢;have hk1:=vJ (k:=k);have hl1:=hQl k;have pg:=hQn k;have Sn:=hQs k;clear hQn hQl hQs hQ0 hQ;by_cases sO:k<lg.length/\(Q k).length<40
 .obtain ⟨hlt,Gb⟩:=sO;have hg:=aE hlt;have hnext:=Sn hlt Gb;have aIp:((Q k).length:Int)<40:=by omega
  clear Sn pg;generalize hqk:Q k=q at*;have W:=aA hk1 (aA hg (aA hlt (aA aIp hl1)));refine wl ?_;all_goals refine hK1 _ ⟨(k+1,v+1),by simp only;omega,by simp only;omega⟩ (aS 20 ?_ (by simp) (by simp) (by simp[fP])) (by simp only;omega)
  all_goals simp[hnext]
 .have hfin:=pg (by omega);have hcase:¬k<lg.length\/(k<lg.length/\¬((Q k).length:Int)<40):=by omega
  rw[hfin];clear Sn pg hK1 sO hfin;generalize Q k=q at*;have O1:(tk.length+p.queue.length)*64<=140737488355328:=by omega
  rcases hcase with hlt|⟨hlt,Gb⟩
  .cases w
   .have W:=aA hk1 hlt;refine wl ?_;exact aO results13
   .rw [eA rfl];have W:=aA hk1 (aA O1 hlt);refine wl ?_;all_goals try(refine aP ?_;simp[aT,results13])
    all_goals (rw[<-oT];exact nD _)
  .cases w
   .have W:=aA hk1 (aA hlt Gb);refine wl ?_;exact aO results13
   .rw [eA rfl];have W:=aA hk1 (aA O1 (aA hlt Gb));refine wl ?_;all_goals try(refine aP ?_;simp[aT,results13])
    all_goals (rw[<-oT];exact nD _)
theorem Yw(l:List aX)(ss:List aX):dL dG (iR l ss)<=dL dG l+dL dG ss:=by
 induction ss generalizing l with
 |nil=>simp only[iR,foldl_nil];omega
 |cons s ss ih=>
  have h1:dL dG (iE l s)<=dL dG l+1+dG s:=by
   unfold iE;split
   .simp only[dL,eJ,eE,eR,jM,bM];omega
   .omega
  have h2:=ih (iE l s);have e:iR l (s::ss)=iR (iE l s) ss:=rfl;rw[e];simp only[dL,eE,bM]at*;omega
theorem TJ(p:aW)(l:List iA)(wr:Bool)(hs:aK p<=536870912)(h6:l.length<=6)(hx:∀x∈l,x.text.length<=60):aK (lM p l wr)<=aK p+1700:=by
 have hsb:aF p.builder<=536870912:=by simp only[aK]at hs;omega
 obtain⟨z1,z2,z3,z4⟩:=xE 60 p.builder (bO p) l (by omega) h6 hx (uQ p) (by omega) l.length (cX _);have zJ:nV p.builder (bO p) l l.length=cO p.builder (bO p) l:=by simp[nV]
 rw[zJ]at z1 z2 z3 z4;obtain⟨y1,y2⟩:=yM (cO p.builder (bO p) l).2.1;have hl:=Yw p.log (cO p.builder (bO p) l).2.2;unfold lM;generalize cO p.builder (bO p) l=g at*;obtain⟨b,w,lg⟩:=g;simp only at*;generalize iR p.log lg=lg2 at*;generalize pI w=tk at*;have hq:dL bF (if wr=true then tk++p.queue else p.queue)<=dL bF p.queue+721:=by
  split
  .simp only[dL,eJ,jM];omega
  .omega
 generalize (if wr=true then tk++p.queue else p.queue)=q2 at*;have Xq:dL dG lg<=546:=by simp only[dL];omega
 simp only[aK]at*;omega
theorem VP(p:aW)(code:aX)(wr:Bool)(hs:aK p<=536870912):aK (jU p code wr)<=aK p+1700:=by
 obtain⟨b1,b2⟩:=vB code;unfold jU;split
 .exact TJ p _ wr hs b1 b2
 .have h1:dL dG (iE p.log Cm)<=dL dG p.log+6:=by
   unfold iE;split
   .simp only[dL,eJ,eE,eR,jM,bM,dG,Cm];omega
   .omega
  simp only[aK]at*;omega
def uR(p:aW)(k:Int):aW×Bool:=
 if 0<=k then match p.aG[k.toNat]? with
  |some s=>if s.done=true/\p.aG.all oW=true then({(if s.code=1 then jU p s.body true else p)with block:=0},true)else(p,false)
  |none=>({p with block:=0},true)
 else({p with block:=0},true)
def eO(p:aW):aW×Bool:=
 if p.inline≠0 then(if p.aG.all oW=true then({jU p (xM p.builder p.inline) true with inline:=0},true)else(p,false))
 else if p.block≠0 then uR p (i64.wrap (p.block-1))
 else dJ p
theorem Ms{α:Type}(f:α->Nat):∀{l:List α} {x:α},x∈l->f x<=bM f l
 |y::l,x,h=>by
  rcases lE.1 h with rfl|h
  .simp only[bM];omega
  .have:=Ms f h;simp only[bM];omega
def xN(p:aW):Bool:=p.ended&&decide (p.queue.length=0)&&decide (p.block=0)&&decide (p.inline=0)
theorem JG[aB prog](p:aW):Ok prog 14 [.agg (aL .view p)] (.bool (xN p)):=by
 refine dA aJ func14 ntmps14 ?_;have W:=trivial;repeat' first|refine st ?_|(refine nx ?_;first|refine se ?_|refine so ?_)|(refine cx ?_;refine sc (λhc=>?_) (λhc=>?_)<;>try exact hc.elim)|(refine lx ?_;refine sp (λhc=>?_) (λhc=>?_)<;>try exact hc.elim)|refine sx ?_ ?_|refine sy ?_ ?_|fail
 all_goals try(refine aP ?_;simp[aT,results14])
 all_goals (simp_all[xN]<;>rfl)
def UE(q:aW):Nat:=aK q+91*(40-q.log.length)+62*(40-q.builder.nodes.length)
theorem Mt(l ss:List aX)(h:∀s∈ss,s.length<=90):dL dG (iR l ss)+91*(40-(iR l ss).length)<=dL dG l+91*(40-l.length):=by
 induction ss generalizing l with
 |nil=>exact cX _
 |cons s ss ih=>
  have e:iR l (s::ss)=iR (iE l s) ss:=rfl;rw[e];refine fW (ih (iE l s) (λx hx=>h x (by simp[hx]))) ?_;have hs:=h s (by simp);unfold iE;split
  .simp only[dL,eJ,eE,eR,jM,bM,dG];omega
  .exact cX _
theorem TW(b:aV)(ss:List eT)(x:iA)(hx:x.text.length<=60):aF (bH b ss x).1+62*(40-(bH b ss x).1.nodes.length)<=aF b+62*(40-b.nodes.length):=by
 unfold bH;split
 .exact cX _
 .split
  .split
   .simp only[aF,dL,eJ,jM,bM,lJ,eE,eR];omega
   .exact cX _
  .split
   .exact cX _
   .split
    .exact cX _
    .split<;>exact cX _
theorem NI(b:aV)(ss:List eT)(l:List iA)(hx:∀x∈l,x.text.length<=60)(rU:∀n,0<=aZ ss n/\aZ ss n<=999)(hb:aF b+62*40<=68719476736):
  aF (cO b ss l).1+62*(40-(cO b ss l).1.nodes.length)<=aF b+62*(40-b.nodes.length)/\∀s∈(cO b ss l).2.2,s.length<=90:=by
 have key:∀(l:List iA) (Zn:aV×aX×List aX),(∀x∈l,x.text.length<=60)->aF Zn.1+62*(40-Zn.1.nodes.length)<=aF b+62*(40-b.nodes.length)->(∀s∈Zn.2.2,s.length<=90)->
   aF (l.foldl (oQ ss) Zn).1+62*(40-(l.foldl (oQ ss) Zn).1.nodes.length)<=aF b+62*(40-b.nodes.length)/\∀s∈(l.foldl (oQ ss) Zn).2.2,s.length<=90:=by
  intro l;induction l with
  |nil=>intro Zn _ h1 h2;exact⟨h1,h2⟩
  |cons x l ih=>
   intro Zn hx h1 h2;have hxl:=hx x (by simp);have hn:Zn.1.nodes.length<=274877906944:=by simp only[aF,dL]at h1 hb;omega
   obtain⟨z1,z2,z3⟩:=Me Zn.1 ss x (by omega) rU hn;refine ih (oQ ss Zn x) (λy hy=>hx y (by simp[hy])) ?_ ?_
   .exact fW (TW Zn.1 ss x hxl) h1
   .intro s hs;simp only[oQ]at hs;split at hs
    .exact h2 s hs
    .rcases fR.1 hs with hs|hs
     .exact h2 s hs
     .simp only[pB]at hs;subst hs;omega
 exact key l (b,[],[]) hx (cX _) (by simp)
theorem QE(q:aW)(l:List iA)(hs:aK q<=536870912)(hx:∀x∈l,x.text.length<=60):UE (lM q l false)<=UE q:=by
 have hsb:aF q.builder<=536870912:=by simp only[aK]at hs;omega
 obtain⟨z1,z2⟩:=NI q.builder (bO q) l hx (uQ q) (by omega);have z3:=Mt q.log (cO q.builder (bO q) l).2.2 z2;unfold lM;generalize cO q.builder (bO q) l=g at*;obtain⟨b,w,lg⟩:=g;simp only[cJ,eK]at*;generalize iR q.log lg=lg2 at*;simp only[UE,aK]at*;omega
theorem qf(q:aW):aK q<=UE q/\UE q<=aK q+6120:=by unfold UE;omega
theorem Xx(s b:aX):eB (bQ s b).1<=16:=by
 unfold bQ;split
 .rename_i h;simp only[uK,bP,eC,gS]at h;simp only[eB];omega
 .simp [eB,uM]
def lQ(p:aW):Prop:=(∀nd∈p.builder.nodes,bM mF nd.attrs<=1048576)/\∀t∈p.queue,bM mF t.attrs<=1048576
def Ag(r:List gH)(m:gW):Nat:=if r.any (aBo m.to)=true then 0 else 1+eB m.to
def xO(p:aW):Nat:=bM (Ag p.Dl) p.bT
def nO(p:aW):Nat:=UE p+xO p+1048593*(20-p.aG.length)+51*(20-p.entries.length)
def xP(p:aW):Nat:=dL mH p.bT+dL eB p.entries+34*(20-p.entries.length)
def keeps(p q:aW):Prop:=lQ q/\nO q<=nO p/\xP q<=xP p/\q.aG.length<=max p.aG.length 20
def DX(p q:aW):Prop:=lQ q/\nO q<=nO p+721/\xP q<=xP p/\q.aG.length<=max p.aG.length 20
theorem Po{p:aW}(h:lQ p):keeps p p:=⟨h,cX _,cX _,by omega⟩
theorem uS{p:aW}(h:lQ p):DX p p:=⟨h,by omega,by omega,by omega⟩
theorem vD(p:aW)(md:Int)(tx dg:aX)(nd:Int)(hd:dg.length<=1048576):nO (eQ p md tx dg nd).1<=nO p/\xP (eQ p md tx dg nd).1=xP p/\(eQ p md tx dg nd).1.aG.length<=max p.aG.length 20/\(eQ p md tx dg nd).1.builder=p.builder/\(eQ p md tx dg nd).1.queue=p.queue:=by
 have h16:=Xx tx p.addr.host;unfold eQ;split
 .exact ⟨cX _,rfl,by simp only;omega,rfl,rfl⟩
 .rename_i h;have hn:p.aG.length<20:=by
   by_cases h2:20<=p.aG.length
   .exact (h (.inl h2)).elim
   .omega
  split
  .refine ⟨?_,rfl,by simp only[eJ,eE,eR];omega,rfl,rfl⟩;simp only[nO,UE,xO,aK,dL,eJ,jM,bM,lN,eE,eR];omega
  .refine ⟨?_,rfl,by simp only[eJ,eE,eR];omega,rfl,rfl⟩;simp only[nO,UE,xO,aK,dL,eJ,jM,bM,lN,eE,eR];omega
theorem YB(p:aW)(a:gH):(Bh p a).to=a/\mH (Bh p a)=eB a:=by unfold Bh;split<;>exact⟨rfl,by simp[mH]⟩
theorem qg(p:aW)(a:gH):∃X,jN p a={p with bT:=X}/\dL mH X<=dL mH p.bT+1+eB a/\bM (Ag p.Dl) X<=bM (Ag p.Dl) p.bT+1+eB a:=by
 obtain⟨h1,h2⟩:=YB p a;have h3:Ag p.Dl (Bh p a)<=1+eB a:=by unfold Ag;rw[h1];split<;>omega
 have key:∀k,dL mH (vC p a k)<=dL mH p.bT+1+eB a/\bM (Ag p.Dl) (vC p a k)<=bM (Ag p.Dl) p.bT+1+eB a:=by
  intro k;have e1:bM mH (p.bT.take k)+bM mH (p.bT.drop k)=bM mH p.bT:=by rw[<-jM,mT]
  have e2:bM (Ag p.Dl) (p.bT.take k)+bM (Ag p.Dl) (p.bT.drop k)=bM (Ag p.Dl) p.bT:=by rw[<-jM,mT]
  have e3:(p.bT.take k).length+(p.bT.drop k).length=p.bT.length:=by rw[<-eJ,mT]
  unfold vC;simp only[dL,eJ,eE,jM,bM];omega
 unfold jN;split
 .split
  .exact ⟨p.bT,rfl,by omega,by omega⟩
  .exact ⟨_,rfl,(key _).1,(key _).2⟩
 .exact ⟨_,rfl,(key _).1,(key _).2⟩
theorem Ct(p:aW)(tx:aX):nO (addEntry p tx)<=nO p/\xP (addEntry p tx)<=xP p/\(addEntry p tx).aG=p.aG/\(addEntry p tx).builder=p.builder/\(addEntry p tx).queue=p.queue:=by
 have h16:=Xx tx p.addr.host;obtain⟨X,hX,x1,x2⟩:=qg p (bQ tx p.addr.host).1;unfold addEntry;split
 .exact ⟨cX _,cX _,rfl,rfl,rfl⟩
 .rename_i h;have hn:p.entries.length<20:=by
   by_cases h2:20<=p.entries.length
   .exact (h (.inr h2)).elim
   .omega
  rw[hX];generalize (bQ tx p.addr.host).1=a at*;refine⟨?_,?_,rfl,rfl,rfl⟩
  .simp only[dL]at x1;simp only[nO,UE,xO,aK,dL,eJ,jM,bM,eE,eR];omega
  .simp only[dL]at x1;simp only[xP,dL,eJ,jM,bM,eE,eR];omega
theorem uT{p q:aW}(h:lQ p)(h1:q.builder=p.builder)(h2:q.queue=p.queue):lQ q:=by unfold lQ at*;rw[h1,h2];exact h
theorem TY(p:aW)(t:bD)(n:Int)(h:lQ p)(ht:bM mF t.attrs<=1048576):keeps p (vY p t n):=by
 have z1:=jQ t.attrs bX;obtain⟨a1,a2,a3,a4,a5⟩:=vD p 2 (aI t.attrs wE).1 (aI t.attrs bX).1 n (by omega);obtain⟨b1,b2,b3,b4,b5⟩:=vD p 1 (aI t.attrs lL).1 (aI t.attrs bX).1 n (by omega);unfold vY;split
 .exact ⟨uT h a4 a5,by omega,by omega,a3⟩
 .split
  .exact ⟨uT h b4 b5,by omega,by omega,b3⟩
  .exact Po h
theorem Mv(p:aW)(k:Nat)(l:List lD)(h:lQ p)(hl:bM mF l<=1048576):keeps p (nX p k l):=by
 have z1:=jQ l bX;obtain⟨a1,a2,a3,a4,a5⟩:=vD p 4 (aI l lL).1 (aI l bX).1 ((k:Nat):Int) (by omega);obtain⟨b1,b2,b3,b4,b5⟩:=vD p 3 (aI l lL).1 (aI l bX).1 ((k:Nat):Int) (by omega);obtain⟨e1,e2,e3,e4,e5⟩:=Ct p (aI l lL).1;unfold nX;split
 .split
  .exact ⟨h,by show nO p<=_;omega,by show xP p<=_;omega,by show p.aG.length<=_;omega⟩
  .exact Po h
 .split
  .exact ⟨uT h a4 a5,by omega,by omega,a3⟩
  .split
   .exact ⟨uT h e4 e5,by omega,e2,by rw[e3];omega⟩
   .refine ⟨uT h b4 b5,?_,?_,b3⟩
    .show nO (eQ p 3 (aI l lL).1 (aI l bX).1 ((k:Nat):Int)).1<=_;omega
    .show xP (eQ p 3 (aI l lL).1 (aI l bX).1 ((k:Nat):Int)).1<=_;omega
theorem Mw(b:aV)(t:bD):(addToken b t).1.nodes=b.nodes\/(addToken b t).1.nodes=b.nodes++[oU b t]:=by
 unfold addToken;split
 .exact .inl rfl
 .split
  .exact .inl rfl
  .split
   .exact .inl rfl
   .exact .inr rfl
theorem TZ{p:aW}{t:bD}{q:List bD}(hq:p.queue=t::q)(h:lQ p):DX p {p with queue:=q,builder:=(addToken p.builder t).1}/\nO {p with queue:=q,builder:=(addToken p.builder t).1}<=nO p+2:=by
 have h1:=pK hq;have ht:bM mF t.attrs<=1048576:=h.2 t (by rw[hq];simp);have hn:=Mw p.builder t;have hg:nO {p with queue:=q,builder:=(addToken p.builder t).1}<=nO p+2:=by
  have hl:p.builder.nodes.length<=(addToken p.builder t).1.nodes.length:=by
   rcases hn with hn|hn<;>rw[hn]
   .exact cX _
   .simp
  simp only[nO,UE,xO]at*;omega
 refine⟨⟨⟨?_,λx hx=>h.2 x (by rw[hq];simp[show x∈q from hx])⟩,by omega,cX _,by simp only;omega⟩,hg⟩;intro nd hnd;rcases hn with hn|hn
 .exact h.1 nd (by rw[<-hn];exact hnd)
 .have PM:nd∈p.builder.nodes++[oU p.builder t]:=by rw[<-hn];exact hnd
  rcases fR.1 PM with h2|h2
  .exact h.1 nd h2
  .simp only[pB]at h2;subst h2;unfold oU;split
   .exact ht
   .simp [bM]
theorem Mx{p q r:aW}(h1:nO q<=nO p+2/\xP q<=xP p/\q.aG.length<=max p.aG.length 20)(hr:lQ r)(h2:nO r<=nO q)(h3:xP r<=xP q)(h4:r.aG.length<=max q.aG.length 20):DX p r:=⟨hr,by omega,by omega,by omega⟩
theorem JH(p:aW)(h:lQ p):DX p (dJ p).1:=by
 unfold dJ;split
 .exact uS h
 .rename_i t q hq;split
  .obtain ⟨⟨g1,g2,g3,g4⟩,g5⟩:=TZ hq h;have ht:bM mF t.attrs<=1048576:=h.2 t (by rw[hq];simp);simp only;unfold gT;generalize hp1:({p with queue:=q,builder:=(addToken p.builder t).1}:aW)=p1 at*;split
   .rename_i k hk;have hl:bM mF ((p.builder.nodes[k]?).elim [] (·.attrs))<=1048576:=by
     cases hg:p.builder.nodes[k]? with
     |none=>simp[bM]
     |some nd=>exact h.1 nd (oB hg)
    obtain⟨e1,e2,e3,e4⟩:=Mv p1 k ((p.builder.nodes[k]?).elim [] (·.attrs)) g1 hl;exact Mx ⟨g5,g3,g4⟩ e1 e2 e3 e4
   .split
    .obtain ⟨e1,e2,e3,e4⟩:=TY p1 t (addToken p.builder t).2 g1 ht;exact Mx ⟨g5,g3,g4⟩ e1 e2 e3 e4
    .exact ⟨g1,g2,g3,g4⟩
  .exact uS h
theorem JI(b:aV)(ss:List eT)(l:List iA):∀nd∈(cO b ss l).1.nodes,nd∈b.nodes\/nd.attrs=[]:=by
 have one:∀(c:aV) (x:iA),∀nd∈(bH c ss x).1.nodes,nd∈c.nodes\/nd.attrs=[]:=by
  intro c x nd h;unfold bH at h;split at h
  .exact .inl h
  .split at h
   .split at h
    .rcases fR.1 h with h|h
     .exact .inl h
     .simp only[pB]at h;subst h;exact .inr rfl
    .exact .inl h
   .split at h
    .exact .inl h
    .split at h
     .exact .inl h
     .split at h<;>exact .inl h
 have key:∀(l:List iA) (s:aV×aX×List aX),(∀nd∈s.1.nodes,nd∈b.nodes\/nd.attrs=[])->∀nd∈(l.foldl (oQ ss) s).1.nodes,nd∈b.nodes\/nd.attrs=[]:=by
  intro l;induction l with
  |nil=>intro s h;exact h
  |cons x l ih=>
   intro s h;refine ih (oQ ss s x) (λnd hn=> ?_);rcases one s.1 x nd hn with h2|h2
   .exact h nd h2
   .exact .inr h2
 exact key l (b,[],[]) (λnd h=> .inl h)
theorem NJ(p:aW)(l:List iA)(wr:Bool)(hs:aK p<=536870912)(h6:l.length<=6)(hx:∀x∈l,x.text.length<=60)(h:lQ p):lQ (lM p l wr)/\UE (lM p l wr)<=UE p+(if wr=true then 721 else 0):=by
 have hsb:aF p.builder<=536870912:=by simp only[aK]at hs;omega
 obtain⟨z1,z2,z3,z4⟩:=xE 60 p.builder (bO p) l (by omega) h6 hx (uQ p) (by omega) l.length (cX _);have zJ:nV p.builder (bO p) l l.length=cO p.builder (bO p) l:=by simp[nV]
 rw[zJ]at z2;have hnd:=JI p.builder (bO p) l;obtain⟨y1,y2⟩:=yM (cO p.builder (bO p) l).2.1;have hp:=QE p l hs hx;unfold lM at hp⊢;generalize cO p.builder (bO p) l=g at*;obtain⟨b,w,lg⟩:=g;simp only[cJ,eK]at*;generalize hk:pI w=tk at*;refine⟨⟨?_,?_⟩,?_⟩
 .intro nd hn;rcases hnd nd hn with h2|h2
  .exact h.1 nd h2
  .rw [h2];simp[bM]
 .intro t ht;simp only at ht;have h1:t∈tk\/t∈p.queue:=by
   split at ht
   .exact fR.1 ht
   .exact .inr ht
  rcases h1 with h1|h1
  .have h2:=eY bF h1;have h3:bM mF t.attrs<=bF t:=by simp only[bF,dL];omega
   omega
  .exact h.2 t h1
 .cases wr
  .simpa using hp
  .simp only[UE,aK,dL,eI,eJ,jM]at hp⊢;omega
theorem VW(l:List aX)(s:aX)(h:s.length<=90):dL dG (iE l s)+91*(40-(iE l s).length)<=dL dG l+91*(40-l.length):=Mt l [s] (by simpa using h)
theorem DY(p:aW)(c:aX)(wr:Bool)(hs:aK p<=536870912)(h:lQ p):DX p (jU p c wr):=by
 obtain⟨b1,b2⟩:=vB c;unfold jU;split
 .obtain ⟨h1,h2⟩:=NJ p (fZ c).1 wr hs b1 b2 h;refine⟨h1,?_,cX _,by show p.aG.length<=_;omega⟩;have e:xO (lM p (fZ c).1 wr)=xO p:=rfl;have e2:(lM p (fZ c).1 wr).aG=p.aG:=rfl;have e3:(lM p (fZ c).1 wr).entries=p.entries:=rfl;have h3:(if wr=true then 721 else 0)<=721:=by split<;>omega
  simp only[nO,e,e2,e3];omega
 .have h1:=VW p.log Cm (by simp[Cm]);refine⟨h,?_,cX _,by show p.aG.length<=_;omega⟩;simp only[nO,UE,xO,aK]at*;omega
theorem JJ(p:aW)(k:Int)(hs:aK p<=536870912)(h:lQ p):DX p (uR p k).1:=by
 have hb:∀q:aW,DX p q->DX p {q with block:=0}:=λq hq=>hq
 unfold uR;split
 .split
  .rename_i s _;split
   .simp only;split
    .exact hb _ (DY p s.body true hs h)
    .exact hb _ (uS h)
   .exact uS h
  .exact hb _ (uS h)
 .exact hb _ (uS h)
theorem Ib(p:aW)(hs:aK p<=536870912)(h:lQ p):DX p (eO p).1:=by
 unfold eO;split
 .split
  .exact (show DX p {jU p (xM p.builder p.inline) true with inline:=0}from DY p _ true hs h)
  .exact uS h
 .split
  .exact JJ p _ hs h
  .exact JH p h
structure yR(k:Nat)(q:aW): Prop where
  at_:lQ q
  ga:nO q <= 25000000+721*k
  en:xP q <= 2000000
  sl:q.aG.length <= 1048576
theorem yR.sz{k:Nat}{q:aW}(h:yR k q)(hk:k<=2000):aK q<=27000000/\dL mH q.bT+dL eB q.entries<=16777216:=by have h1:=h.ga;have h2:=h.en;have h3:=(qf q).1;simp only[nO,xP]at h1 h2;omega
theorem YC(p:aW)(hs:aK p<=1048576):yR 0 p:=by
 have VS:lQ p:=by
  constructor
  .intro nd hn;have h1:=eY lJ hn;simp only[aK,aF,dL,lJ]at hs h1;omega
  .intro t ht;have h1:=eY bF ht;simp only[aK,dL,bF]at hs h1;omega
 have hp:=(qf p).2;have hr:xO p<=aK p:=by
  have key:∀l:List gW,bM (Ag p.Dl) l<=dL mH l:=by
   intro l;induction l with
   |nil=>exact cX _
   |cons m l ih=>
    have:Ag p.Dl m<=1+eB m.to:=by unfold Ag;split<;>omega
    simp only[dL,bM,eE,mH]at ih⊢;omega
  have:=key p.bT;simp only[xO,aK];omega
 have hsl:p.aG.length<=aK p:=by simp only[aK,dL];omega
 have hen:dL mH p.bT+dL eB p.entries<=aK p:=by simp only[aK];omega
 exact⟨VS,by simp only[nO];omega,by simp only[xP];omega,by omega⟩
def iK:List (Nat×Nat):=[(1,14),(2,15),(3,16),(4,17),(5,18),(6,19),(7,20),(8,21),(9,22),(10,23),(11,24)]
theorem Aj{t t':List AV}{o o' Z:List aD}{l1 l2 l3 l4 l5 l6 l7 l8 l9 l10 l11:Bool}{u n1 v1 n2 v2 n3 v3 n4 v4 n5 v5 n6 v6 n7 v7 n8 v8 n9 v9 n10 v10 n11 v11:Nat}{e1 e2 e3 e4 e5 e6 e7 e8 e9 e10 e11:List (List AV)}{o0 k0:aD}{q:aW}(ho:o=[o0,⟨l1,false,n1,v1,e1⟩,⟨l2,false,n2,v2,e2⟩,⟨l3,false,n3,v3,e3⟩,⟨l4,false,n4,v4,e4⟩,⟨l5,false,n5,v5,e5⟩,⟨l6,false,n6,v6,e6⟩,⟨l7,false,n7,v7,e7⟩,⟨l8,false,n8,v8,e8⟩,⟨l9,false,n9,v9,e9⟩,⟨l10,false,n10,v10,e10⟩,⟨l11,false,n11,v11,e11⟩,⟨true,true,22,u,[Ja 14 q]⟩,k0]++Ki q++Z)
  (ho':o'=[o0]++Ki q++[⟨true,true,22,u,[Ja 1 q]⟩,k0]) (ht:∀z∈iK,wk (xX z.1 z.2 t') t') (hf:∀z∈iK,o0.vM z.1 z.2=o0/\k0.vM z.1 z.2=k0) (hw:wk t t') (hc:jT 14 t'=true) (hc0:fP 14 [o0,k0]=true):kR ⟨t,o⟩ ⟨t',o'⟩:=by
 subst ho;subst ho';have e:=λi j (h:(i,j)∈iK)=>hf (i,j) h
 have h:=λi j (h:(i,j)∈iK)=>ht (i,j) h
 simp only[Ki,Ja,cM,cW,cY];refine(PU hw).trans ?_;refine(fE 1 14 rfl rfl ⟨rfl,rfl⟩ (by simp[(e 1 14 (by decide))];rfl) (h 1 14 (by decide))).trans ?_;refine(fE 2 15 rfl rfl ⟨rfl,rfl⟩ (by simp[(e 2 15 (by decide))];rfl) (h 2 15 (by decide))).trans ?_;refine(fE 3 16 rfl rfl ⟨rfl,rfl⟩ (by simp[(e 3 16 (by decide))];rfl) (h 3 16 (by decide))).trans ?_;refine(fE 4 17 rfl rfl ⟨rfl,rfl⟩ (by simp[(e 4 17 (by decide))];rfl) (h 4 17 (by decide))).trans ?_;refine(fE 5 18 rfl rfl ⟨rfl,rfl⟩ (by simp[(e 5 18 (by decide))];rfl) (h 5 18 (by decide))).trans ?_;refine(fE 6 19 rfl rfl ⟨rfl,rfl⟩ (by simp[(e 6 19 (by decide))];rfl) (h 6 19 (by decide))).trans ?_;refine(fE 7 20 rfl rfl ⟨rfl,rfl⟩ (by simp[(e 7 20 (by decide))];rfl) (h 7 20 (by decide))).trans ?_;refine(fE 8 21 rfl rfl ⟨rfl,rfl⟩ (by simp[(e 8 21 (by decide))];rfl) (h 8 21 (by decide))).trans ?_;refine(fE 9 22 rfl rfl ⟨rfl,rfl⟩ (by simp[(e 9 22 (by decide))];rfl) (h 9 22 (by decide))).trans ?_;refine(fE 10 23 rfl rfl ⟨rfl,rfl⟩ (by simp[(e 10 23 (by decide))];rfl) (h 10 23 (by decide))).trans ?_;refine(fE 11 24 rfl rfl ⟨rfl,rfl⟩ (by simp[(e 11 24 (by decide))];rfl) (h 11 24 (by decide))).trans ?_;refine aS 14 (by simp) (uN _) hc ?_;simpa [fP,jT,closed,Ds]using hc0
def sJ(p:aW)(s:aX):aW:=if p.ended=true then p else {p with queue:=p.queue++(feed (p.tok.rest++s)).1,tok:=⟨(feed (p.tok.rest++s)).2⟩}
theorem Gn[aB prog][eZ prog](a:aW)(s:aX)(hs:aK a<=274877906)(hl:s.length<=274877906):Ok prog 98 [.agg (aL .view a),.str s] (.agg (aL .own (sJ a s))):=by
 have c1:=gZ a (by omega);simp only[aK,dL,nE]at hs;have c2:=BA a.tok s (by omega);obtain⟨h1,h2⟩:=De (a.tok.rest++s).length (a.tok.rest++s) (cX _);simp only[bW]at c2;simp only[aL]at c1;unfold sJ;simp only[eJ]at h1 h2;generalize feed (a.tok.rest++s)=g at*;obtain⟨l,x⟩:=g;simp only at c2 h1 h2⊢;have hb1:(a.queue.length+l.length)*64<=140737488355328:=by omega
 by_cases he:a.ended=true
 .rw [eA he];simp only[he]at c1;refine dA aJ func98 ntmps98 ?_;have W:=he;repeat' first|refine st ?_|(refine nx ?_;first|refine se ?_|refine so ?_)|(refine cx ?_;refine sc (λhc=>?_) (λhc=>?_)<;>try exact hc.elim)|(refine lx ?_;refine sp (λhc=>?_) (λhc=>?_)<;>try exact hc.elim)|refine sx ?_ ?_|refine sy ?_ ?_|fail
  all_goals try(refine aP ?_;simp[aT,results98])
  all_goals exact he
 .rw [cU he];replace he:a.ended=false:=by simpa using he
  simp only[he]at c1;refine dA aJ func98 ntmps98 ?_;have W:=aA he hb1;repeat' first|refine st ?_|(refine nx ?_;first|refine se ?_|refine so ?_)|(refine cx ?_;refine sc (λhc=>?_) (λhc=>?_)<;>try exact hc.elim)|(refine lx ?_;refine sp (λhc=>?_) (λhc=>?_)<;>try exact hc.elim)|refine sx ?_ ?_|refine sy ?_ ?_|fail
  all_goals try(refine aP ?_;simp[aT,results98])
  all_goals (rw[<-oT];first|exact nD _|exact⟨he,nD _⟩)
theorem Fa{α:Type}(f:α->Nat):∀a b:List α,bM f (a++b)=bM f a+bM f b
 |[],b=>by simp[bM]
 |x::xs,b=>by simp only[cM,bM,Fa f xs b];omega
theorem K9(t:jH):dL bF (jA t)<=1+nE t:=by
 unfold jA;split
 .simp [dL,bM]
 .simp [dL,bM,bF,nE]
theorem L6(p:aW):aK (Bo p)<=aK p+1:=by
 unfold Bo;split
 .omega
 .have h:=K9 p.tok;simp only[aK,dL,nE,eJ,Fa,eR]at h⊢;omega
theorem YO(p:aW)(s:aX):aK (sJ p s)<=2*aK p+2*s.length:=by
 unfold sJ;split
 .omega
 .obtain ⟨h1,h2⟩:=De (p.tok.rest++s).length (p.tok.rest++s) (cX _);simp only[eJ]at h1 h2;simp only[aK,dL,nE,eJ,Fa]at*;omega
structure Ws(n:Nat)(p:aW): Prop where
  sz:aK p <= n
  bT:p.bT = []
  aG:p.aG = []
  xP:p.entries = []
def uf:List aX:=([[],[60,112,62,104,105,60,47,112,62],[60,108,105,110,107,32,104,114,101,102,61,115,116,121,108,101,62]]:List aX)
def QK(u:aX):List aX:=([[60,115,99,114,105,112,116,32,115,114,99,61,97,112,112,62,60,47,115,99,114,105,112,116,62],[60,115,99,114,105,112,116,62]++u++[60,47,115,99,114,105,112,116,62],[60,115,99,114,105,112,116,32,115,114,99,61,99,100,110,47,108,105,98,62,60,47,115,99,114,105,112,116,62],[60,115,99,114,105,112,116,32,115,114,99,61,117,116,105,108,32,107,105,110,100,61,109,111,100,117,108,101,62,60,47,115,99,114,105,112,116,62],[60,115,99,114,105,112,116,32,115,114,99,61,108,105,98,32,107,105,110,100,61,100,101,102,101,114,62,60,47,115,99,114,105,112,116,62],[60,105,109,103,32,115,114,99,61,108,111,103,111,62],[60,108,105,110,107,32,104,114,101,102,61,99,100,110,47,115,116,121,108,101,62],[60,112,62,120,60,47,112,62],[60,98,62],[60,115,99,114,105,112,116,32,110,111,110,99,101,61,110,55,62,115,97,121,32,110,60,47,115,99,114,105,112,116,62],[60,115,99,114,105,112,116,32,115,114,99,61,101,118,105,108,47,97,112,112,62,60,47,115,99,114,105,112,116,62],[116,101,120,116]]:List aX)
def ug:List aX:=([[],[],[60,112,62,101,110,100,60,47,112,62],[60,112]]:List aX)
theorem YP{u:aX}(h:u.length<=48):∀s∈QK u,s.length<=80:=by simp only[QK,forall_mem_cons,eJ,eE,eR,Dd,false_implies,implies_true,mN];omega
theorem NP[aB prog][eZ prog]:Iz prog 100 [] (YM 600):=by
 refine CB aJ func100 ntmps100 ?_;intro code i h hi hl;simp only[aU];have W:=trivial;repeat' first|refine st ?_|(refine nx ?_;refine so ?_)|(refine cx ?_;refine sc (λhc=>?_) (λhc=>?_)<;>try exact hc.elim)|(refine lx ?_;refine sp (λhc=>?_) (λhc=>?_)<;>try exact hc.elim)|refine sx ?_ ?_|refine sy ?_ ?_|fail
 refine mW (i:=1) (ver:=1) (by rfl) (by rfl) ?_ (by simp[AS.frozen,rW,rM,pW,rX,aD.pW,aD.kill,iL,pM,rt];rfl);refine cu (gF uf (by decide)) ?_;rintro _ i1 h1 ⟨s0,Qs,rfl⟩ hi1;simp only[AS.drew,AS.called,aU,AS.put,aQ,aM,fO,cB,fI,bS,fU,bZ,cH,cG,cY,cW,cM];have hs0:=(by decide:∀s∈uf,s.length<=17) s0 Qs;have W:=trivial;repeat' first|refine st ?_|(refine nx ?_;refine so ?_)|(refine cx ?_;refine sc (λhc=>?_) (λhc=>?_)<;>try exact hc.elim)|(refine lx ?_;refine sp (λhc=>?_) (λhc=>?_)<;>try exact hc.elim)|refine sx ?_ ?_|refine sy ?_ ?_|fail
 refine cu (kM 6) ?_;rintro _ i2 h2 ⟨x,rfl,x0,x1,x2⟩ hi2;simp only[AS.drew,AS.called,aU,AS.put,aQ,aM,fO,cB,fI,bS,fU,bZ,cH,cG,cY,cW,cM];obtain⟨n,rfl⟩:=fX x0;have hn:n<=5:=by omega
 have W:=trivial;repeat' first|refine st ?_|(refine nx ?_;refine so ?_)|(refine cx ?_;refine sc (λhc=>?_) (λhc=>?_)<;>try exact hc.elim)|(refine lx ?_;refine sp (λhc=>?_) (λhc=>?_)<;>try exact hc.elim)|refine sx ?_ ?_|refine sy ?_ ?_|fail
 refine aY (ι:={x:Nat×aX×Int×Int // x.1<=5/\x.2.1.length+80*x.1<=420/\0<=x.2.2.1}) (λt o y=>⟨bN t [(3,.str y.1.2.1),(4,.int .i64 (y.1.1:Int))],[⟨true,true,3,2,[[.sl .view 1 (aR code),.int .i64 y.1.2.2.1,.int .i64 y.1.2.2.2]]⟩]⟩)
  (λy=>y.1.1) ⟨(n,s0,i2,h2),hn,by simp only;omega,hi2⟩ (aS 1) ?_
 rintro⟨⟨k,s,j,g⟩,hk,hs,hj⟩ K1 hK1;simp only at hk hs hj;have hK2:=hK1;simp only[bN,cH,cG]at hK1⊢;clear hK1;by_cases h0:0<k
 .have hk0:(k:Int) > 0:=by omega
  have hk1:i64.wrap ((k:Int)-1)=((k-1:Nat):Int):=by rw[wrap64]<;>omega
  have W:=hk0;repeat' first|refine st ?_|(refine nx ?_;refine so ?_)|(refine cx ?_;refine sc (λhc=>?_) (λhc=>?_)<;>try exact hc.elim)|(refine lx ?_;refine sp (λhc=>?_) (λhc=>?_)<;>try exact hc.elim)|refine sx ?_ ?_|refine sy ?_ ?_|fail
  refine cu (xS 2 (by omega) (by omega)) ?_;rintro _ j1 g1 ⟨u,rfl,hu⟩ hj1;simp only[AS.drew,AS.called,aU,AS.put,aQ,aM,fO,cB,fI,bS,fU,bZ,cH,cG,cY,cW,cM];have hb:=YP (u:=u) (by omega);have hu1:u.length+8<=6200:=by omega
  have hu2:8+u.length<=6200:=by omega
  have hu3:8+u.length+9<=6200:=by omega
  have W:=aA hu1 (aA hu2 hu3);repeat' first|refine st ?_|(refine nx ?_;refine so ?_)|(refine cx ?_;refine sc (λhc=>?_) (λhc=>?_)<;>try exact hc.elim)|(refine lx ?_;refine sp (λhc=>?_) (λhc=>?_)<;>try exact hc.elim)|refine sx ?_ ?_|refine sy ?_ ?_|fail
  refine mW (i:=1) (ver:=1) (by rfl) (by rfl) ?_ (by simp[AS.frozen,rW,rM,pW,rX,aD.pW,aD.kill,iL,pM,rt];rfl);refine cu (gF (QK u) (by simp[QK])) ?_;rintro _ j2 g2 ⟨q,Wi,rfl⟩ hj2;simp only[AS.drew,AS.called,aU,AS.put,aQ,aM,fO,cB,fI,bS,fU,bZ,cH,cG,cY,cW,cM];have hq:=hb q Wi;have YU:s.length+q.length<=6200:=by omega
  have W:=aA hk1 YU;repeat' first|refine st ?_|(refine nx ?_;refine so ?_)|(refine cx ?_;refine sc (λhc=>?_) (λhc=>?_)<;>try exact hc.elim)|(refine lx ?_;refine sp (λhc=>?_) (λhc=>?_)<;>try exact hc.elim)|refine sx ?_ ?_|refine sy ?_ ?_|fail
  refine hK2 _ ⟨(k-1,s++q,j2,g2),by simp only;omega,by simp;omega,hj2⟩ ?_ (by simp only;omega);exact aS 1 (by simp) (by simp) (by simp) (by simp)
 .have hk0:¬(k:Int) > 0:=by omega
  have W:=hk0;repeat' first|refine st ?_|(refine nx ?_;refine so ?_)|(refine cx ?_;refine sc (λhc=>?_) (λhc=>?_)<;>try exact hc.elim)|(refine lx ?_;refine sp (λhc=>?_) (λhc=>?_)<;>try exact hc.elim)|refine sx ?_ ?_|refine sy ?_ ?_|fail
  refine mW (i:=1) (ver:=1) (by rfl) (by rfl) ?_ (by simp[AS.frozen,rW,rM,pW,rX,aD.pW,aD.kill,iL,pM,rt];rfl);refine cu (gF ug (by decide)) ?_;rintro _ j2 g2 ⟨q,Wi,rfl⟩ hj2;simp only[AS.drew,AS.called,aU,AS.put,aQ,aM,fO,cB,fI,bS,fU,bZ,cH,cG,cY,cW,cM];have hq:=(by decide:∀s∈ug,s.length<=10) q Wi;have YU:s.length+q.length<=6200:=by omega
  have W:=YU;repeat' first|refine st ?_|(refine nx ?_;refine so ?_)|(refine cx ?_;refine sc (λhc=>?_) (λhc=>?_)<;>try exact hc.elim)|(refine lx ?_;refine sp (λhc=>?_) (λhc=>?_)<;>try exact hc.elim)|refine sx ?_ ?_|refine sy ?_ ?_|fail
  refine⟨.inr rfl,pU (by simp[results100];rfl) (by rfl) (by rfl) (by omega) (by simp) (by simp) ?_⟩;simp only[single,res];exact⟨_,rfl,by simp;omega⟩
def aFj(n:Nat)(r:AV):Prop:=∃p:aW,r= .agg (aL .view p)/\Ws n p
def aBy(n:Nat)(r:AV):Prop:=∃p:aW,r= .agg (aL .own p)/\Ws n p
theorem Ul(a:gH)(x:dB):aK (wN a x).1<=eB a+7*gP x+100:=by
 unfold wN;have hp:dD (iJ x.bC).1<=7*x.bC.length+3:=by
  unfold iJ Cw;split
  .simp [xQ,dD,dL,bM]
  .split
   .simp [xQ,dD,dL,bM]
   .rename_i h3;split
    .exact MB pR Pp h3
    .simp [xQ,dD,dL,bM]
 split
 .simp only[aK,QG,nE,dL,aF,uV,lJ,gP,bM,eE,eR]at*;omega
 .simp only[aK,Cy,xQ,dD,eB,nE,dL,aF,bM,eR];omega
theorem Um(a:gH)(x:dB)(n:Nat)(h:eB a+7*gP x+100<=n):Ws n (wN a x).1:=by refine⟨fW (Ul a x) h,?_,?_,?_⟩<;>(unfold wN;split<;>rfl)
theorem QL[aB prog][eZ prog]:Iz prog 99 [] (aFj 1000):=by
 refine CB aJ func99 ntmps99 ?_;intro code i h hi hl;simp only[aU];have W:=trivial;repeat' first|refine st ?_|(refine nx ?_;refine so ?_)|(refine cx ?_;refine sc (λhc=>?_) (λhc=>?_)<;>try exact hc.elim)|(refine lx ?_;refine sp (λhc=>?_) (λhc=>?_)<;>try exact hc.elim)|refine sx ?_ ?_|refine sy ?_ ?_|fail
 refine cu (CE) ?_;rintro _ i5 h5 ⟨p,rfl,hp⟩ hi5;simp only[AS.drew,AS.called,aU,AS.put,aQ,aM,fO,cB,fI,bS,fU,bZ,cH,cG,cY,cW,cM];have hf:=rD p (by omega);have hfl:=Xz p;generalize lX p=fp at*;have c0:=MC ⟨[104,111,109,101],[105,110,100,101,120]⟩ ⟨200,1,[],0,false,fp⟩ (by decide) (by simp only[gP,eR];omega);have hn:=Um ⟨[104,111,109,101],[105,110,100,101,120]⟩ ⟨200,1,[],0,false,fp⟩ 1000 (by simp only[eB,gP,eR,eE];omega);generalize wN ⟨[104,111,109,101],[105,110,100,101,120]⟩ ⟨200,1,[],0,false,fp⟩=z at*;simp only[bG]at hf⊢;simp only[dI,iD]at c0;have W:=trivial;repeat' first|refine st ?_|(refine nx ?_;refine so ?_)|(refine cx ?_;refine sc (λhc=>?_) (λhc=>?_)<;>try exact hc.elim)|(refine lx ?_;refine sp (λhc=>?_) (λhc=>?_)<;>try exact hc.elim)|refine sx ?_ ?_|refine sy ?_ ?_|fail
 refine⟨.inr rfl,pU (by simp[results99];rfl) (by rfl) (by rfl) (by omega) (by simp) (by simp) ?_⟩;simp only[single,res];exact⟨z.1,rfl,hn⟩
theorem Wt{p:aW}{n:Nat}(s:aX)(m:Nat)(h:Ws n p)(hm:2*n+2*s.length<=m):Ws m (sJ p s):=by refine⟨fW (YO p s) (by have:=h.sz;omega),?_,?_,?_⟩<;>(unfold sJ;split<;>first|exact h.bT|exact h.aG|exact h.xP)
theorem L8{p:aW}{n:Nat}(m:Nat)(h:Ws n p)(hm:n+1<=m):Ws m (Bo p):=by refine⟨fW (L6 p) (by have:=h.sz;omega),?_,?_,?_⟩<;>(unfold Bo;split<;>first|exact h.bT|exact h.aG|exact h.xP)
theorem Un[aB prog][eZ prog]:Iz prog 64 [] (aBy 4000):=by
 refine CB aJ func64 ntmps64 ?_;intro code i h hi hl;simp only[aU];have W:=trivial;repeat' first|refine st ?_|(refine nx ?_;refine so ?_)|(refine cx ?_;refine sc (λhc=>?_) (λhc=>?_)<;>try exact hc.elim)|(refine lx ?_;refine sp (λhc=>?_) (λhc=>?_)<;>try exact hc.elim)|refine sx ?_ ?_|refine sy ?_ ?_|fail
 refine cu (QL) ?_;rintro _ i1 h1 ⟨p,rfl,hp⟩ hi1;simp only[AS.drew,AS.called,aU,AS.put,aQ,aM,fO,cB,fI,bS,fU,bZ,cH,cG,cY,cW,cM];have W:=trivial;repeat' first|refine st ?_|(refine nx ?_;refine so ?_)|(refine cx ?_;refine sc (λhc=>?_) (λhc=>?_)<;>try exact hc.elim)|(refine lx ?_;refine sp (λhc=>?_) (λhc=>?_)<;>try exact hc.elim)|refine sx ?_ ?_|refine sy ?_ ?_|fail
 refine cu (NP) ?_;rintro _ i2 h2 ⟨s,rfl,hs⟩ hi2;simp only[AS.drew,AS.called,aU,AS.put,aQ,aM,fO,cB,fI,bS,fU,bZ,cH,cG,cY,cW,cM];have ca:=Gn p s (by have:=hp.sz;omega) (by omega);have hn:=Wt s 3200 hp (by omega);generalize sJ p s=q at*;have ce:=MI q (by have:=hn.sz;omega);have hne:=L8 4000 hn (by omega);generalize Bo q=z at*;simp only[aL]at ca ce⊢;have W:=trivial;repeat' first|refine st ?_|(refine nx ?_;refine so ?_)|(refine cx ?_;refine sc (λhc=>?_) (λhc=>?_)<;>try exact hc.elim)|(refine lx ?_;refine sp (λhc=>?_) (λhc=>?_)<;>try exact hc.elim)|refine sx ?_ ?_|refine sy ?_ ?_|fail
 refine cu (kX 3) ?_;rintro _ i3 h3 ⟨b,rfl⟩ hi3;simp only[AS.drew,AS.called,aU,AS.put,aQ,aM,fO,cB,fI,bS,fU,bZ,cH,cG,cY,cW,cM];cases b
 .have W:=trivial;repeat' first|refine st ?_|(refine nx ?_;refine so ?_)|(refine cx ?_;refine sc (λhc=>?_) (λhc=>?_)<;>try exact hc.elim)|(refine lx ?_;refine sp (λhc=>?_) (λhc=>?_)<;>try exact hc.elim)|refine sx ?_ ?_|refine sy ?_ ?_|fail
  refine⟨.inr rfl,pU (by simp[results64];rfl) (by rfl) (by rfl) (by omega) (by simp) (by simp) ?_⟩;simp only[single,res];exact⟨z,rfl,hne⟩
 .have W:=trivial;repeat' first|refine st ?_|(refine nx ?_;refine so ?_)|(refine cx ?_;refine sc (λhc=>?_) (λhc=>?_)<;>try exact hc.elim)|(refine lx ?_;refine sp (λhc=>?_) (λhc=>?_)<;>try exact hc.elim)|refine sx ?_ ?_|refine sy ?_ ?_|fail
  refine⟨.inr rfl,pU (by simp[results64];rfl) (by rfl) (by rfl) (by omega) (by simp) (by simp) ?_⟩;simp only[single,res];exact⟨q,rfl,⟨fW hn.sz (by omega),hn.bT,hn.aG,hn.xP⟩⟩
end Go.Proofs.YtjkdolejalpflaaGreatDoor
