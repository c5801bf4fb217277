/- Steps. No condition. -/
import Derived.Test.YtanobkmhbpjnpaaGreatDoorZQADSB
import Derived.Test.YtanobkmhbpjnpaaGreatDoorZQTL3
set_option linter.all false
set_option maxRecDepth 8000
set_option maxHeartbeats 8000000
namespace Go.Proofs.YtanobkmhbpjnpaaGreatDoor
open Go.Aw Proofs.Tryz List IntKind
def NB(l:List gP)(a:aR):dC (wE l a)<=dS eF l+100:=by
 unfold wE;split
 .rename_i s hs;split
  .rename_i f hf;have h1:=dJ eF (pN hs);have h2:=dJ Ho (pN hf);simp only[dS,eF,Ho]at*;omega
  .simp [dC,notFound];try omega
 .simp [dC,notFound];try omega
def xe{p:aF}{r:iO}(h:r∈nX p):aW r.to<=aM p:=by
 unfold nX at h;rcases fR.1 h with h|h
 .obtain ⟨x,hx,rfl⟩:=zE.1 h;unfold lK;split
  .rename_i s hs;have h7:=dJ nO (nB hs);simp only[nO,iG,aM,dS]at*;omega
  .simp [aW,aBh]
 .obtain ⟨x,hx,rfl⟩:=zE.1 h;unfold qY;split
  .rename_i s hs;have h7:=dJ cB (nB hs);simp only[cB,gV,aM,dS]at*;omega
  .simp [aW,aBh]
structure Dq(n e:Nat)(p:aF): Prop where
  on:Rh n e 20 p
  ho:p.gZ.bN.length <= 4000
  bo:IG p.aC
  bd:Bd (500+50*(n/30000000)) p
def xg(p:aF):sJ p<=41:=by unfold sJ;split<;>omega
def ZC{n:Nat}{p:aF}(h:Bd n p)(a b:Int)(c:Bool):Bd (n+41) {p with eH:=a,fA:=b,dX:=c}:=by obtain⟨hb,hd⟩:=h;have ht:=xg {p with eH:=a,fA:=b,dX:=c};exact⟨⟨hb.nd,hb.op,hb.sl,hb.bl,hb.il,hb.ns,hb.ne⟩,hd.imp (λ⟨h1,h2,h3⟩=>⟨h1,h2,show mq p.bT+BF p+sJ _<=_ by omega⟩) λ⟨h1,h2⟩=>⟨h1,show mq p.bT+11+sJ _<=_ by omega⟩⟩
def ZE{l:List gP}(h:Am l)(a:aR):Dn (wE l a):=by
 have hn:Dn notFound:=λh=>by simp[notFound]at h
 unfold wE;split
 .rename_i s hs;split
  .rename_i f hf;exact h s (pN hs) f (pN hf)
  .exact hn
 .exact hn
def aR3{p:aF}(h:Zw 4000 p):Bd 500 p:=by
 have h1:=h.qb.2;have h2:BF p=0:=by unfold BF;rw[eM h.pd.1,eM h.pd.2]
 have h3:=xg p;exact⟨h.bs.1,.inl ⟨h.qb.1,h.bs.2,by omega⟩⟩
def u7{p:aF}(h:Zw 4000 p):Dq 21000000 680 p:=⟨aIs (by have:=h.sz;omega) h.aL h.aD h.zN,by have:=h.sz;simp only[aM,aW]at this;omega,h.bo,(aR3 h).up (by omega)⟩
def xh{n e:Nat}{p:aF}(h:Dq n e p)(hn:n+1442000<=33000000)(he:e<=16777216):Dq (n+1442000) e (fD p):=⟨UG h.on (by omega) he (by decide),by rw[show(fD p).gZ=p.gZ from ED 2000 p];exact h.ho,UX 2000 h.bo,(Nw 2000 _ h.bd (by omega)).2.up (by omega)⟩
def aJs{n e:Nat}{p:aF}(a:aR)(x:bG)(hx:Dn x)(h:Dq n e p)(hn:n+1453000<=33000000)(he:e+1400<=16777216):Dq (n+1453000) (e+1400) (lS p a x):=⟨(XU a x h.on (by omega) he (by decide)).up (by omega) (eJ _),by rw[Rm];exact h.ho,X5 a x h.bo,(aDv a x hx h.bd (by omega)).up (by omega)⟩
def Dq.up{n e n2 e2:Nat}{q:aF}(h:Dq n e q)(h1:n<=n2)(h2:e<=e2):Dq n2 e2 q:=⟨h.on.up h1 h2,h.ho,h.bo,h.bd.up (by omega)⟩
def aV8(r:AV):Prop:=∃(p:aF) (l:List gP),r= .iL [.agg (aH .view p),.sl .view 2 (l.map (dP .view))]/\Dq 30000000 8000 p/\dS eF l<=24000
def QC[aG prog][dG prog][fI prog][qR prog]:Hf prog 41 [] aV8:=by
 refine aVw aK [3] func41 ntmps41 ?_;intro code i h hi hl;simp only[bH];refine bZ ?_;refine cu (Ro) ?_;rintro _ i1 h1 ⟨l,rfl,hzl,hgl⟩ hi1;simp only[AS.drew,AS.bW,bH,AS.put,aU,aN,gT,dM,gN,dI,gW,dL,cH,cQ,eE,eA,cW];refine bZ ?_;refine cu (ZA) ?_;rintro _ i2 h2 ⟨p,rfl,hp⟩ hi2;simp only[AS.drew,AS.bW,bH,AS.put,aU,aN,gT,dM,gN,dI,gW,dL,cH,cQ,eE,eA,cW];have hp1:=u7 hp;clear hp;have ca:=(BN p hp1.on (by omega) (by omega) (by decide) (by decide)).Dk (r':= .agg (aH .view (fD p))) (by simp[rt]);have hpa:=xh hp1 (by omega) (by omega);generalize fD p=pa at*;simp only[aH]at ca⊢;refine bZ ?_;refine Zt (λs'=>∃(q:aF) (j g:Int),Dq 22442000 680 q/\0<=j/\mZ s' ⟨[.ptr 0 2 0 0,.aB,.ptr 1 0 0 0,.aB,.sl .view 2 (l.map (dP .view)),.ptr 2 0 0 0,.aB,.aB,.aB,.aB,.aB,.aB,.aB,.aB,.aB,.aB,.aB,.aB,.aB,.aB,.aB,.aB,.aB,.aB,.aB,.aB,.aB,.aB,.aB,.aB,.aB,.aB,.aB,.aB,.aB,.aB,.aB,.aB,.aB,.aB,.aB,.aB,.aB,.aB,.aB,.aB,.aB,.aB,.aB,.aB,.aB,.aB,.aB,.aB,.aB,.aB,.aB,.aB,.aB,.aB,.aB,.aB,.aB,.aB],[⟨true,true,3,2,[[.sl .view 1 (bL code),.int .i64 j,.int .i64 g]]⟩,⟨true,true,22,0,[[.str [],.str [],.bool false,.sl .own 1 [],.sl .own 1 [],.sl .own 1 [],.str [],.str [],.sl .own 4 [],.bool false,.sl .own 4 [],.sl .own 1 [],.sl .own 8 [],.sl .own 5 [],.sl .own 2 [],.int .i64 0,.int .i64 0,.int .i64 0,.int .i64 0,.sl .own 2 [],.sl .own 1 [],.bool false]]⟩,⟨true,true,22,0,[aH .view q]⟩]⟩) ?_ ?_
 rotate_left
 .rw [vO];refine bZ ?_;refine cu (kY 2) ?_;rintro _ i3 h3 ⟨b,rfl⟩ hi3;simp only[AS.drew,AS.bW,bH,AS.put,aU,aN,gT,dM,gN,dI,gW,dL,cH,cQ,eE,eA,cW];cases b
  .refine bZ ?_;exact⟨rfl,p,i3,h3,hp1.up (by omega) (by omega),hi3,aQ 3 (by simp[aH]) (by simp) (by simp) (by simp)⟩
  .refine bZ ?_;exact⟨rfl,pa,i3,h3,hpa.up (by omega) (by omega),hi3,aQ 3 (by simp[aH]) (by simp) (by simp) (by simp)⟩
 .clear ca hpa hp1;rintro s' ⟨q,j,g,hq,hj,hwk⟩;repeat refine go_seq ?_
  refine KE hwk ?_;clear hwk pa p;simp only[aH];refine bZ ?_;refine cu (mP 6) ?_;rintro _ i3 h3 ⟨x,rfl,x0,x1,x2⟩ hi3;simp only[AS.drew,AS.bW,bH,AS.put,aU,aN,gT,dM,gN,dI,gW,dL,cH,cQ,eE,eA,cW];obtain⟨n,rfl⟩:=hY x0;have hn5:n<=5:=by omega
  refine bZ ?_;refine aT (ι:={y:Nat×aF×Int×Int // y.1<=5/\Dq (22442000+1453000*(5-y.1)) (680+1400*(5-y.1)) y.2.1/\0<=y.2.2.1}) (λt o y=>⟨[.ptr 0 2 0 0,.aB,.ptr 1 0 0 0,.aB,.sl .view 2 (l.map (dP .view)),.ptr 2 0 0 0,.int .i64 (y.1.1:Int),.aB,.aB,.aB,.aB,.aB,.aB,.aB,.aB,.aB,.aB,.aB,.aB,.aB,.aB,.aB,.aB,.aB,.aB,.aB,.aB,.aB,.aB,.aB,.aB,.aB,.aB,.aB,.aB,.aB,.aB,.aB,.aB,.aB,.aB,.aB,.aB,.aB,.aB,.aB,.aB,.aB,.aB,.aB,.aB,.aB,.aB,.aB,.aB,.aB,.aB,.aB,.aB,.aB,.aB,.aB,.aB,.aB],[⟨true,true,3,2,[[.sl .view 1 (bL code),.int .i64 y.1.2.2.1,.int .i64 y.1.2.2.2]]⟩,⟨true,true,22,0,[[.str [],.str [],.bool false,.sl .own 1 [],.sl .own 1 [],.sl .own 1 [],.str [],.str [],.sl .own 4 [],.bool false,.sl .own 4 [],.sl .own 1 [],.sl .own 8 [],.sl .own 5 [],.sl .own 2 [],.int .i64 0,.int .i64 0,.int .i64 0,.int .i64 0,.sl .own 2 [],.sl .own 1 [],.bool false]]⟩,⟨true,true,22,0,[aH .view y.1.2.1]⟩]⟩)
   (λy=>y.1.1) ⟨(n,q,i3,h3),hn5,hq.up (by simp only;omega) (by simp only;omega),hi3⟩ (aQ 3 (by simp[aH])) ?_
  clear hq hj;rintro⟨⟨k,p,i,h⟩,hk,hp,hi⟩ K1 hK1;simp only at hk hp hi;have hK2:=hK1;clear hK1;simp only;by_cases hlt:0<k
  .have hk0:(k:Int) > 0:=by omega
   have hk1:i64.wrap ((k:Int)-1)=((k-1:Nat):Int):=by rw[wrap64]<;>omega
   have hsz:=hp.on.sz;have hsl:=hp.on.sl;have hml:p.aL.length<=16777:=by simp only[dS]at hsz;omega
   have cn:=(Fg p (by omega) (by omega)).Dk (r':= .sl .view 5 ((nX p).map eG)) (by simp[rt]);have hrz:=λ(r:iO) (hr:r∈nX p)=>xe hr
   generalize nX p=rq at*;simp only[aH]at cn⊢;by_cases hrl:0<rq.length
   .have hri:(rq.length:Int) > 0:=by omega
    have W:=aA hk0 (aA hri hrl);refine wl ?_;refine cu (mP (rq.length:Int)) ?_;rintro _ i4 h4 ⟨x,rfl,z0,_,z2⟩ hi4;simp only[AS.drew,AS.bW,bH,AS.put,aU,aN,gT,dM,gN,dI,gW,dL,cH,cQ,eE,eA,cW];obtain⟨m,rfl⟩:=hY z0;have hmi:(m:Int)<(rq.length:Int):=z2 (by omega);have hmn:m<rq.length:=by omega
    obtain⟨r,hgr,hmr⟩:∃r,rq[m]? =some r/\r∈rq:=⟨_,aE hmn,gR hmn⟩;have hra:=hrz r hmr;have has:=NB l r.to;have ct:=GJ l r.to (by omega);have cf:=(En p r.to (wE l r.to) hp.on (by omega) (by omega) (by decide) (by decide) (by omega) (by omega)).Dk (r':= .agg (aH .view (lS p r.to (wE l r.to)))) (by simp[rt]);have hpn:=aJs r.to (wE l r.to) (ZE hgl r.to) hp (by omega) (by omega);clear hmn hrz hmr has;generalize lS p r.to (wE l r.to)=q2 at*;generalize wE l r.to=x at*;simp only[aH,aS,bR]at ct cf⊢;have W:=aA hmi (aA hgr hk1);refine wl ?_;refine hK2 _ ⟨(k-1,q2,i4,h4),by simp only;omega,hpn.up (by simp only;omega) (by simp only;omega),hi4⟩ (aQ 3 (by simp[aH])) (by simp only;omega)
   .have hri:¬(rq.length:Int) > 0:=by omega
    have W:=aA hk0 (aA hri (aA hrl hk1));refine wl ?_;refine hK2 _ ⟨(k-1,p,i,h),by simp only;omega,hp.up (by simp only;omega) (by simp only;omega),hi⟩ (aQ 3 (by simp[aH])) (by simp only;omega)
  .have hk0:¬(k:Int) > 0:=by omega
   have hp2:Dq 30000000 8000 p:=hp.up (by omega) (by omega);have hbd:Bd 500 p:=hp.bd.up (by omega);clear hK2 hp;simp only[aH];have W:=hk0;refine wl ?_;refine cu (mP 24) ?_;rintro _ i5 h5 ⟨x5,rfl,y0,y1,y2⟩ hi5;simp only[AS.drew,AS.bW,bH,AS.put,aU,aN,gT,dM,gN,dI,gW,dL,cH,cQ,eE,eA,cW];by_cases e0:x5=0
   .have W:=e0;refine wl ?_;refine oU (i:=3) (bY:=1) (by rfl) (by rfl) ?_ (by simp[AS.frozen,vK,uZ,tH,vY,aI.tH,aI.kill,lW,tJ,rt];rfl);refine cu (Bc [-1,1,9] (by decide)) ?_;rintro _ i6 h6 ⟨z,hz,rfl⟩ hi6;simp only[AS.drew,AS.bW,bH,AS.put,aU,aN,gT,dM,gN,dI,gW,dL,cH,cQ,eE,eA,cW];refine bZ ?_;refine⟨.inr rfl,rW (by simp[results41];rfl) (by rfl) (by rfl) (by omega) (by simp) (by simp) ?_⟩;simp only[bX,res];exact⟨{p with eH:=z},l,by simp[aH],⟨⟨hp2.on.at_,hp2.on.ga,hp2.on.en,hp2.on.sl⟩,hp2.ho,hp2.bo,(ZC hbd z p.fA p.dX).up (by omega)⟩,hzl⟩
   .by_cases e1:x5=1
    .have e0b:¬((1:Int)=0):=by decide
     subst e1;refine bZ ?_;refine oU (i:=3) (bY:=1) (by rfl) (by rfl) ?_ (by simp[AS.frozen,vK,uZ,tH,vY,aI.tH,aI.kill,lW,tJ,rt];rfl);refine cu (Bc [-1,1,9] (by decide)) ?_;rintro _ i6 h6 ⟨z,hz,rfl⟩ hi6;simp only[AS.drew,AS.bW,bH,AS.put,aU,aN,gT,dM,gN,dI,gW,dL,cH,cQ,eE,eA,cW];refine bZ ?_;refine⟨.inr rfl,rW (by simp[results41];rfl) (by rfl) (by rfl) (by omega) (by simp) (by simp) ?_⟩;simp only[bX,res];exact⟨{p with fA:=z},l,by simp[aH],⟨⟨hp2.on.at_,hp2.on.ga,hp2.on.en,hp2.on.sl⟩,hp2.ho,hp2.bo,(ZC hbd p.eH z p.dX).up (by omega)⟩,hzl⟩
    .by_cases e2:x5=2
     .subst e2;refine bZ ?_;refine⟨.inr rfl,rW (by simp[results41];rfl) (by rfl) (by rfl) (by omega) (by simp) (by simp) ?_⟩;simp only[bX,res];exact⟨{p with dX:= !p.dX},l,by simp[aH],⟨⟨hp2.on.at_,hp2.on.ga,hp2.on.en,hp2.on.sl⟩,hp2.ho,hp2.bo,(ZC hbd p.eH p.fA (!p.dX)).up (by omega)⟩,hzl⟩
     .have W:=aA e0 (aA e1 e2);refine wl ?_;refine⟨.inr rfl,rW (by simp[results41];rfl) (by rfl) (by rfl) (by omega) (by simp) (by simp) ?_⟩;simp only[bX,res];exact⟨p,l,by simp[aH],hp2,hzl⟩
def aPa(r:AV):Prop:=∃p:aF,r= .agg (aH .view p)/\Dq 30000000 8000 p
def JC[aG prog][dG prog][fI prog][qR prog](code:List UInt8):OkE prog 17 [.sl .view 1 (bL code)] aPa:=by
 refine aVu aK func17 ntmps17 ?_;have W:=trivial;repeat' first|refine st ?_|(refine nx ?_;refine so ?_)|(refine cx ?_;refine sc (λhc=>?_) (λhc=>?_)<;>try exact hc.elim)|(refine lx ?_;refine sp (λhc=>?_) (λhc=>?_)<;>try exact hc.elim)|refine sx ?_ ?_|refine sy ?_ ?_|fail
 refine cn (Vj) ?_;intro i h hi;simp only[AS.SN,bH,AS.put,fL,eL,Nat.reduceAdd,lR,cH,cQ,eE,eA,cW];have W:=trivial;repeat' first|refine st ?_|(refine nx ?_;refine so ?_)|(refine cx ?_;refine sc (λhc=>?_) (λhc=>?_)<;>try exact hc.elim)|(refine lx ?_;refine sp (λhc=>?_) (λhc=>?_)<;>try exact hc.elim)|refine sx ?_ ?_|refine sy ?_ ?_|fail
 refine cu (QC) ?_;rintro _ i2 h2 ⟨p,l,rfl,hp,hz⟩ hi2;simp only[AS.drew,AS.bW,bH,AS.put,aU,aN,gT,dM,gN,dI,gW,dL,cH,cQ,eE,eA,cW];simp only[aH];have W:=trivial;repeat' first|refine st ?_|(refine nx ?_;refine so ?_)|(refine cx ?_;refine sc (λhc=>?_) (λhc=>?_)<;>try exact hc.elim)|(refine lx ?_;refine sp (λhc=>?_) (λhc=>?_)<;>try exact hc.elim)|refine sx ?_ ?_|refine sy ?_ ?_|fail
 refine⟨.inr rfl,Lx (by simp[results17];rfl) (by simp) (by simp) ?_⟩;simp only[bX,res];exact⟨p,by simp[aH],hp⟩
def xk{p:aF}(h:Dq 30000000 8000 p):aM p<=30000000/\p.aD.length<=20/\p.aL.length<=8000:=by obtain⟨h1,h2⟩:=h.on.sz;exact⟨h1,h.on.sl,by simp only[dS]at h2;omega⟩
def LG[aG prog][dG prog][fI prog][qR prog](code:List UInt8):OkE prog 5 [.sl .view 1 (bL code)] aPa:=by have cq:=JC code;refine aVu aK func5 ntmps5 ?_;refine bZ ?_;refine ce (cq) ?_;rintro _ ⟨p,rfl,hp⟩;simp only[AS.bW,AS.put,aU,aN,gT,dM,gN,dI,gW,dL,cH,cQ,eE,eA,cW];simp only[aH];refine bZ ?_;refine⟨.inr rfl,Lx (by simp[results5];rfl) (by simp) (by simp) ?_⟩;simp only[bX,res];exact⟨p,by simp[aH],hp⟩
def aV9(r:AV):Prop:=∃(p:aF) (a:aR) (x:bG),r= .iL [.agg (aH .view p),.agg (aS a),.agg (bR x)]/\Dq 30000000 8000 p/\aW a<=30000000/\dC x<=24100
def GR[aG prog][dG prog][fI prog][qR prog](code:List UInt8):OkE prog 14 [.sl .view 1 (bL code)] aV9:=by
 refine aO6 aK [5,8,10] func14 ntmps14 ?_;refine bZ ?_;refine cn (Vj) ?_;intro i h hi;simp only[AS.SN,bH,AS.put,fL,eL,Nat.reduceAdd,lR,cH,cQ,eE,eA,cW];refine bZ ?_;refine cu (QC) ?_;rintro _ i1 h1 ⟨p,l,rfl,hp,hz⟩ hi1;simp only[AS.drew,AS.bW,bH,AS.put,aU,aN,gT,dM,gN,dI,gW,dL,cH,cQ,eE,eA,cW];obtain⟨z1,z2,z3⟩:=xk hp;simp only[aH];refine bZ ?_;refine cu (uz) ?_;rintro _ i2 h2 ⟨a,rfl,ha⟩ hi2;simp only[AS.drew,AS.bW,bH,AS.put,aU,aN,gT,dM,gN,dI,gW,dL,cH,cQ,eE,eA,cW];have cn:=(Fg p (by omega) (by omega)).Dk (r':= .sl .view 5 ((nX p).map eG)) (by simp[rt]);have hrz:=λ(r:iO) (hr:r∈nX p)=>xe hr
 generalize nX p=rq at*;simp only[aH,aS]at cn⊢;refine bZ ?_;refine Zt (λs'=>∃(b:aR) (j g:Int),aW b<=30000000/\0<=j/\mZ s' ⟨[.sl .view 1 (bL code),.aB,.ptr 0 0 0 0,.ptr 1 0 0 0,.ptr 2 0 0 0,.ptr 3 0 0 0,.ptr 4 0 0 0,.sl .view 2 (l.map (dP .view)),.ptr 5 0 0 0,.aB,.aB,.aB,.aB,.aB,.aB,.aB,.aB,.aB,.aB,.aB,.aB,.aB,.aB,.aB,.aB,.aB,.aB,.aB,.aB,.aB,.aB,.aB,.aB,.aB,.aB,.aB,.aB,.aB,.aB,.aB,.aB,.aB,.aB,.aB],[⟨true,true,22,0,[[.str [],.str [],.bool false,.sl .own 1 [],.sl .own 1 [],.sl .own 1 [],.str [],.str [],.sl .own 4 [],.bool false,.sl .own 4 [],.sl .own 1 [],.sl .own 8 [],.sl .own 5 [],.sl .own 2 [],.int .i64 0,.int .i64 0,.int .i64 0,.int .i64 0,.sl .own 2 [],.sl .own 1 [],.bool false]]⟩,⟨true,true,2,0,[[.str [],.str []]]⟩,⟨true,true,6,0,[[.int .i64 0,.int .i64 0,.str [],.int .i64 0,.bool false,.str []]]⟩,⟨true,true,3,0,[[.sl .view 1 (bL code),.int .i64 j,.int .i64 g]]⟩,⟨true,true,22,0,[aH .view p]⟩,⟨true,true,2,0,[aS b]⟩]⟩) ?_ ?_
 rotate_left
 .rw [vO];by_cases hrl:0<rq.length
  .have hri:(rq.length:Int) > 0:=by omega
   obtain⟨r,hgr,hmr⟩:∃r,rq[0]? =some r/\r∈rq:=⟨_,aE hrl,gR hrl⟩;have hra:=hrz r hmr;clear cn hrz;have W:=aA hri hrl;repeat' first|(refine go_takeC (by rfl) (by first|rfl|(simp[qN,W];done)|(simp[qN,W];rfl)) ?_;refine cu (kY 4) ?_)|refine st ?_|(refine nx ?_;refine so ?_)|(refine cx ?_;refine sc (λhc=>?_) (λhc=>?_)<;>try exact hc.elim)|(refine lx ?_;refine sp (λhc=>?_) (λhc=>?_)<;>try exact hc.elim)|refine sx ?_ ?_|refine sy ?_ ?_|fail
   rintro _ i3 h3 ⟨b,rfl⟩ hi3;simp only[AS.drew,AS.bW,bH,AS.put,aU,aN,gT,dM,gN,dI,gW,dL,cH,cQ,eE,eA,cW];cases b
   .have W:=aA hri hgr;refine wl ?_;exact⟨rfl,r.to,i3,h3,by omega,hi3,aQ 6 (by simp[aH,aS]) (by simp) (by simp) (by simp)⟩
   .have W:=hri;refine wl ?_;exact⟨rfl,a,i3,h3,by omega,hi3,aQ 6 (by simp[aH,aS]) (by simp) (by simp) (by simp)⟩
  .obtain rfl:rq=[]:=gO (by omega);clear cn hrz hrl;refine bZ ?_;exact⟨rfl,a,i2,h2,by omega,hi2,aQ 6 (by simp[aH,aS]) (by simp) (by simp) (by simp)⟩
 .clear cn hrz;rintro s' ⟨b,j,g,hb,hj,hwk⟩;repeat refine go_seq ?_
  refine KE hwk ?_;clear hwk;have has:=NB l b;have ct:=GJ l b (by omega);generalize wE l b=x at*;simp only[aH,aS,bR]at ct⊢;refine bZ ?_;refine Zt (λs'=>∃(y:bG) (j g:Int),dC y<=24100/\0<=j/\mZ s' ⟨[.sl .view 1 (bL code),.aB,.ptr 0 0 0 0,.ptr 1 0 0 0,.ptr 2 0 0 0,.ptr 3 0 0 0,.ptr 4 0 0 0,.aB,.ptr 5 0 0 0,.aB,.ptr 6 0 0 0,.aB,.aB,.aB,.aB,.aB,.aB,.aB,.aB,.aB,.aB,.aB,.aB,.aB,.aB,.aB,.aB,.aB,.aB,.aB,.aB,.aB,.aB,.aB,.aB,.aB,.aB,.aB,.aB,.aB,.aB,.aB,.aB,.aB],[⟨true,true,22,0,[[.str [],.str [],.bool false,.sl .own 1 [],.sl .own 1 [],.sl .own 1 [],.str [],.str [],.sl .own 4 [],.bool false,.sl .own 4 [],.sl .own 1 [],.sl .own 8 [],.sl .own 5 [],.sl .own 2 [],.int .i64 0,.int .i64 0,.int .i64 0,.int .i64 0,.sl .own 2 [],.sl .own 1 [],.bool false]]⟩,⟨true,true,2,0,[[.str [],.str []]]⟩,⟨true,true,6,0,[[.int .i64 0,.int .i64 0,.str [],.int .i64 0,.bool false,.str []]]⟩,⟨true,true,3,0,[[.sl .view 1 (bL code),.int .i64 j,.int .i64 g]]⟩,⟨true,true,22,0,[aH .view p]⟩,⟨true,true,2,0,[aS b]⟩,⟨true,true,6,0,[bR y]⟩]⟩) ?_ ?_
  rotate_left
  .rw [vO];clear ct;refine bZ ?_;refine cu (kY 6) ?_;rintro _ i4 h4 ⟨c,rfl⟩ hi4;simp only[AS.drew,AS.bW,bH,AS.put,aU,aN,gT,dM,gN,dI,gW,dL,cH,cQ,eE,eA,cW];cases c
   .refine bZ ?_;exact⟨by first|rfl|trivial,x,i4,h4,by omega,hi4,aQ 7 (by simp[aH,aS,bR]) (by simp) (by simp) (by simp)⟩
   .refine bZ ?_;refine cu (Vp) ?_;rintro _ i5 h5 ⟨y,rfl,hy⟩ hi5;simp only[AS.drew,AS.bW,bH,AS.put,aU,aN,gT,dM,gN,dI,gW,dL,cH,cQ,eE,eA,cW];simp only[bR];refine bZ ?_;exact⟨by first|rfl|trivial,y,i5,h5,by omega,hi5,aQ 7 (by simp[aH,aS,bR]) (by simp) (by simp) (by simp)⟩
  .clear ct;rintro s' ⟨v,j2,g2,hy,hj2,hwk⟩;refine j4 hwk ?_;clear hwk;refine bZ ?_;refine RV (ι:=Unit) (λJ y=>⟨[.sl .view 1 (bL code),.aB,.ptr 0 0 0 0,.ptr 1 0 0 0,.ptr 2 0 0 0,.ptr 3 0 0 0,.ptr 4 0 0 0,.aB,.ptr 5 0 0 0,.aB,.ptr 6 0 0 0]++un 30 ([dv J 0 (.agg (aH .view p)),dv J 1 (.agg (aS b)),dv J 2 (.agg (bR v))]),[⟨true,true,22,0,[cond (J 3) (aH .view p) [.str [],.str [],.bool false,.sl .own 1 [],.sl .own 1 [],.sl .own 1 [],.str [],.str [],.sl .own 4 [],.bool false,.sl .own 4 [],.sl .own 1 [],.sl .own 8 [],.sl .own 5 [],.sl .own 2 [],.int .i64 0,.int .i64 0,.int .i64 0,.int .i64 0,.sl .own 2 [],.sl .own 1 [],.bool false]]⟩,⟨true,true,2,0,[cond (J 4) (aS b) [.str [],.str []]]⟩,⟨true,true,6,0,[cond (J 5) (bR v) [.int .i64 0,.int .i64 0,.str [],.int .i64 0,.bool false,.str []]]⟩,⟨true,true,3,0,[[.sl .view 1 (bL code),.int .i64 j2,.int .i64 g2]]⟩,⟨true,true,22,0,[aH .view p]⟩,⟨true,true,2,0,[aS b]⟩,⟨true,true,6,0,[bR v]⟩]⟩) (()) (aP (by simp[un]) (by simp[dv,un])) ?_ ?_
   .simp only[wz,pS,un,cW,eA];exact⟨iv,iv,iv,iv,iv,iv⟩
   .rintro J y hJ;have hJs:∀i,i<6->J i=true:=hJ;simp only[dv,hJs,Nat.reduceLT,eS,gE,fS,cW,eA,eE,un];clear hJs hJ J;refine bZ ?_;refine⟨.inr rfl,Lx (by simp[results14];rfl) (by simp) (by simp) ?_⟩;simp only[bX,res];exact⟨p,b,v,by simp[aH,aS,bR],hp,hb,hy⟩
end Go.Proofs.YtanobkmhbpjnpaaGreatDoor
