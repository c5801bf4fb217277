/- Proved here: steps towards the statement of this claim. No condition. -/
import Derived.Test.YtnkpkklemmgapaaGreatDoorZQFMZ
import Derived.Test.YtnkpkklemmgapaaGreatDoorZSP2
import Derived.Test.YtnkpkklemmgapaaGreatDoorZQST4
set_option linter.all false
set_option maxRecDepth 8000
set_option maxHeartbeats 8000000
namespace Go.Proofs.YtnkpkklemmgapaaGreatDoor
open Go.Aw Proofs.Tryz List IntKind
theorem DX[aB prog][eO prog][dY prog][pM prog]{n e s:Nat}(p:aC)(h0:RB n e s p)(hn:n+1442000<=500000000)(he:e<=16777216)(UB:20<=s)(aP2:s<=16777216):Ok prog 73 [.agg (aQ .view p)] (.agg (aQ .own (advance p))):=by
 have hs:=h0.sz.1;have c1:=fQ p (by omega);unfold advance;generalize hr:oZ 2000 p=r at*;simp only[aQ]at c1;refine dL aO func73 ntmps73 ?_;refine oU ?_;refine aI (ι:={x:Nat×aC // x.1<=2000/\RB (n+721*x.1) e s x.2/\oZ (2000-x.1) x.2=r}) (λt o i=>⟨bH t [(4,.int .i64 i.1.1),(5,.undef),(6,.undef),(8,.undef)],o.take 2++ZP i.1.2++[⟨true,true,22,0,[ZQ 2 i.1.2]⟩]⟩)
  (λi=>2000-i.1.1) ⟨(0,p),by simp,h0.up (by omega) (eE _),hr⟩ (aG (by simp[ZP,ZQ]) (by simp)) ?_
 rintro⟨⟨k,q⟩,hk,qE,aD8⟩ K1 hK1;simp only at hk qE aD8;clear h0 hr hs c1;have hk1:=rE (k:=k);by_cases hlt:k<2000
 .have hki:(k:Int)<2000:=by omega
  obtain⟨hz,hme⟩:=qE.sz;have c2:=KA q (by omega);have c3:=NU q (by omega) (by have:=qE.sl;omega) (by omega);obtain⟨g1,g2⟩:=aMa hlt aD8;have hnx:=(yn qE (by omega) he UB).up (n2:=n+721*(k+1)) (by omega) (eE _);unfold uF at g1 g2 hnx;have hK2:=hK1;simp only[bH,cH,cJ,fL,lE,cW,cY,ZP,ZQ]at hK1⊢;cases hb:(kR q).2
  .rw [hb]at c2;rw[eK (by rw[hb];simp)]at g1 g2 hnx;generalize (kR q).1=q1 at*;cases hb2:(qU q).2
   .rw [hb2]at c3;have hq:=g2 hb2;clear g1 g2 hnx hK2 hK1 qE aD8 hz hme;generalize (qU q).1=q2 at*;subst hq;simp only[aQ]at c2 c3⊢;have W:=hki;refine wl ?_;exact aR results73
   .rw [hb2]at c3;have hq:=g1 hb2;clear g1 g2 hz hme;generalize (qU q).1=q2 at*;simp only[aQ]at c2 c3;have W:=aA hki hk1;refine wl ?_;refine hK2 _ ⟨(k+1,q2),by simp only;omega,hnx,hq⟩ ?_ (by simp only;omega);exact N8 (q:=q2) rfl (by simp[ZP,ZQ]) (by simp[vW]) (by simp[vW]) (by simp) (by simp) (by simp[fI])
  .rw [hb]at c2;rw[eW hb]at g1 g2 hnx;have hq:=g1 hb;clear g1 g2 hz hme c3;generalize (kR q).1=q1 at*;simp only[aQ]at c2;have W:=aA hki hk1;refine wl ?_;refine hK2 _ ⟨(k+1,q1),by simp only;omega,hnx,hq⟩ ?_ (by simp only;omega);exact N7 (q:=q1) rfl (by simp[ZP,ZQ]) (by simp[vV]) (by simp[vV]) (by simp) (by simp) (by simp[fI])
 .have hki:¬(k:Int)<2000:=by omega
  obtain rfl:k=2000:=by omega
  have hq:q=r:=by simpa [oZ]using aD8
  simp only[bH,cH,cJ,fL,lE,cW,cY,ZP,ZQ]at hK1⊢;clear hK1 qE aD8;subst hq;simp only[aQ];refine oU ?_;exact aR results73
theorem KD[aB prog][eO prog][dY prog][pM prog]{n e s:Nat}(p:aC)(a:aK)(x:bE)(h:RB n e s p)(hn:n+400*s+1445000<=500000000)(he:e+1400<=16777216)(UB:20<=s)(aP2:s<=16777216)(ha:aP a<=500000000)(hx:dE x<=1048576):Ok prog 75 [.agg (aQ .view p),.agg (bC a),.agg (cZ x)] (.agg (aQ .own (qA p a x))):=by have h1:=QE a x h;have h2:=Ze a x h1;have c1:=QA p a x (by have h5:=h.sz.1;have h6:=h.sl;omega) hx;have c2:=KC (nT p a x) a x (by have:=h1.sz.1;omega) hx;have c3:=DX (kV (nT p a x) a x) h2 (by omega) he UB aP2;unfold qA;generalize advance (kV (nT p a x) a x)=r at*;clear h1 h2 h;generalize kV (nT p a x) a x=q2 at*;generalize nT p a x=q1 at*;simp only[aQ,bC,cZ]at c1 c2 c3⊢;refine dL aO func75 ntmps75 ?_;refine oU ?_;exact aR results75
theorem Wh(l:List fE)(a:aK):dE (wQ l a)<=bV bT l+100:=by
 unfold wQ;split
 .rename_i s hs;split
  .rename_i f hf;have h1:=dS bT (pZ hs);have h2:=dS Eu (pZ hf);simp only[bV,bT,Eu]at*;omega
  .simp [dE,notFound];try omega
 .simp [dE,notFound];try omega
theorem aEv{p:aC}{r:gG}(h:r∈xU p):aP r.to<=aM p:=by
 unfold xU at h;rcases fS.1 h with h|h
 .obtain ⟨x,hx,rfl⟩:=qS.1 h;unfold qG;split
  .rename_i s hs;have h7:=dS iU (mB hs);simp only[iU,jJ,aM,bV]at*;omega
  .simp [aP,xq]
 .obtain ⟨x,hx,rfl⟩:=qS.1 h;unfold Au;split
  .rename_i s hs;have h7:=dS bI (mB hs);simp only[bI,jN,aM,bV]at*;omega
  .simp [aP,xq]
structure xE(n e:Nat)(p:aC): Prop where
  on:RB n e 20 p
  ho:p.addr.host.length <= 4000
  bo:Fs p.builder
theorem qh{p:aC}(h:Zn 4000 p):xE 21000000 680 p:=⟨aD4 (by have:=h.sz;omega) h.aN h.aF h.wY,by have:=h.sz;simp only[aM,aP]at this;omega,h.bo⟩
theorem aEw{n e:Nat}{p:aC}(h:xE n e p)(hn:n+1442000<=33000000)(he:e<=16777216):xE (n+1442000) e (advance p):=⟨QD h.on (by omega) he (by decide),by rw[show(advance p).addr=p.addr from BS 2000 p];exact h.ho,QO 2000 h.bo⟩
theorem aEx{n e:Nat}{p:aC}(a:aK)(x:bE)(h:xE n e p)(hn:n+1453000<=33000000)(he:e+1400<=16777216):xE (n+1453000) (e+1400) (qA p a x):=⟨(M9 a x h.on (by omega) he (by decide)).up (by omega) (eE _),by rw[NY];exact h.ho,oz a x h.bo⟩
theorem xE.up{n e n2 e2:Nat}{q:aC}(h:xE n e q)(h1:n<=n2)(h2:e<=e2):xE n2 e2 q:=⟨h.on.up h1 h2,h.ho,h.bo⟩
def aQg(r:AV):Prop:=∃(p:aC) (l:List fE),r= .iP [.agg (aQ .view p),.sl .view 2 (l.map (bN .view))]/\xE 30000000 8000 p/\bV bT l<=24000
theorem Nh[aB prog][dY prog][eO prog][pM prog]:Jo prog 47 [] aQg:=by
 refine aQa aO [3] func47 ntmps47 ?_;intro code i h hi hl;simp only[aV];have W:=trivial;repeat' first|refine st ?_|(refine nx ?_;refine so ?_)|(refine cx ?_;refine sc (λhc=>?_) (λhc=>?_)<;>try exact hc.elim)|(refine lx ?_;refine sp (λhc=>?_) (λhc=>?_)<;>try exact hc.elim)|refine sx ?_ ?_|refine sy ?_ ?_|fail
 refine cu (QZ) ?_;rintro _ i1 h1 ⟨l,rfl,hzl⟩ hi1;simp only[AS.drew,AS.called,aV,AS.put,aJ,aH,eU,bS,eQ,bQ,eZ,bR,cH,cJ,eC,cY,cW];have W:=trivial;repeat' first|refine st ?_|(refine nx ?_;refine so ?_)|(refine cx ?_;refine sc (λhc=>?_) (λhc=>?_)<;>try exact hc.elim)|(refine lx ?_;refine sp (λhc=>?_) (λhc=>?_)<;>try exact hc.elim)|refine sx ?_ ?_|refine sy ?_ ?_|fail
 refine cu (We) ?_;rintro _ i2 h2 ⟨p,rfl,hp⟩ hi2;simp only[AS.drew,AS.called,aV,AS.put,aJ,aH,eU,bS,eQ,bQ,eZ,bR,cH,cJ,eC,cY,cW];have hp1:=qh hp;clear hp;have ca:=(DX p hp1.on (by omega) (by omega) (by decide) (by decide)).Dt (r':= .agg (aQ .view (advance p))) (by simp[rt]);have hpa:=aEw hp1 (by omega) (by omega);generalize advance p=pa at*;simp only[aQ]at ca⊢;have W:=trivial;repeat' first|refine st ?_|(refine nx ?_;refine so ?_)|(refine cx ?_;refine sc (λhc=>?_) (λhc=>?_)<;>try exact hc.elim)|(refine lx ?_;refine sp (λhc=>?_) (λhc=>?_)<;>try exact hc.elim)|refine sx ?_ ?_|refine sy ?_ ?_|fail
 refine aIn (λs'=>∃(q:aC) (j g:Int),xE 22442000 680 q/\0<=j/\kY s' ⟨[.ptr 0 2 0 0,.undef,.ptr 1 0 0 0,.undef,.sl .view 2 (l.map (bN .view)),.ptr 2 0 0 0,.undef,.undef,.undef,.undef,.undef,.undef,.undef,.undef,.undef,.undef,.undef,.undef,.undef,.undef,.undef,.undef,.undef,.undef,.undef,.undef,.undef,.undef,.undef,.undef,.undef,.undef,.undef,.undef,.undef,.undef,.undef,.undef,.undef,.undef,.undef,.undef,.undef,.undef,.undef,.undef,.undef,.undef,.undef,.undef,.undef,.undef,.undef,.undef,.undef,.undef,.undef,.undef,.undef,.undef,.undef,.undef,.undef,.undef],[⟨true,true,3,2,[[.sl .view 1 (bA code),.int .i64 j,.int .i64 g]]⟩,⟨true,true,22,0,[[.str [],.str [],.bool false,.sl .own 1 [],.sl .own 1 [],.sl .own 1 [],.str [],.str [],.sl .own 4 [],.bool false,.sl .own 4 [],.sl .own 1 [],.sl .own 8 [],.sl .own 5 [],.sl .own 2 [],.int .i64 0,.int .i64 0,.int .i64 0,.int .i64 0,.sl .own 2 [],.sl .own 1 [],.bool false]]⟩,⟨true,true,22,0,[aQ .view q]⟩]⟩) ?_ ?_
 rotate_left
 .rw [wL];have W:=trivial;repeat' first|refine st ?_|(refine nx ?_;refine so ?_)|(refine cx ?_;refine sc (λhc=>?_) (λhc=>?_)<;>try exact hc.elim)|(refine lx ?_;refine sp (λhc=>?_) (λhc=>?_)<;>try exact hc.elim)|refine sx ?_ ?_|refine sy ?_ ?_|fail
  refine cu (iA 2) ?_;rintro _ i3 h3 ⟨b,rfl⟩ hi3;simp only[AS.drew,AS.called,aV,AS.put,aJ,aH,eU,bS,eQ,bQ,eZ,bR,cH,cJ,eC,cY,cW];cases b
  .have W:=trivial;repeat' first|refine st ?_|(refine nx ?_;refine so ?_)|(refine cx ?_;refine sc (λhc=>?_) (λhc=>?_)<;>try exact hc.elim)|(refine lx ?_;refine sp (λhc=>?_) (λhc=>?_)<;>try exact hc.elim)|refine sx ?_ ?_|refine sy ?_ ?_|fail
   exact⟨rfl,p,i3,h3,hp1.up (by omega) (by omega),hi3,aL 3 (by simp[aQ]) (by simp) (by simp) (by simp)⟩
  .have W:=trivial;repeat' first|refine st ?_|(refine nx ?_;refine so ?_)|(refine cx ?_;refine sc (λhc=>?_) (λhc=>?_)<;>try exact hc.elim)|(refine lx ?_;refine sp (λhc=>?_) (λhc=>?_)<;>try exact hc.elim)|refine sx ?_ ?_|refine sy ?_ ?_|fail
   exact⟨rfl,pa,i3,h3,hpa.up (by omega) (by omega),hi3,aL 3 (by simp[aQ]) (by simp) (by simp) (by simp)⟩
 .clear ca hpa hp1;rintro s' ⟨q,j,g,hq,hj,hwk⟩;repeat refine go_seq ?_
  refine Pp hwk ?_;clear hwk pa p;simp only[aQ];have W:=trivial;repeat' first|refine st ?_|(refine nx ?_;refine so ?_)|(refine cx ?_;refine sc (λhc=>?_) (λhc=>?_)<;>try exact hc.elim)|(refine lx ?_;refine sp (λhc=>?_) (λhc=>?_)<;>try exact hc.elim)|refine sx ?_ ?_|refine sy ?_ ?_|fail
  refine cu (kW 6) ?_;rintro _ i3 h3 ⟨x,rfl,x0,x1,x2⟩ hi3;simp only[AS.drew,AS.called,aV,AS.put,aJ,aH,eU,bS,eQ,bQ,eZ,bR,cH,cJ,eC,cY,cW];obtain⟨n,rfl⟩:=iS x0;have hn5:n<=5:=by omega
  have W:=trivial;repeat' first|refine st ?_|(refine nx ?_;refine so ?_)|(refine cx ?_;refine sc (λhc=>?_) (λhc=>?_)<;>try exact hc.elim)|(refine lx ?_;refine sp (λhc=>?_) (λhc=>?_)<;>try exact hc.elim)|refine sx ?_ ?_|refine sy ?_ ?_|fail
  refine aI (ι:={y:Nat×aC×Int×Int // y.1<=5/\xE (22442000+1453000*(5-y.1)) (680+1400*(5-y.1)) y.2.1/\0<=y.2.2.1}) (λt o y=>⟨[.ptr 0 2 0 0,.undef,.ptr 1 0 0 0,.undef,.sl .view 2 (l.map (bN .view)),.ptr 2 0 0 0,.int .i64 (y.1.1:Int),.undef,.undef,.undef,.undef,.undef,.undef,.undef,.undef,.undef,.undef,.undef,.undef,.undef,.undef,.undef,.undef,.undef,.undef,.undef,.undef,.undef,.undef,.undef,.undef,.undef,.undef,.undef,.undef,.undef,.undef,.undef,.undef,.undef,.undef,.undef,.undef,.undef,.undef,.undef,.undef,.undef,.undef,.undef,.undef,.undef,.undef,.undef,.undef,.undef,.undef,.undef,.undef,.undef,.undef,.undef,.undef,.undef],[⟨true,true,3,2,[[.sl .view 1 (bA code),.int .i64 y.1.2.2.1,.int .i64 y.1.2.2.2]]⟩,⟨true,true,22,0,[[.str [],.str [],.bool false,.sl .own 1 [],.sl .own 1 [],.sl .own 1 [],.str [],.str [],.sl .own 4 [],.bool false,.sl .own 4 [],.sl .own 1 [],.sl .own 8 [],.sl .own 5 [],.sl .own 2 [],.int .i64 0,.int .i64 0,.int .i64 0,.int .i64 0,.sl .own 2 [],.sl .own 1 [],.bool false]]⟩,⟨true,true,22,0,[aQ .view y.1.2.1]⟩]⟩)
   (λy=>y.1.1) ⟨(n,q,i3,h3),hn5,hq.up (by simp only;omega) (by simp only;omega),hi3⟩ (aL 3 (by simp[aQ])) ?_
  clear hq hj;rintro⟨⟨k,p,i,h⟩,hk,hp,hi⟩ K1 hK1;simp only at hk hp hi;have hK2:=hK1;clear hK1;simp only;by_cases hlt:0<k
  .have hk0:(k:Int) > 0:=by omega
   have hk1:i64.wrap ((k:Int)-1)=((k-1:Nat):Int):=by rw[wrap64]<;>omega
   have hsz:=hp.on.sz;have hsl:=hp.on.sl;have hml:p.aN.length<=16777:=by simp only[bV]at hsz;omega
   have cn:=(LX p (by omega) (by omega)).Dt (r':= .sl .view 5 ((xU p).map gW)) (by simp[rt]);have hrz:=λ(r:gG) (hr:r∈xU p)=>aEv hr
   generalize xU p=rq at*;simp only[aQ]at cn⊢;by_cases hrl:0<rq.length
   .have hri:(rq.length:Int) > 0:=by omega
    have W:=aA hk0 (aA hri hrl);repeat' first|refine st ?_|(refine nx ?_;refine so ?_)|(refine cx ?_;refine sc (λhc=>?_) (λhc=>?_)<;>try exact hc.elim)|(refine lx ?_;refine sp (λhc=>?_) (λhc=>?_)<;>try exact hc.elim)|refine sx ?_ ?_|refine sy ?_ ?_|fail
    refine cu (kW (rq.length:Int)) ?_;rintro _ i4 h4 ⟨x,rfl,z0,_,z2⟩ hi4;simp only[AS.drew,AS.called,aV,AS.put,aJ,aH,eU,bS,eQ,bQ,eZ,bR,cH,cJ,eC,cY,cW];obtain⟨m,rfl⟩:=iS z0;have hmi:(m:Int)<(rq.length:Int):=z2 (by omega);have hmn:m<rq.length:=by omega
    obtain⟨r,hgr,hmr⟩:∃r,rq[m]? =some r/\r∈rq:=⟨_,aE hmn,hI hmn⟩;have hra:=hrz r hmr;have has:=Wh l r.to;have ct:=NJ l r.to (by omega);have cf:=(KD p r.to (wQ l r.to) hp.on (by omega) (by omega) (by decide) (by decide) (by omega) (by omega)).Dt (r':= .agg (aQ .view (qA p r.to (wQ l r.to)))) (by simp[rt]);have hpn:=aEx r.to (wQ l r.to) hp (by omega) (by omega);clear hmn hrz hmr has;generalize qA p r.to (wQ l r.to)=q2 at*;generalize wQ l r.to=x at*;simp only[aQ,bC,cZ]at ct cf⊢;have W:=aA hmi (aA hgr hk1);repeat' first|refine st ?_|(refine nx ?_;refine so ?_)|(refine cx ?_;refine sc (λhc=>?_) (λhc=>?_)<;>try exact hc.elim)|(refine lx ?_;refine sp (λhc=>?_) (λhc=>?_)<;>try exact hc.elim)|refine sx ?_ ?_|refine sy ?_ ?_|fail
    refine hK2 _ ⟨(k-1,q2,i4,h4),by simp only;omega,hpn.up (by simp only;omega) (by simp only;omega),hi4⟩ (aL 3 (by simp[aQ])) (by simp only;omega)
   .have hri:¬(rq.length:Int) > 0:=by omega
    have W:=aA hk0 (aA hri (aA hrl hk1));repeat' first|refine st ?_|(refine nx ?_;refine so ?_)|(refine cx ?_;refine sc (λhc=>?_) (λhc=>?_)<;>try exact hc.elim)|(refine lx ?_;refine sp (λhc=>?_) (λhc=>?_)<;>try exact hc.elim)|refine sx ?_ ?_|refine sy ?_ ?_|fail
    refine hK2 _ ⟨(k-1,p,i,h),by simp only;omega,hp.up (by simp only;omega) (by simp only;omega),hi⟩ (aL 3 (by simp[aQ])) (by simp only;omega)
  .have hk0:¬(k:Int) > 0:=by omega
   have hp2:xE 30000000 8000 p:=hp.up (by omega) (by omega);clear hK2 hp;simp only[aQ];have W:=hk0;repeat' first|refine st ?_|(refine nx ?_;refine so ?_)|(refine cx ?_;refine sc (λhc=>?_) (λhc=>?_)<;>try exact hc.elim)|(refine lx ?_;refine sp (λhc=>?_) (λhc=>?_)<;>try exact hc.elim)|refine sx ?_ ?_|refine sy ?_ ?_|fail
   refine cu (kW 24) ?_;rintro _ i5 h5 ⟨x5,rfl,y0,y1,y2⟩ hi5;simp only[AS.drew,AS.called,aV,AS.put,aJ,aH,eU,bS,eQ,bQ,eZ,bR,cH,cJ,eC,cY,cW];by_cases e0:x5=0
   .have W:=e0;repeat' first|refine st ?_|(refine nx ?_;refine so ?_)|(refine cx ?_;refine sc (λhc=>?_) (λhc=>?_)<;>try exact hc.elim)|(refine lx ?_;refine sp (λhc=>?_) (λhc=>?_)<;>try exact hc.elim)|refine sx ?_ ?_|refine sy ?_ ?_|fail
    refine oI (i:=3) (ver:=1) (by rfl) (by rfl) ?_ (by simp[AS.frozen,uL,tZ,rW,uT,aD.rW,aD.kill,iI,qD,rt];rfl);refine cu (Jd [-1,1,9] (by decide)) ?_;rintro _ i6 h6 ⟨z,hz,rfl⟩ hi6;simp only[AS.drew,AS.called,aV,AS.put,aJ,aH,eU,bS,eQ,bQ,eZ,bR,cH,cJ,eC,cY,cW];have W:=trivial;repeat' first|refine st ?_|(refine nx ?_;refine so ?_)|(refine cx ?_;refine sc (λhc=>?_) (λhc=>?_)<;>try exact hc.elim)|(refine lx ?_;refine sp (λhc=>?_) (λhc=>?_)<;>try exact hc.elim)|refine sx ?_ ?_|refine sy ?_ ?_|fail
    refine⟨.inr rfl,rJ (by simp[results47];rfl) (by rfl) (by rfl) (by omega) (by simp) (by simp) ?_⟩;simp only[single,res];exact⟨{p with deferred:=z},l,by simp[aQ],⟨⟨hp2.on.at_,hp2.on.ga,hp2.on.en,hp2.on.sl⟩,hp2.ho,hp2.bo⟩,hzl⟩
   .by_cases e1:x5=1
    .have e0b:¬((1:Int)=0):=by decide
     subst e1;have W:=trivial;repeat' first|refine st ?_|(refine nx ?_;refine so ?_)|(refine cx ?_;refine sc (λhc=>?_) (λhc=>?_)<;>try exact hc.elim)|(refine lx ?_;refine sp (λhc=>?_) (λhc=>?_)<;>try exact hc.elim)|refine sx ?_ ?_|refine sy ?_ ?_|fail
     refine oI (i:=3) (ver:=1) (by rfl) (by rfl) ?_ (by simp[AS.frozen,uL,tZ,rW,uT,aD.rW,aD.kill,iI,qD,rt];rfl);refine cu (Jd [-1,1,9] (by decide)) ?_;rintro _ i6 h6 ⟨z,hz,rfl⟩ hi6;simp only[AS.drew,AS.called,aV,AS.put,aJ,aH,eU,bS,eQ,bQ,eZ,bR,cH,cJ,eC,cY,cW];have W:=trivial;repeat' first|refine st ?_|(refine nx ?_;refine so ?_)|(refine cx ?_;refine sc (λhc=>?_) (λhc=>?_)<;>try exact hc.elim)|(refine lx ?_;refine sp (λhc=>?_) (λhc=>?_)<;>try exact hc.elim)|refine sx ?_ ?_|refine sy ?_ ?_|fail
     refine⟨.inr rfl,rJ (by simp[results47];rfl) (by rfl) (by rfl) (by omega) (by simp) (by simp) ?_⟩;simp only[single,res];exact⟨{p with iV:=z},l,by simp[aQ],⟨⟨hp2.on.at_,hp2.on.ga,hp2.on.en,hp2.on.sl⟩,hp2.ho,hp2.bo⟩,hzl⟩
    .by_cases e2:x5=2
     .subst e2;have W:=trivial;repeat' first|refine st ?_|(refine nx ?_;refine so ?_)|(refine cx ?_;refine sc (λhc=>?_) (λhc=>?_)<;>try exact hc.elim)|(refine lx ?_;refine sp (λhc=>?_) (λhc=>?_)<;>try exact hc.elim)|refine sx ?_ ?_|refine sy ?_ ?_|fail
      refine⟨.inr rfl,rJ (by simp[results47];rfl) (by rfl) (by rfl) (by omega) (by simp) (by simp) ?_⟩;simp only[single,res];exact⟨{p with jZ:= !p.jZ},l,by simp[aQ],⟨⟨hp2.on.at_,hp2.on.ga,hp2.on.en,hp2.on.sl⟩,hp2.ho,hp2.bo⟩,hzl⟩
     .have W:=aA e0 (aA e1 e2);repeat' first|refine st ?_|(refine nx ?_;refine so ?_)|(refine cx ?_;refine sc (λhc=>?_) (λhc=>?_)<;>try exact hc.elim)|(refine lx ?_;refine sp (λhc=>?_) (λhc=>?_)<;>try exact hc.elim)|refine sx ?_ ?_|refine sy ?_ ?_|fail
      refine⟨.inr rfl,rJ (by simp[results47];rfl) (by rfl) (by rfl) (by omega) (by simp) (by simp) ?_⟩;simp only[single,res];exact⟨p,l,by simp[aQ],hp2,hzl⟩
def aJ9(r:AV):Prop:=∃p:aC,r= .agg (aQ .view p)/\xE 30000000 8000 p
theorem Gt[aB prog][dY prog][eO prog][pM prog](code:List UInt8):ug prog 17 [.sl .view 1 (bA code)] aJ9:=by
 refine aP8 aO func17 ntmps17 ?_;have W:=trivial;repeat' first|refine st ?_|(refine nx ?_;refine so ?_)|(refine cx ?_;refine sc (λhc=>?_) (λhc=>?_)<;>try exact hc.elim)|(refine lx ?_;refine sp (λhc=>?_) (λhc=>?_)<;>try exact hc.elim)|refine sx ?_ ?_|refine sy ?_ ?_|fail
 refine cn (QX) ?_;intro i h hi;simp only[AS.Ph,aV,AS.put,eR,dT,Nat.reduceAdd,lO,cH,cJ,eC,cY,cW];have W:=trivial;repeat' first|refine st ?_|(refine nx ?_;refine so ?_)|(refine cx ?_;refine sc (λhc=>?_) (λhc=>?_)<;>try exact hc.elim)|(refine lx ?_;refine sp (λhc=>?_) (λhc=>?_)<;>try exact hc.elim)|refine sx ?_ ?_|refine sy ?_ ?_|fail
 refine cu (Nh) ?_;rintro _ i2 h2 ⟨p,l,rfl,hp,hz⟩ hi2;simp only[AS.drew,AS.called,aV,AS.put,aJ,aH,eU,bS,eQ,bQ,eZ,bR,cH,cJ,eC,cY,cW];simp only[aQ];have W:=trivial;repeat' first|refine st ?_|(refine nx ?_;refine so ?_)|(refine cx ?_;refine sc (λhc=>?_) (λhc=>?_)<;>try exact hc.elim)|(refine lx ?_;refine sp (λhc=>?_) (λhc=>?_)<;>try exact hc.elim)|refine sx ?_ ?_|refine sy ?_ ?_|fail
 refine⟨.inr rfl,Gr (by simp[results17];rfl) (by simp) (by simp) ?_⟩;simp only[single,res];exact⟨p,by simp[aQ],hp⟩
theorem AR{p:aC}(h:xE 30000000 8000 p):aM p<=30000000/\p.aF.length<=20/\p.aN.length<=8000:=by obtain⟨h1,h2⟩:=h.on.sz;exact⟨h1,h.on.sl,by simp only[bV]at h2;omega⟩
def aQk(g:Tg)(r:AV):Prop:=∃p:aC,r= .agg (dC g (bZ p))/\xE 30000000 8000 p
theorem Oc[aB prog][dY prog][eO prog][pM prog]:Jo prog 23 [] (aQk .own):=by
 refine Ec aO func23 ntmps23 ?_;intro code i h hi hl;simp only[aV];have W:=trivial;repeat' first|refine st ?_|(refine nx ?_;refine so ?_)|(refine cx ?_;refine sc (λhc=>?_) (λhc=>?_)<;>try exact hc.elim)|(refine lx ?_;refine sp (λhc=>?_) (λhc=>?_)<;>try exact hc.elim)|refine sx ?_ ?_|refine sy ?_ ?_|fail
 refine cu (Nh) ?_;rintro _ i1 h1 ⟨p,l,rfl,hp,hz⟩ hi1;simp only[AS.drew,AS.called,aV,AS.put,aJ,aH,eU,bS,eQ,bQ,eZ,bR,cH,cJ,eC,cY,cW];obtain⟨z1,z2,z3⟩:=AR hp;obtain⟨j1,j2,j3,_,_⟩:=Jh p;have cr:=DZ p (by omega) (by omega) (λx hx=>by have:=j1 x hx;omega) (by omega);clear j1 j2 j3;generalize hg:bZ p=g at*;simp only[aQ]at cr⊢;have W:=trivial;repeat' first|refine st ?_|(refine nx ?_;refine so ?_)|(refine cx ?_;refine sc (λhc=>?_) (λhc=>?_)<;>try exact hc.elim)|(refine lx ?_;refine sp (λhc=>?_) (λhc=>?_)<;>try exact hc.elim)|refine sx ?_ ?_|refine sy ?_ ?_|fail
 refine⟨.inr rfl,rJ (by simp[results23];rfl) (by rfl) (by rfl) (by omega) (by simp) (by simp) ?_⟩;simp only[single,res];exact⟨p,by simp[dC,hg],hp⟩
theorem Cy[aB prog][dY prog][eO prog][pM prog]:Jo prog 23 [] (aQk .view):=Oc.Dt λr ⟨p,e,h⟩=>⟨p,by subst e;simp[rt],h⟩
def aUn(r:AV):Prop:=∃p q:aC,r= .iP [.agg (dC .view (bZ p)),.agg (dC .view (bZ q))]/\xE 30000000 8000 p/\xE 30000000 8000 q
theorem LY[aB prog][dY prog][eO prog][pM prog](code:List UInt8):ug prog 7 [.sl .view 1 (bA code)] aUn:=by
 refine aJ7 aO [7] func7 ntmps7 ?_;have W:=trivial;repeat' first|refine st ?_|(refine nx ?_;refine so ?_)|(refine cx ?_;refine sc (λhc=>?_) (λhc=>?_)<;>try exact hc.elim)|(refine lx ?_;refine sp (λhc=>?_) (λhc=>?_)<;>try exact hc.elim)|refine sx ?_ ?_|refine sy ?_ ?_|fail
 refine cn (QX) ?_;intro i h hi;simp only[AS.Ph,aV,AS.put,eR,dT,Nat.reduceAdd,lO,cH,cJ,eC,cY,cW];have W:=trivial;repeat' first|refine st ?_|(refine nx ?_;refine so ?_)|(refine cx ?_;refine sc (λhc=>?_) (λhc=>?_)<;>try exact hc.elim)|(refine lx ?_;refine sp (λhc=>?_) (λhc=>?_)<;>try exact hc.elim)|refine sx ?_ ?_|refine sy ?_ ?_|fail
 refine cu (Cy) ?_;rintro _ i2 h2 ⟨p,rfl,hp⟩ hi2;simp only[AS.drew,AS.called,aV,AS.put,aJ,aH,eU,bS,eQ,bQ,eZ,bR,cH,cJ,eC,cY,cW];obtain⟨z1,z2,z3⟩:=AR hp;have cb:=(gX (bZ p).builder (by show aS p.builder<=_;simp only[aM]at z1;omega)).Dt (r':= .agg (aW .view (bZ p).builder)) (by simp[rt]);generalize hg:bZ p=g at*;simp only[aW]at cb;simp only[dC];have W:=trivial;repeat' first|refine st ?_|(refine nx ?_;refine so ?_)|(refine cx ?_;refine sc (λhc=>?_) (λhc=>?_)<;>try exact hc.elim)|(refine lx ?_;refine sp (λhc=>?_) (λhc=>?_)<;>try exact hc.elim)|refine sx ?_ ?_|refine sy ?_ ?_|fail
 refine cu (iA 2) ?_;rintro _ i3 h3 ⟨b,rfl⟩ hi3;simp only[AS.drew,AS.called,aV,AS.put,aJ,aH,eU,bS,eQ,bQ,eZ,bR,cH,cJ,eC,cY,cW];cases b
 .have W:=trivial;repeat' first|refine st ?_|(refine nx ?_;refine so ?_)|(refine cx ?_;refine sc (λhc=>?_) (λhc=>?_)<;>try exact hc.elim)|(refine lx ?_;refine sp (λhc=>?_) (λhc=>?_)<;>try exact hc.elim)|refine sx ?_ ?_|refine sy ?_ ?_|fail
  refine yw (ι:={y:mI×Int×Int // (∃q,y.1=bZ q/\xE 30000000 8000 q)/\0<=y.2.1}) (λJ y=>⟨[.undef,.undef,.ptr 0 0 0 0,.ptr 1 0 0 0,.ptr 2 0 0 0,.ptr 3 0 0 0,.undef,.undef,.undef,.undef,.undef,.undef,.undef,.undef,.undef,.undef,.undef,.undef,.undef,.undef,dv J 0 (.agg (dC .view g)),dv J 1 (.ptr 2 0 0 0),dv J 2 (.agg (dC .view y.1.1))],[⟨true,true,6,0,[cond (J 3) (dC .view g) [.sl .own 4 [],.sl .own 1 [],.sl .own 1 [],.sl .own 1 [],.sl .own 2 [],.bool false]]⟩,⟨true,true,6,0,[cond (J 4) (dC .view y.1.1) [.sl .own 4 [],.sl .own 1 [],.sl .own 1 [],.sl .own 1 [],.sl .own 2 [],.bool false]]⟩,⟨true,true,3,0,[[.sl .view 1 (bA code),.int .i64 (cond (J 2) y.1.2.1 i3),.int .i64 (cond (J 2) y.1.2.2 h3)]]⟩,⟨true,true,6,0,[(dC .view g)]⟩]⟩) (⟨(g,i3,h3),⟨p,hg.symm,hp⟩,hi3⟩) (aG (by simp) (by simp[dv])) ?_ ?_
  .simp only[Q5,qT];refine⟨?_,?_,?_,?_,?_⟩
   .rintro J ⟨⟨x,j2,g2⟩,hx,hj2⟩ hC hJ hP;simp[pre,Region.binds]at hP;simp only[dv,hJ,hP,eV,fY,fN,cX,eS];have W:=trivial;repeat' first|refine st ?_|(refine nx ?_;refine so ?_)|fail
    exact⟨⟨⟨x,j2,g2⟩,hx,hj2⟩,aG (by simp[eT,hJ,hP]) (by simp[dv,eT,hJ,hP])⟩
   .rintro J ⟨⟨x,j2,g2⟩,hx,hj2⟩ hC hJ hP;simp[pre,Region.binds]at hP;simp only[dv,hJ,hP,eV,fY,fN,cX,eS];have W:=trivial;repeat' first|refine st ?_|(refine nx ?_;refine so ?_)|fail
    exact⟨⟨⟨x,j2,g2⟩,hx,hj2⟩,aG (by simp[eT,hJ,hP]) (by simp[dv,eT,hJ,hP])⟩
   .rintro J ⟨⟨x,j2,g2⟩,hx,hj2⟩ hC hJ hP;simp[pre,Region.binds]at hP;have hF4:J 4=false:=Q6 hC hJ 4 rfl (by simp[pre,Region.binds]);simp only[dv,hJ,hP,eV,fY,fN,hF4,cX,eS];refine go_at 22 ?_;refine cu Cy ?_;rintro _ j3 g3 ⟨q,rfl,hq⟩ hj3;simp only[AS.drew,AS.called,aV,AS.put,aJ,aH,eU,bS,eQ,bQ,eZ,bR,cH,cJ,eC,cY,cW];refine Pn ?_;exact⟨⟨(bZ q,j3,g3),⟨q,rfl,hq⟩,hj3⟩,aG (by simp[eT,hJ,hP,hF4]) (by simp[dv,eT,hJ,hP,hF4])⟩
   .rintro J ⟨⟨x,j2,g2⟩,hx,hj2⟩ hC hJ hP;simp[pre,Region.binds]at hP;simp only[dv,hJ,hP,eV,fY,fN,cX,eS];have W:=trivial;repeat' first|refine st ?_|(refine nx ?_;refine so ?_)|fail
    exact⟨⟨⟨x,j2,g2⟩,hx,hj2⟩,aG (by simp[eT,hJ,hP]) (by simp[dv,eT,hJ,hP])⟩
   .rintro J ⟨⟨x,j2,g2⟩,hx,hj2⟩ hC hJ hP;simp[pre,Region.binds]at hP;simp only[dv,hJ,hP,eV,fY,fN,cX,eS];have W:=trivial;repeat' first|refine st ?_|(refine nx ?_;refine so ?_)|fail
    exact⟨⟨⟨x,j2,g2⟩,hx,hj2⟩,aG (by simp[eT,hJ,hP]) (by simp[dv,eT,hJ,hP])⟩
  .rintro J ⟨⟨x,j2,g2⟩,hx,hj2⟩ hJ;have hJs:J 0=true/\J 1=true/\J 2=true/\J 3=true/\J 4=true:=⟨hJ 0 (by decide),hJ 1 (by decide),hJ 2 (by decide),hJ 3 (by decide),hJ 4 (by decide)⟩;simp only[dv,hJs,eV,fY,fN,cW,cY,eC];clear hJs hJ J;obtain⟨q,hxq,hq⟩:=hx;simp only at hxq hj2;subst hxq;have W:=trivial;repeat' first|refine st ?_|(refine nx ?_;refine so ?_)|(refine cx ?_;refine sc (λhc=>?_) (λhc=>?_)<;>try exact hc.elim)|(refine lx ?_;refine sp (λhc=>?_) (λhc=>?_)<;>try exact hc.elim)|refine sx ?_ ?_|refine sy ?_ ?_|fail
   refine⟨.inr rfl,Gr (by simp[results7];rfl) (by simp) (by simp) ?_⟩;simp only[single,res];exact⟨p,q,by simp[dC,hg],hp,hq⟩
 .have W:=trivial;repeat' first|refine st ?_|(refine nx ?_;refine so ?_)|(refine cx ?_;refine sc (λhc=>?_) (λhc=>?_)<;>try exact hc.elim)|(refine lx ?_;refine sp (λhc=>?_) (λhc=>?_)<;>try exact hc.elim)|refine sx ?_ ?_|refine sy ?_ ?_|fail
  refine⟨.inr rfl,Gr (by simp[results7];rfl) (by simp) (by simp) ?_⟩;simp only[single,res];exact⟨p,p,by simp[dC,hg],hp,hp⟩
theorem Gu[aB prog][dY prog][eO prog][pM prog](code:List UInt8):ug prog 5 [.sl .view 1 (bA code)] aJ9:=by
 have cq:=Gt code;refine aP8 aO func5 ntmps5 ?_;have W:=trivial;repeat' first|refine st ?_|(refine nx ?_;refine so ?_)|(refine cx ?_;refine sc (λhc=>?_) (λhc=>?_)<;>try exact hc.elim)|(refine lx ?_;refine sp (λhc=>?_) (λhc=>?_)<;>try exact hc.elim)|refine sx ?_ ?_|refine sy ?_ ?_|fail
 refine ce (cq) ?_;rintro _ ⟨p,rfl,hp⟩;simp only[AS.called,AS.put,aJ,aH,eU,bS,eQ,bQ,eZ,bR,cH,cJ,eC,cY,cW];simp only[aQ];have W:=trivial;repeat' first|refine st ?_|(refine nx ?_;refine so ?_)|(refine cx ?_;refine sc (λhc=>?_) (λhc=>?_)<;>try exact hc.elim)|(refine lx ?_;refine sp (λhc=>?_) (λhc=>?_)<;>try exact hc.elim)|refine sx ?_ ?_|refine sy ?_ ?_|fail
 refine⟨.inr rfl,Gr (by simp[results5];rfl) (by simp) (by simp) ?_⟩;simp only[single,res];exact⟨p,by simp[aQ],hp⟩
end Go.Proofs.YtnkpkklemmgapaaGreatDoor
