/- Steps. No condition. -/
import Derived.Test.YtanobkmhbpjnpaaGreatDoorZQAD0
import Derived.Test.YtanobkmhbpjnpaaGreatDoorZQSV2
set_option linter.all false
set_option maxRecDepth 8000
set_option maxHeartbeats 8000000
namespace Go.Proofs.YtanobkmhbpjnpaaGreatDoor
open Go.Aw Proofs.Tryz List IntKind
def X9(l:List kG)(o:List Int)(x:kG)(n:Int)(b:bC)(hb:b.aJ=l):pR ⟨l++[x],o⟩ n=Ac n (pR b n) x:=by subst hb;unfold pR;simp only[DQ,foldl_cons,foldl_nil]
def um{b:bC}{n:Int}(h:∀x∈b.aJ,x.wV≠n):pR b n=[]:=by
 unfold pR;have key:∀(l:List kG),(∀x∈l,x.wV≠n)->l.foldl (Ac n) []=[]:=by
  intro l;induction l with
  |nil=>intro _;rfl
  |cons x l ih=>
   intro h;have e:Ac n [] x=[]:=by unfold Ac;rw[eC (λhc=>h x (by simp) hc.1)]
   rw[foldl_cons,e];exact ih λy hy=>h y (by simp[hy])
 exact key _ h
def Zp(b:bC)(o:List Int)(n:Int):pR {b with bD:=o} n=pR b n:=rfl
def aRq{c:bM}(q:List bM)(h:c.kind=2):mq (c::q)=1+mq q:=by rw[mq,aNk h];simp
def aRr(u:bE)(q:List bM):mq (⟨3,[],[],u⟩::q)=1+mq q:=by rw[mq];simp[opB]
def aRs{a:bM}(q:List bM)(h1:a.kind=1)(h2:a.name=dY):mq (a::q)=13+mq q:=by rw[mq];simp[opB,h1,h2]
def Rest(r:List bM):Prop:=∃c q,c.kind=2/\c.name=dY/\QB q/\(r=c::q\/∃u,NW u/\r=⟨3,[],[],u⟩::c::q)
def Rest.qb{r:List bM}(h:Rest r):QB r:=by
 obtain⟨c,q,h1,h2,h3,rfl|⟨u,h4,rfl⟩⟩:=h
 .exact .cls h1 h3
 .exact .tok (by simp[dY]) (.cls h1 h3)
def aBu{n:Nat}{p:aF}{a:bM}{r:List bM}(h:gL p)(hi:p.dZ=0)(hb:p.block=0)(hq:p.bT=a::r)(hr:Rest r)(ha1:a.kind=1)(ha2:a.name=dY)
  (hns:Dp p.aC p.aC.bD) (hn:mq p.bT+BF p+sJ p<=n):0<n/\Bd (n-1) (iV p a r):=by
 rw[hq,aRs r ha1 ha2]at hn;have bA1:BF p=0:=by unfold BF;simp[hi,hb]
 refine⟨by omega,?_⟩;have e:iV p a r={p with bT:=r,aC:=(cZ p.aC a).1}:=by
  unfold iV;rw[II hns];simp only;split
  .unfold xC;rw[eC (by rw[ha2];simp[dY,Ie]),eC (by rw[ha2];simp[dY,MI])]
  .rfl
 rw[e];have hb1:=UZ h a r hi;refine⟨hb1,?_⟩;unfold cZ at hb1⊢;rw[eC (by rw[ha1];decide),eC (by rw[ha1];simp)]at hb1⊢;split
 .exact .inl ⟨hr.qb,hns,by show mq r+BF p+sJ p<=_;omega⟩
 .rename_i hf;rw[eC hf]at hb1;have jE:p.aC.bD≠[]:=λe=>hf (.inr (.inl e))
  have hlast:=h.op _ (uj jE);have hot:mU a=true:=by unfold mU Ec;rw[ha1,ha2];decide
  refine .inr ⟨⟨hi,hb,p.aC.bD,(p.aC.aJ.length:Int),nY p.aC a,by simp only[hot,eS],jE,?_,by omega,?_,?_,?_⟩,by show mq r+11+sJ p<=_;omega⟩
  .exact Ep hns h.op ⟨_,rfl⟩
  .simp
  .unfold nY;rw[eM ha1];exact ha2
  .have ht:pR {aJ:=p.aC.aJ++[nY p.aC a],bD:=if mU a=true then p.aC.bD++[(p.aC.aJ.length:Int)]else p.aC.bD} (p.aC.aJ.length:Int)=[]:=by
    refine um λx hx=> ?_
    rcases fR.1 hx with hx|hx
    .rcases h.nd x hx with h3|h3<;>omega
    .simp only[mS]at hx;subst hx;rw[Qy];omega
   obtain⟨c,q,h1,h2,h3,rfl|⟨u,h4,rfl⟩⟩:=hr
   .exact ⟨c,q,h1,h2,h3,.inl ⟨rfl,by rw[ht];exact X8⟩⟩
   .exact ⟨c,q,h1,h2,h3,.inr ⟨u,rfl,h4,ht⟩⟩
def Zq{b:bC}{m:bE}{os:List Int}{k:Int}(h:b.bD=os++[k])(jE:os≠[])(hh:xB b m k=true):oZ b m (b.bD.length-1)=os:=by
 have hl:b.bD.length-1=(os.length-1)+1:=by
  have:os.length≠0:=λe=>jE (gO e)
  rw[h];simp only[eR,tB];omega
 have hl2:(os.length-1)+1=os.length:=by
  have:os.length≠0:=λe=>jE (gO e)
  omega
 rw[hl,oZ,hl2,h];rw[lO (eJ _),tU];simp[hh]
def aRt{n:Nat}{p:aF}{t:bM}{r:List bM}(h:gL p)(hm:Mid p)(hq:p.bT=t::r)(hn:mq p.bT+11+sJ p<=n):0<n/\Bd (n-1) (iV p t r):=by
 obtain⟨hi,hb,os,k,x,ho,jE,hns,hk,hx,hxn,c,q,hc1,LH,XY,⟨hq2,hnw⟩|⟨u,hq2,hnw,htx⟩⟩:=hm
 .-- the closing tag
  rw[hq]at hq2;obtain⟨rfl,rfl⟩:=Fl hq2;rw[hq,aRq _ hc1]at hn;refine⟨by omega,?_⟩;have hkl:=(h.op k (by rw[ho];simp)).2;have hsa:qH p.aC t=some k.toNat:=by unfold qH;rw[eM ⟨hc1,LH⟩,ho];simp only[getLast?_append,getLast?_singleton,Option.some_or];rw[eM ⟨hk,by rw[hx];simp[hxn]⟩]
  have IU:(cZ p.aC t).1={p.aC with bD:=os}:=by unfold cZ;rw[eM hc1];simp only;rw[Zq ho jE (by unfold xB;rw[hx];simp[hxn,LH];omega)]
  unfold iV;rw[hsa];simp only;rw[IU];have hb1:gL {p with bT:=r,aC:={p.aC with bD:=os}}:=h.tree r hi h.nd λo hm=>h.op o (by rw[ho];simp[hm])
  have fin:∀z:aF,gL z->z.bT=r->z.aC={p.aC with bD:=os}->BF z<=11->sJ z=sJ p->Bd (n-1) z:=by intro z h1 h2 h3 h4 h5;exact⟨h1,.inl ⟨by rw[h2];exact XY,by rw[h3];exact hns,by rw[h2,h5];omega⟩⟩
  have ze:∀z:aF,z.dZ=0->z.block=0->BF z<=11:=by intro z h1 h2;unfold BF;simp[h1,h2]
  unfold pQ;split
  .split
   .refine fin _ ⟨hb1.nd,hb1.op,hb1.sl,hb1.bl,λ_=> ?_,hb1.ns,hb1.ne⟩ rfl rfl (by unfold BF;simp only[hb];split<;>simp) rfl
    show NW (pR {p.aC with bD:=os} ((k.toNat:Nat):Int));rw[Zp,Int.toNat_of_nonneg (by omega)];exact hnw
   .exact fin _ hb1 rfl rfl (ze _ hi hb) rfl
  .split
   .obtain ⟨a1,a2,a3,a4,a5⟩:=Cn {p with bT:=r,aC:={p.aC with bD:=os}} 4 (aX ((p.aC.aJ[k.toNat]?).elim [] (·.iH)) qB).1 (aX ((p.aC.aJ[k.toNat]?).elim [] (·.iH)) fC).1 ((k.toNat:Nat):Int);exact fin _ (hb1.slot ..) a2 a1 (ze _ (a3.trans hi) (a4.trans hb)) a5
   .split
    .unfold addEntry;split
     .exact fin _ hb1 rfl rfl (ze _ hi hb) rfl
     .rename_i hf;obtain⟨X,e,_⟩:=Fe {p with bT:=r,aC:={p.aC with bD:=os}} (dR (aX ((p.aC.aJ[k.toNat]?).elim [] (·.iH)) qB).1 p.gZ.bN).1;simp only at e⊢;rw[e];refine fin _ ⟨hb1.nd,hb1.op,hb1.sl,hb1.bl,hb1.il,hb1.ns,?_⟩ rfl rfl (ze _ hi hb) rfl;have:¬20<=p.bJ.length:=λh2=>hf (.inr h2)
      simp only[eR,tB];omega
    .generalize hA:(aX ((p.aC.aJ[k.toNat]?).elim [] (·.iH)) qB).1=A;generalize hD:(aX ((p.aC.aJ[k.toNat]?).elim [] (·.iH)) fC).1=D;obtain⟨a1,a2,a3,a4,a5⟩:=Cn {p with bT:=r,aC:={p.aC with bD:=os}} 3 A D ((k.toNat:Nat):Int);have hs:=hb1.slot 3 A D ((k.toNat:Nat):Int);refine fin _ ⟨hs.nd,hs.op,hs.sl,?_,λe=>(e (a3.trans hi)).elim,hs.ns,hs.ne⟩ a2 a1 ?_ a5
     .intro hbk;unfold gJ at hbk⊢;split
      .rename_i hf;rw[eM hf]at hbk;exact(hbk (by simp)).elim
      .rename_i hf;have hl:¬20<=p.aD.length:=λh2=>hf (.inl h2)
       split
       .exact ⟨by simp only;omega,by simp only;omega,_,by simp only;rw[show((p.aD.length:Int)+1-1).toNat=p.aD.length by omega,lO (eJ _),tU];rfl,rfl⟩
       .exact ⟨by simp only;omega,by simp only;omega,_,by simp only;rw[show((p.aD.length:Int)+1-1).toNat=p.aD.length by omega,lO (eJ _),tU];rfl,rfl⟩
     .unfold BF;simp only[a3];rw[eM hi];split<;>simp
 .-- the text
  rw[hq]at hq2;obtain⟨rfl,rfl⟩:=Fl hq2;rw[hq,aRr]at hn;refine⟨by omega,?_⟩;have e:iV p ⟨3,[],[],u⟩ (c::q)={p with bT:=c::q,aC:=(cZ p.aC ⟨3,[],[],u⟩).1}:=by unfold iV;rw[zJ (by simp)];simp
  rw[e];have hb1:=UZ h ⟨3,[],[],u⟩ (c::q) hi;refine⟨hb1,.inr ⟨?_,by show mq (c::q)+11+sJ p<=_;omega⟩⟩;unfold cZ;rw[eC (by simp)];split
  .exact ⟨hi,hb,os,k,x,ho,jE,hns,hk,hx,hxn,c,q,hc1,LH,XY,.inl ⟨rfl,by show NW (pR p.aC k);rw[htx];exact X8⟩⟩
  .rename_i hu;split
   .exact ⟨hi,hb,os,k,x,ho,jE,hns,hk,hx,hxn,c,q,hc1,LH,XY,.inl ⟨rfl,by show NW (pR p.aC k);rw[htx];exact X8⟩⟩
   .have hkl:=h.op k (by rw[ho];simp);have hlk:p.aC.bD.getLastD 0=k:=by rw[getLastD_eq_getLast?,ho];simp
    refine⟨hi,hb,os,k,x,by simp[mU,ho],jE,?_,hk,?_,hxn,c,q,hc1,LH,XY,.inl ⟨rfl,?_⟩⟩
    .exact Ep hns (λo hm=>h.op o (by rw[ho];simp[hm])) ⟨_,rfl⟩
    .simp only;rw[oA (by omega)];exact hx
    .simp only;rw[X9 _ _ _ _ p.aC rfl,htx];have e2:nY p.aC ⟨3,[],[],u⟩=⟨[],u,k,[]⟩:=by unfold nY;rw[eC (by simp),hlk]
     rw[e2];unfold Ac;simpa using hnw
def Pe(p:aF)(c:bE)(w:Bool):(gI p c w).aD=p.aD/\(gI p c w).bJ=p.bJ/\(gI p c w).dZ=p.dZ/\(gI p c w).block=p.block/\(gI p c w).eH=p.eH/\(gI p c w).fA=p.fA/\(gI p c w).dX=p.dX/\(w=false->(gI p c w).bT=p.bT):=by
 unfold gI jN;split
 .exact ⟨rfl,rfl,rfl,rfl,rfl,rfl,rfl,λh=>by subst h;simp⟩
 .exact ⟨rfl,rfl,rfl,rfl,rfl,rfl,rfl,λ_=>rfl⟩
def aDs(p:aF)(L:List aR)(k:Nat):(iR p L k).aD=p.aD/\(iR p L k).bJ=p.bJ/\(iR p L k).dZ=p.dZ/\(iR p L k).block=p.block/\(iR p L k).eH=p.eH/\(iR p L k).fA=p.fA/\(iR p L k).dX=p.dX/\(iR p L k).bT=p.bT:=by
 have key:∀(l:List aR) (q:aF),(q.aD=p.aD/\q.bJ=p.bJ/\q.dZ=p.dZ/\q.block=p.block/\q.eH=p.eH/\q.fA=p.fA/\q.dX=p.dX/\q.bT=p.bT)->
   ((l.foldl kU q).aD=p.aD/\(l.foldl kU q).bJ=p.bJ/\(l.foldl kU q).dZ=p.dZ/\(l.foldl kU q).block=p.block/\(l.foldl kU q).eH=p.eH/\(l.foldl kU q).fA=p.fA/\(l.foldl kU q).dX=p.dX/\(l.foldl kU q).bT=p.bT):=by
  intro l;induction l with
  |nil=>intro q h;exact h
  |cons x l ih=>
   intro q h;refine ih (kU q x) ?_;unfold kU jN;split
   .exact h
   .simpa using h
 exact key _ _ ⟨rfl,rfl,rfl,rfl,rfl,rfl,rfl,rfl⟩
def aDt{p:aF}(h:Mid p):p.dZ=0/\p.block=0/\∃t r,p.bT=t::r:=by
 obtain⟨h1,h2,os,k,x,_,_,_,_,_,_,c,q,_,_,_,⟨h3,_⟩|⟨u,h3,_⟩⟩:=h
 .exact ⟨h1,h2,_,_,h3⟩
 .exact ⟨h1,h2,_,_,h3⟩
def aJb{n:Nat}{p:aF}(h:Bd n p)(hi:p.dZ=0)(hb:p.block=0)(ht:(iB p).2=true):0<n/\Bd (n-1) (iB p).1:=by
 unfold iB at*;split at ht
 .cases ht
 .rename_i t r hq;rw[eM ⟨hb,hi⟩];simp only;obtain⟨hbase,⟨XY,hns,hn⟩|⟨hm,hn⟩⟩:=h
  .rw [hq]at XY;generalize hqq:t::r=qq at XY;cases XY with
   |nil=>cases hqq
   |tok h1 h2=>obtain⟨rfl,rfl⟩:=Fl hqq;exact uk hbase hi hb hq h2 hns (.inl h1) hn
   |cls h1 h2=>obtain⟨rfl,rfl⟩:=Fl hqq;exact uk hbase hi hb hq h2 hns (.inr h1) hn
   |scr h1 h2 h3 h4 h5=>obtain⟨rfl,rfl⟩:=Fl hqq;exact aBu hbase hi hb hq ⟨_,_,h3,h4,h5,.inl rfl⟩ h1 h2 hns hn
   |txt h1 h2 h3 h4 h5 h6=>obtain⟨rfl,rfl⟩:=Fl hqq;exact aBu hbase hi hb hq ⟨_,_,h3,h4,h6,.inr ⟨_,h5,rfl⟩⟩ h1 h2 hns hn
  .exact aRt hbase hm hq hn
def Y0{n:Nat}{p r:aF}{c:bE}(h:gL p)(XY:QB p.bT)(hns:Dp p.aC p.aC.bD)(hn:mq p.bT+BF p+sJ p<=n)(hr:r.aC=p.aC/\r.bT=p.bT\/NW c/\r.aC=(gI p c true).aC/\r.bT=(gI p c true).bT)
  (h1:r.aD=p.aD) (h2:r.bJ=p.bJ) (hi:r.dZ=0) (hb:r.block=0\/r.block=p.block) (ht:sJ r=sJ p) (hp:BF r+11<=BF p):0<n/\Bd (n-1) r:=by
 refine⟨by omega,?_⟩;rcases hr with⟨e1,e2⟩|⟨hc,e1,e2⟩
 .refine ⟨h.grown (by rw[e1];exact Grown.rfl' _) h1 h2 hi hb,.inl ⟨by rw[e2];exact XY,by rw[e1];exact hns,by rw[e2,ht];omega⟩⟩
 .obtain ⟨q1,q2,q3⟩:=aRo (n:=n) h XY hns hc;exact⟨h.grown (by rw[e1];exact Lu _ _ _) h1 h2 hi hb,.inl ⟨by rw[e2];exact q1,by rw[e1];exact q3,by rw[e2,ht];omega⟩⟩
def aDu{n:Nat}{p:aF}(h:Bd n p)(ht:(iC p).2=true):0<n/\Bd (n-1) (iC p).1:=by
 have h0:=h;unfold iC at*;split at ht
 .rename_i hi;rw[eM hi];obtain⟨hbase,⟨XY,hns,hn⟩|⟨hm,hn⟩⟩:=h
  .split at ht
   .rename_i hs;rw[eM hs];obtain⟨s1,s2,s3,s4,s5,s6,s7,_⟩:=Pe p (pR p.aC p.dZ) true;refine Y0 (c:=pR p.aC p.dZ) hbase XY hns hn (.inr ⟨hbase.il hi,rfl,rfl⟩) s1 s2 rfl (.inr s4) (by unfold sJ;simp only[s5,s6,s7]) ?_;unfold BF;simp only[s4];rw[eC hi];by_cases hbb:p.block=0<;>simp[hbb]
   .cases ht
  .exact (hi hm.1).elim
 .rename_i hi;have hi0:p.dZ=0:=Hh hi;rw[eC hi];split at ht
  .rename_i hb;rw[eM hb];obtain⟨hbase,⟨XY,hns,hn⟩|⟨hm,hn⟩⟩:=h
   .obtain ⟨b1,b2,s,hs,hsm⟩:=hbase.bl hb;have hw:i64.wrap (p.block-1)=p.block-1:=by rw[wrap64]<;>omega
    rw[hw]at ht⊢;unfold xR at ht⊢;rw[eM (by omega),hs]at ht⊢;simp only at ht⊢;split at ht
    .rename_i hd;rw[eM hd];simp only;split
     .rename_i hc;obtain⟨s1,s2,s3,s4,s5,s6,s7,_⟩:=Pe p s.body true;refine Y0 (c:=s.body) hbase XY hns hn (.inr ⟨hbase.sl s (nB hs) hsm hc,rfl,rfl⟩) s1 s2 (s3.trans hi0) (.inl rfl) (by unfold sJ;simp only[s5,s6,s7]) ?_;unfold BF;simp only[s3];rw[eC hb];simp
     .refine Y0 (c:=[]) hbase XY hns hn (.inl ⟨rfl,rfl⟩) rfl rfl hi0 (.inl rfl) rfl ?_;unfold BF;simp only;rw[eC hb];simp
    .cases ht
   .exact (hb hm.2.1).elim
  .rename_i hb;rw[eC hb];exact aJb h hi0 (Hh hb) ht
def aNl{n:Nat}{p:aF}(h:Bd n p)(ht:(iJ p).2=true):0<n/\Bd (n-1) (iJ p).1:=by
 unfold iJ at*;split at ht
 .rename_i hc;rw[eM hc];obtain⟨c1,c2,c3,c4⟩:=hc;have h0:=c1;unfold qW at h0;simp only[eK,fY]at h0;obtain⟨⟨⟨_,hl⟩,hb⟩,hi⟩:=h0;have hq:p.bT=[]:=gO hl;obtain⟨hbase,⟨XY,hns,hn⟩|⟨hm,hn⟩⟩:=h
  .have fin:∀r:aF,Grown p.aC r.aC->r.bT=p.bT->r.aD=p.aD->r.bJ=p.bJ->r.dZ=p.dZ->r.block=p.block->sJ r+1<=sJ p->0<n/\Bd (n-1) r:=by
    intro r g1 g2 g3 g4 g5 g6 g7;refine⟨by omega,hbase.grown g1 g3 g4 (g5.trans hi) (.inr g6),.inl ⟨by rw[g2];exact XY,?_,?_⟩⟩
    .rw [g1.1];exact Ep hns hbase.op ⟨g1.2.choose,g1.2.choose_spec.1⟩
    .have:BF r=BF p:=by unfold BF;rw[g5,g6]
     rw[g2,this];omega
   split at ht
   .rename_i d hd;have hdl:p.eH.toNat<20:=by have h1:=(cU.1 hd).1;have h2:=jT jY p.aD 0;have h3:=hbase.ns;omega
    split at ht
    .rename_i s hs;unfold Ci at*;split at ht
     .rename_i hd2;rw[eM hd2];simp only;split
      .obtain ⟨s1,s2,s3,s4,s5,s6,s7,s8⟩:=Pe p s.body false;refine fin _ (Lu _ _ _) (s8 rfl) s1 s2 s3 s4 ?_;unfold sJ;simp only[s6,s7];omega
      .refine fin _ (Grown.rfl' _) rfl rfl rfl rfl rfl ?_;unfold sJ;simp only;omega
     .cases ht
    .cases ht
   .rename_i hd;split at ht
    .rename_i a ha;have hel:p.fA.toNat<20:=by have h1:=(cU.1 ha).1;have h3:=hbase.ne;omega
     unfold Cj at*;split at ht
     .rename_i hd2;rw[eM hd2];simp only;unfold nU;split
      .refine fin _ (Grown.rfl' _) rfl rfl rfl rfl rfl ?_;unfold sJ;simp only;omega
      .obtain ⟨s1,s2,s3,s4,s5,s6,s7,s8⟩:=aDs p (fP p a) (fP p a).length;refine fin _ (X7 _ _ _) s8 s1 s2 s3 s4 ?_;unfold sJ;simp only[s5,s7];omega
     .cases ht
    .unfold Ck at*;split at ht
     .rename_i hd2;rw[eM hd2];refine fin _ (Grown.rfl' _) rfl rfl rfl rfl rfl ?_;unfold sJ;simp only[c2];simp
     .cases ht
  .obtain ⟨_,_,t,r,e⟩:=aDt hm;rw[hq]at e;cases e
 .cases ht
def aBv{n:Nat}{p:aF}(h:Bd n p)(ht:(mD p).2=true):0<n/\Bd (n-1) (mD p).1:=by
 unfold mD at*;split at ht
 .rename_i hp;rw[eM hp];exact aDu h hp
 .rename_i hp;rw[eC hp];exact aNl h ht
def Nw:∀(m n:Nat) {p:aF},Bd n p->n<=m->(mD (kX m p)).2=false/\Bd n (kX m p)
 |0,n,p,h,hn=>by
  refine⟨?_,h⟩;cases hs:(mD p).2 with
  |false=>exact hs
  |true=>have:=(aBv h hs).1;omega
 |m+1,n,p,h,hn=>by
  unfold kX;split
  .rename_i hs;obtain⟨h1,h2⟩:=aBv h hs;obtain⟨h3,h4⟩:=Nw m (n-1) h2 (by omega);exact⟨h3,h4.up (by omega)⟩
  .rename_i hs;exact⟨by simpa using hs,h⟩
def Y6{p:gG}{r:iO}{x:bG}(h:fE p r x=1)(hk:r.kind=2):x.kind=2:=by
 unfold fE at h;split at h
 .cases h
 .split at h
  .cases h
  .split at h
   .cases h
   .rename_i hf;unfold BD at hf;rw[hk]at hf;simpa using hf
def aJc{n:Nat}{p q:aF}(h:Bd n p)(e:q={p with aD:=q.aD})(hl:q.aD.length=p.aD.length)(hs:∀s∈q.aD,s.nI=3->s.code=1->NW s.body)(hm:∀(k:Nat) s,p.aD[k]? =some s->∃s',q.aD[k]? =some s'/\s'.nI=s.nI):Bd n q:=by
 obtain⟨hb,hd⟩:=h;have hbase:gL q:=by rw[e];refine⟨hb.nd,hb.op,hs,?_,hb.il,by rw[show({p with aD:=q.aD}:aF).aD=q.aD from rfl,hl];exact hb.ns,hb.ne⟩;intro hbk;obtain⟨b1,b2,s,h3,h4⟩:=hb.bl hbk;obtain⟨s',h5,h6⟩:=hm _ s h3;exact⟨b1,b2,s',h5,h6.trans h4⟩
 refine⟨hbase,?_⟩;rw[e];exact hd
def aNm{n:Nat}{p:aF}(k:Int)(x:bG)(hx:Dn x)(h:Bd n p):Bd n (jO p k x):=by
 unfold jO;split
 .split
  .rename_i s hs;split
   .exact h
   .have hkl:=(cU.1 hs).1;refine aJc h rfl (by simp) ?_ ?_
    .intro y hy hm hc;rcases rN hy with hy|hy
     .exact h.1.sl y hy hm hc
     .subst hy;simp only[filled]at hm hc⊢;unfold lG;rw[eM hc];exact hx (Y6 hc (by simp only[iG];rw[hm];decide))
    .intro j y hy;by_cases hj:k.toNat=j
     .subst hj;rw[hs]at hy;obtain rfl:=cX hy;exact⟨_,mN hkl,rfl⟩
     .exact ⟨y,by simp only;rw[lB hj];exact hy,rfl⟩
  .exact h
 .exact h
def XZ{n:Nat}{p:aF}(a:aR)(x:bG)(hx:Dn x)(h:Bd n p):∀k,Bd n (jJ p a x k)
 |0=>h
 |k+1=>by
  have ih:=XZ a x hx h k;unfold jJ;split
  .split
   .exact aNm k x hx ih
   .exact ih
  .exact ih
def aNn{n:Nat}{p q:aF}(h:Bd n p)(e:q={p with aL:=q.aL}):Bd n q:=by obtain⟨hb,hd⟩:=h;rw[e];exact⟨⟨hb.nd,hb.op,hb.sl,hb.bl,hb.il,hb.ns,hb.ne⟩,hd⟩
def Y7(p:aF)(a:aR)(x:bG):kM p a x={p with aL:=(kM p a x).aL}:=by
 have key:∀(l:List aR) (q:aF),lH q l={q with aL:=(lH q l).aL}:=by
  intro l;induction l with
  |nil=>intro q;rfl
  |cons y l ih=>intro q;have h1:=ih (fF q y);obtain⟨X,e,_⟩:=Fe q y;have h2:lH q (y::l)=lH (fF q y) l:=rfl;rw[h2];generalize (lH (fF q y) l)=z at*;rw[h1,e]
 rcases oL (mR a) p.aL with⟨hi,hf⟩|⟨k,hk,hi,hf⟩
 .rw [Ba hi]
 .have hg:=aE hk;cases hd:p.aL[k].done
  .rw [Cx hi hg hd];unfold Gg;have:=key (jU {p with aL:=p.aL.set k (jP p p.aL[k] x)} a) {p with aL:=p.aL.set k (jP p p.aL[k] x)};generalize lH {p with aL:=p.aL.set k (jP p p.aL[k] x)} (jU {p with aL:=p.aL.set k (jP p p.aL[k] x)} a)=z at*;rw[this]
  .rw [Bb hi hg hd]
def aDv{n:Nat}{p:aF}(a:aR)(x:bG)(hx:Dn x)(h:Bd n p)(hn:n<=2000):Bd n (lS p a x):=by unfold lS fD;refine(Nw 2000 n ?_ hn).2;exact aNn (XZ a x hx h p.aD.length) (Y7 _ _ _)
def aNo{n:Nat}{p:aF}(h:Bd n p)(hn:n<=2000):(mD (fD p)).2=false/\fD (fD p)=fD p/\(iJ (fD p)).2=false/\(iJ (fD p)).1=fD p:=by
 obtain⟨h1,_⟩:=Nw 2000 n h hn;have h1:(mD (fD p)).2=false:=h1;have h2:(iJ (fD p)).2=false:=by
  unfold mD at h1;split at h1
  .rename_i hp;rw[hp]at h1;cases h1
  .exact h1
 exact⟨h1,XX h1 2000,h2,aJa h2⟩
def aZy(n:Nat)(l:List gP)(x:bG)(r:AV):Prop:=∃(l':List gP) (b:Bool),r= .iL [.sl .view 2 (l'.map (dP .view)),.bool b]/\dS eF l'<=n/\(Am l->Dn x->Am l')
def vE[aG prog][dG prog](l:List gP)(a:aR)(x:bG)(hs:dS eF l+aW a+dC x<=1048576):OkE prog 137 [.sl .view 2 (l.map (dP .view)),.agg (aS a),.agg (bR x)] (aZy (dS eF l+(2*aW a+dC x+5)) l x):=
 (Vg l a x hs).Dk λr ⟨l',b,e,h⟩=>⟨l',b,by subst e;simp[rt,tJ],h⟩
def p9:List bE:=[[104,111,109,101],[99,100,110],[101,118,105,108]]
def q9:List bE:=[[97,112,112],[108,105,98],[117,116,105,108]]
def aD0:∀s∈p9,s.length<=5:=by decide
def aD1:∀s∈q9,s.length<=5:=by decide
def aZz(n:Nat)(r:AV):Prop:=∃l:List gP,r= .sl .view 2 (l.map (dP .view))/\dS eF l<=n/\Am l
def aD2:Am []:=λs h=>by simp at h
def Ro[aG prog][dG prog]:Hf prog 84 [] (aZz 24000):=by
 refine EE aK func84 ntmps84 ?_;intro code i h hi hl;simp only[bH];refine bK ?_;obtain⟨H,hH,hHn,hHl⟩:∃H:List bE,p9.map eD=H.map eD/\H.length=3/\∀s∈H,s.length<=5:=⟨p9,rfl,rfl,aD0⟩;refine aT (ι:={y:Nat×List gP×Int×Int // y.1<=3/\dS eF y.2.1<=7000*y.1/\0<=y.2.2.1/\Am y.2.1}) (λt o y=>⟨[.ptr 0 2 0 0,.aB,.aB,.sl .view 2 (y.1.2.1.map (dP .view)),.aB,.aB,.aB,.aB,.aB,.aB,.obj 2 1,.int .i64 3,.int .i64 (y.1.1:Int),.aB,.aB,.aB,.aB,.aB,.aB,.aB,.aB,.aB,.aB,.aB,.aB,.aB,.aB,.aB,.aB,.aB,.aB,.aB,.aB,.aB,.aB,.aB,.aB,.aB,.aB,.aB,.aB,.aB,.aB,.aB,.aB,.aB,.aB,.aB,.aB,.aB,.aB,.aB,.aB,.aB,.aB,.aB,.aB,.aB,.aB,.aB,.aB,.aB,.aB,.aB,.aB,.aB,.aB,.aB,.aB,.aB,.aB,.aB,.aB,.aB,.aB,.aB,.aB,.aB,.aB,.aB,.aB,.aB,.aB,.aB,.aB],[⟨true,true,3,2,[[.sl .view 1 (bL code),.int .i64 y.1.2.2.1,.int .i64 y.1.2.2.2]]⟩,⟨false,false,2,1,[]⟩,⟨true,false,1,1,H.map eD⟩]⟩)
  (λy=>3-y.1.1) ⟨(0,[],i,h),by simp,by simp[dS,bU],hi,aD2⟩ (aDw 1 1 3 (by rfl) rfl (by rw[<-hH];simp[uZ,aI.kill,tH,vY];rfl) (by simp[vK,tH]) (by simp) (by simp)) ?_
 clear hH;rintro⟨⟨k,sv,i,h⟩,hk,hz,hi,hgl⟩ K1 hK1;simp only at hk hz hi hgl;have hK2:=hK1;clear hK1;simp only;by_cases hlt:k<3
 .have hki:(k:Int)<3:=by omega
  have hkl:(k:Int)<(H.length:Int):=by omega
  obtain⟨s,hg⟩:∃s,H[k]? =some s:=⟨_,aE (by omega)⟩;have hsl:s.length<=5:=hHl s (nB hg);clear hlt;have W:=aA hki (aA hkl hg);refine we ?_;obtain⟨J,hJ,hJn,hJl⟩:∃J:List bE,q9.map eD=J.map eD/\J.length=3/\∀s∈J,s.length<=5:=⟨q9,rfl,rfl,aD1⟩;refine aT (ι:={y:Nat×List gP×Int×Int // y.1<=3/\dS eF y.2.1<=7000*k+1400*y.1/\0<=y.2.2.1/\Am y.2.1}) (λt o y=>⟨[.ptr 0 2 0 0,.aB,.aB,.sl .view 2 (y.1.2.1.map (dP .view)),.aB,.str s,.aB,.aB,.aB,.aB,.obj 2 1,.int .i64 3,.int .i64 (k:Int),.aB,.aB,.aB,.obj 3 1,.int .i64 3,.int .i64 (y.1.1:Int),.aB,.aB,.aB,.aB,.aB,.aB,.aB,.aB,.aB,.aB,.aB,.aB,.aB,.aB,.aB,.aB,.aB,.aB,.aB,.aB,.aB,.aB,.aB,.aB,.aB,.aB,.aB,.aB,.aB,.aB,.aB,.aB,.aB,.aB,.aB,.aB,.aB,.aB,.aB,.aB,.aB,.aB,.aB,.aB,.aB,.aB,.aB,.aB,.aB,.aB,.aB,.aB,.aB,.aB,.aB,.aB,.aB,.aB,.aB,.aB,.aB,.aB,.aB,.aB,.aB,.aB],[⟨true,true,3,2,[[.sl .view 1 (bL code),.int .i64 y.1.2.2.1,.int .i64 y.1.2.2.2]]⟩,⟨false,false,2,1,[]⟩,⟨true,false,1,1,H.map eD⟩,⟨true,false,1,1,J.map eD⟩]⟩)
   (λy=>3-y.1.1) ⟨(0,sv,i,h),by simp,by simp only;omega,hi,hgl⟩ (aP (by rw[<-hJ];rfl) (by simp)) ?_
  clear hJ;rintro⟨⟨j,sv,i,h⟩,hj,hz,hi,hgl⟩ K3 hK3;simp only at hj hz hi hgl;have hK4:=hK3;clear hK3;simp only;have hj1:i64.wrap ((j:Int)+1)=((j+1:Nat):Int):=by rw[wrap64]<;>omega
  by_cases hjt:j<3
  .have hji:(j:Int)<3:=by omega
   have hjl:(j:Int)<(J.length:Int):=by omega
   obtain⟨q,hgq⟩:∃q,J[j]? =some q:=⟨_,aE (by omega)⟩;have hql:q.length<=5:=hJl q (nB hgq);clear hjt;cases hq:(q == [97,112,112])
   .have W:=aA hji (aA hjl (aA hgq hq));repeat' first|(refine go_takeC (by rfl) (by first|rfl|(simp[qN,W];done)|(simp[qN,W];rfl)) ?_;refine cu (kY 2) ?_)|refine st ?_|(refine nx ?_;refine so ?_)|(refine cx ?_;refine sc (λhc=>?_) (λhc=>?_)<;>try exact hc.elim)|(refine lx ?_;refine sp (λhc=>?_) (λhc=>?_)<;>try exact hc.elim)|refine sx ?_ ?_|refine sy ?_ ?_|fail
    rintro _ i2 h2 ⟨b,rfl⟩ hi2;simp only[AS.drew,AS.bW,bH,AS.put,aU,aN,gT,dM,gN,dI,gW,dL,cH,cQ,eE,eA,cW];cases b
    .have W:=hq;refine we ?_;refine cu (kY 6) ?_;rintro _ i3 h3 ⟨b2,rfl⟩ hi3;simp only[AS.drew,AS.bW,bH,AS.put,aU,aN,gT,dM,gN,dI,gW,dL,cH,cQ,eE,eA,cW];cases b2
     .refine bK ?_;refine cu (qZ 2) ?_;rintro _ i4 h4 ⟨x,rfl,hx,hgx⟩ hi4;simp only[AS.drew,AS.bW,bH,AS.put,aU,aN,gT,dM,gN,dI,gW,dL,cH,cQ,eE,eA,cW];simp only[bR];refine bK ?_;refine ce (vE sv ⟨s,q⟩ x (by simp only[aW,eL,fL];omega)) ?_;rintro _ ⟨sv2,b3,rfl,hz2,hg2⟩;simp only[AS.bW,AS.put,aU,aN,gT,dM,gN,dI,gW,dL,cH,cQ,eE,eA,cW];simp only[aW,eL,fL]at hz2;have W:=hj1;refine we ?_;exact hK4 _ ⟨(j+1,sv2,i4,h4),by simp only;omega,by simp only;omega,hi4,hg2 hgl hgx⟩ (aQ 4) (by simp only;omega)
     .have W:=hj1;refine we ?_;exact hK4 _ ⟨(j+1,sv,i3,h3),by simp only;omega,by simp only;omega,hi3,hgl⟩ (aQ 4) (by simp only;omega)
    .have W:=hq;refine we ?_;refine cu (kY 6) ?_;rintro _ i3 h3 ⟨b2,rfl⟩ hi3;simp only[AS.drew,AS.bW,bH,AS.put,aU,aN,gT,dM,gN,dI,gW,dL,cH,cQ,eE,eA,cW];cases b2
     .refine bK ?_;refine cu (qZ 5) ?_;rintro _ i4 h4 ⟨x,rfl,hx,hgx⟩ hi4;simp only[AS.drew,AS.bW,bH,AS.put,aU,aN,gT,dM,gN,dI,gW,dL,cH,cQ,eE,eA,cW];simp only[bR];refine bK ?_;refine ce (vE sv ⟨s,q⟩ x (by simp only[aW,eL,fL];omega)) ?_;rintro _ ⟨sv2,b3,rfl,hz2,hg2⟩;simp only[AS.bW,AS.put,aU,aN,gT,dM,gN,dI,gW,dL,cH,cQ,eE,eA,cW];simp only[aW,eL,fL]at hz2;have W:=hj1;refine we ?_;exact hK4 _ ⟨(j+1,sv2,i4,h4),by simp only;omega,by simp only;omega,hi4,hg2 hgl hgx⟩ (aQ 4) (by simp only;omega)
     .have W:=hj1;refine we ?_;exact hK4 _ ⟨(j+1,sv,i3,h3),by simp only;omega,by simp only;omega,hi3,hgl⟩ (aQ 4) (by simp only;omega)
   .have W:=aA hji (aA hjl (aA hgq hq));refine we ?_;refine cu (kY 6) ?_;rintro _ i3 h3 ⟨b2,rfl⟩ hi3;simp only[AS.drew,AS.bW,bH,AS.put,aU,aN,gT,dM,gN,dI,gW,dL,cH,cQ,eE,eA,cW];cases b2
    .refine bK ?_;refine cu (qZ 2) ?_;rintro _ i4 h4 ⟨x,rfl,hx,hgx⟩ hi4;simp only[AS.drew,AS.bW,bH,AS.put,aU,aN,gT,dM,gN,dI,gW,dL,cH,cQ,eE,eA,cW];simp only[bR];refine bK ?_;refine ce (vE sv ⟨s,q⟩ x (by simp only[aW,eL,fL];omega)) ?_;rintro _ ⟨sv2,b3,rfl,hz2,hg2⟩;simp only[AS.bW,AS.put,aU,aN,gT,dM,gN,dI,gW,dL,cH,cQ,eE,eA,cW];simp only[aW,eL,fL]at hz2;have W:=hj1;refine we ?_;exact hK4 _ ⟨(j+1,sv2,i4,h4),by simp only;omega,by simp only;omega,hi4,hg2 hgl hgx⟩ (aQ 4) (by simp only;omega)
    .have W:=hj1;refine we ?_;exact hK4 _ ⟨(j+1,sv,i3,h3),by simp only;omega,by simp only;omega,hi3,hgl⟩ (aQ 4) (by simp only;omega)
  .have hji:¬(j:Int)<3:=by omega
   clear hK4;have W:=hji;refine we ?_;have hk1:=tQ (k:=k);refine cu (kY 4) ?_;rintro _ i5 h5 ⟨b5,rfl⟩ hi5;simp only[AS.drew,AS.bW,bH,AS.put,aU,aN,gT,dM,gN,dI,gW,dL,cH,cQ,eE,eA,cW];cases b5
   .refine bK ?_;refine cu (qZ 3) ?_;rintro _ i8 h8 ⟨x,rfl,hx,hgx⟩ hi8;simp only[AS.drew,AS.bW,bH,AS.put,aU,aN,gT,dM,gN,dI,gW,dL,cH,cQ,eE,eA,cW];simp only[bR];refine bK ?_;refine ce (vE sv ⟨s,[115,116,121,108,101]⟩ x (by simp only[aW,eL,fL];omega)) ?_;rintro _ ⟨sv8,b3,rfl,hz8,hg8⟩;simp only[AS.bW,AS.put,aU,aN,gT,dM,gN,dI,gW,dL,cH,cQ,eE,eA,cW];simp only[aW,eL,fL]at hz8;have hg8:=hg8 hgl hgx;refine bK ?_;refine cu (kY 4) ?_;rintro _ i6 h6 ⟨b6,rfl⟩ hi6;simp only[AS.drew,AS.bW,bH,AS.put,aU,aN,gT,dM,gN,dI,gW,dL,cH,cQ,eE,eA,cW];cases b6
    .refine bK ?_;refine cu (qZ 4) ?_;rintro _ i7 h7 ⟨x,rfl,hx,hgx⟩ hi7;simp only[AS.drew,AS.bW,bH,AS.put,aU,aN,gT,dM,gN,dI,gW,dL,cH,cQ,eE,eA,cW];simp only[bR];refine bK ?_;refine ce (vE sv8 ⟨s,[108,111,103,111]⟩ x (by simp only[aW,eL,fL];omega)) ?_;rintro _ ⟨sv7,b3,rfl,hz7,hg7⟩;simp only[AS.bW,AS.put,aU,aN,gT,dM,gN,dI,gW,dL,cH,cQ,eE,eA,cW];simp only[aW,eL,fL]at hz7;have hg7:=hg7 hg8 hgx;have W:=hk1;refine we ?_;exact hK2 _ ⟨(k+1,sv7,i7,h7),by simp only;omega,by simp only;omega,hi7,hg7⟩ (aQ 3) (by simp only;omega)
    .skip
     have W:=hk1;refine we ?_;exact hK2 _ ⟨(k+1,sv8,i6,h6),by simp only;omega,by simp only;omega,hi6,hg8⟩ (aQ 3) (by simp only;omega)
   .refine bK ?_;refine cu (kY 4) ?_;rintro _ i6 h6 ⟨b6,rfl⟩ hi6;simp only[AS.drew,AS.bW,bH,AS.put,aU,aN,gT,dM,gN,dI,gW,dL,cH,cQ,eE,eA,cW];cases b6
    .refine bK ?_;refine cu (qZ 4) ?_;rintro _ i7 h7 ⟨x,rfl,hx,hgx⟩ hi7;simp only[AS.drew,AS.bW,bH,AS.put,aU,aN,gT,dM,gN,dI,gW,dL,cH,cQ,eE,eA,cW];simp only[bR];refine bK ?_;refine ce (vE sv ⟨s,[108,111,103,111]⟩ x (by simp only[aW,eL,fL];omega)) ?_;rintro _ ⟨sv7,b3,rfl,hz7,hg7⟩;simp only[AS.bW,AS.put,aU,aN,gT,dM,gN,dI,gW,dL,cH,cQ,eE,eA,cW];simp only[aW,eL,fL]at hz7;have hg7:=hg7 hgl hgx;have W:=hk1;refine we ?_;exact hK2 _ ⟨(k+1,sv7,i7,h7),by simp only;omega,by simp only;omega,hi7,hg7⟩ (aQ 3) (by simp only;omega)
    .skip
     have W:=hk1;refine we ?_;exact hK2 _ ⟨(k+1,sv,i6,h6),by simp only;omega,by simp only;omega,hi6,hgl⟩ (aQ 3) (by simp only;omega)
 .have hki:¬(k:Int)<3:=by omega
  clear hK2;have W:=hki;refine we ?_;refine cu (qZ 1) ?_;rintro _ i5 h5 ⟨x,rfl,hx,hgx⟩ hi5;simp only[AS.drew,AS.bW,bH,AS.put,aU,aN,gT,dM,gN,dI,gW,dL,cH,cQ,eE,eA,cW];simp only[bR];refine bK ?_;refine ce (vE sv ⟨[104,111,109,101],[105,110,100,101,120]⟩ x (by simp only[aW,eL,fL];omega)) ?_;rintro _ ⟨sv5,b3,rfl,hz5,hg5⟩;simp only[AS.bW,AS.put,aU,aN,gT,dM,gN,dI,gW,dL,cH,cQ,eE,eA,cW];simp only[aW,eL,fL]at hz5;have hg5:=hg5 hgl hgx;refine bK ?_;refine cu (qZ 1) ?_;rintro _ i6 h6 ⟨x,rfl,hx,hgx⟩ hi6;simp only[AS.drew,AS.bW,bH,AS.put,aU,aN,gT,dM,gN,dI,gW,dL,cH,cQ,eE,eA,cW];simp only[bR];refine bK ?_;refine ce (vE sv5 ⟨[104,111,109,101],[110,101,120,116]⟩ x (by simp only[aW,eL,fL];omega)) ?_;rintro _ ⟨sv6,b3,rfl,hz6,hg6⟩;simp only[AS.bW,AS.put,aU,aN,gT,dM,gN,dI,gW,dL,cH,cQ,eE,eA,cW];simp only[aW,eL,fL]at hz6;have hg6:=hg6 hg5 hgx;refine bK ?_;refine⟨.inr rfl,rW (by simp[results84];rfl) (by rfl) (by rfl) (by omega) (by simp) (by simp) ?_⟩;simp only[bX,res];exact⟨sv6,rfl,by omega,hg6⟩
structure Zw(n:Nat)(p:aF): Prop where
  sz:aM p <= n
  aL:p.aL = []
  aD:p.aD = []
  zN:p.bJ = []
  bo:IG p.aC
  bs:gL p /\ Dp p.aC p.aC.bD
  pd:p.dZ = 0 /\ p.block = 0
  qb:QB p.bT /\ mq p.bT*10 <= n
  q0:n <= 1000 -> p.bT = [] /\ p.tok.rest = []
def Zx:List bE:=([[],[60,112,62,104,105,60,47,112,62],[60,108,105,110,107,32,104,114,101,102,61,115,116,121,108,101,62]]:List bE)
def Ph(u:bE):List bE:=([[60,115,99,114,105,112,116,32,115,114,99,61,97,112,112,62,60,47,115,99,114,105,112,116,62],[60,115,99,114,105,112,116,62]++u++[60,47,115,99,114,105,112,116,62],[60,115,99,114,105,112,116,32,115,114,99,61,99,100,110,47,108,105,98,62,60,47,115,99,114,105,112,116,62],[60,115,99,114,105,112,116,32,115,114,99,61,117,116,105,108,32,107,105,110,100,61,109,111,100,117,108,101,62,60,47,115,99,114,105,112,116,62],[60,115,99,114,105,112,116,32,115,114,99,61,108,105,98,32,107,105,110,100,61,100,101,102,101,114,62,60,47,115,99,114,105,112,116,62],[60,105,109,103,32,115,114,99,61,108,111,103,111,62],[60,108,105,110,107,32,104,114,101,102,61,99,100,110,47,115,116,121,108,101,62],[60,112,62,120,60,47,112,62],[60,98,62],[60,115,99,114,105,112,116,32,110,111,110,99,101,61,110,55,62,115,97,121,32,110,60,47,115,99,114,105,112,116,62],[60,115,99,114,105,112,116,32,115,114,99,61,101,118,105,108,47,97,112,112,62,60,47,115,99,114,105,112,116,62],[116,101,120,116]]:List bE)
def Zy:List bE:=([[],[],[60,112,62,101,110,100,60,47,112,62],[60,112]]:List bE)
def aD5{u:bE}(h:u.length<=48):∀s∈Ph u,s.length<=65:=by simp only[Ph,forall_mem_cons,eR,eL,fL,DH,false_implies,implies_true,pS];omega
def aD6:∀s∈Zx,Pg true 3 s:=by
 have h:∀s∈Zx,pcB true 3 s=true:=by decide+kernel
 exact λs hs=>GM (h s hs)
def aD7:∀s∈Zy,Pg false 3 s:=by
 have h:∀s∈Zy,pcB false 3 s=true:=by decide+kernel
 exact λs hs=>GM (h s hs)
def aD8{u:bE}{m:Nat}(h:Vl m u)(hm:m<=3):∀s∈Ph u,Pg true 15 s:=by have h1:=Ye (o:=[60,115,99,114,105,112,116,62]) (by decide+kernel) h.lt h.ne (vz h hm);have h2:=Ye (o:=[60,115,99,114,105,112,116,32,110,111,110,99,101,61,110,55,62]) (u:=aV6) (by decide+kernel) (by decide) (by decide) aR1;unfold Ph;simp only[forall_mem_cons,DH,false_implies,implies_true,pS];exact⟨GM (by decide+kernel),h1,GM (by decide+kernel),GM (by decide+kernel),GM (by decide+kernel),GM (by decide+kernel),GM (by decide+kernel),GM (by decide+kernel),GM (by decide+kernel),h2,GM (by decide+kernel),GM (by decide+kernel)⟩
def aV7(r:AV):Prop:=∃s:bE,r= .str s/\s.length<=360/\Et false 99 s
def Vo[aG prog][dG prog]:Hf prog 140 [] aV7:=by
 refine EE aK func140 ntmps140 ?_;intro code i h hi hl;simp only[bH];refine bZ ?_;refine oU (i:=1) (bY:=1) (by rfl) (by rfl) ?_ (by simp[AS.frozen,vK,uZ,tH,vY,aI.tH,aI.kill,lW,tJ,rt];rfl);refine cu (jK Zx (by decide)) ?_;rintro _ i1 h1 ⟨s0,Xx,rfl⟩ hi1;simp only[AS.drew,AS.bW,bH,AS.put,aU,aN,gT,dM,gN,dI,gW,dL,cH,cQ,eE,eA,cW];have hs0:=(by decide:∀s∈Zx,s.length<=17) s0 Xx;have hb0:Et true 4 s0:=LF aD4 (aD6 s0 Xx);refine bZ ?_;refine cu (mP 6) ?_;rintro _ i2 h2 ⟨x,rfl,x0,x1,x2⟩ hi2;simp only[AS.drew,AS.bW,bH,AS.put,aU,aN,gT,dM,gN,dI,gW,dL,cH,cQ,eE,eA,cW];obtain⟨n,rfl⟩:=hY x0;have hn:n<=5:=by omega
 refine bZ ?_;refine aT (ι:={x:Nat×bE×Int×Int // x.1<=5/\x.2.1.length+65*x.1<=342/\0<=x.2.2.1/\Et true (4+16*(5-x.1)) x.2.1}) (λt o y=>⟨bP t [(3,.str y.1.2.1),(4,.int .i64 (y.1.1:Int))],[⟨true,true,3,2,[[.sl .view 1 (bL code),.int .i64 y.1.2.2.1,.int .i64 y.1.2.2.2]]⟩]⟩)
  (λy=>y.1.1) ⟨(n,s0,i2,h2),hn,by simp only;omega,hi2,hb0.up (by omega)⟩ (aQ 1) ?_
 rintro⟨⟨k,s,j,g⟩,hk,hs,hj,hbi⟩ K1 hK1;simp only at hk hs hj hbi;have hK2:=hK1;simp only[bP,cH,cQ]at hK1⊢;clear hK1;by_cases h0:0<k
 .have hk0:(k:Int) > 0:=by omega
  have hk1:i64.wrap ((k:Int)-1)=((k-1:Nat):Int):=by rw[wrap64]<;>omega
  have W:=hk0;refine wl ?_;refine cu (GL 2 (by omega) (by omega)) ?_;rintro _ j1 g1 ⟨u,rfl,hu,m,hm,Qm⟩ hj1;simp only[AS.drew,AS.bW,bH,AS.put,aU,aN,gT,dM,gN,dI,gW,dL,cH,cQ,eE,eA,cW];have hpc:=aD8 hm (by omega);clear hm;have hb:=aD5 (u:=u) (by omega);have hu1:u.length+8<=6200:=by omega
  have hu2:8+u.length<=6200:=by omega
  have hu3:8+u.length+9<=6200:=by omega
  have W:=aA hu1 (aA hu2 hu3);refine wl ?_;refine oU (i:=1) (bY:=1) (by rfl) (by rfl) ?_ (by simp[AS.frozen,vK,uZ,tH,vY,aI.tH,aI.kill,lW,tJ,rt];rfl);refine cu (jK (Ph u) (by simp[Ph])) ?_;rintro _ j2 g2 ⟨q,Qm,rfl⟩ hj2;simp only[AS.drew,AS.bW,bH,AS.put,aU,aN,gT,dM,gN,dI,gW,dL,cH,cQ,eE,eA,cW];have hq:=hb q Qm;have hbq:=(LF hbi (hpc q Qm)).up (n:=4+16*(5-(k-1))) (by omega);clear hpc;have hlq:s.length+q.length<=6200:=by omega
  have W:=aA hk1 hlq;refine wl ?_;refine hK2 _ ⟨(k-1,s++q,j2,g2),by simp only;omega,by simp;omega,hj2,hbq⟩ ?_ (by simp only;omega);exact aQ 1 (by simp) (by simp) (by simp) (by simp)
 .have hk0:¬(k:Int) > 0:=by omega
  have W:=hk0;refine wl ?_;refine oU (i:=1) (bY:=1) (by rfl) (by rfl) ?_ (by simp[AS.frozen,vK,uZ,tH,vY,aI.tH,aI.kill,lW,tJ,rt];rfl);refine cu (jK Zy (by decide)) ?_;rintro _ j2 g2 ⟨q,Qm,rfl⟩ hj2;simp only[AS.drew,AS.bW,bH,AS.put,aU,aN,gT,dM,gN,dI,gW,dL,cH,cQ,eE,eA,cW];have hq:=(by decide:∀s∈Zy,s.length<=10) q Qm;have hbq:=(LF hbi (aD7 q Qm)).up (n:=99) (by omega);have hlq:s.length+q.length<=6200:=by omega
  have W:=hlq;refine wl ?_;refine⟨.inr rfl,rW (by simp[results140];rfl) (by rfl) (by rfl) (by omega) (by simp) (by simp) ?_⟩;simp only[bX,res];exact⟨_,rfl,by simp;omega,hbq⟩
def aO9(n:Nat)(r:AV):Prop:=∃p:aF,r= .agg (aH .view p)/\Zw n p
def aR2(n:Nat)(r:AV):Prop:=∃p:aF,r= .agg (aH .own p)/\Zw n p
def wo(a:aR)(x:bG):aM (sG a x).1<=aW a+7*dC x+100:=by
 unfold sG;have hp:eT (kC x.bO).1<=7*x.bO.length+3:=by
  unfold kC xD;split
  .simp [yL,eT,dS,bU]
  .split
   .simp [yL,eT,dS,bU]
   .rename_i h3;split
    .exact Lg sK XQ h3
    .simp [yL,eT,dS,bU]
 split
 .simp only[aM,EB,sV,dS,aV,pU,qP,dC,bU,eL,fL]at*;omega
 .simp only[aM,Ai,yL,eT,aW,sV,dS,aV,bU,fL];omega
def aJq(a:aR)(x:bG):gL (sG a x).1/\Dp (sG a x).1.aC (sG a x).1.aC.bD:=by
 unfold sG;split
 .refine ⟨⟨by simp[EB,pU],by simp[EB,pU],by simp[EB],λh=>(h rfl).elim,λh=>(h rfl).elim,by simp[EB],by simp[EB]⟩,?_⟩
  intro o ho x hx;simp only[EB,pU,mS]at ho hx;subst ho;simp at hx;subst hx;decide
 .exact ⟨⟨by simp[Ai],by simp[Ai],by simp[Ai],λh=>(h rfl).elim,λh=>(h rfl).elim,by simp[Ai],by simp[Ai]⟩,λo ho=>by simp[Ai]at ho⟩
def wu(a:aR)(x:bG)(n:Nat)(h:aW a+7*dC x+100<=n):Zw n (sG a x).1:=by
 have hq:(sG a x).1.bT=[]/\(sG a x).1.tok.rest=[]:=by unfold sG;split<;>exact⟨rfl,rfl⟩
 refine⟨iS (wo a x) h,?_,?_,?_,aI3 a x,aJq a x,?_,by rw[hq.1];exact⟨.nil,by simp[mq]⟩,λ_=>hq⟩<;>(unfold sG;split<;>first|rfl|exact⟨rfl,rfl⟩)
def Zz[aG prog][dG prog]:Hf prog 139 [] (aO9 1000):=by refine EE aK func139 ntmps139 ?_;intro code i h hi hl;simp only[bH];refine bZ ?_;refine cu (IL) ?_;rintro _ i5 h5 ⟨p,rfl,hp⟩ hi5;simp only[AS.drew,AS.bW,bH,AS.put,aU,aN,gT,dM,gN,dI,gW,dL,cH,cQ,eE,eA,cW];have hf:=xZ p (by omega);have hfl:=aBw p;generalize jI p=fp at*;have c0:=Uz ⟨[104,111,109,101],[105,110,100,101,120]⟩ ⟨200,1,[],0,false,fp⟩ (by decide) (by simp only[dC,fL];omega);have hn:=wu ⟨[104,111,109,101],[105,110,100,101,120]⟩ ⟨200,1,[],0,false,fp⟩ 1000 (by simp only[aW,dC,fL,eL];omega);generalize sG ⟨[104,111,109,101],[105,110,100,101,120]⟩ ⟨200,1,[],0,false,fp⟩=z at*;simp only[dA]at hf⊢;simp only[aS,bR]at c0;refine bZ ?_;refine⟨.inr rfl,rW (by simp[results139];rfl) (by rfl) (by rfl) (by omega) (by simp) (by simp) ?_⟩;simp only[bX,res];exact⟨z.1,rfl,hn⟩
def r9{p:aF}{n:Nat}(s:bE)(m:Nat)(h:Zw n p)(hn:n<=1000)(hb:Et false 99 s)(hm:2*n+2*s.length<=m)(ZJ:1000<m):Zw m (rX p s):=by
 have hz:aM (rX p s)<=m:=iS (aD3 p s) (by have:=h.sz;omega);obtain⟨q1,q2⟩:=h.q0 hn;by_cases he:p.uM=true
 .have e:rX p s=p:=by unfold rX;rw[eM he]
  rw[e]at hz⊢;exact⟨hz,h.aL,h.aD,h.zN,h.bo,h.bs,h.pd,⟨h.qb.1,by have:=h.qb.2;omega⟩,λh=>by omega⟩
 .have e:rX p s={p with bT:=(lJ s).1,tok:=⟨(lJ s).2⟩}:=by unfold rX;rw[eC he,q1,q2];rfl
  rw[e]at hz⊢;exact⟨hz,h.aL,h.aD,h.zN,h.bo,⟨⟨h.bs.1.nd,h.bs.1.op,h.bs.1.sl,h.bs.1.bl,h.bs.1.il,h.bs.1.ns,h.bs.1.ne⟩,h.bs.2⟩,h.pd,⟨hb.1,by have:=hb.2.1;show mq (lJ s).1*10<=m;omega⟩,λh=>by omega⟩
def u6(t:nN):QB (lD t)/\mq (lD t)<=1:=by
 unfold lD;split
 .exact ⟨.nil,by simp[mq]⟩
 .exact ⟨.tok (by simp[dY]) .nil,by simp[mq,opB]⟩
def aNw{p:aF}{n:Nat}(m:Nat)(h:Zw n p)(hm:n+10<=m)(ZJ:1000<m):Zw m (Ao p):=by
 have hz:aM (Ao p)<=m:=iS (aNv p) (by have:=h.sz;omega);by_cases he:p.uM=true
 .have e:Ao p=p:=by unfold Ao;rw[eM he]
  rw[e]at hz⊢;exact⟨hz,h.aL,h.aD,h.zN,h.bo,h.bs,h.pd,⟨h.qb.1,by have:=h.qb.2;omega⟩,λh=>by omega⟩
 .have e:Ao p={p with bT:=p.bT++lD p.tok,tok:=⟨[]⟩,uM:=true}:=by unfold Ao;rw[eC he]
  obtain⟨e1,e2⟩:=u6 p.tok;rw[e]at hz⊢;refine⟨hz,h.aL,h.aD,h.zN,h.bo,⟨⟨h.bs.1.nd,h.bs.1.op,h.bs.1.sl,h.bs.1.bl,h.bs.1.il,h.bs.1.ns,h.bs.1.ne⟩,h.bs.2⟩,h.pd,⟨h.qb.1.app e1,?_⟩,λh=>by omega⟩;have:=h.qb.2;show mq (p.bT++lD p.tok)*10<=m;rw[Zo];omega
def wy[aG prog][dG prog]:Hf prog 85 [] (aR2 4000):=by
 refine EE aK func85 ntmps85 ?_;intro code i h hi hl;simp only[bH];refine bZ ?_;refine cu (Zz) ?_;rintro _ i1 h1 ⟨p,rfl,hp⟩ hi1;simp only[AS.drew,AS.bW,bH,AS.put,aU,aN,gT,dM,gN,dI,gW,dL,cH,cQ,eE,eA,cW];refine bZ ?_;refine cu (Vo) ?_;rintro _ i2 h2 ⟨s,rfl,hs,hbs⟩ hi2;simp only[AS.drew,AS.bW,bH,AS.put,aU,aN,gT,dM,gN,dI,gW,dL,cH,cQ,eE,eA,cW];have ca:=Nz p s (by have:=hp.sz;omega) (by omega);have hn:=r9 s 3200 hp (by omega) hbs (by omega) (by omega);generalize rX p s=q at*;have ce:=Vk q (by have:=hn.sz;omega);have jE:=aNw 4000 hn (by omega) (by omega);generalize Ao q=z at*;simp only[aH]at ca ce⊢;refine bZ ?_;refine cu (kY 3) ?_;rintro _ i3 h3 ⟨b,rfl⟩ hi3;simp only[AS.drew,AS.bW,bH,AS.put,aU,aN,gT,dM,gN,dI,gW,dL,cH,cQ,eE,eA,cW];cases b
 .refine bZ ?_;refine⟨.inr rfl,rW (by simp[results85];rfl) (by rfl) (by rfl) (by omega) (by simp) (by simp) ?_⟩;simp only[bX,res];exact⟨z,rfl,jE⟩
 .refine bZ ?_;refine⟨.inr rfl,rW (by simp[results85];rfl) (by rfl) (by rfl) (by omega) (by simp) (by simp) ?_⟩;simp only[bX,res];exact⟨q,rfl,⟨iS hn.sz (by omega),hn.aL,hn.aD,hn.zN,hn.bo,hn.bs,hn.pd,⟨hn.qb.1,iS hn.qb.2 (by omega)⟩,λh=>by omega⟩⟩
def ZA[aG prog][dG prog]:Hf prog 85 [] (aO9 4000):=
 wy.Dk λr ⟨p,e,h⟩=>⟨p,by subst e;simp[rt],h⟩
end Go.Proofs.YtanobkmhbpjnpaaGreatDoor
