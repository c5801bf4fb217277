/- Proved here: steps towards the statement of this claim. No condition. -/
import Derived.Test.YtnkpkklemmgapaaGreatDoorZQSPP
import Derived.Test.YtnkpkklemmgapaaGreatDoorZQDR7
set_option linter.all false
set_option maxRecDepth 8000
set_option maxHeartbeats 8000000
namespace Go.Proofs.YtnkpkklemmgapaaGreatDoor
open Go.Aw Proofs.Tryz List IntKind
theorem NU[aB prog][eO prog][dY prog][pM prog](p:aC)(hs:aM p<=500000000)(hn1:p.aF.length<=16777216)(hme:bV bI p.aN+bV aP p.entries<=16777216):Ok prog 107 [.agg (aQ .view p)] (.iP [.agg (aQ .own (qU p).1),.bool (qU p).2]):=by
 have c1:=fQ p (by omega);have hn2:p.aN.length<=16777216:=by simp only[bV]at hme;omega
 have cP:=NK p;have cS:=Az p (by omega);have cD:=ER p hn1;have hbd:∀s∈p.aF,s.body.length<=500000000:=λs hm=>by have:=dS iU hm;simp only[aM,bV,iU]at hs this;omega
 have hed:∀a∈p.entries,bV bI p.aN+aP a<=16777216:=λa hm=>by
  have h1:=dS aP hm;have h2:bB aP p.entries<=bV aP p.entries:=by simp only[bV];omega
  omega
 have aX1:p.entries.length<=16777216:=by
  have:p.entries.length<=bV aP p.entries:=by simp only[bV];omega
  omega
 have aTx:=pW sI p.aF 0;have Us:=UE sI p.aF 0;unfold qU;by_cases hpre:Fa p=true/\p.jZ=false/\0<=p.deferred/\0<=p.iV
 .rw [eW hpre];obtain⟨h1,h2,h3,h4⟩:=hpre;obtain⟨dn,RA⟩:=iS h3;obtain⟨en,L8⟩:=iS h4;rw[RA,L8,pD,pD];rw[h1]at cP;by_cases hdl:dn<(places sI 0 p.aF).length
  .have hgD:=aE hdl;obtain⟨sn,ZO,_,hsl⟩:=Us _ (hI hdl);rw[lO]at hsl;rw[ZO]at hgD;rw[hgD];simp only[pD];have hgS:=aE hsl;rw[hgS];simp only;have aPy:=hbd _ (hI hsl);have hkd:i64.wrap ((dn:Int)+1)=(dn:Int)+1:=by rw[wrap64]<;>omega
   have hdi:(dn:Int)<((places sI 0 p.aF).length:Int):=by omega
   unfold Kr;have c4:=Ao p p.aF[sn].body false (by omega) (by omega);have hqd:=(Su p p.aF[sn].body false).1.trans RA;clear hbd hed Us ZO aTx;generalize places sI 0 p.aF=D at*;cases hd:p.aF[sn].done
   .rw [eK (by simp)];simp only[aQ,h2,RA,L8]at c1 cP cS cD⊢;refine dL aO func107 ntmps107 ?_;have W:=aA hdi (aA hgD (aA hgS hd));have V:=aA hdl hsl;refine we ?_;exact aR results107
   .generalize p.aF.all vE=rdy at*;cases rdy
    .rw [eK (by simp)];simp only[aQ,h2,RA,L8]at c1 cP cS cD⊢;refine dL aO func107 ntmps107 ?_;have W:=aA hdi (aA hgD (aA hgS hd));have V:=aA hdl hsl;refine we ?_;exact aR results107
    .rw [eW ⟨rfl,rfl⟩];by_cases hcd:p.aF[sn].code=1
     .rw [eW hcd];generalize lU p p.aF[sn].body false=q at*;simp only[aQ,h2,RA,L8,hqd]at c1 cP cS cD c4⊢;refine dL aO func107 ntmps107 ?_;have W:=aA hdi (aA hgD (aA hgS (aA hd (aA hcd hkd))));have V:=aA hdl hsl;refine we ?_;exact aR results107
     .rw [eK hcd];simp only[aQ,h2,RA,L8]at c1 cP cS cD⊢;refine dL aO func107 ntmps107 ?_;have W:=aA hdi (aA hgD (aA hgS (aA hd (aA hcd hkd))));have V:=aA hdl hsl;refine we ?_;exact aR results107
  .have hgD:(places sI 0 p.aF)[dn]? =none:=pP (by omega);rw[hgD];simp only;have hdl:¬(dn:Int)<((places sI 0 p.aF).length:Int):=by omega
   clear hbd Us hgD;generalize places sI 0 p.aF=D at*;by_cases hlE:en<p.entries.length
   .have hgE:=aE hlE;rw[hgE];simp only;have hsa:=hed _ (hI hlE);have WC:(en:Int)<(p.entries.length:Int):=by omega
    have hke:i64.wrap ((en:Int)+1)=(en:Int)+1:=by rw[wrap64]<;>omega
    have cG:=Kn p p.entries[en] hsa;have c5:=VV p p.entries[en] hs hsa;have hqe:=(M4 p p.entries[en]).trans L8;clear hed;unfold Kt;generalize Dn p p.entries[en]=gr at*;cases gr
    .rw [eK (by simp)];simp only[aQ,bC,h2,RA,L8]at c1 cP cS cD cG⊢;refine dL aO func107 ntmps107 ?_;have W:=aA hdl (aA WC (aA hgE hlE));refine we ?_;exact aR results107
    .generalize p.aF.all vE=rdy at*;cases rdy
     .rw [eK (by simp)];simp only[aQ,bC,h2,RA,L8]at c1 cP cS cD cG⊢;refine dL aO func107 ntmps107 ?_;have W:=aA hdl (aA WC (aA hgE hlE));refine we ?_;exact aR results107
     .rw [eW ⟨rfl,rfl⟩];generalize oM p p.entries[en]=q at*;simp only[aQ,bC,h2,RA,L8,hqe]at c1 cP cS cD cG c5⊢;refine dL aO func107 ntmps107 ?_;have W:=aA hdl (aA WC (aA hke (aA hgE hlE)));refine we ?_;exact aR results107
   .have hgE:p.entries[en]? =none:=pP (by omega);rw[hgE];simp only;have WC:¬(en:Int)<(p.entries.length:Int):=by omega
    clear hed;have cO:=Cs p hn1;have cM:=DV p hn2;have hlg:p.log.length<=500000000:=by simp only[aM,bV]at hs;omega
    have c5:=IK p YN (by omega);unfold Ku;simp only[YN]at c5⊢;generalize places Aq 0 p.aF=O at*;generalize places Ar 0 p.aN=M at*;by_cases ho:O.length=0
    .obtain rfl:=BE.1 ho;by_cases hm:M.length=0
     .obtain rfl:=BE.1 hm;rw[eW ⟨rfl,rfl⟩];simp only[aQ,h2,RA,L8]at c1 cP cS cD cO cM c5⊢;refine dL aO func107 ntmps107 ?_;have W:=aA hdl WC;repeat' first|refine wf ?_|(refine nx ?_;refine sg (hc:=c5) (h:=?_))|(refine sq ?_ ?_<;>intro hc<;>try exact hc.elim)|fail
      exact aR results107
     .rw [eK (by omega)];have WE:¬M=[]:=λh=>hm (by rw[h];rfl)
      have hm3:(0:Int)<(M.length:Int):=by omega
      simp only[aQ,h2,RA,L8]at c1 cP cS cD cO cM⊢;refine dL aO func107 ntmps107 ?_;have W:=aA hdl (aA WC (aA WE hm3));repeat' first|refine wf ?_|(refine sq ?_ ?_<;>intro hc<;>try exact hc.elim)|fail
      all_goals (try exact(WE (by assumption)).elim)
      all_goals (try exact aR results107)
    .rw [eK (by omega)];have WV:¬O=[]:=λh=>ho (by rw[h];rfl)
     have ho3:(0:Int)<(O.length:Int):=by omega
     simp only[aQ,h2,RA,L8]at c1 cP cS cD cO cM⊢;refine dL aO func107 ntmps107 ?_;have W:=aA hdl (aA WC (aA WV ho3));repeat' first|refine wf ?_|(refine sq ?_ ?_<;>intro hc<;>try exact hc.elim)|fail
     all_goals (try exact(WV (by assumption)).elim)
     all_goals (try exact aR results107)
 .rw [eK hpre];clear hbd hed Us;cases h1:Fa p
  .rw [h1]at cP;simp only[aQ]at c1 cP cS cD⊢;refine dL aO func107 ntmps107 ?_;refine dH ?_;exact aR results107
  .rw [h1]at cP;cases h2:p.jZ
   .by_cases h3:p.deferred<0
    .simp only[aQ,h2]at c1 cP cS cD⊢;refine dL aO func107 ntmps107 ?_;have W:=h3;refine we ?_;exact aR results107
    .have h4:p.iV<0:=by
      rw[h1,h2]at hpre;by_cases h4:p.iV<0
      .exact h4
      .exact (hpre ⟨rfl,rfl,by omega,by omega⟩).elim
     simp only[aQ,h2]at c1 cP cS cD⊢;refine dL aO func107 ntmps107 ?_;have W:=aA h3 h4;refine we ?_;exact aR results107
   .simp only[aQ,h2]at c1 cP cS cD⊢;refine dL aO func107 ntmps107 ?_;refine dH ?_;exact aR results107
structure Zn(n:Nat)(p:aC): Prop where
  sz:aM p <= n
  aN:p.aN = []
  aF:p.aF = []
  wY:p.entries = []
  bo:Fs p.builder
def aEs:List aU:=([[],[60,112,62,104,105,60,47,112,62],[60,108,105,110,107,32,104,114,101,102,61,115,116,121,108,101,62]]:List aU)
def VZ(u:aU):List aU:=([[60,115,99,114,105,112,116,32,115,114,99,61,97,112,112,62,60,47,115,99,114,105,112,116,62],[60,115,99,114,105,112,116,62]++u++[60,47,115,99,114,105,112,116,62],[60,115,99,114,105,112,116,32,115,114,99,61,99,100,110,47,108,105,98,62,60,47,115,99,114,105,112,116,62],[60,115,99,114,105,112,116,32,115,114,99,61,117,116,105,108,32,107,105,110,100,61,109,111,100,117,108,101,62,60,47,115,99,114,105,112,116,62],[60,115,99,114,105,112,116,32,115,114,99,61,108,105,98,32,107,105,110,100,61,100,101,102,101,114,62,60,47,115,99,114,105,112,116,62],[60,105,109,103,32,115,114,99,61,108,111,103,111,62],[60,108,105,110,107,32,104,114,101,102,61,99,100,110,47,115,116,121,108,101,62],[60,112,62,120,60,47,112,62],[60,98,62],[60,115,99,114,105,112,116,32,110,111,110,99,101,61,110,55,62,115,97,121,32,110,60,47,115,99,114,105,112,116,62],[60,115,99,114,105,112,116,32,115,114,99,61,101,118,105,108,47,97,112,112,62,60,47,115,99,114,105,112,116,62],[116,101,120,116]]:List aU)
def aEt:List aU:=([[],[],[60,112,62,101,110,100,60,47,112,62],[60,112]]:List aU)
theorem Q3{u:aU}(h:u.length<=48):∀s∈VZ u,s.length<=80:=by simp only[VZ,forall_mem_cons,eM,dT,eR,Ft,false_implies,implies_true,qT];omega
theorem SE[aB prog][dY prog]:Jo prog 103 [] (O5 600):=by
 refine Ec aO func103 ntmps103 ?_;intro code i h hi hl;simp only[aV];have W:=trivial;repeat' first|refine st ?_|(refine nx ?_;refine so ?_)|(refine cx ?_;refine sc (λhc=>?_) (λhc=>?_)<;>try exact hc.elim)|(refine lx ?_;refine sp (λhc=>?_) (λhc=>?_)<;>try exact hc.elim)|refine sx ?_ ?_|refine sy ?_ ?_|fail
 refine oI (i:=1) (ver:=1) (by rfl) (by rfl) ?_ (by simp[AS.frozen,uL,tZ,rW,uT,aD.rW,aD.kill,iI,qD,rt];rfl);refine cu (gT aEs (by decide)) ?_;rintro _ i1 h1 ⟨s0,hm0,rfl⟩ hi1;simp only[AS.drew,AS.called,aV,AS.put,aJ,aH,eU,bS,eQ,bQ,eZ,bR,cH,cJ,eC,cY,cW];have hs0:=(by decide:∀s∈aEs,s.length<=17) s0 hm0;have W:=trivial;repeat' first|refine st ?_|(refine nx ?_;refine so ?_)|(refine cx ?_;refine sc (λhc=>?_) (λhc=>?_)<;>try exact hc.elim)|(refine lx ?_;refine sp (λhc=>?_) (λhc=>?_)<;>try exact hc.elim)|refine sx ?_ ?_|refine sy ?_ ?_|fail
 refine cu (kW 6) ?_;rintro _ i2 h2 ⟨x,rfl,x0,x1,x2⟩ hi2;simp only[AS.drew,AS.called,aV,AS.put,aJ,aH,eU,bS,eQ,bQ,eZ,bR,cH,cJ,eC,cY,cW];obtain⟨n,rfl⟩:=iS x0;have hn:n<=5:=by omega
 have W:=trivial;repeat' first|refine st ?_|(refine nx ?_;refine so ?_)|(refine cx ?_;refine sc (λhc=>?_) (λhc=>?_)<;>try exact hc.elim)|(refine lx ?_;refine sp (λhc=>?_) (λhc=>?_)<;>try exact hc.elim)|refine sx ?_ ?_|refine sy ?_ ?_|fail
 refine aI (ι:={x:Nat×aU×Int×Int // x.1<=5/\x.2.1.length+80*x.1<=420/\0<=x.2.2.1}) (λt o y=>⟨bH t [(3,.str y.1.2.1),(4,.int .i64 (y.1.1:Int))],[⟨true,true,3,2,[[.sl .view 1 (bA code),.int .i64 y.1.2.2.1,.int .i64 y.1.2.2.2]]⟩]⟩)
  (λy=>y.1.1) ⟨(n,s0,i2,h2),hn,by simp only;omega,hi2⟩ (aL 1) ?_
 rintro⟨⟨k,s,j,g⟩,hk,hs,hj⟩ K1 hK1;simp only at hk hs hj;have hK2:=hK1;simp only[bH,cH,cJ]at hK1⊢;clear hK1;by_cases h0:0<k
 .have hk0:(k:Int) > 0:=by omega
  have hk1:i64.wrap ((k:Int)-1)=((k-1:Nat):Int):=by rw[wrap64]<;>omega
  have W:=hk0;repeat' first|refine st ?_|(refine nx ?_;refine so ?_)|(refine cx ?_;refine sc (λhc=>?_) (λhc=>?_)<;>try exact hc.elim)|(refine lx ?_;refine sp (λhc=>?_) (λhc=>?_)<;>try exact hc.elim)|refine sx ?_ ?_|refine sy ?_ ?_|fail
  refine cu (Fw 2 (by omega) (by omega)) ?_;rintro _ j1 g1 ⟨u,rfl,hu⟩ hj1;simp only[AS.drew,AS.called,aV,AS.put,aJ,aH,eU,bS,eQ,bQ,eZ,bR,cH,cJ,eC,cY,cW];have hb:=Q3 (u:=u) (by omega);have hu1:u.length+8<=6200:=by omega
  have hu2:8+u.length<=6200:=by omega
  have hu3:8+u.length+9<=6200:=by omega
  have W:=aA hu1 (aA hu2 hu3);repeat' first|refine st ?_|(refine nx ?_;refine so ?_)|(refine cx ?_;refine sc (λhc=>?_) (λhc=>?_)<;>try exact hc.elim)|(refine lx ?_;refine sp (λhc=>?_) (λhc=>?_)<;>try exact hc.elim)|refine sx ?_ ?_|refine sy ?_ ?_|fail
  refine oI (i:=1) (ver:=1) (by rfl) (by rfl) ?_ (by simp[AS.frozen,uL,tZ,rW,uT,aD.rW,aD.kill,iI,qD,rt];rfl);refine cu (gT (VZ u) (by simp[VZ])) ?_;rintro _ j2 g2 ⟨q,WE,rfl⟩ hj2;simp only[AS.drew,AS.called,aV,AS.put,aJ,aH,eU,bS,eQ,bQ,eZ,bR,cH,cJ,eC,cY,cW];have hq:=hb q WE;have U6:s.length+q.length<=6200:=by omega
  have W:=aA hk1 U6;repeat' first|refine st ?_|(refine nx ?_;refine so ?_)|(refine cx ?_;refine sc (λhc=>?_) (λhc=>?_)<;>try exact hc.elim)|(refine lx ?_;refine sp (λhc=>?_) (λhc=>?_)<;>try exact hc.elim)|refine sx ?_ ?_|refine sy ?_ ?_|fail
  refine hK2 _ ⟨(k-1,s++q,j2,g2),by simp only;omega,by simp;omega,hj2⟩ ?_ (by simp only;omega);exact aL 1 (by simp) (by simp) (by simp) (by simp)
 .have hk0:¬(k:Int) > 0:=by omega
  have W:=hk0;repeat' first|refine st ?_|(refine nx ?_;refine so ?_)|(refine cx ?_;refine sc (λhc=>?_) (λhc=>?_)<;>try exact hc.elim)|(refine lx ?_;refine sp (λhc=>?_) (λhc=>?_)<;>try exact hc.elim)|refine sx ?_ ?_|refine sy ?_ ?_|fail
  refine oI (i:=1) (ver:=1) (by rfl) (by rfl) ?_ (by simp[AS.frozen,uL,tZ,rW,uT,aD.rW,aD.kill,iI,qD,rt];rfl);refine cu (gT aEt (by decide)) ?_;rintro _ j2 g2 ⟨q,WE,rfl⟩ hj2;simp only[AS.drew,AS.called,aV,AS.put,aJ,aH,eU,bS,eQ,bQ,eZ,bR,cH,cJ,eC,cY,cW];have hq:=(by decide:∀s∈aEt,s.length<=10) q WE;have U6:s.length+q.length<=6200:=by omega
  have W:=U6;repeat' first|refine st ?_|(refine nx ?_;refine so ?_)|(refine cx ?_;refine sc (λhc=>?_) (λhc=>?_)<;>try exact hc.elim)|(refine lx ?_;refine sp (λhc=>?_) (λhc=>?_)<;>try exact hc.elim)|refine sx ?_ ?_|refine sy ?_ ?_|fail
  refine⟨.inr rfl,rJ (by simp[results103];rfl) (by rfl) (by rfl) (by omega) (by simp) (by simp) ?_⟩;simp only[single,res];exact⟨_,rfl,by simp;omega⟩
def aJ8(n:Nat)(r:AV):Prop:=∃p:aC,r= .agg (aQ .view p)/\Zn n p
def aMo(n:Nat)(r:AV):Prop:=∃p:aC,r= .agg (aQ .own p)/\Zn n p
theorem Zo(a:aK)(x:bE):aM (wU a x).1<=aP a+7*dE x+100:=by
 unfold wU;have hp:gF (jH x.bM).1<=7*x.bM.length+3:=by
  unfold jH Fg;split
  .simp [AJ,gF,bV,bB]
  .split
   .simp [AJ,gF,bV,bB]
   .rename_i h3;split
    .exact Qx sJ UI h3
    .simp [AJ,gF,bV,bB]
 split
 .simp only[aM,VU,oQ,bV,aS,pY,gK,dE,bB,dT,eR]at*;omega
 .simp only[aM,Fh,AJ,gF,aP,oQ,bV,aS,bB,eR];omega
theorem Zp(a:aK)(x:bE)(n:Nat)(h:aP a+7*dE x+100<=n):Zn n (wU a x).1:=by refine⟨kO (Zo a x) h,?_,?_,?_,aEa a x⟩<;>(unfold wU;split<;>rfl)
theorem Wd[aB prog][dY prog]:Jo prog 102 [] (aJ8 1000):=by
 refine Ec aO func102 ntmps102 ?_;intro code i h hi hl;simp only[aV];have W:=trivial;repeat' first|refine st ?_|(refine nx ?_;refine so ?_)|(refine cx ?_;refine sc (λhc=>?_) (λhc=>?_)<;>try exact hc.elim)|(refine lx ?_;refine sp (λhc=>?_) (λhc=>?_)<;>try exact hc.elim)|refine sx ?_ ?_|refine sy ?_ ?_|fail
 refine cu (Fx) ?_;rintro _ i5 h5 ⟨p,rfl,hp⟩ hi5;simp only[AS.drew,AS.called,aV,AS.put,aJ,aH,eU,bS,eQ,bQ,eZ,bR,cH,cJ,eC,cY,cW];have hf:=uO p (by omega);have hfl:=yu p;generalize nG p=fp at*;have c0:=Qy ⟨[104,111,109,101],[105,110,100,101,120]⟩ ⟨200,1,[],0,false,fp⟩ (by decide) (by simp only[dE,eR];omega);have hn:=Zp ⟨[104,111,109,101],[105,110,100,101,120]⟩ ⟨200,1,[],0,false,fp⟩ 1000 (by simp only[aP,dE,eR,dT];omega);generalize wU ⟨[104,111,109,101],[105,110,100,101,120]⟩ ⟨200,1,[],0,false,fp⟩=z at*;simp only[dK]at hf⊢;simp only[bC,cZ]at c0;have W:=trivial;repeat' first|refine st ?_|(refine nx ?_;refine so ?_)|(refine cx ?_;refine sc (λhc=>?_) (λhc=>?_)<;>try exact hc.elim)|(refine lx ?_;refine sp (λhc=>?_) (λhc=>?_)<;>try exact hc.elim)|refine sx ?_ ?_|refine sy ?_ ?_|fail
 refine⟨.inr rfl,rJ (by simp[results102];rfl) (by rfl) (by rfl) (by omega) (by simp) (by simp) ?_⟩;simp only[single,res];exact⟨z.1,rfl,hn⟩
theorem qg{p:aC}{n:Nat}(s:aU)(m:Nat)(h:Zn n p)(hm:2*n+2*s.length<=m):Zn m (vN p s):=by refine⟨kO (O9 p s) (by have:=h.sz;omega),?_,?_,?_,?_⟩<;>(unfold vN;split<;>first|exact h.aN|exact h.aF|exact h.wY|exact h.bo)
theorem aIs{p:aC}{n:Nat}(m:Nat)(h:Zn n p)(hm:n+1<=m):Zn m (Dz p):=by refine⟨kO (aIr p) (by have:=h.sz;omega),?_,?_,?_,?_⟩<;>(unfold Dz;split<;>first|exact h.aN|exact h.aF|exact h.wY|exact h.bo)
theorem Zq[aB prog][dY prog]:Jo prog 72 [] (aMo 4000):=by
 refine Ec aO func72 ntmps72 ?_;intro code i h hi hl;simp only[aV];have W:=trivial;repeat' first|refine st ?_|(refine nx ?_;refine so ?_)|(refine cx ?_;refine sc (λhc=>?_) (λhc=>?_)<;>try exact hc.elim)|(refine lx ?_;refine sp (λhc=>?_) (λhc=>?_)<;>try exact hc.elim)|refine sx ?_ ?_|refine sy ?_ ?_|fail
 refine cu (Wd) ?_;rintro _ i1 h1 ⟨p,rfl,hp⟩ hi1;simp only[AS.drew,AS.called,aV,AS.put,aJ,aH,eU,bS,eQ,bQ,eZ,bR,cH,cJ,eC,cY,cW];have W:=trivial;repeat' first|refine st ?_|(refine nx ?_;refine so ?_)|(refine cx ?_;refine sc (λhc=>?_) (λhc=>?_)<;>try exact hc.elim)|(refine lx ?_;refine sp (λhc=>?_) (λhc=>?_)<;>try exact hc.elim)|refine sx ?_ ?_|refine sy ?_ ?_|fail
 refine cu (SE) ?_;rintro _ i2 h2 ⟨s,rfl,hs⟩ hi2;simp only[AS.drew,AS.called,aV,AS.put,aJ,aH,eU,bS,eQ,bQ,eZ,bR,cH,cJ,eC,cY,cW];have ca:=KG p s (by have:=hp.sz;omega) (by omega);have hn:=qg s 3200 hp (by omega);generalize vN p s=q at*;have ce:=Ra q (by have:=hn.sz;omega);have hne:=aIs 4000 hn (by omega);generalize Dz q=z at*;simp only[aQ]at ca ce⊢;have W:=trivial;repeat' first|refine st ?_|(refine nx ?_;refine so ?_)|(refine cx ?_;refine sc (λhc=>?_) (λhc=>?_)<;>try exact hc.elim)|(refine lx ?_;refine sp (λhc=>?_) (λhc=>?_)<;>try exact hc.elim)|refine sx ?_ ?_|refine sy ?_ ?_|fail
 refine cu (iA 3) ?_;rintro _ i3 h3 ⟨b,rfl⟩ hi3;simp only[AS.drew,AS.called,aV,AS.put,aJ,aH,eU,bS,eQ,bQ,eZ,bR,cH,cJ,eC,cY,cW];cases b
 .have W:=trivial;repeat' first|refine st ?_|(refine nx ?_;refine so ?_)|(refine cx ?_;refine sc (λhc=>?_) (λhc=>?_)<;>try exact hc.elim)|(refine lx ?_;refine sp (λhc=>?_) (λhc=>?_)<;>try exact hc.elim)|refine sx ?_ ?_|refine sy ?_ ?_|fail
  refine⟨.inr rfl,rJ (by simp[results72];rfl) (by rfl) (by rfl) (by omega) (by simp) (by simp) ?_⟩;simp only[single,res];exact⟨z,rfl,hne⟩
 .have W:=trivial;repeat' first|refine st ?_|(refine nx ?_;refine so ?_)|(refine cx ?_;refine sc (λhc=>?_) (λhc=>?_)<;>try exact hc.elim)|(refine lx ?_;refine sp (λhc=>?_) (λhc=>?_)<;>try exact hc.elim)|refine sx ?_ ?_|refine sy ?_ ?_|fail
  refine⟨.inr rfl,rJ (by simp[results72];rfl) (by rfl) (by rfl) (by omega) (by simp) (by simp) ?_⟩;simp only[single,res];exact⟨q,rfl,⟨kO hn.sz (by omega),hn.aN,hn.aF,hn.wY,hn.bo⟩⟩
theorem We[aB prog][dY prog]:Jo prog 72 [] (aJ8 4000):=
 Zq.Dt λr ⟨p,e,h⟩=>⟨p,by subst e;simp[rt],h⟩
@[simp] theorem aF5(f:Tg->Option Tg)(b:Bool)(l:aU):iI f b (bA l)=bA l:=by
 induction l with
 |nil=>rfl
 |cons x l ih=>simp only[bA,lA,iI,qD,rt]at ih⊢;rw[ih]
def iF(l:List aU):aU:=(l.map λt=>t++[10]).flatten
theorem DD(l:List aU)(k:Nat)(h:k<l.length):iF (l.take (k+1))=iF (l.take k)++(l[k]++[10]):=by unfold iF;rw[eL h,oX,flatten_append];simp
theorem BH:∀l:List aU,(iF l).length=bB dI l+l.length
 |[]=>rfl
 |x::l=>by have ih:=BH l;unfold iF at*;simp only[lA,pH,eM,dT,eR,bB,dI,ih];omega
theorem Fz(a b:List aU):iF (a++b)=iF a++iF b:=by simp[iF]
theorem xW(l:List aU)(k:Nat):(iF (l.take k)).length<=bB dI l+l.length:=by
 rw[BH];have h1:bB dI (l.take k)<=bB dI l:=uA dI l k;have h2:(l.take k).length<=l.length:=by simp;omega
 omega
def iC(r:mI):aU:=iF (r.log++r.dV)++(jI r.sN++jE r.builder)
def pG(r:mI):Int:=qY (157::gD (iC r))
theorem Ro(r:mI)(hl:mO r<=33554432)(hr:EE r):(iC r).length<=1920000000/\(iF (r.log++r.dV)).length<=67108864/\(jI r.sN).length<=960000000/\(jE r.builder).length<=864000000:=by simp only[mO,aS,xZ,bV]at hl;have h1:=BH r.log;have h2:=BH r.dV;have h3:=zB r.sN hr.2;have h4:=AU r.builder hr.1.1;have h5:=Fz r.log r.dV;unfold iC;simp only[eM,h5];omega
theorem yz(s:aU)(h:s.length<=1920000000):∀y∈(157::gD s),Sd y:=by
 intro y hy;unfold Sd;rcases gE.1 hy with rfl|hy
 .omega
 rcases gE.1 hy with rfl|hy
 .omega
 .simp only[toInts,iO,qS]at hy;obtain⟨c,_,rfl⟩:=hy;have:c.toNat<256:=Ge c;omega
theorem KR(s:aU):(gD s).length=s.length+1:=by simp[gD,toInts,iO]
theorem Gv[aB prog][eO prog](r:mI)(hl:mO r<=33554432)(hr:EE r):Ok prog 14 [.agg (dC .view r)] (.int .i64 (pG r)):=by
 obtain⟨d1,d2,d3,d4⟩:=Ro r hl hr;have c1:=Jj r.sN (by simp only[mO,xZ]at hl;omega) hr.2;have c2:=BF r.builder (by simp only[mO,aS]at hl;omega) hr.1.1;have c3:=AP (iC r) (by omega);have c4:=MX (157::gD (iC r)) (by simp only[dT,KR];omega) (yz _ d1);have hil:=KR (iC r);have hq:(gD (iC r)).length<=1920000001:=by omega
 simp only[lA]at c4;have hdt:iC r=iF r.log++iF r.dV++jI r.sN++jE r.builder:=by unfold iC;rw[Fz];simp
 have hrd:pG r=qY (157::gD (iC r)):=rfl;rw[hrd];clear hrd;generalize gD (iC r)=q at*;rw[Fz,eM]at d2;simp only[mO,aS,xZ,bV]at hl;generalize U9:jI r.sN=fs at*;generalize hft:jE r.builder=ft at*;simp only[bX]at c1;simp only[aW]at c2;refine dL aO func14 ntmps14 ?_;have W:=trivial;repeat' first|refine st ?_|(refine nx ?_;first|refine se ?_|refine so ?_|refine sb ?_)|(refine cx ?_;refine sc (λhc=>?_) (λhc=>?_)<;>try exact hc.elim)|(refine lx ?_;refine sp (λhc=>?_) (λhc=>?_)<;>try exact hc.elim)|refine sx ?_ ?_|refine sy ?_ ?_|fail
 refine aI (ι:={k:Nat // k<=r.log.length}) (λt o i=>⟨bH t [(4,.int .i64 i.1),(3,.str (iF (r.log.take i.1)))],o⟩)
  (λi=>r.log.length-i.1) ⟨0,by simp⟩ (aG (by simp) (by simp[iF])) ?_
 rintro⟨k,hk⟩ K1 hK1;simp only[bH,cH,cJ]at hK1⊢;have hk1:=rE (k:=k);by_cases hlt:k<r.log.length
 .have hg:=aE hlt;have hs:=DD r.log k hlt;have hb:=xW r.log k;have hz:=dD dI r.log k hlt;simp only[dI]at hz;generalize iF (r.log.take k)=a at*;have W:=aA hk1 (aA hg hlt);repeat' first|refine st ?_|(refine nx ?_;first|refine se ?_|refine so ?_|refine sb ?_)|(refine cx ?_;refine sc (λhc=>?_) (λhc=>?_)<;>try exact hc.elim)|(refine lx ?_;refine sp (λhc=>?_) (λhc=>?_)<;>try exact hc.elim)|refine sx ?_ ?_|refine sy ?_ ?_|fail
  all_goals exact hK1 _ ⟨k+1,by omega⟩ (aG (by simp) (by simp[hs])) (by simp only;omega)
 .have htk:r.log.take k=r.log:=eJ (by omega);rw[htk];have W:=hk1;repeat' first|refine st ?_|(refine nx ?_;first|refine se ?_|refine so ?_|refine sb ?_)|(refine cx ?_;refine sc (λhc=>?_) (λhc=>?_)<;>try exact hc.elim)|(refine lx ?_;refine sp (λhc=>?_) (λhc=>?_)<;>try exact hc.elim)|refine sx ?_ ?_|refine sy ?_ ?_|fail
  refine aI (ι:={k:Nat // k<=r.dV.length}) (λt o i=>⟨bH t [(5,.int .i64 i.1),(3,.str (iF r.log++iF (r.dV.take i.1)))],o⟩)
   (λi=>r.dV.length-i.1) ⟨0,by simp⟩ (aG (by simp) (by simp[iF])) ?_
  rintro⟨k,hk⟩ K1 hK1;simp only[bH,cH,cJ]at hK1⊢;have hk1:=rE (k:=k);by_cases hlt:k<r.dV.length
  .have hg:=aE hlt;have hs:=DD r.dV k hlt;have hb:=xW r.dV k;have hz:=dD dI r.dV k hlt;simp only[dI]at hz;generalize iF (r.dV.take k)=a at*;generalize iF r.log=a0 at*;have W:=aA hk1 (aA hg hlt);repeat' first|refine st ?_|(refine nx ?_;first|refine se ?_|refine so ?_|refine sb ?_)|(refine cx ?_;refine sc (λhc=>?_) (λhc=>?_)<;>try exact hc.elim)|(refine lx ?_;refine sp (λhc=>?_) (λhc=>?_)<;>try exact hc.elim)|refine sx ?_ ?_|refine sy ?_ ?_|fail
   all_goals exact hK1 _ ⟨k+1,by omega⟩ (aG (by simp) (by simp[hs])) (by simp only;omega)
  .have htk:r.dV.take k=r.dV:=eJ (by omega);rw[htk];generalize iF r.log=a0 at*;generalize iF r.dV=a1 at*;simp only[sB]at hdt;rw[hdt]at c3 d1;have W:=hk1;repeat' first|refine st ?_|(refine nx ?_;first|refine se ?_|refine so ?_|refine sb ?_)|(refine cx ?_;refine sc (λhc=>?_) (λhc=>?_)<;>try exact hc.elim)|(refine lx ?_;refine sp (λhc=>?_) (λhc=>?_)<;>try exact hc.elim)|refine sx ?_ ?_|refine sy ?_ ?_|fail
   all_goals (try exact aR results14)
theorem zH[aB prog][eO prog](r:mI)(hl:mO r<=33554432)(hr:EE r):Ok prog 13 [.agg (dC .view r)] (.int .i64 (pG r)):=by
 obtain⟨d1,d2,d3,d4⟩:=Ro r hl hr;have c1:=Jk r.sN (by simp only[mO,xZ]at hl;omega) hr.2;have c2:=BG r.builder (by simp only[mO,aS]at hl;omega) hr.1.1;have c3:=IY (iC r) (by omega);have c4:=YU (157::gD (iC r)) (by simp only[dT,KR];omega) (yz _ d1);have hil:=KR (iC r);have hq:(gD (iC r)).length<=1920000001:=by omega
 simp only[lA]at c4;have hdt:iC r=iF (r.log++r.dV)++(jI r.sN++jE r.builder):=rfl;have hrd:pG r=qY (157::gD (iC r)):=rfl;rw[hrd];clear hrd;generalize gD (iC r)=q at*;simp only[mO,aS,xZ,bV]at hl;generalize U9:jI r.sN=fs at*;generalize hft:jE r.builder=ft at*;simp only[bX]at c1;simp only[aW]at c2;have aL4:∀a b:List aU,bB dI (a++b)=bB dI a+bB dI b:=by
  intro a b;induction a with
  |nil=>simp[bB]
  |cons x xs ih=>simp only[cW,bB,ih];omega
 have hS:=aL4 r.log r.dV;have hlen:(r.log++r.dV).length=r.log.length+r.dV.length:=eM;refine aS5 aO [(2,[0,1,2,3,4,5,8,6,7],[0,1,2,3,4,5,7,8,6])] func13 ntmps13 ?_;have W:=trivial;repeat' first|refine st ?_|(refine nx ?_;first|refine se ?_|refine so ?_|refine sb ?_)|(refine cx ?_;refine sc (λhc=>?_) (λhc=>?_)<;>try exact hc.elim)|(refine lx ?_;refine sp (λhc=>?_) (λhc=>?_)<;>try exact hc.elim)|refine sx ?_ ?_|refine sy ?_ ?_|fail
 rw[<-oX];generalize hL:r.log++r.dV=L at*;refine aI (ι:={k:Nat // k<=L.length}) (λt o i=>⟨bH t [(14,.int .i64 i.1),(3,.str (iF (L.take i.1))),(5,.undef)],o⟩)
  (λi=>L.length-i.1) ⟨0,by simp⟩ (aG (by simp) (by simp[iF,hlen])) ?_
 rintro⟨k,hk⟩ K1 hK1;simp only[bH,cH,cJ]at hK1⊢;have hk1:=rE (k:=k);by_cases hlt:k<L.length
 .have hg:=aE hlt;have hs:=DD L k hlt;have hb:=xW L k;have hz:=dD dI L k hlt;simp only[dI]at hz;generalize iF (L.take k)=a at*;have W:=aA hk1 (aA hg (aA hlt hlen));repeat' first|refine st ?_|(refine nx ?_;first|refine se ?_|refine so ?_|refine sb ?_)|(refine cx ?_;refine sc (λhc=>?_) (λhc=>?_)<;>try exact hc.elim)|(refine lx ?_;refine sp (λhc=>?_) (λhc=>?_)<;>try exact hc.elim)|refine sx ?_ ?_|refine sy ?_ ?_|fail
  all_goals exact hK1 _ ⟨k+1,by omega⟩ (aG (by simp) (by simp[hs])) (by simp only;omega)
 .have htk:L.take k=L:=eJ (by omega);rw[htk];generalize iF L=a0 at*;rw[hdt]at c3 d1;have W:=aA hk1 hlen;repeat' first|refine st ?_|(refine nx ?_;first|refine se ?_|refine so ?_|refine sb ?_)|(refine cx ?_;refine sc (λhc=>?_) (λhc=>?_)<;>try exact hc.elim)|(refine lx ?_;refine sp (λhc=>?_) (λhc=>?_)<;>try exact hc.elim)|refine sx ?_ ?_|refine sy ?_ ?_|fail
  all_goals (try exact aR results13)
end Go.Proofs.YtnkpkklemmgapaaGreatDoor
