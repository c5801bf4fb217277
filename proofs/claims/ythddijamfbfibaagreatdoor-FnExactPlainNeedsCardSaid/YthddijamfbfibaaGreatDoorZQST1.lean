/- Proved here: steps towards the statement of this claim. No condition. -/
import Derived.Test.YthddijamfbfibaaGreatDoorZQTK7
import Derived.Test.YthddijamfbfibaaGreatDoorZQSTP
set_option linter.all false
set_option maxRecDepth 8000
set_option maxHeartbeats 8000000
namespace Go.Proofs.YthddijamfbfibaaGreatDoor
open Go.Aw Proofs.Tryz List IntKind
theorem ZQ[aB prog][dM prog][bQ prog][oO prog](p:aI)(a:aD)(hs:aL p<=500000000)(hm:bP bL p.aO+aQ a<=16777216):
  Lf prog 163 [.uN (aJ .own p) (aJ .own (oL p a)),.view (.agg (aH a))] (.gM []):=by
 have c1:=MG p a hm;unfold oL;cases hfl:uH p a
 .rw [cY (by simp)];obtain⟨r1,r2,r3⟩:=HY p a hm hfl;obtain⟨hB,_⟩:=HV p a hm;have c2:=Cy p _ hB a (by simp);have KT:=wV p (dY p a) (by omega);have Ol:=BC p (dY p a);have hz0:jM p (dY p a) 0=p:=rfl;have hsz:∀k,k<=(dY p a).length->aL (jM p (dY p a) k)<=520000000:=λk hk=>by
   have h1:=(KT k hk).1;have h2:=(CB (jM p (dY p a) k)).1;have h3:=(CB p).2;have h4:=zT aQ (dY p a) k;simp only[bP,oT]at h1 r2 hm;omega
  have Va:∀k,k<=(dY p a).length->(jM p (dY p a) k).aO=p.aO:=λk hk=>(KT k hk).2.1
  have hmem:∀b∈dY p a,∃(j:Nat) (m:dX),qO (kW b) p.aO=(j:Int)/\p.aO[j]? =some m/\j<p.aO.length/\zV p b=m.body:=λb hb=>by
   have h1:=r3 b hb;rcases lT (kW b) p.aO with⟨hi,hf⟩|⟨j,hj,hi,hf⟩
   .unfold lL at h1;rw[hf]at h1;cases h1
   .exact ⟨j,p.aO[j],hi,aE hj,hj,by unfold zV;rw[hf]⟩
  have Og:∀b∈dY p a,aQ b<=16777215:=λb hb=>by have:=bS aQ hb;have:=length_pos_of_mem hb;simp only[bP]at r2 hm;omega
  have T9:∀m∈p.aO,m.body.length<=16777216:=λm hx=>by have:=bS bL hx;simp only[bP,bL]at hm this;omega
  have Nn:p.aO.length<=16777216:=by simp only[bP]at hm;omega
  clear r2 r3 hB KT;generalize dY p a=L at*;generalize jM p L=Q at*;simp only[aJ,aH]at c1 c2;rw[hfl]at c1;refine sN aG func163 ntmps163 ?_;refine aZ ?_;refine aM (ι:={k:Nat // k<=L.length}) (λt o i=>⟨bC t [(25,.int .i64 i.1),(5,.undef),(11,.undef),(21,.undef)],[⟨true,true,22,2,[zK 1 (Q i.1)]⟩]++zJ (Q i.1)++[⟨true,true,2,0,[[.str a.host,.str a.path]]⟩,⟨true,false,2,1,L.map aH⟩]⟩)
   (λi=>L.length-i.1) ⟨0,by simp⟩ (aK (by simp[zK,zJ,hz0]) (by simp)) ?_
  rintro⟨k,hk⟩ K1 hK1;have hk1:=oQ (k:=k);by_cases hlt:k<L.length
  .have hg:=aE hlt;have hbm:=fS hlt;have hnext:=Ol k hlt;have hq1:=hsz k hk;have hqm:=Va k hk;obtain⟨j,m,hi,hgm,hjl,hbd⟩:=hmem L[k] hbm;have hsb:=Og L[k] hbm;rw[<-hqm]at hi hgm hjl;have hbq:zV (Q k) L[k]=m.body:=by rw[<-hbd];unfold zV;rw[hqm]
   have hmb:m.body.length<=16777216:=T9 m (by rw[<-hqm];exact nB hgm);unfold sG at hnext;rw[hbq]at hnext;have hK2:=hK1;clear Ol hsz Va hmem Og T9 hbd hqm hbm c1 c2;generalize hq':Q (k+1)=q' at*;generalize hq:Q k=q at*;have hrl:q.uA.length<=520000000:=by simp only[aL,bP]at hq1;omega
   have c3:=Te q.uA L[k] (by omega);simp only[bC,cW,cU,eA,eM,zJ,zK]at hK1⊢;cases hh:q.uA.any (iA L[k])
   .rw [hh]at hnext c3;rw[cY (by simp)]at hnext;obtain⟨rn,hrn⟩:∃rn,rn=q.uA++[L[k]]:=⟨_,rfl⟩;have hap:q.uA.map aH++[[.str L[k].host,.str L[k].path]]=rn.map aH:=by rw[hrn];simp
    rw[<-hrn]at hnext;have hsq:aL {q with uA:=rn}<=536870912:=by simp only[aL,bP,hrn,eR,eN,eV,jE,aY]at hq1⊢;omega
    have c4:=yX {q with uA:=rn} L[k] (by simp only;simp only[aL,bP]at hq1;omega);have hbh:L[k].host.length<=16777216:=by simp only[aQ]at hsb;omega
    have c5:=uG m.body L[k].host (by omega) (by omega);obtain⟨l6,lx⟩:=Dw m.body L[k].host;have c6:=FW {q with uA:=rn} (bH m.body L[k].host).2.1 false hsq l6 lx;rw[<-hnext]at c6;simp only[hi]at c4;clear hnext hrn hsq l6 lx hq1;generalize bH m.body L[k].host=g at*;obtain⟨im,ln,bk⟩:=g;have hj0:¬(j:Int)<0:=by omega
    simp only[aJ,aH]at c3 c4 c5 c6;have W:=aA hk1 (aA hg (aA hap (aA hgm (aA hj0 hrl))));have V:=aA hlt (aA hjl hj0);repeat' first|refine wf ?_|(refine nx ?_;refine sg (hc:=c6) (h:=?_))|(refine sq ?_ ?_<;>intro hc<;>try exact hc.elim)|fail
    refine hK2 _ ⟨k+1,by omega⟩ ?_ (by simp only;omega);simp only[hq'];exact aI3 (q:=q') rfl (by simp[zJ,zK,hq']) (by simp[zZ]) (by simp[zZ]) (by simp) (by simp) (by simp[dB])
   .rw [hh]at hnext c3;rw[eK rfl]at hnext;simp only[aH]at c3;have W:=aA hk1 (aA hg hlt);refine we ?_;refine hK2 _ ⟨k+1,by omega⟩ ?_ (by simp only;omega);exact aT 14 (by simp[zJ,zK,hq',hnext]) (by simp) (by simp) (by simp[dB,zJ,zK,hq',hnext])
  .have hkl:k=L.length:=by omega
   subst hkl;simp only[bC,cW,cU,eA,eM,zJ,zK]at hK1⊢;clear Ol hsz Va hmem Og T9 hK1 c1 c2;generalize Q L.length=q at*;have W:=aA hk1 hlt;refine we ?_;all_goals (try exact kP (by simp[gF,dJ,dH,rowOf,results163];done))
 .rw [eK rfl];rw[hfl]at c1;have hfm:=Cw a;have xg:p.log.length<=500000000:=by simp only[aL,bP]at hs;omega
  have c2:=Mt a (by omega);have c3:=Fu p (Uo++mQ a) (by omega);simp only[Uo]at c3⊢;generalize mQ a=fa at*;simp only[aJ,aH]at c1 c2 c3⊢;refine sN aG func163 ntmps163 ?_;have W:=hfm;repeat' first|refine wf ?_|(refine nx ?_;refine sg (hc:=c3) (h:=?_))|(refine sq ?_ ?_<;>intro hc<;>try exact hc.elim)|fail
  all_goals (try exact kP (by simp[gF,dJ,dH,rowOf,results163];done))
theorem QR[aB prog][dM prog][bQ prog][oO prog](p:aI)(hs:aL p<=500000000)(hn1:p.aC.length<=16777216)(hme:bP bL p.aO+bP aQ p.entries<=16777216):Ok prog 97 [.agg (aJ .view p)] (.gM [.agg (aJ .own (nZ p).1),.bool (nZ p).2]):=by
 have c1:=iI p (by omega);have hn2:p.aO.length<=16777216:=by simp only[bP]at hme;omega
 have cP:=QA p;have cS:=Ct p (by omega);have cD:=Ho p hn1;have hbd:∀s∈p.aC,s.body.length<=500000000:=λs hm=>by have:=bS lJ hm;simp only[aL,bP,lJ]at hs this;omega
 have hed:∀a∈p.entries,bP bL p.aO+aQ a<=16777216:=λa hm=>by
  have h1:=bS aQ hm;have h2:aY aQ p.entries<=bP aQ p.entries:=by simp only[bP];omega
  omega
 have aXb:p.entries.length<=16777216:=by
  have:p.entries.length<=bP aQ p.entries:=by simp only[bP];omega
  omega
 have aQj:=jF jU p.aC 0;have Qp:=OA jU p.aC 0;unfold nZ;by_cases hpre:yZ p=true/\p.pF=false/\0<=p.deferred/\0<=p.iC
 .rw [eK hpre];obtain⟨h1,h2,h3,h4⟩:=hpre;obtain⟨dn,Gf⟩:=mS h3;obtain⟨en,Ov⟩:=mS h4;rw[Gf,Ov,mA,mA];rw[h1]at cP;by_cases hdl:dn<(places jU 0 p.aC).length
  .have ZP:=aE hdl;obtain⟨sn,Oa,_,hsl⟩:=Qp _ (fS hdl);rw[hY]at hsl;rw[Oa]at ZP;rw[ZP];simp only[mA];have hgS:=aE hsl;rw[hgS];simp only;have aIv:=hbd _ (fS hsl);have hkd:i64.wrap ((dn:Int)+1)=(dn:Int)+1:=by rw[wrap64]<;>omega
   have hdi:(dn:Int)<((places jU 0 p.aC).length:Int):=by omega
   unfold MJ;have c4:=Ck p p.aC[sn].body false (by omega) (by omega);have hqd:=(Jz p p.aC[sn].body false).1.trans Gf;clear hbd hed Qp Oa aQj;generalize places jU 0 p.aC=D at*;cases hd:p.aC[sn].done
   .rw [cY (by simp)];simp only[aJ,h2,Gf,Ov]at c1 cP cS cD⊢;refine bM aG func97 ntmps97 ?_;have W:=aA hdi (aA ZP (aA hgS hd));have V:=aA hdl hsl;refine we ?_;exact aF results97
   .generalize p.aC.all oK=S9 at*;cases S9
    .rw [cY (by simp)];simp only[aJ,h2,Gf,Ov]at c1 cP cS cD⊢;refine bM aG func97 ntmps97 ?_;have W:=aA hdi (aA ZP (aA hgS hd));have V:=aA hdl hsl;refine we ?_;exact aF results97
    .rw [eK ⟨rfl,rfl⟩];by_cases ZN:p.aC[sn].code=1
     .rw [eK ZN];generalize lZ p p.aC[sn].body false=q at*;simp only[aJ,h2,Gf,Ov,hqd]at c1 cP cS cD c4⊢;refine bM aG func97 ntmps97 ?_;have W:=aA hdi (aA ZP (aA hgS (aA hd (aA ZN hkd))));have V:=aA hdl hsl;refine we ?_;exact aF results97
     .rw [cY ZN];simp only[aJ,h2,Gf,Ov]at c1 cP cS cD⊢;refine bM aG func97 ntmps97 ?_;have W:=aA hdi (aA ZP (aA hgS (aA hd (aA ZN hkd))));have V:=aA hdl hsl;refine we ?_;exact aF results97
  .have ZP:(places jU 0 p.aC)[dn]? =none:=pC (by omega);rw[ZP];simp only;have hdl:¬(dn:Int)<((places jU 0 p.aC).length:Int):=by omega
   clear hbd Qp ZP;generalize places jU 0 p.aC=D at*;by_cases hlE:en<p.entries.length
   .have hgE:=aE hlE;rw[hgE];simp only;have hsa:=hed _ (fS hlE);have hel:(en:Int)<(p.entries.length:Int):=by omega
    have hke:i64.wrap ((en:Int)+1)=(en:Int)+1:=by rw[wrap64]<;>omega
    have cG:=ME p p.entries[en] hsa;have c5:=ZQ p p.entries[en] hs hsa;have hqe:=(Yg p p.entries[en]).trans Ov;clear hed;unfold MK;generalize xN p p.entries[en]=gr at*;cases gr
    .rw [cY (by simp)];simp only[aJ,aH,h2,Gf,Ov]at c1 cP cS cD cG⊢;refine bM aG func97 ntmps97 ?_;have W:=aA hdl (aA hel (aA hgE hlE));refine we ?_;exact aF results97
    .generalize p.aC.all oK=S9 at*;cases S9
     .rw [cY (by simp)];simp only[aJ,aH,h2,Gf,Ov]at c1 cP cS cD cG⊢;refine bM aG func97 ntmps97 ?_;have W:=aA hdl (aA hel (aA hgE hlE));refine we ?_;exact aF results97
     .rw [eK ⟨rfl,rfl⟩];generalize oL p p.entries[en]=q at*;simp only[aJ,aH,h2,Gf,Ov,hqe]at c1 cP cS cD cG c5⊢;refine bM aG func97 ntmps97 ?_;have W:=aA hdl (aA hel (aA hke (aA hgE hlE)));repeat' first|refine wf ?_|(refine nx ?_;refine sg (hc:=c5) (h:=?_))|(refine sq ?_ ?_<;>intro hc<;>try exact hc.elim)|fail
      exact aF results97
   .have hgE:p.entries[en]? =none:=pC (by omega);rw[hgE];simp only;have hel:¬(en:Int)<(p.entries.length:Int):=by omega
    clear hed;have cO:=Ew p hn1;have cM:=FY p hn2;have xg:p.log.length<=500000000:=by simp only[aL,bP]at hs;omega
    have c5:=Fu p Us (by omega);unfold ML;simp only[Us]at c5⊢;generalize places sJ 0 p.aC=O at*;generalize places sK 0 p.aO=M at*;by_cases ho:O.length=0
    .obtain rfl:=Ax.1 ho;by_cases hm:M.length=0
     .obtain rfl:=Ax.1 hm;rw[eK ⟨rfl,rfl⟩];simp only[aJ,h2,Gf,Ov]at c1 cP cS cD cO cM c5⊢;refine bM aG func97 ntmps97 ?_;have W:=aA hdl hel;repeat' first|refine wf ?_|(refine nx ?_;refine sg (hc:=c5) (h:=?_))|(refine sq ?_ ?_<;>intro hc<;>try exact hc.elim)|fail
      exact aF results97
     .rw [cY (by omega)];have hm2:¬M=[]:=λh=>hm (by rw[h];rfl)
      have hm3:(0:Int)<(M.length:Int):=by omega
      simp only[aJ,h2,Gf,Ov]at c1 cP cS cD cO cM⊢;refine bM aG func97 ntmps97 ?_;have W:=aA hdl (aA hel (aA hm2 hm3));repeat' first|refine wf ?_|(refine sq ?_ ?_<;>intro hc<;>try exact hc.elim)|fail
      all_goals (try exact(hm2 (by assumption)).elim)
      all_goals (try exact aF results97)
    .rw [cY (by omega)];have ho2:¬O=[]:=λh=>ho (by rw[h];rfl)
     have ho3:(0:Int)<(O.length:Int):=by omega
     simp only[aJ,h2,Gf,Ov]at c1 cP cS cD cO cM⊢;refine bM aG func97 ntmps97 ?_;have W:=aA hdl (aA hel (aA ho2 ho3));refine we ?_;all_goals (try exact(ho2 (by assumption)).elim)
     all_goals (try exact aF results97)
 .rw [cY hpre];clear hbd hed Qp;cases h1:yZ p
  .rw [h1]at cP;simp only[aJ]at c1 cP cS cD⊢;refine bM aG func97 ntmps97 ?_;refine aZ ?_;exact aF results97
  .rw [h1]at cP;cases h2:p.pF
   .by_cases h3:p.deferred<0
    .simp only[aJ,h2]at c1 cP cS cD⊢;refine bM aG func97 ntmps97 ?_;have W:=h3;refine we ?_;exact aF results97
    .have h4:p.iC<0:=by
      rw[h1,h2]at hpre;by_cases h4:p.iC<0
      .exact h4
      .exact (hpre ⟨rfl,rfl,by omega,by omega⟩).elim
     simp only[aJ,h2]at c1 cP cS cD⊢;refine bM aG func97 ntmps97 ?_;have W:=aA h3 h4;refine we ?_;exact aF results97
   .simp only[aJ,h2]at c1 cP cS cD⊢;refine bM aG func97 ntmps97 ?_;refine aZ ?_;exact aF results97
end Go.Proofs.YthddijamfbfibaaGreatDoor
