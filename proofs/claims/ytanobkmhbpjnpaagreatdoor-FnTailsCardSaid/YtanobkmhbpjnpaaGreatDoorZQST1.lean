/- Steps. No condition. -/
import Derived.Test.YtanobkmhbpjnpaaGreatDoorZQST0
set_option linter.all false
set_option maxRecDepth 8000
set_option maxHeartbeats 8000000
namespace Go.Proofs.YtanobkmhbpjnpaaGreatDoor
open Go.Aw Proofs.Tryz List IntKind
def ZH[aG prog][fI prog][dG prog][qR prog](p:aF)(a:aR)(hs:aM p<=500000000)(hm:dS cB p.aL+aW a<=16777216):
  Ob prog 38 [.vX (aH .own p) (aH .own (nU p a)),.view (.agg (aS a))] (.iL []):=by
 have c1:=Ng p a hm;unfold nU;cases hfl:vS p a
 .rw [eC (by simp)];obtain⟨r1,r2,r3⟩:=Iw p a hm hfl;obtain⟨hB,_⟩:=Iu p a hm;have c2:=Df p _ hB a (by simp);have Lt:=yK p (fP p a) (by omega);have OD:=Ch p (fP p a);have hz0:iR p (fP p a) 0=p:=rfl;have hsz:∀k,k<=(fP p a).length->aM (iR p (fP p a) k)<=520000000:=λk hk=>by
   have h1:=(Lt k hk).1;have h2:=(Di (iR p (fP p a) k)).1;have h3:=(Di p).2;have h4:=AU aW (fP p a) k;simp only[dS,pL]at h1 r2 hm;omega
  have UN:∀k,k<=(fP p a).length->(iR p (fP p a) k).aL=p.aL:=λk hk=>(Lt k hk).2.1
  have hmem:∀b∈fP p a,∃(j:Nat) (m:fO),wR (mR b) p.aL=(j:Int)/\p.aL[j]? =some m/\j<p.aL.length/\AY p b=m.body:=λb hb=>by
   have h1:=r3 b hb;rcases oL (mR b) p.aL with⟨hi,hf⟩|⟨j,hj,hi,hf⟩
   .unfold nP at h1;rw[hf]at h1;cases h1
   .exact ⟨j,p.aL[j],hi,aE hj,hj,by unfold AY;rw[hf]⟩
  have Oj:∀b∈fP p a,aW b<=16777215:=λb hb=>by have:=dJ aW hb;have:=length_pos_of_mem hb;simp only[dS]at r2 hm;omega
  have V9:∀m∈p.aL,m.body.length<=16777216:=λm hx=>by have:=dJ cB hx;simp only[dS,cB]at hm this;omega
  have hml:p.aL.length<=16777216:=by simp only[dS]at hm;omega
  clear r2 r3 hB Lt;generalize fP p a=L at*;generalize iR p L=Q at*;simp only[aH,aS]at c1 c2;rw[hfl]at c1;refine uQ aK func38 ntmps38 ?_;refine bK ?_;refine aT (ι:={k:Nat // k<=L.length}) (λt o i=>⟨bP t [(25,.int .i64 i.1),(5,.aB),(11,.aB),(21,.aB)],[⟨true,true,22,2,[Fj 1 (Q i.1)]⟩]++Fh (Q i.1)++[⟨true,true,2,0,[[.str a.bN,.str a.iD]]⟩,⟨true,false,2,1,L.map aS⟩]⟩)
   (λi=>L.length-i.1) ⟨0,by simp⟩ (aP (by simp[Fj,Fh,hz0]) (by simp)) ?_
  rintro⟨k,hk⟩ K1 hK1;have hk1:=tQ (k:=k);by_cases hlt:k<L.length
  .have hg:=aE hlt;have hbm:=gR hlt;have hnext:=OD k hlt;have hq1:=hsz k hk;have hqm:=UN k hk;obtain⟨j,m,hi,hgm,hjl,hbd⟩:=hmem L[k] hbm;have hsb:=Oj L[k] hbm;rw[<-hqm]at hi hgm hjl;have hbq:AY (Q k) L[k]=m.body:=by rw[<-hbd];unfold AY;rw[hqm]
   have hmb:m.body.length<=16777216:=V9 m (by rw[<-hqm];exact nB hgm);unfold kU at hnext;rw[hbq]at hnext;have hK2:=hK1;clear OD hsz UN hmem Oj V9 hbd hqm hbm c1 c2;generalize hq':Q (k+1)=q' at*;generalize hq:Q k=q at*;have hrl:q.uN.length<=520000000:=by simp only[aM,dS]at hq1;omega
   have c3:=Ub q.uN L[k] (by omega);simp only[bP,cH,cQ,cW,eA,Fh,Fj]at hK1⊢;cases hh:q.uN.any (kR L[k])
   .rw [hh]at hnext c3;rw[eC (by simp)]at hnext;obtain⟨rn,hrn⟩:∃rn,rn=q.uN++[L[k]]:=⟨_,rfl⟩;have hap:q.uN.map aS++[[.str L[k].bN,.str L[k].iD]]=rn.map aS:=by rw[hrn];simp
    rw[<-hrn]at hnext;have hsq:aM {q with uN:=rn}<=536870912:=by simp only[aM,dS,hrn,eR,eL,fL,lL,bU]at hq1⊢;omega
    have c4:=Ae {q with uN:=rn} L[k] (by simp only;simp only[aM,dS]at hq1;omega);have hbh:L[k].bN.length<=16777216:=by simp only[aW]at hsb;omega
    have c5:=vR m.body L[k].bN (by omega) (by omega);obtain⟨l6,lx⟩:=Ef m.body L[k].bN;have c6:=Gz {q with uN:=rn} (bQ m.body L[k].bN).2.1 false hsq l6 lx;rw[<-hnext]at c6;simp only[hi]at c4;clear hnext hrn hsq l6 lx hq1;generalize bQ m.body L[k].bN=g at*;obtain⟨im,ln,bk⟩:=g;have hj0:¬(j:Int)<0:=by omega
    simp only[aH,aS]at c3 c4 c5 c6;have W:=aA hk1 (aA hg (aA hap (aA hgm (aA hj0 hrl))));have V:=aA hlt (aA hjl hj0);repeat' first|refine wf ?_|(refine nx ?_;refine sg (hc:=c6) (h:=?_))|(refine sq ?_ ?_<;>intro hc<;>try exact hc.elim)|fail
    refine hK2 _ ⟨k+1,by omega⟩ ?_ (by simp only;omega);simp only[hq'];exact aJu (q:=q') rfl (by simp[Fh,Fj,hq']) (by simp[Be]) (by simp[Be]) (by simp) (by simp) (by simp[eU])
   .rw [hh]at hnext c3;rw[eM rfl]at hnext;simp only[aS]at c3;have W:=aA hk1 (aA hg hlt);refine we ?_;refine hK2 _ ⟨k+1,by omega⟩ ?_ (by simp only;omega);exact aQ 14 (by simp[Fh,Fj,hq',hnext]) (by simp) (by simp) (by simp[eU,Fh,Fj,hq',hnext])
  .have hkl:k=L.length:=by omega
   subst hkl;simp only[bP,cH,cQ,cW,eA,Fh,Fj]at hK1⊢;clear OD hsz UN hmem Oj V9 hK1 c1 c2;generalize Q L.length=q at*;have W:=aA hk1 hlt;refine we ?_;all_goals (try exact nL (by simp[jF,fK,fH,rowOf,results38];done))
 .rw [eM rfl];rw[hfl]at c1;have hfm:=Dc a;have zh:p.log.length<=500000000:=by simp only[aM,dS]at hs;omega
  have c2:=MU a (by omega);have c3:=FZ p (Um++oG a) (by omega);simp only[Um]at c3⊢;generalize oG a=fa at*;simp only[aH,aS]at c1 c2 c3⊢;refine uQ aK func38 ntmps38 ?_;have W:=hfm;repeat' first|refine wf ?_|(refine nx ?_;refine sg (hc:=c3) (h:=?_))|(refine sq ?_ ?_<;>intro hc<;>try exact hc.elim)|fail
  all_goals (try exact nL (by simp[jF,fK,fH,rowOf,results38];done))
def GN[aG prog][fI prog][dG prog][qR prog](p:aF)(hs:aM p<=500000000)(hn1:p.aD.length<=16777216)(hme:dS cB p.aL+dS aW p.bJ<=16777216):Ok prog 13 [.agg (aH .view p)] (.iL [.agg (aH .own (iJ p).1),.bool (iJ p).2]):=by
 have c1:=lM p (by omega);have hn2:p.aL.length<=16777216:=by simp only[dS]at hme;omega
 have cP:=GK p;have cS:=Db p (by omega);have cD:=BB p hn1;have hbd:∀s∈p.aD,s.body.length<=500000000:=λs hm=>by have:=dJ nO hm;simp only[aM,dS,nO]at hs this;omega
 have hed:∀a∈p.bJ,dS cB p.aL+aW a<=16777216:=λa hm=>by
  have h1:=dJ aW hm;have h2:bU aW p.bJ<=dS aW p.bJ:=by simp only[dS];omega
  omega
 have aZi:p.bJ.length<=16777216:=by
  have:p.bJ.length<=dS aW p.bJ:=by simp only[dS];omega
  omega
 have aRm:=jT jY p.aD 0;have OA:=OQ jY p.aD 0;unfold iJ;by_cases hpre:qW p=true/\p.dX=false/\0<=p.eH/\0<=p.fA
 .rw [eM hpre];obtain⟨h1,h2,h3,h4⟩:=hpre;obtain⟨dn,GQ⟩:=hY h3;obtain⟨en,OJ⟩:=hY h4;rw[GQ,OJ,oB,oB];rw[h1]at cP;by_cases hdl:dn<(dO jY 0 p.aD).length
  .have Zl:=aE hdl;obtain⟨sn,Oz,_,hsl⟩:=OA _ (gR hdl);rw[lR]at hsl;rw[Oz]at Zl;rw[Zl];simp only[oB];have hgS:=aE hsl;rw[hgS];simp only;have aIw:=hbd _ (gR hsl);have hkd:i64.wrap ((dn:Int)+1)=(dn:Int)+1:=by rw[wrap64]<;>omega
   have hdi:(dn:Int)<((dO jY 0 p.aD).length:Int):=by omega
   unfold Ci;have c4:=CU p p.aD[sn].body false (by omega) (by omega);have hqd:=(JY p p.aD[sn].body false).1.trans GQ;clear hbd hed OA Oz aRm;generalize dO jY 0 p.aD=D at*;cases hd:p.aD[sn].done
   .rw [eC (by simp)];simp only[aH,h2,GQ,OJ]at c1 cP cS cD⊢;refine dN aK func13 ntmps13 ?_;have W:=aA hdi (aA Zl (aA hgS hd));have V:=aA hdl hsl;refine we ?_;exact aO results13
   .generalize p.aD.all qL=V8 at*;cases V8
    .rw [eC (by simp)];simp only[aH,h2,GQ,OJ]at c1 cP cS cD⊢;refine dN aK func13 ntmps13 ?_;have W:=aA hdi (aA Zl (aA hgS hd));have V:=aA hdl hsl;refine we ?_;exact aO results13
    .rw [eM ⟨rfl,rfl⟩];by_cases RU:p.aD[sn].code=1
     .rw [eM RU];generalize gI p p.aD[sn].body false=q at*;simp only[aH,h2,GQ,OJ,hqd]at c1 cP cS cD c4⊢;refine dN aK func13 ntmps13 ?_;have W:=aA hdi (aA Zl (aA hgS (aA hd (aA RU hkd))));have V:=aA hdl hsl;refine we ?_;exact aO results13
     .rw [eC RU];simp only[aH,h2,GQ,OJ]at c1 cP cS cD⊢;refine dN aK func13 ntmps13 ?_;have W:=aA hdi (aA Zl (aA hgS (aA hd (aA RU hkd))));have V:=aA hdl hsl;refine we ?_;exact aO results13
  .have Zl:(dO jY 0 p.aD)[dn]? =none:=pT (by omega);rw[Zl];simp only;have hdl:¬(dn:Int)<((dO jY 0 p.aD).length:Int):=by omega
   clear hbd OA Zl;generalize dO jY 0 p.aD=D at*;by_cases hlE:en<p.bJ.length
   .have hgE:=aE hlE;rw[hgE];simp only;have hsa:=hed _ (gR hlE);have hel:(en:Int)<(p.bJ.length:Int):=by omega
    have hke:i64.wrap ((en:Int)+1)=(en:Int)+1:=by rw[wrap64]<;>omega
    have cG:=Nc p p.bJ[en] hsa;have c5:=ZH p p.bJ[en] hs hsa;have hqe:=(XK p p.bJ[en]).trans OJ;clear hed;unfold Cj;generalize yY p p.bJ[en]=gr at*;cases gr
    .rw [eC (by simp)];simp only[aH,aS,h2,GQ,OJ]at c1 cP cS cD cG⊢;refine dN aK func13 ntmps13 ?_;have W:=aA hdl (aA hel (aA hgE hlE));refine we ?_;exact aO results13
    .generalize p.aD.all qL=V8 at*;cases V8
     .rw [eC (by simp)];simp only[aH,aS,h2,GQ,OJ]at c1 cP cS cD cG⊢;refine dN aK func13 ntmps13 ?_;have W:=aA hdl (aA hel (aA hgE hlE));refine we ?_;exact aO results13
     .rw [eM ⟨rfl,rfl⟩];generalize nU p p.bJ[en]=q at*;simp only[aH,aS,h2,GQ,OJ,hqe]at c1 cP cS cD cG c5⊢;refine dN aK func13 ntmps13 ?_;have W:=aA hdl (aA hel (aA hke (aA hgE hlE)));repeat' first|refine wf ?_|(refine nx ?_;refine sg (hc:=c5) (h:=?_))|(refine sq ?_ ?_<;>intro hc<;>try exact hc.elim)|fail
      exact aO results13
   .have hgE:p.bJ[en]? =none:=pT (by omega);rw[hgE];simp only;have hel:¬(en:Int)<(p.bJ.length:Int):=by omega
    clear hed;have cO:=EY p hn1;have cM:=GH p hn2;have zh:p.log.length<=500000000:=by simp only[aM,dS]at hs;omega
    have c5:=FZ p Uq (by omega);unfold Ck;simp only[Uq]at c5⊢;generalize dO sZ 0 p.aD=O at*;generalize dO tC 0 p.aL=M at*;by_cases ho:O.length=0
    .obtain rfl:=AF.1 ho;by_cases hm:M.length=0
     .obtain rfl:=AF.1 hm;rw[eM ⟨rfl,rfl⟩];simp only[aH,h2,GQ,OJ]at c1 cP cS cD cO cM c5⊢;refine dN aK func13 ntmps13 ?_;have W:=aA hdl hel;repeat' first|refine wf ?_|(refine nx ?_;refine sg (hc:=c5) (h:=?_))|(refine sq ?_ ?_<;>intro hc<;>try exact hc.elim)|fail
      exact aO results13
     .rw [eC (by omega)];have Qm:¬M=[]:=λh=>hm (by rw[h];rfl)
      have hm3:(0:Int)<(M.length:Int):=by omega
      simp only[aH,h2,GQ,OJ]at c1 cP cS cD cO cM⊢;refine dN aK func13 ntmps13 ?_;have W:=aA hdl (aA hel (aA Qm hm3));repeat' first|refine wf ?_|(refine sq ?_ ?_<;>intro hc<;>try exact hc.elim)|fail
      all_goals (try exact(Qm (by assumption)).elim)
      all_goals (try exact aO results13)
    .rw [eC (by omega)];have ho2:¬O=[]:=λh=>ho (by rw[h];rfl)
     have ho3:(0:Int)<(O.length:Int):=by omega
     simp only[aH,h2,GQ,OJ]at c1 cP cS cD cO cM⊢;refine dN aK func13 ntmps13 ?_;have W:=aA hdl (aA hel (aA ho2 ho3));refine we ?_;all_goals (try exact(ho2 (by assumption)).elim)
     all_goals (try exact aO results13)
 .rw [eC hpre];clear hbd hed OA;cases h1:qW p
  .rw [h1]at cP;simp only[aH]at c1 cP cS cD⊢;refine dN aK func13 ntmps13 ?_;refine bK ?_;exact aO results13
  .rw [h1]at cP;cases h2:p.dX
   .by_cases h3:p.eH<0
    .simp only[aH,h2]at c1 cP cS cD⊢;refine dN aK func13 ntmps13 ?_;have W:=h3;refine we ?_;exact aO results13
    .have h4:p.fA<0:=by
      rw[h1,h2]at hpre;by_cases h4:p.fA<0
      .exact h4
      .exact (hpre ⟨rfl,rfl,by omega,by omega⟩).elim
     simp only[aH,h2]at c1 cP cS cD⊢;refine dN aK func13 ntmps13 ?_;have W:=aA h3 h4;refine we ?_;exact aO results13
   .simp only[aH,h2]at c1 cP cS cD⊢;refine dN aK func13 ntmps13 ?_;refine bK ?_;exact aO results13
end Go.Proofs.YtanobkmhbpjnpaaGreatDoor
