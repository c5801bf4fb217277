/- Proved here: steps towards the statement of this claim. No condition. -/
import Derived.Test.YtjmpjmilndkgfaaGreatDoorZQZ9
import Derived.Test.YtjmpjmilndkgfaaGreatDoorZQSPP
set_option linter.all false
set_option maxRecDepth 8000
set_option maxHeartbeats 8000000
namespace Go.Proofs.YtjmpjmilndkgfaaGreatDoor
open Go.Aw Proofs.Tryz List IntKind
def Ms (rv:Nat) (q:aI):List aM:=[⟨true,false,1,1,q.bG.dG.map bW⟩,⟨true,false,1,1,q.bG.eZ.map bW⟩,⟨true,false,1,1,q.bG.fD.map bW⟩,⟨true,false,4,1,q.queue.map (bK .own)⟩,⟨true,false,4,1,q.builder.nodes.map (dE .own)⟩,⟨true,false,1,1,q.builder.opens.map jE⟩,⟨true,false,8,1,q.aB.map iY⟩,⟨true,false,5,1,q.aN.map bU⟩,⟨true,false,2,1,q.entries.map aO⟩,⟨true,false,2,rv,q.oD.map aO⟩,⟨true,false,1,1,q.log.map bW⟩]
def Mt (rv:Nat) (q:aI):List AV:=[.str q.addr.host,.str q.addr.path,.bool q.bG.isSet,.obj 3 1,.obj 4 1,.obj 5 1,.str q.bG.rM,.str q.tok.rest,.obj 6 1,.bool q.ended,.obj 7 1,.obj 8 1,.obj 9 1,.obj 10 1,.obj 11 1,.int .i64 q.block,.int .i64 q.inline,.int .i64 q.deferred,.int .i64 q.gW,.obj 12 rv,.obj 13 1,.bool q.nS]
theorem Xv [aC prog] [eH prog] [dD prog] [qQ prog] (p:aI) (a:aT) (hs:aF p<=500000000) (hm:bV bE p.aN+aU a<=16777216):
  Ok prog 115 [.agg (aJ .view p),.agg (aO a)] (.agg (aJ .own (pI p a))):=by
 have c0:=iI p (by omega);have c1:=Kz p a hm;unfold pI;cases hfl:rZ p a
 .rw [cY (by simp)];obtain ⟨r1,r2,r3⟩:=FM p a hm hfl;obtain ⟨hB,_⟩:=FL p a hm;have c2:=BH p _ hB a (by simp);have Jf:=vI p (eF p a) (by omega);have LV:=AL p (eF p a);have hz0:jH p (eF p a) 0=p:=rfl;have hsz:∀k,k<=(eF p a).length->aF (jH p (eF p a) k)<=520000000:=λk hk=>by
   have h1:=(Jf k hk).1;have h2:=(BI (jH p (eF p a) k)).1;have h3:=(BI p).2;have h4:=yK aU (eF p a) k;simp only [bV,oT] at h1 r2 hm;omega
  have Sg:∀k,k<=(eF p a).length->(jH p (eF p a) k).aN=p.aN:=λk hk=>(Jf k hk).2.1
  have hmem:∀b∈eF p a,∃(j:Nat) (m:dB),wX (kX b) p.aN=(j:Int)/\p.aN[j]? =some m/\j < p.aN.length/\yM p b=m.body:=λb hb=>by
   have h1:=r3 b hb;rcases uA (kX b) p.aN with ⟨hi,hf⟩|⟨j,hj,hi,hf⟩
   .unfold lD at h1;rw [hf] at h1;cases h1
   .exact ⟨j,p.aN[j],hi,aE hj,hj,by unfold yM;rw [hf]⟩
  have Lt:∀b∈eF p a,aU b<=16777215:=λb hb=>by have:=cB aU hb;have:=length_pos_of_mem hb;simp only [bV] at r2 hm;omega
  have um:∀m∈p.aN,m.body.length<=16777216:=λm hx=>by have:=cB bE hx;simp only [bV,bE] at hm this;omega
  have DW:p.aN.length<=16777216:=by simp only [bV] at hm;omega
  clear r2 r3 hB Jf;generalize eF p a=L at *;generalize jH p L=Q at *;simp only [aJ,aO] at c0 c1 c2;rw [hfl] at c1;refine tX aD [3,16] func115 ntmps115 ?_;refine bH ?_;refine aL (ι:={q:Nat×Nat // q.1<=L.length}) (λt o i=>⟨bD t [(7,.int .i64 i.1.1),(16,.undef)],o.take 3++Ms i.1.2 (Q i.1.1)++[⟨true,true,22,0,[Mt i.1.2 (Q i.1.1)]⟩,⟨true,false,2,1,L.map aO⟩]⟩)
   (λi=>L.length - i.1.1) ⟨(0,1),by simp⟩ (aH (by simp [Mt,Ms,hz0]) (by simp)) ?_
  rintro ⟨⟨k,v⟩,hk⟩ K1 hK1;simp only at hk;have hk1:=oW (k:=k);by_cases hlt:k < L.length
  .have hg:=aE hlt;have hbm:=fR hlt;have hnext:=LV k hlt;have hq1:=hsz k hk;have hqm:=Sg k hk;obtain ⟨j,m,hi,hgm,hjl,hbd⟩:=hmem L[k] hbm;have hsb:=Lt L[k] hbm;rw [<-hqm] at hi hgm hjl;have hbq:yM (Q k) L[k]=m.body:=by rw [<-hbd];unfold yM;rw [hqm]
   have hmb:m.body.length<=16777216:=um m (by rw [<-hqm];exact oE hgm);unfold uB at hnext;rw [hbq] at hnext;have hK2:=hK1;clear LV hsz Sg hmem Lt um hbd hqm hbm c1 c2;generalize hq':Q (k+1)=q' at *;generalize hq:Q k=q at *;have hrl:q.oD.length<=520000000:=by simp only [aF,bV] at hq1;omega
   have c3:=Bt q.oD L[k] (by omega);simp only [bD,cW,cU,eM,gR,eI,eN,Ms,Mt] at hK1⊢;cases hh:q.oD.any (iT L[k])
   .rw [hh] at hnext c3;rw [cY (by simp)] at hnext;obtain ⟨rn,hrn⟩:∃rn,rn=q.oD++[L[k]]:=⟨_,rfl⟩;have hap:q.oD.map aO++[[.str L[k].host,.str L[k].path]]=rn.map aO:=by rw [hrn];simp
    rw [<-hrn] at hnext;have hsq:aF {q with oD:=rn}<=536870912:=by simp only [aF,bV,hrn,eR,eL,eW,jA,aQ] at hq1⊢;omega
    have c4:=zQ {q with oD:=rn} L[k] (by simp only;simp only [aF,bV] at hq1;omega);have hbh:L[k].host.length<=16777216:=by simp only [aU] at hsb;omega
    have c5:=vX m.body L[k].host (by omega) (by omega);obtain ⟨l6,lx⟩:=Cq m.body L[k].host;have hsl:bV gQ q.aB<=1073741824:=by simp only [aF,bV] at *;omega
    have aXa:aP q.builder<=536870912:=by simp only [aF] at hq1;omega
    have bu:q.log.length<=536870912:=by simp only [aF,bV] at hq1;omega
    have c6:=EB {q with oD:=rn} hsl;obtain ⟨hb1,hb2⟩:=CE {q with oD:=rn};have hb1':(dI {q with oD:=rn}).length<=536870912:=by simp only [aF,bV] at hq1 hb1;omega
    have c7:=Di q.builder (dI {q with oD:=rn}) (bI m.body L[k].host).2.1 (by omega) l6 (λx hm=>by have:=lx x hm;omega) (by omega) (λx hm=>by have:=hb2 x hm;omega) (wK _);obtain ⟨z1,z2,z3,z4⟩:=Bi 60 q.builder (dI {q with oD:=rn}) (bI m.body L[k].host).2.1 (by omega) l6 lx (wK _) (by omega) (bI m.body L[k].host).2.1.length (eE _);have hend:qY q.builder (dI {q with oD:=rn}) (bI m.body L[k].host).2.1 (bI m.body L[k].host).2.1.length=eU q.builder (dI {q with oD:=rn}) (bI m.body L[k].host).2.1:=by simp [qY]
    rw [hend] at z1 z2 z3 z4;unfold lL at hnext;simp only [hi] at c4;simp only [eS,gS] at hnext;clear hrn hsq lx hq1 hend hb1 hb2;generalize dI {q with oD:=rn}=ss at *;generalize bI m.body L[k].host=g at *;obtain ⟨im,ln,bk⟩:=g;simp only at c5 c7 z1 z2 z3 z4 l6 hnext;generalize eU q.builder ss ln=g at *;obtain ⟨b,wr,lg⟩:=g;simp only at c7 z1 z2 z3 z4 hnext;have hj0:¬(j:Int) < 0:=by omega
    simp only [aJ,aO,aS] at c3 c4 c5 c6 c7;have W:=aA hk1 (aA hg (aA hap (aA hgm (aA hj0 hrl))));have V:=aA hlt (aA hjl hj0);refine we ?_;obtain ⟨P,hP⟩:∃P:Nat->aI,∀i,P i={q with oD:=rn,builder:=b,log:=mZ q.log (lg.take i)}:=⟨_,λ_=>rfl⟩;have hP0:P 0={q with oD:=rn,builder:=b}:=by rw [hP];rfl
    have hPn:P lg.length=q':=by rw [hP,hnext,rN]
    have hPl:∀i,i<=lg.length->(P i).log.length<=1099511627776:=λi hi=>by rw [hP];have:=IE q.log (lg.take i);simp only [oT] at this⊢;omega
    have hPs:∀i (h:i < lg.length),P (i+1)={P i with log:=jV (P i).log lg[i]}:=λi h=>by rw [hP,hP,Fv _ _ _ h]
    clear c3 c4 c5 c6 c7 hP hnext;refine aL (ι:={q:Nat×Nat // q.1<=lg.length}) (λt o i=>⟨bD t [(14,.int .i64 i.1.1),(11,.ptr 19 1 0 0),(50,.undef),(52,.undef),(53,.undef),(59,.undef),(60,.undef),(77,.undef),(71,.undef),(74,.undef),(78,.undef),(73,.undef),(81,.undef),(42,.undef),(48,.undef),(35,.undef),(16,.undef)],o.take 3++Ms i.1.2 (P i.1.1)++[⟨true,true,22,0,[Mt i.1.2 (P i.1.1)]⟩,⟨true,false,2,1,L.map aO⟩,⟨false,false,2,1,[[.str L[k].host,.str L[k].path]]⟩,⟨true,false,2,1,im.map aO⟩,⟨true,false,2,1,ln.map lJ⟩,⟨false,false,0,1,[]⟩,⟨true,false,1,1,ss.map (eG .own)⟩,⟨true,false,4,1,q.builder.nodes.map (dE .own)⟩,⟨true,false,1,1,q.builder.opens.map jE⟩,⟨true,false,1,1,lg.map bW⟩]⟩)
     (λi=>lg.length - i.1.1) ⟨(0,v+1),by simp⟩ ?_ ?_
    .simp only [hP0,Mt,Ms,bD,cW,cU,eM,gR,eI,eN];exact aEr 7 21 8 22 19 rfl rfl ⟨rfl,rfl⟩ (by simp;rfl) rfl rfl ⟨rfl,rfl⟩ (by simp;rfl) rfl (by simp) (by simp) (by simp)
    rintro ⟨⟨i,rv⟩,hil⟩ K2 hK3;simp only at hil;have hk2:i64.wrap ((i:Int)+1)=((i+1:Nat):Int):=by rw [wrap64]<;>omega
    by_cases hit:i < lg.length
    .have hgi:=aE hit;have hnx:=hPs i hit;have c4:=IJ (P i) lg[i] (hPl i hil);rw [<-hnx] at c4;have hK4:=hK3;clear hP0 hPn hPl hPs hnx;generalize hp':P (i+1)=p' at *;generalize hpi:P i=pi at *;simp only [bD,cW,cU,eM,gR,eI,eN,Ms,Mt] at hK3⊢;simp only [aJ] at c4;have W:=aA hk2 (aA hgi hit);refine we ?_;rw [xA];refine go_drawn (by simp;rfl) (by simp;rfl) (by decide+kernel) (by decide) (by first|rfl|(simp [YE];done)) (by simp) (by simp) ?_;iterate 5 (
      refine go_draw rfl (by first|rfl|(simp;done)) (by simp [Region.binds];rfl) (by decide) (by simp [Region.binds];rfl) (by simp;rfl) ?_ ?_
      .first|rfl|(simp [nI];done)
      refine nx ?_;refine so ?_;refine kN ?_;refine go_next (by simp;done) (by simp;rfl) (by simp;rfl) ?_)
     refine DX (s1:= ?s1) (by decide+kernel) (by simp [sN,reach,mP,Region.binds,Ek];rfl) ?ha ?hk;case ha=>
      repeat' (first|refine st ?_|(refine nx ?_;first|refine so ?_|refine sg (hc:=c4) (h:= ?_))|refine sx ?_ ?_|refine sy ?_ ?_|fail)
      all_goals rfl
     case hk=>
      have W:=hk2;refine we ?_;refine hK4 _ ⟨(i+1,1),by simp only;omega⟩ ?_ (by simp only;omega);simp only [hp'];exact V5 (q:=p') rfl (by simp [Ms,Mt,Du,Dv,hp']) (by simp [wN]) (by simp [wN]) (by simp) (by simp) (by simp [dJ])
    .have hie:i=lg.length:=by omega
     subst hie;simp only [hPn,bD,cW,cU,eM,gR,eI,eN,Ms,Mt] at hK3⊢;clear hP0 hPn hPl hPs hK3;have W:=aA hk1 hit;refine we ?_;refine hK2 _ ⟨(k+1,rv),by simp only;omega⟩ ?_ (by simp only;omega);exact aW 16 (by simp [Ms,Mt,hq']) (by simp) (by simp) (by simp [dJ,Ms,Mt,hq'])
   .rw [hh] at hnext c3;rw [eK rfl] at hnext;simp only [aO] at c3;have W:=aA hk1 (aA hg hlt);refine we ?_;refine hK2 _ ⟨(k+1,v),by simp only;omega⟩ ?_ (by simp only;omega);exact aW 16 (by simp [Ms,Mt,hq',hnext]) (by simp) (by simp) (by simp [dJ,Ms,Mt,hq',hnext])
  .have hkl:k=L.length:=by omega
   subst hkl;simp only [bD,cW,cU,eM,gR,eI,eN,Ms,Mt] at hK1⊢;clear LV hsz Sg hmem Lt um hK1 c1 c2;generalize Q L.length=q at *;have W:=aA hk1 hlt;refine we ?_;exact aK results115
 .rw [eK rfl];rw [hfl] at c1;have hfm:=BD a;have bu:p.log.length<=500000000:=by simp only [aF,bV] at hs;omega
  have c2:=Km a (by omega);have c3:=IJ p (Ru++lX a) (by omega);simp only [Ru] at c3⊢;generalize lX a=fa at *;simp only [aJ,aO] at c0 c1 c2 c3⊢;refine tX aD [3] func115 ntmps115 ?_;have W:=hfm;refine we ?_;rw [xA];refine go_drawn (by simp;rfl) (by simp;rfl) (by decide+kernel) (by decide) (by first|rfl|(simp [YE];done)) (by simp) (by simp) ?_;iterate 4 (
   refine go_draw rfl (by first|rfl|(simp;done)) (by simp [Region.binds];rfl) (by decide) (by simp [Region.binds];rfl) (by simp;rfl) ?_ ?_
   .first|rfl|(simp [nI];done)
   refine nx ?_;refine so ?_;refine kN ?_;refine go_next (by simp;done) (by simp;rfl) (by simp;rfl) ?_)
  refine DX (s1:= ?s2) (by decide+kernel) (by simp [sN,reach,mP,Region.binds,Ek];rfl) ?ha2 ?hk2;case ha2=>
   repeat' (first|refine st ?_|(refine nx ?_;first|refine so ?_|refine sg (hc:=c3) (h:= ?_))|refine sx ?_ ?_|refine sy ?_ ?_|fail)
   all_goals rfl
  case hk2=>
   refine bH ?_;exact aK results115
theorem Om [aC prog] [eH prog] [dD prog] [qQ prog] (p:aI) (hs:aF p<=500000000) (hn1:p.aB.length<=16777216) (hme:bV bE p.aN+bV aU p.entries<=16777216):Ok prog 67 [.agg (aJ .view p)] (.iJ [.agg (aJ .own (oM p).1),.bool (oM p).2]):=by
 have c1:=iI p (by omega);have hn2:p.aN.length<=16777216:=by simp only [bV] at hme;omega
 have cP:=NV p;have cS:=BA p (by omega);have cD:=Fz p hn1;have hbd:∀s∈p.aB,s.body.length<=500000000:=λs hm=>by have:=cB gQ hm;simp only [aF,bV,gQ] at hs this;omega
 have hed:∀a∈p.entries,bV bE p.aN+aU a<=16777216:=λa hm=>by
  have h1:=cB aU hm;have h2:aQ aU p.entries<=bV aU p.entries:=by simp only [bV];omega
  omega
 have aSt:p.entries.length<=16777216:=by
  have:p.entries.length<=bV aU p.entries:=by simp only [bV];omega
  omega
 have aL3:=nD jO p.aB 0;have LP:=Mj jO p.aB 0;unfold oM;by_cases hpre:xN p=true/\p.nS=false/\0<=p.deferred/\0<=p.gW
 .rw [eK hpre];obtain ⟨h1,h2,h3,h4⟩:=hpre;obtain ⟨dn,EG⟩:=mN h3;obtain ⟨en,KV⟩:=mN h4;rw [EG,KV,mC,mC];rw [h1] at cP;by_cases hdl:dn < (places jO 0 p.aB).length
  .have Xw:=aE hdl;obtain ⟨sn,LM,_,hsl⟩:=LP _ (fR hdl);rw [hM] at hsl;rw [LM] at Xw;rw [Xw];simp only [mC];have hgS:=aE hsl;rw [hgS];simp only;have aEq:=hbd _ (fR hsl);have hkd:i64.wrap ((dn:Int)+1)=(dn:Int)+1:=by rw [wrap64]<;>omega
   have hdi:(dn:Int) < ((places jO 0 p.aB).length:Int):=by omega
   unfold OW;have c4:=Bp p p.aB[sn].body false (by omega) (by omega);have hqd:=(He p p.aB[sn].body false).1.trans EG;clear hbd hed LP LM aL3;generalize places jO 0 p.aB=D at *;cases hd:p.aB[sn].done
   .rw [cY (by simp)];simp only [aJ,h2,EG,KV] at c1 cP cS cD⊢;refine bR aD func67 ntmps67 ?_;have W:=aA hdi (aA Xw (aA hgS hd));have V:=aA hdl hsl;refine we ?_;exact aK results67
   .generalize p.aB.all nO=uk at *;cases uk
    .rw [cY (by simp)];simp only [aJ,h2,EG,KV] at c1 cP cS cD⊢;refine bR aD func67 ntmps67 ?_;have W:=aA hdi (aA Xw (aA hgS hd));have V:=aA hdl hsl;refine we ?_;exact aK results67
    .rw [eK ⟨rfl,rfl⟩];by_cases Xu:p.aB[sn].code=1
     .rw [eK Xu];generalize mM p p.aB[sn].body false=q at *;simp only [aJ,h2,EG,KV,hqd] at c1 cP cS cD c4⊢;refine bR aD func67 ntmps67 ?_;have W:=aA hdi (aA Xw (aA hgS (aA hd (aA Xu hkd))));have V:=aA hdl hsl;refine we ?_;exact aK results67
     .rw [cY Xu];simp only [aJ,h2,EG,KV] at c1 cP cS cD⊢;refine bR aD func67 ntmps67 ?_;have W:=aA hdi (aA Xw (aA hgS (aA hd (aA Xu hkd))));have V:=aA hdl hsl;refine we ?_;exact aK results67
  .have Xw:(places jO 0 p.aB)[dn]? =none:=oY (by omega);rw [Xw];simp only;have hdl:¬(dn:Int) < ((places jO 0 p.aB).length:Int):=by omega
   clear hbd LP Xw;generalize places jO 0 p.aB=D at *;by_cases hlE:en < p.entries.length
   .have V6:=aE hlE;rw [V6];simp only;have hsa:=hed _ (fR hlE);have hel:(en:Int) < (p.entries.length:Int):=by omega
    have hke:i64.wrap ((en:Int)+1)=(en:Int)+1:=by rw [wrap64]<;>omega
    have cG:=Kw p p.entries[en] hsa;have c5:=Xv p p.entries[en] hs hsa;have hqe:=(VK p p.entries[en]).trans KV;clear hed;unfold OX;generalize vY p p.entries[en]=gr at *;cases gr
    .rw [cY (by simp)];simp only [aJ,aO,h2,EG,KV] at c1 cP cS cD cG⊢;refine bR aD func67 ntmps67 ?_;have W:=aA hdl (aA hel (aA V6 hlE));refine we ?_;exact aK results67
    .generalize p.aB.all nO=uk at *;cases uk
     .rw [cY (by simp)];simp only [aJ,aO,h2,EG,KV] at c1 cP cS cD cG⊢;refine bR aD func67 ntmps67 ?_;have W:=aA hdl (aA hel (aA V6 hlE));refine we ?_;exact aK results67
     .rw [eK ⟨rfl,rfl⟩];generalize pI p p.entries[en]=q at *;simp only [aJ,aO,h2,EG,KV,hqe] at c1 cP cS cD cG c5⊢;refine bR aD func67 ntmps67 ?_;have W:=aA hdl (aA hel (aA hke (aA V6 hlE)));refine we ?_;exact aK results67
   .have V6:p.entries[en]? =none:=oY (by omega);rw [V6];simp only;have hel:¬(en:Int) < (p.entries.length:Int):=by omega
    clear hed;have cO:=Mc p hn1;have cM:=NR p hn2;have bu:p.log.length<=500000000:=by simp only [aF,bV] at hs;omega
    have c5:=IJ p Ry (by omega);unfold OY;simp only [Ry] at c5⊢;generalize places vG 0 p.aB=O at *;generalize places vH 0 p.aN=M at *;by_cases ho:O.length=0
    .obtain rfl:=tW.1 ho;by_cases hm:M.length=0
     .obtain rfl:=tW.1 hm;rw [eK ⟨rfl,rfl⟩];simp only [aJ,h2,EG,KV] at c1 cP cS cD cO cM c5⊢;refine bR aD func67 ntmps67 ?_;have W:=aA hdl hel;repeat' first|refine wf ?_|(refine nx ?_;refine sg (hc:=c5) (h:=?_))|(refine sq ?_ ?_<;>intro hc<;>try exact hc.elim)|fail
      exact aK results67
     .rw [cY (by omega)];have hm2:¬M=[]:=λh=>hm (by rw [h];rfl)
      have hm3:(0:Int) < (M.length:Int):=by omega
      simp only [aJ,h2,EG,KV] at c1 cP cS cD cO cM⊢;refine bR aD func67 ntmps67 ?_;have W:=aA hdl (aA hel (aA hm2 hm3));repeat' first|refine wf ?_|(refine sq ?_ ?_<;>intro hc<;>try exact hc.elim)|fail
      all_goals (try exact (hm2 (by assumption)).elim)
      all_goals try(refine aR ?_;simp [aG,results67])
    .rw [cY (by omega)];have ho2:¬O=[]:=λh=>ho (by rw [h];rfl)
     have ho3:(0:Int) < (O.length:Int):=by omega
     simp only [aJ,h2,EG,KV] at c1 cP cS cD cO cM⊢;refine bR aD func67 ntmps67 ?_;have W:=aA hdl (aA hel (aA ho2 ho3));repeat' first|refine wf ?_|(refine sq ?_ ?_<;>intro hc<;>try exact hc.elim)|fail
     all_goals (try exact (ho2 (by assumption)).elim)
     all_goals try(refine aR ?_;simp [aG,results67])
 .rw [cY hpre];clear hbd hed LP;cases h1:xN p
  .rw [h1] at cP;simp only [aJ] at c1 cP cS cD⊢;refine bR aD func67 ntmps67 ?_;refine bH ?_;exact aK results67
  .rw [h1] at cP;cases h2:p.nS
   .by_cases h3:p.deferred < 0
    .simp only [aJ,h2] at c1 cP cS cD⊢;refine bR aD func67 ntmps67 ?_;have W:=h3;refine we ?_;exact aK results67
    .have h4:p.gW < 0:=by
      rw [h1,h2] at hpre;by_cases h4:p.gW < 0
      .exact h4
      .exact (hpre ⟨rfl,rfl,by omega,by omega⟩).elim
     simp only [aJ,h2] at c1 cP cS cD⊢;refine bR aD func67 ntmps67 ?_;have W:=aA h3 h4;refine we ?_;exact aK results67
   .simp only [aJ,h2] at c1 cP cS cD⊢;refine bR aD func67 ntmps67 ?_;refine bH ?_;exact aK results67
def pK:List (Nat×Nat):=[(4,18),(5,19),(6,20),(7,21),(8,22),(9,23),(10,24),(11,25),(12,26),(13,27),(14,28)]
theorem uo {t t':List AV} {o o':List aM} {o0 o1 o2 o3 m0 m1:aM} {q0 q:aI} (ho:o=[o0,o1,o2,o3]++lN q0++[⟨true,true,22,0,[jG 18 q]⟩,m0,m1]++lN q) (ho':o'=[o0,o1,o2,o3]++lN q++[⟨true,true,22,0,[jG 4 q]⟩,m0,m1])
  (ht:∀z∈pK,wk (qK z.1 z.2 t') t') (hf:∀z∈pK,o0.mG z.1 z.2=o0/\o1.mG z.1 z.2=o1/\o2.mG z.1 z.2=o2/\o3.mG z.1 z.2=o3/\m0.mG z.1 z.2=m0/\m1.mG z.1 z.2=m1) (hw:wk t t') (hc:fP 18 t'=true) (hc0:dJ 18 [o0,o1,o2,o3,m0,m1]=true):mK ⟨t,o⟩ ⟨t',o'⟩:=by
 subst ho;subst ho';have e:=λi j (h:(i,j)∈pK)=>hf (i,j) h
 have h:=λi j (h:(i,j)∈pK)=>ht (i,j) h
 simp only [lN,jG,eI,eN];refine (vQ hw).trans ?_;refine (bA 4 18 rfl rfl ⟨rfl,rfl⟩ (by simp [(e 4 18 (by decide))];rfl) (h 4 18 (by decide))).trans ?_;refine (bA 5 19 rfl rfl ⟨rfl,rfl⟩ (by simp [(e 5 19 (by decide))];rfl) (h 5 19 (by decide))).trans ?_;refine (bA 6 20 rfl rfl ⟨rfl,rfl⟩ (by simp [(e 6 20 (by decide))];rfl) (h 6 20 (by decide))).trans ?_;refine (bA 7 21 rfl rfl ⟨rfl,rfl⟩ (by simp [(e 7 21 (by decide))];rfl) (h 7 21 (by decide))).trans ?_;refine (bA 8 22 rfl rfl ⟨rfl,rfl⟩ (by simp [(e 8 22 (by decide))];rfl) (h 8 22 (by decide))).trans ?_;refine (bA 9 23 rfl rfl ⟨rfl,rfl⟩ (by simp [(e 9 23 (by decide))];rfl) (h 9 23 (by decide))).trans ?_;refine (bA 10 24 rfl rfl ⟨rfl,rfl⟩ (by simp [(e 10 24 (by decide))];rfl) (h 10 24 (by decide))).trans ?_;refine (bA 11 25 rfl rfl ⟨rfl,rfl⟩ (by simp [(e 11 25 (by decide))];rfl) (h 11 25 (by decide))).trans ?_;refine (bA 12 26 rfl rfl ⟨rfl,rfl⟩ (by simp [(e 12 26 (by decide))];rfl) (h 12 26 (by decide))).trans ?_;refine (bA 13 27 rfl rfl ⟨rfl,rfl⟩ (by simp [(e 13 27 (by decide))];rfl) (h 13 27 (by decide))).trans ?_;refine (bA 14 28 rfl rfl ⟨rfl,rfl⟩ (by simp [(e 14 28 (by decide))];rfl) (h 14 28 (by decide))).trans ?_;refine aW 18 (by simp) (lC _) hc ?_;simpa [dJ,fP,closed] using hc0
theorem Oq [aC prog] [dD prog] [eH prog] (p:aI) (a:aT) (hps:aF p<=1073741824) (hha:a.host.length<=1073741824):Ok prog 72 [.agg (aJ .view p),.agg (aO a)] (.iJ [.sl .own 2 ((iN p a).map aO),.bool (lD p a)]):=by
 simp only [aF,bV] at hps;have c2:=zQ p a (by omega);unfold iN lD;rcases uA (kX a) p.aN with ⟨hi,hf⟩|⟨k,hk,hi,hf⟩
 .rw [hf];rw [hi] at c2;simp only [aO,aJ] at c2;refine bR aD func72 ntmps72 ?_;refine bH ?_;exact aK results72
 .rw [hf];rw [hi] at c2;have hm:=fR hk;have hz:=cB bE hm;have hg:=aE hk;simp only [bE,aU] at hz;have cp:=vX p.aN[k].body a.host (by omega) hha;simp only [aO,aJ] at c2;simp only;generalize bI p.aN[k].body a.host=w at *;obtain ⟨w1,w2,w3⟩:=w;simp only at cp;have hk0:¬((k:Nat):Int) < 0:=by omega
  cases hd1:p.aN[k].done
  .refine bR aD func72 ntmps72 ?_;have W:=aA hk0 (aA hg (aA hk hd1));refine we ?_;exact aK results72
  .by_cases hd2:p.aN[k].code=1
   .simp only [hd2,Fo,gE];refine bR aD func72 ntmps72 ?_;have W:=aA hk0 (aA hg (aA hk (aA hd1 hd2)));refine we ?_;exact aK results72
   .simp only [hd2,and_false,gS];refine bR aD func72 ntmps72 ?_;have W:=aA hk0 (aA hg (aA hk (aA hd1 hd2)));refine we ?_;exact aK results72
theorem KL [aC prog] [dD prog] [eH prog] (p:aI) (a:aT) (x:bL) (hs:aF p+aU a<=536870912) (hx:fK x<=1048576):Ok prog 24 [.agg (aJ .view p),.agg (aO a),.agg (dQ x)] (.agg (aJ .own (kG p a x))):=by
 have hs1:aF p<=536870912:=by omega
 have DW:p.aN.length<=536870912:=by simp only [aF,bV] at hs1;omega
 have FC:eB p.bG<=274877906944:=by simp only [aF] at hs1;omega
 have c1:=iI p (by omega);have c2:=zQ p a (by omega);rcases uA (kX a) p.aN with ⟨hi,hf⟩|⟨k,hk,hi,hf⟩
 .rw [Jb hi];rw [hi] at c2;simp only [aJ,aO] at c1 c2;refine bR aD func24 ntmps24 ?_;refine bH ?_;exact aK results24
 .have hg:=aE hk;rw [hi] at c2;have hk0:¬((k:Nat):Int) < 0:=by omega
  cases hd:p.aN[k].done
  .rw [Mq hi hg hd];have cR:=Ke p k (by omega) (by omega) (by omega);have e:xE p (k:Int)=fF p p.aN[k]:=by simp [xE,hg]
   rw [e] at cR;have hrq:jJ (fF p p.aN[k])<=1073741824:=by have hm:=cB bE (fR hk);simp only [bE] at hm;simp only [jJ,fF,eW];simp only [aF,bV,aU] at hs1 hm⊢;omega
   have c3:=uG p.bG (fF p p.aN[k]) x FC (by omega) hx;have c4:=Cu p.bG (fF p p.aN[k]) x FC (by omega) hx;simp only [aJ,fE] at cR;simp only [bM,fE,dQ] at c3 c4;simp only [aJ,aO] at c1 c2;clear e;have Es:=FP (x:=x) hi hk hf;have hqs:=Xr p k hk x;have hub:=Dt p.bG (fF p p.aN[k]) x;have hset:(p.aN.map bU).set k [.str p.aN[k].to.host,.str p.aN[k].to.path,.bool true,.int .i64 (dW p.bG (fF p p.aN[k]) x),.str (jF p.bG (fF p p.aN[k]) x)]=(p.aN.set k (iX p p.aN[k] x)).map bU:=by rw [map_set];rfl
   have hg3:(p.aN.set k (iX p p.aN[k] x))[k]? =some (iX p p.aN[k] x):=by rw [mB hk]
   unfold KH;have hfm:(iX p p.aN[k] x).done=true/\(iX p p.aN[k] x).code=dW p.bG (fF p p.aN[k]) x/\(iX p p.aN[k] x).body=jF p.bG (fF p p.aN[k]) x:=⟨rfl,rfl,rfl⟩;have A7:(p.aN.set k (iX p p.aN[k] x)).length=p.aN.length:=by simp
   generalize dW p.bG (fF p p.aN[k]) x=c at *;generalize jF p.bG (fF p p.aN[k]) x=y at *;generalize fF p p.aN[k]=rq at *;generalize iX p p.aN[k] x=m3 at *;generalize p.aN.set k m3=L3 at *;obtain ⟨f1,f2,f3⟩:=hfm;have aIf:k < L3.length:=by omega
   have e3:∀h,(L3[k]'h)=m3:=λh=>by rw [aE h] at hg3;exact cQ hg3
   obtain ⟨b1,b2⟩:=Nw (q:={p with aN:=L3}) Es (by rw [f3];exact hub);have cI:=Oq {p with aN:=L3} a (by omega) (by simp only [aU] at hs;omega);generalize iN {p with aN:=L3} a=L at *;generalize lD {p with aN:=L3} a=ok at *;simp only [aJ,aO] at cI;refine bR aD func24 ntmps24 ?_;have W:=aA hk0 (aA hg (aA hd (aA hk (aA hset (aA aIf (aA e3 (aA f1 (aA f2 f3))))))));refine we ?_;have hq0:aF {p with aN:=L3}<=536871424:=by omega
   have hts:=Ny hq0 b1 b2;have LM:=λi (h:i < L.length)=>show lF {p with aN:=L3} (L.take (i+1))=gT (lF {p with aN:=L3} (L.take i)) L[i] by rw [eA h,Nv]
   have h00:lF {p with aN:=L3} (L.take 0)={p with aN:=L3}:=by simp [lF]
   have hall:L.length<=1099511627776:=by omega
   refine aL (ι:={k:Nat // k<=L.length}) (λt o i=>⟨bD t [(12,.int .i64 i.1),(14,.undef),(33,.undef),(35,.undef),(36,.undef),(38,.undef),(45,.undef),(46,.undef),(49,.undef),(58,.undef),(59,.undef),(61,.undef)],o.take 4++lN (lF {p with aN:=L3} (L.take i.1))++[⟨true,true,22,0,[jG 4 (lF {p with aN:=L3} (L.take i.1))]⟩]++o.drop 16⟩)
    (λi=>L.length - i.1) ⟨0,by simp⟩ (aH (by simp only [h00];simp [lN,jG]) (by simp)) ?_
   rintro ⟨i,hi2⟩ K1 hK1;have hi1:i64.wrap ((i:Int)+1)=((i+1:Nat):Int):=by rw [wrap64]<;>omega
   by_cases hlt:i < L.length
   .have hgi:=aE hlt;have cA:=Dn (lF {p with aN:=L3} (L.take i)) L[i] (by have:=hts i;omega) (by have:=b2 _ (fR hlt);omega);have hnext:=LM i hlt;rw [<-hnext] at cA;have hK2:=hK1;simp only [bD,cW,cU,eM,gR,eI,eN,rI,CM,lN,jG] at hK1⊢;clear LM h00 hnext hts;generalize hq1:lF {p with aN:=L3} (L.take i)=q at *;generalize hq2:lF {p with aN:=L3} (L.take (i+1))=q' at *;simp only [aJ,aO] at cA;have W:=aA hi1 (aA hgi hlt);refine we ?_;refine hK2 _ ⟨i+1,by omega⟩ ?_ (by simp only;omega);simp only [hq2];exact uo (q0:=q) (q:=q') rfl (by simp [lN,jG]) (by simp [pK]) (by simp [pK]) (by simp) (by simp) (by simp)
   .have htk:L.take i=L:=cX (by omega);have hK2:=hK1;simp only [bD,cW,cU,eM,gR,eI,eN,rI,CM,lN,jG,htk] at hK1⊢;clear LM h00 hts hK2 hK1;generalize lF {p with aN:=L3} L=q at *;have W:=aA hi1 hlt;refine we ?_;exact aK results24
  .rw [Jc hi hg hd];simp only [aJ,aO] at c1 c2;refine bR aD func24 ntmps24 ?_;have W:=aA hk0 (aA hg (aA hd hk));refine we ?_;exact aK results24
theorem Xx [aC prog] [eH prog] [dD prog] [qQ prog] (p:aI) (a:aT) (hs:aF p<=500000000) (hm:bV bE p.aN+aU a<=16777216):
  Lf prog 138 [.sH (aJ .own p) (aJ .own (pI p a)),.view (.agg (aO a))] (.iJ []):=by
 have c1:=Ky p a hm;unfold pI;cases hfl:rZ p a
 .rw [cY (by simp)];obtain ⟨r1,r2,r3⟩:=FM p a hm hfl;obtain ⟨hB,_⟩:=FL p a hm;have c2:=BG p _ hB a (by simp);have Jf:=vI p (eF p a) (by omega);have LV:=AL p (eF p a);have hz0:jH p (eF p a) 0=p:=rfl;have hsz:∀k,k<=(eF p a).length->aF (jH p (eF p a) k)<=520000000:=λk hk=>by
   have h1:=(Jf k hk).1;have h2:=(BI (jH p (eF p a) k)).1;have h3:=(BI p).2;have h4:=yK aU (eF p a) k;simp only [bV,oT] at h1 r2 hm;omega
  have Sg:∀k,k<=(eF p a).length->(jH p (eF p a) k).aN=p.aN:=λk hk=>(Jf k hk).2.1
  have hmem:∀b∈eF p a,∃(j:Nat) (m:dB),wX (kX b) p.aN=(j:Int)/\p.aN[j]? =some m/\j < p.aN.length/\yM p b=m.body:=λb hb=>by
   have h1:=r3 b hb;rcases uA (kX b) p.aN with ⟨hi,hf⟩|⟨j,hj,hi,hf⟩
   .unfold lD at h1;rw [hf] at h1;cases h1
   .exact ⟨j,p.aN[j],hi,aE hj,hj,by unfold yM;rw [hf]⟩
  have Lt:∀b∈eF p a,aU b<=16777215:=λb hb=>by have:=cB aU hb;have:=length_pos_of_mem hb;simp only [bV] at r2 hm;omega
  have um:∀m∈p.aN,m.body.length<=16777216:=λm hx=>by have:=cB bE hx;simp only [bV,bE] at hm this;omega
  have DW:p.aN.length<=16777216:=by simp only [bV] at hm;omega
  clear r2 r3 hB Jf;generalize eF p a=L at *;generalize jH p L=Q at *;simp only [aJ,aO] at c1 c2;rw [hfl] at c1;refine qU aD func138 ntmps138 ?_;refine bH ?_;refine aL (ι:={k:Nat // k<=L.length}) (λt o i=>⟨bD t [(25,.int .i64 i.1),(5,.undef),(11,.undef),(21,.undef)],[⟨true,true,22,2,[Dv 1 (Q i.1)]⟩]++Du (Q i.1)++[⟨true,true,2,0,[[.str a.host,.str a.path]]⟩,⟨true,false,2,1,L.map aO⟩]⟩)
   (λi=>L.length - i.1) ⟨0,by simp⟩ (aH (by simp [Dv,Du,hz0]) (by simp)) ?_
  rintro ⟨k,hk⟩ K1 hK1;have hk1:=oW (k:=k);by_cases hlt:k < L.length
  .have hg:=aE hlt;have hbm:=fR hlt;have hnext:=LV k hlt;have hq1:=hsz k hk;have hqm:=Sg k hk;obtain ⟨j,m,hi,hgm,hjl,hbd⟩:=hmem L[k] hbm;have hsb:=Lt L[k] hbm;rw [<-hqm] at hi hgm hjl;have hbq:yM (Q k) L[k]=m.body:=by rw [<-hbd];unfold yM;rw [hqm]
   have hmb:m.body.length<=16777216:=um m (by rw [<-hqm];exact oE hgm);unfold uB at hnext;rw [hbq] at hnext;have hK2:=hK1;clear LV hsz Sg hmem Lt um hbd hqm hbm c1 c2;generalize hq':Q (k+1)=q' at *;generalize hq:Q k=q at *;have hrl:q.oD.length<=520000000:=by simp only [aF,bV] at hq1;omega
   have c3:=Ri q.oD L[k] (by omega);simp only [bD,cW,cU,eI,eN,Du,Dv] at hK1⊢;cases hh:q.oD.any (iT L[k])
   .rw [hh] at hnext c3;rw [cY (by simp)] at hnext;obtain ⟨rn,hrn⟩:∃rn,rn=q.oD++[L[k]]:=⟨_,rfl⟩;have hap:q.oD.map aO++[[.str L[k].host,.str L[k].path]]=rn.map aO:=by rw [hrn];simp
    rw [<-hrn] at hnext;have hsq:aF {q with oD:=rn}<=536870912:=by simp only [aF,bV,hrn,eR,eL,eW,jA,aQ] at hq1⊢;omega
    have c4:=xL {q with oD:=rn} L[k] (by simp only;simp only [aF,bV] at hq1;omega);have hbh:L[k].host.length<=16777216:=by simp only [aU] at hsb;omega
    have c5:=rY m.body L[k].host (by omega) (by omega);obtain ⟨l6,lx⟩:=Cq m.body L[k].host;have c6:=EC {q with oD:=rn} (bI m.body L[k].host).2.1 false hsq l6 lx;rw [<-hnext] at c6;simp only [hi] at c4;clear hnext hrn hsq l6 lx hq1;generalize bI m.body L[k].host=g at *;obtain ⟨im,ln,bk⟩:=g;have hj0:¬(j:Int) < 0:=by omega
    simp only [aJ,aO] at c3 c4 c5 c6;have W:=aA hk1 (aA hg (aA hap (aA hgm (aA hj0 hrl))));have V:=aA hlt (aA hjl hj0);repeat' first|refine wf ?_|(refine nx ?_;refine sg (hc:=c6) (h:=?_))|(refine sq ?_ ?_<;>intro hc<;>try exact hc.elim)|fail
    refine hK2 _ ⟨k+1,by omega⟩ ?_ (by simp only;omega);simp only [hq'];exact aEw (q:=q') rfl (by simp [Du,Dv,hq']) (by simp [yP]) (by simp [yP]) (by simp) (by simp) (by simp [dJ])
   .rw [hh] at hnext c3;rw [eK rfl] at hnext;simp only [aO] at c3;have W:=aA hk1 (aA hg hlt);refine we ?_;refine hK2 _ ⟨k+1,by omega⟩ ?_ (by simp only;omega);exact aW 14 (by simp [Du,Dv,hq',hnext]) (by simp) (by simp) (by simp [dJ,Du,Dv,hq',hnext])
  .have hkl:k=L.length:=by omega
   subst hkl;simp only [bD,cW,cU,eI,eN,Du,Dv] at hK1⊢;clear LV hsz Sg hmem Lt um hK1 c1 c2;generalize Q L.length=q at *;have W:=aA hk1 hlt;refine we ?_;all_goals try(refine ⟨by first|exact .inr rfl|exact .inl rfl,?_⟩;simp [gK,dN,dM,rowOf,results138])
 .rw [eK rfl];rw [hfl] at c1;have hfm:=BD a;have bu:p.log.length<=500000000:=by simp only [aF,bV] at hs;omega
  have c2:=Kn a (by omega);have c3:=Ei p (Ru++lX a) (by omega);simp only [Ru] at c3⊢;generalize lX a=fa at *;simp only [aJ,aO] at c1 c2 c3⊢;refine qU aD func138 ntmps138 ?_;have W:=hfm;repeat' first|refine wf ?_|(refine nx ?_;refine sg (hc:=c3) (h:=?_))|(refine sq ?_ ?_<;>intro hc<;>try exact hc.elim)|fail
  all_goals try(refine ⟨by first|exact .inr rfl|exact .inl rfl,?_⟩;simp [gK,dN,dM,rowOf,results138])
theorem Ou [aC prog] [eH prog] [dD prog] [qQ prog] (p:aI) (hs:aF p<=500000000) (hn1:p.aB.length<=16777216) (hme:bV bE p.aN+bV aU p.entries<=16777216):Ok prog 82 [.agg (aJ .view p)] (.iJ [.agg (aJ .own (oM p).1),.bool (oM p).2]):=by
 have c1:=jC p (by omega);have hn2:p.aN.length<=16777216:=by simp only [bV] at hme;omega
 have cP:=NW p;have cS:=BB p (by omega);have cD:=FB p hn1;have hbd:∀s∈p.aB,s.body.length<=500000000:=λs hm=>by have:=cB gQ hm;simp only [aF,bV,gQ] at hs this;omega
 have hed:∀a∈p.entries,bV bE p.aN+aU a<=16777216:=λa hm=>by
  have h1:=cB aU hm;have h2:aQ aU p.entries<=bV aU p.entries:=by simp only [bV];omega
  omega
 have aSt:p.entries.length<=16777216:=by
  have:p.entries.length<=bV aU p.entries:=by simp only [bV];omega
  omega
 have aL3:=nD jO p.aB 0;have LP:=Mj jO p.aB 0;unfold oM;by_cases hpre:xN p=true/\p.nS=false/\0<=p.deferred/\0<=p.gW
 .rw [eK hpre];obtain ⟨h1,h2,h3,h4⟩:=hpre;obtain ⟨dn,EG⟩:=mN h3;obtain ⟨en,KV⟩:=mN h4;rw [EG,KV,mC,mC];rw [h1] at cP;by_cases hdl:dn < (places jO 0 p.aB).length
  .have Xw:=aE hdl;obtain ⟨sn,LM,_,hsl⟩:=LP _ (fR hdl);rw [hM] at hsl;rw [LM] at Xw;rw [Xw];simp only [mC];have hgS:=aE hsl;rw [hgS];simp only;have aEq:=hbd _ (fR hsl);have hkd:i64.wrap ((dn:Int)+1)=(dn:Int)+1:=by rw [wrap64]<;>omega
   have hdi:(dn:Int) < ((places jO 0 p.aB).length:Int):=by omega
   unfold OW;have c4:=Bo p p.aB[sn].body false (by omega) (by omega);have hqd:=(He p p.aB[sn].body false).1.trans EG;clear hbd hed LP LM aL3;generalize places jO 0 p.aB=D at *;cases hd:p.aB[sn].done
   .rw [cY (by simp)];simp only [aJ,h2,EG,KV] at c1 cP cS cD⊢;refine bR aD func82 ntmps82 ?_;have W:=aA hdi (aA Xw (aA hgS hd));have V:=aA hdl hsl;refine we ?_;exact aK results82
   .generalize p.aB.all nO=uk at *;cases uk
    .rw [cY (by simp)];simp only [aJ,h2,EG,KV] at c1 cP cS cD⊢;refine bR aD func82 ntmps82 ?_;have W:=aA hdi (aA Xw (aA hgS hd));have V:=aA hdl hsl;refine we ?_;exact aK results82
    .rw [eK ⟨rfl,rfl⟩];by_cases Xu:p.aB[sn].code=1
     .rw [eK Xu];generalize mM p p.aB[sn].body false=q at *;simp only [aJ,h2,EG,KV,hqd] at c1 cP cS cD c4⊢;refine bR aD func82 ntmps82 ?_;have W:=aA hdi (aA Xw (aA hgS (aA hd (aA Xu hkd))));have V:=aA hdl hsl;refine we ?_;exact aK results82
     .rw [cY Xu];simp only [aJ,h2,EG,KV] at c1 cP cS cD⊢;refine bR aD func82 ntmps82 ?_;have W:=aA hdi (aA Xw (aA hgS (aA hd (aA Xu hkd))));have V:=aA hdl hsl;refine we ?_;exact aK results82
  .have Xw:(places jO 0 p.aB)[dn]? =none:=oY (by omega);rw [Xw];simp only;have hdl:¬(dn:Int) < ((places jO 0 p.aB).length:Int):=by omega
   clear hbd LP Xw;generalize places jO 0 p.aB=D at *;by_cases hlE:en < p.entries.length
   .have V6:=aE hlE;rw [V6];simp only;have hsa:=hed _ (fR hlE);have hel:(en:Int) < (p.entries.length:Int):=by omega
    have hke:i64.wrap ((en:Int)+1)=(en:Int)+1:=by rw [wrap64]<;>omega
    have cG:=Kv p p.entries[en] hsa;have c5:=Xx p p.entries[en] hs hsa;have hqe:=(VK p p.entries[en]).trans KV;clear hed;unfold OX;generalize vY p p.entries[en]=gr at *;cases gr
    .rw [cY (by simp)];simp only [aJ,aO,h2,EG,KV] at c1 cP cS cD cG⊢;refine bR aD func82 ntmps82 ?_;have W:=aA hdl (aA hel (aA V6 hlE));refine we ?_;exact aK results82
    .generalize p.aB.all nO=uk at *;cases uk
     .rw [cY (by simp)];simp only [aJ,aO,h2,EG,KV] at c1 cP cS cD cG⊢;refine bR aD func82 ntmps82 ?_;have W:=aA hdl (aA hel (aA V6 hlE));refine we ?_;exact aK results82
     .rw [eK ⟨rfl,rfl⟩];generalize pI p p.entries[en]=q at *;simp only [aJ,aO,h2,EG,KV,hqe] at c1 cP cS cD cG c5⊢;refine bR aD func82 ntmps82 ?_;have W:=aA hdl (aA hel (aA hke (aA V6 hlE)));repeat' first|refine wf ?_|(refine nx ?_;refine sg (hc:=c5) (h:=?_))|(refine sq ?_ ?_<;>intro hc<;>try exact hc.elim)|fail
      exact aK results82
   .have V6:p.entries[en]? =none:=oY (by omega);rw [V6];simp only;have hel:¬(en:Int) < (p.entries.length:Int):=by omega
    clear hed;have cO:=Md p hn1;have cM:=NS p hn2;have bu:p.log.length<=500000000:=by simp only [aF,bV] at hs;omega
    have c5:=Ei p Ry (by omega);unfold OY;simp only [Ry] at c5⊢;generalize places vG 0 p.aB=O at *;generalize places vH 0 p.aN=M at *;by_cases ho:O.length=0
    .obtain rfl:=tW.1 ho;by_cases hm:M.length=0
     .obtain rfl:=tW.1 hm;rw [eK ⟨rfl,rfl⟩];simp only [aJ,h2,EG,KV] at c1 cP cS cD cO cM c5⊢;refine bR aD func82 ntmps82 ?_;have W:=aA hdl hel;repeat' first|refine wf ?_|(refine nx ?_;refine sg (hc:=c5) (h:=?_))|(refine sq ?_ ?_<;>intro hc<;>try exact hc.elim)|fail
      exact aK results82
     .rw [cY (by omega)];have hm2:¬M=[]:=λh=>hm (by rw [h];rfl)
      have hm3:(0:Int) < (M.length:Int):=by omega
      simp only [aJ,h2,EG,KV] at c1 cP cS cD cO cM⊢;refine bR aD func82 ntmps82 ?_;have W:=aA hdl (aA hel (aA hm2 hm3));repeat' first|refine wf ?_|(refine sq ?_ ?_<;>intro hc<;>try exact hc.elim)|fail
      all_goals (try exact (hm2 (by assumption)).elim)
      all_goals try(refine aR ?_;simp [aG,results82])
    .rw [cY (by omega)];have ho2:¬O=[]:=λh=>ho (by rw [h];rfl)
     have ho3:(0:Int) < (O.length:Int):=by omega
     simp only [aJ,h2,EG,KV] at c1 cP cS cD cO cM⊢;refine bR aD func82 ntmps82 ?_;have W:=aA hdl (aA hel (aA ho2 ho3));refine we ?_;all_goals (try exact (ho2 (by assumption)).elim)
     all_goals try(refine aR ?_;simp [aG,results82])
 .rw [cY hpre];clear hbd hed LP;cases h1:xN p
  .rw [h1] at cP;simp only [aJ] at c1 cP cS cD⊢;refine bR aD func82 ntmps82 ?_;refine bH ?_;exact aK results82
  .rw [h1] at cP;cases h2:p.nS
   .by_cases h3:p.deferred < 0
    .simp only [aJ,h2] at c1 cP cS cD⊢;refine bR aD func82 ntmps82 ?_;have W:=h3;refine we ?_;exact aK results82
    .have h4:p.gW < 0:=by
      rw [h1,h2] at hpre;by_cases h4:p.gW < 0
      .exact h4
      .exact (hpre ⟨rfl,rfl,by omega,by omega⟩).elim
     simp only [aJ,h2] at c1 cP cS cD⊢;refine bR aD func82 ntmps82 ?_;have W:=aA h3 h4;refine we ?_;exact aK results82
   .simp only [aJ,h2] at c1 cP cS cD⊢;refine bR aD func82 ntmps82 ?_;refine bH ?_;exact aK results82
end Go.Proofs.YtjmpjmilndkgfaaGreatDoor
