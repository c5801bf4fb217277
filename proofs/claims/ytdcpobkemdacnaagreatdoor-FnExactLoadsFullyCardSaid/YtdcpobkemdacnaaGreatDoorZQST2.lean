/- Proved here: steps towards the statement of this claim. No condition. -/
import Derived.Test.YtdcpobkemdacnaaGreatDoorZQST0
set_option linter.all false
set_option maxRecDepth 8000
set_option maxHeartbeats 8000000
namespace Go.Proofs.YtdcpobkemdacnaaGreatDoor
open Go.Aw Proofs.Tryz List IntKind
def Nr (rv:Nat) (q:aG):List aN:=[⟨true,false,1,1,q.bD.fF.map dD⟩,⟨true,false,1,1,q.bD.iB.map dD⟩,⟨true,false,1,1,q.bD.iC.map dD⟩,⟨true,false,4,1,q.queue.map (cB .own)⟩,⟨true,false,4,1,q.builder.nodes.map (fD .own)⟩,⟨true,false,1,1,q.builder.opens.map lW⟩,⟨true,false,8,1,q.aB.map uW⟩,⟨true,false,5,1,q.aM.map eZ⟩,⟨true,false,2,1,q.entries.map aL⟩,⟨true,false,2,rv,q.tH.map aL⟩,⟨true,false,1,1,q.log.map dD⟩]
def Ns (rv:Nat) (q:aG):List AV:=[.str q.addr.host,.str q.addr.path,.bool q.bD.isSet,.obj 3 1,.obj 4 1,.obj 5 1,.str q.bD.sP,.str q.tok.rest,.obj 6 1,.bool q.ended,.obj 7 1,.obj 8 1,.obj 9 1,.obj 10 1,.obj 11 1,.int .i64 q.block,.int .i64 q.inline,.int .i64 q.deferred,.int .i64 q.iE,.obj 12 rv,.obj 13 1,.bool q.lY]
theorem XW [aC prog] [dK prog] [bR prog] [mZ prog] (p:aG) (a:aK) (hs:aJ p<=500000000) (hm:bT bL p.aM+aQ a<=16777216):
  Ok prog 110 [.agg (aI .view p),.agg (aL a)] (.agg (aI .own (oC p a))):=by
 have c0:=gP p (by omega);have c1:=Lp p a hm;unfold oC;cases hfl:tQ p a
 .rw [cX (by simp)];obtain ⟨r1,r2,r3⟩:=Gq p a hm hfl;obtain ⟨hB,_⟩:=Gp p a hm;have c2:=BO p _ hB a (by simp);have JM:=wM p (dZ p a) (by omega);have MU:=AR p (dZ p a);have hz0:jJ p (dZ p a) 0=p:=rfl;have hsz:∀k,k<=(dZ p a).length->aJ (jJ p (dZ p a) k)<=520000000:=λk hk=>by
   have h1:=(JM k hk).1;have h2:=(BP (jJ p (dZ p a) k)).1;have h3:=(BP p).2;have h4:=zB aQ (dZ p a) k;simp only [bT,oR] at h1 r2 hm;omega
  have Tn:∀k,k<=(dZ p a).length->(jJ p (dZ p a) k).aM=p.aM:=λk hk=>(JM k hk).2.1
  have hmem:∀b∈dZ p a,∃(j:Nat) (m:dY),pW (kQ b) p.aM=(j:Int)/\p.aM[j]? =some m/\j < p.aM.length/\zD p b=m.body:=λb hb=>by
   have h1:=r3 b hb;rcases lI (kQ b) p.aM with ⟨hi,hf⟩|⟨j,hj,hi,hf⟩
   .unfold lF at h1;rw [hf] at h1;cases h1
   .exact ⟨j,p.aM[j],hi,aE hj,hj,by unfold zD;rw [hf]⟩
  have MP:∀b∈dZ p a,aQ b<=16777215:=λb hb=>by have:=bU aQ hb;have:=length_pos_of_mem hb;simp only [bT] at r2 hm;omega
  have wo:∀m∈p.aM,m.body.length<=16777216:=λm hx=>by have:=bU bL hx;simp only [bT,bL] at hm this;omega
  have hml:p.aM.length<=16777216:=by simp only [bT] at hm;omega
  clear r2 r3 hB JM;generalize dZ p a=L at *;generalize jJ p L=Q at *;simp only [aI,aL] at c0 c1 c2;rw [hfl] at c1;refine uB aD [3,16] func110 ntmps110 ?_;refine aZ ?_;refine aP (ι:={q:Nat×Nat // q.1<=L.length}) (λt o i=>⟨bE t [(7,.int .i64 i.1.1),(16,.undef)],o.take 3++Nr i.1.2 (Q i.1.1)++[⟨true,true,22,0,[Ns i.1.2 (Q i.1.1)]⟩,⟨true,false,2,1,L.map aL⟩]⟩)
   (λi=>L.length - i.1.1) ⟨(0,1),by simp⟩ (aO (by simp [Ns,Nr,hz0]) (by simp)) ?_
  rintro ⟨⟨k,v⟩,hk⟩ K1 hK1;simp only at hk;have hk1:=oW (k:=k);by_cases hlt:k < L.length
  .have hg:=aE hlt;have hbm:=fN hlt;have hnext:=MU k hlt;have hq1:=hsz k hk;have hqm:=Tn k hk;obtain ⟨j,m,hi,hgm,hjl,hbd⟩:=hmem L[k] hbm;have hsb:=MP L[k] hbm;rw [<-hqm] at hi hgm hjl;have hbq:zD (Q k) L[k]=m.body:=by rw [<-hbd];unfold zD;rw [hqm]
   have hmb:m.body.length<=16777216:=wo m (by rw [<-hqm];exact mS hgm);unfold rC at hnext;rw [hbq] at hnext;have hK2:=hK1;clear MU hsz Tn hmem MP wo hbd hqm hbm c1 c2;generalize hq':Q (k+1)=q' at *;generalize hq:Q k=q at *;have hrl:q.tH.length<=520000000:=by simp only [aJ,bT] at hq1;omega
   have c3:=Bp q.tH L[k] (by omega);simp only [bE,cW,cU,eL,fS,eA,eM,Nr,Ns] at hK1⊢;cases hh:q.tH.any (iV L[k])
   .rw [hh] at hnext c3;rw [cX (by simp)] at hnext;obtain ⟨rn,hrn⟩:∃rn,rn=q.tH++[L[k]]:=⟨_,rfl⟩;have hap:q.tH.map aL++[[.str L[k].host,.str L[k].path]]=rn.map aL:=by rw [hrn];simp
    rw [<-hrn] at hnext;have hsq:aJ {q with tH:=rn}<=536870912:=by simp only [aJ,bT,hrn,eR,eN,eW,jD,bH] at hq1⊢;omega
    have c4:=zV {q with tH:=rn} L[k] (by simp only;simp only [aJ,bT] at hq1;omega);have hbh:L[k].host.length<=16777216:=by simp only [aQ] at hsb;omega
    have c5:=xC m.body L[k].host (by omega) (by omega);obtain ⟨l6,lx⟩:=CL m.body L[k].host;have hsl:bT lD q.aB<=1073741824:=by simp only [aJ,bT] at *;omega
    have aVu:aS q.builder<=536870912:=by simp only [aJ] at hq1;omega
    have ib:q.log.length<=536870912:=by simp only [aJ,bT] at hq1;omega
    have c6:=EU {q with tH:=rn} hsl;obtain ⟨hb1,hb2⟩:=CX {q with tH:=rn};have hb1':(dI {q with tH:=rn}).length<=536870912:=by simp only [aJ,bT] at hq1 hb1;omega
    have c7:=Dy q.builder (dI {q with tH:=rn}) (bJ m.body L[k].host).2.1 (by omega) l6 (λx hm=>by have:=lx x hm;omega) (by omega) (λx hm=>by have:=hb2 x hm;omega) (xI _);obtain ⟨z1,z2,z3,z4⟩:=Bw 60 q.builder (dI {q with tH:=rn}) (bJ m.body L[k].host).2.1 (by omega) l6 lx (xI _) (by omega) (bJ m.body L[k].host).2.1.length (eE _);have hend:sH q.builder (dI {q with tH:=rn}) (bJ m.body L[k].host).2.1 (bJ m.body L[k].host).2.1.length=eH q.builder (dI {q with tH:=rn}) (bJ m.body L[k].host).2.1:=by simp [sH]
    rw [hend] at z1 z2 z3 z4;unfold lM at hnext;simp only [hi] at c4;simp only [eS,hH] at hnext;clear hrn hsq lx hq1 hend hb1 hb2;generalize dI {q with tH:=rn}=ss at *;generalize bJ m.body L[k].host=g at *;obtain ⟨im,ln,bk⟩:=g;simp only at c5 c7 z1 z2 z3 z4 l6 hnext;generalize eH q.builder ss ln=g at *;obtain ⟨b,wr,lg⟩:=g;simp only at c7 z1 z2 z3 z4 hnext;have hj0:¬(j:Int) < 0:=by omega
    simp only [aI,aL,aU] at c3 c4 c5 c6 c7;have W:=aA hk1 (aA hg (aA hap (aA hgm (aA hj0 hrl))));have V:=aA hlt (aA hjl hj0);refine we ?_;obtain ⟨P,hP⟩:∃P:Nat->aG,∀i,P i={q with tH:=rn,builder:=b,log:=nD q.log (lg.take i)}:=⟨_,λ_=>rfl⟩;have hP0:P 0={q with tH:=rn,builder:=b}:=by rw [hP];rfl
    have hPn:P lg.length=q':=by rw [hP,hnext,As]
    have hPl:∀i,i<=lg.length->(P i).log.length<=1099511627776:=λi hi=>by rw [hP];have:=Jw q.log (lg.take i);simp only [oR] at this⊢;omega
    have hPs:∀i (h:i < lg.length),P (i+1)={P i with log:=kC (P i).log lg[i]}:=λi h=>by rw [hP,hP,Gd _ _ _ h]
    clear c3 c4 c5 c6 c7 hP hnext;refine aP (ι:={q:Nat×Nat // q.1<=lg.length}) (λt o i=>⟨bE t [(14,.int .i64 i.1.1),(11,.ptr 19 1 0 0),(50,.undef),(52,.undef),(53,.undef),(59,.undef),(60,.undef),(77,.undef),(71,.undef),(74,.undef),(78,.undef),(73,.undef),(81,.undef),(42,.undef),(48,.undef),(35,.undef),(16,.undef)],o.take 3++Nr i.1.2 (P i.1.1)++[⟨true,true,22,0,[Ns i.1.2 (P i.1.1)]⟩,⟨true,false,2,1,L.map aL⟩,⟨false,false,2,1,[[.str L[k].host,.str L[k].path]]⟩,⟨true,false,2,1,im.map aL⟩,⟨true,false,2,1,ln.map lH⟩,⟨false,false,0,1,[]⟩,⟨true,false,1,1,ss.map (eD .own)⟩,⟨true,false,4,1,q.builder.nodes.map (fD .own)⟩,⟨true,false,1,1,q.builder.opens.map lW⟩,⟨true,false,1,1,lg.map dD⟩]⟩)
     (λi=>lg.length - i.1.1) ⟨(0,v+1),by simp⟩ ?_ ?_
    .simp only [hP0,Ns,Nr,bE,cW,cU,eL,fS,eA,eM];exact aEx 7 21 8 22 19 rfl rfl ⟨rfl,rfl⟩ (by simp;rfl) rfl rfl ⟨rfl,rfl⟩ (by simp;rfl) rfl (by simp) (by simp) (by simp)
    rintro ⟨⟨i,rv⟩,hil⟩ K2 hK3;simp only at hil;have hk2:i64.wrap ((i:Int)+1)=((i+1:Nat):Int):=by rw [wrap64]<;>omega
    by_cases hit:i < lg.length
    .have hgi:=aE hit;have hnx:=hPs i hit;have c4:=JA (P i) lg[i] (hPl i hil);rw [<-hnx] at c4;have hK4:=hK3;clear hP0 hPn hPl hPs hnx;generalize hp':P (i+1)=p' at *;generalize hpi:P i=pi at *;simp only [bE,cW,cU,eL,fS,eA,eM,Nr,Ns] at hK3⊢;simp only [aI] at c4;have W:=aA hk2 (aA hgi hit);refine we ?_;rw [yA];refine go_drawn (by simp;rfl) (by simp;rfl) (by decide+kernel) (by decide) (by first|rfl|(simp [Zb];done)) (by simp) (by simp) ?_;iterate 5 (
      refine go_draw rfl (by first|rfl|(simp;done)) (by simp [Region.binds];rfl) (by decide) (by simp [Region.binds];rfl) (by simp;rfl) ?_ ?_
      .first|rfl|(simp [nM];done)
      refine nx ?_;refine so ?_;refine kN ?_;refine go_next (by simp;done) (by simp;rfl) (by simp;rfl) ?_)
     refine En (s1:= ?s1) (by decide+kernel) (by simp [uI,reach,mQ,Region.binds,EV];rfl) ?ha ?hk;case ha=>
      repeat' (first|refine st ?_|(refine nx ?_;first|refine so ?_|refine sg (hc:=c4) (h:= ?_))|refine sx ?_ ?_|refine sy ?_ ?_|fail)
      all_goals rfl
     case hk=>
      have W:=hk2;refine we ?_;refine hK4 _ ⟨(i+1,1),by simp only;omega⟩ ?_ (by simp only;omega);simp only [hp'];exact X5 (q:=p') rfl (by simp [Nr,Ns,yQ,yR,hp']) (by simp [xK]) (by simp [xK]) (by simp) (by simp) (by simp [dE])
    .have hie:i=lg.length:=by omega
     subst hie;simp only [hPn,bE,cW,cU,eL,fS,eA,eM,Nr,Ns] at hK3⊢;clear hP0 hPn hPl hPs hK3;have W:=aA hk1 hit;refine we ?_;refine hK2 _ ⟨(k+1,rv),by simp only;omega⟩ ?_ (by simp only;omega);exact aX 16 (by simp [Nr,Ns,hq']) (by simp) (by simp) (by simp [dE,Nr,Ns,hq'])
   .rw [hh] at hnext c3;rw [eI rfl] at hnext;simp only [aL] at c3;have W:=aA hk1 (aA hg hlt);refine we ?_;refine hK2 _ ⟨(k+1,v),by simp only;omega⟩ ?_ (by simp only;omega);exact aX 16 (by simp [Nr,Ns,hq',hnext]) (by simp) (by simp) (by simp [dE,Nr,Ns,hq',hnext])
  .have hkl:k=L.length:=by omega
   subst hkl;simp only [bE,cW,cU,eL,fS,eA,eM,Nr,Ns] at hK1⊢;clear MU hsz Tn hmem MP wo hK1 c1 c2;generalize Q L.length=q at *;have W:=aA hk1 hlt;refine we ?_;exact aF results110
 .rw [eI rfl];rw [hfl] at c1;have hfm:=BL a;have ib:p.log.length<=500000000:=by simp only [aJ,bT] at hs;omega
  have c2:=Lc a (by omega);have c3:=JA p (Su++lZ a) (by omega);simp only [Su] at c3⊢;generalize lZ a=fa at *;simp only [aI,aL] at c0 c1 c2 c3⊢;refine uB aD [3] func110 ntmps110 ?_;have W:=hfm;refine we ?_;rw [yA];refine go_drawn (by simp;rfl) (by simp;rfl) (by decide+kernel) (by decide) (by first|rfl|(simp [Zb];done)) (by simp) (by simp) ?_;iterate 4 (
   refine go_draw rfl (by first|rfl|(simp;done)) (by simp [Region.binds];rfl) (by decide) (by simp [Region.binds];rfl) (by simp;rfl) ?_ ?_
   .first|rfl|(simp [nM];done)
   refine nx ?_;refine so ?_;refine kN ?_;refine go_next (by simp;done) (by simp;rfl) (by simp;rfl) ?_)
  refine En (s1:= ?s2) (by decide+kernel) (by simp [uI,reach,mQ,Region.binds,EV];rfl) ?ha2 ?hk2;case ha2=>
   repeat' (first|refine st ?_|(refine nx ?_;first|refine so ?_|refine sg (hc:=c3) (h:= ?_))|refine sx ?_ ?_|refine sy ?_ ?_|fail)
   all_goals rfl
  case hk2=>
   refine aZ ?_;exact aF results110
theorem Pw [aC prog] [dK prog] [bR prog] [mZ prog] (p:aG) (hs:aJ p<=500000000) (hn1:p.aB.length<=16777216) (hme:bT bL p.aM+bT aQ p.entries<=16777216):Ok prog 59 [.agg (aI .view p)] (.gZ [.agg (aI .own (nR p).1),.bool (nR p).2]):=by
 have c1:=gP p (by omega);have hn2:p.aM.length<=16777216:=by simp only [bT] at hme;omega
 have cP:=Pd p;have cS:=BI p (by omega);have cD:=Gf p hn1;have hbd:∀s∈p.aB,s.body.length<=500000000:=λs hm=>by have:=bU lD hm;simp only [aJ,bT,lD] at hs this;omega
 have hed:∀a∈p.entries,bT bL p.aM+aQ a<=16777216:=λa hm=>by
  have h1:=bU aQ hm;have h2:bH aQ p.entries<=bT aQ p.entries:=by simp only [bT];omega
  omega
 have aSr:p.entries.length<=16777216:=by
  have:p.entries.length<=bT aQ p.entries:=by simp only [bT];omega
  omega
 have aL9:=jE jS p.aB 0;have OP:=Ni jS p.aB 0;unfold nR;by_cases hpre:yJ p=true/\p.lY=false/\0<=p.deferred/\0<=p.iE
 .rw [eI hpre];obtain ⟨h1,h2,h3,h4⟩:=hpre;obtain ⟨dn,Fh⟩:=mB h3;obtain ⟨en,Nb⟩:=mB h4;rw [Fh,Nb,lP,lP];rw [h1] at cP;by_cases hdl:dn < (places jS 0 p.aB).length
  .have XX:=aE hdl;obtain ⟨sn,ML,_,hsl⟩:=OP _ (fN hdl);rw [lA] at hsl;rw [ML] at XX;rw [XX];simp only [lP];have hgS:=aE hsl;rw [hgS];simp only;have aEw:=hbd _ (fN hsl);have hkd:i64.wrap ((dn:Int)+1)=(dn:Int)+1:=by rw [wrap64]<;>omega
   have hdi:(dn:Int) < ((places jS 0 p.aB).length:Int):=by omega
   unfold Ls;have c4:=BD p p.aB[sn].body false (by omega) (by omega);have hqd:=(Iy p p.aB[sn].body false).1.trans Fh;clear hbd hed OP ML aL9;generalize places jS 0 p.aB=D at *;cases hd:p.aB[sn].done
   .rw [cX (by simp)];simp only [aI,h2,Fh,Nb] at c1 cP cS cD⊢;refine bO aD func59 ntmps59 ?_;have W:=aA hdi (aA XX (aA hgS hd));have V:=aA hdl hsl;refine we ?_;exact aF results59
   .generalize p.aB.all nZ=wm at *;cases wm
    .rw [cX (by simp)];simp only [aI,h2,Fh,Nb] at c1 cP cS cD⊢;refine bO aD func59 ntmps59 ?_;have W:=aA hdi (aA XX (aA hgS hd));have V:=aA hdl hsl;refine we ?_;exact aF results59
    .rw [eI ⟨rfl,rfl⟩];by_cases XV:p.aB[sn].code=1
     .rw [eI XV];generalize lQ p p.aB[sn].body false=q at *;simp only [aI,h2,Fh,Nb,hqd] at c1 cP cS cD c4⊢;refine bO aD func59 ntmps59 ?_;have W:=aA hdi (aA XX (aA hgS (aA hd (aA XV hkd))));have V:=aA hdl hsl;refine we ?_;exact aF results59
     .rw [cX XV];simp only [aI,h2,Fh,Nb] at c1 cP cS cD⊢;refine bO aD func59 ntmps59 ?_;have W:=aA hdi (aA XX (aA hgS (aA hd (aA XV hkd))));have V:=aA hdl hsl;refine we ?_;exact aF results59
  .have XX:(places jS 0 p.aB)[dn]? =none:=pA (by omega);rw [XX];simp only;have hdl:¬(dn:Int) < ((places jS 0 p.aB).length:Int):=by omega
   clear hbd OP XX;generalize places jS 0 p.aB=D at *;by_cases hlE:en < p.entries.length
   .have X6:=aE hlE;rw [X6];simp only;have hsa:=hed _ (fN hlE);have hel:(en:Int) < (p.entries.length:Int):=by omega
    have hke:i64.wrap ((en:Int)+1)=(en:Int)+1:=by rw [wrap64]<;>omega
    have cG:=Ll p p.entries[en] hsa;have c5:=XW p p.entries[en] hs hsa;have hqe:=(Ws p p.entries[en]).trans Nb;clear hed;unfold Lt;generalize xD p p.entries[en]=gr at *;cases gr
    .rw [cX (by simp)];simp only [aI,aL,h2,Fh,Nb] at c1 cP cS cD cG⊢;refine bO aD func59 ntmps59 ?_;have W:=aA hdl (aA hel (aA X6 hlE));refine we ?_;exact aF results59
    .generalize p.aB.all nZ=wm at *;cases wm
     .rw [cX (by simp)];simp only [aI,aL,h2,Fh,Nb] at c1 cP cS cD cG⊢;refine bO aD func59 ntmps59 ?_;have W:=aA hdl (aA hel (aA X6 hlE));refine we ?_;exact aF results59
     .rw [eI ⟨rfl,rfl⟩];generalize oC p p.entries[en]=q at *;simp only [aI,aL,h2,Fh,Nb,hqe] at c1 cP cS cD cG c5⊢;refine bO aD func59 ntmps59 ?_;have W:=aA hdl (aA hel (aA hke (aA X6 hlE)));refine we ?_;exact aF results59
   .have X6:p.entries[en]? =none:=pA (by omega);rw [X6];simp only;have hel:¬(en:Int) < (p.entries.length:Int):=by omega
    clear hed;have cO:=DF p hn1;have cM:=EZ p hn2;have ib:p.log.length<=500000000:=by simp only [aJ,bT] at hs;omega
    have c5:=JA p Sy (by omega);unfold Lu;simp only [Sy] at c5⊢;generalize places rH 0 p.aB=O at *;generalize places rJ 0 p.aM=M at *;by_cases ho:O.length=0
    .obtain rfl:=vA.1 ho;by_cases hm:M.length=0
     .obtain rfl:=vA.1 hm;rw [eI ⟨rfl,rfl⟩];simp only [aI,h2,Fh,Nb] at c1 cP cS cD cO cM c5⊢;refine bO aD func59 ntmps59 ?_;have W:=aA hdl hel;repeat' first|refine wf ?_|(refine nx ?_;refine sg (hc:=c5) (h:=?_))|(refine sq ?_ ?_<;>intro hc<;>try exact hc.elim)|fail
      exact aF results59
     .rw [cX (by omega)];have hm2:¬M=[]:=λh=>hm (by rw [h];rfl)
      have hm3:(0:Int) < (M.length:Int):=by omega
      simp only [aI,h2,Fh,Nb] at c1 cP cS cD cO cM⊢;refine bO aD func59 ntmps59 ?_;have W:=aA hdl (aA hel (aA hm2 hm3));repeat' first|refine wf ?_|(refine sq ?_ ?_<;>intro hc<;>try exact hc.elim)|fail
      all_goals (try exact (hm2 (by assumption)).elim)
      all_goals try(refine aV ?_;simp [aH,results59])
    .rw [cX (by omega)];have ho2:¬O=[]:=λh=>ho (by rw [h];rfl)
     have ho3:(0:Int) < (O.length:Int):=by omega
     simp only [aI,h2,Fh,Nb] at c1 cP cS cD cO cM⊢;refine bO aD func59 ntmps59 ?_;have W:=aA hdl (aA hel (aA ho2 ho3));repeat' first|refine wf ?_|(refine sq ?_ ?_<;>intro hc<;>try exact hc.elim)|fail
     all_goals (try exact (ho2 (by assumption)).elim)
     all_goals try(refine aV ?_;simp [aH,results59])
 .rw [cX hpre];clear hbd hed OP;cases h1:yJ p
  .rw [h1] at cP;simp only [aI] at c1 cP cS cD⊢;refine bO aD func59 ntmps59 ?_;refine aZ ?_;exact aF results59
  .rw [h1] at cP;cases h2:p.lY
   .by_cases h3:p.deferred < 0
    .simp only [aI,h2] at c1 cP cS cD⊢;refine bO aD func59 ntmps59 ?_;have W:=h3;refine we ?_;exact aF results59
    .have h4:p.iE < 0:=by
      rw [h1,h2] at hpre;by_cases h4:p.iE < 0
      .exact h4
      .exact (hpre ⟨rfl,rfl,by omega,by omega⟩).elim
     simp only [aI,h2] at c1 cP cS cD⊢;refine bO aD func59 ntmps59 ?_;have W:=aA h3 h4;refine we ?_;exact aF results59
   .simp only [aI,h2] at c1 cP cS cD⊢;refine bO aD func59 ntmps59 ?_;refine aZ ?_;exact aF results59
theorem XY [aC prog] [dK prog] [bR prog] [mZ prog] (p:aG) (a:aK) (hs:aJ p<=500000000) (hm:bT bL p.aM+aQ a<=16777216):
  Ma prog 145 [.tY (aI .own p) (aI .own (oC p a)),.view (.agg (aL a))] (.gZ []):=by
 have c1:=Lm p a hm;unfold oC;cases hfl:tQ p a
 .rw [cX (by simp)];obtain ⟨r1,r2,r3⟩:=Gq p a hm hfl;obtain ⟨hB,_⟩:=Gp p a hm;have c2:=BN p _ hB a (by simp);have JM:=wM p (dZ p a) (by omega);have MU:=AR p (dZ p a);have hz0:jJ p (dZ p a) 0=p:=rfl;have hsz:∀k,k<=(dZ p a).length->aJ (jJ p (dZ p a) k)<=520000000:=λk hk=>by
   have h1:=(JM k hk).1;have h2:=(BP (jJ p (dZ p a) k)).1;have h3:=(BP p).2;have h4:=zB aQ (dZ p a) k;simp only [bT,oR] at h1 r2 hm;omega
  have Tn:∀k,k<=(dZ p a).length->(jJ p (dZ p a) k).aM=p.aM:=λk hk=>(JM k hk).2.1
  have hmem:∀b∈dZ p a,∃(j:Nat) (m:dY),pW (kQ b) p.aM=(j:Int)/\p.aM[j]? =some m/\j < p.aM.length/\zD p b=m.body:=λb hb=>by
   have h1:=r3 b hb;rcases lI (kQ b) p.aM with ⟨hi,hf⟩|⟨j,hj,hi,hf⟩
   .unfold lF at h1;rw [hf] at h1;cases h1
   .exact ⟨j,p.aM[j],hi,aE hj,hj,by unfold zD;rw [hf]⟩
  have MP:∀b∈dZ p a,aQ b<=16777215:=λb hb=>by have:=bU aQ hb;have:=length_pos_of_mem hb;simp only [bT] at r2 hm;omega
  have wo:∀m∈p.aM,m.body.length<=16777216:=λm hx=>by have:=bU bL hx;simp only [bT,bL] at hm this;omega
  have hml:p.aM.length<=16777216:=by simp only [bT] at hm;omega
  clear r2 r3 hB JM;generalize dZ p a=L at *;generalize jJ p L=Q at *;simp only [aI,aL] at c1 c2;rw [hfl] at c1;refine rO aD func145 ntmps145 ?_;refine aZ ?_;refine aP (ι:={k:Nat // k<=L.length}) (λt o i=>⟨bE t [(25,.int .i64 i.1),(5,.undef),(11,.undef),(21,.undef)],[⟨true,true,22,2,[yR 1 (Q i.1)]⟩]++yQ (Q i.1)++[⟨true,true,2,0,[[.str a.host,.str a.path]]⟩,⟨true,false,2,1,L.map aL⟩]⟩)
   (λi=>L.length - i.1) ⟨0,by simp⟩ (aO (by simp [yR,yQ,hz0]) (by simp)) ?_
  rintro ⟨k,hk⟩ K1 hK1;have hk1:=oW (k:=k);by_cases hlt:k < L.length
  .have hg:=aE hlt;have hbm:=fN hlt;have hnext:=MU k hlt;have hq1:=hsz k hk;have hqm:=Tn k hk;obtain ⟨j,m,hi,hgm,hjl,hbd⟩:=hmem L[k] hbm;have hsb:=MP L[k] hbm;rw [<-hqm] at hi hgm hjl;have hbq:zD (Q k) L[k]=m.body:=by rw [<-hbd];unfold zD;rw [hqm]
   have hmb:m.body.length<=16777216:=wo m (by rw [<-hqm];exact mS hgm);unfold rC at hnext;rw [hbq] at hnext;have hK2:=hK1;clear MU hsz Tn hmem MP wo hbd hqm hbm c1 c2;generalize hq':Q (k+1)=q' at *;generalize hq:Q k=q at *;have hrl:q.tH.length<=520000000:=by simp only [aJ,bT] at hq1;omega
   have c3:=Re q.tH L[k] (by omega);simp only [bE,cW,cU,eA,eM,yQ,yR] at hK1⊢;cases hh:q.tH.any (iV L[k])
   .rw [hh] at hnext c3;rw [cX (by simp)] at hnext;obtain ⟨rn,hrn⟩:∃rn,rn=q.tH++[L[k]]:=⟨_,rfl⟩;have hap:q.tH.map aL++[[.str L[k].host,.str L[k].path]]=rn.map aL:=by rw [hrn];simp
    rw [<-hrn] at hnext;have hsq:aJ {q with tH:=rn}<=536870912:=by simp only [aJ,bT,hrn,eR,eN,eW,jD,bH] at hq1⊢;omega
    have c4:=yH {q with tH:=rn} L[k] (by simp only;simp only [aJ,bT] at hq1;omega);have hbh:L[k].host.length<=16777216:=by simp only [aQ] at hsb;omega
    have c5:=tO m.body L[k].host (by omega) (by omega);obtain ⟨l6,lx⟩:=CL m.body L[k].host;have c6:=EY {q with tH:=rn} (bJ m.body L[k].host).2.1 false hsq l6 lx;rw [<-hnext] at c6;simp only [hi] at c4;clear hnext hrn hsq l6 lx hq1;generalize bJ m.body L[k].host=g at *;obtain ⟨im,ln,bk⟩:=g;have hj0:¬(j:Int) < 0:=by omega
    simp only [aI,aL] at c3 c4 c5 c6;have W:=aA hk1 (aA hg (aA hap (aA hgm (aA hj0 hrl))));have V:=aA hlt (aA hjl hj0);repeat' first|refine wf ?_|(refine nx ?_;refine sg (hc:=c6) (h:=?_))|(refine sq ?_ ?_<;>intro hc<;>try exact hc.elim)|fail
    refine hK2 _ ⟨k+1,by omega⟩ ?_ (by simp only;omega);simp only [hq'];exact aE4 (q:=q') rfl (by simp [yQ,yR,hq']) (by simp [zI]) (by simp [zI]) (by simp) (by simp) (by simp [dE])
   .rw [hh] at hnext c3;rw [eI rfl] at hnext;simp only [aL] at c3;have W:=aA hk1 (aA hg hlt);refine we ?_;refine hK2 _ ⟨k+1,by omega⟩ ?_ (by simp only;omega);exact aX 14 (by simp [yQ,yR,hq',hnext]) (by simp) (by simp) (by simp [dE,yQ,yR,hq',hnext])
  .have hkl:k=L.length:=by omega
   subst hkl;simp only [bE,cW,cU,eA,eM,yQ,yR] at hK1⊢;clear MU hsz Tn hmem MP wo hK1 c1 c2;generalize Q L.length=q at *;have W:=aA hk1 hlt;refine we ?_;all_goals try(refine ⟨by first|exact .inr rfl|exact .inl rfl,?_⟩;simp [gJ,dL,dJ,rowOf,results145])
 .rw [eI rfl];rw [hfl] at c1;have hfm:=BL a;have ib:p.log.length<=500000000:=by simp only [aJ,bT] at hs;omega
  have c2:=Ld a (by omega);have c3:=EB p (Su++lZ a) (by omega);simp only [Su] at c3⊢;generalize lZ a=fa at *;simp only [aI,aL] at c1 c2 c3⊢;refine rO aD func145 ntmps145 ?_;have W:=hfm;repeat' first|refine wf ?_|(refine nx ?_;refine sg (hc:=c3) (h:=?_))|(refine sq ?_ ?_<;>intro hc<;>try exact hc.elim)|fail
  all_goals try(refine ⟨by first|exact .inr rfl|exact .inl rfl,?_⟩;simp [gJ,dL,dJ,rowOf,results145])
theorem Pz [aC prog] [dK prog] [bR prog] [mZ prog] (p:aG) (hs:aJ p<=500000000) (hn1:p.aB.length<=16777216) (hme:bT bL p.aM+bT aQ p.entries<=16777216):Ok prog 81 [.agg (aI .view p)] (.gZ [.agg (aI .own (nR p).1),.bool (nR p).2]):=by
 have c1:=iK p (by omega);have hn2:p.aM.length<=16777216:=by simp only [bT] at hme;omega
 have cP:=Pe p;have cS:=BJ p (by omega);have cD:=Gg p hn1;have hbd:∀s∈p.aB,s.body.length<=500000000:=λs hm=>by have:=bU lD hm;simp only [aJ,bT,lD] at hs this;omega
 have hed:∀a∈p.entries,bT bL p.aM+aQ a<=16777216:=λa hm=>by
  have h1:=bU aQ hm;have h2:bH aQ p.entries<=bT aQ p.entries:=by simp only [bT];omega
  omega
 have aSr:p.entries.length<=16777216:=by
  have:p.entries.length<=bT aQ p.entries:=by simp only [bT];omega
  omega
 have aL9:=jE jS p.aB 0;have OP:=Ni jS p.aB 0;unfold nR;by_cases hpre:yJ p=true/\p.lY=false/\0<=p.deferred/\0<=p.iE
 .rw [eI hpre];obtain ⟨h1,h2,h3,h4⟩:=hpre;obtain ⟨dn,Fh⟩:=mB h3;obtain ⟨en,Nb⟩:=mB h4;rw [Fh,Nb,lP,lP];rw [h1] at cP;by_cases hdl:dn < (places jS 0 p.aB).length
  .have XX:=aE hdl;obtain ⟨sn,ML,_,hsl⟩:=OP _ (fN hdl);rw [lA] at hsl;rw [ML] at XX;rw [XX];simp only [lP];have hgS:=aE hsl;rw [hgS];simp only;have aEw:=hbd _ (fN hsl);have hkd:i64.wrap ((dn:Int)+1)=(dn:Int)+1:=by rw [wrap64]<;>omega
   have hdi:(dn:Int) < ((places jS 0 p.aB).length:Int):=by omega
   unfold Ls;have c4:=BC p p.aB[sn].body false (by omega) (by omega);have hqd:=(Iy p p.aB[sn].body false).1.trans Fh;clear hbd hed OP ML aL9;generalize places jS 0 p.aB=D at *;cases hd:p.aB[sn].done
   .rw [cX (by simp)];simp only [aI,h2,Fh,Nb] at c1 cP cS cD⊢;refine bO aD func81 ntmps81 ?_;have W:=aA hdi (aA XX (aA hgS hd));have V:=aA hdl hsl;refine we ?_;exact aF results81
   .generalize p.aB.all nZ=wm at *;cases wm
    .rw [cX (by simp)];simp only [aI,h2,Fh,Nb] at c1 cP cS cD⊢;refine bO aD func81 ntmps81 ?_;have W:=aA hdi (aA XX (aA hgS hd));have V:=aA hdl hsl;refine we ?_;exact aF results81
    .rw [eI ⟨rfl,rfl⟩];by_cases XV:p.aB[sn].code=1
     .rw [eI XV];generalize lQ p p.aB[sn].body false=q at *;simp only [aI,h2,Fh,Nb,hqd] at c1 cP cS cD c4⊢;refine bO aD func81 ntmps81 ?_;have W:=aA hdi (aA XX (aA hgS (aA hd (aA XV hkd))));have V:=aA hdl hsl;refine we ?_;exact aF results81
     .rw [cX XV];simp only [aI,h2,Fh,Nb] at c1 cP cS cD⊢;refine bO aD func81 ntmps81 ?_;have W:=aA hdi (aA XX (aA hgS (aA hd (aA XV hkd))));have V:=aA hdl hsl;refine we ?_;exact aF results81
  .have XX:(places jS 0 p.aB)[dn]? =none:=pA (by omega);rw [XX];simp only;have hdl:¬(dn:Int) < ((places jS 0 p.aB).length:Int):=by omega
   clear hbd OP XX;generalize places jS 0 p.aB=D at *;by_cases hlE:en < p.entries.length
   .have X6:=aE hlE;rw [X6];simp only;have hsa:=hed _ (fN hlE);have hel:(en:Int) < (p.entries.length:Int):=by omega
    have hke:i64.wrap ((en:Int)+1)=(en:Int)+1:=by rw [wrap64]<;>omega
    have cG:=Lj p p.entries[en] hsa;have c5:=XY p p.entries[en] hs hsa;have hqe:=(Ws p p.entries[en]).trans Nb;clear hed;unfold Lt;generalize xD p p.entries[en]=gr at *;cases gr
    .rw [cX (by simp)];simp only [aI,aL,h2,Fh,Nb] at c1 cP cS cD cG⊢;refine bO aD func81 ntmps81 ?_;have W:=aA hdl (aA hel (aA X6 hlE));refine we ?_;exact aF results81
    .generalize p.aB.all nZ=wm at *;cases wm
     .rw [cX (by simp)];simp only [aI,aL,h2,Fh,Nb] at c1 cP cS cD cG⊢;refine bO aD func81 ntmps81 ?_;have W:=aA hdl (aA hel (aA X6 hlE));refine we ?_;exact aF results81
     .rw [eI ⟨rfl,rfl⟩];generalize oC p p.entries[en]=q at *;simp only [aI,aL,h2,Fh,Nb,hqe] at c1 cP cS cD cG c5⊢;refine bO aD func81 ntmps81 ?_;have W:=aA hdl (aA hel (aA hke (aA X6 hlE)));repeat' first|refine wf ?_|(refine nx ?_;refine sg (hc:=c5) (h:=?_))|(refine sq ?_ ?_<;>intro hc<;>try exact hc.elim)|fail
      exact aF results81
   .have X6:p.entries[en]? =none:=pA (by omega);rw [X6];simp only;have hel:¬(en:Int) < (p.entries.length:Int):=by omega
    clear hed;have cO:=DI p hn1;have cM:=Fa p hn2;have ib:p.log.length<=500000000:=by simp only [aJ,bT] at hs;omega
    have c5:=EB p Sy (by omega);unfold Lu;simp only [Sy] at c5⊢;generalize places rH 0 p.aB=O at *;generalize places rJ 0 p.aM=M at *;by_cases ho:O.length=0
    .obtain rfl:=vA.1 ho;by_cases hm:M.length=0
     .obtain rfl:=vA.1 hm;rw [eI ⟨rfl,rfl⟩];simp only [aI,h2,Fh,Nb] at c1 cP cS cD cO cM c5⊢;refine bO aD func81 ntmps81 ?_;have W:=aA hdl hel;repeat' first|refine wf ?_|(refine nx ?_;refine sg (hc:=c5) (h:=?_))|(refine sq ?_ ?_<;>intro hc<;>try exact hc.elim)|fail
      exact aF results81
     .rw [cX (by omega)];have hm2:¬M=[]:=λh=>hm (by rw [h];rfl)
      have hm3:(0:Int) < (M.length:Int):=by omega
      simp only [aI,h2,Fh,Nb] at c1 cP cS cD cO cM⊢;refine bO aD func81 ntmps81 ?_;have W:=aA hdl (aA hel (aA hm2 hm3));repeat' first|refine wf ?_|(refine sq ?_ ?_<;>intro hc<;>try exact hc.elim)|fail
      all_goals (try exact (hm2 (by assumption)).elim)
      all_goals try(refine aV ?_;simp [aH,results81])
    .rw [cX (by omega)];have ho2:¬O=[]:=λh=>ho (by rw [h];rfl)
     have ho3:(0:Int) < (O.length:Int):=by omega
     simp only [aI,h2,Fh,Nb] at c1 cP cS cD cO cM⊢;refine bO aD func81 ntmps81 ?_;have W:=aA hdl (aA hel (aA ho2 ho3));refine we ?_;all_goals (try exact (ho2 (by assumption)).elim)
     all_goals try(refine aV ?_;simp [aH,results81])
 .rw [cX hpre];clear hbd hed OP;cases h1:yJ p
  .rw [h1] at cP;simp only [aI] at c1 cP cS cD⊢;refine bO aD func81 ntmps81 ?_;refine aZ ?_;exact aF results81
  .rw [h1] at cP;cases h2:p.lY
   .by_cases h3:p.deferred < 0
    .simp only [aI,h2] at c1 cP cS cD⊢;refine bO aD func81 ntmps81 ?_;have W:=h3;refine we ?_;exact aF results81
    .have h4:p.iE < 0:=by
      rw [h1,h2] at hpre;by_cases h4:p.iE < 0
      .exact h4
      .exact (hpre ⟨rfl,rfl,by omega,by omega⟩).elim
     simp only [aI,h2] at c1 cP cS cD⊢;refine bO aD func81 ntmps81 ?_;have W:=aA h3 h4;refine we ?_;exact aF results81
   .simp only [aI,h2] at c1 cP cS cD⊢;refine bO aD func81 ntmps81 ?_;refine aZ ?_;exact aF results81
end Go.Proofs.YtdcpobkemdacnaaGreatDoor
