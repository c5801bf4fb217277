/- Proved here: steps towards the statement of this claim. No condition. -/
import Derived.Test.YtfbefblglejcaaaGreatDoorZQRCC
set_option linter.all false
set_option maxRecDepth 8000
set_option maxHeartbeats 8000000
namespace Go.Proofs.YtfbefblglejcaaaGreatDoor
open Go.Aw Proofs.Tryz List IntKind
def TM:bB:=[108,111,97,100]
def Mr(p:aG)(s:pJ):aG×Bool:=if s.done=true/\p.aB.all oG=true then({(if s.code=1 then lT p s.body false else p)with deferred:=p.deferred+1},true)else(p,false)
def Ms(p:aG)(a:aK):aG×Bool:=if xI p a=true/\p.aB.all oG=true then({oH p a with iA:=p.iA+1},true)else(p,false)
def Mt(p:aG):aG×Bool:=if (places rY 0 p.aB).length=0/\(places rZ 0 p.aN).length=0 then({p with log:=jY p.log TM,oW:=true},true)else(p,false)
def nX(p:aG):aG×Bool:=
 if yV p=true/\p.oW=false/\0<=p.deferred/\0<=p.iA then
  match (places jR 0 p.aB)[p.deferred.toNat]? with
  |some d=>match p.aB[d.toNat]? with
   |some s=>Mr p s
   |none=>(p,false)
  |none=>match p.entries[p.iA.toNat]? with
   |some a=>Ms p a
   |none=>Mt p
 else(p,false)
theorem NZ{α:Type}(f:α->Bool):∀(l:List α) (i:Nat) (d:Int),d∈places f i l->∃k:Nat,d=(k:Int)/\i<=k/\k<i+l.length
 |[],i,d,h=>by simp[places]at h
 |x::l,i,d,h=>by
  simp only[places]at h;have hr:d∈places f (i+1) l->∃k:Nat,d=(k:Int)/\i<=k/\k<i+(x::l).length:=λh=>by obtain⟨k,h1,h2,h3⟩:=NZ f l (i+1) d h;exact⟨k,h1,by omega,by simp only[eN];omega⟩
  split at h
  .rcases lB.1 h with h|h
   .exact ⟨i,h,eE _,by simp only[eN];omega⟩
   .exact hr h
  .exact hr h
theorem Jk(p:aG)(c:bB)(w:Bool):(lT p c w).deferred=p.deferred/\(lT p c w).iA=p.iA/\(lT p c w).aB=p.aB/\(lT p c w).aN=p.aN:=by unfold lT lN;split<;>exact⟨rfl,rfl,rfl,rfl⟩
theorem D6(q:aG)(b:aK):(rV q b).iA=q.iA:=by unfold rV lN;split<;>rfl
theorem WV(p:aG)(a:aK):(oH p a).iA=p.iA:=by
 unfold oH;split
 .rfl
 .unfold jH;have:∀(l:List aK) (q:aG),(l.foldl rV q).iA=q.iA:=by
   intro l;induction l with
   |nil=>intro q;rfl
   |cons b l ih=>intro q;rw[foldl_cons,ih,D6]
  exact this _ _
theorem D7(p:aG)(a:aK)(k:Nat):bQ bK (wC p a k)=bQ bK p.aN+1+aR a:=by
 have h1:bA bK (p.aN.take k)+bA bK (p.aN.drop k)=bA bK p.aN:=by rw[<-jA,oA]
 have h2:(p.aN.take k).length+(p.aN.drop k).length=p.aN.length:=by rw[<-eR,oA]
 have h3:bK (Cc p a)=aR a:=by unfold Cc;split<;>simp[bK]
 simp only[wC,bQ,eR,eN,jA,bA,h3];omega
theorem aN7(p:aG)(a:aK):aI (eP p a)<=aI p+aR a+1:=by
 have h:=D7 p a (wP p.aN a);unfold eP;split
 .split
  .omega
  .simp only[aI,h];omega
 .simp only[aI,h];omega
theorem ask_cases(p:aG)(a:aK):(eP p a=p/\∃m,p.aN[wP p.aN a]? =some m/\m.to=a)\/(eP p a={p with aN:=wC p a (wP p.aN a)}/\∀m,p.aN[wP p.aN a]? =some m->m.to≠a):=by
 unfold eP;split
 .rename_i m hm;split
  .rename_i e;exact .inl ⟨rfl,m,hm,e⟩
  .rename_i e;refine .inr ⟨rfl,λx hx=> ?_⟩;rw[hm]at hx;exact cQ hx▸e
 .rename_i hm;refine .inr ⟨rfl,λx hx=> ?_⟩;rw[hm]at hx;cases hx
def Oi(rv:Nat)(q:aG):List aM:=[⟨true,false,1,1,q.bD.fC.map bW⟩,⟨true,false,1,1,q.bD.gX.map bW⟩,⟨true,false,1,1,q.bD.gY.map bW⟩,⟨true,false,4,1,q.queue.map (cZ .own)⟩,⟨true,false,4,1,q.builder.nodes.map (fA .own)⟩,⟨true,false,1,1,q.builder.opens.map mG⟩,⟨true,false,8,1,q.aB.map vC⟩,⟨true,false,5,1,q.aN.map eX⟩,⟨true,false,2,1,q.entries.map aL⟩,⟨true,false,2,rv,q.tX.map aL⟩,⟨true,false,1,1,q.log.map bW⟩]
def Oj(rv:Nat)(q:aG):List AV:=[.str q.addr.host,.str q.addr.path,.bool q.bD.isSet,.obj 3 1,.obj 4 1,.obj 5 1,.str q.bD.tK,.str q.tok.rest,.obj 6 1,.bool q.ended,.obj 7 1,.obj 8 1,.obj 9 1,.obj 10 1,.obj 11 1,.int .i64 q.block,.int .i64 q.inline,.int .i64 q.deferred,.int .i64 q.iA,.obj 12 rv,.obj 13 1,.bool q.oW]
theorem Yu[aC prog][dL prog][bP prog][oK prog](p:aG)(a:aK)(hs:aI p<=500000000)(hm:bQ bK p.aN+aR a<=16777216):
  Ok prog 118 [.agg (aH .view p),.agg (aL a)] (.agg (aH .own (oH p a))):=by
 have c0:=gK p (by omega);have c1:=Mo p a hm;unfold oH;cases hfl:uE p a
 .rw [cX (by simp)];obtain⟨r1,r2,r3⟩:=GZ p a hm hfl;obtain⟨hB,_⟩:=GY p a hm;have c2:=Ck p _ hB a (by simp);have KA:=wQ p (dY p a) (by omega);have NM:=Bp p (dY p a);have hz0:jH p (dY p a) 0=p:=rfl;have hsz:∀k,k<=(dY p a).length->aI (jH p (dY p a) k)<=520000000:=λk hk=>by
   have h1:=(KA k hk).1;have h2:=(Cm (jH p (dY p a) k)).1;have h3:=(Cm p).2;have h4:=zO aR (dY p a) k;simp only[bQ,oS]at h1 r2 hm;omega
  have Un:∀k,k<=(dY p a).length->(jH p (dY p a) k).aN=p.aN:=λk hk=>(KA k hk).2.1
  have hmem:∀b∈dY p a,∃(j:Nat) (m:dX),qF (kM b) p.aN=(j:Int)/\p.aN[j]? =some m/\j<p.aN.length/\zQ p b=m.body:=λb hb=>by
   have h1:=r3 b hb;rcases lJ (kM b) p.aN with⟨hi,hf⟩|⟨j,hj,hi,hf⟩
   .unfold lD at h1;rw[hf]at h1;cases h1
   .exact ⟨j,p.aN[j],hi,aE hj,hj,by unfold zQ;rw[hf]⟩
  have NI:∀b∈dY p a,aR b<=16777215:=λb hb=>by have:=bS aR hb;have:=length_pos_of_mem hb;simp only[bQ]at r2 hm;omega
  have F6:∀m∈p.aN,m.body.length<=16777216:=λm hx=>by have:=bS bK hx;simp only[bQ,bK]at hm this;omega
  have MQ:p.aN.length<=16777216:=by simp only[bQ]at hm;omega
  clear r2 r3 hB KA;generalize dY p a=L at*;generalize jH p L=Q at*;simp only[aH,aL]at c0 c1 c2;rw[hfl]at c1;refine uK aF [3,16] func118 ntmps118 ?_;refine aY ?_;refine aO (ι:={q:Nat×Nat // q.1<=L.length}) (λt o i=>⟨bC t [(7,.int .i64 i.1.1),(16,.undef)],o.take 3++Oi i.1.2 (Q i.1.1)++[⟨true,true,22,0,[Oj i.1.2 (Q i.1.1)]⟩,⟨true,false,2,1,L.map aL⟩]⟩)
   (λi=>L.length-i.1.1) ⟨(0,1),by simp⟩ (aJ (by simp[Oj,Oi,hz0]) (by simp)) ?_
  rintro⟨⟨k,v⟩,hk⟩ K1 hK1;simp only at hk;have hk1:=oQ (k:=k);by_cases hlt:k<L.length
  .have hg:=aE hlt;have hbm:=fS hlt;have hnext:=NM k hlt;have hq1:=hsz k hk;have hqm:=Un k hk;obtain⟨j,m,hi,hgm,hjl,hbd⟩:=hmem L[k] hbm;have hsb:=NI L[k] hbm;rw[<-hqm]at hi hgm hjl;have hbq:zQ (Q k) L[k]=m.body:=by rw[<-hbd];unfold zQ;rw[hqm]
   have hmb:m.body.length<=16777216:=F6 m (by rw[<-hqm];exact mT hgm);unfold rV at hnext;rw[hbq]at hnext;have hK2:=hK1;clear NM hsz Un hmem NI F6 hbd hqm hbm c1 c2;generalize hq':Q (k+1)=q' at*;generalize hq:Q k=q at*;have hrl:q.tX.length<=520000000:=by simp only[aI,bQ]at hq1;omega
   have c3:=BK q.tX L[k] (by omega);simp only[bC,cW,cU,eL,fX,eA,eM,Oi,Oj]at hK1⊢;cases hh:q.tX.any (iO L[k])
   .rw [hh]at hnext c3;rw[cX (by simp)]at hnext;obtain⟨rn,hrn⟩:∃rn,rn=q.tX++[L[k]]:=⟨_,rfl⟩;have hap:q.tX.map aL++[[.str L[k].host,.str L[k].path]]=rn.map aL:=by rw[hrn];simp
    rw[<-hrn]at hnext;have hsq:aI {q with tX:=rn}<=536870912:=by simp only[aI,bQ,hrn,eR,eN,eV,jA,bA]at hq1⊢;omega
    have c4:=Ai {q with tX:=rn} L[k] (by simp only;simp only[aI,bQ]at hq1;omega);have hbh:L[k].host.length<=16777216:=by simp only[aR]at hsb;omega
    have c5:=xH m.body L[k].host (by omega) (by omega);obtain⟨l6,lx⟩:=Di m.body L[k].host;have hsl:bQ kZ q.aB<=1073741824:=by simp only[aI,bQ]at*;omega
    have aX5:aT q.builder<=536870912:=by simp only[aI]at hq1;omega
    have qf:q.log.length<=536870912:=by simp only[aI,bQ]at hq1;omega
    have c6:=FC {q with tX:=rn} hsl;obtain⟨hb1,hb2⟩:=Dr {q with tX:=rn};have hb1':(dG {q with tX:=rn}).length<=536870912:=by simp only[aI,bQ]at hq1 hb1;omega
    have c7:=Eb q.builder (dG {q with tX:=rn}) (bH m.body L[k].host).2.1 (by omega) l6 (λx hm=>by have:=lx x hm;omega) (by omega) (λx hm=>by have:=hb2 x hm;omega) (xN _);obtain⟨z1,z2,z3,z4⟩:=BQ 60 q.builder (dG {q with tX:=rn}) (bH m.body L[k].host).2.1 (by omega) l6 lx (xN _) (by omega) (bH m.body L[k].host).2.1.length (eE _);have hend:sU q.builder (dG {q with tX:=rn}) (bH m.body L[k].host).2.1 (bH m.body L[k].host).2.1.length=eF q.builder (dG {q with tX:=rn}) (bH m.body L[k].host).2.1:=by simp[sU]
    rw[hend]at z1 z2 z3 z4;unfold lN at hnext;simp only[hi]at c4;simp only[eS,gS]at hnext;clear hrn hsq lx hq1 hend hb1 hb2;generalize dG {q with tX:=rn}=ss at*;generalize bH m.body L[k].host=g at*;obtain⟨im,ln,bk⟩:=g;simp only at c5 c7 z1 z2 z3 z4 l6 hnext;generalize eF q.builder ss ln=g at*;obtain⟨b,wr,lg⟩:=g;simp only at c7 z1 z2 z3 z4 hnext;have hj0:¬(j:Int)<0:=by omega
    simp only[aH,aL,aU]at c3 c4 c5 c6 c7;have W:=aA hk1 (aA hg (aA hap (aA hgm (aA hj0 hrl))));have V:=aA hlt (aA hjl hj0);refine we ?_;obtain⟨P,hP⟩:∃P:Nat->aG,∀i,P i={q with tX:=rn,builder:=b,log:=nL q.log (lg.take i)}:=⟨_,λ_=>rfl⟩;have hP0:P 0={q with tX:=rn,builder:=b}:=by rw[hP];rfl
    have hPn:P lg.length=q':=by rw[hP,hnext,At]
    have hPl:∀i,i<=lg.length->(P i).log.length<=1099511627776:=λi hi=>by rw[hP];have:=Kh q.log (lg.take i);simp only[oS]at this⊢;omega
    have hPs:∀i (h:i<lg.length),P (i+1)={P i with log:=jY (P i).log lg[i]}:=λi h=>by rw[hP,hP,GI _ _ _ h]
    clear c3 c4 c5 c6 c7 hP hnext;refine aO (ι:={q:Nat×Nat // q.1<=lg.length}) (λt o i=>⟨bC t [(14,.int .i64 i.1.1),(11,.ptr 19 1 0 0),(50,.undef),(52,.undef),(53,.undef),(59,.undef),(60,.undef),(77,.undef),(71,.undef),(74,.undef),(78,.undef),(73,.undef),(81,.undef),(42,.undef),(48,.undef),(35,.undef),(16,.undef)],o.take 3++Oi i.1.2 (P i.1.1)++[⟨true,true,22,0,[Oj i.1.2 (P i.1.1)]⟩,⟨true,false,2,1,L.map aL⟩,⟨false,false,2,1,[[.str L[k].host,.str L[k].path]]⟩,⟨true,false,2,1,im.map aL⟩,⟨true,false,2,1,ln.map lI⟩,⟨false,false,0,1,[]⟩,⟨true,false,1,1,ss.map (dZ .own)⟩,⟨true,false,4,1,q.builder.nodes.map (fA .own)⟩,⟨true,false,1,1,q.builder.opens.map mG⟩,⟨true,false,1,1,lg.map bW⟩]⟩)
     (λi=>lg.length-i.1.1) ⟨(0,v+1),by simp⟩ ?_ ?_
    .simp only[hP0,Oj,Oi,bC,cW,cU,eL,fX,eA,eM];exact aGy 7 21 8 22 19 rfl rfl ⟨rfl,rfl⟩ (by simp;rfl) rfl rfl ⟨rfl,rfl⟩ (by simp;rfl) rfl (by simp) (by simp) (by simp)
    rintro⟨⟨i,rv⟩,hil⟩ K2 hK3;simp only at hil;have hk2:i64.wrap ((i:Int)+1)=((i+1:Nat):Int):=by rw[wrap64]<;>omega
    by_cases hit:i<lg.length
    .have hgi:=aE hit;have hnx:=hPs i hit;have c4:=Kk (P i) lg[i] (hPl i hil);rw[<-hnx]at c4;have hK4:=hK3;clear hP0 hPn hPl hPs hnx;generalize hp':P (i+1)=p' at*;generalize hpi:P i=pi at*;simp only[bC,cW,cU,eL,fX,eA,eM,Oi,Oj]at hK3⊢;simp only[aH]at c4;have W:=aA hk2 (aA hgi hit);refine we ?_;rw[yL];refine go_drawn (by simp;rfl) (by simp;rfl) (by decide+kernel) (by decide) (by first|rfl|(simp[ZY];done)) (by simp) (by simp) ?_;iterate 5 (
      refine go_draw rfl (by first|rfl|(simp;done)) (by simp[Region.binds];rfl) (by decide) (by simp[Region.binds];rfl) (by simp;rfl) ?_ ?_
      .first|rfl|(simp[nU];done)
      refine nx ?_;refine so ?_;refine kN ?_;refine go_next (by simp;done) (by simp;rfl) (by simp;rfl) ?_)
     refine EH (s1:= ?s1) (by decide+kernel) (by simp[uO,reach,nC,Region.binds,Fo];rfl) ?ha ?hk;case ha=>
      repeat' (first|refine st ?_|(refine nx ?_;first|refine so ?_|refine sg (hc:=c4) (h:= ?_))|refine sx ?_ ?_|refine sy ?_ ?_|fail)
      all_goals rfl
     case hk=>
      have W:=hk2;refine we ?_;refine hK4 _ ⟨(i+1,1),by simp only;omega⟩ ?_ (by simp only;omega);simp only[hp'];exact aBt (q:=p') rfl (by simp[Oi,Oj,zD,zF,hp']) (by simp[xP]) (by simp[xP]) (by simp) (by simp) (by simp[dC])
    .have hie:i=lg.length:=by omega
     subst hie;simp only[hPn,bC,cW,cU,eL,fX,eA,eM,Oi,Oj]at hK3⊢;clear hP0 hPn hPl hPs hK3;have W:=aA hk1 hit;refine we ?_;refine hK2 _ ⟨(k+1,rv),by simp only;omega⟩ ?_ (by simp only;omega);exact aV 16 (by simp[Oi,Oj,hq']) (by simp) (by simp) (by simp[dC,Oi,Oj,hq'])
   .rw [hh]at hnext c3;rw[eK rfl]at hnext;simp only[aL]at c3;have W:=aA hk1 (aA hg hlt);refine we ?_;refine hK2 _ ⟨(k+1,v),by simp only;omega⟩ ?_ (by simp only;omega);exact aV 16 (by simp[Oi,Oj,hq',hnext]) (by simp) (by simp) (by simp[dC,Oi,Oj,hq',hnext])
  .have hkl:k=L.length:=by omega
   subst hkl;simp only[bC,cW,cU,eL,fX,eA,eM,Oi,Oj]at hK1⊢;clear NM hsz Un hmem NI F6 hK1 c1 c2;generalize Q L.length=q at*;have W:=aA hk1 hlt;refine we ?_;exact aD results118
 .rw [eK rfl];rw[hfl]at c1;have hfm:=Ch a;have qf:p.log.length<=500000000:=by simp only[aI,bQ]at hs;omega
  have c2:=Md a (by omega);have c3:=Kk p (TJ++mK a) (by omega);simp only[TJ]at c3⊢;generalize mK a=fa at*;simp only[aH,aL]at c0 c1 c2 c3⊢;refine uK aF [3] func118 ntmps118 ?_;have W:=hfm;refine we ?_;rw[yL];refine go_drawn (by simp;rfl) (by simp;rfl) (by decide+kernel) (by decide) (by first|rfl|(simp[ZY];done)) (by simp) (by simp) ?_;iterate 4 (
   refine go_draw rfl (by first|rfl|(simp;done)) (by simp[Region.binds];rfl) (by decide) (by simp[Region.binds];rfl) (by simp;rfl) ?_ ?_
   .first|rfl|(simp[nU];done)
   refine nx ?_;refine so ?_;refine kN ?_;refine go_next (by simp;done) (by simp;rfl) (by simp;rfl) ?_)
  refine EH (s1:= ?s2) (by decide+kernel) (by simp[uO,reach,nC,Region.binds,Fo];rfl) ?ha2 ?hk2;case ha2=>
   repeat' (first|refine st ?_|(refine nx ?_;first|refine so ?_|refine sg (hc:=c3) (h:= ?_))|refine sx ?_ ?_|refine sy ?_ ?_|fail)
   all_goals rfl
  case hk2=>
   refine aY ?_;exact aD results118
theorem Qq[aC prog][dL prog][bP prog][oK prog](p:aG)(hs:aI p<=500000000)(hn1:p.aB.length<=16777216)(hme:bQ bK p.aN+bQ aR p.entries<=16777216):Ok prog 67 [.agg (aH .view p)] (.gT [.agg (aH .own (nX p).1),.bool (nX p).2]):=by
 have c1:=gK p (by omega);have hn2:p.aN.length<=16777216:=by simp only[bQ]at hme;omega
 have cP:=Qb p;have cS:=Ce p (by omega);have cD:=GL p hn1;have hbd:∀s∈p.aB,s.body.length<=500000000:=λs hm=>by have:=bS kZ hm;simp only[aI,bQ,kZ]at hs this;omega
 have hed:∀a∈p.entries,bQ bK p.aN+aR a<=16777216:=λa hm=>by
  have h1:=bS aR hm;have h2:bA aR p.entries<=bQ aR p.entries:=by simp only[bQ];omega
  omega
 have aU1:p.entries.length<=16777216:=by
  have:p.entries.length<=bQ aR p.entries:=by simp only[bQ];omega
  omega
 have aOg:=jB jR p.aB 0;have PR:=NZ jR p.aB 0;unfold nX;by_cases hpre:yV p=true/\p.oW=false/\0<=p.deferred/\0<=p.iA
 .rw [eK hpre];obtain⟨h1,h2,h3,h4⟩:=hpre;obtain⟨dn,FP⟩:=mN h3;obtain⟨en,NT⟩:=mN h4;rw[FP,NT,mA,mA];rw[h1]at cP;by_cases hdl:dn<(places jR 0 p.aB).length
  .have Yv:=aE hdl;obtain⟨sn,NB,_,hsl⟩:=PR _ (fS hdl);rw[hM]at hsl;rw[NB]at Yv;rw[Yv];simp only[mA];have hgS:=aE hsl;rw[hgS];simp only;have aGx:=hbd _ (fS hsl);have hkd:i64.wrap ((dn:Int)+1)=(dn:Int)+1:=by rw[wrap64]<;>omega
   have hdi:(dn:Int)<((places jR 0 p.aB).length:Int):=by omega
   unfold Mr;have c4:=BX p p.aB[sn].body false (by omega) (by omega);have hqd:=(Jk p p.aB[sn].body false).1.trans FP;clear hbd hed PR NB aOg;generalize places jR 0 p.aB=D at*;cases hd:p.aB[sn].done
   .rw [cX (by simp)];simp only[aH,h2,FP,NT]at c1 cP cS cD⊢;refine bM aF func67 ntmps67 ?_;have W:=aA hdi (aA Yv (aA hgS hd));have V:=aA hdl hsl;refine we ?_;exact aD results67
   .generalize p.aB.all oG=F5 at*;cases F5
    .rw [cX (by simp)];simp only[aH,h2,FP,NT]at c1 cP cS cD⊢;refine bM aF func67 ntmps67 ?_;have W:=aA hdi (aA Yv (aA hgS hd));have V:=aA hdl hsl;refine we ?_;exact aD results67
    .rw [eK ⟨rfl,rfl⟩];by_cases Yt:p.aB[sn].code=1
     .rw [eK Yt];generalize lT p p.aB[sn].body false=q at*;simp only[aH,h2,FP,NT,hqd]at c1 cP cS cD c4⊢;refine bM aF func67 ntmps67 ?_;have W:=aA hdi (aA Yv (aA hgS (aA hd (aA Yt hkd))));have V:=aA hdl hsl;refine we ?_;exact aD results67
     .rw [cX Yt];simp only[aH,h2,FP,NT]at c1 cP cS cD⊢;refine bM aF func67 ntmps67 ?_;have W:=aA hdi (aA Yv (aA hgS (aA hd (aA Yt hkd))));have V:=aA hdl hsl;refine we ?_;exact aD results67
  .have Yv:(places jR 0 p.aB)[dn]? =none:=pB (by omega);rw[Yv];simp only;have hdl:¬(dn:Int)<((places jR 0 p.aB).length:Int):=by omega
   clear hbd PR Yv;generalize places jR 0 p.aB=D at*;by_cases hlE:en<p.entries.length
   .have hgE:=aE hlE;rw[hgE];simp only;have hsa:=hed _ (fS hlE);have hel:(en:Int)<(p.entries.length:Int):=by omega
    have hke:i64.wrap ((en:Int)+1)=(en:Int)+1:=by rw[wrap64]<;>omega
    have cG:=Ml p p.entries[en] hsa;have c5:=Yu p p.entries[en] hs hsa;have hqe:=(WV p p.entries[en]).trans NT;clear hed;unfold Ms;generalize xI p p.entries[en]=gr at*;cases gr
    .rw [cX (by simp)];simp only[aH,aL,h2,FP,NT]at c1 cP cS cD cG⊢;refine bM aF func67 ntmps67 ?_;have W:=aA hdl (aA hel (aA hgE hlE));refine we ?_;exact aD results67
    .generalize p.aB.all oG=F5 at*;cases F5
     .rw [cX (by simp)];simp only[aH,aL,h2,FP,NT]at c1 cP cS cD cG⊢;refine bM aF func67 ntmps67 ?_;have W:=aA hdl (aA hel (aA hgE hlE));refine we ?_;exact aD results67
     .rw [eK ⟨rfl,rfl⟩];generalize oH p p.entries[en]=q at*;simp only[aH,aL,h2,FP,NT,hqe]at c1 cP cS cD cG c5⊢;refine bM aF func67 ntmps67 ?_;have W:=aA hdl (aA hel (aA hke (aA hgE hlE)));refine we ?_;exact aD results67
   .have hgE:p.entries[en]? =none:=pB (by omega);rw[hgE];simp only;have hel:¬(en:Int)<(p.entries.length:Int):=by omega
    clear hed;have cO:=Eh p hn1;have cM:=FJ p hn2;have qf:p.log.length<=500000000:=by simp only[aI,bQ]at hs;omega
    have c5:=Kk p TM (by omega);unfold Mt;simp only[TM]at c5⊢;generalize places rY 0 p.aB=O at*;generalize places rZ 0 p.aN=M at*;by_cases ho:O.length=0
    .obtain rfl:=xF.1 ho;by_cases hm:M.length=0
     .obtain rfl:=xF.1 hm;rw[eK ⟨rfl,rfl⟩];simp only[aH,h2,FP,NT]at c1 cP cS cD cO cM c5⊢;refine bM aF func67 ntmps67 ?_;have W:=aA hdl hel;repeat' first|refine wf ?_|(refine nx ?_;refine sg (hc:=c5) (h:=?_))|(refine sq ?_ ?_<;>intro hc<;>try exact hc.elim)|fail
      exact aD results67
     .rw [cX (by omega)];have hm2:¬M=[]:=λh=>hm (by rw[h];rfl)
      have hm3:(0:Int)<(M.length:Int):=by omega
      simp only[aH,h2,FP,NT]at c1 cP cS cD cO cM⊢;refine bM aF func67 ntmps67 ?_;have W:=aA hdl (aA hel (aA hm2 hm3));repeat' first|refine wf ?_|(refine sq ?_ ?_<;>intro hc<;>try exact hc.elim)|fail
      all_goals (try exact(hm2 (by assumption)).elim)
      all_goals (try exact aD results67)
    .rw [cX (by omega)];have ho2:¬O=[]:=λh=>ho (by rw[h];rfl)
     have ho3:(0:Int)<(O.length:Int):=by omega
     simp only[aH,h2,FP,NT]at c1 cP cS cD cO cM⊢;refine bM aF func67 ntmps67 ?_;have W:=aA hdl (aA hel (aA ho2 ho3));repeat' first|refine wf ?_|(refine sq ?_ ?_<;>intro hc<;>try exact hc.elim)|fail
     all_goals (try exact(ho2 (by assumption)).elim)
     all_goals (try exact aD results67)
 .rw [cX hpre];clear hbd hed PR;cases h1:yV p
  .rw [h1]at cP;simp only[aH]at c1 cP cS cD⊢;refine bM aF func67 ntmps67 ?_;refine aY ?_;exact aD results67
  .rw [h1]at cP;cases h2:p.oW
   .by_cases h3:p.deferred<0
    .simp only[aH,h2]at c1 cP cS cD⊢;refine bM aF func67 ntmps67 ?_;have W:=h3;refine we ?_;exact aD results67
    .have h4:p.iA<0:=by
      rw[h1,h2]at hpre;by_cases h4:p.iA<0
      .exact h4
      .exact (hpre ⟨rfl,rfl,by omega,by omega⟩).elim
     simp only[aH,h2]at c1 cP cS cD⊢;refine bM aF func67 ntmps67 ?_;have W:=aA h3 h4;refine we ?_;exact aD results67
   .simp only[aH,h2]at c1 cP cS cD⊢;refine bM aF func67 ntmps67 ?_;refine aY ?_;exact aD results67
theorem Yw[aC prog][dL prog][bP prog][oK prog](p:aG)(a:aK)(hs:aI p<=500000000)(hm:bQ bK p.aN+aR a<=16777216):
  MP prog 153 [.uI (aH .own p) (aH .own (oH p a)),.view (.agg (aL a))] (.gT []):=by
 have c1:=Mm p a hm;unfold oH;cases hfl:uE p a
 .rw [cX (by simp)];obtain⟨r1,r2,r3⟩:=GZ p a hm hfl;obtain⟨hB,_⟩:=GY p a hm;have c2:=Cj p _ hB a (by simp);have KA:=wQ p (dY p a) (by omega);have NM:=Bp p (dY p a);have hz0:jH p (dY p a) 0=p:=rfl;have hsz:∀k,k<=(dY p a).length->aI (jH p (dY p a) k)<=520000000:=λk hk=>by
   have h1:=(KA k hk).1;have h2:=(Cm (jH p (dY p a) k)).1;have h3:=(Cm p).2;have h4:=zO aR (dY p a) k;simp only[bQ,oS]at h1 r2 hm;omega
  have Un:∀k,k<=(dY p a).length->(jH p (dY p a) k).aN=p.aN:=λk hk=>(KA k hk).2.1
  have hmem:∀b∈dY p a,∃(j:Nat) (m:dX),qF (kM b) p.aN=(j:Int)/\p.aN[j]? =some m/\j<p.aN.length/\zQ p b=m.body:=λb hb=>by
   have h1:=r3 b hb;rcases lJ (kM b) p.aN with⟨hi,hf⟩|⟨j,hj,hi,hf⟩
   .unfold lD at h1;rw[hf]at h1;cases h1
   .exact ⟨j,p.aN[j],hi,aE hj,hj,by unfold zQ;rw[hf]⟩
  have NI:∀b∈dY p a,aR b<=16777215:=λb hb=>by have:=bS aR hb;have:=length_pos_of_mem hb;simp only[bQ]at r2 hm;omega
  have F6:∀m∈p.aN,m.body.length<=16777216:=λm hx=>by have:=bS bK hx;simp only[bQ,bK]at hm this;omega
  have MQ:p.aN.length<=16777216:=by simp only[bQ]at hm;omega
  clear r2 r3 hB KA;generalize dY p a=L at*;generalize jH p L=Q at*;simp only[aH,aL]at c1 c2;rw[hfl]at c1;refine sG aF func153 ntmps153 ?_;refine aY ?_;refine aO (ι:={k:Nat // k<=L.length}) (λt o i=>⟨bC t [(25,.int .i64 i.1),(5,.undef),(11,.undef),(21,.undef)],[⟨true,true,22,2,[zF 1 (Q i.1)]⟩]++zD (Q i.1)++[⟨true,true,2,0,[[.str a.host,.str a.path]]⟩,⟨true,false,2,1,L.map aL⟩]⟩)
   (λi=>L.length-i.1) ⟨0,by simp⟩ (aJ (by simp[zF,zD,hz0]) (by simp)) ?_
  rintro⟨k,hk⟩ K1 hK1;have hk1:=oQ (k:=k);by_cases hlt:k<L.length
  .have hg:=aE hlt;have hbm:=fS hlt;have hnext:=NM k hlt;have hq1:=hsz k hk;have hqm:=Un k hk;obtain⟨j,m,hi,hgm,hjl,hbd⟩:=hmem L[k] hbm;have hsb:=NI L[k] hbm;rw[<-hqm]at hi hgm hjl;have hbq:zQ (Q k) L[k]=m.body:=by rw[<-hbd];unfold zQ;rw[hqm]
   have hmb:m.body.length<=16777216:=F6 m (by rw[<-hqm];exact mT hgm);unfold rV at hnext;rw[hbq]at hnext;have hK2:=hK1;clear NM hsz Un hmem NI F6 hbd hqm hbm c1 c2;generalize hq':Q (k+1)=q' at*;generalize hq:Q k=q at*;have hrl:q.tX.length<=520000000:=by simp only[aI,bQ]at hq1;omega
   have c3:=Sl q.tX L[k] (by omega);simp only[bC,cW,cU,eA,eM,zD,zF]at hK1⊢;cases hh:q.tX.any (iO L[k])
   .rw [hh]at hnext c3;rw[cX (by simp)]at hnext;obtain⟨rn,hrn⟩:∃rn,rn=q.tX++[L[k]]:=⟨_,rfl⟩;have hap:q.tX.map aL++[[.str L[k].host,.str L[k].path]]=rn.map aL:=by rw[hrn];simp
    rw[<-hrn]at hnext;have hsq:aI {q with tX:=rn}<=536870912:=by simp only[aI,bQ,hrn,eR,eN,eV,jA,bA]at hq1⊢;omega
    have c4:=yT {q with tX:=rn} L[k] (by simp only;simp only[aI,bQ]at hq1;omega);have hbh:L[k].host.length<=16777216:=by simp only[aR]at hsb;omega
    have c5:=uD m.body L[k].host (by omega) (by omega);obtain⟨l6,lx⟩:=Di m.body L[k].host;have c6:=FH {q with tX:=rn} (bH m.body L[k].host).2.1 false hsq l6 lx;rw[<-hnext]at c6;simp only[hi]at c4;clear hnext hrn hsq l6 lx hq1;generalize bH m.body L[k].host=g at*;obtain⟨im,ln,bk⟩:=g;have hj0:¬(j:Int)<0:=by omega
    simp only[aH,aL]at c3 c4 c5 c6;have W:=aA hk1 (aA hg (aA hap (aA hgm (aA hj0 hrl))));have V:=aA hlt (aA hjl hj0);repeat' first|refine wf ?_|(refine nx ?_;refine sg (hc:=c6) (h:=?_))|(refine sq ?_ ?_<;>intro hc<;>try exact hc.elim)|fail
    refine hK2 _ ⟨k+1,by omega⟩ ?_ (by simp only;omega);simp only[hq'];exact aG5 (q:=q') rfl (by simp[zD,zF,hq']) (by simp[zU]) (by simp[zU]) (by simp) (by simp) (by simp[dC])
   .rw [hh]at hnext c3;rw[eK rfl]at hnext;simp only[aL]at c3;have W:=aA hk1 (aA hg hlt);refine we ?_;refine hK2 _ ⟨k+1,by omega⟩ ?_ (by simp only;omega);exact aV 14 (by simp[zD,zF,hq',hnext]) (by simp) (by simp) (by simp[dC,zD,zF,hq',hnext])
  .have hkl:k=L.length:=by omega
   subst hkl;simp only[bC,cW,cU,eA,eM,zD,zF]at hK1⊢;clear NM hsz Un hmem NI F6 hK1 c1 c2;generalize Q L.length=q at*;have W:=aA hk1 hlt;refine we ?_;all_goals (try exact kH (by simp[gF,dI,dH,rowOf,results153];done))
 .rw [eK rfl];rw[hfl]at c1;have hfm:=Ch a;have qf:p.log.length<=500000000:=by simp only[aI,bQ]at hs;omega
  have c2:=Me a (by omega);have c3:=EX p (TJ++mK a) (by omega);simp only[TJ]at c3⊢;generalize mK a=fa at*;simp only[aH,aL]at c1 c2 c3⊢;refine sG aF func153 ntmps153 ?_;have W:=hfm;repeat' first|refine wf ?_|(refine nx ?_;refine sg (hc:=c3) (h:=?_))|(refine sq ?_ ?_<;>intro hc<;>try exact hc.elim)|fail
  all_goals (try exact kH (by simp[gF,dI,dH,rowOf,results153];done))
end Go.Proofs.YtfbefblglejcaaaGreatDoor
