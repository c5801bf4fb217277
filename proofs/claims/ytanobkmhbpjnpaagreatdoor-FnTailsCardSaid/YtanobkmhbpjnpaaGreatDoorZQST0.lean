/- Steps. No condition. -/
import Derived.Test.YtanobkmhbpjnpaaGreatDoorZQRCA
import Derived.Test.YtanobkmhbpjnpaaGreatDoorZQSL
import Derived.Test.YtanobkmhbpjnpaaGreatDoorZQZ8
set_option linter.all false
set_option maxRecDepth 8000
set_option maxHeartbeats 8000000
namespace Go.Proofs.YtanobkmhbpjnpaaGreatDoor
open Go.Aw Proofs.Tryz List IntKind
def qW(p:aF):Bool:=p.uM&&decide (p.bT.length=0)&&decide (p.block=0)&&decide (p.dZ=0)
def QS[aG prog](p:aF):Ok prog 68 [.agg (aH .view p)] (.bool (qW p)):=by
 refine dN aK func68 ntmps68 ?_;have W:=trivial;repeat' first|refine wf ?_|(refine sq ?_ ?_<;>intro hc<;>try exact hc.elim)|fail
 all_goals try(refine bA ?_;simp[bB,results68])
 all_goals (simp_all[qW]<;>rfl)
def GK[aG prog](p:aF):Ok prog 9 [.agg (aH .view p)] (.bool (qW p)):=by
 refine dN aK func9 ntmps9 ?_;have W:=trivial;repeat' first|refine wf ?_|(refine sq ?_ ?_<;>intro hc<;>try exact hc.elim)|fail
 all_goals try(refine bA ?_;simp[bB,results9])
 all_goals (simp_all[qW]<;>rfl)
def AY(p:aF)(b:aR):bE:=match p.aL.find? (mR b)with
 |some m=>m.body
 |none=>[]
def kU(q:aF)(b:aR):aF:=if q.uN.any (kR b)=true then q else jN {q with uN:=q.uN++[b]} (bQ (AY q b) b.bN).2.1 false
def iR(p:aF)(L:List aR)(k:Nat):aF:=(L.take k).foldl kU p
def Ch(p:aF)(L:List aR)(k:Nat)(h:k<L.length):iR p L (k+1)=kU (iR p L k) L[k]:=by unfold iR;rw[fN h,DQ];rfl
def Um:bE:=[102,97,105,108,32]
def nU(p:aF)(a:aR):aF:=if vS p a=true then {p with log:=mO p.log (Um++oG a)}else iR p (fP p a) (fP p a).length
def Ef(body base:bE):(bQ body base).2.1.length<=6/\∀x∈(bQ body base).2.1,x.text.length<=60:=by
 unfold bQ;split
 .simp
 .rename_i l r _;obtain⟨b1,b2⟩:=Bi (Lib.join r [59]);split
  .exact ⟨b1,b2⟩
  .simp
def Lb(q:aF):Nat:=aM q+91*(40-q.log.length)+62*(40-q.aC.aJ.length)
def Un(l ss:List bE)(h:∀s∈ss,s.length<=90):dS iM (pO l ss)+91*(40-(pO l ss).length)<=dS iM l+91*(40-l.length):=by
 induction ss generalizing l with
 |nil=>exact eJ _
 |cons s ss ih=>
  have e:pO l (s::ss)=pO (mO l s) ss:=rfl;rw[e];refine iS (ih (mO l s) (λx hx=>h x (by simp[hx]))) ?_;have hs:=h s (by simp);unfold mO;split
  .simp only[dS,eR,eL,fL,lL,bU,iM];omega
  .exact eJ _
def qj(b:bC)(ss:List iX)(x:jV)(hx:x.text.length<=60):aV (dE b ss x).1+62*(40-(dE b ss x).1.aJ.length)<=aV b+62*(40-b.aJ.length):=by
 unfold dE;split
 .exact eJ _
 .split
  .split
   .simp only[aV,dS,eR,lL,bU,qP,eL,fL];omega
   .exact eJ _
  .split
   .exact eJ _
   .split
    .exact eJ _
    .split<;>exact eJ _
def Wj(b:bC)(ss:List iX)(l:List jV)(hx:∀x∈l,x.text.length<=60)(yO:∀n,0<=bS ss n/\bS ss n<=999)(hb:aV b+62*40<=68719476736):
  aV (fQ b ss l).1+62*(40-(fQ b ss l).1.aJ.length)<=aV b+62*(40-b.aJ.length)/\∀s∈(fQ b ss l).2.2,s.length<=90:=by
 have key:∀(l:List jV) (st0:bC×bE×List bE),(∀x∈l,x.text.length<=60)->aV st0.1+62*(40-st0.1.aJ.length)<=aV b+62*(40-b.aJ.length)->(∀s∈st0.2.2,s.length<=90)->
   aV (l.foldl (oW ss) st0).1+62*(40-(l.foldl (oW ss) st0).1.aJ.length)<=aV b+62*(40-b.aJ.length)/\∀s∈(l.foldl (oW ss) st0).2.2,s.length<=90:=by
  intro l;induction l with
  |nil=>intro st0 _ h1 h2;exact⟨h1,h2⟩
  |cons x l ih=>
   intro st0 hx h1 h2;have hxl:=hx x (by simp);have hn:st0.1.aJ.length<=274877906944:=by simp only[aV,dS]at h1 hb;omega
   obtain⟨z1,z2,z3⟩:=TW st0.1 ss x (by omega) yO hn;refine ih (oW ss st0 x) (λy hy=>hx y (by simp[hy])) ?_ ?_
   .exact iS (qj st0.1 ss x hxl) h1
   .intro s hs;simp only[oW]at hs;split at hs
    .exact h2 s hs
    .rcases fR.1 hs with hs|hs
     .exact h2 s hs
     .simp only[mS]at hs;subst hs;omega
 exact key l (b,[],[]) hx (eJ _) (by simp)
def Ni(q:aF)(l:List jV)(hs:aM q<=536870912)(hx:∀x∈l,x.text.length<=60):Lb (jN q l false)<=Lb q:=by
 have hsb:aV q.aC<=536870912:=by simp only[aM]at hs;omega
 obtain⟨z1,z2⟩:=Wj q.aC (eX q) l hx (zH q) (by omega);have z3:=Un q.log (fQ q.aC (eX q) l).2.2 z2;unfold jN;generalize fQ q.aC (eX q) l=g at*;obtain⟨b,w,lg⟩:=g;simp only[cY,eW]at*;generalize pO q.log lg=lg2 at*;simp only[Lb,aM]at*;omega
def ql(q:aF)(b:aR):(kU q b).aL=q.aL/\(kU q b).aD=q.aD:=by unfold kU jN;split<;>exact⟨rfl,rfl⟩
def Q6(q:aF)(b:aR)(hs:aM q+1+aW b<=536870912):Lb (kU q b)<=Lb q+1+aW b:=by
 unfold kU;split
 .omega
 .have h1:aM {q with uN:=q.uN++[b]}=aM q+1+aW b:=by simp only[aM,dS,eR,eL,fL,lL,bU];omega
  have h2:=Ni {q with uN:=q.uN++[b]} (bQ (AY q b) b.bN).2.1 (by omega) (Ef _ _).2;refine iS h2 ?_;simp only[Lb]at*;omega
def Di(q:aF):aM q<=Lb q/\Lb q<=aM q+6120:=by unfold Lb;omega
def yK(p:aF)(L:List aR)(hL:aM p+6120+dS aW L<=536870912):∀k,k<=L.length->Lb (iR p L k)<=Lb p+dS aW (L.take k)/\(iR p L k).aL=p.aL/\(iR p L k).aD=p.aD
 |0,_=>⟨by simp[iR,dS,bU],rfl,rfl⟩
 |k+1,h=>by
  obtain⟨h1,h2,h3⟩:=yK p L hL k (by omega);have hp:=(Di p).2;have hq:=(Di (iR p L k)).1;have e1:dS aW (L.take (k+1))=dS aW (L.take k)+1+aW L[k]:=by rw[fN (show k<L.length by omega)];simp only[dS,eR,eL,fL,lL,bU];omega
  have e2:dS aW (L.take (k+1))<=dS aW L:=by have:=AU aW L (k+1);simp only[dS,pL];omega
  rw[Ch p L k (by omega)];have h4:=Q6 (iR p L k) L[k] (by omega);obtain⟨h5,h6⟩:=ql (iR p L k) L[k];exact⟨by omega,h5.trans h2,h6.trans h3⟩
def Uo{p:aF}{x:aR}(h:nP p x=true):x∈p.aL.map (·.to):=by
 unfold nP at h;split at h
 .rename_i m hm;have h1:=pN hm;have h2:=FA hm;simp only[mR,fY]at h2;exact zE.2 ⟨m,h1,h2⟩
 .cases h
def aRc(l:List fO):dS aW (l.map (·.to))<=dS cB l:=by
 induction l with
 |nil=>exact eJ _
 |cons m l ih=>simp only[dS,oE,eL,bU,cB]at*;omega
def Iw(p:aF)(a:aR)(h:dS cB p.aL+aW a<=16777216)(hf:vS p a=false):(fP p a).length<=16777216/\dS aW (fP p a)<=dS cB p.aL/\∀x∈fP p a,nP p x=true:=by
 have hall:∀x∈fP p a,nP p x=true:=by
  unfold vS at hf;have:(fP p a).all (nP p)=true:=by simpa using hf
  exact fW.1 this
 obtain⟨hb,h1,h2⟩:=Iu p a h;have hs:=(Gc hb.im (tX p []+1) a ([],[]) (by simp) ⟨by simp,by simp,by simp,by simp⟩).1;obtain⟨h3,h4⟩:=Fb aW (fP p a) (p.aL.map (·.to)) hs.ond (λx hx=>Uo (hall x hx));have h5:=aRc p.aL;rw[tE]at h4;refine⟨?_,?_,hall⟩
 .simp only[dS]at h;omega
 .simp only[dS,tE]at h5⊢;omega
def Uq:bE:=[108,111,97,100]
def Ci(p:aF)(s:qF):aF×Bool:=if s.done=true/\p.aD.all qL=true then({(if s.code=1 then gI p s.body false else p)with eH:=p.eH+1},true)else(p,false)
def Cj(p:aF)(a:aR):aF×Bool:=if yY p a=true/\p.aD.all qL=true then({nU p a with fA:=p.fA+1},true)else(p,false)
def Ck(p:aF):aF×Bool:=if (dO sZ 0 p.aD).length=0/\(dO tC 0 p.aL).length=0 then({p with log:=mO p.log Uq,dX:=true},true)else(p,false)
def iJ(p:aF):aF×Bool:=
 if qW p=true/\p.dX=false/\0<=p.eH/\0<=p.fA then
  match (dO jY 0 p.aD)[p.eH.toNat]? with
  |some d=>match p.aD[d.toNat]? with
   |some s=>Ci p s
   |none=>(p,false)
  |none=>match p.bJ[p.fA.toNat]? with
   |some a=>Cj p a
   |none=>Ck p
 else(p,false)
def OQ{α:Type}(f:α->Bool):∀(l:List α) (i:Nat) (d:Int),d∈dO f i l->∃k:Nat,d=(k:Int)/\i<=k/\k<i+l.length
 |[],i,d,h=>by simp[dO]at h
 |x::l,i,d,h=>by
  simp only[dO]at h;have hr:d∈dO f (i+1) l->∃k:Nat,d=(k:Int)/\i<=k/\k<i+(x::l).length:=λh=>by obtain⟨k,h1,h2,h3⟩:=OQ f l (i+1) d h;exact⟨k,h1,by omega,by simp only[eL];omega⟩
  split at h
  .rcases mC.1 h with h|h
   .exact ⟨i,h,eJ _,by simp only[eL];omega⟩
   .exact hr h
  .exact hr h
def JY(p:aF)(c:bE)(w:Bool):(gI p c w).eH=p.eH/\(gI p c w).fA=p.fA/\(gI p c w).aD=p.aD/\(gI p c w).aL=p.aL:=by unfold gI jN;split<;>exact⟨rfl,rfl,rfl,rfl⟩
def Q7(q:aF)(b:aR):(kU q b).fA=q.fA:=by unfold kU jN;split<;>rfl
def XK(p:aF)(a:aR):(nU p a).fA=p.fA:=by
 unfold nU;split
 .rfl
 .unfold iR;have:∀(l:List aR) (q:aF),(l.foldl kU q).fA=q.fA:=by
   intro l;induction l with
   |nil=>intro q;rfl
   |cons b l ih=>intro q;rw[foldl_cons,ih,Q7]
  exact this _ _
def ask_cases(p:aF)(a:aR):(fF p a=p/\∃m,p.aL[yJ p.aL a]? =some m/\m.to=a)\/(fF p a={p with aL:=xQ p a (yJ p.aL a)}/\∀m,p.aL[yJ p.aL a]? =some m->m.to≠a):=by
 unfold fF;split
 .rename_i m hm;split
  .rename_i e;exact .inl ⟨rfl,m,hm,e⟩
  .rename_i e;refine .inr ⟨rfl,λx hx=> ?_⟩;rw[hm]at hx;exact cX hx▸e
 .rename_i hm;refine .inr ⟨rfl,λx hx=> ?_⟩;rw[hm]at hx;cases hx
def OZ(rv:Nat)(q:aF):List aI:=[⟨true,false,1,1,q.bO.iN.map eD⟩,⟨true,false,1,1,q.bO.kH.map eD⟩,⟨true,false,1,1,q.bO.kJ.map eD⟩,⟨true,false,4,1,q.bT.map (dK .own)⟩,⟨true,false,4,1,q.aC.aJ.map (gU .own)⟩,⟨true,false,1,1,q.aC.bD.map nM⟩,⟨true,false,8,1,q.aD.map uL⟩,⟨true,false,5,1,q.aL.map gH⟩,⟨true,false,2,1,q.bJ.map aS⟩,⟨true,false,2,rv,q.uN.map aS⟩,⟨true,false,1,1,q.log.map eD⟩]
def Pb(rv:Nat)(q:aF):List AV:=[.str q.gZ.bN,.str q.gZ.iD,.bool q.bO.zD,.obj 3 1,.obj 4 1,.obj 5 1,.str q.bO.uC,.str q.tok.rest,.obj 6 1,.bool q.uM,.obj 7 1,.obj 8 1,.obj 9 1,.obj 10 1,.obj 11 1,.int .i64 q.block,.int .i64 q.dZ,.int .i64 q.eH,.int .i64 q.fA,.obj 12 rv,.obj 13 1,.bool q.dX]
def Zk[aG prog][fI prog][dG prog][qR prog](p:aF)(a:aR)(hs:aM p<=500000000)(hm:dS cB p.aL+aW a<=16777216):
  Ok prog 71 [.agg (aH .view p),.agg (aS a)] (.agg (aH .own (nU p a))):=by
 have c0:=jH p (by omega);have c1:=Nh p a hm;unfold nU;cases hfl:vS p a
 .rw [eC (by simp)];obtain⟨r1,r2,r3⟩:=Iw p a hm hfl;obtain⟨hB,_⟩:=Iu p a hm;have c2:=Dh p _ hB a (by simp);have Lt:=yK p (fP p a) (by omega);have OD:=Ch p (fP p a);have hz0:iR p (fP p a) 0=p:=rfl;have hsz:∀k,k<=(fP p a).length->aM (iR p (fP p a) k)<=520000000:=λk hk=>by
   have h1:=(Lt k hk).1;have h2:=(Di (iR p (fP p a) k)).1;have h3:=(Di p).2;have h4:=AU aW (fP p a) k;simp only[dS,pL]at h1 r2 hm;omega
  have UN:∀k,k<=(fP p a).length->(iR p (fP p a) k).aL=p.aL:=λk hk=>(Lt k hk).2.1
  have hmem:∀b∈fP p a,∃(j:Nat) (m:fO),wR (mR b) p.aL=(j:Int)/\p.aL[j]? =some m/\j<p.aL.length/\AY p b=m.body:=λb hb=>by
   have h1:=r3 b hb;rcases oL (mR b) p.aL with⟨hi,hf⟩|⟨j,hj,hi,hf⟩
   .unfold nP at h1;rw[hf]at h1;cases h1
   .exact ⟨j,p.aL[j],hi,aE hj,hj,by unfold AY;rw[hf]⟩
  have Oj:∀b∈fP p a,aW b<=16777215:=λb hb=>by have:=dJ aW hb;have:=length_pos_of_mem hb;simp only[dS]at r2 hm;omega
  have V9:∀m∈p.aL,m.body.length<=16777216:=λm hx=>by have:=dJ cB hx;simp only[dS,cB]at hm this;omega
  have hml:p.aL.length<=16777216:=by simp only[dS]at hm;omega
  clear r2 r3 hB Lt;generalize fP p a=L at*;generalize iR p L=Q at*;simp only[aH,aS]at c0 c1 c2;rw[hfl]at c1;refine xA aK [3,16] func71 ntmps71 ?_;refine bK ?_;refine aT (ι:={q:Nat×Nat // q.1<=L.length}) (λt o i=>⟨bP t [(7,.int .i64 i.1.1),(16,.aB)],o.take 3++OZ i.1.2 (Q i.1.1)++[⟨true,true,22,0,[Pb i.1.2 (Q i.1.1)]⟩,⟨true,false,2,1,L.map aS⟩]⟩)
   (λi=>L.length-i.1.1) ⟨(0,1),by simp⟩ (aP (by simp[Pb,OZ,hz0]) (by simp)) ?_
  rintro⟨⟨k,v⟩,hk⟩ K1 hK1;simp only at hk;have hk1:=tQ (k:=k);by_cases hlt:k<L.length
  .have hg:=aE hlt;have hbm:=gR hlt;have hnext:=OD k hlt;have hq1:=hsz k hk;have hqm:=UN k hk;obtain⟨j,m,hi,hgm,hjl,hbd⟩:=hmem L[k] hbm;have hsb:=Oj L[k] hbm;rw[<-hqm]at hi hgm hjl;have hbq:AY (Q k) L[k]=m.body:=by rw[<-hbd];unfold AY;rw[hqm]
   have hmb:m.body.length<=16777216:=V9 m (by rw[<-hqm];exact nB hgm);unfold kU at hnext;rw[hbq]at hnext;have hK2:=hK1;clear OD hsz UN hmem Oj V9 hbd hqm hbm c1 c2;generalize hq':Q (k+1)=q' at*;generalize hq:Q k=q at*;have hrl:q.uN.length<=520000000:=by simp only[aM,dS]at hq1;omega
   have c3:=CW q.uN L[k] (by omega);simp only[bP,cH,cQ,eV,gS,cW,eA,OZ,Pb]at hK1⊢;cases hh:q.uN.any (kR L[k])
   .rw [hh]at hnext c3;rw[eC (by simp)]at hnext;obtain⟨rn,hrn⟩:∃rn,rn=q.uN++[L[k]]:=⟨_,rfl⟩;have hap:q.uN.map aS++[[.str L[k].bN,.str L[k].iD]]=rn.map aS:=by rw[hrn];simp
    rw[<-hrn]at hnext;have hsq:aM {q with uN:=rn}<=536870912:=by simp only[aM,dS,hrn,eR,eL,fL,lL,bU]at hq1⊢;omega
    have c4:=BA {q with uN:=rn} L[k] (by simp only;simp only[aM,dS]at hq1;omega);have hbh:L[k].bN.length<=16777216:=by simp only[aW]at hsb;omega
    have c5:=yX m.body L[k].bN (by omega) (by omega);obtain⟨l6,lx⟩:=Ef m.body L[k].bN;have hsl:dS nO q.aD<=1073741824:=by simp only[aM,dS]at*;omega
    have bCx:aV q.aC<=536870912:=by simp only[aM]at hq1;omega
    have zh:q.log.length<=536870912:=by simp only[aM,dS]at hq1;omega
    have c6:=Gw {q with uN:=rn} hsl;obtain⟨hb1,hb2⟩:=Ey {q with uN:=rn};have hb1':(eX {q with uN:=rn}).length<=536870912:=by simp only[aM,dS]at hq1 hb1;omega
    have c7:=EU q.aC (eX {q with uN:=rn}) (bQ m.body L[k].bN).2.1 (by omega) l6 (λx hm=>by have:=lx x hm;omega) (by omega) (λx hm=>by have:=hb2 x hm;omega) (zH _);obtain⟨z1,z2,z3,z4⟩:=CP 60 q.aC (eX {q with uN:=rn}) (bQ m.body L[k].bN).2.1 (by omega) l6 lx (zH _) (by omega) (bQ m.body L[k].bN).2.1.length (eJ _);have hend:uU q.aC (eX {q with uN:=rn}) (bQ m.body L[k].bN).2.1 (bQ m.body L[k].bN).2.1.length=fQ q.aC (eX {q with uN:=rn}) (bQ m.body L[k].bN).2.1:=by simp[uU]
    rw[hend]at z1 z2 z3 z4;unfold jN at hnext;simp only[hi]at c4;simp only[cY,eW]at hnext;clear hrn hsq lx hq1 hend hb1 hb2;generalize eX {q with uN:=rn}=ss at*;generalize bQ m.body L[k].bN=g at*;obtain⟨im,ln,bk⟩:=g;simp only at c5 c7 z1 z2 z3 z4 l6 hnext;generalize fQ q.aC ss ln=g at*;obtain⟨b,wr,lg⟩:=g;simp only at c7 z1 z2 z3 z4 hnext;have hj0:¬(j:Int)<0:=by omega
    simp only[aH,aS,aZ]at c3 c4 c5 c6 c7;have W:=aA hk1 (aA hg (aA hap (aA hgm (aA hj0 hrl))));have V:=aA hlt (aA hjl hj0);refine we ?_;obtain⟨P,hP⟩:∃P:Nat->aF,∀i,P i={q with uN:=rn,aC:=b,log:=pO q.log (lg.take i)}:=⟨_,λ_=>rfl⟩;have hP0:P 0={q with uN:=rn,aC:=b}:=by rw[hP];rfl
    have hPn:P lg.length=q':=by rw[hP,hnext,DM]
    have hPl:∀i,i<=lg.length->(P i).log.length<=1099511627776:=λi hi=>by rw[hP];have:=KV q.log (lg.take i);simp only[pL]at this⊢;omega
    have hPs:∀i (h:i<lg.length),P (i+1)={P i with log:=mO (P i).log lg[i]}:=λi h=>by rw[hP,hP,Ii _ _ _ h]
    clear c3 c4 c5 c6 c7 hP hnext;refine aT (ι:={q:Nat×Nat // q.1<=lg.length}) (λt o i=>⟨bP t [(14,.int .i64 i.1.1),(11,.ptr 19 1 0 0),(50,.aB),(52,.aB),(53,.aB),(59,.aB),(60,.aB),(77,.aB),(71,.aB),(74,.aB),(78,.aB),(73,.aB),(81,.aB),(42,.aB),(48,.aB),(35,.aB),(16,.aB)],o.take 3++OZ i.1.2 (P i.1.1)++[⟨true,true,22,0,[Pb i.1.2 (P i.1.1)]⟩,⟨true,false,2,1,L.map aS⟩,⟨false,false,2,1,[[.str L[k].bN,.str L[k].iD]]⟩,⟨true,false,2,1,im.map aS⟩,⟨true,false,2,1,ln.map nR⟩,⟨false,false,0,1,[]⟩,⟨true,false,1,1,ss.map (gK .own)⟩,⟨true,false,4,1,q.aC.aJ.map (gU .own)⟩,⟨true,false,1,1,q.aC.bD.map nM⟩,⟨true,false,1,1,lg.map eD⟩]⟩)
     (λi=>lg.length-i.1.1) ⟨(0,v+1),by simp⟩ ?_ ?_
    .simp only[hP0,Pb,OZ,bP,cH,cQ,eV,gS,cW,eA];exact aIx 7 21 8 22 19 rfl rfl ⟨rfl,rfl⟩ (by simp;rfl) rfl rfl ⟨rfl,rfl⟩ (by simp;rfl) rfl (by simp) (by simp) (by simp)
    rintro⟨⟨i,rv⟩,hil⟩ K2 hK3;simp only at hil;have hk2:i64.wrap ((i:Int)+1)=((i+1:Nat):Int):=by rw[wrap64]<;>omega
    by_cases hit:i<lg.length
    .have hgi:=aE hit;have hnx:=hPs i hit;have c4:=KY (P i) lg[i] (hPl i hil);rw[<-hnx]at c4;have hK4:=hK3;clear hP0 hPn hPl hPs hnx;generalize hp':P (i+1)=p' at*;generalize hpi:P i=pi at*;simp only[bP,cH,cQ,eV,gS,cW,eA,OZ,Pb]at hK3⊢;simp only[aH]at c4;have W:=aA hk2 (aA hgi hit);refine we ?_;rw[vO];refine go_drawn (by simp;rfl) (by simp;rfl) (by decide+kernel) (by decide) (by first|rfl|(simp[iq];done)) (by simp) (by simp) ?_;iterate 5 (
      refine go_draw rfl (by first|rfl|(simp;done)) (by simp[Region.binds];rfl) (by decide) (by simp[Region.binds];rfl) (by simp;rfl) ?_ ?_
      .first|rfl|(simp[qO];done)
      refine nx ?_;refine so ?_;refine kN ?_;refine go_next (by simp;done) (by simp;rfl) (by simp;rfl) ?_)
     refine FO (s1:= ?s1) (by decide+kernel) (by simp[wJ,reach,pW,Region.binds,GS];rfl) ?ha ?hk;case ha=>
      repeat' (first|refine st ?_|(refine nx ?_;first|refine so ?_|refine sg (hc:=c4) (h:= ?_))|refine sx ?_ ?_|refine sy ?_ ?_|fail)
      all_goals rfl
     case hk=>
      have W:=hk2;refine we ?_;refine hK4 _ ⟨(i+1,1),by simp only;omega⟩ ?_ (by simp only;omega);simp only[hp'];exact aDl (q:=p') rfl (by simp[OZ,Pb,Fh,Fj,hp']) (by simp[zK]) (by simp[zK]) (by simp) (by simp) (by simp[eU])
    .have hie:i=lg.length:=by omega
     subst hie;simp only[hPn,bP,cH,cQ,eV,gS,cW,eA,OZ,Pb]at hK3⊢;clear hP0 hPn hPl hPs hK3;have W:=aA hk1 hit;refine we ?_;refine hK2 _ ⟨(k+1,rv),by simp only;omega⟩ ?_ (by simp only;omega);exact aQ 16 (by simp[OZ,Pb,hq']) (by simp) (by simp) (by simp[eU,OZ,Pb,hq'])
   .rw [hh]at hnext c3;rw[eM rfl]at hnext;simp only[aS]at c3;have W:=aA hk1 (aA hg hlt);refine we ?_;refine hK2 _ ⟨(k+1,v),by simp only;omega⟩ ?_ (by simp only;omega);exact aQ 16 (by simp[OZ,Pb,hq',hnext]) (by simp) (by simp) (by simp[eU,OZ,Pb,hq',hnext])
  .have hkl:k=L.length:=by omega
   subst hkl;simp only[bP,cH,cQ,eV,gS,cW,eA,OZ,Pb]at hK1⊢;clear OD hsz UN hmem Oj V9 hK1 c1 c2;generalize Q L.length=q at*;have W:=aA hk1 hlt;refine we ?_;exact aO results71
 .rw [eM rfl];rw[hfl]at c1;have hfm:=Dc a;have zh:p.log.length<=500000000:=by simp only[aM,dS]at hs;omega
  have c2:=MS a (by omega);have c3:=KY p (Um++oG a) (by omega);simp only[Um]at c3⊢;generalize oG a=fa at*;simp only[aH,aS]at c0 c1 c2 c3⊢;refine xA aK [3] func71 ntmps71 ?_;have W:=hfm;refine we ?_;rw[vO];refine go_drawn (by simp;rfl) (by simp;rfl) (by decide+kernel) (by decide) (by first|rfl|(simp[iq];done)) (by simp) (by simp) ?_;iterate 4 (
   refine go_draw rfl (by first|rfl|(simp;done)) (by simp[Region.binds];rfl) (by decide) (by simp[Region.binds];rfl) (by simp;rfl) ?_ ?_
   .first|rfl|(simp[qO];done)
   refine nx ?_;refine so ?_;refine kN ?_;refine go_next (by simp;done) (by simp;rfl) (by simp;rfl) ?_)
  refine FO (s1:= ?s2) (by decide+kernel) (by simp[wJ,reach,pW,Region.binds,GS];rfl) ?ha2 ?hk2;case ha2=>
   repeat' (first|refine st ?_|(refine nx ?_;first|refine so ?_|refine sg (hc:=c3) (h:= ?_))|refine sx ?_ ?_|refine sy ?_ ?_|fail)
   all_goals rfl
  case hk2=>
   refine bK ?_;exact aO results71
def Rj[aG prog][fI prog][dG prog][qR prog](p:aF)(hs:aM p<=500000000)(hn1:p.aD.length<=16777216)(hme:dS cB p.aL+dS aW p.bJ<=16777216):Ok prog 30 [.agg (aH .view p)] (.iL [.agg (aH .own (iJ p).1),.bool (iJ p).2]):=by
 have c1:=jH p (by omega);have hn2:p.aL.length<=16777216:=by simp only[dS]at hme;omega
 have cP:=QS p;have cS:=Da p (by omega);have cD:=Ik p hn1;have hbd:∀s∈p.aD,s.body.length<=500000000:=λs hm=>by have:=dJ nO hm;simp only[aM,dS,nO]at hs this;omega
 have hed:∀a∈p.bJ,dS cB p.aL+aW a<=16777216:=λa hm=>by
  have h1:=dJ aW hm;have h2:bU aW p.bJ<=dS aW p.bJ:=by simp only[dS];omega
  omega
 have aZi:p.bJ.length<=16777216:=by
  have:p.bJ.length<=dS aW p.bJ:=by simp only[dS];omega
  omega
 have aRm:=jT jY p.aD 0;have OA:=OQ jY p.aD 0;unfold iJ;by_cases hpre:qW p=true/\p.dX=false/\0<=p.eH/\0<=p.fA
 .rw [eM hpre];obtain⟨h1,h2,h3,h4⟩:=hpre;obtain⟨dn,GQ⟩:=hY h3;obtain⟨en,OJ⟩:=hY h4;rw[GQ,OJ,oB,oB];rw[h1]at cP;by_cases hdl:dn<(dO jY 0 p.aD).length
  .have Zl:=aE hdl;obtain⟨sn,Oz,_,hsl⟩:=OA _ (gR hdl);rw[lR]at hsl;rw[Oz]at Zl;rw[Zl];simp only[oB];have hgS:=aE hsl;rw[hgS];simp only;have aIw:=hbd _ (gR hsl);have hkd:i64.wrap ((dn:Int)+1)=(dn:Int)+1:=by rw[wrap64]<;>omega
   have hdi:(dn:Int)<((dO jY 0 p.aD).length:Int):=by omega
   unfold Ci;have c4:=CV p p.aD[sn].body false (by omega) (by omega);have hqd:=(JY p p.aD[sn].body false).1.trans GQ;clear hbd hed OA Oz aRm;generalize dO jY 0 p.aD=D at*;cases hd:p.aD[sn].done
   .rw [eC (by simp)];simp only[aH,h2,GQ,OJ]at c1 cP cS cD⊢;refine dN aK func30 ntmps30 ?_;have W:=aA hdi (aA Zl (aA hgS hd));have V:=aA hdl hsl;refine we ?_;exact aO results30
   .generalize p.aD.all qL=V8 at*;cases V8
    .rw [eC (by simp)];simp only[aH,h2,GQ,OJ]at c1 cP cS cD⊢;refine dN aK func30 ntmps30 ?_;have W:=aA hdi (aA Zl (aA hgS hd));have V:=aA hdl hsl;refine we ?_;exact aO results30
    .rw [eM ⟨rfl,rfl⟩];by_cases RU:p.aD[sn].code=1
     .rw [eM RU];generalize gI p p.aD[sn].body false=q at*;simp only[aH,h2,GQ,OJ,hqd]at c1 cP cS cD c4⊢;refine dN aK func30 ntmps30 ?_;have W:=aA hdi (aA Zl (aA hgS (aA hd (aA RU hkd))));have V:=aA hdl hsl;refine we ?_;exact aO results30
     .rw [eC RU];simp only[aH,h2,GQ,OJ]at c1 cP cS cD⊢;refine dN aK func30 ntmps30 ?_;have W:=aA hdi (aA Zl (aA hgS (aA hd (aA RU hkd))));have V:=aA hdl hsl;refine we ?_;exact aO results30
  .have Zl:(dO jY 0 p.aD)[dn]? =none:=pT (by omega);rw[Zl];simp only;have hdl:¬(dn:Int)<((dO jY 0 p.aD).length:Int):=by omega
   clear hbd OA Zl;generalize dO jY 0 p.aD=D at*;by_cases hlE:en<p.bJ.length
   .have hgE:=aE hlE;rw[hgE];simp only;have hsa:=hed _ (gR hlE);have hel:(en:Int)<(p.bJ.length:Int):=by omega
    have hke:i64.wrap ((en:Int)+1)=(en:Int)+1:=by rw[wrap64]<;>omega
    have cG:=Nf p p.bJ[en] hsa;have c5:=Zk p p.bJ[en] hs hsa;have hqe:=(XK p p.bJ[en]).trans OJ;clear hed;unfold Cj;generalize yY p p.bJ[en]=gr at*;cases gr
    .rw [eC (by simp)];simp only[aH,aS,h2,GQ,OJ]at c1 cP cS cD cG⊢;refine dN aK func30 ntmps30 ?_;have W:=aA hdl (aA hel (aA hgE hlE));refine we ?_;exact aO results30
    .generalize p.aD.all qL=V8 at*;cases V8
     .rw [eC (by simp)];simp only[aH,aS,h2,GQ,OJ]at c1 cP cS cD cG⊢;refine dN aK func30 ntmps30 ?_;have W:=aA hdl (aA hel (aA hgE hlE));refine we ?_;exact aO results30
     .rw [eM ⟨rfl,rfl⟩];generalize nU p p.bJ[en]=q at*;simp only[aH,aS,h2,GQ,OJ,hqe]at c1 cP cS cD cG c5⊢;refine dN aK func30 ntmps30 ?_;have W:=aA hdl (aA hel (aA hke (aA hgE hlE)));refine we ?_;exact aO results30
   .have hgE:p.bJ[en]? =none:=pT (by omega);rw[hgE];simp only;have hel:¬(en:Int)<(p.bJ.length:Int):=by omega
    clear hed;have cO:=EX p hn1;have cM:=GG p hn2;have zh:p.log.length<=500000000:=by simp only[aM,dS]at hs;omega
    have c5:=KY p Uq (by omega);unfold Ck;simp only[Uq]at c5⊢;generalize dO sZ 0 p.aD=O at*;generalize dO tC 0 p.aL=M at*;by_cases ho:O.length=0
    .obtain rfl:=AF.1 ho;by_cases hm:M.length=0
     .obtain rfl:=AF.1 hm;rw[eM ⟨rfl,rfl⟩];simp only[aH,h2,GQ,OJ]at c1 cP cS cD cO cM c5⊢;refine dN aK func30 ntmps30 ?_;have W:=aA hdl hel;repeat' first|refine wf ?_|(refine nx ?_;refine sg (hc:=c5) (h:=?_))|(refine sq ?_ ?_<;>intro hc<;>try exact hc.elim)|fail
      exact aO results30
     .rw [eC (by omega)];have Qm:¬M=[]:=λh=>hm (by rw[h];rfl)
      have hm3:(0:Int)<(M.length:Int):=by omega
      simp only[aH,h2,GQ,OJ]at c1 cP cS cD cO cM⊢;refine dN aK func30 ntmps30 ?_;have W:=aA hdl (aA hel (aA Qm hm3));repeat' first|refine wf ?_|(refine sq ?_ ?_<;>intro hc<;>try exact hc.elim)|fail
      all_goals (try exact(Qm (by assumption)).elim)
      all_goals (try exact aO results30)
    .rw [eC (by omega)];have ho2:¬O=[]:=λh=>ho (by rw[h];rfl)
     have ho3:(0:Int)<(O.length:Int):=by omega
     simp only[aH,h2,GQ,OJ]at c1 cP cS cD cO cM⊢;refine dN aK func30 ntmps30 ?_;have W:=aA hdl (aA hel (aA ho2 ho3));repeat' first|refine wf ?_|(refine sq ?_ ?_<;>intro hc<;>try exact hc.elim)|fail
     all_goals (try exact(ho2 (by assumption)).elim)
     all_goals (try exact aO results30)
 .rw [eC hpre];clear hbd hed OA;cases h1:qW p
  .rw [h1]at cP;simp only[aH]at c1 cP cS cD⊢;refine dN aK func30 ntmps30 ?_;refine bK ?_;exact aO results30
  .rw [h1]at cP;cases h2:p.dX
   .by_cases h3:p.eH<0
    .simp only[aH,h2]at c1 cP cS cD⊢;refine dN aK func30 ntmps30 ?_;have W:=h3;refine we ?_;exact aO results30
    .have h4:p.fA<0:=by
      rw[h1,h2]at hpre;by_cases h4:p.fA<0
      .exact h4
      .exact (hpre ⟨rfl,rfl,by omega,by omega⟩).elim
     simp only[aH,h2]at c1 cP cS cD⊢;refine dN aK func30 ntmps30 ?_;have W:=aA h3 h4;refine we ?_;exact aO results30
   .simp only[aH,h2]at c1 cP cS cD⊢;refine dN aK func30 ntmps30 ?_;refine bK ?_;exact aO results30
def zU{α β:Type}(f:α->β)(l:List α):List β:=l.map f
@[simp] def aGy{α β:Type}(f:α->β):zU f []=[]:=rfl
def AJ{α β:Type}(f:α->β)(l:List α)(k:Nat)(h:k<l.length):zU f (l.take (k+1))=zU f (l.take k)++[f l[k]]:=by simp only[zU];rw[fN h,pP];rfl
def sW{α β:Type}(f:α->β)(l:List α):(zU f l).length=l.length:=tE _
end Go.Proofs.YtanobkmhbpjnpaaGreatDoor
