/- Proved here: steps towards the statement of this claim. No condition. -/
import Derived.Test.YthddijamfbfibaaGreatDoorZQNF
set_option linter.all false
set_option maxRecDepth 4000
set_option maxHeartbeats 4000000
namespace Go.Proofs.YthddijamfbfibaaGreatDoor
open Go.Aw Proofs.Tryz List IntKind
theorem aB6{a b:aD}:aH a=aH b↔a=b:=by obtain⟨a1,a2⟩:=a;obtain⟨b1,b2⟩:=b;simp
theorem oG(a b:aD):EqA prog 43 (aH a) (aH b) (decide (a=b)):=
 aPc (f:=6) (ss:=[.str,.str]) (by decide) (by kernel_rfl) (by kernel_rfl) (by kernel_rfl) (by kernel_rfl) (by simp[yL,Td]) (by simp[yL,Td]) (by rw[aB6,decide_eq_true_iff])
def kW(a:aD)(m:dX):Bool:=decide (m.to=a)
theorem Ar[aB prog](p:aI)(a:aD)(hl:p.aO.length<=1099511627776):Ok prog 133 [.agg (aJ .view p),.agg (aH a)] (.int .i64 (qO (kW a) p.aO)):=by
 refine bM aG func133 ntmps133 ?_;refine aZ ?_;refine aM (ι:={k:Nat // k<=p.aO.length/\∀x∈p.aO.take k,kW a x=false}) (λt o i=>⟨bC t [(5,.int .i64 i.1)],o⟩)
  (λi=>p.aO.length-i.1) ⟨0,by simp⟩ aK ?_
 rintro⟨k,hk,hpre⟩ K1 hK1;simp only[bC,cW,cU]at hK1⊢;have hk1:=oQ (k:=k);by_cases hlt:k<p.aO.length
 .have hg:=aE hlt;have W:=aA hk1 (aA hg hlt);have c0:=oG p.aO[k].to a;repeat' first|refine wf ?_|(refine sq ?_ ?_<;>intro hc<;>try exact hc.elim)|fail
  .all_goals try(refine aR ?_;simp[aP,results133])
   rw[uY hlt (by simpa [kW]using hc) hpre]
  .exact hK1 _ ⟨k+1,by omega,bZ hlt hpre (by simpa [kW]using hc)⟩ aK (by simp only;omega)
 .have W:=hk1;refine we ?_;all_goals try(refine aR ?_;simp[aP,results133])
  rw[nN (iW (by omega) hpre)]
theorem aB7[aB prog](m:dX)(a:aD):Ok prog 276 [.agg (eY m),.eU .view (aH a) 0] (.bool (kW a m)):=by
 refine bM aG func276 ntmps276 ?_;have c0:=oG m.to a;refine aZ ?_;all_goals try(refine aR ?_;simp[aP,results276])
 rfl
theorem jv[aB prog](l:List dX)(a:aD)(hl:l.length<=1099511627776):Ok prog 275 [.sl .view 5 (l.map eY),.fn 276 [.eU .view (aH a) 0]] (.int .i64 (qO (kW a) l)):=by
 refine bM aG func275 ntmps275 ?_;refine aZ ?_;refine aM (ι:={k:Nat // k<=l.length/\∀x∈l.take k,kW a x=false}) (λt o i=>⟨bC t [(8,.int .i64 i.1),(5,.undef)],o⟩)
  (λi=>l.length-i.1) ⟨0,by simp⟩ aK ?_
 rintro⟨k,hk,hpre⟩ K1 hK1;simp only[bC,cW,cU]at hK1⊢;have hk1:=oQ (k:=k);by_cases hlt:k<l.length
 .have hg:=aE hlt;have W:=aA hk1 (aA hg hlt);have c0:=aB7 l[k] a;repeat' first|refine wf ?_|(refine sq ?_ ?_<;>intro hc<;>try exact hc.elim)|fail
  .all_goals try(refine aR ?_;simp[aP,results275])
   rw[uY hlt (by simpa using hc) hpre]
  .exact hK1 _ ⟨k+1,by omega,bZ hlt hpre (by simpa using hc)⟩ aK (by simp only;omega)
 .have W:=hk1;refine we ?_;all_goals try(refine aR ?_;simp[aP,results275])
  rw[nN (iW (by omega) hpre)]
def iA(a x:aD):Bool:=decide (x=a)
theorem yN[aB prog](l:List aD)(a:aD)(hl:l.length<=1099511627776):Ok prog 82 [.sl .view 2 (l.map aH),.agg (aH a)] (.bool (l.any (iA a))):=by
 refine bM aG func82 ntmps82 ?_;refine aZ ?_;refine aM (ι:={k:Nat // k<=l.length/\∀x∈l.take k,iA a x=false}) (λt o i=>⟨bC t [(5,.int .i64 i.1)],o⟩)
  (λi=>l.length-i.1) ⟨0,by simp,by simp⟩ aK ?_
 rintro⟨k,hk,hi⟩ K1 hK1;simp only[bC,cW,cU]at hK1⊢;have hk1:=oQ (k:=k);by_cases hlt:k<l.length
 .have hg:=aE hlt;have W:=aA hk1 (aA hg hlt);have c0:=oG l[k] a;repeat' first|refine wf ?_|(refine sq ?_ ?_<;>intro hc<;>try exact hc.elim)|fail
  .all_goals try(refine aR ?_;simp[aP,results82])
   refine⟨_,fS hlt,by simpa [iA]using hc⟩
  .exact hK1 _ ⟨k+1,by omega,bZ hlt hi (by simpa [iA]using hc)⟩ (aT 1) (by simp only;omega)
 .have W:=hk1;refine we ?_;all_goals try(refine aR ?_;simp[aP,results82])
  have:=iW (by omega) hi;simpa using this
theorem YV[aB prog](l:List aD)(a:aD)(hl:l.length<=1099511627776):Ok prog 313 [.sl .view 2 (l.map aH),.agg (aH a)] (.int .i64 (qO (iA a) l)):=by
 refine bM aG func313 ntmps313 ?_;refine aZ ?_;refine aM (ι:={k:Nat // k<=l.length/\∀x∈l.take k,iA a x=false}) (λt o i=>⟨bC t [(8,.int .i64 i.1),(5,.undef)],o⟩)
  (λi=>l.length-i.1) ⟨0,by simp,by simp⟩ aK ?_
 rintro⟨k,hk,hi⟩ K1 hK1;simp only[bC,cW,cU]at hK1⊢;have hk1:=oQ (k:=k);by_cases hlt:k<l.length
 .have hg:=aE hlt;have hq:EqA prog 43 (aH a) (aH l[k]) (decide (a=l[k])):=oG a l[k];have W:=aA hk1 (aA hg hlt);have c0:=hq;repeat' first|refine wf ?_|(refine sq ?_ ?_<;>intro hc<;>try exact hc.elim)|fail
  .all_goals try(refine aR ?_;simp[aP,results313])
   rw[uY hlt (by simp[iA];exact hc.symm) hi]
  .exact hK1 _ ⟨k+1,by omega,bZ hlt hi (by simp[iA];intro h;exact hc h.symm)⟩ (aT 1) (by simp only;omega)
 .have W:=hk1;refine we ?_;all_goals try(refine aR ?_;simp[aP,results313])
  rw[nN (iW (by omega) hi)]
theorem Bd[aB prog](l:List aD)(a:aD)(hl:l.length<=1099511627776):Ok prog 277 [.sl .view 2 (l.map aH),.agg (aH a)] (.bool (l.any (iA a))):=by
 have c1:=YV l a hl;simp only[aH]at c1;refine bM aG func277 ntmps277 ?_;refine aZ ?_;all_goals try(refine aR ?_;simp[aP,results277])
 exact GH _ _
theorem Te[aB prog](l:List aD)(a:aD)(hl:l.length<=1099511627776):Ok prog 219 [.sl .view 2 (l.map aH),.agg (aH a)] (.bool (l.any (iA a))):=by have c1:=Bd l a hl;simp only[aH]at c1;refine bM aG func219 ntmps219 ?_;refine aZ ?_;exact aF results219
theorem aGv{l:List bB}{k:Nat}(h:k<l.length)(hc:cZ l[k]=false):lU l=false:=by
 have:l.all cZ=false:=by rw[all_eq_false];exact⟨l[k],fS h,by simp[hc]⟩
 simp[lU,this]
theorem aCf{l:List bB}(h:∀x∈l,cZ x=true):lU l=decide ((l.length:Int)<=4):=by
 have:l.all cZ=true:=fR.2 h;have h1:decide ((l.length:Int)<=4)=decide (l.length<=4):=by simp only[sR];omega
 rw[lU,this,h1,CH]
theorem EZ[aB prog](l:List bB)(hs:bP gJ l<=1099511627776):Ok prog 242 [.sl .view 1 (l.map dC)] (.bool (lU l)):=by
 simp only[bP]at hs;refine bM aG func242 ntmps242 ?_;refine aZ ?_;refine aM (ι:={k:Nat // k<=l.length/\∀x∈l.take k,cZ x=true}) (λt o i=>⟨bC t [(3,.int .i64 i.1)],o⟩)
  (λi=>l.length-i.1) ⟨0,by simp,by simp⟩ aK ?_
 rintro⟨k,hk,hi⟩ K1 hK1;simp only[bC,cW,cU]at hK1⊢;have hk1:=oQ (k:=k);by_cases hlt:k<l.length
 .have hg:=aE hlt;have hel:=dI gJ l k hlt;simp only[gJ]at hel;have c1:=fD l[k] (by omega);generalize hb:cZ l[k]=b at*;cases b
  .have W:=aA hk1 (aA hg hlt);refine we ?_;rw[aGv hlt hb];all_goals (try exact aF results242)
  .have W:=aA hk1 (aA hg hlt);refine we ?_;exact hK1 _ ⟨k+1,by omega,bZ hlt hi hb⟩ aK (by simp only;omega)
 .have W:=hk1;refine we ?_;rw[aCf (iW (by omega) hi)];all_goals (try exact aF results242)
theorem Qo[aB prog](p:eX)(hs:eF p<=1099511627776):Ok prog 180 [.agg (bN .view p)] (.bool (nX p)):=by
 simp only[eF]at hs;have c1:=EZ p.fC (by omega);have c2:=EZ p.gY (by omega);have c3:=EZ p.gZ (by omega);have c4:=yK p.tQ (by omega);have l1:(p.fC == [])=decide ((p.fC.length:Int)=0):=by cases p.fC<;>simp<;>omega
 have l2:(p.gY == [])=decide ((p.gY.length:Int)=0):=by cases p.gY<;>simp<;>omega
 have l3:(p.gZ == [])=decide ((p.gZ.length:Int)=0):=by cases p.gZ<;>simp<;>omega
 unfold nX;rw[l1,l2,l3];generalize lU p.fC=b1 at*;generalize lU p.gY=b2 at*;generalize lU p.gZ=b3 at*;generalize isValue p.tQ=b4 at*;generalize hb:p.isSet=b at*;cases b
 .refine bM aG func180 ntmps180 ?_;have W:=hb;repeat' first|refine wf ?_|(refine sq ?_ ?_<;>intro hc<;>try exact hc.elim)|fail
  all_goals try(refine aR ?_;simp[aP,results180,hb])
  all_goals simp_all
 .refine bM aG func180 ntmps180 ?_;have W:=hb;repeat' first|refine wf ?_|(refine sq ?_ ?_<;>intro hc<;>try exact hc.elim)|fail
  all_goals try(refine aR ?_;simp[aP,results180,hb])
  all_goals simp_all
theorem F9(w:bB)(l:List bB)(x:bB):words w (l++[x])=words w l++32::x:=by unfold words;rw[Lib.join_cons,Lib.join_cons];simp[Lib.joinTail]
theorem aCg(w:bB):words w []=w:=by simp[words,Lib.join_one]
theorem Iz(w:bB)(l:List bB):(words w l).length=w.length+l.length+aY gJ l:=by
 unfold words;rw[Lib.join_cons];unfold Lib.joinTail;have:∀l:List bB,((l.map (([32]:bB)++ ·)).flatten).length=l.length+aY gJ l:=by
  intro l;induction l with
  |nil=>simp[aY]
  |cons x l ih=>simp only[mB,pT,eR,ih,aY,gJ,eN,eV];omega
 rw[eR,this];omega
theorem Kn[aB prog](w:bB)(l:List bB)(hs:w.length+bP gJ l<=1099511627776):Ok prog 181 [.str w,.sl .view 1 (l.map dC)] (.str (words w l)):=by
 simp only[bP]at hs;refine bM aG func181 ntmps181 ?_;refine aZ ?_;refine aM (ι:={k:Nat // k<=l.length}) (λt o i=>⟨bC t [(5,.int .i64 i.1),(0,.str (words w (l.take i.1)))],o⟩)
  (λi=>l.length-i.1) ⟨0,by simp⟩ (aK (by simp) (by simp[aCg])) ?_
 rintro⟨k,hk⟩ K1 hK1;simp only[bC,cW,cU]at hK1⊢;have hk1:=oQ (k:=k);by_cases hlt:k<l.length
 .have hg:=aE hlt;have hel:=dI gJ l k hlt;simp only[gJ]at hel;have hw:=Iz w (l.take k);have hts:=jY gJ l k;have htl:(l.take k).length<=l.length:=by simp;omega
  have e:l.take (k+1)=l.take k++[l[k]]:=by rw[take_add_one,hg];rfl
  have e2:=F9 w (l.take k) l[k];rw[<-e]at e2;generalize words w (l.take k)=q at*;have W:=aA hk1 (aA hg hlt);refine we ?_;exact hK1 _ ⟨k+1,by omega⟩ (aK (by simp) (by simp[e2])) (by simp only;omega)
 .have htk:l.take k=l:=cX (by omega);rw[htk];have W:=hk1;refine we ?_;exact aF results181
theorem BJ{l:List bB}(h:lU l=true):l.length<=4/\aY gJ l<=32:=by
 simp only[lU,eI,fN,fR]at h;have key:∀l:List bB,(∀x∈l,cZ x=true)->aY gJ l<=8*l.length:=by
  intro l;induction l with
  |nil=>intro _;simp[aY]
  |cons x l ih=>
   intro hl;have h1:=hl x (by simp);simp only[cZ,eI,fN]at h1;have:=ih λy hy=>hl y (by simp[hy])
   simp only[aY,gJ,eN];omega
 have:=key l h.1;exact⟨h.2,by omega⟩
theorem aCh{s:bB}(h:(s == [])=true\/isValue s=true):s.length<=20:=by
 rcases h with h|h
 .simp only[tP]at h;simp[h]
 .simp only[isValue,eI,fN]at h;exact h.2.2
theorem Tt{p:eX}(h:nX p=true)(hs:p.isSet=true):(words wG p.fC).length<=42/\(words zN p.gY).length<=41/\(words LG p.gZ).length<=39/\p.tQ.length<=20:=by simp only[nX,hs,gE,eI,rL]at h;obtain⟨⟨⟨h1,h2⟩,h3⟩,h4⟩:=h;have k1:=BJ h1;have k2:=BJ h2;have k3:=BJ h3;refine⟨by rw[Iz];simp[wG];omega,by rw[Iz];simp[zN];omega,by rw[Iz];simp[LG];omega,aCh h4⟩
theorem IU[aB prog](p:eX)(hs:eF p<=274877906944):Ok prog 116 [.agg (bN .view p)] (.str (iX p)):=by
 have c0:=Qo p (by omega);simp only[bN]at c0;have hq:= @Tt p;simp only[eF]at hs;have c1:Ok prog 181 [.str [115,99,114,105,112,116],.sl .view 1 (p.fC.map dC)] (.str (words wG p.fC)):=Kn wG p.fC (by simp[wG];omega);have c2:Ok prog 181 [.str [115,116,121,108,101],.sl .view 1 (p.gY.map dC)] (.str (words zN p.gY)):=Kn zN p.gY (by simp[zN];omega);have c3:Ok prog 181 [.str [105,109,103],.sl .view 1 (p.gZ.map dC)] (.str (words LG p.gZ)):=Kn LG p.gZ (by simp[LG];omega);unfold iX;by_cases h1:nX p=true
 .by_cases h2:p.isSet=true
  .obtain ⟨k1,k2,k3,k4⟩:=hq h1 h2;rw[eK ⟨h1,h2⟩];unfold Za;rw[h1,h2]at c0;generalize words wG p.fC=q1 at*;generalize words zN p.gY=q2 at*;generalize words LG p.gZ=q3 at*;by_cases hn:p.tQ=[]
   .rw [eK hn];rw[hn]at c0;refine bM aG func116 ntmps116 ?_;have W:=aA h2 hn;have V:=aA h2 hn;refine we ?_;all_goals try(refine aR ?_;simp[aP,results116,h2,hn])
   .rw [cY hn];refine bM aG func116 ntmps116 ?_;have W:=aA h2 hn;have V:=aA h2 hn;repeat' first|refine wf ?_|(refine sq ?_ ?_<;>intro hc<;>try exact hc.elim)|fail
    all_goals try(refine aR ?_;simp[aP,results116,h2,hn,pI])
    all_goals (exact absurd (by assumption) hn)
  .rw [cY (λh=>h2 h.2)]
   simp only[AD]at h2;rw[h1,h2]at c0;refine bM aG func116 ntmps116 ?_;have W:=h2;have V:=h2;refine we ?_;exact aF results116
 .rw [cY (λh=>h1 h.1)]
  simp only[AD]at h1;rw[h1]at c0;refine bM aG func116 ntmps116 ?_;refine aZ ?_;exact aF results116
theorem FZ(p:eX)(r:fV):fE p r=1\/fE p r=2:=by unfold fE;split<;>simp
def gQ(p:aI)(mode:Int)(tu digest:bB)(node:Int):aI×Int:=
 if 20<=p.aC.length\/fG mode=0 then(p, -1)
 else if (bY tu p.addr.host).2=false\/fE p.bD ⟨fG mode,(bY tu p.addr.host).1,p.addr.host,digest⟩≠1 then
  ({p with aC:=p.aC++[(⟨mode,(bY tu p.addr.host).1,digest,node,true,2,[]⟩:pR)]},((p.aC.length:Nat):Int))
 else({p with aC:=p.aC++[(⟨mode,(bY tu p.addr.host).1,digest,node,false,0,[]⟩:pR)]},((p.aC.length:Nat):Int))
theorem BA{p:aI}{mode:Int}{tu digest:bB}{node:Int}(h:20<=p.aC.length\/fG mode=0):gQ p mode tu digest node=(p, -1):=by unfold gQ;rw[eK h]
theorem PM{p:aI}{mode:Int}{tu digest:bB}{node:Int}(h:¬(20<=p.aC.length\/fG mode=0))(h2:(bY tu p.addr.host).2=false\/fE p.bD ⟨fG mode,(bY tu p.addr.host).1,p.addr.host,digest⟩≠1):
  gQ p mode tu digest node=({p with aC:=p.aC++[(⟨mode,(bY tu p.addr.host).1,digest,node,true,2,[]⟩:pR)]},((p.aC.length:Nat):Int)):=by unfold gQ;rw[cY h,eK h2]
theorem Mk{p:aI}{mode:Int}{tu digest:bB}{node:Int}(h:¬(20<=p.aC.length\/fG mode=0))(h1:(bY tu p.addr.host).2=true)(h2:fE p.bD ⟨fG mode,(bY tu p.addr.host).1,p.addr.host,digest⟩=1):
  gQ p mode tu digest node=({p with aC:=p.aC++[(⟨mode,(bY tu p.addr.host).1,digest,node,false,0,[]⟩:pR)]},((p.aC.length:Nat):Int)):=by
 unfold gQ;rw[cY h,cY (by rintro(h3|h3);rw[h1]at h3;cases h3;exact h3 h2)]
theorem yS[aB prog](p:aI)(mode:Int)(tu digest:bB)(node:Int)(hs:aL p<=274877906944)(hto:tu.length<=274877906944)(hd:digest.length<=274877906944):Ok prog 248 [.agg (aJ .view p),.int .i64 mode,.str tu,.str digest,.int .i64 node] (.gM [.agg (aJ .own (gQ p mode tu digest node).1),.int .i64 (gQ p mode tu digest node).2]):=by
 have c1:=gK p hs;simp only[aJ]at c1;have hsl:p.addr.host.length<=274877906944:=by simp only[aL,aQ]at hs;omega
 have Hq:eF p.bD<=1099511627776:=by simp only[aL]at hs;omega
 have Oa:p.aC.length<=274877906944:=by simp only[aL,bP]at hs;omega
 have c2:=Dr mode;have c3:=zO tu p.addr.host (by omega);by_cases IY:(20:Int)<=(p.aC.length:Int)
 .rw [BA (.inl (by omega))];refine bM aG func248 ntmps248 ?_;have W:=IY;refine we ?_;exact aF results248
 by_cases hk:fG mode=0
 .rw [BA (.inr hk)];rw[hk]at c2;refine bM aG func248 ntmps248 ?_;have W:=IY;refine we ?_;exact aF results248
 have DT:¬(20<=p.aC.length\/fG mode=0):=by rintro(h|h);omega;exact hk h
 have hsz:=Mh tu p.addr.host;have jZ:=PM (tu:=tu) (digest:=digest) (node:=node) DT;have hgood:=Mk (tu:=tu) (digest:=digest) (node:=node) DT;have c5:=wO p.bD ⟨fG mode,(bY tu p.addr.host).1,p.addr.host,digest⟩ Hq (by simp only[jQ];omega);have h12:=FZ p.bD ⟨fG mode,(bY tu p.addr.host).1,p.addr.host,digest⟩;have c4:=λl' CQ hl2=>xK {p with aC:=l'} (p.aC.length:Int) (by omega) CQ hl2
 have hr:∀s,jD {p with aC:=p.aC++[s]} (p.aC.length:Int)=⟨fG s.mode,s.to,p.addr.host,s.digest⟩:=λs=>by simp[jD,fM]
 generalize hkm:fG mode=km at*;generalize bY tu p.addr.host=pa at*;obtain⟨a,ok⟩:=pa;simp only at c3 c5 h12 hsz jZ hgood;obtain⟨s0,hs0⟩:∃s:pR,s=⟨mode,a,digest,node,false,0,[]⟩:=⟨_,rfl⟩;obtain⟨l0,hl0⟩:∃l,l=p.aC++[s0]:=⟨_,rfl⟩;obtain⟨l3,hl3⟩:∃l:List pR,l=p.aC++[⟨mode,a,digest,node,true,2,[]⟩]:=⟨_,rfl⟩;have hap:p.aC.map vH++[[.int .i64 mode,.str a.host,.str a.path,.str digest,.int .i64 node,.bool false,.int .i64 0,.str []]]=l0.map vH:=by rw[hl0,hs0];simp
 have hg:l0[p.aC.length]? =some s0:=by rw[hl0];simp
 have VH:l0.length=p.aC.length+1:=by rw[hl0];simp
 have hset:∀h,(l0.map vH).set p.aC.length [.int .i64 (l0[p.aC.length]'h).mode,.str (l0[p.aC.length]'h).to.host,.str (l0[p.aC.length]'h).to.path,.str (l0[p.aC.length]'h).digest,.int .i64 (l0[p.aC.length]'h).node,.bool true,.int .i64 2,.str (l0[p.aC.length]'h).body]=l3.map vH:=by
  intro h;have e:l0[p.aC.length]'h=s0:=by rw[aE h]at hg;exact cQ hg
  rw[e,hl0,hl3,hs0,oY,oY,tI _ _ (by simp)];simp
 have c4:=c4 l0 (by rw[VH];omega) (by rw[VH];omega);rw[show jD {p with aC:=l0} (p.aC.length:Int)=⟨km,a,p.addr.host,digest⟩by rw[hl0,hr,hs0];simp[hkm]]at c4;simp only[aJ,dD]at c4;simp only[bN,dD]at c5;rw[<-hl3]at jZ;rw[<-hs0,<-hl0]at hgood;have VV:p.aC.length<l0.length:=by omega
 clear hs0 hl0 hl3 hr hkm DT;cases ok
 .rw [jZ (.inl rfl)];clear jZ hgood h12;refine bM aG func248 ntmps248 ?_;have W:=aA IY (aA hk (aA hg (aA hap VV)));refine we ?_;all_goals try(refine aR ?_;simp[aP,results248])
  all_goals exact hset _
 .rcases h12 with h|h
  .rw [hgood rfl h];rw[h]at c5;clear jZ hgood h;refine bM aG func248 ntmps248 ?_;have W:=aA IY (aA hk (aA hg (aA hap VV)));refine we ?_;all_goals try(refine aR ?_;simp[aP,results248])
   all_goals exact hset _
  .rw [jZ (.inr (by rw[h];decide))];rw[h]at c5;clear jZ hgood h;refine bM aG func248 ntmps248 ?_;have W:=aA IY (aA hk (aA hg (aA hap VV)));refine we ?_;all_goals try(refine aR ?_;simp[aP,results248])
   all_goals exact hset _
theorem yT[aB prog](p:aI)(mode:Int)(tu digest:bB)(node:Int)(hs:aL p<=274877906944)(hto:tu.length<=274877906944)(hd:digest.length<=274877906944):Ok prog 271 [.agg (aJ .view p),.int .i64 mode,.str tu,.str digest,.int .i64 node] (.gM [.agg (aJ .own (gQ p mode tu digest node).1),.int .i64 (gQ p mode tu digest node).2]):=by
 have c1:=iI p hs;simp only[aJ]at c1;have hsl:p.addr.host.length<=274877906944:=by simp only[aL,aQ]at hs;omega
 have Hq:eF p.bD<=1099511627776:=by simp only[aL]at hs;omega
 have Oa:p.aC.length<=274877906944:=by simp only[aL,bP]at hs;omega
 have c2:=Dt mode;have c3:=zP tu p.addr.host (by omega);by_cases IY:(20:Int)<=(p.aC.length:Int)
 .rw [BA (.inl (by omega))];refine bM aG func271 ntmps271 ?_;have W:=IY;refine we ?_;exact aF results271
 by_cases hk:fG mode=0
 .rw [BA (.inr hk)];rw[hk]at c2;refine bM aG func271 ntmps271 ?_;have W:=IY;refine we ?_;exact aF results271
 have DT:¬(20<=p.aC.length\/fG mode=0):=by rintro(h|h);omega;exact hk h
 have hsz:=Mh tu p.addr.host;have jZ:=PM (tu:=tu) (digest:=digest) (node:=node) DT;have hgood:=Mk (tu:=tu) (digest:=digest) (node:=node) DT;have c5:=wP p.bD ⟨fG mode,(bY tu p.addr.host).1,p.addr.host,digest⟩ Hq (by simp only[jQ];omega);have h12:=FZ p.bD ⟨fG mode,(bY tu p.addr.host).1,p.addr.host,digest⟩;have c4:=λl' CQ hl2=>xL {p with aC:=l'} (p.aC.length:Int) (by omega) CQ hl2
 have hr:∀s,jD {p with aC:=p.aC++[s]} (p.aC.length:Int)=⟨fG s.mode,s.to,p.addr.host,s.digest⟩:=λs=>by simp[jD,fM]
 generalize hkm:fG mode=km at*;generalize bY tu p.addr.host=pa at*;obtain⟨a,ok⟩:=pa;simp only at c3 c5 h12 hsz jZ hgood;obtain⟨s0,hs0⟩:∃s:pR,s=⟨mode,a,digest,node,false,0,[]⟩:=⟨_,rfl⟩;obtain⟨l0,hl0⟩:∃l,l=p.aC++[s0]:=⟨_,rfl⟩;obtain⟨l3,hl3⟩:∃l:List pR,l=p.aC++[⟨mode,a,digest,node,true,2,[]⟩]:=⟨_,rfl⟩;have hap:p.aC.map vH++[[.int .i64 mode,.str a.host,.str a.path,.str digest,.int .i64 node,.bool false,.int .i64 0,.str []]]=l0.map vH:=by rw[hl0,hs0];simp
 have hg:l0[p.aC.length]? =some s0:=by rw[hl0];simp
 have VH:l0.length=p.aC.length+1:=by rw[hl0];simp
 have hset:∀h,(l0.map vH).set p.aC.length [.int .i64 (l0[p.aC.length]'h).mode,.str (l0[p.aC.length]'h).to.host,.str (l0[p.aC.length]'h).to.path,.str (l0[p.aC.length]'h).digest,.int .i64 (l0[p.aC.length]'h).node,.bool true,.int .i64 2,.str (l0[p.aC.length]'h).body]=l3.map vH:=by
  intro h;have e:l0[p.aC.length]'h=s0:=by rw[aE h]at hg;exact cQ hg
  rw[e,hl0,hl3,hs0,oY,oY,tI _ _ (by simp)];simp
 have c4:=c4 l0 (by rw[VH];omega) (by rw[VH];omega);rw[show jD {p with aC:=l0} (p.aC.length:Int)=⟨km,a,p.addr.host,digest⟩by rw[hl0,hr,hs0];simp[hkm]]at c4;simp only[aJ,dD]at c4;simp only[bN,dD]at c5;rw[<-hl3]at jZ;rw[<-hs0,<-hl0]at hgood;have VV:p.aC.length<l0.length:=by omega
 clear hs0 hl0 hl3 hr hkm DT;cases ok
 .rw [jZ (.inl rfl)];clear jZ hgood h12;refine bM aG func271 ntmps271 ?_;have W:=aA IY (aA hk (aA hg (aA hap VV)));refine we ?_;all_goals try(refine aR ?_;simp[aP,results271])
  all_goals exact hset _
 .rcases h12 with h|h
  .rw [hgood rfl h];rw[h]at c5;clear jZ hgood h;refine bM aG func271 ntmps271 ?_;have W:=aA IY (aA hk (aA hg (aA hap VV)));refine we ?_;all_goals try(refine aR ?_;simp[aP,results271])
   all_goals exact hset _
  .rw [jZ (.inr (by rw[h];decide))];rw[h]at c5;clear jZ hgood h;refine bM aG func271 ntmps271 ?_;have W:=aA IY (aA hk (aA hg (aA hap VV)));refine we ?_;all_goals try(refine aR ?_;simp[aP,results271])
   all_goals exact hset _
theorem Zz[aB prog](s t:bB):OkN prog 293 [.str s,.str t] (.int .i64 (Lib.compareBytes s t)):=
 qg (fn:=f293) (by kernel_rfl) (by decide+kernel) rfl (by decide+kernel) (by rfl) s t
theorem Ou[aB prog](s t:bB):Ok prog 241 [.str s,.str t] (.int .i64 (Lib.compareBytes s t)):=by refine bM aG func241 ntmps241 ?_;have c0:=Zz s t;refine aZ ?_;exact aF results241
theorem Dv[aB prog](s t:bB):Ok prog 175 [.str s,.str t] (.int .i64 (Lib.compareBytes s t)):=by refine bM aG func175 ntmps175 ?_;have c0:=Ou s t;refine aZ ?_;exact aF results175
def kG(a b:aD):Int:=if Lib.compareBytes a.host b.host≠0 then Lib.compareBytes a.host b.host else Lib.compareBytes a.path b.path
theorem Jb[aB prog](a b:aD):Ok prog 103 [.agg (aH a),.agg (aH b)] (.int .i64 (kG a b)):=by
 have c1:=Dv a.host b.host;have c2:=Dv a.path b.path;unfold kG;generalize Lib.compareBytes a.host b.host=x at*;generalize Lib.compareBytes a.path b.path=y at*;by_cases hx:x=0
 .refine bM aG func103 ntmps103 ?_;have W:=hx;refine we ?_;all_goals try(refine aR ?_;simp[aP,results103,hx])
 .refine bM aG func103 ntmps103 ?_;have W:=hx;refine we ?_;all_goals try(refine aR ?_;simp[aP,results103,hx])
theorem Ae:∀l:List UInt8,Op.bytesLess l l=false
 |[]=>rfl
 |x::l=>by simp[Op.bytesLess,Ae l,UInt8.lt_irrefl]
theorem Hu(a b:aD):kG a b=if a=b then 0 else if (Op.bytesLess a.host b.host || (a.host == b.host&&Op.bytesLess a.path b.path))=true then -1 else 1:=by
 unfold kG;obtain⟨h1,p1⟩:=a;obtain⟨h2,p2⟩:=b;simp only[aAx,aD.mk.injEq];by_cases e1:h1=h2
 .subst e1;by_cases e2:p1=p2
  .simp [e2]
  .have:=Ae h1;simp[e2,this]
 .cases hb:Op.bytesLess h1 h2<;>simp[e1,hb]
theorem Bq[aB prog](a b:aD):Ok prog 83 [.agg (aH a),.agg (aH b)] (.int .i64 (kG a b)):=by
 rw[Hu];have c1:=oG a b;by_cases he:a=b
 .subst he;simp only[aH,CT]at c1;refine bM aG func83 ntmps83 ?_;have c0:=c1;refine aZ ?_;exact aF results83
 .simp only[aH,he,decide_false]at c1;simp only[he,hM];cases h1:Op.bytesLess a.host b.host
  .by_cases h2:a.host=b.host
   .rw [h2]at c1;have h0:=Ae b.host;cases h3:Op.bytesLess a.path b.path
    .refine bM aG func83 ntmps83 ?_;have W:=aA h0 (aA h1 (aA h2 h3));have c0:=c1;refine we ?_;all_goals try(refine aR ?_;simp[aP,results83,h0,h1,h2,h3])
    .refine bM aG func83 ntmps83 ?_;have W:=aA h0 (aA h1 (aA h2 h3));have c0:=c1;refine we ?_;all_goals try(refine aR ?_;simp[aP,results83,h0,h1,h2,h3])
   .refine bM aG func83 ntmps83 ?_;have W:=aA h1 h2;have c0:=c1;refine we ?_;all_goals try(refine aR ?_;simp[aP,results83,h1,h2])
  .refine bM aG func83 ntmps83 ?_;have W:=h1;have c0:=c1;refine we ?_;all_goals try(refine aR ?_;simp[aP,results83,h1])
def wU(l:List dX)(a:aD):Nat:=(l.takeWhile λm=>decide (kG m.to a<0)).length
theorem Hw{a:aD}:∀{l:List dX} {k:Nat},k<=l.length->(∀x∈l.take k,kG x.to a<0)->(∀m,l[k]? =some m->¬kG m.to a<0)->wU l a=k
 |[],k,h,_,_=>by simp at h;subst h;rfl
 |m::l,0,_,_,h=>by simp[wU,h m rfl]
 |m::l,k+1,h0,h1,h2=>by have ih:=Hw (a:=a) (l:=l) (k:=k) (by simpa using h0) (λx hx=>h1 x (by simp[hx])) (λm hm=>h2 m (by simpa using hm));have:=h1 m (by simp);simp only[wU,takeWhile_cons,tA this,eN]at ih⊢;simpa using ih
def Cr(p:aI)(a:aD):dX:=if fE p.bD ⟨5,a,p.addr.host,[]⟩=1 then⟨a,false,0,[]⟩else⟨a,true,2,[]⟩
def wJ(p:aI)(a:aD)(k:Nat):List dX:=p.aO.take k++Cr p a::p.aO.drop k
def eT(p:aI)(a:aD):aI:=
 match p.aO[wU p.aO a]? with
 |some m=>if m.to=a then p else {p with aO:=wJ p a (wU p.aO a)}
 |none=>{p with aO:=wJ p a (wU p.aO a)}
end Go.Proofs.YthddijamfbfibaaGreatDoor
