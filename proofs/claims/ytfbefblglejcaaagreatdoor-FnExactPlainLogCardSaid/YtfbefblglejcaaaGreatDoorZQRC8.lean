/- Proved here: steps towards the statement of this claim. No condition. -/
import Derived.Test.YtfbefblglejcaaaGreatDoorZQRC8p
set_option linter.all false
set_option maxRecDepth 8000
set_option maxHeartbeats 8000000
namespace Go.Proofs.YtfbefblglejcaaaGreatDoor
open Go.Aw Proofs.Tryz List IntKind
theorem FH[aC prog][dL prog][bP prog][oK prog](p:aG)(l:List jT)(w:Bool)(hs:aI p<=536870912)(h6:l.length<=6)(hx:∀x∈l,x.text.length<=60):
  MP prog 200 [.uI (aH .own p) (aH .own (lN p l w)),.view (.sl .view 2 (l.map lI)),.view (.bool w)] (.gT []):=by
 have hsl:bQ kZ p.aB<=1073741824:=by simp only[aI,bQ]at*;omega
 have hsb:aT p.builder<=536870912:=by simp only[aI]at hs;omega
 have qf:p.log.length<=536870912:=by simp only[aI,bQ]at hs;omega
 have hqu:p.queue.length<=536870912:=by simp only[aI,bQ]at hs;omega
 have c1:=PV p hsl;obtain⟨hb1,hb2⟩:=Dr p;have hb1':(dG p).length<=536870912:=by simp only[aI,bQ]at hs;omega
 have c2:=NL p.builder (dG p) l (by omega) h6 (λx hm=>by have:=hx x hm;omega) (by omega) (λx hm=>by have:=hb2 x hm;omega) (xN p);obtain⟨z1,z2,z3,z4⟩:=BQ 60 p.builder (dG p) l (by omega) h6 hx (xN p) (by omega) l.length (eE _);have hend:sU p.builder (dG p) l l.length=eF p.builder (dG p) l:=by simp[sU]
 rw[hend]at z1 z2 z3 z4;have c3:=PX (eF p.builder (dG p) l).2.1 (by omega);obtain⟨y1,y2⟩:=GH (eF p.builder (dG p) l).2.1;unfold lN;clear hb2 hx hend;generalize dG p=ss at*;generalize eF p.builder ss l=g at*;obtain⟨b,wr,lg⟩:=g;simp only at c2 c3 z1 z2 z3 z4 y1 y2⊢;generalize vN wr=tk at*;simp only[aH,aU]at c1 c2;refine sG aF func200 ntmps200 ?_;refine iF ?_;obtain⟨Q,hQ⟩:∃Q:Nat->aG,∀k,Q k={p with builder:=b,log:=nL p.log (lg.take k)}:=⟨_,λ_=>rfl⟩;have hQ0:Q 0={p with builder:=b}:=by rw[hQ];rfl
 have hQn:Q lg.length={p with builder:=b,log:=nL p.log lg}:=by rw[hQ,At]
 have hQl:∀k,k<=lg.length->(Q k).log.length<=1099511627776:=λk hk=>by rw[hQ];have:=Kh p.log (lg.take k);simp only[oS]at this⊢;omega
 have hQs:∀k (h:k<lg.length),Q (k+1)={Q k with log:=jY (Q k).log lg[k]}:=λk h=>by rw[hQ,hQ,GI _ _ _ h]
 refine aO (ι:={k:Nat // k<=lg.length}) (λt o i=>⟨bC t [(31,.int .i64 i.1),(10,.undef),(11,.undef),(15,.undef),(18,.undef),(21,.undef),(22,.undef),(26,.undef)],[⟨true,true,22,2,[zF 1 (Q i.1)]⟩]++zD (Q i.1)++[⟨false,false,0,1,[]⟩,⟨true,false,1,1,ss.map (dZ .own)⟩,⟨true,false,4,1,p.builder.nodes.map (fA .own)⟩,⟨true,false,1,1,p.builder.opens.map mG⟩,⟨true,false,1,1,lg.map bW⟩]⟩)
  (λi=>lg.length-i.1) ⟨0,by simp⟩ ?_ ?_
 .simp only[hQ0,zF,zD,bC,cW,cU,eA,eM];exact aJ3 rfl rfl ⟨rfl,rfl⟩ (by simp;rfl) rfl rfl ⟨rfl,rfl⟩ (by simp;rfl) rfl (by simp) (by simp) (by simp)
 rintro⟨k,hk⟩ K1 hK1;have hk1:=oQ (k:=k);by_cases hlt:k<lg.length
 .have hg:=aE hlt;have hnext:=hQs k hlt;have c4:=EX (Q k) lg[k] (hQl k hk);rw[<-hnext]at c4;have hK2:=hK1;clear hQ hQ0 hQn hQl hQs hnext;generalize hq':Q (k+1)=q' at*;generalize hq:Q k=q at*;simp only[bC,cW,cU,eA,eM,zD,zF]at hK1⊢;simp only[aH]at c4;have W:=aA hk1 (aA hg hlt);repeat' first|refine wg ?_|(refine nx ?_;refine sg (hc:=c4) (h:=?_))|(refine sq ?_ ?_<;>intro hc<;>try exact hc.elim)|fail
  refine hK2 _ ⟨k+1,by omega⟩ ?_ (by simp only;omega);exact aGc (q:=q') rfl (by simp[zD,zF,hq']) (by simp[NQ]) (by simp[NQ]) (by simp) (by simp) (by simp[dC])
 .have hkl:k=lg.length:=by omega
  subst hkl;simp only[hQn,bC,cW,cU,eA,eM,zD,zF]at hK1⊢;clear hQ hQ0 hQn hQl hQs hK1;cases w
  .have W:=hk1;refine wl ?_;all_goals (try exact kH (by simp[gF,dI,dH,rowOf,results200];done))
  .rw [eK rfl];have hbq:(tk.length+p.queue.length)*64<=140737488355328:=by omega
   have W:=aA hk1 hbq;refine wl ?_;all_goals try(refine⟨by first|exact .inr rfl|exact .inl rfl,?_⟩;simp[gF,dI,dH,rowOf,results200])
   all_goals (rw[<-oT];exact mH _)
def NR:bB:=[101,114,114,111,114]
def lT(p:aG)(code:bB)(w:Bool):aG:=
 if (fZ code).2=true then lN p (fZ code).1 w else {p with log:=jY p.log NR}
theorem BV[aC prog][dL prog][bP prog][oK prog](p:aG)(code:bB)(w:Bool)(hs:aI p<=536870912)(hc:code.length<=1073741824):Ok prog 147 [.agg (aH .view p),.str code,.bool w] (.agg (aH .own (lT p code w))):=by
 have c1:=iG p (by omega);have c2:=BS code hc;have qf:p.log.length<=536870912:=by simp only[aI,bQ]at hs;omega
 obtain⟨b1,b2⟩:=zX code;have c3:=EX p NR (by omega);have c4:=FH p (fZ code).1 w hs b1 b2;unfold lT;generalize fZ code=g at*;obtain⟨l,ok⟩:=g;simp only at c2 c4⊢;generalize lN p l w=r at*;simp only[aH,NR]at c1 c3 c4⊢;cases ok
 .rw [cX (by simp)];refine bM aF func147 ntmps147 ?_;have W:=trivial;repeat' first|refine wg ?_|(refine nx ?_;refine sg (hc:=c3) (h:=?_))|(refine sq ?_ ?_<;>intro hc<;>try exact hc.elim)|fail
  exact aD results147
 .rw [eK rfl];refine bM aF func147 ntmps147 ?_;have W:=trivial;repeat' first|refine wg ?_|(refine nx ?_;refine sg (hc:=c4) (h:=?_))|(refine sq ?_ ?_<;>intro hc<;>try exact hc.elim)|fail
  exact aD results147
theorem OZ(l:List bB)(h:¬l.length<40):∀ss:List bB,nL l ss=l
 |[]=>rfl
 |s::ss=>by
  show nL (jY l s) ss=l;have:jY l s=l:=by unfold jY;rw[cX h]
  rw[this];exact OZ l h ss
theorem ja(l ss:List bB)(k:Nat)(h:¬(nL l (ss.take k)).length<40):nL l (ss.take k)=nL l ss:=by
 have e:nL l ss=nL (nL l (ss.take k)) (ss.drop k):=by unfold nL;rw[<-Fk,oA]
 rw[e,OZ _ h]
theorem BX[aC prog][dL prog][bP prog][oK prog](p:aG)(code:bB)(w:Bool)(hs:aI p<=536870912)(hc:code.length<=1073741824):Ok prog 112 [.agg (aH .view p),.str code,.bool w] (.agg (aH .own (lT p code w))):=by
 have c1:=gK p (by omega);have c2:=BR code hc;have qf:p.log.length<=536870912:=by simp only[aI,bQ]at hs;omega
 obtain⟨b1,b2⟩:=zX code;unfold lT;generalize fZ code=g at*;obtain⟨l,ok⟩:=g;simp only at c2 b1 b2⊢;cases ok
 .rw [cX (by simp)];simp only[aH,NR]at c1⊢;clear b1 b2;by_cases h:p.log.length<40
  .have hi:(p.log.length:Int)<40:=by omega
   obtain⟨l1,hl1⟩:∃l1,l1=p.log++[[101,114,114,111,114]]:=⟨_,rfl⟩;have hap:p.log.map bW++[[.str [101,114,114,111,114]]]=l1.map bW:=by rw[hl1];simp
   have e:jY p.log [101,114,114,111,114]=l1:=by unfold jY;rw[eK h,hl1]
   rw[e];clear e hl1;refine bM aF func112 ntmps112 ?_;have W:=aA hi (aA hap qf);refine wl ?_;exact aD results112
  .have hi:¬(p.log.length:Int)<40:=by omega
   have e:jY p.log [101,114,114,111,114]=p.log:=by unfold jY;rw[cX h]
   rw[e];clear e;refine bM aF func112 ntmps112 ?_;have W:=hi;refine wl ?_;exact aD results112
 rw[eK rfl];have hsl:bQ kZ p.aB<=1073741824:=by simp only[aI,bQ]at*;omega
 have hsb:aT p.builder<=536870912:=by simp only[aI]at hs;omega
 have hqu:p.queue.length<=536870912:=by simp only[aI,bQ]at hs;omega
 have c3:=FC p hsl;obtain⟨hb1,hb2⟩:=Dr p;have hb1':(dG p).length<=536870912:=by simp only[aI,bQ]at hs;omega
 have c4:=Eb p.builder (dG p) l (by omega) b1 (λx hm=>by have:=b2 x hm;omega) (by omega) (λx hm=>by have:=hb2 x hm;omega) (xN p);obtain⟨z1,z2,z3,z4⟩:=BQ 60 p.builder (dG p) l (by omega) b1 b2 (xN p) (by omega) l.length (eE _);have hend:sU p.builder (dG p) l l.length=eF p.builder (dG p) l:=by simp[sU]
 rw[hend]at z1 z2 z3 z4;have c5:=PW (eF p.builder (dG p) l).2.1 (by omega);obtain⟨y1,y2⟩:=GH (eF p.builder (dG p) l).2.1;unfold lN;clear hb2 b2 hend;generalize dG p=ss at*;generalize eF p.builder ss l=g at*;obtain⟨b,wr,lg⟩:=g;simp only at c4 c5 z1 z2 z3 z4 y1 y2⊢;generalize vN wr=tk at*;simp only[aH,aU]at c1 c3 c4;refine bM aF func112 ntmps112 ?_;refine iF ?_;obtain⟨Q,hQ⟩:∃Q:Nat->List bB,∀k,Q k=nL p.log (lg.take k):=⟨_,λ_=>rfl⟩;have hQ0:Q 0=p.log:=by rw[hQ];rfl
 have hQn:∀k,(¬k<lg.length\/¬(Q k).length<40)->nL p.log lg=Q k:=λk h=>by
  rw[hQ]at h⊢;rcases h with h|h
  .rw [cY (by omega)]
  .rw [ja _ _ _ h]
 have hQl:∀k,(Q k).length<=536870918:=λk=>by rw[hQ];have:=Kh p.log (lg.take k);simp only[oS]at this⊢;omega
 have hQs:∀k (h:k<lg.length),(Q k).length<40->Q (k+1)=Q k++[lg[k]]:=λk h h4=>by rw[hQ,GI _ _ _ h,<-hQ];unfold jY;rw[eK h4]
 refine aO (ι:={q:Nat×Nat // q.1<=lg.length/\1<=q.2}) (λt o i=>⟨bC t [(13,.int .i64 i.1.1),(15,.undef)],o.take 12++[⟨true,false,1,i.1.2,(Q i.1.1).map bW⟩,⟨true,true,22,0,[[.str p.addr.host,.str p.addr.path,.bool p.bD.isSet,.obj 2 1,.obj 3 1,.obj 4 1,.str p.bD.tK,.str p.tok.rest,.obj 5 1,.bool p.ended,.obj 17 1,.obj 18 1,.obj 8 1,.obj 9 1,.obj 10 1,.int .i64 p.block,.int .i64 p.inline,.int .i64 p.deferred,.int .i64 p.iA,.obj 11 1,.obj 12 i.1.2,.bool p.oW]]⟩]++o.drop 14⟩)
  (λi=>lg.length-i.1.1) ⟨(0,1),by simp,by simp⟩ (aJ (by simp[hQ0]) (by simp)) ?_
 rintro⟨⟨k,v⟩,hk,hv⟩ K1 hK1;simp only at hk hv;simp only[bC,cW,cU,eL,fX,pC,AI,eA,eM]at hK1⊢;have hk1:=oQ (k:=k);have hl1:=hQl k;have aGg:=hQn k;have ZF:=hQs k;clear hQn hQl hQs hQ0 hQ;by_cases rC:k<lg.length/\(Q k).length<40
 .obtain ⟨hlt,LU⟩:=rC;have hg:=aE hlt;have hnext:=ZF hlt LU;have aUp:((Q k).length:Int)<40:=by omega
  clear ZF aGg;generalize hqk:Q k=q at*;have W:=aA hk1 (aA hg (aA hlt (aA aUp hl1)));refine wl ?_;all_goals refine hK1 _ ⟨(k+1,v+1),by simp only;omega,by simp only;omega⟩ (aV 20 ?_ (by simp) (by simp) (by simp[dC])) (by simp only;omega)
  all_goals simp[hnext]
 .have hfin:=aGg (by omega);have hcase:¬k<lg.length\/(k<lg.length/\¬((Q k).length:Int)<40):=by omega
  rw[hfin];clear ZF aGg hK1 rC hfin;generalize Q k=q at*;have hbq:(tk.length+p.queue.length)*64<=140737488355328:=by omega
  rcases hcase with hlt|⟨hlt,LU⟩
  .cases w
   .have W:=aA hk1 hlt;refine wl ?_;exact aD results112
   .rw [eK rfl];have W:=aA hk1 (aA hbq hlt);refine wl ?_;all_goals try(refine aQ ?_;simp[aP,results112])
    all_goals (rw[<-oT];exact mH _)
  .cases w
   .have W:=aA hk1 (aA hlt LU);refine wl ?_;exact aD results112
   .rw [eK rfl];have W:=aA hk1 (aA hbq (aA hlt LU));refine wl ?_;all_goals try(refine aQ ?_;simp[aP,results112])
    all_goals (rw[<-oT];exact mH _)
end Go.Proofs.YtfbefblglejcaaaGreatDoor
