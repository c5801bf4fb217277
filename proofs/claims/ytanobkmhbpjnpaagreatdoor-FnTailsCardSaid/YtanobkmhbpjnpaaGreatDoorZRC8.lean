/- Steps. No condition. -/
import Derived.Test.YtanobkmhbpjnpaaGreatDoorZQRC4
set_option linter.all false
set_option maxRecDepth 8000
set_option maxHeartbeats 8000000
namespace Go.Proofs.YtanobkmhbpjnpaaGreatDoor
open Go.Aw Proofs.Tryz List IntKind
def Gz[aG prog][fI prog][dG prog][qR prog](p:aF)(l:List jV)(w:Bool)(hs:aM p<=536870912)(h6:l.length<=6)(hx:∀x∈l,x.text.length<=60):
  Ob prog 77 [.vX (aH .own p) (aH .own (jN p l w)),.view (.sl .view 2 (l.map nR)),.view (.bool w)] (.iL []):=by
 have hsl:dS nO p.aD<=1073741824:=by simp only[aM,dS]at*;omega
 have hsb:aV p.aC<=536870912:=by simp only[aM]at hs;omega
 have zh:p.log.length<=536870912:=by simp only[aM,dS]at hs;omega
 have hqu:p.bT.length<=536870912:=by simp only[aM,dS]at hs;omega
 have c1:=QK p hsl;obtain⟨hb1,hb2⟩:=Ey p;have hb1':(eX p).length<=536870912:=by simp only[aM,dS]at hs;omega
 have c2:=OC p.aC (eX p) l (by omega) h6 (λx hm=>by have:=hx x hm;omega) (by omega) (λx hm=>by have:=hb2 x hm;omega) (zH p);obtain⟨z1,z2,z3,z4⟩:=CP 60 p.aC (eX p) l (by omega) h6 hx (zH p) (by omega) l.length (eJ _);have hend:uU p.aC (eX p) l l.length=fQ p.aC (eX p) l:=by simp[uU]
 rw[hend]at z1 z2 z3 z4;have c3:=QN (fQ p.aC (eX p) l).2.1 (by omega);obtain⟨y1,y2⟩:=Ih (fQ p.aC (eX p) l).2.1;unfold jN;clear hb2 hx hend;generalize eX p=ss at*;generalize fQ p.aC ss l=g at*;obtain⟨b,wr,lg⟩:=g;simp only at c2 c3 z1 z2 z3 z4 y1 y2⊢;generalize pF wr=tk at*;simp only[aH,aZ]at c1 c2;refine uQ aK func77 ntmps77 ?_;refine bZ ?_;obtain⟨Q,hQ⟩:∃Q:Nat->aF,∀k,Q k={p with aC:=b,log:=pO p.log (lg.take k)}:=⟨_,λ_=>rfl⟩;have hQ0:Q 0={p with aC:=b}:=by rw[hQ];rfl
 have hQn:Q lg.length={p with aC:=b,log:=pO p.log lg}:=by rw[hQ,DM]
 have hQl:∀k,k<=lg.length->(Q k).log.length<=1099511627776:=λk hk=>by rw[hQ];have:=KV p.log (lg.take k);simp only[pL]at this⊢;omega
 have hQs:∀k (h:k<lg.length),Q (k+1)={Q k with log:=mO (Q k).log lg[k]}:=λk h=>by rw[hQ,hQ,Ii _ _ _ h]
 refine aT (ι:={k:Nat // k<=lg.length}) (λt o i=>⟨bP t [(31,.int .i64 i.1),(10,.aB),(11,.aB),(15,.aB),(18,.aB),(21,.aB),(22,.aB),(26,.aB)],[⟨true,true,22,2,[Fj 1 (Q i.1)]⟩]++Fh (Q i.1)++[⟨false,false,0,1,[]⟩,⟨true,false,1,1,ss.map (gK .own)⟩,⟨true,false,4,1,p.aC.aJ.map (gU .own)⟩,⟨true,false,1,1,p.aC.bD.map nM⟩,⟨true,false,1,1,lg.map eD⟩]⟩)
  (λi=>lg.length-i.1) ⟨0,by simp⟩ ?_ ?_
 .simp only[hQ0,Fj,Fh,bP,cH,cQ,cW,eA];exact aMx rfl rfl ⟨rfl,rfl⟩ (by simp;rfl) rfl rfl ⟨rfl,rfl⟩ (by simp;rfl) rfl (by simp) (by simp) (by simp)
 rintro⟨k,hk⟩ K1 hK1;have hk1:=tQ (k:=k);by_cases hlt:k<lg.length
 .have hg:=aE hlt;have hnext:=hQs k hlt;have c4:=FZ (Q k) lg[k] (hQl k hk);rw[<-hnext]at c4;have hK2:=hK1;clear hQ hQ0 hQn hQl hQs hnext;generalize hq':Q (k+1)=q' at*;generalize hq:Q k=q at*;simp only[bP,cH,cQ,cW,eA,Fh,Fj]at hK1⊢;simp only[aH]at c4;have W:=aA hk1 (aA hg hlt);repeat' first|refine wg ?_|(refine nx ?_;refine sg (hc:=c4) (h:=?_))|(refine sq ?_ ?_<;>intro hc<;>try exact hc.elim)|fail
  refine hK2 _ ⟨k+1,by omega⟩ ?_ (by simp only;omega);exact aH6 (q:=q') rfl (by simp[Fh,Fj,hq']) (by simp[OG]) (by simp[OG]) (by simp) (by simp) (by simp[eU])
 .have hkl:k=lg.length:=by omega
  subst hkl;simp only[hQn,bP,cH,cQ,cW,eA,Fh,Fj]at hK1⊢;clear hQ hQ0 hQn hQl hQs hK1;cases w
  .have W:=hk1;refine wl ?_;all_goals (try exact nL (by simp[jF,fK,fH,rowOf,results77];done))
  .rw [eM rfl];have hbq:(tk.length+p.bT.length)*64<=140737488355328:=by omega
   have W:=aA hk1 hbq;refine wl ?_;all_goals try(refine⟨by first|exact .inr rfl|exact .inl rfl,?_⟩;simp[jF,fK,fH,rowOf,results77])
   all_goals (rw[<-pP];exact sU _)
end Go.Proofs.YtanobkmhbpjnpaaGreatDoor
