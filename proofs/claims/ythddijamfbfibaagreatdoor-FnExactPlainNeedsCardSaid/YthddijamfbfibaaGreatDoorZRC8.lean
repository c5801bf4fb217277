/- Proved here: steps towards the statement of this claim. No condition. -/
import Derived.Test.YthddijamfbfibaaGreatDoorZQRC6
set_option linter.all false
set_option maxRecDepth 8000
set_option maxHeartbeats 8000000
namespace Go.Proofs.YthddijamfbfibaaGreatDoor
open Go.Aw Proofs.Tryz List IntKind
theorem FW[aB prog][dM prog][bQ prog][oO prog](p:aI)(l:List jW)(w:Bool)(hs:aL p<=536870912)(h6:l.length<=6)(hx:∀x∈l,x.text.length<=60):
  Lf prog 211 [.uN (aJ .own p) (aJ .own (lX p l w)),.view (.sl .view 2 (l.map lS)),.view (.bool w)] (.gM []):=by
 have hsl:bP lJ p.aC<=1073741824:=by simp only[aL,bP]at*;omega
 have hsb:aU p.builder<=536870912:=by simp only[aL]at hs;omega
 have xg:p.log.length<=536870912:=by simp only[aL,bP]at hs;omega
 have hqu:p.queue.length<=536870912:=by simp only[aL,bP]at hs;omega
 have c1:=Qt p hsl;obtain⟨hb1,hb2⟩:=DJ p;have hb1':(dG p).length<=536870912:=by simp only[aL,bP]at hs;omega
 have c2:=Oj p.builder (dG p) l (by omega) h6 (λx hm=>by have:=hx x hm;omega) (by omega) (λx hm=>by have:=hb2 x hm;omega) (xU p);obtain⟨z1,z2,z3,z4⟩:=Cg 60 p.builder (dG p) l (by omega) h6 hx (xU p) (by omega) l.length (eC _);have hend:tH p.builder (dG p) l l.length=eH p.builder (dG p) l:=by simp[tH]
 rw[hend]at z1 z2 z3 z4;have c3:=Qv (eH p.builder (dG p) l).2.1 (by omega);obtain⟨y1,y2⟩:=He (eH p.builder (dG p) l).2.1;unfold lX;clear hb2 hx hend;generalize dG p=ss at*;generalize eH p.builder ss l=g at*;obtain⟨b,wr,lg⟩:=g;simp only at c2 c3 z1 z2 z3 z4 y1 y2⊢;generalize vS wr=tk at*;simp only[aJ,aV]at c1 c2;refine sN aG func211 ntmps211 ?_;refine gV ?_;obtain⟨Q,hQ⟩:∃Q:Nat->aI,∀k,Q k={p with builder:=b,log:=nP p.log (lg.take k)}:=⟨_,λ_=>rfl⟩;have hQ0:Q 0={p with builder:=b}:=by rw[hQ];rfl
 have hQn:Q lg.length={p with builder:=b,log:=nP p.log lg}:=by rw[hQ,vA]
 have hQl:∀k,k<=lg.length->(Q k).log.length<=1099511627776:=λk hk=>by rw[hQ];have:=KA p.log (lg.take k);simp only[oT]at this⊢;omega
 have hQs:∀k (h:k<lg.length),Q (k+1)={Q k with log:=kC (Q k).log lg[k]}:=λk h=>by rw[hQ,hQ,Hf _ _ _ h]
 refine aM (ι:={k:Nat // k<=lg.length}) (λt o i=>⟨bC t [(31,.int .i64 i.1),(10,.undef),(11,.undef),(15,.undef),(18,.undef),(21,.undef),(22,.undef),(26,.undef)],[⟨true,true,22,2,[zK 1 (Q i.1)]⟩]++zJ (Q i.1)++[⟨false,false,0,1,[]⟩,⟨true,false,1,1,ss.map (dZ .own)⟩,⟨true,false,4,1,p.builder.nodes.map (fA .own)⟩,⟨true,false,1,1,p.builder.opens.map mM⟩,⟨true,false,1,1,lg.map dC⟩]⟩)
  (λi=>lg.length-i.1) ⟨0,by simp⟩ ?_ ?_
 .simp only[hQ0,zK,zJ,bC,cW,cU,eA,eM];exact aL2 rfl rfl ⟨rfl,rfl⟩ (by simp;rfl) rfl rfl ⟨rfl,rfl⟩ (by simp;rfl) rfl (by simp) (by simp) (by simp)
 rintro⟨k,hk⟩ K1 hK1;have hk1:=oQ (k:=k);by_cases hlt:k<lg.length
 .have hg:=aE hlt;have hnext:=hQs k hlt;have c4:=Fu (Q k) lg[k] (hQl k hk);rw[<-hnext]at c4;have hK2:=hK1;clear hQ hQ0 hQn hQl hQs hnext;generalize hq':Q (k+1)=q' at*;generalize hq:Q k=q at*;simp only[bC,cW,cU,eA,eM,zJ,zK]at hK1⊢;simp only[aJ]at c4;have W:=aA hk1 (aA hg hlt);repeat' first|refine wg ?_|(refine nx ?_;refine sg (hc:=c4) (h:=?_))|(refine sq ?_ ?_<;>intro hc<;>try exact hc.elim)|fail
  refine hK2 _ ⟨k+1,by omega⟩ ?_ (by simp only;omega);exact aHx (q:=q') rfl (by simp[zJ,zK,hq']) (by simp[Oq]) (by simp[Oq]) (by simp) (by simp) (by simp[dB])
 .have hkl:k=lg.length:=by omega
  subst hkl;simp only[hQn,bC,cW,cU,eA,eM,zJ,zK]at hK1⊢;clear hQ hQ0 hQn hQl hQs hK1;cases w
  .have W:=hk1;refine wl ?_;all_goals (try exact kP (by simp[gF,dJ,dH,rowOf,results211];done))
  .rw [eK rfl];have hbq:(tk.length+p.queue.length)*64<=140737488355328:=by omega
   have W:=aA hk1 hbq;refine wl ?_;all_goals try(refine⟨by first|exact .inr rfl|exact .inl rfl,?_⟩;simp[gF,dJ,dH,rowOf,results211])
   all_goals (rw[<-oY];exact mO _)
end Go.Proofs.YthddijamfbfibaaGreatDoor
