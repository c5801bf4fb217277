/- Steps. No condition. -/
import Derived.Test.YtanobkmhbpjnpaaGreatDoorZQSR
set_option linter.all false
set_option maxRecDepth 4000
set_option maxHeartbeats 4000000
namespace Go.Proofs.YtanobkmhbpjnpaaGreatDoor
open Go.Aw Proofs.Tryz List IntKind
def qC(p:aF)(a:aR):Bool:=
 match p.aL.find? (mR a)with
 |some m=>m.done
 |none=>false
def yY(p:aF)(a:aR):Bool:=(fP p a).all (qC p)
def vS(p:aF)(a:aR):Bool:= !(fP p a).all (nP p)
def Ze{α:Type}{f:α->Bool}{l:List α}(k:Nat)(hk:k<l.length)(h:f l[k]=false):l.all f=false:=by
 cases hb:l.all f with
 |false=>rfl
 |true=>rw[fW]at hb;have:=hb l[k] (gR hk);rw[h]at this;cases this
def RQ{α:Type}{f:α->Bool}{l:List α}(h:∀x∈l,f x=true):l.all f=true:=fW.2 h
def Nc[aG prog][dG prog](p:aF)(a:aR)(hs:dS cB p.aL+aW a<=16777216):Ok prog 37 [.agg (aH .view p),.agg (aS a)] (.bool (yY p a)):=by
 obtain⟨hB,_⟩:=Iu p a hs;obtain⟨z1,_,_⟩:=Nb p a hs;have c0:=Df p _ hB a (by simp);have cm:=λb=>Ae p b (by simp only[aM,dS]at hs;omega)
 unfold yY;generalize fP p a=L at*;simp only[aS,aH]at c0 cm;have dF:(L.map aS).length=L.length:=by simp
 refine dN aK func37 ntmps37 ?_;refine bK ?_;refine aT (ι:={k:Nat // k<=L.length/\∀x∈L.take k,qC p x=true}) (λt o i=>⟨bP t [(12,.int .i64 i.1),(13,.aB),(14,.aB),(15,.aB),(6,.aB),(7,.aB)],o.take 3⟩)
  (λi=>L.length-i.1) ⟨0,by simp,by simp⟩ aP ?_
 rintro⟨k,hk,hpre⟩ K1 hK1;simp only[bP,cH,cQ]at hK1⊢;have hk1:=tQ (k:=k);by_cases hlt:k<L.length
 .have hg:=aE hlt;have c1:=cm L[k];have hnext:qC p L[k]=true->∀x∈L.take (k+1),qC p x=true:=λh=>fB hlt hpre h
  have lX:qC p L[k]=false->L.all (qC p)=false:=λh=>Ze k hlt h
  rcases oL (mR L[k]) p.aL with⟨hi,hf⟩|⟨j,hj,hi,hf⟩
  .have hd:qC p L[k]=false:=by unfold qC;rw[hf]
   rw[hi]at c1;have lI:=lX hd;have W:=aA hk1 (aA hg hlt);refine we ?_;all_goals try(refine bA ?_;simp[bB,results37,lI])
  .have hd:qC p L[k]=p.aL[j].done:=by unfold qC;rw[hf]
   rw[hi]at c1;have hgm:=aE hj;have hj0:¬(j:Int)<0:=by omega
   cases rA:p.aL[j].done
   .have lI:=lX (hd.trans rA);have W:=aA hk1 (aA hg (aA hlt (aA hgm (aA hj (aA hj0 rA)))));refine we ?_;all_goals try(refine bA ?_;simp[bB,results37,lI])
   .have hnx:=hnext (hd.trans rA);have W:=aA hk1 (aA hg (aA hlt (aA hgm (aA hj (aA hj0 rA)))));refine we ?_;exact hK1 _ ⟨k+1,by omega,hnx⟩ (aQ 3) (by simp only;omega)
 .have lI:L.all (qC p)=true:=RQ (by have:=hpre;rwa[eN (by omega)]at this);have W:=aA hk1 hlt;refine we ?_;all_goals try(refine bA ?_;simp[bB,results37,lI])
def Nf[aG prog][dG prog](p:aF)(a:aR)(hs:dS cB p.aL+aW a<=16777216):Ok prog 70 [.agg (aH .view p),.agg (aS a)] (.bool (yY p a)):=by
 obtain⟨hB,_⟩:=Iu p a hs;obtain⟨z1,_,_⟩:=Nb p a hs;have c0:=Dh p _ hB a (by simp);have cm:=λb=>BA p b (by simp only[aM,dS]at hs;omega)
 unfold yY;generalize fP p a=L at*;simp only[aS,aH]at c0 cm;have dF:(L.map aS).length=L.length:=by simp
 refine dN aK func70 ntmps70 ?_;refine bK ?_;refine aT (ι:={k:Nat // k<=L.length/\∀x∈L.take k,qC p x=true}) (λt o i=>⟨bP t [(6,.int .i64 i.1),(7,.aB)],o⟩)
  (λi=>L.length-i.1) ⟨0,by simp,by simp⟩ aP ?_
 rintro⟨k,hk,hpre⟩ K1 hK1;simp only[bP,cH,cQ]at hK1⊢;have hk1:=tQ (k:=k);by_cases hlt:k<L.length
 .have hg:=aE hlt;have c1:=cm L[k];have hnext:qC p L[k]=true->∀x∈L.take (k+1),qC p x=true:=λh=>fB hlt hpre h
  have lX:qC p L[k]=false->L.all (qC p)=false:=λh=>Ze k hlt h
  rcases oL (mR L[k]) p.aL with⟨hi,hf⟩|⟨j,hj,hi,hf⟩
  .have hd:qC p L[k]=false:=by unfold qC;rw[hf]
   rw[hi]at c1;have lI:=lX hd;have W:=aA hk1 (aA hg hlt);refine we ?_;all_goals try(refine bA ?_;simp[bB,results70,lI])
  .have hd:qC p L[k]=p.aL[j].done:=by unfold qC;rw[hf]
   rw[hi]at c1;have hgm:=aE hj;have hj0:¬(j:Int)<0:=by omega
   cases rA:p.aL[j].done
   .have lI:=lX (hd.trans rA);have W:=aA hk1 (aA hg (aA hlt (aA hgm (aA hj (aA hj0 rA)))));refine we ?_;all_goals try(refine bA ?_;simp[bB,results70,lI])
   .have hnx:=hnext (hd.trans rA);have W:=aA hk1 (aA hg (aA hlt (aA hgm (aA hj (aA hj0 rA)))));refine we ?_;exact hK1 _ ⟨k+1,by omega,hnx⟩ (aQ 3) (by simp only;omega)
 .have lI:L.all (qC p)=true:=RQ (by have:=hpre;rwa[eN (by omega)]at this);have W:=aA hk1 hlt;refine we ?_;all_goals try(refine bA ?_;simp[bB,results70,lI])
def Ng[aG prog][dG prog](p:aF)(a:aR)(hs:dS cB p.aL+aW a<=16777216):Ok prog 80 [.agg (aH .view p),.agg (aS a)] (.bool (vS p a)):=by
 obtain⟨hB,_⟩:=Iu p a hs;obtain⟨z1,_,hU⟩:=Nb p a hs;have c0:=Df p _ hB a (by simp);have cm:=λb=>Ae p b (by simp only[aM,dS]at hs;omega)
 unfold vS;generalize fP p a=L at*;simp only[aS,aH]at c0 cm;have dF:(L.map aS).length=L.length:=by simp
 refine dN aK func80 ntmps80 ?_;refine bK ?_;refine aT (ι:={k:Nat // k<=L.length/\∀x∈L.take k,nP p x=true}) (λt o i=>⟨bP t [(15,.int .i64 i.1),(16,.aB),(17,.aB),(18,.aB),(6,.aB),(7,.aB),(8,.aB),(9,.aB)],o.take 3⟩)
  (λi=>L.length-i.1) ⟨0,by simp,by simp⟩ aP ?_
 rintro⟨k,hk,hpre⟩ K1 hK1;simp only[bP,cH,cQ]at hK1⊢;have hk1:=tQ (k:=k);by_cases hlt:k<L.length
 .have hg:=aE hlt;have c1:=cm L[k];have hnext:nP p L[k]=true->∀x∈L.take (k+1),nP p x=true:=λh=>fB hlt hpre h
  have lX:nP p L[k]=false->L.all (nP p)=false:=λh=>Ze k hlt h
  rcases oL (mR L[k]) p.aL with⟨hi,hf⟩|⟨j,hj,hi,hf⟩
  .have hd:nP p L[k]=false:=by unfold nP;rw[hf]
   rw[hi]at c1;have lI:=lX hd;have W:=aA hk1 (aA hg hlt);refine we ?_;all_goals try(refine bA ?_;simp[bB,results80,lI])
  .have hd:nP p L[k]=if p.aL[j].done=true/\p.aL[j].code=1 then(bQ p.aL[j].body L[k].bN).2.2 else false:=by unfold nP;rw[hf]
   rw[hi]at c1;have hgm:=aE hj;have hj0:¬(j:Int)<0:=by omega
   have hmz:=dJ cB (gR hj);have hha:=hB.bN _ (hU _ (gR hlt));simp only[aM,dS]at hs;simp only[cB,aW]at hmz;have cp:=vR p.aL[j].body L[k].bN (by omega) hha;cases rA:p.aL[j].done
   .have lI:=lX (by rw[hd,rA];simp);have W:=aA hk1 (aA hg (aA hlt (aA hgm (aA hj (aA hj0 rA)))));refine we ?_;all_goals try(refine bA ?_;simp[bB,results80,lI])
   .by_cases qi:p.aL[j].code=1
    .rw [eM ⟨rA,qi⟩]at hd;generalize bQ p.aL[j].body L[k].bN=u at*;obtain⟨g,d,c⟩:=u;simp only at hd cp;cases c
     .have lI:=lX hd;have W:=aA hk1 (aA hg (aA hlt (aA hgm (aA hj (aA hj0 (aA rA qi))))));refine we ?_;all_goals try(refine bA ?_;simp[bB,results80,lI])
     .have hnx:=hnext hd;have W:=aA hk1 (aA hg (aA hlt (aA hgm (aA hj (aA hj0 (aA rA qi))))));refine we ?_;exact hK1 _ ⟨k+1,by omega,hnx⟩ (aQ 3) (by simp only;omega)
    .have lI:=lX (by rw[hd,eC (λh=>qi h.2)])
     have W:=aA hk1 (aA hg (aA hlt (aA hgm (aA hj (aA hj0 (aA rA qi))))));refine we ?_;all_goals try(refine bA ?_;simp[bB,results80,lI])
 .have lI:L.all (nP p)=true:=RQ (by have:=hpre;rwa[eN (by omega)]at this);have W:=aA hk1 hlt;refine we ?_;all_goals try(refine bA ?_;simp[bB,results80,lI])
def Nh[aG prog][dG prog](p:aF)(a:aR)(hs:dS cB p.aL+aW a<=16777216):Ok prog 120 [.agg (aH .view p),.agg (aS a)] (.bool (vS p a)):=by
 obtain⟨hB,_⟩:=Iu p a hs;obtain⟨z1,_,hU⟩:=Nb p a hs;have c0:=Dh p _ hB a (by simp);have cm:=λb hb=>Ir p _ hB b hb
 unfold vS;generalize fP p a=L at*;simp only[aS,aH]at c0 cm;have dF:(L.map aS).length=L.length:=by simp
 refine dN aK func120 ntmps120 ?_;refine bK ?_;refine aT (ι:={k:Nat // k<=L.length/\∀x∈L.take k,nP p x=true}) (λt o i=>⟨bP t [(6,.int .i64 i.1),(7,.aB),(8,.aB)],o.take 3⟩)
  (λi=>L.length-i.1) ⟨0,by simp,by simp⟩ aP ?_
 rintro⟨k,hk,hpre⟩ K1 hK1;simp only[bP,cH,cQ]at hK1⊢;have hk1:=tQ (k:=k);by_cases hlt:k<L.length
 .have hg:=aE hlt;have c1:=cm L[k] (hU _ (gR hlt));have hnext:nP p L[k]=true->∀x∈L.take (k+1),nP p x=true:=λh=>fB hlt hpre h
  have lX:nP p L[k]=false->L.all (nP p)=false:=λh=>Ze k hlt h
  generalize jU p L[k]=g at*;cases hd:nP p L[k]
  .have lI:=lX hd;rw[hd]at c1;have W:=aA hk1 (aA hg hlt);refine we ?_;all_goals try(refine bA ?_;simp[bB,results120,lI])
  .have hnx:=hnext hd;rw[hd]at c1;have W:=aA hk1 (aA hg hlt);refine we ?_;exact hK1 _ ⟨k+1,by omega,hnx⟩ (aQ 3) (by simp only;omega)
 .have lI:L.all (nP p)=true:=RQ (by have:=hpre;rwa[eN (by omega)]at this);have W:=aA hk1 hlt;refine we ?_;all_goals try(refine bA ?_;simp[bB,results120,lI])
end Go.Proofs.YtanobkmhbpjnpaaGreatDoor
