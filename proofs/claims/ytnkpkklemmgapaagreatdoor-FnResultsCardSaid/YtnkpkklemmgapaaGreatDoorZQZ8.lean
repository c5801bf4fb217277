/- Proved here: steps towards the statement of this claim. No condition. -/
import Derived.Test.YtnkpkklemmgapaaGreatDoorZQZ5
set_option linter.all false
set_option maxRecDepth 4000
set_option maxHeartbeats 4000000
namespace Go.Proofs.YtnkpkklemmgapaaGreatDoor
open Go.Aw Proofs.Tryz List IntKind
def wS(p:aC)(a:aK):Bool:=
 match p.aN.find? (mP a)with
 |some m=>m.done
 |none=>false
def Dn(p:aC)(a:aK):Bool:=(gJ p a).all (wS p)
def xQ(p:aC)(a:aK):Bool:= !(gJ p a).all (qR p)
theorem aDt{α:Type}{f:α->Bool}{l:List α}(k:Nat)(hk:k<l.length)(h:f l[k]=false):l.all f=false:=by
 cases hb:l.all f with
 |false=>rfl
 |true=>rw[fW]at hb;have:=hb l[k] (hI hk);rw[h]at this;cases this
theorem yc{α:Type}{f:α->Bool}{l:List α}(h:∀x∈l,f x=true):l.all f=true:=fW.2 h
theorem Kn[aB prog][dY prog](p:aC)(a:aK)(hs:bV bI p.aN+aP a<=16777216):Ok prog 154 [.agg (aQ .view p),.agg (bC a)] (.bool (Dn p a)):=by
 obtain⟨hB,_⟩:=Qp p a hs;obtain⟨z1,_,_⟩:=YJ p a hs;have c0:=AB p _ hB a (by simp);have cm:=λb=>yO p b (by simp only[aM,bV]at hs;omega)
 unfold Dn;generalize gJ p a=L at*;simp only[bC,aQ]at c0 cm;have hlen:(L.map bC).length=L.length:=by simp
 refine dL aO func154 ntmps154 ?_;refine dH ?_;refine aI (ι:={k:Nat // k<=L.length/\∀x∈L.take k,wS p x=true}) (λt o i=>⟨bH t [(6,.int .i64 i.1),(7,.undef)],o⟩)
  (λi=>L.length-i.1) ⟨0,by simp,by simp⟩ aG ?_
 rintro⟨k,hk,hpre⟩ K1 hK1;simp only[bH,cH,cJ]at hK1⊢;have hk1:=rE (k:=k);by_cases hlt:k<L.length
 .have hg:=aE hlt;have c1:=cm L[k];have hnext:wS p L[k]=true->∀x∈L.take (k+1),wS p x=true:=λh=>gB hlt hpre h
  have pU:wS p L[k]=false->L.all (wS p)=false:=λh=>aDt k hlt h
  rcases qP (mP L[k]) p.aN with⟨hi,hf⟩|⟨j,hj,hi,hf⟩
  .have hd:wS p L[k]=false:=by unfold wS;rw[hf]
   rw[hi]at c1;have lC:=pU hd;have W:=aA hk1 (aA hg hlt);refine we ?_;all_goals try(refine aZ ?_;simp[aX,results154,lC])
  .have hd:wS p L[k]=p.aN[j].done:=by unfold wS;rw[hf]
   rw[hi]at c1;have hgm:=aE hj;have hj0:¬(j:Int)<0:=by omega
   cases vO:p.aN[j].done
   .have lC:=pU (hd.trans vO);have W:=aA hk1 (aA hg (aA hlt (aA hgm (aA hj (aA hj0 vO)))));refine we ?_;all_goals try(refine aZ ?_;simp[aX,results154,lC])
   .have hnx:=hnext (hd.trans vO);have W:=aA hk1 (aA hg (aA hlt (aA hgm (aA hj (aA hj0 vO)))));refine we ?_;exact hK1 _ ⟨k+1,by omega,hnx⟩ (aL 3) (by simp only;omega)
 .have lC:L.all (wS p)=true:=yc (by have:=hpre;rwa[eJ (by omega)]at this);have W:=aA hk1 hlt;refine we ?_;all_goals try(refine aZ ?_;simp[aX,results154,lC])
theorem Ko[aB prog][dY prog](p:aC)(a:aK)(hs:bV bI p.aN+aP a<=16777216):Ok prog 196 [.agg (aQ .view p),.agg (bC a)] (.bool (xQ p a)):=by
 obtain⟨hB,_⟩:=Qp p a hs;obtain⟨z1,_,hU⟩:=YJ p a hs;have c0:=AB p _ hB a (by simp);have cm:=λb hb=>EZ p _ hB b hb
 unfold xQ;generalize gJ p a=L at*;simp only[bC,aQ]at c0 cm;have hlen:(L.map bC).length=L.length:=by simp
 refine dL aO func196 ntmps196 ?_;refine dH ?_;refine aI (ι:={k:Nat // k<=L.length/\∀x∈L.take k,qR p x=true}) (λt o i=>⟨bH t [(6,.int .i64 i.1),(7,.undef),(8,.undef)],o.take 3⟩)
  (λi=>L.length-i.1) ⟨0,by simp,by simp⟩ aG ?_
 rintro⟨k,hk,hpre⟩ K1 hK1;simp only[bH,cH,cJ]at hK1⊢;have hk1:=rE (k:=k);by_cases hlt:k<L.length
 .have hg:=aE hlt;have c1:=cm L[k] (hU _ (hI hlt));have hnext:qR p L[k]=true->∀x∈L.take (k+1),qR p x=true:=λh=>gB hlt hpre h
  have pU:qR p L[k]=false->L.all (qR p)=false:=λh=>aDt k hlt h
  generalize jO p L[k]=g at*;cases hd:qR p L[k]
  .have lC:=pU hd;rw[hd]at c1;have W:=aA hk1 (aA hg hlt);refine we ?_;all_goals try(refine aZ ?_;simp[aX,results196,lC])
  .have hnx:=hnext hd;rw[hd]at c1;have W:=aA hk1 (aA hg hlt);refine we ?_;exact hK1 _ ⟨k+1,by omega,hnx⟩ (aL 3) (by simp only;omega)
 .have lC:L.all (qR p)=true:=yc (by have:=hpre;rwa[eJ (by omega)]at this);have W:=aA hk1 hlt;refine we ?_;all_goals try(refine aZ ?_;simp[aX,results196,lC])
end Go.Proofs.YtnkpkklemmgapaaGreatDoor
