/- Proved here: steps towards the statement of this claim. No condition. -/
import Derived.Test.YtdcpobkemdacnaaGreatDoorZQZ5
set_option linter.all false
set_option maxRecDepth 4000
set_option maxHeartbeats 4000000
namespace Go.Proofs.YtdcpobkemdacnaaGreatDoor
open Go.Aw Proofs.Tryz List IntKind
def nI (p:aG) (a:aK):Bool:=
 match p.aM.find? (kQ a) with
 |some m=>m.done
 |none=>false
def xD (p:aG) (a:aK):Bool:=(dZ p a).all (nI p)
def tQ (p:aG) (a:aK):Bool:= !(dZ p a).all (lF p)
theorem XQ {α:Type} {f:α->Bool} {l:List α} (k:Nat) (hk:k < l.length) (h:f l[k]=false):l.all f=false:=by
 cases hb:l.all f with
 |false=>rfl
 |true=>rw [fW] at hb;have:=hb l[k] (fN hk);rw [h] at this;cases this
theorem PZ {α:Type} {f:α->Bool} {l:List α} (h:∀x∈l,f x=true):l.all f=true:=fW.2 h
theorem Lj [aC prog] [bR prog] (p:aG) (a:aK) (hs:bT bL p.aM+aQ a<=16777216):Ok prog 144 [.agg (aI .view p),.agg (aL a)] (.bool (xD p a)):=by
 obtain ⟨hB,_⟩:=Gp p a hs;obtain ⟨z1,_,_⟩:=Li p a hs;have c0:=BN p _ hB a (by simp);have cm:=λb=>yH p b (by simp only [aJ,bT] at hs;omega)
 unfold xD;generalize dZ p a=L at *;simp only [aL,aI] at c0 cm;have hlen:(L.map aL).length=L.length:=by simp
 refine bO aD func144 ntmps144 ?_;refine aZ ?_;refine aP (ι:={k:Nat // k<=L.length/\∀x∈L.take k,nI p x=true}) (λt o i=>⟨bE t [(12,.int .i64 i.1),(13,.undef),(14,.undef),(15,.undef),(6,.undef),(7,.undef)],o.take 3⟩)
  (λi=>L.length - i.1) ⟨0,by simp,by simp⟩ aO ?_
 rintro ⟨k,hk,hpre⟩ K1 hK1;simp only [bE,cW,cU] at hK1⊢;have hk1:=oW (k:=k);by_cases hlt:k < L.length
 .have hg:=aE hlt;have c1:=cm L[k];have hnext:nI p L[k]=true->∀x∈L.take (k+1),nI p x=true:=λh=>bZ hlt hpre h
  have jZ:nI p L[k]=false->L.all (nI p)=false:=λh=>XQ k hlt h
  rcases lI (kQ L[k]) p.aM with ⟨hi,hf⟩|⟨j,hj,hi,hf⟩
  .have hd:nI p L[k]=false:=by unfold nI;rw [hf]
   rw [hi] at c1;have jU:=jZ hd;have W:=aA hk1 (aA hg hlt);refine we ?_;all_goals try(refine aV ?_;simp [aH,results144,jU])
  .have hd:nI p L[k]=p.aM[j].done:=by unfold nI;rw [hf]
   rw [hi] at c1;have hgm:=aE hj;have hj0:¬(j:Int) < 0:=by omega
   cases sO:p.aM[j].done
   .have jU:=jZ (hd.trans sO);have W:=aA hk1 (aA hg (aA hlt (aA hgm (aA hj (aA hj0 sO)))));refine we ?_;all_goals try(refine aV ?_;simp [aH,results144,jU])
   .have hnx:=hnext (hd.trans sO);have W:=aA hk1 (aA hg (aA hlt (aA hgm (aA hj (aA hj0 sO)))));refine we ?_;exact hK1 _ ⟨k+1,by omega,hnx⟩ (aX 3) (by simp only;omega)
 .have jU:L.all (nI p)=true:=PZ (by have:=hpre;rwa [cY (by omega)] at this);have W:=aA hk1 hlt;refine we ?_;all_goals try(refine aV ?_;simp [aH,results144,jU])
theorem Ll [aC prog] [bR prog] (p:aG) (a:aK) (hs:bT bL p.aM+aQ a<=16777216):Ok prog 109 [.agg (aI .view p),.agg (aL a)] (.bool (xD p a)):=by
 obtain ⟨hB,_⟩:=Gp p a hs;obtain ⟨z1,_,_⟩:=Li p a hs;have c0:=BO p _ hB a (by simp);have cm:=λb=>zV p b (by simp only [aJ,bT] at hs;omega)
 unfold xD;generalize dZ p a=L at *;simp only [aL,aI] at c0 cm;have hlen:(L.map aL).length=L.length:=by simp
 refine bO aD func109 ntmps109 ?_;refine aZ ?_;refine aP (ι:={k:Nat // k<=L.length/\∀x∈L.take k,nI p x=true}) (λt o i=>⟨bE t [(6,.int .i64 i.1),(7,.undef)],o⟩)
  (λi=>L.length - i.1) ⟨0,by simp,by simp⟩ aO ?_
 rintro ⟨k,hk,hpre⟩ K1 hK1;simp only [bE,cW,cU] at hK1⊢;have hk1:=oW (k:=k);by_cases hlt:k < L.length
 .have hg:=aE hlt;have c1:=cm L[k];have hnext:nI p L[k]=true->∀x∈L.take (k+1),nI p x=true:=λh=>bZ hlt hpre h
  have jZ:nI p L[k]=false->L.all (nI p)=false:=λh=>XQ k hlt h
  rcases lI (kQ L[k]) p.aM with ⟨hi,hf⟩|⟨j,hj,hi,hf⟩
  .have hd:nI p L[k]=false:=by unfold nI;rw [hf]
   rw [hi] at c1;have jU:=jZ hd;have W:=aA hk1 (aA hg hlt);refine we ?_;all_goals try(refine aV ?_;simp [aH,results109,jU])
  .have hd:nI p L[k]=p.aM[j].done:=by unfold nI;rw [hf]
   rw [hi] at c1;have hgm:=aE hj;have hj0:¬(j:Int) < 0:=by omega
   cases sO:p.aM[j].done
   .have jU:=jZ (hd.trans sO);have W:=aA hk1 (aA hg (aA hlt (aA hgm (aA hj (aA hj0 sO)))));refine we ?_;all_goals try(refine aV ?_;simp [aH,results109,jU])
   .have hnx:=hnext (hd.trans sO);have W:=aA hk1 (aA hg (aA hlt (aA hgm (aA hj (aA hj0 sO)))));refine we ?_;exact hK1 _ ⟨k+1,by omega,hnx⟩ (aX 3) (by simp only;omega)
 .have jU:L.all (nI p)=true:=PZ (by have:=hpre;rwa [cY (by omega)] at this);have W:=aA hk1 hlt;refine we ?_;all_goals try(refine aV ?_;simp [aH,results109,jU])
theorem Lm [aC prog] [bR prog] (p:aG) (a:aK) (hs:bT bL p.aM+aQ a<=16777216):Ok prog 198 [.agg (aI .view p),.agg (aL a)] (.bool (tQ p a)):=by
 obtain ⟨hB,_⟩:=Gp p a hs;obtain ⟨z1,_,hU⟩:=Li p a hs;have c0:=BN p _ hB a (by simp);have cm:=λb=>yH p b (by simp only [aJ,bT] at hs;omega)
 unfold tQ;generalize dZ p a=L at *;simp only [aL,aI] at c0 cm;have hlen:(L.map aL).length=L.length:=by simp
 refine bO aD func198 ntmps198 ?_;refine aZ ?_;refine aP (ι:={k:Nat // k<=L.length/\∀x∈L.take k,lF p x=true}) (λt o i=>⟨bE t [(15,.int .i64 i.1),(16,.undef),(17,.undef),(18,.undef),(6,.undef),(7,.undef),(8,.undef),(9,.undef)],o.take 3⟩)
  (λi=>L.length - i.1) ⟨0,by simp,by simp⟩ aO ?_
 rintro ⟨k,hk,hpre⟩ K1 hK1;simp only [bE,cW,cU] at hK1⊢;have hk1:=oW (k:=k);by_cases hlt:k < L.length
 .have hg:=aE hlt;have c1:=cm L[k];have hnext:lF p L[k]=true->∀x∈L.take (k+1),lF p x=true:=λh=>bZ hlt hpre h
  have jZ:lF p L[k]=false->L.all (lF p)=false:=λh=>XQ k hlt h
  rcases lI (kQ L[k]) p.aM with ⟨hi,hf⟩|⟨j,hj,hi,hf⟩
  .have hd:lF p L[k]=false:=by unfold lF;rw [hf]
   rw [hi] at c1;have jU:=jZ hd;have W:=aA hk1 (aA hg hlt);refine we ?_;all_goals try(refine aV ?_;simp [aH,results198,jU])
  .have hd:lF p L[k]=if p.aM[j].done=true/\p.aM[j].code=1 then (bJ p.aM[j].body L[k].host).2.2 else false:=by unfold lF;rw [hf]
   rw [hi] at c1;have hgm:=aE hj;have hj0:¬(j:Int) < 0:=by omega
   have hmz:=bU bL (fN hj);have hha:=hB.host _ (hU _ (fN hlt));simp only [aJ,bT] at hs;simp only [bL,aQ] at hmz;have cp:=tO p.aM[j].body L[k].host (by omega) hha;cases sO:p.aM[j].done
   .have jU:=jZ (by rw [hd,sO];simp);have W:=aA hk1 (aA hg (aA hlt (aA hgm (aA hj (aA hj0 sO)))));refine we ?_;all_goals try(refine aV ?_;simp [aH,results198,jU])
   .by_cases bn:p.aM[j].code=1
    .rw [eI ⟨sO,bn⟩] at hd;generalize bJ p.aM[j].body L[k].host=u at *;obtain ⟨g,d,c⟩:=u;simp only at hd cp;cases c
     .have jU:=jZ hd;have W:=aA hk1 (aA hg (aA hlt (aA hgm (aA hj (aA hj0 (aA sO bn))))));refine we ?_;all_goals try(refine aV ?_;simp [aH,results198,jU])
     .have hnx:=hnext hd;have W:=aA hk1 (aA hg (aA hlt (aA hgm (aA hj (aA hj0 (aA sO bn))))));refine we ?_;exact hK1 _ ⟨k+1,by omega,hnx⟩ (aX 3) (by simp only;omega)
    .have jU:=jZ (by rw [hd,cX (λh=>bn h.2)])
     have W:=aA hk1 (aA hg (aA hlt (aA hgm (aA hj (aA hj0 (aA sO bn))))));refine we ?_;all_goals try(refine aV ?_;simp [aH,results198,jU])
 .have jU:L.all (lF p)=true:=PZ (by have:=hpre;rwa [cY (by omega)] at this);have W:=aA hk1 hlt;refine we ?_;all_goals try(refine aV ?_;simp [aH,results198,jU])
theorem Lp [aC prog] [bR prog] (p:aG) (a:aK) (hs:bT bL p.aM+aQ a<=16777216):Ok prog 170 [.agg (aI .view p),.agg (aL a)] (.bool (tQ p a)):=by
 obtain ⟨hB,_⟩:=Gp p a hs;obtain ⟨z1,_,hU⟩:=Li p a hs;have c0:=BO p _ hB a (by simp);have cm:=λb hb=>Gn p _ hB b hb
 unfold tQ;generalize dZ p a=L at *;simp only [aL,aI] at c0 cm;have hlen:(L.map aL).length=L.length:=by simp
 refine bO aD func170 ntmps170 ?_;refine aZ ?_;refine aP (ι:={k:Nat // k<=L.length/\∀x∈L.take k,lF p x=true}) (λt o i=>⟨bE t [(6,.int .i64 i.1),(7,.undef),(8,.undef)],o.take 3⟩)
  (λi=>L.length - i.1) ⟨0,by simp,by simp⟩ aO ?_
 rintro ⟨k,hk,hpre⟩ K1 hK1;simp only [bE,cW,cU] at hK1⊢;have hk1:=oW (k:=k);by_cases hlt:k < L.length
 .have hg:=aE hlt;have c1:=cm L[k] (hU _ (fN hlt));have hnext:lF p L[k]=true->∀x∈L.take (k+1),lF p x=true:=λh=>bZ hlt hpre h
  have jZ:lF p L[k]=false->L.all (lF p)=false:=λh=>XQ k hlt h
  generalize iO p L[k]=g at *;cases hd:lF p L[k]
  .have jU:=jZ hd;rw [hd] at c1;have W:=aA hk1 (aA hg hlt);refine we ?_;all_goals try(refine aV ?_;simp [aH,results170,jU])
  .have hnx:=hnext hd;rw [hd] at c1;have W:=aA hk1 (aA hg hlt);refine we ?_;exact hK1 _ ⟨k+1,by omega,hnx⟩ (aX 3) (by simp only;omega)
 .have jU:L.all (lF p)=true:=PZ (by have:=hpre;rwa [cY (by omega)] at this);have W:=aA hk1 hlt;refine we ?_;all_goals try(refine aV ?_;simp [aH,results170,jU])
end Go.Proofs.YtdcpobkemdacnaaGreatDoor
