/- Proved here: steps towards the statement of this claim. No condition. -/
import Derived.Test.YtjmpjmilndkgfaaGreatDoorZQSR
import Derived.Test.YtjmpjmilndkgfaaGreatDoorZQS4
set_option linter.all false
set_option maxRecDepth 4000
set_option maxHeartbeats 4000000
namespace Go.Proofs.YtjmpjmilndkgfaaGreatDoor
open Go.Aw Proofs.Tryz List IntKind
theorem uQ {α:Type} {f:α->List AV} {i j:Nat} (h:∀x,qK i j (f x)=f x):∀l:List α,qX i j (l.map f)=l.map f
 |[]=>rfl
 |x::l=>by simp only [mT,qX,h,uQ h l]
@[simp] theorem aM1 (i j:Nat) (l:List bF):qX i j (l.map bW)=l.map bW:=uQ (λ_=>rfl) l
@[simp] theorem aM2 (i j:Nat) (l:List Int):qX i j (l.map jE)=l.map jE:=uQ (λ_=>rfl) l
@[simp] theorem aLm (i j:Nat) (l:List aT):qX i j (l.map aO)=l.map aO:=uQ (λ_=>rfl) l
@[simp] theorem aLn (i j:Nat) (l:List jY):qX i j (l.map gU)=l.map gU:=uQ (λ_=>rfl) l
@[simp] theorem aLo (i j:Nat) (l:List kJ):qX i j (l.map iY)=l.map iY:=uQ (λ_=>rfl) l
@[simp] theorem aH6 (i j:Nat) (l:List dB):qX i j (l.map bU)=l.map bU:=uQ (λ_=>rfl) l
@[simp] theorem aH7 (i j:Nat) (l:List bP):qX i j (l.map (bK .view))=l.map (bK .view):=uQ (λ_=>by simp) l
@[simp] theorem aJh (i j:Nat) (l:List gF):qX i j (l.map (dE .view))=l.map (dE .view):=uQ (λ_=>by simp) l
@[simp] theorem aPj (u:List Nat) (b:Bool) (l:List bP):mU (iU u) b (l.map (bK .view))=l.map (bK .view):=by
 induction l with
 |nil=>rfl
 |cons x l ih=>rw [mT,mU,ih];simp [xS,rt,bK,iU]
@[simp] theorem aM3 (u:List Nat) (b:Bool) (l:List gF):mU (iU u) b (l.map (dE .view))=l.map (dE .view):=by
 induction l with
 |nil=>rfl
 |cons x l ih=>rw [mT,mU,ih];simp [xS,rt,dE,iU]
theorem qp {t t':List AV} {o o':List aM} {v:Nat} {l1 l3 m1 m3:List (List AV)} {o4 o5 o6 o7 o8 o9:aM}
  (ho:o=[⟨true,true,1,2,[[.obj 10 1]]⟩,⟨false,false,2,v,l1⟩,⟨true,true,1,2,[[.obj 11 1]]⟩,⟨false,false,2,1,l3⟩,o4,o5,o6,o7,o8,o9,⟨true,false,2,1,m1⟩,⟨true,false,2,1,m3⟩])
  (ho':o'=[⟨true,true,1,2,[[.obj 1 1]]⟩,⟨true,false,2,1,m1⟩,⟨true,true,1,2,[[.obj 3 1]]⟩,⟨true,false,2,1,m3⟩,o4,o5,o6,o7,o8])
  (hf:(o4.mG 1 10=o4/\o5.mG 1 10=o5/\o6.mG 1 10=o6/\o7.mG 1 10=o7/\o8.mG 1 10=o8/\o9.mG 1 10=o9)/\(o4.mG 3 11=o4/\o5.mG 3 11=o5/\o6.mG 3 11=o6/\o7.mG 3 11=o7/\o8.mG 3 11=o8/\o9.mG 3 11=o9))
  (hw:wk t t') (h1:wk (qK 1 10 t') t') (h3:wk (qK 3 11 t') t') (hc:fP 9 t'=true) (hc0:dJ 9 [o4,o5,o6,o7,o8]=true):mK ⟨t,o⟩ ⟨t',o'⟩:=by
 subst ho;subst ho';obtain ⟨⟨a4,a5,a6,a7,a8,a9⟩,b4,b5,b6,b7,b8,b9⟩:=hf;refine (vQ hw).trans ?_;refine (bA 1 10 rfl rfl ⟨rfl,rfl⟩ (by simp [a4,a5,a6,a7,a8,a9];rfl) h1).trans ?_;refine (bA 3 11 rfl rfl ⟨rfl,rfl⟩ (by simp [b4,b5,b6,b7,b8,b9];rfl) h3).trans ?_;refine aW 9 (by simp) (lC _) hc ?_;simpa [dJ,fP,closed] using hc0
theorem BF {p:aI} {U:List aT} (hU:∀x∈sZ p,x∈U) (n:Nat):∀(l:List aT) (s:List aT×List aT),(∀b∈l,b∈U)->Seen U s->Seen U (eD p n l s)/\(∀x∈s.1,x∈(eD p n l s).1)
 |[],s,_,h=>⟨h,λ_ h=>h⟩
 |b::l,s,hl,h=>by obtain ⟨h1,h2⟩:=En hU n b s (hl b (by simp)) h;obtain ⟨h3,h4⟩:=BF hU n l _ (λx hx=>hl x (by simp [hx])) h1;exact ⟨h3,λx hx=>h4 x (h2 x hx)⟩
theorem xL [aC prog] [dD prog] (p:aI) (a:aT) (hl:p.aN.length<=1099511627776):Ok prog 83 [.agg (aJ .view p),.agg (aO a)] (.int .i64 (wX (kX a) p.aN)):=by have c1:=Zz p.aN a hl;simp only [aO] at c1;refine bR aD func83 ntmps83 ?_;refine bH ?_;exact aK results83
structure Bnd (p : aI) (U : List aT) : Prop where
  hs : bV bE p.aN <= 268435456
  im : ∀ x ∈ sZ p, x ∈ U
  len : U.length <= 1073741824
  host : ∀ x ∈ U, x.host.length <= 1073741824
  ps : ∀ m ∈ p.aN, (bI m.body m.to.host).1.length <= 1073741824
theorem Seen.len {U:List aT} {s:List aT×List aT} (h:Seen U s):s.1.length<=U.length/\s.2.length<=U.length:=
 ⟨(Dq (λ_=>0) s.1 U h.nd h.sub).2,(Dq (λ_=>0) s.2 U h.ond (λx hx=>h.sub x (h.ZK x hx))).2⟩
theorem Rs [aC prog] [dD prog] (p:aI) (U:List aT) (hb:Bnd p U) (a:aT) (s1 s2:List aT) (hn:s1.any (iT a)=true) (h1:s1.length<=1073741824):
  Lf prog 237 [.view (.agg (aJ .view p)),.view (.agg (aO a)),.sH [.sl .own 2 (s1.map aO)] [.sl .own 2 (s1.map aO)],.sH [.sl .own 2 (s2.map aO)] [.sl .own 2 (s2.map aO)]] (.iJ []):=by
 have c1:=Ad s1 a (by omega);simp only [aO] at c1;rw [hn] at c1;refine qU aD func237 ntmps237 ?_;refine bH ?_;all_goals try(refine ⟨by first|exact .inr rfl|exact .inl rfl,?_⟩;simp [gK,dN,dM,rowOf,results237])
theorem Ua [aC prog] [dD prog] (p:aI) (U:List aT) (hb:Bnd p U) (n:Nat) (a:aT) (ha:a∈U) (s1 s2:List aT) (hn:s1.any (iT a)=false) (hs:Seen U (s1,s2)) (hf:qD p s1 < n+1)
  (ih:∀(b:aT) (q1 q2:List aT),qD p q1 < n->Seen U (q1,q2)->b∈U->Lf prog 237 [.view (.agg (aJ .view p)),.view (.agg (aO b)),.sH [.sl .own 2 (q1.map aO)] [.sl .own 2 ((gH p n b q1 q2).1.map aO)],.sH [.sl .own 2 (q2.map aO)] [.sl .own 2 ((gH p n b q1 q2).2.map aO)]] (.iJ [])):
  Lf prog 237 [.view (.agg (aJ .view p)),.view (.agg (aO a)),.sH [.sl .own 2 (s1.map aO)] [.sl .own 2 ((gH p (n+1) a s1 s2).1.map aO)],.sH [.sl .own 2 (s2.map aO)] [.sl .own 2 ((gH p (n+1) a s1 s2).2.map aO)]] (.iJ []):=by
 have hps:=hb.hs;have hl:=hs.len;have hU:=hb.len;simp only [aF,bV] at hps;simp only at hl;have c1:=Ad s1 a (by omega);have c2:=xL p a (by omega);rw [hn] at c1;have hna:a∉s1:=λh=>by rw [xK.2 h] at hn;cases hn
 obtain ⟨t1,ht1⟩:∃l:List aT,l=s1++[a]:=⟨_,rfl⟩;have e1:s1.map aO++[[.str a.host,.str a.path]]=t1.map aO:=by simp [ht1]
 have hl1:(s1.map aO).length=s1.length:=by simp
 have hv:gH p (n+1) a s1 s2=((eD p n (iN p a) (s1++[a],s2)).1,(eD p n (iN p a) (s1++[a],s2)).2++[a]):=by simp only [gH,hn,eD];rfl
 rw [hv];clear hv;rw [<-ht1];rcases uA (kX a) p.aN with ⟨hi,hf⟩|⟨k,hk,hi,hf⟩
 .have hL:iN p a=[]:=by unfold iN;rw [hf]
  have hl2:(s2.map aO).length=s2.length:=by simp
  rw [hL];rw [hi] at c2;simp only [aO,aJ] at c1 c2;obtain ⟨t2,ht2⟩:∃l:List aT,l=s2++[a]:=⟨_,rfl⟩;have e2:s2.map aO++[[.str a.host,.str a.path]]=t2.map aO:=by simp [ht2]
  simp only [eD,foldl_nil];rw [<-ht2];clear ht2 ht1;refine qU aD func237 ntmps237 ?_;have W:=aA e1 (aA e2 (aA hl1 hl2));refine we ?_;all_goals try(refine ⟨by first|exact .inr rfl|exact .inl rfl,?_⟩;simp [gK,dN,dM,rowOf,results237,eD])
 .have hm:=fR hk;have hz:=cB bE hm;have hpm:=hb.ps _ hm;have yz:(p.aN[k]).to=a:=by have:=DG hf;simpa [kX] using this
  have hha:=hb.host _ ha;rw [hi] at c2;have hg:=aE hk;have hL:iN p a=if p.aN[k].done=true/\p.aN[k].code=1 then (bI p.aN[k].body a.host).1 else []:=by unfold iN;rw [hf]
  simp only [bE,aU] at hz;have cp:=rY p.aN[k].body a.host (by omega) hha;rw [yz] at hpm;simp only [aO,aJ] at c1 c2;by_cases hd:p.aN[k].done=true/\p.aN[k].code=1
  .rw [eK hd] at hL;rw [<-hL] at cp hpm;obtain ⟨hd1,hd2⟩:=hd;refine qU aD func237 ntmps237 ?_;have W:=aA e1 (aA hl1 (aA hg (aA hk (aA hd1 hd2))));refine we ?_;have hst:Seen U (t1,s2):=by
    subst ht1;exact ⟨gC.2 ⟨hs.nd,by simp,λx hx y hy e=>hna (by simp at hy;subst hy;subst e;exact hx)⟩,λx hx=>by
     rcases fL.1 hx with h|h
     .exact hs.sub x h
     .simp at h;subst h;exact ha,hs.ond,λx hx=>nB _ (hs.ZK x hx)⟩
   have hun:qD p t1 < n:=by have:=VI (p:=p) (s:=s1) (a:=a) (by rw [hn];simp) ⟨_,hm,yz⟩;rw [<-ht1] at this;omega
   have hLU:∀b∈iN p a,b∈U:=λb h=>hb.im b (IK p a b h)
   clear hL ht1;generalize iN p a=L at *;refine aL (ι:={k:Nat×Nat // k.1<=L.length/\1<=k.2}) (λt o i=>⟨bD t [(64,.int .i64 i.1.1),(13,.undef),(16,.undef),(22,.undef),(25,.undef)],[⟨true,true,1,2,[[.obj 1 i.1.2]]⟩,⟨true,false,2,i.1.2,(eD p n (L.take i.1.1) (t1,s2)).1.map aO⟩,⟨true,true,1,2,[[.obj 3 1]]⟩,⟨true,false,2,1,(eD p n (L.take i.1.1) (t1,s2)).2.map aO⟩]++o.drop 4⟩)
    (λi=>L.length - i.1.1) ⟨(0,2),by simp,by simp⟩ (aH (by simp [eD]) (by simp)) ?_
   rintro ⟨⟨k,v⟩,hk,hv⟩ K1 hK1;simp only [bD,cW,cU,rI,CM,eI,eN] at hk hv hK1⊢;have hk1:=oW (k:=k);by_cases hlt:k < L.length
   .have hg2:=aE hlt;obtain ⟨f1,f2⟩:=BF hb.im n (L.take k) (t1,s2) (λb h=>hLU b (sC h)) hst;have f3:=Np (p:=p) f2;have c3:=ih L[k] (eD p n (L.take k) (t1,s2)).1 (eD p n (L.take k) (t1,s2)).2 (by simp only at f3;omega) f1 (hLU _ (fR hlt));have hnext:eD p n (L.take (k+1)) (t1,s2)=gH p n L[k] (eD p n (L.take k) (t1,s2)).1 (eD p n (L.take k) (t1,s2)).2:=by
     rw [eA hlt,FJ]
    generalize eD p n (L.take k) (t1,s2)=q at *;obtain ⟨q1,q2⟩:=q;simp only at c3 hnext⊢;generalize gH p n L[k] q1 q2=w at *;obtain ⟨w1,w2⟩:=w;simp only [aO,aJ] at c3;have W:=aA hk1 (aA hg2 hlt);repeat' first|refine wf ?_|(refine nx ?_;refine sg (hc:=c3) (h:=?_))|(refine sq ?_ ?_<;>intro hc<;>try exact hc.elim)|fail
    refine hK1 _ ⟨(k+1,1),by simp only;omega,by simp⟩ ?_ (by simp only;omega);simp only [hnext];exact qp rfl rfl (by simp) (by simp) (by simp) (by simp) (by simp) (by simp [dJ,fP,closed])
   .have htk:L.take k=L:=cX (by omega);rw [htk];have f1:=(BF hb.im n L (t1,s2) hLU hst).1.len;generalize eD p n L (t1,s2)=q at *;obtain ⟨q1,q2⟩:=q;simp only at f1;have hl2:(q2.map aO).length=q2.length:=by simp
    obtain ⟨t2,ht2⟩:∃l:List aT,l=q2++[a]:=⟨_,rfl⟩;have e2:q2.map aO++[[.str a.host,.str a.path]]=t2.map aO:=by simp [ht2]
    simp only;rw [<-ht2];clear ht2;have W:=aA hk1 (aA e2 hl2);refine we ?_;all_goals try(refine ⟨by first|exact .inr rfl|exact .inl rfl,?_⟩;simp [gK,dN,dM,rowOf,results237])
  .rw [cY hd] at hL;have hl2:(s2.map aO).length=s2.length:=by simp
   rw [hL];obtain ⟨t2,ht2⟩:∃l:List aT,l=s2++[a]:=⟨_,rfl⟩;have e2:s2.map aO++[[.str a.host,.str a.path]]=t2.map aO:=by simp [ht2]
   simp only [eD,foldl_nil];rw [<-ht2];clear ht2 ht1;cases hd1:p.aN[k].done
   .refine qU aD func237 ntmps237 ?_;have W:=aA e1 (aA e2 (aA hl1 (aA hl2 (aA hg (aA hk hd1)))));refine we ?_;all_goals try(refine ⟨by first|exact .inr rfl|exact .inl rfl,?_⟩;simp [gK,dN,dM,rowOf,results237])
   .have hd2:¬p.aN[k].code=1:=λh=>hd ⟨hd1,h⟩
    refine qU aD func237 ntmps237 ?_;have W:=aA e1 (aA e2 (aA hl1 (aA hl2 (aA hg (aA hk (aA hd1 hd2))))));refine we ?_;all_goals try(refine ⟨by first|exact .inr rfl|exact .inl rfl,?_⟩;simp [gK,dN,dM,rowOf,results237])
theorem Kr [aC prog] [dD prog] (p:aI) (U:List aT) (hb:Bnd p U):∀(n:Nat) (a:aT) (s1 s2:List aT),qD p s1 < n->Seen U (s1,s2)->a∈U->Lf prog 237 [.view (.agg (aJ .view p)),.view (.agg (aO a)),.sH [.sl .own 2 (s1.map aO)] [.sl .own 2 ((gH p n a s1 s2).1.map aO)],.sH [.sl .own 2 (s2.map aO)] [.sl .own 2 ((gH p n a s1 s2).2.map aO)]] (.iJ [])
 |0,_,_,_,h,_,_=>absurd h (by omega)
 |n+1,a,s1,s2,h,hs,ha=>by
  have hl:=hs.len;have hU:=hb.len;simp only at hl;cases hn:s1.any (iT a)
  .exact Ua p U hb n a ha s1 s2 hn hs h (λb q1 q2 h1 h2 h3=>Kr p U hb n b q1 q2 h1 h2 h3)
  .have:gH p (n+1) a s1 s2=(s1,s2):=by simp [gH,hn]
   rw [this];exact Rs p U hb a s1 s2 hn (by omega)
def eF (p:aI) (a:aT):List aT:=(gH p (qD p []+1) a [] []).2
theorem BG [aC prog] [dD prog] (p:aI) (U:List aT) (hb:Bnd p U) (a:aT) (ha:a∈U):Ok prog 186 [.agg (aJ .view p),.agg (aO a)] (.sl .own 2 ((eF p a).map aO)):=by
 have c1:=Kr p U hb (qD p []+1) a [] [] (by omega) ⟨by simp,by simp,by simp,by simp⟩ ha;unfold eF;generalize gH p (qD p []+1) a [] []=w at *;obtain ⟨w1,w2⟩:=w;simp only [aO,aJ,EV] at c1;refine bR aD func186 ntmps186 ?_;have W:=trivial;repeat' first|refine wf ?_|(refine nx ?_;refine sg (hc:=c1) (h:=?_))|(refine sq ?_ ?_<;>intro hc<;>try exact hc.elim)|fail
 exact aK results186
def lD (p:aI) (a:aT):Bool:=
 match p.aN.find? (kX a) with
 |some m=>if m.done=true/\m.code=1 then (bI m.body a.host).2.2 else false
 |none=>false
theorem FK [aC prog] [dD prog] (p:aI) (U:List aT) (hb:Bnd p U) (a:aT) (ha:a∈U):Ok prog 72 [.agg (aJ .view p),.agg (aO a)] (.iJ [.sl .own 2 ((iN p a).map aO),.bool (lD p a)]):=by
 have hps:=hb.hs;simp only [aF,bV] at hps;have c2:=zQ p a (by omega);unfold iN lD;rcases uA (kX a) p.aN with ⟨hi,hf⟩|⟨k,hk,hi,hf⟩
 .rw [hf];rw [hi] at c2;simp only [aO,aJ] at c2;refine bR aD func72 ntmps72 ?_;refine bH ?_;exact aK results72
 .rw [hf];rw [hi] at c2;have hm:=fR hk;have hz:=cB bE hm;have hha:=hb.host _ ha;have hg:=aE hk;simp only [bE,aU] at hz;have cp:=vX p.aN[k].body a.host (by omega) hha;simp only [aO,aJ] at c2;simp only;generalize bI p.aN[k].body a.host=w at *;obtain ⟨w1,w2,w3⟩:=w;simp only at cp;have hk0:¬((k:Nat):Int) < 0:=by omega
  cases hd1:p.aN[k].done
  .refine bR aD func72 ntmps72 ?_;have W:=aA hk0 (aA hg (aA hk hd1));refine we ?_;exact aK results72
  .by_cases hd2:p.aN[k].code=1
   .simp only [hd2,Fo,gE];refine bR aD func72 ntmps72 ?_;have W:=aA hk0 (aA hg (aA hk (aA hd1 hd2)));refine we ?_;exact aK results72
   .simp only [hd2,and_false,gS];refine bR aD func72 ntmps72 ?_;have W:=aA hk0 (aA hg (aA hk (aA hd1 hd2)));refine we ?_;exact aK results72
theorem Rt [aC prog] [dD prog] (p:aI) (a:aT) (s1 s2:List aT) (hn:s1.any (iT a)=true) (h1:s1.length<=1073741824):
  Lf prog 221 [.view (.agg (aJ .view p)),.view (.agg (aO a)),.nX (.sl .own 2 (s1.map aO)),.nX (.sl .own 2 (s2.map aO))] (.iJ [.sl .own 2 (s1.map aO),.sl .own 2 (s2.map aO)]):=by
 have c1:=Bt s1 a (by omega);simp only [aO] at c1;rw [hn] at c1;refine qU aD func221 ntmps221 ?_;refine bH ?_;all_goals try(refine ⟨by first|exact .inr rfl|exact .inl rfl,?_⟩;simp [gK,dN,dM,rowOf,results221])
theorem ZQ {t t':List AV} {o o':List aM} {v:Nat} {l1 l4 m1 m2:List (List AV)} {o0 o2 o3 o5 o6:aM}
  (ho:o=[o0,⟨false,false,2,1,l1⟩,o2,o3,⟨false,false,2,v,l4⟩,o5,o6,⟨true,false,2,1,m1⟩,⟨true,false,2,1,m2⟩])
  (ho':o'=[o0,⟨true,false,2,1,m2⟩,o2,o3,⟨true,false,2,1,m1⟩,o5,o6])
  (hf:(o0.mG 4 7=o0/\o2.mG 4 7=o2/\o3.mG 4 7=o3/\o5.mG 4 7=o5/\o6.mG 4 7=o6)/\(o0.mG 1 8=o0/\o2.mG 1 8=o2/\o3.mG 1 8=o3/\o5.mG 1 8=o5/\o6.mG 1 8=o6))
  (hw:wk t (qK 4 7 (qK 1 8 t'))) (h1:wk (qK 4 7 (qK 4 7 (qK 1 8 t'))) (qK 1 8 t')) (h3:wk (qK 1 8 (qK 1 8 t')) t') (hc:fP 7 t'=true) (hc0:dJ 7 [o0,o2,o3,o5,o6]=true):mK ⟨t,o⟩ ⟨t',o'⟩:=by
 subst ho;subst ho';obtain ⟨⟨a0,a2,a3,a5,a6⟩,b0,b2,b3,b5,b6⟩:=hf;refine (vQ hw).trans ?_;refine (bA 4 7 rfl rfl ⟨rfl,rfl⟩ (by simp [a0,a2,a3,a5,a6];rfl) h1).trans ?_;refine (bA 1 8 rfl rfl ⟨rfl,rfl⟩ (by simp [b0,b2,b3,b5,b6];rfl) h3).trans ?_;refine aW 7 (by simp) (lC _) hc ?_;simpa [dJ,fP,closed] using hc0
theorem Ub [aC prog] [dD prog] (p:aI) (U:List aT) (hb:Bnd p U) (n:Nat) (a:aT) (ha:a∈U) (s1 s2:List aT) (hn:s1.any (iT a)=false) (hs:Seen U (s1,s2)) (hf:qD p s1 < n+1)
  (ih:∀(b:aT) (q1 q2:List aT),qD p q1 < n->Seen U (q1,q2)->b∈U->Lf prog 221 [.view (.agg (aJ .view p)),.view (.agg (aO b)),.nX (.sl .own 2 (q1.map aO)),.nX (.sl .own 2 (q2.map aO))] (.iJ [.sl .own 2 ((gH p n b q1 q2).1.map aO),.sl .own 2 ((gH p n b q1 q2).2.map aO)])):
  Lf prog 221 [.view (.agg (aJ .view p)),.view (.agg (aO a)),.nX (.sl .own 2 (s1.map aO)),.nX (.sl .own 2 (s2.map aO))] (.iJ [.sl .own 2 ((gH p (n+1) a s1 s2).1.map aO),.sl .own 2 ((gH p (n+1) a s1 s2).2.map aO)]):=by
 have hps:=hb.hs;have hl:=hs.len;have hU:=hb.len;simp only [aF,bV] at hps;simp only at hl;have c1:=Bt s1 a (by omega);have c2:=FK p U hb a ha;rw [hn] at c1;have hna:a∉s1:=λh=>by rw [xK.2 h] at hn;cases hn
 obtain ⟨t1,ht1⟩:∃l:List aT,l=s1++[a]:=⟨_,rfl⟩;have e1:s1.map aO++[[.str a.host,.str a.path]]=t1.map aO:=by simp [ht1]
 have hl1:(s1.map aO).length=s1.length:=by simp
 have hv:gH p (n+1) a s1 s2=((eD p n (iN p a) (s1++[a],s2)).1,(eD p n (iN p a) (s1++[a],s2)).2++[a]):=by simp only [gH,hn,eD];rfl
 rw [hv];clear hv;rw [<-ht1];have hst:Seen U (t1,s2):=by
  subst ht1;exact ⟨gC.2 ⟨hs.nd,by simp,λx hx y hy e=>hna (by simp at hy;subst hy;subst e;exact hx)⟩,λx hx=>by
   rcases fL.1 hx with h|h
   .exact hs.sub x h
   .simp at h;subst h;exact ha,hs.ond,λx hx=>nB _ (hs.ZK x hx)⟩
 have hun:iN p a≠[]->qD p t1 < n:=by intro h;have:=VI (p:=p) (s:=s1) (a:=a) (by rw [hn];simp) (qo h);rw [<-ht1] at this;omega
 have hLU:∀b∈iN p a,b∈U:=λb h=>hb.im b (IK p a b h)
 have hLl:(iN p a).length<=1073741824:=by
  unfold iN;split
  .rename_i m hm;split
   .have h1:=hb.ps m (qS hm);have h2:=DG hm;simp only [kX,fN] at h2
    rwa [h2] at h1
   .simp
  .simp
 clear ht1;generalize lD p a=ok at *;generalize iN p a=L at *;simp only [aO,aJ] at c1 c2;refine aPf aD [3,8,9] func221 ntmps221 ?_;have W:=aA e1 hl1;refine we ?_;refine go_drawn3 [⟨4,2,[(5,⟨true,false,2,3,t1.map aO⟩),(2,⟨true,false,2,2,s1.map aO⟩),(0,⟨true,false,2,1,[]⟩)]⟩,⟨5,2,[(4,⟨true,false,2,1,[[.str a.host,.str a.path]]⟩)]⟩] (by simp;rfl) (by decide+kernel) (by decide+kernel) (by simp [mP,pre,Region.binds]) (by simp) ?_
 repeat' first|refine WY (by simp;rfl) (by simp;rfl) ?_|(refine OL ?_ (by simp;rfl) ?_;(focus (simp;done)))|(refine nN (j:=5) (v:= .obj 4 3) ⟨4,2,[(5,⟨true,false,2,3,t1.map aO⟩),(2,⟨true,false,2,2,s1.map aO⟩),(0,⟨true,false,2,1,[]⟩)]⟩ [] [(2,⟨true,false,2,2,s1.map aO⟩),(0,⟨true,false,2,1,[]⟩)] rfl (by simp) rfl (by simp [Region.binds];rfl) (by decide) (by simp [Region.binds];rfl) (by simp;rfl) rfl ?_ ?_;(focus (refine Eo (by first|(simp;rfl)|(simp;done)|rfl) rfl (by first|(simp;rfl)|(simp;done)|rfl) (by first|(simp;rfl)|(simp;done)|rfl) (by first|(simp;rfl)|(simp;done)|rfl) (by first|(simp;done)|decide) (by first|rfl|exact yV (λ_=>rfl) _|(simp [rC,AV.iE];done)) (by first|(simp;rfl)|(simp;done)|rfl|exact W.1|exact W.2.1|exact W|(simp [W];done)) (by simp;exact ⟨rfl,rfl⟩) (by simp) (by simp) (by simp;omega) (by simp;omega))))|(refine nN (j:=2) (v:= .obj 4 2) ⟨4,2,[(5,⟨true,false,2,3,t1.map aO⟩),(2,⟨true,false,2,2,s1.map aO⟩),(0,⟨true,false,2,1,[]⟩)]⟩ [(5,⟨true,false,2,3,t1.map aO⟩)] [(0,⟨true,false,2,1,[]⟩)] rfl (by simp) rfl (by simp [Region.binds];rfl) (by decide) (by simp [Region.binds];rfl) (by simp;rfl) rfl ?_ ?_;(focus (refine Eo (by first|(simp;rfl)|(simp;done)|rfl) rfl (by first|(simp;rfl)|(simp;done)|rfl) (by first|(simp;rfl)|(simp;done)|rfl) (by first|(simp;rfl)|(simp;done)|rfl) (by first|(simp;done)|decide) (by first|rfl|exact yV (λ_=>rfl) _|(simp [rC,AV.iE];done)) (by first|(simp;rfl)|(simp;done)|rfl|exact W.1|exact W.2.1|exact W|(simp [W];done)) (by simp;exact ⟨rfl,rfl⟩) (by simp) (by simp) (by simp;omega) (by simp;omega))))|(refine nN (j:=0) (v:= .obj 4 1) ⟨4,2,[(5,⟨true,false,2,3,t1.map aO⟩),(2,⟨true,false,2,2,s1.map aO⟩),(0,⟨true,false,2,1,[]⟩)]⟩ [(5,⟨true,false,2,3,t1.map aO⟩),(2,⟨true,false,2,2,s1.map aO⟩)] [] rfl (by simp) rfl (by simp [Region.binds];rfl) (by decide) (by simp [Region.binds];rfl) (by simp;rfl) rfl ?_ ?_;(focus (refine Ch (by simp;exact ⟨rfl,rfl⟩) (by simp) rfl rfl (by decide) (by decide) (by first|(simp;rfl)|rfl) (by simp [AV.iE]) (by simp [AV.yA,AV.cells]) (by simp) (by simp [AV.cells]))))|(refine nN (j:=4) (v:= .obj 5 1) ⟨5,2,[(4,⟨true,false,2,1,[[.str a.host,.str a.path]]⟩)]⟩ [] [] rfl (by simp) rfl (by simp [Region.binds];rfl) (by decide) (by simp [Region.binds];rfl) (by simp;rfl) rfl ?_ ?_;(focus (refine ZP (by simp;exact ⟨rfl,rfl⟩) (by simp) rfl rfl (by decide) (by decide) (by first|(simp;rfl)|rfl) (by simp [AV.tJ,AV.iE]) (by simp [AV.yA,AV.cells]) (by simp) (by simp [AV.cells]))))|(refine OM rfl ?_ (by simp [Region.binds];rfl) (by decide) (by simp [Region.binds];rfl) (by simp;rfl) ?_ rfl (by first|rfl|(simp;done)) ?_;(focus (first|rfl|(simp;done)));(focus (first|rfl|(simp [nI];done))))|(refine nx ?_;refine so ?_)|fail
 have W:=aA e1 hl1;refine we ?_;refine aL (ι:={k:Nat×Nat // k.1<=L.length/\1<=k.2}) (λt o i=>⟨bD t [(12,.int .i64 i.1.1),(2,.obj 4 i.1.2),(3,.obj 1 1),(8,.undef),(9,.undef),(18,.undef),(20,.undef),(23,.undef)],(o.set 1 ⟨true,false,2,1,(eD p n (L.take i.1.1) (t1,s2)).2.map aO⟩).set 4 ⟨true,false,2,i.1.2,(eD p n (L.take i.1.1) (t1,s2)).1.map aO⟩⟩)
  (λi=>L.length - i.1.1) ⟨(0,3),by simp,by simp⟩ (aH (by simp [eD]) (by simp)) ?_
 rintro ⟨⟨k,v⟩,hk,hv⟩ K1 hK1;simp only [bD,cW,cU] at hk hv hK1⊢;have hk1:=oW (k:=k);by_cases hlt:k < L.length
 .have hg2:=aE hlt;obtain ⟨f1,f2⟩:=BF hb.im n (L.take k) (t1,s2) (λb h=>hLU b (sC h)) hst;have f3:=Np (p:=p) f2;have hne:L≠[]:=by intro h;rw [h] at hlt;simp at hlt
  have hun':=hun hne;have c3:=ih L[k] (eD p n (L.take k) (t1,s2)).1 (eD p n (L.take k) (t1,s2)).2 (by simp only at f3;omega) f1 (hLU _ (fR hlt));have hnext:eD p n (L.take (k+1)) (t1,s2)=gH p n L[k] (eD p n (L.take k) (t1,s2)).1 (eD p n (L.take k) (t1,s2)).2:=by rw [eA hlt,FJ]
  generalize eD p n (L.take k) (t1,s2)=q at *;obtain ⟨q1,q2⟩:=q;simp only at c3 hnext⊢;generalize gH p n L[k] q1 q2=w at *;obtain ⟨w1,w2⟩:=w;simp only [aO,aJ] at c3;have W:=aA hk1 (aA hg2 hlt);refine we ?_;rw [xA];refine go_drawn (by simp;rfl) (by simp;rfl) (by decide+kernel) (by decide) (by first|rfl|(simp [YE];done)) (by simp) (by simp) ?_;iterate 7 (
   refine go_draw rfl (by first|rfl|(simp;done)) (by simp [Region.binds];rfl) (by decide) (by simp [Region.binds];rfl) (by simp;rfl) ?_ ?_
   .first|rfl|(simp [nI];done)
   refine nx ?_;refine so ?_;refine kN ?_;refine go_next (by simp;done) (by simp;rfl) (by simp;rfl) ?_)
  refine DX (s1:= ?s1) (by decide+kernel) (by simp [sN,reach,mP,Region.binds,Ek];rfl) ?ha ?hk;case ha=>
   repeat' (first|refine st ?_|(refine nx ?_;first|refine so ?_|refine sg (hc:=c3) (h:= ?_))|refine sx ?_ ?_|refine sy ?_ ?_|fail)
   all_goals rfl
  case hk=>
   have W:=hk1;refine we ?_;refine hK1 _ ⟨(k+1,1),by simp only;omega,by simp⟩ ?_ (by simp only;omega);simp only [hnext];refine ZQ rfl rfl (by simp) (by simp) (by simp) (by simp) (by simp) (by simp [dJ,fP,closed])
 .have htk:L.take k=L:=cX (by omega);rw [htk];have f1:=(BF hb.im n L (t1,s2) hLU hst).1.len;generalize eD p n L (t1,s2)=q at *;obtain ⟨q1,q2⟩:=q;simp only at f1;have hl2:(q2.map aO).length=q2.length:=by simp
  obtain ⟨t2,ht2⟩:∃l:List aT,l=q2++[a]:=⟨_,rfl⟩;have e2:q2.map aO++[[.str a.host,.str a.path]]=t2.map aO:=by simp [ht2]
  simp only;rw [<-ht2];clear ht2;have W:=aA e2 hk1;refine we ?_;refine go_drawn3 [⟨7,2,[(6,⟨true,false,2,3,t2.map aO⟩),(3,⟨true,false,2,2,q2.map aO⟩),(1,⟨true,false,2,1,[]⟩)]⟩,⟨8,2,[(5,⟨true,false,2,1,[[.str a.host,.str a.path]]⟩)]⟩] (by simp;rfl) (by decide+kernel) (by decide+kernel) (by simp [mP,pre,Region.binds]) (by simp) ?_
  repeat' first|refine WY (by simp;rfl) (by simp;rfl) ?_|(refine OL ?_ (by simp;rfl) ?_;(focus (simp;done)))|(refine nN (j:=6) (v:= .obj 7 3) ⟨7,2,[(6,⟨true,false,2,3,t2.map aO⟩),(3,⟨true,false,2,2,q2.map aO⟩),(1,⟨true,false,2,1,[]⟩)]⟩ [] [(3,⟨true,false,2,2,q2.map aO⟩),(1,⟨true,false,2,1,[]⟩)] rfl (by simp) rfl (by simp [Region.binds];rfl) (by decide) (by simp [Region.binds];rfl) (by simp;rfl) rfl ?_ ?_;(focus (refine Eo (by first|(simp;rfl)|(simp;done)|rfl) rfl (by first|(simp;rfl)|(simp;done)|rfl) (by first|(simp;rfl)|(simp;done)|rfl) (by first|(simp;rfl)|(simp;done)|rfl) (by first|(simp;done)|decide) (by first|rfl|exact yV (λ_=>rfl) _|(simp [rC,AV.iE];done)) (by first|(simp;rfl)|(simp;done)|rfl|exact W.1|exact W.2.1|exact W|(simp [W];done)) (by simp;exact ⟨rfl,rfl⟩) (by simp) (by simp) (by simp;omega) (by simp;omega))))|(refine nN (j:=3) (v:= .obj 7 2) ⟨7,2,[(6,⟨true,false,2,3,t2.map aO⟩),(3,⟨true,false,2,2,q2.map aO⟩),(1,⟨true,false,2,1,[]⟩)]⟩ [(6,⟨true,false,2,3,t2.map aO⟩)] [(1,⟨true,false,2,1,[]⟩)] rfl (by simp) rfl (by simp [Region.binds];rfl) (by decide) (by simp [Region.binds];rfl) (by simp;rfl) rfl ?_ ?_;(focus (refine Eo (by first|(simp;rfl)|(simp;done)|rfl) rfl (by first|(simp;rfl)|(simp;done)|rfl) (by first|(simp;rfl)|(simp;done)|rfl) (by first|(simp;rfl)|(simp;done)|rfl) (by first|(simp;done)|decide) (by first|rfl|exact yV (λ_=>rfl) _|(simp [rC,AV.iE];done)) (by first|(simp;rfl)|(simp;done)|rfl|exact W.1|exact W.2.1|exact W|(simp [W];done)) (by simp;exact ⟨rfl,rfl⟩) (by simp) (by simp) (by simp;omega) (by simp;omega))))|(refine nN (j:=1) (v:= .obj 7 1) ⟨7,2,[(6,⟨true,false,2,3,t2.map aO⟩),(3,⟨true,false,2,2,q2.map aO⟩),(1,⟨true,false,2,1,[]⟩)]⟩ [(6,⟨true,false,2,3,t2.map aO⟩),(3,⟨true,false,2,2,q2.map aO⟩)] [] rfl (by simp) rfl (by simp [Region.binds];rfl) (by decide) (by simp [Region.binds];rfl) (by simp;rfl) rfl ?_ ?_;(focus (refine Ch (by simp;exact ⟨rfl,rfl⟩) (by simp) rfl rfl (by decide) (by decide) (by first|(simp;rfl)|rfl) (by simp [AV.iE]) (by simp [AV.yA,AV.cells]) (by simp) (by simp [AV.cells]))))|(refine nN (j:=5) (v:= .obj 8 1) ⟨8,2,[(5,⟨true,false,2,1,[[.str a.host,.str a.path]]⟩)]⟩ [] [] rfl (by simp) rfl (by simp [Region.binds];rfl) (by decide) (by simp [Region.binds];rfl) (by simp;rfl) rfl ?_ ?_;(focus (refine ZP (by simp;exact ⟨rfl,rfl⟩) (by simp) rfl rfl (by decide) (by decide) (by first|(simp;rfl)|rfl) (by simp [AV.tJ,AV.iE]) (by simp [AV.yA,AV.cells]) (by simp) (by simp [AV.cells]))))|(refine OM rfl ?_ (by simp [Region.binds];rfl) (by decide) (by simp [Region.binds];rfl) (by simp;rfl) ?_ rfl (by first|rfl|(simp;done)) ?_;(focus (first|rfl|(simp;done)));(focus (first|rfl|(simp [nI];done))))|(refine nx ?_;refine so ?_)|fail
  have W:=aA e2 hk1;refine we ?_;all_goals try(refine ⟨by first|exact .inr rfl|exact .inl rfl,?_⟩;simp [gK,dN,dM,rowOf,results221])
theorem Kt [aC prog] [dD prog] (p:aI) (U:List aT) (hb:Bnd p U):∀(n:Nat) (a:aT) (s1 s2:List aT),qD p s1 < n->Seen U (s1,s2)->a∈U->Lf prog 221 [.view (.agg (aJ .view p)),.view (.agg (aO a)),.nX (.sl .own 2 (s1.map aO)),.nX (.sl .own 2 (s2.map aO))] (.iJ [.sl .own 2 ((gH p n a s1 s2).1.map aO),.sl .own 2 ((gH p n a s1 s2).2.map aO)])
 |0,_,_,_,h,_,_=>absurd h (by omega)
 |n+1,a,s1,s2,h,hs,ha=>by
  have hl:=hs.len;have hU:=hb.len;simp only at hl;cases hn:s1.any (iT a)
  .exact Ub p U hb n a ha s1 s2 hn hs h (λb q1 q2 h1 h2 h3=>Kt p U hb n b q1 q2 h1 h2 h3)
  .have:gH p (n+1) a s1 s2=(s1,s2):=by simp [gH,hn]
   rw [this];exact Rt p a s1 s2 hn (by omega)
theorem BH [aC prog] [dD prog] (p:aI) (U:List aT) (hb:Bnd p U) (a:aT) (ha:a∈U):Ok prog 167 [.agg (aJ .view p),.agg (aO a)] (.sl .own 2 ((eF p a).map aO)):=by
 have c1:=Kt p U hb (qD p []+1) a [] [] (by omega) ⟨by simp,by simp,by simp,by simp⟩ ha;unfold eF;generalize gH p (qD p []+1) a [] []=w at *;obtain ⟨w1,w2⟩:=w;simp only [aO,aJ,EV] at c1;refine bR aD func167 ntmps167 ?_;have W:=trivial;repeat' first|refine wf ?_|(refine nx ?_;refine sg (hc:=c1) (h:=?_))|(refine sq ?_ ?_<;>intro hc<;>try exact hc.elim)|fail
 exact aK results167
theorem ZR (c:UInt8):∀s:bF,aQ eX (dF c s)<=s.length
 |[]=>by simp [dF,aQ,eX]
 |x::s=>by
  have ih:=ZR c s;simp only [dF];split
  .simp only [aQ,eX,eW,eL] at ih⊢;omega
  .split
   .rename_i h0;exact absurd h0 (pQ c s)
   .rename_i p q h0;rw [h0] at ih;simp only [aQ,eX,eL] at ih⊢;omega
theorem aIa (s b:bF):aU (bZ s b).1<=s.length+b.length:=by have h:=tL 47 s;unfold bZ addrOf;split<;>split<;>simp [aU,vS]<;>omega
theorem ze (base:bF):∀(l:List bF) (acc:List aT) (q:List bF),nQ base l=some (acc,q)->7 * acc.length<=aQ eX l/\aQ aU acc<=aQ eX l+acc.length * base.length/\∀x∈acc,aU x<=aQ eX l+base.length
 |[],acc,q,h=>by simp only [nQ,eC,oS] at h;obtain ⟨rfl,rfl⟩:=h;simp [aQ]
 |p::ps,acc,q,h=>by
  simp only [nQ] at h;split at h
  .rename_i hp;split at h
   .obtain ⟨⟨a1,q1⟩,h1,h2⟩:=tB.1 h;simp only [oS] at h2;obtain ⟨rfl,rfl⟩:=h2;obtain ⟨i1,i2,i3⟩:=ze base ps a1 q1 h1;have h7:=QJ hp;have ha:=aIa (p.drop 7) base;simp only [show Ae.length=7 from rfl] at h7;simp only [zE] at ha;simp only [aQ,eX,eL,AF] at i1 i2 i3⊢;refine ⟨by omega,by omega,?_⟩;intro x hx;rcases lB.1 hx with rfl|hx
    .omega
    .have:=i3 x hx;omega
   .cases h
  .simp only [eC,oS] at h;obtain ⟨rfl,rfl⟩:=h;simp [aQ]
theorem xM (s b:bF):7 * (bI s b).1.length<=s.length/\aQ aU (bI s b).1<=s.length+(bI s b).1.length * b.length/\∀x∈(bI s b).1,aU x<=s.length+b.length:=by
 have hs:=ZR 59 s;unfold bI;split
 .simp [aQ]
 .rename_i l q h;obtain ⟨i1,i2,i3⟩:=ze b _ _ _ h;split
  .exact ⟨by simp only;omega,by simp only;omega,λx hx=>by have:=i3 x hx;omega⟩
  .simp [aQ]
theorem zf (N:Nat):∀l:List dB,(∀m∈l,bE m<=N)->7 * (l.flatMap λm=>(bI m.body m.to.host).1).length<=aQ bE l/\aQ aU (l.flatMap λm=>(bI m.body m.to.host).1)<=aQ bE l+(l.flatMap λm=>(bI m.body m.to.host).1).length * N
 |[],_=>by simp [aQ]
 |m::l,h=>by obtain ⟨i1,i2⟩:=zf N l (λx hx=>h x (by simp [hx]));obtain ⟨j1,j2,_⟩:=xM m.body m.to.host;have hm:=h m (by simp);simp only [bE,aU] at hm;have h3:=Nat.mul_le_mul_left (bI m.body m.to.host).1.length (show m.to.host.length<=N by omega);simp only [flatMap_cons,eR,aQ,jA,pP,bE,aU] at i1 i2⊢;exact ⟨by omega,by omega⟩
theorem FL (p:aI) (a:aT) (h:bV bE p.aN+aU a<=16777216):Bnd p (a::sZ p)/\(a::sZ p).length<=2396746/\aQ aU (a::sZ p)<=50000000000000:=by
 have hm:∀m∈p.aN,bE m<=16777216:=λm hm=>by have:=cB bE hm;simp only [aF,bV] at h;omega
 obtain ⟨f1,f2⟩:=zf 16777216 p.aN hm;have hs:aQ bE p.aN<=16777216:=by simp only [aF,bV] at h;omega
 have hl:(sZ p).length<=2396745:=by unfold sZ;omega
 have h4:=kO 16777216 hl;have h5:aQ aU (sZ p)<=16777216+(sZ p).length * 16777216:=by unfold sZ;omega
 refine ⟨⟨by omega,λx hx=>AM _ hx,by simp only [eL];omega,?_,?_⟩,by simp only [eL];omega,by simp only [aQ];omega⟩
 .intro x hx;rcases lB.1 hx with rfl|hx
  .simp only [aU] at h;omega
  .obtain ⟨m,h1,h2⟩:=Fl.1 hx;have h6:=(xM m.body m.to.host).2.2 x h2;have h7:=hm m h1;simp only [bE,aU] at h6 h7;omega
 .intro m h1;have h6:=(xM m.body m.to.host).1;have h7:=hm m h1;simp only [bE] at h7;omega
theorem Ku (p:aI) (a:aT) (h:bV bE p.aN+aU a<=16777216):(eF p a).length<=2396746/\aQ aU (eF p a)<=50000000000000/\∀x∈eF p a,x∈a::sZ p:=by obtain ⟨hb,h1,h2⟩:=FL p a h;have hs:=(En hb.im (qD p []+1) a ([],[]) (by simp) ⟨by simp,by simp,by simp,by simp⟩).1;obtain ⟨h3,h4⟩:=Dq aU _ (a::sZ p) hs.ond (λx hx=>hs.sub x (hs.ZK x hx));exact ⟨lO h4 h1,lO h3 h2,λx hx=>hs.sub x (hs.ZK x hx)⟩
def nE (p:aI) (a:aT):Bool:=
 match p.aN.find? (kX a) with
 |some m=>m.done
 |none=>false
def vY (p:aI) (a:aT):Bool:=(eF p a).all (nE p)
def rZ (p:aI) (a:aT):Bool:= !(eF p a).all (lD p)
theorem Xm {α:Type} {f:α->Bool} {l:List α} (k:Nat) (hk:k < l.length) (h:f l[k]=false):l.all f=false:=by
 cases hb:l.all f with
 |false=>rfl
 |true=>rw [fS] at hb;have:=hb l[k] (fR hk);rw [h] at this;cases this
theorem OV {α:Type} {f:α->Bool} {l:List α} (h:∀x∈l,f x=true):l.all f=true:=fS.2 h
theorem Kv [aC prog] [dD prog] (p:aI) (a:aT) (hs:bV bE p.aN+aU a<=16777216):Ok prog 137 [.agg (aJ .view p),.agg (aO a)] (.bool (vY p a)):=by
 obtain ⟨hB,_⟩:=FL p a hs;obtain ⟨z1,_,_⟩:=Ku p a hs;have c0:=BG p _ hB a (by simp);have cm:=λb=>xL p b (by simp only [aF,bV] at hs;omega)
 unfold vY;generalize eF p a=L at *;simp only [aO,aJ] at c0 cm;have hlen:(L.map aO).length=L.length:=by simp
 refine bR aD func137 ntmps137 ?_;refine bH ?_;refine aL (ι:={k:Nat // k<=L.length/\∀x∈L.take k,nE p x=true}) (λt o i=>⟨bD t [(12,.int .i64 i.1),(13,.undef),(14,.undef),(15,.undef),(6,.undef),(7,.undef)],o.take 3⟩)
  (λi=>L.length - i.1) ⟨0,by simp,by simp⟩ aH ?_
 rintro ⟨k,hk,hpre⟩ K1 hK1;simp only [bD,cW,cU] at hK1⊢;have hk1:=oW (k:=k);by_cases hlt:k < L.length
 .have hg:=aE hlt;have c1:=cm L[k];have hnext:nE p L[k]=true->∀x∈L.take (k+1),nE p x=true:=λh=>dV hlt hpre h
  have jU:nE p L[k]=false->L.all (nE p)=false:=λh=>Xm k hlt h
  rcases uA (kX L[k]) p.aN with ⟨hi,hf⟩|⟨j,hj,hi,hf⟩
  .have hd:nE p L[k]=false:=by unfold nE;rw [hf]
   rw [hi] at c1;have jK:=jU hd;have W:=aA hk1 (aA hg hlt);refine we ?_;all_goals try(refine aR ?_;simp [aG,results137,jK])
  .have hd:nE p L[k]=p.aN[j].done:=by unfold nE;rw [hf]
   rw [hi] at c1;have hgm:=aE hj;have hj0:¬(j:Int) < 0:=by omega
   cases pM:p.aN[j].done
   .have jK:=jU (hd.trans pM);have W:=aA hk1 (aA hg (aA hlt (aA hgm (aA hj (aA hj0 pM)))));refine we ?_;all_goals try(refine aR ?_;simp [aG,results137,jK])
   .have hnx:=hnext (hd.trans pM);have W:=aA hk1 (aA hg (aA hlt (aA hgm (aA hj (aA hj0 pM)))));refine we ?_;exact hK1 _ ⟨k+1,by omega,hnx⟩ (aW 3) (by simp only;omega)
 .have jK:L.all (nE p)=true:=OV (by have:=hpre;rwa [cX (by omega)] at this);have W:=aA hk1 hlt;refine we ?_;all_goals try(refine aR ?_;simp [aG,results137,jK])
theorem Kw [aC prog] [dD prog] (p:aI) (a:aT) (hs:bV bE p.aN+aU a<=16777216):Ok prog 114 [.agg (aJ .view p),.agg (aO a)] (.bool (vY p a)):=by
 obtain ⟨hB,_⟩:=FL p a hs;obtain ⟨z1,_,_⟩:=Ku p a hs;have c0:=BH p _ hB a (by simp);have cm:=λb=>zQ p b (by simp only [aF,bV] at hs;omega)
 unfold vY;generalize eF p a=L at *;simp only [aO,aJ] at c0 cm;have hlen:(L.map aO).length=L.length:=by simp
 refine bR aD func114 ntmps114 ?_;refine bH ?_;refine aL (ι:={k:Nat // k<=L.length/\∀x∈L.take k,nE p x=true}) (λt o i=>⟨bD t [(6,.int .i64 i.1),(7,.undef)],o⟩)
  (λi=>L.length - i.1) ⟨0,by simp,by simp⟩ aH ?_
 rintro ⟨k,hk,hpre⟩ K1 hK1;simp only [bD,cW,cU] at hK1⊢;have hk1:=oW (k:=k);by_cases hlt:k < L.length
 .have hg:=aE hlt;have c1:=cm L[k];have hnext:nE p L[k]=true->∀x∈L.take (k+1),nE p x=true:=λh=>dV hlt hpre h
  have jU:nE p L[k]=false->L.all (nE p)=false:=λh=>Xm k hlt h
  rcases uA (kX L[k]) p.aN with ⟨hi,hf⟩|⟨j,hj,hi,hf⟩
  .have hd:nE p L[k]=false:=by unfold nE;rw [hf]
   rw [hi] at c1;have jK:=jU hd;have W:=aA hk1 (aA hg hlt);refine we ?_;all_goals try(refine aR ?_;simp [aG,results114,jK])
  .have hd:nE p L[k]=p.aN[j].done:=by unfold nE;rw [hf]
   rw [hi] at c1;have hgm:=aE hj;have hj0:¬(j:Int) < 0:=by omega
   cases pM:p.aN[j].done
   .have jK:=jU (hd.trans pM);have W:=aA hk1 (aA hg (aA hlt (aA hgm (aA hj (aA hj0 pM)))));refine we ?_;all_goals try(refine aR ?_;simp [aG,results114,jK])
   .have hnx:=hnext (hd.trans pM);have W:=aA hk1 (aA hg (aA hlt (aA hgm (aA hj (aA hj0 pM)))));refine we ?_;exact hK1 _ ⟨k+1,by omega,hnx⟩ (aW 3) (by simp only;omega)
 .have jK:L.all (nE p)=true:=OV (by have:=hpre;rwa [cX (by omega)] at this);have W:=aA hk1 hlt;refine we ?_;all_goals try(refine aR ?_;simp [aG,results114,jK])
theorem XB [aC prog] (l0:List kJ) (k:Int) (h0:0<=k) (hl:k+(aQ (λ_=>8) l0:Nat)<=4611686018427387000) (OI:l0.length<=4611686018427387904):Ok prog 56 [.sl .view 8 ((vF Bq (λ_=>8) k l0).map iY),.int .i64 k] (.int .i64 (k+(aQ (λ_=>8) l0:Nat))):=by
 have hget:∀j (h:j < l0.length),(vF Bq (λ_=>8) k l0)[j]? =some (Bq (k+(aQ (λ_=>8) (l0.take j):Nat)) l0[j]):=λj h=>by rw [aE (by rw [fM];exact h),pR]
 generalize hu:vF Bq (λ_=>8) k l0=l at *;have hlen:l.length=l0.length:=by rw [<-hu,fM]
 refine bR aD func56 ntmps56 ?_;refine gJ ?_;refine aL (ι:={j:Nat // j<=l0.length}) (λt o i=>⟨bD t [(1,.int .i64 (k+(aQ (λ_=>8) (l0.take i.1):Nat))),(5,.int .i64 i.1)],o⟩)
  (λi=>l0.length - i.1) ⟨0,by simp⟩ (aH (by simp) (by simp [aQ])) ?_
 rintro ⟨j,hj⟩ K1 hK1;simp only [bD,cW,cU] at hK1⊢;have hj1:i64.wrap ((j:Int)+1)=((j+1:Nat):Int):=by rw [wrap64]<;>omega
 have hle:=dK (λ_=>8) l0 (j+1);by_cases hlt:j < l0.length
 .have hts:=dC (λ_=>8) l0 j hlt
  have hg:l[j]? =some (Bq (k+(aQ (λ_=>8) (l0.take j):Nat)) l0[j]):=hget j hlt;generalize hq:k+(aQ (λ_=>8) (l0.take j):Nat)=q at *;have e2:q+1+1=q+2:=by omega
  have e3:q+2+1=q+3:=by omega
  have e4:q+3+1=q+4:=by omega
  have e5:q+4+1=q+5:=by omega
  have e6:q+5+1=q+6:=by omega
  have e7:q+6+1=q+7:=by omega
  have e8:q+7+1=q+8:=by omega
  simp only [Bq,Am] at hg;have W:=aA hlen (aA hj1 (aA hg (aA e2 (aA e3 (aA e4 (aA e5 (aA e6 (aA e7 e8))))))));have V:=aA hlen (aA hj1 (aA hg (aA hlt (aA e2 (aA e3 (aA e4 (aA e5 (aA e6 (aA e7 e8)))))))));repeat' first|refine wg ?_|(refine nx ?_;refine sk (hc:=kM _ (by omega)) (h:=?_))|(refine sq ?_ ?_<;>intro hc<;>try exact hc.elim)|fail
  refine hK1 _ ⟨j+1,by omega⟩ (aH (by simp) ?_) (by simp only;omega);simp;omega
 .have htk:l0.take j=l0:=cX (by omega);have hjl:j=l0.length:=by omega
  rw [htk] at *;have W:=aA hlen hj1;refine wl ?_;exact aK results56
theorem Sr [aC prog] (l0:List dB) (k:Int) (h0:0<=k) (hl:k+(aQ (λ_=>5) l0:Nat)<=4611686018427387000) (OI:l0.length<=4611686018427387904):Ok prog 57 [.sl .view 5 ((vF tZ (λ_=>5) k l0).map bU),.int .i64 k] (.int .i64 (k+(aQ (λ_=>5) l0:Nat))):=by
 have hget:∀j (h:j < l0.length),(vF tZ (λ_=>5) k l0)[j]? =some (tZ (k+(aQ (λ_=>5) (l0.take j):Nat)) l0[j]):=λj h=>by rw [aE (by rw [fM];exact h),pR]
 generalize hu:vF tZ (λ_=>5) k l0=l at *;have hlen:l.length=l0.length:=by rw [<-hu,fM]
 refine bR aD func57 ntmps57 ?_;refine gJ ?_;refine aL (ι:={j:Nat // j<=l0.length}) (λt o i=>⟨bD t [(1,.int .i64 (k+(aQ (λ_=>5) (l0.take i.1):Nat))),(5,.int .i64 i.1)],o⟩)
  (λi=>l0.length - i.1) ⟨0,by simp⟩ (aH (by simp) (by simp [aQ])) ?_
 rintro ⟨j,hj⟩ K1 hK1;simp only [bD,cW,cU] at hK1⊢;have hj1:i64.wrap ((j:Int)+1)=((j+1:Nat):Int):=by rw [wrap64]<;>omega
 have hle:=dK (λ_=>5) l0 (j+1);by_cases hlt:j < l0.length
 .have hts:=dC (λ_=>5) l0 j hlt
  have hg:l[j]? =some (tZ (k+(aQ (λ_=>5) (l0.take j):Nat)) l0[j]):=hget j hlt;generalize hq:k+(aQ (λ_=>5) (l0.take j):Nat)=q at *;have e2:q+1+1=q+2:=by omega
  have e3:q+2+1=q+3:=by omega
  have e4:q+3+1=q+4:=by omega
  have e5:q+4+1=q+5:=by omega
  simp only [tZ,Am] at hg;have W:=aA hlen (aA hj1 (aA hg (aA e2 (aA e3 (aA e4 e5)))));have V:=aA hlen (aA hj1 (aA hg (aA hlt (aA e2 (aA e3 (aA e4 e5))))));repeat' first|refine wg ?_|(refine nx ?_;refine sk (hc:=kM _ (by omega)) (h:=?_))|(refine sq ?_ ?_<;>intro hc<;>try exact hc.elim)|fail
  refine hK1 _ ⟨j+1,by omega⟩ (aH (by simp) ?_) (by simp only;omega);simp;omega
 .have htk:l0.take j=l0:=cX (by omega);have hjl:j=l0.length:=by omega
  rw [htk] at *;have W:=aA hlen hj1;refine wl ?_;exact aK results57
end Go.Proofs.YtjmpjmilndkgfaaGreatDoor
