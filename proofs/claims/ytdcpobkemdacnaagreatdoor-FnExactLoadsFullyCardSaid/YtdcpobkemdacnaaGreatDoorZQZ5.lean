/- Proved here: steps towards the statement of this claim. No condition. -/
import Derived.Test.YtdcpobkemdacnaaGreatDoorZQFI
set_option linter.all false
set_option maxRecDepth 8000
set_option maxHeartbeats 8000000
namespace Go.Proofs.YtdcpobkemdacnaaGreatDoor
open Go.Aw Proofs.Tryz List IntKind
theorem vZ {α:Type} {f:α->List AV} {i j:Nat} (h:∀x,qP i j (f x)=f x):∀l:List α,qB i j (l.map f)=l.map f
 |[]=>rfl
 |x::l=>by simp only [mA,qB,h,vZ h l]
@[simp] theorem aM5 (i j:Nat) (l:List bB):qB i j (l.map dD)=l.map dD:=vZ (λ_=>rfl) l
@[simp] theorem aM6 (i j:Nat) (l:List Int):qB i j (l.map lW)=l.map lW:=vZ (λ_=>rfl) l
@[simp] theorem aLt (i j:Nat) (l:List aK):qB i j (l.map aL)=l.map aL:=vZ (λ_=>rfl) l
@[simp] theorem aLu (i j:Nat) (l:List oL):qB i j (l.map uL)=l.map uL:=vZ (λ_=>rfl) l
@[simp] theorem aLv (i j:Nat) (l:List oZ):qB i j (l.map uW)=l.map uW:=vZ (λ_=>rfl) l
@[simp] theorem aH3 (i j:Nat) (l:List dY):qB i j (l.map eZ)=l.map eZ:=vZ (λ_=>rfl) l
@[simp] theorem aH4 (i j:Nat) (l:List bV):qB i j (l.map (cB .view))=l.map (cB .view):=vZ (λ_=>by simp) l
@[simp] theorem aJg (i j:Nat) (l:List jL):qB i j (l.map (fD .view))=l.map (fD .view):=vZ (λ_=>by simp) l
@[simp] theorem aPm (u:List Nat) (b:Bool) (l:List bV):mM (jV u) b (l.map (cB .view))=l.map (cB .view):=by
 induction l with
 |nil=>rfl
 |cons x l ih=>rw [mA,mM,ih];simp [xM,rt,cB,jV]
@[simp] theorem aM7 (u:List Nat) (b:Bool) (l:List jL):mM (jV u) b (l.map (fD .view))=l.map (fD .view):=by
 induction l with
 |nil=>rfl
 |cons x l ih=>rw [mA,mM,ih];simp [xM,rt,fD,jV]
theorem uo {t t':List AV} {o o':List aN} {v:Nat} {l1 l3 m1 m3:List (List AV)} {o4 o5 o6 o7 o8 o9:aN}
  (ho:o=[⟨true,true,1,2,[[.obj 10 1]]⟩,⟨false,false,2,v,l1⟩,⟨true,true,1,2,[[.obj 11 1]]⟩,⟨false,false,2,1,l3⟩,o4,o5,o6,o7,o8,o9,⟨true,false,2,1,m1⟩,⟨true,false,2,1,m3⟩])
  (ho':o'=[⟨true,true,1,2,[[.obj 1 1]]⟩,⟨true,false,2,1,m1⟩,⟨true,true,1,2,[[.obj 3 1]]⟩,⟨true,false,2,1,m3⟩,o4,o5,o6,o7,o8])
  (hf:(o4.lK 1 10=o4/\o5.lK 1 10=o5/\o6.lK 1 10=o6/\o7.lK 1 10=o7/\o8.lK 1 10=o8/\o9.lK 1 10=o9)/\(o4.lK 3 11=o4/\o5.lK 3 11=o5/\o6.lK 3 11=o6/\o7.lK 3 11=o7/\o8.lK 3 11=o8/\o9.lK 3 11=o9))
  (hw:wk t t') (h1:wk (qP 1 10 t') t') (h3:wk (qP 3 11 t') t') (hc:eX 9 t'=true) (hc0:dE 9 [o4,o5,o6,o7,o8]=true):mX ⟨t,o⟩ ⟨t',o'⟩:=by
 subst ho;subst ho';obtain ⟨⟨a4,a5,a6,a7,a8,a9⟩,b4,b5,b6,b7,b8,b9⟩:=hf;refine (wT hw).trans ?_;refine (aR 1 10 rfl rfl ⟨rfl,rfl⟩ (by simp [a4,a5,a6,a7,a8,a9];rfl) h1).trans ?_;refine (aR 3 11 rfl rfl ⟨rfl,rfl⟩ (by simp [b4,b5,b6,b7,b8,b9];rfl) h3).trans ?_;refine aX 9 (by simp) (mD _) hc ?_;simpa [dE,eX,closed] using hc0
theorem BM {p:aG} {U:List aK} (hU:∀x∈uQ p,x∈U) (n:Nat):∀(l:List aK) (s:List aK×List aK),(∀b∈l,b∈U)->Seen U s->Seen U (dX p n l s)/\(∀x∈s.1,x∈(dX p n l s).1)
 |[],s,_,h=>⟨h,λ_ h=>h⟩
 |b::l,s,hl,h=>by obtain ⟨h1,h2⟩:=EF hU n b s (hl b (by simp)) h;obtain ⟨h3,h4⟩:=BM hU n l _ (λx hx=>hl x (by simp [hx])) h1;exact ⟨h3,λx hx=>h4 x (h2 x hx)⟩
theorem yH [aC prog] [bR prog] (p:aG) (a:aK) (hl:p.aM.length<=1099511627776):Ok prog 197 [.agg (aI .view p),.agg (aL a)] (.int .i64 (pW (kQ a) p.aM)):=by have c1:=Zn p.aM a hl;simp only [aL] at c1;refine bO aD func197 ntmps197 ?_;refine aZ ?_;exact aF results197
structure Bnd (p : aG) (U : List aK) : Prop where
  hs : bT bL p.aM <= 268435456
  im : ∀ x ∈ uQ p, x ∈ U
  len : U.length <= 1073741824
  host : ∀ x ∈ U, x.host.length <= 1073741824
  ps : ∀ m ∈ p.aM, (bJ m.body m.to.host).1.length <= 1073741824
theorem Seen.len {U:List aK} {s:List aK×List aK} (h:Seen U s):s.1.length<=U.length/\s.2.length<=U.length:=
 ⟨(DL (λ_=>0) s.1 U h.nd h.sub).2,(DL (λ_=>0) s.2 U h.ond (λx hx=>h.sub x (h.ak x hx))).2⟩
theorem Sq [aC prog] [bR prog] (p:aG) (U:List aK) (hb:Bnd p U) (a:aK) (s1 s2:List aK) (hn:s1.any (iV a)=true) (h1:s1.length<=1073741824):
  Ma prog 245 [.view (.agg (aI .view p)),.view (.agg (aL a)),.tY [.sl .own 2 (s1.map aL)] [.sl .own 2 (s1.map aL)],.tY [.sl .own 2 (s2.map aL)] [.sl .own 2 (s2.map aL)]] (.gZ []):=by
 have c1:=Ai s1 a (by omega);simp only [aL] at c1;rw [hn] at c1;refine rO aD func245 ntmps245 ?_;refine aZ ?_;all_goals try(refine ⟨by first|exact .inr rfl|exact .inl rfl,?_⟩;simp [gJ,dL,dJ,rowOf,results245])
theorem UB [aC prog] [bR prog] (p:aG) (U:List aK) (hb:Bnd p U) (n:Nat) (a:aK) (ha:a∈U) (s1 s2:List aK) (hn:s1.any (iV a)=false) (hs:Seen U (s1,s2)) (hf:rA p s1 < n+1)
  (ih:∀(b:aK) (q1 q2:List aK),rA p q1 < n->Seen U (q1,q2)->b∈U->Ma prog 245 [.view (.agg (aI .view p)),.view (.agg (aL b)),.tY [.sl .own 2 (q1.map aL)] [.sl .own 2 ((gL p n b q1 q2).1.map aL)],.tY [.sl .own 2 (q2.map aL)] [.sl .own 2 ((gL p n b q1 q2).2.map aL)]] (.gZ [])):
  Ma prog 245 [.view (.agg (aI .view p)),.view (.agg (aL a)),.tY [.sl .own 2 (s1.map aL)] [.sl .own 2 ((gL p (n+1) a s1 s2).1.map aL)],.tY [.sl .own 2 (s2.map aL)] [.sl .own 2 ((gL p (n+1) a s1 s2).2.map aL)]] (.gZ []):=by
 have hps:=hb.hs;have hl:=hs.len;have hU:=hb.len;simp only [aJ,bT] at hps;simp only at hl;have c1:=Ai s1 a (by omega);have c2:=yH p a (by omega);rw [hn] at c1;have hna:a∉s1:=λh=>by rw [yG.2 h] at hn;cases hn
 obtain ⟨t1,ht1⟩:∃l:List aK,l=s1++[a]:=⟨_,rfl⟩;have e1:s1.map aL++[[.str a.host,.str a.path]]=t1.map aL:=by simp [ht1]
 have hl1:(s1.map aL).length=s1.length:=by simp
 have hv:gL p (n+1) a s1 s2=((dX p n (iO p a) (s1++[a],s2)).1,(dX p n (iO p a) (s1++[a],s2)).2++[a]):=by simp only [gL,hn,dX];rfl
 rw [hv];clear hv;rw [<-ht1];rcases lI (kQ a) p.aM with ⟨hi,hf⟩|⟨k,hk,hi,hf⟩
 .have hL:iO p a=[]:=by unfold iO;rw [hf]
  have hl2:(s2.map aL).length=s2.length:=by simp
  rw [hL];rw [hi] at c2;simp only [aL,aI] at c1 c2;obtain ⟨t2,ht2⟩:∃l:List aK,l=s2++[a]:=⟨_,rfl⟩;have e2:s2.map aL++[[.str a.host,.str a.path]]=t2.map aL:=by simp [ht2]
  simp only [dX,foldl_nil];rw [<-ht2];clear ht2 ht1;refine rO aD func245 ntmps245 ?_;have W:=aA e1 (aA e2 (aA hl1 hl2));refine we ?_;all_goals try(refine ⟨by first|exact .inr rfl|exact .inl rfl,?_⟩;simp [gJ,dL,dJ,rowOf,results245,dX])
 .have hm:=fN hk;have hz:=bU bL hm;have hpm:=hb.ps _ hm;have zt:(p.aM[k]).to=a:=by have:=DG hf;simpa [kQ] using this
  have hha:=hb.host _ ha;rw [hi] at c2;have hg:=aE hk;have hL:iO p a=if p.aM[k].done=true/\p.aM[k].code=1 then (bJ p.aM[k].body a.host).1 else []:=by unfold iO;rw [hf]
  simp only [bL,aQ] at hz;have cp:=tO p.aM[k].body a.host (by omega) hha;rw [zt] at hpm;simp only [aL,aI] at c1 c2;by_cases hd:p.aM[k].done=true/\p.aM[k].code=1
  .rw [eI hd] at hL;rw [<-hL] at cp hpm;obtain ⟨hd1,hd2⟩:=hd;refine rO aD func245 ntmps245 ?_;have W:=aA e1 (aA hl1 (aA hg (aA hk (aA hd1 hd2))));refine we ?_;have hst:Seen U (t1,s2):=by
    subst ht1;exact ⟨gR.2 ⟨hs.nd,by simp,λx hx y hy e=>hna (by simp at hy;subst hy;subst e;exact hx)⟩,λx hx=>by
     rcases fL.1 hx with h|h
     .exact hs.sub x h
     .simp at h;subst h;exact ha,hs.ond,λx hx=>mN _ (hs.ak x hx)⟩
   have hun:rA p t1 < n:=by have:=Wp (p:=p) (s:=s1) (a:=a) (by rw [hn];simp) ⟨_,hm,zt⟩;rw [<-ht1] at this;omega
   have hLU:∀b∈iO p a,b∈U:=λb h=>hb.im b (JB p a b h)
   clear hL ht1;generalize iO p a=L at *;refine aP (ι:={k:Nat×Nat // k.1<=L.length/\1<=k.2}) (λt o i=>⟨bE t [(64,.int .i64 i.1.1),(13,.undef),(16,.undef),(22,.undef),(25,.undef)],[⟨true,true,1,2,[[.obj 1 i.1.2]]⟩,⟨true,false,2,i.1.2,(dX p n (L.take i.1.1) (t1,s2)).1.map aL⟩,⟨true,true,1,2,[[.obj 3 1]]⟩,⟨true,false,2,1,(dX p n (L.take i.1.1) (t1,s2)).2.map aL⟩]++o.drop 4⟩)
    (λi=>L.length - i.1.1) ⟨(0,2),by simp,by simp⟩ (aO (by simp [dX]) (by simp)) ?_
   rintro ⟨⟨k,v⟩,hk,hv⟩ K1 hK1;simp only [bE,cW,cU,pB,AF,eA,eM] at hk hv hK1⊢;have hk1:=oW (k:=k);by_cases hlt:k < L.length
   .have hg2:=aE hlt;obtain ⟨f1,f2⟩:=BM hb.im n (L.take k) (t1,s2) (λb h=>hLU b (tB h)) hst;have f3:=Ol (p:=p) f2;have c3:=ih L[k] (dX p n (L.take k) (t1,s2)).1 (dX p n (L.take k) (t1,s2)).2 (by simp only at f3;omega) f1 (hLU _ (fN hlt));have hnext:dX p n (L.take (k+1)) (t1,s2)=gL p n L[k] (dX p n (L.take k) (t1,s2)).1 (dX p n (L.take k) (t1,s2)).2:=by
     rw [eK hlt,Gm]
    generalize dX p n (L.take k) (t1,s2)=q at *;obtain ⟨q1,q2⟩:=q;simp only at c3 hnext⊢;generalize gL p n L[k] q1 q2=w at *;obtain ⟨w1,w2⟩:=w;simp only [aL,aI] at c3;have W:=aA hk1 (aA hg2 hlt);repeat' first|refine wf ?_|(refine nx ?_;refine sg (hc:=c3) (h:=?_))|(refine sq ?_ ?_<;>intro hc<;>try exact hc.elim)|fail
    refine hK1 _ ⟨(k+1,1),by simp only;omega,by simp⟩ ?_ (by simp only;omega);simp only [hnext];exact uo rfl rfl (by simp) (by simp) (by simp) (by simp) (by simp) (by simp [dE,eX,closed])
   .have htk:L.take k=L:=cY (by omega);rw [htk];have f1:=(BM hb.im n L (t1,s2) hLU hst).1.len;generalize dX p n L (t1,s2)=q at *;obtain ⟨q1,q2⟩:=q;simp only at f1;have hl2:(q2.map aL).length=q2.length:=by simp
    obtain ⟨t2,ht2⟩:∃l:List aK,l=q2++[a]:=⟨_,rfl⟩;have e2:q2.map aL++[[.str a.host,.str a.path]]=t2.map aL:=by simp [ht2]
    simp only;rw [<-ht2];clear ht2;have W:=aA hk1 (aA e2 hl2);refine we ?_;all_goals try(refine ⟨by first|exact .inr rfl|exact .inl rfl,?_⟩;simp [gJ,dL,dJ,rowOf,results245])
  .rw [cX hd] at hL;have hl2:(s2.map aL).length=s2.length:=by simp
   rw [hL];obtain ⟨t2,ht2⟩:∃l:List aK,l=s2++[a]:=⟨_,rfl⟩;have e2:s2.map aL++[[.str a.host,.str a.path]]=t2.map aL:=by simp [ht2]
   simp only [dX,foldl_nil];rw [<-ht2];clear ht2 ht1;cases hd1:p.aM[k].done
   .refine rO aD func245 ntmps245 ?_;have W:=aA e1 (aA e2 (aA hl1 (aA hl2 (aA hg (aA hk hd1)))));refine we ?_;all_goals try(refine ⟨by first|exact .inr rfl|exact .inl rfl,?_⟩;simp [gJ,dL,dJ,rowOf,results245])
   .have hd2:¬p.aM[k].code=1:=λh=>hd ⟨hd1,h⟩
    refine rO aD func245 ntmps245 ?_;have W:=aA e1 (aA e2 (aA hl1 (aA hl2 (aA hg (aA hk (aA hd1 hd2))))));refine we ?_;all_goals try(refine ⟨by first|exact .inr rfl|exact .inl rfl,?_⟩;simp [gJ,dL,dJ,rowOf,results245])
theorem Lg [aC prog] [bR prog] (p:aG) (U:List aK) (hb:Bnd p U):∀(n:Nat) (a:aK) (s1 s2:List aK),rA p s1 < n->Seen U (s1,s2)->a∈U->Ma prog 245 [.view (.agg (aI .view p)),.view (.agg (aL a)),.tY [.sl .own 2 (s1.map aL)] [.sl .own 2 ((gL p n a s1 s2).1.map aL)],.tY [.sl .own 2 (s2.map aL)] [.sl .own 2 ((gL p n a s1 s2).2.map aL)]] (.gZ [])
 |0,_,_,_,h,_,_=>absurd h (by omega)
 |n+1,a,s1,s2,h,hs,ha=>by
  have hl:=hs.len;have hU:=hb.len;simp only at hl;cases hn:s1.any (iV a)
  .exact UB p U hb n a ha s1 s2 hn hs h (λb q1 q2 h1 h2 h3=>Lg p U hb n b q1 q2 h1 h2 h3)
  .have:gL p (n+1) a s1 s2=(s1,s2):=by simp [gL,hn]
   rw [this];exact Sq p U hb a s1 s2 hn (by omega)
def dZ (p:aG) (a:aK):List aK:=(gL p (rA p []+1) a [] []).2
theorem BN [aC prog] [bR prog] (p:aG) (U:List aK) (hb:Bnd p U) (a:aK) (ha:a∈U):Ok prog 196 [.agg (aI .view p),.agg (aL a)] (.sl .own 2 ((dZ p a).map aL)):=by
 have c1:=Lg p U hb (rA p []+1) a [] [] (by omega) ⟨by simp,by simp,by simp,by simp⟩ ha;unfold dZ;generalize gL p (rA p []+1) a [] []=w at *;obtain ⟨w1,w2⟩:=w;simp only [aL,aI,Dg] at c1;refine bO aD func196 ntmps196 ?_;have W:=trivial;repeat' first|refine wf ?_|(refine nx ?_;refine sg (hc:=c1) (h:=?_))|(refine sq ?_ ?_<;>intro hc<;>try exact hc.elim)|fail
 exact aF results196
def lF (p:aG) (a:aK):Bool:=
 match p.aM.find? (kQ a) with
 |some m=>if m.done=true/\m.code=1 then (bJ m.body a.host).2.2 else false
 |none=>false
theorem Gn [aC prog] [bR prog] (p:aG) (U:List aK) (hb:Bnd p U) (a:aK) (ha:a∈U):Ok prog 118 [.agg (aI .view p),.agg (aL a)] (.gZ [.sl .own 2 ((iO p a).map aL),.bool (lF p a)]):=by
 have hps:=hb.hs;simp only [aJ,bT] at hps;have c2:=zV p a (by omega);unfold iO lF;rcases lI (kQ a) p.aM with ⟨hi,hf⟩|⟨k,hk,hi,hf⟩
 .rw [hf];rw [hi] at c2;simp only [aL,aI] at c2;refine bO aD func118 ntmps118 ?_;refine aZ ?_;exact aF results118
 .rw [hf];rw [hi] at c2;have hm:=fN hk;have hz:=bU bL hm;have hha:=hb.host _ ha;have hg:=aE hk;simp only [bL,aQ] at hz;have cp:=xC p.aM[k].body a.host (by omega) hha;simp only [aL,aI] at c2;simp only;generalize bJ p.aM[k].body a.host=w at *;obtain ⟨w1,w2,w3⟩:=w;simp only at cp;have hk0:¬((k:Nat):Int) < 0:=by omega
  cases hd1:p.aM[k].done
  .refine bO aD func118 ntmps118 ?_;have W:=aA hk0 (aA hg (aA hk hd1));refine we ?_;exact aF results118
  .by_cases hd2:p.aM[k].code=1
   .simp only [hd2,Fm,gO];refine bO aD func118 ntmps118 ?_;have W:=aA hk0 (aA hg (aA hk (aA hd1 hd2)));refine we ?_;exact aF results118
   .simp only [hd2,and_false,hH];refine bO aD func118 ntmps118 ?_;have W:=aA hk0 (aA hg (aA hk (aA hd1 hd2)));refine we ?_;exact aF results118
theorem Sr [aC prog] [bR prog] (p:aG) (a:aK) (s1 s2:List aK) (hn:s1.any (iV a)=true) (h1:s1.length<=1073741824):
  Ma prog 221 [.view (.agg (aI .view p)),.view (.agg (aL a)),.oK (.sl .own 2 (s1.map aL)),.oK (.sl .own 2 (s2.map aL))] (.gZ [.sl .own 2 (s1.map aL),.sl .own 2 (s2.map aL)]):=by
 have c1:=Bp s1 a (by omega);simp only [aL] at c1;rw [hn] at c1;refine rO aD func221 ntmps221 ?_;refine aZ ?_;all_goals try(refine ⟨by first|exact .inr rfl|exact .inl rfl,?_⟩;simp [gJ,dL,dJ,rowOf,results221])
theorem bf {t t':List AV} {o o':List aN} {v:Nat} {l1 l4 m1 m2:List (List AV)} {o0 o2 o3 o5 o6:aN}
  (ho:o=[o0,⟨false,false,2,1,l1⟩,o2,o3,⟨false,false,2,v,l4⟩,o5,o6,⟨true,false,2,1,m1⟩,⟨true,false,2,1,m2⟩])
  (ho':o'=[o0,⟨true,false,2,1,m2⟩,o2,o3,⟨true,false,2,1,m1⟩,o5,o6])
  (hf:(o0.lK 4 7=o0/\o2.lK 4 7=o2/\o3.lK 4 7=o3/\o5.lK 4 7=o5/\o6.lK 4 7=o6)/\(o0.lK 1 8=o0/\o2.lK 1 8=o2/\o3.lK 1 8=o3/\o5.lK 1 8=o5/\o6.lK 1 8=o6))
  (hw:wk t (qP 4 7 (qP 1 8 t'))) (h1:wk (qP 4 7 (qP 4 7 (qP 1 8 t'))) (qP 1 8 t')) (h3:wk (qP 1 8 (qP 1 8 t')) t') (hc:eX 7 t'=true) (hc0:dE 7 [o0,o2,o3,o5,o6]=true):mX ⟨t,o⟩ ⟨t',o'⟩:=by
 subst ho;subst ho';obtain ⟨⟨a0,a2,a3,a5,a6⟩,b0,b2,b3,b5,b6⟩:=hf;refine (wT hw).trans ?_;refine (aR 4 7 rfl rfl ⟨rfl,rfl⟩ (by simp [a0,a2,a3,a5,a6];rfl) h1).trans ?_;refine (aR 1 8 rfl rfl ⟨rfl,rfl⟩ (by simp [b0,b2,b3,b5,b6];rfl) h3).trans ?_;refine aX 7 (by simp) (mD _) hc ?_;simpa [dE,eX,closed] using hc0
theorem UC [aC prog] [bR prog] (p:aG) (U:List aK) (hb:Bnd p U) (n:Nat) (a:aK) (ha:a∈U) (s1 s2:List aK) (hn:s1.any (iV a)=false) (hs:Seen U (s1,s2)) (hf:rA p s1 < n+1)
  (ih:∀(b:aK) (q1 q2:List aK),rA p q1 < n->Seen U (q1,q2)->b∈U->Ma prog 221 [.view (.agg (aI .view p)),.view (.agg (aL b)),.oK (.sl .own 2 (q1.map aL)),.oK (.sl .own 2 (q2.map aL))] (.gZ [.sl .own 2 ((gL p n b q1 q2).1.map aL),.sl .own 2 ((gL p n b q1 q2).2.map aL)])):
  Ma prog 221 [.view (.agg (aI .view p)),.view (.agg (aL a)),.oK (.sl .own 2 (s1.map aL)),.oK (.sl .own 2 (s2.map aL))] (.gZ [.sl .own 2 ((gL p (n+1) a s1 s2).1.map aL),.sl .own 2 ((gL p (n+1) a s1 s2).2.map aL)]):=by
 have hps:=hb.hs;have hl:=hs.len;have hU:=hb.len;simp only [aJ,bT] at hps;simp only at hl;have c1:=Bp s1 a (by omega);have c2:=Gn p U hb a ha;rw [hn] at c1;have hna:a∉s1:=λh=>by rw [yG.2 h] at hn;cases hn
 obtain ⟨t1,ht1⟩:∃l:List aK,l=s1++[a]:=⟨_,rfl⟩;have e1:s1.map aL++[[.str a.host,.str a.path]]=t1.map aL:=by simp [ht1]
 have hl1:(s1.map aL).length=s1.length:=by simp
 have hv:gL p (n+1) a s1 s2=((dX p n (iO p a) (s1++[a],s2)).1,(dX p n (iO p a) (s1++[a],s2)).2++[a]):=by simp only [gL,hn,dX];rfl
 rw [hv];clear hv;rw [<-ht1];have hst:Seen U (t1,s2):=by
  subst ht1;exact ⟨gR.2 ⟨hs.nd,by simp,λx hx y hy e=>hna (by simp at hy;subst hy;subst e;exact hx)⟩,λx hx=>by
   rcases fL.1 hx with h|h
   .exact hs.sub x h
   .simp at h;subst h;exact ha,hs.ond,λx hx=>mN _ (hs.ak x hx)⟩
 have hun:iO p a≠[]->rA p t1 < n:=by intro h;have:=Wp (p:=p) (s:=s1) (a:=a) (by rw [hn];simp) (um h);rw [<-ht1] at this;omega
 have hLU:∀b∈iO p a,b∈U:=λb h=>hb.im b (JB p a b h)
 have hLl:(iO p a).length<=1073741824:=by
  unfold iO;split
  .rename_i m hm;split
   .have h1:=hb.ps m (oY hm);have h2:=DG hm;simp only [kQ,fR] at h2
    rwa [h2] at h1
   .simp
  .simp
 clear ht1;generalize lF p a=ok at *;generalize iO p a=L at *;simp only [aL,aI] at c1 c2;refine aPi aD [3,8,9] func221 ntmps221 ?_;have W:=aA e1 hl1;refine we ?_;refine go_drawn3 [⟨4,2,[(5,⟨true,false,2,3,t1.map aL⟩),(2,⟨true,false,2,2,s1.map aL⟩),(0,⟨true,false,2,1,[]⟩)]⟩,⟨5,2,[(4,⟨true,false,2,1,[[.str a.host,.str a.path]]⟩)]⟩] (by simp;rfl) (by decide+kernel) (by decide+kernel) (by simp [mQ,pre,Region.binds]) (by simp) ?_
 repeat' first|refine Xw (by simp;rfl) (by simp;rfl) ?_|(refine PT ?_ (by simp;rfl) ?_;(focus (simp;done)))|(refine nX (j:=5) (v:= .obj 4 3) ⟨4,2,[(5,⟨true,false,2,3,t1.map aL⟩),(2,⟨true,false,2,2,s1.map aL⟩),(0,⟨true,false,2,1,[]⟩)]⟩ [] [(2,⟨true,false,2,2,s1.map aL⟩),(0,⟨true,false,2,1,[]⟩)] rfl (by simp) rfl (by simp [Region.binds];rfl) (by decide) (by simp [Region.binds];rfl) (by simp;rfl) rfl ?_ ?_;(focus (refine EG (by first|(simp;rfl)|(simp;done)|rfl) rfl (by first|(simp;rfl)|(simp;done)|rfl) (by first|(simp;rfl)|(simp;done)|rfl) (by first|(simp;rfl)|(simp;done)|rfl) (by first|(simp;done)|decide) (by first|rfl|exact zM (λ_=>rfl) _|(simp [sK,AV.iG];done)) (by first|(simp;rfl)|(simp;done)|rfl|exact W.1|exact W.2.1|exact W|(simp [W];done)) (by simp;exact ⟨rfl,rfl⟩) (by simp) (by simp) (by simp;omega) (by simp;omega))))|(refine nX (j:=2) (v:= .obj 4 2) ⟨4,2,[(5,⟨true,false,2,3,t1.map aL⟩),(2,⟨true,false,2,2,s1.map aL⟩),(0,⟨true,false,2,1,[]⟩)]⟩ [(5,⟨true,false,2,3,t1.map aL⟩)] [(0,⟨true,false,2,1,[]⟩)] rfl (by simp) rfl (by simp [Region.binds];rfl) (by decide) (by simp [Region.binds];rfl) (by simp;rfl) rfl ?_ ?_;(focus (refine EG (by first|(simp;rfl)|(simp;done)|rfl) rfl (by first|(simp;rfl)|(simp;done)|rfl) (by first|(simp;rfl)|(simp;done)|rfl) (by first|(simp;rfl)|(simp;done)|rfl) (by first|(simp;done)|decide) (by first|rfl|exact zM (λ_=>rfl) _|(simp [sK,AV.iG];done)) (by first|(simp;rfl)|(simp;done)|rfl|exact W.1|exact W.2.1|exact W|(simp [W];done)) (by simp;exact ⟨rfl,rfl⟩) (by simp) (by simp) (by simp;omega) (by simp;omega))))|(refine nX (j:=0) (v:= .obj 4 1) ⟨4,2,[(5,⟨true,false,2,3,t1.map aL⟩),(2,⟨true,false,2,2,s1.map aL⟩),(0,⟨true,false,2,1,[]⟩)]⟩ [(5,⟨true,false,2,3,t1.map aL⟩),(2,⟨true,false,2,2,s1.map aL⟩)] [] rfl (by simp) rfl (by simp [Region.binds];rfl) (by decide) (by simp [Region.binds];rfl) (by simp;rfl) rfl ?_ ?_;(focus (refine Cs (by simp;exact ⟨rfl,rfl⟩) (by simp) rfl rfl (by decide) (by decide) (by first|(simp;rfl)|rfl) (by simp [AV.iG]) (by simp [AV.xO,AV.cells]) (by simp) (by simp [AV.cells]))))|(refine nX (j:=4) (v:= .obj 5 1) ⟨5,2,[(4,⟨true,false,2,1,[[.str a.host,.str a.path]]⟩)]⟩ [] [] rfl (by simp) rfl (by simp [Region.binds];rfl) (by decide) (by simp [Region.binds];rfl) (by simp;rfl) rfl ?_ ?_;(focus (refine az (by simp;exact ⟨rfl,rfl⟩) (by simp) rfl rfl (by decide) (by decide) (by first|(simp;rfl)|rfl) (by simp [AV.uU,AV.iG]) (by simp [AV.xO,AV.cells]) (by simp) (by simp [AV.cells]))))|(refine PU rfl ?_ (by simp [Region.binds];rfl) (by decide) (by simp [Region.binds];rfl) (by simp;rfl) ?_ rfl (by first|rfl|(simp;done)) ?_;(focus (first|rfl|(simp;done)));(focus (first|rfl|(simp [nM];done))))|(refine nx ?_;refine so ?_)|fail
 have W:=aA e1 hl1;refine we ?_;refine aP (ι:={k:Nat×Nat // k.1<=L.length/\1<=k.2}) (λt o i=>⟨bE t [(12,.int .i64 i.1.1),(2,.obj 4 i.1.2),(3,.obj 1 1),(8,.undef),(9,.undef),(18,.undef),(20,.undef),(23,.undef)],(o.set 1 ⟨true,false,2,1,(dX p n (L.take i.1.1) (t1,s2)).2.map aL⟩).set 4 ⟨true,false,2,i.1.2,(dX p n (L.take i.1.1) (t1,s2)).1.map aL⟩⟩)
  (λi=>L.length - i.1.1) ⟨(0,3),by simp,by simp⟩ (aO (by simp [dX]) (by simp)) ?_
 rintro ⟨⟨k,v⟩,hk,hv⟩ K1 hK1;simp only [bE,cW,cU] at hk hv hK1⊢;have hk1:=oW (k:=k);by_cases hlt:k < L.length
 .have hg2:=aE hlt;obtain ⟨f1,f2⟩:=BM hb.im n (L.take k) (t1,s2) (λb h=>hLU b (tB h)) hst;have f3:=Ol (p:=p) f2;have hne:L≠[]:=by intro h;rw [h] at hlt;simp at hlt
  have hun':=hun hne;have c3:=ih L[k] (dX p n (L.take k) (t1,s2)).1 (dX p n (L.take k) (t1,s2)).2 (by simp only at f3;omega) f1 (hLU _ (fN hlt));have hnext:dX p n (L.take (k+1)) (t1,s2)=gL p n L[k] (dX p n (L.take k) (t1,s2)).1 (dX p n (L.take k) (t1,s2)).2:=by rw [eK hlt,Gm]
  generalize dX p n (L.take k) (t1,s2)=q at *;obtain ⟨q1,q2⟩:=q;simp only at c3 hnext⊢;generalize gL p n L[k] q1 q2=w at *;obtain ⟨w1,w2⟩:=w;simp only [aL,aI] at c3;have W:=aA hk1 (aA hg2 hlt);refine we ?_;rw [yA];refine go_drawn (by simp;rfl) (by simp;rfl) (by decide+kernel) (by decide) (by first|rfl|(simp [Zb];done)) (by simp) (by simp) ?_;iterate 7 (
   refine go_draw rfl (by first|rfl|(simp;done)) (by simp [Region.binds];rfl) (by decide) (by simp [Region.binds];rfl) (by simp;rfl) ?_ ?_
   .first|rfl|(simp [nM];done)
   refine nx ?_;refine so ?_;refine kN ?_;refine go_next (by simp;done) (by simp;rfl) (by simp;rfl) ?_)
  refine En (s1:= ?s1) (by decide+kernel) (by simp [uI,reach,mQ,Region.binds,EV];rfl) ?ha ?hk;case ha=>
   repeat' (first|refine st ?_|(refine nx ?_;first|refine so ?_|refine sg (hc:=c3) (h:= ?_))|refine sx ?_ ?_|refine sy ?_ ?_|fail)
   all_goals rfl
  case hk=>
   have W:=hk1;refine we ?_;refine hK1 _ ⟨(k+1,1),by simp only;omega,by simp⟩ ?_ (by simp only;omega);simp only [hnext];refine bf rfl rfl (by simp) (by simp) (by simp) (by simp) (by simp) (by simp [dE,eX,closed])
 .have htk:L.take k=L:=cY (by omega);rw [htk];have f1:=(BM hb.im n L (t1,s2) hLU hst).1.len;generalize dX p n L (t1,s2)=q at *;obtain ⟨q1,q2⟩:=q;simp only at f1;have hl2:(q2.map aL).length=q2.length:=by simp
  obtain ⟨t2,ht2⟩:∃l:List aK,l=q2++[a]:=⟨_,rfl⟩;have e2:q2.map aL++[[.str a.host,.str a.path]]=t2.map aL:=by simp [ht2]
  simp only;rw [<-ht2];clear ht2;have W:=aA e2 hk1;refine we ?_;refine go_drawn3 [⟨7,2,[(6,⟨true,false,2,3,t2.map aL⟩),(3,⟨true,false,2,2,q2.map aL⟩),(1,⟨true,false,2,1,[]⟩)]⟩,⟨8,2,[(5,⟨true,false,2,1,[[.str a.host,.str a.path]]⟩)]⟩] (by simp;rfl) (by decide+kernel) (by decide+kernel) (by simp [mQ,pre,Region.binds]) (by simp) ?_
  repeat' first|refine Xw (by simp;rfl) (by simp;rfl) ?_|(refine PT ?_ (by simp;rfl) ?_;(focus (simp;done)))|(refine nX (j:=6) (v:= .obj 7 3) ⟨7,2,[(6,⟨true,false,2,3,t2.map aL⟩),(3,⟨true,false,2,2,q2.map aL⟩),(1,⟨true,false,2,1,[]⟩)]⟩ [] [(3,⟨true,false,2,2,q2.map aL⟩),(1,⟨true,false,2,1,[]⟩)] rfl (by simp) rfl (by simp [Region.binds];rfl) (by decide) (by simp [Region.binds];rfl) (by simp;rfl) rfl ?_ ?_;(focus (refine EG (by first|(simp;rfl)|(simp;done)|rfl) rfl (by first|(simp;rfl)|(simp;done)|rfl) (by first|(simp;rfl)|(simp;done)|rfl) (by first|(simp;rfl)|(simp;done)|rfl) (by first|(simp;done)|decide) (by first|rfl|exact zM (λ_=>rfl) _|(simp [sK,AV.iG];done)) (by first|(simp;rfl)|(simp;done)|rfl|exact W.1|exact W.2.1|exact W|(simp [W];done)) (by simp;exact ⟨rfl,rfl⟩) (by simp) (by simp) (by simp;omega) (by simp;omega))))|(refine nX (j:=3) (v:= .obj 7 2) ⟨7,2,[(6,⟨true,false,2,3,t2.map aL⟩),(3,⟨true,false,2,2,q2.map aL⟩),(1,⟨true,false,2,1,[]⟩)]⟩ [(6,⟨true,false,2,3,t2.map aL⟩)] [(1,⟨true,false,2,1,[]⟩)] rfl (by simp) rfl (by simp [Region.binds];rfl) (by decide) (by simp [Region.binds];rfl) (by simp;rfl) rfl ?_ ?_;(focus (refine EG (by first|(simp;rfl)|(simp;done)|rfl) rfl (by first|(simp;rfl)|(simp;done)|rfl) (by first|(simp;rfl)|(simp;done)|rfl) (by first|(simp;rfl)|(simp;done)|rfl) (by first|(simp;done)|decide) (by first|rfl|exact zM (λ_=>rfl) _|(simp [sK,AV.iG];done)) (by first|(simp;rfl)|(simp;done)|rfl|exact W.1|exact W.2.1|exact W|(simp [W];done)) (by simp;exact ⟨rfl,rfl⟩) (by simp) (by simp) (by simp;omega) (by simp;omega))))|(refine nX (j:=1) (v:= .obj 7 1) ⟨7,2,[(6,⟨true,false,2,3,t2.map aL⟩),(3,⟨true,false,2,2,q2.map aL⟩),(1,⟨true,false,2,1,[]⟩)]⟩ [(6,⟨true,false,2,3,t2.map aL⟩),(3,⟨true,false,2,2,q2.map aL⟩)] [] rfl (by simp) rfl (by simp [Region.binds];rfl) (by decide) (by simp [Region.binds];rfl) (by simp;rfl) rfl ?_ ?_;(focus (refine Cs (by simp;exact ⟨rfl,rfl⟩) (by simp) rfl rfl (by decide) (by decide) (by first|(simp;rfl)|rfl) (by simp [AV.iG]) (by simp [AV.xO,AV.cells]) (by simp) (by simp [AV.cells]))))|(refine nX (j:=5) (v:= .obj 8 1) ⟨8,2,[(5,⟨true,false,2,1,[[.str a.host,.str a.path]]⟩)]⟩ [] [] rfl (by simp) rfl (by simp [Region.binds];rfl) (by decide) (by simp [Region.binds];rfl) (by simp;rfl) rfl ?_ ?_;(focus (refine az (by simp;exact ⟨rfl,rfl⟩) (by simp) rfl rfl (by decide) (by decide) (by first|(simp;rfl)|rfl) (by simp [AV.uU,AV.iG]) (by simp [AV.xO,AV.cells]) (by simp) (by simp [AV.cells]))))|(refine PU rfl ?_ (by simp [Region.binds];rfl) (by decide) (by simp [Region.binds];rfl) (by simp;rfl) ?_ rfl (by first|rfl|(simp;done)) ?_;(focus (first|rfl|(simp;done)));(focus (first|rfl|(simp [nM];done))))|(refine nx ?_;refine so ?_)|fail
  have W:=aA e2 hk1;refine we ?_;all_goals try(refine ⟨by first|exact .inr rfl|exact .inl rfl,?_⟩;simp [gJ,dL,dJ,rowOf,results221])
theorem Lh [aC prog] [bR prog] (p:aG) (U:List aK) (hb:Bnd p U):∀(n:Nat) (a:aK) (s1 s2:List aK),rA p s1 < n->Seen U (s1,s2)->a∈U->Ma prog 221 [.view (.agg (aI .view p)),.view (.agg (aL a)),.oK (.sl .own 2 (s1.map aL)),.oK (.sl .own 2 (s2.map aL))] (.gZ [.sl .own 2 ((gL p n a s1 s2).1.map aL),.sl .own 2 ((gL p n a s1 s2).2.map aL)])
 |0,_,_,_,h,_,_=>absurd h (by omega)
 |n+1,a,s1,s2,h,hs,ha=>by
  have hl:=hs.len;have hU:=hb.len;simp only at hl;cases hn:s1.any (iV a)
  .exact UC p U hb n a ha s1 s2 hn hs h (λb q1 q2 h1 h2 h3=>Lh p U hb n b q1 q2 h1 h2 h3)
  .have:gL p (n+1) a s1 s2=(s1,s2):=by simp [gL,hn]
   rw [this];exact Sr p a s1 s2 hn (by omega)
theorem BO [aC prog] [bR prog] (p:aG) (U:List aK) (hb:Bnd p U) (a:aK) (ha:a∈U):Ok prog 169 [.agg (aI .view p),.agg (aL a)] (.sl .own 2 ((dZ p a).map aL)):=by
 have c1:=Lh p U hb (rA p []+1) a [] [] (by omega) ⟨by simp,by simp,by simp,by simp⟩ ha;unfold dZ;generalize gL p (rA p []+1) a [] []=w at *;obtain ⟨w1,w2⟩:=w;simp only [aL,aI,Dg] at c1;refine bO aD func169 ntmps169 ?_;have W:=trivial;repeat' first|refine wf ?_|(refine nx ?_;refine sg (hc:=c1) (h:=?_))|(refine sq ?_ ?_<;>intro hc<;>try exact hc.elim)|fail
 exact aF results169
theorem bg (c:UInt8):∀s:bB,bH gM (dG c s)<=s.length
 |[]=>by simp [dG,bH,gM]
 |x::s=>by
  have ih:=bg c s;simp only [dG];split
  .simp only [bH,gM,eW,eN] at ih⊢;omega
  .split
   .rename_i h0;exact absurd h0 (qL c s)
   .rename_i p q h0;rw [h0] at ih;simp only [bH,gM,eN] at ih⊢;omega
theorem aH7 (s b:bB):aQ (bY s b).1<=s.length+b.length:=by have h:=uX 47 s;unfold bY addrOf;split<;>split<;>simp [aQ,wV]<;>omega
theorem zx (base:bB):∀(l:List bB) (acc:List aK) (q:List bB),oH base l=some (acc,q)->7 * acc.length<=bH gM l/\bH aQ acc<=bH gM l+acc.length * base.length/\∀x∈acc,aQ x<=bH gM l+base.length
 |[],acc,q,h=>by simp only [oH,eC,oE] at h;obtain ⟨rfl,rfl⟩:=h;simp [bH]
 |p::ps,acc,q,h=>by
  simp only [oH] at h;split at h
  .rename_i hp;split at h
   .obtain ⟨⟨a1,q1⟩,h1,h2⟩:=sX.1 h;simp only [oE] at h2;obtain ⟨rfl,rfl⟩:=h2;obtain ⟨i1,i2,i3⟩:=zx base ps a1 q1 h1;have h7:=Rt hp;have ha:=aH7 (p.drop 7) base;simp only [show Ak.length=7 from rfl] at h7;simp only [zE] at ha;simp only [bH,gM,eN,AE] at i1 i2 i3⊢;refine ⟨by omega,by omega,?_⟩;intro x hx;rcases lE.1 hx with rfl|hx
    .omega
    .have:=i3 x hx;omega
   .cases h
  .simp only [eC,oE] at h;obtain ⟨rfl,rfl⟩:=h;simp [bH]
theorem yI (s b:bB):7 * (bJ s b).1.length<=s.length/\bH aQ (bJ s b).1<=s.length+(bJ s b).1.length * b.length/\∀x∈(bJ s b).1,aQ x<=s.length+b.length:=by
 have hs:=bg 59 s;unfold bJ;split
 .simp [bH]
 .rename_i l q h;obtain ⟨i1,i2,i3⟩:=zx b _ _ _ h;split
  .exact ⟨by simp only;omega,by simp only;omega,λx hx=>by have:=i3 x hx;omega⟩
  .simp [bH]
theorem zy (N:Nat):∀l:List dY,(∀m∈l,bL m<=N)->7 * (l.flatMap λm=>(bJ m.body m.to.host).1).length<=bH bL l/\bH aQ (l.flatMap λm=>(bJ m.body m.to.host).1)<=bH bL l+(l.flatMap λm=>(bJ m.body m.to.host).1).length * N
 |[],_=>by simp [bH]
 |m::l,h=>by obtain ⟨i1,i2⟩:=zy N l (λx hx=>h x (by simp [hx]));obtain ⟨j1,j2,_⟩:=yI m.body m.to.host;have hm:=h m (by simp);simp only [bL,aQ] at hm;have h3:=Nat.mul_le_mul_left (bJ m.body m.to.host).1.length (show m.to.host.length<=N by omega);simp only [flatMap_cons,eR,bH,jD,pS,bL,aQ] at i1 i2⊢;exact ⟨by omega,by omega⟩
theorem Gp (p:aG) (a:aK) (h:bT bL p.aM+aQ a<=16777216):Bnd p (a::uQ p)/\(a::uQ p).length<=2396746/\bH aQ (a::uQ p)<=50000000000000:=by
 have hm:∀m∈p.aM,bL m<=16777216:=λm hm=>by have:=bU bL hm;simp only [aJ,bT] at h;omega
 obtain ⟨f1,f2⟩:=zy 16777216 p.aM hm;have hs:bH bL p.aM<=16777216:=by simp only [aJ,bT] at h;omega
 have hl:(uQ p).length<=2396745:=by unfold uQ;omega
 have h4:=hY 16777216 hl;have h5:bH aQ (uQ p)<=16777216+(uQ p).length * 16777216:=by unfold uQ;omega
 refine ⟨⟨by omega,λx hx=>AI _ hx,by simp only [eN];omega,?_,?_⟩,by simp only [eN];omega,by simp only [bH];omega⟩
 .intro x hx;rcases lE.1 hx with rfl|hx
  .simp only [aQ] at h;omega
  .obtain ⟨m,h1,h2⟩:=Fk.1 hx;have h6:=(yI m.body m.to.host).2.2 x h2;have h7:=hm m h1;simp only [bL,aQ] at h6 h7;omega
 .intro m h1;have h6:=(yI m.body m.to.host).1;have h7:=hm m h1;simp only [bL] at h7;omega
theorem Li (p:aG) (a:aK) (h:bT bL p.aM+aQ a<=16777216):(dZ p a).length<=2396746/\bH aQ (dZ p a)<=50000000000000/\∀x∈dZ p a,x∈a::uQ p:=by obtain ⟨hb,h1,h2⟩:=Gp p a h;have hs:=(EF hb.im (rA p []+1) a ([],[]) (by simp) ⟨by simp,by simp,by simp,by simp⟩).1;obtain ⟨h3,h4⟩:=DL aQ _ (a::uQ p) hs.ond (λx hx=>hs.sub x (hs.ak x hx));exact ⟨hM h4 h1,hM h3 h2,λx hx=>hs.sub x (hs.ak x hx)⟩
def sS:List (Nat×Nat):=[(2,14),(3,15),(4,16),(5,17),(6,18),(7,19),(8,20),(9,21),(10,22),(11,23),(12,24)]
theorem Wz {t t':List AV} {o o':List aN} {l1 l2 l3 l4 l5 l6 l7 l8 l9 l10 l11:Bool} {u n1 v1 n2 v2 n3 v3 n4 v4 n5 v5 n6 v6 n7 v7 n8 v8 n9 v9 U6 v10 U9 v11:Nat} {e1 e2 e3 e4 e5 e6 e7 e8 e9 V3 V4:List (List AV)} {o0 o1 z0:aN} {q:aG} (ho:o=[o0,o1,⟨l1,false,n1,v1,e1⟩,⟨l2,false,n2,v2,e2⟩,⟨l3,false,n3,v3,e3⟩,⟨l4,false,n4,v4,e4⟩,⟨l5,false,n5,v5,e5⟩,⟨l6,false,n6,v6,e6⟩,⟨l7,false,n7,v7,e7⟩,⟨l8,false,n8,v8,e8⟩,⟨l9,false,n9,v9,e9⟩,⟨l10,false,U6,v10,V3⟩,⟨l11,false,U9,v11,V4⟩,⟨true,true,22,u,[yR 14 q]⟩]++yQ q++[z0])
  (ho':o'=[o0,o1]++yQ q++[⟨true,true,22,u,[yR 2 q]⟩]) (ht:∀z∈sS,wk (qP z.1 z.2 t') t') (hf:∀z∈sS,o0.lK z.1 z.2=o0/\o1.lK z.1 z.2=o1) (hw:wk t t') (hc:eX 14 t'=true) (hc0:dE 14 [o0,o1]=true):mX ⟨t,o⟩ ⟨t',o'⟩:=by
 subst ho;subst ho';have e:=λi j (h:(i,j)∈sS)=>hf (i,j) h
 have h:=λi j (h:(i,j)∈sS)=>ht (i,j) h
 simp only [yQ,yR,eA,eM,fY];refine (wT hw).trans ?_;refine (aR 2 14 rfl rfl ⟨rfl,rfl⟩ (by simp [(e 2 14 (by decide))];rfl) (h 2 14 (by decide))).trans ?_;refine (aR 3 15 rfl rfl ⟨rfl,rfl⟩ (by simp [(e 3 15 (by decide))];rfl) (h 3 15 (by decide))).trans ?_;refine (aR 4 16 rfl rfl ⟨rfl,rfl⟩ (by simp [(e 4 16 (by decide))];rfl) (h 4 16 (by decide))).trans ?_;refine (aR 5 17 rfl rfl ⟨rfl,rfl⟩ (by simp [(e 5 17 (by decide))];rfl) (h 5 17 (by decide))).trans ?_;refine (aR 6 18 rfl rfl ⟨rfl,rfl⟩ (by simp [(e 6 18 (by decide))];rfl) (h 6 18 (by decide))).trans ?_;refine (aR 7 19 rfl rfl ⟨rfl,rfl⟩ (by simp [(e 7 19 (by decide))];rfl) (h 7 19 (by decide))).trans ?_;refine (aR 8 20 rfl rfl ⟨rfl,rfl⟩ (by simp [(e 8 20 (by decide))];rfl) (h 8 20 (by decide))).trans ?_;refine (aR 9 21 rfl rfl ⟨rfl,rfl⟩ (by simp [(e 9 21 (by decide))];rfl) (h 9 21 (by decide))).trans ?_;refine (aR 10 22 rfl rfl ⟨rfl,rfl⟩ (by simp [(e 10 22 (by decide))];rfl) (h 10 22 (by decide))).trans ?_;refine (aR 11 23 rfl rfl ⟨rfl,rfl⟩ (by simp [(e 11 23 (by decide))];rfl) (h 11 23 (by decide))).trans ?_;refine (aR 12 24 rfl rfl ⟨rfl,rfl⟩ (by simp [(e 12 24 (by decide))];rfl) (h 12 24 (by decide))).trans ?_;refine aX 14 (by simp) (mD _) hc ?_;simpa [dE,eX,closed,Ek] using hc0
def sU:List (Nat×Nat):=[(2,26),(3,27),(4,28),(5,29),(6,30),(7,31),(8,32),(9,33),(10,34),(11,35),(12,36)]
theorem WA {t t':List AV} {o o':List aN} {l1 l2 l3 l4 l5 l6 l7 l8 l9 l10 l11:Bool} {u n1 v1 n2 v2 n3 v3 n4 v4 n5 v5 n6 v6 n7 v7 n8 v8 n9 v9 U6 v10 U9 v11:Nat} {e1 e2 e3 e4 e5 e6 e7 e8 e9 V3 V4:List (List AV)} {o0 o1 m0 m1 m2 m3 m4 m5 m6 m7 m8 m9 m10 m11:aN} {q:aG} (ho:o=[o0,o1,⟨l1,false,n1,v1,e1⟩,⟨l2,false,n2,v2,e2⟩,⟨l3,false,n3,v3,e3⟩,⟨l4,false,n4,v4,e4⟩,⟨l5,false,n5,v5,e5⟩,⟨l6,false,n6,v6,e6⟩,⟨l7,false,n7,v7,e7⟩,⟨l8,false,n8,v8,e8⟩,⟨l9,false,n9,v9,e9⟩,⟨l10,false,U6,v10,V3⟩,⟨l11,false,U9,v11,V4⟩,⟨true,true,22,u,[yR 26 q]⟩,m0,m1,m2,m3,m4,m5,m6,m7,m8,m9,m10,m11]++yQ q++[])
  (ho':o'=[o0,o1]++yQ q++[⟨true,true,22,u,[yR 2 q]⟩]) (ht:∀z∈sU,wk (qP z.1 z.2 t') t') (hf:∀z∈sU,o0.lK z.1 z.2=o0/\o1.lK z.1 z.2=o1) (hw:wk t t') (hc:eX 14 t'=true) (hc0:dE 14 [o0,o1]=true):mX ⟨t,o⟩ ⟨t',o'⟩:=by
 subst ho;subst ho';have e:=λi j (h:(i,j)∈sU)=>hf (i,j) h
 have h:=λi j (h:(i,j)∈sU)=>ht (i,j) h
 simp only [yQ,yR,eA,eM,fY];refine (wT hw).trans ?_;refine (aR 2 26 rfl rfl ⟨rfl,rfl⟩ (by simp [(e 2 26 (by decide))];rfl) (h 2 26 (by decide))).trans ?_;refine (aR 3 27 rfl rfl ⟨rfl,rfl⟩ (by simp [(e 3 27 (by decide))];rfl) (h 3 27 (by decide))).trans ?_;refine (aR 4 28 rfl rfl ⟨rfl,rfl⟩ (by simp [(e 4 28 (by decide))];rfl) (h 4 28 (by decide))).trans ?_;refine (aR 5 29 rfl rfl ⟨rfl,rfl⟩ (by simp [(e 5 29 (by decide))];rfl) (h 5 29 (by decide))).trans ?_;refine (aR 6 30 rfl rfl ⟨rfl,rfl⟩ (by simp [(e 6 30 (by decide))];rfl) (h 6 30 (by decide))).trans ?_;refine (aR 7 31 rfl rfl ⟨rfl,rfl⟩ (by simp [(e 7 31 (by decide))];rfl) (h 7 31 (by decide))).trans ?_;refine (aR 8 32 rfl rfl ⟨rfl,rfl⟩ (by simp [(e 8 32 (by decide))];rfl) (h 8 32 (by decide))).trans ?_;refine (aR 9 33 rfl rfl ⟨rfl,rfl⟩ (by simp [(e 9 33 (by decide))];rfl) (h 9 33 (by decide))).trans ?_;refine (aR 10 34 rfl rfl ⟨rfl,rfl⟩ (by simp [(e 10 34 (by decide))];rfl) (h 10 34 (by decide))).trans ?_;refine (aR 11 35 rfl rfl ⟨rfl,rfl⟩ (by simp [(e 11 35 (by decide))];rfl) (h 11 35 (by decide))).trans ?_;refine (aR 12 36 rfl rfl ⟨rfl,rfl⟩ (by simp [(e 12 36 (by decide))];rfl) (h 12 36 (by decide))).trans ?_;refine aX 14 (by simp) (mD _) hc ?_;simpa [dE,eX,closed,Ek] using hc0
end Go.Proofs.YtdcpobkemdacnaaGreatDoor
