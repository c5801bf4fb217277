/- Proved here: steps towards the statement of this claim. No condition. -/
import Derived.Test.YthddijamfbfibaaGreatDoorZQP3
import Derived.Test.YthddijamfbfibaaGreatDoorZQSV1
set_option linter.all false
set_option maxRecDepth 4000
set_option maxHeartbeats 4000000
namespace Go.Proofs.YthddijamfbfibaaGreatDoor
open Go.Aw Proofs.Tryz List IntKind
theorem wK{α:Type}{f:α->List AV}{i j:Nat}(h:∀x,rP i j (f x)=f x):∀l:List α,qV i j (l.map f)=l.map f
 |[]=>rfl
 |x::l=>by simp only[mB,qV,h,wK h l]
@[simp] theorem aRf(i j:Nat)(l:List bB):qV i j (l.map dC)=l.map dC:=wK (λ_=>rfl) l
@[simp] theorem aRg(i j:Nat)(l:List Int):qV i j (l.map mM)=l.map mM:=wK (λ_=>rfl) l
@[simp] theorem aPy(i j:Nat)(l:List aD):qV i j (l.map aH)=l.map aH:=wK (λ_=>rfl) l
@[simp] theorem aPz(i j:Nat)(l:List oU):qV i j (l.map uX)=l.map uX:=wK (λ_=>rfl) l
@[simp] theorem aP0(i j:Nat)(l:List pR):qV i j (l.map vH)=l.map vH:=wK (λ_=>rfl) l
@[simp] theorem aL6(i j:Nat)(l:List dX):qV i j (l.map eY)=l.map eY:=wK (λ_=>rfl) l
@[simp] theorem aL7(i j:Nat)(l:List bT):qV i j (l.map (cB .view))=l.map (cB .view):=wK (λ_=>by simp) l
@[simp] theorem aNo(i j:Nat)(l:List jP):qV i j (l.map (fA .view))=l.map (fA .view):=wK (λ_=>by simp) l
@[simp] theorem aTw(u:List Nat)(b:Bool)(l:List bT):mX (iU u) b (l.map (cB .view))=l.map (cB .view):=by
 induction l with
 |nil=>rfl
 |cons x l ih=>rw[mB,mX,ih];simp[xO,rt,cB,iU]
@[simp] theorem aRh(u:List Nat)(b:Bool)(l:List jP):mX (iU u) b (l.map (fA .view))=l.map (fA .view):=by
 induction l with
 |nil=>rfl
 |cons x l ih=>rw[mB,mX,ih];simp[xO,rt,fA,iU]
theorem O1{t t':List AV}{o o':List aN}{v:Nat}{l1 l3 m1 m3:List (List AV)}{o4 o5 o6 o7 o8 o9:aN}
  (ho:o=[⟨true,true,1,2,[[.obj 10 1]]⟩,⟨false,false,2,v,l1⟩,⟨true,true,1,2,[[.obj 11 1]]⟩,⟨false,false,2,1,l3⟩,o4,o5,o6,o7,o8,o9,⟨true,false,2,1,m1⟩,⟨true,false,2,1,m3⟩])
  (ho':o'=[⟨true,true,1,2,[[.obj 1 1]]⟩,⟨true,false,2,1,m1⟩,⟨true,true,1,2,[[.obj 3 1]]⟩,⟨true,false,2,1,m3⟩,o4,o5,o6,o7,o8])
  (hf:(o4.lV 1 10=o4/\o5.lV 1 10=o5/\o6.lV 1 10=o6/\o7.lV 1 10=o7/\o8.lV 1 10=o8/\o9.lV 1 10=o9)/\(o4.lV 3 11=o4/\o5.lV 3 11=o5/\o6.lV 3 11=o6/\o7.lV 3 11=o7/\o8.lV 3 11=o8/\o9.lV 3 11=o9))
  (hw:wk t t') (h1:wk (rP 1 10 t') t') (h3:wk (rP 3 11 t') t') (hc:eP 9 t'=true) (hc0:dB 9 [o4,o5,o6,o7,o8]=true):lC ⟨t,o⟩ ⟨t',o'⟩:=by
 subst ho;subst ho';obtain⟨⟨a4,a5,a6,a7,a8,a9⟩,b4,b5,b6,b7,b8,b9⟩:=hf;refine(wN hw).trans ?_;refine(aS 1 10 rfl rfl ⟨rfl,rfl⟩ (by simp[a4,a5,a6,a7,a8,a9];rfl) h1).trans ?_;refine(aS 3 11 rfl rfl ⟨rfl,rfl⟩ (by simp[b4,b5,b6,b7,b8,b9];rfl) h3).trans ?_;refine aT 9 (by simp) (lK _) hc ?_;simpa [dB,eP,closed]using hc0
theorem Cx{p:aI}{U:List aD}(hU:∀x∈vC p,x∈U)(n:Nat):∀(l:List aD) (s:List aD×List aD),(∀b∈l,b∈U)->Seen U s->Seen U (dW p n l s)/\(∀x∈s.1,x∈(dW p n l s).1)
 |[],s,_,h=>⟨h,λ_ h=>h⟩
 |b::l,s,hl,h=>by obtain⟨h1,h2⟩:=Fz hU n b s (hl b (by simp)) h;obtain⟨h3,h4⟩:=Cx hU n l _ (λx hx=>hl x (by simp[hx])) h1;exact⟨h3,λx hx=>h4 x (h2 x hx)⟩
theorem yX[aB prog][bQ prog](p:aI)(a:aD)(hl:p.aO.length<=1099511627776):Ok prog 216 [.agg (aJ .view p),.agg (aH a)] (.int .i64 (qO (kW a) p.aO)):=by have c1:=jv p.aO a hl;simp only[aH]at c1;refine bM aG func216 ntmps216 ?_;refine aZ ?_;exact aF results216
structure Bnd(p:aI)(U:List aD): Prop where
  hs:bP bL p.aO <= 268435456
  im:∀ x ∈ vC p, x ∈ U
  len:U.length <= 1073741824
  host:∀ x ∈ U, x.host.length <= 1073741824
  ps:∀ m ∈ p.aO, (bH m.body m.to.host).1.length <= 1073741824
theorem Seen.len{U:List aD}{s:List aD×List aD}(h:Seen U s):s.1.length<=U.length/\s.2.length<=U.length:=
 ⟨(Ez (λ_=>0) s.1 U h.nd h.sub).2,(Ez (λ_=>0) s.2 U h.ond (λx hx=>h.sub x (h.qm x hx))).2⟩
theorem Um[aB prog][bQ prog](p:aI)(U:List aD)(hb:Bnd p U)(a:aD)(s1 s2:List aD)(hn:s1.any (iA a)=true)(h1:s1.length<=1073741824):
  Lf prog 274 [.view (.agg (aJ .view p)),.view (.agg (aH a)),.uN [.sl .own 2 (s1.map aH)] [.sl .own 2 (s1.map aH)],.uN [.sl .own 2 (s2.map aH)] [.sl .own 2 (s2.map aH)]] (.gM []):=by
 have c1:=Bd s1 a (by omega);simp only[aH]at c1;rw[hn]at c1;refine sN aG func274 ntmps274 ?_;refine aZ ?_;all_goals (try exact kP (by simp[gF,dJ,dH,rowOf,results274];done))
theorem Wt[aB prog][bQ prog](p:aI)(U:List aD)(hb:Bnd p U)(n:Nat)(a:aD)(ha:a∈U)(s1 s2:List aD)(hn:s1.any (iA a)=false)(hs:Seen U (s1,s2))(hf:sD p s1<n+1)
  (ih:∀(b:aD) (q1 q2:List aD),sD p q1<n->Seen U (q1,q2)->b∈U->Lf prog 274 [.view (.agg (aJ .view p)),.view (.agg (aH b)),.uN [.sl .own 2 (q1.map aH)] [.sl .own 2 ((gI p n b q1 q2).1.map aH)],.uN [.sl .own 2 (q2.map aH)] [.sl .own 2 ((gI p n b q1 q2).2.map aH)]] (.gM [])):
  Lf prog 274 [.view (.agg (aJ .view p)),.view (.agg (aH a)),.uN [.sl .own 2 (s1.map aH)] [.sl .own 2 ((gI p (n+1) a s1 s2).1.map aH)],.uN [.sl .own 2 (s2.map aH)] [.sl .own 2 ((gI p (n+1) a s1 s2).2.map aH)]] (.gM []):=by
 have hps:=hb.hs;have hl:=hs.len;have hU:=hb.len;simp only[aL,bP]at hps;simp only at hl;have c1:=Bd s1 a (by omega);have c2:=yX p a (by omega);rw[hn]at c1;have hna:a∉s1:=λh=>by rw[yV.2 h]at hn;cases hn
 obtain⟨t1,ht1⟩:∃l:List aD,l=s1++[a]:=⟨_,rfl⟩;have e1:s1.map aH++[[.str a.host,.str a.path]]=t1.map aH:=by simp[ht1]
 have hl1:(s1.map aH).length=s1.length:=by simp
 have hv:gI p (n+1) a s1 s2=((dW p n (iO p a) (s1++[a],s2)).1,(dW p n (iO p a) (s1++[a],s2)).2++[a]):=by simp only[gI,hn,dW];rfl
 rw[hv];clear hv;rw[<-ht1];rcases lT (kW a) p.aO with⟨hi,hf⟩|⟨k,hk,hi,hf⟩
 .have hL:iO p a=[]:=by unfold iO;rw[hf]
  have hl2:(s2.map aH).length=s2.length:=by simp
  rw[hL];rw[hi]at c2;simp only[aH,aJ]at c1 c2;obtain⟨t2,ht2⟩:∃l:List aD,l=s2++[a]:=⟨_,rfl⟩;have e2:s2.map aH++[[.str a.host,.str a.path]]=t2.map aH:=by simp[ht2]
  simp only[dW,foldl_nil];rw[<-ht2];clear ht2 ht1;refine sN aG func274 ntmps274 ?_;have W:=aA e1 (aA e2 (aA hl1 hl2));refine we ?_;all_goals (try exact kP (by simp[gF,dJ,dH,rowOf,results274,dW];done))
 .have hm:=fS hk;have hz:=bS bL hm;have hpm:=hb.ps _ hm;have hta:(p.aO[k]).to=a:=by have:=Fk hf;simpa [kW]using this
  have hha:=hb.host _ ha;rw[hi]at c2;have hg:=aE hk;have hL:iO p a=if p.aO[k].done=true/\p.aO[k].code=1 then(bH p.aO[k].body a.host).1 else []:=by unfold iO;rw[hf]
  simp only[bL,aQ]at hz;have cp:=uG p.aO[k].body a.host (by omega) hha;rw[hta]at hpm;simp only[aH,aJ]at c1 c2;by_cases hd:p.aO[k].done=true/\p.aO[k].code=1
  .rw [eK hd]at hL;rw[<-hL]at cp hpm;obtain⟨hd1,hd2⟩:=hd;refine sN aG func274 ntmps274 ?_;have W:=aA e1 (aA hl1 (aA hg (aA hk (aA hd1 hd2))));refine we ?_;have hst:Seen U (t1,s2):=by
    subst ht1;exact⟨gO.2 ⟨hs.nd,by simp,λx hx y hy e=>hna (by simp at hy;subst hy;subst e;exact hx)⟩,λx hx=>by
     rcases eW.1 hx with h|h
     .exact hs.sub x h
     .simp at h;subst h;exact ha,hs.ond,λx hx=>oE _ (hs.qm x hx)⟩
   have hun:sD p t1<n:=by have:=Ye (p:=p) (s:=s1) (a:=a) (by rw[hn];simp) ⟨_,hm,hta⟩;rw[<-ht1]at this;omega
   have hLU:∀b∈iO p a,b∈U:=λb h=>hb.im b (KF p a b h)
   clear hL ht1;generalize iO p a=L at*;refine aM (ι:={k:Nat×Nat // k.1<=L.length/\1<=k.2}) (λt o i=>⟨bC t [(64,.int .i64 i.1.1),(13,.undef),(16,.undef),(22,.undef),(25,.undef)],[⟨true,true,1,2,[[.obj 1 i.1.2]]⟩,⟨true,false,2,i.1.2,(dW p n (L.take i.1.1) (t1,s2)).1.map aH⟩,⟨true,true,1,2,[[.obj 3 1]]⟩,⟨true,false,2,1,(dW p n (L.take i.1.1) (t1,s2)).2.map aH⟩]++o.drop 4⟩)
    (λi=>L.length-i.1.1) ⟨(0,2),by simp,by simp⟩ (aK (by simp[dW]) (by simp)) ?_
   rintro⟨⟨k,v⟩,hk,hv⟩ K1 hK1;simp only[bC,cW,cU,pL,AW,eA,eM]at hk hv hK1⊢;have hk1:=oQ (k:=k);by_cases hlt:k<L.length
   .have hg2:=aE hlt;obtain⟨f1,f2⟩:=Cx hb.im n (L.take k) (t1,s2) (λb h=>hLU b (sE h)) hst;have f3:=PS (p:=p) f2;have c3:=ih L[k] (dW p n (L.take k) (t1,s2)).1 (dW p n (L.take k) (t1,s2)).2 (by simp only at f3;omega) f1 (hLU _ (fS hlt));have hnext:dW p n (L.take (k+1)) (t1,s2)=gI p n L[k] (dW p n (L.take k) (t1,s2)).1 (dW p n (L.take k) (t1,s2)).2:=by
     rw[eJ hlt,Hy]
    generalize dW p n (L.take k) (t1,s2)=q at*;obtain⟨q1,q2⟩:=q;simp only at c3 hnext⊢;generalize gI p n L[k] q1 q2=w at*;obtain⟨w1,w2⟩:=w;simp only[aH,aJ]at c3;have W:=aA hk1 (aA hg2 hlt);repeat' first|refine wf ?_|(refine nx ?_;refine sg (hc:=c3) (h:=?_))|(refine sq ?_ ?_<;>intro hc<;>try exact hc.elim)|fail
    refine hK1 _ ⟨(k+1,1),by simp only;omega,by simp⟩ ?_ (by simp only;omega);simp only[hnext];exact O1 rfl rfl (by simp) (by simp) (by simp) (by simp) (by simp) (by simp[dB,eP,closed])
   .have htk:L.take k=L:=cX (by omega);rw[htk];have f1:=(Cx hb.im n L (t1,s2) hLU hst).1.len;generalize dW p n L (t1,s2)=q at*;obtain⟨q1,q2⟩:=q;simp only at f1;have hl2:(q2.map aH).length=q2.length:=by simp
    obtain⟨t2,ht2⟩:∃l:List aD,l=q2++[a]:=⟨_,rfl⟩;have e2:q2.map aH++[[.str a.host,.str a.path]]=t2.map aH:=by simp[ht2]
    simp only;rw[<-ht2];clear ht2;have W:=aA hk1 (aA e2 hl2);refine we ?_;all_goals (try exact kP (by simp[gF,dJ,dH,rowOf,results274];done))
  .rw [cY hd]at hL;have hl2:(s2.map aH).length=s2.length:=by simp
   rw[hL];obtain⟨t2,ht2⟩:∃l:List aD,l=s2++[a]:=⟨_,rfl⟩;have e2:s2.map aH++[[.str a.host,.str a.path]]=t2.map aH:=by simp[ht2]
   simp only[dW,foldl_nil];rw[<-ht2];clear ht2 ht1;cases hd1:p.aO[k].done
   .refine sN aG func274 ntmps274 ?_;have W:=aA e1 (aA e2 (aA hl1 (aA hl2 (aA hg (aA hk hd1)))));refine we ?_;all_goals (try exact kP (by simp[gF,dJ,dH,rowOf,results274];done))
   .have hd2:¬p.aO[k].code=1:=λh=>hd ⟨hd1,h⟩
    refine sN aG func274 ntmps274 ?_;have W:=aA e1 (aA e2 (aA hl1 (aA hl2 (aA hg (aA hk (aA hd1 hd2))))));refine we ?_;all_goals (try exact kP (by simp[gF,dJ,dH,rowOf,results274];done))
theorem Mx[aB prog][bQ prog](p:aI)(U:List aD)(hb:Bnd p U):∀(n:Nat) (a:aD) (s1 s2:List aD),sD p s1<n->Seen U (s1,s2)->a∈U->Lf prog 274 [.view (.agg (aJ .view p)),.view (.agg (aH a)),.uN [.sl .own 2 (s1.map aH)] [.sl .own 2 ((gI p n a s1 s2).1.map aH)],.uN [.sl .own 2 (s2.map aH)] [.sl .own 2 ((gI p n a s1 s2).2.map aH)]] (.gM [])
 |0,_,_,_,h,_,_=>absurd h (by omega)
 |n+1,a,s1,s2,h,hs,ha=>by
  have hl:=hs.len;have hU:=hb.len;simp only at hl;cases hn:s1.any (iA a)
  .exact Wt p U hb n a ha s1 s2 hn hs h (λb q1 q2 h1 h2 h3=>Mx p U hb n b q1 q2 h1 h2 h3)
  .have:gI p (n+1) a s1 s2=(s1,s2):=by simp[gI,hn]
   rw[this];exact Um p U hb a s1 s2 hn (by omega)
def dY(p:aI)(a:aD):List aD:=(gI p (sD p []+1) a [] []).2
theorem Cy[aB prog][bQ prog](p:aI)(U:List aD)(hb:Bnd p U)(a:aD)(ha:a∈U):Ok prog 215 [.agg (aJ .view p),.agg (aH a)] (.sl .own 2 ((dY p a).map aH)):=by
 have c1:=Mx p U hb (sD p []+1) a [] [] (by omega) ⟨by simp,by simp,by simp,by simp⟩ ha;unfold dY;generalize gI p (sD p []+1) a [] []=w at*;obtain⟨w1,w2⟩:=w;simp only[aH,aJ,DG]at c1;refine bM aG func215 ntmps215 ?_;have W:=trivial;repeat' first|refine wf ?_|(refine nx ?_;refine sg (hc:=c1) (h:=?_))|(refine sq ?_ ?_<;>intro hc<;>try exact hc.elim)|fail
 exact aF results215
end Go.Proofs.YthddijamfbfibaaGreatDoor
