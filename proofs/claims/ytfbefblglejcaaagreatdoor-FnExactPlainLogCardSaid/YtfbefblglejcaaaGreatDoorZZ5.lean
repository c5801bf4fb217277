/- Proved here: steps towards the statement of this claim. No condition. -/
import Derived.Test.YtfbefblglejcaaaGreatDoorZQRC7
set_option linter.all false
set_option maxRecDepth 4000
set_option maxHeartbeats 4000000
namespace Go.Proofs.YtfbefblglejcaaaGreatDoor
open Go.Aw Proofs.Tryz List IntKind
theorem wD{α:Type}{f:α->List AV}{i j:Nat}(h:∀x,rD i j (f x)=f x):∀l:List α,qK i j (l.map f)=l.map f
 |[]=>rfl
 |x::l=>by simp only[mC,qK,h,wD h l]
@[simp] theorem aPc(i j:Nat)(l:List bB):qK i j (l.map bW)=l.map bW:=wD (λ_=>rfl) l
@[simp] theorem aPd(i j:Nat)(l:List Int):qK i j (l.map mG)=l.map mG:=wD (λ_=>rfl) l
@[simp] theorem aN0(i j:Nat)(l:List aK):qK i j (l.map aL)=l.map aL:=wD (λ_=>rfl) l
@[simp] theorem aN1(i j:Nat)(l:List oN):qK i j (l.map uR)=l.map uR:=wD (λ_=>rfl) l
@[simp] theorem aN2(i j:Nat)(l:List pJ):qK i j (l.map vC)=l.map vC:=wD (λ_=>rfl) l
@[simp] theorem aJ7(i j:Nat)(l:List dX):qK i j (l.map eX)=l.map eX:=wD (λ_=>rfl) l
@[simp] theorem aJ8(i j:Nat)(l:List bT):qK i j (l.map (cZ .view))=l.map (cZ .view):=wD (λ_=>by simp) l
@[simp] theorem aLm(i j:Nat)(l:List jK):qK i j (l.map (fA .view))=l.map (fA .view):=wD (λ_=>by simp) l
@[simp] theorem aRt(u:List Nat)(b:Bool)(l:List bT):mX (iP u) b (l.map (cZ .view))=l.map (cZ .view):=by
 induction l with
 |nil=>rfl
 |cons x l ih=>rw[mC,mX,ih];simp[xR,rt,cZ,iP]
@[simp] theorem aPe(u:List Nat)(b:Bool)(l:List jK):mX (iP u) b (l.map (fA .view))=l.map (fA .view):=by
 induction l with
 |nil=>rfl
 |cons x l ih=>rw[mC,mX,ih];simp[xR,rt,fA,iP]
theorem A9{t t':List AV}{o o':List aM}{v:Nat}{l1 l3 m1 m3:List (List AV)}{o4 o5 o6 o7 o8 o9:aM}
  (ho:o=[⟨true,true,1,2,[[.obj 10 1]]⟩,⟨false,false,2,v,l1⟩,⟨true,true,1,2,[[.obj 11 1]]⟩,⟨false,false,2,1,l3⟩,o4,o5,o6,o7,o8,o9,⟨true,false,2,1,m1⟩,⟨true,false,2,1,m3⟩])
  (ho':o'=[⟨true,true,1,2,[[.obj 1 1]]⟩,⟨true,false,2,1,m1⟩,⟨true,true,1,2,[[.obj 3 1]]⟩,⟨true,false,2,1,m3⟩,o4,o5,o6,o7,o8])
  (hf:(o4.lL 1 10=o4/\o5.lL 1 10=o5/\o6.lL 1 10=o6/\o7.lL 1 10=o7/\o8.lL 1 10=o8/\o9.lL 1 10=o9)/\(o4.lL 3 11=o4/\o5.lL 3 11=o5/\o6.lL 3 11=o6/\o7.lL 3 11=o7/\o8.lL 3 11=o8/\o9.lL 3 11=o9))
  (hw:wk t t') (h1:wk (rD 1 10 t') t') (h3:wk (rD 3 11 t') t') (hc:eT 9 t'=true) (hc0:dC 9 [o4,o5,o6,o7,o8]=true):lY ⟨t,o⟩ ⟨t',o'⟩:=by
 subst ho;subst ho';obtain⟨⟨a4,a5,a6,a7,a8,a9⟩,b4,b5,b6,b7,b8,b9⟩:=hf;refine(wF hw).trans ?_;refine(aS 1 10 rfl rfl ⟨rfl,rfl⟩ (by simp[a4,a5,a6,a7,a8,a9];rfl) h1).trans ?_;refine(aS 3 11 rfl rfl ⟨rfl,rfl⟩ (by simp[b4,b5,b6,b7,b8,b9];rfl) h3).trans ?_;refine aV 9 (by simp) (lC _) hc ?_;simpa [dC,eT,closed]using hc0
theorem Ci{p:aG}{U:List aK}(hU:∀x∈uW p,x∈U)(n:Nat):∀(l:List aK) (s:List aK×List aK),(∀b∈l,b∈U)->Seen U s->Seen U (dW p n l s)/\(∀x∈s.1,x∈(dW p n l s).1)
 |[],s,_,h=>⟨h,λ_ h=>h⟩
 |b::l,s,hl,h=>by obtain⟨h1,h2⟩:=Fe hU n b s (hl b (by simp)) h;obtain⟨h3,h4⟩:=Ci hU n l _ (λx hx=>hl x (by simp[hx])) h1;exact⟨h3,λx hx=>h4 x (h2 x hx)⟩
theorem yT[aC prog][bP prog](p:aG)(a:aK)(hl:p.aN.length<=1099511627776):Ok prog 205 [.agg (aH .view p),.agg (aL a)] (.int .i64 (qF (kM a) p.aN)):=by have c1:=ay p.aN a hl;simp only[aL]at c1;refine bM aF func205 ntmps205 ?_;refine aY ?_;exact aD results205
structure Bnd(p:aG)(U:List aK): Prop where
  hs:bQ bK p.aN <= 268435456
  im:∀ x ∈ uW p, x ∈ U
  len:U.length <= 1073741824
  host:∀ x ∈ U, x.host.length <= 1073741824
  ps:∀ m ∈ p.aN, (bH m.body m.to.host).1.length <= 1073741824
theorem Seen.len{U:List aK}{s:List aK×List aK}(h:Seen U s):s.1.length<=U.length/\s.2.length<=U.length:=
 ⟨(Em (λ_=>0) s.1 U h.nd h.sub).2,(Em (λ_=>0) s.2 U h.ond (λx hx=>h.sub x (h.jk x hx))).2⟩
theorem TH[aC prog][bP prog](p:aG)(U:List aK)(hb:Bnd p U)(a:aK)(s1 s2:List aK)(hn:s1.any (iO a)=true)(h1:s1.length<=1073741824):
  MP prog 253 [.view (.agg (aH .view p)),.view (.agg (aL a)),.uI [.sl .own 2 (s1.map aL)] [.sl .own 2 (s1.map aL)],.uI [.sl .own 2 (s2.map aL)] [.sl .own 2 (s2.map aL)]] (.gT []):=by
 have c1:=AP s1 a (by omega);simp only[aL]at c1;rw[hn]at c1;refine sG aF func253 ntmps253 ?_;refine aY ?_;all_goals (try exact kH (by simp[gF,dI,dH,rowOf,results253];done))
theorem Vk[aC prog][bP prog](p:aG)(U:List aK)(hb:Bnd p U)(n:Nat)(a:aK)(ha:a∈U)(s1 s2:List aK)(hn:s1.any (iO a)=false)(hs:Seen U (s1,s2))(hf:rU p s1<n+1)
  (ih:∀(b:aK) (q1 q2:List aK),rU p q1<n->Seen U (q1,q2)->b∈U->MP prog 253 [.view (.agg (aH .view p)),.view (.agg (aL b)),.uI [.sl .own 2 (q1.map aL)] [.sl .own 2 ((gJ p n b q1 q2).1.map aL)],.uI [.sl .own 2 (q2.map aL)] [.sl .own 2 ((gJ p n b q1 q2).2.map aL)]] (.gT [])):
  MP prog 253 [.view (.agg (aH .view p)),.view (.agg (aL a)),.uI [.sl .own 2 (s1.map aL)] [.sl .own 2 ((gJ p (n+1) a s1 s2).1.map aL)],.uI [.sl .own 2 (s2.map aL)] [.sl .own 2 ((gJ p (n+1) a s1 s2).2.map aL)]] (.gT []):=by
 have hps:=hb.hs;have hl:=hs.len;have hU:=hb.len;simp only[aI,bQ]at hps;simp only at hl;have c1:=AP s1 a (by omega);have c2:=yT p a (by omega);rw[hn]at c1;have hna:a∉s1:=λh=>by rw[yS.2 h]at hn;cases hn
 obtain⟨t1,ht1⟩:∃l:List aK,l=s1++[a]:=⟨_,rfl⟩;have e1:s1.map aL++[[.str a.host,.str a.path]]=t1.map aL:=by simp[ht1]
 have hl1:(s1.map aL).length=s1.length:=by simp
 have hv:gJ p (n+1) a s1 s2=((dW p n (iK p a) (s1++[a],s2)).1,(dW p n (iK p a) (s1++[a],s2)).2++[a]):=by simp only[gJ,hn,dW];rfl
 rw[hv];clear hv;rw[<-ht1];rcases lJ (kM a) p.aN with⟨hi,hf⟩|⟨k,hk,hi,hf⟩
 .have hL:iK p a=[]:=by unfold iK;rw[hf]
  have hl2:(s2.map aL).length=s2.length:=by simp
  rw[hL];rw[hi]at c2;simp only[aL,aH]at c1 c2;obtain⟨t2,ht2⟩:∃l:List aK,l=s2++[a]:=⟨_,rfl⟩;have e2:s2.map aL++[[.str a.host,.str a.path]]=t2.map aL:=by simp[ht2]
  simp only[dW,foldl_nil];rw[<-ht2];clear ht2 ht1;refine sG aF func253 ntmps253 ?_;have W:=aA e1 (aA e2 (aA hl1 hl2));refine we ?_;all_goals (try exact kH (by simp[gF,dI,dH,rowOf,results253,dW];done))
 .have hm:=fS hk;have hz:=bS bK hm;have hpm:=hb.ps _ hm;have Q6:(p.aN[k]).to=a:=by have:=DP hf;simpa [kM]using this
  have hha:=hb.host _ ha;rw[hi]at c2;have hg:=aE hk;have hL:iK p a=if p.aN[k].done=true/\p.aN[k].code=1 then(bH p.aN[k].body a.host).1 else []:=by unfold iK;rw[hf]
  simp only[bK,aR]at hz;have cp:=uD p.aN[k].body a.host (by omega) hha;rw[Q6]at hpm;simp only[aL,aH]at c1 c2;by_cases hd:p.aN[k].done=true/\p.aN[k].code=1
  .rw [eK hd]at hL;rw[<-hL]at cp hpm;obtain⟨hd1,hd2⟩:=hd;refine sG aF func253 ntmps253 ?_;have W:=aA e1 (aA hl1 (aA hg (aA hk (aA hd1 hd2))));refine we ?_;have hst:Seen U (t1,s2):=by
    subst ht1;exact⟨gO.2 ⟨hs.nd,by simp,λx hx y hy e=>hna (by simp at hy;subst hy;subst e;exact hx)⟩,λx hx=>by
     rcases fL.1 hx with h|h
     .exact hs.sub x h
     .simp at h;subst h;exact ha,hs.ond,λx hx=>nB _ (hs.jk x hx)⟩
   have hun:rU p t1<n:=by have:=WT (p:=p) (s:=s1) (a:=a) (by rw[hn];simp) ⟨_,hm,Q6⟩;rw[<-ht1]at this;omega
   have hLU:∀b∈iK p a,b∈U:=λb h=>hb.im b (Kl p a b h)
   clear hL ht1;generalize iK p a=L at*;refine aO (ι:={k:Nat×Nat // k.1<=L.length/\1<=k.2}) (λt o i=>⟨bC t [(64,.int .i64 i.1.1),(13,.undef),(16,.undef),(22,.undef),(25,.undef)],[⟨true,true,1,2,[[.obj 1 i.1.2]]⟩,⟨true,false,2,i.1.2,(dW p n (L.take i.1.1) (t1,s2)).1.map aL⟩,⟨true,true,1,2,[[.obj 3 1]]⟩,⟨true,false,2,1,(dW p n (L.take i.1.1) (t1,s2)).2.map aL⟩]++o.drop 4⟩)
    (λi=>L.length-i.1.1) ⟨(0,2),by simp,by simp⟩ (aJ (by simp[dW]) (by simp)) ?_
   rintro⟨⟨k,v⟩,hk,hv⟩ K1 hK1;simp only[bC,cW,cU,pC,AI,eA,eM]at hk hv hK1⊢;have hk1:=oQ (k:=k);by_cases hlt:k<L.length
   .have hg2:=aE hlt;obtain⟨f1,f2⟩:=Ci hb.im n (L.take k) (t1,s2) (λb h=>hLU b (sC h)) hst;have f3:=Pm (p:=p) f2;have c3:=ih L[k] (dW p n (L.take k) (t1,s2)).1 (dW p n (L.take k) (t1,s2)).2 (by simp only at f3;omega) f1 (hLU _ (fS hlt));have hnext:dW p n (L.take (k+1)) (t1,s2)=gJ p n L[k] (dW p n (L.take k) (t1,s2)).1 (dW p n (L.take k) (t1,s2)).2:=by
     rw[eI hlt,GV]
    generalize dW p n (L.take k) (t1,s2)=q at*;obtain⟨q1,q2⟩:=q;simp only at c3 hnext⊢;generalize gJ p n L[k] q1 q2=w at*;obtain⟨w1,w2⟩:=w;simp only[aL,aH]at c3;have W:=aA hk1 (aA hg2 hlt);repeat' first|refine wf ?_|(refine nx ?_;refine sg (hc:=c3) (h:=?_))|(refine sq ?_ ?_<;>intro hc<;>try exact hc.elim)|fail
    refine hK1 _ ⟨(k+1,1),by simp only;omega,by simp⟩ ?_ (by simp only;omega);simp only[hnext];exact A9 rfl rfl (by simp) (by simp) (by simp) (by simp) (by simp) (by simp[dC,eT,closed])
   .have htk:L.take k=L:=cY (by omega);rw[htk];have f1:=(Ci hb.im n L (t1,s2) hLU hst).1.len;generalize dW p n L (t1,s2)=q at*;obtain⟨q1,q2⟩:=q;simp only at f1;have hl2:(q2.map aL).length=q2.length:=by simp
    obtain⟨t2,ht2⟩:∃l:List aK,l=q2++[a]:=⟨_,rfl⟩;have e2:q2.map aL++[[.str a.host,.str a.path]]=t2.map aL:=by simp[ht2]
    simp only;rw[<-ht2];clear ht2;have W:=aA hk1 (aA e2 hl2);refine we ?_;all_goals (try exact kH (by simp[gF,dI,dH,rowOf,results253];done))
  .rw [cX hd]at hL;have hl2:(s2.map aL).length=s2.length:=by simp
   rw[hL];obtain⟨t2,ht2⟩:∃l:List aK,l=s2++[a]:=⟨_,rfl⟩;have e2:s2.map aL++[[.str a.host,.str a.path]]=t2.map aL:=by simp[ht2]
   simp only[dW,foldl_nil];rw[<-ht2];clear ht2 ht1;cases hd1:p.aN[k].done
   .refine sG aF func253 ntmps253 ?_;have W:=aA e1 (aA e2 (aA hl1 (aA hl2 (aA hg (aA hk hd1)))));refine we ?_;all_goals (try exact kH (by simp[gF,dI,dH,rowOf,results253];done))
   .have hd2:¬p.aN[k].code=1:=λh=>hd ⟨hd1,h⟩
    refine sG aF func253 ntmps253 ?_;have W:=aA e1 (aA e2 (aA hl1 (aA hl2 (aA hg (aA hk (aA hd1 hd2))))));refine we ?_;all_goals (try exact kH (by simp[gF,dI,dH,rowOf,results253];done))
theorem Mh[aC prog][bP prog](p:aG)(U:List aK)(hb:Bnd p U):∀(n:Nat) (a:aK) (s1 s2:List aK),rU p s1<n->Seen U (s1,s2)->a∈U->MP prog 253 [.view (.agg (aH .view p)),.view (.agg (aL a)),.uI [.sl .own 2 (s1.map aL)] [.sl .own 2 ((gJ p n a s1 s2).1.map aL)],.uI [.sl .own 2 (s2.map aL)] [.sl .own 2 ((gJ p n a s1 s2).2.map aL)]] (.gT [])
 |0,_,_,_,h,_,_=>absurd h (by omega)
 |n+1,a,s1,s2,h,hs,ha=>by
  have hl:=hs.len;have hU:=hb.len;simp only at hl;cases hn:s1.any (iO a)
  .exact Vk p U hb n a ha s1 s2 hn hs h (λb q1 q2 h1 h2 h3=>Mh p U hb n b q1 q2 h1 h2 h3)
  .have:gJ p (n+1) a s1 s2=(s1,s2):=by simp[gJ,hn]
   rw[this];exact TH p U hb a s1 s2 hn (by omega)
def dY(p:aG)(a:aK):List aK:=(gJ p (rU p []+1) a [] []).2
theorem Cj[aC prog][bP prog](p:aG)(U:List aK)(hb:Bnd p U)(a:aK)(ha:a∈U):Ok prog 204 [.agg (aH .view p),.agg (aL a)] (.sl .own 2 ((dY p a).map aL)):=by
 have c1:=Mh p U hb (rU p []+1) a [] [] (by omega) ⟨by simp,by simp,by simp,by simp⟩ ha;unfold dY;generalize gJ p (rU p []+1) a [] []=w at*;obtain⟨w1,w2⟩:=w;simp only[aL,aH,DE]at c1;refine bM aF func204 ntmps204 ?_;have W:=trivial;repeat' first|refine wf ?_|(refine nx ?_;refine sg (hc:=c1) (h:=?_))|(refine sq ?_ ?_<;>intro hc<;>try exact hc.elim)|fail
 exact aD results204
end Go.Proofs.YtfbefblglejcaaaGreatDoor
