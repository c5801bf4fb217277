/- Proved here: steps towards the statement of this claim. No condition. -/
import Derived.Test.YtnkpkklemmgapaaGreatDoorZQRLie
set_option linter.all false
set_option maxRecDepth 8000
set_option maxHeartbeats 8000000
namespace Go.Proofs.YtnkpkklemmgapaaGreatDoor
open Go.Aw Proofs.Tryz List IntKind
theorem uE{α:Type}{f:α->List AV}{i j:Nat}(h:∀x,sQ i j (f x)=f x):∀l:List α,oF i j (l.map f)=l.map f
 |[]=>rfl
 |x::l=>by simp only[lA,oF,h,uE h l]
@[simp] theorem aNj(i j:Nat)(l:List aU):oF i j (l.map dQ)=l.map dQ:=uE (λ_=>rfl) l
@[simp] theorem aNk(i j:Nat)(l:List Int):oF i j (l.map lI)=l.map lI:=uE (λ_=>rfl) l
@[simp] theorem aL5(i j:Nat)(l:List aK):oF i j (l.map bC)=l.map bC:=uE (λ_=>rfl) l
@[simp] theorem aL6(i j:Nat)(l:List nY):oF i j (l.map uH)=l.map uH:=uE (λ_=>rfl) l
@[simp] theorem aL7(i j:Nat)(l:List nK):oF i j (l.map xC)=l.map xC:=uE (λ_=>rfl) l
@[simp] theorem aH6(i j:Nat)(l:List fO):oF i j (l.map lT)=l.map lT:=uE (λ_=>rfl) l
@[simp] theorem aH7(i j:Nat)(l:List bU):oF i j (l.map (eG .view))=l.map (eG .view):=uE (λ_=>by simp) l
@[simp] theorem aJ1(i j:Nat)(l:List gV):oF i j (l.map (fC .view))=l.map (fC .view):=uE (λ_=>by simp) l
@[simp] theorem aPl(u:List Nat)(b:Bool)(l:List bU):iI (gU u) b (l.map (eG .view))=l.map (eG .view):=by
 induction l with
 |nil=>rfl
 |cons x l ih=>rw[lA,iI,ih];simp[qD,rt,eG,gU]
@[simp] theorem aNl(u:List Nat)(b:Bool)(l:List gV):iI (gU u) b (l.map (fC .view))=l.map (fC .view):=by
 induction l with
 |nil=>rfl
 |cons x l ih=>rw[lA,iI,ih];simp[qD,rt,fC,gU]
theorem IQ{p:aC}{U:List aK}(hU:∀x∈sO p,x∈U)(n:Nat):∀(l:List aK) (s:List aK×List aK),(∀b∈l,b∈U)->Seen U s->Seen U (iY p n l s)/\(∀x∈s.1,x∈(iY p n l s).1)
 |[],s,_,h=>⟨h,λ_ h=>h⟩
 |b::l,s,hl,h=>by obtain⟨h1,h2⟩:=Dl hU n b s (hl b (by simp)) h;obtain⟨h3,h4⟩:=IQ hU n l _ (λx hx=>hl x (by simp[hx])) h1;exact⟨h3,λx hx=>h4 x (h2 x hx)⟩
structure Bnd(p:aC)(U:List aK): Prop where
  hs:bV bI p.aN <= 268435456
  im:∀ x ∈ sO p, x ∈ U
  len:U.length <= 1073741824
  host:∀ x ∈ U, x.host.length <= 1073741824
  ps:∀ m ∈ p.aN, (bL m.body m.to.host).1.length <= 1073741824
theorem Seen.len{U:List aK}{s:List aK×List aK}(h:Seen U s):s.1.length<=U.length/\s.2.length<=U.length:=
 ⟨(Cu (λ_=>0) s.1 U h.nd h.sub).2,(Cu (λ_=>0) s.2 U h.ond (λx hx=>h.sub x (h.ll x hx))).2⟩
def gJ(p:aC)(a:aK):List aK:=(iL p (vL p []+1) a [] []).2
def qR(p:aC)(a:aK):Bool:=
 match p.aN.find? (mP a)with
 |some m=>if m.done=true/\m.code=1 then(bL m.body a.host).2.2 else false
 |none=>false
theorem EZ[aB prog][dY prog](p:aC)(U:List aK)(hb:Bnd p U)(a:aK)(ha:a∈U):Ok prog 160 [.agg (aQ .view p),.agg (bC a)] (.iP [.sl .own 2 ((jO p a).map bC),.bool (qR p a)]):=by
 have hps:=hb.hs;simp only[aM,bV]at hps;have c2:=yO p a (by omega);unfold jO qR;rcases qP (mP a) p.aN with⟨hi,hf⟩|⟨k,hk,hi,hf⟩
 .rw [hf];rw[hi]at c2;simp only[bC,aQ]at c2;refine dL aO func160 ntmps160 ?_;refine dH ?_;exact aR results160
 .rw [hf];rw[hi]at c2;have hm:=hI hk;have hz:=dS bI hm;have hha:=hb.host _ ha;have hg:=aE hk;simp only[bI,aP]at hz;have cp:=vK p.aN[k].body a.host (by omega) hha;simp only[bC,aQ]at c2;simp only;generalize bL p.aN[k].body a.host=w at*;obtain⟨w1,w2,w3⟩:=w;simp only at cp;have hk0:¬((k:Nat):Int)<0:=by omega
  cases hd1:p.aN[k].done
  .refine dL aO func160 ntmps160 ?_;have W:=aA hk0 (aA hg (aA hk hd1));refine we ?_;exact aR results160
  .by_cases hd2:p.aN[k].code=1
   .simp only[hd2,and_self,eV];refine dL aO func160 ntmps160 ?_;have W:=aA hk0 (aA hg (aA hk (aA hd1 hd2)));refine we ?_;exact aR results160
   .simp only[hd2,and_false,eS];refine dL aO func160 ntmps160 ?_;have W:=aA hk0 (aA hg (aA hk (aA hd1 hd2)));refine we ?_;exact aR results160
theorem Qo[aB prog][dY prog](p:aC)(a:aK)(s1 s2:List aK)(hn:s1.any (kG a)=true)(h1:s1.length<=1073741824):
  ax prog 231 [.view (.agg (aQ .view p)),.view (.agg (bC a)),.rQ (.sl .own 2 (s1.map bC)),.rQ (.sl .own 2 (s2.map bC))] (.iP [.sl .own 2 (s1.map bC),.sl .own 2 (s2.map bC)]):=by
 have c1:=Ap s1 a (by omega);simp only[bC]at c1;rw[hn]at c1;refine BM aO func231 ntmps231 ?_;refine dH ?_;all_goals (try exact uJ (by simp[lY,gQ,gL,rowOf,results231];done))
theorem YH{t t':List AV}{o o':List aD}{v:Nat}{l1 l4 m1 m2:List (List AV)}{o0 o2 o3 o5 o6:aD}
  (ho:o=[o0,⟨false,false,2,1,l1⟩,o2,o3,⟨false,false,2,v,l4⟩,o5,o6,⟨true,false,2,1,m1⟩,⟨true,false,2,1,m2⟩])
  (ho':o'=[o0,⟨true,false,2,1,m2⟩,o2,o3,⟨true,false,2,1,m1⟩,o5,o6])
  (hf:(o0.qO 4 7=o0/\o2.qO 4 7=o2/\o3.qO 4 7=o3/\o5.qO 4 7=o5/\o6.qO 4 7=o6)/\(o0.qO 1 8=o0/\o2.qO 1 8=o2/\o3.qO 1 8=o3/\o5.qO 1 8=o5/\o6.qO 1 8=o6))
  (hw:wk t (sQ 4 7 (sQ 1 8 t'))) (h1:wk (sQ 4 7 (sQ 4 7 (sQ 1 8 t'))) (sQ 1 8 t')) (h3:wk (sQ 1 8 (sQ 1 8 t')) t') (hc:gH 7 t'=true) (hc0:fI 7 [o0,o2,o3,o5,o6]=true):kY ⟨t,o⟩ ⟨t',o'⟩:=by
 subst ho;subst ho';obtain⟨⟨a0,a2,a3,a5,a6⟩,b0,b2,b3,b5,b6⟩:=hf;refine(Ag hw).trans ?_;refine(bK 4 7 rfl rfl ⟨rfl,rfl⟩ (by simp[a0,a2,a3,a5,a6];rfl) h1).trans ?_;refine(bK 1 8 rfl rfl ⟨rfl,rfl⟩ (by simp[b0,b2,b3,b5,b6];rfl) h3).trans ?_;refine aL 7 (by simp) (mR _) hc ?_;simpa [fI,gH,closed]using hc0
theorem Sq[aB prog][dY prog](p:aC)(U:List aK)(hb:Bnd p U)(n:Nat)(a:aK)(ha:a∈U)(s1 s2:List aK)(hn:s1.any (kG a)=false)(hs:Seen U (s1,s2))(hf:vL p s1<n+1)
  (ih:∀(b:aK) (q1 q2:List aK),vL p q1<n->Seen U (q1,q2)->b∈U->ax prog 231 [.view (.agg (aQ .view p)),.view (.agg (bC b)),.rQ (.sl .own 2 (q1.map bC)),.rQ (.sl .own 2 (q2.map bC))] (.iP [.sl .own 2 ((iL p n b q1 q2).1.map bC),.sl .own 2 ((iL p n b q1 q2).2.map bC)])):
  ax prog 231 [.view (.agg (aQ .view p)),.view (.agg (bC a)),.rQ (.sl .own 2 (s1.map bC)),.rQ (.sl .own 2 (s2.map bC))] (.iP [.sl .own 2 ((iL p (n+1) a s1 s2).1.map bC),.sl .own 2 ((iL p (n+1) a s1 s2).2.map bC)]):=by
 have hps:=hb.hs;have hl:=hs.len;have hU:=hb.len;simp only[aM,bV]at hps;simp only at hl;have c1:=Ap s1 a (by omega);have c2:=EZ p U hb a ha;rw[hn]at c1;have hna:a∉s1:=λh=>by rw[yR.2 h]at hn;cases hn
 obtain⟨t1,ht1⟩:∃l:List aK,l=s1++[a]:=⟨_,rfl⟩;have e1:s1.map bC++[[.str a.host,.str a.path]]=t1.map bC:=by simp[ht1]
 have hl1:(s1.map bC).length=s1.length:=by simp
 have hv:iL p (n+1) a s1 s2=((iY p n (jO p a) (s1++[a],s2)).1,(iY p n (jO p a) (s1++[a],s2)).2++[a]):=by simp only[iL,hn,iY];rfl
 rw[hv];clear hv;rw[<-ht1];have hst:Seen U (t1,s2):=by
  subst ht1;exact⟨gS.2 ⟨hs.nd,by simp,λx hx y hy e=>hna (by simp at hy;subst hy;subst e;exact hx)⟩,λx hx=>by
   rcases fS.1 hx with h|h
   .exact hs.sub x h
   .simp at h;subst h;exact ha,hs.ond,λx hx=>oB _ (hs.ll x hx)⟩
 have hun:jO p a≠[]->vL p t1<n:=by intro h;have:=M3 (p:=p) (s:=s1) (a:=a) (by rw[hn];simp) (lh h);rw[<-ht1]at this;omega
 have hLU:∀b∈jO p a,b∈U:=λb h=>hb.im b (Qn p a b h)
 have hLl:(jO p a).length<=1073741824:=by
  unfold jO;split
  .rename_i m hm;split
   .have h1:=hb.ps m (pZ hm);have h2:=Fl hm;simp only[mP,fX]at h2
    rwa[h2]at h1
   .simp
  .simp
 clear ht1;generalize qR p a=ok at*;generalize jO p a=L at*;simp only[bC,aQ]at c1 c2;refine aPh aO [3,8,9] func231 ntmps231 ?_;have W:=aA e1 hl1;refine we ?_;refine go_drawn3 [⟨4,2,[(5,⟨true,false,2,3,t1.map bC⟩),(2,⟨true,false,2,2,s1.map bC⟩),(0,⟨true,false,2,1,[]⟩)]⟩,⟨5,2,[(4,⟨true,false,2,1,[[.str a.host,.str a.path]]⟩)]⟩] (by simp;rfl) (by decide+kernel) (by decide+kernel) (by simp[lZ,pre,Region.binds]) (by simp) ?_
 repeat' first|refine aC9 (by simp;rfl) (by simp;rfl) ?_|(refine xg ?_ (by simp;rfl) ?_;(focus (simp;done)))|(refine Bn (j:=5) (v:= .obj 4 3) ⟨4,2,[(5,⟨true,false,2,3,t1.map bC⟩),(2,⟨true,false,2,2,s1.map bC⟩),(0,⟨true,false,2,1,[]⟩)]⟩ [] [(2,⟨true,false,2,2,s1.map bC⟩),(0,⟨true,false,2,1,[]⟩)] rfl (by simp) rfl (by simp[Region.binds];rfl) (by decide) (by simp[Region.binds];rfl) (by simp;rfl) rfl ?_ ?_;(focus (refine Dm (by first|(simp;rfl)|(simp;done)|rfl) rfl (by first|(simp;rfl)|(simp;done)|rfl) (by first|(simp;rfl)|(simp;done)|rfl) (by first|(simp;rfl)|(simp;done)|rfl) (by first|(simp;done)|decide) (by first|rfl|exact yC (λ_=>rfl) _|(simp[qQ,AV.iG];done)) (by first|(simp;rfl)|(simp;done)|rfl|exact W.1|exact W.2.1|exact W|(simp[W];done)) (by simp;exact⟨rfl,rfl⟩) (by simp) (by simp) (by simp;omega) (by simp;omega))))|(refine Bn (j:=2) (v:= .obj 4 2) ⟨4,2,[(5,⟨true,false,2,3,t1.map bC⟩),(2,⟨true,false,2,2,s1.map bC⟩),(0,⟨true,false,2,1,[]⟩)]⟩ [(5,⟨true,false,2,3,t1.map bC⟩)] [(0,⟨true,false,2,1,[]⟩)] rfl (by simp) rfl (by simp[Region.binds];rfl) (by decide) (by simp[Region.binds];rfl) (by simp;rfl) rfl ?_ ?_;(focus (refine Dm (by first|(simp;rfl)|(simp;done)|rfl) rfl (by first|(simp;rfl)|(simp;done)|rfl) (by first|(simp;rfl)|(simp;done)|rfl) (by first|(simp;rfl)|(simp;done)|rfl) (by first|(simp;done)|decide) (by first|rfl|exact yC (λ_=>rfl) _|(simp[qQ,AV.iG];done)) (by first|(simp;rfl)|(simp;done)|rfl|exact W.1|exact W.2.1|exact W|(simp[W];done)) (by simp;exact⟨rfl,rfl⟩) (by simp) (by simp) (by simp;omega) (by simp;omega))))|(refine Bn (j:=0) (v:= .obj 4 1) ⟨4,2,[(5,⟨true,false,2,3,t1.map bC⟩),(2,⟨true,false,2,2,s1.map bC⟩),(0,⟨true,false,2,1,[]⟩)]⟩ [(5,⟨true,false,2,3,t1.map bC⟩),(2,⟨true,false,2,2,s1.map bC⟩)] [] rfl (by simp) rfl (by simp[Region.binds];rfl) (by decide) (by simp[Region.binds];rfl) (by simp;rfl) rfl ?_ ?_;(focus (refine xc (by simp;exact⟨rfl,rfl⟩) (by simp) rfl rfl (by decide) (by decide) (by first|(simp;rfl)|rfl) (by simp[AV.iG]) (by simp[AV.Ab,AV.cells]) (by simp) (by simp[AV.cells]))))|(refine Bn (j:=4) (v:= .obj 5 1) ⟨5,2,[(4,⟨true,false,2,1,[[.str a.host,.str a.path]]⟩)]⟩ [] [] rfl (by simp) rfl (by simp[Region.binds];rfl) (by decide) (by simp[Region.binds];rfl) (by simp;rfl) rfl ?_ ?_;(focus (refine YG (by simp;exact⟨rfl,rfl⟩) (by simp) rfl rfl (by decide) (by decide) (by first|(simp;rfl)|rfl) (by simp[AV.sW,AV.iG]) (by simp[AV.Ab,AV.cells]) (by simp) (by simp[AV.cells]))))|(refine xh rfl ?_ (by simp[Region.binds];rfl) (by decide) (by simp[Region.binds];rfl) (by simp;rfl) ?_ rfl (by first|rfl|(simp;done)) ?_;(focus (first|rfl|(simp;done)));(focus (first|rfl|(simp[mQ];done))))|(refine nx ?_;refine so ?_)|fail
 have W:=aA e1 hl1;refine we ?_;refine aI (ι:={k:Nat×Nat // k.1<=L.length/\1<=k.2}) (λt o i=>⟨bH t [(12,.int .i64 i.1.1),(2,.obj 4 i.1.2),(3,.obj 1 1),(8,.undef),(9,.undef),(18,.undef),(20,.undef),(23,.undef)],(o.set 1 ⟨true,false,2,1,(iY p n (L.take i.1.1) (t1,s2)).2.map bC⟩).set 4 ⟨true,false,2,i.1.2,(iY p n (L.take i.1.1) (t1,s2)).1.map bC⟩⟩)
  (λi=>L.length-i.1.1) ⟨(0,3),by simp,by simp⟩ (aG (by simp[iY]) (by simp)) ?_
 rintro⟨⟨k,v⟩,hk,hv⟩ K1 hK1;simp only[bH,cH,cJ]at hk hv hK1⊢;have hk1:=rE (k:=k);by_cases hlt:k<L.length
 .have hg2:=aE hlt;obtain⟨f1,f2⟩:=IQ hb.im n (L.take k) (t1,s2) (λb h=>hLU b (pC h)) hst;have f3:=YB (p:=p) f2;have hne:L≠[]:=by intro h;rw[h]at hlt;simp at hlt
  have hun':=hun hne;have c3:=ih L[k] (iY p n (L.take k) (t1,s2)).1 (iY p n (L.take k) (t1,s2)).2 (by simp only at f3;omega) f1 (hLU _ (hI hlt));have hnext:iY p n (L.take (k+1)) (t1,s2)=iL p n L[k] (iY p n (L.take k) (t1,s2)).1 (iY p n (L.take k) (t1,s2)).2:=by rw[eL hlt,Qm]
  generalize iY p n (L.take k) (t1,s2)=q at*;obtain⟨q1,q2⟩:=q;simp only at c3 hnext⊢;generalize iL p n L[k] q1 q2=w at*;obtain⟨w1,w2⟩:=w;simp only[bC,aQ]at c3;have W:=aA hk1 (aA hg2 hlt);refine we ?_;rw[wL];refine go_drawn (by simp;rfl) (by simp;rfl) (by decide+kernel) (by decide) (by first|rfl|(simp[XN];done)) (by simp) (by simp) ?_;iterate 7 (
   refine go_draw rfl (by first|rfl|(simp;done)) (by simp[Region.binds];rfl) (by decide) (by simp[Region.binds];rfl) (by simp;rfl) ?_ ?_
   .first|rfl|(simp[mQ];done)
   refine nx ?_;refine so ?_;refine kN ?_;refine go_next (by simp;done) (by simp;rfl) (by simp;rfl) ?_)
  refine Dc (s1:= ?s1) (by decide+kernel) (by simp[sH,reach,lZ,Region.binds,CD];rfl) ?ha ?hk;case ha=>
   repeat' (first|refine st ?_|(refine nx ?_;first|refine so ?_|refine sg (hc:=c3) (h:= ?_))|refine sx ?_ ?_|refine sy ?_ ?_|fail)
   all_goals rfl
  case hk=>
   have W:=hk1;refine we ?_;refine hK1 _ ⟨(k+1,1),by simp only;omega,by simp⟩ ?_ (by simp only;omega);simp only[hnext];refine YH rfl rfl (by simp) (by simp) (by simp) (by simp) (by simp) (by simp[fI,gH,closed])
 .have htk:L.take k=L:=eJ (by omega);rw[htk];have f1:=(IQ hb.im n L (t1,s2) hLU hst).1.len;generalize iY p n L (t1,s2)=q at*;obtain⟨q1,q2⟩:=q;simp only at f1;have hl2:(q2.map bC).length=q2.length:=by simp
  obtain⟨t2,ht2⟩:∃l:List aK,l=q2++[a]:=⟨_,rfl⟩;have e2:q2.map bC++[[.str a.host,.str a.path]]=t2.map bC:=by simp[ht2]
  simp only;rw[<-ht2];clear ht2;have W:=aA e2 hk1;refine we ?_;refine go_drawn3 [⟨7,2,[(6,⟨true,false,2,3,t2.map bC⟩),(3,⟨true,false,2,2,q2.map bC⟩),(1,⟨true,false,2,1,[]⟩)]⟩,⟨8,2,[(5,⟨true,false,2,1,[[.str a.host,.str a.path]]⟩)]⟩] (by simp;rfl) (by decide+kernel) (by decide+kernel) (by simp[lZ,pre,Region.binds]) (by simp) ?_
  repeat' first|refine aC9 (by simp;rfl) (by simp;rfl) ?_|(refine xg ?_ (by simp;rfl) ?_;(focus (simp;done)))|(refine Bn (j:=6) (v:= .obj 7 3) ⟨7,2,[(6,⟨true,false,2,3,t2.map bC⟩),(3,⟨true,false,2,2,q2.map bC⟩),(1,⟨true,false,2,1,[]⟩)]⟩ [] [(3,⟨true,false,2,2,q2.map bC⟩),(1,⟨true,false,2,1,[]⟩)] rfl (by simp) rfl (by simp[Region.binds];rfl) (by decide) (by simp[Region.binds];rfl) (by simp;rfl) rfl ?_ ?_;(focus (refine Dm (by first|(simp;rfl)|(simp;done)|rfl) rfl (by first|(simp;rfl)|(simp;done)|rfl) (by first|(simp;rfl)|(simp;done)|rfl) (by first|(simp;rfl)|(simp;done)|rfl) (by first|(simp;done)|decide) (by first|rfl|exact yC (λ_=>rfl) _|(simp[qQ,AV.iG];done)) (by first|(simp;rfl)|(simp;done)|rfl|exact W.1|exact W.2.1|exact W|(simp[W];done)) (by simp;exact⟨rfl,rfl⟩) (by simp) (by simp) (by simp;omega) (by simp;omega))))|(refine Bn (j:=3) (v:= .obj 7 2) ⟨7,2,[(6,⟨true,false,2,3,t2.map bC⟩),(3,⟨true,false,2,2,q2.map bC⟩),(1,⟨true,false,2,1,[]⟩)]⟩ [(6,⟨true,false,2,3,t2.map bC⟩)] [(1,⟨true,false,2,1,[]⟩)] rfl (by simp) rfl (by simp[Region.binds];rfl) (by decide) (by simp[Region.binds];rfl) (by simp;rfl) rfl ?_ ?_;(focus (refine Dm (by first|(simp;rfl)|(simp;done)|rfl) rfl (by first|(simp;rfl)|(simp;done)|rfl) (by first|(simp;rfl)|(simp;done)|rfl) (by first|(simp;rfl)|(simp;done)|rfl) (by first|(simp;done)|decide) (by first|rfl|exact yC (λ_=>rfl) _|(simp[qQ,AV.iG];done)) (by first|(simp;rfl)|(simp;done)|rfl|exact W.1|exact W.2.1|exact W|(simp[W];done)) (by simp;exact⟨rfl,rfl⟩) (by simp) (by simp) (by simp;omega) (by simp;omega))))|(refine Bn (j:=1) (v:= .obj 7 1) ⟨7,2,[(6,⟨true,false,2,3,t2.map bC⟩),(3,⟨true,false,2,2,q2.map bC⟩),(1,⟨true,false,2,1,[]⟩)]⟩ [(6,⟨true,false,2,3,t2.map bC⟩),(3,⟨true,false,2,2,q2.map bC⟩)] [] rfl (by simp) rfl (by simp[Region.binds];rfl) (by decide) (by simp[Region.binds];rfl) (by simp;rfl) rfl ?_ ?_;(focus (refine xc (by simp;exact⟨rfl,rfl⟩) (by simp) rfl rfl (by decide) (by decide) (by first|(simp;rfl)|rfl) (by simp[AV.iG]) (by simp[AV.Ab,AV.cells]) (by simp) (by simp[AV.cells]))))|(refine Bn (j:=5) (v:= .obj 8 1) ⟨8,2,[(5,⟨true,false,2,1,[[.str a.host,.str a.path]]⟩)]⟩ [] [] rfl (by simp) rfl (by simp[Region.binds];rfl) (by decide) (by simp[Region.binds];rfl) (by simp;rfl) rfl ?_ ?_;(focus (refine YG (by simp;exact⟨rfl,rfl⟩) (by simp) rfl rfl (by decide) (by decide) (by first|(simp;rfl)|rfl) (by simp[AV.sW,AV.iG]) (by simp[AV.Ab,AV.cells]) (by simp) (by simp[AV.cells]))))|(refine xh rfl ?_ (by simp[Region.binds];rfl) (by decide) (by simp[Region.binds];rfl) (by simp;rfl) ?_ rfl (by first|rfl|(simp;done)) ?_;(focus (first|rfl|(simp;done)));(focus (first|rfl|(simp[mQ];done))))|(refine nx ?_;refine so ?_)|fail
  have W:=aA e2 hk1;refine we ?_;all_goals (try exact uJ (by simp[lY,gQ,gL,rowOf,results231];done))
theorem Km[aB prog][dY prog](p:aC)(U:List aK)(hb:Bnd p U):∀(n:Nat) (a:aK) (s1 s2:List aK),vL p s1<n->Seen U (s1,s2)->a∈U->ax prog 231 [.view (.agg (aQ .view p)),.view (.agg (bC a)),.rQ (.sl .own 2 (s1.map bC)),.rQ (.sl .own 2 (s2.map bC))] (.iP [.sl .own 2 ((iL p n a s1 s2).1.map bC),.sl .own 2 ((iL p n a s1 s2).2.map bC)])
 |0,_,_,_,h,_,_=>absurd h (by omega)
 |n+1,a,s1,s2,h,hs,ha=>by
  have hl:=hs.len;have hU:=hb.len;simp only at hl;cases hn:s1.any (kG a)
  .exact Sq p U hb n a ha s1 s2 hn hs h (λb q1 q2 h1 h2 h3=>Km p U hb n b q1 q2 h1 h2 h3)
  .have:iL p (n+1) a s1 s2=(s1,s2):=by simp[iL,hn]
   rw[this];exact Qo p a s1 s2 hn (by omega)
theorem AB[aB prog][dY prog](p:aC)(U:List aK)(hb:Bnd p U)(a:aK)(ha:a∈U):Ok prog 195 [.agg (aQ .view p),.agg (bC a)] (.sl .own 2 ((gJ p a).map bC)):=by
 have c1:=Km p U hb (vL p []+1) a [] [] (by omega) ⟨by simp,by simp,by simp,by simp⟩ ha;unfold gJ;generalize iL p (vL p []+1) a [] []=w at*;obtain⟨w1,w2⟩:=w;simp only[bC,aQ,Ds]at c1;refine dL aO func195 ntmps195 ?_;have W:=trivial;repeat' first|refine wf ?_|(refine nx ?_;refine sg (hc:=c1) (h:=?_))|(refine sq ?_ ?_<;>intro hc<;>try exact hc.elim)|fail
 exact aR results195
theorem YI(c:UInt8):∀s:aU,bB dI (dP c s)<=s.length
 |[]=>by simp[dP,bB,dI]
 |x::s=>by
  have ih:=YI c s;simp only[dP];split
  .simp only[bB,dI,eR,dT]at ih⊢;omega
  .split
   .rename_i h0;exact absurd h0 (uD c s)
   .rename_i p q h0;rw[h0]at ih;simp only[bB,dI,dT]at ih⊢;omega
theorem aH9(s b:aU):aP (cB s b).1<=s.length+b.length:=by have h:=xK 47 s;unfold cB addrOf;split<;>split<;>simp[aP,Aj]<;>omega
theorem xy(base:aU):∀(l:List aU) (acc:List aK) (q:List aU),nO base l=some (acc,q)->7*acc.length<=bB dI l/\bB aP acc<=bB dI l+acc.length*base.length/\∀x∈acc,aP x<=bB dI l+base.length
 |[],acc,q,h=>by simp only[nO,eA,oR]at h;obtain⟨rfl,rfl⟩:=h;simp[bB]
 |p::ps,acc,q,h=>by
  simp only[nO]at h;split at h
  .rename_i hp;split at h
   .obtain ⟨⟨a1,q1⟩,h1,h2⟩:=Option.map_eq_some_iff.1 h;simp only[oR]at h2;obtain⟨rfl,rfl⟩:=h2;obtain⟨i1,i2,i3⟩:=xy base ps a1 q1 h1;have h7:=ja hp;have ha:=aH9 (p.drop 7) base;simp only[show Eb.length=7 from rfl]at h7;simp only[AI]at ha;simp only[bB,dI,dT,Nat.succ_mul]at i1 i2 i3⊢;refine⟨by omega,by omega,?_⟩;intro x hx;rcases gE.1 hx with rfl|hx
    .omega
    .have:=i3 x hx;omega
   .cases h
  .simp only[eA,oR]at h;obtain⟨rfl,rfl⟩:=h;simp[bB]
theorem wR(s b:aU):7*(bL s b).1.length<=s.length/\bB aP (bL s b).1<=s.length+(bL s b).1.length*b.length/\∀x∈(bL s b).1,aP x<=s.length+b.length:=by
 have hs:=YI 59 s;unfold bL;split
 .simp [bB]
 .rename_i l q h;obtain⟨i1,i2,i3⟩:=xy b _ _ _ h;split
  .exact ⟨by simp only;omega,by simp only;omega,λx hx=>by have:=i3 x hx;omega⟩
  .simp [bB]
theorem xz(N:Nat):∀l:List fO,(∀m∈l,bI m<=N)->7*(l.flatMap λm=>(bL m.body m.to.host).1).length<=bB bI l/\bB aP (l.flatMap λm=>(bL m.body m.to.host).1)<=bB bI l+(l.flatMap λm=>(bL m.body m.to.host).1).length*N
 |[],_=>by simp[bB]
 |m::l,h=>by obtain⟨i1,i2⟩:=xz N l (λx hx=>h x (by simp[hx]));obtain⟨j1,j2,_⟩:=wR m.body m.to.host;have hm:=h m (by simp);simp only[bI,aP]at hm;have h3:=Nat.mul_le_mul_left (bL m.body m.to.host).1.length (show m.to.host.length<=N by omega);simp only[DP,eM,bB,iX,rB,bI,aP]at i1 i2⊢;exact⟨by omega,by omega⟩
theorem Qp(p:aC)(a:aK)(h:bV bI p.aN+aP a<=16777216):Bnd p (a::sO p)/\(a::sO p).length<=2396746/\bB aP (a::sO p)<=50000000000000:=by
 have hm:∀m∈p.aN,bI m<=16777216:=λm hm=>by have:=dS bI hm;simp only[aM,bV]at h;omega
 obtain⟨f1,f2⟩:=xz 16777216 p.aN hm;have hs:bB bI p.aN<=16777216:=by simp only[aM,bV]at h;omega
 have hl:(sO p).length<=2396745:=by unfold sO;omega
 have h4:=pT 16777216 hl;have h5:bB aP (sO p)<=16777216+(sO p).length*16777216:=by unfold sO;omega
 refine⟨⟨by omega,λx hx=>tG _ hx,by simp only[dT];omega,?_,?_⟩,by simp only[dT];omega,by simp only[bB];omega⟩
 .intro x hx;rcases gE.1 hx with rfl|hx
  .simp only[aP]at h;omega
  .obtain ⟨m,h1,h2⟩:=Bx.1 hx;have h6:=(wR m.body m.to.host).2.2 x h2;have h7:=hm m h1;simp only[bI,aP]at h6 h7;omega
 .intro m h1;have h6:=(wR m.body m.to.host).1;have h7:=hm m h1;simp only[bI]at h7;omega
theorem YJ(p:aC)(a:aK)(h:bV bI p.aN+aP a<=16777216):(gJ p a).length<=2396746/\bB aP (gJ p a)<=50000000000000/\∀x∈gJ p a,x∈a::sO p:=by obtain⟨hb,h1,h2⟩:=Qp p a h;have hs:=(Dl hb.im (vL p []+1) a ([],[]) (by simp) ⟨by simp,by simp,by simp,by simp⟩).1;obtain⟨h3,h4⟩:=Cu aP _ (a::sO p) hs.ond (λx hx=>hs.sub x (hs.ll x hx));exact⟨kO h4 h1,kO h3 h2,λx hx=>hs.sub x (hs.ll x hx)⟩
def vX:List (Nat×Nat):=[(3,24),(4,25),(5,26),(6,27),(7,28),(8,29),(9,30),(10,31),(11,32),(12,33),(13,34)]
theorem N9{t t':List AV}{o o':List aD}{l1 l2 l3 l4 l5 l6 l7 l8 l9 l10 l11:Bool}{u n1 v1 n2 v2 n3 v3 n4 v4 n5 v5 n6 v6 n7 v7 n8 v8 n9 v9 n10 v10 n11 v11:Nat}{e1 e2 e3 e4 e5 e6 e7 e8 e9 e10 e11:List (List AV)}{o0 o1 o2 m0 m1 m2 m3 m4 m5 m6 m7 m8:aD}{q:aC}(ho:o=[o0,o1,o2,⟨l1,false,n1,v1,e1⟩,⟨l2,false,n2,v2,e2⟩,⟨l3,false,n3,v3,e3⟩,⟨l4,false,n4,v4,e4⟩,⟨l5,false,n5,v5,e5⟩,⟨l6,false,n6,v6,e6⟩,⟨l7,false,n7,v7,e7⟩,⟨l8,false,n8,v8,e8⟩,⟨l9,false,n9,v9,e9⟩,⟨l10,false,n10,v10,e10⟩,⟨l11,false,n11,v11,e11⟩,⟨true,true,22,u,[ZQ 24 q]⟩,m0,m1,m2,m3,m4,m5,m6,m7,m8]++ZP q)
  (ho':o'=[o0,o1,o2]++ZP q++[⟨true,true,22,u,[ZQ 3 q]⟩,m0,m1,m2,m3,m4,m5,m6,m7,m8]) (ht:∀z∈vX,wk (sQ z.1 z.2 t') t') (hf:∀z∈vX,o0.qO z.1 z.2=o0/\o1.qO z.1 z.2=o1/\o2.qO z.1 z.2=o2/\m0.qO z.1 z.2=m0/\m1.qO z.1 z.2=m1/\m2.qO z.1 z.2=m2/\m3.qO z.1 z.2=m3/\m4.qO z.1 z.2=m4/\m5.qO z.1 z.2=m5/\m6.qO z.1 z.2=m6/\m7.qO z.1 z.2=m7/\m8.qO z.1 z.2=m8) (hw:wk t t') (hc:gH 24 t'=true) (hc0:fI 24 [o0,o1,o2,m0,m1,m2,m3,m4,m5,m6,m7,m8]=true):kY ⟨t,o⟩ ⟨t',o'⟩:=by
 subst ho;subst ho';have e:=λi j (h:(i,j)∈vX)=>hf (i,j) h
 have h:=λi j (h:(i,j)∈vX)=>ht (i,j) h
 simp only[ZP,ZQ,cW,cY];refine(Ag hw).trans ?_;refine(bK 3 24 rfl rfl ⟨rfl,rfl⟩ (by simp[(e 3 24 (by decide))];rfl) (h 3 24 (by decide))).trans ?_;refine(bK 4 25 rfl rfl ⟨rfl,rfl⟩ (by simp[(e 4 25 (by decide))];rfl) (h 4 25 (by decide))).trans ?_;refine(bK 5 26 rfl rfl ⟨rfl,rfl⟩ (by simp[(e 5 26 (by decide))];rfl) (h 5 26 (by decide))).trans ?_;refine(bK 6 27 rfl rfl ⟨rfl,rfl⟩ (by simp[(e 6 27 (by decide))];rfl) (h 6 27 (by decide))).trans ?_;refine(bK 7 28 rfl rfl ⟨rfl,rfl⟩ (by simp[(e 7 28 (by decide))];rfl) (h 7 28 (by decide))).trans ?_;refine(bK 8 29 rfl rfl ⟨rfl,rfl⟩ (by simp[(e 8 29 (by decide))];rfl) (h 8 29 (by decide))).trans ?_;refine(bK 9 30 rfl rfl ⟨rfl,rfl⟩ (by simp[(e 9 30 (by decide))];rfl) (h 9 30 (by decide))).trans ?_;refine(bK 10 31 rfl rfl ⟨rfl,rfl⟩ (by simp[(e 10 31 (by decide))];rfl) (h 10 31 (by decide))).trans ?_;refine(bK 11 32 rfl rfl ⟨rfl,rfl⟩ (by simp[(e 11 32 (by decide))];rfl) (h 11 32 (by decide))).trans ?_;refine(bK 12 33 rfl rfl ⟨rfl,rfl⟩ (by simp[(e 12 33 (by decide))];rfl) (h 12 33 (by decide))).trans ?_;refine(bK 13 34 rfl rfl ⟨rfl,rfl⟩ (by simp[(e 13 34 (by decide))];rfl) (h 13 34 (by decide))).trans ?_;refine aL 24 (by simp) (mR _) hc ?_;simpa [fI,gH,closed,and_assoc]using hc0
theorem aD6{t t':List AV}{o o' o1 o2:List aD}{a b c d e:aD}(i1 j1 i2 j2 x:Nat)(h5:o[i1]? =some a)(h14:o[j1]? =some b)(hb:a.box=false/\b.box=false)(e1:((o.set i1 b).set j1 a).map (aD.qO i1 j1)=o1)(h6:o1[i2]? =some c)(h15:o1[j2]? =some d)(hd:c.box=false/\d.box=false)(e2:((o1.set i2 d).set j2 c).map (aD.qO i2 j2)=o2)(h12:o2[x]? =some e)(e3:o2.set x ⟨false,false,0,e.ver,[]⟩=o')(w1:wk (sQ i1 j1 t) t')(w2:wk (sQ i2 j2 t') t'):kY ⟨t,o⟩ ⟨t',o'⟩:=
 (bK i1 j1 h5 h14 hb e1 w1).trans ((bK i2 j2 h6 h15 hd e2 w2).trans (K7 x h12 e3 (mR _)))
end Go.Proofs.YtnkpkklemmgapaaGreatDoor
