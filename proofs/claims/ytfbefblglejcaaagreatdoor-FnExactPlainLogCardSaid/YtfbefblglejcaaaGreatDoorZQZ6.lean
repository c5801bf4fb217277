/- Proved here: steps towards the statement of this claim. No condition. -/
import Derived.Test.YtfbefblglejcaaaGreatDoorZQRC8p
set_option linter.all false
set_option maxRecDepth 4000
set_option maxHeartbeats 4000000
namespace Go.Proofs.YtfbefblglejcaaaGreatDoor
open Go.Aw Proofs.Tryz List IntKind
def lD(p:aG)(a:aK):Bool:=
 match p.aN.find? (kM a)with
 |some m=>if m.done=true/\m.code=1 then(bH m.body a.host).2.2 else false
 |none=>false
theorem GX[aC prog][bP prog](p:aG)(U:List aK)(hb:Bnd p U)(a:aK)(ha:a∈U):Ok prog 126 [.agg (aH .view p),.agg (aL a)] (.gT [.sl .own 2 ((iK p a).map aL),.bool (lD p a)]):=by
 have hps:=hb.hs;simp only[aI,bQ]at hps;have c2:=Ai p a (by omega);unfold iK lD;rcases lJ (kM a) p.aN with⟨hi,hf⟩|⟨k,hk,hi,hf⟩
 .rw [hf];rw[hi]at c2;simp only[aL,aH]at c2;refine bM aF func126 ntmps126 ?_;refine aY ?_;exact aD results126
 .rw [hf];rw[hi]at c2;have hm:=fS hk;have hz:=bS bK hm;have hha:=hb.host _ ha;have hg:=aE hk;simp only[bK,aR]at hz;have cp:=xH p.aN[k].body a.host (by omega) hha;simp only[aL,aH]at c2;simp only;generalize bH p.aN[k].body a.host=w at*;obtain⟨w1,w2,w3⟩:=w;simp only at cp;have hk0:¬((k:Nat):Int)<0:=by omega
  cases hd1:p.aN[k].done
  .refine bM aF func126 ntmps126 ?_;have W:=aA hk0 (aA hg (aA hk hd1));refine we ?_;exact aD results126
  .by_cases hd2:p.aN[k].code=1
   .simp only[hd2,FF,gC];refine bM aF func126 ntmps126 ?_;have W:=aA hk0 (aA hg (aA hk (aA hd1 hd2)));refine we ?_;exact aD results126
   .simp only[hd2,and_false,gS];refine bM aF func126 ntmps126 ?_;have W:=aA hk0 (aA hg (aA hk (aA hd1 hd2)));refine we ?_;exact aD results126
theorem TI[aC prog][bP prog](p:aG)(a:aK)(s1 s2:List aK)(hn:s1.any (iO a)=true)(h1:s1.length<=1073741824):
  MP prog 229 [.view (.agg (aH .view p)),.view (.agg (aL a)),.oM (.sl .own 2 (s1.map aL)),.oM (.sl .own 2 (s2.map aL))] (.gT [.sl .own 2 (s1.map aL),.sl .own 2 (s2.map aL)]):=by
 have c1:=BK s1 a (by omega);simp only[aL]at c1;rw[hn]at c1;refine sG aF func229 ntmps229 ?_;refine aY ?_;all_goals (try exact kH (by simp[gF,dI,dH,rowOf,results229];done))
theorem jr{t t':List AV}{o o':List aM}{v:Nat}{l1 l4 m1 m2:List (List AV)}{o0 o2 o3 o5 o6:aM}
  (ho:o=[o0,⟨false,false,2,1,l1⟩,o2,o3,⟨false,false,2,v,l4⟩,o5,o6,⟨true,false,2,1,m1⟩,⟨true,false,2,1,m2⟩])
  (ho':o'=[o0,⟨true,false,2,1,m2⟩,o2,o3,⟨true,false,2,1,m1⟩,o5,o6])
  (hf:(o0.lL 4 7=o0/\o2.lL 4 7=o2/\o3.lL 4 7=o3/\o5.lL 4 7=o5/\o6.lL 4 7=o6)/\(o0.lL 1 8=o0/\o2.lL 1 8=o2/\o3.lL 1 8=o3/\o5.lL 1 8=o5/\o6.lL 1 8=o6))
  (hw:wk t (rD 4 7 (rD 1 8 t'))) (h1:wk (rD 4 7 (rD 4 7 (rD 1 8 t'))) (rD 1 8 t')) (h3:wk (rD 1 8 (rD 1 8 t')) t') (hc:eT 7 t'=true) (hc0:dC 7 [o0,o2,o3,o5,o6]=true):lY ⟨t,o⟩ ⟨t',o'⟩:=by
 subst ho;subst ho';obtain⟨⟨a0,a2,a3,a5,a6⟩,b0,b2,b3,b5,b6⟩:=hf;refine(wF hw).trans ?_;refine(aS 4 7 rfl rfl ⟨rfl,rfl⟩ (by simp[a0,a2,a3,a5,a6];rfl) h1).trans ?_;refine(aS 1 8 rfl rfl ⟨rfl,rfl⟩ (by simp[b0,b2,b3,b5,b6];rfl) h3).trans ?_;refine aV 7 (by simp) (lC _) hc ?_;simpa [dC,eT,closed]using hc0
theorem Vl[aC prog][bP prog](p:aG)(U:List aK)(hb:Bnd p U)(n:Nat)(a:aK)(ha:a∈U)(s1 s2:List aK)(hn:s1.any (iO a)=false)(hs:Seen U (s1,s2))(hf:rU p s1<n+1)
  (ih:∀(b:aK) (q1 q2:List aK),rU p q1<n->Seen U (q1,q2)->b∈U->MP prog 229 [.view (.agg (aH .view p)),.view (.agg (aL b)),.oM (.sl .own 2 (q1.map aL)),.oM (.sl .own 2 (q2.map aL))] (.gT [.sl .own 2 ((gJ p n b q1 q2).1.map aL),.sl .own 2 ((gJ p n b q1 q2).2.map aL)])):
  MP prog 229 [.view (.agg (aH .view p)),.view (.agg (aL a)),.oM (.sl .own 2 (s1.map aL)),.oM (.sl .own 2 (s2.map aL))] (.gT [.sl .own 2 ((gJ p (n+1) a s1 s2).1.map aL),.sl .own 2 ((gJ p (n+1) a s1 s2).2.map aL)]):=by
 have hps:=hb.hs;have hl:=hs.len;have hU:=hb.len;simp only[aI,bQ]at hps;simp only at hl;have c1:=BK s1 a (by omega);have c2:=GX p U hb a ha;rw[hn]at c1;have hna:a∉s1:=λh=>by rw[yS.2 h]at hn;cases hn
 obtain⟨t1,ht1⟩:∃l:List aK,l=s1++[a]:=⟨_,rfl⟩;have e1:s1.map aL++[[.str a.host,.str a.path]]=t1.map aL:=by simp[ht1]
 have hl1:(s1.map aL).length=s1.length:=by simp
 have hv:gJ p (n+1) a s1 s2=((dW p n (iK p a) (s1++[a],s2)).1,(dW p n (iK p a) (s1++[a],s2)).2++[a]):=by simp only[gJ,hn,dW];rfl
 rw[hv];clear hv;rw[<-ht1];have hst:Seen U (t1,s2):=by
  subst ht1;exact⟨gO.2 ⟨hs.nd,by simp,λx hx y hy e=>hna (by simp at hy;subst hy;subst e;exact hx)⟩,λx hx=>by
   rcases fL.1 hx with h|h
   .exact hs.sub x h
   .simp at h;subst h;exact ha,hs.ond,λx hx=>nB _ (hs.jk x hx)⟩
 have hun:iK p a≠[]->rU p t1<n:=by intro h;have:=WT (p:=p) (s:=s1) (a:=a) (by rw[hn];simp) (A8 h);rw[<-ht1]at this;omega
 have hLU:∀b∈iK p a,b∈U:=λb h=>hb.im b (Kl p a b h)
 have hLl:(iK p a).length<=1073741824:=by
  unfold iK;split
  .rename_i m hm;split
   .have h1:=hb.ps m (pA hm);have h2:=DP hm;simp only[kM,fR]at h2
    rwa[h2]at h1
   .simp
  .simp
 clear ht1;generalize lD p a=ok at*;generalize iK p a=L at*;simp only[aL,aH]at c1 c2;refine aRp aF [3,8,9] func229 ntmps229 ?_;have W:=aA e1 hl1;refine we ?_;refine go_drawn3 [⟨4,2,[(5,⟨true,false,2,3,t1.map aL⟩),(2,⟨true,false,2,2,s1.map aL⟩),(0,⟨true,false,2,1,[]⟩)]⟩,⟨5,2,[(4,⟨true,false,2,1,[[.str a.host,.str a.path]]⟩)]⟩] (by simp;rfl) (by decide+kernel) (by decide+kernel) (by simp[nC,pre,Region.binds]) (by simp) ?_
 repeat' first|refine XU (by simp;rfl) (by simp;rfl) ?_|(refine QG ?_ (by simp;rfl) ?_;(focus (simp;done)))|(refine oD (j:=5) (v:= .obj 4 3) ⟨4,2,[(5,⟨true,false,2,3,t1.map aL⟩),(2,⟨true,false,2,2,s1.map aL⟩),(0,⟨true,false,2,1,[]⟩)]⟩ [] [(2,⟨true,false,2,2,s1.map aL⟩),(0,⟨true,false,2,1,[]⟩)] rfl (by simp) rfl (by simp[Region.binds];rfl) (by decide) (by simp[Region.binds];rfl) (by simp;rfl) rfl ?_ ?_;(focus (refine Ff (by first|(simp;rfl)|(simp;done)|rfl) rfl (by first|(simp;rfl)|(simp;done)|rfl) (by first|(simp;rfl)|(simp;done)|rfl) (by first|(simp;rfl)|(simp;done)|rfl) (by first|(simp;done)|decide) (by first|rfl|exact zY (λ_=>rfl) _|(simp[sZ,AV.iC];done)) (by first|(simp;rfl)|(simp;done)|rfl|exact W.1|exact W.2.1|exact W|(simp[W];done)) (by simp;exact⟨rfl,rfl⟩) (by simp) (by simp) (by simp;omega) (by simp;omega))))|(refine oD (j:=2) (v:= .obj 4 2) ⟨4,2,[(5,⟨true,false,2,3,t1.map aL⟩),(2,⟨true,false,2,2,s1.map aL⟩),(0,⟨true,false,2,1,[]⟩)]⟩ [(5,⟨true,false,2,3,t1.map aL⟩)] [(0,⟨true,false,2,1,[]⟩)] rfl (by simp) rfl (by simp[Region.binds];rfl) (by decide) (by simp[Region.binds];rfl) (by simp;rfl) rfl ?_ ?_;(focus (refine Ff (by first|(simp;rfl)|(simp;done)|rfl) rfl (by first|(simp;rfl)|(simp;done)|rfl) (by first|(simp;rfl)|(simp;done)|rfl) (by first|(simp;rfl)|(simp;done)|rfl) (by first|(simp;done)|decide) (by first|rfl|exact zY (λ_=>rfl) _|(simp[sZ,AV.iC];done)) (by first|(simp;rfl)|(simp;done)|rfl|exact W.1|exact W.2.1|exact W|(simp[W];done)) (by simp;exact⟨rfl,rfl⟩) (by simp) (by simp) (by simp;omega) (by simp;omega))))|(refine oD (j:=0) (v:= .obj 4 1) ⟨4,2,[(5,⟨true,false,2,3,t1.map aL⟩),(2,⟨true,false,2,2,s1.map aL⟩),(0,⟨true,false,2,1,[]⟩)]⟩ [(5,⟨true,false,2,3,t1.map aL⟩),(2,⟨true,false,2,2,s1.map aL⟩)] [] rfl (by simp) rfl (by simp[Region.binds];rfl) (by decide) (by simp[Region.binds];rfl) (by simp;rfl) rfl ?_ ?_;(focus (refine CS (by simp;exact⟨rfl,rfl⟩) (by simp) rfl rfl (by decide) (by decide) (by first|(simp;rfl)|rfl) (by simp[AV.iC]) (by simp[AV.xX,AV.cells]) (by simp) (by simp[AV.cells]))))|(refine oD (j:=4) (v:= .obj 5 1) ⟨5,2,[(4,⟨true,false,2,1,[[.str a.host,.str a.path]]⟩)]⟩ [] [] rfl (by simp) rfl (by simp[Region.binds];rfl) (by decide) (by simp[Region.binds];rfl) (by simp;rfl) rfl ?_ ?_;(focus (refine jq (by simp;exact⟨rfl,rfl⟩) (by simp) rfl rfl (by decide) (by decide) (by first|(simp;rfl)|rfl) (by simp[AV.vB,AV.iC]) (by simp[AV.xX,AV.cells]) (by simp) (by simp[AV.cells]))))|(refine QH rfl ?_ (by simp[Region.binds];rfl) (by decide) (by simp[Region.binds];rfl) (by simp;rfl) ?_ rfl (by first|rfl|(simp;done)) ?_;(focus (first|rfl|(simp;done)));(focus (first|rfl|(simp[nU];done))))|(refine nx ?_;refine so ?_)|fail
 have W:=aA e1 hl1;refine we ?_;refine aO (ι:={k:Nat×Nat // k.1<=L.length/\1<=k.2}) (λt o i=>⟨bC t [(12,.int .i64 i.1.1),(2,.obj 4 i.1.2),(3,.obj 1 1),(8,.undef),(9,.undef),(18,.undef),(20,.undef),(23,.undef)],(o.set 1 ⟨true,false,2,1,(dW p n (L.take i.1.1) (t1,s2)).2.map aL⟩).set 4 ⟨true,false,2,i.1.2,(dW p n (L.take i.1.1) (t1,s2)).1.map aL⟩⟩)
  (λi=>L.length-i.1.1) ⟨(0,3),by simp,by simp⟩ (aJ (by simp[dW]) (by simp)) ?_
 rintro⟨⟨k,v⟩,hk,hv⟩ K1 hK1;simp only[bC,cW,cU]at hk hv hK1⊢;have hk1:=oQ (k:=k);by_cases hlt:k<L.length
 .have hg2:=aE hlt;obtain⟨f1,f2⟩:=Ci hb.im n (L.take k) (t1,s2) (λb h=>hLU b (sC h)) hst;have f3:=Pm (p:=p) f2;have hne:L≠[]:=by intro h;rw[h]at hlt;simp at hlt
  have hun':=hun hne;have c3:=ih L[k] (dW p n (L.take k) (t1,s2)).1 (dW p n (L.take k) (t1,s2)).2 (by simp only at f3;omega) f1 (hLU _ (fS hlt));have hnext:dW p n (L.take (k+1)) (t1,s2)=gJ p n L[k] (dW p n (L.take k) (t1,s2)).1 (dW p n (L.take k) (t1,s2)).2:=by rw[eI hlt,GV]
  generalize dW p n (L.take k) (t1,s2)=q at*;obtain⟨q1,q2⟩:=q;simp only at c3 hnext⊢;generalize gJ p n L[k] q1 q2=w at*;obtain⟨w1,w2⟩:=w;simp only[aL,aH]at c3;have W:=aA hk1 (aA hg2 hlt);refine we ?_;rw[yL];refine go_drawn (by simp;rfl) (by simp;rfl) (by decide+kernel) (by decide) (by first|rfl|(simp[ZY];done)) (by simp) (by simp) ?_;iterate 7 (
   refine go_draw rfl (by first|rfl|(simp;done)) (by simp[Region.binds];rfl) (by decide) (by simp[Region.binds];rfl) (by simp;rfl) ?_ ?_
   .first|rfl|(simp[nU];done)
   refine nx ?_;refine so ?_;refine kN ?_;refine go_next (by simp;done) (by simp;rfl) (by simp;rfl) ?_)
  refine EH (s1:= ?s1) (by decide+kernel) (by simp[uO,reach,nC,Region.binds,Fo];rfl) ?ha ?hk;case ha=>
   repeat' (first|refine st ?_|(refine nx ?_;first|refine so ?_|refine sg (hc:=c3) (h:= ?_))|refine sx ?_ ?_|refine sy ?_ ?_|fail)
   all_goals rfl
  case hk=>
   have W:=hk1;refine we ?_;refine hK1 _ ⟨(k+1,1),by simp only;omega,by simp⟩ ?_ (by simp only;omega);simp only[hnext];refine jr rfl rfl (by simp) (by simp) (by simp) (by simp) (by simp) (by simp[dC,eT,closed])
 .have htk:L.take k=L:=cY (by omega);rw[htk];have f1:=(Ci hb.im n L (t1,s2) hLU hst).1.len;generalize dW p n L (t1,s2)=q at*;obtain⟨q1,q2⟩:=q;simp only at f1;have hl2:(q2.map aL).length=q2.length:=by simp
  obtain⟨t2,ht2⟩:∃l:List aK,l=q2++[a]:=⟨_,rfl⟩;have e2:q2.map aL++[[.str a.host,.str a.path]]=t2.map aL:=by simp[ht2]
  simp only;rw[<-ht2];clear ht2;have W:=aA e2 hk1;refine we ?_;refine go_drawn3 [⟨7,2,[(6,⟨true,false,2,3,t2.map aL⟩),(3,⟨true,false,2,2,q2.map aL⟩),(1,⟨true,false,2,1,[]⟩)]⟩,⟨8,2,[(5,⟨true,false,2,1,[[.str a.host,.str a.path]]⟩)]⟩] (by simp;rfl) (by decide+kernel) (by decide+kernel) (by simp[nC,pre,Region.binds]) (by simp) ?_
  repeat' first|refine XU (by simp;rfl) (by simp;rfl) ?_|(refine QG ?_ (by simp;rfl) ?_;(focus (simp;done)))|(refine oD (j:=6) (v:= .obj 7 3) ⟨7,2,[(6,⟨true,false,2,3,t2.map aL⟩),(3,⟨true,false,2,2,q2.map aL⟩),(1,⟨true,false,2,1,[]⟩)]⟩ [] [(3,⟨true,false,2,2,q2.map aL⟩),(1,⟨true,false,2,1,[]⟩)] rfl (by simp) rfl (by simp[Region.binds];rfl) (by decide) (by simp[Region.binds];rfl) (by simp;rfl) rfl ?_ ?_;(focus (refine Ff (by first|(simp;rfl)|(simp;done)|rfl) rfl (by first|(simp;rfl)|(simp;done)|rfl) (by first|(simp;rfl)|(simp;done)|rfl) (by first|(simp;rfl)|(simp;done)|rfl) (by first|(simp;done)|decide) (by first|rfl|exact zY (λ_=>rfl) _|(simp[sZ,AV.iC];done)) (by first|(simp;rfl)|(simp;done)|rfl|exact W.1|exact W.2.1|exact W|(simp[W];done)) (by simp;exact⟨rfl,rfl⟩) (by simp) (by simp) (by simp;omega) (by simp;omega))))|(refine oD (j:=3) (v:= .obj 7 2) ⟨7,2,[(6,⟨true,false,2,3,t2.map aL⟩),(3,⟨true,false,2,2,q2.map aL⟩),(1,⟨true,false,2,1,[]⟩)]⟩ [(6,⟨true,false,2,3,t2.map aL⟩)] [(1,⟨true,false,2,1,[]⟩)] rfl (by simp) rfl (by simp[Region.binds];rfl) (by decide) (by simp[Region.binds];rfl) (by simp;rfl) rfl ?_ ?_;(focus (refine Ff (by first|(simp;rfl)|(simp;done)|rfl) rfl (by first|(simp;rfl)|(simp;done)|rfl) (by first|(simp;rfl)|(simp;done)|rfl) (by first|(simp;rfl)|(simp;done)|rfl) (by first|(simp;done)|decide) (by first|rfl|exact zY (λ_=>rfl) _|(simp[sZ,AV.iC];done)) (by first|(simp;rfl)|(simp;done)|rfl|exact W.1|exact W.2.1|exact W|(simp[W];done)) (by simp;exact⟨rfl,rfl⟩) (by simp) (by simp) (by simp;omega) (by simp;omega))))|(refine oD (j:=1) (v:= .obj 7 1) ⟨7,2,[(6,⟨true,false,2,3,t2.map aL⟩),(3,⟨true,false,2,2,q2.map aL⟩),(1,⟨true,false,2,1,[]⟩)]⟩ [(6,⟨true,false,2,3,t2.map aL⟩),(3,⟨true,false,2,2,q2.map aL⟩)] [] rfl (by simp) rfl (by simp[Region.binds];rfl) (by decide) (by simp[Region.binds];rfl) (by simp;rfl) rfl ?_ ?_;(focus (refine CS (by simp;exact⟨rfl,rfl⟩) (by simp) rfl rfl (by decide) (by decide) (by first|(simp;rfl)|rfl) (by simp[AV.iC]) (by simp[AV.xX,AV.cells]) (by simp) (by simp[AV.cells]))))|(refine oD (j:=5) (v:= .obj 8 1) ⟨8,2,[(5,⟨true,false,2,1,[[.str a.host,.str a.path]]⟩)]⟩ [] [] rfl (by simp) rfl (by simp[Region.binds];rfl) (by decide) (by simp[Region.binds];rfl) (by simp;rfl) rfl ?_ ?_;(focus (refine jq (by simp;exact⟨rfl,rfl⟩) (by simp) rfl rfl (by decide) (by decide) (by first|(simp;rfl)|rfl) (by simp[AV.vB,AV.iC]) (by simp[AV.xX,AV.cells]) (by simp) (by simp[AV.cells]))))|(refine QH rfl ?_ (by simp[Region.binds];rfl) (by decide) (by simp[Region.binds];rfl) (by simp;rfl) ?_ rfl (by first|rfl|(simp;done)) ?_;(focus (first|rfl|(simp;done)));(focus (first|rfl|(simp[nU];done))))|(refine nx ?_;refine so ?_)|fail
  have W:=aA e2 hk1;refine we ?_;all_goals (try exact kH (by simp[gF,dI,dH,rowOf,results229];done))
theorem Mi[aC prog][bP prog](p:aG)(U:List aK)(hb:Bnd p U):∀(n:Nat) (a:aK) (s1 s2:List aK),rU p s1<n->Seen U (s1,s2)->a∈U->MP prog 229 [.view (.agg (aH .view p)),.view (.agg (aL a)),.oM (.sl .own 2 (s1.map aL)),.oM (.sl .own 2 (s2.map aL))] (.gT [.sl .own 2 ((gJ p n a s1 s2).1.map aL),.sl .own 2 ((gJ p n a s1 s2).2.map aL)])
 |0,_,_,_,h,_,_=>absurd h (by omega)
 |n+1,a,s1,s2,h,hs,ha=>by
  have hl:=hs.len;have hU:=hb.len;simp only at hl;cases hn:s1.any (iO a)
  .exact Vl p U hb n a ha s1 s2 hn hs h (λb q1 q2 h1 h2 h3=>Mi p U hb n b q1 q2 h1 h2 h3)
  .have:gJ p (n+1) a s1 s2=(s1,s2):=by simp[gJ,hn]
   rw[this];exact TI p a s1 s2 hn (by omega)
theorem Ck[aC prog][bP prog](p:aG)(U:List aK)(hb:Bnd p U)(a:aK)(ha:a∈U):Ok prog 177 [.agg (aH .view p),.agg (aL a)] (.sl .own 2 ((dY p a).map aL)):=by
 have c1:=Mi p U hb (rU p []+1) a [] [] (by omega) ⟨by simp,by simp,by simp,by simp⟩ ha;unfold dY;generalize gJ p (rU p []+1) a [] []=w at*;obtain⟨w1,w2⟩:=w;simp only[aL,aH,DE]at c1;refine bM aF func177 ntmps177 ?_;have W:=trivial;repeat' first|refine wf ?_|(refine nx ?_;refine sg (hc:=c1) (h:=?_))|(refine sq ?_ ?_<;>intro hc<;>try exact hc.elim)|fail
 exact aD results177
def nQ(p:aG)(a:aK):Bool:=
 match p.aN.find? (kM a)with
 |some m=>m.done
 |none=>false
def xI(p:aG)(a:aK):Bool:=(dY p a).all (nQ p)
def uE(p:aG)(a:aK):Bool:= !(dY p a).all (lD p)
theorem Yo{α:Type}{f:α->Bool}{l:List α}(k:Nat)(hk:k<l.length)(h:f l[k]=false):l.all f=false:=by
 cases hb:l.all f with
 |false=>rfl
 |true=>rw[fN]at hb;have:=hb l[k] (fS hk);rw[h]at this;cases this
theorem QO{α:Type}{f:α->Bool}{l:List α}(h:∀x∈l,f x=true):l.all f=true:=fN.2 h
theorem Mk[aC prog][bP prog](p:aG)(a:aK)(hs:bQ bK p.aN+aR a<=16777216):Ok prog 152 [.agg (aH .view p),.agg (aL a)] (.bool (xI p a)):=by
 obtain⟨hB,_⟩:=GY p a hs;obtain⟨z1,_,_⟩:=Mj p a hs;have c0:=Cj p _ hB a (by simp);have cm:=λb=>yT p b (by simp only[aI,bQ]at hs;omega)
 unfold xI;generalize dY p a=L at*;simp only[aL,aH]at c0 cm;have hlen:(L.map aL).length=L.length:=by simp
 refine bM aF func152 ntmps152 ?_;refine aY ?_;refine aO (ι:={k:Nat // k<=L.length/\∀x∈L.take k,nQ p x=true}) (λt o i=>⟨bC t [(12,.int .i64 i.1),(13,.undef),(14,.undef),(15,.undef),(6,.undef),(7,.undef)],o.take 3⟩)
  (λi=>L.length-i.1) ⟨0,by simp,by simp⟩ aJ ?_
 rintro⟨k,hk,hpre⟩ K1 hK1;simp only[bC,cW,cU]at hK1⊢;have hk1:=oQ (k:=k);by_cases hlt:k<L.length
 .have hg:=aE hlt;have c1:=cm L[k];have hnext:nQ p L[k]=true->∀x∈L.take (k+1),nQ p x=true:=λh=>cB hlt hpre h
  have jX:nQ p L[k]=false->L.all (nQ p)=false:=λh=>Yo k hlt h
  rcases lJ (kM L[k]) p.aN with⟨hi,hf⟩|⟨j,hj,hi,hf⟩
  .have hd:nQ p L[k]=false:=by unfold nQ;rw[hf]
   rw[hi]at c1;have jO:=jX hd;have W:=aA hk1 (aA hg hlt);refine we ?_;all_goals try(refine aQ ?_;simp[aP,results152,jO])
  .have hd:nQ p L[k]=p.aN[j].done:=by unfold nQ;rw[hf]
   rw[hi]at c1;have hgm:=aE hj;have hj0:¬(j:Int)<0:=by omega
   cases qW:p.aN[j].done
   .have jO:=jX (hd.trans qW);have W:=aA hk1 (aA hg (aA hlt (aA hgm (aA hj (aA hj0 qW)))));refine we ?_;all_goals try(refine aQ ?_;simp[aP,results152,jO])
   .have hnx:=hnext (hd.trans qW);have W:=aA hk1 (aA hg (aA hlt (aA hgm (aA hj (aA hj0 qW)))));refine we ?_;exact hK1 _ ⟨k+1,by omega,hnx⟩ (aV 3) (by simp only;omega)
 .have jO:L.all (nQ p)=true:=QO (by have:=hpre;rwa[cY (by omega)]at this);have W:=aA hk1 hlt;refine we ?_;all_goals try(refine aQ ?_;simp[aP,results152,jO])
theorem Ml[aC prog][bP prog](p:aG)(a:aK)(hs:bQ bK p.aN+aR a<=16777216):Ok prog 117 [.agg (aH .view p),.agg (aL a)] (.bool (xI p a)):=by
 obtain⟨hB,_⟩:=GY p a hs;obtain⟨z1,_,_⟩:=Mj p a hs;have c0:=Ck p _ hB a (by simp);have cm:=λb=>Ai p b (by simp only[aI,bQ]at hs;omega)
 unfold xI;generalize dY p a=L at*;simp only[aL,aH]at c0 cm;have hlen:(L.map aL).length=L.length:=by simp
 refine bM aF func117 ntmps117 ?_;refine aY ?_;refine aO (ι:={k:Nat // k<=L.length/\∀x∈L.take k,nQ p x=true}) (λt o i=>⟨bC t [(6,.int .i64 i.1),(7,.undef)],o⟩)
  (λi=>L.length-i.1) ⟨0,by simp,by simp⟩ aJ ?_
 rintro⟨k,hk,hpre⟩ K1 hK1;simp only[bC,cW,cU]at hK1⊢;have hk1:=oQ (k:=k);by_cases hlt:k<L.length
 .have hg:=aE hlt;have c1:=cm L[k];have hnext:nQ p L[k]=true->∀x∈L.take (k+1),nQ p x=true:=λh=>cB hlt hpre h
  have jX:nQ p L[k]=false->L.all (nQ p)=false:=λh=>Yo k hlt h
  rcases lJ (kM L[k]) p.aN with⟨hi,hf⟩|⟨j,hj,hi,hf⟩
  .have hd:nQ p L[k]=false:=by unfold nQ;rw[hf]
   rw[hi]at c1;have jO:=jX hd;have W:=aA hk1 (aA hg hlt);refine we ?_;all_goals try(refine aQ ?_;simp[aP,results117,jO])
  .have hd:nQ p L[k]=p.aN[j].done:=by unfold nQ;rw[hf]
   rw[hi]at c1;have hgm:=aE hj;have hj0:¬(j:Int)<0:=by omega
   cases qW:p.aN[j].done
   .have jO:=jX (hd.trans qW);have W:=aA hk1 (aA hg (aA hlt (aA hgm (aA hj (aA hj0 qW)))));refine we ?_;all_goals try(refine aQ ?_;simp[aP,results117,jO])
   .have hnx:=hnext (hd.trans qW);have W:=aA hk1 (aA hg (aA hlt (aA hgm (aA hj (aA hj0 qW)))));refine we ?_;exact hK1 _ ⟨k+1,by omega,hnx⟩ (aV 3) (by simp only;omega)
 .have jO:L.all (nQ p)=true:=QO (by have:=hpre;rwa[cY (by omega)]at this);have W:=aA hk1 hlt;refine we ?_;all_goals try(refine aQ ?_;simp[aP,results117,jO])
theorem Mm[aC prog][bP prog](p:aG)(a:aK)(hs:bQ bK p.aN+aR a<=16777216):Ok prog 206 [.agg (aH .view p),.agg (aL a)] (.bool (uE p a)):=by
 obtain⟨hB,_⟩:=GY p a hs;obtain⟨z1,_,hU⟩:=Mj p a hs;have c0:=Cj p _ hB a (by simp);have cm:=λb=>yT p b (by simp only[aI,bQ]at hs;omega)
 unfold uE;generalize dY p a=L at*;simp only[aL,aH]at c0 cm;have hlen:(L.map aL).length=L.length:=by simp
 refine bM aF func206 ntmps206 ?_;refine aY ?_;refine aO (ι:={k:Nat // k<=L.length/\∀x∈L.take k,lD p x=true}) (λt o i=>⟨bC t [(15,.int .i64 i.1),(16,.undef),(17,.undef),(18,.undef),(6,.undef),(7,.undef),(8,.undef),(9,.undef)],o.take 3⟩)
  (λi=>L.length-i.1) ⟨0,by simp,by simp⟩ aJ ?_
 rintro⟨k,hk,hpre⟩ K1 hK1;simp only[bC,cW,cU]at hK1⊢;have hk1:=oQ (k:=k);by_cases hlt:k<L.length
 .have hg:=aE hlt;have c1:=cm L[k];have hnext:lD p L[k]=true->∀x∈L.take (k+1),lD p x=true:=λh=>cB hlt hpre h
  have jX:lD p L[k]=false->L.all (lD p)=false:=λh=>Yo k hlt h
  rcases lJ (kM L[k]) p.aN with⟨hi,hf⟩|⟨j,hj,hi,hf⟩
  .have hd:lD p L[k]=false:=by unfold lD;rw[hf]
   rw[hi]at c1;have jO:=jX hd;have W:=aA hk1 (aA hg hlt);refine we ?_;all_goals try(refine aQ ?_;simp[aP,results206,jO])
  .have hd:lD p L[k]=if p.aN[j].done=true/\p.aN[j].code=1 then(bH p.aN[j].body L[k].host).2.2 else false:=by unfold lD;rw[hf]
   rw[hi]at c1;have hgm:=aE hj;have hj0:¬(j:Int)<0:=by omega
   have hmz:=bS bK (fS hj);have hha:=hB.host _ (hU _ (fS hlt));simp only[aI,bQ]at hs;simp only[bK,aR]at hmz;have cp:=uD p.aN[j].body L[k].host (by omega) hha;cases qW:p.aN[j].done
   .have jO:=jX (by rw[hd,qW];simp);have W:=aA hk1 (aA hg (aA hlt (aA hgm (aA hj (aA hj0 qW)))));refine we ?_;all_goals try(refine aQ ?_;simp[aP,results206,jO])
   .by_cases jw:p.aN[j].code=1
    .rw [eK ⟨qW,jw⟩]at hd;generalize bH p.aN[j].body L[k].host=u at*;obtain⟨g,d,c⟩:=u;simp only at hd cp;cases c
     .have jO:=jX hd;have W:=aA hk1 (aA hg (aA hlt (aA hgm (aA hj (aA hj0 (aA qW jw))))));refine we ?_;all_goals try(refine aQ ?_;simp[aP,results206,jO])
     .have hnx:=hnext hd;have W:=aA hk1 (aA hg (aA hlt (aA hgm (aA hj (aA hj0 (aA qW jw))))));refine we ?_;exact hK1 _ ⟨k+1,by omega,hnx⟩ (aV 3) (by simp only;omega)
    .have jO:=jX (by rw[hd,cX (λh=>jw h.2)])
     have W:=aA hk1 (aA hg (aA hlt (aA hgm (aA hj (aA hj0 (aA qW jw))))));refine we ?_;all_goals try(refine aQ ?_;simp[aP,results206,jO])
 .have jO:L.all (lD p)=true:=QO (by have:=hpre;rwa[cY (by omega)]at this);have W:=aA hk1 hlt;refine we ?_;all_goals try(refine aQ ?_;simp[aP,results206,jO])
theorem Mo[aC prog][bP prog](p:aG)(a:aK)(hs:bQ bK p.aN+aR a<=16777216):Ok prog 178 [.agg (aH .view p),.agg (aL a)] (.bool (uE p a)):=by
 obtain⟨hB,_⟩:=GY p a hs;obtain⟨z1,_,hU⟩:=Mj p a hs;have c0:=Ck p _ hB a (by simp);have cm:=λb hb=>GX p _ hB b hb
 unfold uE;generalize dY p a=L at*;simp only[aL,aH]at c0 cm;have hlen:(L.map aL).length=L.length:=by simp
 refine bM aF func178 ntmps178 ?_;refine aY ?_;refine aO (ι:={k:Nat // k<=L.length/\∀x∈L.take k,lD p x=true}) (λt o i=>⟨bC t [(6,.int .i64 i.1),(7,.undef),(8,.undef)],o.take 3⟩)
  (λi=>L.length-i.1) ⟨0,by simp,by simp⟩ aJ ?_
 rintro⟨k,hk,hpre⟩ K1 hK1;simp only[bC,cW,cU]at hK1⊢;have hk1:=oQ (k:=k);by_cases hlt:k<L.length
 .have hg:=aE hlt;have c1:=cm L[k] (hU _ (fS hlt));have hnext:lD p L[k]=true->∀x∈L.take (k+1),lD p x=true:=λh=>cB hlt hpre h
  have jX:lD p L[k]=false->L.all (lD p)=false:=λh=>Yo k hlt h
  generalize iK p L[k]=g at*;cases hd:lD p L[k]
  .have jO:=jX hd;rw[hd]at c1;have W:=aA hk1 (aA hg hlt);refine we ?_;all_goals try(refine aQ ?_;simp[aP,results178,jO])
  .have hnx:=hnext hd;rw[hd]at c1;have W:=aA hk1 (aA hg hlt);refine we ?_;exact hK1 _ ⟨k+1,by omega,hnx⟩ (aV 3) (by simp only;omega)
 .have jO:L.all (lD p)=true:=QO (by have:=hpre;rwa[cY (by omega)]at this);have W:=aA hk1 hlt;refine we ?_;all_goals try(refine aQ ?_;simp[aP,results178,jO])
end Go.Proofs.YtfbefblglejcaaaGreatDoor
