/- Proved here: steps towards the statement of this claim. No condition. -/
import Derived.Test.YthddijamfbfibaaGreatDoorZZ5
import Derived.Test.YthddijamfbfibaaGreatDoorZQRC6
set_option linter.all false
set_option maxRecDepth 8000
set_option maxHeartbeats 8000000
namespace Go.Proofs.YthddijamfbfibaaGreatDoor
open Go.Aw Proofs.Tryz List IntKind
def lL(p:aI)(a:aD):Bool:=
 match p.aO.find? (kW a)with
 |some m=>if m.done=true/\m.code=1 then(bH m.body a.host).2.2 else false
 |none=>false
theorem Hz[aB prog][bQ prog](p:aI)(U:List aD)(hb:Bnd p U)(a:aD)(ha:a∈U):Ok prog 136 [.agg (aJ .view p),.agg (aH a)] (.gM [.sl .own 2 ((iO p a).map aH),.bool (lL p a)]):=by
 have hps:=hb.hs;simp only[aL,bP]at hps;have c2:=Ar p a (by omega);unfold iO lL;rcases lT (kW a) p.aO with⟨hi,hf⟩|⟨k,hk,hi,hf⟩
 .rw [hf];rw[hi]at c2;simp only[aH,aJ]at c2;refine bM aG func136 ntmps136 ?_;refine aZ ?_;exact aF results136
 .rw [hf];rw[hi]at c2;have hm:=fS hk;have hz:=bS bL hm;have hha:=hb.host _ ha;have hg:=aE hk;simp only[bL,aQ]at hz;have cp:=xM p.aO[k].body a.host (by omega) hha;simp only[aH,aJ]at c2;simp only;generalize bH p.aO[k].body a.host=w at*;obtain⟨w1,w2,w3⟩:=w;simp only at cp;have hk0:¬((k:Nat):Int)<0:=by omega
  cases hd1:p.aO[k].done
  .refine bM aG func136 ntmps136 ?_;have W:=aA hk0 (aA hg (aA hk hd1));refine we ?_;exact aF results136
  .by_cases hd2:p.aO[k].code=1
   .simp only[hd2,GP,gE];refine bM aG func136 ntmps136 ?_;have W:=aA hk0 (aA hg (aA hk (aA hd1 hd2)));refine we ?_;exact aF results136
   .simp only[hd2,and_false,hM];refine bM aG func136 ntmps136 ?_;have W:=aA hk0 (aA hg (aA hk (aA hd1 hd2)));refine we ?_;exact aF results136
theorem Un[aB prog][bQ prog](p:aI)(a:aD)(s1 s2:List aD)(hn:s1.any (iA a)=true)(h1:s1.length<=1073741824):
  Lf prog 251 [.view (.agg (aJ .view p)),.view (.agg (aH a)),.oN (.sl .own 2 (s1.map aH)),.oN (.sl .own 2 (s2.map aH))] (.gM [.sl .own 2 (s1.map aH),.sl .own 2 (s2.map aH)]):=by
 have c1:=yN s1 a (by omega);simp only[aH]at c1;rw[hn]at c1;refine sN aG func251 ntmps251 ?_;refine aZ ?_;all_goals (try exact kP (by simp[gF,dJ,dH,rowOf,results251];done))
theorem rf{t t':List AV}{o o':List aN}{v:Nat}{l1 l4 m1 m2:List (List AV)}{o0 o2 o3 o5 o6:aN}
  (ho:o=[o0,⟨false,false,2,1,l1⟩,o2,o3,⟨false,false,2,v,l4⟩,o5,o6,⟨true,false,2,1,m1⟩,⟨true,false,2,1,m2⟩])
  (ho':o'=[o0,⟨true,false,2,1,m2⟩,o2,o3,⟨true,false,2,1,m1⟩,o5,o6])
  (hf:(o0.lV 4 7=o0/\o2.lV 4 7=o2/\o3.lV 4 7=o3/\o5.lV 4 7=o5/\o6.lV 4 7=o6)/\(o0.lV 1 8=o0/\o2.lV 1 8=o2/\o3.lV 1 8=o3/\o5.lV 1 8=o5/\o6.lV 1 8=o6))
  (hw:wk t (rP 4 7 (rP 1 8 t'))) (h1:wk (rP 4 7 (rP 4 7 (rP 1 8 t'))) (rP 1 8 t')) (h3:wk (rP 1 8 (rP 1 8 t')) t') (hc:eP 7 t'=true) (hc0:dB 7 [o0,o2,o3,o5,o6]=true):lC ⟨t,o⟩ ⟨t',o'⟩:=by
 subst ho;subst ho';obtain⟨⟨a0,a2,a3,a5,a6⟩,b0,b2,b3,b5,b6⟩:=hf;refine(wN hw).trans ?_;refine(aS 4 7 rfl rfl ⟨rfl,rfl⟩ (by simp[a0,a2,a3,a5,a6];rfl) h1).trans ?_;refine(aS 1 8 rfl rfl ⟨rfl,rfl⟩ (by simp[b0,b2,b3,b5,b6];rfl) h3).trans ?_;refine aT 7 (by simp) (lK _) hc ?_;simpa [dB,eP,closed]using hc0
theorem Wu[aB prog][bQ prog](p:aI)(U:List aD)(hb:Bnd p U)(n:Nat)(a:aD)(ha:a∈U)(s1 s2:List aD)(hn:s1.any (iA a)=false)(hs:Seen U (s1,s2))(hf:sD p s1<n+1)
  (ih:∀(b:aD) (q1 q2:List aD),sD p q1<n->Seen U (q1,q2)->b∈U->Lf prog 251 [.view (.agg (aJ .view p)),.view (.agg (aH b)),.oN (.sl .own 2 (q1.map aH)),.oN (.sl .own 2 (q2.map aH))] (.gM [.sl .own 2 ((gI p n b q1 q2).1.map aH),.sl .own 2 ((gI p n b q1 q2).2.map aH)])):
  Lf prog 251 [.view (.agg (aJ .view p)),.view (.agg (aH a)),.oN (.sl .own 2 (s1.map aH)),.oN (.sl .own 2 (s2.map aH))] (.gM [.sl .own 2 ((gI p (n+1) a s1 s2).1.map aH),.sl .own 2 ((gI p (n+1) a s1 s2).2.map aH)]):=by
 have hps:=hb.hs;have hl:=hs.len;have hU:=hb.len;simp only[aL,bP]at hps;simp only at hl;have c1:=yN s1 a (by omega);have c2:=Hz p U hb a ha;rw[hn]at c1;have hna:a∉s1:=λh=>by rw[yV.2 h]at hn;cases hn
 obtain⟨t1,ht1⟩:∃l:List aD,l=s1++[a]:=⟨_,rfl⟩;have e1:s1.map aH++[[.str a.host,.str a.path]]=t1.map aH:=by simp[ht1]
 have hl1:(s1.map aH).length=s1.length:=by simp
 have hv:gI p (n+1) a s1 s2=((dW p n (iO p a) (s1++[a],s2)).1,(dW p n (iO p a) (s1++[a],s2)).2++[a]):=by simp only[gI,hn,dW];rfl
 rw[hv];clear hv;rw[<-ht1];have hst:Seen U (t1,s2):=by
  subst ht1;exact⟨gO.2 ⟨hs.nd,by simp,λx hx y hy e=>hna (by simp at hy;subst hy;subst e;exact hx)⟩,λx hx=>by
   rcases eW.1 hx with h|h
   .exact hs.sub x h
   .simp at h;subst h;exact ha,hs.ond,λx hx=>oE _ (hs.qm x hx)⟩
 have hun:iO p a≠[]->sD p t1<n:=by intro h;have:=Ye (p:=p) (s:=s1) (a:=a) (by rw[hn];simp) (N9 h);rw[<-ht1]at this;omega
 have hLU:∀b∈iO p a,b∈U:=λb h=>hb.im b (KF p a b h)
 have hLl:(iO p a).length<=1073741824:=by
  unfold iO;split
  .rename_i m hm;split
   .have h1:=hb.ps m (pB hm);have h2:=Fk hm;simp only[kW,fN]at h2
    rwa[h2]at h1
   .simp
  .simp
 clear ht1;generalize lL p a=ok at*;generalize iO p a=L at*;simp only[aH,aJ]at c1 c2;refine aTs aG [3,8,9] func251 ntmps251 ?_;have W:=aA e1 hl1;refine we ?_;refine go_drawn3 [⟨4,2,[(5,⟨true,false,2,3,t1.map aH⟩),(2,⟨true,false,2,2,s1.map aH⟩),(0,⟨true,false,2,1,[]⟩)]⟩,⟨5,2,[(4,⟨true,false,2,1,[[.str a.host,.str a.path]]⟩)]⟩] (by simp;rfl) (by decide+kernel) (by decide+kernel) (by simp[nI,pre,Region.binds]) (by simp) ?_
 repeat' first|refine Zf (by simp;rfl) (by simp;rfl) ?_|(refine Rf ?_ (by simp;rfl) ?_;(focus (simp;done)))|(refine oH (j:=5) (v:= .obj 4 3) ⟨4,2,[(5,⟨true,false,2,3,t1.map aH⟩),(2,⟨true,false,2,2,s1.map aH⟩),(0,⟨true,false,2,1,[]⟩)]⟩ [] [(2,⟨true,false,2,2,s1.map aH⟩),(0,⟨true,false,2,1,[]⟩)] rfl (by simp) rfl (by simp[Region.binds];rfl) (by decide) (by simp[Region.binds];rfl) (by simp;rfl) rfl ?_ ?_;(focus (refine FB (by first|(simp;rfl)|(simp;done)|rfl) rfl (by first|(simp;rfl)|(simp;done)|rfl) (by first|(simp;rfl)|(simp;done)|rfl) (by first|(simp;rfl)|(simp;done)|rfl) (by first|(simp;done)|decide) (by first|rfl|exact Af (λ_=>rfl) _|(simp[tL,AV.iF];done)) (by first|(simp;rfl)|(simp;done)|rfl|exact W.1|exact W.2.1|exact W|(simp[W];done)) (by simp;exact⟨rfl,rfl⟩) (by simp) (by simp) (by simp;omega) (by simp;omega))))|(refine oH (j:=2) (v:= .obj 4 2) ⟨4,2,[(5,⟨true,false,2,3,t1.map aH⟩),(2,⟨true,false,2,2,s1.map aH⟩),(0,⟨true,false,2,1,[]⟩)]⟩ [(5,⟨true,false,2,3,t1.map aH⟩)] [(0,⟨true,false,2,1,[]⟩)] rfl (by simp) rfl (by simp[Region.binds];rfl) (by decide) (by simp[Region.binds];rfl) (by simp;rfl) rfl ?_ ?_;(focus (refine FB (by first|(simp;rfl)|(simp;done)|rfl) rfl (by first|(simp;rfl)|(simp;done)|rfl) (by first|(simp;rfl)|(simp;done)|rfl) (by first|(simp;rfl)|(simp;done)|rfl) (by first|(simp;done)|decide) (by first|rfl|exact Af (λ_=>rfl) _|(simp[tL,AV.iF];done)) (by first|(simp;rfl)|(simp;done)|rfl|exact W.1|exact W.2.1|exact W|(simp[W];done)) (by simp;exact⟨rfl,rfl⟩) (by simp) (by simp) (by simp;omega) (by simp;omega))))|(refine oH (j:=0) (v:= .obj 4 1) ⟨4,2,[(5,⟨true,false,2,3,t1.map aH⟩),(2,⟨true,false,2,2,s1.map aH⟩),(0,⟨true,false,2,1,[]⟩)]⟩ [(5,⟨true,false,2,3,t1.map aH⟩),(2,⟨true,false,2,2,s1.map aH⟩)] [] rfl (by simp) rfl (by simp[Region.binds];rfl) (by decide) (by simp[Region.binds];rfl) (by simp;rfl) rfl ?_ ?_;(focus (refine Di (by simp;exact⟨rfl,rfl⟩) (by simp) rfl rfl (by decide) (by decide) (by first|(simp;rfl)|rfl) (by simp[AV.iF]) (by simp[AV.yC,AV.cells]) (by simp) (by simp[AV.cells]))))|(refine oH (j:=4) (v:= .obj 5 1) ⟨5,2,[(4,⟨true,false,2,1,[[.str a.host,.str a.path]]⟩)]⟩ [] [] rfl (by simp) rfl (by simp[Region.binds];rfl) (by decide) (by simp[Region.binds];rfl) (by simp;rfl) rfl ?_ ?_;(focus (refine qz (by simp;exact⟨rfl,rfl⟩) (by simp) rfl rfl (by decide) (by decide) (by first|(simp;rfl)|rfl) (by simp[AV.vG,AV.iF]) (by simp[AV.yC,AV.cells]) (by simp) (by simp[AV.cells]))))|(refine Rh rfl ?_ (by simp[Region.binds];rfl) (by decide) (by simp[Region.binds];rfl) (by simp;rfl) ?_ rfl (by first|rfl|(simp;done)) ?_;(focus (first|rfl|(simp;done)));(focus (first|rfl|(simp[nW];done))))|(refine nx ?_;refine so ?_)|fail
 have W:=aA e1 hl1;refine we ?_;refine aM (ι:={k:Nat×Nat // k.1<=L.length/\1<=k.2}) (λt o i=>⟨bC t [(12,.int .i64 i.1.1),(2,.obj 4 i.1.2),(3,.obj 1 1),(8,.undef),(9,.undef),(18,.undef),(20,.undef),(23,.undef)],(o.set 1 ⟨true,false,2,1,(dW p n (L.take i.1.1) (t1,s2)).2.map aH⟩).set 4 ⟨true,false,2,i.1.2,(dW p n (L.take i.1.1) (t1,s2)).1.map aH⟩⟩)
  (λi=>L.length-i.1.1) ⟨(0,3),by simp,by simp⟩ (aK (by simp[dW]) (by simp)) ?_
 rintro⟨⟨k,v⟩,hk,hv⟩ K1 hK1;simp only[bC,cW,cU]at hk hv hK1⊢;have hk1:=oQ (k:=k);by_cases hlt:k<L.length
 .have hg2:=aE hlt;obtain⟨f1,f2⟩:=Cx hb.im n (L.take k) (t1,s2) (λb h=>hLU b (sE h)) hst;have f3:=PS (p:=p) f2;have hne:L≠[]:=by intro h;rw[h]at hlt;simp at hlt
  have hun':=hun hne;have c3:=ih L[k] (dW p n (L.take k) (t1,s2)).1 (dW p n (L.take k) (t1,s2)).2 (by simp only at f3;omega) f1 (hLU _ (fS hlt));have hnext:dW p n (L.take (k+1)) (t1,s2)=gI p n L[k] (dW p n (L.take k) (t1,s2)).1 (dW p n (L.take k) (t1,s2)).2:=by rw[eJ hlt,Hy]
  generalize dW p n (L.take k) (t1,s2)=q at*;obtain⟨q1,q2⟩:=q;simp only at c3 hnext⊢;generalize gI p n L[k] q1 q2=w at*;obtain⟨w1,w2⟩:=w;simp only[aH,aJ]at c3;have W:=aA hk1 (aA hg2 hlt);refine we ?_;rw[yP];refine go_drawn (by simp;rfl) (by simp;rfl) (by decide+kernel) (by decide) (by first|rfl|(simp[jd];done)) (by simp) (by simp) ?_;iterate 7 (
   refine go_draw rfl (by first|rfl|(simp;done)) (by simp[Region.binds];rfl) (by decide) (by simp[Region.binds];rfl) (by simp;rfl) ?_ ?_
   .first|rfl|(simp[nW];done)
   refine nx ?_;refine so ?_;refine kN ?_;refine go_next (by simp;done) (by simp;rfl) (by simp;rfl) ?_)
  refine EU (s1:= ?s1) (by decide+kernel) (by simp[uT,reach,nI,Region.binds,Dd];rfl) ?ha ?hk;case ha=>
   repeat' (first|refine st ?_|(refine nx ?_;first|refine so ?_|refine sg (hc:=c3) (h:= ?_))|refine sx ?_ ?_|refine sy ?_ ?_|fail)
   all_goals rfl
  case hk=>
   have W:=hk1;refine we ?_;refine hK1 _ ⟨(k+1,1),by simp only;omega,by simp⟩ ?_ (by simp only;omega);simp only[hnext];refine rf rfl rfl (by simp) (by simp) (by simp) (by simp) (by simp) (by simp[dB,eP,closed])
 .have htk:L.take k=L:=cX (by omega);rw[htk];have f1:=(Cx hb.im n L (t1,s2) hLU hst).1.len;generalize dW p n L (t1,s2)=q at*;obtain⟨q1,q2⟩:=q;simp only at f1;have hl2:(q2.map aH).length=q2.length:=by simp
  obtain⟨t2,ht2⟩:∃l:List aD,l=q2++[a]:=⟨_,rfl⟩;have e2:q2.map aH++[[.str a.host,.str a.path]]=t2.map aH:=by simp[ht2]
  simp only;rw[<-ht2];clear ht2;have W:=aA e2 hk1;refine we ?_;refine go_drawn3 [⟨7,2,[(6,⟨true,false,2,3,t2.map aH⟩),(3,⟨true,false,2,2,q2.map aH⟩),(1,⟨true,false,2,1,[]⟩)]⟩,⟨8,2,[(5,⟨true,false,2,1,[[.str a.host,.str a.path]]⟩)]⟩] (by simp;rfl) (by decide+kernel) (by decide+kernel) (by simp[nI,pre,Region.binds]) (by simp) ?_
  repeat' first|refine Zf (by simp;rfl) (by simp;rfl) ?_|(refine Rf ?_ (by simp;rfl) ?_;(focus (simp;done)))|(refine oH (j:=6) (v:= .obj 7 3) ⟨7,2,[(6,⟨true,false,2,3,t2.map aH⟩),(3,⟨true,false,2,2,q2.map aH⟩),(1,⟨true,false,2,1,[]⟩)]⟩ [] [(3,⟨true,false,2,2,q2.map aH⟩),(1,⟨true,false,2,1,[]⟩)] rfl (by simp) rfl (by simp[Region.binds];rfl) (by decide) (by simp[Region.binds];rfl) (by simp;rfl) rfl ?_ ?_;(focus (refine FB (by first|(simp;rfl)|(simp;done)|rfl) rfl (by first|(simp;rfl)|(simp;done)|rfl) (by first|(simp;rfl)|(simp;done)|rfl) (by first|(simp;rfl)|(simp;done)|rfl) (by first|(simp;done)|decide) (by first|rfl|exact Af (λ_=>rfl) _|(simp[tL,AV.iF];done)) (by first|(simp;rfl)|(simp;done)|rfl|exact W.1|exact W.2.1|exact W|(simp[W];done)) (by simp;exact⟨rfl,rfl⟩) (by simp) (by simp) (by simp;omega) (by simp;omega))))|(refine oH (j:=3) (v:= .obj 7 2) ⟨7,2,[(6,⟨true,false,2,3,t2.map aH⟩),(3,⟨true,false,2,2,q2.map aH⟩),(1,⟨true,false,2,1,[]⟩)]⟩ [(6,⟨true,false,2,3,t2.map aH⟩)] [(1,⟨true,false,2,1,[]⟩)] rfl (by simp) rfl (by simp[Region.binds];rfl) (by decide) (by simp[Region.binds];rfl) (by simp;rfl) rfl ?_ ?_;(focus (refine FB (by first|(simp;rfl)|(simp;done)|rfl) rfl (by first|(simp;rfl)|(simp;done)|rfl) (by first|(simp;rfl)|(simp;done)|rfl) (by first|(simp;rfl)|(simp;done)|rfl) (by first|(simp;done)|decide) (by first|rfl|exact Af (λ_=>rfl) _|(simp[tL,AV.iF];done)) (by first|(simp;rfl)|(simp;done)|rfl|exact W.1|exact W.2.1|exact W|(simp[W];done)) (by simp;exact⟨rfl,rfl⟩) (by simp) (by simp) (by simp;omega) (by simp;omega))))|(refine oH (j:=1) (v:= .obj 7 1) ⟨7,2,[(6,⟨true,false,2,3,t2.map aH⟩),(3,⟨true,false,2,2,q2.map aH⟩),(1,⟨true,false,2,1,[]⟩)]⟩ [(6,⟨true,false,2,3,t2.map aH⟩),(3,⟨true,false,2,2,q2.map aH⟩)] [] rfl (by simp) rfl (by simp[Region.binds];rfl) (by decide) (by simp[Region.binds];rfl) (by simp;rfl) rfl ?_ ?_;(focus (refine Di (by simp;exact⟨rfl,rfl⟩) (by simp) rfl rfl (by decide) (by decide) (by first|(simp;rfl)|rfl) (by simp[AV.iF]) (by simp[AV.yC,AV.cells]) (by simp) (by simp[AV.cells]))))|(refine oH (j:=5) (v:= .obj 8 1) ⟨8,2,[(5,⟨true,false,2,1,[[.str a.host,.str a.path]]⟩)]⟩ [] [] rfl (by simp) rfl (by simp[Region.binds];rfl) (by decide) (by simp[Region.binds];rfl) (by simp;rfl) rfl ?_ ?_;(focus (refine qz (by simp;exact⟨rfl,rfl⟩) (by simp) rfl rfl (by decide) (by decide) (by first|(simp;rfl)|rfl) (by simp[AV.vG,AV.iF]) (by simp[AV.yC,AV.cells]) (by simp) (by simp[AV.cells]))))|(refine Rh rfl ?_ (by simp[Region.binds];rfl) (by decide) (by simp[Region.binds];rfl) (by simp;rfl) ?_ rfl (by first|rfl|(simp;done)) ?_;(focus (first|rfl|(simp;done)));(focus (first|rfl|(simp[nW];done))))|(refine nx ?_;refine so ?_)|fail
  have W:=aA e2 hk1;refine we ?_;all_goals (try exact kP (by simp[gF,dJ,dH,rowOf,results251];done))
theorem MB[aB prog][bQ prog](p:aI)(U:List aD)(hb:Bnd p U):∀(n:Nat) (a:aD) (s1 s2:List aD),sD p s1<n->Seen U (s1,s2)->a∈U->Lf prog 251 [.view (.agg (aJ .view p)),.view (.agg (aH a)),.oN (.sl .own 2 (s1.map aH)),.oN (.sl .own 2 (s2.map aH))] (.gM [.sl .own 2 ((gI p n a s1 s2).1.map aH),.sl .own 2 ((gI p n a s1 s2).2.map aH)])
 |0,_,_,_,h,_,_=>absurd h (by omega)
 |n+1,a,s1,s2,h,hs,ha=>by
  have hl:=hs.len;have hU:=hb.len;simp only at hl;cases hn:s1.any (iA a)
  .exact Wu p U hb n a ha s1 s2 hn hs h (λb q1 q2 h1 h2 h3=>MB p U hb n b q1 q2 h1 h2 h3)
  .have:gI p (n+1) a s1 s2=(s1,s2):=by simp[gI,hn]
   rw[this];exact Un p a s1 s2 hn (by omega)
theorem Cz[aB prog][bQ prog](p:aI)(U:List aD)(hb:Bnd p U)(a:aD)(ha:a∈U):Ok prog 190 [.agg (aJ .view p),.agg (aH a)] (.sl .own 2 ((dY p a).map aH)):=by
 have c1:=MB p U hb (sD p []+1) a [] [] (by omega) ⟨by simp,by simp,by simp,by simp⟩ ha;unfold dY;generalize gI p (sD p []+1) a [] []=w at*;obtain⟨w1,w2⟩:=w;simp only[aH,aJ,DG]at c1;refine bM aG func190 ntmps190 ?_;have W:=trivial;repeat' first|refine wf ?_|(refine nx ?_;refine sg (hc:=c1) (h:=?_))|(refine sq ?_ ?_<;>intro hc<;>try exact hc.elim)|fail
 exact aF results190
theorem ry(c:UInt8):∀s:bB,aY gJ (dE c s)<=s.length
 |[]=>by simp[dE,aY,gJ]
 |x::s=>by
  have ih:=ry c s;simp only[dE];split
  .simp only[aY,gJ,eV,eN]at ih⊢;omega
  .split
   .rename_i h0;exact absurd h0 (rH c s)
   .rename_i p q h0;rw[h0]at ih;simp only[aY,gJ,eN]at ih⊢;omega
theorem aMa(s b:bB):aQ (bY s b).1<=s.length+b.length:=by have h:=vI 47 s;unfold bY addrOf;split<;>split<;>simp[aQ,xD]<;>omega
theorem aAy(base:bB):∀(l:List bB) (acc:List aD) (q:List bB),oP base l=some (acc,q)->7*acc.length<=aY gJ l/\aY aQ acc<=aY gJ l+acc.length*base.length/\∀x∈acc,aQ x<=aY gJ l+base.length
 |[],acc,q,h=>by simp only[oP,eE,oX]at h;obtain⟨rfl,rfl⟩:=h;simp[aY]
 |p::ps,acc,q,h=>by
  simp only[oP]at h;split at h
  .rename_i hp;split at h
   .obtain ⟨⟨a1,q1⟩,h1,h2⟩:=tU.1 h;simp only[oX]at h2;obtain⟨rfl,rfl⟩:=h2;obtain⟨i1,i2,i3⟩:=aAy base ps a1 q1 h1;have h7:=Tx hp;have ha:=aMa (p.drop 7) base;simp only[show Bf.length=7 from rfl]at h7;simp only[AE]at ha;simp only[aY,gJ,eN,AN]at i1 i2 i3⊢;refine⟨by omega,by omega,?_⟩;intro x hx;rcases gS.1 hx with rfl|hx
    .omega
    .have:=i3 x hx;omega
   .cases h
  .simp only[eE,oX]at h;obtain⟨rfl,rfl⟩:=h;simp[aY]
theorem yY(s b:bB):7*(bH s b).1.length<=s.length/\aY aQ (bH s b).1<=s.length+(bH s b).1.length*b.length/\∀x∈(bH s b).1,aQ x<=s.length+b.length:=by
 have hs:=ry 59 s;unfold bH;split
 .simp [aY]
 .rename_i l q h;obtain⟨i1,i2,i3⟩:=aAy b _ _ _ h;split
  .exact ⟨by simp only;omega,by simp only;omega,λx hx=>by have:=i3 x hx;omega⟩
  .simp [aY]
theorem aAz(N:Nat):∀l:List dX,(∀m∈l,bL m<=N)->7*(l.flatMap λm=>(bH m.body m.to.host).1).length<=aY bL l/\aY aQ (l.flatMap λm=>(bH m.body m.to.host).1)<=aY bL l+(l.flatMap λm=>(bH m.body m.to.host).1).length*N
 |[],_=>by simp[aY]
 |m::l,h=>by obtain⟨i1,i2⟩:=aAz N l (λx hx=>h x (by simp[hx]));obtain⟨j1,j2,_⟩:=yY m.body m.to.host;have hm:=h m (by simp);simp only[bL,aQ]at hm;have h3:=Nat.mul_le_mul_left (bH m.body m.to.host).1.length (show m.to.host.length<=N by omega);simp only[DE,eR,aY,jE,rB,bL,aQ]at i1 i2⊢;exact⟨by omega,by omega⟩
theorem HV(p:aI)(a:aD)(h:bP bL p.aO+aQ a<=16777216):Bnd p (a::vC p)/\(a::vC p).length<=2396746/\aY aQ (a::vC p)<=50000000000000:=by
 have hm:∀m∈p.aO,bL m<=16777216:=λm hm=>by have:=bS bL hm;simp only[aL,bP]at h;omega
 obtain⟨f1,f2⟩:=aAz 16777216 p.aO hm;have hs:aY bL p.aO<=16777216:=by simp only[aL,bP]at h;omega
 have hl:(vC p).length<=2396745:=by unfold vC;omega
 have h4:=lE 16777216 hl;have h5:aY aQ (vC p)<=16777216+(vC p).length*16777216:=by unfold vC;omega
 refine⟨⟨by omega,λx hx=>AK _ hx,by simp only[eN];omega,?_,?_⟩,by simp only[eN];omega,by simp only[aY];omega⟩
 .intro x hx;rcases gS.1 hx with rfl|hx
  .simp only[aQ]at h;omega
  .obtain ⟨m,h1,h2⟩:=Fm.1 hx;have h6:=(yY m.body m.to.host).2.2 x h2;have h7:=hm m h1;simp only[bL,aQ]at h6 h7;omega
 .intro m h1;have h6:=(yY m.body m.to.host).1;have h7:=hm m h1;simp only[bL]at h7;omega
theorem MC(p:aI)(a:aD)(h:bP bL p.aO+aQ a<=16777216):(dY p a).length<=2396746/\aY aQ (dY p a)<=50000000000000/\∀x∈dY p a,x∈a::vC p:=by obtain⟨hb,h1,h2⟩:=HV p a h;have hs:=(Fz hb.im (sD p []+1) a ([],[]) (by simp) ⟨by simp,by simp,by simp,by simp⟩).1;obtain⟨h3,h4⟩:=Ez aQ _ (a::vC p) hs.ond (λx hx=>hs.sub x (hs.qm x hx));exact⟨lB h4 h1,lB h3 h2,λx hx=>hs.sub x (hs.qm x hx)⟩
def tX:List (Nat×Nat):=[(2,14),(3,15),(4,16),(5,17),(6,18),(7,19),(8,20),(9,21),(10,22),(11,23),(12,24)]
theorem Yp{t t':List AV}{o o':List aN}{l1 l2 l3 l4 l5 l6 l7 l8 l9 l10 l11:Bool}{u n1 v1 n2 v2 n3 v3 n4 v4 n5 v5 n6 v6 n7 v7 n8 v8 n9 v9 n10 v10 n11 v11:Nat}{e1 e2 e3 e4 e5 e6 e7 e8 e9 xh e11:List (List AV)}{o0 o1 z0:aN}{q:aI}(ho:o=[o0,o1,⟨l1,false,n1,v1,e1⟩,⟨l2,false,n2,v2,e2⟩,⟨l3,false,n3,v3,e3⟩,⟨l4,false,n4,v4,e4⟩,⟨l5,false,n5,v5,e5⟩,⟨l6,false,n6,v6,e6⟩,⟨l7,false,n7,v7,e7⟩,⟨l8,false,n8,v8,e8⟩,⟨l9,false,n9,v9,e9⟩,⟨l10,false,n10,v10,xh⟩,⟨l11,false,n11,v11,e11⟩,⟨true,true,22,u,[zK 14 q]⟩]++zJ q++[z0])
  (ho':o'=[o0,o1]++zJ q++[⟨true,true,22,u,[zK 2 q]⟩]) (ht:∀z∈tX,wk (rP z.1 z.2 t') t') (hf:∀z∈tX,o0.lV z.1 z.2=o0/\o1.lV z.1 z.2=o1) (hw:wk t t') (hc:eP 14 t'=true) (hc0:dB 14 [o0,o1]=true):lC ⟨t,o⟩ ⟨t',o'⟩:=by
 subst ho;subst ho';have e:=λi j (h:(i,j)∈tX)=>hf (i,j) h
 have h:=λi j (h:(i,j)∈tX)=>ht (i,j) h
 simp only[zJ,zK,eA,eM,fX];refine(wN hw).trans ?_;refine(aS 2 14 rfl rfl ⟨rfl,rfl⟩ (by simp[(e 2 14 (by decide))];rfl) (h 2 14 (by decide))).trans ?_;refine(aS 3 15 rfl rfl ⟨rfl,rfl⟩ (by simp[(e 3 15 (by decide))];rfl) (h 3 15 (by decide))).trans ?_;refine(aS 4 16 rfl rfl ⟨rfl,rfl⟩ (by simp[(e 4 16 (by decide))];rfl) (h 4 16 (by decide))).trans ?_;refine(aS 5 17 rfl rfl ⟨rfl,rfl⟩ (by simp[(e 5 17 (by decide))];rfl) (h 5 17 (by decide))).trans ?_;refine(aS 6 18 rfl rfl ⟨rfl,rfl⟩ (by simp[(e 6 18 (by decide))];rfl) (h 6 18 (by decide))).trans ?_;refine(aS 7 19 rfl rfl ⟨rfl,rfl⟩ (by simp[(e 7 19 (by decide))];rfl) (h 7 19 (by decide))).trans ?_;refine(aS 8 20 rfl rfl ⟨rfl,rfl⟩ (by simp[(e 8 20 (by decide))];rfl) (h 8 20 (by decide))).trans ?_;refine(aS 9 21 rfl rfl ⟨rfl,rfl⟩ (by simp[(e 9 21 (by decide))];rfl) (h 9 21 (by decide))).trans ?_;refine(aS 10 22 rfl rfl ⟨rfl,rfl⟩ (by simp[(e 10 22 (by decide))];rfl) (h 10 22 (by decide))).trans ?_;refine(aS 11 23 rfl rfl ⟨rfl,rfl⟩ (by simp[(e 11 23 (by decide))];rfl) (h 11 23 (by decide))).trans ?_;refine(aS 12 24 rfl rfl ⟨rfl,rfl⟩ (by simp[(e 12 24 (by decide))];rfl) (h 12 24 (by decide))).trans ?_;refine aT 14 (by simp) (lK _) hc ?_;simpa [dB,eP,closed,GF]using hc0
def tY:List (Nat×Nat):=[(2,26),(3,27),(4,28),(5,29),(6,30),(7,31),(8,32),(9,33),(10,34),(11,35),(12,36)]
theorem Yq{t t':List AV}{o o':List aN}{l1 l2 l3 l4 l5 l6 l7 l8 l9 l10 l11:Bool}{u n1 v1 n2 v2 n3 v3 n4 v4 n5 v5 n6 v6 n7 v7 n8 v8 n9 v9 n10 v10 n11 v11:Nat}{e1 e2 e3 e4 e5 e6 e7 e8 e9 xh e11:List (List AV)}{o0 o1 m0 m1 m2 m3 m4 m5 m6 m7 m8 m9 m10 m11:aN}{q:aI}(ho:o=[o0,o1,⟨l1,false,n1,v1,e1⟩,⟨l2,false,n2,v2,e2⟩,⟨l3,false,n3,v3,e3⟩,⟨l4,false,n4,v4,e4⟩,⟨l5,false,n5,v5,e5⟩,⟨l6,false,n6,v6,e6⟩,⟨l7,false,n7,v7,e7⟩,⟨l8,false,n8,v8,e8⟩,⟨l9,false,n9,v9,e9⟩,⟨l10,false,n10,v10,xh⟩,⟨l11,false,n11,v11,e11⟩,⟨true,true,22,u,[zK 26 q]⟩,m0,m1,m2,m3,m4,m5,m6,m7,m8,m9,m10,m11]++zJ q++[])
  (ho':o'=[o0,o1]++zJ q++[⟨true,true,22,u,[zK 2 q]⟩]) (ht:∀z∈tY,wk (rP z.1 z.2 t') t') (hf:∀z∈tY,o0.lV z.1 z.2=o0/\o1.lV z.1 z.2=o1) (hw:wk t t') (hc:eP 14 t'=true) (hc0:dB 14 [o0,o1]=true):lC ⟨t,o⟩ ⟨t',o'⟩:=by
 subst ho;subst ho';have e:=λi j (h:(i,j)∈tY)=>hf (i,j) h
 have h:=λi j (h:(i,j)∈tY)=>ht (i,j) h
 simp only[zJ,zK,eA,eM,fX];refine(wN hw).trans ?_;refine(aS 2 26 rfl rfl ⟨rfl,rfl⟩ (by simp[(e 2 26 (by decide))];rfl) (h 2 26 (by decide))).trans ?_;refine(aS 3 27 rfl rfl ⟨rfl,rfl⟩ (by simp[(e 3 27 (by decide))];rfl) (h 3 27 (by decide))).trans ?_;refine(aS 4 28 rfl rfl ⟨rfl,rfl⟩ (by simp[(e 4 28 (by decide))];rfl) (h 4 28 (by decide))).trans ?_;refine(aS 5 29 rfl rfl ⟨rfl,rfl⟩ (by simp[(e 5 29 (by decide))];rfl) (h 5 29 (by decide))).trans ?_;refine(aS 6 30 rfl rfl ⟨rfl,rfl⟩ (by simp[(e 6 30 (by decide))];rfl) (h 6 30 (by decide))).trans ?_;refine(aS 7 31 rfl rfl ⟨rfl,rfl⟩ (by simp[(e 7 31 (by decide))];rfl) (h 7 31 (by decide))).trans ?_;refine(aS 8 32 rfl rfl ⟨rfl,rfl⟩ (by simp[(e 8 32 (by decide))];rfl) (h 8 32 (by decide))).trans ?_;refine(aS 9 33 rfl rfl ⟨rfl,rfl⟩ (by simp[(e 9 33 (by decide))];rfl) (h 9 33 (by decide))).trans ?_;refine(aS 10 34 rfl rfl ⟨rfl,rfl⟩ (by simp[(e 10 34 (by decide))];rfl) (h 10 34 (by decide))).trans ?_;refine(aS 11 35 rfl rfl ⟨rfl,rfl⟩ (by simp[(e 11 35 (by decide))];rfl) (h 11 35 (by decide))).trans ?_;refine(aS 12 36 rfl rfl ⟨rfl,rfl⟩ (by simp[(e 12 36 (by decide))];rfl) (h 12 36 (by decide))).trans ?_;refine aT 14 (by simp) (lK _) hc ?_;simpa [dB,eP,closed,GF]using hc0
end Go.Proofs.YthddijamfbfibaaGreatDoor
