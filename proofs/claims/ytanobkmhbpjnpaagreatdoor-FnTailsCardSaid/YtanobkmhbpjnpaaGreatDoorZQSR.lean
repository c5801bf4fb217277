/- Steps. No condition. -/
import Derived.Test.YtanobkmhbpjnpaaGreatDoorZQRC1
import Derived.Test.YtanobkmhbpjnpaaGreatDoorZQP3
set_option linter.all false
set_option maxRecDepth 4000
set_option maxHeartbeats 4000000
namespace Go.Proofs.YtanobkmhbpjnpaaGreatDoor
open Go.Aw Proofs.Tryz List IntKind
def qL(s:qF):Bool:= !(decide (s.nI=2)&& !s.done)
def Da[aG prog](p:aF)(hl:p.aD.length<=1099511627776):Ok prog 63 [.agg (aH .view p)] (.bool (p.aD.all qL)):=by
 refine dN aK func63 ntmps63 ?_;refine bZ ?_;refine aT (ι:={k:Nat // k<=p.aD.length/\∀x∈p.aD.take k,qL x=true}) (λt o i=>⟨bP t [(3,.int .i64 i.1)],o⟩)
  (λi=>p.aD.length-i.1) ⟨0,by simp⟩ aP ?_
 rintro⟨k,hk,hpre⟩ K1 hK1;simp only[bP,cH,cQ]at hK1⊢;have hk1:=tQ (k:=k);by_cases hlt:k<p.aD.length
 .have hg:=aE hlt;have W:=aA hk1 (aA hg hlt);repeat' first|refine wg ?_|(refine sq ?_ ?_<;>intro hc<;>try exact hc.elim)|fail
  all_goals first
   |(refine hK1 _ ⟨k+1,by omega,fB hlt hpre (by simp_all[qL])⟩ aP (by simp only;omega);done)
   |skip
  all_goals try(refine bA ?_;simp[bB,results63])
  exact⟨_,gR hlt,by simp_all[qL]⟩
 .have W:=hk1;refine wl ?_;all_goals try(refine bA ?_;simp[bB,results63])
  exact nS (by omega) hpre
def Db[aG prog](p:aF)(hl:p.aD.length<=1099511627776):Ok prog 35 [.agg (aH .view p)] (.bool (p.aD.all qL)):=by
 refine dN aK func35 ntmps35 ?_;refine bZ ?_;refine aT (ι:={k:Nat // k<=p.aD.length/\∀x∈p.aD.take k,qL x=true}) (λt o i=>⟨bP t [(8,.int .i64 i.1)],o⟩)
  (λi=>p.aD.length-i.1) ⟨0,by simp⟩ aP ?_
 rintro⟨k,hk,hpre⟩ K1 hK1;simp only[bP,cH,cQ]at hK1⊢;have hk1:=tQ (k:=k);by_cases hlt:k<p.aD.length
 .have hg:=aE hlt;have W:=aA hk1 (aA hg hlt);repeat' first|refine wg ?_|(refine sq ?_ ?_<;>intro hc<;>try exact hc.elim)|fail
  all_goals first
   |(refine hK1 _ ⟨k+1,by omega,fB hlt hpre (by simp_all[qL])⟩ (aQ 1 rfl (by simp) (by simp) (by simp)) (by simp only;omega);done)
   |skip
  all_goals try(refine bA ?_;simp[bB,results35])
  exact⟨_,gR hlt,by simp_all[qL]⟩
 .have W:=hk1;refine wl ?_;all_goals try(refine bA ?_;simp[bB,results35])
  exact nS (by omega) hpre
def Ac(n:Int)(s:bE)(x:kG):bE:=if x.wV=n/\x.name=[]then s++x.text else s
def pR(b:bC)(n:Int):bE:=b.aJ.foldl (Ac n) []
def MR(b:bC)(n:Int)(k:Nat):bE:=(b.aJ.take k).foldl (Ac n) []
def XH(b:bC)(n:Int)(k:Nat)(h:k<b.aJ.length):MR b n (k+1)=Ac n (MR b n k) b.aJ[k]:=by unfold MR;rw[fN h,DQ];rfl
def O7(n:Int)(s:bE)(x:kG):(Ac n s x).length<=s.length+qP x:=by
 unfold Ac qP;split
 .simp only[eR];omega
 .omega
def aIe(n:Int):∀(l:List kG) (s:bE),(l.foldl (Ac n) s).length<=s.length+bU qP l
 |[],s=>by simp[bU]
 |x::l,s=>by have h1:=aIe n l (Ac n s x);have h2:=O7 n s x;simp only[foldl_cons,bU];omega
def AU{α:Type}(f:α->Nat):∀(l:List α) (k:Nat),bU f (l.take k)<=bU f l
 |[],k=>by simp[bU]
 |x::l,0=>by simp[bU]
 |x::l,k+1=>by have:=AU f l k;simp only[eV,bU];omega
def Ue(b:bC)(n:Int)(k:Nat):(MR b n k).length<=aV b:=by have h1:=aIe n (b.aJ.take k) [];have h2:=AU qP b.aJ k;unfold MR;simp only[aV,dS,fL]at*;omega
def Uf(b:bC)(n:Int):(pR b n).length<=aV b:=by
 have:=Ue b n b.aJ.length;unfold MR at this
 rwa[DM]at this
def Wd[aG prog](b:bC)(n:Int)(hs:aV b<=1099511627776):Ok prog 54 [.agg (aZ .view b),.int .i64 n] (.str (pR b n)):=by
 have hN:b.aJ.length<=1099511627776:=by simp only[aV,dS]at hs;omega
 have hend:MR b n b.aJ.length=pR b n:=by unfold MR pR;rw[DM]
 rw[<-hend];have hz:MR b n 0=[]:=rfl;have O4:=λk=>Ue b n k
 have hsu:=XH b n;generalize MR b n=T at*;clear hend;refine dN aK func54 ntmps54 ?_;refine bZ ?_;refine aT (ι:={k:Nat // k<=b.aJ.length}) (λt o i=>⟨bP t [(11,.int .i64 i.1),(5,.str (T i.1))],o⟩)
  (λi=>b.aJ.length-i.1) ⟨0,by simp⟩ (aP (by simp) (by simp[hz])) ?_
 rintro⟨k,hk⟩ K1 hK1;simp only[bP,cH,cQ]at hK1⊢;have hk1:=tQ (k:=k);by_cases hlt:k<b.aJ.length
 .have hg:=aE hlt;have hnext:=hsu k hlt;have hl1:=O4 (k+1);have hl0:=O4 k;rw[hnext]at hl1;unfold Ac at hnext hl1;clear hsu O4 hz;generalize hT:T k=s at*;by_cases hp:b.aJ[k].wV=n
  .by_cases hn:b.aJ[k].name=[]
   .rw [eM ⟨hp,hn⟩]at hnext hl1;rw[eR]at hl1;have aQ4:s.length+b.aJ[k].text.length<=1099511627776:=by omega
    have W:=aA hk1 (aA hg (aA hlt (aA hp (aA hn aQ4))));refine wl ?_;all_goals refine hK1 _ ⟨k+1,by omega⟩ (aQ 1 rfl (by simp[hnext]) (by simp) (by simp)) (by simp only;omega)
   .rw [eC (by simp[hn])]at hnext hl1;have jE:b.aJ[k].name.isEmpty=false:=by cases hc:b.aJ[k].name with|nil=>exact absurd hc hn|cons _ _=>rfl
    have W:=aA hk1 (aA hg (aA hlt (aA hp (aA hn jE))));refine wl ?_;all_goals refine hK1 _ ⟨k+1,by omega⟩ (aQ 1 rfl (by simp[hnext]) (by simp) (by simp)) (by simp only;omega)
  .rw [eC (by simp[hp])]at hnext hl1;have W:=aA hk1 (aA hg (aA hlt hp));refine wl ?_;all_goals refine hK1 _ ⟨k+1,by omega⟩ (aQ 1 rfl (by simp[hnext]) (by simp) (by simp)) (by simp only;omega)
 .have hkl:k=b.aJ.length:=by omega
  subst hkl;have W:=hk1;refine wl ?_;exact aO results54
def We[aG prog](b:bC)(n:Int)(hs:aV b<=1099511627776):Ok prog 65 [.agg (aZ .view b),.int .i64 n] (.str (pR b n)):=by
 have hN:b.aJ.length<=1099511627776:=by simp only[aV,dS]at hs;omega
 have hend:MR b n b.aJ.length=pR b n:=by unfold MR pR;rw[DM]
 rw[<-hend];have hz:MR b n 0=[]:=rfl;have O4:=λk=>Ue b n k
 have hsu:=XH b n;generalize MR b n=T at*;clear hend;refine dN aK func65 ntmps65 ?_;refine bZ ?_;refine aT (ι:={k:Nat // k<=b.aJ.length}) (λt o i=>⟨bP t [(6,.int .i64 i.1),(5,.str (T i.1))],o⟩)
  (λi=>b.aJ.length-i.1) ⟨0,by simp⟩ (aP (by simp) (by simp[hz])) ?_
 rintro⟨k,hk⟩ K1 hK1;simp only[bP,cH,cQ]at hK1⊢;have hk1:=tQ (k:=k);by_cases hlt:k<b.aJ.length
 .have hg:=aE hlt;have hnext:=hsu k hlt;have hl1:=O4 (k+1);have hl0:=O4 k;rw[hnext]at hl1;unfold Ac at hnext hl1;clear hsu O4 hz;generalize hT:T k=s at*;by_cases hp:b.aJ[k].wV=n
  .by_cases hn:b.aJ[k].name=[]
   .rw [eM ⟨hp,hn⟩]at hnext hl1;rw[eR]at hl1;have aQ4:s.length+b.aJ[k].text.length<=1099511627776:=by omega
    have W:=aA hk1 (aA hg (aA hlt (aA hp (aA hn aQ4))));refine wl ?_;all_goals refine hK1 _ ⟨k+1,by omega⟩ (aP (by simp) (by simp[hnext])) (by simp only;omega)
   .rw [eC (by simp[hn])]at hnext hl1;have jE:b.aJ[k].name.isEmpty=false:=by cases hc:b.aJ[k].name with|nil=>exact absurd hc hn|cons _ _=>rfl
    have W:=aA hk1 (aA hg (aA hlt (aA hp (aA hn jE))));refine wl ?_;all_goals refine hK1 _ ⟨k+1,by omega⟩ (aP (by simp) (by simp[hnext])) (by simp only;omega)
  .rw [eC (by simp[hp])]at hnext hl1;have W:=aA hk1 (aA hg (aA hlt hp));refine wl ?_;all_goals refine hK1 _ ⟨k+1,by omega⟩ (aP (by simp) (by simp[hnext])) (by simp only;omega)
 .have hkl:k=b.aJ.length:=by omega
  subst hkl;have W:=hk1;refine wl ?_;exact aO results65
def Qj(h:bE)(s:gP):Bool:=s.bN == h
def Ee(h:bE)(s:WX):Bool:=s.iD == h
def wE(l:List gP)(a:aR):bG:=
 match l.find? (Qj a.bN)with
 |some s=>match s.eY.find? (Ee a.iD)with
  |some f=>f.jL
  |none=>notFound
 |none=>notFound
def MX[aG prog](l:List gP)(h:bE)(hl:l.length<=1099511627776):Ok prog 92 [.sl .view 2 (l.map (dP .view)),.str h] (.int .i64 (wR (Qj h) l)):=by
 refine dN aK func92 ntmps92 ?_;refine bK ?_;refine aT (ι:={k:Nat // k<=l.length/\∀x∈l.take k,Qj h x=false}) (λt o i=>⟨bP t [(5,.int .i64 i.1)],o⟩)
  (λi=>l.length-i.1) ⟨0,by simp,by simp⟩ aP ?_
 rintro⟨k,hk,hi⟩ K1 hK1;simp only[bP,cH,cQ]at hK1⊢;have hk1:=tQ (k:=k);by_cases hlt:k<l.length
 .have hg:=aE hlt;by_cases hb:l[k].bN=h
  .have hbb:(l[k].bN == h)=true:=by simp[hb]
   rw[Cb hlt (by simpa [Qj]using hb) hi];have W:=aA hk1 (aA hg (aA hlt hbb));refine we ?_;exact aO results92
  .have hbb:(l[k].bN == h)=false:=by simp[hb]
   have hnx:∀x∈l.take (k+1),Qj h x=false:=fB hlt hi (by simpa [Qj]using hb);have W:=aA hk1 (aA hg (aA hlt hbb));refine we ?_;exact hK1 _ ⟨k+1,by omega,hnx⟩ aP (by simp only;omega)
 .rw [wI (nS (by omega) hi)];have W:=hk1;refine we ?_;exact aO results92
def La[aG prog](s:gP)(h:bE)(hl:s.eY.length<=1099511627776):Ok prog 94 [.agg (dP .view s),.str h] (.int .i64 (wR (Ee h) s.eY)):=by
 refine dN aK func94 ntmps94 ?_;refine bK ?_;refine aT (ι:={k:Nat // k<=s.eY.length/\∀x∈s.eY.take k,Ee h x=false}) (λt o i=>⟨bP t [(5,.int .i64 i.1)],o⟩)
  (λi=>s.eY.length-i.1) ⟨0,by simp,by simp⟩ aP ?_
 rintro⟨k,hk,hi⟩ K1 hK1;simp only[bP,cH,cQ]at hK1⊢;have hk1:=tQ (k:=k);by_cases hlt:k<s.eY.length
 .have hg:=aE hlt;by_cases hb:s.eY[k].iD=h
  .have hbb:(s.eY[k].iD == h)=true:=by simp[hb]
   rw[Cb hlt (by simpa [Ee]using hb) hi];have W:=aA hk1 (aA hg (aA hlt hbb));refine we ?_;exact aO results94
  .have hbb:(s.eY[k].iD == h)=false:=by simp[hb]
   have hnx:∀x∈s.eY.take (k+1),Ee h x=false:=fB hlt hi (by simpa [Ee]using hb);have W:=aA hk1 (aA hg (aA hlt hbb));refine we ?_;exact hK1 _ ⟨k+1,by omega,hnx⟩ aP (by simp only;omega)
 .rw [wI (nS (by omega) hi)];have W:=hk1;refine we ?_;exact aO results94
def GJ[aG prog](l:List gP)(a:aR)(hs:dS eF l<=1099511627776):Ok prog 45 [.sl .view 2 (l.map (dP .view)),.agg (aS a)] (.agg (bR (wE l a))):=by
 simp only[dS]at hs;have c1:=MX l a.bN (by omega);have c2:=QR;simp only[bR]at c2;unfold wE;rcases oL (Qj a.bN) l with⟨h1,h2⟩|⟨k,hk,h1,h2⟩
 .rw [h1]at c1;rw[h2];refine dN aK func45 ntmps45 ?_;refine bK ?_;exact aO results45
 .rw [h1]at c1;rw[h2];have hg:=aE hk;have hn:¬((k:Int)<0):=by omega
  have hz:=iU eF l k hk;simp only[eF,dS]at hz;have c3:=La l[k] a.iD (by omega);simp only[dP]at c3;simp only;rcases oL (Ee a.iD) l[k].eY with⟨h3,h4⟩|⟨j,hj,h3,h4⟩
  .rw [h3]at c3;rw[h4];refine dN aK func45 ntmps45 ?_;have W:=aA hg (aA hk hn);refine we ?_;exact aO results45
  .rw [h3]at c3;rw[h4];have hg2:=aE hj;have hn2:¬((j:Int)<0):=by omega
   refine dN aK func45 ntmps45 ?_;have W:=aA hg (aA hk (aA hn (aA hg2 (aA hj hn2))));refine we ?_;exact aO results45
def xS{α:Type}{f:α->List AV}{i j:Nat}(h:∀x,uG i j (f x)=f x):∀l:List α,uT i j (l.map f)=l.map f
 |[]=>rfl
 |x::l=>by simp only[oE,uT,h,xS h l]
@[simp] def aS2(i j:Nat)(l:List bE):uT i j (l.map eD)=l.map eD:=xS (λ_=>rfl) l
@[simp] def aS3(i j:Nat)(l:List Int):uT i j (l.map nM)=l.map nM:=xS (λ_=>rfl) l
@[simp] def aQ7(i j:Nat)(l:List aR):uT i j (l.map aS)=l.map aS:=xS (λ_=>rfl) l
@[simp] def aQ8(i j:Nat)(l:List pV):uT i j (l.map uB)=l.map uB:=xS (λ_=>rfl) l
@[simp] def aQ9(i j:Nat)(l:List qF):uT i j (l.map uL)=l.map uL:=xS (λ_=>rfl) l
@[simp] def aM4(i j:Nat)(l:List fO):uT i j (l.map gH)=l.map gH:=xS (λ_=>rfl) l
@[simp] def aM5(i j:Nat)(l:List bM):uT i j (l.map (dK .view))=l.map (dK .view):=xS (λ_=>by simp) l
@[simp] def aO0(i j:Nat)(l:List kG):uT i j (l.map (gU .view))=l.map (gU .view):=xS (λ_=>by simp) l
@[simp] def aVg(u:List Nat)(b:Bool)(l:List bM):lW (lV u) b (l.map (dK .view))=l.map (dK .view):=by
 induction l with
 |nil=>rfl
 |cons x l ih=>rw[oE,lW,ih];simp[tJ,rt,dK,lV]
@[simp] def aS4(u:List Nat)(b:Bool)(l:List kG):lW (lV u) b (l.map (gU .view))=l.map (gU .view):=by
 induction l with
 |nil=>rfl
 |cons x l ih=>rw[oE,lW,ih];simp[tJ,rt,gU,lV]
def Q3{t t':List AV}{o o':List aI}{v:Nat}{l1 l3 m1 m3:List (List AV)}{o4 o5 o6 o7 o8 o9:aI}
  (ho:o=[⟨true,true,1,2,[[.obj 10 1]]⟩,⟨false,false,2,v,l1⟩,⟨true,true,1,2,[[.obj 11 1]]⟩,⟨false,false,2,1,l3⟩,o4,o5,o6,o7,o8,o9,⟨true,false,2,1,m1⟩,⟨true,false,2,1,m3⟩])
  (ho':o'=[⟨true,true,1,2,[[.obj 1 1]]⟩,⟨true,false,2,1,m1⟩,⟨true,true,1,2,[[.obj 3 1]]⟩,⟨true,false,2,1,m3⟩,o4,o5,o6,o7,o8])
  (hf:(o4.oM 1 10=o4/\o5.oM 1 10=o5/\o6.oM 1 10=o6/\o7.oM 1 10=o7/\o8.oM 1 10=o8/\o9.oM 1 10=o9)/\(o4.oM 3 11=o4/\o5.oM 3 11=o5/\o6.oM 3 11=o6/\o7.oM 3 11=o7/\o8.oM 3 11=o8/\o9.oM 3 11=o9))
  (hw:wk t t') (h1:wk (uG 1 10 t') t') (h3:wk (uG 3 11 t') t') (hc:iK 9 t'=true) (hc0:eU 9 [o4,o5,o6,o7,o8]=true):mZ ⟨t,o⟩ ⟨t',o'⟩:=by
 subst ho;subst ho';obtain⟨⟨a4,a5,a6,a7,a8,a9⟩,b4,b5,b6,b7,b8,b9⟩:=hf;refine(zS hw).trans ?_;refine(bI 1 10 rfl rfl ⟨rfl,rfl⟩ (by simp[a4,a5,a6,a7,a8,a9];rfl) h1).trans ?_;refine(bI 3 11 rfl rfl ⟨rfl,rfl⟩ (by simp[b4,b5,b6,b7,b8,b9];rfl) h3).trans ?_;refine aQ 9 (by simp) (oH _) hc ?_;simpa [eU,iK,closed]using hc0
def De{p:aF}{U:List aR}(hU:∀x∈wP p,x∈U)(n:Nat):∀(l:List aR) (s:List aR×List aR),(∀b∈l,b∈U)->Seen U s->Seen U (gF p n l s)/\(∀x∈s.1,x∈(gF p n l s).1)
 |[],s,_,h=>⟨h,λ_ h=>h⟩
 |b::l,s,hl,h=>by obtain⟨h1,h2⟩:=Gc hU n b s (hl b (by simp)) h;obtain⟨h3,h4⟩:=De hU n l _ (λx hx=>hl x (by simp[hx])) h1;exact⟨h3,λx hx=>h4 x (h2 x hx)⟩
def Ae[aG prog][dG prog](p:aF)(a:aR)(hl:p.aL.length<=1099511627776):Ok prog 79 [.agg (aH .view p),.agg (aS a)] (.int .i64 (wR (mR a) p.aL)):=by have c1:=ni p.aL a hl;simp only[aS]at c1;refine dN aK func79 ntmps79 ?_;refine bK ?_;exact aO results79
structure Bnd(p:aF)(U:List aR): Prop where
  hs:dS cB p.aL <= 268435456
  im:∀ x ∈ wP p, x ∈ U
  len:U.length <= 1073741824
  bN:∀ x ∈ U, x.bN.length <= 1073741824
  ps:∀ m ∈ p.aL, (bQ m.body m.to.bN).1.length <= 1073741824
def Seen.len{U:List aR}{s:List aR×List aR}(h:Seen U s):s.1.length<=U.length/\s.2.length<=U.length:=
 ⟨(Fb (λ_=>0) s.1 U h.nd h.sub).2,(Fb (λ_=>0) s.2 U h.ond (λx hx=>h.sub x (h.pg x hx))).2⟩
def Uk[aG prog][dG prog](p:aF)(U:List aR)(hb:Bnd p U)(a:aR)(s1 s2:List aR)(hn:s1.any (kR a)=true)(h1:s1.length<=1073741824):
  Ob prog 129 [.view (.agg (aH .view p)),.view (.agg (aS a)),.vX [.sl .own 2 (s1.map aS)] [.sl .own 2 (s1.map aS)],.vX [.sl .own 2 (s2.map aS)] [.sl .own 2 (s2.map aS)]] (.iL []):=by
 have c1:=BK s1 a (by omega);simp only[aS]at c1;rw[hn]at c1;refine uQ aK func129 ntmps129 ?_;refine bK ?_;all_goals (try exact nL (by simp[jF,fK,fH,rowOf,results129];done))
def Wh[aG prog][dG prog](p:aF)(U:List aR)(hb:Bnd p U)(n:Nat)(a:aR)(ha:a∈U)(s1 s2:List aR)(hn:s1.any (kR a)=false)(hs:Seen U (s1,s2))(hf:tX p s1<n+1)
  (ih:∀(b:aR) (q1 q2:List aR),tX p q1<n->Seen U (q1,q2)->b∈U->Ob prog 129 [.view (.agg (aH .view p)),.view (.agg (aS b)),.vX [.sl .own 2 (q1.map aS)] [.sl .own 2 ((jD p n b q1 q2).1.map aS)],.vX [.sl .own 2 (q2.map aS)] [.sl .own 2 ((jD p n b q1 q2).2.map aS)]] (.iL [])):
  Ob prog 129 [.view (.agg (aH .view p)),.view (.agg (aS a)),.vX [.sl .own 2 (s1.map aS)] [.sl .own 2 ((jD p (n+1) a s1 s2).1.map aS)],.vX [.sl .own 2 (s2.map aS)] [.sl .own 2 ((jD p (n+1) a s1 s2).2.map aS)]] (.iL []):=by
 have hps:=hb.hs;have hl:=hs.len;have hU:=hb.len;simp only[aM,dS]at hps;simp only at hl;have c1:=BK s1 a (by omega);have c2:=Ae p a (by omega);rw[hn]at c1;have hna:a∉s1:=λh=>by rw[Ad.2 h]at hn;cases hn
 obtain⟨t1,ht1⟩:∃l:List aR,l=s1++[a]:=⟨_,rfl⟩;have e1:s1.map aS++[[.str a.bN,.str a.iD]]=t1.map aS:=by simp[ht1]
 have hl1:(s1.map aS).length=s1.length:=by simp
 have hv:jD p (n+1) a s1 s2=((gF p n (jU p a) (s1++[a],s2)).1,(gF p n (jU p a) (s1++[a],s2)).2++[a]):=by simp only[jD,hn,gF];rfl
 rw[hv];clear hv;rw[<-ht1];rcases oL (mR a) p.aL with⟨hi,hf⟩|⟨k,hk,hi,hf⟩
 .have hL:jU p a=[]:=by unfold jU;rw[hf]
  have hl2:(s2.map aS).length=s2.length:=by simp
  rw[hL];rw[hi]at c2;simp only[aS,aH]at c1 c2;obtain⟨t2,ht2⟩:∃l:List aR,l=s2++[a]:=⟨_,rfl⟩;have e2:s2.map aS++[[.str a.bN,.str a.iD]]=t2.map aS:=by simp[ht2]
  simp only[gF,foldl_nil];rw[<-ht2];clear ht2 ht1;refine uQ aK func129 ntmps129 ?_;have W:=aA e1 (aA e2 (aA hl1 hl2));refine we ?_;all_goals (try exact nL (by simp[jF,fK,fH,rowOf,results129,gF];done))
 .have hm:=gR hk;have hz:=dJ cB hm;have hpm:=hb.ps _ hm;have hta:(p.aL[k]).to=a:=by have:=FA hf;simpa [mR]using this
  have hha:=hb.bN _ ha;rw[hi]at c2;have hg:=aE hk;have hL:jU p a=if p.aL[k].done=true/\p.aL[k].code=1 then(bQ p.aL[k].body a.bN).1 else []:=by unfold jU;rw[hf]
  simp only[cB,aW]at hz;have cp:=vR p.aL[k].body a.bN (by omega) hha;rw[hta]at hpm;simp only[aS,aH]at c1 c2;by_cases hd:p.aL[k].done=true/\p.aL[k].code=1
  .rw [eM hd]at hL;rw[<-hL]at cp hpm;obtain⟨hd1,hd2⟩:=hd;refine uQ aK func129 ntmps129 ?_;have W:=aA e1 (aA hl1 (aA hg (aA hk (aA hd1 hd2))));refine we ?_;have hst:Seen U (t1,s2):=by
    subst ht1;exact⟨lE.2 ⟨hs.nd,by simp,λx hx y hy e=>hna (by simp at hy;subst hy;subst e;exact hx)⟩,λx hx=>by
     rcases fR.1 hx with h|h
     .exact hs.sub x h
     .simp at h;subst h;exact ha,hs.ond,λx hx=>pA _ (hs.pg x hx)⟩
   have hun:tX p t1<n:=by have:=XI (p:=p) (s:=s1) (a:=a) (by rw[hn];simp) ⟨_,hm,hta⟩;rw[<-ht1]at this;omega
   have hLU:∀b∈jU p a,b∈U:=λb h=>hb.im b (KZ p a b h)
   clear hL ht1;generalize jU p a=L at*;refine aT (ι:={k:Nat×Nat // k.1<=L.length/\1<=k.2}) (λt o i=>⟨bP t [(64,.int .i64 i.1.1),(13,.aB),(16,.aB),(22,.aB),(25,.aB)],[⟨true,true,1,2,[[.obj 1 i.1.2]]⟩,⟨true,false,2,i.1.2,(gF p n (L.take i.1.1) (t1,s2)).1.map aS⟩,⟨true,true,1,2,[[.obj 3 1]]⟩,⟨true,false,2,1,(gF p n (L.take i.1.1) (t1,s2)).2.map aS⟩]++o.drop 4⟩)
    (λi=>L.length-i.1.1) ⟨(0,2),by simp,by simp⟩ (aP (by simp[gF]) (by simp)) ?_
   rintro⟨⟨k,v⟩,hk,hv⟩ K1 hK1;simp only[bP,cH,cQ,sX,DP,cW,eA]at hk hv hK1⊢;have hk1:=tQ (k:=k);by_cases hlt:k<L.length
   .have hg2:=aE hlt;obtain⟨f1,f2⟩:=De hb.im n (L.take k) (t1,s2) (λb h=>hLU b (tA h)) hst;have f3:=Qi (p:=p) f2;have c3:=ih L[k] (gF p n (L.take k) (t1,s2)).1 (gF p n (L.take k) (t1,s2)).2 (by simp only at f3;omega) f1 (hLU _ (gR hlt));have hnext:gF p n (L.take (k+1)) (t1,s2)=jD p n L[k] (gF p n (L.take k) (t1,s2)).1 (gF p n (L.take k) (t1,s2)).2:=by
     rw[fN hlt,Iq]
    generalize gF p n (L.take k) (t1,s2)=q at*;obtain⟨q1,q2⟩:=q;simp only at c3 hnext⊢;generalize jD p n L[k] q1 q2=w at*;obtain⟨w1,w2⟩:=w;simp only[aS,aH]at c3;have W:=aA hk1 (aA hg2 hlt);repeat' first|refine wf ?_|(refine nx ?_;refine sg (hc:=c3) (h:=?_))|(refine sq ?_ ?_<;>intro hc<;>try exact hc.elim)|fail
    refine hK1 _ ⟨(k+1,1),by simp only;omega,by simp⟩ ?_ (by simp only;omega);simp only[hnext];exact Q3 rfl rfl (by simp) (by simp) (by simp) (by simp) (by simp) (by simp[eU,iK,closed])
   .have htk:L.take k=L:=eN (by omega);rw[htk];have f1:=(De hb.im n L (t1,s2) hLU hst).1.len;generalize gF p n L (t1,s2)=q at*;obtain⟨q1,q2⟩:=q;simp only at f1;have hl2:(q2.map aS).length=q2.length:=by simp
    obtain⟨t2,ht2⟩:∃l:List aR,l=q2++[a]:=⟨_,rfl⟩;have e2:q2.map aS++[[.str a.bN,.str a.iD]]=t2.map aS:=by simp[ht2]
    simp only;rw[<-ht2];clear ht2;have W:=aA hk1 (aA e2 hl2);refine we ?_;all_goals (try exact nL (by simp[jF,fK,fH,rowOf,results129];done))
  .rw [eC hd]at hL;have hl2:(s2.map aS).length=s2.length:=by simp
   rw[hL];obtain⟨t2,ht2⟩:∃l:List aR,l=s2++[a]:=⟨_,rfl⟩;have e2:s2.map aS++[[.str a.bN,.str a.iD]]=t2.map aS:=by simp[ht2]
   simp only[gF,foldl_nil];rw[<-ht2];clear ht2 ht1;cases hd1:p.aL[k].done
   .refine uQ aK func129 ntmps129 ?_;have W:=aA e1 (aA e2 (aA hl1 (aA hl2 (aA hg (aA hk hd1)))));refine we ?_;all_goals (try exact nL (by simp[jF,fK,fH,rowOf,results129];done))
   .have hd2:¬p.aL[k].code=1:=λh=>hd ⟨hd1,h⟩
    refine uQ aK func129 ntmps129 ?_;have W:=aA e1 (aA e2 (aA hl1 (aA hl2 (aA hg (aA hk (aA hd1 hd2))))));refine we ?_;all_goals (try exact nL (by simp[jF,fK,fH,rowOf,results129];done))
def MZ[aG prog][dG prog](p:aF)(U:List aR)(hb:Bnd p U):∀(n:Nat) (a:aR) (s1 s2:List aR),tX p s1<n->Seen U (s1,s2)->a∈U->Ob prog 129 [.view (.agg (aH .view p)),.view (.agg (aS a)),.vX [.sl .own 2 (s1.map aS)] [.sl .own 2 ((jD p n a s1 s2).1.map aS)],.vX [.sl .own 2 (s2.map aS)] [.sl .own 2 ((jD p n a s1 s2).2.map aS)]] (.iL [])
 |0,_,_,_,h,_,_=>absurd h (by omega)
 |n+1,a,s1,s2,h,hs,ha=>by
  have hl:=hs.len;have hU:=hb.len;simp only at hl;cases hn:s1.any (kR a)
  .exact Wh p U hb n a ha s1 s2 hn hs h (λb q1 q2 h1 h2 h3=>MZ p U hb n b q1 q2 h1 h2 h3)
  .have:jD p (n+1) a s1 s2=(s1,s2):=by simp[jD,hn]
   rw[this];exact Uk p U hb a s1 s2 hn (by omega)
def fP(p:aF)(a:aR):List aR:=(jD p (tX p []+1) a [] []).2
def Df[aG prog][dG prog](p:aF)(U:List aR)(hb:Bnd p U)(a:aR)(ha:a∈U):Ok prog 78 [.agg (aH .view p),.agg (aS a)] (.sl .own 2 ((fP p a).map aS)):=by
 have c1:=MZ p U hb (tX p []+1) a [] [] (by omega) ⟨by simp,by simp,by simp,by simp⟩ ha;unfold fP;generalize jD p (tX p []+1) a [] []=w at*;obtain⟨w1,w2⟩:=w;simp only[aS,aH,GC]at c1;refine dN aK func78 ntmps78 ?_;have W:=trivial;repeat' first|refine wf ?_|(refine nx ?_;refine sg (hc:=c1) (h:=?_))|(refine sq ?_ ?_<;>intro hc<;>try exact hc.elim)|fail
 exact aO results78
def nP(p:aF)(a:aR):Bool:=
 match p.aL.find? (mR a)with
 |some m=>if m.done=true/\m.code=1 then(bQ m.body a.bN).2.2 else false
 |none=>false
def Ir[aG prog][dG prog](p:aF)(U:List aR)(hb:Bnd p U)(a:aR)(ha:a∈U):Ok prog 104 [.agg (aH .view p),.agg (aS a)] (.iL [.sl .own 2 ((jU p a).map aS),.bool (nP p a)]):=by
 have hps:=hb.hs;simp only[aM,dS]at hps;have c2:=BA p a (by omega);unfold jU nP;rcases oL (mR a) p.aL with⟨hi,hf⟩|⟨k,hk,hi,hf⟩
 .rw [hf];rw[hi]at c2;simp only[aS,aH]at c2;refine dN aK func104 ntmps104 ?_;refine bK ?_;exact aO results104
 .rw [hf];rw[hi]at c2;have hm:=gR hk;have hz:=dJ cB hm;have hha:=hb.bN _ ha;have hg:=aE hk;simp only[cB,aW]at hz;have cp:=yX p.aL[k].body a.bN (by omega) hha;simp only[aS,aH]at c2;simp only;generalize bQ p.aL[k].body a.bN=w at*;obtain⟨w1,w2,w3⟩:=w;simp only at cp;have hk0:¬((k:Nat):Int)<0:=by omega
  cases hd1:p.aL[k].done
  .refine dN aK func104 ntmps104 ?_;have W:=aA hk0 (aA hg (aA hk hd1));refine we ?_;exact aO results104
  .by_cases hd2:p.aL[k].code=1
   .simp only[hd2,Hn,eS];refine dN aK func104 ntmps104 ?_;have W:=aA hk0 (aA hg (aA hk (aA hd1 hd2)));refine we ?_;exact aO results104
   .simp only[hd2,and_false,eW];refine dN aK func104 ntmps104 ?_;have W:=aA hk0 (aA hg (aA hk (aA hd1 hd2)));refine we ?_;exact aO results104
def Ul[aG prog][dG prog](p:aF)(a:aR)(s1 s2:List aR)(hn:s1.any (kR a)=true)(h1:s1.length<=1073741824):
  Ob prog 175 [.view (.agg (aH .view p)),.view (.agg (aS a)),.rF (.sl .own 2 (s1.map aS)),.rF (.sl .own 2 (s2.map aS))] (.iL [.sl .own 2 (s1.map aS),.sl .own 2 (s2.map aS)]):=by
 have c1:=CW s1 a (by omega);simp only[aS]at c1;rw[hn]at c1;refine uQ aK func175 ntmps175 ?_;refine bK ?_;all_goals (try exact nL (by simp[jF,fK,fH,rowOf,results175];done))
def qg{t t':List AV}{o o':List aI}{v:Nat}{l1 l4 m1 m2:List (List AV)}{o0 o2 o3 o5 o6:aI}
  (ho:o=[o0,⟨false,false,2,1,l1⟩,o2,o3,⟨false,false,2,v,l4⟩,o5,o6,⟨true,false,2,1,m1⟩,⟨true,false,2,1,m2⟩])
  (ho':o'=[o0,⟨true,false,2,1,m2⟩,o2,o3,⟨true,false,2,1,m1⟩,o5,o6])
  (hf:(o0.oM 4 7=o0/\o2.oM 4 7=o2/\o3.oM 4 7=o3/\o5.oM 4 7=o5/\o6.oM 4 7=o6)/\(o0.oM 1 8=o0/\o2.oM 1 8=o2/\o3.oM 1 8=o3/\o5.oM 1 8=o5/\o6.oM 1 8=o6))
  (hw:wk t (uG 4 7 (uG 1 8 t'))) (h1:wk (uG 4 7 (uG 4 7 (uG 1 8 t'))) (uG 1 8 t')) (h3:wk (uG 1 8 (uG 1 8 t')) t') (hc:iK 7 t'=true) (hc0:eU 7 [o0,o2,o3,o5,o6]=true):mZ ⟨t,o⟩ ⟨t',o'⟩:=by
 subst ho;subst ho';obtain⟨⟨a0,a2,a3,a5,a6⟩,b0,b2,b3,b5,b6⟩:=hf;refine(zS hw).trans ?_;refine(bI 4 7 rfl rfl ⟨rfl,rfl⟩ (by simp[a0,a2,a3,a5,a6];rfl) h1).trans ?_;refine(bI 1 8 rfl rfl ⟨rfl,rfl⟩ (by simp[b0,b2,b3,b5,b6];rfl) h3).trans ?_;refine aQ 7 (by simp) (oH _) hc ?_;simpa [eU,iK,closed]using hc0
def Wi[aG prog][dG prog](p:aF)(U:List aR)(hb:Bnd p U)(n:Nat)(a:aR)(ha:a∈U)(s1 s2:List aR)(hn:s1.any (kR a)=false)(hs:Seen U (s1,s2))(hf:tX p s1<n+1)
  (ih:∀(b:aR) (q1 q2:List aR),tX p q1<n->Seen U (q1,q2)->b∈U->Ob prog 175 [.view (.agg (aH .view p)),.view (.agg (aS b)),.rF (.sl .own 2 (q1.map aS)),.rF (.sl .own 2 (q2.map aS))] (.iL [.sl .own 2 ((jD p n b q1 q2).1.map aS),.sl .own 2 ((jD p n b q1 q2).2.map aS)])):
  Ob prog 175 [.view (.agg (aH .view p)),.view (.agg (aS a)),.rF (.sl .own 2 (s1.map aS)),.rF (.sl .own 2 (s2.map aS))] (.iL [.sl .own 2 ((jD p (n+1) a s1 s2).1.map aS),.sl .own 2 ((jD p (n+1) a s1 s2).2.map aS)]):=by
 have hps:=hb.hs;have hl:=hs.len;have hU:=hb.len;simp only[aM,dS]at hps;simp only at hl;have c1:=CW s1 a (by omega);have c2:=Ir p U hb a ha;rw[hn]at c1;have hna:a∉s1:=λh=>by rw[Ad.2 h]at hn;cases hn
 obtain⟨t1,ht1⟩:∃l:List aR,l=s1++[a]:=⟨_,rfl⟩;have e1:s1.map aS++[[.str a.bN,.str a.iD]]=t1.map aS:=by simp[ht1]
 have hl1:(s1.map aS).length=s1.length:=by simp
 have hv:jD p (n+1) a s1 s2=((gF p n (jU p a) (s1++[a],s2)).1,(gF p n (jU p a) (s1++[a],s2)).2++[a]):=by simp only[jD,hn,gF];rfl
 rw[hv];clear hv;rw[<-ht1];have hst:Seen U (t1,s2):=by
  subst ht1;exact⟨lE.2 ⟨hs.nd,by simp,λx hx y hy e=>hna (by simp at hy;subst hy;subst e;exact hx)⟩,λx hx=>by
   rcases fR.1 hx with h|h
   .exact hs.sub x h
   .simp at h;subst h;exact ha,hs.ond,λx hx=>pA _ (hs.pg x hx)⟩
 have hun:jU p a≠[]->tX p t1<n:=by intro h;have:=XI (p:=p) (s:=s1) (a:=a) (by rw[hn];simp) (O9 h);rw[<-ht1]at this;omega
 have hLU:∀b∈jU p a,b∈U:=λb h=>hb.im b (KZ p a b h)
 have hLl:(jU p a).length<=1073741824:=by
  unfold jU;split
  .rename_i m hm;split
   .have h1:=hb.ps m (pN hm);have h2:=FA hm;simp only[mR,fY]at h2
    rwa[h2]at h1
   .simp
  .simp
 clear ht1;generalize nP p a=ok at*;generalize jU p a=L at*;simp only[aS,aH]at c1 c2;refine aVb aK [3,8,9] func175 ntmps175 ?_;have W:=aA e1 hl1;refine we ?_;refine go_drawn3 [⟨4,2,[(5,⟨true,false,2,3,t1.map aS⟩),(2,⟨true,false,2,2,s1.map aS⟩),(0,⟨true,false,2,1,[]⟩)]⟩,⟨5,2,[(4,⟨true,false,2,1,[[.str a.bN,.str a.iD]]⟩)]⟩] (by simp;rfl) (by decide+kernel) (by decide+kernel) (by simp[pW,pre,Region.binds]) (by simp) ?_
 repeat' first|refine M4 (by simp;rfl) (by simp;rfl) ?_|(refine YQ ?_ (by simp;rfl) ?_;(focus (simp;done)))|(refine wM (j:=5) (v:= .obj 4 3) ⟨4,2,[(5,⟨true,false,2,3,t1.map aS⟩),(2,⟨true,false,2,2,s1.map aS⟩),(0,⟨true,false,2,1,[]⟩)]⟩ [] [(2,⟨true,false,2,2,s1.map aS⟩),(0,⟨true,false,2,1,[]⟩)] rfl (by simp) rfl (by simp[Region.binds];rfl) (by decide) (by simp[Region.binds];rfl) (by simp;rfl) rfl ?_ ?_;(focus (refine Gd (by first|(simp;rfl)|(simp;done)|rfl) rfl (by first|(simp;rfl)|(simp;done)|rfl) (by first|(simp;rfl)|(simp;done)|rfl) (by first|(simp;rfl)|(simp;done)|rfl) (by first|(simp;done)|decide) (by first|rfl|exact Bj (λ_=>rfl) _|(simp[uW,AV.lC];done)) (by first|(simp;rfl)|(simp;done)|rfl|exact W.1|exact W.2.1|exact W|(simp[W];done)) (by simp;exact⟨rfl,rfl⟩) (by simp) (by simp) (by simp;omega) (by simp;omega))))|(refine wM (j:=2) (v:= .obj 4 2) ⟨4,2,[(5,⟨true,false,2,3,t1.map aS⟩),(2,⟨true,false,2,2,s1.map aS⟩),(0,⟨true,false,2,1,[]⟩)]⟩ [(5,⟨true,false,2,3,t1.map aS⟩)] [(0,⟨true,false,2,1,[]⟩)] rfl (by simp) rfl (by simp[Region.binds];rfl) (by decide) (by simp[Region.binds];rfl) (by simp;rfl) rfl ?_ ?_;(focus (refine Gd (by first|(simp;rfl)|(simp;done)|rfl) rfl (by first|(simp;rfl)|(simp;done)|rfl) (by first|(simp;rfl)|(simp;done)|rfl) (by first|(simp;rfl)|(simp;done)|rfl) (by first|(simp;done)|decide) (by first|rfl|exact Bj (λ_=>rfl) _|(simp[uW,AV.lC];done)) (by first|(simp;rfl)|(simp;done)|rfl|exact W.1|exact W.2.1|exact W|(simp[W];done)) (by simp;exact⟨rfl,rfl⟩) (by simp) (by simp) (by simp;omega) (by simp;omega))))|(refine wM (j:=0) (v:= .obj 4 1) ⟨4,2,[(5,⟨true,false,2,3,t1.map aS⟩),(2,⟨true,false,2,2,s1.map aS⟩),(0,⟨true,false,2,1,[]⟩)]⟩ [(5,⟨true,false,2,3,t1.map aS⟩),(2,⟨true,false,2,2,s1.map aS⟩)] [] rfl (by simp) rfl (by simp[Region.binds];rfl) (by decide) (by simp[Region.binds];rfl) (by simp;rfl) rfl ?_ ?_;(focus (refine MG (by simp;exact⟨rfl,rfl⟩) (by simp) rfl rfl (by decide) (by decide) (by first|(simp;rfl)|rfl) (by simp[AV.lC]) (by simp[AV.Bn,AV.cells]) (by simp) (by simp[AV.cells]))))|(refine wM (j:=4) (v:= .obj 5 1) ⟨5,2,[(4,⟨true,false,2,1,[[.str a.bN,.str a.iD]]⟩)]⟩ [] [] rfl (by simp) rfl (by simp[Region.binds];rfl) (by decide) (by simp[Region.binds];rfl) (by simp;rfl) rfl ?_ ?_;(focus (refine qf (by simp;exact⟨rfl,rfl⟩) (by simp) rfl rfl (by decide) (by decide) (by first|(simp;rfl)|rfl) (by simp[AV.wT,AV.lC]) (by simp[AV.Bn,AV.cells]) (by simp) (by simp[AV.cells]))))|(refine YR rfl ?_ (by simp[Region.binds];rfl) (by decide) (by simp[Region.binds];rfl) (by simp;rfl) ?_ rfl (by first|rfl|(simp;done)) ?_;(focus (first|rfl|(simp;done)));(focus (first|rfl|(simp[qO];done))))|(refine nx ?_;refine so ?_)|fail
 have W:=aA e1 hl1;refine we ?_;refine aT (ι:={k:Nat×Nat // k.1<=L.length/\1<=k.2}) (λt o i=>⟨bP t [(12,.int .i64 i.1.1),(2,.obj 4 i.1.2),(3,.obj 1 1),(8,.aB),(9,.aB),(18,.aB),(20,.aB),(23,.aB)],(o.set 1 ⟨true,false,2,1,(gF p n (L.take i.1.1) (t1,s2)).2.map aS⟩).set 4 ⟨true,false,2,i.1.2,(gF p n (L.take i.1.1) (t1,s2)).1.map aS⟩⟩)
  (λi=>L.length-i.1.1) ⟨(0,3),by simp,by simp⟩ (aP (by simp[gF]) (by simp)) ?_
 rintro⟨⟨k,v⟩,hk,hv⟩ K1 hK1;simp only[bP,cH,cQ]at hk hv hK1⊢;have hk1:=tQ (k:=k);by_cases hlt:k<L.length
 .have hg2:=aE hlt;obtain⟨f1,f2⟩:=De hb.im n (L.take k) (t1,s2) (λb h=>hLU b (tA h)) hst;have f3:=Qi (p:=p) f2;have jE:L≠[]:=by intro h;rw[h]at hlt;simp at hlt
  have hun':=hun jE;have c3:=ih L[k] (gF p n (L.take k) (t1,s2)).1 (gF p n (L.take k) (t1,s2)).2 (by simp only at f3;omega) f1 (hLU _ (gR hlt));have hnext:gF p n (L.take (k+1)) (t1,s2)=jD p n L[k] (gF p n (L.take k) (t1,s2)).1 (gF p n (L.take k) (t1,s2)).2:=by rw[fN hlt,Iq]
  generalize gF p n (L.take k) (t1,s2)=q at*;obtain⟨q1,q2⟩:=q;simp only at c3 hnext⊢;generalize jD p n L[k] q1 q2=w at*;obtain⟨w1,w2⟩:=w;simp only[aS,aH]at c3;have W:=aA hk1 (aA hg2 hlt);refine we ?_;rw[vO];refine go_drawn (by simp;rfl) (by simp;rfl) (by decide+kernel) (by decide) (by first|rfl|(simp[iq];done)) (by simp) (by simp) ?_;iterate 7 (
   refine go_draw rfl (by first|rfl|(simp;done)) (by simp[Region.binds];rfl) (by decide) (by simp[Region.binds];rfl) (by simp;rfl) ?_ ?_
   .first|rfl|(simp[qO];done)
   refine nx ?_;refine so ?_;refine kN ?_;refine go_next (by simp;done) (by simp;rfl) (by simp;rfl) ?_)
  refine FO (s1:= ?s1) (by decide+kernel) (by simp[wJ,reach,pW,Region.binds,GS];rfl) ?ha ?hk;case ha=>
   repeat' (first|refine st ?_|(refine nx ?_;first|refine so ?_|refine sg (hc:=c3) (h:= ?_))|refine sx ?_ ?_|refine sy ?_ ?_|fail)
   all_goals rfl
  case hk=>
   have W:=hk1;refine we ?_;refine hK1 _ ⟨(k+1,1),by simp only;omega,by simp⟩ ?_ (by simp only;omega);simp only[hnext];refine qg rfl rfl (by simp) (by simp) (by simp) (by simp) (by simp) (by simp[eU,iK,closed])
 .have htk:L.take k=L:=eN (by omega);rw[htk];have f1:=(De hb.im n L (t1,s2) hLU hst).1.len;generalize gF p n L (t1,s2)=q at*;obtain⟨q1,q2⟩:=q;simp only at f1;have hl2:(q2.map aS).length=q2.length:=by simp
  obtain⟨t2,ht2⟩:∃l:List aR,l=q2++[a]:=⟨_,rfl⟩;have e2:q2.map aS++[[.str a.bN,.str a.iD]]=t2.map aS:=by simp[ht2]
  simp only;rw[<-ht2];clear ht2;have W:=aA e2 hk1;refine we ?_;refine go_drawn3 [⟨7,2,[(6,⟨true,false,2,3,t2.map aS⟩),(3,⟨true,false,2,2,q2.map aS⟩),(1,⟨true,false,2,1,[]⟩)]⟩,⟨8,2,[(5,⟨true,false,2,1,[[.str a.bN,.str a.iD]]⟩)]⟩] (by simp;rfl) (by decide+kernel) (by decide+kernel) (by simp[pW,pre,Region.binds]) (by simp) ?_
  repeat' first|refine M4 (by simp;rfl) (by simp;rfl) ?_|(refine YQ ?_ (by simp;rfl) ?_;(focus (simp;done)))|(refine wM (j:=6) (v:= .obj 7 3) ⟨7,2,[(6,⟨true,false,2,3,t2.map aS⟩),(3,⟨true,false,2,2,q2.map aS⟩),(1,⟨true,false,2,1,[]⟩)]⟩ [] [(3,⟨true,false,2,2,q2.map aS⟩),(1,⟨true,false,2,1,[]⟩)] rfl (by simp) rfl (by simp[Region.binds];rfl) (by decide) (by simp[Region.binds];rfl) (by simp;rfl) rfl ?_ ?_;(focus (refine Gd (by first|(simp;rfl)|(simp;done)|rfl) rfl (by first|(simp;rfl)|(simp;done)|rfl) (by first|(simp;rfl)|(simp;done)|rfl) (by first|(simp;rfl)|(simp;done)|rfl) (by first|(simp;done)|decide) (by first|rfl|exact Bj (λ_=>rfl) _|(simp[uW,AV.lC];done)) (by first|(simp;rfl)|(simp;done)|rfl|exact W.1|exact W.2.1|exact W|(simp[W];done)) (by simp;exact⟨rfl,rfl⟩) (by simp) (by simp) (by simp;omega) (by simp;omega))))|(refine wM (j:=3) (v:= .obj 7 2) ⟨7,2,[(6,⟨true,false,2,3,t2.map aS⟩),(3,⟨true,false,2,2,q2.map aS⟩),(1,⟨true,false,2,1,[]⟩)]⟩ [(6,⟨true,false,2,3,t2.map aS⟩)] [(1,⟨true,false,2,1,[]⟩)] rfl (by simp) rfl (by simp[Region.binds];rfl) (by decide) (by simp[Region.binds];rfl) (by simp;rfl) rfl ?_ ?_;(focus (refine Gd (by first|(simp;rfl)|(simp;done)|rfl) rfl (by first|(simp;rfl)|(simp;done)|rfl) (by first|(simp;rfl)|(simp;done)|rfl) (by first|(simp;rfl)|(simp;done)|rfl) (by first|(simp;done)|decide) (by first|rfl|exact Bj (λ_=>rfl) _|(simp[uW,AV.lC];done)) (by first|(simp;rfl)|(simp;done)|rfl|exact W.1|exact W.2.1|exact W|(simp[W];done)) (by simp;exact⟨rfl,rfl⟩) (by simp) (by simp) (by simp;omega) (by simp;omega))))|(refine wM (j:=1) (v:= .obj 7 1) ⟨7,2,[(6,⟨true,false,2,3,t2.map aS⟩),(3,⟨true,false,2,2,q2.map aS⟩),(1,⟨true,false,2,1,[]⟩)]⟩ [(6,⟨true,false,2,3,t2.map aS⟩),(3,⟨true,false,2,2,q2.map aS⟩)] [] rfl (by simp) rfl (by simp[Region.binds];rfl) (by decide) (by simp[Region.binds];rfl) (by simp;rfl) rfl ?_ ?_;(focus (refine MG (by simp;exact⟨rfl,rfl⟩) (by simp) rfl rfl (by decide) (by decide) (by first|(simp;rfl)|rfl) (by simp[AV.lC]) (by simp[AV.Bn,AV.cells]) (by simp) (by simp[AV.cells]))))|(refine wM (j:=5) (v:= .obj 8 1) ⟨8,2,[(5,⟨true,false,2,1,[[.str a.bN,.str a.iD]]⟩)]⟩ [] [] rfl (by simp) rfl (by simp[Region.binds];rfl) (by decide) (by simp[Region.binds];rfl) (by simp;rfl) rfl ?_ ?_;(focus (refine qf (by simp;exact⟨rfl,rfl⟩) (by simp) rfl rfl (by decide) (by decide) (by first|(simp;rfl)|rfl) (by simp[AV.wT,AV.lC]) (by simp[AV.Bn,AV.cells]) (by simp) (by simp[AV.cells]))))|(refine YR rfl ?_ (by simp[Region.binds];rfl) (by decide) (by simp[Region.binds];rfl) (by simp;rfl) ?_ rfl (by first|rfl|(simp;done)) ?_;(focus (first|rfl|(simp;done)));(focus (first|rfl|(simp[qO];done))))|(refine nx ?_;refine so ?_)|fail
  have W:=aA e2 hk1;refine we ?_;all_goals (try exact nL (by simp[jF,fK,fH,rowOf,results175];done))
def Na[aG prog][dG prog](p:aF)(U:List aR)(hb:Bnd p U):∀(n:Nat) (a:aR) (s1 s2:List aR),tX p s1<n->Seen U (s1,s2)->a∈U->Ob prog 175 [.view (.agg (aH .view p)),.view (.agg (aS a)),.rF (.sl .own 2 (s1.map aS)),.rF (.sl .own 2 (s2.map aS))] (.iL [.sl .own 2 ((jD p n a s1 s2).1.map aS),.sl .own 2 ((jD p n a s1 s2).2.map aS)])
 |0,_,_,_,h,_,_=>absurd h (by omega)
 |n+1,a,s1,s2,h,hs,ha=>by
  have hl:=hs.len;have hU:=hb.len;simp only at hl;cases hn:s1.any (kR a)
  .exact Wi p U hb n a ha s1 s2 hn hs h (λb q1 q2 h1 h2 h3=>Na p U hb n b q1 q2 h1 h2 h3)
  .have:jD p (n+1) a s1 s2=(s1,s2):=by simp[jD,hn]
   rw[this];exact Ul p a s1 s2 hn (by omega)
def Dh[aG prog][dG prog](p:aF)(U:List aR)(hb:Bnd p U)(a:aR)(ha:a∈U):Ok prog 119 [.agg (aH .view p),.agg (aS a)] (.sl .own 2 ((fP p a).map aS)):=by
 have c1:=Na p U hb (tX p []+1) a [] [] (by omega) ⟨by simp,by simp,by simp,by simp⟩ ha;unfold fP;generalize jD p (tX p []+1) a [] []=w at*;obtain⟨w1,w2⟩:=w;simp only[aS,aH,GC]at c1;refine dN aK func119 ntmps119 ?_;have W:=trivial;repeat' first|refine wf ?_|(refine nx ?_;refine sg (hc:=c1) (h:=?_))|(refine sq ?_ ?_<;>intro hc<;>try exact hc.elim)|fail
 exact aO results119
def qh(c:UInt8):∀s:bE,bU iM (dQ c s)<=s.length
 |[]=>by simp[dQ,bU,iM]
 |x::s=>by
  have ih:=qh c s;simp only[dQ];split
  .simp only[bU,iM,fL,eL]at ih⊢;omega
  .split
   .rename_i h0;exact absurd h0 (sD c s)
   .rename_i p q h0;rw[h0]at ih;simp only[bU,iM,eL]at ih⊢;omega
def aM8(s b:bE):aW (dR s b).1<=s.length+b.length:=by have h:=vL 47 s;unfold dR addrOf;split<;>split<;>simp[aW,yR]<;>omega
def aBl(base:bE):∀(l:List bE) (acc:List aR) (q:List bE),qU base l=some (acc,q)->7*acc.length<=bU iM l/\bU aW acc<=bU iM l+acc.length*base.length/\∀x∈acc,aW x<=bU iM l+base.length
 |[],acc,q,h=>by simp only[qU,eI,oT]at h;obtain⟨rfl,rfl⟩:=h;simp[bU]
 |p::ps,acc,q,h=>by
  simp only[qU]at h;split at h
  .rename_i hp;split at h
   .obtain ⟨⟨a1,q1⟩,h1,h2⟩:=xF.1 h;simp only[oT]at h2;obtain⟨rfl,rfl⟩:=h2;obtain⟨i1,i2,i3⟩:=aBl base ps a1 q1 h1;have h7:=TD hp;have ha:=aM8 (p.drop 7) base;simp only[show BL.length=7 from rfl]at h7;simp only[AN]at ha;simp only[bU,iM,eL,Bx]at i1 i2 i3⊢;refine⟨by omega,by omega,?_⟩;intro x hx;rcases mC.1 hx with rfl|hx
    .omega
    .have:=i3 x hx;omega
   .cases h
  .simp only[eI,oT]at h;obtain⟨rfl,rfl⟩:=h;simp[bU]
def Af(s b:bE):7*(bQ s b).1.length<=s.length/\bU aW (bQ s b).1<=s.length+(bQ s b).1.length*b.length/\∀x∈(bQ s b).1,aW x<=s.length+b.length:=by
 have hs:=qh 59 s;unfold bQ;split
 .simp [bU]
 .rename_i l q h;obtain⟨i1,i2,i3⟩:=aBl b _ _ _ h;split
  .exact ⟨by simp only;omega,by simp only;omega,λx hx=>by have:=i3 x hx;omega⟩
  .simp [bU]
def aBm(N:Nat):∀l:List fO,(∀m∈l,cB m<=N)->7*(l.flatMap λm=>(bQ m.body m.to.bN).1).length<=bU cB l/\bU aW (l.flatMap λm=>(bQ m.body m.to.bN).1)<=bU cB l+(l.flatMap λm=>(bQ m.body m.to.bN).1).length*N
 |[],_=>by simp[bU]
 |m::l,h=>by obtain⟨i1,i2⟩:=aBm N l (λx hx=>h x (by simp[hx]));obtain⟨j1,j2,_⟩:=Af m.body m.to.bN;have hm:=h m (by simp);simp only[cB,aW]at hm;have h3:=Nat.mul_le_mul_left (bQ m.body m.to.bN).1.length (show m.to.bN.length<=N by omega);simp only[flatMap_cons,eR,bU,lL,rK,cB,aW]at i1 i2⊢;exact⟨by omega,by omega⟩
def Iu(p:aF)(a:aR)(h:dS cB p.aL+aW a<=16777216):Bnd p (a::wP p)/\(a::wP p).length<=2396746/\bU aW (a::wP p)<=50000000000000:=by
 have hm:∀m∈p.aL,cB m<=16777216:=λm hm=>by have:=dJ cB hm;simp only[aM,dS]at h;omega
 obtain⟨f1,f2⟩:=aBm 16777216 p.aL hm;have hs:bU cB p.aL<=16777216:=by simp only[aM,dS]at h;omega
 have hl:(wP p).length<=2396745:=by unfold wP;omega
 have h4:=mB 16777216 hl;have h5:bU aW (wP p)<=16777216+(wP p).length*16777216:=by unfold wP;omega
 refine⟨⟨by omega,λx hx=>Cd _ hx,by simp only[eL];omega,?_,?_⟩,by simp only[eL];omega,by simp only[bU];omega⟩
 .intro x hx;rcases mC.1 hx with rfl|hx
  .simp only[aW]at h;omega
  .obtain ⟨m,h1,h2⟩:=Hc.1 hx;have h6:=(Af m.body m.to.bN).2.2 x h2;have h7:=hm m h1;simp only[cB,aW]at h6 h7;omega
 .intro m h1;have h6:=(Af m.body m.to.bN).1;have h7:=hm m h1;simp only[cB]at h7;omega
def Nb(p:aF)(a:aR)(h:dS cB p.aL+aW a<=16777216):(fP p a).length<=2396746/\bU aW (fP p a)<=50000000000000/\∀x∈fP p a,x∈a::wP p:=by obtain⟨hb,h1,h2⟩:=Iu p a h;have hs:=(Gc hb.im (tX p []+1) a ([],[]) (by simp) ⟨by simp,by simp,by simp,by simp⟩).1;obtain⟨h3,h4⟩:=Fb aW _ (a::wP p) hs.ond (λx hx=>hs.sub x (hs.pg x hx));exact⟨iS h4 h1,iS h3 h2,λx hx=>hs.sub x (hs.pg x hx)⟩
end Go.Proofs.YtanobkmhbpjnpaaGreatDoor
