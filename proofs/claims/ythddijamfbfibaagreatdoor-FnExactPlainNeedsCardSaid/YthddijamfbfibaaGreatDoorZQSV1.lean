/- Proved here: steps towards the statement of this claim. No condition. -/
import Derived.Test.YthddijamfbfibaaGreatDoorZQFI
import Derived.Test.YthddijamfbfibaaGreatDoorZQU8
set_option linter.all false
set_option maxRecDepth 4000
set_option maxHeartbeats 4000000
namespace Go.Proofs.YthddijamfbfibaaGreatDoor
open Go.Aw Proofs.Tryz List IntKind
def De(h:bB)(s:fU):Bool:=s.host == h
def Df(h:bB)(s:xS):Bool:=s.path == h
def sW(l:List fU)(a:aD):bA:=
 match l.find? (De a.host)with
 |some s=>match s.files.find? (Df a.path)with
  |some f=>f.response
  |none=>notFound
 |none=>notFound
theorem YW[aB prog](l:List fU)(h:bB)(hl:l.length<=1099511627776):Ok prog 112 [.sl .view 2 (l.map (bX .view)),.str h] (.int .i64 (qO (De h) l)):=by
 refine bM aG func112 ntmps112 ?_;refine aZ ?_;refine aM (ι:={k:Nat // k<=l.length/\∀x∈l.take k,De h x=false}) (λt o i=>⟨bC t [(5,.int .i64 i.1)],o⟩)
  (λi=>l.length-i.1) ⟨0,by simp,by simp⟩ aK ?_
 rintro⟨k,hk,hi⟩ K1 hK1;simp only[bC,cW,cU]at hK1⊢;have hk1:=oQ (k:=k);by_cases hlt:k<l.length
 .have hg:=aE hlt;by_cases hb:l[k].host=h
  .have hbb:(l[k].host == h)=true:=by simp[hb]
   rw[uY hlt (by simpa [De]using hb) hi];have W:=aA hk1 (aA hg (aA hlt hbb));refine we ?_;exact aF results112
  .have hbb:(l[k].host == h)=false:=by simp[hb]
   have hnx:∀x∈l.take (k+1),De h x=false:=bZ hlt hi (by simpa [De]using hb);have W:=aA hk1 (aA hg (aA hlt hbb));refine we ?_;exact hK1 _ ⟨k+1,by omega,hnx⟩ aK (by simp only;omega)
 .rw [nN (iW (by omega) hi)];have W:=hk1;refine we ?_;exact aF results112
theorem D8[aB prog](s:fU)(h:bB)(hl:s.files.length<=1099511627776):Ok prog 113 [.agg (bX .view s),.str h] (.int .i64 (qO (Df h) s.files)):=by
 refine bM aG func113 ntmps113 ?_;refine aZ ?_;refine aM (ι:={k:Nat // k<=s.files.length/\∀x∈s.files.take k,Df h x=false}) (λt o i=>⟨bC t [(5,.int .i64 i.1)],o⟩)
  (λi=>s.files.length-i.1) ⟨0,by simp,by simp⟩ aK ?_
 rintro⟨k,hk,hi⟩ K1 hK1;simp only[bC,cW,cU]at hK1⊢;have hk1:=oQ (k:=k);by_cases hlt:k<s.files.length
 .have hg:=aE hlt;by_cases hb:s.files[k].path=h
  .have hbb:(s.files[k].path == h)=true:=by simp[hb]
   rw[uY hlt (by simpa [Df]using hb) hi];have W:=aA hk1 (aA hg (aA hlt hbb));refine we ?_;exact aF results113
  .have hbb:(s.files[k].path == h)=false:=by simp[hb]
   have hnx:∀x∈s.files.take (k+1),Df h x=false:=bZ hlt hi (by simpa [Df]using hb);have W:=aA hk1 (aA hg (aA hlt hbb));refine we ?_;exact hK1 _ ⟨k+1,by omega,hnx⟩ aK (by simp only;omega)
 .rw [nN (iW (by omega) hi)];have W:=hk1;refine we ?_;exact aF results113
theorem Ql[aB prog](l:List fU)(a:aD)(hs:bP eZ l<=1099511627776):Ok prog 66 [.sl .view 2 (l.map (bX .view)),.agg (aH a)] (.agg (bF (sW l a))):=by
 simp only[bP]at hs;have c1:=YW l a.host (by omega);have c2:=Bc;simp only[bF]at c2;unfold sW;rcases lT (De a.host) l with⟨h1,h2⟩|⟨k,hk,h1,h2⟩
 .rw [h1]at c1;rw[h2];refine bM aG func66 ntmps66 ?_;refine aZ ?_;exact aF results66
 .rw [h1]at c1;rw[h2];have hg:=aE hk;have hn:¬((k:Int)<0):=by omega
  have hz:=dI eZ l k hk;simp only[eZ,bP]at hz;have c3:=D8 l[k] a.path (by omega);simp only[bX]at c3;simp only;rcases lT (Df a.path) l[k].files with⟨h3,h4⟩|⟨j,hj,h3,h4⟩
  .rw [h3]at c3;rw[h4];refine bM aG func66 ntmps66 ?_;have W:=aA hg (aA hk hn);refine we ?_;exact aF results66
  .rw [h3]at c3;rw[h4];have hg2:=aE hj;have hn2:¬((j:Int)<0):=by omega
   refine bM aG func66 ntmps66 ?_;have W:=aA hg (aA hk (aA hn (aA hg2 (aA hj hn2))));refine we ?_;exact aF results66
def Bn(top:bB)(a:aD)(now:Int)(e:fH):Bool:=(e.top == top&&decide (e.to=a))&&decide (now<=e.til)
def xE(c:pE)(top:bB)(a:aD)(now:Int):bA×Bool:=
 match c.entries.find? (Bn top a now)with
 |some e=>(e.response,true)
 |none=>(notFound,false)
theorem D9[aB prog](e:fH)(top:bB)(a:aD)(now:Int):Ok prog 145 [.agg (fP e),.eU .view [.str top] 0,.eU .view (aH a) 0,.eU .view [.int .i64 now] 0] (.bool (Bn top a now e)):=by
 unfold Bn;refine bM aG func145 ntmps145 ?_;have W:=trivial;have c0:=oG e.to a;repeat' first|refine wf ?_|(refine sq ?_ ?_<;>intro hc<;>try exact hc.elim)|fail
 all_goals try(refine aR ?_;simp[aP,results145])
 all_goals simp_all
theorem YX[aB prog](s:fU)(h:bB):Ok prog 200 [.agg (bX .view s),.eU .view [.str h] 0] (.bool (De h s)):=by unfold De;refine bM aG func200 ntmps200 ?_;refine aZ ?_;exact aF results200
theorem E5[aB prog](s:xS)(h:bB):Ok prog 202 [.agg (mP s),.eU .view [.str h] 0] (.bool (Df h s)):=by unfold Df;refine bM aG func202 ntmps202 ?_;refine aZ ?_;exact aF results202
theorem VY[aB prog](l:List fH)(top:bB)(a:aD)(now:Int)(hl:l.length<=1099511627776):Ok prog 144 [.sl .view 10 (l.map fP),.fn 145 [.eU .view [.str top] 0,.eU .view (aH a) 0,.eU .view [.int .i64 now] 0]] (.int .i64 (qO (Bn top a now) l)):=by
 refine bM aG func144 ntmps144 ?_;refine aZ ?_;refine aM (ι:={k:Nat // k<=l.length/\∀x∈l.take k,(Bn top a now) x=false}) (λt o i=>⟨bC t [(8,.int .i64 i.1),(5,.undef)],o⟩)
  (λi=>l.length-i.1) ⟨0,by simp⟩ aK ?_
 rintro⟨k,hk,hpre⟩ K1 hK1;simp only[bC,cW,cU]at hK1⊢;have hk1:=oQ (k:=k);by_cases hlt:k<l.length
 .have hg:=aE hlt;have c1:=D9 l[k] top a now;generalize hb:(Bn top a now) l[k]=b at*;have W:=aA hk1 (aA hg hlt);repeat' first|refine wf ?_|(refine sq ?_ ?_<;>intro hc<;>try exact hc.elim)|fail
  .all_goals try(refine aR ?_;simp[aP,results144])
   rw[uY hlt (by rw[hb];simpa using hc) hpre]
  .exact hK1 _ ⟨k+1,by omega,bZ hlt hpre (by rw[hb];simpa using hc)⟩ aK (by simp only;omega)
 .have W:=hk1;refine we ?_;all_goals try(refine aR ?_;simp[aP,results144])
  rw[nN (iW (by omega) hpre)]
theorem Tf[aB prog](l:List fU)(h:bB)(hl:l.length<=1099511627776):Ok prog 199 [.sl .view 2 (l.map (bX .view)),.fn 200 [.eU .view [.str h] 0]] (.int .i64 (qO (De h) l)):=by
 refine bM aG func199 ntmps199 ?_;refine aZ ?_;refine aM (ι:={k:Nat // k<=l.length/\∀x∈l.take k,(De h) x=false}) (λt o i=>⟨bC t [(8,.int .i64 i.1),(5,.undef)],o⟩)
  (λi=>l.length-i.1) ⟨0,by simp⟩ aK ?_
 rintro⟨k,hk,hpre⟩ K1 hK1;simp only[bC,cW,cU]at hK1⊢;have hk1:=oQ (k:=k);by_cases hlt:k<l.length
 .have hg:=aE hlt;have c1:=YX l[k] h;generalize hb:(De h) l[k]=b at*;have W:=aA hk1 (aA hg hlt);repeat' first|refine wf ?_|(refine sq ?_ ?_<;>intro hc<;>try exact hc.elim)|fail
  .all_goals try(refine aR ?_;simp[aP,results199])
   rw[uY hlt (by rw[hb];simpa using hc) hpre]
  .exact hK1 _ ⟨k+1,by omega,bZ hlt hpre (by rw[hb];simpa using hc)⟩ aK (by simp only;omega)
 .have W:=hk1;refine we ?_;all_goals try(refine aR ?_;simp[aP,results199])
  rw[nN (iW (by omega) hpre)]
theorem YY[aB prog](l:List xS)(h:bB)(hl:l.length<=1099511627776):Ok prog 201 [.sl .view 7 (l.map mP),.fn 202 [.eU .view [.str h] 0]] (.int .i64 (qO (Df h) l)):=by
 refine bM aG func201 ntmps201 ?_;refine aZ ?_;refine aM (ι:={k:Nat // k<=l.length/\∀x∈l.take k,(Df h) x=false}) (λt o i=>⟨bC t [(8,.int .i64 i.1),(5,.undef)],o⟩)
  (λi=>l.length-i.1) ⟨0,by simp⟩ aK ?_
 rintro⟨k,hk,hpre⟩ K1 hK1;simp only[bC,cW,cU]at hK1⊢;have hk1:=oQ (k:=k);by_cases hlt:k<l.length
 .have hg:=aE hlt;have c1:=E5 l[k] h;generalize hb:(Df h) l[k]=b at*;have W:=aA hk1 (aA hg hlt);repeat' first|refine wf ?_|(refine sq ?_ ?_<;>intro hc<;>try exact hc.elim)|fail
  .all_goals try(refine aR ?_;simp[aP,results201])
   rw[uY hlt (by rw[hb];simpa using hc) hpre]
  .exact hK1 _ ⟨k+1,by omega,bZ hlt hpre (by rw[hb];simpa using hc)⟩ aK (by simp only;omega)
 .have W:=hk1;refine we ?_;all_goals try(refine aR ?_;simp[aP,results201])
  rw[nN (iW (by omega) hpre)]
theorem jy[aB prog](l:List fU)(h:bB)(hl:l.length<=1099511627776):Ok prog 146 [.sl .view 2 (l.map (bX .view)),.str h] (.int .i64 (qO (De h) l)):=by have c1:=Tf l h hl;refine bM aG func146 ntmps146 ?_;refine aZ ?_;exact aF results146
theorem aB8[aB prog](s:fU)(h:bB)(hl:s.files.length<=1099511627776):Ok prog 147 [.agg (bX .view s),.str h] (.int .i64 (qO (Df h) s.files)):=by have c1:=YY s.files h hl;refine bM aG func147 ntmps147 ?_;refine aZ ?_;exact aF results147
theorem Jo[aB prog](c:pE)(top:bB)(a:aD)(now:Int)(hl:c.entries.length<=1099511627776):Ok prog 89 [.agg (gU .view c),.str top,.agg (aH a),.int .i64 now] (.gM [.agg (bF (xE c top a now).1),.bool (xE c top a now).2]):=by
 have c1:=VY c.entries top a now hl;have c2:=Bb;simp only[aH]at c1;simp only[bF]at c2;unfold xE;rcases lT (Bn top a now) c.entries with⟨h1,h2⟩|⟨k,hk,h1,h2⟩
 .rw [h1]at c1;rw[h2];refine bM aG func89 ntmps89 ?_;refine aZ ?_;exact aF results89
 .rw [h1]at c1;rw[h2];have hg:=aE hk;have hn:¬((k:Int)<0):=by omega
  refine bM aG func89 ntmps89 ?_;have W:=aA hg (aA hk hn);refine we ?_;exact aF results89
theorem Qm[aB prog](l:List fU)(a:aD)(hs:bP eZ l<=1099511627776):Ok prog 90 [.sl .view 2 (l.map (bX .view)),.agg (aH a)] (.agg (bF (sW l a))):=by
 simp only[bP]at hs;have c1:=jy l a.host (by omega);have c2:=Bb;simp only[bF]at c2;unfold sW;rcases lT (De a.host) l with⟨h1,h2⟩|⟨k,hk,h1,h2⟩
 .rw [h1]at c1;rw[h2];refine bM aG func90 ntmps90 ?_;refine aZ ?_;exact aF results90
 .rw [h1]at c1;rw[h2];have hg:=aE hk;have hn:¬((k:Int)<0):=by omega
  have hz:=dI eZ l k hk;simp only[eZ,bP]at hz;have c3:=aB8 l[k] a.path (by omega);simp only[bX]at c3;simp only;rcases lT (Df a.path) l[k].files with⟨h3,h4⟩|⟨j,hj,h3,h4⟩
  .rw [h3]at c3;rw[h4];refine bM aG func90 ntmps90 ?_;have W:=aA hg (aA hk hn);refine we ?_;exact aF results90
  .rw [h3]at c3;rw[h4];have hg2:=aE hj;have hn2:¬((j:Int)<0):=by omega
   refine bM aG func90 ntmps90 ?_;have W:=aA hg (aA hk (aA hn (aA hg2 (aA hj hn2))));refine we ?_;exact aF results90
def uC(ss:List gT)(s:bE×bB×List bB)(x:jW):bE×bB×List bB:=
 ((bV s.1 ss x).1,s.2.1++(bV s.1 ss x).2.1,if (bV s.1 ss x).2.2=[]then s.2.2 else s.2.2++[(bV s.1 ss x).2.2])
def eH(b:bE)(ss:List gT)(l:List jW):bE×bB×List bB:=l.foldl (uC ss) (b,[],[])
theorem Ky{α:Type}(f:α->Nat):∀a b:List α,aY f (a++b)=aY f a+aY f b
 |[],b=>by simp[aY]
 |x::xs,b=>by simp only[eA,aY,Ky f xs b];omega
theorem Ua(b:bE)(ss:List gT)(x:jW)(hx:x.text.length<=268435456)(wZ:∀n,0<=bJ ss n/\bJ ss n<=999)(hn:b.nodes.length<=274877906944):
  aU (bV b ss x).1<=aU b+x.text.length+1/\(bV b ss x).2.1.length<=x.text.length/\(bV b ss x).2.2.length<=x.text.length+30:=by
 have z7:=iL (aX b x.text) (by unfold aX;omega) (by
  unfold aX;have:=oB (λy:jP=>decide (y.name=x.text)) b.nodes;omega)
 have hc:=wZ x.text;have z8:=iL (bJ ss x.text) (by omega) (by omega);unfold bV;split
 .refine ⟨by simp only;omega,by simp,by simp⟩
 .split
  .split
   .refine ⟨?_,by simp,by simp⟩;simp only[aU,bP,eR,Ky,aY,sU,eN,eV];omega
   .simp only[eV];omega
  .split
   .refine ⟨by simp only;omega,by simp,?_⟩;simp only[eR,yQ,eN,eV];omega
   .split
    .refine ⟨by simp only;omega,by simp,?_⟩;simp only[eR,Dm,eN,eV];omega
    .split
     .refine ⟨by simp only;omega,by simp,?_⟩;simp only[eR,Me,eN,eV];omega
     .simp only[eV];omega
def tH(b:bE)(ss:List gT)(l:List jW)(k:Nat):bE×bB×List bB:=eH b ss (l.take k)
theorem Kz(b:bE)(ss:List gT)(l:List jW)(k:Nat)(h:k<l.length):tH b ss l (k+1)=uC ss (tH b ss l k) l[k]:=by unfold tH eH;rw[eJ h,GB];rfl
theorem Cg(N:Nat)(b:bE)(ss:List gT)(l:List jW)(hN:N<=268435456)(hl:l.length<=6)(hx:∀x∈l,x.text.length<=N)(wZ:∀n,0<=bJ ss n/\bJ ss n<=999)(hb:aU b<=68719476736):
  ∀k,k<=l.length->aU (tH b ss l k).1<=aU b+k*(N+1)/\(tH b ss l k).2.1.length<=k*N/\(tH b ss l k).2.2.length<=k/\aY gJ (tH b ss l k).2.2<=k*(N+30)
 |0,_=>by simp[tH,eH,aY]
 |k+1,h=>by
  obtain⟨h1,h2,h3,h4⟩:=Cg N b ss l hN hl hx wZ hb k (by omega);rw[Kz b ss l k (by omega)];have hxk:=hx _ (fS (show k<l.length by omega));have hkN:k*(N+1)<=6*(268435456+1):=Nat.mul_le_mul (by omega) (by omega);have hn:(tH b ss l k).1.nodes.length<=274877906944:=by simp only[aU,bP]at h1 hb;omega
  obtain⟨z1,z2,z3⟩:=Ua (tH b ss l k).1 ss l[k] (by omega) wZ hn;generalize tH b ss l k=g at*;have e1:(k+1)*(N+1)=k*(N+1)+(N+1):=by rw[rB];omega
  have e2:(k+1)*N=k*N+N:=by rw[rB];omega
  have e3:(k+1)*(N+30)=k*(N+30)+(N+30):=by rw[rB];omega
  rw[e1,e2,e3];refine⟨?_,?_,?_,?_⟩
  .simp only[uC];omega
  .simp only[uC,eR];omega
  .simp only[uC];split
   .omega
   .simp only[eR,eN,eV];omega
  .simp only[uC];split
   .omega
   .simp only[Ky,aY,gJ];omega
theorem XV{t t':List AV}{o o':List aN}{v u:Nat}{n0 p0 n1 p1 lg:List (List AV)}{o0 o1:aN}
  (ho:o.take 9=[o0,o1,⟨true,false,4,1,n0⟩,⟨true,false,1,1,p0⟩,⟨true,true,2,0,[[.obj 7 1,.obj 8 1]]⟩,⟨true,false,1,v,lg⟩,⟨true,true,2,u,[[.obj 7 1,.obj 8 1]]⟩,⟨true,false,4,1,n1⟩,⟨true,false,1,1,p1⟩])
  (ho':o'=[o0,o1,⟨true,false,4,1,n1⟩,⟨true,false,1,1,p1⟩,⟨true,true,2,0,[[.obj 2 1,.obj 3 1]]⟩,⟨true,false,1,v,lg⟩])
  (hf:(o0.lV 2 7=o0/\o1.lV 2 7=o1)/\(o0.lV 3 8=o0/\o1.lV 3 8=o1)) (hw:wk t t') (h1:wk (rP 2 7 t') t') (h3:wk (rP 3 8 t') t') (hc:eP 6 t'=true) (hc1:eP 9 t'=true) (hc0:dB 6 [o0,o1]=true) (ZX:dB 9 [o0,o1]=true):lC ⟨t,o⟩ ⟨t',o'⟩:=by
 subst ho';obtain⟨⟨a0,a1⟩,b0,b1⟩:=hf;refine(aT 9 ho hw hc1 (by simpa [dB,eP,closed,GF]using ZX)).trans ?_;refine(aS 2 7 rfl rfl ⟨rfl,rfl⟩ (by simp[a0,a1];rfl) h1).trans ?_;refine(aS 3 8 rfl rfl ⟨rfl,rfl⟩ (by simp[b0,b1];rfl) h3).trans ?_;refine aT 6 (by simp) (lK _) hc ?_;simpa [dB,eP,closed]using hc0
theorem ZV[aB prog](l0:List aD)(k:Int)(h0:0<=k)(hl:k+(aY (λ_=>2) l0:Nat)<=4611686018427387000)(hll:l0.length<=4611686018427387904):Ok prog 14 [.sl .view 2 ((PH DK (λ_=>2) k l0).map aH),.int .i64 k] (.int .i64 (k+(aY (λ_=>2) l0:Nat))):=by
 have hget:∀j (h:j<l0.length),(PH DK (λ_=>2) k l0)[j]? =some (DK (k+(aY (λ_=>2) (l0.take j):Nat)) l0[j]):=λj h=>by rw[aE (by rw[uD];exact h),Fv]
 generalize hu:PH DK (λ_=>2) k l0=l at*;have hlen:l.length=l0.length:=by rw[<-hu,uD]
 refine bM aG func14 ntmps14 ?_;refine gV ?_;refine aM (ι:={j:Nat // j<=l0.length}) (λt o i=>⟨bC t [(1,.int .i64 (k+(aY (λ_=>2) (l0.take i.1):Nat))),(5,.int .i64 i.1)],o⟩)
  (λi=>l0.length-i.1) ⟨0,by simp⟩ (aK (by simp) (by simp[aY])) ?_
 rintro⟨j,hj⟩ K1 hK1;simp only[bC,cW,cU]at hK1⊢;have hj1:i64.wrap ((j:Int)+1)=((j+1:Nat):Int):=by rw[wrap64]<;>omega
 have hle:=jY (λ_=>2) l0 (j+1);by_cases hlt:j<l0.length
 .have hts:=jB (λ_=>2) l0 j hlt
  have hg:l[j]? =some (DK (k+(aY (λ_=>2) (l0.take j):Nat)) l0[j]):=hget j hlt;generalize hq:k+(aY (λ_=>2) (l0.take j):Nat)=q at*;have e2:q+1+1=q+2:=by omega
  simp only[DK,PI]at hg;have W:=aA hlen (aA hj1 (aA hg e2));have V:=aA hlen (aA hj1 (aA hg (aA hlt e2)));repeat' first|refine wg ?_|(refine nx ?_;refine sk (hc:=xX _ (by omega)) (h:=?_))|(refine sq ?_ ?_<;>intro hc<;>try exact hc.elim)|fail
  refine hK1 _ ⟨j+1,by omega⟩ (aK (by simp) ?_) (by simp only;omega);simp;omega
 .have htk:l0.take j=l0:=cX (by omega);have hjl:j=l0.length:=by omega
  rw[htk]at*;have W:=aA hlen hj1;refine wl ?_;exact aF results14
end Go.Proofs.YthddijamfbfibaaGreatDoor
