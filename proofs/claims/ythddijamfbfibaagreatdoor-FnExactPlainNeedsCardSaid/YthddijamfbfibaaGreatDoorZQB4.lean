/- Proved here: steps towards the statement of this claim. No condition. -/
import Derived.Test.YthddijamfbfibaaGreatDoorZQSV1
set_option linter.all false
set_option maxRecDepth 4000
set_option maxHeartbeats 4000000
namespace Go.Proofs.YthddijamfbfibaaGreatDoor
open Go.Aw Proofs.Tryz List IntKind
theorem Ti[aB prog](l:List fU)(hs:bP eZ l<=274877906944):Ok prog 141 [.sl .view 2 (l.map (bX .view))] (.sl .own 2 (l.map (bX .own))):=by
 simp only[bP]at hs;refine bM aG func141 ntmps141 ?_;refine aZ ?_;refine aM (ι:={q:Nat×Nat // q.1<=l.length/\1<=q.2}) (λt o i=>⟨bC t [(3,.obj 0 i.1.2),(9,.int .i64 i.1.1),(5,.undef)],o.take 0++[⟨true,false,2,i.1.2,(l.take i.1.1).map (bX .own)⟩]⟩)
  (λi=>l.length-i.1.1) ⟨(0,1),by simp,by first|(simp;done)|(simp only;omega)⟩ aK ?_
 rintro⟨⟨k,v⟩,hk,hv⟩ K1 hK1;simp only at hk hv;simp only[bC,cW,cU,eL,fW,eA,eM]at hK1⊢;have hk1:=oQ (k:=k);by_cases hlt:k<l.length
 .have hg:=aE hlt;have hps:=Au (bX .own) l k hlt;have hz:=dI eZ l k hlt;simp only[eZ,bP]at hz;have IQ:((l.take k).map (bX .own)).length=k:=by simp;omega
  generalize (l.take k).map (bX .own)=g at*;have W:=aA hk1 (aA hg (aA hlt IQ));refine we ?_;all_goals refine hK1 _ ⟨(k+1,v+1),by simp only;omega,by simp only;omega⟩ (aT 1 (by simp[hps])) (by simp only;omega)
 .have htk:l.take k=l:=cX (by omega);rw[htk];have W:=hk1;refine we ?_;exact aF results141
theorem E8[aB prog](l:List fU)(hs:bP eZ l<=274877906944):Ok prog 109 [.sl .view 2 (l.map (bX .view))] (.sl .own 2 (l.map (bX .own))):=by
 simp only[bP]at hs;refine bM aG func109 ntmps109 ?_;refine aZ ?_;refine aM (ι:={q:Nat×Nat // q.1<=l.length/\1<=q.2}) (λt o i=>⟨bC t [(3,.obj 0 i.1.2),(4,.int .i64 i.1.1)],o.take 0++[⟨true,false,2,i.1.2,(l.take i.1.1).map (bX .own)⟩]⟩)
  (λi=>l.length-i.1.1) ⟨(0,1),by simp,by first|(simp;done)|(simp only;omega)⟩ aK ?_
 rintro⟨⟨k,v⟩,hk,hv⟩ K1 hK1;simp only at hk hv;simp only[bC,cW,cU,eL,fW,eA,eM]at hK1⊢;have hk1:=oQ (k:=k);by_cases hlt:k<l.length
 .have hg:=aE hlt;have hps:=Au (bX .own) l k hlt;have hz:=dI eZ l k hlt;simp only[eZ,bP]at hz;have IQ:((l.take k).map (bX .own)).length=k:=by simp;omega
  generalize (l.take k).map (bX .own)=g at*;have W:=aA hk1 (aA hg (aA hlt IQ));refine we ?_;all_goals refine hK1 _ ⟨(k+1,v+1),by simp only;omega,by simp only;omega⟩ (aT 1 (by simp[hps])) (by simp only;omega)
 .have htk:l.take k=l:=cX (by omega);rw[htk];have W:=hk1;refine we ?_;exact aF results109
theorem LF[aB prog](c:pE)(hs:nS c<=274877906944):Ok prog 142 [.agg (gU .view c)] (.agg (gU .own c)):=by simp only[nS,bP]at hs;refine bM aG func142 ntmps142 ?_;refine aZ ?_;exact aF results142
theorem Tj[aB prog](c:pE)(hs:nS c<=274877906944):Ok prog 110 [.agg (gU .view c)] (.agg (gU .own c)):=by simp only[nS,bP]at hs;refine bM aG func110 ntmps110 ?_;refine aZ ?_;exact aF results110
theorem Tk[aB prog](n:kU)(hs:kV n<=274877906944):Ok prog 86 [.agg (nA .view n)] (.agg (nA .own n)):=by simp only[kV]at hs;have c1:=Ti n.gD (by omega);have c2:=LF n.cache (by omega);simp only[gU]at c2;simp only[bP]at hs;refine bM aG func86 ntmps86 ?_;refine aZ ?_;exact aF results86
theorem Tm[aB prog](n:kU)(hs:kV n<=274877906944):Ok prog 62 [.agg (nA .view n)] (.agg (nA .own n)):=by simp only[kV]at hs;have c1:=E8 n.gD (by omega);have c2:=Tj n.cache (by omega);simp only[gU]at c2;simp only[bP]at hs;refine bM aG func62 ntmps62 ?_;refine aZ ?_;exact aF results62
theorem Jq[aB prog](c:pE)(top:bB)(a:aD)(now:Int)(hl:c.entries.length<=1099511627776):Ok prog 65 [.agg (gU .view c),.str top,.agg (aH a),.int .i64 now] (.gM [.agg (bF (xE c top a now).1),.bool (xE c top a now).2]):=by
 have c2:=Bc;simp only[bF]at c2;unfold xE;refine bM aG func65 ntmps65 ?_;refine aZ ?_;refine aM (ι:={k:Nat // k<=c.entries.length/\∀x∈c.entries.take k,Bn top a now x=false}) (λt o i=>⟨bC t [(10,.int .i64 i.1)],o⟩)
  (λi=>c.entries.length-i.1) ⟨0,by simp,by simp⟩ aK ?_
 rintro⟨k,hk,hi⟩ K1 hK1;simp only[bC,cW,cU]at hK1⊢;have hk1:=oQ (k:=k);by_cases hlt:k<c.entries.length
 .have hg:=aE hlt;have hnx:Bn top a now c.entries[k]=false->∀x∈c.entries.take (k+1),Bn top a now x=false:=λh=>bZ hlt hi h
  have hfd:Bn top a now c.entries[k]=true->c.entries.find? (Bn top a now)=some c.entries[k]:=λh=>aAl hlt h hi
  by_cases h1:c.entries[k].top=top
  .have KV:(c.entries[k].top == top)=true:=by simp[h1]
   by_cases h2:c.entries[k].to=a
   .by_cases h3:now<=c.entries[k].til
    .rw [hfd (by simp[Bn,h1,h2,h3])];have W:=aA hk1 (aA hg (aA hlt (aA KV (aA h2 h3))));have c0:=oG a a;refine we ?_;exact aF results65
    .have hnx:=hnx (by simp[Bn,h3]);have W:=aA hk1 (aA hg (aA hlt (aA KV (aA h2 h3))));have c0:=oG a a;refine we ?_;exact hK1 _ ⟨k+1,by omega,hnx⟩ aK (by simp only;omega)
   .have hnx:=hnx (by simp[Bn,h2]);have W:=aA hk1 (aA hg (aA hlt (aA KV h2)));have c0:=oG c.entries[k].to a;refine we ?_;exact hK1 _ ⟨k+1,by omega,hnx⟩ aK (by simp only;omega)
  .have KV:(c.entries[k].top == top)=false:=by simp[h1]
   have hnx:=hnx (by simp[Bn,KV]);have W:=aA hk1 (aA hg (aA hlt KV));refine we ?_;exact hK1 _ ⟨k+1,by omega,hnx⟩ aK (by simp only;omega)
 .rw [aAk (iW (by omega) hi)];have W:=hk1;refine we ?_;exact aF results65
def eG(n:kU)(top:bB)(a:aD):bA:=
 if pG a=false then notFound else if (xE n.cache top a n.now).2=true then(xE n.cache top a n.now).1 else sW n.gD a
theorem ZW[aB prog](l:List aD)(k:Int)(h0:0<=k)(hl:k+(aY (λ_=>2) l:Nat)<=4611686018427387000)(hll:l.length<=4611686018427387904):OkM prog 13 (.sl .own 2 (l.map aH)) (.sl .own 2 ((PH DK (λ_=>2) k l).map aH)) [.int .i64 k] (.int .i64 (k+(aY (λ_=>2) l:Nat))):=by
 generalize hu:(PH DK (λ_=>2) k l).map aH=l';have IX:l'.length=(l.map aH).length:=by rw[<-hu];simp[uD]
 refine zx aG func13 ntmps13 ?_;refine gV ?_;refine aM (ι:={j:Nat // j<=l.length}) (λt o i=>⟨bC t [(1,.int .i64 (k+(aY (λ_=>2) (l.take i.1):Nat))),(5,.int .i64 i.1)],[⟨true,false,2,0,yR (l.map aH) l' i.1⟩]⟩)
  (λi=>l.length-i.1) ⟨0,by simp⟩ (aK (by simp[Eu]) (by simp[aY])) ?_
 rintro⟨j,hj⟩ K1 hK1;simp only[bC,cW,cU]at hK1⊢;have hj1:i64.wrap ((j:Int)+1)=((j+1:Nat):Int):=by rw[wrap64]<;>omega
 have Nn:(yR (l.map aH) l' j).length=l.length:=by rw[AJ _ _ _ IX];simp
 have hle:=jY (λ_=>2) l (j+1);by_cases hlt:j<l.length
 .have hts:=jB (λ_=>2) l j hlt
  have hmg:=Hl (l.map aH) l' j (by simpa using hlt) (by rw[IX];simpa using hlt);have GV:=Hg (l.map aH) l' j (by simpa using hlt) (by rw[IX];simpa using hlt);have he:l'[j]'(by rw[IX];simpa using hlt)=aH (DK (k+(aY (λ_=>2) (l.take j):Nat)) l[j]):=by subst hu;rw[AT,Fv]
  rw[he]at GV;generalize hq:k+(aY (λ_=>2) (l.take j):Nat)=q at*;have e2:q+1+1=q+2:=by omega
  simp only[aH,DK,PI]at GV;have W:=aA Nn (aA hmg (aA hj1 (aA GV e2)));have V:=aA Nn (aA hj1 (aA GV (aA hlt e2)));repeat' first|refine wg ?_|(refine nx ?_;refine sk (hc:=xX _ (by omega)) (h:=?_))|(refine sq ?_ ?_<;>intro hc<;>try exact hc.elim)|fail
  refine hK1 _ ⟨j+1,by omega⟩ (aK (by simp) ?_) (by simp only;omega);simp;omega
 .have hma:=Et (l.map aH) l' j IX (by simp;omega);have hjl:j=l.length:=by omega
  have hcl:iY l'=true:=by rw[<-hu];simp
  have htk:l.take j=l:=cX (by omega);rw[htk]at*;have W:=aA Nn hj1;refine wl ?_;all_goals try(refine aR ?_;simp[EW,results13,hma,hcl])
end Go.Proofs.YthddijamfbfibaaGreatDoor
