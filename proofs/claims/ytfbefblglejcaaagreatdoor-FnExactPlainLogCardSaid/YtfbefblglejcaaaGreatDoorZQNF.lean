/- Proved here: steps towards the statement of this claim. No condition. -/
import Derived.Test.YtfbefblglejcaaaGreatDoorZQU8
import Derived.Test.YtfbefblglejcaaaGreatDoorZQRLia
set_option linter.all false
set_option maxRecDepth 4000
set_option maxHeartbeats 4000000
namespace Go.Proofs.YtfbefblglejcaaaGreatDoor
open Go.Aw Proofs.Tryz List IntKind
def notFound:aZ:=⟨404,1,[],0,false,[]⟩
theorem AL[aC prog]:Ok prog 80 [] (.agg (bF notFound)):=by refine bM aF func80 ntmps80 ?_;refine aY ?_;all_goals try(refine aQ ?_;simp[aP,results80,notFound])
theorem AO[aC prog]:Ok prog 58 [] (.agg (bF notFound)):=by refine bM aF func58 ntmps58 ?_;refine aY ?_;all_goals try(refine aQ ?_;simp[aP,results58,notFound])
theorem N9{α:Type}{f:α->Bool}{l:List α}(hn:∀x∈l,f x=false):l.find? f=none:=DA.2 λx hx=>by simp[hn x hx]
theorem az{α:Type}{f:α->Bool}:∀l:List α,¬(∀x∈l,f x=false)->∃k,∃hk:k<l.length,f l[k]=true/\∀x∈l.take k,f x=false
 |[],h=>absurd (λx hx=>by cases hx) h
 |x::l,h=>by
  cases hx:f x with
  |true=>exact⟨0,by simp,by simpa using hx,by simp⟩
  |false=>
   obtain⟨k,hk,h1,h2⟩:=az l (λhl=>h (λy hy=>by
    rcases lB.1 hy with rfl|hy
    .exact hx
    .exact hl y hy))
   refine⟨k+1,by simpa using hk,by simpa using h1,λy hy=> ?_⟩;simp only[eL,lB]at hy;rcases hy with rfl|hy
   .exact hx
   .exact h2 y hy
theorem O1{α:Type}{f:α->Bool}{l:List α}{k:Nat}(h:k<l.length)(hf:f l[k]=true)(hn:∀x∈l.take k,f x=false):l.find? f=some l[k]:=by
 have e:l=l.take k++l[k]::l.drop (k+1):=by simp
 have h5:=As (find? f) e;rw[h5,find?_append];have:(l.take k).find? f=none:=DA.2 λx hx=>by simp[hn x hx]
 rw[this];simp only[Option.none_or,find?_cons,hf]
theorem lJ{α:Type}(f:α->Bool)(l:List α):(qF f l= -1/\l.find? f=none)\/∃k,∃h:k<l.length,qF f l=(k:Int)/\l.find? f=some l[k]:=by
 by_cases h:∀x∈l,f x=false
 .exact .inl ⟨nJ h,N9 h⟩
 .right;obtain⟨k,hk,h1,h2⟩:=az l h;exact⟨k,hk,uS hk h1 h2,O1 hk h1 h2⟩
def CP(h:bB)(s:fU):Bool:=s.host == h
def CQ(h:bB)(s:xM):Bool:=s.path == h
def sO(l:List fU)(a:aK):aZ:=
 match l.find? (CP a.host)with
 |some s=>match s.files.find? (CQ a.path)with
  |some f=>f.response
  |none=>notFound
 |none=>notFound
theorem XK[aC prog](l:List fU)(h:bB)(hl:l.length<=1099511627776):Ok prog 102 [.sl .view 2 (l.map (bY .view)),.str h] (.int .i64 (qF (CP h) l)):=by
 refine bM aF func102 ntmps102 ?_;refine aY ?_;refine aO (ι:={k:Nat // k<=l.length/\∀x∈l.take k,CP h x=false}) (λt o i=>⟨bC t [(5,.int .i64 i.1)],o⟩)
  (λi=>l.length-i.1) ⟨0,by simp,by simp⟩ aJ ?_
 rintro⟨k,hk,hi⟩ K1 hK1;simp only[bC,cW,cU]at hK1⊢;have hk1:=oQ (k:=k);by_cases hlt:k<l.length
 .have hg:=aE hlt;by_cases hb:l[k].host=h
  .have hbb:(l[k].host == h)=true:=by simp[hb]
   rw[uS hlt (by simpa [CP]using hb) hi];have W:=aA hk1 (aA hg (aA hlt hbb));refine we ?_;exact aD results102
  .have hbb:(l[k].host == h)=false:=by simp[hb]
   have hnx:∀x∈l.take (k+1),CP h x=false:=cB hlt hi (by simpa [CP]using hb);have W:=aA hk1 (aA hg (aA hlt hbb));refine we ?_;exact hK1 _ ⟨k+1,by omega,hnx⟩ aJ (by simp only;omega)
 .rw [nJ (iR (by omega) hi)];have W:=hk1;refine we ?_;exact aD results102
theorem xm[aC prog](s:fU)(h:bB)(hl:s.files.length<=1099511627776):Ok prog 103 [.agg (bY .view s),.str h] (.int .i64 (qF (CQ h) s.files)):=by
 refine bM aF func103 ntmps103 ?_;refine aY ?_;refine aO (ι:={k:Nat // k<=s.files.length/\∀x∈s.files.take k,CQ h x=false}) (λt o i=>⟨bC t [(5,.int .i64 i.1)],o⟩)
  (λi=>s.files.length-i.1) ⟨0,by simp,by simp⟩ aJ ?_
 rintro⟨k,hk,hi⟩ K1 hK1;simp only[bC,cW,cU]at hK1⊢;have hk1:=oQ (k:=k);by_cases hlt:k<s.files.length
 .have hg:=aE hlt;by_cases hb:s.files[k].path=h
  .have hbb:(s.files[k].path == h)=true:=by simp[hb]
   rw[uS hlt (by simpa [CQ]using hb) hi];have W:=aA hk1 (aA hg (aA hlt hbb));refine we ?_;exact aD results103
  .have hbb:(s.files[k].path == h)=false:=by simp[hb]
   have hnx:∀x∈s.files.take (k+1),CQ h x=false:=cB hlt hi (by simpa [CQ]using hb);have W:=aA hk1 (aA hg (aA hlt hbb));refine we ?_;exact hK1 _ ⟨k+1,by omega,hnx⟩ aJ (by simp only;omega)
 .rw [nJ (iR (by omega) hi)];have W:=hk1;refine we ?_;exact aD results103
theorem PM[aC prog](l:List fU)(a:aK)(hs:bQ eY l<=1099511627776):Ok prog 60 [.sl .view 2 (l.map (bY .view)),.agg (aL a)] (.agg (bF (sO l a))):=by
 simp only[bQ]at hs;have c1:=XK l a.host (by omega);have c2:=AO;simp only[bF]at c2;unfold sO;rcases lJ (CP a.host) l with⟨h1,h2⟩|⟨k,hk,h1,h2⟩
 .rw [h1]at c1;rw[h2];refine bM aF func60 ntmps60 ?_;refine aY ?_;exact aD results60
 .rw [h1]at c1;rw[h2];have hg:=aE hk;have hn:¬((k:Int)<0):=by omega
  have hz:=dK eY l k hk;simp only[eY,bQ]at hz;have c3:=xm l[k] a.path (by omega);simp only[bY]at c3;simp only;rcases lJ (CQ a.path) l[k].files with⟨h3,h4⟩|⟨j,hj,h3,h4⟩
  .rw [h3]at c3;rw[h4];refine bM aF func60 ntmps60 ?_;have W:=aA hg (aA hk hn);refine we ?_;exact aD results60
  .rw [h3]at c3;rw[h4];have hg2:=aE hj;have hn2:¬((j:Int)<0):=by omega
   refine bM aF func60 ntmps60 ?_;have W:=aA hg (aA hk (aA hn (aA hg2 (aA hj hn2))));refine we ?_;exact aD results60
def Bb(top:bB)(a:aK)(now:Int)(e:fH):Bool:=(e.top == top&&decide (e.to=a))&&decide (now<=e.til)
def xA(c:oV)(top:bB)(a:aK)(now:Int):aZ×Bool:=
 match c.entries.find? (Bb top a now)with
 |some e=>(e.response,true)
 |none=>(notFound,false)
theorem xn[aC prog](e:fH)(top:bB)(a:aK)(now:Int):Ok prog 135 [.agg (fP e),.eQ .view [.str top] 0,.eQ .view (aL a) 0,.eQ .view [.int .i64 now] 0] (.bool (Bb top a now e)):=by
 unfold Bb;refine bM aF func135 ntmps135 ?_;have W:=trivial;have c0:=oC e.to a;repeat' first|refine wf ?_|(refine sq ?_ ?_<;>intro hc<;>try exact hc.elim)|fail
 all_goals try(refine aQ ?_;simp[aP,results135])
 all_goals simp_all
theorem XL[aC prog](s:fU)(h:bB):Ok prog 189 [.agg (bY .view s),.eQ .view [.str h] 0] (.bool (CP h s)):=by unfold CP;refine bM aF func189 ntmps189 ?_;refine aY ?_;exact aD results189
theorem xq[aC prog](s:xM)(h:bB):Ok prog 191 [.agg (mI s),.eQ .view [.str h] 0] (.bool (CQ h s)):=by unfold CQ;refine bM aF func191 ntmps191 ?_;refine aY ?_;exact aD results191
theorem UU[aC prog](l:List fH)(top:bB)(a:aK)(now:Int)(hl:l.length<=1099511627776):Ok prog 134 [.sl .view 10 (l.map fP),.fn 135 [.eQ .view [.str top] 0,.eQ .view (aL a) 0,.eQ .view [.int .i64 now] 0]] (.int .i64 (qF (Bb top a now) l)):=by
 refine bM aF func134 ntmps134 ?_;refine aY ?_;refine aO (ι:={k:Nat // k<=l.length/\∀x∈l.take k,(Bb top a now) x=false}) (λt o i=>⟨bC t [(8,.int .i64 i.1),(5,.undef)],o⟩)
  (λi=>l.length-i.1) ⟨0,by simp⟩ aJ ?_
 rintro⟨k,hk,hpre⟩ K1 hK1;simp only[bC,cW,cU]at hK1⊢;have hk1:=oQ (k:=k);by_cases hlt:k<l.length
 .have hg:=aE hlt;have c1:=xn l[k] top a now;generalize hb:(Bb top a now) l[k]=b at*;have W:=aA hk1 (aA hg hlt);repeat' first|refine wf ?_|(refine sq ?_ ?_<;>intro hc<;>try exact hc.elim)|fail
  .all_goals try(refine aQ ?_;simp[aP,results134])
   rw[uS hlt (by rw[hb];simpa using hc) hpre]
  .exact hK1 _ ⟨k+1,by omega,cB hlt hpre (by rw[hb];simpa using hc)⟩ aJ (by simp only;omega)
 .have W:=hk1;refine we ?_;all_goals try(refine aQ ?_;simp[aP,results134])
  rw[nJ (iR (by omega) hpre)]
theorem Sm[aC prog](l:List fU)(h:bB)(hl:l.length<=1099511627776):Ok prog 188 [.sl .view 2 (l.map (bY .view)),.fn 189 [.eQ .view [.str h] 0]] (.int .i64 (qF (CP h) l)):=by
 refine bM aF func188 ntmps188 ?_;refine aY ?_;refine aO (ι:={k:Nat // k<=l.length/\∀x∈l.take k,(CP h) x=false}) (λt o i=>⟨bC t [(8,.int .i64 i.1),(5,.undef)],o⟩)
  (λi=>l.length-i.1) ⟨0,by simp⟩ aJ ?_
 rintro⟨k,hk,hpre⟩ K1 hK1;simp only[bC,cW,cU]at hK1⊢;have hk1:=oQ (k:=k);by_cases hlt:k<l.length
 .have hg:=aE hlt;have c1:=XL l[k] h;generalize hb:(CP h) l[k]=b at*;have W:=aA hk1 (aA hg hlt);repeat' first|refine wf ?_|(refine sq ?_ ?_<;>intro hc<;>try exact hc.elim)|fail
  .all_goals try(refine aQ ?_;simp[aP,results188])
   rw[uS hlt (by rw[hb];simpa using hc) hpre]
  .exact hK1 _ ⟨k+1,by omega,cB hlt hpre (by rw[hb];simpa using hc)⟩ aJ (by simp only;omega)
 .have W:=hk1;refine we ?_;all_goals try(refine aQ ?_;simp[aP,results188])
  rw[nJ (iR (by omega) hpre)]
theorem XM[aC prog](l:List xM)(h:bB)(hl:l.length<=1099511627776):Ok prog 190 [.sl .view 7 (l.map mI),.fn 191 [.eQ .view [.str h] 0]] (.int .i64 (qF (CQ h) l)):=by
 refine bM aF func190 ntmps190 ?_;refine aY ?_;refine aO (ι:={k:Nat // k<=l.length/\∀x∈l.take k,(CQ h) x=false}) (λt o i=>⟨bC t [(8,.int .i64 i.1),(5,.undef)],o⟩)
  (λi=>l.length-i.1) ⟨0,by simp⟩ aJ ?_
 rintro⟨k,hk,hpre⟩ K1 hK1;simp only[bC,cW,cU]at hK1⊢;have hk1:=oQ (k:=k);by_cases hlt:k<l.length
 .have hg:=aE hlt;have c1:=xq l[k] h;generalize hb:(CQ h) l[k]=b at*;have W:=aA hk1 (aA hg hlt);repeat' first|refine wf ?_|(refine sq ?_ ?_<;>intro hc<;>try exact hc.elim)|fail
  .all_goals try(refine aQ ?_;simp[aP,results190])
   rw[uS hlt (by rw[hb];simpa using hc) hpre]
  .exact hK1 _ ⟨k+1,by omega,cB hlt hpre (by rw[hb];simpa using hc)⟩ aJ (by simp only;omega)
 .have W:=hk1;refine we ?_;all_goals try(refine aQ ?_;simp[aP,results190])
  rw[nJ (iR (by omega) hpre)]
theorem bf[aC prog](l:List fU)(h:bB)(hl:l.length<=1099511627776):Ok prog 136 [.sl .view 2 (l.map (bY .view)),.str h] (.int .i64 (qF (CP h) l)):=by have c1:=Sm l h hl;refine bM aF func136 ntmps136 ?_;refine aY ?_;exact aD results136
theorem aAs[aC prog](s:fU)(h:bB)(hl:s.files.length<=1099511627776):Ok prog 137 [.agg (bY .view s),.str h] (.int .i64 (qF (CQ h) s.files)):=by have c1:=XM s.files h hl;refine bM aF func137 ntmps137 ?_;refine aY ?_;exact aD results137
theorem Ja[aC prog](c:oV)(top:bB)(a:aK)(now:Int)(hl:c.entries.length<=1099511627776):Ok prog 81 [.agg (gU .view c),.str top,.agg (aL a),.int .i64 now] (.gT [.agg (bF (xA c top a now).1),.bool (xA c top a now).2]):=by
 have c1:=UU c.entries top a now hl;have c2:=AL;simp only[aL]at c1;simp only[bF]at c2;unfold xA;rcases lJ (Bb top a now) c.entries with⟨h1,h2⟩|⟨k,hk,h1,h2⟩
 .rw [h1]at c1;rw[h2];refine bM aF func81 ntmps81 ?_;refine aY ?_;exact aD results81
 .rw [h1]at c1;rw[h2];have hg:=aE hk;have hn:¬((k:Int)<0):=by omega
  refine bM aF func81 ntmps81 ?_;have W:=aA hg (aA hk hn);refine we ?_;exact aD results81
theorem PN[aC prog](l:List fU)(a:aK)(hs:bQ eY l<=1099511627776):Ok prog 82 [.sl .view 2 (l.map (bY .view)),.agg (aL a)] (.agg (bF (sO l a))):=by
 simp only[bQ]at hs;have c1:=bf l a.host (by omega);have c2:=AL;simp only[bF]at c2;unfold sO;rcases lJ (CP a.host) l with⟨h1,h2⟩|⟨k,hk,h1,h2⟩
 .rw [h1]at c1;rw[h2];refine bM aF func82 ntmps82 ?_;refine aY ?_;exact aD results82
 .rw [h1]at c1;rw[h2];have hg:=aE hk;have hn:¬((k:Int)<0):=by omega
  have hz:=dK eY l k hk;simp only[eY,bQ]at hz;have c3:=aAs l[k] a.path (by omega);simp only[bY]at c3;simp only;rcases lJ (CQ a.path) l[k].files with⟨h3,h4⟩|⟨j,hj,h3,h4⟩
  .rw [h3]at c3;rw[h4];refine bM aF func82 ntmps82 ?_;have W:=aA hg (aA hk hn);refine we ?_;exact aD results82
  .rw [h3]at c3;rw[h4];have hg2:=aE hj;have hn2:¬((j:Int)<0):=by omega
   refine bM aF func82 ntmps82 ?_;have W:=aA hg (aA hk (aA hn (aA hg2 (aA hj hn2))));refine we ?_;exact aD results82
theorem Tt[aC prog][dL prog](b:bE)(ss:List gQ)(x:jT)(hs:aT b<=274877906944)(hx:x.text.length<=268435456)(hl:ss.length<=1099511627776)(hr:∀x∈ss,x.rules.length<=1099511627776)(wU:∀n,0<=bJ ss n/\bJ ss n<=999):
  Ok prog 285 [.agg (aU .view b),.sl .view 1 (ss.map (dZ .view)),.agg (lI x)] (.gT [.agg (aU .own (bU b ss x).1),.str (bU b ss x).2.1,.str (bU b ss x).2.2]):=by
 by_cases h1:x.op=1
 .exact aFw b ss x hs hx hl hr wU h1
 by_cases h2:x.op=2
 .exact aFx b ss x hs hx hl hr wU h2
 by_cases h3:x.op=3
 .exact aFz b ss x hs hx hl hr wU h3
 by_cases h4:x.op=4
 .exact aF1 b ss x hs hx hl hr wU h4
 by_cases h5:x.op=5
 .exact aF2 b ss x hs hx hl hr wU h5
 exact aFy b ss x hs hx hl hr wU ⟨h1,h2,h3,h4,h5⟩
theorem Tu[aC prog][dL prog](b:bE)(ss:List gQ)(x:jT)(hs:aT b<=274877906944)(hx:x.text.length<=268435456)(hl:ss.length<=1099511627776)(hr:∀x∈ss,x.rules.length<=1099511627776)(wU:∀n,0<=bJ ss n/\bJ ss n<=999):
  Ok prog 222 [.agg (aU .view b),.sl .view 1 (ss.map (dZ .view)),.agg (lI x)] (.gT [.agg (aU .own (bU b ss x).1),.str (bU b ss x).2.1,.str (bU b ss x).2.2]):=by
 by_cases h1:x.op=1
 .exact aF3 b ss x hs hx hl hr wU h1
 by_cases h2:x.op=2
 .exact aF4 b ss x hs hx hl hr wU h2
 by_cases h3:x.op=3
 .exact aF6 b ss x hs hx hl hr wU h3
 by_cases h4:x.op=4
 .exact aF7 b ss x hs hx hl hr wU h4
 by_cases h5:x.op=5
 .exact aF8 b ss x hs hx hl hr wU h5
 exact aF5 b ss x hs hx hl hr wU ⟨h1,h2,h3,h4,h5⟩
theorem qO{α:Type}{f:α->List AV}{i j:Nat}(h:∀x,rD i j (f x)=f x):∀l:List α,qK i j (l.map f)=l.map f
 |[]=>rfl
 |x::l=>by simp only[mC,qK,h,qO h l]
@[simp] theorem aO5(i j:Nat)(l:List bB):qK i j (l.map bW)=l.map bW:=qO (λ_=>rfl) l
@[simp] theorem aO6(i j:Nat)(l:List Int):qK i j (l.map mG)=l.map mG:=qO (λ_=>rfl) l
@[simp] theorem aNu(i j:Nat)(l:List oN):qK i j (l.map uR)=l.map uR:=qO (λ_=>rfl) l
@[simp] theorem aNv(i j:Nat)(l:List jT):qK i j (l.map lI)=l.map lI:=qO (λ_=>rfl) l
@[simp] theorem aNw(i j:Nat)(l:List Fv):qK i j (l.map Af)=l.map Af:=qO (λ_=>rfl) l
@[simp] theorem aJw(i j:Nat)(l:List gQ):qK i j (l.map (dZ .view))=l.map (dZ .view):=qO (λ_=>by simp) l
@[simp] theorem aLk(i j:Nat)(l:List jK):qK i j (l.map (fA .view))=l.map (fA .view):=qO (λ_=>by simp) l
theorem ig{t t':List AV}{o o':List aM}{v:Nat}{n0 p0 n1 p1 lg:List (List AV)}{o0 o1 o6:aM}
  (ho:o.take 10=[o0,o1,⟨true,false,4,1,n0⟩,⟨true,false,1,1,p0⟩,⟨true,true,2,0,[[.obj 7 1,.obj 8 1]]⟩,⟨true,false,1,v,lg⟩,o6,⟨true,false,4,1,n1⟩,⟨true,false,1,1,p1⟩,⟨true,true,2,0,[[.obj 7 1,.obj 8 1]]⟩])
  (ho':o'=[o0,o1,⟨true,false,4,1,n1⟩,⟨true,false,1,1,p1⟩,⟨true,true,2,0,[[.obj 2 1,.obj 3 1]]⟩,⟨true,false,1,v,lg⟩])
  (hf:(o0.lL 2 7=o0/\o1.lL 2 7=o1/\o6.lL 2 7=o6)/\(o0.lL 3 8=o0/\o1.lL 3 8=o1/\o6.lL 3 8=o6)) (hw:wk t t') (h1:wk (rD 2 7 t') t') (h3:wk (rD 3 8 t') t') (hc:eT 6 t'=true) (hc1:eT 10 t'=true) (hc0:dC 6 [o0,o1]=true) (YW:dC 10 [o0,o1,o6]=true):lY ⟨t,o⟩ ⟨t',o'⟩:=by
 subst ho';obtain⟨⟨a0,a1,a6⟩,b0,b1,b6⟩:=hf;refine(aV 10 ho hw hc1 (by simpa [dC,eT,closed,Fm]using YW)).trans ?_;refine(aS 2 7 rfl rfl ⟨rfl,rfl⟩ (by simp[a0,a1,a6];rfl) h1).trans ?_;refine(aS 3 8 rfl rfl ⟨rfl,rfl⟩ (by simp[b0,b1,b6];rfl) h3).trans ?_;refine aV 6 (by simp) (lC _) hc ?_;simpa [dC,eT,closed]using hc0
def tZ(ss:List gQ)(s:bE×bB×List bB)(x:jT):bE×bB×List bB:=
 ((bU s.1 ss x).1,s.2.1++(bU s.1 ss x).2.1,if (bU s.1 ss x).2.2=[]then s.2.2 else s.2.2++[(bU s.1 ss x).2.2])
def eF(b:bE)(ss:List gQ)(l:List jT):bE×bB×List bB:=l.foldl (tZ ss) (b,[],[])
theorem Ke{α:Type}(f:α->Nat):∀a b:List α,bA f (a++b)=bA f a+bA f b
 |[],b=>by simp[bA]
 |x::xs,b=>by simp only[eA,bA,Ke f xs b];omega
theorem Tv(b:bE)(ss:List gQ)(x:jT)(hx:x.text.length<=268435456)(wU:∀n,0<=bJ ss n/\bJ ss n<=999)(hn:b.nodes.length<=274877906944):
  aT (bU b ss x).1<=aT b+x.text.length+1/\(bU b ss x).2.1.length<=x.text.length/\(bU b ss x).2.2.length<=x.text.length+30:=by
 have z7:=iI (aX b x.text) (by unfold aX;omega) (by
  unfold aX;have:=oB (λy:jK=>decide (y.name=x.text)) b.nodes;omega)
 have hc:=wU x.text;have z8:=iI (bJ ss x.text) (by omega) (by omega);unfold bU;split
 .refine ⟨by simp only;omega,by simp,by simp⟩
 .split
  .split
   .refine ⟨?_,by simp,by simp⟩;simp only[aT,bQ,eR,Ke,bA,sM,eN,eV];omega
   .simp only[eV];omega
  .split
   .refine ⟨by simp only;omega,by simp,?_⟩;simp only[eR,yN,eN,eV];omega
   .split
    .refine ⟨by simp only;omega,by simp,?_⟩;simp only[eR,CY,eN,eV];omega
    .split
     .refine ⟨by simp only;omega,by simp,?_⟩;simp only[eR,LK,eN,eV];omega
     .simp only[eV];omega
def sU(b:bE)(ss:List gQ)(l:List jT)(k:Nat):bE×bB×List bB:=eF b ss (l.take k)
theorem Kg(b:bE)(ss:List gQ)(l:List jT)(k:Nat)(h:k<l.length):sU b ss l (k+1)=tZ ss (sU b ss l k) l[k]:=by unfold sU eF;rw[eI h,Fk];rfl
theorem BQ(N:Nat)(b:bE)(ss:List gQ)(l:List jT)(hN:N<=268435456)(hl:l.length<=6)(hx:∀x∈l,x.text.length<=N)(wU:∀n,0<=bJ ss n/\bJ ss n<=999)(hb:aT b<=68719476736):
  ∀k,k<=l.length->aT (sU b ss l k).1<=aT b+k*(N+1)/\(sU b ss l k).2.1.length<=k*N/\(sU b ss l k).2.2.length<=k/\bA gG (sU b ss l k).2.2<=k*(N+30)
 |0,_=>by simp[sU,eF,bA]
 |k+1,h=>by
  obtain⟨h1,h2,h3,h4⟩:=BQ N b ss l hN hl hx wU hb k (by omega);rw[Kg b ss l k (by omega)];have hxk:=hx _ (fS (show k<l.length by omega));have hkN:k*(N+1)<=6*(268435456+1):=Nat.mul_le_mul (by omega) (by omega);have hn:(sU b ss l k).1.nodes.length<=274877906944:=by simp only[aT,bQ]at h1 hb;omega
  obtain⟨z1,z2,z3⟩:=Tv (sU b ss l k).1 ss l[k] (by omega) wU hn;generalize sU b ss l k=g at*;have e1:(k+1)*(N+1)=k*(N+1)+(N+1):=by rw[pZ];omega
  have e2:(k+1)*N=k*N+N:=by rw[pZ];omega
  have e3:(k+1)*(N+30)=k*(N+30)+(N+30):=by rw[pZ];omega
  rw[e1,e2,e3];refine⟨?_,?_,?_,?_⟩
  .simp only[tZ];omega
  .simp only[tZ,eR];omega
  .simp only[tZ];split
   .omega
   .simp only[eR,eN,eV];omega
  .simp only[tZ];split
   .omega
   .simp only[Ke,bA,gG];omega
theorem WI{t t':List AV}{o o':List aM}{v u:Nat}{n0 p0 n1 p1 lg:List (List AV)}{o0 o1:aM}
  (ho:o.take 9=[o0,o1,⟨true,false,4,1,n0⟩,⟨true,false,1,1,p0⟩,⟨true,true,2,0,[[.obj 7 1,.obj 8 1]]⟩,⟨true,false,1,v,lg⟩,⟨true,true,2,u,[[.obj 7 1,.obj 8 1]]⟩,⟨true,false,4,1,n1⟩,⟨true,false,1,1,p1⟩])
  (ho':o'=[o0,o1,⟨true,false,4,1,n1⟩,⟨true,false,1,1,p1⟩,⟨true,true,2,0,[[.obj 2 1,.obj 3 1]]⟩,⟨true,false,1,v,lg⟩])
  (hf:(o0.lL 2 7=o0/\o1.lL 2 7=o1)/\(o0.lL 3 8=o0/\o1.lL 3 8=o1)) (hw:wk t t') (h1:wk (rD 2 7 t') t') (h3:wk (rD 3 8 t') t') (hc:eT 6 t'=true) (hc1:eT 9 t'=true) (hc0:dC 6 [o0,o1]=true) (YW:dC 9 [o0,o1]=true):lY ⟨t,o⟩ ⟨t',o'⟩:=by
 subst ho';obtain⟨⟨a0,a1⟩,b0,b1⟩:=hf;refine(aV 9 ho hw hc1 (by simpa [dC,eT,closed,Fm]using YW)).trans ?_;refine(aS 2 7 rfl rfl ⟨rfl,rfl⟩ (by simp[a0,a1];rfl) h1).trans ?_;refine(aS 3 8 rfl rfl ⟨rfl,rfl⟩ (by simp[b0,b1];rfl) h3).trans ?_;refine aV 6 (by simp) (lC _) hc ?_;simpa [dC,eT,closed]using hc0
theorem NL[aC prog][dL prog](b:bE)(ss:List gQ)(l:List jT)(hb:aT b<=68719476736)(h6:l.length<=6)(hx:∀x∈l,x.text.length<=268435456)(hl:ss.length<=1099511627776)(hr:∀x∈ss,x.rules.length<=1099511627776)(wU:∀n,0<=bJ ss n/\bJ ss n<=999):
  Ok prog 246 [.agg (aU .view b),.sl .view 1 (ss.map (dZ .view)),.sl .view 2 (l.map lI)] (.gT [.agg (aU .own (eF b ss l).1),.str (eF b ss l).2.1,.sl .own 1 ((eF b ss l).2.2.map bW)]):=by
 have c0:=kP b (by omega);have hsz:=BQ 268435456 b ss l (by omega) h6 hx wU hb;have NM:=Kg b ss l;have hend:sU b ss l l.length=eF b ss l:=by simp[sU]
 have hz0:sU b ss l 0=(b,[],[]):=rfl;rw[<-hend];clear hend;have cR:=λ(b:bE) (x:jT) (h1:aT b<=274877906944) (h2:x.text.length<=268435456)=>Tt b ss x h1 h2 hl hr wU
 clear hr wU;generalize sU b ss l=G at*;simp only[aU]at c0;refine bM aF func246 ntmps246 ?_;refine iF ?_;refine aO (ι:={q:Nat×Nat // q.1<=l.length/\1<=q.2}) (λt o i=>⟨bC t [(22,.int .i64 i.1.1),(10,.str (G i.1.1).2.1),(11,.obj 5 i.1.2),(13,.undef),(14,.undef),(15,.undef),(16,.undef),(18,.undef)],o.take 2++[⟨true,false,4,1,(G i.1.1).1.nodes.map (fA .own)⟩,⟨true,false,1,1,(G i.1.1).1.opens.map mG⟩,⟨true,true,2,0,[[.obj 2 1,.obj 3 1]]⟩,⟨true,false,1,i.1.2,(G i.1.1).2.2.map bW⟩]⟩)
  (λi=>l.length-i.1.1) ⟨(0,1),by simp,by simp⟩ (aJ (by simp[hz0]) (by simp[hz0])) ?_
 rintro⟨⟨k,v⟩,hk,hv⟩ K1 hK1;simp only at hk hv;simp only[bC,cW,cU,eL,fX,eA,eM]at hK1⊢;have hk1:=oQ (k:=k);by_cases hlt:k<l.length
 .have hg:=aE hlt;have hxk:=hx _ (fS hlt);obtain⟨s1,s2,s3,_⟩:=hsz k hk;have hk6:k*(268435456+1)<=6*(268435456+1):=lA _ (by omega);have hk7:k*268435456<=6*268435456:=lA _ (by omega);have hnext:=NM k hlt;have cL:=cR (G k).1 l[k] (by omega) hxk;have ht1:=(hsz (k+1) (by omega)).2.1;obtain⟨n1,p1,mw,ms,hR⟩:∃n1 p1 mw ms,bU (G k).1 ss l[k]=(⟨n1,p1⟩,mw,ms):=⟨_,_,_,_,rfl⟩;rw[hR]at cL;simp only[tZ,hR]at hnext;rw[hnext]at ht1;clear hR cR hsz NM hx;generalize hGk:G k=g at*;obtain⟨⟨n0,p0⟩,w0,lg0⟩:=g;simp only at s1 s2 s3 ht1 hnext cL;have hwl:w0.length+mw.length<=1610612736:=by rw[eR]at ht1;have:(k+1)*268435456<=6*268435456:=lA _ (by omega);omega
  have qf:lg0.length<=6:=by omega
  clear s1 s2 s3 ht1;simp only[aU,lI]at cL;by_cases Gw:ms=[]
  .rw [eK Gw]at hnext;subst Gw;have W:=aA hk1 (aA hg hwl);have V:=hlt;refine wl ?_;all_goals refine hK1 _ ⟨(k+1,v),by simp only;omega,by simp only;omega⟩ ?_ (by simp only;omega)
   all_goals exact ig rfl (by simp[hnext]) (by simp) (by simp[hnext]) (by simp) (by simp) (by simp) (by simp) (by simp[dC]) (by simp[dC])
  .rw [cX Gw]at hnext;have hmb:ms.isEmpty=false:=by cases ms with|nil=>exact absurd rfl Gw|cons _ _=>rfl
   have W:=aA hk1 (aA hg (aA hwl (aA Gw (aA hmb qf))));have V:=hlt;refine wl ?_;all_goals refine hK1 _ ⟨(k+1,v+1),by simp only;omega,by simp only;omega⟩ ?_ (by simp only;omega)
   all_goals exact ig rfl (by simp[hnext]) (by simp) (by simp[hnext]) (by simp) (by simp) (by simp) (by simp) (by simp[dC]) (by simp[dC])
 .have hkl:k=l.length:=by omega
  subst hkl;have W:=hk1;refine wl ?_;exact aD results246
theorem Eb[aC prog][dL prog](b:bE)(ss:List gQ)(l:List jT)(hb:aT b<=68719476736)(h6:l.length<=6)(hx:∀x∈l,x.text.length<=268435456)(hl:ss.length<=1099511627776)(hr:∀x∈ss,x.rules.length<=1099511627776)(wU:∀n,0<=bJ ss n/\bJ ss n<=999):
  Ok prog 171 [.agg (aU .view b),.sl .view 1 (ss.map (dZ .view)),.sl .view 2 (l.map lI)] (.gT [.agg (aU .own (eF b ss l).1),.str (eF b ss l).2.1,.sl .own 1 ((eF b ss l).2.2.map bW)]):=by
 have c0:=kQ b (by omega);have hsz:=BQ 268435456 b ss l (by omega) h6 hx wU hb;have NM:=Kg b ss l;have hend:sU b ss l l.length=eF b ss l:=by simp[sU]
 have hz0:sU b ss l 0=(b,[],[]):=rfl;rw[<-hend];clear hend;have cR:=λ(b:bE) (x:jT) (h1:aT b<=274877906944) (h2:x.text.length<=268435456)=>Tu b ss x h1 h2 hl hr wU
 clear hr wU;generalize sU b ss l=G at*;simp only[aU]at c0;refine bM aF func171 ntmps171 ?_;refine iF ?_;refine aO (ι:={q:Nat×Nat // q.1<=l.length/\1<=q.2}) (λt o i=>⟨bC t [(12,.int .i64 i.1.1),(10,.str (G i.1.1).2.1),(11,.obj 5 i.1.2),(13,.undef),(13,.undef),(14,.undef),(15,.undef),(17,.undef)],o.take 2++[⟨true,false,4,1,(G i.1.1).1.nodes.map (fA .own)⟩,⟨true,false,1,1,(G i.1.1).1.opens.map mG⟩,⟨true,true,2,0,[[.obj 2 1,.obj 3 1]]⟩,⟨true,false,1,i.1.2,(G i.1.1).2.2.map bW⟩]⟩)
  (λi=>l.length-i.1.1) ⟨(0,1),by simp,by simp⟩ (aJ (by simp[hz0]) (by simp[hz0])) ?_
 rintro⟨⟨k,v⟩,hk,hv⟩ K1 hK1;simp only at hk hv;simp only[bC,cW,cU,eL,fX,eA,eM]at hK1⊢;have hk1:=oQ (k:=k);by_cases hlt:k<l.length
 .have hg:=aE hlt;have hxk:=hx _ (fS hlt);obtain⟨s1,s2,s3,_⟩:=hsz k hk;have hk6:k*(268435456+1)<=6*(268435456+1):=lA _ (by omega);have hk7:k*268435456<=6*268435456:=lA _ (by omega);have hnext:=NM k hlt;have cL:=cR (G k).1 l[k] (by omega) hxk;have ht1:=(hsz (k+1) (by omega)).2.1;obtain⟨n1,p1,mw,ms,hR⟩:∃n1 p1 mw ms,bU (G k).1 ss l[k]=(⟨n1,p1⟩,mw,ms):=⟨_,_,_,_,rfl⟩;rw[hR]at cL;simp only[tZ,hR]at hnext;rw[hnext]at ht1;clear hR cR hsz NM hx;generalize hGk:G k=g at*;obtain⟨⟨n0,p0⟩,w0,lg0⟩:=g;simp only at s1 s2 s3 ht1 hnext cL;have hwl:w0.length+mw.length<=1610612736:=by rw[eR]at ht1;have:(k+1)*268435456<=6*268435456:=lA _ (by omega);omega
  have qf:lg0.length<=6:=by omega
  clear s1 s2 s3 ht1;simp only[aU,lI]at cL;by_cases Gw:ms=[]
  .rw [eK Gw]at hnext;subst Gw;have W:=aA hk1 (aA hg hwl);have V:=hlt;refine wl ?_;all_goals refine hK1 _ ⟨(k+1,v),by simp only;omega,by simp only;omega⟩ ?_ (by simp only;omega)
   all_goals exact WI rfl (by simp[hnext]) (by simp) (by simp[hnext]) (by simp) (by simp) (by simp) (by simp) (by simp[dC]) (by simp[dC])
  .rw [cX Gw]at hnext;have hmb:ms.isEmpty=false:=by cases ms with|nil=>exact absurd rfl Gw|cons _ _=>rfl
   have W:=aA hk1 (aA hg (aA hwl (aA Gw (aA hmb qf))));have V:=hlt;refine wl ?_;all_goals refine hK1 _ ⟨(k+1,v+1),by simp only;omega,by simp only;omega⟩ ?_ (by simp only;omega)
   all_goals exact WI rfl (by simp[hnext]) (by simp) (by simp[hnext]) (by simp) (by simp) (by simp) (by simp) (by simp[dC]) (by simp[dC])
 .have hkl:k=l.length:=by omega
  subst hkl;have W:=hk1;refine wl ?_;exact aD results171
def vN(s:bB):List bT:=(feed s).1++kG ⟨(feed s).2⟩
theorem GG(t:nI):bA bX (kG t)<=t.rest.length/\(kG t).length<=1:=by
 unfold kG;split
 .simp [bA]
 .simp [bA,bX,bQ]
theorem GH(s:bB):(vN s).length<=s.length+1/\bA bX (vN s)<=s.length:=by
 obtain⟨h1,h2⟩:=Da s.length s (eE _);obtain⟨h3,h4⟩:=GG ⟨(feed s).2⟩;have hj:∀a b:List bT,bA bX (a++b)=bA bX a+bA bX b:=by
  intro a b;induction a with
  |nil=>simp[bA]
  |cons x xs ih=>simp only[eA,bA,ih];omega
 simp only[vN,eR,hj]at*;omega
theorem PW[aC prog][bP prog](s:bB)(hl:s.length<=1048576):Ok prog 173 [.str s] (.sl .own 4 ((vN s).map (cZ .own))):=by
 have c1:=FD ⟨[]⟩ s (by simp;omega);obtain⟨h1,h2⟩:=Da s.length s (eE _);simp only[eM,dO]at c1;unfold vN;generalize feed s=f at*;obtain⟨l,x⟩:=f;simp only at c1 h1 h2⊢;have c2:=Gy ⟨x⟩ (by simp only;omega);have h4:=(GG ⟨x⟩).2;simp only[dO]at c2;generalize kG ⟨x⟩=g at*;have hb1:(l.length+g.length)*64<=140737488355328:=by omega
 refine bM aF func173 ntmps173 ?_;have W:=hb1;refine we ?_;all_goals try(refine aQ ?_;simp[aP,results173])
 all_goals (first|(rw[<-oT];exact mH _)|simp)
theorem PX[aC prog][bP prog](s:bB)(hl:s.length<=1048576):Ok prog 248 [.str s] (.sl .own 4 ((vN s).map (cZ .own))):=by
 have c1:=FE ⟨[]⟩ s (by simp;omega);obtain⟨h1,h2⟩:=Da s.length s (eE _);simp only[eM,dO]at c1;unfold vN;generalize feed s=f at*;obtain⟨l,x⟩:=f;simp only at c1 h1 h2⊢;have c2:=Gx ⟨x⟩ (by simp only;omega);have h4:=(GG ⟨x⟩).2;simp only[dO]at c2;generalize kG ⟨x⟩=g at*;have hb1:(l.length+g.length)*64<=140737488355328:=by omega
 refine bM aF func248 ntmps248 ?_;have W:=hb1;refine we ?_;all_goals try(refine aQ ?_;simp[aP,results248])
 all_goals (first|(rw[<-oT];exact mH _)|simp)
theorem FL(p:eU)(r:fV):fE p r=1\/fE p r=2:=by unfold fE;split<;>simp
def gP(p:aG)(mode:Int)(tu digest:bB)(node:Int):aG×Int:=
 if 20<=p.aB.length\/fG mode=0 then(p, -1)
 else if (bZ tu p.addr.host).2=false\/fE p.bD ⟨fG mode,(bZ tu p.addr.host).1,p.addr.host,digest⟩≠1 then
  ({p with aB:=p.aB++[(⟨mode,(bZ tu p.addr.host).1,digest,node,true,2,[]⟩:pJ)]},((p.aB.length:Nat):Int))
 else({p with aB:=p.aB++[(⟨mode,(bZ tu p.addr.host).1,digest,node,false,0,[]⟩:pJ)]},((p.aB.length:Nat):Int))
theorem Bn{p:aG}{mode:Int}{tu digest:bB}{node:Int}(h:20<=p.aB.length\/fG mode=0):gP p mode tu digest node=(p, -1):=by unfold gP;rw[eK h]
theorem Pf{p:aG}{mode:Int}{tu digest:bB}{node:Int}(h:¬(20<=p.aB.length\/fG mode=0))(h2:(bZ tu p.addr.host).2=false\/fE p.bD ⟨fG mode,(bZ tu p.addr.host).1,p.addr.host,digest⟩≠1):
  gP p mode tu digest node=({p with aB:=p.aB++[(⟨mode,(bZ tu p.addr.host).1,digest,node,true,2,[]⟩:pJ)]},((p.aB.length:Nat):Int)):=by unfold gP;rw[cX h,eK h2]
theorem LW{p:aG}{mode:Int}{tu digest:bB}{node:Int}(h:¬(20<=p.aB.length\/fG mode=0))(h1:(bZ tu p.addr.host).2=true)(h2:fE p.bD ⟨fG mode,(bZ tu p.addr.host).1,p.addr.host,digest⟩=1):
  gP p mode tu digest node=({p with aB:=p.aB++[(⟨mode,(bZ tu p.addr.host).1,digest,node,false,0,[]⟩:pJ)]},((p.aB.length:Nat):Int)):=by
 unfold gP;rw[cX h,cX (by rintro(h3|h3);rw[h1]at h3;cases h3;exact h3 h2)]
theorem yP[aC prog](p:aG)(mode:Int)(tu digest:bB)(node:Int)(hs:aI p<=274877906944)(hto:tu.length<=274877906944)(hd:digest.length<=274877906944):Ok prog 226 [.agg (aH .view p),.int .i64 mode,.str tu,.str digest,.int .i64 node] (.gT [.agg (aH .own (gP p mode tu digest node).1),.int .i64 (gP p mode tu digest node).2]):=by
 have c1:=gK p hs;simp only[aH]at c1;have hsl:p.addr.host.length<=274877906944:=by simp only[aI,aR]at hs;omega
 have GN:eD p.bD<=1099511627776:=by simp only[aI]at hs;omega
 have NB:p.aB.length<=274877906944:=by simp only[aI,bQ]at hs;omega
 have c2:=Dc mode;have c3:=zJ tu p.addr.host (by omega);by_cases Iy:(20:Int)<=(p.aB.length:Int)
 .rw [Bn (.inl (by omega))];refine bM aF func226 ntmps226 ?_;have W:=Iy;refine we ?_;exact aD results226
 by_cases hk:fG mode=0
 .rw [Bn (.inr hk)];rw[hk]at c2;refine bM aF func226 ntmps226 ?_;have W:=Iy;refine we ?_;exact aD results226
 have Dx:¬(20<=p.aB.length\/fG mode=0):=by rintro(h|h);omega;exact hk h
 have hsz:=LQ tu p.addr.host;have jX:=Pf (tu:=tu) (digest:=digest) (node:=node) Dx;have hgood:=LW (tu:=tu) (digest:=digest) (node:=node) Dx;have c5:=wG p.bD ⟨fG mode,(bZ tu p.addr.host).1,p.addr.host,digest⟩ GN (by simp only[jL];omega);have h12:=FL p.bD ⟨fG mode,(bZ tu p.addr.host).1,p.addr.host,digest⟩;have c4:=λl' Cu hl2=>xE {p with aB:=l'} (p.aB.length:Int) (by omega) Cu hl2
 have hr:∀s,iZ {p with aB:=p.aB++[s]} (p.aB.length:Int)=⟨fG s.mode,s.to,p.addr.host,s.digest⟩:=λs=>by simp[iZ,fM]
 generalize hkm:fG mode=km at*;generalize bZ tu p.addr.host=pa at*;obtain⟨a,ok⟩:=pa;simp only at c3 c5 h12 hsz jX hgood;obtain⟨s0,hs0⟩:∃s:pJ,s=⟨mode,a,digest,node,false,0,[]⟩:=⟨_,rfl⟩;obtain⟨l0,hl0⟩:∃l,l=p.aB++[s0]:=⟨_,rfl⟩;obtain⟨l3,X9⟩:∃l:List pJ,l=p.aB++[⟨mode,a,digest,node,true,2,[]⟩]:=⟨_,rfl⟩;have hap:p.aB.map vC++[[.int .i64 mode,.str a.host,.str a.path,.str digest,.int .i64 node,.bool false,.int .i64 0,.str []]]=l0.map vC:=by rw[hl0,hs0];simp
 have hg:l0[p.aB.length]? =some s0:=by rw[hl0];simp
 have zw:l0.length=p.aB.length+1:=by rw[hl0];simp
 have hset:∀h,(l0.map vC).set p.aB.length [.int .i64 (l0[p.aB.length]'h).mode,.str (l0[p.aB.length]'h).to.host,.str (l0[p.aB.length]'h).to.path,.str (l0[p.aB.length]'h).digest,.int .i64 (l0[p.aB.length]'h).node,.bool true,.int .i64 2,.str (l0[p.aB.length]'h).body]=l3.map vC:=by
  intro h;have e:l0[p.aB.length]'h=s0:=by rw[aE h]at hg;exact cQ hg
  rw[e,hl0,X9,hs0,oT,oT,sY _ _ (by simp)];simp
 have c4:=c4 l0 (by rw[zw];omega) (by rw[zw];omega);rw[show iZ {p with aB:=l0} (p.aB.length:Int)=⟨km,a,p.addr.host,digest⟩by rw[hl0,hr,hs0];simp[hkm]]at c4;simp only[aH,dD]at c4;simp only[bN,dD]at c5;rw[<-X9]at jX;rw[<-hs0,<-hl0]at hgood;have UQ:p.aB.length<l0.length:=by omega
 clear hs0 hl0 X9 hr hkm Dx;cases ok
 .rw [jX (.inl rfl)];clear jX hgood h12;refine bM aF func226 ntmps226 ?_;have W:=aA Iy (aA hk (aA hg (aA hap UQ)));refine we ?_;all_goals try(refine aQ ?_;simp[aP,results226])
  all_goals exact hset _
 .rcases h12 with h|h
  .rw [hgood rfl h];rw[h]at c5;clear jX hgood h;refine bM aF func226 ntmps226 ?_;have W:=aA Iy (aA hk (aA hg (aA hap UQ)));refine we ?_;all_goals try(refine aQ ?_;simp[aP,results226])
   all_goals exact hset _
  .rw [jX (.inr (by rw[h];decide))];rw[h]at c5;clear jX hgood h;refine bM aF func226 ntmps226 ?_;have W:=aA Iy (aA hk (aA hg (aA hap UQ)));refine we ?_;all_goals try(refine aQ ?_;simp[aP,results226])
   all_goals exact hset _
theorem yQ[aC prog](p:aG)(mode:Int)(tu digest:bB)(node:Int)(hs:aI p<=274877906944)(hto:tu.length<=274877906944)(hd:digest.length<=274877906944):Ok prog 250 [.agg (aH .view p),.int .i64 mode,.str tu,.str digest,.int .i64 node] (.gT [.agg (aH .own (gP p mode tu digest node).1),.int .i64 (gP p mode tu digest node).2]):=by
 have c1:=iG p hs;simp only[aH]at c1;have hsl:p.addr.host.length<=274877906944:=by simp only[aI,aR]at hs;omega
 have GN:eD p.bD<=1099511627776:=by simp only[aI]at hs;omega
 have NB:p.aB.length<=274877906944:=by simp only[aI,bQ]at hs;omega
 have c2:=De mode;have c3:=zK tu p.addr.host (by omega);by_cases Iy:(20:Int)<=(p.aB.length:Int)
 .rw [Bn (.inl (by omega))];refine bM aF func250 ntmps250 ?_;have W:=Iy;refine we ?_;exact aD results250
 by_cases hk:fG mode=0
 .rw [Bn (.inr hk)];rw[hk]at c2;refine bM aF func250 ntmps250 ?_;have W:=Iy;refine we ?_;exact aD results250
 have Dx:¬(20<=p.aB.length\/fG mode=0):=by rintro(h|h);omega;exact hk h
 have hsz:=LQ tu p.addr.host;have jX:=Pf (tu:=tu) (digest:=digest) (node:=node) Dx;have hgood:=LW (tu:=tu) (digest:=digest) (node:=node) Dx;have c5:=wH p.bD ⟨fG mode,(bZ tu p.addr.host).1,p.addr.host,digest⟩ GN (by simp only[jL];omega);have h12:=FL p.bD ⟨fG mode,(bZ tu p.addr.host).1,p.addr.host,digest⟩;have c4:=λl' Cu hl2=>xG {p with aB:=l'} (p.aB.length:Int) (by omega) Cu hl2
 have hr:∀s,iZ {p with aB:=p.aB++[s]} (p.aB.length:Int)=⟨fG s.mode,s.to,p.addr.host,s.digest⟩:=λs=>by simp[iZ,fM]
 generalize hkm:fG mode=km at*;generalize bZ tu p.addr.host=pa at*;obtain⟨a,ok⟩:=pa;simp only at c3 c5 h12 hsz jX hgood;obtain⟨s0,hs0⟩:∃s:pJ,s=⟨mode,a,digest,node,false,0,[]⟩:=⟨_,rfl⟩;obtain⟨l0,hl0⟩:∃l,l=p.aB++[s0]:=⟨_,rfl⟩;obtain⟨l3,X9⟩:∃l:List pJ,l=p.aB++[⟨mode,a,digest,node,true,2,[]⟩]:=⟨_,rfl⟩;have hap:p.aB.map vC++[[.int .i64 mode,.str a.host,.str a.path,.str digest,.int .i64 node,.bool false,.int .i64 0,.str []]]=l0.map vC:=by rw[hl0,hs0];simp
 have hg:l0[p.aB.length]? =some s0:=by rw[hl0];simp
 have zw:l0.length=p.aB.length+1:=by rw[hl0];simp
 have hset:∀h,(l0.map vC).set p.aB.length [.int .i64 (l0[p.aB.length]'h).mode,.str (l0[p.aB.length]'h).to.host,.str (l0[p.aB.length]'h).to.path,.str (l0[p.aB.length]'h).digest,.int .i64 (l0[p.aB.length]'h).node,.bool true,.int .i64 2,.str (l0[p.aB.length]'h).body]=l3.map vC:=by
  intro h;have e:l0[p.aB.length]'h=s0:=by rw[aE h]at hg;exact cQ hg
  rw[e,hl0,X9,hs0,oT,oT,sY _ _ (by simp)];simp
 have c4:=c4 l0 (by rw[zw];omega) (by rw[zw];omega);rw[show iZ {p with aB:=l0} (p.aB.length:Int)=⟨km,a,p.addr.host,digest⟩by rw[hl0,hr,hs0];simp[hkm]]at c4;simp only[aH,dD]at c4;simp only[bN,dD]at c5;rw[<-X9]at jX;rw[<-hs0,<-hl0]at hgood;have UQ:p.aB.length<l0.length:=by omega
 clear hs0 hl0 X9 hr hkm Dx;cases ok
 .rw [jX (.inl rfl)];clear jX hgood h12;refine bM aF func250 ntmps250 ?_;have W:=aA Iy (aA hk (aA hg (aA hap UQ)));refine we ?_;all_goals try(refine aQ ?_;simp[aP,results250])
  all_goals exact hset _
 .rcases h12 with h|h
  .rw [hgood rfl h];rw[h]at c5;clear jX hgood h;refine bM aF func250 ntmps250 ?_;have W:=aA Iy (aA hk (aA hg (aA hap UQ)));refine we ?_;all_goals try(refine aQ ?_;simp[aP,results250])
   all_goals exact hset _
  .rw [jX (.inr (by rw[h];decide))];rw[h]at c5;clear jX hgood h;refine bM aF func250 ntmps250 ?_;have W:=aA Iy (aA hk (aA hg (aA hap UQ)));refine we ?_;all_goals try(refine aQ ?_;simp[aP,results250])
   all_goals exact hset _
@[simp] theorem aCh(u:List Nat)(b:Bool)(l:List fU):mX (iP u) b (l.map (bY .view))=l.map (bY .view):=bO (by intro x;simp) l
theorem F9(x:fU):pG x<=7*(eY x+1):=by unfold pG;rw[BZ];simp only[eY,bQ];omega
theorem aBw(n:lW)(h:lX n<=549755813888):aBv n<=10995116277760/\n.gD.length<=4611686018427387904/\∀x∈n.gD,x.files.length<=4611686018427387904:=by
 have h1:=WO 7 F9 n.gD;simp only[lX,nP,bQ]at h;refine⟨?_,by omega,λx hx=> ?_⟩
 .simp only[aBv,KC,BZ];omega
 .have h2:=bS eY hx;simp only[eY,bQ]at h2;omega
theorem Ut[aC prog](l0:List bB)(k:Int)(h0:0<=k)(hl:k+(bA (λ_=>1) l0:Nat)<=4611686018427387000)(hll:l0.length<=4611686018427387904):Ok prog 14 [.sl .view 1 ((Pb wO (λ_=>1) k l0).map bW),.int .i64 k] (.int .i64 (k+(bA (λ_=>1) l0:Nat))):=by
 have hget:∀j (h:j<l0.length),(Pb wO (λ_=>1) k l0)[j]? =some (wO (k+(bA (λ_=>1) (l0.take j):Nat)) l0[j]):=λj h=>by rw[aE (by rw[uA];exact h),EY]
 generalize hu:Pb wO (λ_=>1) k l0=l at*;have hlen:l.length=l0.length:=by rw[<-hu,uA]
 refine bM aF func14 ntmps14 ?_;refine iF ?_;refine aO (ι:={j:Nat // j<=l0.length}) (λt o i=>⟨bC t [(1,.int .i64 (k+(bA (λ_=>1) (l0.take i.1):Nat))),(5,.int .i64 i.1)],o⟩)
  (λi=>l0.length-i.1) ⟨0,by simp⟩ (aJ (by simp) (by simp[bA])) ?_
 rintro⟨j,hj⟩ K1 hK1;simp only[bC,cW,cU]at hK1⊢;have hj1:i64.wrap ((j:Int)+1)=((j+1:Nat):Int):=by rw[wrap64]<;>omega
 have hle:=jV (λ_=>1) l0 (j+1);by_cases hlt:j<l0.length
 .have hts:=iX (λ_=>1) l0 j hlt
  have hg:l[j]? =some (wO (k+(bA (λ_=>1) (l0.take j):Nat)) l0[j]):=hget j hlt;generalize hq:k+(bA (λ_=>1) (l0.take j):Nat)=q at*;simp only[wO,Pd]at hg;have W:=aA hlen (aA hj1 hg);have V:=aA hlen (aA hj1 (aA hg hlt));repeat' first|refine wg ?_|(refine nx ?_;refine sk (hc:=xQ _ (by omega)) (h:=?_))|(refine sq ?_ ?_<;>intro hc<;>try exact hc.elim)|fail
  refine hK1 _ ⟨j+1,by omega⟩ (aJ (by simp) ?_) (by simp only;omega);simp;omega
 .have htk:l0.take j=l0:=cY (by omega);have hjl:j=l0.length:=by omega
  rw[htk]at*;have W:=aA hlen hj1;refine wl ?_;exact aD results14
end Go.Proofs.YtfbefblglejcaaaGreatDoor
