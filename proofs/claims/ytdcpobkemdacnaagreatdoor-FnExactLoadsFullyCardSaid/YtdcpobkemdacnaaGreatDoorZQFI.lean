/- Proved here: steps towards the statement of this claim. No condition. -/
import Derived.Test.YtdcpobkemdacnaaGreatDoorZQRLia
import Derived.Test.YtdcpobkemdacnaaGreatDoorZQP6
set_option linter.all false
set_option maxRecDepth 8000
set_option maxHeartbeats 8000000
namespace Go.Proofs.YtdcpobkemdacnaaGreatDoor
open Go.Aw Proofs.Tryz List IntKind
theorem zb {α:Type} {f:α->Bool} {l:List α} (hn:∀x∈l,f x=false):l.find? f=none:=CT.2 λx hx=>by simp [hn x hx]
theorem Zo {α:Type} {f:α->Bool}:∀l:List α,¬(∀x∈l,f x=false)->∃k,∃hk:k < l.length,f l[k]=true/\∀x∈l.take k,f x=false
 |[],h=>absurd (λx hx=>by cases hx) h
 |x::l,h=>by
  cases hx:f x with
  |true=>exact ⟨0,by simp,by simpa using hx,by simp⟩
  |false=>
   obtain ⟨k,hk,h1,h2⟩:=Zo l (λhl=>h (λy hy=>by
    rcases lE.1 hy with rfl|hy
    .exact hx
    .exact hl y hy))
   refine ⟨k+1,by simpa using hk,by simpa using h1,λy hy=> ?_⟩;simp only [eL,lE] at hy;rcases hy with rfl|hy
   .exact hx
   .exact h2 y hy
theorem ze {α:Type} {f:α->Bool} {l:List α} {k:Nat} (h:k < l.length) (hf:f l[k]=true) (hn:∀x∈l.take k,f x=false):l.find? f=some l[k]:=by
 have e:l=l.take k++l[k]::l.drop (k+1):=by simp
 have h5:=An (find? f) e;rw [h5,find?_append];have:(l.take k).find? f=none:=CT.2 λx hx=>by simp [hn x hx]
 rw [this];simp only [Option.none_or,find?_cons,hf]
theorem lI {α:Type} (f:α->Bool) (l:List α):(pW f l= -1/\l.find? f=none)\/∃k,∃h:k < l.length,pW f l=(k:Int)/\l.find? f=some l[k]:=by
 by_cases h:∀x∈l,f x=false
 .exact .inl ⟨nA h,zb h⟩
 .right;obtain ⟨k,hk,h1,h2⟩:=Zo l h;exact ⟨k,hk,uM hk h1 h2,ze hk h1 h2⟩
def Co (h:bB) (s:iQ):Bool:=s.host == h
def Cq (h:bB) (s:zS):Bool:=s.path == h
def rX (l:List iQ) (a:aK):bA:=
 match l.find? (Co a.host) with
 |some s=>match s.files.find? (Cq a.path) with
  |some f=>f.response
  |none=>notFound
 |none=>notFound
theorem Xl [aC prog] (l:List iQ) (h:bB) (hl:l.length<=1099511627776):Ok prog 94 [.sl .view 2 (l.map (dH .view)),.str h] (.int .i64 (pW (Co h) l)):=by
 refine bO aD func94 ntmps94 ?_;refine aZ ?_;refine aP (ι:={k:Nat // k<=l.length/\∀x∈l.take k,Co h x=false}) (λt o i=>⟨bE t [(5,.int .i64 i.1)],o⟩)
  (λi=>l.length - i.1) ⟨0,by simp,by simp⟩ aO ?_
 rintro ⟨k,hk,hi⟩ K1 hK1;simp only [bE,cW,cU] at hK1⊢;have hk1:=oW (k:=k);by_cases hlt:k < l.length
 .have hg:=aE hlt;by_cases hb:l[k].host=h
  .have hbb:(l[k].host == h)=true:=by simp [hb]
   rw [uM hlt (by simpa [Co] using hb) hi];have W:=aA hk1 (aA hg (aA hlt hbb));refine we ?_;exact aF results94
  .have hbb:(l[k].host == h)=false:=by simp [hb]
   have hnx:∀x∈l.take (k+1),Co h x=false:=bZ hlt hi (by simpa [Co] using hb);have W:=aA hk1 (aA hg (aA hlt hbb));refine we ?_;exact hK1 _ ⟨k+1,by omega,hnx⟩ aO (by simp only;omega)
 .rw [nA (iX (by omega) hi)];have W:=hk1;refine we ?_;exact aF results94
theorem nu [aC prog] (s:iQ) (h:bB) (hl:s.files.length<=1099511627776):Ok prog 95 [.agg (dH .view s),.str h] (.int .i64 (pW (Cq h) s.files)):=by
 refine bO aD func95 ntmps95 ?_;refine aZ ?_;refine aP (ι:={k:Nat // k<=s.files.length/\∀x∈s.files.take k,Cq h x=false}) (λt o i=>⟨bE t [(5,.int .i64 i.1)],o⟩)
  (λi=>s.files.length - i.1) ⟨0,by simp,by simp⟩ aO ?_
 rintro ⟨k,hk,hi⟩ K1 hK1;simp only [bE,cW,cU] at hK1⊢;have hk1:=oW (k:=k);by_cases hlt:k < s.files.length
 .have hg:=aE hlt;by_cases hb:s.files[k].path=h
  .have hbb:(s.files[k].path == h)=true:=by simp [hb]
   rw [uM hlt (by simpa [Cq] using hb) hi];have W:=aA hk1 (aA hg (aA hlt hbb));refine we ?_;exact aF results95
  .have hbb:(s.files[k].path == h)=false:=by simp [hb]
   have hnx:∀x∈s.files.take (k+1),Cq h x=false:=bZ hlt hi (by simpa [Cq] using hb);have W:=aA hk1 (aA hg (aA hlt hbb));refine we ?_;exact hK1 _ ⟨k+1,by omega,hnx⟩ aO (by simp only;omega)
 .rw [nA (iX (by omega) hi)];have W:=hk1;refine we ?_;exact aF results95
theorem OJ [aC prog] (l:List iQ) (a:aK) (hs:bT gF l<=1099511627776):Ok prog 52 [.sl .view 2 (l.map (dH .view)),.agg (aL a)] (.agg (bG (rX l a))):=by
 simp only [bT] at hs;have c1:=Xl l a.host (by omega);have c2:=Ah;simp only [bG] at c2;unfold rX;rcases lI (Co a.host) l with ⟨h1,h2⟩|⟨k,hk,h1,h2⟩
 .rw [h1] at c1;rw [h2];refine bO aD func52 ntmps52 ?_;refine aZ ?_;exact aF results52
 .rw [h1] at c1;rw [h2];have hg:=aE hk;have hn:¬((k:Int) < 0):=by omega
  have hz:=dO gF l k hk;simp only [gF,bT] at hz;have c3:=nu l[k] a.path (by omega);simp only [dH] at c3;simp only;rcases lI (Cq a.path) l[k].files with ⟨h3,h4⟩|⟨j,hj,h3,h4⟩
  .rw [h3] at c3;rw [h4];refine bO aD func52 ntmps52 ?_;have W:=aA hg (aA hk hn);refine we ?_;exact aF results52
  .rw [h3] at c3;rw [h4];have hg2:=aE hj;have hn2:¬((j:Int) < 0):=by omega
   refine bO aD func52 ntmps52 ?_;have W:=aA hg (aA hk (aA hn (aA hg2 (aA hj hn2))));refine we ?_;exact aF results52
def Ar (top:bB) (a:aK) (now:Int) (e:gI):Bool:=(e.top == top&&decide (e.to=a))&&decide (now<=e.til)
def wW (c:rV) (top:bB) (a:aK) (now:Int):bA×Bool:=
 match c.entries.find? (Ar top a now) with
 |some e=>(e.response,true)
 |none=>(notFound,false)
theorem ny [aC prog] (e:gI) (top:bB) (a:aK) (now:Int):Ok prog 127 [.agg (iU e),.fA .view [.str top] 0,.fA .view (aL a) 0,.fA .view [.int .i64 now] 0] (.bool (Ar top a now e)):=by
 unfold Ar;refine bO aD func127 ntmps127 ?_;have W:=trivial;have c0:=nW e.to a;repeat' first|refine wf ?_|(refine sq ?_ ?_<;>intro hc<;>try exact hc.elim)|fail
 all_goals try(refine aV ?_;simp [aH,results127])
 all_goals simp_all
theorem Xm [aC prog] (s:iQ) (h:bB):Ok prog 181 [.agg (dH .view s),.fA .view [.str h] 0] (.bool (Co h s)):=by unfold Co;refine bO aD func181 ntmps181 ?_;refine aZ ?_;exact aF results181
theorem nz [aC prog] (s:zS) (h:bB):Ok prog 183 [.agg (uA s),.fA .view [.str h] 0] (.bool (Cq h s)):=by unfold Cq;refine bO aD func183 ntmps183 ?_;refine aZ ?_;exact aF results183
theorem Um [aC prog] (l:List gI) (top:bB) (a:aK) (now:Int) (hl:l.length<=1099511627776):Ok prog 126 [.sl .view 10 (l.map iU),.fn 127 [.fA .view [.str top] 0,.fA .view (aL a) 0,.fA .view [.int .i64 now] 0]] (.int .i64 (pW (Ar top a now) l)):=by
 refine bO aD func126 ntmps126 ?_;refine aZ ?_;refine aP (ι:={k:Nat // k<=l.length/\∀x∈l.take k,(Ar top a now) x=false}) (λt o i=>⟨bE t [(8,.int .i64 i.1),(5,.undef)],o⟩)
  (λi=>l.length - i.1) ⟨0,by simp⟩ aO ?_
 rintro ⟨k,hk,hpre⟩ K1 hK1;simp only [bE,cW,cU] at hK1⊢;have hk1:=oW (k:=k);by_cases hlt:k < l.length
 .have hg:=aE hlt;have c1:=ny l[k] top a now;generalize hb:(Ar top a now) l[k]=b at *;have W:=aA hk1 (aA hg hlt);repeat' first|refine wf ?_|(refine sq ?_ ?_<;>intro hc<;>try exact hc.elim)|fail
  .all_goals try(refine aV ?_;simp [aH,results126])
   rw [uM hlt (by rw [hb];simpa using hc) hpre]
  .exact hK1 _ ⟨k+1,by omega,bZ hlt hpre (by rw [hb];simpa using hc)⟩ aO (by simp only;omega)
 .have W:=hk1;refine we ?_;all_goals try(refine aV ?_;simp [aH,results126])
  rw [nA (iX (by omega) hpre)]
theorem Rf [aC prog] (l:List iQ) (h:bB) (hl:l.length<=1099511627776):Ok prog 180 [.sl .view 2 (l.map (dH .view)),.fn 181 [.fA .view [.str h] 0]] (.int .i64 (pW (Co h) l)):=by
 refine bO aD func180 ntmps180 ?_;refine aZ ?_;refine aP (ι:={k:Nat // k<=l.length/\∀x∈l.take k,(Co h) x=false}) (λt o i=>⟨bE t [(8,.int .i64 i.1),(5,.undef)],o⟩)
  (λi=>l.length - i.1) ⟨0,by simp⟩ aO ?_
 rintro ⟨k,hk,hpre⟩ K1 hK1;simp only [bE,cW,cU] at hK1⊢;have hk1:=oW (k:=k);by_cases hlt:k < l.length
 .have hg:=aE hlt;have c1:=Xm l[k] h;generalize hb:(Co h) l[k]=b at *;have W:=aA hk1 (aA hg hlt);repeat' first|refine wf ?_|(refine sq ?_ ?_<;>intro hc<;>try exact hc.elim)|fail
  .all_goals try(refine aV ?_;simp [aH,results180])
   rw [uM hlt (by rw [hb];simpa using hc) hpre]
  .exact hK1 _ ⟨k+1,by omega,bZ hlt hpre (by rw [hb];simpa using hc)⟩ aO (by simp only;omega)
 .have W:=hk1;refine we ?_;all_goals try(refine aV ?_;simp [aH,results180])
  rw [nA (iX (by omega) hpre)]
theorem Xn [aC prog] (l:List zS) (h:bB) (hl:l.length<=1099511627776):Ok prog 182 [.sl .view 7 (l.map uA),.fn 183 [.fA .view [.str h] 0]] (.int .i64 (pW (Cq h) l)):=by
 refine bO aD func182 ntmps182 ?_;refine aZ ?_;refine aP (ι:={k:Nat // k<=l.length/\∀x∈l.take k,(Cq h) x=false}) (λt o i=>⟨bE t [(8,.int .i64 i.1),(5,.undef)],o⟩)
  (λi=>l.length - i.1) ⟨0,by simp⟩ aO ?_
 rintro ⟨k,hk,hpre⟩ K1 hK1;simp only [bE,cW,cU] at hK1⊢;have hk1:=oW (k:=k);by_cases hlt:k < l.length
 .have hg:=aE hlt;have c1:=nz l[k] h;generalize hb:(Cq h) l[k]=b at *;have W:=aA hk1 (aA hg hlt);repeat' first|refine wf ?_|(refine sq ?_ ?_<;>intro hc<;>try exact hc.elim)|fail
  .all_goals try(refine aV ?_;simp [aH,results182])
   rw [uM hlt (by rw [hb];simpa using hc) hpre]
  .exact hK1 _ ⟨k+1,by omega,bZ hlt hpre (by rw [hb];simpa using hc)⟩ aO (by simp only;omega)
 .have W:=hk1;refine we ?_;all_goals try(refine aV ?_;simp [aH,results182])
  rw [nA (iX (by omega) hpre)]
theorem Zp [aC prog] (l:List iQ) (h:bB) (hl:l.length<=1099511627776):Ok prog 128 [.sl .view 2 (l.map (dH .view)),.str h] (.int .i64 (pW (Co h) l)):=by have c1:=Rf l h hl;refine bO aD func128 ntmps128 ?_;refine aZ ?_;exact aF results128
theorem M6 [aC prog] (s:iQ) (h:bB) (hl:s.files.length<=1099511627776):Ok prog 129 [.agg (dH .view s),.str h] (.int .i64 (pW (Cq h) s.files)):=by have c1:=Xn s.files h hl;refine bO aD func129 ntmps129 ?_;refine aZ ?_;exact aF results129
theorem Il [aC prog] (c:rV) (top:bB) (a:aK) (now:Int) (hl:c.entries.length<=1099511627776):Ok prog 73 [.agg (iH .view c),.str top,.agg (aL a),.int .i64 now] (.gZ [.agg (bG (wW c top a now).1),.bool (wW c top a now).2]):=by
 have c1:=Um c.entries top a now hl;have c2:=Ag;simp only [aL] at c1;simp only [bG] at c2;unfold wW;rcases lI (Ar top a now) c.entries with ⟨h1,h2⟩|⟨k,hk,h1,h2⟩
 .rw [h1] at c1;rw [h2];refine bO aD func73 ntmps73 ?_;refine aZ ?_;exact aF results73
 .rw [h1] at c1;rw [h2];have hg:=aE hk;have hn:¬((k:Int) < 0):=by omega
  refine bO aD func73 ntmps73 ?_;have W:=aA hg (aA hk hn);refine we ?_;exact aF results73
theorem OL [aC prog] (l:List iQ) (a:aK) (hs:bT gF l<=1099511627776):Ok prog 74 [.sl .view 2 (l.map (dH .view)),.agg (aL a)] (.agg (bG (rX l a))):=by
 simp only [bT] at hs;have c1:=Zp l a.host (by omega);have c2:=Ag;simp only [bG] at c2;unfold rX;rcases lI (Co a.host) l with ⟨h1,h2⟩|⟨k,hk,h1,h2⟩
 .rw [h1] at c1;rw [h2];refine bO aD func74 ntmps74 ?_;refine aZ ?_;exact aF results74
 .rw [h1] at c1;rw [h2];have hg:=aE hk;have hn:¬((k:Int) < 0):=by omega
  have hz:=dO gF l k hk;simp only [gF,bT] at hz;have c3:=M6 l[k] a.path (by omega);simp only [dH] at c3;simp only;rcases lI (Cq a.path) l[k].files with ⟨h3,h4⟩|⟨j,hj,h3,h4⟩
  .rw [h3] at c3;rw [h4];refine bO aD func74 ntmps74 ?_;have W:=aA hg (aA hk hn);refine we ?_;exact aF results74
  .rw [h3] at c3;rw [h4];have hg2:=aE hj;have hn2:¬((j:Int) < 0):=by omega
   refine bO aD func74 ntmps74 ?_;have W:=aA hg (aA hk (aA hn (aA hg2 (aA hj hn2))));refine we ?_;exact aF results74
theorem RZ [aC prog] [dK prog] (b:bF) (ss:List gW) (x:jW) (hs:aS b<=274877906944) (hx:x.text.length<=268435456) (hl:ss.length<=1099511627776) (hr:∀x∈ss,x.rules.length<=1099511627776) (wP:∀n,0<=bK ss n/\bK ss n<=999):
  Ok prog 277 [.agg (aU .view b),.sl .view 1 (ss.map (eD .view)),.agg (lH x)] (.gZ [.agg (aU .own (bW b ss x).1),.str (bW b ss x).2.1,.str (bW b ss x).2.2]):=by
 by_cases h1:x.op=1
 .exact aDu b ss x hs hx hl hr wP h1
 by_cases h2:x.op=2
 .exact aDv b ss x hs hx hl hr wP h2
 by_cases h3:x.op=3
 .exact aDx b ss x hs hx hl hr wP h3
 by_cases h4:x.op=4
 .exact aDz b ss x hs hx hl hr wP h4
 by_cases h5:x.op=5
 .exact aD0 b ss x hs hx hl hr wP h5
 exact aDw b ss x hs hx hl hr wP ⟨h1,h2,h3,h4,h5⟩
theorem Sa [aC prog] [dK prog] (b:bF) (ss:List gW) (x:jW) (hs:aS b<=274877906944) (hx:x.text.length<=268435456) (hl:ss.length<=1099511627776) (hr:∀x∈ss,x.rules.length<=1099511627776) (wP:∀n,0<=bK ss n/\bK ss n<=999):
  Ok prog 214 [.agg (aU .view b),.sl .view 1 (ss.map (eD .view)),.agg (lH x)] (.gZ [.agg (aU .own (bW b ss x).1),.str (bW b ss x).2.1,.str (bW b ss x).2.2]):=by
 by_cases h1:x.op=1
 .exact aD1 b ss x hs hx hl hr wP h1
 by_cases h2:x.op=2
 .exact aD2 b ss x hs hx hl hr wP h2
 by_cases h3:x.op=3
 .exact aD4 b ss x hs hx hl hr wP h3
 by_cases h4:x.op=4
 .exact aD5 b ss x hs hx hl hr wP h4
 by_cases h5:x.op=5
 .exact aD6 b ss x hs hx hl hr wP h5
 exact aD3 b ss x hs hx hl hr wP ⟨h1,h2,h3,h4,h5⟩
theorem qE {α:Type} {f:α->List AV} {i j:Nat} (h:∀x,qP i j (f x)=f x):∀l:List α,qB i j (l.map f)=l.map f
 |[]=>rfl
 |x::l=>by simp only [mA,qB,h,qE h l]
@[simp] theorem aMy (i j:Nat) (l:List bB):qB i j (l.map dD)=l.map dD:=qE (λ_=>rfl) l
@[simp] theorem aMz (i j:Nat) (l:List Int):qB i j (l.map lW)=l.map lW:=qE (λ_=>rfl) l
@[simp] theorem aLn (i j:Nat) (l:List oL):qB i j (l.map uL)=l.map uL:=qE (λ_=>rfl) l
@[simp] theorem aLo (i j:Nat) (l:List jW):qB i j (l.map lH)=l.map lH:=qE (λ_=>rfl) l
@[simp] theorem aLp (i j:Nat) (l:List EN):qB i j (l.map zR)=l.map zR:=qE (λ_=>rfl) l
@[simp] theorem aHt (i j:Nat) (l:List gW):qB i j (l.map (eD .view))=l.map (eD .view):=qE (λ_=>by simp) l
@[simp] theorem aJe (i j:Nat) (l:List jL):qB i j (l.map (fD .view))=l.map (fD .view):=qE (λ_=>by simp) l
theorem ZR {t t':List AV} {o o':List aN} {v:Nat} {n0 p0 n1 p1 lg:List (List AV)} {o0 o1 o6:aN}
  (ho:o.take 10=[o0,o1,⟨true,false,4,1,n0⟩,⟨true,false,1,1,p0⟩,⟨true,true,2,0,[[.obj 7 1,.obj 8 1]]⟩,⟨true,false,1,v,lg⟩,o6,⟨true,false,4,1,n1⟩,⟨true,false,1,1,p1⟩,⟨true,true,2,0,[[.obj 7 1,.obj 8 1]]⟩])
  (ho':o'=[o0,o1,⟨true,false,4,1,n1⟩,⟨true,false,1,1,p1⟩,⟨true,true,2,0,[[.obj 2 1,.obj 3 1]]⟩,⟨true,false,1,v,lg⟩])
  (hf:(o0.lK 2 7=o0/\o1.lK 2 7=o1/\o6.lK 2 7=o6)/\(o0.lK 3 8=o0/\o1.lK 3 8=o1/\o6.lK 3 8=o6)) (hw:wk t t') (h1:wk (qP 2 7 t') t') (h3:wk (qP 3 8 t') t') (hc:eX 6 t'=true) (hc1:eX 10 t'=true) (hc0:dE 6 [o0,o1]=true) (XZ:dE 10 [o0,o1,o6]=true):mX ⟨t,o⟩ ⟨t',o'⟩:=by
 subst ho';obtain ⟨⟨a0,a1,a6⟩,b0,b1,b6⟩:=hf;refine (aX 10 ho hw hc1 (by simpa [dE,eX,closed,Ek] using XZ)).trans ?_;refine (aR 2 7 rfl rfl ⟨rfl,rfl⟩ (by simp [a0,a1,a6];rfl) h1).trans ?_;refine (aR 3 8 rfl rfl ⟨rfl,rfl⟩ (by simp [b0,b1,b6];rfl) h3).trans ?_;refine aX 6 (by simp) (mD _) hc ?_;simpa [dE,eX,closed] using hc0
def tK (ss:List gW) (s:bF×bB×List bB) (x:jW):bF×bB×List bB:=
 ((bW s.1 ss x).1,s.2.1++(bW s.1 ss x).2.1,if (bW s.1 ss x).2.2=[] then s.2.2 else s.2.2++[(bW s.1 ss x).2.2])
def eH (b:bF) (ss:List gW) (l:List jW):bF×bB×List bB:=l.foldl (tK ss) (b,[],[])
theorem Ju {α:Type} (f:α->Nat):∀a b:List α,bH f (a++b)=bH f a+bH f b
 |[],b=>by simp [bH]
 |x::xs,b=>by simp only [eA,bH,Ju f xs b];omega
theorem Sb (b:bF) (ss:List gW) (x:jW) (hx:x.text.length<=268435456) (wP:∀n,0<=bK ss n/\bK ss n<=999) (hn:b.nodes.length<=274877906944):
  aS (bW b ss x).1<=aS b+x.text.length+1/\(bW b ss x).2.1.length<=x.text.length/\(bW b ss x).2.2.length<=x.text.length+30:=by
 have z7:=iM (aY b x.text) (by unfold aY;omega) (by
  unfold aY;have:=oA (λy:jL=>decide (y.name=x.text)) b.nodes;omega)
 have hc:=wP x.text;have z8:=iM (bK ss x.text) (by omega) (by omega);unfold bW;split
 .refine ⟨by simp only;omega,by simp,by simp⟩
 .split
  .split
   .refine ⟨?_,by simp,by simp⟩;simp only [aS,bT,eR,Ju,bH,rU,eN,eW];omega
   .simp only [eW];omega
  .split
   .refine ⟨by simp only;omega,by simp,?_⟩;simp only [eR,yC,eN,eW];omega
   .split
    .refine ⟨by simp only;omega,by simp,?_⟩;simp only [eR,Cy,eN,eW];omega
    .split
     .refine ⟨by simp only;omega,by simp,?_⟩;simp only [eR,KR,eN,eW];omega
     .simp only [eW];omega
def sH (b:bF) (ss:List gW) (l:List jW) (k:Nat):bF×bB×List bB:=eH b ss (l.take k)
theorem Jv (b:bF) (ss:List gW) (l:List jW) (k:Nat) (h:k < l.length):sH b ss l (k+1)=tK ss (sH b ss l k) l[k]:=by unfold sH eH;rw [eK h,DS];rfl
theorem Bw (N:Nat) (b:bF) (ss:List gW) (l:List jW) (hN:N<=268435456) (hl:l.length<=6) (hx:∀x∈l,x.text.length<=N) (wP:∀n,0<=bK ss n/\bK ss n<=999) (hb:aS b<=68719476736):
  ∀k,k<=l.length->aS (sH b ss l k).1<=aS b+k * (N+1)/\(sH b ss l k).2.1.length<=k * N/\(sH b ss l k).2.2.length<=k/\bH gM (sH b ss l k).2.2<=k * (N+30)
 |0,_=>by simp [sH,eH,bH]
 |k+1,h=>by
  obtain ⟨h1,h2,h3,h4⟩:=Bw N b ss l hN hl hx wP hb k (by omega);rw [Jv b ss l k (by omega)];have hxk:=hx _ (fN (show k < l.length by omega));have hkN:k * (N+1)<=6 * (268435456+1):=Nat.mul_le_mul (by omega) (by omega);have hn:(sH b ss l k).1.nodes.length<=274877906944:=by simp only [aS,bT] at h1 hb;omega
  obtain ⟨z1,z2,z3⟩:=Sb (sH b ss l k).1 ss l[k] (by omega) wP hn;generalize sH b ss l k=g at *;have e1:(k+1) * (N+1)=k * (N+1)+(N+1):=by rw [pS];omega
  have e2:(k+1) * N=k * N+N:=by rw [pS];omega
  have e3:(k+1) * (N+30)=k * (N+30)+(N+30):=by rw [pS];omega
  rw [e1,e2,e3];refine ⟨?_,?_,?_,?_⟩
  .simp only [tK];omega
  .simp only [tK,eR];omega
  .simp only [tK];split
   .omega
   .simp only [eR,eN,eW];omega
  .simp only [tK];split
   .omega
   .simp only [Ju,bH,gM];omega
theorem We {t t':List AV} {o o':List aN} {v u:Nat} {n0 p0 n1 p1 lg:List (List AV)} {o0 o1:aN}
  (ho:o.take 9=[o0,o1,⟨true,false,4,1,n0⟩,⟨true,false,1,1,p0⟩,⟨true,true,2,0,[[.obj 7 1,.obj 8 1]]⟩,⟨true,false,1,v,lg⟩,⟨true,true,2,u,[[.obj 7 1,.obj 8 1]]⟩,⟨true,false,4,1,n1⟩,⟨true,false,1,1,p1⟩])
  (ho':o'=[o0,o1,⟨true,false,4,1,n1⟩,⟨true,false,1,1,p1⟩,⟨true,true,2,0,[[.obj 2 1,.obj 3 1]]⟩,⟨true,false,1,v,lg⟩])
  (hf:(o0.lK 2 7=o0/\o1.lK 2 7=o1)/\(o0.lK 3 8=o0/\o1.lK 3 8=o1)) (hw:wk t t') (h1:wk (qP 2 7 t') t') (h3:wk (qP 3 8 t') t') (hc:eX 6 t'=true) (hc1:eX 9 t'=true) (hc0:dE 6 [o0,o1]=true) (XZ:dE 9 [o0,o1]=true):mX ⟨t,o⟩ ⟨t',o'⟩:=by
 subst ho';obtain ⟨⟨a0,a1⟩,b0,b1⟩:=hf;refine (aX 9 ho hw hc1 (by simpa [dE,eX,closed,Ek] using XZ)).trans ?_;refine (aR 2 7 rfl rfl ⟨rfl,rfl⟩ (by simp [a0,a1];rfl) h1).trans ?_;refine (aR 3 8 rfl rfl ⟨rfl,rfl⟩ (by simp [b0,b1];rfl) h3).trans ?_;refine aX 6 (by simp) (mD _) hc ?_;simpa [dE,eX,closed] using hc0
theorem MS [aC prog] [dK prog] (b:bF) (ss:List gW) (l:List jW) (hb:aS b<=68719476736) (h6:l.length<=6) (hx:∀x∈l,x.text.length<=268435456) (hl:ss.length<=1099511627776) (hr:∀x∈ss,x.rules.length<=1099511627776) (wP:∀n,0<=bK ss n/\bK ss n<=999):
  Ok prog 238 [.agg (aU .view b),.sl .view 1 (ss.map (eD .view)),.sl .view 2 (l.map lH)] (.gZ [.agg (aU .own (eH b ss l).1),.str (eH b ss l).2.1,.sl .own 1 ((eH b ss l).2.2.map dD)]):=by
 have c0:=kR b (by omega);have hsz:=Bw 268435456 b ss l (by omega) h6 hx wP hb;have MU:=Jv b ss l;have hend:sH b ss l l.length=eH b ss l:=by simp [sH]
 have hz0:sH b ss l 0=(b,[],[]):=rfl;rw [<-hend];clear hend;have cR:=λ(b:bF) (x:jW) (h1:aS b<=274877906944) (h2:x.text.length<=268435456)=>RZ b ss x h1 h2 hl hr wP
 clear hr wP;generalize sH b ss l=G at *;simp only [aU] at c0;refine bO aD func238 ntmps238 ?_;refine gY ?_;refine aP (ι:={q:Nat×Nat // q.1<=l.length/\1<=q.2}) (λt o i=>⟨bE t [(22,.int .i64 i.1.1),(10,.str (G i.1.1).2.1),(11,.obj 5 i.1.2),(13,.undef),(14,.undef),(15,.undef),(16,.undef),(18,.undef)],o.take 2++[⟨true,false,4,1,(G i.1.1).1.nodes.map (fD .own)⟩,⟨true,false,1,1,(G i.1.1).1.opens.map lW⟩,⟨true,true,2,0,[[.obj 2 1,.obj 3 1]]⟩,⟨true,false,1,i.1.2,(G i.1.1).2.2.map dD⟩]⟩)
  (λi=>l.length - i.1.1) ⟨(0,1),by simp,by simp⟩ (aO (by simp [hz0]) (by simp [hz0])) ?_
 rintro ⟨⟨k,v⟩,hk,hv⟩ K1 hK1;simp only at hk hv;simp only [bE,cW,cU,eL,fS,eA,eM] at hK1⊢;have hk1:=oW (k:=k);by_cases hlt:k < l.length
 .have hg:=aE hlt;have hxk:=hx _ (fN hlt);obtain ⟨s1,s2,s3,_⟩:=hsz k hk;have hk6:k * (268435456+1)<=6 * (268435456+1):=hY _ (by omega);have hk7:k * 268435456<=6 * 268435456:=hY _ (by omega);have hnext:=MU k hlt;have cL:=cR (G k).1 l[k] (by omega) hxk;have ht1:=(hsz (k+1) (by omega)).2.1;obtain ⟨n1,p1,mw,ms,hR⟩:∃n1 p1 mw ms,bW (G k).1 ss l[k]=(⟨n1,p1⟩,mw,ms):=⟨_,_,_,_,rfl⟩;rw [hR] at cL;simp only [tK,hR] at hnext;rw [hnext] at ht1;clear hR cR hsz MU hx;generalize hGk:G k=g at *;obtain ⟨⟨n0,p0⟩,w0,lg0⟩:=g;simp only at s1 s2 s3 ht1 hnext cL;have hwl:w0.length+mw.length<=1610612736:=by rw [eR] at ht1;have:(k+1) * 268435456<=6 * 268435456:=hY _ (by omega);omega
  have ib:lg0.length<=6:=by omega
  clear s1 s2 s3 ht1;simp only [aU,lH] at cL;by_cases hms:ms=[]
  .rw [eI hms] at hnext;subst hms;have W:=aA hk1 (aA hg hwl);have V:=hlt;refine wl ?_;all_goals refine hK1 _ ⟨(k+1,v),by simp only;omega,by simp only;omega⟩ ?_ (by simp only;omega)
   all_goals exact ZR rfl (by simp [hnext]) (by simp) (by simp [hnext]) (by simp) (by simp) (by simp) (by simp) (by simp [dE]) (by simp [dE])
  .rw [cX hms] at hnext;have hmb:ms.isEmpty=false:=by cases ms with|nil=>exact absurd rfl hms|cons _ _=>rfl
   have W:=aA hk1 (aA hg (aA hwl (aA hms (aA hmb ib))));have V:=hlt;refine wl ?_;all_goals refine hK1 _ ⟨(k+1,v+1),by simp only;omega,by simp only;omega⟩ ?_ (by simp only;omega)
   all_goals exact ZR rfl (by simp [hnext]) (by simp) (by simp [hnext]) (by simp) (by simp) (by simp) (by simp) (by simp [dE]) (by simp [dE])
 .have hkl:k=l.length:=by omega
  subst hkl;have W:=hk1;refine wl ?_;exact aF results238
theorem Dy [aC prog] [dK prog] (b:bF) (ss:List gW) (l:List jW) (hb:aS b<=68719476736) (h6:l.length<=6) (hx:∀x∈l,x.text.length<=268435456) (hl:ss.length<=1099511627776) (hr:∀x∈ss,x.rules.length<=1099511627776) (wP:∀n,0<=bK ss n/\bK ss n<=999):
  Ok prog 163 [.agg (aU .view b),.sl .view 1 (ss.map (eD .view)),.sl .view 2 (l.map lH)] (.gZ [.agg (aU .own (eH b ss l).1),.str (eH b ss l).2.1,.sl .own 1 ((eH b ss l).2.2.map dD)]):=by
 have c0:=kU b (by omega);have hsz:=Bw 268435456 b ss l (by omega) h6 hx wP hb;have MU:=Jv b ss l;have hend:sH b ss l l.length=eH b ss l:=by simp [sH]
 have hz0:sH b ss l 0=(b,[],[]):=rfl;rw [<-hend];clear hend;have cR:=λ(b:bF) (x:jW) (h1:aS b<=274877906944) (h2:x.text.length<=268435456)=>Sa b ss x h1 h2 hl hr wP
 clear hr wP;generalize sH b ss l=G at *;simp only [aU] at c0;refine bO aD func163 ntmps163 ?_;refine gY ?_;refine aP (ι:={q:Nat×Nat // q.1<=l.length/\1<=q.2}) (λt o i=>⟨bE t [(12,.int .i64 i.1.1),(10,.str (G i.1.1).2.1),(11,.obj 5 i.1.2),(13,.undef),(13,.undef),(14,.undef),(15,.undef),(17,.undef)],o.take 2++[⟨true,false,4,1,(G i.1.1).1.nodes.map (fD .own)⟩,⟨true,false,1,1,(G i.1.1).1.opens.map lW⟩,⟨true,true,2,0,[[.obj 2 1,.obj 3 1]]⟩,⟨true,false,1,i.1.2,(G i.1.1).2.2.map dD⟩]⟩)
  (λi=>l.length - i.1.1) ⟨(0,1),by simp,by simp⟩ (aO (by simp [hz0]) (by simp [hz0])) ?_
 rintro ⟨⟨k,v⟩,hk,hv⟩ K1 hK1;simp only at hk hv;simp only [bE,cW,cU,eL,fS,eA,eM] at hK1⊢;have hk1:=oW (k:=k);by_cases hlt:k < l.length
 .have hg:=aE hlt;have hxk:=hx _ (fN hlt);obtain ⟨s1,s2,s3,_⟩:=hsz k hk;have hk6:k * (268435456+1)<=6 * (268435456+1):=hY _ (by omega);have hk7:k * 268435456<=6 * 268435456:=hY _ (by omega);have hnext:=MU k hlt;have cL:=cR (G k).1 l[k] (by omega) hxk;have ht1:=(hsz (k+1) (by omega)).2.1;obtain ⟨n1,p1,mw,ms,hR⟩:∃n1 p1 mw ms,bW (G k).1 ss l[k]=(⟨n1,p1⟩,mw,ms):=⟨_,_,_,_,rfl⟩;rw [hR] at cL;simp only [tK,hR] at hnext;rw [hnext] at ht1;clear hR cR hsz MU hx;generalize hGk:G k=g at *;obtain ⟨⟨n0,p0⟩,w0,lg0⟩:=g;simp only at s1 s2 s3 ht1 hnext cL;have hwl:w0.length+mw.length<=1610612736:=by rw [eR] at ht1;have:(k+1) * 268435456<=6 * 268435456:=hY _ (by omega);omega
  have ib:lg0.length<=6:=by omega
  clear s1 s2 s3 ht1;simp only [aU,lH] at cL;by_cases hms:ms=[]
  .rw [eI hms] at hnext;subst hms;have W:=aA hk1 (aA hg hwl);have V:=hlt;refine wl ?_;all_goals refine hK1 _ ⟨(k+1,v),by simp only;omega,by simp only;omega⟩ ?_ (by simp only;omega)
   all_goals exact We rfl (by simp [hnext]) (by simp) (by simp [hnext]) (by simp) (by simp) (by simp) (by simp) (by simp [dE]) (by simp [dE])
  .rw [cX hms] at hnext;have hmb:ms.isEmpty=false:=by cases ms with|nil=>exact absurd rfl hms|cons _ _=>rfl
   have W:=aA hk1 (aA hg (aA hwl (aA hms (aA hmb ib))));have V:=hlt;refine wl ?_;all_goals refine hK1 _ ⟨(k+1,v+1),by simp only;omega,by simp only;omega⟩ ?_ (by simp only;omega)
   all_goals exact We rfl (by simp [hnext]) (by simp) (by simp [hnext]) (by simp) (by simp) (by simp) (by simp) (by simp [dE]) (by simp [dE])
 .have hkl:k=l.length:=by omega
  subst hkl;have W:=hk1;refine wl ?_;exact aF results163
def vI (s:bB):List bV:=(feed s).1++kK ⟨(feed s).2⟩
theorem Gb (t:mY):bH bX (kK t)<=t.rest.length/\(kK t).length<=1:=by
 unfold kK;split
 .simp [bH]
 .simp [bH,bX,bT]
theorem Gc (s:bB):(vI s).length<=s.length+1/\bH bX (vI s)<=s.length:=by
 obtain ⟨h1,h2⟩:=CB s.length s (eE _);obtain ⟨h3,h4⟩:=Gb ⟨(feed s).2⟩;have hj:∀a b:List bV,bH bX (a++b)=bH bX a+bH bX b:=by
  intro a b;induction a with
  |nil=>simp [bH]
  |cons x xs ih=>simp only [eA,bH,ih];omega
 simp only [vI,eR,hj] at *;omega
theorem OW [aC prog] [bR prog] (s:bB) (hl:s.length<=1048576):Ok prog 165 [.str s] (.sl .own 4 ((vI s).map (cB .own))):=by
 have c1:=EW ⟨[]⟩ s (by simp;omega);obtain ⟨h1,h2⟩:=CB s.length s (eE _);simp only [eM,dR] at c1;unfold vI;generalize feed s=f at *;obtain ⟨l,x⟩:=f;simp only at c1 h1 h2⊢;have c2:=FY ⟨x⟩ (by simp only;omega);have h4:=(Gb ⟨x⟩).2;simp only [dR] at c2;generalize kK ⟨x⟩=g at *;have hb1:(l.length+g.length) * 64<=140737488355328:=by omega
 refine bO aD func165 ntmps165 ?_;have W:=hb1;refine we ?_;all_goals try(refine aV ?_;simp [aH,results165])
 all_goals (first|(rw [<-oS];exact lX _)|simp)
theorem OX [aC prog] [bR prog] (s:bB) (hl:s.length<=1048576):Ok prog 240 [.str s] (.sl .own 4 ((vI s).map (cB .own))):=by
 have c1:=EX ⟨[]⟩ s (by simp;omega);obtain ⟨h1,h2⟩:=CB s.length s (eE _);simp only [eM,dR] at c1;unfold vI;generalize feed s=f at *;obtain ⟨l,x⟩:=f;simp only at c1 h1 h2⊢;have c2:=FX ⟨x⟩ (by simp only;omega);have h4:=(Gb ⟨x⟩).2;simp only [dR] at c2;generalize kK ⟨x⟩=g at *;have hb1:(l.length+g.length) * 64<=140737488355328:=by omega
 refine bO aD func240 ntmps240 ?_;have W:=hb1;refine we ?_;all_goals try(refine aV ?_;simp [aH,results240])
 all_goals (first|(rw [<-oS];exact lX _)|simp)
def kC (l:List bB) (s:bB):List bB:=if l.length < 40 then l++[s] else l
theorem EB [aC prog] [dK prog] (p:aG) (s:bB) (hs:p.log.length<=1099511627776):Ma prog 148 [.tY (aI .own p) (aI .own {p with log:=kC p.log s}),.view (.str s)] (.gZ []):=by
 by_cases h:p.log.length < 40
 .have hi:(p.log.length:Int) < 40:=by omega
  obtain ⟨l1,hl1⟩:∃l,l=p.log++[s]:=⟨_,rfl⟩;have hap:p.log.map dD++[[.str s]]=l1.map dD:=by rw [hl1];simp
  have e:kC p.log s=l1:=by unfold kC;rw [eI h,hl1]
  rw [e];clear e hl1;refine rO aD func148 ntmps148 ?_;have W:=aA hi (aA hap hs);refine wl ?_;all_goals try(refine ⟨by first|exact .inr rfl|exact .inl rfl,?_⟩;simp [gJ,dL,dJ,rowOf,results148])
 .have hi:¬(p.log.length:Int) < 40:=by omega
  have e:kC p.log s=p.log:=by unfold kC;rw [cX h]
  rw [e];clear e;refine rO aD func148 ntmps148 ?_;have W:=hi;refine wl ?_;all_goals try(refine ⟨by first|exact .inr rfl|exact .inl rfl,?_⟩;simp [gJ,dL,dJ,rowOf,results148])
def yQ (q:aG):List aN:=[⟨true,false,1,1,q.bD.fF.map dD⟩,⟨true,false,1,1,q.bD.iB.map dD⟩,⟨true,false,1,1,q.bD.iC.map dD⟩,⟨true,false,4,1,q.queue.map (cB .own)⟩,⟨true,false,4,1,q.builder.nodes.map (fD .own)⟩,⟨true,false,1,1,q.builder.opens.map lW⟩,⟨true,false,8,1,q.aB.map uW⟩,⟨true,false,5,1,q.aM.map eZ⟩,⟨true,false,2,1,q.entries.map aL⟩,⟨true,false,2,1,q.tH.map aL⟩,⟨true,false,1,1,q.log.map dD⟩]
def yR (b:Nat) (q:aG):List AV:=[.str q.addr.host,.str q.addr.path,.bool q.bD.isSet,.obj b 1,.obj (b+1) 1,.obj (b+2) 1,.str q.bD.sP,.str q.tok.rest,.obj (b+3) 1,.bool q.ended,.obj (b+4) 1,.obj (b+5) 1,.obj (b+6) 1,.obj (b+7) 1,.obj (b+8) 1,.int .i64 q.block,.int .i64 q.inline,.int .i64 q.deferred,.int .i64 q.iE,.obj (b+9) 1,.obj (b+10) 1,.bool q.lY]
def MX:List (Nat×Nat):=[(1,17),(2,18),(3,19),(4,20),(5,21),(6,22),(7,23),(8,24),(9,25),(10,26),(11,27)]
theorem aEb {t t':List AV} {o o':List aN} {n1 v1 n2 v2 n3 v3 n4 v4 n5 v5 n6 v6 n7 v7 n8 v8 n9 v9 U6 v10 U9 v11:Nat} {e1 e2 e3 e4 e5 e6 e7 e8 e9 V3 V4:List (List AV)} {o12 o13 o14 o15 o16:aN} {q:aG} (ho:o=[⟨true,true,22,2,[yR 17 q]⟩,⟨false,false,n1,v1,e1⟩,⟨false,false,n2,v2,e2⟩,⟨false,false,n3,v3,e3⟩,⟨false,false,n4,v4,e4⟩,⟨false,false,n5,v5,e5⟩,⟨false,false,n6,v6,e6⟩,⟨false,false,n7,v7,e7⟩,⟨false,false,n8,v8,e8⟩,⟨false,false,n9,v9,e9⟩,⟨false,false,U6,v10,V3⟩,⟨false,false,U9,v11,V4⟩,o12,o13,o14,o15,o16]++yQ q)
  (ho':o'=[⟨true,true,22,2,[yR 1 q]⟩]++yQ q++[o12,o13,o14,o15,o16]) (ht:∀z∈MX,wk (qP z.1 z.2 t') t') (hf:∀z∈MX,o12.lK z.1 z.2=o12/\o13.lK z.1 z.2=o13/\o14.lK z.1 z.2=o14/\o15.lK z.1 z.2=o15/\o16.lK z.1 z.2=o16) (hw:wk t t') (hc:eX 17 t'=true) (hc0:dE 17 [o12,o13,o14,o15,o16]=true):mX ⟨t,o⟩ ⟨t',o'⟩:=by
 subst ho;subst ho';have e:=λi j (h:(i,j)∈MX)=>hf (i,j) h
 have h:=λi j (h:(i,j)∈MX)=>ht (i,j) h
 simp only [yQ,yR,eA,eM];refine (wT hw).trans ?_;refine (aR 1 17 rfl rfl ⟨rfl,rfl⟩ (by simp [(e 1 17 (by decide))];rfl) (h 1 17 (by decide))).trans ?_;refine (aR 2 18 rfl rfl ⟨rfl,rfl⟩ (by simp [(e 2 18 (by decide))];rfl) (h 2 18 (by decide))).trans ?_;refine (aR 3 19 rfl rfl ⟨rfl,rfl⟩ (by simp [(e 3 19 (by decide))];rfl) (h 3 19 (by decide))).trans ?_;refine (aR 4 20 rfl rfl ⟨rfl,rfl⟩ (by simp [(e 4 20 (by decide))];rfl) (h 4 20 (by decide))).trans ?_;refine (aR 5 21 rfl rfl ⟨rfl,rfl⟩ (by simp [(e 5 21 (by decide))];rfl) (h 5 21 (by decide))).trans ?_;refine (aR 6 22 rfl rfl ⟨rfl,rfl⟩ (by simp [(e 6 22 (by decide))];rfl) (h 6 22 (by decide))).trans ?_;refine (aR 7 23 rfl rfl ⟨rfl,rfl⟩ (by simp [(e 7 23 (by decide))];rfl) (h 7 23 (by decide))).trans ?_;refine (aR 8 24 rfl rfl ⟨rfl,rfl⟩ (by simp [(e 8 24 (by decide))];rfl) (h 8 24 (by decide))).trans ?_;refine (aR 9 25 rfl rfl ⟨rfl,rfl⟩ (by simp [(e 9 25 (by decide))];rfl) (h 9 25 (by decide))).trans ?_;refine (aR 10 26 rfl rfl ⟨rfl,rfl⟩ (by simp [(e 10 26 (by decide))];rfl) (h 10 26 (by decide))).trans ?_;refine (aR 11 27 rfl rfl ⟨rfl,rfl⟩ (by simp [(e 11 27 (by decide))];rfl) (h 11 27 (by decide))).trans ?_;refine aX 17 (by simp) (mD _) hc ?_;simpa [dE,eX,closed] using hc0
theorem aH0 {t t':List AV} {o o' o1 o2:List aN} {a b c d e:aN} (h5:o[5]? =some a) (h14:o[14]? =some b) (hb:a.box=false/\b.box=false) (e1:((o.set 5 b).set 14 a).map (aN.lK 5 14)=o1) (h6:o1[6]? =some c) (h15:o1[15]? =some d) (hd:c.box=false/\d.box=false) (e2:((o1.set 6 d).set 15 c).map (aN.lK 6 15)=o2) (V5:o2[12]? =some e) (e3:o2.set 12 ⟨false,false,0,e.cZ,[]⟩=o') (w1:wk (qP 5 14 t) t') (w2:wk (qP 6 15 t') t'):mX ⟨t,o⟩ ⟨t',o'⟩:=
 (aR 5 14 h5 h14 hb e1 w1).trans ((aR 6 15 h6 h15 hd e2 w2).trans (Wj 12 V5 e3 (mD _)))
def nD (l ss:List bB):List bB:=ss.foldl kC l
theorem Gd (l ss:List bB) (k:Nat) (h:k < ss.length):nD l (ss.take (k+1))=kC (nD l (ss.take k)) ss[k]:=by unfold nD;rw [eK h,DS];rfl
theorem Jw (l:List bB):∀ss:List bB,(nD l ss).length<=l.length+ss.length:=by
 intro ss;induction ss generalizing l with
 |nil=>simp [nD]
 |cons s ss ih=>
  have h1:(kC l s).length<=l.length+1:=by unfold kC;split<;>simp
  have h2:=ih (kC l s);have e:nD l (s::ss)=nD (kC l s) ss:=rfl;rw [e];simp only [eN];omega
def lM (p:aG) (l:List jW) (w:Bool):aG:=
 {p with builder:=(eH p.builder (dI p) l).1,log:=nD p.log (eH p.builder (dI p) l).2.2,queue:=if w=true then vI (eH p.builder (dI p) l).2.1++p.queue else p.queue}
theorem Wl {α:Type} {f:α->Option Int} {l:List α} {k:Nat} {v:Int} (h:look f l k=some v):∃x∈l,f x=some v:=by unfold look at h;obtain ⟨x,hx,hv⟩:=exists_of_findSome?_eq_some h;exact ⟨x,tB (mem_reverse.1 hx),hv⟩
theorem uf {q:bB} {r:EN} (h:vG q=some r):1<=r.color/\r.color<=999:=by
 unfold vG at h;split at h
 .split at h
  .rename_i hc;obtain rfl:=cQ h;exact hc.2
  .cases h
 .cases h
theorem xI (p:aG) (n:bB):0<=bK (dI p) n/\bK (dI p) n<=999:=by
 unfold bK;cases h:look (yZ n) (dI p) (dI p).length with
 |none=>simp
 |some v=>
  obtain ⟨s,hs,hv⟩:=Wl h;unfold yZ at hv;obtain ⟨r,hr,Ny⟩:=Wl hv;unfold Ip at Ny;split at Ny
  .obtain rfl:=cQ Ny;unfold dI nQ at hs;obtain ⟨y,_,rfl⟩:=AH.1 hs;have h1:=tB hr;obtain ⟨q,_,hq⟩:=mem_filterMap.1 h1;have:=uf hq;simp only [rB];omega
  .cases Ny
theorem CX (p:aG):(dI p).length<=p.aB.length/\∀x∈dI p,x.rules.length<=8:=by refine ⟨Ey _,?_⟩;intro x hx;unfold dI nQ at hx;obtain ⟨y,_,rfl⟩:=AH.1 hx;exact ZP (dG 59 y.body)
theorem aEe {s:bB} (h:dB s=true):s.length<=8:=by simp only [dB,eJ,fR] at h;omega
theorem BB {s:bB} {op:Nat} {v:jW×Bool} (h:lL s op=some v) (hb:v.2=true):v.1.text.length<=60:=by
 unfold lL at h;split at h
 .obtain rfl:=cQ h;simp only at hb⊢;unfold iI at hb;split at hb
  .simpa using hb
  .have:=aEe hb;omega
 .cases h
theorem XL {α:Type} {a b:Option α} {v:α} (h:a.or b=some v):a=some v\/b=some v:=by
 cases a with
 |none=>exact .inr (by simpa using h)
 |some x=>exact .inl (by simpa using h)
theorem Uv (p:bB) (h:(dC p).2=true):(dC p).1.text.length<=60:=by
 unfold dC at h⊢;cases hv:((((lL p 1).or (lL p 2)).or (lL p 3)).or (lL p 4)).or (lL p 5) with
 |none=>simp
 |some v=>
  rw [hv] at h;simp only [rB] at h⊢;rcases XL hv with hv|hv
  .rcases XL hv with hv|hv
   .rcases XL hv with hv|hv
    .rcases XL hv with hv|hv
     .exact BB hv h
     .exact BB hv h
    .exact BB hv h
   .exact BB hv h
  .exact BB hv h
theorem zL (s:bB):(gG s).1.length<=6/\∀x∈(gG s).1,x.text.length<=60:=by
 unfold gG;split
 .simp
 .split
  .rename_i h;refine ⟨by simpa using h.2,?_⟩;intro x hx;obtain ⟨p,hp,rfl⟩:=AH.1 hx;exact Uv p (fW.1 h.1 p hp)
  .simp
theorem Sn (c:UInt8) (s:bB):dG c s=s.take (iL c s)::(if iL c s < s.length then dG c (s.drop (iL c s+1)) else []):=by
 rw [Mv];have h:=uX c s;split
 .rfl
 .rw [cY (by omega)]
theorem aEl {p s:bB} {k:Nat} (h:BU p (s.take k)=true):BU p s=true:=by simp only [BU,eJ,fR,Bs,take_take,oR] at h⊢;obtain ⟨h1,h2⟩:=h;rw [Ds (by omega)] at h2;exact ⟨by omega,h2⟩
theorem aEm {s:bB} (h:BU Ak s=true):7<=iL 59 s:=by
 simp only [BU,eJ,fR,Bs] at h;obtain ⟨h1,h2⟩:=h;have h3:s=Ak++s.drop 7:=by have:=nF 7 s;rw [show Ak.length=7 from rfl] at h2;rw [h2] at this;exact this.symm
 rw [h3,Kt 59 Ak _ (by decide)];simp [Ak]
theorem W9 {s:bB} (h:BU Ak s=true):BU Ak (s.take (iL 59 s))=true:=by have h7:=aEm h;have hle:=uX 59 s;simp only [BU,eJ,fR,Bs,take_take,oR,show Ak.length=7 from rfl] at h⊢;rw [Ds h7];exact ⟨by omega,h.2⟩
theorem xC [aC prog] [bR prog] (body base:bB) (hl:body.length<=1073741824) (hb:base.length<=1073741824):Ok prog 173 [.str body,.str base] (.gZ [.sl .own 2 ((bJ body base).1.map aL),.sl .own 2 ((bJ body base).2.1.map lH),.bool (bJ body base).2.2]):=by
 have hst:=Le base (dG 59 body);have hn:=iW 59 body;have hcn:body.count 59<=body.length:=pD;have hll:(dG 59 body).length<=1073741825:=by omega
 have jU:∀acc r,oH base (dG 59 body)=some (acc,r)->∀ls ok,gG (Lib.join r [59])=(ls,ok)->bJ body base=if ok=true then (acc,ls,true) else ([],[],false):=by intro acc r h1 ls ok h2;unfold bJ;rw [h1];simp only [h2]
 have Bv:oH base (dG 59 body)=none->bJ body base=([],[],false):=by intro h1;unfold bJ;rw [h1]
 generalize bJ body base=g at *;have hi0:dG 59 body=dG 59 body\/(dG 59 body=[]/\body=[]):= .inl rfl;generalize hL:dG 59 body=l at hst hn hll jU Bv hi0;refine bO aD func173 ntmps173 ?_;refine aZ ?_;refine aP (ι:={q:bB×List bB×List aK×Nat // (q.1.length<=body.length/\1<=q.2.2.2)/\(q.2.1=dG 59 q.1\/(q.2.1=[]/\q.1=[]))/\q.2.2.1.length+q.2.1.length<=l.length/\zC base l q.2.2.1 q.2.1}) (λt o i=>⟨bE t [(8,.str i.1.1),(7,.obj 0 i.1.2.2.2),(9,.undef),(10,.undef),(11,.undef)],[⟨true,false,2,i.1.2.2.2,i.1.2.2.1.map aL⟩]⟩)
  (λi=>i.1.2.1.length) ⟨(body,l,[],1),by simp,.inl hL.symm,by simp,hst⟩ aO ?_
 rintro ⟨⟨rest,parts,acc,v⟩,⟨hrl,hv⟩,Ad,hac,qO⟩ K1 hK1;simp only at hrl hv Ad hac qO;simp only [bE,cW,cU] at hK1⊢;have aPl:Lib.join parts [59]=rest:=by
  rcases Ad with rfl|⟨rfl,rfl⟩
  .exact Ng 59 rest
  .rfl
 cases hp:BU Ak rest with
 |false=>
  have hs:oH base l=some (acc,parts):=by
   rcases Ad with rfl|⟨rfl,rfl⟩
   .rw [Sn] at qO⊢;refine Oj qO ?_;cases h:BU Ak (rest.take (iL 59 rest)) with
    |false=>rfl
    |true=>rw [aEl h] at hp;cases hp
   .exact Sm qO
  have hr:=jU _ _ hs;rw [aPl] at hr;have cP:=Bz rest (by omega);generalize gG rest=q at *;obtain ⟨ls,ok⟩:=q;have hr:=hr ls ok rfl;subst hr;simp only at cP;clear hK1 hs jU Bv qO;by_cases h7:(7:Int)<=(rest.length:Int)
  .have he:(rest.take 7 == ([105,109,112,111,114,116,32]:bB))=false:=by
    simp only [BU,show Ak.length=7 from rfl,tP,pT] at hp;rcases hp with hp|hp
    .omega
    .exact hp
   clear hp;cases ok
   .simp only [eS,hH];have W:=aA h7 he;refine we ?_;exact aF results173
   .simp only [gO];have W:=aA h7 he;refine we ?_;exact aF results173
  .clear hp;cases ok
   .simp only [eS,hH];have W:=h7;refine we ?_;exact aF results173
   .simp only [gO];have W:=h7;refine we ?_;exact aF results173
 |true=>
  have h7n:=Rt hp;have h7:(7:Int)<=(rest.length:Int):=by simp only [show Ak.length=7 from rfl] at h7n;omega
  have he:(rest.take 7 == ([105,109,112,111,114,116,32]:bB))=true:=by simp only [BU,show Ak.length=7 from rfl,eJ] at hp;exact hp.2
  have hpt:=W9 hp;have hix:=aEm hp;have hxl:=uX 59 rest;have hsg:parts=dG 59 rest:=by
   rcases Ad with h|⟨_,h⟩
   .exact h
   .subst h;simp at h7
  rw [Sn] at hsg;have cI:Ok prog 112 [.str rest,.int .u8 59] (.int .i64 (iL 59 rest:Nat)):=Jr rest 59 (by omega);generalize iL 59 rest=k at *;subst hsg;have c2:=yV ((rest.take k).drop 7) base (by simp;omega);simp only [aL] at c2;have jZ:=Sl qO hpt;have hnext:=Oi qO hpt;have cM:=aLa (rest.length:Int) ((k:Int)+1);have hk7:(7:Int)<=(k:Int):=by omega
  have hkl:(k:Int)<=(rest.length:Int):=by omega
  generalize bY ((rest.take k).drop 7) base=pa at *;obtain ⟨a,ok⟩:=pa;simp only at c2 jZ hnext;clear hp hpt;cases ok with
  |false=>have hr:=Bv (jZ rfl);subst hr;clear hK1;have W:=aA h7 (aA he (aA hk7 hkl));refine we ?_;exact aF results173
  |true=>
   by_cases hkk:k < rest.length
   .have hm:min (rest.length:Int) ((k:Int)+1)=((k+1:Nat):Int):=by omega
    rw [hm] at cM;have hk1:=oW (k:=k);rw [eI hkk] at hnext hac;have W:=aA h7 (aA he (aA hk7 (aA hkl hk1)));refine we ?_;all_goals exact hK1 _ ⟨(rest.drop (k+1),dG 59 (rest.drop (k+1)),acc++[a],v+1),⟨by simp;omega,by simp only;omega⟩,.inl rfl,by simp at hac⊢;omega,hnext rfl⟩ (aX 1) (by simp [eI hkk])
   .have hm:min (rest.length:Int) ((k:Int)+1)=(rest.length:Int):=by omega
    rw [hm] at cM;rw [cX hkk] at hnext hac;have W:=aA h7 (aA he (aA hk7 hkl));refine we ?_;all_goals exact hK1 _ ⟨([],[],acc++[a],v+1),⟨by simp,by simp only;omega⟩,.inr ⟨rfl,rfl⟩,by simp at hac⊢;omega,hnext rfl⟩ (aX 1) (by simp)
def iO (p:aG) (a:aK):List aK:=
 match p.aM.find? (kQ a) with
 |some m=>if m.done=true/\m.code=1 then (bJ m.body a.host).1 else []
 |none=>[]
def uQ (p:aG):List aK:=p.aM.flatMap λm=>(bJ m.body m.to.host).1
def gL (p:aG):Nat->aK->List aK->List aK->List aK×List aK
 |0,_,seen,out=>(seen,out)
 |n+1,a,seen,out=>if seen.any (iV a)=true then (seen,out) else
   (((iO p a).foldl (λs b=>gL p n b s.1 s.2) (seen++[a],out)).1,((iO p a).foldl (λs b=>gL p n b s.1 s.2) (seen++[a],out)).2++[a])
def rA (p:aG) (seen:List aK):Nat:=(p.aM.filter λm=> !seen.any (iV m.to)).length
def dX (p:aG) (n:Nat) (l:List aK) (s:List aK×List aK):List aK×List aK:=l.foldl (λs b=>gL p n b s.1 s.2) s
theorem Gm (p:aG) (n:Nat) (l:List aK) (b:aK) (s:List aK×List aK):dX p n (l++[b]) s=gL p n b (dX p n l s).1 (dX p n l s).2:=by simp [dX]
theorem yG {l:List aK} {a:aK}:l.any (iV a)=true↔a∈l:=by simp [iV]
theorem JB (p:aG) (a:aK):∀b∈iO p a,b∈uQ p:=by
 intro b hb;unfold iO at hb;split at hb
 .rename_i m hm;split at hb
  .have h1:=DG hm;have h2:=oY hm;simp only [kQ,fR] at h1;subst h1;exact Fk.2 ⟨m,h2,hb⟩
  .cases hb
 .cases hb
theorem um {p:aG} {a:aK} (h:iO p a≠[]):∃m∈p.aM,m.to=a:=by
 unfold iO at h;split at h
 .rename_i m hm;have h1:=DG hm;simp only [kQ,fR] at h1;exact ⟨m,oY hm,h1⟩
 .exact absurd rfl h
structure Seen (U : List aK) (s : List aK × List aK) : Prop where
  nd : s.1.Nodup
  sub : ∀ x ∈ s.1, x ∈ U
  ond : s.2.Nodup
  ak : ∀ x ∈ s.2, x ∈ s.1
theorem Ol {p:aG} {s s':List aK} (h:∀x∈s,x∈s'):rA p s'<=rA p s:=by
 unfold rA;have:∀l:List dY,(l.filter λm=> !s'.any (iV m.to)).length<=(l.filter λm=> !s.any (iV m.to)).length:=by
  intro l;induction l with
  |nil=>simp
  |cons m l ih=>
   simp only [filter_cons];by_cases h1:s.any (iV m.to)=true
   .have h2:s'.any (iV m.to)=true:=yG.2 (h _ (yG.1 h1));simp [h1,h2,ih]
   .simp only [wA] at h1;simp only [h1];split<;>simp<;>omega
 exact this p.aM
theorem Wp {p:aG} {s:List aK} {a:aK} (h:¬s.any (iV a)=true) (hm:∃m∈p.aM,m.to=a):rA p (s++[a]) < rA p s:=by
 obtain ⟨m,hm,rfl⟩:=hm;unfold rA;have key:∀l:List dY,(l.filter λx=> !(s++[m.to]).any (iV x.to)).length<=(l.filter λx=> !s.any (iV x.to)).length/\(m∈l->(l.filter λx=> !(s++[m.to]).any (iV x.to)).length < (l.filter λx=> !s.any (iV x.to)).length):=by
  intro l;induction l with
  |nil=>simp
  |cons x l ih=>
   simp only [filter_cons];by_cases h1:s.any (iV x.to)=true
   .have h2:(s++[m.to]).any (iV x.to)=true:=yG.2 (mN _ (yG.1 h1));simp only [h1,h2,Dd,eS,hH];refine ⟨ih.1,λhmem=> ?_⟩;rcases lE.1 hmem with rfl|hmem
    .exact absurd h1 h
    .exact ih.2 hmem
   .by_cases h2:(s++[m.to]).any (iV x.to)=true
    .simp only [wA] at h1;simp only [h1,h2,Dd,eS,hH,DQ,gO,eN];exact ⟨by omega,λ_=>by omega⟩
    .have h2':=h2;simp only [wA] at h1 h2;simp only [h1,h2,DQ,gO,eN];refine ⟨by omega,λhmem=> ?_⟩;rcases lE.1 hmem with rfl|hmem
     .exact absurd (yG.2 (by simp)) h2'
     .have:=ih.2 hmem;omega
 exact (key p.aM).2 hm
theorem EF {p:aG} {U:List aK} (hU:∀x∈uQ p,x∈U):∀(n:Nat) (a:aK) (s:List aK×List aK),a∈U->Seen U s->Seen U (gL p n a s.1 s.2)/\(∀x∈s.1,x∈(gL p n a s.1 s.2).1)
 |0,a,s,_,hs=>by simp only [gL];exact ⟨hs,λ_ h=>h⟩
 |n+1,a,s,ha,hs=>by
  simp only [gL];split
  .exact ⟨hs,λ_ h=>h⟩
  .rename_i hn;have hna:a∉s.1:=λh=>hn (yG.2 h)
   have key:∀(l:List aK) (q:List aK×List aK),(∀x∈l,x∈U)->Seen U q->(a∈q.1/\a∉q.2)->Seen U (l.foldl (λs b=>gL p n b s.1 s.2) q)/\(∀x∈q.1,x∈(l.foldl (λs b=>gL p n b s.1 s.2) q).1)/\a∉(l.foldl (λs b=>gL p n b s.1 s.2) q).2:=by
    intro l;induction l with
    |nil=>intro q _ hq ha;exact ⟨hq,λ_ h=>h,ha.2⟩
    |cons b l ih=>intro q hl hq haq;obtain ⟨h1,h2⟩:=EF hU n b q (hl b (by simp)) hq;have h3:a∉(gL p n b q.1 q.2).2:=Wq n b q haq.1 haq.2;obtain ⟨h4,h5,h6⟩:=ih (gL p n b q.1 q.2) (λx hx=>hl x (by simp [hx])) h1 ⟨h2 a haq.1,h3⟩;exact ⟨h4,λx hx=>h5 x (h2 x hx),h6⟩
   have hs1:Seen U (s.1++[a],s.2):=⟨gR.2 ⟨hs.nd,by simp,λx hx y hy e=>hna (by simp at hy;subst hy;subst e;exact hx)⟩,λx hx=>by
    rcases fL.1 hx with h|h
    .exact hs.sub x h
    .simp at h;subst h;exact ha,hs.ond,λx hx=>mN _ (hs.ak x hx)⟩
   obtain ⟨h1,h2,h3⟩:=key (iO p a) (s.1++[a],s.2) (λx hx=>hU x (JB p a x hx)) hs1 ⟨by simp,λh=>hna (hs.ak a h)⟩;refine ⟨⟨h1.nd,h1.sub,?_,?_⟩,λx hx=>h2 x (mN _ hx)⟩
   .exact gR.2 ⟨h1.ond,by simp,λx hx y hy e=>h3 (by simp at hy;subst hy;subst e;exact hx)⟩
   .intro x hx;rcases fL.1 hx with h|h
    .exact h1.ak x h
    .simp at h;subst h;exact h2 x (by simp)
where
 Wq {p:aG} {a:aK}:∀(n:Nat) (b:aK) (q:List aK×List aK),a∈q.1->a∉q.2->a∉(gL p n b q.1 q.2).2
  |0,b,q,h1,h2=>by simpa only [gL] using h2
  |n+1,b,q,h1,h2=>by
   simp only [gL];split
   .exact h2
   .rename_i hn;have hne:a≠b:=λe=>hn (yG.2 (e▸h1))
    have key:∀(l:List aK) (q:List aK×List aK),a∈q.1->a∉q.2->a∉(l.foldl (λs b=>gL p n b s.1 s.2) q).2:=by
     intro l;induction l with
     |nil=>intro q _ h;exact h
     |cons c l ih=>intro q h1 h2;exact ih _ (au n c q h1) (Wq n c q h1 h2)
    intro hm;rcases fL.1 hm with h|h
    .exact key (iO p b) (q.1++[b],q.2) (mN _ h1) h2 h
    .simp at h;exact hne h
 au {p:aG} {a:aK}:∀(n:Nat) (b:aK) (q:List aK×List aK),a∈q.1->a∈(gL p n b q.1 q.2).1
  |0,b,q,h1=>by simpa only [gL] using h1
  |n+1,b,q,h1=>by
   simp only [gL];split
   .exact h1
   .have key:∀(l:List aK) (q:List aK×List aK),a∈q.1->a∈(l.foldl (λs b=>gL p n b s.1 s.2) q).1:=by
     intro l;induction l with
     |nil=>intro q h;exact h
     |cons c l ih=>intro q h1;exact ih _ (au n c q h1)
    exact key (iO p b) (q.1++[b],q.2) (mN _ h1)
theorem DL {α:Type} (f:α->Nat):∀(l U:List α),l.Nodup->(∀x∈l,x∈U)->bH f l<=bH f U/\l.length<=U.length
 |[],U,_,_=>by simp [bH]
 |x::l,U,hn,hs=>by
  simp only [lR] at hn;obtain ⟨U1,U2,rfl⟩:=append_of_mem (hs x (by simp));have ih:=DL f l (U1++U2) hn.2 (λy hy=>by
   have:=hs y (by simp [hy]);simp only [fL,lE] at this⊢;rcases this with h|h|h
   .exact .inl h
   .subst h;exact absurd hy hn.1
   .exact .inr h)
  have e:∀(A B:List α),bH f (A++B)=bH f A+bH f B:=by
   intro A B;induction A with
   |nil=>simp [bH]
   |cons a A ih=>simp only [eA,bH,ih];omega
  simp only [e,bH,eR,eN] at ih⊢;omega
def qH (p:aG):List gD:=yM (jC p) (places rH 0 p.aB)++yM (oU p) (places rJ 0 p.aM)
theorem Nl [aC prog] (p:aG) (hl:p.aB.length<=1048576) (hm:p.aM.length<=1048576):Ok prog 32 [.agg (aI .view p)] (.sl .own 5 ((qH p).map dF)):=by
 have k1:=DF p (by omega);have k2:=EZ p (by omega);have m1:=BF rH p.aB 0;have m2:=BF rJ p.aM 0;have n1:=jE rH p.aB 0;have n2:=jE rJ p.aM 0;unfold qH;generalize places rH 0 p.aB=ps at *;generalize places rJ 0 p.aM=pm at *;refine bO aD func32 ntmps32 ?_;refine gY ?_;refine aP (ι:={q:Nat×Nat // q.1<=ps.length/\1<=q.2}) (λt o i=>⟨bE t [(3,.obj 1 i.1.2),(5,.int .i64 i.1.1)],o.take 1++[⟨true,false,5,i.1.2,(yM (jC p) (ps.take i.1.1)).map dF⟩]++[⟨true,false,1,1,ps.map lW⟩]⟩)
  (λi=>ps.length - i.1.1) ⟨(0,1),by simp,by first|(simp;done)|(simp only;omega)⟩ aO ?_
 rintro ⟨⟨k,v⟩,hk,hv⟩ K1 hK1;simp only at hk hv;simp only [bE,cW,cU,eL,fS,eA,eM] at hK1⊢;have hk1:=oW (k:=k);by_cases hlt:k < ps.length
 .have hg:=aE hlt;have hps:=yT (jC p) ps k hlt;have hpl:=qM (jC p) (ps.take k);have htl:(ps.take k).length=k:=by simp;omega
  generalize yM (jC p) (ps.take k)=g at *;have hb1:(g.length+1) * 72<=140737488355328:=by omega
  have hb2:g.length+1<=9223372036854775807:=by omega
  have hb3:g.length<=9223372036854775806:=by omega
  have hz:=m1 _ (fN hlt);have c1:=xA p ps[k] (by omega) (by omega) (by omega);simp only [aI,dF] at c1;have W:=aA hk1 (aA hg (aA hlt (aA hb1 (aA hb2 hb3))));refine wl ?_;refine hK1 _ ⟨(k+1,v+1),by simp only;omega,by simp only;omega⟩ (aX 3 (by simp [hps])) (by simp only;omega)
 .have htk:ps.take k=ps:=cY (by omega);rw [htk];have ag:=qM (jC p) ps;generalize hG:yM (jC p) ps=G at *;have W:=hk1;refine wl ?_;refine aP (ι:={q:Nat×Nat // q.1<=pm.length/\1<=q.2}) (λt o i=>⟨bE t [(3,.obj 1 i.1.2),(7,.int .i64 i.1.1)],o.take 1++[⟨true,false,5,i.1.2,(G++yM (oU p) (pm.take i.1.1)).map dF⟩]++[⟨true,false,1,1,ps.map lW⟩,⟨true,false,1,1,pm.map lW⟩]⟩)
   (λi=>pm.length - i.1.1) ⟨(0,v),by simp,by first|(simp;done)|(simp only;omega)⟩ aO ?_
  rintro ⟨⟨k,v⟩,hk,hv⟩ K1 hK1;simp only at hk hv;simp only [bE,cW,cU,eL,fS,eA,eM] at hK1⊢;have hk1:=oW (k:=k);by_cases hlt:k < pm.length
  .have hg:=aE hlt;have hps:=yT (oU p) pm k hlt;have hpl:=qM (oU p) (pm.take k);have htl:(pm.take k).length=k:=by simp;omega
   generalize yM (oU p) (pm.take k)=g at *;have hb1:(G.length+g.length+1) * 72<=140737488355328:=by omega
   have hb2:G.length+g.length+1<=9223372036854775807:=by omega
   have hb3:G.length+g.length<=9223372036854775806:=by omega
   have hz:=m2 _ (fN hlt);have c1:=CJ p pm[k] (by omega) (by omega) (by omega);simp only [aI,dF] at c1;have W:=aA hk1 (aA hg (aA hlt (aA hb1 (aA hb2 hb3))));refine wl ?_;refine hK1 _ ⟨(k+1,v+1),by simp only;omega,by simp only;omega⟩ (aX 4 (by simp [hps])) (by simp only;omega)
  .have htk:pm.take k=pm:=cY (by omega);rw [htk];have W:=hk1;refine wl ?_;all_goals try(refine aV ?_;simp [aH,results32])
   all_goals first|(rw [<-oS];exact xS _)|(simp [hG];rw [<-oS];exact xS _)|fail
theorem Nn [aC prog] (p:aG) (hl:p.aB.length<=1048576) (hm:p.aM.length<=1048576):Ok prog 84 [.agg (aI .view p)] (.sl .own 5 ((qH p).map dF)):=by
 have k1:=DI p (by omega);have k2:=Fa p (by omega);have m1:=BF rH p.aB 0;have m2:=BF rJ p.aM 0;have n1:=jE rH p.aB 0;have n2:=jE rJ p.aM 0;unfold qH;generalize places rH 0 p.aB=ps at *;generalize places rJ 0 p.aM=pm at *;refine bO aD func84 ntmps84 ?_;refine gY ?_;refine aP (ι:={q:Nat×Nat // q.1<=ps.length/\1<=q.2}) (λt o i=>⟨bE t [(3,.obj 1 i.1.2),(12,.int .i64 i.1.1)],o.take 1++[⟨true,false,5,i.1.2,(yM (jC p) (ps.take i.1.1)).map dF⟩]++[⟨true,false,1,1,ps.map lW⟩]⟩)
  (λi=>ps.length - i.1.1) ⟨(0,1),by simp,by first|(simp;done)|(simp only;omega)⟩ aO ?_
 rintro ⟨⟨k,v⟩,hk,hv⟩ K1 hK1;simp only at hk hv;simp only [bE,cW,cU,eL,fS,eA,eM] at hK1⊢;have hk1:=oW (k:=k);by_cases hlt:k < ps.length
 .have hg:=aE hlt;have hps:=yT (jC p) ps k hlt;have hpl:=qM (jC p) (ps.take k);have htl:(ps.take k).length=k:=by simp;omega
  generalize yM (jC p) (ps.take k)=g at *;have hb1:(g.length+1) * 72<=140737488355328:=by omega
  have hb2:g.length+1<=9223372036854775807:=by omega
  have hb3:g.length<=9223372036854775806:=by omega
  have hz:=m1 _ (fN hlt);have c1:=xB p ps[k] (by omega) (by omega) (by omega);simp only [aI,dF] at c1;have W:=aA hk1 (aA hg (aA hlt (aA hb1 (aA hb2 hb3))));refine wl ?_;refine hK1 _ ⟨(k+1,v+1),by simp only;omega,by simp only;omega⟩ (aX 3 (by simp [hps])) (by simp only;omega)
 .have htk:ps.take k=ps:=cY (by omega);rw [htk];have ag:=qM (jC p) ps;generalize hG:yM (jC p) ps=G at *;have W:=hk1;refine wl ?_;refine aP (ι:={q:Nat×Nat // q.1<=pm.length/\1<=q.2}) (λt o i=>⟨bE t [(3,.obj 1 i.1.2),(26,.int .i64 i.1.1)],o.take 1++[⟨true,false,5,i.1.2,(G++yM (oU p) (pm.take i.1.1)).map dF⟩]++[⟨true,false,1,1,ps.map lW⟩,⟨true,false,1,1,pm.map lW⟩]⟩)
   (λi=>pm.length - i.1.1) ⟨(0,v),by simp,by first|(simp;done)|(simp only;omega)⟩ aO ?_
  rintro ⟨⟨k,v⟩,hk,hv⟩ K1 hK1;simp only at hk hv;simp only [bE,cW,cU,eL,fS,eA,eM] at hK1⊢;have hk1:=oW (k:=k);by_cases hlt:k < pm.length
  .have hg:=aE hlt;have hps:=yT (oU p) pm k hlt;have hpl:=qM (oU p) (pm.take k);have htl:(pm.take k).length=k:=by simp;omega
   generalize yM (oU p) (pm.take k)=g at *;have hb1:(G.length+g.length+1) * 72<=140737488355328:=by omega
   have hb2:G.length+g.length+1<=9223372036854775807:=by omega
   have hb3:G.length+g.length<=9223372036854775806:=by omega
   have hz:=m2 _ (fN hlt);have c1:=uO p pm[k] (by omega) (by omega) (by omega);simp only [aI,dF] at c1;have W:=aA hk1 (aA hg (aA hlt (aA hb1 (aA hb2 hb3))));refine wl ?_;refine hK1 _ ⟨(k+1,v+1),by simp only;omega,by simp only;omega⟩ (aX 4 (by simp [hps])) (by simp only;omega)
  .have htk:pm.take k=pm:=cY (by omega);rw [htk];have W:=hk1;refine wl ?_;all_goals try(refine aV ?_;simp [aH,results84])
   all_goals first|(rw [<-oS];exact xS _)|(simp [hG];rw [<-oS];exact xS _)|fail
def xK:List (Nat×Nat):=[(3,24),(4,25),(5,26),(6,27),(7,28),(8,29),(9,30),(10,31),(11,32),(12,33),(13,34)]
theorem X5 {t t':List AV} {o o':List aN} {l1 l2 l3 l4 l5 l6 l7 l8 l9 l10 l11:Bool} {u n1 v1 n2 v2 n3 v3 n4 v4 n5 v5 n6 v6 n7 v7 n8 v8 n9 v9 U6 v10 U9 v11:Nat} {e1 e2 e3 e4 e5 e6 e7 e8 e9 V3 V4:List (List AV)} {o0 o1 o2 m0 m1 m2 m3 m4 m5 m6 m7 m8:aN} {q:aG} (ho:o=[o0,o1,o2,⟨l1,false,n1,v1,e1⟩,⟨l2,false,n2,v2,e2⟩,⟨l3,false,n3,v3,e3⟩,⟨l4,false,n4,v4,e4⟩,⟨l5,false,n5,v5,e5⟩,⟨l6,false,n6,v6,e6⟩,⟨l7,false,n7,v7,e7⟩,⟨l8,false,n8,v8,e8⟩,⟨l9,false,n9,v9,e9⟩,⟨l10,false,U6,v10,V3⟩,⟨l11,false,U9,v11,V4⟩,⟨true,true,22,u,[yR 24 q]⟩,m0,m1,m2,m3,m4,m5,m6,m7,m8]++yQ q)
  (ho':o'=[o0,o1,o2]++yQ q++[⟨true,true,22,u,[yR 3 q]⟩,m0,m1,m2,m3,m4,m5,m6,m7,m8]) (ht:∀z∈xK,wk (qP z.1 z.2 t') t') (hf:∀z∈xK,o0.lK z.1 z.2=o0/\o1.lK z.1 z.2=o1/\o2.lK z.1 z.2=o2/\m0.lK z.1 z.2=m0/\m1.lK z.1 z.2=m1/\m2.lK z.1 z.2=m2/\m3.lK z.1 z.2=m3/\m4.lK z.1 z.2=m4/\m5.lK z.1 z.2=m5/\m6.lK z.1 z.2=m6/\m7.lK z.1 z.2=m7/\m8.lK z.1 z.2=m8) (hw:wk t t') (hc:eX 24 t'=true) (hc0:dE 24 [o0,o1,o2,m0,m1,m2,m3,m4,m5,m6,m7,m8]=true):mX ⟨t,o⟩ ⟨t',o'⟩:=by
 subst ho;subst ho';have e:=λi j (h:(i,j)∈xK)=>hf (i,j) h
 have h:=λi j (h:(i,j)∈xK)=>ht (i,j) h
 simp only [yQ,yR,eA,eM];refine (wT hw).trans ?_;refine (aR 3 24 rfl rfl ⟨rfl,rfl⟩ (by simp [(e 3 24 (by decide))];rfl) (h 3 24 (by decide))).trans ?_;refine (aR 4 25 rfl rfl ⟨rfl,rfl⟩ (by simp [(e 4 25 (by decide))];rfl) (h 4 25 (by decide))).trans ?_;refine (aR 5 26 rfl rfl ⟨rfl,rfl⟩ (by simp [(e 5 26 (by decide))];rfl) (h 5 26 (by decide))).trans ?_;refine (aR 6 27 rfl rfl ⟨rfl,rfl⟩ (by simp [(e 6 27 (by decide))];rfl) (h 6 27 (by decide))).trans ?_;refine (aR 7 28 rfl rfl ⟨rfl,rfl⟩ (by simp [(e 7 28 (by decide))];rfl) (h 7 28 (by decide))).trans ?_;refine (aR 8 29 rfl rfl ⟨rfl,rfl⟩ (by simp [(e 8 29 (by decide))];rfl) (h 8 29 (by decide))).trans ?_;refine (aR 9 30 rfl rfl ⟨rfl,rfl⟩ (by simp [(e 9 30 (by decide))];rfl) (h 9 30 (by decide))).trans ?_;refine (aR 10 31 rfl rfl ⟨rfl,rfl⟩ (by simp [(e 10 31 (by decide))];rfl) (h 10 31 (by decide))).trans ?_;refine (aR 11 32 rfl rfl ⟨rfl,rfl⟩ (by simp [(e 11 32 (by decide))];rfl) (h 11 32 (by decide))).trans ?_;refine (aR 12 33 rfl rfl ⟨rfl,rfl⟩ (by simp [(e 12 33 (by decide))];rfl) (h 12 33 (by decide))).trans ?_;refine (aR 13 34 rfl rfl ⟨rfl,rfl⟩ (by simp [(e 13 34 (by decide))];rfl) (h 13 34 (by decide))).trans ?_;refine aX 24 (by simp) (mD _) hc ?_;simpa [dE,eX,closed,Ek] using hc0
theorem aEx {t t':List AV} {o o' o1 o2:List aN} {a b c d e:aN} (i1 j1 i2 j2 x:Nat) (h5:o[i1]? =some a) (h14:o[j1]? =some b) (hb:a.box=false/\b.box=false) (e1:((o.set i1 b).set j1 a).map (aN.lK i1 j1)=o1) (h6:o1[i2]? =some c) (h15:o1[j2]? =some d) (hd:c.box=false/\d.box=false) (e2:((o1.set i2 d).set j2 c).map (aN.lK i2 j2)=o2) (V5:o2[x]? =some e) (e3:o2.set x ⟨false,false,0,e.cZ,[]⟩=o') (w1:wk (qP i1 j1 t) t') (w2:wk (qP i2 j2 t') t'):mX ⟨t,o⟩ ⟨t',o'⟩:=
 (aR i1 j1 h5 h14 hb e1 w1).trans ((aR i2 j2 h6 h15 hd e2 w2).trans (Wj x V5 e3 (mD _)))
end Go.Proofs.YtdcpobkemdacnaaGreatDoor
