/- Proved here: steps towards the statement of this claim. No condition. -/
import Derived.Test.YtjmpjmilndkgfaaGreatDoorZQRLib
set_option linter.all false
set_option maxRecDepth 4000
set_option maxHeartbeats 4000000
namespace Go.Proofs.YtjmpjmilndkgfaaGreatDoor
open Go.Aw Proofs.Tryz List IntKind
theorem wJ {α:Type} {f:α->List AV} {i j:Nat} (h:∀x,qK i j (f x)=f x):∀l:List α,qX i j (l.map f)=l.map f
 |[]=>rfl
 |x::l=>by simp only [mT,qX,h,wJ h l]
@[simp] theorem aMu (i j:Nat) (l:List bF):qX i j (l.map bW)=l.map bW:=wJ (λ_=>rfl) l
@[simp] theorem aMv (i j:Nat) (l:List Int):qX i j (l.map jE)=l.map jE:=wJ (λ_=>rfl) l
@[simp] theorem aLc (i j:Nat) (l:List jY):qX i j (l.map gU)=l.map gU:=wJ (λ_=>rfl) l
@[simp] theorem aLd (i j:Nat) (l:List jP):qX i j (l.map lJ)=l.map lJ:=wJ (λ_=>rfl) l
@[simp] theorem aLe (i j:Nat) (l:List Ew):qX i j (l.map zG)=l.map zG:=wJ (λ_=>rfl) l
@[simp] theorem aHp (i j:Nat) (l:List gP):qX i j (l.map (eG .view))=l.map (eG .view):=wJ (λ_=>by simp) l
@[simp] theorem aJe (i j:Nat) (l:List gF):qX i j (l.map (dE .view))=l.map (dE .view):=wJ (λ_=>by simp) l
theorem Zq {t t':List AV} {o o':List aM} {v:Nat} {n0 p0 n1 p1 lg:List (List AV)} {o0 o1 o6:aM}
  (ho:o.take 10=[o0,o1,⟨true,false,4,1,n0⟩,⟨true,false,1,1,p0⟩,⟨true,true,2,0,[[.obj 7 1,.obj 8 1]]⟩,⟨true,false,1,v,lg⟩,o6,⟨true,false,4,1,n1⟩,⟨true,false,1,1,p1⟩,⟨true,true,2,0,[[.obj 7 1,.obj 8 1]]⟩])
  (ho':o'=[o0,o1,⟨true,false,4,1,n1⟩,⟨true,false,1,1,p1⟩,⟨true,true,2,0,[[.obj 2 1,.obj 3 1]]⟩,⟨true,false,1,v,lg⟩])
  (hf:(o0.mG 2 7=o0/\o1.mG 2 7=o1/\o6.mG 2 7=o6)/\(o0.mG 3 8=o0/\o1.mG 3 8=o1/\o6.mG 3 8=o6)) (hw:wk t t') (h1:wk (qK 2 7 t') t') (h3:wk (qK 3 8 t') t') (hc:fP 6 t'=true) (hc1:fP 10 t'=true) (hc0:dJ 6 [o0,o1]=true) (XC:dJ 10 [o0,o1,o6]=true):mK ⟨t,o⟩ ⟨t',o'⟩:=by
 subst ho';obtain ⟨⟨a0,a1,a6⟩,b0,b1,b6⟩:=hf;refine (aW 10 ho hw hc1 (by simpa [dJ,fP,closed,and_assoc] using XC)).trans ?_;refine (bA 2 7 rfl rfl ⟨rfl,rfl⟩ (by simp [a0,a1,a6];rfl) h1).trans ?_;refine (bA 3 8 rfl rfl ⟨rfl,rfl⟩ (by simp [b0,b1,b6];rfl) h3).trans ?_;refine aW 6 (by simp) (lC _) hc ?_;simpa [dJ,fP,closed] using hc0
def rV (ss:List gP) (s:bC×bF×List bF) (x:jP):bC×bF×List bF:=
 ((bX s.1 ss x).1,s.2.1++(bX s.1 ss x).2.1,if (bX s.1 ss x).2.2=[] then s.2.2 else s.2.2++[(bX s.1 ss x).2.2])
def eU (b:bC) (ss:List gP) (l:List jP):bC×bF×List bF:=l.foldl (rV ss) (b,[],[])
theorem IB {α:Type} (f:α->Nat):∀a b:List α,aQ f (a++b)=aQ f a+aQ f b
 |[],b=>by simp [aQ]
 |x::xs,b=>by simp only [eI,aQ,IB f xs b];omega
theorem QZ (b:bC) (ss:List gP) (x:jP) (hx:x.text.length<=268435456) (vM:∀n,0<=bJ ss n/\bJ ss n<=999) (hn:b.nodes.length<=274877906944):
  aP (bX b ss x).1<=aP b+x.text.length+1/\(bX b ss x).2.1.length<=x.text.length/\(bX b ss x).2.2.length<=x.text.length+30:=by
 have z7:=iM (aX b x.text) (by unfold aX;omega) (by
  unfold aX;have:=oB (λy:gF=>decide (y.name=x.text)) b.nodes;omega)
 have hc:=vM x.text;have z8:=iM (bJ ss x.text) (by omega) (by omega);unfold bX;split
 .refine ⟨by simp only;omega,by simp,by simp⟩
 .split
  .split
   .refine ⟨?_,by simp,by simp⟩;simp only [aP,bV,eR,IB,aQ,iF,eL,eW];omega
   .simp only [eW];omega
  .split
   .refine ⟨by simp only;omega,by simp,?_⟩;simp only [eR,wZ,eL,eW];omega
   .split
    .refine ⟨by simp only;omega,by simp,?_⟩;simp only [eR,Cf,eL,eW];omega
    .split
     .refine ⟨by simp only;omega,by simp,?_⟩;simp only [eR,JU,eL,eW];omega
     .simp only [eW];omega
def qY (b:bC) (ss:List gP) (l:List jP) (k:Nat):bC×bF×List bF:=eU b ss (l.take k)
theorem IC (b:bC) (ss:List gP) (l:List jP) (k:Nat) (h:k < l.length):qY b ss l (k+1)=rV ss (qY b ss l k) l[k]:=by unfold qY eU;rw [eA h,DQ];rfl
theorem Bi (N:Nat) (b:bC) (ss:List gP) (l:List jP) (hN:N<=268435456) (hl:l.length<=6) (hx:∀x∈l,x.text.length<=N) (vM:∀n,0<=bJ ss n/\bJ ss n<=999) (hb:aP b<=68719476736):
  ∀k,k<=l.length->aP (qY b ss l k).1<=aP b+k * (N+1)/\(qY b ss l k).2.1.length<=k * N/\(qY b ss l k).2.2.length<=k/\aQ eX (qY b ss l k).2.2<=k * (N+30)
 |0,_=>by simp [qY,eU,aQ]
 |k+1,h=>by
  obtain ⟨h1,h2,h3,h4⟩:=Bi N b ss l hN hl hx vM hb k (by omega);rw [IC b ss l k (by omega)];have hxk:=hx _ (fR (show k < l.length by omega));have hkN:k * (N+1)<=6 * (268435456+1):=Nat.mul_le_mul (by omega) (by omega);have hn:(qY b ss l k).1.nodes.length<=274877906944:=by simp only [aP,bV] at h1 hb;omega
  obtain ⟨z1,z2,z3⟩:=QZ (qY b ss l k).1 ss l[k] (by omega) vM hn;generalize qY b ss l k=g at *;have e1:(k+1) * (N+1)=k * (N+1)+(N+1):=by rw [pP];omega
  have e2:(k+1) * N=k * N+N:=by rw [pP];omega
  have e3:(k+1) * (N+30)=k * (N+30)+(N+30):=by rw [pP];omega
  rw [e1,e2,e3];refine ⟨?_,?_,?_,?_⟩
  .simp only [rV];omega
  .simp only [rV,eR];omega
  .simp only [rV];split
   .omega
   .simp only [eR,eL,eW];omega
  .simp only [rV];split
   .omega
   .simp only [IB,aQ,eX];omega
theorem VA {t t':List AV} {o o':List aM} {v u:Nat} {n0 p0 n1 p1 lg:List (List AV)} {o0 o1:aM}
  (ho:o.take 9=[o0,o1,⟨true,false,4,1,n0⟩,⟨true,false,1,1,p0⟩,⟨true,true,2,0,[[.obj 7 1,.obj 8 1]]⟩,⟨true,false,1,v,lg⟩,⟨true,true,2,u,[[.obj 7 1,.obj 8 1]]⟩,⟨true,false,4,1,n1⟩,⟨true,false,1,1,p1⟩])
  (ho':o'=[o0,o1,⟨true,false,4,1,n1⟩,⟨true,false,1,1,p1⟩,⟨true,true,2,0,[[.obj 2 1,.obj 3 1]]⟩,⟨true,false,1,v,lg⟩])
  (hf:(o0.mG 2 7=o0/\o1.mG 2 7=o1)/\(o0.mG 3 8=o0/\o1.mG 3 8=o1)) (hw:wk t t') (h1:wk (qK 2 7 t') t') (h3:wk (qK 3 8 t') t') (hc:fP 6 t'=true) (hc1:fP 9 t'=true) (hc0:dJ 6 [o0,o1]=true) (XC:dJ 9 [o0,o1]=true):mK ⟨t,o⟩ ⟨t',o'⟩:=by
 subst ho';obtain ⟨⟨a0,a1⟩,b0,b1⟩:=hf;refine (aW 9 ho hw hc1 (by simpa [dJ,fP,closed,and_assoc] using XC)).trans ?_;refine (bA 2 7 rfl rfl ⟨rfl,rfl⟩ (by simp [a0,a1];rfl) h1).trans ?_;refine (bA 3 8 rfl rfl ⟨rfl,rfl⟩ (by simp [b0,b1];rfl) h3).trans ?_;refine aW 6 (by simp) (lC _) hc ?_;simpa [dJ,fP,closed] using hc0
theorem LU [aC prog] [eH prog] (b:bC) (ss:List gP) (l:List jP) (hb:aP b<=68719476736) (h6:l.length<=6) (hx:∀x∈l,x.text.length<=268435456) (hl:ss.length<=1099511627776) (hr:∀x∈ss,x.rules.length<=1099511627776) (vM:∀n,0<=bJ ss n/\bJ ss n<=999):
  Ok prog 229 [.agg (aS .view b),.sl .view 1 (ss.map (eG .view)),.sl .view 2 (l.map lJ)] (.iJ [.agg (aS .own (eU b ss l).1),.str (eU b ss l).2.1,.sl .own 1 ((eU b ss l).2.2.map bW)]):=by
 have c0:=kR b (by omega);have hsz:=Bi 268435456 b ss l (by omega) h6 hx vM hb;have LV:=IC b ss l;have hend:qY b ss l l.length=eU b ss l:=by simp [qY]
 have hz0:qY b ss l 0=(b,[],[]):=rfl;rw [<-hend];clear hend;have cR:=λ(b:bC) (x:jP) (h1:aP b<=274877906944) (h2:x.text.length<=268435456)=>QX b ss x h1 h2 hl hr vM
 clear hr vM;generalize qY b ss l=G at *;simp only [aS] at c0;refine bR aD func229 ntmps229 ?_;refine gJ ?_;refine aL (ι:={q:Nat×Nat // q.1<=l.length/\1<=q.2}) (λt o i=>⟨bD t [(22,.int .i64 i.1.1),(10,.str (G i.1.1).2.1),(11,.obj 5 i.1.2),(13,.undef),(14,.undef),(15,.undef),(16,.undef),(18,.undef)],o.take 2++[⟨true,false,4,1,(G i.1.1).1.nodes.map (dE .own)⟩,⟨true,false,1,1,(G i.1.1).1.opens.map jE⟩,⟨true,true,2,0,[[.obj 2 1,.obj 3 1]]⟩,⟨true,false,1,i.1.2,(G i.1.1).2.2.map bW⟩]⟩)
  (λi=>l.length - i.1.1) ⟨(0,1),by simp,by simp⟩ (aH (by simp [hz0]) (by simp [hz0])) ?_
 rintro ⟨⟨k,v⟩,hk,hv⟩ K1 hK1;simp only at hk hv;simp only [bD,cW,cU,eM,gR,eI,eN] at hK1⊢;have hk1:=oW (k:=k);by_cases hlt:k < l.length
 .have hg:=aE hlt;have hxk:=hx _ (fR hlt);obtain ⟨s1,s2,s3,_⟩:=hsz k hk;have hk6:k * (268435456+1)<=6 * (268435456+1):=kO _ (by omega);have hk7:k * 268435456<=6 * 268435456:=kO _ (by omega);have hnext:=LV k hlt;have cL:=cR (G k).1 l[k] (by omega) hxk;have ht1:=(hsz (k+1) (by omega)).2.1;obtain ⟨n1,p1,mw,ms,hR⟩:∃n1 p1 mw ms,bX (G k).1 ss l[k]=(⟨n1,p1⟩,mw,ms):=⟨_,_,_,_,rfl⟩;rw [hR] at cL;simp only [rV,hR] at hnext;rw [hnext] at ht1;clear hR cR hsz LV hx;generalize hGk:G k=g at *;obtain ⟨⟨n0,p0⟩,w0,lg0⟩:=g;simp only at s1 s2 s3 ht1 hnext cL;have hwl:w0.length+mw.length<=1610612736:=by rw [eR] at ht1;have:(k+1) * 268435456<=6 * 268435456:=kO _ (by omega);omega
  have bu:lg0.length<=6:=by omega
  clear s1 s2 s3 ht1;simp only [aS,lJ] at cL;by_cases AA:ms=[]
  .rw [eK AA] at hnext;subst AA;have W:=aA hk1 (aA hg hwl);have V:=hlt;refine wl ?_;all_goals refine hK1 _ ⟨(k+1,v),by simp only;omega,by simp only;omega⟩ ?_ (by simp only;omega)
   all_goals exact Zq rfl (by simp [hnext]) (by simp) (by simp [hnext]) (by simp) (by simp) (by simp) (by simp) (by simp [dJ]) (by simp [dJ])
  .rw [cY AA] at hnext;have hmb:ms.isEmpty=false:=by cases ms with|nil=>exact absurd rfl AA|cons _ _=>rfl
   have W:=aA hk1 (aA hg (aA hwl (aA AA (aA hmb bu))));have V:=hlt;refine wl ?_;all_goals refine hK1 _ ⟨(k+1,v+1),by simp only;omega,by simp only;omega⟩ ?_ (by simp only;omega)
   all_goals exact Zq rfl (by simp [hnext]) (by simp) (by simp [hnext]) (by simp) (by simp) (by simp) (by simp) (by simp [dJ]) (by simp [dJ])
 .have hkl:k=l.length:=by omega
  subst hkl;have W:=hk1;refine wl ?_;exact aK results229
theorem Di [aC prog] [eH prog] (b:bC) (ss:List gP) (l:List jP) (hb:aP b<=68719476736) (h6:l.length<=6) (hx:∀x∈l,x.text.length<=268435456) (hl:ss.length<=1099511627776) (hr:∀x∈ss,x.rules.length<=1099511627776) (vM:∀n,0<=bJ ss n/\bJ ss n<=999):
  Ok prog 161 [.agg (aS .view b),.sl .view 1 (ss.map (eG .view)),.sl .view 2 (l.map lJ)] (.iJ [.agg (aS .own (eU b ss l).1),.str (eU b ss l).2.1,.sl .own 1 ((eU b ss l).2.2.map bW)]):=by
 have c0:=kU b (by omega);have hsz:=Bi 268435456 b ss l (by omega) h6 hx vM hb;have LV:=IC b ss l;have hend:qY b ss l l.length=eU b ss l:=by simp [qY]
 have hz0:qY b ss l 0=(b,[],[]):=rfl;rw [<-hend];clear hend;have cR:=λ(b:bC) (x:jP) (h1:aP b<=274877906944) (h2:x.text.length<=268435456)=>QY b ss x h1 h2 hl hr vM
 clear hr vM;generalize qY b ss l=G at *;simp only [aS] at c0;refine bR aD func161 ntmps161 ?_;refine gJ ?_;refine aL (ι:={q:Nat×Nat // q.1<=l.length/\1<=q.2}) (λt o i=>⟨bD t [(12,.int .i64 i.1.1),(10,.str (G i.1.1).2.1),(11,.obj 5 i.1.2),(13,.undef),(13,.undef),(14,.undef),(15,.undef),(17,.undef)],o.take 2++[⟨true,false,4,1,(G i.1.1).1.nodes.map (dE .own)⟩,⟨true,false,1,1,(G i.1.1).1.opens.map jE⟩,⟨true,true,2,0,[[.obj 2 1,.obj 3 1]]⟩,⟨true,false,1,i.1.2,(G i.1.1).2.2.map bW⟩]⟩)
  (λi=>l.length - i.1.1) ⟨(0,1),by simp,by simp⟩ (aH (by simp [hz0]) (by simp [hz0])) ?_
 rintro ⟨⟨k,v⟩,hk,hv⟩ K1 hK1;simp only at hk hv;simp only [bD,cW,cU,eM,gR,eI,eN] at hK1⊢;have hk1:=oW (k:=k);by_cases hlt:k < l.length
 .have hg:=aE hlt;have hxk:=hx _ (fR hlt);obtain ⟨s1,s2,s3,_⟩:=hsz k hk;have hk6:k * (268435456+1)<=6 * (268435456+1):=kO _ (by omega);have hk7:k * 268435456<=6 * 268435456:=kO _ (by omega);have hnext:=LV k hlt;have cL:=cR (G k).1 l[k] (by omega) hxk;have ht1:=(hsz (k+1) (by omega)).2.1;obtain ⟨n1,p1,mw,ms,hR⟩:∃n1 p1 mw ms,bX (G k).1 ss l[k]=(⟨n1,p1⟩,mw,ms):=⟨_,_,_,_,rfl⟩;rw [hR] at cL;simp only [rV,hR] at hnext;rw [hnext] at ht1;clear hR cR hsz LV hx;generalize hGk:G k=g at *;obtain ⟨⟨n0,p0⟩,w0,lg0⟩:=g;simp only at s1 s2 s3 ht1 hnext cL;have hwl:w0.length+mw.length<=1610612736:=by rw [eR] at ht1;have:(k+1) * 268435456<=6 * 268435456:=kO _ (by omega);omega
  have bu:lg0.length<=6:=by omega
  clear s1 s2 s3 ht1;simp only [aS,lJ] at cL;by_cases AA:ms=[]
  .rw [eK AA] at hnext;subst AA;have W:=aA hk1 (aA hg hwl);have V:=hlt;refine wl ?_;all_goals refine hK1 _ ⟨(k+1,v),by simp only;omega,by simp only;omega⟩ ?_ (by simp only;omega)
   all_goals exact VA rfl (by simp [hnext]) (by simp) (by simp [hnext]) (by simp) (by simp) (by simp) (by simp) (by simp [dJ]) (by simp [dJ])
  .rw [cY AA] at hnext;have hmb:ms.isEmpty=false:=by cases ms with|nil=>exact absurd rfl AA|cons _ _=>rfl
   have W:=aA hk1 (aA hg (aA hwl (aA AA (aA hmb bu))));have V:=hlt;refine wl ?_;all_goals refine hK1 _ ⟨(k+1,v+1),by simp only;omega,by simp only;omega⟩ ?_ (by simp only;omega)
   all_goals exact VA rfl (by simp [hnext]) (by simp) (by simp [hnext]) (by simp) (by simp) (by simp) (by simp) (by simp [dJ]) (by simp [dJ])
 .have hkl:k=l.length:=by omega
  subst hkl;have W:=hk1;refine wl ?_;exact aK results161
theorem VE {α:Type} {f:α->Option Int} {l:List α} {k:Nat} {v:Int} (h:look f l k=some v):∃x∈l,f x=some v:=by unfold look at h;obtain ⟨x,hx,hv⟩:=exists_of_findSome?_eq_some h;exact ⟨x,sC (mem_reverse.1 hx),hv⟩
theorem qc {q:bF} {r:Ew} (h:tT q=some r):1<=r.color/\r.color<=999:=by
 unfold tT at h;split at h
 .split at h
  .rename_i hc;obtain rfl:=cQ h;exact hc.2
  .cases h
 .cases h
theorem wK (p:aI) (n:bF):0<=bJ (dI p) n/\bJ (dI p) n<=999:=by
 unfold bJ;cases h:look (yG n) (dI p) (dI p).length with
 |none=>simp
 |some v=>
  obtain ⟨s,hs,hv⟩:=VE h;unfold yG at hv;obtain ⟨r,hr,MB⟩:=VE hv;unfold GX at MB;split at MB
  .obtain rfl:=cQ MB;unfold dI nJ at hs;obtain ⟨y,_,rfl⟩:=Bx.1 hs;have h1:=sC hr;obtain ⟨q,_,hq⟩:=mem_filterMap.1 h1;have:=qc hq;simp only [rK];omega
  .cases MB
theorem CE (p:aI):(dI p).length<=p.aB.length/\∀x∈dI p,x.rules.length<=8:=by refine ⟨Ee _,?_⟩;intro x hx;unfold dI nJ at hx;obtain ⟨y,_,rfl⟩:=Bx.1 hx;exact Zk (dF 59 y.body)
theorem aD1 {s:bF} (h:dA s=true):s.length<=8:=by simp only [dA,eJ,fN] at h;omega
theorem Bn {s:bF} {op:Nat} {v:jP×Bool} (h:lK s op=some v) (hb:v.2=true):v.1.text.length<=60:=by
 unfold lK at h;split at h
 .obtain rfl:=cQ h;simp only at hb⊢;unfold iG at hb;split at hb
  .simpa using hb
  .have:=aD1 hb;omega
 .cases h
theorem Xf {α:Type} {a b:Option α} {v:α} (h:a.or b=some v):a=some v\/b=some v:=by
 cases a with
 |none=>exact .inr (by simpa using h)
 |some x=>exact .inl (by simpa using h)
theorem TT (p:bF) (h:(cZ p).2=true):(cZ p).1.text.length<=60:=by
 unfold cZ at h⊢;cases hv:((((lK p 1).or (lK p 2)).or (lK p 3)).or (lK p 4)).or (lK p 5) with
 |none=>simp
 |some v=>
  rw [hv] at h;simp only [rK] at h⊢;rcases Xf hv with hv|hv
  .rcases Xf hv with hv|hv
   .rcases Xf hv with hv|hv
    .rcases Xf hv with hv|hv
     .exact Bn hv h
     .exact Bn hv h
    .exact Bn hv h
   .exact Bn hv h
  .exact Bn hv h
theorem yU (s:bF):(fZ s).1.length<=6/\∀x∈(fZ s).1,x.text.length<=60:=by
 unfold fZ;split
 .simp
 .split
  .rename_i h;refine ⟨by simpa using h.2,?_⟩;intro x hx;obtain ⟨p,hp,rfl⟩:=Bx.1 hx;exact TT p (fS.1 h.1 p hp)
  .simp
end Go.Proofs.YtjmpjmilndkgfaaGreatDoor
