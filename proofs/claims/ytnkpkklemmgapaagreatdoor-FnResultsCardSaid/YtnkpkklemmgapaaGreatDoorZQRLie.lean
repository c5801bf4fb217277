/- Proved here: steps towards the statement of this claim. No condition. -/
import Derived.Test.YtnkpkklemmgapaaGreatDoorZQRLsa
import Derived.Test.YtnkpkklemmgapaaGreatDoorZQI6
set_option linter.all false
set_option maxRecDepth 8000
set_option maxHeartbeats 8000000
namespace Go.Proofs.YtnkpkklemmgapaaGreatDoor
open Go.Aw Proofs.Tryz List IntKind
theorem Qb[aB prog][eO prog](b:aY)(ss:List bW)(x:kZ)(hs:aS b<=274877906944)(hx:x.text.length<=268435456)(hl:ss.length<=1099511627776)(hr:∀x∈ss,x.rules.length<=1099511627776)(EJ:∀n,0<=bG ss n/\bG ss n<=999):
  Ok prog 225 [.agg (aW .view b),.sl .view 1 (ss.map (bX .view)),.agg (tC x)] (.iP [.agg (aW .own (eH b ss x).1),.str (eH b ss x).2.1,.str (eH b ss x).2.2]):=by
 by_cases h1:x.op=1
 .exact aDa b ss x hs hx hl hr EJ h1
 by_cases h2:x.op=2
 .exact aDb b ss x hs hx hl hr EJ h2
 by_cases h3:x.op=3
 .exact aDd b ss x hs hx hl hr EJ h3
 by_cases h4:x.op=4
 .exact aDe b ss x hs hx hl hr EJ h4
 by_cases h5:x.op=5
 .exact aDf b ss x hs hx hl hr EJ h5
 exact aDc b ss x hs hx hl hr EJ ⟨h1,h2,h3,h4,h5⟩
theorem vT{α:Type}{f:α->List AV}{i j:Nat}(h:∀x,sQ i j (f x)=f x):∀l:List α,oF i j (l.map f)=l.map f
 |[]=>rfl
 |x::l=>by simp only[lA,oF,h,vT h l]
@[simp] theorem aNf(i j:Nat)(l:List aU):oF i j (l.map dQ)=l.map dQ:=vT (λ_=>rfl) l
@[simp] theorem aNg(i j:Nat)(l:List Int):oF i j (l.map lI)=l.map lI:=vT (λ_=>rfl) l
@[simp] theorem aLv(i j:Nat)(l:List nY):oF i j (l.map uH)=l.map uH:=vT (λ_=>rfl) l
@[simp] theorem aLw(i j:Nat)(l:List kZ):oF i j (l.map tC)=l.map tC:=vT (λ_=>rfl) l
@[simp] theorem aLx(i j:Nat)(l:List nZ):oF i j (l.map kM)=l.map kM:=vT (λ_=>rfl) l
@[simp] theorem aHz(i j:Nat)(l:List bW):oF i j (l.map (bX .view))=l.map (bX .view):=vT (λ_=>by simp) l
@[simp] theorem aJz(i j:Nat)(l:List gV):oF i j (l.map (fC .view))=l.map (fC .view):=vT (λ_=>by simp) l
def qF(ss:List bW)(s:aY×aU×List aU)(x:kZ):aY×aU×List aU:=
 ((eH s.1 ss x).1,s.2.1++(eH s.1 ss x).2.1,if (eH s.1 ss x).2.2=[]then s.2.2 else s.2.2++[(eH s.1 ss x).2.2])
def fP(b:aY)(ss:List bW)(l:List kZ):aY×aU×List aU:=l.foldl (qF ss) (b,[],[])
theorem IE{α:Type}(f:α->Nat):∀a b:List α,bB f (a++b)=bB f a+bB f b
 |[],b=>by simp[bB]
 |x::xs,b=>by simp only[cW,bB,IE f xs b];omega
theorem Qc(b:aY)(ss:List bW)(x:kZ)(hx:x.text.length<=268435456)(EJ:∀n,0<=bG ss n/\bG ss n<=999)(hn:b.nodes.length<=274877906944):
  aS (eH b ss x).1<=aS b+x.text.length+1/\(eH b ss x).2.1.length<=x.text.length/\(eH b ss x).2.2.length<=x.text.length+30:=by
 have z7:=jM (bO b x.text) (by unfold bO;omega) (by
  unfold bO;have:=sL (λy:gV=>decide (y.name=x.text)) b.nodes;omega)
 have hc:=EJ x.text;have z8:=jM (bG ss x.text) (by omega) (by omega);unfold eH;split
 .refine ⟨by simp only;omega,by simp,by simp⟩
 .split
  .split
   .refine ⟨?_,by simp,by simp⟩;simp only[aS,bV,eM,IE,bB,gK,dT,eR];omega
   .simp only[eR];omega
  .split
   .refine ⟨by simp only;omega,by simp,?_⟩;simp only[eM,EH,dT,eR];omega
   .split
    .refine ⟨by simp only;omega,by simp,?_⟩;simp only[eM,MI,dT,eR];omega
    .split
     .refine ⟨by simp only;omega,by simp,?_⟩;simp only[eM,Yh,dT,eR];omega
     .simp only[eR];omega
def uY(b:aY)(ss:List bW)(l:List kZ)(k:Nat):aY×aU×List aU:=fP b ss (l.take k)
theorem Qd(b:aY)(ss:List bW)(l:List kZ)(k:Nat)(h:k<l.length):uY b ss l (k+1)=qF ss (uY b ss l k) l[k]:=by unfold uY fP;rw[eL h,CI];rfl
theorem EK(N:Nat)(b:aY)(ss:List bW)(l:List kZ)(hN:N<=268435456)(hl:l.length<=6)(hx:∀x∈l,x.text.length<=N)(EJ:∀n,0<=bG ss n/\bG ss n<=999)(hb:aS b<=68719476736):
  ∀k,k<=l.length->aS (uY b ss l k).1<=aS b+k*(N+1)/\(uY b ss l k).2.1.length<=k*N/\(uY b ss l k).2.2.length<=k/\bB dI (uY b ss l k).2.2<=k*(N+30)
 |0,_=>by simp[uY,fP,bB]
 |k+1,h=>by
  obtain⟨h1,h2,h3,h4⟩:=EK N b ss l hN hl hx EJ hb k (by omega);rw[Qd b ss l k (by omega)];have hxk:=hx _ (hI (show k<l.length by omega));have hkN:k*(N+1)<=6*(268435456+1):=Nat.mul_le_mul (by omega) (by omega);have hn:(uY b ss l k).1.nodes.length<=274877906944:=by simp only[aS,bV]at h1 hb;omega
  obtain⟨z1,z2,z3⟩:=Qc (uY b ss l k).1 ss l[k] (by omega) EJ hn;generalize uY b ss l k=g at*;have e1:(k+1)*(N+1)=k*(N+1)+(N+1):=by rw[rB];omega
  have e2:(k+1)*N=k*N+N:=by rw[rB];omega
  have e3:(k+1)*(N+30)=k*(N+30)+(N+30):=by rw[rB];omega
  rw[e1,e2,e3];refine⟨?_,?_,?_,?_⟩
  .simp only[qF];omega
  .simp only[qF,eM];omega
  .simp only[qF];split
   .omega
   .simp only[eM,dT,eR];omega
  .simp only[qF];split
   .omega
   .simp only[IE,bB,dI];omega
theorem Ut{t t':List AV}{o o':List aD}{v u:Nat}{n0 p0 n1 p1 lg:List (List AV)}{o0 o1:aD}
  (ho:o.take 9=[o0,o1,⟨true,false,4,1,n0⟩,⟨true,false,1,1,p0⟩,⟨true,true,2,0,[[.obj 7 1,.obj 8 1]]⟩,⟨true,false,1,v,lg⟩,⟨true,true,2,u,[[.obj 7 1,.obj 8 1]]⟩,⟨true,false,4,1,n1⟩,⟨true,false,1,1,p1⟩])
  (ho':o'=[o0,o1,⟨true,false,4,1,n1⟩,⟨true,false,1,1,p1⟩,⟨true,true,2,0,[[.obj 2 1,.obj 3 1]]⟩,⟨true,false,1,v,lg⟩])
  (hf:(o0.qO 2 7=o0/\o1.qO 2 7=o1)/\(o0.qO 3 8=o0/\o1.qO 3 8=o1)) (hw:wk t t') (h1:wk (sQ 2 7 t') t') (h3:wk (sQ 3 8 t') t') (hc:gH 6 t'=true) (WB:gH 9 t'=true) (hc0:fI 6 [o0,o1]=true) (ry:fI 9 [o0,o1]=true):kY ⟨t,o⟩ ⟨t',o'⟩:=by
 subst ho';obtain⟨⟨a0,a1⟩,b0,b1⟩:=hf;refine(aL 9 ho hw WB (by simpa [fI,gH,closed,and_assoc]using ry)).trans ?_;refine(bK 2 7 rfl rfl ⟨rfl,rfl⟩ (by simp[a0,a1];rfl) h1).trans ?_;refine(bK 3 8 rfl rfl ⟨rfl,rfl⟩ (by simp[b0,b1];rfl) h3).trans ?_;refine aL 6 (by simp) (mR _) hc ?_;simpa [fI,gH,closed]using hc0
theorem Cr[aB prog][eO prog](b:aY)(ss:List bW)(l:List kZ)(hb:aS b<=68719476736)(h6:l.length<=6)(hx:∀x∈l,x.text.length<=268435456)(hl:ss.length<=1099511627776)(hr:∀x∈ss,x.rules.length<=1099511627776)(EJ:∀n,0<=bG ss n/\bG ss n<=999):
  Ok prog 190 [.agg (aW .view b),.sl .view 1 (ss.map (bX .view)),.sl .view 2 (l.map tC)] (.iP [.agg (aW .own (fP b ss l).1),.str (fP b ss l).2.1,.sl .own 1 ((fP b ss l).2.2.map dQ)]):=by
 have c0:=gX b (by omega);have hsz:=EK 268435456 b ss l (by omega) h6 hx EJ hb;have H9:=Qd b ss l;have hend:uY b ss l l.length=fP b ss l:=by simp[uY]
 have hz0:uY b ss l 0=(b,[],[]):=rfl;rw[<-hend];clear hend;have cR:=λ(b:aY) (x:kZ) (h1:aS b<=274877906944) (h2:x.text.length<=268435456)=>Qb b ss x h1 h2 hl hr EJ
 clear hr EJ;generalize uY b ss l=G at*;simp only[aW]at c0;refine dL aO func190 ntmps190 ?_;refine oU ?_;refine aI (ι:={q:Nat×Nat // q.1<=l.length/\1<=q.2}) (λt o i=>⟨bH t [(12,.int .i64 i.1.1),(10,.str (G i.1.1).2.1),(11,.obj 5 i.1.2),(13,.undef),(13,.undef),(14,.undef),(15,.undef),(17,.undef)],o.take 2++[⟨true,false,4,1,(G i.1.1).1.nodes.map (fC .own)⟩,⟨true,false,1,1,(G i.1.1).1.opens.map lI⟩,⟨true,true,2,0,[[.obj 2 1,.obj 3 1]]⟩,⟨true,false,1,i.1.2,(G i.1.1).2.2.map dQ⟩]⟩)
  (λi=>l.length-i.1.1) ⟨(0,1),by simp,by simp⟩ (aG (by simp[hz0]) (by simp[hz0])) ?_
 rintro⟨⟨k,v⟩,hk,hv⟩ K1 hK1;simp only at hk hv;simp only[bH,cH,cJ,fL,lE,cW,cY]at hK1⊢;have hk1:=rE (k:=k);by_cases hlt:k<l.length
 .have hg:=aE hlt;have hxk:=hx _ (hI hlt);obtain⟨s1,s2,s3,_⟩:=hsz k hk;have hk6:k*(268435456+1)<=6*(268435456+1):=pT _ (by omega);have hk7:k*268435456<=6*268435456:=pT _ (by omega);have hnext:=H9 k hlt;have cL:=cR (G k).1 l[k] (by omega) hxk;have ht1:=(hsz (k+1) (by omega)).2.1;obtain⟨n1,p1,mw,ms,hR⟩:∃n1 p1 mw ms,eH (G k).1 ss l[k]=(⟨n1,p1⟩,mw,ms):=⟨_,_,_,_,rfl⟩;rw[hR]at cL;simp only[qF,hR]at hnext;rw[hnext]at ht1;clear hR cR hsz H9 hx;generalize hGk:G k=g at*;obtain⟨⟨n0,p0⟩,w0,lg0⟩:=g;simp only at s1 s2 s3 ht1 hnext cL;have hwl:w0.length+mw.length<=1610612736:=by rw[eM]at ht1;have:(k+1)*268435456<=6*268435456:=pT _ (by omega);omega
  have hlg:lg0.length<=6:=by omega
  clear s1 s2 s3 ht1;simp only[aW,tC]at cL;by_cases hms:ms=[]
  .rw [eW hms]at hnext;subst hms;have W:=aA hk1 (aA hg hwl);have V:=hlt;refine wl ?_;all_goals refine hK1 _ ⟨(k+1,v),by simp only;omega,by simp only;omega⟩ ?_ (by simp only;omega)
   all_goals exact Ut rfl (by simp[hnext]) (by simp) (by simp[hnext]) (by simp) (by simp) (by simp) (by simp) (by simp[fI]) (by simp[fI])
  .rw [eK hms]at hnext;have hmb:ms.isEmpty=false:=by cases ms with|nil=>exact absurd rfl hms|cons _ _=>rfl
   have W:=aA hk1 (aA hg (aA hwl (aA hms (aA hmb hlg))));have V:=hlt;refine wl ?_;all_goals refine hK1 _ ⟨(k+1,v+1),by simp only;omega,by simp only;omega⟩ ?_ (by simp only;omega)
   all_goals exact Ut rfl (by simp[hnext]) (by simp) (by simp[hnext]) (by simp) (by simp) (by simp) (by simp) (by simp[fI]) (by simp[fI])
 .have hkl:k=l.length:=by omega
  subst hkl;have W:=hk1;refine wl ?_;exact aR results190
def lD(l:List aU)(s:aU):List aU:=if l.length<40 then l++[s]else l
def ZP(q:aC):List aD:=[⟨true,false,1,1,q.bM.lG.map dQ⟩,⟨true,false,1,1,q.bM.oC.map dQ⟩,⟨true,false,1,1,q.bM.oD.map dQ⟩,⟨true,false,4,1,q.queue.map (eG .own)⟩,⟨true,false,4,1,q.builder.nodes.map (fC .own)⟩,⟨true,false,1,1,q.builder.opens.map lI⟩,⟨true,false,8,1,q.aF.map xC⟩,⟨true,false,5,1,q.aN.map lT⟩,⟨true,false,2,1,q.entries.map bC⟩,⟨true,false,2,1,q.uI.map bC⟩,⟨true,false,1,1,q.log.map dQ⟩]
def ZQ(b:Nat)(q:aC):List AV:=[.str q.addr.host,.str q.addr.path,.bool q.bM.isSet,.obj b 1,.obj (b+1) 1,.obj (b+2) 1,.str q.bM.vQ,.str q.tok.rest,.obj (b+3) 1,.bool q.ended,.obj (b+4) 1,.obj (b+5) 1,.obj (b+6) 1,.obj (b+7) 1,.obj (b+8) 1,.int .i64 q.block,.int .i64 q.inline,.int .i64 q.deferred,.int .i64 q.iV,.obj (b+9) 1,.obj (b+10) 1,.bool q.jZ]
def mM(l ss:List aU):List aU:=ss.foldl lD l
theorem ML(l ss:List aU)(k:Nat)(h:k<ss.length):mM l (ss.take (k+1))=lD (mM l (ss.take k)) ss[k]:=by unfold mM;rw[eL h,CI];rfl
theorem Qg(l:List aU):∀ss:List aU,(mM l ss).length<=l.length+ss.length:=by
 intro ss;induction ss generalizing l with
 |nil=>simp[mM]
 |cons s ss ih=>
  have h1:(lD l s).length<=l.length+1:=by unfold lD;split<;>simp
  have h2:=ih (lD l s);have e:mM l (s::ss)=mM (lD l s) ss:=rfl;rw[e];simp only[dT];omega
def lJ(p:aC)(l:List kZ)(w:Bool):aC:=
 {p with builder:=(fP p.builder (bF p) l).1,log:=mM p.log (fP p.builder (bF p) l).2.2,queue:=if w=true then yN (fP p.builder (bF p) l).2.1++p.queue else p.queue}
theorem Qk{α:Type}(f:α->Nat):∀a b:List α,bB f (a++b)=bB f a+bB f b
 |[],b=>by simp[bB]
 |x::xs,b=>by simp only[cW,bB,Qk f xs b];omega
def uZ(b:aY)(t:bU):Option Nat:=
 if t.kind=2/\t.name=mU then
  match b.opens.getLast? with
  |some n=>if 1<=n/\(b.nodes[n.toNat]?).any (λx=>decide (x.name=mU))=true then some n.toNat else none
  |none=>none
 else none
def mW(p:aC)(t:bU)(q:List bU):aC:=
 match uZ p.builder t with
 |some k=>rZ {p with queue:=q,builder:=(addToken p.builder t).1} k ((p.builder.nodes[k]?).elim [] (·.attrs))
 |none=>if t.kind=1/\0<=(addToken p.builder t).2 then Av {p with queue:=q,builder:=(addToken p.builder t).1} t (addToken p.builder t).2 else {p with queue:=q,builder:=(addToken p.builder t).1}
def kX(p:aC):aC×Bool:=match p.queue with
 |[]=>(p,false)
 |t::q=>if p.block=0/\p.inline=0 then(mW p t q,true)else(p,false)
theorem Yw(b:aY)(t:bU):aS (addToken b t).1<=aS b+dR t+2:=by
 unfold addToken;split
 .have:=MP b t.name (b.opens.length-1);simp only[aS,bV]at this⊢;omega
 .split
  .simp only;omega
  .split
   .simp only;omega
   .have h1:gK (vD b t)<=dR t:=by unfold vD;split<;>simp only[gK,dR,bV,eR,bB]<;>omega
    have h2:(if rT t=true then b.opens++[((b.nodes.length:Nat):Int)]else b.opens).length<=b.opens.length+1:=by split<;>simp
    simp only[aS,bV,eM,Qk,bB,dT,eR]at h1 h2⊢;omega
theorem Ay{p:aC}{t:bU}{q:List bU}(h:p.queue=t::q):aM {p with queue:=q,builder:=(addToken p.builder t).1}<=aM p+2:=by have h1:=Yw p.builder t;simp only[aM,h,bV,bB,dT]at h1⊢;omega
theorem yB{b:aY}{t:bU}(h:t.kind=2):(addToken b t).2= -1/\(addToken b t).1.nodes=b.nodes:=by rw[ES h];exact⟨rfl,rfl⟩
theorem EU{b:aY}{t:bU}(h:¬(t.kind=2/\t.name=mU)):uZ b t=none:=by unfold uZ;rw[eK h]
theorem VR{b:aY}{t:bU}(h:b.opens=[]):uZ b t=none:=by unfold uZ;rw[h];split<;>rfl
theorem Kj{b:aY}{t:bU}{os:List Int}{k:Nat}(h1:t.kind=2)(h2:t.name=mU)(h:b.opens=os++[((k:Nat):Int)])(hk:1<=k){nd:gV}(hg:b.nodes[k]? =some nd)(hn:nd.name=mU):uZ b t=some k:=by unfold uZ;rw[eW ⟨h1,h2⟩,h,getLast?_concat];simp only;rw[eW ⟨by omega,by rw[pD,hg];simpa using hn⟩];simp
theorem Ql(c:UInt8)(s:aU):dP c s=s.take (kC c s)::(if kC c s<s.length then dP c (s.drop (kC c s+1))else []):=by
 rw[Lp];have h:=xK c s;split
 .rfl
 .rw [eJ (by omega)]
theorem aDq{p s:aU}{k:Nat}(h:Rx p (s.take k)=true):Rx p s=true:=by simp only[Rx,eI,fX,CA,take_take,oY]at h⊢;obtain⟨h1,h2⟩:=h;rw[DA (by omega)]at h2;exact⟨by omega,h2⟩
theorem aDr{s:aU}(h:Rx Eb s=true):7<=kC 59 s:=by
 simp only[Rx,eI,fX,CA]at h;obtain⟨h1,h2⟩:=h;have h3:s=Eb++s.drop 7:=by have:=mN 7 s;rw[show Eb.length=7 from rfl]at h2;rw[h2]at this;exact this.symm
 rw[h3,JI 59 Eb _ (by decide)];simp[Eb]
theorem M0{s:aU}(h:Rx Eb s=true):Rx Eb (s.take (kC 59 s))=true:=by have h7:=aDr h;have hle:=xK 59 s;simp only[Rx,eI,fX,CA,take_take,oY,show Eb.length=7 from rfl]at h⊢;rw[DA h7];exact⟨by omega,h.2⟩
theorem vK[aB prog][dY prog](body base:aU)(hl:body.length<=1073741824)(hb:base.length<=1073741824):Ok prog 198 [.str body,.str base] (.iP [.sl .own 2 ((bL body base).1.map bC),.sl .own 2 ((bL body base).2.1.map tC),.bool (bL body base).2.2]):=by
 have hst:=VS base (dP 59 body);have hn:=jU 59 body;have hcn:body.count 59<=body.length:=tB;have hll:(dP 59 body).length<=1073741825:=by omega
 have lC:∀acc r,nO base (dP 59 body)=some (acc,r)->∀ls ok,iE (Lib.join r [59])=(ls,ok)->bL body base=if ok=true then(acc,ls,true)else([],[],false):=by intro acc r h1 ls ok h2;unfold bL;rw[h1];simp only[h2]
 have GX:nO base (dP 59 body)=none->bL body base=([],[],false):=by intro h1;unfold bL;rw[h1]
 generalize bL body base=g at*;have hi0:dP 59 body=dP 59 body\/(dP 59 body=[]/\body=[]):= .inl rfl;generalize hL:dP 59 body=l at hst hn hll lC GX hi0;refine dL aO func198 ntmps198 ?_;refine dH ?_;refine aI (ι:={q:aU×List aU×List aK×Nat // (q.1.length<=body.length/\1<=q.2.2.2)/\(q.2.1=dP 59 q.1\/(q.2.1=[]/\q.1=[]))/\q.2.2.1.length+q.2.1.length<=l.length/\zA base l q.2.2.1 q.2.1}) (λt o i=>⟨bH t [(8,.str i.1.1),(7,.obj 0 i.1.2.2.2),(9,.undef),(10,.undef),(11,.undef)],[⟨true,false,2,i.1.2.2.2,i.1.2.2.1.map bC⟩]⟩)
  (λi=>i.1.2.1.length) ⟨(body,l,[],1),by simp,.inl hL.symm,by simp,hst⟩ aG ?_
 rintro⟨⟨rest,parts,acc,v⟩,⟨hrl,hv⟩,yU,hac,Bo⟩ K1 hK1;simp only at hrl hv yU hac Bo;simp only[bH,cH,cJ]at hK1⊢;have aPj:Lib.join parts [59]=rest:=by
  rcases yU with rfl|⟨rfl,rfl⟩
  .exact UC 59 rest
  .rfl
 cases hp:Rx Eb rest with
 |false=>
  have hs:nO base l=some (acc,parts):=by
   rcases yU with rfl|⟨rfl,rfl⟩
   .rw [Ql]at Bo⊢;refine YA Bo ?_;cases h:Rx Eb (rest.take (kC 59 rest))with
    |false=>rfl
    |true=>rw[aDq h]at hp;cases hp
   .exact kz Bo
  have hr:=lC _ _ hs;rw[aPj]at hr;have cP:=Al rest (by omega);generalize iE rest=q at*;obtain⟨ls,ok⟩:=q;have hr:=hr ls ok rfl;subst hr;simp only at cP;clear hK1 hs lC GX Bo;by_cases h7:(7:Int)<=(rest.length:Int)
  .have he:(rest.take 7 == ([105,109,112,111,114,116,32]:aU))=false:=by
    simp only[Rx,show Eb.length=7 from rfl,rN,pL]at hp;rcases hp with hp|hp
    .omega
    .exact hp
   clear hp;cases ok
   .simp only[cX,eS];have W:=aA h7 he;refine we ?_;exact aR results198
   .simp only[eV];have W:=aA h7 he;refine we ?_;exact aR results198
  .clear hp;cases ok
   .simp only[cX,eS];have W:=h7;refine we ?_;exact aR results198
   .simp only[eV];have W:=h7;refine we ?_;exact aR results198
 |true=>
  have h7n:=ja hp;have h7:(7:Int)<=(rest.length:Int):=by simp only[show Eb.length=7 from rfl]at h7n;omega
  have he:(rest.take 7 == ([105,109,112,111,114,116,32]:aU))=true:=by simp only[Rx,show Eb.length=7 from rfl,eI]at hp;exact hp.2
  have hpt:=M0 hp;have hix:=aDr hp;have hxl:=xK 59 rest;have hsg:parts=dP 59 rest:=by
   rcases yU with h|⟨_,h⟩
   .exact h
   .subst h;simp at h7
  rw[Ql]at hsg;have cI:Ok prog 185 [.str rest,.int .u8 59] (.int .i64 (kC 59 rest:Nat)):=Ir rest 59 (by omega);generalize kC 59 rest=k at*;subst hsg;have c2:=xN ((rest.take k).drop 7) base (by simp;omega);simp only[bC]at c2;have pU:=ku Bo hpt;have hnext:=Yz Bo hpt;have cM:=aLp (rest.length:Int) ((k:Int)+1);have hk7:(7:Int)<=(k:Int):=by omega
  have hkl:(k:Int)<=(rest.length:Int):=by omega
  generalize cB ((rest.take k).drop 7) base=pa at*;obtain⟨a,ok⟩:=pa;simp only at c2 pU hnext;clear hp hpt;cases ok with
  |false=>have hr:=GX (pU rfl);subst hr;clear hK1;have W:=aA h7 (aA he (aA hk7 hkl));refine we ?_;exact aR results198
  |true=>
   by_cases hkk:k<rest.length
   .have hm:min (rest.length:Int) ((k:Int)+1)=((k+1:Nat):Int):=by omega
    rw[hm]at cM;have hk1:=rE (k:=k);rw[eW hkk]at hnext hac;have W:=aA h7 (aA he (aA hk7 (aA hkl hk1)));refine we ?_;all_goals exact hK1 _ ⟨(rest.drop (k+1),dP 59 (rest.drop (k+1)),acc++[a],v+1),⟨by simp;omega,by simp only;omega⟩,.inl rfl,by simp at hac⊢;omega,hnext rfl⟩ (aL 1) (by simp[eW hkk])
   .have hm:min (rest.length:Int) ((k:Int)+1)=(rest.length:Int):=by omega
    rw[hm]at cM;rw[eK hkk]at hnext hac;have W:=aA h7 (aA he (aA hk7 hkl));refine we ?_;all_goals exact hK1 _ ⟨([],[],acc++[a],v+1),⟨by simp,by simp only;omega⟩,.inr ⟨rfl,rfl⟩,by simp at hac⊢;omega,hnext rfl⟩ (aL 1) (by simp)
def jO(p:aC)(a:aK):List aK:=
 match p.aN.find? (mP a)with
 |some m=>if m.done=true/\m.code=1 then(bL m.body a.host).1 else []
 |none=>[]
def sO(p:aC):List aK:=p.aN.flatMap λm=>(bL m.body m.to.host).1
def iL(p:aC):Nat->aK->List aK->List aK->List aK×List aK
 |0,_,seen,out=>(seen,out)
 |n+1,a,seen,out=>if seen.any (kG a)=true then(seen,out)else
   (((jO p a).foldl (λs b=>iL p n b s.1 s.2) (seen++[a],out)).1,((jO p a).foldl (λs b=>iL p n b s.1 s.2) (seen++[a],out)).2++[a])
def vL(p:aC)(seen:List aK):Nat:=(p.aN.filter λm=> !seen.any (kG m.to)).length
def iY(p:aC)(n:Nat)(l:List aK)(s:List aK×List aK):List aK×List aK:=l.foldl (λs b=>iL p n b s.1 s.2) s
theorem Qm(p:aC)(n:Nat)(l:List aK)(b:aK)(s:List aK×List aK):iY p n (l++[b]) s=iL p n b (iY p n l s).1 (iY p n l s).2:=by simp[iY]
theorem yR{l:List aK}{a:aK}:l.any (kG a)=true↔a∈l:=by simp[kG]
theorem Qn(p:aC)(a:aK):∀b∈jO p a,b∈sO p:=by
 intro b hb;unfold jO at hb;split at hb
 .rename_i m hm;split at hb
  .have h1:=Fl hm;have h2:=pZ hm;simp only[mP,fX]at h1;subst h1;exact Bx.2 ⟨m,h2,hb⟩
  .cases hb
 .cases hb
theorem lh{p:aC}{a:aK}(h:jO p a≠[]):∃m∈p.aN,m.to=a:=by
 unfold jO at h;split at h
 .rename_i m hm;have h1:=Fl hm;simp only[mP,fX]at h1;exact⟨m,pZ hm,h1⟩
 .exact absurd rfl h
structure Seen(U:List aK)(s:List aK × List aK): Prop where
  nd:s.1.Nodup
  sub:∀ x ∈ s.1, x ∈ U
  ond:s.2.Nodup
  ll:∀ x ∈ s.2, x ∈ s.1
theorem YB{p:aC}{s s':List aK}(h:∀x∈s,x∈s'):vL p s'<=vL p s:=by
 unfold vL;have:∀l:List fO,(l.filter λm=> !s'.any (kG m.to)).length<=(l.filter λm=> !s.any (kG m.to)).length:=by
  intro l;induction l with
  |nil=>simp
  |cons m l ih=>
   simp only[filter_cons];by_cases h1:s.any (kG m.to)=true
   .have h2:s'.any (kG m.to)=true:=yR.2 (h _ (yR.1 h1));simp[h1,h2,ih]
   .simp only[Bs]at h1;simp only[h1];split<;>simp<;>omega
 exact this p.aN
theorem M3{p:aC}{s:List aK}{a:aK}(h:¬s.any (kG a)=true)(hm:∃m∈p.aN,m.to=a):vL p (s++[a])<vL p s:=by
 obtain⟨m,hm,rfl⟩:=hm;unfold vL;have key:∀l:List fO,(l.filter λx=> !(s++[m.to]).any (kG x.to)).length<=(l.filter λx=> !s.any (kG x.to)).length/\(m∈l->(l.filter λx=> !(s++[m.to]).any (kG x.to)).length<(l.filter λx=> !s.any (kG x.to)).length):=by
  intro l;induction l with
  |nil=>simp
  |cons x l ih=>
   simp only[filter_cons];by_cases h1:s.any (kG x.to)=true
   .have h2:(s++[m.to]).any (kG x.to)=true:=yR.2 (oB _ (yR.1 h1));simp only[h1,h2,Cl,cX,eS];refine⟨ih.1,λhmem=> ?_⟩;rcases gE.1 hmem with rfl|hmem
    .exact absurd h1 h
    .exact ih.2 hmem
   .by_cases h2:(s++[m.to]).any (kG x.to)=true
    .simp only[Bs]at h1;simp only[h1,h2,Cl,cX,eS,FG,eV,dT];exact⟨by omega,λ_=>by omega⟩
    .have ZT:=h2;simp only[Bs]at h1 h2;simp only[h1,h2,FG,eV,dT];refine⟨by omega,λhmem=> ?_⟩;rcases gE.1 hmem with rfl|hmem
     .exact absurd (yR.2 (by simp)) ZT
     .have:=ih.2 hmem;omega
 exact(key p.aN).2 hm
theorem Dl{p:aC}{U:List aK}(hU:∀x∈sO p,x∈U):∀(n:Nat) (a:aK) (s:List aK×List aK),a∈U->Seen U s->Seen U (iL p n a s.1 s.2)/\(∀x∈s.1,x∈(iL p n a s.1 s.2).1)
 |0,a,s,_,hs=>by simp only[iL];exact⟨hs,λ_ h=>h⟩
 |n+1,a,s,ha,hs=>by
  simp only[iL];split
  .exact ⟨hs,λ_ h=>h⟩
  .rename_i hn;have hna:a∉s.1:=λh=>hn (yR.2 h)
   have key:∀(l:List aK) (q:List aK×List aK),(∀x∈l,x∈U)->Seen U q->(a∈q.1/\a∉q.2)->Seen U (l.foldl (λs b=>iL p n b s.1 s.2) q)/\(∀x∈q.1,x∈(l.foldl (λs b=>iL p n b s.1 s.2) q).1)/\a∉(l.foldl (λs b=>iL p n b s.1 s.2) q).2:=by
    intro l;induction l with
    |nil=>intro q _ hq ha;exact⟨hq,λ_ h=>h,ha.2⟩
    |cons b l ih=>intro q hl hq haq;obtain⟨h1,h2⟩:=Dl hU n b q (hl b (by simp)) hq;have h3:a∉(iL p n b q.1 q.2).2:=UD n b q haq.1 haq.2;obtain⟨h4,h5,h6⟩:=ih (iL p n b q.1 q.2) (λx hx=>hl x (by simp[hx])) h1 ⟨h2 a haq.1,h3⟩;exact⟨h4,λx hx=>h5 x (h2 x hx),h6⟩
   have hs1:Seen U (s.1++[a],s.2):=⟨gS.2 ⟨hs.nd,by simp,λx hx y hy e=>hna (by simp at hy;subst hy;subst e;exact hx)⟩,λx hx=>by
    rcases fS.1 hx with h|h
    .exact hs.sub x h
    .simp at h;subst h;exact ha,hs.ond,λx hx=>oB _ (hs.ll x hx)⟩
   obtain⟨h1,h2,h3⟩:=key (jO p a) (s.1++[a],s.2) (λx hx=>hU x (Qn p a x hx)) hs1 ⟨by simp,λh=>hna (hs.ll a h)⟩;refine⟨⟨h1.nd,h1.sub,?_,?_⟩,λx hx=>h2 x (oB _ hx)⟩
   .exact gS.2 ⟨h1.ond,by simp,λx hx y hy e=>h3 (by simp at hy;subst hy;subst e;exact hx)⟩
   .intro x hx;rcases fS.1 hx with h|h
    .exact h1.ll x h
    .simp at h;subst h;exact h2 x (by simp)
where
 UD {p:aC} {a:aK}:∀(n:Nat) (b:aK) (q:List aK×List aK),a∈q.1->a∉q.2->a∉(iL p n b q.1 q.2).2
  |0,b,q,h1,h2=>by simpa only[iL]using h2
  |n+1,b,q,h1,h2=>by
   simp only[iL];split
   .exact h2
   .rename_i hn;have hne:a≠b:=λe=>hn (yR.2 (e▸h1))
    have key:∀(l:List aK) (q:List aK×List aK),a∈q.1->a∉q.2->a∉(l.foldl (λs b=>iL p n b s.1 s.2) q).2:=by
     intro l;induction l with
     |nil=>intro q _ h;exact h
     |cons c l ih=>intro q h1 h2;exact ih _ (YC n c q h1) (UD n c q h1 h2)
    intro hm;rcases fS.1 hm with h|h
    .exact key (jO p b) (q.1++[b],q.2) (oB _ h1) h2 h
    .simp at h;exact hne h
 YC {p:aC} {a:aK}:∀(n:Nat) (b:aK) (q:List aK×List aK),a∈q.1->a∈(iL p n b q.1 q.2).1
  |0,b,q,h1=>by simpa only[iL]using h1
  |n+1,b,q,h1=>by
   simp only[iL];split
   .exact h1
   .have key:∀(l:List aK) (q:List aK×List aK),a∈q.1->a∈(l.foldl (λs b=>iL p n b s.1 s.2) q).1:=by
     intro l;induction l with
     |nil=>intro q h;exact h
     |cons c l ih=>intro q h1;exact ih _ (YC n c q h1)
    exact key (jO p b) (q.1++[b],q.2) (oB _ h1)
theorem Cu{α:Type}(f:α->Nat):∀(l U:List α),l.Nodup->(∀x∈l,x∈U)->bB f l<=bB f U/\l.length<=U.length
 |[],U,_,_=>by simp[bB]
 |x::l,U,hn,hs=>by
  simp only[mC]at hn;obtain⟨U1,U2,rfl⟩:=append_of_mem (hs x (by simp));have ih:=Cu f l (U1++U2) hn.2 (λy hy=>by
   have:=hs y (by simp[hy]);simp only[fS,gE]at this⊢;rcases this with h|h|h
   .exact .inl h
   .subst h;exact absurd hy hn.1
   .exact .inr h)
  have e:∀(A B:List α),bB f (A++B)=bB f A+bB f B:=by
   intro A B;induction A with
   |nil=>simp[bB]
   |cons a A ih=>simp only[cW,bB,ih];omega
  simp only[e,bB,eM,dT]at ih⊢;omega
theorem aH4{α:Type}{f:α->Bool}{l:List α}(hn:∀x∈l,f x=false):l.find? f=none:=Dg.2 λx hx=>by simp[hn x hx]
theorem YD{α:Type}{f:α->Bool}:∀l:List α,¬(∀x∈l,f x=false)->∃k,∃hk:k<l.length,f l[k]=true/\∀x∈l.take k,f x=false
 |[],h=>absurd (λx hx=>by cases hx) h
 |x::l,h=>by
  cases hx:f x with
  |true=>exact⟨0,by simp,by simpa using hx,by simp⟩
  |false=>
   obtain⟨k,hk,h1,h2⟩:=YD l (λhl=>h (λy hy=>by
    rcases gE.1 hy with rfl|hy
    .exact hx
    .exact hl y hy))
   refine⟨k+1,by simpa using hk,by simpa using h1,λy hy=> ?_⟩;simp only[fL,gE]at hy;rcases hy with rfl|hy
   .exact hx
   .exact h2 y hy
theorem aH5{α:Type}{f:α->Bool}{l:List α}{k:Nat}(h:k<l.length)(hf:f l[k]=true)(hn:∀x∈l.take k,f x=false):l.find? f=some l[k]:=by
 have e:l=l.take k++l[k]::l.drop (k+1):=by simp
 have h5:=Ax (find? f) e;rw[h5,find?_append];have:(l.take k).find? f=none:=Dg.2 λx hx=>by simp[hn x hx]
 rw[this];simp only[Option.none_or,find?_cons,hf]
theorem qP{α:Type}(f:α->Bool)(l:List α):(zO f l= -1/\l.find? f=none)\/∃k,∃h:k<l.length,zO f l=(k:Int)/\l.find? f=some l[k]:=by
 by_cases h:∀x∈l,f x=false
 .exact .inl ⟨FY h,aH4 h⟩
 .right;obtain⟨k,hk,h1,h2⟩:=YD l h;exact⟨k,hk,Ou hk h1 h2,aH5 hk h1 h2⟩
def MQ(h:aU)(s:fE):Bool:=s.host == h
def Bt(h:aU)(s:TQ):Bool:=s.path == h
def wQ(l:List fE)(a:aK):bE:=
 match l.find? (MQ a.host)with
 |some s=>match s.files.find? (Bt a.path)with
  |some f=>f.response
  |none=>notFound
 |none=>notFound
theorem Kl[aB prog](l:List fE)(h:aU)(hl:l.length<=1099511627776):Ok prog 114 [.sl .view 2 (l.map (bN .view)),.str h] (.int .i64 (zO (MQ h) l)):=by
 refine dL aO func114 ntmps114 ?_;refine dH ?_;refine aI (ι:={k:Nat // k<=l.length/\∀x∈l.take k,MQ h x=false}) (λt o i=>⟨bH t [(5,.int .i64 i.1)],o⟩)
  (λi=>l.length-i.1) ⟨0,by simp,by simp⟩ aG ?_
 rintro⟨k,hk,hi⟩ K1 hK1;simp only[bH,cH,cJ]at hK1⊢;have hk1:=rE (k:=k);by_cases hlt:k<l.length
 .have hg:=aE hlt;by_cases hb:l[k].host=h
  .have hbb:(l[k].host == h)=true:=by simp[hb]
   rw[Ou hlt (by simpa [MQ]using hb) hi];have W:=aA hk1 (aA hg (aA hlt hbb));refine we ?_;exact aR results114
  .have hbb:(l[k].host == h)=false:=by simp[hb]
   have hnx:∀x∈l.take (k+1),MQ h x=false:=gB hlt hi (by simpa [MQ]using hb);have W:=aA hk1 (aA hg (aA hlt hbb));refine we ?_;exact hK1 _ ⟨k+1,by omega,hnx⟩ aG (by simp only;omega)
 .rw [FY (qM (by omega) hi)];have W:=hk1;refine we ?_;exact aR results114
theorem IP[aB prog](s:fE)(h:aU)(hl:s.files.length<=1099511627776):Ok prog 116 [.agg (bN .view s),.str h] (.int .i64 (zO (Bt h) s.files)):=by
 refine dL aO func116 ntmps116 ?_;refine dH ?_;refine aI (ι:={k:Nat // k<=s.files.length/\∀x∈s.files.take k,Bt h x=false}) (λt o i=>⟨bH t [(5,.int .i64 i.1)],o⟩)
  (λi=>s.files.length-i.1) ⟨0,by simp,by simp⟩ aG ?_
 rintro⟨k,hk,hi⟩ K1 hK1;simp only[bH,cH,cJ]at hK1⊢;have hk1:=rE (k:=k);by_cases hlt:k<s.files.length
 .have hg:=aE hlt;by_cases hb:s.files[k].path=h
  .have hbb:(s.files[k].path == h)=true:=by simp[hb]
   rw[Ou hlt (by simpa [Bt]using hb) hi];have W:=aA hk1 (aA hg (aA hlt hbb));refine we ?_;exact aR results116
  .have hbb:(s.files[k].path == h)=false:=by simp[hb]
   have hnx:∀x∈s.files.take (k+1),Bt h x=false:=gB hlt hi (by simpa [Bt]using hb);have W:=aA hk1 (aA hg (aA hlt hbb));refine we ?_;exact hK1 _ ⟨k+1,by omega,hnx⟩ aG (by simp only;omega)
 .rw [FY (qM (by omega) hi)];have W:=hk1;refine we ?_;exact aR results116
theorem NJ[aB prog](l:List fE)(a:aK)(hs:bV bT l<=1099511627776):Ok prog 76 [.sl .view 2 (l.map (bN .view)),.agg (bC a)] (.agg (cZ (wQ l a))):=by
 simp only[bV]at hs;have c1:=Kl l a.host (by omega);have c2:=NI;simp only[cZ]at c2;unfold wQ;rcases qP (MQ a.host) l with⟨h1,h2⟩|⟨k,hk,h1,h2⟩
 .rw [h1]at c1;rw[h2];refine dL aO func76 ntmps76 ?_;refine dH ?_;exact aR results76
 .rw [h1]at c1;rw[h2];have hg:=aE hk;have hn:¬((k:Int)<0):=by omega
  have hz:=dD bT l k hk;simp only[bT,bV]at hz;have c3:=IP l[k] a.path (by omega);simp only[bN]at c3;simp only;rcases qP (Bt a.path) l[k].files with⟨h3,h4⟩|⟨j,hj,h3,h4⟩
  .rw [h3]at c3;rw[h4];refine dL aO func76 ntmps76 ?_;have W:=aA hg (aA hk hn);refine we ?_;exact aR results76
  .rw [h3]at c3;rw[h4];have hg2:=aE hj;have hn2:¬((j:Int)<0):=by omega
   refine dL aO func76 ntmps76 ?_;have W:=aA hg (aA hk (aA hn (aA hg2 (aA hj hn2))));refine we ?_;exact aR results76
def vV:List (Nat×Nat):=[(2,14),(3,15),(4,16),(5,17),(6,18),(7,19),(8,20),(9,21),(10,22),(11,23),(12,24)]
theorem N7{t t':List AV}{o o':List aD}{l1 l2 l3 l4 l5 l6 l7 l8 l9 l10 l11:Bool}{u n1 v1 n2 v2 n3 v3 n4 v4 n5 v5 n6 v6 n7 v7 n8 v8 n9 v9 n10 v10 n11 v11:Nat}{e1 e2 e3 e4 e5 e6 e7 e8 e9 e10 e11:List (List AV)}{o0 o1 z0:aD}{q:aC}(ho:o=[o0,o1,⟨l1,false,n1,v1,e1⟩,⟨l2,false,n2,v2,e2⟩,⟨l3,false,n3,v3,e3⟩,⟨l4,false,n4,v4,e4⟩,⟨l5,false,n5,v5,e5⟩,⟨l6,false,n6,v6,e6⟩,⟨l7,false,n7,v7,e7⟩,⟨l8,false,n8,v8,e8⟩,⟨l9,false,n9,v9,e9⟩,⟨l10,false,n10,v10,e10⟩,⟨l11,false,n11,v11,e11⟩,⟨true,true,22,u,[ZQ 14 q]⟩]++ZP q++[z0])
  (ho':o'=[o0,o1]++ZP q++[⟨true,true,22,u,[ZQ 2 q]⟩]) (ht:∀z∈vV,wk (sQ z.1 z.2 t') t') (hf:∀z∈vV,o0.qO z.1 z.2=o0/\o1.qO z.1 z.2=o1) (hw:wk t t') (hc:gH 14 t'=true) (hc0:fI 14 [o0,o1]=true):kY ⟨t,o⟩ ⟨t',o'⟩:=by
 subst ho;subst ho';have e:=λi j (h:(i,j)∈vV)=>hf (i,j) h
 have h:=λi j (h:(i,j)∈vV)=>ht (i,j) h
 simp only[ZP,ZQ,cW,cY,eC];refine(Ag hw).trans ?_;refine(bK 2 14 rfl rfl ⟨rfl,rfl⟩ (by simp[(e 2 14 (by decide))];rfl) (h 2 14 (by decide))).trans ?_;refine(bK 3 15 rfl rfl ⟨rfl,rfl⟩ (by simp[(e 3 15 (by decide))];rfl) (h 3 15 (by decide))).trans ?_;refine(bK 4 16 rfl rfl ⟨rfl,rfl⟩ (by simp[(e 4 16 (by decide))];rfl) (h 4 16 (by decide))).trans ?_;refine(bK 5 17 rfl rfl ⟨rfl,rfl⟩ (by simp[(e 5 17 (by decide))];rfl) (h 5 17 (by decide))).trans ?_;refine(bK 6 18 rfl rfl ⟨rfl,rfl⟩ (by simp[(e 6 18 (by decide))];rfl) (h 6 18 (by decide))).trans ?_;refine(bK 7 19 rfl rfl ⟨rfl,rfl⟩ (by simp[(e 7 19 (by decide))];rfl) (h 7 19 (by decide))).trans ?_;refine(bK 8 20 rfl rfl ⟨rfl,rfl⟩ (by simp[(e 8 20 (by decide))];rfl) (h 8 20 (by decide))).trans ?_;refine(bK 9 21 rfl rfl ⟨rfl,rfl⟩ (by simp[(e 9 21 (by decide))];rfl) (h 9 21 (by decide))).trans ?_;refine(bK 10 22 rfl rfl ⟨rfl,rfl⟩ (by simp[(e 10 22 (by decide))];rfl) (h 10 22 (by decide))).trans ?_;refine(bK 11 23 rfl rfl ⟨rfl,rfl⟩ (by simp[(e 11 23 (by decide))];rfl) (h 11 23 (by decide))).trans ?_;refine(bK 12 24 rfl rfl ⟨rfl,rfl⟩ (by simp[(e 12 24 (by decide))];rfl) (h 12 24 (by decide))).trans ?_;refine aL 14 (by simp) (mR _) hc ?_;simpa [fI,gH,closed,and_assoc]using hc0
def vW:List (Nat×Nat):=[(2,26),(3,27),(4,28),(5,29),(6,30),(7,31),(8,32),(9,33),(10,34),(11,35),(12,36)]
theorem N8{t t':List AV}{o o':List aD}{l1 l2 l3 l4 l5 l6 l7 l8 l9 l10 l11:Bool}{u n1 v1 n2 v2 n3 v3 n4 v4 n5 v5 n6 v6 n7 v7 n8 v8 n9 v9 n10 v10 n11 v11:Nat}{e1 e2 e3 e4 e5 e6 e7 e8 e9 e10 e11:List (List AV)}{o0 o1 m0 m1 m2 m3 m4 m5 m6 m7 m8 m9 m10 m11:aD}{q:aC}(ho:o=[o0,o1,⟨l1,false,n1,v1,e1⟩,⟨l2,false,n2,v2,e2⟩,⟨l3,false,n3,v3,e3⟩,⟨l4,false,n4,v4,e4⟩,⟨l5,false,n5,v5,e5⟩,⟨l6,false,n6,v6,e6⟩,⟨l7,false,n7,v7,e7⟩,⟨l8,false,n8,v8,e8⟩,⟨l9,false,n9,v9,e9⟩,⟨l10,false,n10,v10,e10⟩,⟨l11,false,n11,v11,e11⟩,⟨true,true,22,u,[ZQ 26 q]⟩,m0,m1,m2,m3,m4,m5,m6,m7,m8,m9,m10,m11]++ZP q++[])
  (ho':o'=[o0,o1]++ZP q++[⟨true,true,22,u,[ZQ 2 q]⟩]) (ht:∀z∈vW,wk (sQ z.1 z.2 t') t') (hf:∀z∈vW,o0.qO z.1 z.2=o0/\o1.qO z.1 z.2=o1) (hw:wk t t') (hc:gH 14 t'=true) (hc0:fI 14 [o0,o1]=true):kY ⟨t,o⟩ ⟨t',o'⟩:=by
 subst ho;subst ho';have e:=λi j (h:(i,j)∈vW)=>hf (i,j) h
 have h:=λi j (h:(i,j)∈vW)=>ht (i,j) h
 simp only[ZP,ZQ,cW,cY,eC];refine(Ag hw).trans ?_;refine(bK 2 26 rfl rfl ⟨rfl,rfl⟩ (by simp[(e 2 26 (by decide))];rfl) (h 2 26 (by decide))).trans ?_;refine(bK 3 27 rfl rfl ⟨rfl,rfl⟩ (by simp[(e 3 27 (by decide))];rfl) (h 3 27 (by decide))).trans ?_;refine(bK 4 28 rfl rfl ⟨rfl,rfl⟩ (by simp[(e 4 28 (by decide))];rfl) (h 4 28 (by decide))).trans ?_;refine(bK 5 29 rfl rfl ⟨rfl,rfl⟩ (by simp[(e 5 29 (by decide))];rfl) (h 5 29 (by decide))).trans ?_;refine(bK 6 30 rfl rfl ⟨rfl,rfl⟩ (by simp[(e 6 30 (by decide))];rfl) (h 6 30 (by decide))).trans ?_;refine(bK 7 31 rfl rfl ⟨rfl,rfl⟩ (by simp[(e 7 31 (by decide))];rfl) (h 7 31 (by decide))).trans ?_;refine(bK 8 32 rfl rfl ⟨rfl,rfl⟩ (by simp[(e 8 32 (by decide))];rfl) (h 8 32 (by decide))).trans ?_;refine(bK 9 33 rfl rfl ⟨rfl,rfl⟩ (by simp[(e 9 33 (by decide))];rfl) (h 9 33 (by decide))).trans ?_;refine(bK 10 34 rfl rfl ⟨rfl,rfl⟩ (by simp[(e 10 34 (by decide))];rfl) (h 10 34 (by decide))).trans ?_;refine(bK 11 35 rfl rfl ⟨rfl,rfl⟩ (by simp[(e 11 35 (by decide))];rfl) (h 11 35 (by decide))).trans ?_;refine(bK 12 36 rfl rfl ⟨rfl,rfl⟩ (by simp[(e 12 36 (by decide))];rfl) (h 12 36 (by decide))).trans ?_;refine aL 14 (by simp) (mR _) hc ?_;simpa [fI,gH,closed,and_assoc]using hc0
end Go.Proofs.YtnkpkklemmgapaaGreatDoor
