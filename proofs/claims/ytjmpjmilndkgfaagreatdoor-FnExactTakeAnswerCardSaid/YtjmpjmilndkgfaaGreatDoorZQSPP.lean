/- Proved here: steps towards the statement of this claim. No condition. -/
import Derived.Test.YtjmpjmilndkgfaaGreatDoorZQRCC
import Derived.Test.YtjmpjmilndkgfaaGreatDoorZQTK5
set_option linter.all false
set_option maxRecDepth 8000
set_option maxHeartbeats 8000000
namespace Go.Proofs.YtjmpjmilndkgfaaGreatDoor
open Go.Aw Proofs.Tryz List IntKind
def Dp (p:aI) (k:Int):aI×Bool:=
 if 0<=k then match p.aB[k.toNat]? with
  |some s=>if s.done=true/\p.aB.all nO=true then ({(if s.code=1 then mM p s.body true else p) with block:=0},true) else (p,false)
  |none=>({p with block:=0},true)
 else ({p with block:=0},true)
def kC (p:aI):aI×Bool:=
 if p.inline≠0 then (if p.aB.all nO=true then ({mM p (BC p.builder p.inline) true with inline:=0},true) else (p,false))
 else if p.block≠0 then Dp p (i64.wrap (p.block - 1))
 else jB p
theorem Rn {α:Type} (f:α->Nat):∀{l:List α} {x:α},x∈l->f x<=aQ f l
 |y::l,x,h=>by
  rcases lB.1 h with rfl|h
  .simp only [aQ];omega
  .have:=Rn f h;simp only [aQ];omega
theorem au (p:aI) (a:aT) (x:bL):(lQ p a x).aB.length=p.aB.length:=(xO p a x _).1
theorem uh (p:aI) (a:aT) (x:bL):aF (lQ p a x)<=aF p+p.aB.length * 400:=(xO p a x _).2.2
def iX (p:aI) (m:dB) (x:bL):dB:={m with done:=true,code:=dW p.bG (fF p m) x,body:=jF p.bG (fF p m) x}
def lF (q:aI) (l:List aT):aI:=l.foldl gT q
def KH (p:aI) (a:aT) (x:bL) (k:Nat) (m:dB):aI:=lF {p with aN:=p.aN.set k (iX p m x)} (iN {p with aN:=p.aN.set k (iX p m x)} a)
def kG (p:aI) (a:aT) (x:bL):aI:=
 if wX (kX a) p.aN < 0 then p else match p.aN[(wX (kX a) p.aN).toNat]? with
 |some m=>if m.done=true then p else KH p a x (wX (kX a) p.aN).toNat m
 |none=>p
theorem Jb {p:aI} {a:aT} {x:bL} (h:wX (kX a) p.aN= -1):kG p a x=p:=by unfold kG;rw [h];rfl
theorem Jc {p:aI} {a:aT} {x:bL} {k:Nat} {m:dB} (h:wX (kX a) p.aN=(k:Int)) (hg:p.aN[k]? =some m) (hd:m.done=true):kG p a x=p:=by unfold kG;rw [h,cY (by omega),mC,hg];simp [hd]
theorem Mq {p:aI} {a:aT} {x:bL} {k:Nat} {m:dB} (h:wX (kX a) p.aN=(k:Int)) (hg:p.aN[k]? =some m) (hd:m.done=false):kG p a x=KH p a x k m:=by unfold kG;rw [h,cY (by omega),mC,hg];simp [hd]
theorem ax {α:Type} (f:α->Bool) (y:α):∀(l:List α) (k:Nat) (h:k < l.length),f y=true->l.find? f=some l[k]->(∀j (hj:j < k),f (l[j]'(Nat.lt_trans hj h))=false)->(l.set k y).find? f=some y
 |[],k,h,_,_,_=>by simp at h
 |z::l,0,h,hy,_,_=>by simp [hy]
 |z::l,k+1,h,hy,hf,hn=>by have hz:f z=false:=hn 0 (by omega);rw [cW,find?_cons,hz];rw [find?_cons,hz] at hf;exact ax f y l k (by simpa using h) hy (by simpa using hf) (λj hj=>by have:=hn (j+1) (by omega);simpa using this)
theorem aLy {α:Type} {f:α->Bool} {l:List α} {k:Nat} (h:wX f l=(k:Int)) (hk:k < l.length):f l[k]=true/\∀j (hj:j < k),f (l[j]'(Nat.lt_trans hj hk))=false:=by
 unfold wX at h;split at h
 .rename_i ha;have hk2:l.findIdx f=k:=by omega
  rw [findIdx_eq hk] at hk2;exact hk2
 .omega
theorem FP {p:aI} {a:aT} {x:bL} {k:Nat} (h:wX (kX a) p.aN=(k:Int)) (hk:k < p.aN.length) (hf:p.aN.find? (kX a)=some p.aN[k]):(p.aN.set k (iX p p.aN[k] x)).find? (kX a)=some (iX p p.aN[k] x):=by obtain ⟨h1,h2⟩:=aLy h hk;exact ax _ _ _ _ hk (by simp only [kX] at h1⊢;exact h1) hf h2
theorem zh {α:Type} (f:α->Nat) (c:Nat):∀(l:List α) (i:Nat) (y:α) (h:i < l.length),f y<=f l[i]+c->aQ f (l.set i y)<=aQ f l+c
 |[],i,y,h,_=>by simp at h
 |z::l,0,y,h,hs=>by simp only [cU,aQ,getElem_cons_zero] at hs⊢;omega
 |z::l,i+1,y,h,hs=>by have:=zh f c l i y (by simpa using h) (by simpa using hs);simp only [cW,aQ];omega
theorem Xr (p:aI) (k:Nat) (hk:k < p.aN.length) (x:bL):aF {p with aN:=p.aN.set k (iX p p.aN[k] x)}<=aF p+400:=by have hb:=Dt p.bG (fF p p.aN[k]) x;have h:=zh bE 400 p.aN k (iX p p.aN[k] x) hk (by simp only [bE,iX];omega);simp only [aF,bV,length_set];omega
theorem RX (N:Nat):∀(l:List aT) (q:aI),(∀x∈l,aU x<=N)->aF (lF q l)<=aF q+l.length * (N+1)
 |[],q,_=>by simp [lF]
 |b::l,q,h=>by have h1:=RX N l (gT q b) (λx hx=>h x (by simp [hx]));have h2:=aLs q b;have h3:=h b (by simp);simp only [lF,foldl_cons,eL,AF] at h1⊢;omega
theorem Nv (q:aI) (l:List aT) (b:aT):lF q (l++[b])=gT (lF q l) b:=by simp [lF]
theorem aEl (s b:bF):aU (bZ s b).1<=16:=by
 unfold bZ;split
 .rename_i h;simp only [zZ,dA,eJ,fN] at h;simp only [aU];omega
 .simp [aU,vS]
theorem ay (base:bF):∀(ps:List bF) (l:List aT) (r:List bF),nQ base ps=some (l,r)->∀b∈l,aU b<=16
 |[],l,r,h=>by simp only [nQ,eC,oS] at h;obtain ⟨rfl,_⟩:=h;simp
 |p::ps,l,r,h=>by
  simp only [nQ] at h;split at h
  .split at h
   .cases hq:nQ base ps with
    |none=>rw [hq] at h;simp at h
    |some q=>
     rw [hq] at h;simp only [mS,eC,oS] at h;obtain ⟨rfl,_⟩:=h;intro b hb;rcases lB.1 hb with rfl|hb
     .exact aEl _ _
     .exact ay base ps q.1 q.2 (by rw [hq]) b hb
   .cases h
  .simp only [eC,oS] at h;obtain ⟨rfl,_⟩:=h;simp
theorem aEm (s b:bF):∀a∈(bI s b).1,aU a<=16:=by
 unfold bI;split
 .simp
 .rename_i l r h;split
  .exact ay b _ l r h
  .simp
theorem aEn (q:aI) (a:aT):∀b∈iN q a,aU b<=16:=by
 unfold iN;split
 .split
  .exact aEm _ _
  .simp
 .simp
def pJ:List (Nat×Nat):=[(4,20),(5,21),(6,22),(7,23),(8,24),(9,25),(10,26),(11,27),(12,28),(13,29),(14,30)]
theorem ui {t t':List AV} {o o':List aM} {o0 o1 o2 o3 m0 m1 m2 e0:aM} {q0 q:aI} (ho:o=[o0,o1,o2,o3]++lN q0++[⟨true,true,22,0,[jG 20 q]⟩,m0,m1,m2,e0]++lN q) (ho':o'=[o0,o1,o2,o3]++lN q++[⟨true,true,22,0,[jG 4 q]⟩,m0,m1,m2])
  (ht:∀z∈pJ,wk (qK z.1 z.2 t') t') (hf:∀z∈pJ,o0.mG z.1 z.2=o0/\o1.mG z.1 z.2=o1/\o2.mG z.1 z.2=o2/\o3.mG z.1 z.2=o3/\m0.mG z.1 z.2=m0/\m1.mG z.1 z.2=m1/\m2.mG z.1 z.2=m2) (hw:wk t t') (hc:fP 19 t'=true) (hc0:dJ 19 [o0,o1,o2,o3,m0,m1,m2]=true):mK ⟨t,o⟩ ⟨t',o'⟩:=by
 subst ho;subst ho';have e:=λi j (h:(i,j)∈pJ)=>hf (i,j) h
 have h:=λi j (h:(i,j)∈pJ)=>ht (i,j) h
 simp only [lN,jG,eI,eN];refine (vQ hw).trans ?_;refine (bA 4 20 rfl rfl ⟨rfl,rfl⟩ (by simp [(e 4 20 (by decide))];rfl) (h 4 20 (by decide))).trans ?_;refine (bA 5 21 rfl rfl ⟨rfl,rfl⟩ (by simp [(e 5 21 (by decide))];rfl) (h 5 21 (by decide))).trans ?_;refine (bA 6 22 rfl rfl ⟨rfl,rfl⟩ (by simp [(e 6 22 (by decide))];rfl) (h 6 22 (by decide))).trans ?_;refine (bA 7 23 rfl rfl ⟨rfl,rfl⟩ (by simp [(e 7 23 (by decide))];rfl) (h 7 23 (by decide))).trans ?_;refine (bA 8 24 rfl rfl ⟨rfl,rfl⟩ (by simp [(e 8 24 (by decide))];rfl) (h 8 24 (by decide))).trans ?_;refine (bA 9 25 rfl rfl ⟨rfl,rfl⟩ (by simp [(e 9 25 (by decide))];rfl) (h 9 25 (by decide))).trans ?_;refine (bA 10 26 rfl rfl ⟨rfl,rfl⟩ (by simp [(e 10 26 (by decide))];rfl) (h 10 26 (by decide))).trans ?_;refine (bA 11 27 rfl rfl ⟨rfl,rfl⟩ (by simp [(e 11 27 (by decide))];rfl) (h 11 27 (by decide))).trans ?_;refine (bA 12 28 rfl rfl ⟨rfl,rfl⟩ (by simp [(e 12 28 (by decide))];rfl) (h 12 28 (by decide))).trans ?_;refine (bA 13 29 rfl rfl ⟨rfl,rfl⟩ (by simp [(e 13 29 (by decide))];rfl) (h 13 29 (by decide))).trans ?_;refine (bA 14 30 rfl rfl ⟨rfl,rfl⟩ (by simp [(e 14 30 (by decide))];rfl) (h 14 30 (by decide))).trans ?_;refine aW 19 (by simp) (lC _) hc ?_;simpa [dJ,fP,closed] using hc0
theorem Jd {q:aI} {a:aT} {m:dB} (hf:q.aN.find? (kX a)=some m):iN q a=if m.done=true/\m.code=1 then (bI m.body a.host).1 else []:=by unfold iN;rw [hf]
theorem Nw {q:aI} {a:aT} {m:dB} (hf:q.aN.find? (kX a)=some m) (hb:m.body.length<=400):(iN q a).length<=57/\∀b∈iN q a,aU b<=16:=by
 refine ⟨?_,aEn q a⟩;rw [Jd hf];split
 .obtain ⟨h1,_,h3⟩:=xM m.body a.host;omega
 .simp
theorem Ny {q:aI} {l:List aT} (h0:aF q<=536871424) (h1:l.length<=57) (h2:∀b∈l,aU b<=16) (i:Nat):aF (lF q (l.take i))<=536872448:=by
 have h:=RX 16 (l.take i) q (λx hx=>h2 x (sC hx));have h3:(l.take i).length<=57:=by rw [oT];omega
 have h4:=kO (16+1) h3;omega
theorem KI [aC prog] [dD prog] [eH prog] (p:aI) (a:aT) (x:bL) (hs:aF p+aU a<=536870912) (hx:fK x<=1048576):Ok prog 35 [.agg (aJ .view p),.agg (aO a),.agg (dQ x)] (.agg (aJ .own (kG p a x))):=by
 have hs1:aF p<=536870912:=by omega
 have DW:p.aN.length<=536870912:=by simp only [aF,bV] at hs1;omega
 have FC:eB p.bG<=274877906944:=by simp only [aF] at hs1;omega
 have c1:=jC p (by omega);have c2:=xL p a (by omega);rcases uA (kX a) p.aN with ⟨hi,hf⟩|⟨k,hk,hi,hf⟩
 .rw [Jb hi];rw [hi] at c2;simp only [aJ,aO] at c1 c2;refine bR aD func35 ntmps35 ?_;refine bH ?_;exact aK results35
 .have hg:=aE hk;rw [hi] at c2;have hk0:¬((k:Nat):Int) < 0:=by omega
  cases hd:p.aN[k].done
  .rw [Mq hi hg hd];have cR:=xG p k (by omega) (by omega) (by omega);have e:xE p (k:Int)=fF p p.aN[k]:=by simp [xE,hg]
   rw [e] at cR;have hrq:jJ (fF p p.aN[k])<=1073741824:=by have hm:=cB bE (fR hk);simp only [bE] at hm;simp only [jJ,fF,eW];simp only [aF,bV,aU] at hs1 hm⊢;omega
   have c3:=uH p.bG (fF p p.aN[k]) x FC (by omega) hx;have c4:=Cw p.bG (fF p p.aN[k]) x FC (by omega) hx;simp only [aJ,fE] at cR;simp only [bM,fE,dQ] at c3 c4;simp only [aJ,aO] at c1 c2;clear e;have Es:=FP (x:=x) hi hk hf;have hqs:=Xr p k hk x;have hub:=Dt p.bG (fF p p.aN[k]) x;have hset:(p.aN.map bU).set k [.str p.aN[k].to.host,.str p.aN[k].to.path,.bool true,.int .i64 (dW p.bG (fF p p.aN[k]) x),.str (jF p.bG (fF p p.aN[k]) x)]=(p.aN.set k (iX p p.aN[k] x)).map bU:=by rw [map_set];rfl
   have hg3:(p.aN.set k (iX p p.aN[k] x))[k]? =some (iX p p.aN[k] x):=by rw [mB hk]
   unfold KH;have hfm:(iX p p.aN[k] x).done=true/\(iX p p.aN[k] x).code=dW p.bG (fF p p.aN[k]) x/\(iX p p.aN[k] x).body=jF p.bG (fF p p.aN[k]) x:=⟨rfl,rfl,rfl⟩;have A7:(p.aN.set k (iX p p.aN[k] x)).length=p.aN.length:=by simp
   generalize dW p.bG (fF p p.aN[k]) x=c at *;generalize jF p.bG (fF p p.aN[k]) x=y at *;generalize fF p p.aN[k]=rq at *;generalize iX p p.aN[k] x=m3 at *;generalize p.aN.set k m3=L3 at *;obtain ⟨f1,f2,f3⟩:=hfm;have aIf:k < L3.length:=by omega
   have e3:∀h,(L3[k]'h)=m3:=λh=>by rw [aE h] at hg3;exact cQ hg3
   obtain ⟨b1,b2⟩:=Nw (q:={p with aN:=L3}) Es (by rw [f3];exact hub);have hv:=Jd (q:={p with aN:=L3}) Es;generalize iN {p with aN:=L3} a=L at *;by_cases hc1:c=1
   .rw [eK ⟨f1,by rw [f2];exact hc1⟩,f3] at hv;have cP:=rY y a.host (by omega) (by simp only [aU] at hs;omega);generalize bI y a.host=u at *;obtain ⟨u1,u2,u3⟩:=u;simp only at hv cP;subst hv;subst hc1;refine bR aD func35 ntmps35 ?_;have W:=aA hk0 (aA hg (aA hd (aA hk (aA hset (aA aIf (aA e3 (aA f1 (aA f2 f3))))))));refine we ?_;have hq0:aF {p with aN:=L3}<=536871424:=by omega
    have hts:=Ny hq0 b1 b2;have LM:=λi (h:i < L.length)=>show lF {p with aN:=L3} (L.take (i+1))=gT (lF {p with aN:=L3} (L.take i)) L[i] by rw [eA h,Nv]
    have h00:lF {p with aN:=L3} (L.take 0)={p with aN:=L3}:=by simp [lF]
    have hall:L.length<=1099511627776:=by omega
    refine aL (ι:={k:Nat // k<=L.length}) (λt o i=>⟨bD t [(84,.int .i64 i.1),(14,.undef),(16,.undef),(35,.undef),(37,.undef),(38,.undef),(40,.undef),(47,.undef),(48,.undef),(51,.undef),(60,.undef),(61,.undef),(63,.undef),(65,.undef),(66,.undef),(71,.undef),(73,.undef),(74,.undef)],o.take 4++lN (lF {p with aN:=L3} (L.take i.1))++[⟨true,true,22,0,[jG 4 (lF {p with aN:=L3} (L.take i.1))]⟩]++o.drop 16⟩)
     (λi=>L.length - i.1) ⟨0,by simp⟩ (aH (by simp only [h00];simp [lN,jG]) (by simp)) ?_
    rintro ⟨i,hi2⟩ K1 hK1;have hi1:i64.wrap ((i:Int)+1)=((i+1:Nat):Int):=by rw [wrap64]<;>omega
    by_cases hlt:i < L.length
    .have hgi:=aE hlt;have cA:=Dm (lF {p with aN:=L3} (L.take i)) L[i] (by have:=hts i;omega) (by have:=b2 _ (fR hlt);omega);have hnext:=LM i hlt;rw [<-hnext] at cA;have hK2:=hK1;simp only [bD,cW,cU,eM,gR,eI,eN,rI,CM,lN,jG] at hK1⊢;clear LM h00 hnext hts;generalize hq1:lF {p with aN:=L3} (L.take i)=q at *;generalize hq2:lF {p with aN:=L3} (L.take (i+1))=q' at *;simp only [aJ,aO] at cA;have W:=aA hi1 (aA hgi hlt);refine we ?_;refine hK2 _ ⟨i+1,by omega⟩ ?_ (by simp only;omega);simp only [hq2];exact ui (q0:=q) (q:=q') rfl (by simp [lN,jG]) (by simp [pJ]) (by simp [pJ]) (by simp) (by simp) (by simp)
    .have htk:L.take i=L:=cX (by omega);have hK2:=hK1;simp only [bD,cW,cU,eM,gR,eI,eN,rI,CM,lN,jG,htk] at hK1⊢;clear LM h00 hts hK2 hK1;generalize lF {p with aN:=L3} L=q at *;have W:=aA hi1 hlt;refine we ?_;exact aK results35
   .rw [cY (λh=>hc1 (by rw [<-f2];exact h.2))] at hv
    subst hv;have hnil:lF {p with aN:=L3} []={p with aN:=L3}:=rfl;rw [hnil];refine bR aD func35 ntmps35 ?_;have W:=aA hk0 (aA hg (aA hd (aA hk (aA hset (aA aIf (aA e3 (aA f1 (aA f2 (aA f3 hc1)))))))));refine we ?_;exact aK results35
  .rw [Jc hi hg hd];simp only [aJ,aO] at c1 c2;refine bR aD func35 ntmps35 ?_;have W:=aA hk0 (aA hg (aA hd hk));refine we ?_;exact aK results35
def wN:List (Nat×Nat):=[(3,24),(4,25),(5,26),(6,27),(7,28),(8,29),(9,30),(10,31),(11,32),(12,33),(13,34)]
theorem V5 {t t':List AV} {o o':List aM} {l1 l2 l3 l4 l5 l6 l7 l8 l9 l10 l11:Bool} {u n1 v1 n2 v2 n3 v3 n4 v4 n5 v5 n6 v6 n7 v7 n8 v8 n9 v9 n10 v10 n11 v11:Nat} {e1 e2 e3 e4 e5 e6 e7 e8 e9 e10 e11:List (List AV)} {o0 o1 o2 m0 m1 m2 m3 m4 m5 m6 m7 m8:aM} {q:aI} (ho:o=[o0,o1,o2,⟨l1,false,n1,v1,e1⟩,⟨l2,false,n2,v2,e2⟩,⟨l3,false,n3,v3,e3⟩,⟨l4,false,n4,v4,e4⟩,⟨l5,false,n5,v5,e5⟩,⟨l6,false,n6,v6,e6⟩,⟨l7,false,n7,v7,e7⟩,⟨l8,false,n8,v8,e8⟩,⟨l9,false,n9,v9,e9⟩,⟨l10,false,n10,v10,e10⟩,⟨l11,false,n11,v11,e11⟩,⟨true,true,22,u,[Dv 24 q]⟩,m0,m1,m2,m3,m4,m5,m6,m7,m8]++Du q)
  (ho':o'=[o0,o1,o2]++Du q++[⟨true,true,22,u,[Dv 3 q]⟩,m0,m1,m2,m3,m4,m5,m6,m7,m8]) (ht:∀z∈wN,wk (qK z.1 z.2 t') t') (hf:∀z∈wN,o0.mG z.1 z.2=o0/\o1.mG z.1 z.2=o1/\o2.mG z.1 z.2=o2/\m0.mG z.1 z.2=m0/\m1.mG z.1 z.2=m1/\m2.mG z.1 z.2=m2/\m3.mG z.1 z.2=m3/\m4.mG z.1 z.2=m4/\m5.mG z.1 z.2=m5/\m6.mG z.1 z.2=m6/\m7.mG z.1 z.2=m7/\m8.mG z.1 z.2=m8) (hw:wk t t') (hc:fP 24 t'=true) (hc0:dJ 24 [o0,o1,o2,m0,m1,m2,m3,m4,m5,m6,m7,m8]=true):mK ⟨t,o⟩ ⟨t',o'⟩:=by
 subst ho;subst ho';have e:=λi j (h:(i,j)∈wN)=>hf (i,j) h
 have h:=λi j (h:(i,j)∈wN)=>ht (i,j) h
 simp only [Du,Dv,eI,eN];refine (vQ hw).trans ?_;refine (bA 3 24 rfl rfl ⟨rfl,rfl⟩ (by simp [(e 3 24 (by decide))];rfl) (h 3 24 (by decide))).trans ?_;refine (bA 4 25 rfl rfl ⟨rfl,rfl⟩ (by simp [(e 4 25 (by decide))];rfl) (h 4 25 (by decide))).trans ?_;refine (bA 5 26 rfl rfl ⟨rfl,rfl⟩ (by simp [(e 5 26 (by decide))];rfl) (h 5 26 (by decide))).trans ?_;refine (bA 6 27 rfl rfl ⟨rfl,rfl⟩ (by simp [(e 6 27 (by decide))];rfl) (h 6 27 (by decide))).trans ?_;refine (bA 7 28 rfl rfl ⟨rfl,rfl⟩ (by simp [(e 7 28 (by decide))];rfl) (h 7 28 (by decide))).trans ?_;refine (bA 8 29 rfl rfl ⟨rfl,rfl⟩ (by simp [(e 8 29 (by decide))];rfl) (h 8 29 (by decide))).trans ?_;refine (bA 9 30 rfl rfl ⟨rfl,rfl⟩ (by simp [(e 9 30 (by decide))];rfl) (h 9 30 (by decide))).trans ?_;refine (bA 10 31 rfl rfl ⟨rfl,rfl⟩ (by simp [(e 10 31 (by decide))];rfl) (h 10 31 (by decide))).trans ?_;refine (bA 11 32 rfl rfl ⟨rfl,rfl⟩ (by simp [(e 11 32 (by decide))];rfl) (h 11 32 (by decide))).trans ?_;refine (bA 12 33 rfl rfl ⟨rfl,rfl⟩ (by simp [(e 12 33 (by decide))];rfl) (h 12 33 (by decide))).trans ?_;refine (bA 13 34 rfl rfl ⟨rfl,rfl⟩ (by simp [(e 13 34 (by decide))];rfl) (h 13 34 (by decide))).trans ?_;refine aW 24 (by simp) (lC _) hc ?_;simpa [dJ,fP,closed,and_assoc] using hc0
theorem aEr {t t':List AV} {o o' o1 o2:List aM} {a b c d e:aM} (i1 j1 i2 j2 x:Nat) (h5:o[i1]? =some a) (h14:o[j1]? =some b) (hb:a.box=false/\b.box=false) (e1:((o.set i1 b).set j1 a).map (aM.mG i1 j1)=o1) (h6:o1[i2]? =some c) (h15:o1[j2]? =some d) (hd:c.box=false/\d.box=false) (e2:((o1.set i2 d).set j2 c).map (aM.mG i2 j2)=o2) (mi:o2[x]? =some e) (e3:o2.set x ⟨false,false,0,e.bY,[]⟩=o') (w1:wk (qK i1 j1 t) t') (w2:wk (qK i2 j2 t') t'):mK ⟨t,o⟩ ⟨t',o'⟩:=
 (bA i1 j1 h5 h14 hb e1 w1).trans ((bA i2 j2 h6 h15 hd e2 w2).trans (VD x mi e3 (lC _)))
theorem toPage_ok [aC prog] (a:aI) (hs:aF a<=1048576):Ok prog 8 [.agg (aJ .view a)] (.agg (aJ .own a)):=by
 simp only [aF] at hs;refine bR aD func8 ntmps8 ?_;have W:=trivial;repeat' first|refine wg ?_|(refine nx ?_;first|refine sk (hc:=toAddr_ok a.addr (by omega)) (h:=?_)|refine sk (hc:=toPolicy_ok a.bG (by omega)) (h:=?_)|refine sk (hc:=toTokenizer_ok a.tok (by omega)) (h:=?_)|refine sk (hc:=toTokenS_ok a.queue (by omega)) (h:=?_)|refine sk (hc:=toBuilder_ok a.builder (by omega)) (h:=?_)|refine sk (hc:=toSlotS_ok a.aB (by omega)) (h:=?_)|refine sk (hc:=toModuleS_ok a.aN (by omega)) (h:=?_)|refine sk (hc:=toAddrS_ok a.entries (by omega)) (h:=?_)|refine sk (hc:=toAddrS_ok a.oD (by omega)) (h:=?_)|refine sk (hc:=toStringS_ok a.log (by omega)) (h:=?_))|(refine sq ?_ ?_<;>intro hc<;>try exact hc.elim)|fail
 exact aK results8
theorem V7 [aC prog] (a:aI) (n:Int) (h0:0<=n) (h1:n<=1048576) (hw:Wx a):Ok prog 4 [.agg (aJ .view a),.int .i64 n] (.int .i64 (sub n (aF a))):=by
 simp only [Wx] at hw;obtain ⟨aPq,yf,aSz,aL4,aEx,aL5,aPr,aEy,aS0,aS1⟩:=hw;refine bR aD func4 ntmps4 ?_;have W:=trivial;repeat' first|refine wg ?_|(refine nx ?_;first|refine sk (hc:=Db a.addr _ (by omega) (by repeat' (first|omega|apply lY|apply jR)) aPq) (h:=?_)|refine sk (hc:=YO a.bG _ (by omega) (by repeat' (first|omega|apply lY|apply jR)) yf) (h:=?_)|refine sk (hc:=Qw a.tok _ (by omega) (by repeat' (first|omega|apply lY|apply jR)) aSz) (h:=?_)|refine sk (hc:=YQ a.queue _ (by omega) (by repeat' (first|omega|apply lY|apply jR)) aL4) (h:=?_)|refine sk (hc:=WO a.builder _ (by omega) (by repeat' (first|omega|apply lY|apply jR)) aEx) (h:=?_)|refine sk (hc:=ll a.aB _ (by omega) (by repeat' (first|omega|apply lY|apply jR)) aL5) (h:=?_)|refine sk (hc:=WM a.aN _ (by omega) (by repeat' (first|omega|apply lY|apply jR)) aPr) (h:=?_)|refine sk (hc:=QA a.entries _ (by omega) (by repeat' (first|omega|apply lY|apply jR)) aEy) (h:=?_)|refine sk (hc:=QA a.oD _ (by omega) (by repeat' (first|omega|apply lY|apply jR)) aS0) (h:=?_)|refine sk (hc:=Av a.log _ (by omega) (by repeat' (first|omega|apply lY|apply jR)) aS1) (h:=?_))|(refine sq ?_ ?_<;>intro hc<;>try exact hc.elim)|fail
 all_goals try(refine aR ?_;simp [aG,results4,aF])
 all_goals (
  (try generalize e0:sub n (aU a.addr)=m0 at *)
  (try (first|have f0:=lZ e0 (by omega)|have f0:=jS e0 (by omega) (by omega)))
  (try generalize e1:sub m0 (eB a.bG)=m1 at *)
  (try (first|have f1:=lZ e1 (by omega)|have f1:=jS e1 (by omega) (by omega)))
  (try generalize e2:sub m1 (rJ a.tok)=m2 at *)
  (try (first|have f2:=lZ e2 (by omega)|have f2:=jS e2 (by omega) (by omega)))
  (try generalize e3:sub m2 (bV bO a.queue)=m3 at *)
  (try (first|have f3:=lZ e3 (by omega)|have f3:=jS e3 (by omega) (by omega)))
  (try generalize e4:sub m3 (aP a.builder)=m4 at *)
  (try (first|have f4:=lZ e4 (by omega)|have f4:=jS e4 (by omega) (by omega)))
  (try generalize e5:sub m4 (bV gQ a.aB)=m5 at *)
  (try (first|have f5:=lZ e5 (by omega)|have f5:=jS e5 (by omega) (by omega)))
  (try generalize e6:sub m5 (bV bE a.aN)=m6 at *)
  (try (first|have f6:=lZ e6 (by omega)|have f6:=jS e6 (by omega) (by omega)))
  (try generalize e7:sub m6 (bV aU a.entries)=m7 at *)
  (try (first|have f7:=lZ e7 (by omega)|have f7:=jS e7 (by omega) (by omega)))
  (try generalize e8:sub m7 (bV aU a.oD)=m8 at *)
  (try (first|have f8:=lZ e8 (by omega)|have f8:=jS e8 (by omega) (by omega)))
  (try generalize e9:sub m8 (bV eX a.log)=m9 at *)
  (try (first|have f9:=lZ e9 (by omega)|have f9:=jS e9 (by omega) (by omega)))
  repeat (simp (disch:=omega) only [wrap64] at *)
  (try simp only [sub]);(try split);all_goals omega)
theorem VT [aC prog] (a b:aI) (hs:aF a<=1099511627776):Ok prog 12 [.agg (aJ .view a),.agg (aJ .view b)] (.bool (decide (a=b))):=by
 simp only [aF] at hs;refine bR aD func12 ntmps12 ?_;have W:=trivial;repeat' first|refine wg ?_|(refine nx ?_;first|refine sk (hc:=Gd a.addr b.addr (by omega)) (h:=?_)|refine sk (hc:=YP a.bG b.bG (by omega)) (h:=?_)|refine sk (hc:=Qx a.tok b.tok (by omega)) (h:=?_)|refine sk (hc:=YR a.queue b.queue (by omega)) (h:=?_)|refine sk (hc:=WQ a.builder b.builder (by omega)) (h:=?_)|refine sk (hc:=lq a.aB b.aB (by omega)) (h:=?_)|refine sk (hc:=WN a.aN b.aN (by omega)) (h:=?_)|refine sk (hc:=QB a.entries b.entries (by omega)) (h:=?_)|refine sk (hc:=QB a.oD b.oD (by omega)) (h:=?_)|refine sk (hc:=Ay a.log b.log (by omega)) (h:=?_))|(refine sq ?_ ?_<;>intro hc<;>try exact hc.elim)|fail
 all_goals try(refine aR ?_;simp [aG,results12])
 all_goals ((repeat clear hK K);cases a;cases b;simp_all)
theorem Um [aC prog] (a:dL) (k:Int) (h0:0<=k) (hl:k+(pV a:Nat)<=4611686018427387000):
  Ok prog 53 [.agg (bM .view (Br k a)),.int .i64 k] (.int .i64 (k+(pV a:Nat))):=by
 simp only [pV] at hl;have l1:=iA 1 a.dG;have l2:=iA 1 a.eZ;have l3:=iA 1 a.fD;simp only [Br,bM];refine bR aD func53 ntmps53 ?_;have W:=trivial;repeat' first|refine wg ?_|(refine nx ?_;first|refine sk (hc:=xR a.dG _ (by omega) (by omega) (by omega)) (h:=?_)|refine sk (hc:=xR a.eZ _ (by omega) (by omega) (by omega)) (h:=?_)|refine sk (hc:=xR a.fD _ (by omega) (by omega) (by omega)) (h:=?_))|(refine sq ?_ ?_<;>intro hc<;>try exact hc.elim)|fail
 all_goals try(refine aR ?_;simp [aG,results53,pV])
 all_goals omega
theorem Su [aC prog] (a:bC) (k:Int) (h0:0<=k) (hl:k+(oL a:Nat)<=4611686018427387000) (hb:a.nodes.length<=4611686018427387904) (hba:∀x∈a.nodes,x.attrs.length<=4611686018427387904):
  Ok prog 55 [.agg (aS .view (yJ k a)),.int .i64 k] (.int .i64 (k+(oL a:Nat))):=by
 simp only [oL] at hl;have l1:=iA 1 a.opens;simp only [yJ,aS];refine bR aD func55 ntmps55 ?_;have W:=trivial;repeat' first|refine wg ?_|(refine nx ?_;first|refine sk (hc:=XA a.nodes _ (by omega) (by omega) hb hba) (h:=?_)|refine sk (hc:=bg a.opens _ (by omega) (by omega) (by omega)) (h:=?_))|(refine sq ?_ ?_<;>intro hc<;>try exact hc.elim)|fail
 all_goals try(refine aR ?_;simp [aG,results55,oL])
 all_goals omega
theorem bn [aC prog] (a:aI) (k:Int) (h0:0<=k) (hl:k+(Fx a:Nat)<=4611686018427387000) (hq:a.queue.length<=4611686018427387904) (hqa:∀x∈a.queue,x.attrs.length<=4611686018427387904)
  (hb:a.builder.nodes.length<=4611686018427387904) (hba:∀x∈a.builder.nodes,x.attrs.length<=4611686018427387904):
  Ok prog 14 [.agg (aJ .view (Xg k a)),.int .i64 k] (.int .i64 (k+(Fx a:Nat))):=by
 simp only [Fx] at hl;have l1:=iA 8 a.aB;have l2:=iA 5 a.aN;have l3:=iA 2 a.entries;have l4:=iA 2 a.oD;have l5:=iA 1 a.log;simp only [Xg,aJ,Br,yJ];refine bR aD func14 ntmps14 ?_;have W:=trivial;repeat' first|refine wg ?_|(refine nx ?_;first|refine sk (hc:=Um a.bG _ (by omega) (by omega)) (h:=?_)|refine sk (hc:=Ul a.queue _ (by omega) (by omega) hq hqa) (h:=?_)|refine sk (hc:=Su a.builder _ (by omega) (by omega) hb hba) (h:=?_)|refine sk (hc:=XB a.aB _ (by omega) (by omega) (by omega)) (h:=?_)|refine sk (hc:=Sr a.aN _ (by omega) (by omega) (by omega)) (h:=?_)|refine sk (hc:=KR a.entries _ (by omega) (by omega) (by omega)) (h:=?_)|refine sk (hc:=KR a.oD _ (by omega) (by omega) (by omega)) (h:=?_)|refine sk (hc:=xR a.log _ (by omega) (by omega) (by omega)) (h:=?_))|(refine sq ?_ ?_<;>intro hc<;>try exact hc.elim)|fail
 all_goals try(refine aR ?_;simp [aG,results14,Fx])
 all_goals omega
end Go.Proofs.YtjmpjmilndkgfaaGreatDoor
