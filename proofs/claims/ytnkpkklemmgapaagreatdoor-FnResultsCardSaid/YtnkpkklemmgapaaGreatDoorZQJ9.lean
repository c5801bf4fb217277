/- Proved here: steps towards the statement of this claim. No condition. -/
import Derived.Test.YtnkpkklemmgapaaGreatDoorZQJ7
import Derived.Test.YtnkpkklemmgapaaGreatDoorZQRC9
set_option linter.all false
set_option maxRecDepth 4000
set_option maxHeartbeats 4000000
namespace Go.Proofs.YtnkpkklemmgapaaGreatDoor
open Go.Aw Proofs.Tryz List IntKind
def iM(p:aC)(a:aK)(x:bE):Nat->aC
 |0=>p
 |k+1=>match p.aF[k]? with
  |some s=>if s.to=a then gY (iM p a x k) k x else iM p a x k
  |none=>iM p a x k
def nT(p:aC)(a:aK)(x:bE):aC:=iM p a x p.aF.length
theorem UL(p:aC)(k:Int)(x:bE):(gY p k x).aF.length=p.aF.length/\(gY p k x).bM=p.bM/\(gY p k x).addr=p.addr:=by
 unfold gY;split
 .split
  .split
   .exact ⟨rfl,rfl,rfl⟩
   .simp
  .exact ⟨rfl,rfl,rfl⟩
 .exact ⟨rfl,rfl,rfl⟩
theorem aIa(p:aC)(k:Int)(x:bE)(j:Nat)(h:(j:Int)≠k):(gY p k x).aF[j]? =p.aF[j]?:=by
 unfold gY;split
 .split
  .split
   .rfl
   .simp only;rw[gR (by omega)]
  .rfl
 .rfl
theorem Gf(p:fU)(r:gG)(x:bE):(nQ p r x).length<=400:=by
 unfold nQ;split
 .rename_i h;unfold gZ at h;split at h
  .omega
  .split at h
   .omega
   .rename_i h2;have h3:jD x=true:=by
     cases h4:jD x with
     |true=>rfl
     |false=>exact absurd (.inl h4) h2
    simp only[jD,eI,fX]at h3;exact h3.1.1.2
 .simp
theorem aD0(p:aC)(k:Int)(x:bE):aM (gY p k x)<=aM p+400:=by
 unfold gY;split
 .split
  .rename_i s hg;split
   .omega
   .have hb:=Gf p.bM (jJ p s) x;have h1:bB iU (p.aF.set k.toNat (filled p s x))<=bB iU p.aF+400:=by
     have:∀(l:List nK) (i:Nat) (s s':nK),l[i]? =some s->iU s'<=iU s+400->bB iU (l.set i s')<=bB iU l+400:=by
      intro l;induction l with
      |nil=>intro i s s' h;simp at h
      |cons y l ih=>
       intro i s s' h hs;cases i with
       |zero=>simp at h;subst h;simp only[cJ,bB];omega
       |succ i=>have:=ih i s s' (by simpa using h) hs;simp only[cH,bB];omega
     refine this _ _ s _ hg ?_;simp only[iU,filled];omega
    simp only[aM,bV,CC]at*;omega
  .omega
 .omega
theorem zU(p:aC)(a:aK)(x:bE):∀k,(iM p a x k).aF.length=p.aF.length/\(∀j,k<=j->(iM p a x k).aF[j]? =p.aF[j]?)/\aM (iM p a x k)<=aM p+k*400
 |0=>⟨rfl,λ_ _=>rfl,by simp[iM]⟩
 |k+1=>by
  obtain⟨h1,h2,h3⟩:=zU p a x k;simp only[iM];split
  .split
   .refine ⟨by rw[(UL _ _ _).1];exact h1,λj hj=>by rw[aIa _ _ _ _ (by omega)];exact h2 j (by omega),?_⟩
    have:=aD0 (iM p a x k) k x;omega
   .exact ⟨h1,λj hj=>h2 j (by omega),by omega⟩
  .exact ⟨h1,λj hj=>h2 j (by omega),by omega⟩
theorem YX{p:aC}{a:aK}{x:bE}{k:Nat}(h:k<p.aF.length):iM p a x (k+1)=if p.aF[k].to=a then gY (iM p a x k) k x else iM p a x k:=by simp only[iM];rw[aE h]
def rU(q:aC):List aD:=[⟨true,false,1,1,q.bM.lG.map dQ⟩,⟨true,false,1,1,q.bM.oC.map dQ⟩,⟨true,false,1,1,q.bM.oD.map dQ⟩,⟨true,false,4,1,q.queue.map (eG .own)⟩,⟨true,false,4,1,q.builder.nodes.map (fC .own)⟩,⟨true,false,1,1,q.builder.opens.map lI⟩,⟨true,false,8,1,q.aF.map xC⟩,⟨true,false,5,1,q.aN.map lT⟩,⟨true,false,2,1,q.entries.map bC⟩,⟨true,false,2,1,q.uI.map bC⟩,⟨true,false,1,1,q.log.map dQ⟩]
def oG(b:Nat)(q:aC):List AV:=[.str q.addr.host,.str q.addr.path,.bool q.bM.isSet,.obj b 1,.obj (b+1) 1,.obj (b+2) 1,.str q.bM.vQ,.str q.tok.rest,.obj (b+3) 1,.bool q.ended,.obj (b+4) 1,.obj (b+5) 1,.obj (b+6) 1,.obj (b+7) 1,.obj (b+8) 1,.int .i64 q.block,.int .i64 q.inline,.int .i64 q.deferred,.int .i64 q.iV,.obj (b+9) 1,.obj (b+10) 1,.bool q.jZ]
def Fj:List (Nat×Nat):=[(4,16),(5,17),(6,18),(7,19),(8,20),(9,21),(10,22),(11,23),(12,24),(13,25),(14,26)]
theorem ni{t t':List AV}{o0 o1 o2 o3:aD}(q0 q:aC)(ht:∀z∈Fj,wk (sQ z.1 z.2 t') t')(hf:∀z∈Fj,o0.qO z.1 z.2=o0/\o1.qO z.1 z.2=o1/\o2.qO z.1 z.2=o2/\o3.qO z.1 z.2=o3)(hw:wk t t')(hc:gH 16 t'=true)(hc0:fI 16 [o0,o1,o2,o3]=true):
  kY ⟨t,[o0,o1,o2,o3]++rU q0++[⟨true,true,22,0,[oG 16 q]⟩]++rU q⟩ ⟨t',[o0,o1,o2,o3]++rU q++[⟨true,true,22,0,[oG 4 q]⟩]⟩:=by
 have e:=λi j (h:(i,j)∈Fj)=>hf (i,j) h
 have h:=λi j (h:(i,j)∈Fj)=>ht (i,j) h
 simp only[rU,oG,cW,cY];refine(Ag hw).trans ?_;refine(bK 4 16 rfl rfl ⟨rfl,rfl⟩ (by simp[(e 4 16 (by decide))];rfl) (h 4 16 (by decide))).trans ?_;refine(bK 5 17 rfl rfl ⟨rfl,rfl⟩ (by simp[(e 5 17 (by decide))];rfl) (h 5 17 (by decide))).trans ?_;refine(bK 6 18 rfl rfl ⟨rfl,rfl⟩ (by simp[(e 6 18 (by decide))];rfl) (h 6 18 (by decide))).trans ?_;refine(bK 7 19 rfl rfl ⟨rfl,rfl⟩ (by simp[(e 7 19 (by decide))];rfl) (h 7 19 (by decide))).trans ?_;refine(bK 8 20 rfl rfl ⟨rfl,rfl⟩ (by simp[(e 8 20 (by decide))];rfl) (h 8 20 (by decide))).trans ?_;refine(bK 9 21 rfl rfl ⟨rfl,rfl⟩ (by simp[(e 9 21 (by decide))];rfl) (h 9 21 (by decide))).trans ?_;refine(bK 10 22 rfl rfl ⟨rfl,rfl⟩ (by simp[(e 10 22 (by decide))];rfl) (h 10 22 (by decide))).trans ?_;refine(bK 11 23 rfl rfl ⟨rfl,rfl⟩ (by simp[(e 11 23 (by decide))];rfl) (h 11 23 (by decide))).trans ?_;refine(bK 12 24 rfl rfl ⟨rfl,rfl⟩ (by simp[(e 12 24 (by decide))];rfl) (h 12 24 (by decide))).trans ?_;refine(bK 13 25 rfl rfl ⟨rfl,rfl⟩ (by simp[(e 13 25 (by decide))];rfl) (h 13 25 (by decide))).trans ?_;refine(bK 14 26 rfl rfl ⟨rfl,rfl⟩ (by simp[(e 14 26 (by decide))];rfl) (h 14 26 (by decide))).trans ?_;refine aL 16 (by simp) (mR _) hc ?_;simpa [fI,gH,closed]using hc0
theorem wV{α:Type}{f:α->List AV}{i j:Nat}(h:∀x,sQ i j (f x)=f x):∀l:List α,oF i j (l.map f)=l.map f
 |[]=>rfl
 |x::l=>by simp only[lA,oF,h,wV h l]
@[simp] theorem aNm(i j:Nat)(l:List aU):oF i j (l.map dQ)=l.map dQ:=wV (λ_=>rfl) l
@[simp] theorem aNn(i j:Nat)(l:List Int):oF i j (l.map lI)=l.map lI:=wV (λ_=>rfl) l
@[simp] theorem aMb(i j:Nat)(l:List aK):oF i j (l.map bC)=l.map bC:=wV (λ_=>rfl) l
@[simp] theorem aMc(i j:Nat)(l:List nY):oF i j (l.map uH)=l.map uH:=wV (λ_=>rfl) l
@[simp] theorem aMd(i j:Nat)(l:List nK):oF i j (l.map xC)=l.map xC:=wV (λ_=>rfl) l
@[simp] theorem aIb(i j:Nat)(l:List fO):oF i j (l.map lT)=l.map lT:=wV (λ_=>rfl) l
@[simp] theorem aIc(i j:Nat)(l:List bU):oF i j (l.map (eG .view))=l.map (eG .view):=wV (λ_=>by simp) l
@[simp] theorem aJ4(i j:Nat)(l:List gV):oF i j (l.map (fC .view))=l.map (fC .view):=wV (λ_=>by simp) l
theorem nk{t t':List AV}{o o':List aD}{o0 o1 o2 o3:aD}{q0 q:aC}(ho:o=[o0,o1,o2,o3]++rU q0++[⟨true,true,22,0,[oG 16 q]⟩]++rU q)(ho':o'=[o0,o1,o2,o3]++rU q++[⟨true,true,22,0,[oG 4 q]⟩])
  (ht:∀z∈Fj,wk (sQ z.1 z.2 t') t') (hf:∀z∈Fj,o0.qO z.1 z.2=o0/\o1.qO z.1 z.2=o1/\o2.qO z.1 z.2=o2/\o3.qO z.1 z.2=o3) (hw:wk t t') (hc:gH 16 t'=true) (hc0:fI 16 [o0,o1,o2,o3]=true):kY ⟨t,o⟩ ⟨t',o'⟩:=by
 subst ho;subst ho';exact ni q0 q ht hf hw hc hc0
theorem QA[aB prog][dY prog][eO prog](p:aC)(a:aK)(x:bE)(hs:aM p+400*p.aF.length<=137438953472)(hx:dE x<=1048576):Ok prog 113 [.agg (aQ .view p),.agg (bC a),.agg (cZ x)] (.agg (aQ .own (nT p a x))):=by
 have c1:=fQ p (by omega);have ZO:p.aF.length<=343597383:=by omega
 simp only[aQ]at c1;unfold nT;refine dL aO func113 ntmps113 ?_;refine dH ?_;refine aI (ι:={k:Nat // k<=p.aF.length}) (λt o i=>⟨bH t [(8,.int .i64 i.1),(10,.undef)],o.take 4++rU (iM p a x i.1)++[⟨true,true,22,0,[oG 4 (iM p a x i.1)]⟩]⟩)
  (λi=>p.aF.length-i.1) ⟨0,by simp⟩ (aG (by simp[rU,oG,iM]) (by simp)) ?_
 rintro⟨k,hk⟩ K1 hK1;have hf:=zU p a x k;obtain⟨f1,f2,f3⟩:=hf;have c2:=NS (iM p a x k) k x (by omega) hx;have nu:= @YX p a x k;have hk1:=rE (k:=k);by_cases hlt:k<p.aF.length
 .have hg:=aE hlt;have hnext:=nu hlt;clear nu;by_cases RA:p.aF[k].done=true
  .have iH:iM p a x (k+1)=iM p a x k:=by
    rw[hnext];split
    .exact UK (s:=p.aF[k]) (by rw[pD,f2 k (eE k)];exact hg) RA
    .rfl
   have hK2:=hK1;simp only[bH,cH,cJ,fL,lE,cW,cY,rU,oG]at hK1⊢;clear f2 c2 hnext;generalize hqq:iM p a x k=q at*;have W:=aA hk1 (aA hg (aA hlt RA));refine we ?_;refine hK2 _ ⟨k+1,by omega⟩ ?_ (by simp only;omega);simp only[iH];exact aG (by simp[rU,oG,iH]) (by simp)
  .simp only[Bs]at RA;by_cases hto:p.aF[k].to=a
   .rw [eW hto]at hnext;generalize hq':gY (iM p a x k) k x=q' at*;have hK2:=hK1;simp only[bH,cH,cJ,fL,lE,cW,cY,rU,oG]at hK1⊢;clear hq' f2;generalize hqq:iM p a x k=q at*;simp only[aQ,cZ]at c2;have W:=aA hk1 (aA hg (aA hlt (aA RA hto)));have c0:=Di a a;refine we ?_;refine hK2 _ ⟨k+1,by omega⟩ ?_ (by simp only;omega);simp only[hnext];exact nk (q0:=q) (q:=q') rfl (by simp[rU,oG,hnext]) (by simp[Fj]) (by simp[Fj]) (by simp) (by simp) (by simp)
   .rw [eK hto]at hnext;have hK2:=hK1;simp only[bH,cH,cJ,fL,lE,cW,cY,rU,oG]at hK1⊢;clear f2 c2;generalize hqq:iM p a x k=q at*;have W:=aA hk1 (aA hg (aA hlt (aA RA hto)));have c0:=Di p.aF[k].to a;refine we ?_;all_goals first
     |exact absurd (by assumption) hto
     |exact hK2 _ ⟨k+1,by omega⟩ (by simp only[hnext];exact aG (by simp[rU,oG,hnext]) (by simp)) (by simp only;omega)
 .have htk:k=p.aF.length:=by omega
  subst htk;simp only[bH,cH,cJ,fL,lE,cW,cY,rU,oG]at hK1⊢;generalize iM p a x p.aF.length=q at*;clear nu f2 c2 hK1;have W:=hk1;refine we ?_;exact aR results113
theorem YY(p:aC)(a:aK)(x:bE):(nT p a x).aF.length=p.aF.length:=(zU p a x _).1
theorem ny(p:aC)(a:aK)(x:bE):aM (nT p a x)<=aM p+p.aF.length*400:=(zU p a x _).2.2
def kU(p:aC)(m:fO)(x:bE):fO:={m with done:=true,code:=gZ p.bM (jN p m) x,body:=nQ p.bM (jN p m) x}
def oH(q:aC)(l:List aK):aC:=l.foldl fB q
def Kz(p:aC)(a:aK)(x:bE)(k:Nat)(m:fO):aC:=oH {p with aN:=p.aN.set k (kU p m x)} (jO {p with aN:=p.aN.set k (kU p m x)} a)
def kV(p:aC)(a:aK)(x:bE):aC:=
 if zO (mP a) p.aN<0 then p else match p.aN[(zO (mP a) p.aN).toNat]? with
 |some m=>if m.done=true then p else Kz p a x (zO (mP a) p.aN).toNat m
 |none=>p
theorem Dv{p:aC}{a:aK}{x:bE}(h:zO (mP a) p.aN= -1):kV p a x=p:=by unfold kV;rw[h];rfl
theorem Dw{p:aC}{a:aK}{x:bE}{k:Nat}{m:fO}(h:zO (mP a) p.aN=(k:Int))(hg:p.aN[k]? =some m)(hd:m.done=true):kV p a x=p:=by unfold kV;rw[h,eK (by omega),pD,hg];simp[hd]
theorem Gg{p:aC}{a:aK}{x:bE}{k:Nat}{m:fO}(h:zO (mP a) p.aN=(k:Int))(hg:p.aN[k]? =some m)(hd:m.done=false):kV p a x=Kz p a x k m:=by unfold kV;rw[h,eK (by omega),pD,hg];simp[hd]
theorem YZ{α:Type}(f:α->Bool)(y:α):∀(l:List α) (k:Nat) (h:k<l.length),f y=true->l.find? f=some l[k]->(∀j (hj:j<k),f (l[j]'(Nat.lt_trans hj h))=false)->(l.set k y).find? f=some y
 |[],k,h,_,_,_=>by simp at h
 |z::l,0,h,hy,_,_=>by simp[hy]
 |z::l,k+1,h,hy,hf,hn=>by have hz:f z=false:=hn 0 (by omega);rw[cH,find?_cons,hz];rw[find?_cons,hz]at hf;exact YZ f y l k (by simpa using h) hy (by simpa using hf) (λj hj=>by have:=hn (j+1) (by omega);simpa using this)
theorem aMe{α:Type}{f:α->Bool}{l:List α}{k:Nat}(h:zO f l=(k:Int))(hk:k<l.length):f l[k]=true/\∀j (hj:j<k),f (l[j]'(Nat.lt_trans hj hk))=false:=by
 unfold zO at h;split at h
 .rename_i ha;have hk2:l.findIdx f=k:=by omega
  rw[findIdx_eq hk]at hk2;exact hk2
 .omega
theorem MZ{p:aC}{a:aK}{x:bE}{k:Nat}(h:zO (mP a) p.aN=(k:Int))(hk:k<p.aN.length)(hf:p.aN.find? (mP a)=some p.aN[k]):(p.aN.set k (kU p p.aN[k] x)).find? (mP a)=some (kU p p.aN[k] x):=by obtain⟨h1,h2⟩:=aMe h hk;exact YZ _ _ _ _ hk (by simp only[mP]at h1⊢;exact h1) hf h2
theorem yh{α:Type}(f:α->Nat)(c:Nat):∀(l:List α) (i:Nat) (y:α) (h:i<l.length),f y<=f l[i]+c->bB f (l.set i y)<=bB f l+c
 |[],i,y,h,_=>by simp at h
 |z::l,0,y,h,hs=>by simp only[cJ,bB,getElem_cons_zero]at hs⊢;omega
 |z::l,i+1,y,h,hs=>by have:=yh f c l i y (by simpa using h) (by simpa using hs);simp only[cH,bB];omega
theorem yj(p:aC)(k:Nat)(hk:k<p.aN.length)(x:bE):aM {p with aN:=p.aN.set k (kU p p.aN[k] x)}<=aM p+400:=by have hb:=Gf p.bM (jN p p.aN[k]) x;have h:=yh bI 400 p.aN k (kU p p.aN[k] x) hk (by simp only[bI,kU];omega);simp only[aM,bV,CC];omega
theorem QB(N:Nat):∀(l:List aK) (q:aC),(∀x∈l,aP x<=N)->aM (oH q l)<=aM q+l.length*(N+1)
 |[],q,_=>by simp[oH]
 |b::l,q,h=>by have h1:=QB N l (fB q b) (λx hx=>h x (by simp[hx]));have h2:=aL9 q b;have h3:=h b (by simp);simp only[oH,Fi,dT,Nat.succ_mul]at h1⊢;omega
theorem Za(q:aC)(l:List aK)(b:aK):oH q (l++[b])=fB (oH q l) b:=by simp[oH]
theorem aD1(s b:aU):aP (cB s b).1<=16:=by
 unfold cB;split
 .rename_i h;simp only[vG,dJ,eI,fX]at h;simp only[aP];omega
 .simp [aP,Aj]
theorem Zb(base:aU):∀(ps:List aU) (l:List aK) (r:List aU),nO base ps=some (l,r)->∀b∈l,aP b<=16
 |[],l,r,h=>by simp only[nO,eA,oR]at h;obtain⟨rfl,_⟩:=h;simp
 |p::ps,l,r,h=>by
  simp only[nO]at h;split at h
  .split at h
   .cases hq:nO base ps with
    |none=>rw[hq]at h;simp at h
    |some q=>
     rw[hq]at h;simp only[mA,eA,oR]at h;obtain⟨rfl,_⟩:=h;intro b hb;rcases gE.1 hb with rfl|hb
     .exact aD1 _ _
     .exact Zb base ps q.1 q.2 (by rw[hq]) b hb
   .cases h
  .simp only[eA,oR]at h;obtain⟨rfl,_⟩:=h;simp
theorem aD2(s b:aU):∀a∈(bL s b).1,aP a<=16:=by
 unfold bL;split
 .simp
 .rename_i l r h;split
  .exact Zb b _ l r h
  .simp
theorem aD3(q:aC)(a:aK):∀b∈jO q a,aP b<=16:=by
 unfold jO;split
 .split
  .exact aD2 _ _
  .simp
 .simp
theorem QC{q:aC}{a:aK}{m:fO}(hf:q.aN.find? (mP a)=some m):jO q a=if m.done=true/\m.code=1 then(bL m.body a.host).1 else []:=by unfold jO;rw[hf]
theorem Zc{q:aC}{a:aK}{m:fO}(hf:q.aN.find? (mP a)=some m)(hb:m.body.length<=400):(jO q a).length<=57/\∀b∈jO q a,aP b<=16:=by
 refine⟨?_,aD3 q a⟩;rw[QC hf];split
 .obtain ⟨h1,_,h3⟩:=wR m.body a.host;omega
 .simp
theorem Zd{q:aC}{l:List aK}(h0:aM q<=536871424)(h1:l.length<=57)(h2:∀b∈l,aP b<=16)(i:Nat):aM (oH q (l.take i))<=536872448:=by
 have h:=QB 16 (l.take i) q (λx hx=>h2 x (pC hx));have h3:(l.take i).length<=57:=by rw[oY];omega
 have h4:=pT (16+1) h3;omega
theorem ym(p:aC)(a:aK):(fB p a).bM=p.bM/\(fB p a).addr=p.addr/\(fB p a).aF=p.aF:=by rcases ask_cases p a with⟨e,_⟩|⟨e,_⟩<;>rw[e]<;>exact⟨rfl,rfl,rfl⟩
end Go.Proofs.YtnkpkklemmgapaaGreatDoor
