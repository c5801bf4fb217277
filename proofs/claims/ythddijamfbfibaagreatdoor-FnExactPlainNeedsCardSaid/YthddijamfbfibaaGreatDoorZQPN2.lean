/- Proved here: steps towards the statement of this claim. No condition. -/
import Derived.Test.YthddijamfbfibaaGreatDoorZQAD2
set_option linter.all false
set_option maxRecDepth 8000
set_option maxHeartbeats 8000000
namespace Go.Proofs.YthddijamfbfibaaGreatDoor
open Go.Aw Proofs.Tryz List IntKind
theorem Yn(n:kU)(top:bB)(a:aD):∃t,(iM n top a).log=n.log++t/\t.length<=1:=by
 unfold iM;split
 .exact ⟨[],by simp,by simp⟩
 .split
  .exact ⟨[],by simp,by simp⟩
  .have h:∀m x,(Ac m top a x).log=m.log:=λm x=>by unfold Ac;split<;>rfl
   rw[h];unfold xH;split
   .exact ⟨[⟨top,a,false⟩],rfl,by simp⟩
   .exact ⟨[],by simp,by simp⟩
theorem go_log(h:bB):∀(k:Nat) (n:kU) (p:aI),∃t,(qJ k h n p).1.log=n.log++t/\t.length<=k
 |0,n,p=>⟨[],by simp[qJ],by simp⟩
 |k+1,n,p=>by
  unfold qJ;split
  .exact ⟨[],by simp,by simp⟩
  .rename_i r l hr;obtain⟨t,e,ht⟩:=Yn n h r.to;obtain⟨u,e2,hu⟩:=go_log h k (iM n h r.to) (mW p r.to (eG n h r.to));exact⟨t++u,by rw[e2,e,sB],by simp;omega⟩
theorem UT(n:kU)(a:aD):∃t,(iD n a).1.1.log=n.log++t/\t.length<=201:=by
 obtain⟨t,e,ht⟩:=Yn n a.host a;unfold iD;split
 .exact ⟨t,e,by omega⟩
 .obtain ⟨u,e2,hu⟩:=go_log a.host 200 (iM n a.host a) (BO a (eG n a.host a));exact⟨t++u,by rw[e2,e,sB],by simp;omega⟩
def uJ(n:kU)(a:aD):List aD:=CG (((iD n a).1.1.log.drop n.log.length).map (·.to))
theorem aIo(n:kU)(a:aD)(hs:kV n+aQ a<=1048576):bP aQ (uJ n a)<=274877906944/\(uJ n a).length<=201:=by
 obtain⟨t,ht,htl⟩:=UT n a;have h1:=(aMi n a hs).2;have e:(iD n a).1.1.log.drop n.log.length=t:=by rw[ht];simp
 have h2:=aIm (t.map (·.to));have h3:=OL (t.map (·.to));have h4:∀u:List tT,aY aQ (u.map (·.to))<=aY qE u:=λu=>by
  induction u with
  |nil=>exact eC _
  |cons x u ih=>simp only[mB,aY,qE];omega
 have h5:=h4 t;have h6:bP qE t<=bP qE (iD n a).1.1.log:=by rw[ht];simp only[bP,eR,Ei];omega
 unfold uJ;rw[e];rw[mL]at h3;simp only[bP,mL,kV]at*;omega
def eTo(s:tT):List AV:=aH s.to
theorem aIs(l:List tT):l.map eTo=(l.map (·.to)).map aH:=by rw[map_map];rfl
@[simp] theorem aUr(t:Tg->Option Tg)(b:Bool)(l:List tT):mX t b (l.map eTo)=l.map eTo:=bO (by intro x;rfl) l
@[simp] theorem aRl(l:List tT):iY (l.map eTo)=true:=eD _ (by intro x;rfl) l
theorem MU[aB prog](l:List tT)(hl:l.length<=1048576):Ok prog 19 [.sl .view 4 (l.map jL)] (.sl .own 2 ((CG (l.map (·.to))).map aH)):=by
 have cS:=ZI (l.map (·.to)) (by simpa using hl);rw[<-aIs]at cS;refine bM aG func19 ntmps19 ?_;refine gV ?_;refine aM (ι:={q:Nat×Nat // q.1<=l.length/\1<=q.2}) (λt o i=>⟨bC t [(3,.obj 0 i.1.2),(4,.int .i64 i.1.1)],o.take 0++[⟨true,false,2,i.1.2,(l.take i.1.1).map eTo⟩]⟩)
  (λi=>l.length-i.1.1) ⟨(0,1),by simp,by first|(simp;done)|(simp only;omega)⟩ aK ?_
 rintro⟨⟨k,v⟩,hk,hv⟩ K1 hK1;simp only at hk hv;simp only[bC,cW,cU,eL,fW,eA,eM]at hK1⊢;have hk1:=oQ (k:=k);by_cases hlt:k<l.length
 .have hg:=aE hlt;have hps:=Au eTo l k hlt;simp only[eTo,aH]at hps;have IQ:((l.take k).map eTo).length=k:=by simp;omega
  generalize (l.take k).map eTo=g at*;have W:=aA hk1 (aA hg (aA hlt IQ));refine wl ?_;all_goals refine hK1 _ ⟨(k+1,v+1),by simp only;omega,by simp only;omega⟩ (aT 1 (by simp[hps])) (by simp only;omega)
 .have htk:l.take k=l:=cX (by omega);rw[htk];have W:=hk1;refine wl ?_;exact aF results19
theorem MV[aB prog](l:List tT)(hl:l.length<=1048576):Ok prog 25 [.sl .view 4 (l.map jL)] (.sl .own 2 ((CG (l.map (·.to))).map aH)):=by
 have cS:=ZM (l.map (·.to)) (by rw[mL];omega);rw[<-aIs]at cS;refine bM aG func25 ntmps25 ?_;refine gV ?_;refine aM (ι:={q:Nat×Nat // q.1<=l.length/\1<=q.2}) (λt o i=>⟨bC t [(3,.obj 0 i.1.2),(9,.int .i64 i.1.1),(4,.undef)],o.take 0++[⟨true,false,2,i.1.2,(l.take i.1.1).map eTo⟩]⟩)
  (λi=>l.length-i.1.1) ⟨(0,1),by simp,by first|(simp;done)|(simp only;omega)⟩ aK ?_
 rintro⟨⟨k,v⟩,hk,hv⟩ K1 hK1;simp only at hk hv;simp only[bC,cW,cU,eL,fW,eA,eM]at hK1⊢;have hk1:=oQ (k:=k);by_cases hlt:k<l.length
 .have hg:=aE hlt;have hps:=Au eTo l k hlt;simp only[eTo,aH]at hps;have IQ:((l.take k).map eTo).length=k:=by simp;omega
  generalize (l.take k).map eTo=g at*;have W:=aA hk1 (aA hg (aA hlt IQ));refine wl ?_;all_goals refine hK1 _ ⟨(k+1,v+1),by simp only;omega,by simp only;omega⟩ (aT 1 (by simp[hps])) (by simp only;omega)
 .have htk:l.take k=l:=cX (by omega);rw[htk];have W:=hk1;refine wl ?_;exact aF results25
theorem OQ[aB prog][dM prog][bQ prog][oO prog](n:kU)(a:aD)(hs:kV n+aQ a<=1048576):Ok prog 18 [.agg (nA .view n),.agg (aH a)] (.gM [.agg (nA .own (iD n a).1.1),.agg (aJ .own (iD n a).1.2),.bool (iD n a).2]):=by
 have hn:=Ri n (by omega);have hah:a.host.length<=aQ a:=by simp only[aQ];omega
 have c1:=JF n a.host a hn (by omega) (by omega);have hx:=AA hn a.host a;have KW:=KR n a hs;unfold iD;have hst:BO a (eG n a.host a)=advance (lH (dL (dQ a (eG n a.host a)).1 (eG n a.host a).body)):=rfl;generalize eG n a.host a=x at*;have c2:=(TB a x (by omega) (by omega)).EY (r':= .gM [.agg (aJ .view (dQ a x).1),.bool (dQ a x).2]) (by simp[rt,xO]);obtain⟨z1,z2,z3⟩:=UM a x (by omega) hx;have hbe:=UN a x (by omega) hx;have c3:=(MR (dQ a x).1 x.body (by omega) (by simp only[bG]at hx;omega)).EY (r':= .agg (aJ .view (dL (dQ a x).1 x.body))) (by simp[rt]);have c4:=(UL (dL (dQ a x).1 x.body) (by omega)).EY (r':= .agg (aJ .view (lH (dL (dQ a x).1 x.body)))) (by simp[rt]);cases nU:(dQ a x).2
 .rw [eK rfl];rw[nU]at c2;generalize (dQ a x).1=p0 at*;generalize iM n a.host a=m at*;clear c3 c4 KW hbe;simp only[nA,aH,aJ,bF]at c1 c2⊢;refine xZ aG func18 ntmps18 ?_;refine gV ?_;all_goals try(first|(refine⟨.inr rfl,.inl ?_⟩;simp[aP,results18,qR,oV];done)|(refine⟨.inr rfl,.inr (dN ?_)⟩;simp[AS.yO,AS.wY,AS.rv,results18,qR,oV];done)|(refine⟨.inr rfl,.inr (Eh ?_)⟩;simp[AS.rvC,AS.yO,AS.wY,AS.rv,results18,qR,oV];done)|(refine⟨.inr rfl,.inl ?_⟩;simp[aP,results18,qR,oV]))
 .rw [cY (by simp)];rw[nU]at c2;have KW:=KW nU;have c5:=Gb (lH (dL (dQ a x).1 x.body)) (hbe nU) (by omega) (by omega) (by decide) (by decide);rw[hst]at KW⊢;generalize advance (lH (dL (dQ a x).1 x.body))=q0 at*;generalize lH (dL (dQ a x).1 x.body)=p2 at*;generalize dL (dQ a x).1 x.body=p1 at*;generalize (dQ a x).1=p0 at*;generalize iM n a.host a=m at*;clear hbe hst z1 z2 z3 hx nU;simp only[nA,aH,aJ,bF]at c1 c2 c3 c4 c5⊢;refine xZ aG func18 ntmps18 ?_;refine gV ?_;obtain⟨r,hr⟩:∃r,r=qJ 200 a.host m q0:=⟨_,rfl⟩;rw[<-hr];refine aM (ι:={x:Nat×kU×aI // x.1<=200/\JC (2+x.1) a.host x.2.1 x.2.2/\qJ (200-x.1) a.host x.2.1 x.2.2=r}) (λt o i=>⟨bC t [(11,.int .i64 i.1.1),(12,.undef),(13,.undef),(14,.undef),(15,.undef),(20,.undef),(21,.undef),(38,.undef)],o.take 4++xk i.1.2.1++[⟨true,true,4,0,[xm 4 i.1.2.1]⟩]++(o.drop 8).take 1++[⟨true,true,22,0,[zK 10 i.1.2.2]⟩]++zJ i.1.2.2⟩)
   (λi=>200-i.1.1) ⟨(0,m,q0),by simp,KW,hr.symm⟩ (aK (by simp[zJ,zK,xk,xm]) (by simp)) ?_
  rintro⟨⟨k,n1,p1⟩,hk,nU,rO⟩ K1 hK1;simp only at hk nU rO;clear KW hr c1 c2 c3 c4 c5 hn hs;have hk1:=oQ (k:=k);by_cases hlt:k<200
  .have hki:(k:Int)<200:=by omega
   obtain⟨hz,hnz⟩:=nU.sz (by omega);have hsl:=nU.on.sl;have hmz:=nU.on.sz.2;have c6:=(OE p1 (by omega) (by simp only[bP]at hmz;omega)).EY (r':= .sl .view 5 ((rD p1).map dD)) (by simp[rt]);have hK2:=hK1;simp only[bC,cW,cU,eL,fW,pL,AW,eA,eM,zJ,zK,xk,xm]at hK1⊢;cases RO:rD p1 with
   |nil=>
    have hge:(n1,p1)=r:=by rw[<-rO,show 200-k=(200-(k+1))+1 by omega,qJ,RO]
    clear hK2 hK1 nU rO;subst hge;rw[RO]at c6;simp only[aJ]at c6⊢;have W:=hki;refine wl ?_;all_goals try(first|(refine⟨.inr rfl,.inl ?_⟩;simp[aP,results18];done)|(refine⟨.inr rfl,.inr (dN ?_)⟩;simp[AS.yO,AS.wY,AS.rv,results18];done)|(refine⟨.inr rfl,.inr (Eh ?_)⟩;simp[AS.rvC,AS.yO,AS.wY,AS.rv,results18];done)|(refine⟨.inr rfl,.inl ?_⟩;simp[aP,results18]))
   |cons r1 rs=>
    have hnx:=OI (by omega) nU RO;have hra:=OH (p:=p1) (r:=r1) (by rw[RO];simp);have c7:=JF n1 a.host r1.to nU.net (by omega) (by have:=nU.hl;omega);have hxr:=AA nU.net a.host r1.to;have c8:=Nf p1 r1.to (eG n1 a.host r1.to) nU.on (by omega) (by omega) (by decide) (by decide) (by omega) hxr;have hgn:qJ (200-(k+1)) a.host (iM n1 a.host r1.to) (mW p1 r1.to (eG n1 a.host r1.to))=r:=by rw[<-rO,show 200-k=(200-(k+1))+1 by omega,qJ,RO]
    rw[RO]at c6;generalize eG n1 a.host r1.to=y at*;generalize iM n1 a.host r1.to=n2 at*;generalize mW p1 r1.to y=p2 at*;clear hz hnz hsl hmz hra RO hxr;simp only[aJ,nA,aH,bF]at c6 c7 c8;have W:=aA hki hk1;refine wl ?_;refine hK2 _ ⟨(k+1,n2,p2),by simp only;omega,hnx,hgn⟩ ?_ (by simp only;omega);exact aI1 (m:=n2) (q:=p2) rfl (by simp[zJ,zK,xk,xm]) (by simp[zX]) (by simp[zX]) (by simp) (by simp) (by simp[dB])
  .have hki:¬(k:Int)<200:=by omega
   obtain rfl:k=200:=by omega
   have hge:(n1,p1)=r:=by simpa [qJ]using rO
   simp only[bC,cW,cU,eL,fW,pL,AW,eA,eM,zJ,zK,xk,xm]at hK1⊢;clear hK1 nU rO;subst hge;simp only[aJ,nA];refine gV ?_;all_goals try(first|(refine⟨.inr rfl,.inl ?_⟩;simp[aP,results18];done)|(refine⟨.inr rfl,.inr (dN ?_)⟩;simp[AS.yO,AS.wY,AS.rv,results18];done)|(refine⟨.inr rfl,.inr (Eh ?_)⟩;simp[AS.rvC,AS.yO,AS.wY,AS.rv,results18];done)|(refine⟨.inr rfl,.inl ?_⟩;simp[aP,results18]))
theorem Nj[aB prog][dM prog][bQ prog][oO prog](n:kU)(a:aD)(hs:kV n+aQ a<=1048576):Ok prog 6 [.agg (nA .view n),.agg (aH a)] (.sl .own 2 ((uJ n a).map aH)):=by
 obtain⟨t,ht,htl⟩:=UT n a;have VH:n.log.length<=1048576:=by simp only[kV,bP]at hs;omega
 have c1:=(OQ n a hs).EY (r':= .gM [.agg (nA .view (iD n a).1.1),.agg (aJ .view (iD n a).1.2),.bool (iD n a).2]) (by simp[rt,xO]);unfold uJ;generalize iD n a=g at*;obtain⟨⟨⟨srv,cache,log,now⟩,p⟩,b⟩:=g;simp only at ht;have hd:log.drop n.log.length=t:=by rw[ht];simp
 have hle:n.log.length<=log.length:=by rw[ht];simp
 clear ht;have hdm:List.drop n.log.length (List.take log.length (log.map jL))=t.map jL:=by rw[show List.take log.length (log.map jL)=log.map jL from cX (by simp),<-map_drop,hd]
 simp only[hd];have c2:=MU t (by omega);have c3:=aGz (n.log.length:Int) (log.length:Int);rw[show min (n.log.length:Int) (log.length:Int)=(n.log.length:Int)by omega]at c3;have V7:(n.log.length:Int)<=(log.length:Int):=by omega
 simp only[nA,aH,aJ]at c1 c2⊢;refine bM aG func6 ntmps6 ?_;have W:=aA hle (aA V7 hdm);refine wl ?_;exact aF results6
theorem Nk[aB prog][dM prog][bQ prog][oO prog](n:kU)(a:aD)(hs:kV n+aQ a<=1048576):Ok prog 9 [.agg (nA .view n),.agg (aH a)] (.sl .own 2 ((uJ n a).map aH)):=by
 obtain⟨t,ht,htl⟩:=UT n a;have VH:n.log.length<=1048576:=by simp only[kV,bP]at hs;omega
 have c1:=(OU n a hs).EY (r':= .gM [.agg (nA .view (iD n a).1.1),.agg (aJ .view (iD n a).1.2),.bool (iD n a).2]) (by simp[rt,xO]);unfold uJ;generalize iD n a=g at*;obtain⟨⟨⟨srv,cache,log,now⟩,p⟩,b⟩:=g;simp only at ht;have hd:log.drop n.log.length=t:=by rw[ht];simp
 have hle:n.log.length<=log.length:=by rw[ht];simp
 clear ht;have hdm:List.drop n.log.length (List.take log.length (log.map jL))=t.map jL:=by rw[show List.take log.length (log.map jL)=log.map jL from cX (by simp),<-map_drop,hd]
 simp only[hd];have c2:=MV t (by omega);have V7:(n.log.length:Int)<=(log.length:Int):=by omega
 simp only[nA,aH,aJ]at c1 c2⊢;refine bM aG func9 ntmps9 ?_;have W:=aA hle (aA V7 hdm);refine wl ?_;exact aF results9
end Go.Proofs.YthddijamfbfibaaGreatDoor
