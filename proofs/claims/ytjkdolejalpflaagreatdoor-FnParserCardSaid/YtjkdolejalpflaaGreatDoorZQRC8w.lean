/- Proved here: steps towards the statement of this claim. No condition. -/
import Derived.Test.YtjkdolejalpflaaGreatDoorZQRC7
set_option linter.all false
set_option maxRecDepth 8000
set_option maxHeartbeats 8000000
namespace Go.Proofs.YtjkdolejalpflaaGreatDoor
open Go.Aw Proofs.Tryz List IntKind
def Ki(q:aW):List aD:=[⟨true,false,1,1,q.bC.iC.map dR⟩,⟨true,false,1,1,q.bC.jY.map dR⟩,⟨true,false,1,1,q.bC.jZ.map dR⟩,⟨true,false,4,1,q.queue.map (bE .own)⟩,⟨true,false,4,1,q.builder.nodes.map (dK .own)⟩,⟨true,false,1,1,q.builder.opens.map nP⟩,⟨true,false,8,1,q.aG.map pG⟩,⟨true,false,5,1,q.bT.map dN⟩,⟨true,false,2,1,q.entries.map dI⟩,⟨true,false,2,1,q.Dl.map dI⟩,⟨true,false,1,1,q.log.map dR⟩]
def Ja(b:Nat)(q:aW):List AV:=[.str q.addr.host,.str q.addr.path,.bool q.bC.isSet,.obj b 1,.obj (b+1) 1,.obj (b+2) 1,.str q.bC.pX,.str q.tok.rest,.obj (b+3) 1,.bool q.ended,.obj (b+4) 1,.obj (b+5) 1,.obj (b+6) 1,.obj (b+7) 1,.obj (b+8) 1,.int .i64 q.block,.int .i64 q.inline,.int .i64 q.deferred,.int .i64 q.lG,.obj (b+9) 1,.obj (b+10) 1,.bool q.mU]
def Hw:List (Nat×Nat):=[(1,17),(2,18),(3,19),(4,20),(5,21),(6,22),(7,23),(8,24),(9,25),(10,26),(11,27)]
theorem ow{t t':List AV}{o o':List aD}{n1 v1 n2 v2 n3 v3 n4 v4 n5 v5 n6 v6 n7 v7 n8 v8 n9 v9 n10 v10 n11 v11:Nat}{e1 e2 e3 e4 e5 e6 e7 e8 e9 e10 e11:List (List AV)}{o12 o13 o14 o15 o16:aD}{q:aW}(ho:o=[⟨true,true,22,2,[Ja 17 q]⟩,⟨false,false,n1,v1,e1⟩,⟨false,false,n2,v2,e2⟩,⟨false,false,n3,v3,e3⟩,⟨false,false,n4,v4,e4⟩,⟨false,false,n5,v5,e5⟩,⟨false,false,n6,v6,e6⟩,⟨false,false,n7,v7,e7⟩,⟨false,false,n8,v8,e8⟩,⟨false,false,n9,v9,e9⟩,⟨false,false,n10,v10,e10⟩,⟨false,false,n11,v11,e11⟩,o12,o13,o14,o15,o16]++Ki q)
  (ho':o'=[⟨true,true,22,2,[Ja 1 q]⟩]++Ki q++[o12,o13,o14,o15,o16]) (ht:∀z∈Hw,wk (xX z.1 z.2 t') t') (hf:∀z∈Hw,o12.vM z.1 z.2=o12/\o13.vM z.1 z.2=o13/\o14.vM z.1 z.2=o14/\o15.vM z.1 z.2=o15/\o16.vM z.1 z.2=o16) (hw:wk t t') (hc:jT 17 t'=true) (hc0:fP 17 [o12,o13,o14,o15,o16]=true):kR ⟨t,o⟩ ⟨t',o'⟩:=by
 subst ho;subst ho';have e:=λi j (h:(i,j)∈Hw)=>hf (i,j) h
 have h:=λi j (h:(i,j)∈Hw)=>ht (i,j) h
 simp only[Ki,Ja,cM,cW];refine(PU hw).trans ?_;refine(fE 1 17 rfl rfl ⟨rfl,rfl⟩ (by simp[(e 1 17 (by decide))];rfl) (h 1 17 (by decide))).trans ?_;refine(fE 2 18 rfl rfl ⟨rfl,rfl⟩ (by simp[(e 2 18 (by decide))];rfl) (h 2 18 (by decide))).trans ?_;refine(fE 3 19 rfl rfl ⟨rfl,rfl⟩ (by simp[(e 3 19 (by decide))];rfl) (h 3 19 (by decide))).trans ?_;refine(fE 4 20 rfl rfl ⟨rfl,rfl⟩ (by simp[(e 4 20 (by decide))];rfl) (h 4 20 (by decide))).trans ?_;refine(fE 5 21 rfl rfl ⟨rfl,rfl⟩ (by simp[(e 5 21 (by decide))];rfl) (h 5 21 (by decide))).trans ?_;refine(fE 6 22 rfl rfl ⟨rfl,rfl⟩ (by simp[(e 6 22 (by decide))];rfl) (h 6 22 (by decide))).trans ?_;refine(fE 7 23 rfl rfl ⟨rfl,rfl⟩ (by simp[(e 7 23 (by decide))];rfl) (h 7 23 (by decide))).trans ?_;refine(fE 8 24 rfl rfl ⟨rfl,rfl⟩ (by simp[(e 8 24 (by decide))];rfl) (h 8 24 (by decide))).trans ?_;refine(fE 9 25 rfl rfl ⟨rfl,rfl⟩ (by simp[(e 9 25 (by decide))];rfl) (h 9 25 (by decide))).trans ?_;refine(fE 10 26 rfl rfl ⟨rfl,rfl⟩ (by simp[(e 10 26 (by decide))];rfl) (h 10 26 (by decide))).trans ?_;refine(fE 11 27 rfl rfl ⟨rfl,rfl⟩ (by simp[(e 11 27 (by decide))];rfl) (h 11 27 (by decide))).trans ?_;refine aS 17 (by simp) (uN _) hc ?_;simpa [fP,jT,closed]using hc0
theorem I8{t t':List AV}{o o' o1 o2:List aD}{a b c d e:aD}(h5:o[5]? =some a)(h14:o[14]? =some b)(hb:a.box=false/\b.box=false)(e1:((o.set 5 b).set 14 a).map (aD.vM 5 14)=o1)(h6:o1[6]? =some c)(h15:o1[15]? =some d)(hd:c.box=false/\d.box=false)(e2:((o1.set 6 d).set 15 c).map (aD.vM 6 15)=o2)(I9:o2[12]? =some e)(e3:o2.set 12 ⟨false,false,0,e.ver,[]⟩=o')(w1:wk (xX 5 14 t) t')(w2:wk (xX 6 15 t') t'):kR ⟨t,o⟩ ⟨t',o'⟩:=
 (fE 5 14 h5 h14 hb e1 w1).trans ((fE 6 15 h6 h15 hd e2 w2).trans (Yv 12 I9 e3 (uN _)))
def iR(l ss:List aX):List aX:=ss.foldl iE l
theorem Jb(l ss:List aX)(k:Nat)(h:k<ss.length):iR l (ss.take (k+1))=iE (iR l (ss.take k)) ss[k]:=by unfold iR;rw[eN h,foldl_append];rfl
theorem Mi(l:List aX):∀ss:List aX,(iR l ss).length<=l.length+ss.length:=by
 intro ss;induction ss generalizing l with
 |nil=>simp[iR]
 |cons s ss ih=>
  have h1:(iE l s).length<=l.length+1:=by unfold iE;split<;>simp
  have h2:=ih (iE l s);have e:iR l (s::ss)=iR (iE l s) ss:=rfl;rw[e];simp only[eE];omega
def lM(p:aW)(l:List iA)(w:Bool):aW:=
 {p with builder:=(cO p.builder (bO p) l).1,log:=iR p.log (cO p.builder (bO p) l).2.2,queue:=if w=true then pI (cO p.builder (bO p) l).2.1++p.queue else p.queue}
theorem Pj{α:Type}{f:α->Option Int}{l:List α}{k:Nat}{v:Int}(h:look f l k=some v):∃x∈l,f x=some v:=by unfold look at h;obtain⟨x,hx,hv⟩:=exists_of_findSome?_eq_some h;exact⟨x,AE (mem_reverse.1 hx),hv⟩
theorem VO{q:aX}{r:Bt}(h:qL q=some r):1<=r.color/\r.color<=999:=by
 unfold qL at h;split at h
 .split at h
  .rename_i hc;obtain rfl:=cD h;exact hc.2
  .cases h
 .cases h
theorem uQ(p:aW)(n:aX):0<=aZ (bO p) n/\aZ (bO p) n<=999:=by
 unfold aZ;cases h:look (uO n) (bO p) (bO p).length with
 |none=>simp
 |some v=>
  obtain⟨s,hs,hv⟩:=Pj h;unfold uO at hv;obtain⟨r,hr,Rp⟩:=Pj hv;unfold DL at Rp;split at Rp
  .obtain rfl:=cD Rp;unfold bO kU at hs;obtain⟨y,_,rfl⟩:=mem_map.1 hs;have h1:=AE hr;obtain⟨q,_,hq⟩:=mem_filterMap.1 h1;have:=VO hq;simp only[pD];omega
  .cases Rp
theorem DT(p:aW):(bO p).length<=p.aG.length/\∀x∈bO p,x.rules.length<=8:=by refine⟨Bb _,?_⟩;intro x hx;unfold bO kU at hx;obtain⟨y,_,rfl⟩:=mem_map.1 hx;exact TB (dP 59 y.body)
theorem oz{s:aX}(h:bP s=true):s.length<=8:=by simp only[bP,eC,gS]at h;omega
theorem xG{s:aX}{op:Nat}{v:iA×Bool}(h:iY s op=some v)(hb:v.2=true):v.1.text.length<=60:=by
 unfold iY at h;split at h
 .obtain rfl:=cD h;simp only at hb⊢;unfold fF at hb;split at hb
  .simpa using hb
  .have:=oz hb;omega
 .cases h
theorem QA{α:Type}{a b:Option α}{v:α}(h:a.or b=some v):a=some v\/b=some v:=by
 cases a with
 |none=>exact .inr (by simpa using h)
 |some x=>exact .inl (by simpa using h)
theorem NB(p:aX)(h:(bL p).2=true):(bL p).1.text.length<=60:=by
 unfold bL at h⊢;cases hv:((((iY p 1).or (iY p 2)).or (iY p 3)).or (iY p 4)).or (iY p 5)with
 |none=>simp
 |some v=>
  rw[hv]at h;simp only[pD]at h⊢;rcases QA hv with hv|hv
  .rcases QA hv with hv|hv
   .rcases QA hv with hv|hv
    .rcases QA hv with hv|hv
     .exact xG hv h
     .exact xG hv h
    .exact xG hv h
   .exact xG hv h
  .exact xG hv h
theorem vB(s:aX):(fZ s).1.length<=6/\∀x∈(fZ s).1,x.text.length<=60:=by
 unfold fZ;split
 .simp
 .split
  .rename_i h;refine⟨by simpa using h.2,?_⟩;intro x hx;obtain⟨p,hp,rfl⟩:=mem_map.1 hx;exact NB p (gR.1 h.1 p hp)
  .simp
theorem JD[aB prog][eD prog][eZ prog][oO prog](p:aW)(l:List iA)(w:Bool)(hs:aK p<=536870912)(h6:l.length<=6)(hx:∀x∈l,x.text.length<=60):
  UD prog 40 [.sW (aL .own p) (aL .own (lM p l w)),.view (.sl .view 2 (l.map jO)),.view (.bool w)] (.fH []):=by
 have hsl:dL lN p.aG<=1073741824:=by simp only[aK,dL]at*;omega
 have hsb:aF p.builder<=536870912:=by simp only[aK]at hs;omega
 have Xq:p.log.length<=536870912:=by simp only[aK,dL]at hs;omega
 have hqu:p.queue.length<=536870912:=by simp only[aK,dL]at hs;omega
 have c1:=Jw p hsl;obtain⟨hb1,hb2⟩:=DT p;have aIo:(bO p).length<=536870912:=by simp only[aK,dL]at hs;omega
 have c2:=Hq p.builder (bO p) l (by omega) h6 (λx hm=>by have:=hx x hm;omega) (by omega) (λx hm=>by have:=hb2 x hm;omega) (uQ p);obtain⟨z1,z2,z3,z4⟩:=xE 60 p.builder (bO p) l (by omega) h6 hx (uQ p) (by omega) l.length (cX _);have zJ:nV p.builder (bO p) l l.length=cO p.builder (bO p) l:=by simp[nV]
 rw[zJ]at z1 z2 z3 z4;have c3:=JB (cO p.builder (bO p) l).2.1 (by omega);obtain⟨y1,y2⟩:=yM (cO p.builder (bO p) l).2.1;unfold lM;clear hb2 hx zJ;generalize bO p=ss at*;generalize cO p.builder ss l=g at*;obtain⟨b,wr,lg⟩:=g;simp only at c2 c3 z1 z2 z3 z4 y1 y2⊢;generalize pI wr=tk at*;simp only[aL,aH]at c1 c2;refine rZ aJ func40 ntmps40 ?_;refine nG ?_;obtain⟨Q,hQ⟩:∃Q:Nat->aW,∀k,Q k={p with builder:=b,log:=iR p.log (lg.take k)}:=⟨_,λ_=>rfl⟩;have hQ0:Q 0={p with builder:=b}:=by rw[hQ];rfl
 have hQn:Q lg.length={p with builder:=b,log:=iR p.log lg}:=by rw[hQ,Cp]
 have hQl:∀k,k<=lg.length->(Q k).log.length<=1099511627776:=λk hk=>by rw[hQ];have:=Mi p.log (lg.take k);simp only[pN]at this⊢;omega
 have hQs:∀k (h:k<lg.length),Q (k+1)={Q k with log:=iE (Q k).log lg[k]}:=λk h=>by rw[hQ,hQ,Jb _ _ _ h]
 refine aY (ι:={k:Nat // k<=lg.length}) (λt o i=>⟨bN t [(31,.int .i64 i.1),(10,.undef),(11,.undef),(15,.undef),(18,.undef),(21,.undef),(22,.undef),(26,.undef)],[⟨true,true,22,2,[Ja 1 (Q i.1)]⟩]++Ki (Q i.1)++[⟨false,false,0,1,[]⟩,⟨true,false,1,1,ss.map (cZ .own)⟩,⟨true,false,4,1,p.builder.nodes.map (dK .own)⟩,⟨true,false,1,1,p.builder.opens.map nP⟩,⟨true,false,1,1,lg.map dR⟩]⟩)
  (λi=>lg.length-i.1) ⟨0,by simp⟩ ?_ ?_
 .simp only[hQ0,Ja,Ki,bN,cH,cG,cM,cW];exact I8 rfl rfl ⟨rfl,rfl⟩ (by simp;rfl) rfl rfl ⟨rfl,rfl⟩ (by simp;rfl) rfl (by simp) (by simp) (by simp)
 rintro⟨k,hk⟩ K1 hK1;have hk1:=vJ (k:=k);by_cases hlt:k<lg.length
 .have hg:=aE hlt;have hnext:=hQs k hlt;have c4:=Mh (Q k) lg[k] (hQl k hk);rw[<-hnext]at c4;have hK2:=hK1;clear hQ hQ0 hQn hQl hQs hnext;generalize hq':Q (k+1)=q' at*;generalize hq:Q k=q at*;simp only[bN,cH,cG,cM,cW,Ki,Ja]at hK1⊢;simp only[aL]at c4;have W:=aA hk1 (aA hg hlt);repeat' first|refine wg ?_|(refine nx ?_;refine sg (hc:=c4) (h:=?_))|(refine sq ?_ ?_<;>intro hc<;>try exact hc.elim)|fail
  refine hK2 _ ⟨k+1,by omega⟩ ?_ (by simp only;omega);exact ow (q:=q') rfl (by simp[Ki,Ja,hq']) (by simp[Hw]) (by simp[Hw]) (by simp) (by simp) (by simp[fP])
 .have hkl:k=lg.length:=by omega
  subst hkl;simp only[hQn,bN,cH,cG,cM,cW,Ki,Ja]at hK1⊢;clear hQ hQ0 hQn hQl hQs hK1;cases w
  .have W:=hk1;refine wl ?_;all_goals (try exact mJ (by simp[gY,dU,dQ,rowOf,results40];done))
  .rw [eA rfl];have O1:(tk.length+p.queue.length)*64<=140737488355328:=by omega
   have W:=aA hk1 O1;refine wl ?_;all_goals try(refine⟨by first|exact .inr rfl|exact .inl rfl,?_⟩;simp[gY,dU,dQ,rowOf,results40])
   all_goals (rw[<-oT];exact nD _)
def oW(s:mG):Bool:= !(decide (s.mode=2)&& !s.done)
theorem ES[aB prog](p:aW)(hl:p.aG.length<=1099511627776):Ok prog 18 [.agg (aL .view p)] (.bool (p.aG.all oW)):=by
 refine dA aJ func18 ntmps18 ?_;refine nG ?_;refine aY (ι:={k:Nat // k<=p.aG.length/\∀x∈p.aG.take k,oW x=true}) (λt o i=>⟨bN t [(3,.int .i64 i.1)],o⟩)
  (λi=>p.aG.length-i.1) ⟨0,by simp⟩ aC ?_
 rintro⟨k,hk,hpre⟩ K1 hK1;simp only[bN,cH,cG]at hK1⊢;have hk1:=vJ (k:=k);by_cases hlt:k<p.aG.length
 .have hg:=aE hlt;have W:=aA hk1 (aA hg hlt);repeat' first|refine wg ?_|(refine sq ?_ ?_<;>intro hc<;>try exact hc.elim)|fail
  all_goals first
   |(refine hK1 _ ⟨k+1,by omega,gL hlt hpre (by simp_all[oW])⟩ aC (by simp only;omega);done)
   |skip
  all_goals try(refine aP ?_;simp[aT,results18])
  exact⟨_,mL hlt,by simp_all[oW]⟩
 .have W:=hk1;refine wl ?_;all_goals try(refine aP ?_;simp[aT,results18])
  exact nS (by omega) hpre
theorem xL[aB prog](p:aW)(hl:p.aG.length<=1099511627776):Ok prog 9 [.agg (aL .view p)] (.bool (p.aG.all oW)):=by
 refine dA aJ func9 ntmps9 ?_;refine nG ?_;refine aY (ι:={k:Nat // k<=p.aG.length/\∀x∈p.aG.take k,oW x=true}) (λt o i=>⟨bN t [(8,.int .i64 i.1)],o⟩)
  (λi=>p.aG.length-i.1) ⟨0,by simp⟩ aC ?_
 rintro⟨k,hk,hpre⟩ K1 hK1;simp only[bN,cH,cG]at hK1⊢;have hk1:=vJ (k:=k);by_cases hlt:k<p.aG.length
 .have hg:=aE hlt;have W:=aA hk1 (aA hg hlt);repeat' first|refine wg ?_|(refine sq ?_ ?_<;>intro hc<;>try exact hc.elim)|fail
  all_goals first
   |(refine hK1 _ ⟨k+1,by omega,gL hlt hpre (by simp_all[oW])⟩ (aS 1 rfl (by simp) (by simp) (by simp)) (by simp only;omega);done)
   |skip
  all_goals try(refine aP ?_;simp[aT,results9])
  exact⟨_,mL hlt,by simp_all[oW]⟩
 .have W:=hk1;refine wl ?_;all_goals try(refine aP ?_;simp[aT,results9])
  exact nS (by omega) hpre
def Bj(n:Int)(s:aX)(x:gQ):aX:=if x.parent=n/\x.name=[]then s++x.text else s
def xM(b:aV)(n:Int):aX:=b.nodes.foldl (Bj n) []
def Gi(b:aV)(n:Int)(k:Nat):aX:=(b.nodes.take k).foldl (Bj n) []
theorem Pn(b:aV)(n:Int)(k:Nat)(h:k<b.nodes.length):Gi b n (k+1)=Bj n (Gi b n k) b.nodes[k]:=by unfold Gi;rw[eN h,foldl_append];rfl
theorem VV(n:Int)(s:aX)(x:gQ):(Bj n s x).length<=s.length+lJ x:=by
 unfold Bj lJ;split
 .simp only[eJ];omega
 .omega
theorem qd(n:Int):∀(l:List gQ) (s:aX),(l.foldl (Bj n) s).length<=s.length+bM lJ l
 |[],s=>by simp[bM]
 |x::l,s=>by have h1:=qd n l (Bj n s x);have h2:=VV n s x;simp only[foldl_cons,bM];omega
theorem Mo{α:Type}(f:α->Nat):∀(l:List α) (k:Nat),bM f (l.take k)<=bM f l
 |[],k=>by simp[bM]
 |x::l,0=>by simp[bM]
 |x::l,k+1=>by have:=Mo f l k;simp only[kO,bM];omega
theorem Mq(b:aV)(n:Int)(k:Nat):(Gi b n k).length<=aF b:=by have h1:=qd n (b.nodes.take k) [];have h2:=Mo lJ b.nodes k;unfold Gi;simp only[aF,dL,eR]at*;omega
theorem Mr(b:aV)(n:Int):(xM b n).length<=aF b:=by
 have:=Mq b n b.nodes.length;unfold Gi at this
 rwa[Cp]at this
theorem NG[aB prog](b:aV)(n:Int)(hs:aF b<=1099511627776):Ok prog 17 [.agg (aH .view b),.int .i64 n] (.str (xM b n)):=by
 have hN:b.nodes.length<=1099511627776:=by simp only[aF,dL]at hs;omega
 have zJ:Gi b n b.nodes.length=xM b n:=by unfold Gi xM;rw[Cp]
 rw[<-zJ];have hz:Gi b n 0=[]:=rfl;have VQ:=λk=>Mq b n k
 have hsu:=Pn b n;generalize Gi b n=T at*;clear zJ;refine dA aJ func17 ntmps17 ?_;refine nG ?_;refine aY (ι:={k:Nat // k<=b.nodes.length}) (λt o i=>⟨bN t [(11,.int .i64 i.1),(5,.str (T i.1))],o⟩)
  (λi=>b.nodes.length-i.1) ⟨0,by simp⟩ (aC (by simp) (by simp[hz])) ?_
 rintro⟨k,hk⟩ K1 hK1;simp only[bN,cH,cG]at hK1⊢;have hk1:=vJ (k:=k);by_cases hlt:k<b.nodes.length
 .have hg:=aE hlt;have hnext:=hsu k hlt;have hl1:=VQ (k+1);have hl0:=VQ k;rw[hnext]at hl1;unfold Bj at hnext hl1;clear hsu VQ hz;generalize hT:T k=s at*;by_cases hp:b.nodes[k].parent=n
  .by_cases hn:b.nodes[k].name=[]
   .rw [eA ⟨hp,hn⟩]at hnext hl1;rw[eJ]at hl1;have aBp:s.length+b.nodes[k].text.length<=1099511627776:=by omega
    have W:=aA hk1 (aA hg (aA hlt (aA hp (aA hn aBp))));refine wl ?_;all_goals refine hK1 _ ⟨k+1,by omega⟩ (aS 1 rfl (by simp[hnext]) (by simp) (by simp)) (by simp only;omega)
   .rw [cU (by simp[hn])]at hnext hl1;have hne:b.nodes[k].name.isEmpty=false:=by cases hc:b.nodes[k].name with|nil=>exact absurd hc hn|cons _ _=>rfl
    have W:=aA hk1 (aA hg (aA hlt (aA hp (aA hn hne))));refine wl ?_;all_goals refine hK1 _ ⟨k+1,by omega⟩ (aS 1 rfl (by simp[hnext]) (by simp) (by simp)) (by simp only;omega)
  .rw [cU (by simp[hp])]at hnext hl1;have W:=aA hk1 (aA hg (aA hlt hp));refine wl ?_;all_goals refine hK1 _ ⟨k+1,by omega⟩ (aS 1 rfl (by simp[hnext]) (by simp) (by simp)) (by simp only;omega)
 .have hkl:k=b.nodes.length:=by omega
  subst hkl;have W:=hk1;refine wl ?_;exact aO results17
theorem NH[aB prog](b:aV)(n:Int)(hs:aF b<=1099511627776):Ok prog 20 [.agg (aH .view b),.int .i64 n] (.str (xM b n)):=by
 have hN:b.nodes.length<=1099511627776:=by simp only[aF,dL]at hs;omega
 have zJ:Gi b n b.nodes.length=xM b n:=by unfold Gi xM;rw[Cp]
 rw[<-zJ];have hz:Gi b n 0=[]:=rfl;have VQ:=λk=>Mq b n k
 have hsu:=Pn b n;generalize Gi b n=T at*;clear zJ;refine dA aJ func20 ntmps20 ?_;refine nG ?_;refine aY (ι:={k:Nat // k<=b.nodes.length}) (λt o i=>⟨bN t [(6,.int .i64 i.1),(5,.str (T i.1))],o⟩)
  (λi=>b.nodes.length-i.1) ⟨0,by simp⟩ (aC (by simp) (by simp[hz])) ?_
 rintro⟨k,hk⟩ K1 hK1;simp only[bN,cH,cG]at hK1⊢;have hk1:=vJ (k:=k);by_cases hlt:k<b.nodes.length
 .have hg:=aE hlt;have hnext:=hsu k hlt;have hl1:=VQ (k+1);have hl0:=VQ k;rw[hnext]at hl1;unfold Bj at hnext hl1;clear hsu VQ hz;generalize hT:T k=s at*;by_cases hp:b.nodes[k].parent=n
  .by_cases hn:b.nodes[k].name=[]
   .rw [eA ⟨hp,hn⟩]at hnext hl1;rw[eJ]at hl1;have aBp:s.length+b.nodes[k].text.length<=1099511627776:=by omega
    have W:=aA hk1 (aA hg (aA hlt (aA hp (aA hn aBp))));refine wl ?_;all_goals refine hK1 _ ⟨k+1,by omega⟩ (aC (by simp) (by simp[hnext])) (by simp only;omega)
   .rw [cU (by simp[hn])]at hnext hl1;have hne:b.nodes[k].name.isEmpty=false:=by cases hc:b.nodes[k].name with|nil=>exact absurd hc hn|cons _ _=>rfl
    have W:=aA hk1 (aA hg (aA hlt (aA hp (aA hn hne))));refine wl ?_;all_goals refine hK1 _ ⟨k+1,by omega⟩ (aC (by simp) (by simp[hnext])) (by simp only;omega)
  .rw [cU (by simp[hp])]at hnext hl1;have W:=aA hk1 (aA hg (aA hlt hp));refine wl ?_;all_goals refine hK1 _ ⟨k+1,by omega⟩ (aC (by simp) (by simp[hnext])) (by simp only;omega)
 .have hkl:k=b.nodes.length:=by omega
  subst hkl;have W:=hk1;refine wl ?_;exact aO results20
theorem aFa(v:Int):(0<=v/\v.tmod 2147483647=v%2147483647)\/(v<0/\∃r,v.tmod 2147483647= -r/\0<=r/\r<2147483647/\(r=0->v%2147483647=0)/\(r≠0->v%2147483647=2147483647-r)):=by
 by_cases h:0<=v
 .exact .inl ⟨h,rS h⟩
 .right;obtain⟨u,hu⟩:∃u:Nat,v= -(u:Int):=⟨v.natAbs,by omega⟩;subst hu;refine⟨by omega,((u%2147483647:Nat):Int),by rw[Int.neg_tmod];rfl,by omega,by omega,by omega,by omega⟩
theorem Wh[aB prog](v:Int)(h:rgI v):Ok prog 211 [.int .i64 v,.int .i64 2147483647] (.int .i64 (v%2147483647)):=by
 have c1:=eX 2147483647 1 1000000000000;rw[show(decide ((1:Int)<=2147483647)&&decide ((2147483647:Int)<=1000000000000))=true by decide]at c1;obtain⟨h1,h2⟩:=h;rcases aFa v with⟨h0,hm⟩|⟨h0,r,hm,hr0,hr1,hz,hnz⟩
 .have Wi:(v%2147483647+2147483647).tmod 2147483647=v%2147483647:=by rw[rS (by omega)];omega
  have hb1:0<=v%2147483647:=by omega
  have hb2:v%2147483647<2147483647:=by omega
  generalize v%2147483647=m at*;refine dA aJ func211 ntmps211 ?_;have W:=aA hm Wi;refine wl ?_;exact aO results211
 .have Wi:(-r+2147483647).tmod 2147483647=v%2147483647:=by
   rw[rS (by omega)];by_cases e:r=0
   .rw [hz e,e];rfl
   .rw [hnz e];omega
  generalize v%2147483647=m at*;refine dA aJ func211 ntmps211 ?_;have W:=aA hm Wi;refine wl ?_;exact aO results211
def vR(acc v:Int):Int:=(acc*1000003+v%2147483647+13)%2147483647
def wF(l:List Int):Int:=l.foldl vR 11
theorem Ub:∀(l:List Int),0<=wF l/\wF l<2147483647:=by
 have:∀(l:List Int) (a:Int),0<=a/\a<2147483647->0<=l.foldl vR a/\l.foldl vR a<2147483647:=by
  intro l;induction l with
  |nil=>intro a h;exact h
  |cons x l ih=>intro a h;exact ih _ (by unfold vR;omega)
 intro l;exact this l 11 (by omega)
theorem Wj(l:List Int)(k:Nat)(h:k<l.length):wF (l.take (k+1))=vR (wF (l.take k)) l[k]:=by unfold wF;rw[eN h,foldl_append];rfl
theorem Uc[aB prog](l:List Int)(hl:l.length<=1099511627776)(hr:∀y∈l,rgI y):Ok prog 198 [.sl .view 1 (l.map nP)] (.int .i64 (wF l)):=by
 refine dA aJ func198 ntmps198 ?_;refine nG ?_;refine aY (ι:={k:Nat // k<=l.length}) (λt o i=>⟨bN t [(4,.int .i64 i.1),(3,.int .i64 (wF (l.take i.1)))],o⟩)
  (λi=>l.length-i.1) ⟨0,by simp⟩ (aC (by simp) (by simp[wF])) ?_
 rintro⟨k,hk⟩ K1 hK1;simp only[bN,cH,cG]at hK1⊢;have hk1:=vJ (k:=k);by_cases hlt:k<l.length
 .have hg:=aE hlt;have hs:=Wj l k hlt;have hb:=Ub (l.take k);have c1:=Wh l[k] (hr _ (mL hlt));have hm:(wF (l.take k)*1000003+l[k]%2147483647+13).tmod 2147483647=wF (l.take (k+1)):=by rw[hs,rS (by omega)];rfl
  have hb1:0<=l[k]%2147483647:=by omega
  have hb2:l[k]%2147483647<2147483647:=by omega
  clear hs;generalize uB:wF (l.take (k+1))=a' at*;generalize wF (l.take k)=a at*;generalize l[k]%2147483647=m at*;have W:=aA hk1 (aA hg (aA hlt hm));refine wl ?_;all_goals exact hK1 _ ⟨k+1,by omega⟩ (aC (by simp) (by simp[uB])) (by simp only;omega)
 .have Dm:l.take k=l:=eL (by omega);rw[Dm];have W:=hk1;refine wl ?_;exact aO results198
def toInts(s:aX):List Int:=PX (λc:UInt8=>(c.toNat:Int)) s
def pQ(s:aX):List Int:=(s.length:Int)::toInts s
theorem NL(s:aX)(k:Nat)(h:k<s.length):(aR s)[k]? =some [.int .u8 s[k].toNat]:=by simp[aR,h]
theorem EW[aB prog](s:aX)(hl:s.length<=1099511627776):Ok prog 199 [.sl .view 1 (aR s)] (.sl .own 1 ((pQ s).map nP)):=by
 have hbl:=lU s;refine dA aJ func199 ntmps199 ?_;have W:=hbl;refine wl ?_;refine aY (ι:={q:Nat×Nat // q.1<=s.length/\1<=q.2}) (λt o i=>⟨bN t [(3,.obj 0 i.1.2),(4,.int .i64 i.1.1)],o.take 0++[⟨true,false,1,i.1.2,((s.length:Int)::toInts (s.take i.1.1)).map nP⟩]⟩)
  (λi=>s.length-i.1.1) ⟨(0,1),by simp,by first|(simp;done)|(simp only;omega)⟩ (aC (by simp[toInts]) (by simp)) ?_
 rintro⟨⟨k,v⟩,hk,hv⟩ K1 hK1;simp only at hk hv;simp only[bN,cH,cG,kO,sC,cM,cW]at hK1⊢;have hk1:=vJ (k:=k);by_cases hlt:k<s.length
 .have hg:=NL s k hlt;have Gv:=Yb (λc:UInt8=>(c.toNat:Int)) s k hlt;have hpl:=SE (λc:UInt8=>(c.toNat:Int)) (s.take k);have htl:(s.take k).length=k:=by simp;omega
  have hu:s[k].toNat<256:=CI s[k];have hlb:k<(aR s).length:=by omega
  simp only[toInts]at hK1⊢;generalize PX (λc:UInt8=>(c.toNat:Int)) (s.take k)=g at*;have W:=aA hk1 (aA hg hbl);have V:=aA hk1 (aA hlt hbl);refine wl ?_;all_goals refine hK1 _ ⟨(k+1,v+1),by simp only;omega,by simp only;omega⟩ (aS 1 (by simp[Gv])) (by simp only;omega)
 .have Dm:s.take k=s:=eL (by omega);rw[Dm];have W:=aA hk1 hbl;refine wl ?_;all_goals try(refine aP ?_;simp[aT,results199,pQ])
end Go.Proofs.YtjkdolejalpflaaGreatDoor
