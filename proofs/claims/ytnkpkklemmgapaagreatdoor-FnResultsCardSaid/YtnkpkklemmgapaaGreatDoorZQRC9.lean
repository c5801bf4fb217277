/- Proved here: steps towards the statement of this claim. No condition. -/
import Derived.Test.YtnkpkklemmgapaaGreatDoorZQZ5
set_option linter.all false
set_option maxRecDepth 8000
set_option maxHeartbeats 8000000
namespace Go.Proofs.YtnkpkklemmgapaaGreatDoor
open Go.Aw Proofs.Tryz List IntKind
theorem UA{α:Type}{f:α->Option Int}{l:List α}{k:Nat}{v:Int}(h:look f l k=some v):∃x∈l,f x=some v:=by unfold look at h;obtain⟨x,hx,hv⟩:=exists_of_findSome?_eq_some h;exact⟨x,pC (mem_reverse.1 hx),hv⟩
theorem jw{q:aU}{r:nZ}(h:rF q=some r):1<=r.color/\r.color<=999:=by
 unfold rF at h;split at h
 .split at h
  .rename_i hc;obtain rfl:=cU h;exact hc.2
  .cases h
 .cases h
theorem vU(p:aC)(n:aU):0<=bG (bF p) n/\bG (bF p) n<=999:=by
 unfold bG;cases h:look (tJ n) (bF p) (bF p).length with
 |none=>simp
 |some v=>
  obtain⟨s,hs,hv⟩:=UA h;unfold tJ at hv;obtain⟨r,hr,Mf⟩:=UA hv;unfold Co at Mf;split at Mf
  .obtain rfl:=cU Mf;unfold bF kQ at hs;obtain⟨y,_,rfl⟩:=qS.1 hs;have h1:=pC hr;obtain⟨q,_,hq⟩:=mem_filterMap.1 h1;have:=jw hq;simp only[pA];omega
  .cases Mf
theorem GZ(p:aC):(bF p).length<=p.aF.length/\∀x∈bF p,x.rules.length<=8:=by refine⟨wK _,?_⟩;intro x hx;unfold bF kQ at hx;obtain⟨y,_,rfl⟩:=qS.1 hx;exact JS (dP 59 y.body)
theorem aDj{s:aU}(h:dJ s=true):s.length<=8:=by simp only[dJ,eI,fX]at h;omega
theorem Am{s:aU}{op:Nat}{v:kZ×Bool}(h:mE s op=some v)(hb:v.2=true):v.1.text.length<=60:=by
 unfold mE at h;split at h
 .obtain rfl:=cU h;simp only at hb⊢;unfold mV at hb;split at hb
  .simpa using hb
  .have:=aDj hb;omega
 .cases h
theorem VI{α:Type}{a b:Option α}{v:α}(h:a.or b=some v):a=some v\/b=some v:=by
 cases a with
 |none=>exact .inr (by simpa using h)
 |some x=>exact .inl (by simpa using h)
theorem Sj(p:aU)(h:(fT p).2=true):(fT p).1.text.length<=60:=by
 unfold fT at h⊢;cases hv:((((mE p 1).or (mE p 2)).or (mE p 3)).or (mE p 4)).or (mE p 5)with
 |none=>simp
 |some v=>
  rw[hv]at h;simp only[pA]at h⊢;rcases VI hv with hv|hv
  .rcases VI hv with hv|hv
   .rcases VI hv with hv|hv
    .rcases VI hv with hv|hv
     .exact Am hv h
     .exact Am hv h
    .exact Am hv h
   .exact Am hv h
  .exact Am hv h
theorem BP(s:aU):(iE s).1.length<=6/\∀x∈(iE s).1,x.text.length<=60:=by
 unfold iE;split
 .simp
 .split
  .rename_i h;refine⟨by simpa using h.2,?_⟩;intro x hx;obtain⟨p,hp,rfl⟩:=qS.1 hx;exact Sj p (fW.1 h.1 p hp)
  .simp
def VJ:aU:=[101,114,114,111,114]
def lU(p:aC)(code:aU)(w:Bool):aC:=
 if (iE code).2=true then lJ p (iE code).1 w else {p with log:=lD p.log VJ}
theorem MM(l:List aU)(h:¬l.length<40):∀ss:List aU,mM l ss=l
 |[]=>rfl
 |s::ss=>by
  show mM (lD l s) ss=l;have:lD l s=l:=by unfold lD;rw[eK h]
  rw[this];exact MM l h ss
theorem Yq(l ss:List aU)(k:Nat)(h:¬(mM l (ss.take k)).length<40):mM l (ss.take k)=mM l ss:=by
 have e:mM l ss=mM (mM l (ss.take k)) (ss.drop k):=by unfold mM;rw[<-CI,mN]
 rw[e,MM _ h]
theorem Ao[aB prog][eO prog][dY prog][pM prog](p:aC)(code:aU)(w:Bool)(hs:aM p<=536870912)(hc:code.length<=1073741824):Ok prog 149 [.agg (aQ .view p),.str code,.bool w] (.agg (aQ .own (lU p code w))):=by
 have c1:=fQ p (by omega);have c2:=Al code hc;have hlg:p.log.length<=536870912:=by simp only[aM,bV]at hs;omega
 obtain⟨b1,b2⟩:=BP code;unfold lU;generalize iE code=g at*;obtain⟨l,ok⟩:=g;simp only at c2 b1 b2⊢;cases ok
 .rw [eK (by simp)];simp only[aQ,VJ]at c1⊢;clear b1 b2;by_cases h:p.log.length<40
  .have hi:(p.log.length:Int)<40:=by omega
   obtain⟨l1,hl1⟩:∃l1,l1=p.log++[[101,114,114,111,114]]:=⟨_,rfl⟩;have hap:p.log.map dQ++[[.str [101,114,114,111,114]]]=l1.map dQ:=by rw[hl1];simp
   have e:lD p.log [101,114,114,111,114]=l1:=by unfold lD;rw[eW h,hl1]
   rw[e];clear e hl1;refine dL aO func149 ntmps149 ?_;have W:=aA hi (aA hap hlg);refine wl ?_;exact aR results149
  .have hi:¬(p.log.length:Int)<40:=by omega
   have e:lD p.log [101,114,114,111,114]=p.log:=by unfold lD;rw[eK h]
   rw[e];clear e;refine dL aO func149 ntmps149 ?_;have W:=hi;refine wl ?_;exact aR results149
 rw[eW rfl];have hsl:bV iU p.aF<=1073741824:=by simp only[aM,bV]at*;omega
 have hsb:aS p.builder<=536870912:=by simp only[aM]at hs;omega
 have hqu:p.queue.length<=536870912:=by simp only[aM,bV]at hs;omega
 have c3:=yY p hsl;obtain⟨hb1,hb2⟩:=GZ p;have hb1':(bF p).length<=536870912:=by simp only[aM,bV]at hs;omega
 have c4:=Cr p.builder (bF p) l (by omega) b1 (λx hm=>by have:=b2 x hm;omega) (by omega) (λx hm=>by have:=hb2 x hm;omega) (vU p);obtain⟨z1,z2,z3,z4⟩:=EK 60 p.builder (bF p) l (by omega) b1 b2 (vU p) (by omega) l.length (eE _);have hend:uY p.builder (bF p) l l.length=fP p.builder (bF p) l:=by simp[uY]
 rw[hend]at z1 z2 z3 z4;have c5:=NB (fP p.builder (bF p) l).2.1 (by omega);obtain⟨y1,y2⟩:=MK (fP p.builder (bF p) l).2.1;unfold lJ;clear hb2 b2 hend;generalize bF p=ss at*;generalize fP p.builder ss l=g at*;obtain⟨b,wr,lg⟩:=g;simp only at c4 c5 z1 z2 z3 z4 y1 y2⊢;generalize yN wr=tk at*;simp only[aQ,aW]at c1 c3 c4;refine dL aO func149 ntmps149 ?_;refine oU ?_;obtain⟨Q,hQ⟩:∃Q:Nat->List aU,∀k,Q k=mM p.log (lg.take k):=⟨_,λ_=>rfl⟩;have hQ0:Q 0=p.log:=by rw[hQ];rfl
 have hQn:∀k,(¬k<lg.length\/¬(Q k).length<40)->mM p.log lg=Q k:=λk h=>by
  rw[hQ]at h⊢;rcases h with h|h
  .rw [eJ (by omega)]
  .rw [Yq _ _ _ h]
 have hQl:∀k,(Q k).length<=536870918:=λk=>by rw[hQ];have:=Qg p.log (lg.take k);simp only[oY]at this⊢;omega
 have hQs:∀k (h:k<lg.length),(Q k).length<40->Q (k+1)=Q k++[lg[k]]:=λk h h4=>by rw[hQ,ML _ _ _ h,<-hQ];unfold lD;rw[eW h4]
 refine aI (ι:={q:Nat×Nat // q.1<=lg.length/\1<=q.2}) (λt o i=>⟨bH t [(13,.int .i64 i.1.1),(15,.undef)],o.take 12++[⟨true,false,1,i.1.2,(Q i.1.1).map dQ⟩,⟨true,true,22,0,[[.str p.addr.host,.str p.addr.path,.bool p.bM.isSet,.obj 2 1,.obj 3 1,.obj 4 1,.str p.bM.vQ,.str p.tok.rest,.obj 5 1,.bool p.ended,.obj 17 1,.obj 18 1,.obj 8 1,.obj 9 1,.obj 10 1,.int .i64 p.block,.int .i64 p.inline,.int .i64 p.deferred,.int .i64 p.iV,.obj 11 1,.obj 12 i.1.2,.bool p.jZ]]⟩]++o.drop 14⟩)
  (λi=>lg.length-i.1.1) ⟨(0,1),by simp,by simp⟩ (aG (by simp[hQ0]) (by simp)) ?_
 rintro⟨⟨k,v⟩,hk,hv⟩ K1 hK1;simp only at hk hv;simp only[bH,cH,cJ,fL,lE,vA,DH,cW,cY]at hK1⊢;have hk1:=rE (k:=k);have hl1:=hQl k;have aDk:=hQn k;have Xr:=hQs k;clear hQn hQl hQs hQ0 hQ;by_cases Bo:k<lg.length/\(Q k).length<40
 .obtain ⟨hlt,VK⟩:=Bo;have hg:=aE hlt;have hnext:=Xr hlt VK;have aTl:((Q k).length:Int)<40:=by omega
  clear Xr aDk;generalize hqk:Q k=q at*;have W:=aA hk1 (aA hg (aA hlt (aA aTl hl1)));refine wl ?_;all_goals refine hK1 _ ⟨(k+1,v+1),by simp only;omega,by simp only;omega⟩ (aL 20 ?_ (by simp) (by simp) (by simp[fI])) (by simp only;omega)
  all_goals simp[hnext]
 .have hfin:=aDk (by omega);have hcase:¬k<lg.length\/(k<lg.length/\¬((Q k).length:Int)<40):=by omega
  rw[hfin];clear Xr aDk hK1 Bo hfin;generalize Q k=q at*;have hbq:(tk.length+p.queue.length)*64<=140737488355328:=by omega
  rcases hcase with hlt|⟨hlt,VK⟩
  .cases w
   .have W:=aA hk1 hlt;refine wl ?_;exact aR results149
   .rw [eW rfl];have W:=aA hk1 (aA hbq hlt);refine wl ?_;all_goals try(refine aZ ?_;simp[aX,results149])
    all_goals (rw[<-oX];exact uC _)
  .cases w
   .have W:=aA hk1 (aA hlt VK);refine wl ?_;exact aR results149
   .rw [eW rfl];have W:=aA hk1 (aA hbq (aA hlt VK));refine wl ?_;all_goals try(refine aZ ?_;simp[aX,results149])
    all_goals (rw[<-oX];exact uC _)
end Go.Proofs.YtnkpkklemmgapaaGreatDoor
