/- Proved here: steps towards the statement of this claim. No condition. -/
import Derived.Test.YtfbefblglejcaaaGreatDoorZQRCC
set_option linter.all false
set_option maxRecDepth 8000
set_option maxHeartbeats 8000000
namespace Go.Proofs.YtfbefblglejcaaaGreatDoor
open Go.Aw Proofs.Tryz List IntKind
theorem Js[aC prog](p:aG)(hs:aI p<=536870912)(h:p.queue=[]\/p.block≠0\/p.inline≠0):Ok prog 149 [.agg (aH .view p)] (.gT [.agg (aH .own p),.bool false]):=by
 have c1:=iG p (by omega);simp only[aH]at c1;by_cases hl0:p.queue.length=0
 .refine bM aF func149 ntmps149 ?_;have W:=hl0;refine we ?_;exact aD results149
 .have hq:p.queue≠[]:=λh=>hl0 (by rw[h];rfl)
  by_cases hb:p.block=0
  .have hi:¬p.inline=0:=by
    rcases h with h|h|h
    .exact absurd h hq
    .exact absurd hb h
    .exact h
   rw[hb]at c1;refine bM aF func149 ntmps149 ?_;have W:=aA hl0 (aA hb hi);refine we ?_;all_goals try(refine aQ ?_;simp[aP,results149,hb])
  .refine bM aF func149 ntmps149 ?_;have W:=aA hl0 hb;refine we ?_;exact aD results149
theorem Vs[aC prog](p:aG)(t:bT)(q:List bT)(hq:p.queue=t::q)(hb:p.block=0)(hi:p.inline=0)(hs:aI p<=536870912)(hk:¬t.kind=2):Ok prog 149 [.agg (aH .view p)] (.gT [.agg (aH .own (jP p t q)),.bool true]):=by
 have hq1:=uM hq;have hts:bX t<=536870912:=by have h1:=bS bX (show t∈p.queue by rw[hq];simp);simp only[aI,bQ]at hs;omega
 have hbs:aT p.builder<=536870912:=by simp only[aI]at hs;omega
 have hbl:p.builder.nodes.length<=536870912/\p.builder.opens.length<=536870912:=by simp only[aT,bQ]at hbs;omega
 have c1:=iG p (by omega);have c2:=uL p.builder t (by omega) (by omega);have c3:=Vh {p with queue:=q,builder:=(addToken p.builder t).1} t (addToken p.builder t).2 (by omega) (by omega);unfold jP;rw[Aq (λh=>hk h.1)];generalize addToken p.builder t=u at*;obtain⟨⟨n1,o1⟩,k1⟩:=u;simp only at c2 c3⊢;obtain⟨ad,V4,tok,queue,ended,AU,aB,aN,entries,block,inline,deferred,iA,tX,log,oW⟩:=p;obtain⟨tk,tn,ta,tx⟩:=t;simp only at hq hb hi hbl hk c1 c2 c3⊢;subst hq;subst hb;subst hi;simp only[aH,bN,aU,dO,aL]at c1;simp only[aU]at c2;have hl1:¬(q.length:Int)+1=0:=by omega
 have xV:(q.map (cZ .own)).take q.length=q.map (cZ .own):=cY (by simp);by_cases h1:tk=1
 .subst h1;by_cases h0:0<=k1
  .rw [eK ⟨rfl,h0⟩];generalize AQ _ _ k1=g at*;simp only[aH,bN,aU,dO,aL,cZ]at c3;refine uK aF [4] func149 ntmps149 ?_;have W:=aA hl1 (aA xV (aA h0 hbl));refine we ?_;refine go_share 5 0 (by rfl) (by rfl) (by simp;rfl) ?_;have W:=aA hl1 (aA xV (aA h0 hbl));repeat' first|refine wf ?_|(refine nx ?_;refine sg (hc:=c3) (h:=?_))|(refine sq ?_ ?_<;>intro hc<;>try exact hc.elim)|fail
   exact aD results149
  .rw [cX (λh=>h0 h.2)]
   refine uK aF [4] func149 ntmps149 ?_;have W:=aA hl1 (aA xV (aA h0 hbl));refine we ?_;refine go_share 5 0 (by rfl) (by rfl) (by simp;rfl) ?_;have W:=aA hl1 (aA xV (aA h0 hbl));refine we ?_;exact aD results149
 .rw [cX (λh=>h1 h.1)]
  by_cases h0:0<=k1
  .skip
   refine uK aF [4] func149 ntmps149 ?_;have W:=aA hl1 (aA xV (aA h0 (aA hk (aA h1 hbl))));refine we ?_;refine go_share 5 0 (by rfl) (by rfl) (by simp;rfl) ?_;have W:=aA hl1 (aA xV (aA h0 (aA hk (aA h1 hbl))));refine we ?_;exact aD results149
  .skip
   refine uK aF [4] func149 ntmps149 ?_;have W:=aA hl1 (aA xV (aA h0 (aA hk (aA h1 hbl))));refine we ?_;refine go_share 5 0 (by rfl) (by rfl) (by simp;rfl) ?_;have W:=aA hl1 (aA xV (aA h0 (aA hk (aA h1 hbl))));refine we ?_;exact aD results149
theorem Uq[aC prog](p:aG)(t:bT)(q:List bT)(hq:p.queue=t::q)(hb:p.block=0)(hi:p.inline=0)(hs:aI p<=536870912)(hk:t.kind=2)(hn:¬t.name=iN):Ok prog 149 [.agg (aH .view p)] (.gT [.agg (aH .own (jP p t q)),.bool true]):=by
 have hq1:=uM hq;have hts:bX t<=536870912:=by have h1:=bS bX (show t∈p.queue by rw[hq];simp);simp only[aI,bQ]at hs;omega
 have hbs:aT p.builder<=536870912:=by simp only[aI]at hs;omega
 have hbl:p.builder.nodes.length<=536870912/\p.builder.opens.length<=536870912:=by simp only[aT,bQ]at hbs;omega
 have c1:=iG p (by omega);have c2:=uL p.builder t (by omega) (by omega);obtain⟨hm,_⟩:=pM (b:=p.builder) hk;unfold jP;rw[Aq (λh=>hn h.2)];rw[hm]at c2⊢;generalize (addToken p.builder t).1=u at*;obtain⟨n1,o1⟩:=u;simp only at c2⊢;obtain⟨ad,V4,tok,queue,ended,AU,aB,aN,entries,block,inline,deferred,iA,tX,log,oW⟩:=p;obtain⟨tk,tn,ta,tx⟩:=t;simp only at hq hb hi hbl hk hn c1 c2⊢;subst hq;subst hb;subst hi;subst hk;have hnb:(tn == [115,99,114,105,112,116])=false:=by simpa [iN]using hn
 rw[cX (by rintro⟨h,_⟩;cases h)];simp only[aH,bN,aU,dO,aL]at c1;simp only[aU]at c2;have hl1:¬(q.length:Int)+1=0:=by omega
 have xV:(q.map (cZ .own)).take q.length=q.map (cZ .own):=cY (by simp);refine uK aF [4] func149 ntmps149 ?_;have W:=aA hl1 (aA xV (aA hnb hbl));refine we ?_;refine go_share 5 0 (by rfl) (by rfl) (by simp;rfl) ?_;have W:=aA hl1 (aA xV (aA hnb hbl));refine we ?_;exact aD results149
theorem Vt[aC prog](p:aG)(t:bT)(q:List bT)(hq:p.queue=t::q)(hb:p.block=0)(hi:p.inline=0)(hs:aI p<=536870912)(hk:t.kind=2)(hn:t.name=iN)(ho:p.builder.opens=[]):Ok prog 149 [.agg (aH .view p)] (.gT [.agg (aH .own (jP p t q)),.bool true]):=by
 have hq1:=uM hq;have hts:bX t<=536870912:=by have h1:=bS bX (show t∈p.queue by rw[hq];simp);simp only[aI,bQ]at hs;omega
 have hbs:aT p.builder<=536870912:=by simp only[aI]at hs;omega
 have hbl:p.builder.nodes.length<=536870912/\p.builder.opens.length<=536870912:=by simp only[aT,bQ]at hbs;omega
 have c1:=iG p (by omega);have c2:=uL p.builder t (by omega) (by omega);obtain⟨hm,_⟩:=pM (b:=p.builder) hk;unfold jP;rw[Ma ho];have hl0:p.builder.opens.length=0:=by rw[ho];rfl
 rw[hm]at c2⊢;generalize (addToken p.builder t).1=u at*;obtain⟨n1,o1⟩:=u;simp only at c2⊢;obtain⟨ad,V4,tok,queue,ended,AU,aB,aN,entries,block,inline,deferred,iA,tX,log,oW⟩:=p;obtain⟨tk,tn,ta,tx⟩:=t;simp only at hq hb hi hbl hk hn c1 c2 hl0⊢;subst hq;subst hb;subst hi;clear ho;subst hk;simp only[iN]at hn;subst hn;rw[cX (by rintro⟨h,_⟩;cases h)];simp only[aH,bN,aU,dO,aL]at c1;simp only[aU]at c2;have hl1:¬(q.length:Int)+1=0:=by omega
 have xV:(q.map (cZ .own)).take q.length=q.map (cZ .own):=cY (by simp);refine uK aF [4] func149 ntmps149 ?_;have W:=aA hl1 (aA xV (aA hl0 hbl));refine we ?_;refine go_share 5 0 (by rfl) (by rfl) (by simp;rfl) ?_;have W:=aA hl1 (aA xV (aA hl0 hbl));refine we ?_;exact aD results149
theorem Ur[aC prog](p:aG)(t:bT)(q:List bT)(hq:p.queue=t::q)(hb:p.block=0)(hi:p.inline=0)(hs:aI p<=536870912)(hk:t.kind=2)(hn:t.name=iN)(os:List Int)(lo:Int)(ho:p.builder.opens=os++[lo])(hs0:sW p.builder t=none):Ok prog 149 [.agg (aH .view p)] (.gT [.agg (aH .own (jP p t q)),.bool true]):=by
 have hq1:=uM hq;have hts:bX t<=536870912:=by have h1:=bS bX (show t∈p.queue by rw[hq];simp);simp only[aI,bQ]at hs;omega
 have hbs:aT p.builder<=536870912:=by simp only[aI]at hs;omega
 have hbl:p.builder.nodes.length<=536870912/\p.builder.opens.length<=536870912:=by simp only[aT,bQ]at hbs;omega
 have c1:=iG p (by omega);have c2:=uL p.builder t (by omega) (by omega);obtain⟨hm,_⟩:=pM (b:=p.builder) hk;have Hf:∀(k:Nat) (nd:jK),1<=k->p.builder.opens=os++[((k:Nat):Int)]->p.builder.nodes[k]? =some nd->nd.name=iN->False:=λk nd h1 h2 h3 h4=>by have h5:=Bo hk hn h2 h1 h3 h4;rw[hs0]at h5;cases h5
 unfold jP;rw[hs0];clear hs0;have hl0:(0:Int)<(p.builder.opens.length:Int):=by rw[ho];simp<;>omega
 have hlt:os.length<p.builder.opens.length:=by rw[ho];simp
 have hg:p.builder.opens[os.length]? =some lo:=by rw[ho];simp
 have hw:i64.wrap ((p.builder.opens.length:Int)-1)=((os.length:Nat):Int):=by
  have e:p.builder.opens.length=os.length+1:=by rw[ho];simp
  rw[wrap64]<;>omega
 rw[hm]at c2⊢;generalize (addToken p.builder t).1=u at*;obtain⟨n1,o1⟩:=u;simp only at c2⊢;obtain⟨ad,V4,tok,queue,ended,AU,aB,aN,entries,block,inline,deferred,iA,tX,log,oW⟩:=p;obtain⟨tk,tn,ta,tx⟩:=t;simp only at hq hb hi hbl hk hn c1 c2 hl0 hlt hg hw ho Hf⊢;subst hq;subst hb;subst hi;subst hk;simp only[iN]at hn;subst hn;rw[cX (by rintro⟨h,_⟩;cases h)];simp only[aH,bN,aU,dO,aL]at c1;simp only[aU]at c2;have hl1:¬(q.length:Int)+1=0:=by omega
 have xV:(q.map (cZ .own)).take q.length=q.map (cZ .own):=cY (by simp);by_cases h1:1<=lo
 .by_cases h2:lo<(AU.nodes.length:Int)
  .obtain ⟨k,rfl⟩:=mN (show 0<=lo by omega);have hkl:k<AU.nodes.length:=by omega
   have Ee:=aE hkl;have hne:(AU.nodes[k].name == [115,99,114,105,112,116])=false:=by
    cases h:(AU.nodes[k].name == [115,99,114,105,112,116])with
    |false=>rfl
    |true=>exact(Hf k _ (by omega) ho Ee (by simpa [iN]using h)).elim
   clear Hf ho;refine uK aF [4] func149 ntmps149 ?_;have W:=aA hl1 (aA xV (aA hl0 (aA hw (aA hg (aA h1 (aA Ee (aA hkl (aA hne hbl))))))));have V:=hlt;refine we ?_;refine go_share 5 0 (by rfl) (by rfl) (by simp;rfl) ?_;have W:=aA hl1 (aA xV (aA hl0 (aA hw (aA hg (aA h1 (aA Ee (aA hkl (aA hne hbl))))))));have V:=hlt;repeat' first|refine wf ?_|(refine sq ?_ ?_<;>intro hc<;>try exact hc.elim)|fail
   all_goals (try exact aD results149)
  .skip
   clear Hf ho;refine uK aF [4] func149 ntmps149 ?_;have W:=aA hl1 (aA xV (aA hl0 (aA hw (aA hg (aA h1 (aA h2 hbl))))));have V:=hlt;refine we ?_;refine go_share 5 0 (by rfl) (by rfl) (by simp;rfl) ?_;have W:=aA hl1 (aA xV (aA hl0 (aA hw (aA hg (aA h1 (aA h2 hbl))))));have V:=hlt;repeat' first|refine wf ?_|(refine sq ?_ ?_<;>intro hc<;>try exact hc.elim)|fail
   all_goals (try exact aD results149)
 .skip
  clear Hf ho;refine uK aF [4] func149 ntmps149 ?_;have W:=aA hl1 (aA xV (aA hl0 (aA hw (aA hg (aA h1 hbl)))));have V:=hlt;refine we ?_;refine go_share 5 0 (by rfl) (by rfl) (by simp;rfl) ?_;have W:=aA hl1 (aA xV (aA hl0 (aA hw (aA hg (aA h1 hbl)))));have V:=hlt;repeat' first|refine wf ?_|(refine sq ?_ ?_<;>intro hc<;>try exact hc.elim)|fail
  all_goals (try exact aD results149)
theorem Qs[aC prog](p:aG)(t:bT)(q:List bT)(hq:p.queue=t::q)(hb:p.block=0)(hi:p.inline=0)(hs:aI p<=536870912)(hk:t.kind=2)(hn:t.name=iN)(os:List Int)(k:Nat)(ho:p.builder.opens=os++[((k:Nat):Int)])(nd:jK)(hk1:1<=k)(Ee:p.builder.nodes[k]? =some nd)(hns:nd.name=iN):Ok prog 149 [.agg (aH .view p)] (.gT [.agg (aH .own (jP p t q)),.bool true]):=by
 have hq1:=uM hq;have hts:bX t<=536870912:=by have h1:=bS bX (show t∈p.queue by rw[hq];simp);simp only[aI,bQ]at hs;omega
 have hbs:aT p.builder<=536870912:=by simp only[aI]at hs;omega
 have hbl:p.builder.nodes.length<=536870912/\p.builder.opens.length<=536870912:=by simp only[aT,bQ]at hbs;omega
 have c1:=iG p (by omega);have c2:=uL p.builder t (by omega) (by omega);obtain⟨hm,hmn⟩:=pM (b:=p.builder) hk;have hkl:k<p.builder.nodes.length:=(cH.1 Ee).1;have c3:=NU {p with queue:=q,builder:=(addToken p.builder t).1} k nd (by simp only[hmn];exact hkl) (by simp only[hmn];exact Ee) (by omega);unfold jP;rw[Bo hk hn ho hk1 Ee hns];simp only[Ee,Option.elim];have hl0:(0:Int)<(p.builder.opens.length:Int):=by rw[ho];simp<;>omega
 have hlt:os.length<p.builder.opens.length:=by rw[ho];simp
 have hg:p.builder.opens[os.length]? =some ((k:Nat):Int):=by rw[ho];simp
 have hw:i64.wrap ((p.builder.opens.length:Int)-1)=((os.length:Nat):Int):=by
  have e:p.builder.opens.length=os.length+1:=by rw[ho];simp
  rw[wrap64]<;>omega
 have hnb:(nd.name == [115,99,114,105,112,116])=true:=by simpa [iN]using hns
 generalize sV _ k nd.attrs=g at*;rw[hm]at c2;generalize (addToken p.builder t).1=u at*;obtain⟨n1,o1⟩:=u;try simp only at c2
 try simp only at c3
 obtain⟨ad,V4,tok,queue,ended,AU,aB,aN,entries,block,inline,deferred,iA,tX,log,oW⟩:=p;obtain⟨tk,tn,ta,tx⟩:=t;simp only at hq hb hi hbl hk hn c1 c2 c3 hl0 hlt hg hw Ee hkl;subst hq;subst hb;subst hi;clear ho hns hm hmn;subst hk;simp only[iN]at hn;subst hn;simp only[aH,bN,aU,dO,aL]at c1;simp only[aU]at c2;have hl1:¬(q.length:Int)+1=0:=by omega
 have xV:(q.map (cZ .own)).take q.length=q.map (cZ .own):=cY (by simp);have aGv:(1:Int)<=((k:Nat):Int):=by omega
 simp only[aH,bN,aU,dO,aL]at c3;have aGw:(AU.nodes[k].name == [115,99,114,105,112,116])=true:=by rw[aE hkl]at Ee;rw[cQ Ee];exact hnb
 have hlp:0<AU.opens.length:=by omega
 refine uK aF [4] func149 ntmps149 ?_;have W:=aA hl1 (aA xV (aA hlp (aA hl0 (aA hw (aA hg (aA aGv (aA hkl (aA Ee (aA aGw hbl)))))))));have V:=hlt;refine we ?_;refine go_share 5 0 (by rfl) (by rfl) (by simp;rfl) ?_;have W:=aA hl1 (aA xV (aA hlp (aA hl0 (aA hw (aA hg (aA aGv (aA hkl (aA Ee (aA aGw hbl)))))))));have V:=hlt;repeat' first|refine wf ?_|(refine nx ?_;refine sg (hc:=c3) (h:=?_))|(refine sq ?_ ?_<;>intro hc<;>try exact hc.elim)|fail
 exact aD results149
theorem Om[aC prog](p:aG)(hs:aI p<=536870912):Ok prog 149 [.agg (aH .view p)] (.gT [.agg (aH .own (iJ p).1),.bool (iJ p).2]):=by
 cases hq:p.queue with
 |nil=>
  have e:iJ p=(p,false):=by unfold iJ;rw[hq]
  rw[e];exact Js p hs (.inl hq)
 |cons t q=>
  by_cases h:p.block=0/\p.inline=0
  .have e:iJ p=(jP p t q,true):=by unfold iJ;rw[hq];simp only;rw[eK h]
   rw[e];by_cases hk:t.kind=2
   .by_cases hn:t.name=iN
    .rcases AK p.builder.opens with ho|⟨os,lo,ho⟩
     .exact Vt p t q hq h.1 h.2 hs hk hn ho
     .cases hsc:sW p.builder t with
      |none=>exact Ur p t q hq h.1 h.2 hs hk hn os lo (by simpa using ho) hsc
      |some k=>
       have hsc2:=hsc;unfold sW at hsc2;rw[eK ⟨hk,hn⟩,ho]at hsc2;simp only[concat_eq_append,getLast?_concat]at hsc2;split at hsc2
       .rename_i h3;obtain⟨h3,h4⟩:=h3;obtain rfl:=cQ hsc2;cases Ee:p.builder.nodes[lo.toNat]? with
        |none=>rw[Ee]at h4;simp at h4
        |some nd=>rw[Ee]at h4;exact Qs p t q hq h.1 h.2 hs hk hn os lo.toNat (by rw[ho];simp<;>omega) nd (by omega) Ee (by simpa using h4)
       .cases hsc2
    .exact Uq p t q hq h.1 h.2 hs hk hn
   .exact Vs p t q hq h.1 h.2 hs hk
  .have e:iJ p=(p,false):=by unfold iJ;rw[hq];simp only;rw[cX h]
   rw[e];exact Js p hs (by by_cases h1:p.block=0;exact .inr (.inr λh2=>h ⟨h1,h2⟩);exact .inr (.inl h1))
theorem MM[aC prog][dL prog][bP prog][oK prog](p:aG)(hs:aI p<=536870912):Ok prog 88 [.agg (aH .view p)] (.gT [.agg (aH .own (jE p).1),.bool (jE p).2]):=by
 have c1:=iG p (by omega);have hsb:aT p.builder<=536870912:=by simp only[aI]at hs;omega
 have hsl:p.aB.length<=536870912:=by simp only[aI,bQ]at hs;omega
 have c2:=Cf p (by omega);have hbd:∀s∈p.aB,s.body.length<=536870912:=λs hm=>by have:=TD kZ hm;simp only[aI,bQ,kZ]at hs this;omega
 unfold jE;by_cases hin:p.inline=0
 .rw [cX (by simp[hin])];by_cases hbk:p.block=0
  .rw [cX (by simp[hbk])];have c3:=Om p hs;generalize iJ p=r at*;obtain⟨q,b⟩:=r;simp only[aH,hin,hbk]at c1 c2 c3⊢;clear hbd;refine bM aF func88 ntmps88 ?_;have W:=aA hin hbk;refine we ?_;exact aD results88
  .rw [eK hbk];generalize hk:i64.wrap (p.block-1)=k;unfold BB;by_cases h0:0<=k
   .rw [eK h0];obtain⟨kn,rfl⟩:=mN h0;rw[mA];have hk0:¬(kn:Int)<0:=by omega
    by_cases hlt:kn<p.aB.length
    .have hg:=aE hlt;have hlen:¬(p.aB.length:Int)<=(kn:Int):=by omega
     rw[hg];simp only;have aGx:=hbd _ (fS hlt);cases hd:p.aB[kn].done
     .rw [cX (by simp)];simp only[aH,hin]at c1 c2⊢;clear hbd;refine bM aF func88 ntmps88 ?_;have W:=aA hin (aA hbk (aA hk (aA hk0 (aA hlen (aA hg (aA hlt hd))))));refine we ?_;exact aD results88
     .generalize p.aB.all oG=F5 at*;cases F5
      .rw [cX (by simp)];simp only[aH,hin]at c1 c2⊢;clear hbd;refine bM aF func88 ntmps88 ?_;have W:=aA hin (aA hbk (aA hk (aA hk0 (aA hlen (aA hg (aA hlt hd))))));refine we ?_;exact aD results88
      .rw [eK ⟨rfl,rfl⟩];by_cases Yt:p.aB[kn].code=1
       .rw [eK Yt];have c4:=BV p p.aB[kn].body true hs (by omega);generalize lT p p.aB[kn].body true=q at*;simp only[aH,hin]at c1 c2 c4⊢;clear hbd;refine bM aF func88 ntmps88 ?_;have W:=aA hin (aA hbk (aA hk (aA hk0 (aA hlen (aA hg (aA hlt (aA hd Yt)))))));refine we ?_;exact aD results88
       .rw [cX Yt];simp only[aH,hin]at c1 c2⊢;clear hbd;refine bM aF func88 ntmps88 ?_;have W:=aA hin (aA hbk (aA hk (aA hk0 (aA hlen (aA hg (aA hlt (aA hd Yt)))))));refine we ?_;exact aD results88
    .have hg:p.aB[kn]? =none:=pB (by omega);have hlen:(p.aB.length:Int)<=(kn:Int):=by omega
     rw[hg];simp only;simp only[aH,hin]at c1 c2⊢;clear hbd;refine bM aF func88 ntmps88 ?_;have W:=aA hin (aA hbk (aA hk (aA hk0 hlen)));refine we ?_;exact aD results88
   .rw [cX h0];have hk0:k<0:=by omega
    simp only[aH,hin]at c1 c2⊢;clear hbd;refine bM aF func88 ntmps88 ?_;have W:=aA hin (aA hbk (aA hk hk0));refine we ?_;exact aD results88
 .rw [eK hin];generalize p.aB.all oG=F5 at*;cases F5
  .rw [cX (by simp)];simp only[aH]at c1 c2⊢;clear hbd;refine bM aF func88 ntmps88 ?_;have W:=hin;refine we ?_;exact aD results88
  .rw [eK rfl];have c3:=Vi p.builder p.inline (by omega);have htl:=TC p.builder p.inline;generalize Cg p.builder p.inline=tx at*;have c4:=BV p tx true hs (by omega);generalize lT p tx true=q at*;simp only[aH,aU]at c1 c2 c3 c4⊢;clear hbd;refine bM aF func88 ntmps88 ?_;have W:=hin;refine we ?_;exact aD results88
end Go.Proofs.YtfbefblglejcaaaGreatDoor
