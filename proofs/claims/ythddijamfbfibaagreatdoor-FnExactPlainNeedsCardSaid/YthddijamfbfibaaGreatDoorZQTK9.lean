/- Proved here: steps towards the statement of this claim. No condition. -/
import Derived.Test.YthddijamfbfibaaGreatDoorZQTK7
set_option linter.all false
set_option maxRecDepth 8000
set_option maxHeartbeats 8000000
namespace Go.Proofs.YthddijamfbfibaaGreatDoor
open Go.Aw Proofs.Tryz List IntKind
theorem JH[aB prog](p:aI)(hs:aL p<=536870912)(h:p.queue=[]\/p.block≠0\/p.inline≠0):Ok prog 159 [.agg (aJ .view p)] (.gM [.agg (aJ .own p),.bool false]):=by
 have c1:=iI p (by omega);simp only[aJ]at c1;by_cases hl0:p.queue.length=0
 .refine bM aG func159 ntmps159 ?_;have W:=hl0;refine we ?_;exact aF results159
 .have hq:p.queue≠[]:=λh=>hl0 (by rw[h];rfl)
  by_cases hb:p.block=0
  .have hi:¬p.inline=0:=by
    rcases h with h|h|h
    .exact absurd h hq
    .exact absurd hb h
    .exact h
   rw[hb]at c1;refine bM aG func159 ntmps159 ?_;have W:=aA hl0 (aA hb hi);refine we ?_;all_goals try(refine aR ?_;simp[aP,results159,hb])
  .refine bM aG func159 ntmps159 ?_;have W:=aA hl0 hb;refine we ?_;exact aF results159
theorem WC[aB prog](p:aI)(t:bT)(q:List bT)(hq:p.queue=t::q)(hb:p.block=0)(hi:p.inline=0)(hs:aL p<=536870912)(hk:¬t.kind=2):Ok prog 159 [.agg (aJ .view p)] (.gM [.agg (aJ .own (jS p t q)),.bool true]):=by
 have hq1:=uR hq;have hts:bW t<=536870912:=by have h1:=bS bW (show t∈p.queue by rw[hq];simp);simp only[aL,bP]at hs;omega
 have hbs:aU p.builder<=536870912:=by simp only[aL]at hs;omega
 have hbl:p.builder.nodes.length<=536870912/\p.builder.opens.length<=536870912:=by simp only[aU,bP]at hbs;omega
 have c1:=iI p (by omega);have c2:=uQ p.builder t (by omega) (by omega);have c3:=Wp {p with queue:=q,builder:=(addToken p.builder t).1} t (addToken p.builder t).2 (by omega) (by omega);unfold jS;rw[AO (λh=>hk h.1)];generalize addToken p.builder t=u at*;obtain⟨⟨n1,o1⟩,k1⟩:=u;simp only at c2 c3⊢;obtain⟨ad,pol,tok,queue,ended,Bg,aC,aO,entries,block,inline,deferred,iC,uA,log,pF⟩:=p;obtain⟨tk,tn,ta,tx⟩:=t;simp only at hq hb hi hbl hk c1 c2 c3⊢;subst hq;subst hb;subst hi;simp only[aJ,bN,aV,dP,aH]at c1;simp only[aV]at c2;have hl1:¬(q.length:Int)+1=0:=by omega
 have yA:(q.map (cB .own)).take q.length=q.map (cB .own):=cX (by simp);by_cases h1:tk=1
 .subst h1;by_cases h0:0<=k1
  .rw [eK ⟨rfl,h0⟩];generalize Be _ _ k1=g at*;simp only[aJ,bN,aV,dP,aH,cB]at c3;refine uP aG [4] func159 ntmps159 ?_;have W:=aA hl1 (aA yA (aA h0 hbl));refine we ?_;refine go_share 5 0 (by rfl) (by rfl) (by simp;rfl) ?_;have W:=aA hl1 (aA yA (aA h0 hbl));repeat' first|refine wf ?_|(refine nx ?_;refine sg (hc:=c3) (h:=?_))|(refine sq ?_ ?_<;>intro hc<;>try exact hc.elim)|fail
   exact aF results159
  .rw [cY (λh=>h0 h.2)]
   refine uP aG [4] func159 ntmps159 ?_;have W:=aA hl1 (aA yA (aA h0 hbl));refine we ?_;refine go_share 5 0 (by rfl) (by rfl) (by simp;rfl) ?_;have W:=aA hl1 (aA yA (aA h0 hbl));refine we ?_;exact aF results159
 .rw [cY (λh=>h1 h.1)]
  by_cases h0:0<=k1
  .skip
   refine uP aG [4] func159 ntmps159 ?_;have W:=aA hl1 (aA yA (aA h0 (aA hk (aA h1 hbl))));refine we ?_;refine go_share 5 0 (by rfl) (by rfl) (by simp;rfl) ?_;have W:=aA hl1 (aA yA (aA h0 (aA hk (aA h1 hbl))));refine we ?_;exact aF results159
  .skip
   refine uP aG [4] func159 ntmps159 ?_;have W:=aA hl1 (aA yA (aA h0 (aA hk (aA h1 hbl))));refine we ?_;refine go_share 5 0 (by rfl) (by rfl) (by simp;rfl) ?_;have W:=aA hl1 (aA yA (aA h0 (aA hk (aA h1 hbl))));refine we ?_;exact aF results159
theorem Vd[aB prog](p:aI)(t:bT)(q:List bT)(hq:p.queue=t::q)(hb:p.block=0)(hi:p.inline=0)(hs:aL p<=536870912)(hk:t.kind=2)(hn:¬t.name=iR):Ok prog 159 [.agg (aJ .view p)] (.gM [.agg (aJ .own (jS p t q)),.bool true]):=by
 have hq1:=uR hq;have hts:bW t<=536870912:=by have h1:=bS bW (show t∈p.queue by rw[hq];simp);simp only[aL,bP]at hs;omega
 have hbs:aU p.builder<=536870912:=by simp only[aL]at hs;omega
 have hbl:p.builder.nodes.length<=536870912/\p.builder.opens.length<=536870912:=by simp only[aU,bP]at hbs;omega
 have c1:=iI p (by omega);have c2:=uQ p.builder t (by omega) (by omega);obtain⟨hm,_⟩:=pV (b:=p.builder) hk;unfold jS;rw[AO (λh=>hn h.2)];rw[hm]at c2⊢;generalize (addToken p.builder t).1=u at*;obtain⟨n1,o1⟩:=u;simp only at c2⊢;obtain⟨ad,pol,tok,queue,ended,Bg,aC,aO,entries,block,inline,deferred,iC,uA,log,pF⟩:=p;obtain⟨tk,tn,ta,tx⟩:=t;simp only at hq hb hi hbl hk hn c1 c2⊢;subst hq;subst hb;subst hi;subst hk;have hnb:(tn == [115,99,114,105,112,116])=false:=by simpa [iR]using hn
 rw[cY (by rintro⟨h,_⟩;cases h)];simp only[aJ,bN,aV,dP,aH]at c1;simp only[aV]at c2;have hl1:¬(q.length:Int)+1=0:=by omega
 have yA:(q.map (cB .own)).take q.length=q.map (cB .own):=cX (by simp);refine uP aG [4] func159 ntmps159 ?_;have W:=aA hl1 (aA yA (aA hnb hbl));refine we ?_;refine go_share 5 0 (by rfl) (by rfl) (by simp;rfl) ?_;have W:=aA hl1 (aA yA (aA hnb hbl));refine we ?_;exact aF results159
theorem WE[aB prog](p:aI)(t:bT)(q:List bT)(hq:p.queue=t::q)(hb:p.block=0)(hi:p.inline=0)(hs:aL p<=536870912)(hk:t.kind=2)(hn:t.name=iR)(ho:p.builder.opens=[]):Ok prog 159 [.agg (aJ .view p)] (.gM [.agg (aJ .own (jS p t q)),.bool true]):=by
 have hq1:=uR hq;have hts:bW t<=536870912:=by have h1:=bS bW (show t∈p.queue by rw[hq];simp);simp only[aL,bP]at hs;omega
 have hbs:aU p.builder<=536870912:=by simp only[aL]at hs;omega
 have hbl:p.builder.nodes.length<=536870912/\p.builder.opens.length<=536870912:=by simp only[aU,bP]at hbs;omega
 have c1:=iI p (by omega);have c2:=uQ p.builder t (by omega) (by omega);obtain⟨hm,_⟩:=pV (b:=p.builder) hk;unfold jS;rw[Mq ho];have hl0:p.builder.opens.length=0:=by rw[ho];rfl
 rw[hm]at c2⊢;generalize (addToken p.builder t).1=u at*;obtain⟨n1,o1⟩:=u;simp only at c2⊢;obtain⟨ad,pol,tok,queue,ended,Bg,aC,aO,entries,block,inline,deferred,iC,uA,log,pF⟩:=p;obtain⟨tk,tn,ta,tx⟩:=t;simp only at hq hb hi hbl hk hn c1 c2 hl0⊢;subst hq;subst hb;subst hi;clear ho;subst hk;simp only[iR]at hn;subst hn;rw[cY (by rintro⟨h,_⟩;cases h)];simp only[aJ,bN,aV,dP,aH]at c1;simp only[aV]at c2;have hl1:¬(q.length:Int)+1=0:=by omega
 have yA:(q.map (cB .own)).take q.length=q.map (cB .own):=cX (by simp);refine uP aG [4] func159 ntmps159 ?_;have W:=aA hl1 (aA yA (aA hl0 hbl));refine we ?_;refine go_share 5 0 (by rfl) (by rfl) (by simp;rfl) ?_;have W:=aA hl1 (aA yA (aA hl0 hbl));refine we ?_;exact aF results159
theorem Ve[aB prog](p:aI)(t:bT)(q:List bT)(hq:p.queue=t::q)(hb:p.block=0)(hi:p.inline=0)(hs:aL p<=536870912)(hk:t.kind=2)(hn:t.name=iR)(os:List Int)(lo:Int)(ho:p.builder.opens=os++[lo])(hs0:tK p.builder t=none):Ok prog 159 [.agg (aJ .view p)] (.gM [.agg (aJ .own (jS p t q)),.bool true]):=by
 have hq1:=uR hq;have hts:bW t<=536870912:=by have h1:=bS bW (show t∈p.queue by rw[hq];simp);simp only[aL,bP]at hs;omega
 have hbs:aU p.builder<=536870912:=by simp only[aL]at hs;omega
 have hbl:p.builder.nodes.length<=536870912/\p.builder.opens.length<=536870912:=by simp only[aU,bP]at hbs;omega
 have c1:=iI p (by omega);have c2:=uQ p.builder t (by omega) (by omega);obtain⟨hm,_⟩:=pV (b:=p.builder) hk;have Ic:∀(k:Nat) (nd:jP),1<=k->p.builder.opens=os++[((k:Nat):Int)]->p.builder.nodes[k]? =some nd->nd.name=iR->False:=λk nd h1 h2 h3 h4=>by have h5:=BB hk hn h2 h1 h3 h4;rw[hs0]at h5;cases h5
 unfold jS;rw[hs0];clear hs0;have hl0:(0:Int)<(p.builder.opens.length:Int):=by rw[ho];simp<;>omega
 have hlt:os.length<p.builder.opens.length:=by rw[ho];simp
 have hg:p.builder.opens[os.length]? =some lo:=by rw[ho];simp
 have hw:i64.wrap ((p.builder.opens.length:Int)-1)=((os.length:Nat):Int):=by
  have e:p.builder.opens.length=os.length+1:=by rw[ho];simp
  rw[wrap64]<;>omega
 rw[hm]at c2⊢;generalize (addToken p.builder t).1=u at*;obtain⟨n1,o1⟩:=u;simp only at c2⊢;obtain⟨ad,pol,tok,queue,ended,Bg,aC,aO,entries,block,inline,deferred,iC,uA,log,pF⟩:=p;obtain⟨tk,tn,ta,tx⟩:=t;simp only at hq hb hi hbl hk hn c1 c2 hl0 hlt hg hw ho Ic⊢;subst hq;subst hb;subst hi;subst hk;simp only[iR]at hn;subst hn;rw[cY (by rintro⟨h,_⟩;cases h)];simp only[aJ,bN,aV,dP,aH]at c1;simp only[aV]at c2;have hl1:¬(q.length:Int)+1=0:=by omega
 have yA:(q.map (cB .own)).take q.length=q.map (cB .own):=cX (by simp);by_cases h1:1<=lo
 .by_cases h2:lo<(Bg.nodes.length:Int)
  .obtain ⟨k,rfl⟩:=mS (show 0<=lo by omega);have hkl:k<Bg.nodes.length:=by omega
   have Es:=aE hkl;have hne:(Bg.nodes[k].name == [115,99,114,105,112,116])=false:=by
    cases h:(Bg.nodes[k].name == [115,99,114,105,112,116])with
    |false=>rfl
    |true=>exact(Ic k _ (by omega) ho Es (by simpa [iR]using h)).elim
   clear Ic ho;refine uP aG [4] func159 ntmps159 ?_;have W:=aA hl1 (aA yA (aA hl0 (aA hw (aA hg (aA h1 (aA Es (aA hkl (aA hne hbl))))))));have V:=hlt;refine we ?_;refine go_share 5 0 (by rfl) (by rfl) (by simp;rfl) ?_;have W:=aA hl1 (aA yA (aA hl0 (aA hw (aA hg (aA h1 (aA Es (aA hkl (aA hne hbl))))))));have V:=hlt;repeat' first|refine wf ?_|(refine sq ?_ ?_<;>intro hc<;>try exact hc.elim)|fail
   all_goals (try exact aF results159)
  .skip
   clear Ic ho;refine uP aG [4] func159 ntmps159 ?_;have W:=aA hl1 (aA yA (aA hl0 (aA hw (aA hg (aA h1 (aA h2 hbl))))));have V:=hlt;refine we ?_;refine go_share 5 0 (by rfl) (by rfl) (by simp;rfl) ?_;have W:=aA hl1 (aA yA (aA hl0 (aA hw (aA hg (aA h1 (aA h2 hbl))))));have V:=hlt;repeat' first|refine wf ?_|(refine sq ?_ ?_<;>intro hc<;>try exact hc.elim)|fail
   all_goals (try exact aF results159)
 .skip
  clear Ic ho;refine uP aG [4] func159 ntmps159 ?_;have W:=aA hl1 (aA yA (aA hl0 (aA hw (aA hg (aA h1 hbl)))));have V:=hlt;refine we ?_;refine go_share 5 0 (by rfl) (by rfl) (by simp;rfl) ?_;have W:=aA hl1 (aA yA (aA hl0 (aA hw (aA hg (aA h1 hbl)))));have V:=hlt;repeat' first|refine wf ?_|(refine sq ?_ ?_<;>intro hc<;>try exact hc.elim)|fail
  all_goals (try exact aF results159)
theorem QQ[aB prog](p:aI)(t:bT)(q:List bT)(hq:p.queue=t::q)(hb:p.block=0)(hi:p.inline=0)(hs:aL p<=536870912)(hk:t.kind=2)(hn:t.name=iR)(os:List Int)(k:Nat)(ho:p.builder.opens=os++[((k:Nat):Int)])(nd:jP)(hk1:1<=k)(Es:p.builder.nodes[k]? =some nd)(hns:nd.name=iR):Ok prog 159 [.agg (aJ .view p)] (.gM [.agg (aJ .own (jS p t q)),.bool true]):=by
 have hq1:=uR hq;have hts:bW t<=536870912:=by have h1:=bS bW (show t∈p.queue by rw[hq];simp);simp only[aL,bP]at hs;omega
 have hbs:aU p.builder<=536870912:=by simp only[aL]at hs;omega
 have hbl:p.builder.nodes.length<=536870912/\p.builder.opens.length<=536870912:=by simp only[aU,bP]at hbs;omega
 have c1:=iI p (by omega);have c2:=uQ p.builder t (by omega) (by omega);obtain⟨hm,hmn⟩:=pV (b:=p.builder) hk;have hkl:k<p.builder.nodes.length:=(cH.1 Es).1;have c3:=Ow {p with queue:=q,builder:=(addToken p.builder t).1} k nd (by simp only[hmn];exact hkl) (by simp only[hmn];exact Es) (by omega);unfold jS;rw[BB hk hn ho hk1 Es hns];simp only[Es,Option.elim];have hl0:(0:Int)<(p.builder.opens.length:Int):=by rw[ho];simp<;>omega
 have hlt:os.length<p.builder.opens.length:=by rw[ho];simp
 have hg:p.builder.opens[os.length]? =some ((k:Nat):Int):=by rw[ho];simp
 have hw:i64.wrap ((p.builder.opens.length:Int)-1)=((os.length:Nat):Int):=by
  have e:p.builder.opens.length=os.length+1:=by rw[ho];simp
  rw[wrap64]<;>omega
 have hnb:(nd.name == [115,99,114,105,112,116])=true:=by simpa [iR]using hns
 generalize tJ _ k nd.attrs=g at*;rw[hm]at c2;generalize (addToken p.builder t).1=u at*;obtain⟨n1,o1⟩:=u;try simp only at c2
 try simp only at c3
 obtain⟨ad,pol,tok,queue,ended,Bg,aC,aO,entries,block,inline,deferred,iC,uA,log,pF⟩:=p;obtain⟨tk,tn,ta,tx⟩:=t;simp only at hq hb hi hbl hk hn c1 c2 c3 hl0 hlt hg hw Es hkl;subst hq;subst hb;subst hi;clear ho hns hm hmn;subst hk;simp only[iR]at hn;subst hn;simp only[aJ,bN,aV,dP,aH]at c1;simp only[aV]at c2;have hl1:¬(q.length:Int)+1=0:=by omega
 have yA:(q.map (cB .own)).take q.length=q.map (cB .own):=cX (by simp);have aIt:(1:Int)<=((k:Nat):Int):=by omega
 simp only[aJ,bN,aV,dP,aH]at c3;have aIu:(Bg.nodes[k].name == [115,99,114,105,112,116])=true:=by rw[aE hkl]at Es;rw[cQ Es];exact hnb
 have hlp:0<Bg.opens.length:=by omega
 refine uP aG [4] func159 ntmps159 ?_;have W:=aA hl1 (aA yA (aA hlp (aA hl0 (aA hw (aA hg (aA aIt (aA hkl (aA Es (aA aIu hbl)))))))));have V:=hlt;refine we ?_;refine go_share 5 0 (by rfl) (by rfl) (by simp;rfl) ?_;have W:=aA hl1 (aA yA (aA hlp (aA hl0 (aA hw (aA hg (aA aIt (aA hkl (aA Es (aA aIu hbl)))))))));have V:=hlt;repeat' first|refine wf ?_|(refine nx ?_;refine sg (hc:=c3) (h:=?_))|(refine sq ?_ ?_<;>intro hc<;>try exact hc.elim)|fail
 exact aF results159
theorem OT[aB prog](p:aI)(hs:aL p<=536870912):Ok prog 159 [.agg (aJ .view p)] (.gM [.agg (aJ .own (iN p).1),.bool (iN p).2]):=by
 cases hq:p.queue with
 |nil=>
  have e:iN p=(p,false):=by unfold iN;rw[hq]
  rw[e];exact JH p hs (.inl hq)
 |cons t q=>
  by_cases h:p.block=0/\p.inline=0
  .have e:iN p=(jS p t q,true):=by unfold iN;rw[hq];simp only;rw[eK h]
   rw[e];by_cases hk:t.kind=2
   .by_cases hn:t.name=iR
    .rcases Bk p.builder.opens with ho|⟨os,lo,ho⟩
     .exact WE p t q hq h.1 h.2 hs hk hn ho
     .cases hsc:tK p.builder t with
      |none=>exact Ve p t q hq h.1 h.2 hs hk hn os lo (by simpa using ho) hsc
      |some k=>
       have hsc2:=hsc;unfold tK at hsc2;rw[eK ⟨hk,hn⟩,ho]at hsc2;simp only[concat_eq_append,getLast?_concat]at hsc2;split at hsc2
       .rename_i h3;obtain⟨h3,h4⟩:=h3;obtain rfl:=cQ hsc2;cases Es:p.builder.nodes[lo.toNat]? with
        |none=>rw[Es]at h4;simp at h4
        |some nd=>rw[Es]at h4;exact QQ p t q hq h.1 h.2 hs hk hn os lo.toNat (by rw[ho];simp<;>omega) nd (by omega) Es (by simpa using h4)
       .cases hsc2
    .exact Vd p t q hq h.1 h.2 hs hk hn
   .exact WC p t q hq h.1 h.2 hs hk
  .have e:iN p=(p,false):=by unfold iN;rw[hq];simp only;rw[cY h]
   rw[e];exact JH p hs (by by_cases h1:p.block=0;exact .inr (.inr λh2=>h ⟨h1,h2⟩);exact .inr (.inl h1))
theorem Ng[aB prog][dM prog][bQ prog][oO prog](p:aI)(hs:aL p<=536870912):Ok prog 96 [.agg (aJ .view p)] (.gM [.agg (aJ .own (jH p).1),.bool (jH p).2]):=by
 have c1:=iI p (by omega);have hsb:aU p.builder<=536870912:=by simp only[aL]at hs;omega
 have hsl:p.aC.length<=536870912:=by simp only[aL,bP]at hs;omega
 have c2:=Ct p (by omega);have hbd:∀s∈p.aC,s.body.length<=536870912:=λs hm=>by have:=Ui lJ hm;simp only[aL,bP,lJ]at hs this;omega
 unfold jH;by_cases hin:p.inline=0
 .rw [cY (by simp[hin])];by_cases hbk:p.block=0
  .rw [cY (by simp[hbk])];have c3:=OT p hs;generalize iN p=r at*;obtain⟨q,b⟩:=r;simp only[aJ,hin,hbk]at c1 c2 c3⊢;clear hbd;refine bM aG func96 ntmps96 ?_;have W:=aA hin hbk;refine we ?_;exact aF results96
  .rw [eK hbk];generalize hk:i64.wrap (p.block-1)=k;unfold BM;by_cases h0:0<=k
   .rw [eK h0];obtain⟨kn,rfl⟩:=mS h0;rw[mA];have hk0:¬(kn:Int)<0:=by omega
    by_cases hlt:kn<p.aC.length
    .have hg:=aE hlt;have hlen:¬(p.aC.length:Int)<=(kn:Int):=by omega
     rw[hg];simp only;have aIv:=hbd _ (fS hlt);cases hd:p.aC[kn].done
     .rw [cY (by simp)];simp only[aJ,hin]at c1 c2⊢;clear hbd;refine bM aG func96 ntmps96 ?_;have W:=aA hin (aA hbk (aA hk (aA hk0 (aA hlen (aA hg (aA hlt hd))))));refine we ?_;exact aF results96
     .generalize p.aC.all oK=S9 at*;cases S9
      .rw [cY (by simp)];simp only[aJ,hin]at c1 c2⊢;clear hbd;refine bM aG func96 ntmps96 ?_;have W:=aA hin (aA hbk (aA hk (aA hk0 (aA hlen (aA hg (aA hlt hd))))));refine we ?_;exact aF results96
      .rw [eK ⟨rfl,rfl⟩];by_cases ZN:p.aC[kn].code=1
       .rw [eK ZN];have c4:=Ck p p.aC[kn].body true hs (by omega);generalize lZ p p.aC[kn].body true=q at*;simp only[aJ,hin]at c1 c2 c4⊢;clear hbd;refine bM aG func96 ntmps96 ?_;have W:=aA hin (aA hbk (aA hk (aA hk0 (aA hlen (aA hg (aA hlt (aA hd ZN)))))));refine we ?_;exact aF results96
       .rw [cY ZN];simp only[aJ,hin]at c1 c2⊢;clear hbd;refine bM aG func96 ntmps96 ?_;have W:=aA hin (aA hbk (aA hk (aA hk0 (aA hlen (aA hg (aA hlt (aA hd ZN)))))));refine we ?_;exact aF results96
    .have hg:p.aC[kn]? =none:=pC (by omega);have hlen:(p.aC.length:Int)<=(kn:Int):=by omega
     rw[hg];simp only;simp only[aJ,hin]at c1 c2⊢;clear hbd;refine bM aG func96 ntmps96 ?_;have W:=aA hin (aA hbk (aA hk (aA hk0 hlen)));refine we ?_;exact aF results96
   .rw [cY h0];have hk0:k<0:=by omega
    simp only[aJ,hin]at c1 c2⊢;clear hbd;refine bM aG func96 ntmps96 ?_;have W:=aA hin (aA hbk (aA hk hk0));refine we ?_;exact aF results96
 .rw [eK hin];generalize p.aC.all oK=S9 at*;cases S9
  .rw [cY (by simp)];simp only[aJ]at c1 c2⊢;clear hbd;refine bM aG func96 ntmps96 ?_;have W:=hin;refine we ?_;exact aF results96
  .rw [eK rfl];have c3:=Wq p.builder p.inline (by omega);have htl:=Uh p.builder p.inline;generalize Cu p.builder p.inline=tx at*;have c4:=Ck p tx true hs (by omega);generalize lZ p tx true=q at*;simp only[aJ,aV]at c1 c2 c3 c4⊢;clear hbd;refine bM aG func96 ntmps96 ?_;have W:=hin;refine we ?_;exact aF results96
end Go.Proofs.YthddijamfbfibaaGreatDoor
