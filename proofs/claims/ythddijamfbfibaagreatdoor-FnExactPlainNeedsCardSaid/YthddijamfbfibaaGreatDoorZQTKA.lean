/- Proved here: steps towards the statement of this claim. No condition. -/
import Derived.Test.YthddijamfbfibaaGreatDoorZQTK7
set_option linter.all false
set_option maxRecDepth 8000
set_option maxHeartbeats 8000000
namespace Go.Proofs.YthddijamfbfibaaGreatDoor
open Go.Aw Proofs.Tryz List IntKind
theorem JG[aB prog](p:aI)(hs:aL p<=536870912)(h:p.queue=[]\/p.block≠0\/p.inline≠0):Ok prog 124 [.agg (aJ .view p)] (.gM [.agg (aJ .own p),.bool false]):=by
 have c1:=gK p (by omega);simp only[aJ]at c1;by_cases hl0:p.queue.length=0
 .refine bM aG func124 ntmps124 ?_;have W:=hl0;refine we ?_;exact aF results124
 .have hq:p.queue≠[]:=λh=>hl0 (by rw[h];rfl)
  by_cases hb:p.block=0
  .have hi:¬p.inline=0:=by
    rcases h with h|h|h
    .exact absurd h hq
    .exact absurd hb h
    .exact h
   rw[hb]at c1;refine bM aG func124 ntmps124 ?_;have W:=aA hl0 (aA hb hi);refine we ?_;all_goals try(refine aR ?_;simp[aP,results124,hb])
  .refine bM aG func124 ntmps124 ?_;have W:=aA hl0 hb;refine we ?_;exact aF results124
theorem UW[aB prog](p:aI)(t:bT)(q:List bT)(hq:p.queue=t::q)(hb:p.block=0)(hi:p.inline=0)(hs:aL p<=536870912)(hk:¬t.kind=2)(ho:p.builder.opens=[]):Ok prog 124 [.agg (aJ .view p)] (.gM [.agg (aJ .own (jS p t q)),.bool true]):=by
 have hq1:=uR hq;have hts:bW t<=536870912:=by have h1:=bS bW (show t∈p.queue by rw[hq];simp);simp only[aL,bP]at hs;omega
 have hbs:aU p.builder<=536870912:=by simp only[aL]at hs;omega
 have hbl:p.builder.nodes.length<=536870912/\p.builder.opens.length<=536870912:=by simp only[aU,bP]at hbs;omega
 have c1:=gK p (by omega);have c2:=rA p.builder t (by omega) (by omega);have c3:=Ht {p with queue:=q,builder:=(addToken p.builder t).1} t (addToken p.builder t).2 (by omega) (by omega);unfold jS;rw[AO (λh=>hk h.1)];generalize addToken p.builder t=u at*;obtain⟨⟨n1,o1⟩,k1⟩:=u;simp only at c2 c3⊢;obtain⟨ad,pol,tok,queue,ended,Bg,aC,aO,entries,block,inline,deferred,iC,uA,log,pF⟩:=p;obtain⟨tk,tn,ta,tx⟩:=t;simp only at hq hb hi hbl hk c1 c2 c3⊢;subst hq;subst hb;subst hi;simp only[aJ,bN,aV,dP,aH]at c1;simp only[aV]at c2;have hl1:¬(q.length:Int)+1=0:=by omega
 have yA:(q.map (cB .own)).take q.length=q.map (cB .own):=cX (by simp);simp only at ho;have hl0:Bg.opens.length=0:=by rw[ho];rfl
 clear ho;by_cases h1:tk=1
 .subst h1;by_cases h0:0<=k1
  .rw [eK ⟨rfl,h0⟩];generalize Be _ _ k1=g at*;simp only[aJ,bN,aV,dP,aH,cB]at c3;refine uP aG [4] func124 ntmps124 ?_;have W:=aA hl1 (aA yA (aA hl0 (aA h0 hbl)));refine we ?_;refine go_share 5 0 (by rfl) (by rfl) (by simp;rfl) ?_;have W:=aA hl1 (aA yA (aA hl0 (aA h0 hbl)));repeat' first|refine wf ?_|(refine nx ?_;refine sg (hc:=c3) (h:=?_))|(refine sq ?_ ?_<;>intro hc<;>try exact hc.elim)|fail
   exact aF results124
  .rw [cY (λh=>h0 h.2)]
   refine uP aG [4] func124 ntmps124 ?_;have W:=aA hl1 (aA yA (aA hl0 (aA h0 hbl)));refine we ?_;refine go_share 5 0 (by rfl) (by rfl) (by simp;rfl) ?_;have W:=aA hl1 (aA yA (aA hl0 (aA h0 hbl)));refine we ?_;exact aF results124
 .rw [cY (λh=>h1 h.1)]
  by_cases h0:0<=k1
  .skip
   refine uP aG [4] func124 ntmps124 ?_;have W:=aA hl1 (aA yA (aA hl0 (aA h0 (aA hk (aA h1 hbl)))));refine we ?_;refine go_share 5 0 (by rfl) (by rfl) (by simp;rfl) ?_;have W:=aA hl1 (aA yA (aA hl0 (aA h0 (aA hk (aA h1 hbl)))));refine we ?_;exact aF results124
  .skip
   refine uP aG [4] func124 ntmps124 ?_;have W:=aA hl1 (aA yA (aA hl0 (aA h0 (aA hk (aA h1 hbl)))));refine we ?_;refine go_share 5 0 (by rfl) (by rfl) (by simp;rfl) ?_;have W:=aA hl1 (aA yA (aA hl0 (aA h0 (aA hk (aA h1 hbl)))));refine we ?_;exact aF results124
theorem UX[aB prog](p:aI)(t:bT)(q:List bT)(hq:p.queue=t::q)(hb:p.block=0)(hi:p.inline=0)(hs:aL p<=536870912)(hk:¬t.kind=2)(os:List Int)(lo:Int)(ho:p.builder.opens=os++[lo]):Ok prog 124 [.agg (aJ .view p)] (.gM [.agg (aJ .own (jS p t q)),.bool true]):=by
 have hq1:=uR hq;have hts:bW t<=536870912:=by have h1:=bS bW (show t∈p.queue by rw[hq];simp);simp only[aL,bP]at hs;omega
 have hbs:aU p.builder<=536870912:=by simp only[aL]at hs;omega
 have hbl:p.builder.nodes.length<=536870912/\p.builder.opens.length<=536870912:=by simp only[aU,bP]at hbs;omega
 have c1:=gK p (by omega);have c2:=rA p.builder t (by omega) (by omega);have c3:=Ht {p with queue:=q,builder:=(addToken p.builder t).1} t (addToken p.builder t).2 (by omega) (by omega);unfold jS;rw[AO (λh=>hk h.1)];generalize addToken p.builder t=u at*;obtain⟨⟨n1,o1⟩,k1⟩:=u;simp only at c2 c3⊢;obtain⟨ad,pol,tok,queue,ended,Bg,aC,aO,entries,block,inline,deferred,iC,uA,log,pF⟩:=p;obtain⟨tk,tn,ta,tx⟩:=t;simp only at hq hb hi hbl hk c1 c2 c3⊢;subst hq;subst hb;subst hi;simp only[aJ,bN,aV,dP,aH]at c1;simp only[aV]at c2;have hl1:¬(q.length:Int)+1=0:=by omega
 have yA:(q.map (cB .own)).take q.length=q.map (cB .own):=cX (by simp);simp only at ho;have hl0:(0:Int)<(Bg.opens.length:Int):=by rw[ho];simp<;>omega
 have hlp:0<Bg.opens.length:=by omega
 have hlt:os.length<Bg.opens.length:=by rw[ho];simp
 have hg:Bg.opens[os.length]? =some lo:=by rw[ho];simp
 have hw:i64.wrap ((Bg.opens.length:Int)-1)=((os.length:Nat):Int):=by
  have e:Bg.opens.length=os.length+1:=by rw[ho];simp
  rw[wrap64]<;>omega
 clear ho;by_cases h1:tk=1
 .subst h1;by_cases h0:0<=k1
  .rw [eK ⟨rfl,h0⟩];generalize Be _ _ k1=g at*;simp only[aJ,bN,aV,dP,aH,cB]at c3;refine uP aG [4] func124 ntmps124 ?_;have W:=aA hl1 (aA yA (aA hlp (aA hl0 (aA hw (aA hg (aA h0 hbl))))));have V:=hlt;refine we ?_;refine go_share 5 0 (by rfl) (by rfl) (by simp;rfl) ?_;have W:=aA hl1 (aA yA (aA hlp (aA hl0 (aA hw (aA hg (aA h0 hbl))))));have V:=hlt;repeat' first|refine wf ?_|(refine nx ?_;refine sg (hc:=c3) (h:=?_))|(refine sq ?_ ?_<;>intro hc<;>try exact hc.elim)|fail
   exact aF results124
  .rw [cY (λh=>h0 h.2)]
   refine uP aG [4] func124 ntmps124 ?_;have W:=aA hl1 (aA yA (aA hlp (aA hl0 (aA hw (aA hg (aA h0 hbl))))));have V:=hlt;refine we ?_;refine go_share 5 0 (by rfl) (by rfl) (by simp;rfl) ?_;have W:=aA hl1 (aA yA (aA hlp (aA hl0 (aA hw (aA hg (aA h0 hbl))))));have V:=hlt;refine we ?_;exact aF results124
 .rw [cY (λh=>h1 h.1)]
  by_cases h0:0<=k1
  .skip
   refine uP aG [4] func124 ntmps124 ?_;have W:=aA hl1 (aA yA (aA hlp (aA hl0 (aA hw (aA hg (aA h0 (aA hk (aA h1 hbl))))))));have V:=hlt;refine we ?_;refine go_share 5 0 (by rfl) (by rfl) (by simp;rfl) ?_;have W:=aA hl1 (aA yA (aA hlp (aA hl0 (aA hw (aA hg (aA h0 (aA hk (aA h1 hbl))))))));have V:=hlt;refine we ?_;exact aF results124
  .skip
   refine uP aG [4] func124 ntmps124 ?_;have W:=aA hl1 (aA yA (aA hlp (aA hl0 (aA hw (aA hg (aA h0 (aA hk (aA h1 hbl))))))));have V:=hlt;refine we ?_;refine go_share 5 0 (by rfl) (by rfl) (by simp;rfl) ?_;have W:=aA hl1 (aA yA (aA hlp (aA hl0 (aA hw (aA hg (aA h0 (aA hk (aA h1 hbl))))))));have V:=hlt;refine we ?_;exact aF results124
theorem WA[aB prog](p:aI)(t:bT)(q:List bT)(hq:p.queue=t::q)(hb:p.block=0)(hi:p.inline=0)(hs:aL p<=536870912)(hk:¬t.kind=2):Ok prog 124 [.agg (aJ .view p)] (.gM [.agg (aJ .own (jS p t q)),.bool true]):=by
 rcases Bk p.builder.opens with ho|⟨os,lo,ho⟩
 .exact UW p t q hq hb hi hs hk ho
 .exact UX p t q hq hb hi hs hk os lo (by simpa using ho)
theorem UY[aB prog](p:aI)(t:bT)(q:List bT)(hq:p.queue=t::q)(hb:p.block=0)(hi:p.inline=0)(hs:aL p<=536870912)(hk:t.kind=2)(hn:¬t.name=iR):Ok prog 124 [.agg (aJ .view p)] (.gM [.agg (aJ .own (jS p t q)),.bool true]):=by
 have hq1:=uR hq;have hts:bW t<=536870912:=by have h1:=bS bW (show t∈p.queue by rw[hq];simp);simp only[aL,bP]at hs;omega
 have hbs:aU p.builder<=536870912:=by simp only[aL]at hs;omega
 have hbl:p.builder.nodes.length<=536870912/\p.builder.opens.length<=536870912:=by simp only[aU,bP]at hbs;omega
 have c1:=gK p (by omega);have c2:=rA p.builder t (by omega) (by omega);obtain⟨hm,_⟩:=pV (b:=p.builder) hk;unfold jS;rw[AO (λh=>hn h.2)];rw[hm]at c2⊢;generalize (addToken p.builder t).1=u at*;obtain⟨n1,o1⟩:=u;simp only at c2⊢;obtain⟨ad,pol,tok,queue,ended,Bg,aC,aO,entries,block,inline,deferred,iC,uA,log,pF⟩:=p;obtain⟨tk,tn,ta,tx⟩:=t;simp only at hq hb hi hbl hk hn c1 c2⊢;subst hq;subst hb;subst hi;subst hk;have hnb:(tn == [115,99,114,105,112,116])=false:=by simpa [iR]using hn
 rw[cY (by rintro⟨h,_⟩;cases h)];simp only[aJ,bN,aV,dP,aH]at c1;simp only[aV]at c2;have hl1:¬(q.length:Int)+1=0:=by omega
 have yA:(q.map (cB .own)).take q.length=q.map (cB .own):=cX (by simp);rcases Bk Bg.opens with ho|⟨os,lo,ho⟩
 .have hl0:Bg.opens.length=0:=by rw[ho];rfl
  refine uP aG [4] func124 ntmps124 ?_;have W:=aA hl1 (aA yA (aA hnb (aA hl0 hbl)));refine we ?_;refine go_share 5 0 (by rfl) (by rfl) (by simp;rfl) ?_;have W:=aA hl1 (aA yA (aA hnb (aA hl0 hbl)));refine we ?_;exact aF results124
 .have hl0:(0:Int)<(Bg.opens.length:Int):=by rw[ho];simp<;>omega
  have hlt:os.length<Bg.opens.length:=by rw[ho];simp
  have hg:Bg.opens[os.length]? =some lo:=by rw[ho];simp
  have hlp:0<Bg.opens.length:=by omega
  have hw:i64.wrap ((Bg.opens.length:Int)-1)=((os.length:Nat):Int):=by rw[wrap64]<;>(simp[ho]at hbl⊢;try omega)
  clear ho;refine uP aG [4] func124 ntmps124 ?_;have W:=aA hl1 (aA yA (aA hnb (aA hlp (aA hl0 (aA hw (aA hg hbl))))));have V:=hlt;refine we ?_;refine go_share 5 0 (by rfl) (by rfl) (by simp;rfl) ?_;have W:=aA hl1 (aA yA (aA hnb (aA hlp (aA hl0 (aA hw (aA hg hbl))))));have V:=hlt;refine we ?_;exact aF results124
theorem WB[aB prog](p:aI)(t:bT)(q:List bT)(hq:p.queue=t::q)(hb:p.block=0)(hi:p.inline=0)(hs:aL p<=536870912)(hk:t.kind=2)(hn:t.name=iR)(ho:p.builder.opens=[]):Ok prog 124 [.agg (aJ .view p)] (.gM [.agg (aJ .own (jS p t q)),.bool true]):=by
 have hq1:=uR hq;have hts:bW t<=536870912:=by have h1:=bS bW (show t∈p.queue by rw[hq];simp);simp only[aL,bP]at hs;omega
 have hbs:aU p.builder<=536870912:=by simp only[aL]at hs;omega
 have hbl:p.builder.nodes.length<=536870912/\p.builder.opens.length<=536870912:=by simp only[aU,bP]at hbs;omega
 have c1:=gK p (by omega);have c2:=rA p.builder t (by omega) (by omega);obtain⟨hm,_⟩:=pV (b:=p.builder) hk;unfold jS;rw[Mq ho];have hl0:p.builder.opens.length=0:=by rw[ho];rfl
 rw[hm]at c2⊢;generalize (addToken p.builder t).1=u at*;obtain⟨n1,o1⟩:=u;simp only at c2⊢;obtain⟨ad,pol,tok,queue,ended,Bg,aC,aO,entries,block,inline,deferred,iC,uA,log,pF⟩:=p;obtain⟨tk,tn,ta,tx⟩:=t;simp only at hq hb hi hbl hk hn c1 c2 hl0⊢;subst hq;subst hb;subst hi;clear ho;subst hk;simp only[iR]at hn;subst hn;rw[cY (by rintro⟨h,_⟩;cases h)];simp only[aJ,bN,aV,dP,aH]at c1;simp only[aV]at c2;have hl1:¬(q.length:Int)+1=0:=by omega
 have yA:(q.map (cB .own)).take q.length=q.map (cB .own):=cX (by simp);have c4:=gH (-1) 1 ((Bg.nodes.length:Int)-1);rw[show(decide ((1:Int)<= -1)&&decide ((-1:Int)<=(Bg.nodes.length:Int)-1))=false from by simp]at c4;have hw2:i64.wrap ((Bg.nodes.length:Int)-1)=(Bg.nodes.length:Int)-1:=by rw[wrap64]<;>omega
 refine uP aG [4] func124 ntmps124 ?_;have W:=aA hl1 (aA yA (aA hl0 (aA hw2 hbl)));refine we ?_;refine go_share 5 0 (by rfl) (by rfl) (by simp;rfl) ?_;have W:=aA hl1 (aA yA (aA hl0 (aA hw2 hbl)));refine we ?_;exact aF results124
theorem UZ[aB prog](p:aI)(t:bT)(q:List bT)(hq:p.queue=t::q)(hb:p.block=0)(hi:p.inline=0)(hs:aL p<=536870912)(hk:t.kind=2)(hn:t.name=iR)(os:List Int)(lo:Int)(ho:p.builder.opens=os++[lo])(hs0:tK p.builder t=none):Ok prog 124 [.agg (aJ .view p)] (.gM [.agg (aJ .own (jS p t q)),.bool true]):=by
 have hq1:=uR hq;have hts:bW t<=536870912:=by have h1:=bS bW (show t∈p.queue by rw[hq];simp);simp only[aL,bP]at hs;omega
 have hbs:aU p.builder<=536870912:=by simp only[aL]at hs;omega
 have hbl:p.builder.nodes.length<=536870912/\p.builder.opens.length<=536870912:=by simp only[aU,bP]at hbs;omega
 have c1:=gK p (by omega);have c2:=rA p.builder t (by omega) (by omega);obtain⟨hm,_⟩:=pV (b:=p.builder) hk;have Ic:∀(k:Nat) (nd:jP),1<=k->p.builder.opens=os++[((k:Nat):Int)]->p.builder.nodes[k]? =some nd->nd.name=iR->False:=λk nd h1 h2 h3 h4=>by have h5:=BB hk hn h2 h1 h3 h4;rw[hs0]at h5;cases h5
 unfold jS;rw[hs0];clear hs0;have hl0:(0:Int)<(p.builder.opens.length:Int):=by rw[ho];simp<;>omega
 have hlt:os.length<p.builder.opens.length:=by rw[ho];simp
 have hg:p.builder.opens[os.length]? =some lo:=by rw[ho];simp
 have hw:i64.wrap ((p.builder.opens.length:Int)-1)=((os.length:Nat):Int):=by
  have e:p.builder.opens.length=os.length+1:=by rw[ho];simp
  rw[wrap64]<;>omega
 rw[hm]at c2⊢;generalize (addToken p.builder t).1=u at*;obtain⟨n1,o1⟩:=u;simp only at c2⊢;obtain⟨ad,pol,tok,queue,ended,Bg,aC,aO,entries,block,inline,deferred,iC,uA,log,pF⟩:=p;obtain⟨tk,tn,ta,tx⟩:=t;simp only at hq hb hi hbl hk hn c1 c2 hl0 hlt hg hw ho Ic⊢;subst hq;subst hb;subst hi;subst hk;simp only[iR]at hn;subst hn;rw[cY (by rintro⟨h,_⟩;cases h)];simp only[aJ,bN,aV,dP,aH]at c1;simp only[aV]at c2;have hl1:¬(q.length:Int)+1=0:=by omega
 have yA:(q.map (cB .own)).take q.length=q.map (cB .own):=cX (by simp);have hw2:i64.wrap ((Bg.nodes.length:Int)-1)=(Bg.nodes.length:Int)-1:=by rw[wrap64]<;>omega
 have c4:=gH lo 1 ((Bg.nodes.length:Int)-1);have hlp:0<Bg.opens.length:=by omega
 by_cases h1:1<=lo
 .by_cases h2:lo<(Bg.nodes.length:Int)
  .rw [show(decide ((1:Int)<=lo)&&decide (lo<=(Bg.nodes.length:Int)-1))=true from by simp;omega]at c4;obtain⟨k,rfl⟩:=mS (show 0<=lo by omega);have hkl:k<Bg.nodes.length:=by omega
   have Es:=aE hkl;have hne:(Bg.nodes[k].name == [115,99,114,105,112,116])=false:=by
    cases h:(Bg.nodes[k].name == [115,99,114,105,112,116])with
    |false=>rfl
    |true=>exact(Ic k _ (by omega) ho Es (by simpa [iR]using h)).elim
   clear Ic ho;refine uP aG [4] func124 ntmps124 ?_;have W:=aA hl1 (aA yA (aA hl0 (aA hw (aA hg (aA h1 (aA Es (aA hkl (aA hne (aA hw2 (aA hlp hbl))))))))));have V:=hlt;refine we ?_;refine go_share 5 0 (by rfl) (by rfl) (by simp;rfl) ?_;have W:=aA hl1 (aA yA (aA hl0 (aA hw (aA hg (aA h1 (aA Es (aA hkl (aA hne (aA hw2 (aA hlp hbl))))))))));have V:=hlt;refine we ?_;exact aF results124
  .skip
   clear Ic ho;rw[show(decide ((1:Int)<=lo)&&decide (lo<=(Bg.nodes.length:Int)-1))=false from by simp;omega]at c4;refine uP aG [4] func124 ntmps124 ?_;have W:=aA hl1 (aA yA (aA hl0 (aA hw (aA hg (aA h1 (aA h2 (aA hw2 (aA hlp hbl))))))));have V:=hlt;refine we ?_;refine go_share 5 0 (by rfl) (by rfl) (by simp;rfl) ?_;have W:=aA hl1 (aA yA (aA hl0 (aA hw (aA hg (aA h1 (aA h2 (aA hw2 (aA hlp hbl))))))));have V:=hlt;refine we ?_;exact aF results124
 .skip
  clear Ic ho;rw[show(decide ((1:Int)<=lo)&&decide (lo<=(Bg.nodes.length:Int)-1))=false from by simp;omega]at c4;refine uP aG [4] func124 ntmps124 ?_;have W:=aA hl1 (aA yA (aA hl0 (aA hw (aA hg (aA h1 (aA hw2 (aA hlp hbl)))))));have V:=hlt;refine we ?_;refine go_share 5 0 (by rfl) (by rfl) (by simp;rfl) ?_;have W:=aA hl1 (aA yA (aA hl0 (aA hw (aA hg (aA h1 (aA hw2 (aA hlp hbl)))))));have V:=hlt;refine we ?_;exact aF results124
theorem QN[aB prog](p:aI)(t:bT)(q:List bT)(hq:p.queue=t::q)(hb:p.block=0)(hi:p.inline=0)(hs:aL p<=536870912)(hk:t.kind=2)(hn:t.name=iR)(os:List Int)(k:Nat)(ho:p.builder.opens=os++[((k:Nat):Int)])(nd:jP)(hk1:1<=k)(Es:p.builder.nodes[k]? =some nd)(hns:nd.name=iR):Ok prog 124 [.agg (aJ .view p)] (.gM [.agg (aJ .own (jS p t q)),.bool true]):=by
 have hq1:=uR hq;have hts:bW t<=536870912:=by have h1:=bS bW (show t∈p.queue by rw[hq];simp);simp only[aL,bP]at hs;omega
 have hbs:aU p.builder<=536870912:=by simp only[aL]at hs;omega
 have hbl:p.builder.nodes.length<=536870912/\p.builder.opens.length<=536870912:=by simp only[aU,bP]at hbs;omega
 have c1:=gK p (by omega);have c2:=rA p.builder t (by omega) (by omega);obtain⟨hm,hmn⟩:=pV (b:=p.builder) hk;have hkl:k<p.builder.nodes.length:=(cH.1 Es).1;have c3:=Ox {p with queue:=q,builder:=(addToken p.builder t).1} k nd (by simp only[hmn];exact hkl) (by simp only[hmn];exact Es) (by omega);unfold jS;rw[BB hk hn ho hk1 Es hns];simp only[Es,Option.elim];have hl0:(0:Int)<(p.builder.opens.length:Int):=by rw[ho];simp<;>omega
 have hlt:os.length<p.builder.opens.length:=by rw[ho];simp
 have hg:p.builder.opens[os.length]? =some ((k:Nat):Int):=by rw[ho];simp
 have hw:i64.wrap ((p.builder.opens.length:Int)-1)=((os.length:Nat):Int):=by
  have e:p.builder.opens.length=os.length+1:=by rw[ho];simp
  rw[wrap64]<;>omega
 have hnb:(nd.name == [115,99,114,105,112,116])=true:=by simpa [iR]using hns
 generalize tJ _ k nd.attrs=g at*;rw[hm]at c2;generalize (addToken p.builder t).1=u at*;obtain⟨n1,o1⟩:=u;try simp only at c2
 try simp only at c3
 obtain⟨ad,pol,tok,queue,ended,Bg,aC,aO,entries,block,inline,deferred,iC,uA,log,pF⟩:=p;obtain⟨tk,tn,ta,tx⟩:=t;simp only at hq hb hi hbl hk hn c1 c2 c3 hl0 hlt hg hw Es hkl;subst hq;subst hb;subst hi;clear ho hns hm hmn;subst hk;simp only[iR]at hn;subst hn;simp only[aJ,bN,aV,dP,aH]at c1;simp only[aV]at c2;have hl1:¬(q.length:Int)+1=0:=by omega
 have yA:(q.map (cB .own)).take q.length=q.map (cB .own):=cX (by simp);have hw2:i64.wrap ((Bg.nodes.length:Int)-1)=(Bg.nodes.length:Int)-1:=by rw[wrap64]<;>omega
 have c4:=gH ((k:Nat):Int) 1 ((Bg.nodes.length:Int)-1);rw[show(decide ((1:Int)<=((k:Nat):Int))&&decide (((k:Nat):Int)<=(Bg.nodes.length:Int)-1))=true from by simp;omega]at c4;have aIt:(1:Int)<=((k:Nat):Int):=by omega
 simp only[aJ,bN,aV,dP,aH]at c3;have aIu:(Bg.nodes[k].name == [115,99,114,105,112,116])=true:=by rw[aE hkl]at Es;rw[cQ Es];exact hnb
 have hlp:0<Bg.opens.length:=by omega
 refine uP aG [4] func124 ntmps124 ?_;have W:=aA hl1 (aA yA (aA hlp (aA hl0 (aA hw (aA hg (aA aIt (aA hkl (aA Es (aA aIu (aA hw2 (aA hlp hbl)))))))))));have V:=hlt;refine we ?_;refine go_share 5 0 (by rfl) (by rfl) (by simp;rfl) ?_;have W:=aA hl1 (aA yA (aA hlp (aA hl0 (aA hw (aA hg (aA aIt (aA hkl (aA Es (aA aIu (aA hw2 (aA hlp hbl)))))))))));have V:=hlt;repeat' first|refine wf ?_|(refine nx ?_;refine sg (hc:=c3) (h:=?_))|(refine sq ?_ ?_<;>intro hc<;>try exact hc.elim)|fail
 exact aF results124
theorem OM[aB prog](p:aI)(hs:aL p<=536870912):Ok prog 124 [.agg (aJ .view p)] (.gM [.agg (aJ .own (iN p).1),.bool (iN p).2]):=by
 cases hq:p.queue with
 |nil=>
  have e:iN p=(p,false):=by unfold iN;rw[hq]
  rw[e];exact JG p hs (.inl hq)
 |cons t q=>
  by_cases h:p.block=0/\p.inline=0
  .have e:iN p=(jS p t q,true):=by unfold iN;rw[hq];simp only;rw[eK h]
   rw[e];by_cases hk:t.kind=2
   .by_cases hn:t.name=iR
    .rcases Bk p.builder.opens with ho|⟨os,lo,ho⟩
     .exact WB p t q hq h.1 h.2 hs hk hn ho
     .cases hsc:tK p.builder t with
      |none=>exact UZ p t q hq h.1 h.2 hs hk hn os lo (by simpa using ho) hsc
      |some k=>
       have hsc2:=hsc;unfold tK at hsc2;rw[eK ⟨hk,hn⟩,ho]at hsc2;simp only[concat_eq_append,getLast?_concat]at hsc2;split at hsc2
       .rename_i h3;obtain⟨h3,h4⟩:=h3;obtain rfl:=cQ hsc2;cases Es:p.builder.nodes[lo.toNat]? with
        |none=>rw[Es]at h4;simp at h4
        |some nd=>rw[Es]at h4;exact QN p t q hq h.1 h.2 hs hk hn os lo.toNat (by rw[ho];simp<;>omega) nd (by omega) Es (by simpa using h4)
       .cases hsc2
    .exact UY p t q hq h.1 h.2 hs hk hn
   .exact WA p t q hq h.1 h.2 hs hk
  .have e:iN p=(p,false):=by unfold iN;rw[hq];simp only;rw[cY h]
   rw[e];exact JG p hs (by by_cases h1:p.block=0;exact .inr (.inr λh2=>h ⟨h1,h2⟩);exact .inr (.inl h1))
theorem Nb[aB prog][dM prog][bQ prog][oO prog](p:aI)(hs:aL p<=536870912):Ok prog 72 [.agg (aJ .view p)] (.gM [.agg (aJ .own (jH p).1),.bool (jH p).2]):=by
 have c1:=gK p (by omega);have hsb:aU p.builder<=536870912:=by simp only[aL]at hs;omega
 have hsl:p.aC.length<=536870912:=by simp only[aL,bP]at hs;omega
 have c2:=Cs p (by omega);have hbd:∀s∈p.aC,s.body.length<=536870912:=λs hm=>by have:=Ui lJ hm;simp only[aL,bP,lJ]at hs this;omega
 unfold jH;by_cases hin:p.inline=0
 .rw [cY (by simp[hin])];by_cases hbk:p.block=0
  .rw [cY (by simp[hbk])];have c3:=OM p hs;generalize iN p=r at*;obtain⟨q,b⟩:=r;simp only[aJ,hin,hbk]at c1 c2 c3⊢;clear hbd;refine bM aG func72 ntmps72 ?_;have W:=aA hin hbk;refine we ?_;exact aF results72
  .rw [eK hbk];generalize hk:i64.wrap (p.block-1)=k;unfold BM;by_cases h0:0<=k
   .rw [eK h0];obtain⟨kn,rfl⟩:=mS h0;rw[mA];have hk0:¬(kn:Int)<0:=by omega
    by_cases hlt:kn<p.aC.length
    .have hg:=aE hlt;have hlen:¬(p.aC.length:Int)<=(kn:Int):=by omega
     rw[hg];simp only;have aIv:=hbd _ (fS hlt);have hw1:i64.wrap ((p.aC.length:Int)-1)=(p.aC.length:Int)-1:=by rw[wrap64]<;>omega
     have c5:=gH (kn:Int) 0 ((p.aC.length:Int)-1);rw[show(decide ((0:Int)<=(kn:Int))&&decide ((kn:Int)<=(p.aC.length:Int)-1))=true from by simp;omega]at c5;cases hd:p.aC[kn].done
     .rw [cY (by simp)];simp only[aJ,hin]at c1 c2⊢;clear hbd;refine bM aG func72 ntmps72 ?_;have W:=aA hin (aA hbk (aA hk (aA hk0 (aA hlen (aA hg (aA hlt (aA hd hw1)))))));refine we ?_;exact aF results72
     .generalize p.aC.all oK=S9 at*;cases S9
      .rw [cY (by simp)];simp only[aJ,hin]at c1 c2⊢;clear hbd;refine bM aG func72 ntmps72 ?_;have W:=aA hin (aA hbk (aA hk (aA hk0 (aA hlen (aA hg (aA hlt (aA hd hw1)))))));refine we ?_;exact aF results72
      .rw [eK ⟨rfl,rfl⟩];by_cases ZN:p.aC[kn].code=1
       .rw [eK ZN];have c4:=Cm p p.aC[kn].body true hs (by omega);generalize lZ p p.aC[kn].body true=q at*;simp only[aJ,hin]at c1 c2 c4⊢;clear hbd;refine bM aG func72 ntmps72 ?_;have W:=aA hin (aA hbk (aA hk (aA hk0 (aA hlen (aA hg (aA hlt (aA hd (aA ZN hw1))))))));refine we ?_;exact aF results72
       .rw [cY ZN];simp only[aJ,hin]at c1 c2⊢;clear hbd;refine bM aG func72 ntmps72 ?_;have W:=aA hin (aA hbk (aA hk (aA hk0 (aA hlen (aA hg (aA hlt (aA hd (aA ZN hw1))))))));refine we ?_;exact aF results72
    .have hg:p.aC[kn]? =none:=pC (by omega);have hlen:(p.aC.length:Int)<=(kn:Int):=by omega
     rw[hg];simp only;have hw1:i64.wrap ((p.aC.length:Int)-1)=(p.aC.length:Int)-1:=by rw[wrap64]<;>omega
     have c5:=gH (kn:Int) 0 ((p.aC.length:Int)-1);rw[show(decide ((0:Int)<=(kn:Int))&&decide ((kn:Int)<=(p.aC.length:Int)-1))=false from by simp;omega]at c5;simp only[aJ,hin]at c1 c2⊢;clear hbd;refine bM aG func72 ntmps72 ?_;have W:=aA hin (aA hbk (aA hk (aA hk0 (aA hlen hw1))));refine we ?_;exact aF results72
   .rw [cY h0];have hk0:k<0:=by omega
    have hw1:i64.wrap ((p.aC.length:Int)-1)=(p.aC.length:Int)-1:=by rw[wrap64]<;>omega
    have c5:=gH k 0 ((p.aC.length:Int)-1);rw[show(decide ((0:Int)<=k)&&decide (k<=(p.aC.length:Int)-1))=false from by simp;omega]at c5;simp only[aJ,hin]at c1 c2⊢;clear hbd;refine bM aG func72 ntmps72 ?_;have W:=aA hin (aA hbk (aA hk (aA hk0 hw1)));refine we ?_;exact aF results72
 .rw [eK hin];generalize p.aC.all oK=S9 at*;cases S9
  .rw [cY (by simp)];simp only[aJ]at c1 c2⊢;clear hbd;refine bM aG func72 ntmps72 ?_;have W:=hin;refine we ?_;exact aF results72
  .rw [eK rfl];have c3:=Ws p.builder p.inline (by omega);have htl:=Uh p.builder p.inline;generalize Cu p.builder p.inline=tx at*;have c4:=Cm p tx true hs (by omega);generalize lZ p tx true=q at*;simp only[aJ,aV]at c1 c2 c3 c4⊢;clear hbd;refine bM aG func72 ntmps72 ?_;have W:=hin;refine we ?_;exact aF results72
end Go.Proofs.YthddijamfbfibaaGreatDoor
