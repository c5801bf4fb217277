/- Proved here: steps towards the statement of this claim. No condition. -/
import Derived.Test.YtjkdolejalpflaaGreatDoorZQRC7
set_option linter.all false
set_option maxRecDepth 4000
set_option maxHeartbeats 4000000
namespace Go.Proofs.YtjkdolejalpflaaGreatDoor
open Go.Aw Proofs.Tryz List IntKind
theorem DZ[aB prog](p:aW)(hs:aK p<=536870912)(h:p.queue=[]\/p.block≠0\/p.inline≠0):Ok prog 22 [.agg (aL .view p)] (.fH [.agg (aL .own p),.bool false]):=by
 have c1:=gZ p (by omega);simp only[aL]at c1;by_cases hl0:p.queue.length=0
 .refine dA aJ func22 ntmps22 ?_;have W:=hl0;refine we ?_;exact aO results22
 .have hq:p.queue≠[]:=λh=>hl0 (by rw[h];rfl)
  by_cases hb:p.block=0
  .have hi:¬p.inline=0:=by
    rcases h with h|h|h
    .exact absurd h hq
    .exact absurd hb h
    .exact h
   rw[hb]at c1;refine dA aJ func22 ntmps22 ?_;have W:=aA hl0 (aA hb hi);refine we ?_;all_goals try(refine aP ?_;simp[aT,results22,hb])
  .refine dA aJ func22 ntmps22 ?_;have W:=aA hl0 hb;refine we ?_;exact aO results22
theorem MJ[aB prog](p:aW)(t:bD)(q:List bD)(hq:p.queue=t::q)(hb:p.block=0)(hi:p.inline=0)(hs:aK p<=536870912)(hk:¬t.kind=2)(ho:p.builder.opens=[]):Ok prog 22 [.agg (aL .view p)] (.fH [.agg (aL .own (gT p t q)),.bool true]):=by
 have hq1:=pK hq;have hts:bF t<=536870912:=by have h1:=eY bF (show t∈p.queue by rw[hq];simp);simp only[aK,dL]at hs;omega
 have hbs:aF p.builder<=536870912:=by simp only[aK]at hs;omega
 have hbl:p.builder.nodes.length<=536870912/\p.builder.opens.length<=536870912:=by simp only[aF,dL]at hbs;omega
 have c1:=gZ p (by omega);have c2:=mZ p.builder t (by omega) (by omega);have c3:=Cr {p with queue:=q,builder:=(addToken p.builder t).1} t (addToken p.builder t).2 (by omega) (by omega);unfold gT;rw[vP (λh=>hk h.1)];generalize addToken p.builder t=u at*;obtain⟨⟨n1,o1⟩,k1⟩:=u;simp only at c2 c3⊢;obtain⟨ad,xz,tok,queue,ended,vZ,aG,bT,entries,block,inline,deferred,lG,Dl,log,mU⟩:=p;obtain⟨tk,tn,ta,tx⟩:=t;simp only at hq hb hi hbl hk c1 c2 c3⊢;subst hq;subst hb;subst hi;simp only[aL,bG,aH,bW,dI]at c1;simp only[aH]at c2;have hl1:¬(q.length:Int)+1=0:=by omega
 have sP:(q.map (bE .own)).take q.length=q.map (bE .own):=eL (by simp);simp only at ho;have hl0:vZ.opens.length=0:=by rw[ho];rfl
 clear ho;by_cases h1:tk=1
 .subst h1;by_cases h0:0<=k1
  .rw [eA ⟨rfl,h0⟩];generalize vY _ _ k1=g at*;simp only[aL,bG,aH,bW,dI,bE]at c3;refine rR aJ [4] func22 ntmps22 ?_;have W:=aA hl1 (aA sP (aA hl0 (aA h0 hbl)));refine we ?_;refine go_share 5 0 (by rfl) (by rfl) (by simp;rfl) ?_;have W:=aA hl1 (aA sP (aA hl0 (aA h0 hbl)));repeat' first|refine wf ?_|(refine nx ?_;refine sg (hc:=c3) (h:=?_))|(refine sq ?_ ?_<;>intro hc<;>try exact hc.elim)|fail
   exact aO results22
  .rw [cU (λh=>h0 h.2)]
   refine rR aJ [4] func22 ntmps22 ?_;have W:=aA hl1 (aA sP (aA hl0 (aA h0 hbl)));refine we ?_;refine go_share 5 0 (by rfl) (by rfl) (by simp;rfl) ?_;have W:=aA hl1 (aA sP (aA hl0 (aA h0 hbl)));refine we ?_;exact aO results22
 .rw [cU (λh=>h1 h.1)]
  by_cases h0:0<=k1
  .skip
   refine rR aJ [4] func22 ntmps22 ?_;have W:=aA hl1 (aA sP (aA hl0 (aA h0 (aA hk (aA h1 hbl)))));refine we ?_;refine go_share 5 0 (by rfl) (by rfl) (by simp;rfl) ?_;have W:=aA hl1 (aA sP (aA hl0 (aA h0 (aA hk (aA h1 hbl)))));refine we ?_;exact aO results22
  .skip
   refine rR aJ [4] func22 ntmps22 ?_;have W:=aA hl1 (aA sP (aA hl0 (aA h0 (aA hk (aA h1 hbl)))));refine we ?_;refine go_share 5 0 (by rfl) (by rfl) (by simp;rfl) ?_;have W:=aA hl1 (aA sP (aA hl0 (aA h0 (aA hk (aA h1 hbl)))));refine we ?_;exact aO results22
theorem MK[aB prog](p:aW)(t:bD)(q:List bD)(hq:p.queue=t::q)(hb:p.block=0)(hi:p.inline=0)(hs:aK p<=536870912)(hk:¬t.kind=2)(os:List Int)(lo:Int)(ho:p.builder.opens=os++[lo]):Ok prog 22 [.agg (aL .view p)] (.fH [.agg (aL .own (gT p t q)),.bool true]):=by
 have hq1:=pK hq;have hts:bF t<=536870912:=by have h1:=eY bF (show t∈p.queue by rw[hq];simp);simp only[aK,dL]at hs;omega
 have hbs:aF p.builder<=536870912:=by simp only[aK]at hs;omega
 have hbl:p.builder.nodes.length<=536870912/\p.builder.opens.length<=536870912:=by simp only[aF,dL]at hbs;omega
 have c1:=gZ p (by omega);have c2:=mZ p.builder t (by omega) (by omega);have c3:=Cr {p with queue:=q,builder:=(addToken p.builder t).1} t (addToken p.builder t).2 (by omega) (by omega);unfold gT;rw[vP (λh=>hk h.1)];generalize addToken p.builder t=u at*;obtain⟨⟨n1,o1⟩,k1⟩:=u;simp only at c2 c3⊢;obtain⟨ad,xz,tok,queue,ended,vZ,aG,bT,entries,block,inline,deferred,lG,Dl,log,mU⟩:=p;obtain⟨tk,tn,ta,tx⟩:=t;simp only at hq hb hi hbl hk c1 c2 c3⊢;subst hq;subst hb;subst hi;simp only[aL,bG,aH,bW,dI]at c1;simp only[aH]at c2;have hl1:¬(q.length:Int)+1=0:=by omega
 have sP:(q.map (bE .own)).take q.length=q.map (bE .own):=eL (by simp);simp only at ho;have hl0:(0:Int)<(vZ.opens.length:Int):=by rw[ho];simp<;>omega
 have hlp:0<vZ.opens.length:=by omega
 have hlt:os.length<vZ.opens.length:=by rw[ho];simp
 have hg:vZ.opens[os.length]? =some lo:=by rw[ho];simp
 have hw:i64.wrap ((vZ.opens.length:Int)-1)=((os.length:Nat):Int):=by
  have e:vZ.opens.length=os.length+1:=by rw[ho];simp
  rw[wrap64]<;>omega
 clear ho;by_cases h1:tk=1
 .subst h1;by_cases h0:0<=k1
  .rw [eA ⟨rfl,h0⟩];generalize vY _ _ k1=g at*;simp only[aL,bG,aH,bW,dI,bE]at c3;refine rR aJ [4] func22 ntmps22 ?_;have W:=aA hl1 (aA sP (aA hlp (aA hl0 (aA hw (aA hg (aA h0 hbl))))));have V:=hlt;refine we ?_;refine go_share 5 0 (by rfl) (by rfl) (by simp;rfl) ?_;have W:=aA hl1 (aA sP (aA hlp (aA hl0 (aA hw (aA hg (aA h0 hbl))))));have V:=hlt;repeat' first|refine wf ?_|(refine nx ?_;refine sg (hc:=c3) (h:=?_))|(refine sq ?_ ?_<;>intro hc<;>try exact hc.elim)|fail
   exact aO results22
  .rw [cU (λh=>h0 h.2)]
   refine rR aJ [4] func22 ntmps22 ?_;have W:=aA hl1 (aA sP (aA hlp (aA hl0 (aA hw (aA hg (aA h0 hbl))))));have V:=hlt;refine we ?_;refine go_share 5 0 (by rfl) (by rfl) (by simp;rfl) ?_;have W:=aA hl1 (aA sP (aA hlp (aA hl0 (aA hw (aA hg (aA h0 hbl))))));have V:=hlt;refine we ?_;exact aO results22
 .rw [cU (λh=>h1 h.1)]
  by_cases h0:0<=k1
  .skip
   refine rR aJ [4] func22 ntmps22 ?_;have W:=aA hl1 (aA sP (aA hlp (aA hl0 (aA hw (aA hg (aA h0 (aA hk (aA h1 hbl))))))));have V:=hlt;refine we ?_;refine go_share 5 0 (by rfl) (by rfl) (by simp;rfl) ?_;have W:=aA hl1 (aA sP (aA hlp (aA hl0 (aA hw (aA hg (aA h0 (aA hk (aA h1 hbl))))))));have V:=hlt;refine we ?_;exact aO results22
  .skip
   refine rR aJ [4] func22 ntmps22 ?_;have W:=aA hl1 (aA sP (aA hlp (aA hl0 (aA hw (aA hg (aA h0 (aA hk (aA h1 hbl))))))));have V:=hlt;refine we ?_;refine go_share 5 0 (by rfl) (by rfl) (by simp;rfl) ?_;have W:=aA hl1 (aA sP (aA hlp (aA hl0 (aA hw (aA hg (aA h0 (aA hk (aA h1 hbl))))))));have V:=hlt;refine we ?_;exact aO results22
theorem NQ[aB prog](p:aW)(t:bD)(q:List bD)(hq:p.queue=t::q)(hb:p.block=0)(hi:p.inline=0)(hs:aK p<=536870912)(hk:¬t.kind=2):Ok prog 22 [.agg (aL .view p)] (.fH [.agg (aL .own (gT p t q)),.bool true]):=by
 rcases tP p.builder.opens with ho|⟨os,lo,ho⟩
 .exact MJ p t q hq hb hi hs hk ho
 .exact MK p t q hq hb hi hs hk os lo (by simpa using ho)
theorem ML[aB prog](p:aW)(t:bD)(q:List bD)(hq:p.queue=t::q)(hb:p.block=0)(hi:p.inline=0)(hs:aK p<=536870912)(hk:t.kind=2)(hn:¬t.name=fT):Ok prog 22 [.agg (aL .view p)] (.fH [.agg (aL .own (gT p t q)),.bool true]):=by
 have hq1:=pK hq;have hts:bF t<=536870912:=by have h1:=eY bF (show t∈p.queue by rw[hq];simp);simp only[aK,dL]at hs;omega
 have hbs:aF p.builder<=536870912:=by simp only[aK]at hs;omega
 have hbl:p.builder.nodes.length<=536870912/\p.builder.opens.length<=536870912:=by simp only[aF,dL]at hbs;omega
 have c1:=gZ p (by omega);have c2:=mZ p.builder t (by omega) (by omega);obtain⟨hm,_⟩:=lT (b:=p.builder) hk;unfold gT;rw[vP (λh=>hn h.2)];rw[hm]at c2⊢;generalize (addToken p.builder t).1=u at*;obtain⟨n1,o1⟩:=u;simp only at c2⊢;obtain⟨ad,xz,tok,queue,ended,vZ,aG,bT,entries,block,inline,deferred,lG,Dl,log,mU⟩:=p;obtain⟨tk,tn,ta,tx⟩:=t;simp only at hq hb hi hbl hk hn c1 c2⊢;subst hq;subst hb;subst hi;subst hk;have hnb:(tn == [115,99,114,105,112,116])=false:=by simpa [fT]using hn
 rw[cU (by rintro⟨h,_⟩;cases h)];simp only[aL,bG,aH,bW,dI]at c1;simp only[aH]at c2;have hl1:¬(q.length:Int)+1=0:=by omega
 have sP:(q.map (bE .own)).take q.length=q.map (bE .own):=eL (by simp);rcases tP vZ.opens with ho|⟨os,lo,ho⟩
 .have hl0:vZ.opens.length=0:=by rw[ho];rfl
  refine rR aJ [4] func22 ntmps22 ?_;have W:=aA hl1 (aA sP (aA hnb (aA hl0 hbl)));refine we ?_;refine go_share 5 0 (by rfl) (by rfl) (by simp;rfl) ?_;have W:=aA hl1 (aA sP (aA hnb (aA hl0 hbl)));refine we ?_;exact aO results22
 .have hl0:(0:Int)<(vZ.opens.length:Int):=by rw[ho];simp<;>omega
  have hlt:os.length<vZ.opens.length:=by rw[ho];simp
  have hg:vZ.opens[os.length]? =some lo:=by rw[ho];simp
  have hlp:0<vZ.opens.length:=by omega
  have hw:i64.wrap ((vZ.opens.length:Int)-1)=((os.length:Nat):Int):=by rw[wrap64]<;>(simp[ho]at hbl⊢;try omega)
  clear ho;refine rR aJ [4] func22 ntmps22 ?_;have W:=aA hl1 (aA sP (aA hnb (aA hlp (aA hl0 (aA hw (aA hg hbl))))));have V:=hlt;refine we ?_;refine go_share 5 0 (by rfl) (by rfl) (by simp;rfl) ?_;have W:=aA hl1 (aA sP (aA hnb (aA hlp (aA hl0 (aA hw (aA hg hbl))))));have V:=hlt;refine we ?_;exact aO results22
theorem NR[aB prog](p:aW)(t:bD)(q:List bD)(hq:p.queue=t::q)(hb:p.block=0)(hi:p.inline=0)(hs:aK p<=536870912)(hk:t.kind=2)(hn:t.name=fT)(ho:p.builder.opens=[]):Ok prog 22 [.agg (aL .view p)] (.fH [.agg (aL .own (gT p t q)),.bool true]):=by
 have hq1:=pK hq;have hts:bF t<=536870912:=by have h1:=eY bF (show t∈p.queue by rw[hq];simp);simp only[aK,dL]at hs;omega
 have hbs:aF p.builder<=536870912:=by simp only[aK]at hs;omega
 have hbl:p.builder.nodes.length<=536870912/\p.builder.opens.length<=536870912:=by simp only[aF,dL]at hbs;omega
 have c1:=gZ p (by omega);have c2:=mZ p.builder t (by omega) (by omega);obtain⟨hm,_⟩:=lT (b:=p.builder) hk;unfold gT;rw[Gh ho];have hl0:p.builder.opens.length=0:=by rw[ho];rfl
 rw[hm]at c2⊢;generalize (addToken p.builder t).1=u at*;obtain⟨n1,o1⟩:=u;simp only at c2⊢;obtain⟨ad,xz,tok,queue,ended,vZ,aG,bT,entries,block,inline,deferred,lG,Dl,log,mU⟩:=p;obtain⟨tk,tn,ta,tx⟩:=t;simp only at hq hb hi hbl hk hn c1 c2 hl0⊢;subst hq;subst hb;subst hi;clear ho;subst hk;simp only[fT]at hn;subst hn;rw[cU (by rintro⟨h,_⟩;cases h)];simp only[aL,bG,aH,bW,dI]at c1;simp only[aH]at c2;have hl1:¬(q.length:Int)+1=0:=by omega
 have sP:(q.map (bE .own)).take q.length=q.map (bE .own):=eL (by simp);have c4:=eX (-1) 1 ((vZ.nodes.length:Int)-1);rw[show(decide ((1:Int)<= -1)&&decide ((-1:Int)<=(vZ.nodes.length:Int)-1))=false from by simp]at c4;have hw2:i64.wrap ((vZ.nodes.length:Int)-1)=(vZ.nodes.length:Int)-1:=by rw[wrap64]<;>omega
 refine rR aJ [4] func22 ntmps22 ?_;have W:=aA hl1 (aA sP (aA hl0 (aA hw2 hbl)));refine we ?_;refine go_share 5 0 (by rfl) (by rfl) (by simp;rfl) ?_;have W:=aA hl1 (aA sP (aA hl0 (aA hw2 hbl)));refine we ?_;exact aO results22
theorem MM[aB prog](p:aW)(t:bD)(q:List bD)(hq:p.queue=t::q)(hb:p.block=0)(hi:p.inline=0)(hs:aK p<=536870912)(hk:t.kind=2)(hn:t.name=fT)(os:List Int)(lo:Int)(ho:p.builder.opens=os++[lo])(hs0:nY p.builder t=none):Ok prog 22 [.agg (aL .view p)] (.fH [.agg (aL .own (gT p t q)),.bool true]):=by
 have hq1:=pK hq;have hts:bF t<=536870912:=by have h1:=eY bF (show t∈p.queue by rw[hq];simp);simp only[aK,dL]at hs;omega
 have hbs:aF p.builder<=536870912:=by simp only[aK]at hs;omega
 have hbl:p.builder.nodes.length<=536870912/\p.builder.opens.length<=536870912:=by simp only[aF,dL]at hbs;omega
 have c1:=gZ p (by omega);have c2:=mZ p.builder t (by omega) (by omega);obtain⟨hm,_⟩:=lT (b:=p.builder) hk;have MN:∀(k:Nat) (nd:gQ),1<=k->p.builder.opens=os++[((k:Nat):Int)]->p.builder.nodes[k]? =some nd->nd.name=fT->False:=λk nd h1 h2 h3 h4=>by have h5:=wM hk hn h2 h1 h3 h4;rw[hs0]at h5;cases h5
 unfold gT;rw[hs0];clear hs0;have hl0:(0:Int)<(p.builder.opens.length:Int):=by rw[ho];simp<;>omega
 have hlt:os.length<p.builder.opens.length:=by rw[ho];simp
 have hg:p.builder.opens[os.length]? =some lo:=by rw[ho];simp
 have hw:i64.wrap ((p.builder.opens.length:Int)-1)=((os.length:Nat):Int):=by
  have e:p.builder.opens.length=os.length+1:=by rw[ho];simp
  rw[wrap64]<;>omega
 rw[hm]at c2⊢;generalize (addToken p.builder t).1=u at*;obtain⟨n1,o1⟩:=u;simp only at c2⊢;obtain⟨ad,xz,tok,queue,ended,vZ,aG,bT,entries,block,inline,deferred,lG,Dl,log,mU⟩:=p;obtain⟨tk,tn,ta,tx⟩:=t;simp only at hq hb hi hbl hk hn c1 c2 hl0 hlt hg hw ho MN⊢;subst hq;subst hb;subst hi;subst hk;simp only[fT]at hn;subst hn;rw[cU (by rintro⟨h,_⟩;cases h)];simp only[aL,bG,aH,bW,dI]at c1;simp only[aH]at c2;have hl1:¬(q.length:Int)+1=0:=by omega
 have sP:(q.map (bE .own)).take q.length=q.map (bE .own):=eL (by simp);have hw2:i64.wrap ((vZ.nodes.length:Int)-1)=(vZ.nodes.length:Int)-1:=by rw[wrap64]<;>omega
 have c4:=eX lo 1 ((vZ.nodes.length:Int)-1);have hlp:0<vZ.opens.length:=by omega
 by_cases h1:1<=lo
 .by_cases h2:lo<(vZ.nodes.length:Int)
  .rw [show(decide ((1:Int)<=lo)&&decide (lo<=(vZ.nodes.length:Int)-1))=true from by simp;omega]at c4;obtain⟨k,rfl⟩:=fX (show 0<=lo by omega);have hkl:k<vZ.nodes.length:=by omega
   have Af:=aE hkl;have hne:(vZ.nodes[k].name == [115,99,114,105,112,116])=false:=by
    cases h:(vZ.nodes[k].name == [115,99,114,105,112,116])with
    |false=>rfl
    |true=>exact(MN k _ (by omega) ho Af (by simpa [fT]using h)).elim
   clear MN ho;refine rR aJ [4] func22 ntmps22 ?_;have W:=aA hl1 (aA sP (aA hl0 (aA hw (aA hg (aA h1 (aA Af (aA hkl (aA hne (aA hw2 (aA hlp hbl))))))))));have V:=hlt;refine we ?_;refine go_share 5 0 (by rfl) (by rfl) (by simp;rfl) ?_;have W:=aA hl1 (aA sP (aA hl0 (aA hw (aA hg (aA h1 (aA Af (aA hkl (aA hne (aA hw2 (aA hlp hbl))))))))));have V:=hlt;refine we ?_;exact aO results22
  .skip
   clear MN ho;rw[show(decide ((1:Int)<=lo)&&decide (lo<=(vZ.nodes.length:Int)-1))=false from by simp;omega]at c4;refine rR aJ [4] func22 ntmps22 ?_;have W:=aA hl1 (aA sP (aA hl0 (aA hw (aA hg (aA h1 (aA h2 (aA hw2 (aA hlp hbl))))))));have V:=hlt;refine we ?_;refine go_share 5 0 (by rfl) (by rfl) (by simp;rfl) ?_;have W:=aA hl1 (aA sP (aA hl0 (aA hw (aA hg (aA h1 (aA h2 (aA hw2 (aA hlp hbl))))))));have V:=hlt;refine we ?_;exact aO results22
 .skip
  clear MN ho;rw[show(decide ((1:Int)<=lo)&&decide (lo<=(vZ.nodes.length:Int)-1))=false from by simp;omega]at c4;refine rR aJ [4] func22 ntmps22 ?_;have W:=aA hl1 (aA sP (aA hl0 (aA hw (aA hg (aA h1 (aA hw2 (aA hlp hbl)))))));have V:=hlt;refine we ?_;refine go_share 5 0 (by rfl) (by rfl) (by simp;rfl) ?_;have W:=aA hl1 (aA sP (aA hl0 (aA hw (aA hg (aA h1 (aA hw2 (aA hlp hbl)))))));have V:=hlt;refine we ?_;exact aO results22
theorem JP[aB prog](p:aW)(t:bD)(q:List bD)(hq:p.queue=t::q)(hb:p.block=0)(hi:p.inline=0)(hs:aK p<=536870912)(hk:t.kind=2)(hn:t.name=fT)(os:List Int)(k:Nat)(ho:p.builder.opens=os++[((k:Nat):Int)])(nd:gQ)(hk1:1<=k)(Af:p.builder.nodes[k]? =some nd)(hns:nd.name=fT):Ok prog 22 [.agg (aL .view p)] (.fH [.agg (aL .own (gT p t q)),.bool true]):=by
 have hq1:=pK hq;have hts:bF t<=536870912:=by have h1:=eY bF (show t∈p.queue by rw[hq];simp);simp only[aK,dL]at hs;omega
 have hbs:aF p.builder<=536870912:=by simp only[aK]at hs;omega
 have hbl:p.builder.nodes.length<=536870912/\p.builder.opens.length<=536870912:=by simp only[aF,dL]at hbs;omega
 have c1:=gZ p (by omega);have c2:=mZ p.builder t (by omega) (by omega);obtain⟨hm,hmn⟩:=lT (b:=p.builder) hk;have hkl:k<p.builder.nodes.length:=(cA.1 Af).1;have c3:=Ia {p with queue:=q,builder:=(addToken p.builder t).1} k nd (by simp only[hmn];exact hkl) (by simp only[hmn];exact Af) (by omega);unfold gT;rw[wM hk hn ho hk1 Af hns];simp only[Af,Option.elim];have hl0:(0:Int)<(p.builder.opens.length:Int):=by rw[ho];simp<;>omega
 have hlt:os.length<p.builder.opens.length:=by rw[ho];simp
 have hg:p.builder.opens[os.length]? =some ((k:Nat):Int):=by rw[ho];simp
 have hw:i64.wrap ((p.builder.opens.length:Int)-1)=((os.length:Nat):Int):=by
  have e:p.builder.opens.length=os.length+1:=by rw[ho];simp
  rw[wrap64]<;>omega
 have hnb:(nd.name == [115,99,114,105,112,116])=true:=by simpa [fT]using hns
 generalize nX _ k nd.attrs=g at*;rw[hm]at c2;generalize (addToken p.builder t).1=u at*;obtain⟨n1,o1⟩:=u;try simp only at c2
 try simp only at c3
 obtain⟨ad,xz,tok,queue,ended,vZ,aG,bT,entries,block,inline,deferred,lG,Dl,log,mU⟩:=p;obtain⟨tk,tn,ta,tx⟩:=t;simp only at hq hb hi hbl hk hn c1 c2 c3 hl0 hlt hg hw Af hkl;subst hq;subst hb;subst hi;clear ho hns hm hmn;subst hk;simp only[fT]at hn;subst hn;simp only[aL,bG,aH,bW,dI]at c1;simp only[aH]at c2;have hl1:¬(q.length:Int)+1=0:=by omega
 have sP:(q.map (bE .own)).take q.length=q.map (bE .own):=eL (by simp);have hw2:i64.wrap ((vZ.nodes.length:Int)-1)=(vZ.nodes.length:Int)-1:=by rw[wrap64]<;>omega
 have c4:=eX ((k:Nat):Int) 1 ((vZ.nodes.length:Int)-1);rw[show(decide ((1:Int)<=((k:Nat):Int))&&decide (((k:Nat):Int)<=(vZ.nodes.length:Int)-1))=true from by simp;omega]at c4;have uh:(1:Int)<=((k:Nat):Int):=by omega
 simp only[aL,bG,aH,bW,dI]at c3;have ui:(vZ.nodes[k].name == [115,99,114,105,112,116])=true:=by rw[aE hkl]at Af;rw[cD Af];exact hnb
 have hlp:0<vZ.opens.length:=by omega
 refine rR aJ [4] func22 ntmps22 ?_;have W:=aA hl1 (aA sP (aA hlp (aA hl0 (aA hw (aA hg (aA uh (aA hkl (aA Af (aA ui (aA hw2 (aA hlp hbl)))))))))));have V:=hlt;refine we ?_;refine go_share 5 0 (by rfl) (by rfl) (by simp;rfl) ?_;have W:=aA hl1 (aA sP (aA hlp (aA hl0 (aA hw (aA hg (aA uh (aA hkl (aA Af (aA ui (aA hw2 (aA hlp hbl)))))))))));have V:=hlt;repeat' first|refine wf ?_|(refine nx ?_;refine sg (hc:=c3) (h:=?_))|(refine sq ?_ ?_<;>intro hc<;>try exact hc.elim)|fail
 exact aO results22
theorem Ih[aB prog](p:aW)(hs:aK p<=536870912):Ok prog 22 [.agg (aL .view p)] (.fH [.agg (aL .own (dJ p).1),.bool (dJ p).2]):=by
 cases hq:p.queue with
 |nil=>
  have e:dJ p=(p,false):=by unfold dJ;rw[hq]
  rw[e];exact DZ p hs (.inl hq)
 |cons t q=>
  by_cases h:p.block=0/\p.inline=0
  .have e:dJ p=(gT p t q,true):=by unfold dJ;rw[hq];simp only;rw[eA h]
   rw[e];by_cases hk:t.kind=2
   .by_cases hn:t.name=fT
    .rcases tP p.builder.opens with ho|⟨os,lo,ho⟩
     .exact NR p t q hq h.1 h.2 hs hk hn ho
     .cases hsc:nY p.builder t with
      |none=>exact MM p t q hq h.1 h.2 hs hk hn os lo (by simpa using ho) hsc
      |some k=>
       have hsc2:=hsc;unfold nY at hsc2;rw[eA ⟨hk,hn⟩,ho]at hsc2;simp only[concat_eq_append,getLast?_concat]at hsc2;split at hsc2
       .rename_i h3;obtain⟨h3,h4⟩:=h3;obtain rfl:=cD hsc2;cases Af:p.builder.nodes[lo.toNat]? with
        |none=>rw[Af]at h4;simp at h4
        |some nd=>rw[Af]at h4;exact JP p t q hq h.1 h.2 hs hk hn os lo.toNat (by rw[ho];simp<;>omega) nd (by omega) Af (by simpa using h4)
       .cases hsc2
    .exact ML p t q hq h.1 h.2 hs hk hn
   .exact NQ p t q hq h.1 h.2 hs hk
  .have e:dJ p=(p,false):=by unfold dJ;rw[hq];simp only;rw[cU h]
   rw[e];exact DZ p hs (by by_cases h1:p.block=0;exact .inr (.inr λh2=>h ⟨h1,h2⟩);exact .inr (.inl h1))
end Go.Proofs.YtjkdolejalpflaaGreatDoor
