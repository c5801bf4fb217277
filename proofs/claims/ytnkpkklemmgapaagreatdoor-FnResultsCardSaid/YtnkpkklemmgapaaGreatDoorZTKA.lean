/- Proved here: steps towards the statement of this claim. No condition. -/
import Derived.Test.YtnkpkklemmgapaaGreatDoorZQRLie
set_option linter.all false
set_option maxRecDepth 4000
set_option maxHeartbeats 4000000
namespace Go.Proofs.YtnkpkklemmgapaaGreatDoor
open Go.Aw Proofs.Tryz List IntKind
theorem He[aB prog](p:aC)(hs:aM p<=536870912)(h:p.queue=[]\/p.block≠0\/p.inline≠0):Ok prog 151 [.agg (aQ .view p)] (.iP [.agg (aQ .own p),.bool false]):=by
 have c1:=fQ p (by omega);simp only[aQ]at c1;by_cases hl0:p.queue.length=0
 .refine dL aO func151 ntmps151 ?_;have W:=hl0;refine we ?_;exact aR results151
 .have hq:p.queue≠[]:=λh=>hl0 (by rw[h];rfl)
  by_cases hb:p.block=0
  .have hi:¬p.inline=0:=by
    rcases h with h|h|h
    .exact absurd h hq
    .exact absurd hb h
    .exact h
   rw[hb]at c1;refine dL aO func151 ntmps151 ?_;have W:=aA hl0 (aA hb hi);refine we ?_;all_goals try(refine aZ ?_;simp[aX,results151,hb])
  .refine dL aO func151 ntmps151 ?_;have W:=aA hl0 hb;refine we ?_;exact aR results151
theorem QF[aB prog](p:aC)(t:bU)(q:List bU)(hq:p.queue=t::q)(hb:p.block=0)(hi:p.inline=0)(hs:aM p<=536870912)(hk:¬t.kind=2)(ho:p.builder.opens=[]):Ok prog 151 [.agg (aQ .view p)] (.iP [.agg (aQ .own (mW p t q)),.bool true]):=by
 have hq1:=Ay hq;have hts:dR t<=536870912:=by have h1:=dS dR (show t∈p.queue by rw[hq];simp);simp only[aM,bV]at hs;omega
 have hbs:aS p.builder<=536870912:=by simp only[aM]at hs;omega
 have hbl:p.builder.nodes.length<=536870912/\p.builder.opens.length<=536870912:=by simp only[aS,bV]at hbs;omega
 have c1:=fQ p (by omega);have c2:=oL p.builder t (by omega) (by omega);have c3:=ET {p with queue:=q,builder:=(addToken p.builder t).1} t (addToken p.builder t).2 (by omega) (by omega);unfold mW;rw[EU (λh=>hk h.1)];generalize addToken p.builder t=u at*;obtain⟨⟨n1,o1⟩,k1⟩:=u;simp only at c2 c3⊢;obtain⟨ad,pol,tok,queue,ended,Cz,aF,aN,entries,block,inline,deferred,iV,uI,log,jZ⟩:=p;obtain⟨tk,tn,ta,tx⟩:=t;simp only at hq hb hi hbl hk c1 c2 c3⊢;subst hq;subst hb;subst hi;simp only[aQ,dK,aW,iB,bC]at c1;simp only[aW]at c2;have hl1:¬(q.length:Int)+1=0:=by omega
 have Fq:(q.map (eG .own)).take q.length=q.map (eG .own):=eJ (by simp);simp only at ho;have hl0:Cz.opens.length=0:=by rw[ho];rfl
 clear ho;by_cases h1:tk=1
 .subst h1;by_cases h0:0<=k1
  .rw [eW ⟨rfl,h0⟩];generalize Av _ _ k1=g at*;simp only[aQ,dK,aW,iB,bC,eG]at c3;refine BO aO [4] func151 ntmps151 ?_;have W:=aA hl1 (aA Fq (aA hl0 (aA h0 hbl)));refine we ?_;refine go_share 5 0 (by rfl) (by rfl) (by simp;rfl) ?_;have W:=aA hl1 (aA Fq (aA hl0 (aA h0 hbl)));repeat' first|refine wf ?_|(refine nx ?_;refine sg (hc:=c3) (h:=?_))|(refine sq ?_ ?_<;>intro hc<;>try exact hc.elim)|fail
   exact aR results151
  .rw [eK (λh=>h0 h.2)]
   refine BO aO [4] func151 ntmps151 ?_;have W:=aA hl1 (aA Fq (aA hl0 (aA h0 hbl)));refine we ?_;refine go_share 5 0 (by rfl) (by rfl) (by simp;rfl) ?_;have W:=aA hl1 (aA Fq (aA hl0 (aA h0 hbl)));refine we ?_;exact aR results151
 .rw [eK (λh=>h1 h.1)]
  by_cases h0:0<=k1
  .skip
   refine BO aO [4] func151 ntmps151 ?_;have W:=aA hl1 (aA Fq (aA hl0 (aA h0 (aA hk (aA h1 hbl)))));refine we ?_;refine go_share 5 0 (by rfl) (by rfl) (by simp;rfl) ?_;have W:=aA hl1 (aA Fq (aA hl0 (aA h0 (aA hk (aA h1 hbl)))));refine we ?_;exact aR results151
  .skip
   refine BO aO [4] func151 ntmps151 ?_;have W:=aA hl1 (aA Fq (aA hl0 (aA h0 (aA hk (aA h1 hbl)))));refine we ?_;refine go_share 5 0 (by rfl) (by rfl) (by simp;rfl) ?_;have W:=aA hl1 (aA Fq (aA hl0 (aA h0 (aA hk (aA h1 hbl)))));refine we ?_;exact aR results151
theorem QG[aB prog](p:aC)(t:bU)(q:List bU)(hq:p.queue=t::q)(hb:p.block=0)(hi:p.inline=0)(hs:aM p<=536870912)(hk:¬t.kind=2)(os:List Int)(lo:Int)(ho:p.builder.opens=os++[lo]):Ok prog 151 [.agg (aQ .view p)] (.iP [.agg (aQ .own (mW p t q)),.bool true]):=by
 have hq1:=Ay hq;have hts:dR t<=536870912:=by have h1:=dS dR (show t∈p.queue by rw[hq];simp);simp only[aM,bV]at hs;omega
 have hbs:aS p.builder<=536870912:=by simp only[aM]at hs;omega
 have hbl:p.builder.nodes.length<=536870912/\p.builder.opens.length<=536870912:=by simp only[aS,bV]at hbs;omega
 have c1:=fQ p (by omega);have c2:=oL p.builder t (by omega) (by omega);have c3:=ET {p with queue:=q,builder:=(addToken p.builder t).1} t (addToken p.builder t).2 (by omega) (by omega);unfold mW;rw[EU (λh=>hk h.1)];generalize addToken p.builder t=u at*;obtain⟨⟨n1,o1⟩,k1⟩:=u;simp only at c2 c3⊢;obtain⟨ad,pol,tok,queue,ended,Cz,aF,aN,entries,block,inline,deferred,iV,uI,log,jZ⟩:=p;obtain⟨tk,tn,ta,tx⟩:=t;simp only at hq hb hi hbl hk c1 c2 c3⊢;subst hq;subst hb;subst hi;simp only[aQ,dK,aW,iB,bC]at c1;simp only[aW]at c2;have hl1:¬(q.length:Int)+1=0:=by omega
 have Fq:(q.map (eG .own)).take q.length=q.map (eG .own):=eJ (by simp);simp only at ho;have hl0:(0:Int)<(Cz.opens.length:Int):=by rw[ho];simp<;>omega
 have hlp:0<Cz.opens.length:=by omega
 have hlt:os.length<Cz.opens.length:=by rw[ho];simp
 have hg:Cz.opens[os.length]? =some lo:=by rw[ho];simp
 have hw:i64.wrap ((Cz.opens.length:Int)-1)=((os.length:Nat):Int):=by
  have e:Cz.opens.length=os.length+1:=by rw[ho];simp
  rw[wrap64]<;>omega
 clear ho;by_cases h1:tk=1
 .subst h1;by_cases h0:0<=k1
  .rw [eW ⟨rfl,h0⟩];generalize Av _ _ k1=g at*;simp only[aQ,dK,aW,iB,bC,eG]at c3;refine BO aO [4] func151 ntmps151 ?_;have W:=aA hl1 (aA Fq (aA hlp (aA hl0 (aA hw (aA hg (aA h0 hbl))))));have V:=hlt;refine we ?_;refine go_share 5 0 (by rfl) (by rfl) (by simp;rfl) ?_;have W:=aA hl1 (aA Fq (aA hlp (aA hl0 (aA hw (aA hg (aA h0 hbl))))));have V:=hlt;repeat' first|refine wf ?_|(refine nx ?_;refine sg (hc:=c3) (h:=?_))|(refine sq ?_ ?_<;>intro hc<;>try exact hc.elim)|fail
   exact aR results151
  .rw [eK (λh=>h0 h.2)]
   refine BO aO [4] func151 ntmps151 ?_;have W:=aA hl1 (aA Fq (aA hlp (aA hl0 (aA hw (aA hg (aA h0 hbl))))));have V:=hlt;refine we ?_;refine go_share 5 0 (by rfl) (by rfl) (by simp;rfl) ?_;have W:=aA hl1 (aA Fq (aA hlp (aA hl0 (aA hw (aA hg (aA h0 hbl))))));have V:=hlt;refine we ?_;exact aR results151
 .rw [eK (λh=>h1 h.1)]
  by_cases h0:0<=k1
  .skip
   refine BO aO [4] func151 ntmps151 ?_;have W:=aA hl1 (aA Fq (aA hlp (aA hl0 (aA hw (aA hg (aA h0 (aA hk (aA h1 hbl))))))));have V:=hlt;refine we ?_;refine go_share 5 0 (by rfl) (by rfl) (by simp;rfl) ?_;have W:=aA hl1 (aA Fq (aA hlp (aA hl0 (aA hw (aA hg (aA h0 (aA hk (aA h1 hbl))))))));have V:=hlt;refine we ?_;exact aR results151
  .skip
   refine BO aO [4] func151 ntmps151 ?_;have W:=aA hl1 (aA Fq (aA hlp (aA hl0 (aA hw (aA hg (aA h0 (aA hk (aA h1 hbl))))))));have V:=hlt;refine we ?_;refine go_share 5 0 (by rfl) (by rfl) (by simp;rfl) ?_;have W:=aA hl1 (aA Fq (aA hlp (aA hl0 (aA hw (aA hg (aA h0 (aA hk (aA h1 hbl))))))));have V:=hlt;refine we ?_;exact aR results151
theorem Sy[aB prog](p:aC)(t:bU)(q:List bU)(hq:p.queue=t::q)(hb:p.block=0)(hi:p.inline=0)(hs:aM p<=536870912)(hk:¬t.kind=2):Ok prog 151 [.agg (aQ .view p)] (.iP [.agg (aQ .own (mW p t q)),.bool true]):=by
 rcases CM p.builder.opens with ho|⟨os,lo,ho⟩
 .exact QF p t q hq hb hi hs hk ho
 .exact QG p t q hq hb hi hs hk os lo (by simpa using ho)
theorem QH[aB prog](p:aC)(t:bU)(q:List bU)(hq:p.queue=t::q)(hb:p.block=0)(hi:p.inline=0)(hs:aM p<=536870912)(hk:t.kind=2)(hn:¬t.name=mU):Ok prog 151 [.agg (aQ .view p)] (.iP [.agg (aQ .own (mW p t q)),.bool true]):=by
 have hq1:=Ay hq;have hts:dR t<=536870912:=by have h1:=dS dR (show t∈p.queue by rw[hq];simp);simp only[aM,bV]at hs;omega
 have hbs:aS p.builder<=536870912:=by simp only[aM]at hs;omega
 have hbl:p.builder.nodes.length<=536870912/\p.builder.opens.length<=536870912:=by simp only[aS,bV]at hbs;omega
 have c1:=fQ p (by omega);have c2:=oL p.builder t (by omega) (by omega);obtain⟨hm,_⟩:=yB (b:=p.builder) hk;unfold mW;rw[EU (λh=>hn h.2)];rw[hm]at c2⊢;generalize (addToken p.builder t).1=u at*;obtain⟨n1,o1⟩:=u;simp only at c2⊢;obtain⟨ad,pol,tok,queue,ended,Cz,aF,aN,entries,block,inline,deferred,iV,uI,log,jZ⟩:=p;obtain⟨tk,tn,ta,tx⟩:=t;simp only at hq hb hi hbl hk hn c1 c2⊢;subst hq;subst hb;subst hi;subst hk;have hnb:(tn == [115,99,114,105,112,116])=false:=by simpa [mU]using hn
 rw[eK (by rintro⟨h,_⟩;cases h)];simp only[aQ,dK,aW,iB,bC]at c1;simp only[aW]at c2;have hl1:¬(q.length:Int)+1=0:=by omega
 have Fq:(q.map (eG .own)).take q.length=q.map (eG .own):=eJ (by simp);rcases CM Cz.opens with ho|⟨os,lo,ho⟩
 .have hl0:Cz.opens.length=0:=by rw[ho];rfl
  refine BO aO [4] func151 ntmps151 ?_;have W:=aA hl1 (aA Fq (aA hnb (aA hl0 hbl)));refine we ?_;refine go_share 5 0 (by rfl) (by rfl) (by simp;rfl) ?_;have W:=aA hl1 (aA Fq (aA hnb (aA hl0 hbl)));refine we ?_;exact aR results151
 .have hl0:(0:Int)<(Cz.opens.length:Int):=by rw[ho];simp<;>omega
  have hlt:os.length<Cz.opens.length:=by rw[ho];simp
  have hg:Cz.opens[os.length]? =some lo:=by rw[ho];simp
  have hlp:0<Cz.opens.length:=by omega
  have hw:i64.wrap ((Cz.opens.length:Int)-1)=((os.length:Nat):Int):=by rw[wrap64]<;>(simp[ho]at hbl⊢;try omega)
  clear ho;refine BO aO [4] func151 ntmps151 ?_;have W:=aA hl1 (aA Fq (aA hnb (aA hlp (aA hl0 (aA hw (aA hg hbl))))));have V:=hlt;refine we ?_;refine go_share 5 0 (by rfl) (by rfl) (by simp;rfl) ?_;have W:=aA hl1 (aA Fq (aA hnb (aA hlp (aA hl0 (aA hw (aA hg hbl))))));have V:=hlt;refine we ?_;exact aR results151
theorem Sz[aB prog](p:aC)(t:bU)(q:List bU)(hq:p.queue=t::q)(hb:p.block=0)(hi:p.inline=0)(hs:aM p<=536870912)(hk:t.kind=2)(hn:t.name=mU)(ho:p.builder.opens=[]):Ok prog 151 [.agg (aQ .view p)] (.iP [.agg (aQ .own (mW p t q)),.bool true]):=by
 have hq1:=Ay hq;have hts:dR t<=536870912:=by have h1:=dS dR (show t∈p.queue by rw[hq];simp);simp only[aM,bV]at hs;omega
 have hbs:aS p.builder<=536870912:=by simp only[aM]at hs;omega
 have hbl:p.builder.nodes.length<=536870912/\p.builder.opens.length<=536870912:=by simp only[aS,bV]at hbs;omega
 have c1:=fQ p (by omega);have c2:=oL p.builder t (by omega) (by omega);obtain⟨hm,_⟩:=yB (b:=p.builder) hk;unfold mW;rw[VR ho];have hl0:p.builder.opens.length=0:=by rw[ho];rfl
 rw[hm]at c2⊢;generalize (addToken p.builder t).1=u at*;obtain⟨n1,o1⟩:=u;simp only at c2⊢;obtain⟨ad,pol,tok,queue,ended,Cz,aF,aN,entries,block,inline,deferred,iV,uI,log,jZ⟩:=p;obtain⟨tk,tn,ta,tx⟩:=t;simp only at hq hb hi hbl hk hn c1 c2 hl0⊢;subst hq;subst hb;subst hi;clear ho;subst hk;simp only[mU]at hn;subst hn;rw[eK (by rintro⟨h,_⟩;cases h)];simp only[aQ,dK,aW,iB,bC]at c1;simp only[aW]at c2;have hl1:¬(q.length:Int)+1=0:=by omega
 have Fq:(q.map (eG .own)).take q.length=q.map (eG .own):=eJ (by simp);have c4:=eX (-1) 1 ((Cz.nodes.length:Int)-1);rw[show(decide ((1:Int)<= -1)&&decide ((-1:Int)<=(Cz.nodes.length:Int)-1))=false from by simp]at c4;have hw2:i64.wrap ((Cz.nodes.length:Int)-1)=(Cz.nodes.length:Int)-1:=by rw[wrap64]<;>omega
 refine BO aO [4] func151 ntmps151 ?_;have W:=aA hl1 (aA Fq (aA hl0 (aA hw2 hbl)));refine we ?_;refine go_share 5 0 (by rfl) (by rfl) (by simp;rfl) ?_;have W:=aA hl1 (aA Fq (aA hl0 (aA hw2 hbl)));refine we ?_;exact aR results151
theorem QI[aB prog](p:aC)(t:bU)(q:List bU)(hq:p.queue=t::q)(hb:p.block=0)(hi:p.inline=0)(hs:aM p<=536870912)(hk:t.kind=2)(hn:t.name=mU)(os:List Int)(lo:Int)(ho:p.builder.opens=os++[lo])(hs0:uZ p.builder t=none):Ok prog 151 [.agg (aQ .view p)] (.iP [.agg (aQ .own (mW p t q)),.bool true]):=by
 have hq1:=Ay hq;have hts:dR t<=536870912:=by have h1:=dS dR (show t∈p.queue by rw[hq];simp);simp only[aM,bV]at hs;omega
 have hbs:aS p.builder<=536870912:=by simp only[aM]at hs;omega
 have hbl:p.builder.nodes.length<=536870912/\p.builder.opens.length<=536870912:=by simp only[aS,bV]at hbs;omega
 have c1:=fQ p (by omega);have c2:=oL p.builder t (by omega) (by omega);obtain⟨hm,_⟩:=yB (b:=p.builder) hk;have aD5:∀(k:Nat) (nd:gV),1<=k->p.builder.opens=os++[((k:Nat):Int)]->p.builder.nodes[k]? =some nd->nd.name=mU->False:=λk nd h1 h2 h3 h4=>by have h5:=Kj hk hn h2 h1 h3 h4;rw[hs0]at h5;cases h5
 unfold mW;rw[hs0];clear hs0;have hl0:(0:Int)<(p.builder.opens.length:Int):=by rw[ho];simp<;>omega
 have hlt:os.length<p.builder.opens.length:=by rw[ho];simp
 have hg:p.builder.opens[os.length]? =some lo:=by rw[ho];simp
 have hw:i64.wrap ((p.builder.opens.length:Int)-1)=((os.length:Nat):Int):=by
  have e:p.builder.opens.length=os.length+1:=by rw[ho];simp
  rw[wrap64]<;>omega
 rw[hm]at c2⊢;generalize (addToken p.builder t).1=u at*;obtain⟨n1,o1⟩:=u;simp only at c2⊢;obtain⟨ad,pol,tok,queue,ended,Cz,aF,aN,entries,block,inline,deferred,iV,uI,log,jZ⟩:=p;obtain⟨tk,tn,ta,tx⟩:=t;simp only at hq hb hi hbl hk hn c1 c2 hl0 hlt hg hw ho aD5⊢;subst hq;subst hb;subst hi;subst hk;simp only[mU]at hn;subst hn;rw[eK (by rintro⟨h,_⟩;cases h)];simp only[aQ,dK,aW,iB,bC]at c1;simp only[aW]at c2;have hl1:¬(q.length:Int)+1=0:=by omega
 have Fq:(q.map (eG .own)).take q.length=q.map (eG .own):=eJ (by simp);have hw2:i64.wrap ((Cz.nodes.length:Int)-1)=(Cz.nodes.length:Int)-1:=by rw[wrap64]<;>omega
 have c4:=eX lo 1 ((Cz.nodes.length:Int)-1);have hlp:0<Cz.opens.length:=by omega
 by_cases h1:1<=lo
 .by_cases h2:lo<(Cz.nodes.length:Int)
  .rw [show(decide ((1:Int)<=lo)&&decide (lo<=(Cz.nodes.length:Int)-1))=true from by simp;omega]at c4;obtain⟨k,rfl⟩:=iS (show 0<=lo by omega);have hkl:k<Cz.nodes.length:=by omega
   have Uz:=aE hkl;have hne:(Cz.nodes[k].name == [115,99,114,105,112,116])=false:=by
    cases h:(Cz.nodes[k].name == [115,99,114,105,112,116])with
    |false=>rfl
    |true=>exact(aD5 k _ (by omega) ho Uz (by simpa [mU]using h)).elim
   clear aD5 ho;refine BO aO [4] func151 ntmps151 ?_;have W:=aA hl1 (aA Fq (aA hl0 (aA hw (aA hg (aA h1 (aA Uz (aA hkl (aA hne (aA hw2 (aA hlp hbl))))))))));have V:=hlt;refine we ?_;refine go_share 5 0 (by rfl) (by rfl) (by simp;rfl) ?_;have W:=aA hl1 (aA Fq (aA hl0 (aA hw (aA hg (aA h1 (aA Uz (aA hkl (aA hne (aA hw2 (aA hlp hbl))))))))));have V:=hlt;refine we ?_;exact aR results151
  .skip
   clear aD5 ho;rw[show(decide ((1:Int)<=lo)&&decide (lo<=(Cz.nodes.length:Int)-1))=false from by simp;omega]at c4;refine BO aO [4] func151 ntmps151 ?_;have W:=aA hl1 (aA Fq (aA hl0 (aA hw (aA hg (aA h1 (aA h2 (aA hw2 (aA hlp hbl))))))));have V:=hlt;refine we ?_;refine go_share 5 0 (by rfl) (by rfl) (by simp;rfl) ?_;have W:=aA hl1 (aA Fq (aA hl0 (aA hw (aA hg (aA h1 (aA h2 (aA hw2 (aA hlp hbl))))))));have V:=hlt;refine we ?_;exact aR results151
 .skip
  clear aD5 ho;rw[show(decide ((1:Int)<=lo)&&decide (lo<=(Cz.nodes.length:Int)-1))=false from by simp;omega]at c4;refine BO aO [4] func151 ntmps151 ?_;have W:=aA hl1 (aA Fq (aA hl0 (aA hw (aA hg (aA h1 (aA hw2 (aA hlp hbl)))))));have V:=hlt;refine we ?_;refine go_share 5 0 (by rfl) (by rfl) (by simp;rfl) ?_;have W:=aA hl1 (aA Fq (aA hl0 (aA hw (aA hg (aA h1 (aA hw2 (aA hlp hbl)))))));have V:=hlt;refine we ?_;exact aR results151
theorem NT[aB prog](p:aC)(t:bU)(q:List bU)(hq:p.queue=t::q)(hb:p.block=0)(hi:p.inline=0)(hs:aM p<=536870912)(hk:t.kind=2)(hn:t.name=mU)(os:List Int)(k:Nat)(ho:p.builder.opens=os++[((k:Nat):Int)])(nd:gV)(hk1:1<=k)(Uz:p.builder.nodes[k]? =some nd)(hns:nd.name=mU):Ok prog 151 [.agg (aQ .view p)] (.iP [.agg (aQ .own (mW p t q)),.bool true]):=by
 have hq1:=Ay hq;have hts:dR t<=536870912:=by have h1:=dS dR (show t∈p.queue by rw[hq];simp);simp only[aM,bV]at hs;omega
 have hbs:aS p.builder<=536870912:=by simp only[aM]at hs;omega
 have hbl:p.builder.nodes.length<=536870912/\p.builder.opens.length<=536870912:=by simp only[aS,bV]at hbs;omega
 have c1:=fQ p (by omega);have c2:=oL p.builder t (by omega) (by omega);obtain⟨hm,hmn⟩:=yB (b:=p.builder) hk;have hkl:k<p.builder.nodes.length:=(cQ.1 Uz).1;have c3:=LJ {p with queue:=q,builder:=(addToken p.builder t).1} k nd (by simp only[hmn];exact hkl) (by simp only[hmn];exact Uz) (by omega);unfold mW;rw[Kj hk hn ho hk1 Uz hns];simp only[Uz,Option.elim];have hl0:(0:Int)<(p.builder.opens.length:Int):=by rw[ho];simp<;>omega
 have hlt:os.length<p.builder.opens.length:=by rw[ho];simp
 have hg:p.builder.opens[os.length]? =some ((k:Nat):Int):=by rw[ho];simp
 have hw:i64.wrap ((p.builder.opens.length:Int)-1)=((os.length:Nat):Int):=by
  have e:p.builder.opens.length=os.length+1:=by rw[ho];simp
  rw[wrap64]<;>omega
 have hnb:(nd.name == [115,99,114,105,112,116])=true:=by simpa [mU]using hns
 generalize rZ _ k nd.attrs=g at*;rw[hm]at c2;generalize (addToken p.builder t).1=u at*;obtain⟨n1,o1⟩:=u;try simp only at c2
 try simp only at c3
 obtain⟨ad,pol,tok,queue,ended,Cz,aF,aN,entries,block,inline,deferred,iV,uI,log,jZ⟩:=p;obtain⟨tk,tn,ta,tx⟩:=t;simp only at hq hb hi hbl hk hn c1 c2 c3 hl0 hlt hg hw Uz hkl;subst hq;subst hb;subst hi;clear ho hns hm hmn;subst hk;simp only[mU]at hn;subst hn;simp only[aQ,dK,aW,iB,bC]at c1;simp only[aW]at c2;have hl1:¬(q.length:Int)+1=0:=by omega
 have Fq:(q.map (eG .own)).take q.length=q.map (eG .own):=eJ (by simp);have hw2:i64.wrap ((Cz.nodes.length:Int)-1)=(Cz.nodes.length:Int)-1:=by rw[wrap64]<;>omega
 have c4:=eX ((k:Nat):Int) 1 ((Cz.nodes.length:Int)-1);rw[show(decide ((1:Int)<=((k:Nat):Int))&&decide (((k:Nat):Int)<=(Cz.nodes.length:Int)-1))=true from by simp;omega]at c4;have aPw:(1:Int)<=((k:Nat):Int):=by omega
 simp only[aQ,dK,aW,iB,bC]at c3;have aPx:(Cz.nodes[k].name == [115,99,114,105,112,116])=true:=by rw[aE hkl]at Uz;rw[cU Uz];exact hnb
 have hlp:0<Cz.opens.length:=by omega
 refine BO aO [4] func151 ntmps151 ?_;have W:=aA hl1 (aA Fq (aA hlp (aA hl0 (aA hw (aA hg (aA aPw (aA hkl (aA Uz (aA aPx (aA hw2 (aA hlp hbl)))))))))));have V:=hlt;refine we ?_;refine go_share 5 0 (by rfl) (by rfl) (by simp;rfl) ?_;have W:=aA hl1 (aA Fq (aA hlp (aA hl0 (aA hw (aA hg (aA aPw (aA hkl (aA Uz (aA aPx (aA hw2 (aA hlp hbl)))))))))));have V:=hlt;repeat' first|refine wf ?_|(refine nx ?_;refine sg (hc:=c3) (h:=?_))|(refine sq ?_ ?_<;>intro hc<;>try exact hc.elim)|fail
 exact aR results151
theorem LU[aB prog](p:aC)(hs:aM p<=536870912):Ok prog 151 [.agg (aQ .view p)] (.iP [.agg (aQ .own (kX p).1),.bool (kX p).2]):=by
 cases hq:p.queue with
 |nil=>
  have e:kX p=(p,false):=by unfold kX;rw[hq]
  rw[e];exact He p hs (.inl hq)
 |cons t q=>
  by_cases h:p.block=0/\p.inline=0
  .have e:kX p=(mW p t q,true):=by unfold kX;rw[hq];simp only;rw[eW h]
   rw[e];by_cases hk:t.kind=2
   .by_cases hn:t.name=mU
    .rcases CM p.builder.opens with ho|⟨os,lo,ho⟩
     .exact Sz p t q hq h.1 h.2 hs hk hn ho
     .cases hsc:uZ p.builder t with
      |none=>exact QI p t q hq h.1 h.2 hs hk hn os lo (by simpa using ho) hsc
      |some k=>
       have hsc2:=hsc;unfold uZ at hsc2;rw[eW ⟨hk,hn⟩,ho]at hsc2;simp only[concat_eq_append,getLast?_concat]at hsc2;split at hsc2
       .rename_i h3;obtain⟨h3,h4⟩:=h3;obtain rfl:=cU hsc2;cases Uz:p.builder.nodes[lo.toNat]? with
        |none=>rw[Uz]at h4;simp at h4
        |some nd=>rw[Uz]at h4;exact NT p t q hq h.1 h.2 hs hk hn os lo.toNat (by rw[ho];simp<;>omega) nd (by omega) Uz (by simpa using h4)
       .cases hsc2
    .exact QH p t q hq h.1 h.2 hs hk hn
   .exact Sy p t q hq h.1 h.2 hs hk
  .have e:kX p=(p,false):=by unfold kX;rw[hq];simp only;rw[eK h]
   rw[e];exact He p hs (by by_cases h1:p.block=0;exact .inr (.inr λh2=>h ⟨h1,h2⟩);exact .inr (.inl h1))
end Go.Proofs.YtnkpkklemmgapaaGreatDoor
