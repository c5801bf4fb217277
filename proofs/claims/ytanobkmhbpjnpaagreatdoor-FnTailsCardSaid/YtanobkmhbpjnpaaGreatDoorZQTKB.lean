/- Steps. No condition. -/
import Derived.Test.YtanobkmhbpjnpaaGreatDoorZQRC1
import Derived.Test.YtanobkmhbpjnpaaGreatDoorZTK3
set_option linter.all false
set_option maxRecDepth 4000
set_option maxHeartbeats 4000000
namespace Go.Proofs.YtanobkmhbpjnpaaGreatDoor
open Go.Aw Proofs.Tryz List IntKind
def sO[aG prog](b:bC)(t:bM)(hs:aV b<=274877906944)(ht:dU t<=274877906944):Ok prog 116 [.agg (aZ .view b),.agg (dK .view t)] (.iL [.agg (aZ .own (cZ b t).1),.int .i64 (cZ b t).2]):=by
 by_cases hk2:t.kind=2
 .have c1:=nG b hs;have c2:=Za b t.name hs;rw[CY hk2];obtain⟨tk,tn,ta,tx⟩:=t;simp only at hk2 c2;subst hk2;simp only[aZ]at c1 c2;generalize oZ b tn (b.bD.length-1)=oc at*;refine dN aK func116 ntmps116 ?_;have W:=trivial;repeat' first|refine wf ?_|(refine nx ?_;refine sg (hc:=c2) (h:=?_))|(refine sq ?_ ?_<;>intro hc<;>try exact hc.elim)|fail
  exact aO results116
 have c1:=nG b hs;have c2:=VY t.name;have c3:=KJ t.iH (by simp only[dU,dS]at ht;omega);have hn:b.aJ.length<=274877906944/\b.bD.length<=274877906944:=by simp only[aV,dS]at hs;omega
 have hta:t.iH.length<=274877906944:=by simp only[dU,dS]at ht;omega
 have other:=Im (b:=b) hk2;have full:=JW (b:=b) hk2;have new:=MN (b:=b) hk2;obtain⟨tk,tn,ta,tx⟩:=t;simp only at hk2 other full new c2 c3 hta;simp only[aZ]at c1;by_cases hk:tk=1\/(tk=3/\tx≠[])
 .by_cases ML:(40:Int)<=(b.aJ.length:Int)
  .rw [full (.inl (by omega))];rcases hk with rfl|⟨rfl,hx⟩
   .refine dN aK func116 ntmps116 ?_;have W:=ML;refine we ?_;exact aO results116
   .refine dN aK func116 ntmps116 ?_;have W:=aA ML hx;refine we ?_;exact aO results116
  rcases BE b.bD with ho|⟨os,lo,ho⟩
  .rw [full (.inr (.inl ho))];have hl0z:b.bD.length=0:=by rw[ho];rfl
   rcases hk with rfl|⟨rfl,hx⟩
   .refine dN aK func116 ntmps116 ?_;have W:=aA ML hl0z;refine we ?_;exact aO results116
   .refine dN aK func116 ntmps116 ?_;have W:=aA ML (aA hx hl0z);refine we ?_;exact aO results116
  have jE:b.bD≠[]:=by rw[ho];simp
  have hlast:b.bD.getLastD 0=lo:=by rw[ho];simp
  have dF:b.bD.length=os.length+1:=by rw[ho];simp
  have hl0z:¬b.bD.length=0:=by omega
  have hlt:os.length<b.bD.length:=by omega
  have hg:b.bD[os.length]? =some lo:=by rw[ho];simp
  have hw:i64.wrap ((b.bD.length:Int)-1)=((os.length:Nat):Int):=by rw[wrap64]<;>omega
  clear ho dF;rcases hk with rfl|⟨rfl,hx⟩
  .have hnw:nY b ⟨1,tn,ta,tx⟩=⟨tn,[],lo,ta⟩:=by unfold nY;rw[hlast];simp
   cases hvo:Ec tn
   .rw [hvo]at c2;have hop:mU ⟨1,tn,ta,tx⟩=true:=by simp[mU,hvo]
    by_cases h8:(8:Int)<=(b.bD.length:Int)
    .rw [full (.inr (.inr ⟨hop,by omega⟩))];refine dN aK func116 ntmps116 ?_;have W:=aA ML (aA hl0z h8);refine we ?_;exact aO results116
    .rw [new (.inl rfl) (by rintro(h|h|⟨_,h⟩);omega;exact jE h;omega),eM hop,hnw];obtain⟨l0,hl0⟩:∃l,l=b.aJ++[(⟨tn,[],lo,ta⟩:kG)]:=⟨_,rfl⟩;have hap:b.aJ.map (gU .own)++[[.str tn,.str [],.int .i64 lo,.sl .own 2 (ta.map uB)]]=l0.map (gU .own):=by rw[hl0];simp
     obtain⟨o0,ho0⟩:∃l,l=b.bD++[((b.aJ.length:Nat):Int)]:=⟨_,rfl⟩;have hao:b.bD.map nM++[[.int .i64 ((b.aJ.length:Nat):Int)]]=o0.map nM:=by rw[ho0];simp
     rw[<-hl0,<-ho0];clear hl0 ho0;refine dN aK func116 ntmps116 ?_;have W:=aA ML (aA hl0z (aA h8 (aA hg (aA hw (aA hn (aA hta (aA hap hao)))))));have V:=hlt;refine we ?_;exact aO results116
   .rw [hvo]at c2;have hop:mU ⟨1,tn,ta,tx⟩=false:=by simp[mU,hvo]
    rw[new (.inl rfl) (by rintro(h|h|⟨h,_⟩);omega;exact jE h;(rw[hop]at h;cases h)),eC (by rw[hop];decide),hnw];obtain⟨l0,hl0⟩:∃l,l=b.aJ++[(⟨tn,[],lo,ta⟩:kG)]:=⟨_,rfl⟩;have hap:b.aJ.map (gU .own)++[[.str tn,.str [],.int .i64 lo,.sl .own 2 (ta.map uB)]]=l0.map (gU .own):=by rw[hl0];simp
    rw[<-hl0];clear hl0;refine dN aK func116 ntmps116 ?_;have W:=aA ML (aA hl0z (aA hg (aA hw (aA hn (aA hta hap)))));have V:=hlt;refine we ?_;exact aO results116
  .have hnw:nY b ⟨3,tn,ta,tx⟩=⟨[],tx,lo,[]⟩:=by unfold nY;rw[hlast];simp
   have hop:mU ⟨3,tn,ta,tx⟩=false:=by simp[mU]
   rw[new (.inr ⟨rfl,hx⟩) (by rintro(h|h|⟨h,_⟩);omega;exact jE h;(rw[hop]at h;cases h)),eC (by rw[hop];decide),hnw];obtain⟨l0,hl0⟩:∃l,l=b.aJ++[(⟨[],tx,lo,[]⟩:kG)]:=⟨_,rfl⟩;have hap:b.aJ.map (gU .own)++[[.str [],.str tx,.int .i64 lo,.sl .own 2 []]]=l0.map (gU .own):=by rw[hl0];simp
   rw[<-hl0];clear hl0;have hxb:(tx != [])=true:=by simpa using hx
   refine xA aK [15] func116 ntmps116 ?_;have W:=aA ML (aA hl0z (aA hxb (aA hg (aA hw (aA hn hap)))));have V:=hlt;repeat' first|refine wf ?_|(refine sq ?_ ?_<;>intro hc<;>try exact hc.elim)|fail
   all_goals first|(exact(hx (by assumption)).elim)|refine go_openB 6 0 3 (by rfl) (by rfl) (by rfl) ?_
   have W:=aA ML (aA hl0z (aA hxb (aA hg (aA hw (aA hn hap)))));have V:=hlt;refine we ?_;exact aO results116
 .have h1:¬tk=1:=λh=>hk (.inl h)
  have hoth:cZ b ⟨tk,tn,ta,tx⟩=(b, -1):=other h1 (λh3=>An λh=>hk (.inr ⟨h3,h⟩));rw[hoth];by_cases ML:(40:Int)<=(b.aJ.length:Int)
  .refine dN aK func116 ntmps116 ?_;have W:=aA hk2 (aA h1 ML);refine we ?_;exact aO results116
  rcases BE b.bD with ho|⟨os,lo,ho⟩
  .have hl0z:b.bD.length=0:=by rw[ho];rfl
   refine dN aK func116 ntmps116 ?_;have W:=aA hk2 (aA h1 (aA ML hl0z));refine we ?_;exact aO results116
  have dF:b.bD.length=os.length+1:=by rw[ho];simp
  have hl0z:¬b.bD.length=0:=by omega
  have hlt:os.length<b.bD.length:=by omega
  have hg:b.bD[os.length]? =some lo:=by rw[ho];simp
  have hw:i64.wrap ((b.bD.length:Int)-1)=((os.length:Nat):Int):=by rw[wrap64]<;>omega
  clear ho dF;by_cases h3:tk=3
  .have hx:tx=[]:=An λh=>hk (.inr ⟨h3,h⟩)
   subst h3;subst hx;refine dN aK func116 ntmps116 ?_;have W:=aA ML (aA hl0z (aA hg (aA hw hn)));have V:=hlt;refine we ?_;exact aO results116
  .refine dN aK func116 ntmps116 ?_;have W:=aA hk2 (aA h1 (aA h3 (aA ML (aA hl0z (aA hg (aA hw hn))))));have V:=hlt;refine we ?_;exact aO results116
def vQ(p:gG)(n:bE):Bool:= !p.zD || ((p.uC != [])&&(p.uC == n))
def Jv[aG prog](p:gG)(n:bE):Ok prog 161 [.agg (dA .view p),.str n] (.bool (vQ p n)):=by
 obtain⟨pis,psc,pst,pim,nc⟩:=p;unfold vQ;cases pis
 .refine dN aK func161 ntmps161 ?_;refine bK ?_;exact aO results161
 .by_cases h:nc=[]
  .subst h;refine dN aK func161 ntmps161 ?_;refine bK ?_;exact aO results161
  .have h2:(nc != [])=true:=by simpa using h
   refine dN aK func161 ntmps161 ?_;have W:=aA h h2;refine we ?_;all_goals try(refine bA ?_;simp[bB,results161,h,h2])
def Jw[aG prog](p:gG)(n:bE):Ok prog 173 [.agg (dA .view p),.str n] (.bool (vQ p n)):=by
 obtain⟨pis,psc,pst,pim,nc⟩:=p;unfold vQ;cases pis
 .refine dN aK func173 ntmps173 ?_;refine bK ?_;exact aO results173
 .by_cases h:nc=[]
  .subst h;refine dN aK func173 ntmps173 ?_;refine bK ?_;exact aO results173
  .have h2:(nc != [])=true:=by simpa using h
   refine dN aK func173 ntmps173 ?_;have W:=aA h h2;refine we ?_;all_goals try(refine bA ?_;simp[bB,results173,h,h2])
def xC(p:aF)(t:bM)(n:Int):aF:=
 if t.name=Ie/\(aX t.iH Bz).2=true then(gJ p 2 (aX t.iH Bz).1 (aX t.iH fC).1 n).1
 else if t.name=MI/\(aX t.iH qB).2=true then(gJ p 1 (aX t.iH qB).1 (aX t.iH fC).1 n).1 else p
def VZ[aG prog](p:aF)(t:bM)(n:Int)(hs:aM p<=274877906944)(ht:dU t<=274877906944):Ob prog 109 [.rF (.agg (aH .own p)),.view (.agg (dK .view t)),.view (.int .i64 n)] (.agg (aH .own (xC p t n))):=by
 obtain⟨tk,tn,ta,tx⟩:=t;have hta:ta.length+bU rR ta<=274877906944:=by simp only[dU,dS]at ht;omega
 have z1:=oQ ta fC;have z2:=oQ ta Bz;have z3:=oQ ta qB;have c1:=oP ta fC (by omega);have c2:=oP ta Bz (by omega);have c3:=oP ta qB (by omega);have a2:=Ab p 2 (aX ta Bz).1 (aX ta fC).1 n hs (by omega) (by omega);have a1:=Ab p 1 (aX ta qB).1 (aX ta fC).1 n hs (by omega) (by omega);simp only[xC];generalize gJ p 2 (aX ta Bz).1 (aX ta fC).1 n=g2 at*;generalize gJ p 1 (aX ta qB).1 (aX ta fC).1 n=g1 at*;simp only[aH]at a1 a2;clear z1 z2 z3;generalize aX ta fC=fd at*;generalize aX ta Bz=fh at*;generalize aX ta qB=fs at*;obtain⟨dv,db⟩:=fd;obtain⟨hv,hb⟩:=fh;obtain⟨sv,sb⟩:=fs;simp only[fC]at c1;simp only[Bz]at c2;simp only[qB]at c3;by_cases h1:tn=Ie
 .have h2:¬tn=MI:=by rw[h1];decide
  subst h1;cases hb
  .rw [eC (by rintro⟨_,h⟩;cases h),eC (by rintro⟨h,_⟩;exact h2 h)];simp only[Ie];refine uQ aK func109 ntmps109 ?_;refine bK ?_;all_goals (try exact nL (by simp[jF,fK,fH,rowOf,results109];done))
  .rw [eM ⟨rfl,rfl⟩];simp only[Ie];refine uQ aK func109 ntmps109 ?_;refine bK ?_;all_goals (try exact nL (by simp[jF,fK,fH,rowOf,results109];done))
 .rw [eC (by rintro⟨h,_⟩;exact h1 h)];have nu:(tn == [108,105,110,107])=false:=by simpa [Ie]using h1
  by_cases h2:tn=MI
  .subst h2;cases sb
   .rw [eC (by rintro⟨_,h⟩;cases h)];simp only[MI];refine uQ aK func109 ntmps109 ?_;refine bK ?_;all_goals (try exact nL (by simp[jF,fK,fH,rowOf,results109];done))
   .rw [eM ⟨rfl,rfl⟩];simp only[MI];refine uQ aK func109 ntmps109 ?_;refine bK ?_;all_goals (try exact nL (by simp[jF,fK,fH,rowOf,results109];done))
  .have h2b:(tn == [105,109,103])=false:=by simpa [MI]using h2
   rw[eC (by rintro⟨h,_⟩;exact h2 h)];refine uQ aK func109 ntmps109 ?_;have W:=aA nu h2b;refine we ?_;all_goals (try exact nL (by simp[jF,fK,fH,rowOf,results109];done))
def Io[aG prog](p:aF)(t:bM)(n:Int)(hs:aM p<=274877906944)(ht:dU t<=274877906944):Ob prog 117 [.rF (.agg (aH .own p)),.view (.agg (dK .view t)),.view (.int .i64 n)] (.agg (aH .own (xC p t n))):=by
 obtain⟨tk,tn,ta,tx⟩:=t;have hta:ta.length+bU rR ta<=274877906944:=by simp only[dU,dS]at ht;omega
 have z1:=oQ ta fC;have z2:=oQ ta Bz;have z3:=oQ ta qB;have c1:=nJ ta fC (by omega);have c2:=nJ ta Bz (by omega);have c3:=nJ ta qB (by omega);have a2:=Aa p 2 (aX ta Bz).1 (aX ta fC).1 n hs (by omega) (by omega);have a1:=Aa p 1 (aX ta qB).1 (aX ta fC).1 n hs (by omega) (by omega);simp only[xC];generalize gJ p 2 (aX ta Bz).1 (aX ta fC).1 n=g2 at*;generalize gJ p 1 (aX ta qB).1 (aX ta fC).1 n=g1 at*;simp only[aH]at a1 a2;clear z1 z2 z3;generalize aX ta fC=fd at*;generalize aX ta Bz=fh at*;generalize aX ta qB=fs at*;obtain⟨dv,db⟩:=fd;obtain⟨hv,hb⟩:=fh;obtain⟨sv,sb⟩:=fs;simp only[fC]at c1;simp only[Bz]at c2;simp only[qB]at c3;by_cases h1:tn=Ie
 .have h2:¬tn=MI:=by rw[h1];decide
  subst h1;cases hb
  .rw [eC (by rintro⟨_,h⟩;cases h),eC (by rintro⟨h,_⟩;exact h2 h)];simp only[Ie];cases sb
   .refine uQ aK func117 ntmps117 ?_;refine bK ?_;all_goals (try exact nL (by simp[jF,fK,fH,rowOf,results117];done))
   .refine uQ aK func117 ntmps117 ?_;refine bK ?_;all_goals (try exact nL (by simp[jF,fK,fH,rowOf,results117];done))
  .rw [eM ⟨rfl,rfl⟩];simp only[Ie];cases sb
   .refine uQ aK func117 ntmps117 ?_;refine bK ?_;all_goals (try exact nL (by simp[jF,fK,fH,rowOf,results117];done))
   .refine uQ aK func117 ntmps117 ?_;refine bK ?_;all_goals (try exact nL (by simp[jF,fK,fH,rowOf,results117];done))
 .rw [eC (by rintro⟨h,_⟩;exact h1 h)];have nu:(tn == [108,105,110,107])=false:=by simpa [Ie]using h1
  by_cases h2:tn=MI
  .subst h2;simp only[MI]at nu;cases sb
   .rw [eC (by rintro⟨_,h⟩;cases h)];simp only[MI];cases hb
    .refine uQ aK func117 ntmps117 ?_;refine bK ?_;all_goals (try exact nL (by simp[jF,fK,fH,rowOf,results117];done))
    .refine uQ aK func117 ntmps117 ?_;refine bK ?_;all_goals (try exact nL (by simp[jF,fK,fH,rowOf,results117];done))
   .rw [eM ⟨rfl,rfl⟩];simp only[MI];cases hb
    .refine uQ aK func117 ntmps117 ?_;refine bK ?_;all_goals (try exact nL (by simp[jF,fK,fH,rowOf,results117];done))
    .refine uQ aK func117 ntmps117 ?_;refine bK ?_;all_goals (try exact nL (by simp[jF,fK,fH,rowOf,results117];done))
  .have h2b:(tn == [105,109,103])=false:=by simpa [MI]using h2
   rw[eC (by rintro⟨h,_⟩;exact h2 h)];cases hb<;>cases sb
   .refine uQ aK func117 ntmps117 ?_;have W:=aA nu h2b;refine we ?_;all_goals (try exact nL (by simp[jF,fK,fH,rowOf,results117];done))
   .refine uQ aK func117 ntmps117 ?_;have W:=aA nu h2b;refine we ?_;all_goals (try exact nL (by simp[jF,fK,fH,rowOf,results117];done))
   .refine uQ aK func117 ntmps117 ?_;have W:=aA nu h2b;refine we ?_;all_goals (try exact nL (by simp[jF,fK,fH,rowOf,results117];done))
   .refine uQ aK func117 ntmps117 ?_;have W:=aA nu h2b;refine we ?_;all_goals (try exact nL (by simp[jF,fK,fH,rowOf,results117];done))
end Go.Proofs.YtanobkmhbpjnpaaGreatDoor
