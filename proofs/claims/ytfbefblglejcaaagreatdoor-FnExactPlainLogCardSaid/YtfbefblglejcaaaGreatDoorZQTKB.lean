/- Proved here: steps towards the statement of this claim. No condition. -/
import Derived.Test.YtfbefblglejcaaaGreatDoorZQRC7
set_option linter.all false
set_option maxRecDepth 4000
set_option maxHeartbeats 4000000
namespace Go.Proofs.YtfbefblglejcaaaGreatDoor
open Go.Aw Proofs.Tryz List IntKind
theorem qP[aC prog](b:bE)(t:bT)(hs:aT b<=274877906944)(ht:bX t<=274877906944):Ok prog 174 [.agg (aU .view b),.agg (cZ .view t)] (.gT [.agg (aU .own (addToken b t).1),.int .i64 (addToken b t).2]):=by
 by_cases hk2:t.kind=2
 .have c1:=kQ b hs;have c2:=Yk b t.name hs;rw[Cb hk2];obtain⟨tk,tn,ta,tx⟩:=t;simp only at hk2 c2;subst hk2;simp only[aU]at c1 c2;generalize qE b tn (b.opens.length-1)=oc at*;refine bM aF func174 ntmps174 ?_;have W:=trivial;repeat' first|refine wf ?_|(refine nx ?_;refine sg (hc:=c2) (h:=?_))|(refine sq ?_ ?_<;>intro hc<;>try exact hc.elim)|fail
  exact aD results174
 have c1:=kQ b hs;have c2:=Vg t.name;have c3:=JR t.attrs (by simp only[bX,bQ]at ht;omega);have hn:b.nodes.length<=274877906944/\b.opens.length<=274877906944:=by simp only[aT,bQ]at hs;omega
 have Q6:t.attrs.length<=274877906944:=by simp only[bX,bQ]at ht;omega
 have other:=GQ (b:=b) hk2;have full:=Ji (b:=b) hk2;have new:=LX (b:=b) hk2;obtain⟨tk,tn,ta,tx⟩:=t;simp only at hk2 other full new c2 c3 Q6;simp only[aU]at c1;by_cases hk:tk=1\/(tk=3/\tx≠[])
 .by_cases LU:(40:Int)<=(b.nodes.length:Int)
  .rw [full (.inl (by omega))];rcases hk with rfl|⟨rfl,hx⟩
   .refine bM aF func174 ntmps174 ?_;have W:=LU;refine we ?_;exact aD results174
   .refine bM aF func174 ntmps174 ?_;have W:=aA LU hx;refine we ?_;exact aD results174
  rcases AK b.opens with ho|⟨os,lo,ho⟩
  .rw [full (.inr (.inl ho))];have hl0z:b.opens.length=0:=by rw[ho];rfl
   rcases hk with rfl|⟨rfl,hx⟩
   .refine bM aF func174 ntmps174 ?_;have W:=aA LU hl0z;refine we ?_;exact aD results174
   .refine bM aF func174 ntmps174 ?_;have W:=aA LU (aA hx hl0z);refine we ?_;exact aD results174
  have hne:b.opens≠[]:=by rw[ho];simp
  have hlast:b.opens.getLastD 0=lo:=by rw[ho];simp
  have hlen:b.opens.length=os.length+1:=by rw[ho];simp
  have hl0z:¬b.opens.length=0:=by omega
  have hlt:os.length<b.opens.length:=by omega
  have hg:b.opens[os.length]? =some lo:=by rw[ho];simp
  have hw:i64.wrap ((b.opens.length:Int)-1)=((os.length:Nat):Int):=by rw[wrap64]<;>omega
  clear ho hlen;rcases hk with rfl|⟨rfl,hx⟩
  .have hnw:uB b ⟨1,tn,ta,tx⟩=⟨tn,[],lo,ta⟩:=by unfold uB;rw[hlast];simp
   cases hvo:EZ tn
   .rw [hvo]at c2;have hop:nD ⟨1,tn,ta,tx⟩=true:=by simp[nD,hvo]
    by_cases h8:(8:Int)<=(b.opens.length:Int)
    .rw [full (.inr (.inr ⟨hop,by omega⟩))];refine bM aF func174 ntmps174 ?_;have W:=aA LU (aA hl0z h8);refine we ?_;exact aD results174
    .rw [new (.inl rfl) (by rintro(h|h|⟨_,h⟩);omega;exact hne h;omega),eK hop,hnw];obtain⟨l0,hl0⟩:∃l,l=b.nodes++[(⟨tn,[],lo,ta⟩:jK)]:=⟨_,rfl⟩;have hap:b.nodes.map (fA .own)++[[.str tn,.str [],.int .i64 lo,.sl .own 2 (ta.map uR)]]=l0.map (fA .own):=by rw[hl0];simp
     obtain⟨o0,ho0⟩:∃l,l=b.opens++[((b.nodes.length:Nat):Int)]:=⟨_,rfl⟩;have hao:b.opens.map mG++[[.int .i64 ((b.nodes.length:Nat):Int)]]=o0.map mG:=by rw[ho0];simp
     rw[<-hl0,<-ho0];clear hl0 ho0;refine bM aF func174 ntmps174 ?_;have W:=aA LU (aA hl0z (aA h8 (aA hg (aA hw (aA hn (aA Q6 (aA hap hao)))))));have V:=hlt;refine we ?_;exact aD results174
   .rw [hvo]at c2;have hop:nD ⟨1,tn,ta,tx⟩=false:=by simp[nD,hvo]
    rw[new (.inl rfl) (by rintro(h|h|⟨h,_⟩);omega;exact hne h;(rw[hop]at h;cases h)),cX (by rw[hop];decide),hnw];obtain⟨l0,hl0⟩:∃l,l=b.nodes++[(⟨tn,[],lo,ta⟩:jK)]:=⟨_,rfl⟩;have hap:b.nodes.map (fA .own)++[[.str tn,.str [],.int .i64 lo,.sl .own 2 (ta.map uR)]]=l0.map (fA .own):=by rw[hl0];simp
    rw[<-hl0];clear hl0;refine bM aF func174 ntmps174 ?_;have W:=aA LU (aA hl0z (aA hg (aA hw (aA hn (aA Q6 hap)))));have V:=hlt;refine we ?_;exact aD results174
  .have hnw:uB b ⟨3,tn,ta,tx⟩=⟨[],tx,lo,[]⟩:=by unfold uB;rw[hlast];simp
   have hop:nD ⟨3,tn,ta,tx⟩=false:=by simp[nD]
   rw[new (.inr ⟨rfl,hx⟩) (by rintro(h|h|⟨h,_⟩);omega;exact hne h;(rw[hop]at h;cases h)),cX (by rw[hop];decide),hnw];obtain⟨l0,hl0⟩:∃l,l=b.nodes++[(⟨[],tx,lo,[]⟩:jK)]:=⟨_,rfl⟩;have hap:b.nodes.map (fA .own)++[[.str [],.str tx,.int .i64 lo,.sl .own 2 []]]=l0.map (fA .own):=by rw[hl0];simp
   rw[<-hl0];clear hl0;have hxb:(tx != [])=true:=by simpa using hx
   refine uK aF [15] func174 ntmps174 ?_;have W:=aA LU (aA hl0z (aA hxb (aA hg (aA hw (aA hn hap)))));have V:=hlt;repeat' first|refine wf ?_|(refine sq ?_ ?_<;>intro hc<;>try exact hc.elim)|fail
   all_goals first|(exact(hx (by assumption)).elim)|refine go_openB 6 0 3 (by rfl) (by rfl) (by rfl) ?_
   have W:=aA LU (aA hl0z (aA hxb (aA hg (aA hw (aA hn hap)))));have V:=hlt;refine we ?_;exact aD results174
 .have h1:¬tk=1:=λh=>hk (.inl h)
  have hoth:addToken b ⟨tk,tn,ta,tx⟩=(b, -1):=other h1 (λh3=>tR λh=>hk (.inr ⟨h3,h⟩));rw[hoth];by_cases LU:(40:Int)<=(b.nodes.length:Int)
  .refine bM aF func174 ntmps174 ?_;have W:=aA hk2 (aA h1 LU);refine we ?_;exact aD results174
  rcases AK b.opens with ho|⟨os,lo,ho⟩
  .have hl0z:b.opens.length=0:=by rw[ho];rfl
   refine bM aF func174 ntmps174 ?_;have W:=aA hk2 (aA h1 (aA LU hl0z));refine we ?_;exact aD results174
  have hlen:b.opens.length=os.length+1:=by rw[ho];simp
  have hl0z:¬b.opens.length=0:=by omega
  have hlt:os.length<b.opens.length:=by omega
  have hg:b.opens[os.length]? =some lo:=by rw[ho];simp
  have hw:i64.wrap ((b.opens.length:Int)-1)=((os.length:Nat):Int):=by rw[wrap64]<;>omega
  clear ho hlen;by_cases h3:tk=3
  .have hx:tx=[]:=tR λh=>hk (.inr ⟨h3,h⟩)
   subst h3;subst hx;refine bM aF func174 ntmps174 ?_;have W:=aA LU (aA hl0z (aA hg (aA hw hn)));have V:=hlt;refine we ?_;exact aD results174
  .refine bM aF func174 ntmps174 ?_;have W:=aA hk2 (aA h1 (aA h3 (aA LU (aA hl0z (aA hg (aA hw hn))))));have V:=hlt;refine we ?_;exact aD results174
def uC(p:eU)(n:bB):Bool:= !p.isSet || ((p.tK != [])&&(p.tK == n))
theorem Iz[aC prog](p:eU)(n:bB):Ok prog 251 [.agg (bN .view p),.str n] (.bool (uC p n)):=by
 obtain⟨pis,psc,pst,pim,nc⟩:=p;unfold uC;cases pis
 .refine bM aF func251 ntmps251 ?_;refine aY ?_;exact aD results251
 .by_cases h:nc=[]
  .subst h;refine bM aF func251 ntmps251 ?_;refine aY ?_;exact aD results251
  .have h2:(nc != [])=true:=by simpa using h
   refine bM aF func251 ntmps251 ?_;have W:=aA h h2;refine we ?_;all_goals try(refine aQ ?_;simp[aP,results251,h,h2])
theorem IB[aC prog](p:eU)(n:bB):Ok prog 227 [.agg (bN .view p),.str n] (.bool (uC p n)):=by
 obtain⟨pis,psc,pst,pim,nc⟩:=p;unfold uC;cases pis
 .refine bM aF func227 ntmps227 ?_;refine aY ?_;exact aD results227
 .by_cases h:nc=[]
  .subst h;refine bM aF func227 ntmps227 ?_;refine aY ?_;exact aD results227
  .have h2:(nc != [])=true:=by simpa using h
   refine bM aF func227 ntmps227 ?_;have W:=aA h h2;refine we ?_;all_goals try(refine aQ ?_;simp[aP,results227,h,h2])
def AQ(p:aG)(t:bT)(n:Int):aG:=
 if t.name=Jh/\(aW t.attrs Bd).2=true then(gP p 2 (aW t.attrs Bd).1 (aW t.attrs dR).1 n).1
 else if t.name=NN/\(aW t.attrs oP).2=true then(gP p 1 (aW t.attrs oP).1 (aW t.attrs dR).1 n).1 else p
theorem Vh[aC prog](p:aG)(t:bT)(n:Int)(hs:aI p<=274877906944)(ht:bX t<=274877906944):MP prog 202 [.oM (.agg (aH .own p)),.view (.agg (cZ .view t)),.view (.int .i64 n)] (.agg (aH .own (AQ p t n))):=by
 obtain⟨tk,tn,ta,tx⟩:=t;have Q6:ta.length+bA oU ta<=274877906944:=by simp only[bX,bQ]at ht;omega
 have z1:=mW ta dR;have z2:=mW ta Bd;have z3:=mW ta oP;have c1:=mV ta dR (by omega);have c2:=mV ta Bd (by omega);have c3:=mV ta oP (by omega);have a2:=yQ p 2 (aW ta Bd).1 (aW ta dR).1 n hs (by omega) (by omega);have a1:=yQ p 1 (aW ta oP).1 (aW ta dR).1 n hs (by omega) (by omega);simp only[AQ];generalize gP p 2 (aW ta Bd).1 (aW ta dR).1 n=g2 at*;generalize gP p 1 (aW ta oP).1 (aW ta dR).1 n=g1 at*;simp only[aH]at a1 a2;clear z1 z2 z3;generalize aW ta dR=fd at*;generalize aW ta Bd=fh at*;generalize aW ta oP=fs at*;obtain⟨dv,db⟩:=fd;obtain⟨hv,hb⟩:=fh;obtain⟨sv,sb⟩:=fs;simp only[dR]at c1;simp only[Bd]at c2;simp only[oP]at c3;by_cases h1:tn=Jh
 .have h2:¬tn=NN:=by rw[h1];decide
  subst h1;cases hb
  .rw [cX (by rintro⟨_,h⟩;cases h),cX (by rintro⟨h,_⟩;exact h2 h)];simp only[Jh];refine sG aF func202 ntmps202 ?_;refine aY ?_;all_goals (try exact kH (by simp[gF,dI,dH,rowOf,results202];done))
  .rw [eK ⟨rfl,rfl⟩];simp only[Jh];refine sG aF func202 ntmps202 ?_;refine aY ?_;all_goals (try exact kH (by simp[gF,dI,dH,rowOf,results202];done))
 .rw [cX (by rintro⟨h,_⟩;exact h1 h)];have KG:(tn == [108,105,110,107])=false:=by simpa [Jh]using h1
  by_cases h2:tn=NN
  .subst h2;cases sb
   .rw [cX (by rintro⟨_,h⟩;cases h)];simp only[NN];refine sG aF func202 ntmps202 ?_;refine aY ?_;all_goals (try exact kH (by simp[gF,dI,dH,rowOf,results202];done))
   .rw [eK ⟨rfl,rfl⟩];simp only[NN];refine sG aF func202 ntmps202 ?_;refine aY ?_;all_goals (try exact kH (by simp[gF,dI,dH,rowOf,results202];done))
  .have Q7:(tn == [105,109,103])=false:=by simpa [NN]using h2
   rw[cX (by rintro⟨h,_⟩;exact h2 h)];refine sG aF func202 ntmps202 ?_;have W:=aA KG Q7;refine we ?_;all_goals (try exact kH (by simp[gF,dI,dH,rowOf,results202];done))
theorem GR[aC prog](p:aG)(t:bT)(n:Int)(hs:aI p<=274877906944)(ht:bX t<=274877906944):MP prog 175 [.oM (.agg (aH .own p)),.view (.agg (cZ .view t)),.view (.int .i64 n)] (.agg (aH .own (AQ p t n))):=by
 obtain⟨tk,tn,ta,tx⟩:=t;have Q6:ta.length+bA oU ta<=274877906944:=by simp only[bX,bQ]at ht;omega
 have z1:=mW ta dR;have z2:=mW ta Bd;have z3:=mW ta oP;have c1:=kV ta dR (by omega);have c2:=kV ta Bd (by omega);have c3:=kV ta oP (by omega);have a2:=yP p 2 (aW ta Bd).1 (aW ta dR).1 n hs (by omega) (by omega);have a1:=yP p 1 (aW ta oP).1 (aW ta dR).1 n hs (by omega) (by omega);simp only[AQ];generalize gP p 2 (aW ta Bd).1 (aW ta dR).1 n=g2 at*;generalize gP p 1 (aW ta oP).1 (aW ta dR).1 n=g1 at*;simp only[aH]at a1 a2;clear z1 z2 z3;generalize aW ta dR=fd at*;generalize aW ta Bd=fh at*;generalize aW ta oP=fs at*;obtain⟨dv,db⟩:=fd;obtain⟨hv,hb⟩:=fh;obtain⟨sv,sb⟩:=fs;simp only[dR]at c1;simp only[Bd]at c2;simp only[oP]at c3;by_cases h1:tn=Jh
 .have h2:¬tn=NN:=by rw[h1];decide
  subst h1;cases hb
  .rw [cX (by rintro⟨_,h⟩;cases h),cX (by rintro⟨h,_⟩;exact h2 h)];simp only[Jh];cases sb
   .refine sG aF func175 ntmps175 ?_;refine aY ?_;all_goals (try exact kH (by simp[gF,dI,dH,rowOf,results175];done))
   .refine sG aF func175 ntmps175 ?_;refine aY ?_;all_goals (try exact kH (by simp[gF,dI,dH,rowOf,results175];done))
  .rw [eK ⟨rfl,rfl⟩];simp only[Jh];cases sb
   .refine sG aF func175 ntmps175 ?_;refine aY ?_;all_goals (try exact kH (by simp[gF,dI,dH,rowOf,results175];done))
   .refine sG aF func175 ntmps175 ?_;refine aY ?_;all_goals (try exact kH (by simp[gF,dI,dH,rowOf,results175];done))
 .rw [cX (by rintro⟨h,_⟩;exact h1 h)];have KG:(tn == [108,105,110,107])=false:=by simpa [Jh]using h1
  by_cases h2:tn=NN
  .subst h2;simp only[NN]at KG;cases sb
   .rw [cX (by rintro⟨_,h⟩;cases h)];simp only[NN];cases hb
    .refine sG aF func175 ntmps175 ?_;refine aY ?_;all_goals (try exact kH (by simp[gF,dI,dH,rowOf,results175];done))
    .refine sG aF func175 ntmps175 ?_;refine aY ?_;all_goals (try exact kH (by simp[gF,dI,dH,rowOf,results175];done))
   .rw [eK ⟨rfl,rfl⟩];simp only[NN];cases hb
    .refine sG aF func175 ntmps175 ?_;refine aY ?_;all_goals (try exact kH (by simp[gF,dI,dH,rowOf,results175];done))
    .refine sG aF func175 ntmps175 ?_;refine aY ?_;all_goals (try exact kH (by simp[gF,dI,dH,rowOf,results175];done))
  .have Q7:(tn == [105,109,103])=false:=by simpa [NN]using h2
   rw[cX (by rintro⟨h,_⟩;exact h2 h)];cases hb<;>cases sb
   .refine sG aF func175 ntmps175 ?_;have W:=aA KG Q7;refine we ?_;all_goals (try exact kH (by simp[gF,dI,dH,rowOf,results175];done))
   .refine sG aF func175 ntmps175 ?_;have W:=aA KG Q7;refine we ?_;all_goals (try exact kH (by simp[gF,dI,dH,rowOf,results175];done))
   .refine sG aF func175 ntmps175 ?_;have W:=aA KG Q7;refine we ?_;all_goals (try exact kH (by simp[gF,dI,dH,rowOf,results175];done))
   .refine sG aF func175 ntmps175 ?_;have W:=aA KG Q7;refine we ?_;all_goals (try exact kH (by simp[gF,dI,dH,rowOf,results175];done))
end Go.Proofs.YtfbefblglejcaaaGreatDoor
