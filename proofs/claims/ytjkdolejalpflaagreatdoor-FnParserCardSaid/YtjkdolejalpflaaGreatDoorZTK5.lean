/- Proved here: steps towards the statement of this claim. No condition. -/
import Derived.Test.YtjkdolejalpflaaGreatDoorZQRC1
import Derived.Test.YtjkdolejalpflaaGreatDoorZQTK3
set_option linter.all false
set_option maxRecDepth 4000
set_option maxHeartbeats 4000000
namespace Go.Proofs.YtjkdolejalpflaaGreatDoor
open Go.Aw Proofs.Tryz List IntKind
def oV(p:dS)(n:aX):Bool:= !p.isSet || ((p.pX != [])&&(p.pX == n))
theorem Dn[aB prog](p:dS)(n:aX):Ok prog 61 [.agg (bG .view p),.str n] (.bool (oV p n)):=by
 obtain⟨pis,psc,pst,pim,nc⟩:=p;unfold oV;cases pis
 .refine dA aJ func61 ntmps61 ?_;refine bI ?_;exact aO results61
 .by_cases h:nc=[]
  .subst h;refine dA aJ func61 ntmps61 ?_;refine bI ?_;exact aO results61
  .have h2:(nc != [])=true:=by simpa using h
   refine dA aJ func61 ntmps61 ?_;have W:=aA h h2;refine we ?_;all_goals try(refine aP ?_;simp[aT,results61,h,h2])
theorem Dp[aB prog](p:dS)(n:aX):Ok prog 85 [.agg (bG .view p),.str n] (.bool (oV p n)):=by
 obtain⟨pis,psc,pst,pim,nc⟩:=p;unfold oV;cases pis
 .refine dA aJ func85 ntmps85 ?_;refine bI ?_;exact aO results85
 .by_cases h:nc=[]
  .subst h;refine dA aJ func85 ntmps85 ?_;refine bI ?_;exact aO results85
  .have h2:(nc != [])=true:=by simpa using h
   refine dA aJ func85 ntmps85 ?_;have W:=aA h h2;refine we ?_;all_goals try(refine aP ?_;simp[aT,results85,h,h2])
def vY(p:aW)(t:bD)(n:Int):aW:=
 if t.name=DR/\(aI t.attrs wE).2=true then(eQ p 2 (aI t.attrs wE).1 (aI t.attrs bX).1 n).1
 else if t.name=Ht/\(aI t.attrs lL).2=true then(eQ p 1 (aI t.attrs lL).1 (aI t.attrs bX).1 n).1 else p
theorem NF[aB prog](p:aW)(t:bD)(n:Int)(hs:aK p<=274877906944)(ht:bF t<=274877906944):UD prog 32 [.oN (.agg (aL .own p)),.view (.agg (bE .view t)),.view (.int .i64 n)] (.agg (aL .own (vY p t n))):=by
 obtain⟨tk,tn,ta,tx⟩:=t;have qa:ta.length+bM mF ta<=274877906944:=by simp only[bF,dL]at ht;omega
 have z1:=jQ ta bX;have z2:=jQ ta wE;have z3:=jQ ta lL;have c1:=jP ta bX (by omega);have c2:=jP ta wE (by omega);have c3:=jP ta lL (by omega);have a2:=tY p 2 (aI ta wE).1 (aI ta bX).1 n hs (by omega) (by omega);have a1:=tY p 1 (aI ta lL).1 (aI ta bX).1 n hs (by omega) (by omega);simp only[vY];generalize eQ p 2 (aI ta wE).1 (aI ta bX).1 n=g2 at*;generalize eQ p 1 (aI ta lL).1 (aI ta bX).1 n=g1 at*;simp only[aL]at a1 a2;clear z1 z2 z3;generalize aI ta bX=fd at*;generalize aI ta wE=fh at*;generalize aI ta lL=fs at*;obtain⟨dv,db⟩:=fd;obtain⟨hv,hb⟩:=fh;obtain⟨sv,sb⟩:=fs;simp only[bX]at c1;simp only[wE]at c2;simp only[lL]at c3;by_cases h1:tn=DR
 .have h2:¬tn=Ht:=by rw[h1];decide
  subst h1;cases hb
  .rw [cU (by rintro⟨_,h⟩;cases h),cU (by rintro⟨h,_⟩;exact h2 h)];simp only[DR];refine rZ aJ func32 ntmps32 ?_;refine bI ?_;all_goals (try exact mJ (by simp[gY,dU,dQ,rowOf,results32];done))
  .rw [eA ⟨rfl,rfl⟩];simp only[DR];refine rZ aJ func32 ntmps32 ?_;refine bI ?_;all_goals (try exact mJ (by simp[gY,dU,dQ,rowOf,results32];done))
 .rw [cU (by rintro⟨h,_⟩;exact h1 h)];have TP:(tn == [108,105,110,107])=false:=by simpa [DR]using h1
  by_cases h2:tn=Ht
  .subst h2;cases sb
   .rw [cU (by rintro⟨_,h⟩;cases h)];simp only[Ht];refine rZ aJ func32 ntmps32 ?_;refine bI ?_;all_goals (try exact mJ (by simp[gY,dU,dQ,rowOf,results32];done))
   .rw [eA ⟨rfl,rfl⟩];simp only[Ht];refine rZ aJ func32 ntmps32 ?_;refine bI ?_;all_goals (try exact mJ (by simp[gY,dU,dQ,rowOf,results32];done))
  .have Xv:(tn == [105,109,103])=false:=by simpa [Ht]using h2
   rw[cU (by rintro⟨h,_⟩;exact h2 h)];refine rZ aJ func32 ntmps32 ?_;have W:=aA TP Xv;refine we ?_;all_goals (try exact mJ (by simp[gY,dU,dQ,rowOf,results32];done))
theorem Cr[aB prog](p:aW)(t:bD)(n:Int)(hs:aK p<=274877906944)(ht:bF t<=274877906944):UD prog 52 [.oN (.agg (aL .own p)),.view (.agg (bE .view t)),.view (.int .i64 n)] (.agg (aL .own (vY p t n))):=by
 obtain⟨tk,tn,ta,tx⟩:=t;have qa:ta.length+bM mF ta<=274877906944:=by simp only[bF,dL]at ht;omega
 have z1:=jQ ta bX;have z2:=jQ ta wE;have z3:=jQ ta lL;have c1:=iU ta bX (by omega);have c2:=iU ta wE (by omega);have c3:=iU ta lL (by omega);have a2:=tX p 2 (aI ta wE).1 (aI ta bX).1 n hs (by omega) (by omega);have a1:=tX p 1 (aI ta lL).1 (aI ta bX).1 n hs (by omega) (by omega);simp only[vY];generalize eQ p 2 (aI ta wE).1 (aI ta bX).1 n=g2 at*;generalize eQ p 1 (aI ta lL).1 (aI ta bX).1 n=g1 at*;simp only[aL]at a1 a2;clear z1 z2 z3;generalize aI ta bX=fd at*;generalize aI ta wE=fh at*;generalize aI ta lL=fs at*;obtain⟨dv,db⟩:=fd;obtain⟨hv,hb⟩:=fh;obtain⟨sv,sb⟩:=fs;simp only[bX]at c1;simp only[wE]at c2;simp only[lL]at c3;by_cases h1:tn=DR
 .have h2:¬tn=Ht:=by rw[h1];decide
  subst h1;cases hb
  .rw [cU (by rintro⟨_,h⟩;cases h),cU (by rintro⟨h,_⟩;exact h2 h)];simp only[DR];cases sb
   .refine rZ aJ func52 ntmps52 ?_;refine bI ?_;all_goals (try exact mJ (by simp[gY,dU,dQ,rowOf,results52];done))
   .refine rZ aJ func52 ntmps52 ?_;refine bI ?_;all_goals (try exact mJ (by simp[gY,dU,dQ,rowOf,results52];done))
  .rw [eA ⟨rfl,rfl⟩];simp only[DR];cases sb
   .refine rZ aJ func52 ntmps52 ?_;refine bI ?_;all_goals (try exact mJ (by simp[gY,dU,dQ,rowOf,results52];done))
   .refine rZ aJ func52 ntmps52 ?_;refine bI ?_;all_goals (try exact mJ (by simp[gY,dU,dQ,rowOf,results52];done))
 .rw [cU (by rintro⟨h,_⟩;exact h1 h)];have TP:(tn == [108,105,110,107])=false:=by simpa [DR]using h1
  by_cases h2:tn=Ht
  .subst h2;simp only[Ht]at TP;cases sb
   .rw [cU (by rintro⟨_,h⟩;cases h)];simp only[Ht];cases hb
    .refine rZ aJ func52 ntmps52 ?_;refine bI ?_;all_goals (try exact mJ (by simp[gY,dU,dQ,rowOf,results52];done))
    .refine rZ aJ func52 ntmps52 ?_;refine bI ?_;all_goals (try exact mJ (by simp[gY,dU,dQ,rowOf,results52];done))
   .rw [eA ⟨rfl,rfl⟩];simp only[Ht];cases hb
    .refine rZ aJ func52 ntmps52 ?_;refine bI ?_;all_goals (try exact mJ (by simp[gY,dU,dQ,rowOf,results52];done))
    .refine rZ aJ func52 ntmps52 ?_;refine bI ?_;all_goals (try exact mJ (by simp[gY,dU,dQ,rowOf,results52];done))
  .have Xv:(tn == [105,109,103])=false:=by simpa [Ht]using h2
   rw[cU (by rintro⟨h,_⟩;exact h2 h)];cases hb<;>cases sb
   .refine rZ aJ func52 ntmps52 ?_;have W:=aA TP Xv;refine we ?_;all_goals (try exact mJ (by simp[gY,dU,dQ,rowOf,results52];done))
   .refine rZ aJ func52 ntmps52 ?_;have W:=aA TP Xv;refine we ?_;all_goals (try exact mJ (by simp[gY,dU,dQ,rowOf,results52];done))
   .refine rZ aJ func52 ntmps52 ?_;have W:=aA TP Xv;refine we ?_;all_goals (try exact mJ (by simp[gY,dU,dQ,rowOf,results52];done))
   .refine rZ aJ func52 ntmps52 ?_;have W:=aA TP Xv;refine we ?_;all_goals (try exact mJ (by simp[gY,dU,dQ,rowOf,results52];done))
end Go.Proofs.YtjkdolejalpflaaGreatDoor
