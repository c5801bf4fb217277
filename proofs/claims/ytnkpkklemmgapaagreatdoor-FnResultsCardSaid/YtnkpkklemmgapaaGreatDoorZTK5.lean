/- Proved here: steps towards the statement of this claim. No condition. -/
import Derived.Test.YtnkpkklemmgapaaGreatDoorZQRC1
import Derived.Test.YtnkpkklemmgapaaGreatDoorZTK3
import Derived.Test.YtnkpkklemmgapaaGreatDoorZQTKB
set_option linter.all false
set_option maxRecDepth 4000
set_option maxHeartbeats 4000000
namespace Go.Proofs.YtnkpkklemmgapaaGreatDoor
open Go.Aw Proofs.Tryz List IntKind
def zS(p:fU)(n:aU):Bool:= !p.isSet || ((p.vQ != [])&&(p.vQ == n))
theorem Gp[aB prog](p:fU)(n:aU):Ok prog 229 [.agg (dK .view p),.str n] (.bool (zS p n)):=by
 obtain⟨pis,psc,pst,pim,nc⟩:=p;unfold zS;cases pis
 .refine dL aO func229 ntmps229 ?_;refine dH ?_;exact aR results229
 .by_cases h:nc=[]
  .subst h;refine dL aO func229 ntmps229 ?_;refine dH ?_;exact aR results229
  .have h2:(nc != [])=true:=by simpa using h
   refine dL aO func229 ntmps229 ?_;have W:=aA h h2;refine we ?_;all_goals try(refine aZ ?_;simp[aX,results229,h,h2])
def Av(p:aC)(t:bU)(n:Int):aC:=
 if t.name=Uw/\(bD t.attrs GY).2=true then(gN p 2 (bD t.attrs GY).1 (bD t.attrs gI).1 n).1
 else if t.name=Yn/\(bD t.attrs uN).2=true then(gN p 1 (bD t.attrs uN).1 (bD t.attrs gI).1 n).1 else p
theorem ET[aB prog](p:aC)(t:bU)(n:Int)(hs:aM p<=274877906944)(ht:dR t<=274877906944):ax prog 193 [.rQ (.agg (aQ .own p)),.view (.agg (eG .view t)),.view (.int .i64 n)] (.agg (aQ .own (Av p t n))):=by
 obtain⟨tk,tn,ta,tx⟩:=t;have hta:ta.length+bB pK ta<=274877906944:=by simp only[dR,bV]at ht;omega
 have z1:=tK ta gI;have z2:=tK ta GY;have z3:=tK ta uN;have c1:=jQ ta gI (by omega);have c2:=jQ ta GY (by omega);have c3:=jQ ta uN (by omega);have a2:=wO p 2 (bD ta GY).1 (bD ta gI).1 n hs (by omega) (by omega);have a1:=wO p 1 (bD ta uN).1 (bD ta gI).1 n hs (by omega) (by omega);simp only[Av];generalize gN p 2 (bD ta GY).1 (bD ta gI).1 n=g2 at*;generalize gN p 1 (bD ta uN).1 (bD ta gI).1 n=g1 at*;simp only[aQ]at a1 a2;clear z1 z2 z3;generalize bD ta gI=fd at*;generalize bD ta GY=fh at*;generalize bD ta uN=fs at*;obtain⟨dv,db⟩:=fd;obtain⟨hv,hb⟩:=fh;obtain⟨sv,sb⟩:=fs;simp only[gI]at c1;simp only[GY]at c2;simp only[uN]at c3;by_cases h1:tn=Uw
 .have h2:¬tn=Yn:=by rw[h1];decide
  subst h1;cases hb
  .rw [eK (by rintro⟨_,h⟩;cases h),eK (by rintro⟨h,_⟩;exact h2 h)];simp only[Uw];cases sb
   .refine BM aO func193 ntmps193 ?_;refine dH ?_;all_goals (try exact uJ (by simp[lY,gQ,gL,rowOf,results193];done))
   .refine BM aO func193 ntmps193 ?_;refine dH ?_;all_goals (try exact uJ (by simp[lY,gQ,gL,rowOf,results193];done))
  .rw [eW ⟨rfl,rfl⟩];simp only[Uw];cases sb
   .refine BM aO func193 ntmps193 ?_;refine dH ?_;all_goals (try exact uJ (by simp[lY,gQ,gL,rowOf,results193];done))
   .refine BM aO func193 ntmps193 ?_;refine dH ?_;all_goals (try exact uJ (by simp[lY,gQ,gL,rowOf,results193];done))
 .rw [eK (by rintro⟨h,_⟩;exact h1 h)];have h1b:(tn == [108,105,110,107])=false:=by simpa [Uw]using h1
  by_cases h2:tn=Yn
  .subst h2;simp only[Yn]at h1b;cases sb
   .rw [eK (by rintro⟨_,h⟩;cases h)];simp only[Yn];cases hb
    .refine BM aO func193 ntmps193 ?_;refine dH ?_;all_goals (try exact uJ (by simp[lY,gQ,gL,rowOf,results193];done))
    .refine BM aO func193 ntmps193 ?_;refine dH ?_;all_goals (try exact uJ (by simp[lY,gQ,gL,rowOf,results193];done))
   .rw [eW ⟨rfl,rfl⟩];simp only[Yn];cases hb
    .refine BM aO func193 ntmps193 ?_;refine dH ?_;all_goals (try exact uJ (by simp[lY,gQ,gL,rowOf,results193];done))
    .refine BM aO func193 ntmps193 ?_;refine dH ?_;all_goals (try exact uJ (by simp[lY,gQ,gL,rowOf,results193];done))
  .have h2b:(tn == [105,109,103])=false:=by simpa [Yn]using h2
   rw[eK (by rintro⟨h,_⟩;exact h2 h)];cases hb<;>cases sb
   .refine BM aO func193 ntmps193 ?_;have W:=aA h1b h2b;refine we ?_;all_goals (try exact uJ (by simp[lY,gQ,gL,rowOf,results193];done))
   .refine BM aO func193 ntmps193 ?_;have W:=aA h1b h2b;refine we ?_;all_goals (try exact uJ (by simp[lY,gQ,gL,rowOf,results193];done))
   .refine BM aO func193 ntmps193 ?_;have W:=aA h1b h2b;refine we ?_;all_goals (try exact uJ (by simp[lY,gQ,gL,rowOf,results193];done))
   .refine BM aO func193 ntmps193 ?_;have W:=aA h1b h2b;refine we ?_;all_goals (try exact uJ (by simp[lY,gQ,gL,rowOf,results193];done))
end Go.Proofs.YtnkpkklemmgapaaGreatDoor
