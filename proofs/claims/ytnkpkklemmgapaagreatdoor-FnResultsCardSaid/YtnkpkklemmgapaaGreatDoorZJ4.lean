/- Proved here: steps towards the statement of this claim. No condition. -/
import Derived.Test.YtnkpkklemmgapaaGreatDoorZQT1
set_option linter.all false
set_option maxRecDepth 4000
set_option maxHeartbeats 4000000
namespace Go.Proofs.YtnkpkklemmgapaaGreatDoor
open Go.Aw Proofs.Tryz List IntKind
theorem LQ(c:UInt8):∀s:aU,bB dI (dP c s)<=s.length
 |[]=>by simp[dP,bB,dI]
 |x::s=>by
  have ih:=LQ c s;simp only[dP];split
  .simp only[bB,dI,eR,dT]at ih⊢;omega
  .split
   .rename_i h0;exact absurd h0 (uD c s)
   .rename_i p q h0;rw[h0]at ih;simp only[bB,dI,dT]at ih⊢;omega
theorem aDv(c:UInt8)(s:aU):bV dI (dP c s)<=2*s.length+1:=by have h1:=LQ c s;have h2:=jU c s;have h3:=tB (a:=c) (l:=s);simp only[bV];omega
theorem IX(c:UInt8)(s:aU):bV dI (dP c s).tail<=2*s.length+1:=by
 have h:=aDv c s;cases hs:dP c s with
 |nil=>exact absurd hs (uD c s)
 |cons x l=>rw[hs]at h;simp only[bV,bB,dT,tail_cons]at h⊢;omega
theorem xS{c:UInt8}{s x:aU}(h:x∈dP c s):x.length<=s.length:=by have h1:=LQ c s;have h2:=dS dI h;simp only[dI]at h2;omega
theorem MV(f:aU->aU){s x0 x1 x2:aU}{r:List aU}(h:dP 59 s=x0::x1::x2::r):Bw f s=⟨true,(dP 32 x0).tail,(dP 32 x1).tail,(dP 32 x2).tail,match r[0]? with|some x=>f x|none=>[]⟩:=by unfold Bw;rw[h];rfl
theorem Qx(f:aU->aU)(hf:∀x,(f x).length<=x.length){s:aU}(h:¬(dP 59 s).length<3):gF (Bw f s)<=7*s.length+3:=by
 match hs:dP 59 s with
 |[]=>rw[hs]at h;simp at h
 |[_]=>rw[hs]at h;simp at h
 |[_,_]=>rw[hs]at h;simp at h
 |x0::x1::x2::r=>
  rw[MV f hs];have h0:=xS (c:=59) (s:=s) (x:=x0) (by rw[hs];simp);have h1:=xS (c:=59) (s:=s) (x:=x1) (by rw[hs];simp);have h2:=xS (c:=59) (s:=s) (x:=x2) (by rw[hs];simp);have k0:=IX 32 x0;have k1:=IX 32 x1;have k2:=IX 32 x2;simp only[gF];cases r with
  |nil=>simp;omega
  |cons x r=>have h3:=xS (c:=59) (s:=s) (x:=x) (by rw[hs];simp);have:=hf x;simp only[By];omega
theorem UI(x:aU):(sJ x).length<=x.length:=by unfold sJ;split<;>simp
theorem BA[aB prog](s:aU)(c:UInt8)(hl:s.length<=1099511627776):Ok prog 93 [.str s,.int .u8 c.toNat] (.sl .view 1 ((dP c s).map dQ)):=(vI s c hl).Dt (by simp[rt])
theorem AO[aB prog](s:aU)(hl:s.length<=1073741824):Ok prog 187 [.str s] (.iP [.agg (dK .view (Fg sJ s).1),.bool (Fg sJ s).2]):=by
 have z1:Ok prog 187 [.str []] (.iP [.agg [.bool false,.sl .own 1 [],.sl .own 1 [],.sl .own 1 [],.str []],.bool true]):=by refine Sv aO func187 ntmps187 ?_;refine dH ?_;all_goals try(first|(refine⟨.inr rfl,.inl ?_⟩;simp[mG,results187];done)|(refine⟨.inr rfl,.inr (pX ?_)⟩;simp[AS.EF,AS.Ce,AS.rv,results187];done)|(refine⟨.inr rfl,.inl ?_⟩;simp[mG,results187]))
 have c0:Ok prog 93 [.str s,.int .u8 59] (.sl .view 1 ((dP 59 s).map dQ)):=BA s 59 (by omega);unfold Fg;by_cases h0:s=[]
 .rw [eW h0];subst h0;exact z1.Dt (by simp[rt,qD,AJ])
 rw[eK h0];by_cases h3:(dP 59 s).length<3
 .rw [eW h3];have z2:Ok prog 187 [.str s] (.iP [.agg [.bool false,.sl .own 1 [],.sl .own 1 [],.sl .own 1 [],.str []],.bool false]):=by
   have h3':((dP 59 s).length:Int)<3:=by omega
   generalize dP 59 s=L at*;refine Sv aO func187 ntmps187 ?_;have W:=aA h0 (aA h3' h3);have V:=h0;repeat' first|refine wf ?_|(refine sq ?_ ?_<;>intro hc<;>try exact hc.elim)|fail
   all_goals try(first|(refine⟨.inr rfl,.inl ?_⟩;simp[mG,results187];done)|(refine⟨.inr rfl,.inr (pX ?_)⟩;simp[AS.EF,AS.Ce,AS.rv,results187];done)|(refine⟨.inr rfl,.inl ?_⟩;simp[mG,results187]))
   all_goals exact absurd (by assumption) h0
  exact z2.Dt (by simp[rt,qD,AJ])
 rw[eK h3];have hz:=Qx sJ UI h3;have cf:=uO (Bw sJ s) (by omega);obtain⟨x0,x1,x2,r,hs⟩:∃x0 x1 x2 r,dP 59 s=x0::x1::x2::r:=by
  match hs:dP 59 s with
  |[]=>rw[hs]at h3;simp at h3
  |[_]=>rw[hs]at h3;simp at h3
  |[_,_]=>rw[hs]at h3;simp at h3
  |x0::x1::x2::r=>exact⟨x0,x1,x2,r,rfl⟩
 have m0:=xS (c:=59) (s:=s) (x:=x0) (by rw[hs];simp);have m1:=xS (c:=59) (s:=s) (x:=x1) (by rw[hs];simp);have m2:=xS (c:=59) (s:=s) (x:=x2) (by rw[hs];simp);have hrl:r.length<=s.length:=by have:=jU 59 s;have h3:=tB (a:=(59:UInt8)) (l:=s);rw[hs]at this;simp at this;omega
 rw[hs]at c0;have e:=MV sJ hs;have c1:Ok prog 93 [.str x0,.int .u8 32] (.sl .view 1 ((dP 32 x0).map dQ)):=BA x0 32 (by omega);have c2:Ok prog 93 [.str x1,.int .u8 32] (.sl .view 1 ((dP 32 x1).map dQ)):=BA x1 32 (by omega);have c3:Ok prog 93 [.str x2,.int .u8 32] (.sl .view 1 ((dP 32 x2).map dQ)):=BA x2 32 (by omega);obtain⟨y0,t0,e0⟩:=exists_cons_of_ne_nil (uD 32 x0);obtain⟨y1,t1,e1⟩:=exists_cons_of_ne_nil (uD 32 x1);obtain⟨y2,t2,e2⟩:=exists_cons_of_ne_nil (uD 32 x2);rw[e0]at c1;rw[e1]at c2;rw[e2]at c3;rw[e0,e1,e2]at e;simp only[tail_cons]at e;clear hs m0 m1 m2 e0 e1 e2 h3 hz;have tk:∀(t:List aU),(t.map dQ).take t.length=t.map dQ:=λt=>eJ (by simp)
 have key:∀(n:aU),Bw sJ s=⟨true,t0,t1,t2,n⟩->∀b,decide (nG (Bw sJ s)=s)=b->Ok prog 139 [.agg [.bool true,.sl .view 1 (t0.map dQ),.sl .view 1 (t1.map dQ),.sl .view 1 (t2.map dQ),.str n]] (.str (nG (Bw sJ s))):=by intro n hn b _;rw[hn]at cf⊢;simpa only[dK]using cf
 have lC:∀n,Bw sJ s=⟨true,t0,t1,t2,n⟩->(Ok prog 139 [.agg [.bool true,.sl .view 1 (t0.map dQ),.sl .view 1 (t1.map dQ),.sl .view 1 (t2.map dQ),.str n]] (.str (nG (Bw sJ s))))->
   Ok prog 187 [.str s] (if nG (Bw sJ s)=s then .iP [.agg [.bool true,.sl .view 1 (t0.map dQ),.sl .view 1 (t1.map dQ),.sl .view 1 (t2.map dQ),.str n],.bool true]else .iP [.agg [.bool false,.sl .own 1 [],.sl .own 1 [],.sl .own 1 [],.str []],.bool false]):=by
  intro n hn cF;rw[e]at hn;simp only[fU.mk.injEq,true_and]at hn;subst hn;generalize nG (Bw sJ s)=F at*;cases r with
  |nil=>
   simp only[getElem?_nil]at cF⊢;by_cases hF:F=s
   .rw [eW hF];refine Sv aO func187 ntmps187 ?_;have W:=aA h0 (aA hF tk);have V:=aA h0 tk;repeat' first|refine wf ?_|(refine sq ?_ ?_<;>intro hc<;>try exact hc.elim)|fail
    all_goals try(first|(refine⟨.inr rfl,.inl ?_⟩;simp[mG,results187];done)|(refine⟨.inr rfl,.inr (pX ?_)⟩;simp[AS.EF,AS.Ce,AS.rv,results187];done)|(refine⟨.inr rfl,.inl ?_⟩;simp[mG,results187]))
    all_goals first|exact absurd (by assumption) h0|omega|simp_all
   .rw [eK hF];refine Sv aO func187 ntmps187 ?_;have W:=aA h0 (aA hF tk);have V:=aA h0 tk;repeat' first|refine wf ?_|(refine sq ?_ ?_<;>intro hc<;>try exact hc.elim)|fail
    all_goals try(first|(refine⟨.inr rfl,.inl ?_⟩;simp[mG,results187];done)|(refine⟨.inr rfl,.inr (pX ?_)⟩;simp[AS.EF,AS.Ce,AS.rv,results187];done)|(refine⟨.inr rfl,.inl ?_⟩;simp[mG,results187]))
    all_goals first|exact absurd (by assumption) h0|omega|simp_all
  |cons x r=>
   simp only[By]at cF⊢;unfold sJ at cF⊢;by_cases hx:6<x.length
   .rw [eW hx]at cF⊢;by_cases hF:F=s
    .rw [eW hF];refine Sv aO func187 ntmps187 ?_;have W:=aA h0 (aA hF (aA hx tk));have V:=aA h0 tk;repeat' first|refine wf ?_|(refine sq ?_ ?_<;>intro hc<;>try exact hc.elim)|fail
     all_goals try(first|(refine⟨.inr rfl,.inl ?_⟩;simp[mG,results187];done)|(refine⟨.inr rfl,.inr (pX ?_)⟩;simp[AS.EF,AS.Ce,AS.rv,results187];done)|(refine⟨.inr rfl,.inl ?_⟩;simp[mG,results187]))
     all_goals first|exact absurd (by assumption) h0|omega|simp_all
    .rw [eK hF];refine Sv aO func187 ntmps187 ?_;have W:=aA h0 (aA hF (aA hx tk));have V:=aA h0 tk;repeat' first|refine wf ?_|(refine sq ?_ ?_<;>intro hc<;>try exact hc.elim)|fail
     all_goals try(first|(refine⟨.inr rfl,.inl ?_⟩;simp[mG,results187];done)|(refine⟨.inr rfl,.inr (pX ?_)⟩;simp[AS.EF,AS.Ce,AS.rv,results187];done)|(refine⟨.inr rfl,.inl ?_⟩;simp[mG,results187]))
     all_goals first|exact absurd (by assumption) h0|omega|simp_all
   .rw [eK hx]at cF⊢;by_cases hF:F=s
    .rw [eW hF];refine Sv aO func187 ntmps187 ?_;have W:=aA h0 (aA hF (aA hx tk));have V:=aA h0 tk;repeat' first|refine wf ?_|(refine sq ?_ ?_<;>intro hc<;>try exact hc.elim)|fail
     all_goals try(first|(refine⟨.inr rfl,.inl ?_⟩;simp[mG,results187];done)|(refine⟨.inr rfl,.inr (pX ?_)⟩;simp[AS.EF,AS.Ce,AS.rv,results187];done)|(refine⟨.inr rfl,.inl ?_⟩;simp[mG,results187]))
     all_goals first|exact absurd (by assumption) h0|omega|simp_all
    .rw [eK hF];refine Sv aO func187 ntmps187 ?_;have W:=aA h0 (aA hF (aA hx tk));have V:=aA h0 tk;repeat' first|refine wf ?_|(refine sq ?_ ?_<;>intro hc<;>try exact hc.elim)|fail
     all_goals try(first|(refine⟨.inr rfl,.inl ?_⟩;simp[mG,results187];done)|(refine⟨.inr rfl,.inr (pX ?_)⟩;simp[AS.EF,AS.Ce,AS.rv,results187];done)|(refine⟨.inr rfl,.inl ?_⟩;simp[mG,results187]))
     all_goals first|exact absurd (by assumption) h0|omega|simp_all
 have:=lC _ e (key _ e _ rfl);by_cases hF:nG (Bw sJ s)=s
 .rw [eW hF]at this⊢;rw[e];exact this.Dt (by simp[rt,qD])
 .rw [eK hF]at this⊢;exact this.Dt (by simp[rt,qD,AJ])
end Go.Proofs.YtnkpkklemmgapaaGreatDoor
