/- Proved here: steps towards the statement of this claim. No condition. -/
import Derived.Test.YtjkdolejalpflaaGreatDoorZQJ1
set_option linter.all false
set_option maxRecDepth 4000
set_option maxHeartbeats 4000000
namespace Go.Proofs.YtjkdolejalpflaaGreatDoor
open Go.Aw Proofs.Tryz List IntKind
theorem Ie(c:UInt8):∀s:aX,bM dG (dP c s)<=s.length
 |[]=>by simp[dP,bM,dG]
 |x::s=>by
  have ih:=Ie c s;simp only[dP];split
  .simp only[bM,dG,eR,eE]at ih⊢;omega
  .split
   .rename_i h0;exact absurd h0 (tF c s)
   .rename_i p q h0;rw[h0]at ih;simp only[bM,dG,eE]at ih⊢;omega
theorem qi(c:UInt8)(s:aX):dL dG (dP c s)<=2*s.length+1:=by have h1:=Ie c s;have h2:=iI c s;have h3:=pC (a:=c) (l:=s);simp only[dL];omega
theorem EU(c:UInt8)(s:aX):dL dG (dP c s).tail<=2*s.length+1:=by
 have h:=qi c s;cases hs:dP c s with
 |nil=>exact absurd hs (tF c s)
 |cons x l=>rw[hs]at h;simp only[dL,bM,eE,tail_cons]at h⊢;omega
theorem uU{c:UInt8}{s x:aX}(h:x∈dP c s):x.length<=s.length:=by have h1:=Ie c s;have h2:=eY dG h;simp only[dG]at h2;omega
theorem Ji(f:aX->aX){s x0 x1 x2:aX}{r:List aX}(h:dP 59 s=x0::x1::x2::r):yT f s=⟨true,(dP 32 x0).tail,(dP 32 x1).tail,(dP 32 x2).tail,match r[0]? with|some x=>f x|none=>[]⟩:=by unfold yT;rw[h];rfl
theorem MB(f:aX->aX)(hf:∀x,(f x).length<=x.length){s:aX}(h:¬(dP 59 s).length<3):dD (yT f s)<=7*s.length+3:=by
 match hs:dP 59 s with
 |[]=>rw[hs]at h;simp at h
 |[_]=>rw[hs]at h;simp at h
 |[_,_]=>rw[hs]at h;simp at h
 |x0::x1::x2::r=>
  rw[Ji f hs];have h0:=uU (c:=59) (s:=s) (x:=x0) (by rw[hs];simp);have h1:=uU (c:=59) (s:=s) (x:=x1) (by rw[hs];simp);have h2:=uU (c:=59) (s:=s) (x:=x2) (by rw[hs];simp);have k0:=EU 32 x0;have k1:=EU 32 x1;have k2:=EU 32 x2;simp only[dD];cases r with
  |nil=>simp;omega
  |cons x r=>have h3:=uU (c:=59) (s:=s) (x:=x) (by rw[hs];simp);have:=hf x;simp only[sL];omega
theorem Pp(x:aX):(pR x).length<=x.length:=by unfold pR;split<;>simp
theorem yV[aB prog](s:aX)(c:UInt8)(hl:s.length<=1099511627776):Ok prog 73 [.str s,.int .u8 c.toNat] (.sl .view 1 ((dP c s).map dR)):=(sG s c hl).Cx (by simp[rt])
theorem xR[aB prog](s:aX)(hl:s.length<=1073741824):Ok prog 166 [.str s] (.fH [.agg (bG .view (Cw pR s).1),.bool (Cw pR s).2]):=by
 have z1:Ok prog 166 [.str []] (.fH [.agg [.bool false,.sl .own 1 [],.sl .own 1 [],.sl .own 1 [],.str []],.bool true]):=by refine NK aJ func166 ntmps166 ?_;refine bI ?_;all_goals try(first|(refine⟨.inr rfl,.inl ?_⟩;simp[kW,results166];done)|(refine⟨.inr rfl,.inr (nJ ?_)⟩;simp[AS.zI,AS.wI,AS.rv,results166];done)|(refine⟨.inr rfl,.inl ?_⟩;simp[kW,results166]))
 have c0:Ok prog 73 [.str s,.int .u8 59] (.sl .view 1 ((dP 59 s).map dR)):=yV s 59 (by omega);unfold Cw;by_cases h0:s=[]
 .rw [eA h0];subst h0;exact z1.Cx (by simp[rt,pM,xQ])
 rw[cU h0];by_cases h3:(dP 59 s).length<3
 .rw [eA h3];have z2:Ok prog 166 [.str s] (.fH [.agg [.bool false,.sl .own 1 [],.sl .own 1 [],.sl .own 1 [],.str []],.bool false]):=by
   have h3':((dP 59 s).length:Int)<3:=by omega
   generalize dP 59 s=L at*;refine NK aJ func166 ntmps166 ?_;have W:=aA h0 (aA h3' h3);have V:=h0;repeat' first|refine wf ?_|(refine sq ?_ ?_<;>intro hc<;>try exact hc.elim)|fail
   all_goals try(first|(refine⟨.inr rfl,.inl ?_⟩;simp[kW,results166];done)|(refine⟨.inr rfl,.inr (nJ ?_)⟩;simp[AS.zI,AS.wI,AS.rv,results166];done)|(refine⟨.inr rfl,.inl ?_⟩;simp[kW,results166]))
   all_goals exact absurd (by assumption) h0
  exact z2.Cx (by simp[rt,pM,xQ])
 rw[cU h3];have hz:=MB pR Pp h3;have cf:=rD (yT pR s) (by omega);obtain⟨x0,x1,x2,r,hs⟩:∃x0 x1 x2 r,dP 59 s=x0::x1::x2::r:=by
  match hs:dP 59 s with
  |[]=>rw[hs]at h3;simp at h3
  |[_]=>rw[hs]at h3;simp at h3
  |[_,_]=>rw[hs]at h3;simp at h3
  |x0::x1::x2::r=>exact⟨x0,x1,x2,r,rfl⟩
 have m0:=uU (c:=59) (s:=s) (x:=x0) (by rw[hs];simp);have m1:=uU (c:=59) (s:=s) (x:=x1) (by rw[hs];simp);have m2:=uU (c:=59) (s:=s) (x:=x2) (by rw[hs];simp);have hrl:r.length<=s.length:=by have:=iI 59 s;have h3:=pC (a:=(59:UInt8)) (l:=s);rw[hs]at this;simp at this;omega
 rw[hs]at c0;have e:=Ji pR hs;have c1:Ok prog 73 [.str x0,.int .u8 32] (.sl .view 1 ((dP 32 x0).map dR)):=yV x0 32 (by omega);have c2:Ok prog 73 [.str x1,.int .u8 32] (.sl .view 1 ((dP 32 x1).map dR)):=yV x1 32 (by omega);have c3:Ok prog 73 [.str x2,.int .u8 32] (.sl .view 1 ((dP 32 x2).map dR)):=yV x2 32 (by omega);obtain⟨y0,t0,e0⟩:=exists_cons_of_ne_nil (tF 32 x0);obtain⟨y1,t1,e1⟩:=exists_cons_of_ne_nil (tF 32 x1);obtain⟨y2,t2,e2⟩:=exists_cons_of_ne_nil (tF 32 x2);rw[e0]at c1;rw[e1]at c2;rw[e2]at c3;rw[e0,e1,e2]at e;simp only[tail_cons]at e;clear hs m0 m1 m2 e0 e1 e2 h3 hz;have tk:∀(t:List aX),(t.map dR).take t.length=t.map dR:=λt=>eL (by simp)
 have key:∀(n:aX),yT pR s=⟨true,t0,t1,t2,n⟩->∀b,decide (lX (yT pR s)=s)=b->Ok prog 133 [.agg [.bool true,.sl .view 1 (t0.map dR),.sl .view 1 (t1.map dR),.sl .view 1 (t2.map dR),.str n]] (.str (lX (yT pR s))):=by intro n hn b _;rw[hn]at cf⊢;simpa only[bG]using cf
 have mD:∀n,yT pR s=⟨true,t0,t1,t2,n⟩->(Ok prog 133 [.agg [.bool true,.sl .view 1 (t0.map dR),.sl .view 1 (t1.map dR),.sl .view 1 (t2.map dR),.str n]] (.str (lX (yT pR s))))->
   Ok prog 166 [.str s] (if lX (yT pR s)=s then .fH [.agg [.bool true,.sl .view 1 (t0.map dR),.sl .view 1 (t1.map dR),.sl .view 1 (t2.map dR),.str n],.bool true]else .fH [.agg [.bool false,.sl .own 1 [],.sl .own 1 [],.sl .own 1 [],.str []],.bool false]):=by
  intro n hn cF;rw[e]at hn;simp only[dS.mk.injEq,true_and]at hn;subst hn;generalize lX (yT pR s)=F at*;cases r with
  |nil=>
   simp only[getElem?_nil]at cF⊢;by_cases hF:F=s
   .rw [eA hF];refine NK aJ func166 ntmps166 ?_;have W:=aA h0 (aA hF tk);have V:=aA h0 tk;repeat' first|refine wf ?_|(refine sq ?_ ?_<;>intro hc<;>try exact hc.elim)|fail
    all_goals try(first|(refine⟨.inr rfl,.inl ?_⟩;simp[kW,results166];done)|(refine⟨.inr rfl,.inr (nJ ?_)⟩;simp[AS.zI,AS.wI,AS.rv,results166];done)|(refine⟨.inr rfl,.inl ?_⟩;simp[kW,results166]))
    all_goals first|exact absurd (by assumption) h0|omega|simp_all
   .rw [cU hF];refine NK aJ func166 ntmps166 ?_;have W:=aA h0 (aA hF tk);have V:=aA h0 tk;repeat' first|refine wf ?_|(refine sq ?_ ?_<;>intro hc<;>try exact hc.elim)|fail
    all_goals try(first|(refine⟨.inr rfl,.inl ?_⟩;simp[kW,results166];done)|(refine⟨.inr rfl,.inr (nJ ?_)⟩;simp[AS.zI,AS.wI,AS.rv,results166];done)|(refine⟨.inr rfl,.inl ?_⟩;simp[kW,results166]))
    all_goals first|exact absurd (by assumption) h0|omega|simp_all
  |cons x r=>
   simp only[sL]at cF⊢;unfold pR at cF⊢;by_cases hx:6<x.length
   .rw [eA hx]at cF⊢;by_cases hF:F=s
    .rw [eA hF];refine NK aJ func166 ntmps166 ?_;have W:=aA h0 (aA hF (aA hx tk));have V:=aA h0 tk;repeat' first|refine wf ?_|(refine sq ?_ ?_<;>intro hc<;>try exact hc.elim)|fail
     all_goals try(first|(refine⟨.inr rfl,.inl ?_⟩;simp[kW,results166];done)|(refine⟨.inr rfl,.inr (nJ ?_)⟩;simp[AS.zI,AS.wI,AS.rv,results166];done)|(refine⟨.inr rfl,.inl ?_⟩;simp[kW,results166]))
     all_goals first|exact absurd (by assumption) h0|omega|simp_all
    .rw [cU hF];refine NK aJ func166 ntmps166 ?_;have W:=aA h0 (aA hF (aA hx tk));have V:=aA h0 tk;repeat' first|refine wf ?_|(refine sq ?_ ?_<;>intro hc<;>try exact hc.elim)|fail
     all_goals try(first|(refine⟨.inr rfl,.inl ?_⟩;simp[kW,results166];done)|(refine⟨.inr rfl,.inr (nJ ?_)⟩;simp[AS.zI,AS.wI,AS.rv,results166];done)|(refine⟨.inr rfl,.inl ?_⟩;simp[kW,results166]))
     all_goals first|exact absurd (by assumption) h0|omega|simp_all
   .rw [cU hx]at cF⊢;by_cases hF:F=s
    .rw [eA hF];refine NK aJ func166 ntmps166 ?_;have W:=aA h0 (aA hF (aA hx tk));have V:=aA h0 tk;repeat' first|refine wf ?_|(refine sq ?_ ?_<;>intro hc<;>try exact hc.elim)|fail
     all_goals try(first|(refine⟨.inr rfl,.inl ?_⟩;simp[kW,results166];done)|(refine⟨.inr rfl,.inr (nJ ?_)⟩;simp[AS.zI,AS.wI,AS.rv,results166];done)|(refine⟨.inr rfl,.inl ?_⟩;simp[kW,results166]))
     all_goals first|exact absurd (by assumption) h0|omega|simp_all
    .rw [cU hF];refine NK aJ func166 ntmps166 ?_;have W:=aA h0 (aA hF (aA hx tk));have V:=aA h0 tk;repeat' first|refine wf ?_|(refine sq ?_ ?_<;>intro hc<;>try exact hc.elim)|fail
     all_goals try(first|(refine⟨.inr rfl,.inl ?_⟩;simp[kW,results166];done)|(refine⟨.inr rfl,.inr (nJ ?_)⟩;simp[AS.zI,AS.wI,AS.rv,results166];done)|(refine⟨.inr rfl,.inl ?_⟩;simp[kW,results166]))
     all_goals first|exact absurd (by assumption) h0|omega|simp_all
 have:=mD _ e (key _ e _ rfl);by_cases hF:lX (yT pR s)=s
 .rw [eA hF]at this⊢;rw[e];exact this.Cx (by simp[rt,pM])
 .rw [cU hF]at this⊢;exact this.Cx (by simp[rt,pM,xQ])
end Go.Proofs.YtjkdolejalpflaaGreatDoor
