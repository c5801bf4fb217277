/- Proved here: steps towards the statement of this claim. No condition. -/
import Derived.Test.YthddijamfbfibaaGreatDoorZQQ2
set_option linter.all false
set_option maxRecDepth 4000
set_option maxHeartbeats 4000000
namespace Go.Proofs.YthddijamfbfibaaGreatDoor
open Go.Aw Proofs.Tryz List IntKind
theorem Oc(c:UInt8):∀s:bB,aY gJ (dE c s)<=s.length
 |[]=>by simp[dE,aY,gJ]
 |x::s=>by
  have ih:=Oc c s;simp only[dE];split
  .simp only[aY,gJ,eV,eN]at ih⊢;omega
  .split
   .rename_i h0;exact absurd h0 (rH c s)
   .rename_i p q h0;rw[h0]at ih;simp only[aY,gJ,eN]at ih⊢;omega
theorem aGy(c:UInt8)(s:bB):bP gJ (dE c s)<=2*s.length+1:=by have h1:=Oc c s;have h2:=iV c s;have h3:=pP (a:=c) (l:=s);simp only[bP];omega
theorem Kr(c:UInt8)(s:bB):bP gJ (dE c s).tail<=2*s.length+1:=by
 have h:=aGy c s;cases hs:dE c s with
 |nil=>exact absurd hs (rH c s)
 |cons x l=>rw[hs]at h;simp only[bP,aY,eN,tail_cons]at h⊢;omega
theorem sZ{c:UInt8}{s x:bB}(h:x∈dE c s):x.length<=s.length:=by have h1:=Oc c s;have h2:=bS gJ h;simp only[gJ]at h2;omega
theorem GM(f:bB->bB){s x0 x1 x2:bB}{r:List bB}(h:dE 59 s=x0::x1::x2::r):sH f s=⟨true,(dE 32 x0).tail,(dE 32 x1).tail,(dE 32 x2).tail,match r[0]? with|some x=>f x|none=>[]⟩:=by unfold sH;rw[h];rfl
theorem Kt(f:bB->bB)(hf:∀x,(f x).length<=x.length){s:bB}(h:¬(dE 59 s).length<3):eF (sH f s)<=7*s.length+3:=by
 match hs:dE 59 s with
 |[]=>rw[hs]at h;simp at h
 |[_]=>rw[hs]at h;simp at h
 |[_,_]=>rw[hs]at h;simp at h
 |x0::x1::x2::r=>
  rw[GM f hs];have h0:=sZ (c:=59) (s:=s) (x:=x0) (by rw[hs];simp);have h1:=sZ (c:=59) (s:=s) (x:=x1) (by rw[hs];simp);have h2:=sZ (c:=59) (s:=s) (x:=x2) (by rw[hs];simp);have k0:=Kr 32 x0;have k1:=Kr 32 x1;have k2:=Kr 32 x2;simp only[eF];cases r with
  |nil=>simp;omega
  |cons x r=>have h3:=sZ (c:=59) (s:=s) (x:=x) (by rw[hs];simp);have:=hf x;simp only[tE];omega
theorem XK(x:bB):(qP x).length<=x.length:=by unfold qP;split<;>simp
theorem Dk[aB prog](s:bB)(c:UInt8)(hl:s.length<=1099511627776):Ok prog 115 [.str s,.int .u8 c.toNat] (.sl .view 1 ((dE c s).map dC)):=(xG s c hl).EY (by simp[rt])
theorem BZ[aB prog](s:bB)(hl:s.length<=1073741824):Ok prog 68 [.str s] (.gM [.agg (bN .view (vJ qP s).1),.bool (vJ qP s).2]):=by
 have z1:Ok prog 68 [.str []] (.gM [.agg [.bool false,.sl .own 1 [],.sl .own 1 [],.sl .own 1 [],.str []],.bool true]):=by refine Wh aG func68 ntmps68 ?_;refine aZ ?_;all_goals try(first|(refine⟨.inr rfl,.inl ?_⟩;simp[qQ,results68];done)|(refine⟨.inr rfl,.inr (rZ ?_)⟩;simp[AS.yO,AS.wY,AS.rv,results68];done)|(refine⟨.inr rfl,.inl ?_⟩;simp[qQ,results68]))
 have c0:Ok prog 115 [.str s,.int .u8 59] (.sl .view 1 ((dE 59 s).map dC)):=Dk s 59 (by omega);unfold vJ;by_cases h0:s=[]
 .rw [eK h0];subst h0;exact z1.EY (by simp[rt,xO,oV])
 rw[cY h0];by_cases h3:(dE 59 s).length<3
 .rw [eK h3];have z2:Ok prog 68 [.str s] (.gM [.agg [.bool false,.sl .own 1 [],.sl .own 1 [],.sl .own 1 [],.str []],.bool false]):=by
   have h3':((dE 59 s).length:Int)<3:=by omega
   generalize dE 59 s=L at*;refine Wh aG func68 ntmps68 ?_;have W:=aA h0 (aA h3' h3);have V:=h0;repeat' first|refine wf ?_|(refine sq ?_ ?_<;>intro hc<;>try exact hc.elim)|fail
   all_goals try(first|(refine⟨.inr rfl,.inl ?_⟩;simp[qQ,results68];done)|(refine⟨.inr rfl,.inr (rZ ?_)⟩;simp[AS.yO,AS.wY,AS.rv,results68];done)|(refine⟨.inr rfl,.inl ?_⟩;simp[qQ,results68]))
   all_goals exact absurd (by assumption) h0
  exact z2.EY (by simp[rt,xO,oV])
 rw[cY h3];have hz:=Kt qP XK h3;have cf:=IU (sH qP s) (by omega);obtain⟨x0,x1,x2,r,hs⟩:∃x0 x1 x2 r,dE 59 s=x0::x1::x2::r:=by
  match hs:dE 59 s with
  |[]=>rw[hs]at h3;simp at h3
  |[_]=>rw[hs]at h3;simp at h3
  |[_,_]=>rw[hs]at h3;simp at h3
  |x0::x1::x2::r=>exact⟨x0,x1,x2,r,rfl⟩
 have m0:=sZ (c:=59) (s:=s) (x:=x0) (by rw[hs];simp);have m1:=sZ (c:=59) (s:=s) (x:=x1) (by rw[hs];simp);have m2:=sZ (c:=59) (s:=s) (x:=x2) (by rw[hs];simp);have hrl:r.length<=s.length:=by have:=iV 59 s;have h3:=pP (a:=(59:UInt8)) (l:=s);rw[hs]at this;simp at this;omega
 rw[hs]at c0;have e:=GM qP hs;have c1:Ok prog 115 [.str x0,.int .u8 32] (.sl .view 1 ((dE 32 x0).map dC)):=Dk x0 32 (by omega);have c2:Ok prog 115 [.str x1,.int .u8 32] (.sl .view 1 ((dE 32 x1).map dC)):=Dk x1 32 (by omega);have c3:Ok prog 115 [.str x2,.int .u8 32] (.sl .view 1 ((dE 32 x2).map dC)):=Dk x2 32 (by omega);obtain⟨y0,t0,e0⟩:=An (rH 32 x0);obtain⟨y1,t1,e1⟩:=An (rH 32 x1);obtain⟨y2,t2,e2⟩:=An (rH 32 x2);rw[e0]at c1;rw[e1]at c2;rw[e2]at c3;rw[e0,e1,e2]at e;simp only[tail_cons]at e;clear hs m0 m1 m2 e0 e1 e2 h3 hz;have tk:∀(t:List bB),(t.map dC).take t.length=t.map dC:=λt=>cX (by simp)
 have key:∀(n:bB),sH qP s=⟨true,t0,t1,t2,n⟩->∀b,decide (iX (sH qP s)=s)=b->Ok prog 116 [.agg [.bool true,.sl .view 1 (t0.map dC),.sl .view 1 (t1.map dC),.sl .view 1 (t2.map dC),.str n]] (.str (iX (sH qP s))):=by intro n hn b _;rw[hn]at cf⊢;simpa only[bN]using cf
 have jK:∀n,sH qP s=⟨true,t0,t1,t2,n⟩->(Ok prog 116 [.agg [.bool true,.sl .view 1 (t0.map dC),.sl .view 1 (t1.map dC),.sl .view 1 (t2.map dC),.str n]] (.str (iX (sH qP s))))->
   Ok prog 68 [.str s] (if iX (sH qP s)=s then .gM [.agg [.bool true,.sl .view 1 (t0.map dC),.sl .view 1 (t1.map dC),.sl .view 1 (t2.map dC),.str n],.bool true]else .gM [.agg [.bool false,.sl .own 1 [],.sl .own 1 [],.sl .own 1 [],.str []],.bool false]):=by
  intro n hn cF;rw[e]at hn;simp only[eX.mk.injEq,true_and]at hn;subst hn;generalize iX (sH qP s)=F at*;cases r with
  |nil=>
   simp only[getElem?_nil]at cF⊢;by_cases hF:F=s
   .rw [eK hF];refine Wh aG func68 ntmps68 ?_;have W:=aA h0 (aA hF tk);have V:=aA h0 tk;repeat' first|refine wf ?_|(refine sq ?_ ?_<;>intro hc<;>try exact hc.elim)|fail
    all_goals try(first|(refine⟨.inr rfl,.inl ?_⟩;simp[qQ,results68];done)|(refine⟨.inr rfl,.inr (rZ ?_)⟩;simp[AS.yO,AS.wY,AS.rv,results68];done)|(refine⟨.inr rfl,.inl ?_⟩;simp[qQ,results68]))
    all_goals first|exact absurd (by assumption) h0|omega|simp_all
   .rw [cY hF];refine Wh aG func68 ntmps68 ?_;have W:=aA h0 (aA hF tk);have V:=aA h0 tk;repeat' first|refine wf ?_|(refine sq ?_ ?_<;>intro hc<;>try exact hc.elim)|fail
    all_goals try(first|(refine⟨.inr rfl,.inl ?_⟩;simp[qQ,results68];done)|(refine⟨.inr rfl,.inr (rZ ?_)⟩;simp[AS.yO,AS.wY,AS.rv,results68];done)|(refine⟨.inr rfl,.inl ?_⟩;simp[qQ,results68]))
    all_goals first|exact absurd (by assumption) h0|omega|simp_all
  |cons x r=>
   simp only[tE]at cF⊢;unfold qP at cF⊢;by_cases hx:6<x.length
   .rw [eK hx]at cF⊢;by_cases hF:F=s
    .rw [eK hF];refine Wh aG func68 ntmps68 ?_;have W:=aA h0 (aA hF (aA hx tk));have V:=aA h0 tk;repeat' first|refine wf ?_|(refine sq ?_ ?_<;>intro hc<;>try exact hc.elim)|fail
     all_goals try(first|(refine⟨.inr rfl,.inl ?_⟩;simp[qQ,results68];done)|(refine⟨.inr rfl,.inr (rZ ?_)⟩;simp[AS.yO,AS.wY,AS.rv,results68];done)|(refine⟨.inr rfl,.inl ?_⟩;simp[qQ,results68]))
     all_goals first|exact absurd (by assumption) h0|omega|simp_all
    .rw [cY hF];refine Wh aG func68 ntmps68 ?_;have W:=aA h0 (aA hF (aA hx tk));have V:=aA h0 tk;repeat' first|refine wf ?_|(refine sq ?_ ?_<;>intro hc<;>try exact hc.elim)|fail
     all_goals try(first|(refine⟨.inr rfl,.inl ?_⟩;simp[qQ,results68];done)|(refine⟨.inr rfl,.inr (rZ ?_)⟩;simp[AS.yO,AS.wY,AS.rv,results68];done)|(refine⟨.inr rfl,.inl ?_⟩;simp[qQ,results68]))
     all_goals first|exact absurd (by assumption) h0|omega|simp_all
   .rw [cY hx]at cF⊢;by_cases hF:F=s
    .rw [eK hF];refine Wh aG func68 ntmps68 ?_;have W:=aA h0 (aA hF (aA hx tk));have V:=aA h0 tk;repeat' first|refine wf ?_|(refine sq ?_ ?_<;>intro hc<;>try exact hc.elim)|fail
     all_goals try(first|(refine⟨.inr rfl,.inl ?_⟩;simp[qQ,results68];done)|(refine⟨.inr rfl,.inr (rZ ?_)⟩;simp[AS.yO,AS.wY,AS.rv,results68];done)|(refine⟨.inr rfl,.inl ?_⟩;simp[qQ,results68]))
     all_goals first|exact absurd (by assumption) h0|omega|simp_all
    .rw [cY hF];refine Wh aG func68 ntmps68 ?_;have W:=aA h0 (aA hF (aA hx tk));have V:=aA h0 tk;repeat' first|refine wf ?_|(refine sq ?_ ?_<;>intro hc<;>try exact hc.elim)|fail
     all_goals try(first|(refine⟨.inr rfl,.inl ?_⟩;simp[qQ,results68];done)|(refine⟨.inr rfl,.inr (rZ ?_)⟩;simp[AS.yO,AS.wY,AS.rv,results68];done)|(refine⟨.inr rfl,.inl ?_⟩;simp[qQ,results68]))
     all_goals first|exact absurd (by assumption) h0|omega|simp_all
 have:=jK _ e (key _ e _ rfl);by_cases hF:iX (sH qP s)=s
 .rw [eK hF]at this⊢;rw[e];exact this.EY (by simp[rt,xO])
 .rw [cY hF]at this⊢;exact this.EY (by simp[rt,xO,oV])
end Go.Proofs.YthddijamfbfibaaGreatDoor
