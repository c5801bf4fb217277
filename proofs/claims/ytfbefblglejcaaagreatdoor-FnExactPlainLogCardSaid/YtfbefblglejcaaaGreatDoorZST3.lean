/- Proved here: steps towards the statement of this claim. No condition. -/
import Derived.Test.YtfbefblglejcaaaGreatDoorZQSTP
set_option linter.all false
set_option maxRecDepth 8000
set_option maxHeartbeats 8000000
namespace Go.Proofs.YtfbefblglejcaaaGreatDoor
open Go.Aw Proofs.Tryz List IntKind
theorem Qt[aC prog][dL prog][bP prog][oK prog](p:aG)(hs:aI p<=500000000)(hn1:p.aB.length<=16777216)(hme:bQ bK p.aN+bQ aR p.entries<=16777216):Ok prog 89 [.agg (aH .view p)] (.gT [.agg (aH .own (nX p).1),.bool (nX p).2]):=by
 have c1:=iG p (by omega);have hn2:p.aN.length<=16777216:=by simp only[bQ]at hme;omega
 have cP:=Qc p;have cS:=Cf p (by omega);have cD:=GM p hn1;have hbd:∀s∈p.aB,s.body.length<=500000000:=λs hm=>by have:=bS kZ hm;simp only[aI,bQ,kZ]at hs this;omega
 have hed:∀a∈p.entries,bQ bK p.aN+aR a<=16777216:=λa hm=>by
  have h1:=bS aR hm;have h2:bA aR p.entries<=bQ aR p.entries:=by simp only[bQ];omega
  omega
 have aU1:p.entries.length<=16777216:=by
  have:p.entries.length<=bQ aR p.entries:=by simp only[bQ];omega
  omega
 have aOg:=jB jR p.aB 0;have PR:=NZ jR p.aB 0;unfold nX;by_cases hpre:yV p=true/\p.oW=false/\0<=p.deferred/\0<=p.iA
 .rw [eK hpre];obtain⟨h1,h2,h3,h4⟩:=hpre;obtain⟨dn,FP⟩:=mN h3;obtain⟨en,NT⟩:=mN h4;rw[FP,NT,mA,mA];rw[h1]at cP;by_cases hdl:dn<(places jR 0 p.aB).length
  .have Yv:=aE hdl;obtain⟨sn,NB,_,hsl⟩:=PR _ (fS hdl);rw[hM]at hsl;rw[NB]at Yv;rw[Yv];simp only[mA];have hgS:=aE hsl;rw[hgS];simp only;have aGx:=hbd _ (fS hsl);have hkd:i64.wrap ((dn:Int)+1)=(dn:Int)+1:=by rw[wrap64]<;>omega
   have hdi:(dn:Int)<((places jR 0 p.aB).length:Int):=by omega
   unfold Mr;have c4:=BV p p.aB[sn].body false (by omega) (by omega);have hqd:=(Jk p p.aB[sn].body false).1.trans FP;clear hbd hed PR NB aOg;generalize places jR 0 p.aB=D at*;cases hd:p.aB[sn].done
   .rw [cX (by simp)];simp only[aH,h2,FP,NT]at c1 cP cS cD⊢;refine bM aF func89 ntmps89 ?_;have W:=aA hdi (aA Yv (aA hgS hd));have V:=aA hdl hsl;refine we ?_;exact aD results89
   .generalize p.aB.all oG=F5 at*;cases F5
    .rw [cX (by simp)];simp only[aH,h2,FP,NT]at c1 cP cS cD⊢;refine bM aF func89 ntmps89 ?_;have W:=aA hdi (aA Yv (aA hgS hd));have V:=aA hdl hsl;refine we ?_;exact aD results89
    .rw [eK ⟨rfl,rfl⟩];by_cases Yt:p.aB[sn].code=1
     .rw [eK Yt];generalize lT p p.aB[sn].body false=q at*;simp only[aH,h2,FP,NT,hqd]at c1 cP cS cD c4⊢;refine bM aF func89 ntmps89 ?_;have W:=aA hdi (aA Yv (aA hgS (aA hd (aA Yt hkd))));have V:=aA hdl hsl;refine we ?_;exact aD results89
     .rw [cX Yt];simp only[aH,h2,FP,NT]at c1 cP cS cD⊢;refine bM aF func89 ntmps89 ?_;have W:=aA hdi (aA Yv (aA hgS (aA hd (aA Yt hkd))));have V:=aA hdl hsl;refine we ?_;exact aD results89
  .have Yv:(places jR 0 p.aB)[dn]? =none:=pB (by omega);rw[Yv];simp only;have hdl:¬(dn:Int)<((places jR 0 p.aB).length:Int):=by omega
   clear hbd PR Yv;generalize places jR 0 p.aB=D at*;by_cases hlE:en<p.entries.length
   .have hgE:=aE hlE;rw[hgE];simp only;have hsa:=hed _ (fS hlE);have hel:(en:Int)<(p.entries.length:Int):=by omega
    have hke:i64.wrap ((en:Int)+1)=(en:Int)+1:=by rw[wrap64]<;>omega
    have cG:=Mk p p.entries[en] hsa;have c5:=Yw p p.entries[en] hs hsa;have hqe:=(WV p p.entries[en]).trans NT;clear hed;unfold Ms;generalize xI p p.entries[en]=gr at*;cases gr
    .rw [cX (by simp)];simp only[aH,aL,h2,FP,NT]at c1 cP cS cD cG⊢;refine bM aF func89 ntmps89 ?_;have W:=aA hdl (aA hel (aA hgE hlE));refine we ?_;exact aD results89
    .generalize p.aB.all oG=F5 at*;cases F5
     .rw [cX (by simp)];simp only[aH,aL,h2,FP,NT]at c1 cP cS cD cG⊢;refine bM aF func89 ntmps89 ?_;have W:=aA hdl (aA hel (aA hgE hlE));refine we ?_;exact aD results89
     .rw [eK ⟨rfl,rfl⟩];generalize oH p p.entries[en]=q at*;simp only[aH,aL,h2,FP,NT,hqe]at c1 cP cS cD cG c5⊢;refine bM aF func89 ntmps89 ?_;have W:=aA hdl (aA hel (aA hke (aA hgE hlE)));repeat' first|refine wf ?_|(refine nx ?_;refine sg (hc:=c5) (h:=?_))|(refine sq ?_ ?_<;>intro hc<;>try exact hc.elim)|fail
      exact aD results89
   .have hgE:p.entries[en]? =none:=pB (by omega);rw[hgE];simp only;have hel:¬(en:Int)<(p.entries.length:Int):=by omega
    clear hed;have cO:=Ei p hn1;have cM:=FK p hn2;have qf:p.log.length<=500000000:=by simp only[aI,bQ]at hs;omega
    have c5:=EX p TM (by omega);unfold Mt;simp only[TM]at c5⊢;generalize places rY 0 p.aB=O at*;generalize places rZ 0 p.aN=M at*;by_cases ho:O.length=0
    .obtain rfl:=xF.1 ho;by_cases hm:M.length=0
     .obtain rfl:=xF.1 hm;rw[eK ⟨rfl,rfl⟩];simp only[aH,h2,FP,NT]at c1 cP cS cD cO cM c5⊢;refine bM aF func89 ntmps89 ?_;have W:=aA hdl hel;repeat' first|refine wf ?_|(refine nx ?_;refine sg (hc:=c5) (h:=?_))|(refine sq ?_ ?_<;>intro hc<;>try exact hc.elim)|fail
      exact aD results89
     .rw [cX (by omega)];have hm2:¬M=[]:=λh=>hm (by rw[h];rfl)
      have hm3:(0:Int)<(M.length:Int):=by omega
      simp only[aH,h2,FP,NT]at c1 cP cS cD cO cM⊢;refine bM aF func89 ntmps89 ?_;have W:=aA hdl (aA hel (aA hm2 hm3));repeat' first|refine wf ?_|(refine sq ?_ ?_<;>intro hc<;>try exact hc.elim)|fail
      all_goals (try exact(hm2 (by assumption)).elim)
      all_goals (try exact aD results89)
    .rw [cX (by omega)];have ho2:¬O=[]:=λh=>ho (by rw[h];rfl)
     have ho3:(0:Int)<(O.length:Int):=by omega
     simp only[aH,h2,FP,NT]at c1 cP cS cD cO cM⊢;refine bM aF func89 ntmps89 ?_;have W:=aA hdl (aA hel (aA ho2 ho3));refine we ?_;all_goals (try exact(ho2 (by assumption)).elim)
     all_goals (try exact aD results89)
 .rw [cX hpre];clear hbd hed PR;cases h1:yV p
  .rw [h1]at cP;simp only[aH]at c1 cP cS cD⊢;refine bM aF func89 ntmps89 ?_;refine aY ?_;exact aD results89
  .rw [h1]at cP;cases h2:p.oW
   .by_cases h3:p.deferred<0
    .simp only[aH,h2]at c1 cP cS cD⊢;refine bM aF func89 ntmps89 ?_;have W:=h3;refine we ?_;exact aD results89
    .have h4:p.iA<0:=by
      rw[h1,h2]at hpre;by_cases h4:p.iA<0
      .exact h4
      .exact (hpre ⟨rfl,rfl,by omega,by omega⟩).elim
     simp only[aH,h2]at c1 cP cS cD⊢;refine bM aF func89 ntmps89 ?_;have W:=aA h3 h4;refine we ?_;exact aD results89
   .simp only[aH,h2]at c1 cP cS cD⊢;refine bM aF func89 ntmps89 ?_;refine aY ?_;exact aD results89
end Go.Proofs.YtfbefblglejcaaaGreatDoor
