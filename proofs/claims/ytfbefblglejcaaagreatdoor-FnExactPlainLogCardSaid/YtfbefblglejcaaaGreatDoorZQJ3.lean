/- Proved here: steps towards the statement of this claim. No condition. -/
import Derived.Test.YtfbefblglejcaaaGreatDoorZQU4
set_option linter.all false
set_option maxRecDepth 4000
set_option maxHeartbeats 4000000
namespace Go.Proofs.YtfbefblglejcaaaGreatDoor
open Go.Aw Proofs.Tryz List IntKind
theorem SC[aC prog](l:List bB)(sep:bB)(hl:l.length<=140737488355328)(hs:(Lib.join l sep).length<=140737488355328):
  Ok prog 197 [.sl .view 1 (l.map bW),.str sep] (.str (Lib.join l sep)):=L9 Tryz.lays156 Tryz.Builder_Extra_156 l sep hl hs
def CU(s:bB):Bool:= !dA s
theorem XV[aC prog](s:bB)(hl:s.length<=1099511627776):Ok prog 281 [.str s] (.bool (CU s)):=by have c1:=gL s hl;unfold CU;generalize dA s=b at*;refine bM aF func281 ntmps281 ?_;refine aY ?_;exact aD results281
theorem Va[aC prog](l:List bB)(hs:bQ gG l<=1099511627776):Ok prog 300 [.sl .view 1 (l.map bW),.fn 281 []] (.int .i64 (qF CU l)):=by
 simp only[bQ]at hs;refine bM aF func300 ntmps300 ?_;refine aY ?_;refine aO (ι:={k:Nat // k<=l.length/\∀x∈l.take k,CU x=false}) (λt o i=>⟨bC t [(8,.int .i64 i.1),(5,.undef)],o⟩)
  (λi=>l.length-i.1) ⟨0,by simp⟩ aJ ?_
 rintro⟨k,hk,hpre⟩ K1 hK1;simp only[bC,cW,cU]at hK1⊢;have hk1:=oQ (k:=k);by_cases hlt:k<l.length
 .have hg:=aE hlt;have hel:=dK gG l k hlt;simp only[gG]at hel;have c1:=XV l[k] (by omega);generalize hb:CU l[k]=b at*;have W:=aA hk1 (aA hg hlt);repeat' first|refine wf ?_|(refine sq ?_ ?_<;>intro hc<;>try exact hc.elim)|fail
  .all_goals try(refine aQ ?_;simp[aP,results300])
   rw[uS hlt (by simpa [hb]using hc) hpre]
  .exact hK1 _ ⟨k+1,by omega,cB hlt hpre (by simpa [hb]using hc)⟩ aJ (by simp only;omega)
 .have W:=hk1;refine we ?_;all_goals try(refine aQ ?_;simp[aP,results300])
  rw[nJ (iR (by omega) hpre)]
theorem NC[aC prog](l:List bB)(hs:bQ gG l<=1099511627776):Ok prog 280 [.sl .view 1 (l.map bW),.fn 281 []] (.bool (l.any CU)):=by
 have c1:=Va l hs;refine bM aF func280 ntmps280 ?_;refine aY ?_;all_goals try(refine aQ ?_;simp[aP,results280])
 exact Gj _ _
theorem Gp[aC prog](l:List bB)(hs:bQ gG l<=1099511627776):Ok prog 241 [.sl .view 1 (l.map bW)] (.bool (lK l)):=by
 have c1:=NC l hs;simp only[bQ]at hs;have e:l.any CU= !l.all dA:=by rw[any_eq_not_all_not];simp[CU]
 have e2:decide (l.length<=4)=decide ((l.length:Int)<=4):=by simp only[rS];omega
 rw[e]at c1;unfold lK;rw[e2];generalize l.all dA=b at*;refine bM aF func241 ntmps241 ?_;have W:=trivial;repeat' first|refine wf ?_|(refine sq ?_ ?_<;>intro hc<;>try exact hc.elim)|fail
 all_goals try(refine aQ ?_;simp[aP,results241])
 all_goals simp_all
theorem PS[aC prog](p:eU)(hs:eD p<=1099511627776):Ok prog 196 [.agg (bN .view p)] (.bool (nV p)):=by
 simp only[eD]at hs;have c1:=Gp p.fC (by omega);have c2:=Gp p.gX (by omega);have c3:=Gp p.gY (by omega);have c4:=BI p.tK (by omega);have l1:(p.fC == [])=decide ((p.fC.length:Int)=0):=by cases p.fC<;>simp<;>omega
 have l2:(p.gX == [])=decide ((p.gX.length:Int)=0):=by cases p.gX<;>simp<;>omega
 have l3:(p.gY == [])=decide ((p.gY.length:Int)=0):=by cases p.gY<;>simp<;>omega
 unfold nV;rw[l1,l2,l3];generalize lK p.fC=b1 at*;generalize lK p.gX=b2 at*;generalize lK p.gY=b3 at*;generalize isValue p.tK=b4 at*;generalize hb:p.isSet=b at*;cases b
 .refine bM aF func196 ntmps196 ?_;have W:=hb;repeat' first|refine wf ?_|(refine sq ?_ ?_<;>intro hc<;>try exact hc.elim)|fail
  all_goals try(refine aQ ?_;simp[aP,results196,hb])
  all_goals simp_all
 .refine bM aF func196 ntmps196 ?_;have W:=hb;repeat' first|refine wf ?_|(refine sq ?_ ?_<;>intro hc<;>try exact hc.elim)|fail
  all_goals try(refine aQ ?_;simp[aP,results196,hb])
  all_goals simp_all
theorem Ir[aC prog](p:eU)(hs:eD p<=274877906944):Ok prog 142 [.agg (bN .view p)] (.str (iT p)):=by
 have c0:=PS p (by omega);simp only[bN]at c0;have hq:= @Sz p;have hn':nV p=true->p.isSet=true->p.fC.length<=4/\p.gX.length<=4/\p.gY.length<=4:=by intro h hs;simp only[nV,hs,gC,eJ]at h;exact⟨(Bw h.1.1.1).1,(Bw h.1.1.2).1,(Bw h.1.2).1⟩
 have hs0:=hs;simp only[eD,bQ]at hs;unfold iT;by_cases h1:nV p=true
 .by_cases h2:p.isSet=true
  .obtain ⟨k1,k2,k3,k4⟩:=hq h1 h2;obtain⟨n1,n2,n3⟩:=hn' h1 h2;have j1:Ok prog 197 [.sl .view 1 ([.str [115,99,114,105,112,116]]::p.fC.map bW),.str [32]] (.str (words vY p.fC)):=SC (vY::p.fC) [32] (by simp;omega) (by change (words vY p.fC).length<=_;omega);have j2:Ok prog 197 [.sl .view 1 ([.str [115,116,121,108,101]]::p.gX.map bW),.str [32]] (.str (words zI p.gX)):=SC (zI::p.gX) [32] (by simp;omega) (by change (words zI p.gX).length<=_;omega);have j3:Ok prog 197 [.sl .view 1 ([.str [105,109,103]]::p.gY.map bW),.str [32]] (.str (words Ll p.gY)):=SC (Ll::p.gY) [32] (by simp;omega) (by change (words Ll p.gY).length<=_;omega);rw[eK ⟨h1,h2⟩];unfold XO;rw[h1,h2]at c0;generalize words vY p.fC=q1 at*;generalize words zI p.gX=q2 at*;generalize words Ll p.gY=q3 at*;by_cases hn:p.tK=[]
   .rw [eK hn];rw[hn]at c0;refine uK aF [3] func142 ntmps142 ?_;have W:=aA h2 hn;have V:=aA h2 hn;refine we ?_;refine go_drawn3 [⟨1,1,[(3,⟨true,false,1,2,[.str [115,99,114,105,112,116]]::p.fC.map bW⟩),(0,⟨true,false,1,1,[[.str [115,99,114,105,112,116]]]⟩)]⟩,⟨2,1,[(9,⟨true,false,1,2,[.str [115,116,121,108,101]]::p.gX.map bW⟩),(6,⟨true,false,1,1,[[.str [115,116,121,108,101]]]⟩)]⟩,⟨3,1,[(16,⟨true,false,1,2,[.str [105,109,103]]::p.gY.map bW⟩),(13,⟨true,false,1,1,[[.str [105,109,103]]]⟩)]⟩] (by simp;rfl) (by decide+kernel) (by decide+kernel) (by simp[nC,pre,Region.binds]) (by simp) ?_
    repeat' first|refine XU (by simp;rfl) (by simp;rfl) ?_|(refine QG ?_ (by simp;rfl) ?_;(focus (simp;done)))|(refine oD (j:=3) (v:= .obj 1 2) ⟨1,1,[(3,⟨true,false,1,2,[.str [115,99,114,105,112,116]]::p.fC.map bW⟩),(0,⟨true,false,1,1,[[.str [115,99,114,105,112,116]]]⟩)]⟩ [] [(0,⟨true,false,1,1,[[.str [115,99,114,105,112,116]]]⟩)] rfl (by simp) rfl (by simp[Region.binds];rfl) (by decide) (by simp[Region.binds];rfl) (by simp;rfl) rfl ?_ ?_;(focus (refine zL (by first|(simp;rfl)|(simp;done)|rfl) rfl (by first|(simp;rfl)|(simp;done)|rfl) (by first|(simp;rfl)|(simp;done)|rfl) (by first|(simp;rfl)|(simp;done)|rfl) (by simp;exact⟨rfl,rfl⟩) (by simp) (by simp) (by simp;omega) (by simp;omega))))|(refine oD (j:=0) (v:= .obj 1 1) ⟨1,1,[(3,⟨true,false,1,2,[.str [115,99,114,105,112,116]]::p.fC.map bW⟩),(0,⟨true,false,1,1,[[.str [115,99,114,105,112,116]]]⟩)]⟩ [(3,⟨true,false,1,2,[.str [115,99,114,105,112,116]]::p.fC.map bW⟩)] [] rfl (by simp) rfl (by simp[Region.binds];rfl) (by decide) (by simp[Region.binds];rfl) (by simp;rfl) rfl ?_ ?_;(focus (refine CS (by simp;exact⟨rfl,rfl⟩) (by simp) rfl rfl (by decide) (by decide) (by first|(simp;rfl)|rfl) (by simp[AV.iC]) (by simp[AV.xX,AV.cells]) (by simp) (by simp[AV.cells]))))|(refine oD (j:=9) (v:= .obj 2 2) ⟨2,1,[(9,⟨true,false,1,2,[.str [115,116,121,108,101]]::p.gX.map bW⟩),(6,⟨true,false,1,1,[[.str [115,116,121,108,101]]]⟩)]⟩ [] [(6,⟨true,false,1,1,[[.str [115,116,121,108,101]]]⟩)] rfl (by simp) rfl (by simp[Region.binds];rfl) (by decide) (by simp[Region.binds];rfl) (by simp;rfl) rfl ?_ ?_;(focus (refine zL (by first|(simp;rfl)|(simp;done)|rfl) rfl (by first|(simp;rfl)|(simp;done)|rfl) (by first|(simp;rfl)|(simp;done)|rfl) (by first|(simp;rfl)|(simp;done)|rfl) (by simp;exact⟨rfl,rfl⟩) (by simp) (by simp) (by simp;omega) (by simp;omega))))|(refine oD (j:=6) (v:= .obj 2 1) ⟨2,1,[(9,⟨true,false,1,2,[.str [115,116,121,108,101]]::p.gX.map bW⟩),(6,⟨true,false,1,1,[[.str [115,116,121,108,101]]]⟩)]⟩ [(9,⟨true,false,1,2,[.str [115,116,121,108,101]]::p.gX.map bW⟩)] [] rfl (by simp) rfl (by simp[Region.binds];rfl) (by decide) (by simp[Region.binds];rfl) (by simp;rfl) rfl ?_ ?_;(focus (refine CS (by simp;exact⟨rfl,rfl⟩) (by simp) rfl rfl (by decide) (by decide) (by first|(simp;rfl)|rfl) (by simp[AV.iC]) (by simp[AV.xX,AV.cells]) (by simp) (by simp[AV.cells]))))|(refine oD (j:=16) (v:= .obj 3 2) ⟨3,1,[(16,⟨true,false,1,2,[.str [105,109,103]]::p.gY.map bW⟩),(13,⟨true,false,1,1,[[.str [105,109,103]]]⟩)]⟩ [] [(13,⟨true,false,1,1,[[.str [105,109,103]]]⟩)] rfl (by simp) rfl (by simp[Region.binds];rfl) (by decide) (by simp[Region.binds];rfl) (by simp;rfl) rfl ?_ ?_;(focus (refine zL (by first|(simp;rfl)|(simp;done)|rfl) rfl (by first|(simp;rfl)|(simp;done)|rfl) (by first|(simp;rfl)|(simp;done)|rfl) (by first|(simp;rfl)|(simp;done)|rfl) (by simp;exact⟨rfl,rfl⟩) (by simp) (by simp) (by simp;omega) (by simp;omega))))|(refine oD (j:=13) (v:= .obj 3 1) ⟨3,1,[(16,⟨true,false,1,2,[.str [105,109,103]]::p.gY.map bW⟩),(13,⟨true,false,1,1,[[.str [105,109,103]]]⟩)]⟩ [(16,⟨true,false,1,2,[.str [105,109,103]]::p.gY.map bW⟩)] [] rfl (by simp) rfl (by simp[Region.binds];rfl) (by decide) (by simp[Region.binds];rfl) (by simp;rfl) rfl ?_ ?_;(focus (refine CS (by simp;exact⟨rfl,rfl⟩) (by simp) rfl rfl (by decide) (by decide) (by first|(simp;rfl)|rfl) (by simp[AV.iC]) (by simp[AV.xX,AV.cells]) (by simp) (by simp[AV.cells]))))|(refine QH rfl ?_ (by simp[Region.binds];rfl) (by decide) (by simp[Region.binds];rfl) (by simp;rfl) ?_ rfl (by first|rfl|(simp;done)) ?_;(focus (first|rfl|(simp;done)));(focus (first|rfl|(simp[nU];done))))|(refine nx ?_;refine so ?_)|fail
    have W:=aA h2 hn;have V:=aA h2 hn;refine we ?_;all_goals try(refine aQ ?_;simp[aP,results142,h2,hn])
   .rw [cX hn];refine uK aF [3] func142 ntmps142 ?_;have W:=aA h2 hn;have V:=aA h2 hn;refine we ?_;refine go_drawn3 [⟨1,1,[(3,⟨true,false,1,2,[.str [115,99,114,105,112,116]]::p.fC.map bW⟩),(0,⟨true,false,1,1,[[.str [115,99,114,105,112,116]]]⟩)]⟩,⟨2,1,[(9,⟨true,false,1,2,[.str [115,116,121,108,101]]::p.gX.map bW⟩),(6,⟨true,false,1,1,[[.str [115,116,121,108,101]]]⟩)]⟩,⟨3,1,[(16,⟨true,false,1,2,[.str [105,109,103]]::p.gY.map bW⟩),(13,⟨true,false,1,1,[[.str [105,109,103]]]⟩)]⟩] (by simp;rfl) (by decide+kernel) (by decide+kernel) (by simp[nC,pre,Region.binds]) (by simp) ?_
    repeat' first|refine XU (by simp;rfl) (by simp;rfl) ?_|(refine QG ?_ (by simp;rfl) ?_;(focus (simp;done)))|(refine oD (j:=3) (v:= .obj 1 2) ⟨1,1,[(3,⟨true,false,1,2,[.str [115,99,114,105,112,116]]::p.fC.map bW⟩),(0,⟨true,false,1,1,[[.str [115,99,114,105,112,116]]]⟩)]⟩ [] [(0,⟨true,false,1,1,[[.str [115,99,114,105,112,116]]]⟩)] rfl (by simp) rfl (by simp[Region.binds];rfl) (by decide) (by simp[Region.binds];rfl) (by simp;rfl) rfl ?_ ?_;(focus (refine zL (by first|(simp;rfl)|(simp;done)|rfl) rfl (by first|(simp;rfl)|(simp;done)|rfl) (by first|(simp;rfl)|(simp;done)|rfl) (by first|(simp;rfl)|(simp;done)|rfl) (by simp;exact⟨rfl,rfl⟩) (by simp) (by simp) (by simp;omega) (by simp;omega))))|(refine oD (j:=0) (v:= .obj 1 1) ⟨1,1,[(3,⟨true,false,1,2,[.str [115,99,114,105,112,116]]::p.fC.map bW⟩),(0,⟨true,false,1,1,[[.str [115,99,114,105,112,116]]]⟩)]⟩ [(3,⟨true,false,1,2,[.str [115,99,114,105,112,116]]::p.fC.map bW⟩)] [] rfl (by simp) rfl (by simp[Region.binds];rfl) (by decide) (by simp[Region.binds];rfl) (by simp;rfl) rfl ?_ ?_;(focus (refine CS (by simp;exact⟨rfl,rfl⟩) (by simp) rfl rfl (by decide) (by decide) (by first|(simp;rfl)|rfl) (by simp[AV.iC]) (by simp[AV.xX,AV.cells]) (by simp) (by simp[AV.cells]))))|(refine oD (j:=9) (v:= .obj 2 2) ⟨2,1,[(9,⟨true,false,1,2,[.str [115,116,121,108,101]]::p.gX.map bW⟩),(6,⟨true,false,1,1,[[.str [115,116,121,108,101]]]⟩)]⟩ [] [(6,⟨true,false,1,1,[[.str [115,116,121,108,101]]]⟩)] rfl (by simp) rfl (by simp[Region.binds];rfl) (by decide) (by simp[Region.binds];rfl) (by simp;rfl) rfl ?_ ?_;(focus (refine zL (by first|(simp;rfl)|(simp;done)|rfl) rfl (by first|(simp;rfl)|(simp;done)|rfl) (by first|(simp;rfl)|(simp;done)|rfl) (by first|(simp;rfl)|(simp;done)|rfl) (by simp;exact⟨rfl,rfl⟩) (by simp) (by simp) (by simp;omega) (by simp;omega))))|(refine oD (j:=6) (v:= .obj 2 1) ⟨2,1,[(9,⟨true,false,1,2,[.str [115,116,121,108,101]]::p.gX.map bW⟩),(6,⟨true,false,1,1,[[.str [115,116,121,108,101]]]⟩)]⟩ [(9,⟨true,false,1,2,[.str [115,116,121,108,101]]::p.gX.map bW⟩)] [] rfl (by simp) rfl (by simp[Region.binds];rfl) (by decide) (by simp[Region.binds];rfl) (by simp;rfl) rfl ?_ ?_;(focus (refine CS (by simp;exact⟨rfl,rfl⟩) (by simp) rfl rfl (by decide) (by decide) (by first|(simp;rfl)|rfl) (by simp[AV.iC]) (by simp[AV.xX,AV.cells]) (by simp) (by simp[AV.cells]))))|(refine oD (j:=16) (v:= .obj 3 2) ⟨3,1,[(16,⟨true,false,1,2,[.str [105,109,103]]::p.gY.map bW⟩),(13,⟨true,false,1,1,[[.str [105,109,103]]]⟩)]⟩ [] [(13,⟨true,false,1,1,[[.str [105,109,103]]]⟩)] rfl (by simp) rfl (by simp[Region.binds];rfl) (by decide) (by simp[Region.binds];rfl) (by simp;rfl) rfl ?_ ?_;(focus (refine zL (by first|(simp;rfl)|(simp;done)|rfl) rfl (by first|(simp;rfl)|(simp;done)|rfl) (by first|(simp;rfl)|(simp;done)|rfl) (by first|(simp;rfl)|(simp;done)|rfl) (by simp;exact⟨rfl,rfl⟩) (by simp) (by simp) (by simp;omega) (by simp;omega))))|(refine oD (j:=13) (v:= .obj 3 1) ⟨3,1,[(16,⟨true,false,1,2,[.str [105,109,103]]::p.gY.map bW⟩),(13,⟨true,false,1,1,[[.str [105,109,103]]]⟩)]⟩ [(16,⟨true,false,1,2,[.str [105,109,103]]::p.gY.map bW⟩)] [] rfl (by simp) rfl (by simp[Region.binds];rfl) (by decide) (by simp[Region.binds];rfl) (by simp;rfl) rfl ?_ ?_;(focus (refine CS (by simp;exact⟨rfl,rfl⟩) (by simp) rfl rfl (by decide) (by decide) (by first|(simp;rfl)|rfl) (by simp[AV.iC]) (by simp[AV.xX,AV.cells]) (by simp) (by simp[AV.cells]))))|(refine QH rfl ?_ (by simp[Region.binds];rfl) (by decide) (by simp[Region.binds];rfl) (by simp;rfl) ?_ rfl (by first|rfl|(simp;done)) ?_;(focus (first|rfl|(simp;done)));(focus (first|rfl|(simp[nU];done))))|(refine nx ?_;refine so ?_)|fail
    have W:=aA h2 hn;have V:=aA h2 hn;repeat' first|refine wf ?_|(refine sq ?_ ?_<;>intro hc<;>try exact hc.elim)|fail
    all_goals try(refine aQ ?_;simp[aP,results142,h2,hn,pE])
    all_goals (exact absurd (by assumption) hn)
  .rw [cX (λh=>h2 h.2)]
   simp only[yW]at h2;rw[h1,h2]at c0;refine bM aF func142 ntmps142 ?_;have W:=h2;have V:=h2;refine we ?_;exact aD results142
 .rw [cX (λh=>h1 h.1)]
  simp only[yW]at h1;rw[h1]at c0;refine bM aF func142 ntmps142 ?_;refine aY ?_;exact aD results142
theorem ND(c:UInt8):∀s:bB,bA gG (dE c s)<=s.length
 |[]=>by simp[dE,bA,gG]
 |x::s=>by
  have ih:=ND c s;simp only[dE];split
  .simp only[bA,gG,eV,eN]at ih⊢;omega
  .split
   .rename_i h0;exact absurd h0 (qY c s)
   .rename_i p q h0;rw[h0]at ih;simp only[bA,gG,eN]at ih⊢;omega
theorem aFf(c:UInt8)(s:bB):bQ gG (dE c s)<=2*s.length+1:=by have h1:=ND c s;have h2:=iQ c s;have h3:=pH (a:=c) (l:=s);simp only[bQ];omega
theorem JX(c:UInt8)(s:bB):bQ gG (dE c s).tail<=2*s.length+1:=by
 have h:=aFf c s;cases hs:dE c s with
 |nil=>exact absurd hs (qY c s)
 |cons x l=>rw[hs]at h;simp only[bQ,bA,eN,tail_cons]at h⊢;omega
theorem sP{c:UInt8}{s x:bB}(h:x∈dE c s):x.length<=s.length:=by have h1:=ND c s;have h2:=bS gG h;simp only[gG]at h2;omega
theorem Gq(f:bB->bB){s x0 x1 x2:bB}{r:List bB}(h:dE 59 s=x0::x1::x2::r):rW f s=⟨true,(dE 32 x0).tail,(dE 32 x1).tail,(dE 32 x2).tail,match r[0]? with|some x=>f x|none=>[]⟩:=by unfold rW;rw[h];rfl
theorem JY(f:bB->bB)(hf:∀x,(f x).length<=x.length){s:bB}(h:¬(dE 59 s).length<3):eD (rW f s)<=7*s.length+3:=by
 match hs:dE 59 s with
 |[]=>rw[hs]at h;simp at h
 |[_]=>rw[hs]at h;simp at h
 |[_,_]=>rw[hs]at h;simp at h
 |x0::x1::x2::r=>
  rw[Gq f hs];have h0:=sP (c:=59) (s:=s) (x:=x0) (by rw[hs];simp);have h1:=sP (c:=59) (s:=s) (x:=x1) (by rw[hs];simp);have h2:=sP (c:=59) (s:=s) (x:=x2) (by rw[hs];simp);have k0:=JX 32 x0;have k1:=JX 32 x1;have k2:=JX 32 x2;simp only[eD];cases r with
  |nil=>simp;omega
  |cons x r=>have h3:=sP (c:=59) (s:=s) (x:=x) (by rw[hs];simp);have:=hf x;simp only[sR];omega
theorem Wv(x:bB):(qG x).length<=x.length:=by unfold qG;split<;>simp
theorem CV[aC prog](s:bB)(c:UInt8)(hl:s.length<=1099511627776):Ok prog 105 [.str s,.int .u8 c.toNat] (.sl .view 1 ((dE c s).map bW)):=(xB s c hl).Ip (by simp[rt])
theorem BL[aC prog](s:bB)(hl:s.length<=1073741824):Ok prog 62 [.str s] (.gT [.agg (bN .view (vE qG s).1),.bool (vE qG s).2]):=by
 have z1:Ok prog 62 [.str []] (.gT [.agg [.bool false,.sl .own 1 [],.sl .own 1 [],.sl .own 1 [],.str []],.bool true]):=by refine UZ aF func62 ntmps62 ?_;refine aY ?_;all_goals try(first|(refine⟨.inr rfl,.inl ?_⟩;simp[qH,results62];done)|(refine⟨.inr rfl,.inr (rT ?_)⟩;simp[AS.yK,AS.wT,AS.rv,results62];done)|(refine⟨.inr rfl,.inl ?_⟩;simp[qH,results62]))
 have c0:Ok prog 105 [.str s,.int .u8 59] (.sl .view 1 ((dE 59 s).map bW)):=CV s 59 (by omega);unfold vE;by_cases h0:s=[]
 .rw [eK h0];subst h0;exact z1.Ip (by simp[rt,xR,oO])
 rw[cX h0];by_cases h3:(dE 59 s).length<3
 .rw [eK h3];have z2:Ok prog 62 [.str s] (.gT [.agg [.bool false,.sl .own 1 [],.sl .own 1 [],.sl .own 1 [],.str []],.bool false]):=by
   have h3':((dE 59 s).length:Int)<3:=by omega
   generalize dE 59 s=L at*;refine UZ aF func62 ntmps62 ?_;have W:=aA h0 (aA h3' h3);have V:=h0;repeat' first|refine wf ?_|(refine sq ?_ ?_<;>intro hc<;>try exact hc.elim)|fail
   all_goals try(first|(refine⟨.inr rfl,.inl ?_⟩;simp[qH,results62];done)|(refine⟨.inr rfl,.inr (rT ?_)⟩;simp[AS.yK,AS.wT,AS.rv,results62];done)|(refine⟨.inr rfl,.inl ?_⟩;simp[qH,results62]))
   all_goals exact absurd (by assumption) h0
  exact z2.Ip (by simp[rt,xR,oO])
 rw[cX h3];have hz:=JY qG Wv h3;have cf:=Iq (rW qG s) (by omega);obtain⟨x0,x1,x2,r,hs⟩:∃x0 x1 x2 r,dE 59 s=x0::x1::x2::r:=by
  match hs:dE 59 s with
  |[]=>rw[hs]at h3;simp at h3
  |[_]=>rw[hs]at h3;simp at h3
  |[_,_]=>rw[hs]at h3;simp at h3
  |x0::x1::x2::r=>exact⟨x0,x1,x2,r,rfl⟩
 have m0:=sP (c:=59) (s:=s) (x:=x0) (by rw[hs];simp);have m1:=sP (c:=59) (s:=s) (x:=x1) (by rw[hs];simp);have m2:=sP (c:=59) (s:=s) (x:=x2) (by rw[hs];simp);have hrl:r.length<=s.length:=by have:=iQ 59 s;have h3:=pH (a:=(59:UInt8)) (l:=s);rw[hs]at this;simp at this;omega
 rw[hs]at c0;have e:=Gq qG hs;have c1:Ok prog 105 [.str x0,.int .u8 32] (.sl .view 1 ((dE 32 x0).map bW)):=CV x0 32 (by omega);have c2:Ok prog 105 [.str x1,.int .u8 32] (.sl .view 1 ((dE 32 x1).map bW)):=CV x1 32 (by omega);have c3:Ok prog 105 [.str x2,.int .u8 32] (.sl .view 1 ((dE 32 x2).map bW)):=CV x2 32 (by omega);obtain⟨y0,t0,e0⟩:=tU (qY 32 x0);obtain⟨y1,t1,e1⟩:=tU (qY 32 x1);obtain⟨y2,t2,e2⟩:=tU (qY 32 x2);rw[e0]at c1;rw[e1]at c2;rw[e2]at c3;rw[e0,e1,e2]at e;simp only[tail_cons]at e;clear hs m0 m1 m2 e0 e1 e2 h3 hz;have tk:∀(t:List bB),(t.map bW).take t.length=t.map bW:=λt=>cY (by simp)
 have key:∀(n:bB),rW qG s=⟨true,t0,t1,t2,n⟩->∀b,decide (iT (rW qG s)=s)=b->Ok prog 106 [.agg [.bool true,.sl .view 1 (t0.map bW),.sl .view 1 (t1.map bW),.sl .view 1 (t2.map bW),.str n]] (.str (iT (rW qG s))):=by intro n hn b _;rw[hn]at cf⊢;simpa only[bN]using cf
 have jO:∀n,rW qG s=⟨true,t0,t1,t2,n⟩->(Ok prog 106 [.agg [.bool true,.sl .view 1 (t0.map bW),.sl .view 1 (t1.map bW),.sl .view 1 (t2.map bW),.str n]] (.str (iT (rW qG s))))->
   Ok prog 62 [.str s] (if iT (rW qG s)=s then .gT [.agg [.bool true,.sl .view 1 (t0.map bW),.sl .view 1 (t1.map bW),.sl .view 1 (t2.map bW),.str n],.bool true]else .gT [.agg [.bool false,.sl .own 1 [],.sl .own 1 [],.sl .own 1 [],.str []],.bool false]):=by
  intro n hn cF;rw[e]at hn;simp only[eU.mk.injEq,true_and]at hn;subst hn;generalize iT (rW qG s)=F at*;cases r with
  |nil=>
   simp only[getElem?_nil]at cF⊢;by_cases hF:F=s
   .rw [eK hF];refine UZ aF func62 ntmps62 ?_;have W:=aA h0 (aA hF tk);have V:=aA h0 tk;repeat' first|refine wf ?_|(refine sq ?_ ?_<;>intro hc<;>try exact hc.elim)|fail
    all_goals try(first|(refine⟨.inr rfl,.inl ?_⟩;simp[qH,results62];done)|(refine⟨.inr rfl,.inr (rT ?_)⟩;simp[AS.yK,AS.wT,AS.rv,results62];done)|(refine⟨.inr rfl,.inl ?_⟩;simp[qH,results62]))
    all_goals first|exact absurd (by assumption) h0|omega|simp_all
   .rw [cX hF];refine UZ aF func62 ntmps62 ?_;have W:=aA h0 (aA hF tk);have V:=aA h0 tk;repeat' first|refine wf ?_|(refine sq ?_ ?_<;>intro hc<;>try exact hc.elim)|fail
    all_goals try(first|(refine⟨.inr rfl,.inl ?_⟩;simp[qH,results62];done)|(refine⟨.inr rfl,.inr (rT ?_)⟩;simp[AS.yK,AS.wT,AS.rv,results62];done)|(refine⟨.inr rfl,.inl ?_⟩;simp[qH,results62]))
    all_goals first|exact absurd (by assumption) h0|omega|simp_all
  |cons x r=>
   simp only[sR]at cF⊢;unfold qG at cF⊢;by_cases hx:6<x.length
   .rw [eK hx]at cF⊢;by_cases hF:F=s
    .rw [eK hF];refine UZ aF func62 ntmps62 ?_;have W:=aA h0 (aA hF (aA hx tk));have V:=aA h0 tk;repeat' first|refine wf ?_|(refine sq ?_ ?_<;>intro hc<;>try exact hc.elim)|fail
     all_goals try(first|(refine⟨.inr rfl,.inl ?_⟩;simp[qH,results62];done)|(refine⟨.inr rfl,.inr (rT ?_)⟩;simp[AS.yK,AS.wT,AS.rv,results62];done)|(refine⟨.inr rfl,.inl ?_⟩;simp[qH,results62]))
     all_goals first|exact absurd (by assumption) h0|omega|simp_all
    .rw [cX hF];refine UZ aF func62 ntmps62 ?_;have W:=aA h0 (aA hF (aA hx tk));have V:=aA h0 tk;repeat' first|refine wf ?_|(refine sq ?_ ?_<;>intro hc<;>try exact hc.elim)|fail
     all_goals try(first|(refine⟨.inr rfl,.inl ?_⟩;simp[qH,results62];done)|(refine⟨.inr rfl,.inr (rT ?_)⟩;simp[AS.yK,AS.wT,AS.rv,results62];done)|(refine⟨.inr rfl,.inl ?_⟩;simp[qH,results62]))
     all_goals first|exact absurd (by assumption) h0|omega|simp_all
   .rw [cX hx]at cF⊢;by_cases hF:F=s
    .rw [eK hF];refine UZ aF func62 ntmps62 ?_;have W:=aA h0 (aA hF (aA hx tk));have V:=aA h0 tk;repeat' first|refine wf ?_|(refine sq ?_ ?_<;>intro hc<;>try exact hc.elim)|fail
     all_goals try(first|(refine⟨.inr rfl,.inl ?_⟩;simp[qH,results62];done)|(refine⟨.inr rfl,.inr (rT ?_)⟩;simp[AS.yK,AS.wT,AS.rv,results62];done)|(refine⟨.inr rfl,.inl ?_⟩;simp[qH,results62]))
     all_goals first|exact absurd (by assumption) h0|omega|simp_all
    .rw [cX hF];refine UZ aF func62 ntmps62 ?_;have W:=aA h0 (aA hF (aA hx tk));have V:=aA h0 tk;repeat' first|refine wf ?_|(refine sq ?_ ?_<;>intro hc<;>try exact hc.elim)|fail
     all_goals try(first|(refine⟨.inr rfl,.inl ?_⟩;simp[qH,results62];done)|(refine⟨.inr rfl,.inr (rT ?_)⟩;simp[AS.yK,AS.wT,AS.rv,results62];done)|(refine⟨.inr rfl,.inl ?_⟩;simp[qH,results62]))
     all_goals first|exact absurd (by assumption) h0|omega|simp_all
 have:=jO _ e (key _ e _ rfl);by_cases hF:iT (rW qG s)=s
 .rw [eK hF]at this⊢;rw[e];exact this.Ip (by simp[rt,xR])
 .rw [cX hF]at this⊢;exact this.Ip (by simp[rt,xR,oO])
theorem Ib[aC prog][bP prog](s:bB)(c:UInt8)(hs:s.length<4294967281):Ok prog 140 [.str s,.str [c]] (.sl .own 1 ((dE c s).map bW)):=RQ Tryz.laysM146 (by kernel_rfl) s c hs
theorem SF[aC prog][bP prog](s p:bB)(hl:s.length<=1099511627776)(hp:p.length<=1099511627776):Ok prog 195 [.str s,.str p] (.str (if Cq p s=true then s.drop p.length else s)):=by
 have c1:=Lt s p hl hp;have h1:= @SE p s;generalize Cq p s=b at*;cases b
 .refine bM aF func195 ntmps195 ?_;refine aY ?_;exact aD results195
 .have h2:=h1 rfl;refine bM aF func195 ntmps195 ?_;have W:=h2;refine we ?_;exact aD results195
theorem yo(x:bB):rR x=if Cq pE x=true then x.drop pE.length else x:=by
 unfold rR;have e:pE.isPrefixOf x=Cq pE x:=by
  have h1:pE.isPrefixOf x=true↔Cq pE x=true:=by
   rw[isPrefixOf_iff_prefix,prefix_iff_eq_take];simp only[Cq,eJ,fR,Bs];constructor
   .intro h;refine⟨?_,h.symm⟩;have:=As length h;rw[oS]at this;omega
   .intro h;exact h.2.symm
  cases h2:Cq pE x<;>cases h3:pE.isPrefixOf x<;>simp_all
 rw[e];rfl
theorem aA4(x:bB):(rR x).length<=x.length:=by unfold rR;split<;>simp
theorem XW[aC prog][bP prog](x:bB)(hl:x.length<=1099511627776):Ok prog 141 [.str x,.str [110,111,110,99,101,32]] (.str (rR x)):=by have c1:Ok prog 195 [.str x,.str [110,111,110,99,101,32]] (.str (if Cq pE x=true then x.drop pE.length else x)):=SF x pE hl (by decide);rw[<-yo]at c1;generalize rR x=n at*;refine bM aF func141 ntmps141 ?_;refine aY ?_;exact aD results141
def jI(k:Nat):List AV:=[if 0<k then .obj 3 2 else .sl .own 1 [],if 1<k then .obj 4 2 else .sl .own 1 [],if 2<k then .obj 5 2 else .sl .own 1 []]
def pK(a b c:List (List AV)):List aM:=[⟨true,false,1,2,a⟩,⟨true,false,1,2,b⟩,⟨true,false,1,2,c⟩]
theorem Iu[aC prog][bP prog](s:bB)(hl:s.length<=1073741824):Ok prog 85 [.str s] (.gT [.agg (bN .own (vE rR s).1),.bool (vE rR s).2]):=by
 have c0:Ok prog 140 [.str s,.str [59]] (.sl .own 1 ((dE 59 s).map bW)):=Ib s 59 (by omega);unfold vE;by_cases h0:s=[]
 .rw [eK h0];subst h0;refine xU aF func85 ntmps85 ?_;refine aY ?_;all_goals (try first|(refine aQ (.inl ?_);simp[aP,results85,oO];done)|(refine aQ (.inr (dN ?_));simp[AS.yK,AS.wT,AS.rv,results85,oO]))
 rw[cX h0];by_cases h3:(dE 59 s).length<3
 .rw [eK h3];have h3':((dE 59 s).length:Int)<3:=by omega
  generalize dE 59 s=L at*;refine xU aF func85 ntmps85 ?_;have W:=aA h0 (aA h3' h3);have V:=h0;repeat' first|refine wf ?_|(refine sq ?_ ?_<;>intro hc<;>try exact hc.elim)|fail
  all_goals try(first|(refine⟨.inr rfl,.inl ?_⟩;simp[aP,results85,oO];done)|(refine⟨.inr rfl,.inr (dN ?_)⟩;simp[AS.yK,AS.wT,AS.rv,results85,oO];done)|(refine⟨.inr rfl,.inl ?_⟩;simp[aP,results85,oO]))
  all_goals first|exact absurd (by assumption) h0|omega
 rw[cX h3];have hz:=JY rR aA4 h3;have cf:=Ir (rW rR s) (by omega);have cc:=Jb (rW rR s) (by omega);obtain⟨x0,x1,x2,r,hs⟩:∃x0 x1 x2 r,dE 59 s=x0::x1::x2::r:=by
  match hs:dE 59 s with
  |[]=>rw[hs]at h3;simp at h3
  |[_]=>rw[hs]at h3;simp at h3
  |[_,_]=>rw[hs]at h3;simp at h3
  |x0::x1::x2::r=>exact⟨x0,x1,x2,r,rfl⟩
 have m0:=sP (c:=59) (s:=s) (x:=x0) (by rw[hs];simp);have m1:=sP (c:=59) (s:=s) (x:=x1) (by rw[hs];simp);have m2:=sP (c:=59) (s:=s) (x:=x2) (by rw[hs];simp);have m3:∀x∈r,x.length<=s.length:=λx hx=>sP (c:=59) (s:=s) (x:=x) (by rw[hs];simp[hx])
 have hrl:r.length<=s.length:=by have:=iQ 59 s;have h3:=pH (a:=(59:UInt8)) (l:=s);rw[hs]at this;simp at this;omega
 rw[hs]at c0;have e:=Gq rR hs;have c1:Ok prog 140 [.str x0,.str [32]] (.sl .own 1 ((dE 32 x0).map bW)):=Ib x0 32 (by omega);have c2:Ok prog 140 [.str x1,.str [32]] (.sl .own 1 ((dE 32 x1).map bW)):=Ib x1 32 (by omega);have c3:Ok prog 140 [.str x2,.str [32]] (.sl .own 1 ((dE 32 x2).map bW)):=Ib x2 32 (by omega);obtain⟨y0,t0,e0⟩:=tU (qY 32 x0);obtain⟨y1,t1,e1⟩:=tU (qY 32 x1);obtain⟨y2,t2,e2⟩:=tU (qY 32 x2);rw[e0]at c1;rw[e1]at c2;rw[e2]at c3;rw[e0,e1,e2]at e;simp only[tail_cons]at e;clear hs m0 m1 m2 e0 e1 e2 h3 hz;have tk:∀(t:List bB),(t.map bW).take t.length=t.map bW:=λt=>cY (by simp)
 have jO:∀n,rW rR s=⟨true,t0,t1,t2,n⟩->Ok prog 142 [.agg [.bool true,.sl .view 1 (t0.map bW),.sl .view 1 (t1.map bW),.sl .view 1 (t2.map bW),.str n]] (.str (iT (rW rR s)))->
   Ok prog 143 [.agg [.bool true,.sl .view 1 (t0.map bW),.sl .view 1 (t1.map bW),.sl .view 1 (t2.map bW),.str n]] (.agg [.bool true,.sl .own 1 (t0.map bW),.sl .own 1 (t1.map bW),.sl .own 1 (t2.map bW),.str n])->
   Ok prog 85 [.str s] (if iT (rW rR s)=s then .gT [.agg [.bool true,.sl .own 1 (t0.map bW),.sl .own 1 (t1.map bW),.sl .own 1 (t2.map bW),.str n],.bool true]else .gT [.agg [.bool false,.sl .own 1 [],.sl .own 1 [],.sl .own 1 [],.str []],.bool false]):=by
  intro n hn cF cC;rw[e]at hn;simp only[eU.mk.injEq,true_and]at hn;clear cf cc;generalize iT (rW rR s)=F at*;clear e;subst hn;cases r with
  |nil=>
   simp only[getElem?_nil]at cF cC⊢;by_cases hF:F=s
   .rw [eK hF];refine xU aF func85 ntmps85 ?_;have W:=aA h0 tk;have V:=aA h0 tk;repeat' first|refine wf ?_|(refine sq ?_ ?_<;>intro hc<;>try exact hc.elim)|fail
    all_goals first|exact absurd (by assumption) h0|(exfalso;omega)|skip
    refine aO (ι:={k:Nat // k<=3}) (λt o i=>⟨bC t [(18,.int .i64 i.1)],o.take 2++[⟨true,true,3,0,[jI i.1]⟩]++(pK (t0.map bW) (t1.map bW) (t2.map bW)).take i.1⟩)
     (λi=>3-i.1) ⟨0,by omega⟩ (aJ (by simp[jI]) (by simp)) ?_
    rintro⟨k,hk⟩ K1 hK1;have hk4:k=0\/k=1\/k=2\/k=3:=by omega
    rcases hk4 with rfl|rfl|rfl|rfl
    .simp only[bC,cW,cU,eL,fX,eA,eM,jI,pK,fW,pS,gS,gC,Nat.reduceLT]at hK1⊢;have W:=aA h0 tk;have V:=aA h0 tk;refine we ?_;exact hK1 _ ⟨1,by omega⟩ (aJ (by simp[jI,pK]) (by simp)) (by simp only;omega)
    .simp only[bC,cW,cU,eL,fX,eA,eM,jI,pK,fW,pS,gS,gC,Nat.reduceLT]at hK1⊢;have W:=aA h0 tk;have V:=aA h0 tk;refine we ?_;exact hK1 _ ⟨2,by omega⟩ (aJ (by simp[jI,pK]) (by simp)) (by simp only;omega)
    .simp only[bC,cW,cU,eL,fX,eA,eM,jI,pK,fW,pS,gS,gC,Nat.reduceLT]at hK1⊢;have W:=aA h0 tk;have V:=aA h0 tk;refine we ?_;exact hK1 _ ⟨3,by omega⟩ (aJ (by simp[jI,pK]) (by simp)) (by simp only;omega)
    .simp only[bC,cW,cU,eL,fX,eA,eM,jI,pK,fW,pS,gS,gC,Nat.reduceLT]at hK1⊢;have W:=aA h0 (aA tk hF);have V:=aA h0 tk;refine we ?_;all_goals try(first|(refine⟨.inr rfl,.inl ?_⟩;simp[aP,results85,hF];done)|(refine⟨.inr rfl,.inr (dN ?_)⟩;simp[AS.yK,AS.wT,AS.rv,results85,hF];done)|(refine⟨.inr rfl,.inl ?_⟩;simp[aP,results85,hF]))
     all_goals first|exact absurd (by assumption) h0|(exfalso;omega)|simp_all
   .rw [cX hF];refine xU aF func85 ntmps85 ?_;have W:=aA h0 tk;have V:=aA h0 tk;repeat' first|refine wf ?_|(refine sq ?_ ?_<;>intro hc<;>try exact hc.elim)|fail
    all_goals first|exact absurd (by assumption) h0|(exfalso;omega)|skip
    refine aO (ι:={k:Nat // k<=3}) (λt o i=>⟨bC t [(18,.int .i64 i.1)],o.take 2++[⟨true,true,3,0,[jI i.1]⟩]++(pK (t0.map bW) (t1.map bW) (t2.map bW)).take i.1⟩)
     (λi=>3-i.1) ⟨0,by omega⟩ (aJ (by simp[jI]) (by simp)) ?_
    rintro⟨k,hk⟩ K1 hK1;have hk4:k=0\/k=1\/k=2\/k=3:=by omega
    rcases hk4 with rfl|rfl|rfl|rfl
    .simp only[bC,cW,cU,eL,fX,eA,eM,jI,pK,fW,pS,gS,gC,Nat.reduceLT]at hK1⊢;have W:=aA h0 tk;have V:=aA h0 tk;refine we ?_;exact hK1 _ ⟨1,by omega⟩ (aJ (by simp[jI,pK]) (by simp)) (by simp only;omega)
    .simp only[bC,cW,cU,eL,fX,eA,eM,jI,pK,fW,pS,gS,gC,Nat.reduceLT]at hK1⊢;have W:=aA h0 tk;have V:=aA h0 tk;refine we ?_;exact hK1 _ ⟨2,by omega⟩ (aJ (by simp[jI,pK]) (by simp)) (by simp only;omega)
    .simp only[bC,cW,cU,eL,fX,eA,eM,jI,pK,fW,pS,gS,gC,Nat.reduceLT]at hK1⊢;have W:=aA h0 tk;have V:=aA h0 tk;refine we ?_;exact hK1 _ ⟨3,by omega⟩ (aJ (by simp[jI,pK]) (by simp)) (by simp only;omega)
    .simp only[bC,cW,cU,eL,fX,eA,eM,jI,pK,fW,pS,gS,gC,Nat.reduceLT]at hK1⊢;have W:=aA h0 (aA tk hF);have V:=aA h0 tk;repeat' first|refine wf ?_|(refine sq ?_ ?_<;>intro hc<;>try exact hc.elim)|fail
     all_goals try(first|(refine⟨.inr rfl,.inl ?_⟩;simp[aP,results85,hF];done)|(refine⟨.inr rfl,.inr (dN ?_)⟩;simp[AS.yK,AS.wT,AS.rv,results85,hF];done)|(refine⟨.inr rfl,.inl ?_⟩;simp[aP,results85,hF]))
     all_goals first|exact absurd (by assumption) h0|(exfalso;omega)|simp_all
  |cons x r=>
   simp only[sR]at cF cC⊢;have c4:=XW x (by have:=m3 x (by simp);omega);by_cases hF:F=s
   .rw [eK hF];refine xU aF func85 ntmps85 ?_;have W:=aA h0 tk;have V:=aA h0 tk;repeat' first|refine wf ?_|(refine sq ?_ ?_<;>intro hc<;>try exact hc.elim)|fail
    all_goals first|exact absurd (by assumption) h0|(exfalso;omega)|skip
    refine aO (ι:={k:Nat // k<=3}) (λt o i=>⟨bC t [(18,.int .i64 i.1)],o.take 2++[⟨true,true,3,0,[jI i.1]⟩]++(pK (t0.map bW) (t1.map bW) (t2.map bW)).take i.1⟩)
     (λi=>3-i.1) ⟨0,by omega⟩ (aJ (by simp[jI]) (by simp)) ?_
    rintro⟨k,hk⟩ K1 hK1;have hk4:k=0\/k=1\/k=2\/k=3:=by omega
    rcases hk4 with rfl|rfl|rfl|rfl
    .simp only[bC,cW,cU,eL,fX,eA,eM,jI,pK,fW,pS,gS,gC,Nat.reduceLT]at hK1⊢;have W:=aA h0 tk;have V:=aA h0 tk;refine we ?_;exact hK1 _ ⟨1,by omega⟩ (aJ (by simp[jI,pK]) (by simp)) (by simp only;omega)
    .simp only[bC,cW,cU,eL,fX,eA,eM,jI,pK,fW,pS,gS,gC,Nat.reduceLT]at hK1⊢;have W:=aA h0 tk;have V:=aA h0 tk;refine we ?_;exact hK1 _ ⟨2,by omega⟩ (aJ (by simp[jI,pK]) (by simp)) (by simp only;omega)
    .simp only[bC,cW,cU,eL,fX,eA,eM,jI,pK,fW,pS,gS,gC,Nat.reduceLT]at hK1⊢;have W:=aA h0 tk;have V:=aA h0 tk;refine we ?_;exact hK1 _ ⟨3,by omega⟩ (aJ (by simp[jI,pK]) (by simp)) (by simp only;omega)
    .simp only[bC,cW,cU,eL,fX,eA,eM,jI,pK,fW,pS,gS,gC,Nat.reduceLT]at hK1⊢;have W:=aA h0 (aA tk hF);have V:=aA h0 tk;refine we ?_;all_goals try(first|(refine⟨.inr rfl,.inl ?_⟩;simp[aP,results85,hF];done)|(refine⟨.inr rfl,.inr (dN ?_)⟩;simp[AS.yK,AS.wT,AS.rv,results85,hF];done)|(refine⟨.inr rfl,.inl ?_⟩;simp[aP,results85,hF]))
     all_goals first|exact absurd (by assumption) h0|(exfalso;omega)|simp_all
   .rw [cX hF];refine xU aF func85 ntmps85 ?_;have W:=aA h0 tk;have V:=aA h0 tk;repeat' first|refine wf ?_|(refine sq ?_ ?_<;>intro hc<;>try exact hc.elim)|fail
    all_goals first|exact absurd (by assumption) h0|(exfalso;omega)|skip
    refine aO (ι:={k:Nat // k<=3}) (λt o i=>⟨bC t [(18,.int .i64 i.1)],o.take 2++[⟨true,true,3,0,[jI i.1]⟩]++(pK (t0.map bW) (t1.map bW) (t2.map bW)).take i.1⟩)
     (λi=>3-i.1) ⟨0,by omega⟩ (aJ (by simp[jI]) (by simp)) ?_
    rintro⟨k,hk⟩ K1 hK1;have hk4:k=0\/k=1\/k=2\/k=3:=by omega
    rcases hk4 with rfl|rfl|rfl|rfl
    .simp only[bC,cW,cU,eL,fX,eA,eM,jI,pK,fW,pS,gS,gC,Nat.reduceLT]at hK1⊢;have W:=aA h0 tk;have V:=aA h0 tk;refine we ?_;exact hK1 _ ⟨1,by omega⟩ (aJ (by simp[jI,pK]) (by simp)) (by simp only;omega)
    .simp only[bC,cW,cU,eL,fX,eA,eM,jI,pK,fW,pS,gS,gC,Nat.reduceLT]at hK1⊢;have W:=aA h0 tk;have V:=aA h0 tk;refine we ?_;exact hK1 _ ⟨2,by omega⟩ (aJ (by simp[jI,pK]) (by simp)) (by simp only;omega)
    .simp only[bC,cW,cU,eL,fX,eA,eM,jI,pK,fW,pS,gS,gC,Nat.reduceLT]at hK1⊢;have W:=aA h0 tk;have V:=aA h0 tk;refine we ?_;exact hK1 _ ⟨3,by omega⟩ (aJ (by simp[jI,pK]) (by simp)) (by simp only;omega)
    .simp only[bC,cW,cU,eL,fX,eA,eM,jI,pK,fW,pS,gS,gC,Nat.reduceLT]at hK1⊢;have W:=aA h0 (aA tk hF);have V:=aA h0 tk;repeat' first|refine wf ?_|(refine sq ?_ ?_<;>intro hc<;>try exact hc.elim)|fail
     all_goals try(first|(refine⟨.inr rfl,.inl ?_⟩;simp[aP,results85,hF];done)|(refine⟨.inr rfl,.inr (dN ?_)⟩;simp[AS.yK,AS.wT,AS.rv,results85,hF];done)|(refine⟨.inr rfl,.inl ?_⟩;simp[aP,results85,hF]))
     all_goals first|exact absurd (by assumption) h0|(exfalso;omega)|simp_all
 have hcp:=jO _ e (by rw[e]at cf⊢;simpa only[bN]using cf) (by rw[e]at cc;simpa only[bN]using cc);by_cases hF:iT (rW rR s)=s
 .rw [eK hF]at hcp⊢;rw[e];simpa only[bN]using hcp
 .rw [cX hF]at hcp⊢;simpa only[bN,oO,DE]using hcp
def fQ(x:aZ):Bool:=
 (decide (100<=x.status)&&decide (x.status<=599))&&(decide (1<=x.kind)&&decide (x.kind<=5))&&decide (x.body.length<=400)&&(decide (0<=x.Gc)&&decide (x.Gc<=1000))&&(fT x.bD).2
theorem BM[aC prog][bP prog](s:bB)(hl:s.length<=1073741824):Ok prog 85 [.str s] (.gT [.agg (bN .own (fT s).1),.bool (fT s).2]):=by have h:=Iu s hl;rw[xx s]at h;exact h
theorem rA[aC prog][bP prog](x:aZ)(hl:bG x<=1073741824):Ok prog 63 [.agg (bF x)] (.bool (fQ x)):=by
 simp only[bG]at hl;have c0:Ok prog 62 [.str x.bD] (.gT [.agg (bN .view (fT x.bD).1),.bool (fT x.bD).2]):=BL x.bD (by omega);have c1:=gI x.status 100 599;have c2:=gI x.kind 1 5;have c3:=gI x.Gc 0 1000;have e:decide (x.body.length<=400)=decide ((x.body.length:Int)<=400):=by simp only[rS];omega
 unfold fQ;rw[e];generalize (decide (100<=x.status)&&decide (x.status<=599))=b1 at*;generalize (decide (1<=x.kind)&&decide (x.kind<=5))=b2 at*;generalize (decide (0<=x.Gc)&&decide (x.Gc<=1000))=b3 at*;generalize (fT x.bD).1=q at*;generalize (fT x.bD).2=b4 at*;simp only[bN]at c0;refine bM aF func63 ntmps63 ?_;have W:=trivial;repeat' first|refine wf ?_|(refine sq ?_ ?_<;>intro hc<;>try exact hc.elim)|fail
 all_goals try(refine aQ ?_;simp[aP,results63])
 all_goals first|(simp_all;done)|(simp_all;omega)|(simp_all;intros;omega)
theorem uT[aC prog][bP prog](x:aZ)(hl:bG x<=1073741824):Ok prog 84 [.agg (bF x)] (.bool (fQ x)):=by
 simp only[bG]at hl;have c0:=BM x.bD (by omega);have c1:=jM x.status 100 599;have c2:=jM x.kind 1 5;have c3:=jM x.Gc 0 1000;have e:decide (x.body.length<=400)=decide ((x.body.length:Int)<=400):=by simp only[rS];omega
 unfold fQ;rw[e];generalize (decide (100<=x.status)&&decide (x.status<=599))=b1 at*;generalize (decide (1<=x.kind)&&decide (x.kind<=5))=b2 at*;generalize (decide (0<=x.Gc)&&decide (x.Gc<=1000))=b3 at*;generalize (fT x.bD).1=q at*;generalize (fT x.bD).2=b4 at*;simp only[bN]at c0;refine bM aF func84 ntmps84 ?_;have W:=trivial;repeat' first|refine wf ?_|(refine sq ?_ ?_<;>intro hc<;>try exact hc.elim)|fail
 all_goals try(refine aQ ?_;simp[aP,results84])
 all_goals first|(simp_all;done)|(simp_all;omega)|(simp_all;intros;omega)
def mM:bE:=⟨[⟨[112,97,103,101],[], -1,[]⟩],[0]⟩
theorem Lu[aC prog][bP prog]:Ok prog 86 [] (.agg (aU .own mM)):=by
 refine bM aF func86 ntmps86 ?_;have W:=trivial;repeat' first|refine st ?_|(refine nx ?_;first|refine se ?_|refine so ?_)|(refine cx ?_;refine sc (λhc=>?_) (λhc=>?_)<;>try exact hc.elim)|(refine lx ?_;refine sp (λhc=>?_) (λhc=>?_)<;>try exact hc.elim)|refine sx ?_ ?_|refine sy ?_ ?_|fail
 all_goals try(refine aQ ?_;simp[aP,results86,mM])
theorem Lv[aC prog][bP prog]:Ok prog 64 [] (.agg (aU .own mM)):=by
 refine bM aF func64 ntmps64 ?_;have W:=trivial;repeat' first|refine st ?_|(refine nx ?_;first|refine se ?_|refine so ?_)|(refine cx ?_;refine sc (λhc=>?_) (λhc=>?_)<;>try exact hc.elim)|(refine lx ?_;refine sp (λhc=>?_) (λhc=>?_)<;>try exact hc.elim)|refine sx ?_ ?_|refine sy ?_ ?_|fail
 all_goals try(refine aQ ?_;simp[aP,results64,mM])
def qI:aG:=⟨⟨[],[]⟩,oO,⟨[]⟩,[],false,⟨[],[]⟩,[],[],[],0,0,0,0,[],[],false⟩
def BN(a:aK)(p:eU):aG:=⟨a,p,⟨[]⟩,[],false,mM,[],[],[],0,0,0,0,[],[],false⟩
def dQ(a:aK)(x:aZ):aG×Bool:=
 if oZ a=true/\fQ x=true/\x.status=200/\x.kind=1 then(BN a (fT x.bD).1,true)else(qI,false)
theorem SG(a:aK)(x:aZ):dQ a x=if (!oZ a || !fQ x || !decide (x.status=200) || !decide (x.kind=1))=true then(qI,false)else(BN a (fT x.bD).1,true):=by unfold dQ;cases oZ a<;>cases fQ x<;>by_cases h1:x.status=200<;>by_cases h2:x.kind=1<;>simp[h1,h2]
theorem SH[aC prog][bP prog](a:aK)(x:aZ)(ha:aR a<=1073741824)(hl:bG x<=1073741824):Ok prog 44 [.agg (aL a),.agg (bF x)] (.gT [.agg (aH .own (dQ a x).1),.bool (dQ a x).2]):=by
 have c1:=rQ a (by omega);simp only[aR]at ha;have c2:=uT x hl;have c4:=Lu;simp only[bG]at hl;have c3:=BM x.bD (by omega);simp only[aL]at c1;simp only[bF]at c2;simp only[bN]at c3;simp only[aU,mM,mC,DE,fA,mG]at c4;rw[SG];generalize oZ a=b1 at*;generalize fQ x=b2 at*;generalize (fT x.bD).1=q at*;generalize (fT x.bD).2=b4 at*;by_cases h1:x.status=200<;>by_cases h2:x.kind=1<;>cases b1<;>cases b2;all_goals simp only[h1,h2,CD,decide_false,DB,Fi,Bool.or_true,Bool.or_false,Bool.true_or,Bool.false_or,eS,gC,gS]
 all_goals (
  (try rw[h1]at c2)
  (try rw[h2]at c2)
  refine xU aF func44 ntmps44 ?_;have W:=aA h1 h2;repeat' first|refine st ?_|(refine nx ?_;first|refine se ?_|refine so ?_)|(refine cx ?_;refine sc (λhc=>?_) (λhc=>?_)<;>try exact hc.elim)|(refine lx ?_;refine sp (λhc=>?_) (λhc=>?_)<;>try exact hc.elim)|refine sx ?_ ?_|refine sy ?_ ?_|fail
  all_goals try(first|(refine⟨.inr rfl,.inl ?_⟩;simp[aP,results44,qI,oO,BN,mM,h1,h2];done)|(refine⟨.inr rfl,.inr (dN ?_)⟩;simp[AS.yK,AS.wT,AS.rv,results44,qI,oO,BN,mM,h1,h2];done)|(refine⟨.inr rfl,.inl ?_⟩;simp[aP,results44,qI,oO,BN,mM,h1,h2]))
  skip)
theorem SI[aC prog][bP prog](a:aK)(x:aZ)(ha:aR a <= 1073741824)(hl:bG x <= 1073741824): Ok prog 34 [.agg (aL a), .agg (bF x)] (.gT [.agg (aH .view (dQ a x).1), .bool (dQ a x).2]) := by
  have c1 := rP a (by omega);simp only[aR]at ha;have c2 := rA x hl;have c4 := Lv;have hb:fQ x = true -> (fT x.bD).2 = true := by
    intro h;simp only[fQ, eJ]at h;exact h.2
  simp only[bG]at hl;have c3:Ok prog 62 [.str x.bD] (.gT [.agg (bN .view (fT x.bD).1), .bool (fT x.bD).2]) := BL x.bD (by omega);simp only[aL]at c1;simp only[bF]at c2;simp only[bN]at c3;simp only[aU, mM, mC, DE, fA, mG]at c4;rw[SG];generalize oZ a = b1 at*;generalize fQ x = b2 at*;generalize (fT x.bD).1 = q at*;generalize (fT x.bD).2 = b4 at*;have bad:(b1 = false \/ b2 = false \/ x.status ≠ 200 \/ x.kind ≠ 1) -> Ok prog 34 [.agg (aL a), .agg (bF x)] (.gT [.agg (aH .own qI), .bool false]) := by
    intro h;by_cases h1:x.status = 200 <;> by_cases h2:x.kind = 1 <;> cases b1 <;> cases b2 <;> cases b4;all_goals first
      | exact(Bool.false_ne_true (hb rfl)).elim
      | (exfalso; simp_all; done)
      | ((try rw[h1]at c2)
         (try rw[h2]at c2)
         refine UZ aF func34 ntmps34 ?_;have W := aA h1 h2;repeat' first|refine st ?_|(refine nx ?_;first|refine se ?_|refine so ?_)|(refine cx ?_;refine sc (λhc=>?_) (λhc=>?_)<;>try exact hc.elim)|(refine lx ?_;refine sp (λhc=>?_) (λhc=>?_)<;>try exact hc.elim)|refine sx ?_ ?_|refine sy ?_ ?_|fail
         all_goals try(first | (refine⟨.inr rfl, .inl ?_⟩; simp[qH, results34, qI, oO, h1, h2]; done) | (refine⟨.inr rfl, .inr (rT ?_)⟩; simp[AS.yK, AS.wT, AS.rv, results34, qI, oO, h1, h2]; done) | (refine⟨.inr rfl, .inl ?_⟩; simp[qH, results34, qI, oO, h1, h2]))
         done)
  have xX:b1 = true -> b2 = true -> x.status = 200 -> x.kind = 1 -> Ok prog 34 [.agg (aL a), .agg (bF x)] (.gT [.agg [.str a.host, .str a.path, .bool q.isSet, .sl .view 1 (q.fC.map bW), .sl .view 1 (q.gX.map bW), .sl .view 1 (q.gY.map bW), .str q.tK, .str [], .sl .own 4 [], .bool false, .sl .own 4 [[.str [112, 97, 103, 101], .str [], .int .i64 (-1), .sl .own 2 []]], .sl .own 1 [[.int .i64 0]], .sl .own 8 [], .sl .own 5 [], .sl .own 2 [], .int .i64 0, .int .i64 0, .int .i64 0, .int .i64 0, .sl .own 2 [], .sl .own 1 [], .bool false], .bool true]) := by
    intro h1 h2 h3 h4;have hb' := hb h2;subst h1; subst h2; subst hb';rw[h3, h4]at c2;refine UZ aF func34 ntmps34 ?_;have W := aA h3 h4;repeat' first|refine st ?_|(refine nx ?_;first|refine se ?_|refine so ?_)|(refine cx ?_;refine sc (λhc=>?_) (λhc=>?_)<;>try exact hc.elim)|(refine lx ?_;refine sp (λhc=>?_) (λhc=>?_)<;>try exact hc.elim)|refine sx ?_ ?_|refine sy ?_ ?_|fail
    all_goals try(first | (refine⟨.inr rfl, .inl ?_⟩; simp[qH, results34, h3, h4]; done) | (refine⟨.inr rfl, .inr (rT ?_)⟩; simp[AS.yK, AS.wT, AS.rv, results34, h3, h4]; done) | (refine⟨.inr rfl, .inl ?_⟩; simp[qH, results34, h3, h4]))
  by_cases hc:(!b1 || !b2 || !decide (x.status = 200) || !decide (x.kind = 1)) = true
  · rw[eK hc]
    refine(bad ?_).Ip (by simp[rt, xR, mX, qI, oO]);simp only[tI, EV, rB]at hc;rcases hc with((h | h) | h) | h
    · exact .inl h
    · exact .inr (.inl h)
    · exact .inr (.inr (.inl h))
    · exact .inr (.inr (.inr h))
  · rw[cX hc]
    simp only[tI, EV, rB, not_or, Bool.not_eq_false, Decidable.not_not]at hc;exact(xX hc.1.1.1 hc.1.1.2 hc.1.2 hc.2).Ip (by simp[rt, xR, mX, BN, mM])
end Go.Proofs.YtfbefblglejcaaaGreatDoor
