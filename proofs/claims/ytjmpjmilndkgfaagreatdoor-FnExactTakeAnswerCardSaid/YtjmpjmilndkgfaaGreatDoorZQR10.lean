/- Proved here: steps towards the statement of this claim. No condition. -/
import Derived.Test.YtjmpjmilndkgfaaGreatDoorZQS2
set_option linter.all false
set_option maxRecDepth 4000
set_option maxHeartbeats 4000000
namespace Go.Proofs.YtjmpjmilndkgfaaGreatDoor
open Go.Aw Proofs.Tryz List IntKind
theorem RJ [aC prog] (l:List bF) (sep:bF) (hl:l.length<=140737488355328) (hs:(Lib.join l sep).length<=140737488355328):
  Ok prog 152 [.sl .view 1 (l.map bW),.str sep] (.str (Lib.join l sep)):=xm Tryz.lays156 Tryz.Builder_Extra_156 l sep hl hs
def Cs (s:bF):Bool:= !dA s
theorem Xp [aC prog] (s:bF) (hl:s.length<=1099511627776):Ok prog 304 [.str s] (.bool (Cs s)):=by have c1:=gZ s hl;unfold Cs;generalize dA s=b at *;refine bR aD func304 ntmps304 ?_;refine bH ?_;exact aK results304
theorem Ud [aC prog] (l:List bF) (hs:bV eX l<=1099511627776):Ok prog 315 [.sl .view 1 (l.map bW),.fn 304 []] (.int .i64 (wX Cs l)):=by
 simp only [bV] at hs;refine bR aD func315 ntmps315 ?_;refine bH ?_;refine aL (ι:={k:Nat // k<=l.length/\∀x∈l.take k,Cs x=false}) (λt o i=>⟨bD t [(8,.int .i64 i.1),(5,.undef)],o⟩)
  (λi=>l.length - i.1) ⟨0,by simp⟩ aH ?_
 rintro ⟨k,hk,hpre⟩ K1 hK1;simp only [bD,cW,cU] at hK1⊢;have hk1:=oW (k:=k);by_cases hlt:k < l.length
 .have hg:=aE hlt;have hel:=dZ eX l k hlt;simp only [eX] at hel;have c1:=Xp l[k] (by omega);generalize hb:Cs l[k]=b at *;have W:=aA hk1 (aA hg hlt);repeat' first|refine wf ?_|(refine sq ?_ ?_<;>intro hc<;>try exact hc.elim)|fail
  .all_goals try(refine aR ?_;simp [aG,results315])
   rw [DY hlt (by simpa [hb] using hc) hpre]
  .exact hK1 _ ⟨k+1,by omega,dV hlt hpre (by simpa [hb] using hc)⟩ aH (by simp only;omega)
 .have W:=hk1;refine we ?_;all_goals try(refine aR ?_;simp [aG,results315])
  rw [wI (mQ (by omega) hpre)]
theorem Ml [aC prog] (l:List bF) (hs:bV eX l<=1099511627776):Ok prog 303 [.sl .view 1 (l.map bW),.fn 304 []] (.bool (l.any Cs)):=by
 have c1:=Ud l hs;refine bR aD func303 ntmps303 ?_;refine bH ?_;all_goals try(refine aR ?_;simp [aG,results303])
 exact Fb _ _
theorem FN [aC prog] (l:List bF) (hs:bV eX l<=1099511627776):Ok prog 293 [.sl .view 1 (l.map bW)] (.bool (lM l)):=by
 have c1:=Ml l hs;simp only [bV] at hs;have e:l.any Cs= !l.all dA:=by rw [any_eq_not_all_not];simp [Cs]
 have e2:decide (l.length<=4)=decide ((l.length:Int)<=4):=by simp only [vA];omega
 rw [e] at c1;unfold lM;rw [e2];generalize l.all dA=b at *;refine bR aD func293 ntmps293 ?_;have W:=trivial;repeat' first|refine wf ?_|(refine sq ?_ ?_<;>intro hc<;>try exact hc.elim)|fail
 all_goals try(refine aR ?_;simp [aG,results293])
 all_goals simp_all
theorem Oc [aC prog] (p:dL) (hs:eB p<=1099511627776):Ok prog 275 [.agg (bM .view p)] (.bool (nL p)):=by
 simp only [eB] at hs;have c1:=FN p.dG (by omega);have c2:=FN p.eZ (by omega);have c3:=FN p.fD (by omega);have c4:=Bf p.rM (by omega);have l1:(p.dG == [])=decide ((p.dG.length:Int)=0):=by cases p.dG<;>simp<;>omega
 have l2:(p.eZ == [])=decide ((p.eZ.length:Int)=0):=by cases p.eZ<;>simp<;>omega
 have l3:(p.fD == [])=decide ((p.fD.length:Int)=0):=by cases p.fD<;>simp<;>omega
 unfold nL;rw [l1,l2,l3];generalize lM p.dG=b1 at *;generalize lM p.eZ=b2 at *;generalize lM p.fD=b3 at *;generalize isValue p.rM=b4 at *;generalize hb:p.isSet=b at *;cases b
 .refine bR aD func275 ntmps275 ?_;have W:=hb;repeat' first|refine wf ?_|(refine sq ?_ ?_<;>intro hc<;>try exact hc.elim)|fail
  all_goals try(refine aR ?_;simp [aG,results275,hb])
  all_goals simp_all
 .refine bR aD func275 ntmps275 ?_;have W:=hb;repeat' first|refine wf ?_|(refine sq ?_ ?_<;>intro hc<;>try exact hc.elim)|fail
  all_goals try(refine aR ?_;simp [aG,results275,hb])
  all_goals simp_all
theorem Gx [aC prog] (p:dL) (hs:eB p<=274877906944):Ok prog 243 [.agg (bM .view p)] (.str (iW p)):=by
 have c0:=Oc p (by omega);simp only [bM] at c0;have hq:= @RI p;have hn':nL p=true->p.isSet=true->p.dG.length<=4/\p.eZ.length<=4/\p.fD.length<=4:=by intro h hs;simp only [nL,hs,gE,eJ] at h;exact ⟨(AZ h.1.1.1).1,(AZ h.1.1.2).1,(AZ h.1.2).1⟩
 have hs0:=hs;simp only [eB,bV] at hs;unfold iW;by_cases h1:nL p=true
 .by_cases h2:p.isSet=true
  .obtain ⟨k1,k2,k3,k4⟩:=hq h1 h2;obtain ⟨n1,n2,n3⟩:=hn' h1 h2;have j1:Ok prog 152 [.sl .view 1 ([.str [115,99,114,105,112,116]]::p.dG.map bW),.str [32]] (.str (words uR p.dG)):=RJ (uR::p.dG) [32] (by simp;omega) (by change (words uR p.dG).length<=_;omega);have j2:Ok prog 152 [.sl .view 1 ([.str [115,116,121,108,101]]::p.eZ.map bW),.str [32]] (.str (words yO p.eZ)):=RJ (yO::p.eZ) [32] (by simp;omega) (by change (words yO p.eZ).length<=_;omega);have j3:Ok prog 152 [.sl .view 1 ([.str [105,109,103]]::p.fD.map bW),.str [32]] (.str (words KD p.fD)):=RJ (KD::p.fD) [32] (by simp;omega) (by change (words KD p.fD).length<=_;omega);rw [eK ⟨h1,h2⟩];unfold Xn;rw [h1,h2] at c0;generalize words uR p.dG=q1 at *;generalize words yO p.eZ=q2 at *;generalize words KD p.fD=q3 at *;by_cases hn:p.rM=[]
   .rw [eK hn];rw [hn] at c0;refine tX aD [3] func243 ntmps243 ?_;have W:=aA h2 hn;have V:=aA h2 hn;refine we ?_;refine go_drawn3 [⟨1,1,[(3,⟨true,false,1,2,[.str [115,99,114,105,112,116]]::p.dG.map bW⟩),(0,⟨true,false,1,1,[[.str [115,99,114,105,112,116]]]⟩)]⟩,⟨2,1,[(9,⟨true,false,1,2,[.str [115,116,121,108,101]]::p.eZ.map bW⟩),(6,⟨true,false,1,1,[[.str [115,116,121,108,101]]]⟩)]⟩,⟨3,1,[(16,⟨true,false,1,2,[.str [105,109,103]]::p.fD.map bW⟩),(13,⟨true,false,1,1,[[.str [105,109,103]]]⟩)]⟩] (by simp;rfl) (by decide+kernel) (by decide+kernel) (by simp [mP,pre,Region.binds]) (by simp) ?_
    repeat' first|refine WY (by simp;rfl) (by simp;rfl) ?_|(refine OL ?_ (by simp;rfl) ?_;(focus (simp;done)))|(refine nN (j:=3) (v:= .obj 1 2) ⟨1,1,[(3,⟨true,false,1,2,[.str [115,99,114,105,112,116]]::p.dG.map bW⟩),(0,⟨true,false,1,1,[[.str [115,99,114,105,112,116]]]⟩)]⟩ [] [(0,⟨true,false,1,1,[[.str [115,99,114,105,112,116]]]⟩)] rfl (by simp) rfl (by simp [Region.binds];rfl) (by decide) (by simp [Region.binds];rfl) (by simp;rfl) rfl ?_ ?_;(focus (refine yH (by first|(simp;rfl)|(simp;done)|rfl) rfl (by first|(simp;rfl)|(simp;done)|rfl) (by first|(simp;rfl)|(simp;done)|rfl) (by first|(simp;rfl)|(simp;done)|rfl) (by simp;exact ⟨rfl,rfl⟩) (by simp) (by simp) (by simp;omega) (by simp;omega))))|(refine nN (j:=0) (v:= .obj 1 1) ⟨1,1,[(3,⟨true,false,1,2,[.str [115,99,114,105,112,116]]::p.dG.map bW⟩),(0,⟨true,false,1,1,[[.str [115,99,114,105,112,116]]]⟩)]⟩ [(3,⟨true,false,1,2,[.str [115,99,114,105,112,116]]::p.dG.map bW⟩)] [] rfl (by simp) rfl (by simp [Region.binds];rfl) (by decide) (by simp [Region.binds];rfl) (by simp;rfl) rfl ?_ ?_;(focus (refine Ch (by simp;exact ⟨rfl,rfl⟩) (by simp) rfl rfl (by decide) (by decide) (by first|(simp;rfl)|rfl) (by simp [AV.iE]) (by simp [AV.yA,AV.cells]) (by simp) (by simp [AV.cells]))))|(refine nN (j:=9) (v:= .obj 2 2) ⟨2,1,[(9,⟨true,false,1,2,[.str [115,116,121,108,101]]::p.eZ.map bW⟩),(6,⟨true,false,1,1,[[.str [115,116,121,108,101]]]⟩)]⟩ [] [(6,⟨true,false,1,1,[[.str [115,116,121,108,101]]]⟩)] rfl (by simp) rfl (by simp [Region.binds];rfl) (by decide) (by simp [Region.binds];rfl) (by simp;rfl) rfl ?_ ?_;(focus (refine yH (by first|(simp;rfl)|(simp;done)|rfl) rfl (by first|(simp;rfl)|(simp;done)|rfl) (by first|(simp;rfl)|(simp;done)|rfl) (by first|(simp;rfl)|(simp;done)|rfl) (by simp;exact ⟨rfl,rfl⟩) (by simp) (by simp) (by simp;omega) (by simp;omega))))|(refine nN (j:=6) (v:= .obj 2 1) ⟨2,1,[(9,⟨true,false,1,2,[.str [115,116,121,108,101]]::p.eZ.map bW⟩),(6,⟨true,false,1,1,[[.str [115,116,121,108,101]]]⟩)]⟩ [(9,⟨true,false,1,2,[.str [115,116,121,108,101]]::p.eZ.map bW⟩)] [] rfl (by simp) rfl (by simp [Region.binds];rfl) (by decide) (by simp [Region.binds];rfl) (by simp;rfl) rfl ?_ ?_;(focus (refine Ch (by simp;exact ⟨rfl,rfl⟩) (by simp) rfl rfl (by decide) (by decide) (by first|(simp;rfl)|rfl) (by simp [AV.iE]) (by simp [AV.yA,AV.cells]) (by simp) (by simp [AV.cells]))))|(refine nN (j:=16) (v:= .obj 3 2) ⟨3,1,[(16,⟨true,false,1,2,[.str [105,109,103]]::p.fD.map bW⟩),(13,⟨true,false,1,1,[[.str [105,109,103]]]⟩)]⟩ [] [(13,⟨true,false,1,1,[[.str [105,109,103]]]⟩)] rfl (by simp) rfl (by simp [Region.binds];rfl) (by decide) (by simp [Region.binds];rfl) (by simp;rfl) rfl ?_ ?_;(focus (refine yH (by first|(simp;rfl)|(simp;done)|rfl) rfl (by first|(simp;rfl)|(simp;done)|rfl) (by first|(simp;rfl)|(simp;done)|rfl) (by first|(simp;rfl)|(simp;done)|rfl) (by simp;exact ⟨rfl,rfl⟩) (by simp) (by simp) (by simp;omega) (by simp;omega))))|(refine nN (j:=13) (v:= .obj 3 1) ⟨3,1,[(16,⟨true,false,1,2,[.str [105,109,103]]::p.fD.map bW⟩),(13,⟨true,false,1,1,[[.str [105,109,103]]]⟩)]⟩ [(16,⟨true,false,1,2,[.str [105,109,103]]::p.fD.map bW⟩)] [] rfl (by simp) rfl (by simp [Region.binds];rfl) (by decide) (by simp [Region.binds];rfl) (by simp;rfl) rfl ?_ ?_;(focus (refine Ch (by simp;exact ⟨rfl,rfl⟩) (by simp) rfl rfl (by decide) (by decide) (by first|(simp;rfl)|rfl) (by simp [AV.iE]) (by simp [AV.yA,AV.cells]) (by simp) (by simp [AV.cells]))))|(refine OM rfl ?_ (by simp [Region.binds];rfl) (by decide) (by simp [Region.binds];rfl) (by simp;rfl) ?_ rfl (by first|rfl|(simp;done)) ?_;(focus (first|rfl|(simp;done)));(focus (first|rfl|(simp [nI];done))))|(refine nx ?_;refine so ?_)|fail
    have W:=aA h2 hn;have V:=aA h2 hn;refine we ?_;all_goals try(refine aR ?_;simp [aG,results243,h2,hn])
   .rw [cY hn];refine tX aD [3] func243 ntmps243 ?_;have W:=aA h2 hn;have V:=aA h2 hn;refine we ?_;refine go_drawn3 [⟨1,1,[(3,⟨true,false,1,2,[.str [115,99,114,105,112,116]]::p.dG.map bW⟩),(0,⟨true,false,1,1,[[.str [115,99,114,105,112,116]]]⟩)]⟩,⟨2,1,[(9,⟨true,false,1,2,[.str [115,116,121,108,101]]::p.eZ.map bW⟩),(6,⟨true,false,1,1,[[.str [115,116,121,108,101]]]⟩)]⟩,⟨3,1,[(16,⟨true,false,1,2,[.str [105,109,103]]::p.fD.map bW⟩),(13,⟨true,false,1,1,[[.str [105,109,103]]]⟩)]⟩] (by simp;rfl) (by decide+kernel) (by decide+kernel) (by simp [mP,pre,Region.binds]) (by simp) ?_
    repeat' first|refine WY (by simp;rfl) (by simp;rfl) ?_|(refine OL ?_ (by simp;rfl) ?_;(focus (simp;done)))|(refine nN (j:=3) (v:= .obj 1 2) ⟨1,1,[(3,⟨true,false,1,2,[.str [115,99,114,105,112,116]]::p.dG.map bW⟩),(0,⟨true,false,1,1,[[.str [115,99,114,105,112,116]]]⟩)]⟩ [] [(0,⟨true,false,1,1,[[.str [115,99,114,105,112,116]]]⟩)] rfl (by simp) rfl (by simp [Region.binds];rfl) (by decide) (by simp [Region.binds];rfl) (by simp;rfl) rfl ?_ ?_;(focus (refine yH (by first|(simp;rfl)|(simp;done)|rfl) rfl (by first|(simp;rfl)|(simp;done)|rfl) (by first|(simp;rfl)|(simp;done)|rfl) (by first|(simp;rfl)|(simp;done)|rfl) (by simp;exact ⟨rfl,rfl⟩) (by simp) (by simp) (by simp;omega) (by simp;omega))))|(refine nN (j:=0) (v:= .obj 1 1) ⟨1,1,[(3,⟨true,false,1,2,[.str [115,99,114,105,112,116]]::p.dG.map bW⟩),(0,⟨true,false,1,1,[[.str [115,99,114,105,112,116]]]⟩)]⟩ [(3,⟨true,false,1,2,[.str [115,99,114,105,112,116]]::p.dG.map bW⟩)] [] rfl (by simp) rfl (by simp [Region.binds];rfl) (by decide) (by simp [Region.binds];rfl) (by simp;rfl) rfl ?_ ?_;(focus (refine Ch (by simp;exact ⟨rfl,rfl⟩) (by simp) rfl rfl (by decide) (by decide) (by first|(simp;rfl)|rfl) (by simp [AV.iE]) (by simp [AV.yA,AV.cells]) (by simp) (by simp [AV.cells]))))|(refine nN (j:=9) (v:= .obj 2 2) ⟨2,1,[(9,⟨true,false,1,2,[.str [115,116,121,108,101]]::p.eZ.map bW⟩),(6,⟨true,false,1,1,[[.str [115,116,121,108,101]]]⟩)]⟩ [] [(6,⟨true,false,1,1,[[.str [115,116,121,108,101]]]⟩)] rfl (by simp) rfl (by simp [Region.binds];rfl) (by decide) (by simp [Region.binds];rfl) (by simp;rfl) rfl ?_ ?_;(focus (refine yH (by first|(simp;rfl)|(simp;done)|rfl) rfl (by first|(simp;rfl)|(simp;done)|rfl) (by first|(simp;rfl)|(simp;done)|rfl) (by first|(simp;rfl)|(simp;done)|rfl) (by simp;exact ⟨rfl,rfl⟩) (by simp) (by simp) (by simp;omega) (by simp;omega))))|(refine nN (j:=6) (v:= .obj 2 1) ⟨2,1,[(9,⟨true,false,1,2,[.str [115,116,121,108,101]]::p.eZ.map bW⟩),(6,⟨true,false,1,1,[[.str [115,116,121,108,101]]]⟩)]⟩ [(9,⟨true,false,1,2,[.str [115,116,121,108,101]]::p.eZ.map bW⟩)] [] rfl (by simp) rfl (by simp [Region.binds];rfl) (by decide) (by simp [Region.binds];rfl) (by simp;rfl) rfl ?_ ?_;(focus (refine Ch (by simp;exact ⟨rfl,rfl⟩) (by simp) rfl rfl (by decide) (by decide) (by first|(simp;rfl)|rfl) (by simp [AV.iE]) (by simp [AV.yA,AV.cells]) (by simp) (by simp [AV.cells]))))|(refine nN (j:=16) (v:= .obj 3 2) ⟨3,1,[(16,⟨true,false,1,2,[.str [105,109,103]]::p.fD.map bW⟩),(13,⟨true,false,1,1,[[.str [105,109,103]]]⟩)]⟩ [] [(13,⟨true,false,1,1,[[.str [105,109,103]]]⟩)] rfl (by simp) rfl (by simp [Region.binds];rfl) (by decide) (by simp [Region.binds];rfl) (by simp;rfl) rfl ?_ ?_;(focus (refine yH (by first|(simp;rfl)|(simp;done)|rfl) rfl (by first|(simp;rfl)|(simp;done)|rfl) (by first|(simp;rfl)|(simp;done)|rfl) (by first|(simp;rfl)|(simp;done)|rfl) (by simp;exact ⟨rfl,rfl⟩) (by simp) (by simp) (by simp;omega) (by simp;omega))))|(refine nN (j:=13) (v:= .obj 3 1) ⟨3,1,[(16,⟨true,false,1,2,[.str [105,109,103]]::p.fD.map bW⟩),(13,⟨true,false,1,1,[[.str [105,109,103]]]⟩)]⟩ [(16,⟨true,false,1,2,[.str [105,109,103]]::p.fD.map bW⟩)] [] rfl (by simp) rfl (by simp [Region.binds];rfl) (by decide) (by simp [Region.binds];rfl) (by simp;rfl) rfl ?_ ?_;(focus (refine Ch (by simp;exact ⟨rfl,rfl⟩) (by simp) rfl rfl (by decide) (by decide) (by first|(simp;rfl)|rfl) (by simp [AV.iE]) (by simp [AV.yA,AV.cells]) (by simp) (by simp [AV.cells]))))|(refine OM rfl ?_ (by simp [Region.binds];rfl) (by decide) (by simp [Region.binds];rfl) (by simp;rfl) ?_ rfl (by first|rfl|(simp;done)) ?_;(focus (first|rfl|(simp;done)));(focus (first|rfl|(simp [nI];done))))|(refine nx ?_;refine so ?_)|fail
    have W:=aA h2 hn;have V:=aA h2 hn;repeat' first|refine wf ?_|(refine sq ?_ ?_<;>intro hc<;>try exact hc.elim)|fail
    all_goals try(refine aR ?_;simp [aG,results243,h2,hn,nT])
    all_goals (exact absurd (by assumption) hn)
  .rw [cY (λh=>h2 h.2)]
   simp only [wA] at h2;rw [h1,h2] at c0;refine bR aD func243 ntmps243 ?_;have W:=h2;have V:=h2;refine we ?_;exact aK results243
 .rw [cY (λh=>h1 h.1)]
  simp only [wA] at h1;rw [h1] at c0;refine bR aD func243 ntmps243 ?_;refine bH ?_;exact aK results243
theorem az [aC prog] (l:List Int) (k:Int) (h0:0<=k) (hl:k+(aQ (λ_=>1) l:Nat)<=4611686018427387000) (OI:l.length<=4611686018427387904):ek prog 98 (.sl .own 1 (l.map jE)) (.sl .own 1 ((vF Fw (λ_=>1) k l).map jE)) [.int .i64 k] (.int .i64 (k+(aQ (λ_=>1) l:Nat))):=by
 generalize hu:(vF Fw (λ_=>1) k l).map jE=l';have Az:l'.length=(l.map jE).length:=by rw [<-hu];simp [fM]
 refine Qu aD func98 ntmps98 ?_;refine gJ ?_;refine aL (ι:={j:Nat // j<=l.length}) (λt o i=>⟨bD t [(1,.int .i64 (k+(aQ (λ_=>1) (l.take i.1):Nat))),(5,.int .i64 i.1)],[⟨true,false,1,0,qZ (l.map jE) l' i.1⟩]⟩)
  (λi=>l.length - i.1) ⟨0,by simp⟩ (aH (by simp [wL]) (by simp [aQ])) ?_
 rintro ⟨j,hj⟩ K1 hK1;simp only [bD,cW,cU] at hK1⊢;have hj1:i64.wrap ((j:Int)+1)=((j+1:Nat):Int):=by rw [wrap64]<;>omega
 have DW:(qZ (l.map jE) l' j).length=l.length:=by rw [rP _ _ _ Az];simp
 have hle:=dK (λ_=>1) l (j+1);by_cases hlt:j < l.length
 .have hts:=dC (λ_=>1) l j hlt
  have hmg:=zP (l.map jE) l' j (by simpa using hlt) (by rw [Az];simpa using hlt);have AA:=zO (l.map jE) l' j (by simpa using hlt) (by rw [Az];simpa using hlt);have he:l'[j]'(by rw [Az];simpa using hlt)=jE (Fw (k+(aQ (λ_=>1) (l.take j):Nat)) l[j]):=by subst hu;rw [pT,pR]
  rw [he] at AA;generalize hq:k+(aQ (λ_=>1) (l.take j):Nat)=q at *;simp only [jE,Fw,Am] at AA;have W:=aA DW (aA hmg (aA hj1 AA));have V:=aA DW (aA hj1 (aA AA hlt));refine wl ?_;refine hK1 _ ⟨j+1,by omega⟩ (aH (by simp) ?_) (by simp only;omega);simp;omega
 .have V8:=vE (l.map jE) l' j Az (by simp;omega);have hjl:j=l.length:=by omega
  have zT:iK l'=true:=by rw [<-hu];simp
  have htk:l.take j=l:=cX (by omega);rw [htk] at *;have W:=aA DW hj1;refine wl ?_;all_goals try(refine aR ?_;simp [yD,results98,V8,zT])
theorem xQ [aC prog] (l:List bF) (k:Int) (h0:0<=k) (hl:k+(aQ (λ_=>1) l:Nat)<=4611686018427387000) (OI:l.length<=4611686018427387904):ek prog 52 (.sl .own 1 (l.map bW)) (.sl .own 1 ((vF pU (λ_=>1) k l).map bW)) [.int .i64 k] (.int .i64 (k+(aQ (λ_=>1) l:Nat))):=by
 generalize hu:(vF pU (λ_=>1) k l).map bW=l';have Az:l'.length=(l.map bW).length:=by rw [<-hu];simp [fM]
 refine Qu aD func52 ntmps52 ?_;refine gJ ?_;refine aL (ι:={j:Nat // j<=l.length}) (λt o i=>⟨bD t [(1,.int .i64 (k+(aQ (λ_=>1) (l.take i.1):Nat))),(5,.int .i64 i.1)],[⟨true,false,1,0,qZ (l.map bW) l' i.1⟩]⟩)
  (λi=>l.length - i.1) ⟨0,by simp⟩ (aH (by simp [wL]) (by simp [aQ])) ?_
 rintro ⟨j,hj⟩ K1 hK1;simp only [bD,cW,cU] at hK1⊢;have hj1:i64.wrap ((j:Int)+1)=((j+1:Nat):Int):=by rw [wrap64]<;>omega
 have DW:(qZ (l.map bW) l' j).length=l.length:=by rw [rP _ _ _ Az];simp
 have hle:=dK (λ_=>1) l (j+1);by_cases hlt:j < l.length
 .have hts:=dC (λ_=>1) l j hlt
  have hmg:=zP (l.map bW) l' j (by simpa using hlt) (by rw [Az];simpa using hlt);have AA:=zO (l.map bW) l' j (by simpa using hlt) (by rw [Az];simpa using hlt);have he:l'[j]'(by rw [Az];simpa using hlt)=bW (pU (k+(aQ (λ_=>1) (l.take j):Nat)) l[j]):=by subst hu;rw [pT,pR]
  rw [he] at AA;generalize hq:k+(aQ (λ_=>1) (l.take j):Nat)=q at *;simp only [bW,pU,Am] at AA;have W:=aA DW (aA hmg (aA hj1 AA));have V:=aA DW (aA hj1 (aA AA hlt));repeat' first|refine wg ?_|(refine nx ?_;refine sk (hc:=kM _ (by omega)) (h:=?_))|(refine sq ?_ ?_<;>intro hc<;>try exact hc.elim)|fail
  refine hK1 _ ⟨j+1,by omega⟩ (aH (by simp) ?_) (by simp only;omega);simp;omega
 .have V8:=vE (l.map bW) l' j Az (by simp;omega);have hjl:j=l.length:=by omega
  have zT:iK l'=true:=by rw [<-hu];simp
  have htk:l.take j=l:=cX (by omega);rw [htk] at *;have W:=aA DW hj1;refine wl ?_;all_goals try(refine aR ?_;simp [yD,results52,V8,zT])
theorem KP [aC prog] (l:List aT) (k:Int) (h0:0<=k) (hl:k+(aQ (λ_=>2) l:Nat)<=4611686018427387000) (OI:l.length<=4611686018427387904):ek prog 51 (.sl .own 2 (l.map aO)) (.sl .own 2 ((vF Ab (λ_=>2) k l).map aO)) [.int .i64 k] (.int .i64 (k+(aQ (λ_=>2) l:Nat))):=by
 generalize hu:(vF Ab (λ_=>2) k l).map aO=l';have Az:l'.length=(l.map aO).length:=by rw [<-hu];simp [fM]
 refine Qu aD func51 ntmps51 ?_;refine gJ ?_;refine aL (ι:={j:Nat // j<=l.length}) (λt o i=>⟨bD t [(1,.int .i64 (k+(aQ (λ_=>2) (l.take i.1):Nat))),(5,.int .i64 i.1)],[⟨true,false,2,0,qZ (l.map aO) l' i.1⟩]⟩)
  (λi=>l.length - i.1) ⟨0,by simp⟩ (aH (by simp [wL]) (by simp [aQ])) ?_
 rintro ⟨j,hj⟩ K1 hK1;simp only [bD,cW,cU] at hK1⊢;have hj1:i64.wrap ((j:Int)+1)=((j+1:Nat):Int):=by rw [wrap64]<;>omega
 have DW:(qZ (l.map aO) l' j).length=l.length:=by rw [rP _ _ _ Az];simp
 have hle:=dK (λ_=>2) l (j+1);by_cases hlt:j < l.length
 .have hts:=dC (λ_=>2) l j hlt
  have hmg:=zP (l.map aO) l' j (by simpa using hlt) (by rw [Az];simpa using hlt);have AA:=zO (l.map aO) l' j (by simpa using hlt) (by rw [Az];simpa using hlt);have he:l'[j]'(by rw [Az];simpa using hlt)=aO (Ab (k+(aQ (λ_=>2) (l.take j):Nat)) l[j]):=by subst hu;rw [pT,pR]
  rw [he] at AA;generalize hq:k+(aQ (λ_=>2) (l.take j):Nat)=q at *;have e2:q+1+1=q+2:=by omega
  simp only [aO,Ab,Am] at AA;have W:=aA DW (aA hmg (aA hj1 (aA AA e2)));have V:=aA DW (aA hj1 (aA AA (aA hlt e2)));repeat' first|refine wg ?_|(refine nx ?_;refine sk (hc:=kM _ (by omega)) (h:=?_))|(refine sq ?_ ?_<;>intro hc<;>try exact hc.elim)|fail
  refine hK1 _ ⟨j+1,by omega⟩ (aH (by simp) ?_) (by simp only;omega);simp;omega
 .have V8:=vE (l.map aO) l' j Az (by simp;omega);have hjl:j=l.length:=by omega
  have zT:iK l'=true:=by rw [<-hu];simp
  have htk:l.take j=l:=cX (by omega);rw [htk] at *;have W:=aA DW hj1;refine wl ?_;all_goals try(refine aR ?_;simp [yD,results51,V8,zT])
theorem KQ [aC prog] (l:List jY) (k:Int) (h0:0<=k) (hl:k+(aQ (λ_=>2) l:Nat)<=4611686018427387000) (OI:l.length<=4611686018427387904):ek prog 96 (.sl .own 2 (l.map gU)) (.sl .own 2 ((vF Ac (λ_=>2) k l).map gU)) [.int .i64 k] (.int .i64 (k+(aQ (λ_=>2) l:Nat))):=by
 generalize hu:(vF Ac (λ_=>2) k l).map gU=l';have Az:l'.length=(l.map gU).length:=by rw [<-hu];simp [fM]
 refine Qu aD func96 ntmps96 ?_;refine gJ ?_;refine aL (ι:={j:Nat // j<=l.length}) (λt o i=>⟨bD t [(1,.int .i64 (k+(aQ (λ_=>2) (l.take i.1):Nat))),(5,.int .i64 i.1)],[⟨true,false,2,0,qZ (l.map gU) l' i.1⟩]⟩)
  (λi=>l.length - i.1) ⟨0,by simp⟩ (aH (by simp [wL]) (by simp [aQ])) ?_
 rintro ⟨j,hj⟩ K1 hK1;simp only [bD,cW,cU] at hK1⊢;have hj1:i64.wrap ((j:Int)+1)=((j+1:Nat):Int):=by rw [wrap64]<;>omega
 have DW:(qZ (l.map gU) l' j).length=l.length:=by rw [rP _ _ _ Az];simp
 have hle:=dK (λ_=>2) l (j+1);by_cases hlt:j < l.length
 .have hts:=dC (λ_=>2) l j hlt
  have hmg:=zP (l.map gU) l' j (by simpa using hlt) (by rw [Az];simpa using hlt);have AA:=zO (l.map gU) l' j (by simpa using hlt) (by rw [Az];simpa using hlt);have he:l'[j]'(by rw [Az];simpa using hlt)=gU (Ac (k+(aQ (λ_=>2) (l.take j):Nat)) l[j]):=by subst hu;rw [pT,pR]
  rw [he] at AA;generalize hq:k+(aQ (λ_=>2) (l.take j):Nat)=q at *;have e2:q+1+1=q+2:=by omega
  simp only [gU,Ac,Am] at AA;have W:=aA DW (aA hmg (aA hj1 (aA AA e2)));have V:=aA DW (aA hj1 (aA AA (aA hlt e2)));repeat' first|refine wg ?_|(refine nx ?_;refine sk (hc:=kM _ (by omega)) (h:=?_))|(refine sq ?_ ?_<;>intro hc<;>try exact hc.elim)|fail
  refine hK1 _ ⟨j+1,by omega⟩ (aH (by simp) ?_) (by simp only;omega);simp;omega
 .have V8:=vE (l.map gU) l' j Az (by simp;omega);have hjl:j=l.length:=by omega
  have zT:iK l'=true:=by rw [<-hu];simp
  have htk:l.take j=l:=cX (by omega);rw [htk] at *;have W:=aA DW hj1;refine wl ?_;all_goals try(refine aR ?_;simp [yD,results96,V8,zT])
theorem Sl (l:List bP):((l.map (bK .own)).all λr=>r.all AV.zJ)=true:=by simp [AV.zJ]
theorem bf (l:List bP):((l.map (bK .own)).all λr=>r.all AV.nd)=true:=by simp [AV.nd]
theorem Uj [aC prog] (l:List bP) (k:Int) (h0:0<=k) (hl:k+(aQ jN l:Nat)<=4611686018427387000) (OI:l.length<=4611686018427387904) (hla:∀x∈l,x.attrs.length<=4611686018427387904):
  ek prog 47 (.sl .own 4 (l.map (bK .own))) (.sl .own 4 ((vF sV jN k l).map (bK .own))) [.int .i64 k] (.int .i64 (k+(aQ jN l:Nat))):=by
 have hpR:=Sl l;have hpL:=Sl (vF sV jN k l);have hnR:=bf l;have hnL:=bf (vF sV jN k l);have zT:iK ((vF sV jN k l).map (bK .own))=true:=by simp
 generalize hu:(vF sV jN k l).map (bK .own)=l' at *;generalize hR:l.map (bK .own)=R at *;have hRl:R.length=l.length:=by rw [<-hR];simp
 have Az:l'.length=R.length:=by rw [<-hu,hRl];simp [fM]
 let OB:Nat->List aM:=λj=>if h:j < l.length then [⟨true,true,4,0,(qZ R l' j).set j [.int .i64 l[j].kind,.str l[j].name,.obj 1 1,.str l[j].text]⟩,⟨true,false,2,1,l[j].attrs.map gU⟩] else [⟨true,false,4,0,l'⟩]
 have Sm:∀(t t':List AV) (j:Nat),j<=l.length->wk (xS (iU [0]) true t) t'->wk t t'->mK ⟨t,[⟨true,false,4,0,qZ R l' j⟩]⟩ ⟨t',OB j⟩:=by
  intro t t' j hj h1 h2;by_cases h:j < l.length
  .have e1:OB j=[⟨true,true,4,0,(qZ R l' j).set j [.int .i64 l[j].kind,.str l[j].name,.obj 1 1,.str l[j].text]⟩,⟨true,false,2,1,l[j].attrs.map gU⟩]:=dif_pos h;rw [e1];have hg:=zP R l' j (by omega) (by omega);have hRj:R[j]'(by omega)=bK .own l[j]:=by subst hR;simp
   rw [hRj] at hg;exact Vo 0 j 2 rfl rfl rfl hg rfl rfl h1
  .have e1:OB j=[⟨true,false,4,0,l'⟩]:=dif_neg h;rw [e1,vE R l' j Az (by omega)];exact vQ h2
 refine Qu aD func47 ntmps47 ?_;refine gJ ?_;refine aL (ι:={j:Nat // j<=l.length}) (λt o i=>⟨bD t [(1,.int .i64 (k+(aQ jN (l.take i.1):Nat))),(5,.int .i64 i.1)],OB i.1⟩)
  (λi=>l.length - i.1) ⟨0,by simp⟩ (by rw [<-wL R l'];exact Sm _ _ 0 (by omega) (by simp [aQ]) (by simp [aQ])) ?_
 rintro ⟨j,hj⟩ K1 hK1;simp only [bD,cW,cU] at hK1⊢;have hj1:i64.wrap ((j:Int)+1)=((j+1:Nat):Int):=by rw [wrap64]<;>omega
 have DW:(qZ R l' j).length=l.length:=by rw [rP _ _ _ Az,hRl]
 have hle:=dK jN l (j+1);by_cases hlt:j < l.length
 .have hts:=dC jN l j hlt;have AA:=zO R l' j (by omega) (by omega);have he:l'[j]'(by omega)=bK .own (sV (k+(aQ jN (l.take j):Nat)) l[j]):=by subst hu;rw [pT,pR]
  rw [he] at AA;have hnm:Bb (qZ R l' j)=true:=OQ (p:=λr:List AV=>r.all AV.nd) hnR hnL;have hpm:((qZ R l' j).all λr=>r.all AV.zJ)=true:=OQ (p:=λr:List AV=>r.all AV.zJ) hpR hpL;have hOB:OB j=[⟨true,true,4,0,(qZ R l' j).set j [.int .i64 l[j].kind,.str l[j].name,.obj 1 1,.str l[j].text]⟩,⟨true,false,2,1,l[j].attrs.map gU⟩]:=dif_pos hlt;rw [hOB]
  clear_value OB
  have hcx:jN l[j]=3+aQ (λ_=>2) l[j].attrs:=rfl;have hax:=hla _ (fR hlt);have aE0:=Sm;generalize hq:k+(aQ jN (l.take j):Nat)=q at *;have e2:q+1+1=q+2:=by omega
  simp only [bK,sV] at AA;have W:=aA DW (aA hj1 (aA e2 hnm));have V:=aA DW (aA hj1 (aA hlt (aA e2 hnm)));repeat' first|refine wg ?_|(refine nx ?_;first|refine sk (hc:=kM _ (by omega)) (h:=?_)|refine sm (hc:=KQ l[j].attrs _ (by omega) (by omega) (by omega)) (h:=?_))|(refine sq ?_ ?_<;>intro hc<;>try exact hc.elim)|fail
  refine hK1 _ ⟨j+1,by omega⟩ (mK.trans (QE 0 1 j 2 rfl rfl (by decide) rfl rfl rfl (by rw [mB (by omega)]) rfl rfl (by rw [set_set];exact yw (p:=λr:List AV=>r.all AV.zJ) hpm (by simp [AV.zJ])) rfl rfl (lC _)) (mK.trans (aW 1 (o':=[⟨true,false,4,0,qZ R l' (j+1)⟩]) ?go ?gw ?gc ?gb) (aE0 _ _ (j+1) (by omega) ?gr (lC _)))) (by simp only;omega);case go=>simp [set_set,AA]
  case gw=>(simp;omega)
  case gc=>simp
  case gb=>simp
  case gr=>simp
 .have hjl:j=l.length:=by omega
  have V8:=vE R l' j Az (by omega);have htk:l.take j=l:=cX (by omega);rw [htk] at *;have hOB:OB j=[⟨true,false,4,0,l'⟩]:=dif_neg hlt;rw [hOB]
  clear_value OB
  have aL7:l'.length=l.length:=by omega
  have W:=aA aL7 hj1;refine wl ?_;all_goals try(refine aR ?_;simp [yD,results47,zT])
theorem VU (l:List gF):((l.map (dE .own)).all λr=>r.all AV.zJ)=true:=by simp [AV.zJ]
theorem zk (l:List gF):((l.map (dE .own)).all λr=>r.all AV.nd)=true:=by simp [AV.nd]
theorem Xy [aC prog] (l:List gF) (k:Int) (h0:0<=k) (hl:k+(aQ oU l:Nat)<=4611686018427387000) (OI:l.length<=4611686018427387904) (hla:∀x∈l,x.attrs.length<=4611686018427387904):
  ek prog 97 (.sl .own 4 (l.map (dE .own))) (.sl .own 4 ((vF mkNode oU k l).map (dE .own))) [.int .i64 k] (.int .i64 (k+(aQ oU l:Nat))):=by
 have hpR:=VU l;have hpL:=VU (vF mkNode oU k l);have hnR:=zk l;have hnL:=zk (vF mkNode oU k l);have zT:iK ((vF mkNode oU k l).map (dE .own))=true:=by simp
 generalize hu:(vF mkNode oU k l).map (dE .own)=l' at *;generalize hR:l.map (dE .own)=R at *;have hRl:R.length=l.length:=by rw [<-hR];simp
 have Az:l'.length=R.length:=by rw [<-hu,hRl];simp [fM]
 let OB:Nat->List aM:=λj=>if h:j < l.length then [⟨true,true,4,0,(qZ R l' j).set j [.str l[j].name,.str l[j].text,.int .i64 l[j].parent,.obj 1 1]⟩,⟨true,false,2,1,l[j].attrs.map gU⟩] else [⟨true,false,4,0,l'⟩]
 have Sm:∀(t t':List AV) (j:Nat),j<=l.length->wk (xS (iU [0]) true t) t'->wk t t'->mK ⟨t,[⟨true,false,4,0,qZ R l' j⟩]⟩ ⟨t',OB j⟩:=by
  intro t t' j hj h1 h2;by_cases h:j < l.length
  .have e1:OB j=[⟨true,true,4,0,(qZ R l' j).set j [.str l[j].name,.str l[j].text,.int .i64 l[j].parent,.obj 1 1]⟩,⟨true,false,2,1,l[j].attrs.map gU⟩]:=dif_pos h;rw [e1];have hg:=zP R l' j (by omega) (by omega);have hRj:R[j]'(by omega)=dE .own l[j]:=by subst hR;simp
   rw [hRj] at hg;exact Vo 0 j 3 rfl rfl rfl hg rfl rfl h1
  .have e1:OB j=[⟨true,false,4,0,l'⟩]:=dif_neg h;rw [e1,vE R l' j Az (by omega)];exact vQ h2
 refine Qu aD func97 ntmps97 ?_;refine gJ ?_;refine aL (ι:={j:Nat // j<=l.length}) (λt o i=>⟨bD t [(1,.int .i64 (k+(aQ oU (l.take i.1):Nat))),(5,.int .i64 i.1)],OB i.1⟩)
  (λi=>l.length - i.1) ⟨0,by simp⟩ (by rw [<-wL R l'];exact Sm _ _ 0 (by omega) (by simp [aQ]) (by simp [aQ])) ?_
 rintro ⟨j,hj⟩ K1 hK1;simp only [bD,cW,cU] at hK1⊢;have hj1:i64.wrap ((j:Int)+1)=((j+1:Nat):Int):=by rw [wrap64]<;>omega
 have DW:(qZ R l' j).length=l.length:=by rw [rP _ _ _ Az,hRl]
 have hle:=dK oU l (j+1);by_cases hlt:j < l.length
 .have hts:=dC oU l j hlt;have AA:=zO R l' j (by omega) (by omega);have he:l'[j]'(by omega)=dE .own (mkNode (k+(aQ oU (l.take j):Nat)) l[j]):=by subst hu;rw [pT,pR]
  rw [he] at AA;have hnm:Bb (qZ R l' j)=true:=OQ (p:=λr:List AV=>r.all AV.nd) hnR hnL;have hpm:((qZ R l' j).all λr=>r.all AV.zJ)=true:=OQ (p:=λr:List AV=>r.all AV.zJ) hpR hpL;have hOB:OB j=[⟨true,true,4,0,(qZ R l' j).set j [.str l[j].name,.str l[j].text,.int .i64 l[j].parent,.obj 1 1]⟩,⟨true,false,2,1,l[j].attrs.map gU⟩]:=dif_pos hlt;rw [hOB]
  clear_value OB
  have hcx:oU l[j]=3+aQ (λ_=>2) l[j].attrs:=rfl;have hax:=hla _ (fR hlt);have aE0:=Sm;generalize hq:k+(aQ oU (l.take j):Nat)=q at *;have e2:q+1+1=q+2:=by omega
  have e3:q+2+1=q+3:=by omega
  simp only [dE,mkNode] at AA;have W:=aA DW (aA hj1 (aA e2 (aA e3 hnm)));have V:=aA DW (aA hj1 (aA hlt (aA e2 (aA e3 hnm))));repeat' first|refine wg ?_|(refine nx ?_;first|refine sk (hc:=kM _ (by omega)) (h:=?_)|refine sm (hc:=KQ l[j].attrs _ (by omega) (by omega) (by omega)) (h:=?_))|(refine sq ?_ ?_<;>intro hc<;>try exact hc.elim)|fail
  refine hK1 _ ⟨j+1,by omega⟩ (mK.trans (QE 0 1 j 3 rfl rfl (by decide) rfl rfl rfl (by rw [mB (by omega)]) rfl rfl (by rw [set_set];exact yw (p:=λr:List AV=>r.all AV.zJ) hpm (by simp [AV.zJ])) rfl rfl (lC _)) (mK.trans (aW 1 (o':=[⟨true,false,4,0,qZ R l' (j+1)⟩]) ?go ?gw ?gc ?gb) (aE0 _ _ (j+1) (by omega) ?gr (lC _)))) (by simp only;omega);case go=>simp [set_set,AA]
  case gw=>(simp;omega)
  case gc=>simp
  case gb=>simp
  case gr=>simp
 .have hjl:j=l.length:=by omega
  have V8:=vE R l' j Az (by omega);have htk:l.take j=l:=cX (by omega);rw [htk] at *;have hOB:OB j=[⟨true,false,4,0,l'⟩]:=dif_neg hlt;rw [hOB]
  clear_value OB
  have aL7:l'.length=l.length:=by omega
  have W:=aA aL7 hj1;refine wl ?_;all_goals try(refine aR ?_;simp [yD,results97,zT])
theorem Uk [aC prog] (a:dL) (k:Int) (h0:0<=k) (hl:k+(pV a:Nat)<=4611686018427387000):ek prog 46 (.agg (bM .own a)) (.agg (bM .own (Br k a))) [.int .i64 k] (.int .i64 (k+(pV a:Nat))):=by
 simp only [pV] at hl;have l1:=iA 1 a.dG;have l2:=iA 1 a.eZ;have l3:=iA 1 a.fD;refine Qu aD func46 ntmps46 ?_;have W:=trivial;repeat' first|refine wg ?_|(refine nx ?_;first|refine sm (hc:=xQ a.dG _ (by omega) (by omega) (by omega)) (h:=?_)|refine sm (hc:=xQ a.eZ _ (by omega) (by omega) (by omega)) (h:=?_)|refine sm (hc:=xQ a.fD _ (by omega) (by omega) (by omega)) (h:=?_))|(refine sq ?_ ?_<;>intro hc<;>try exact hc.elim)|fail
 all_goals try(refine aR ?_;simp [yD,results46,Br,pV])
 all_goals (try omega)
theorem Sn [aC prog] (a:bC) (k:Int) (h0:0<=k) (hl:k+(oL a:Nat)<=4611686018427387000) (OI:a.nodes.length<=4611686018427387904) (hla:∀x∈a.nodes,x.attrs.length<=4611686018427387904):ek prog 48 (.agg (aS .own a)) (.agg (aS .own (yJ k a))) [.int .i64 k] (.int .i64 (k+(oL a:Nat))):=by
 simp only [oL] at hl;have l2:=iA 1 a.opens;refine Qu aD func48 ntmps48 ?_;have W:=trivial;repeat' first|refine wg ?_|(refine nx ?_;first|refine sm (hc:=Xy a.nodes _ (by omega) (by omega) OI hla) (h:=?_)|refine sm (hc:=az a.opens _ (by omega) (by omega) (by omega)) (h:=?_))|(refine sq ?_ ?_<;>intro hc<;>try exact hc.elim)|fail
 all_goals try(refine aR ?_;simp [yD,results48,yJ,oL])
 all_goals (try omega)
theorem bg [aC prog] (l0:List Int) (k:Int) (h0:0<=k) (hl:k+(aQ (λ_=>1) l0:Nat)<=4611686018427387000) (OI:l0.length<=4611686018427387904):Ok prog 101 [.sl .view 1 ((vF Fw (λ_=>1) k l0).map jE),.int .i64 k] (.int .i64 (k+(aQ (λ_=>1) l0:Nat))):=by
 have hget:∀j (h:j < l0.length),(vF Fw (λ_=>1) k l0)[j]? =some (Fw (k+(aQ (λ_=>1) (l0.take j):Nat)) l0[j]):=λj h=>by rw [aE (by rw [fM];exact h),pR]
 generalize hu:vF Fw (λ_=>1) k l0=l at *;have hlen:l.length=l0.length:=by rw [<-hu,fM]
 refine bR aD func101 ntmps101 ?_;refine gJ ?_;refine aL (ι:={j:Nat // j<=l0.length}) (λt o i=>⟨bD t [(1,.int .i64 (k+(aQ (λ_=>1) (l0.take i.1):Nat))),(5,.int .i64 i.1)],o⟩)
  (λi=>l0.length - i.1) ⟨0,by simp⟩ (aH (by simp) (by simp [aQ])) ?_
 rintro ⟨j,hj⟩ K1 hK1;simp only [bD,cW,cU] at hK1⊢;have hj1:i64.wrap ((j:Int)+1)=((j+1:Nat):Int):=by rw [wrap64]<;>omega
 have hle:=dK (λ_=>1) l0 (j+1);by_cases hlt:j < l0.length
 .have hts:=dC (λ_=>1) l0 j hlt
  have hg:l[j]? =some (Fw (k+(aQ (λ_=>1) (l0.take j):Nat)) l0[j]):=hget j hlt;generalize hq:k+(aQ (λ_=>1) (l0.take j):Nat)=q at *;simp only [Fw,Am] at hg;have W:=aA hlen (aA hj1 hg);have V:=aA hlen (aA hj1 (aA hg hlt));refine wl ?_;refine hK1 _ ⟨j+1,by omega⟩ (aH (by simp) ?_) (by simp only;omega);simp;omega
 .have htk:l0.take j=l0:=cX (by omega);have hjl:j=l0.length:=by omega
  rw [htk] at *;have W:=aA hlen hj1;refine wl ?_;exact aK results101
end Go.Proofs.YtjmpjmilndkgfaaGreatDoor
