/-
  Proved here: steps towards the statement of this claim, text J3.
  No condition beyond what each statement spells out.
-/
import Derived.Test.YtajppdidkjbmkaaGreatDoorQD1
import Derived.Test.YtajppdidkjbmkaaGreatDoorYShelf
import Derived.Test.YtajppdidkjbmkaaGreatDoorF5
import Derived.Test.YtajppdidkjbmkaaGreatDoorF8
set_option linter.all false
set_option maxRecDepth 4000
set_option maxHeartbeats 4000000
namespace Go.Proofs.YtajppdidkjbmkaaGreatDoor
open Go.Aw
theorem aEi [aB Tryz.prog] (l:List Str) (sep:Str) (hl:l.length≤140737488355328) (hs:(Lib.join l sep).length≤140737488355328):
  Ok Tryz.prog 24 [.sl .view 1 (l.map aU),.str sep] (.str (Lib.join l sep)):=aOj Tryz.lays156 Tryz.Builder_Extra_156 l sep hl hs
def qJ (s:Str):Bool:= !bV s
theorem aJ3 [aB Tryz.prog] (s:Str) (hl:s.length≤1099511627776):Ok Tryz.prog 180 [.str s] (.bool (qJ s)):=by
 have c1:=nM s hl
 unfold qJ
 generalize bV s=b at *
 refine ent Tryz.mix Tryz.func180 Tryz.ntmps180 ?_
 have W:=trivial
 repeat' first|refine st ?_|(refine nx ?_;first|refine se ?_|refine so ?_)|(refine cx ?_;refine sc (fun hc=>?_) (fun hc=>?_)<;>try exact hc.elim)|(refine lx ?_;refine sp (fun hc=>?_) (fun hc=>?_)<;>try exact hc.elim)|refine sx ?_ ?_|refine sy ?_ ?_|fail
 all_goals (try (refine ⟨.inr rfl,?_⟩;simp [Hands,Tryz.results180]))
theorem aJi [aB Tryz.prog] (l:List Str) (hs:szL dK l≤1099511627776):Ok Tryz.prog 185 [.sl .view 1 (l.map aU),.fn 180 []] (.int .i64 (iT qJ l)):=by
 simp only [szL] at hs
 refine ent Tryz.mix Tryz.func185 Tryz.ntmps185 ?_
 have W:=trivial
 repeat' first|refine st ?_|(refine nx ?_;first|refine se ?_|refine so ?_)|(refine cx ?_;refine sc (fun hc=>?_) (fun hc=>?_)<;>try exact hc.elim)|(refine lx ?_;refine sp (fun hc=>?_) (fun hc=>?_)<;>try exact hc.elim)|refine sx ?_ ?_|refine sy ?_ ?_|fail
 refine aJ (ι:={k:Nat // k≤l.length∧∀x∈l.take k,qJ x=false}) (fun t o i=>⟨aS t [(8,.int .i64 i.1),(5,.undef)],o⟩)
  (fun i=>l.length - i.1) ⟨0,by simp⟩ (aD (by simp) (by simp)) ?_
 rintro ⟨k,hk,hpre⟩ K1 hK1
 simp only [aS,List.set_cons_succ,List.set_cons_zero] at hK1⊢
 have hk1:IntKind.i64.wrap ((k:Int)+1)=((k+1:Nat):Int):=by rw [wrap64]<;>omega
 by_cases hlt:k < l.length
 ·have hg:=List.getElem?_eq_getElem hlt
  have hel:=eX dK l k hlt
  simp only [dK] at hel
  have c1:=aJ3 l[k] (by omega)
  generalize hb:qJ l[k]=b at *
  have W:=And.intro hk1 (And.intro hg hlt)
  repeat' first|refine st ?_|(refine nx ?_;first|refine se ?_|refine so ?_)|(refine cx ?_;refine sc (fun hc=>?_) (fun hc=>?_)<;>try exact hc.elim)|(refine lx ?_;refine sp (fun hc=>?_) (fun hc=>?_)<;>try exact hc.elim)|refine sx ?_ ?_|refine sy ?_ ?_|fail
  ·all_goals (try (refine ⟨.inr rfl,?_⟩;simp [Hands,Tryz.results185]))
   rw [sO hlt (by simpa [hb] using hc) hpre]
  ·exact hK1 _ ⟨k+1,by omega,dX hlt hpre (by simpa [hb] using hc)⟩ (aD (by simp) (by simp)) (by simp only;omega)
 ·have W:=hk1
  repeat' first|refine st ?_|(refine nx ?_;first|refine se ?_|refine so ?_)|(refine cx ?_;refine sc (fun hc=>?_) (fun hc=>?_)<;>try exact hc.elim)|(refine lx ?_;refine sp (fun hc=>?_) (fun hc=>?_)<;>try exact hc.elim)|refine sx ?_ ?_|refine sy ?_ ?_|fail
  all_goals (try (refine ⟨.inr rfl,?_⟩;simp [Hands,Tryz.results185]))
  rw [oF (jB (by omega) hpre)]
theorem aDw [aB Tryz.prog] (l:List Str) (hs:szL dK l≤1099511627776):Ok Tryz.prog 179 [.sl .view 1 (l.map aU),.fn 180 []] (.bool (l.any qJ)):=by
 have c1:=aJi l hs
 refine ent Tryz.mix Tryz.func179 Tryz.ntmps179 ?_
 have W:=trivial
 repeat' first|refine st ?_|(refine nx ?_;first|refine se ?_|refine so ?_)|(refine cx ?_;refine sc (fun hc=>?_) (fun hc=>?_)<;>try exact hc.elim)|(refine lx ?_;refine sp (fun hc=>?_) (fun hc=>?_)<;>try exact hc.elim)|refine sx ?_ ?_|refine sy ?_ ?_|fail
 all_goals (try (refine ⟨.inr rfl,?_⟩;simp [Hands,Tryz.results179]))
 exact aDe _ _
theorem xP [aB Tryz.prog] (l:List Str) (hs:szL dK l≤1099511627776):Ok Tryz.prog 177 [.sl .view 1 (l.map aU)] (.bool (fD l)):=by
 have c1:=aDw l hs
 simp only [szL] at hs
 have e:l.any qJ= !l.all bV:=by
  rw [List.any_eq_not_all_not]
  simp [qJ]
 have e2:decide (l.length≤4)=decide ((l.length:Int)≤4):=by simp only [decide_eq_decide];omega
 rw [e] at c1
 unfold fD
 rw [e2]
 generalize l.all bV=b at *
 refine ent Tryz.mix Tryz.func177 Tryz.ntmps177 ?_
 have W:=trivial
 repeat' first|refine st ?_|(refine nx ?_;first|refine se ?_|refine so ?_)|(refine cx ?_;refine sc (fun hc=>?_) (fun hc=>?_)<;>try exact hc.elim)|(refine lx ?_;refine sp (fun hc=>?_) (fun hc=>?_)<;>try exact hc.elim)|refine sx ?_ ?_|refine sy ?_ ?_|fail
 all_goals (try (refine ⟨.inr rfl,?_⟩;simp [Hands,Tryz.results177]))
 all_goals simp_all
theorem aF7 [aB Tryz.prog] (p:bR) (hs:bM p≤1099511627776):Ok Tryz.prog 169 [.agg (bD .view p)] (.bool (gX p)):=by
 simp only [bM] at hs
 have c1:=xP p.scripts (by omega)
 have c2:=xP p.styles (by omega)
 have c3:=xP p.images (by omega)
 have c4:=yS p.nonce (by omega)
 have l1:(p.scripts == [])=decide ((p.scripts.length:Int)=0):=by cases p.scripts<;>simp<;>omega
 have l2:(p.styles == [])=decide ((p.styles.length:Int)=0):=by cases p.styles<;>simp<;>omega
 have l3:(p.images == [])=decide ((p.images.length:Int)=0):=by cases p.images<;>simp<;>omega
 unfold gX
 rw [l1,l2,l3]
 generalize fD p.scripts=b1 at *
 generalize fD p.styles=b2 at *
 generalize fD p.images=b3 at *
 generalize iH p.nonce=b4 at *
 generalize hb:p.isSet=b at *
 cases b
 ·refine ent Tryz.mix Tryz.func169 Tryz.ntmps169 ?_
  have W:=hb
  repeat' first|refine st ?_|(refine nx ?_;first|refine se ?_|refine so ?_)|(refine cx ?_;refine sc (fun hc=>?_) (fun hc=>?_)<;>try exact hc.elim)|(refine lx ?_;refine sp (fun hc=>?_) (fun hc=>?_)<;>try exact hc.elim)|refine sx ?_ ?_|refine sy ?_ ?_|fail
  all_goals (try (refine ⟨.inr rfl,?_⟩;simp [Hands,Tryz.results169,hb]))
  all_goals simp_all
 ·refine ent Tryz.mix Tryz.func169 Tryz.ntmps169 ?_
  have W:=hb
  repeat' first|refine st ?_|(refine nx ?_;first|refine se ?_|refine so ?_)|(refine cx ?_;refine sc (fun hc=>?_) (fun hc=>?_)<;>try exact hc.elim)|(refine lx ?_;refine sp (fun hc=>?_) (fun hc=>?_)<;>try exact hc.elim)|refine sx ?_ ?_|refine sy ?_ ?_|fail
  all_goals (try (refine ⟨.inr rfl,?_⟩;simp [Hands,Tryz.results169,hb]))
  all_goals simp_all
theorem aAz [aB Tryz.prog] (p:bR) (hs:bM p≤274877906944):Ok Tryz.prog 151 [.agg (bD .view p)] (.str (dF p)):=by
 have c0:=aF7 p (by omega)
 simp only [bD] at c0
 have hq:= @aF1 p
 have hn':gX p=true→p.isSet=true→p.scripts.length≤4∧p.styles.length≤4∧p.images.length≤4:=by
  intro h hs
  simp only [gX,hs,if_true,Bool.and_eq_true] at h
  exact ⟨(qL h.1.1.1).1,(qL h.1.1.2).1,(qL h.1.2).1⟩
 have hs0:=hs
 simp only [bM,szL] at hs
 unfold dF
 by_cases h1:gX p=true
 ·by_cases h2:p.isSet=true
  ·obtain ⟨k1,k2,k3,k4⟩:=hq h1 h2
   obtain ⟨n1,n2,n3⟩:=hn' h1 h2
   have j1:Ok Tryz.prog 24 [.sl .view 1 ([.str [115,99,114,105,112,116]]::p.scripts.map aU),.str [32]] (.str (words kC p.scripts)):=aEi (kC::p.scripts) [32] (by simp;omega) (by change (words kC p.scripts).length≤_;omega)
   have j2:Ok Tryz.prog 24 [.sl .view 1 ([.str [115,116,121,108,101]]::p.styles.map aU),.str [32]] (.str (words lZ p.styles)):=aEi (lZ::p.styles) [32] (by simp;omega) (by change (words lZ p.styles).length≤_;omega)
   have j3:Ok Tryz.prog 24 [.sl .view 1 ([.str [105,109,103]]::p.images.map aU),.str [32]] (.str (words qB p.images)):=aEi (qB::p.images) [32] (by simp;omega) (by change (words qB p.images).length≤_;omega)
   rw [if_pos ⟨h1,h2⟩]
   unfold yR
   rw [h1,h2] at c0
   generalize words kC p.scripts=q1 at *
   generalize words lZ p.styles=q2 at *
   generalize words qB p.images=q3 at *
   by_cases hn:p.nonce=[]
   ·rw [if_pos hn]
    rw [hn] at c0
    refine aT4 Tryz.mix [3] Tryz.func151 Tryz.ntmps151 ?_
    have W:=And.intro h2 hn
    have V:=And.intro h2 hn
    repeat' first|refine st ?_|(refine nx ?_;first|refine se ?_|refine so ?_)|(refine cx ?_;refine sc (fun hc=>?_) (fun hc=>?_)<;>try exact hc.elim)|(refine lx ?_;refine sp (fun hc=>?_) (fun hc=>?_)<;>try exact hc.elim)|refine sx ?_ ?_|refine sy ?_ ?_|fail
    refine aHu [⟨1,1,[(3,⟨true,false,1,2,[.str [115,99,114,105,112,116]]::p.scripts.map aU⟩),(0,⟨true,false,1,1,[[.str [115,99,114,105,112,116]]]⟩)]⟩,⟨2,1,[(9,⟨true,false,1,2,[.str [115,116,121,108,101]]::p.styles.map aU⟩),(6,⟨true,false,1,1,[[.str [115,116,121,108,101]]]⟩)]⟩,⟨3,1,[(16,⟨true,false,1,2,[.str [105,109,103]]::p.images.map aU⟩),(13,⟨true,false,1,1,[[.str [105,109,103]]]⟩)]⟩] (by simp;rfl) (by decide+kernel) (by decide+kernel) (by simp [dY,pre,Region.binds]) (by simp) ?_
    repeat' first|refine aQx (by simp;rfl) (by simp;rfl) ?_|(refine aN3 ?_ (by simp;rfl) ?_;(focus (simp;done)))|(refine lQ (j:=3) (v:= .obj 1 2) ⟨1,1,[(3,⟨true,false,1,2,[.str [115,99,114,105,112,116]]::p.scripts.map aU⟩),(0,⟨true,false,1,1,[[.str [115,99,114,105,112,116]]]⟩)]⟩ [] [(0,⟨true,false,1,1,[[.str [115,99,114,105,112,116]]]⟩)] rfl (by simp) rfl (by simp [Region.binds];rfl) (by decide) (by simp [Region.binds];rfl) (by simp;rfl) rfl ?_ ?_;(focus (refine oQ (by first|(simp;rfl)|(simp;done)|rfl) rfl (by first|(simp;rfl)|(simp;done)|rfl) (by first|(simp;rfl)|(simp;done)|rfl) (by first|(simp;rfl)|(simp;done)|rfl) (by simp;exact ⟨rfl,rfl⟩) (by simp) (by simp) (by simp;omega) (by simp;omega))))|(refine lQ (j:=0) (v:= .obj 1 1) ⟨1,1,[(3,⟨true,false,1,2,[.str [115,99,114,105,112,116]]::p.scripts.map aU⟩),(0,⟨true,false,1,1,[[.str [115,99,114,105,112,116]]]⟩)]⟩ [(3,⟨true,false,1,2,[.str [115,99,114,105,112,116]]::p.scripts.map aU⟩)] [] rfl (by simp) rfl (by simp [Region.binds];rfl) (by decide) (by simp [Region.binds];rfl) (by simp;rfl) rfl ?_ ?_;(focus (refine vH (by simp;exact ⟨rfl,rfl⟩) (by simp) rfl rfl (by decide) (by decide) (by first|(simp;rfl)|rfl) (by simp [AV.plainV]) (by simp [AV.good,AV.cells]) (by simp) (by simp [AV.cells]))))|(refine lQ (j:=9) (v:= .obj 2 2) ⟨2,1,[(9,⟨true,false,1,2,[.str [115,116,121,108,101]]::p.styles.map aU⟩),(6,⟨true,false,1,1,[[.str [115,116,121,108,101]]]⟩)]⟩ [] [(6,⟨true,false,1,1,[[.str [115,116,121,108,101]]]⟩)] rfl (by simp) rfl (by simp [Region.binds];rfl) (by decide) (by simp [Region.binds];rfl) (by simp;rfl) rfl ?_ ?_;(focus (refine oQ (by first|(simp;rfl)|(simp;done)|rfl) rfl (by first|(simp;rfl)|(simp;done)|rfl) (by first|(simp;rfl)|(simp;done)|rfl) (by first|(simp;rfl)|(simp;done)|rfl) (by simp;exact ⟨rfl,rfl⟩) (by simp) (by simp) (by simp;omega) (by simp;omega))))|(refine lQ (j:=6) (v:= .obj 2 1) ⟨2,1,[(9,⟨true,false,1,2,[.str [115,116,121,108,101]]::p.styles.map aU⟩),(6,⟨true,false,1,1,[[.str [115,116,121,108,101]]]⟩)]⟩ [(9,⟨true,false,1,2,[.str [115,116,121,108,101]]::p.styles.map aU⟩)] [] rfl (by simp) rfl (by simp [Region.binds];rfl) (by decide) (by simp [Region.binds];rfl) (by simp;rfl) rfl ?_ ?_;(focus (refine vH (by simp;exact ⟨rfl,rfl⟩) (by simp) rfl rfl (by decide) (by decide) (by first|(simp;rfl)|rfl) (by simp [AV.plainV]) (by simp [AV.good,AV.cells]) (by simp) (by simp [AV.cells]))))|(refine lQ (j:=16) (v:= .obj 3 2) ⟨3,1,[(16,⟨true,false,1,2,[.str [105,109,103]]::p.images.map aU⟩),(13,⟨true,false,1,1,[[.str [105,109,103]]]⟩)]⟩ [] [(13,⟨true,false,1,1,[[.str [105,109,103]]]⟩)] rfl (by simp) rfl (by simp [Region.binds];rfl) (by decide) (by simp [Region.binds];rfl) (by simp;rfl) rfl ?_ ?_;(focus (refine oQ (by first|(simp;rfl)|(simp;done)|rfl) rfl (by first|(simp;rfl)|(simp;done)|rfl) (by first|(simp;rfl)|(simp;done)|rfl) (by first|(simp;rfl)|(simp;done)|rfl) (by simp;exact ⟨rfl,rfl⟩) (by simp) (by simp) (by simp;omega) (by simp;omega))))|(refine lQ (j:=13) (v:= .obj 3 1) ⟨3,1,[(16,⟨true,false,1,2,[.str [105,109,103]]::p.images.map aU⟩),(13,⟨true,false,1,1,[[.str [105,109,103]]]⟩)]⟩ [(16,⟨true,false,1,2,[.str [105,109,103]]::p.images.map aU⟩)] [] rfl (by simp) rfl (by simp [Region.binds];rfl) (by decide) (by simp [Region.binds];rfl) (by simp;rfl) rfl ?_ ?_;(focus (refine vH (by simp;exact ⟨rfl,rfl⟩) (by simp) rfl rfl (by decide) (by decide) (by first|(simp;rfl)|rfl) (by simp [AV.plainV]) (by simp [AV.good,AV.cells]) (by simp) (by simp [AV.cells]))))|(refine aOi rfl ?_ (by simp [Region.binds];rfl) (by decide) (by simp [Region.binds];rfl) (by simp;rfl) ?_ rfl (by first|rfl|(simp;done)) ?_;(focus (first|rfl|(simp;done)));(focus (first|rfl|(simp [iJ];done))))|(refine nx ?_;refine so ?_)|fail
    have W:=And.intro h2 hn
    have V:=And.intro h2 hn
    repeat' first|refine st ?_|(refine nx ?_;first|refine se ?_|refine so ?_)|(refine cx ?_;refine sc (fun hc=>?_) (fun hc=>?_)<;>try exact hc.elim)|(refine lx ?_;refine sp (fun hc=>?_) (fun hc=>?_)<;>try exact hc.elim)|refine sx ?_ ?_|refine sy ?_ ?_|fail
    all_goals (try (refine ⟨.inr rfl,?_⟩;simp [Hands,Tryz.results151,h2,hn]))
   ·rw [if_neg hn]
    refine aT4 Tryz.mix [3] Tryz.func151 Tryz.ntmps151 ?_
    have W:=And.intro h2 hn
    have V:=And.intro h2 hn
    repeat' first|refine st ?_|(refine nx ?_;first|refine se ?_|refine so ?_)|(refine cx ?_;refine sc (fun hc=>?_) (fun hc=>?_)<;>try exact hc.elim)|(refine lx ?_;refine sp (fun hc=>?_) (fun hc=>?_)<;>try exact hc.elim)|refine sx ?_ ?_|refine sy ?_ ?_|fail
    refine aHu [⟨1,1,[(3,⟨true,false,1,2,[.str [115,99,114,105,112,116]]::p.scripts.map aU⟩),(0,⟨true,false,1,1,[[.str [115,99,114,105,112,116]]]⟩)]⟩,⟨2,1,[(9,⟨true,false,1,2,[.str [115,116,121,108,101]]::p.styles.map aU⟩),(6,⟨true,false,1,1,[[.str [115,116,121,108,101]]]⟩)]⟩,⟨3,1,[(16,⟨true,false,1,2,[.str [105,109,103]]::p.images.map aU⟩),(13,⟨true,false,1,1,[[.str [105,109,103]]]⟩)]⟩] (by simp;rfl) (by decide+kernel) (by decide+kernel) (by simp [dY,pre,Region.binds]) (by simp) ?_
    repeat' first|refine aQx (by simp;rfl) (by simp;rfl) ?_|(refine aN3 ?_ (by simp;rfl) ?_;(focus (simp;done)))|(refine lQ (j:=3) (v:= .obj 1 2) ⟨1,1,[(3,⟨true,false,1,2,[.str [115,99,114,105,112,116]]::p.scripts.map aU⟩),(0,⟨true,false,1,1,[[.str [115,99,114,105,112,116]]]⟩)]⟩ [] [(0,⟨true,false,1,1,[[.str [115,99,114,105,112,116]]]⟩)] rfl (by simp) rfl (by simp [Region.binds];rfl) (by decide) (by simp [Region.binds];rfl) (by simp;rfl) rfl ?_ ?_;(focus (refine oQ (by first|(simp;rfl)|(simp;done)|rfl) rfl (by first|(simp;rfl)|(simp;done)|rfl) (by first|(simp;rfl)|(simp;done)|rfl) (by first|(simp;rfl)|(simp;done)|rfl) (by simp;exact ⟨rfl,rfl⟩) (by simp) (by simp) (by simp;omega) (by simp;omega))))|(refine lQ (j:=0) (v:= .obj 1 1) ⟨1,1,[(3,⟨true,false,1,2,[.str [115,99,114,105,112,116]]::p.scripts.map aU⟩),(0,⟨true,false,1,1,[[.str [115,99,114,105,112,116]]]⟩)]⟩ [(3,⟨true,false,1,2,[.str [115,99,114,105,112,116]]::p.scripts.map aU⟩)] [] rfl (by simp) rfl (by simp [Region.binds];rfl) (by decide) (by simp [Region.binds];rfl) (by simp;rfl) rfl ?_ ?_;(focus (refine vH (by simp;exact ⟨rfl,rfl⟩) (by simp) rfl rfl (by decide) (by decide) (by first|(simp;rfl)|rfl) (by simp [AV.plainV]) (by simp [AV.good,AV.cells]) (by simp) (by simp [AV.cells]))))|(refine lQ (j:=9) (v:= .obj 2 2) ⟨2,1,[(9,⟨true,false,1,2,[.str [115,116,121,108,101]]::p.styles.map aU⟩),(6,⟨true,false,1,1,[[.str [115,116,121,108,101]]]⟩)]⟩ [] [(6,⟨true,false,1,1,[[.str [115,116,121,108,101]]]⟩)] rfl (by simp) rfl (by simp [Region.binds];rfl) (by decide) (by simp [Region.binds];rfl) (by simp;rfl) rfl ?_ ?_;(focus (refine oQ (by first|(simp;rfl)|(simp;done)|rfl) rfl (by first|(simp;rfl)|(simp;done)|rfl) (by first|(simp;rfl)|(simp;done)|rfl) (by first|(simp;rfl)|(simp;done)|rfl) (by simp;exact ⟨rfl,rfl⟩) (by simp) (by simp) (by simp;omega) (by simp;omega))))|(refine lQ (j:=6) (v:= .obj 2 1) ⟨2,1,[(9,⟨true,false,1,2,[.str [115,116,121,108,101]]::p.styles.map aU⟩),(6,⟨true,false,1,1,[[.str [115,116,121,108,101]]]⟩)]⟩ [(9,⟨true,false,1,2,[.str [115,116,121,108,101]]::p.styles.map aU⟩)] [] rfl (by simp) rfl (by simp [Region.binds];rfl) (by decide) (by simp [Region.binds];rfl) (by simp;rfl) rfl ?_ ?_;(focus (refine vH (by simp;exact ⟨rfl,rfl⟩) (by simp) rfl rfl (by decide) (by decide) (by first|(simp;rfl)|rfl) (by simp [AV.plainV]) (by simp [AV.good,AV.cells]) (by simp) (by simp [AV.cells]))))|(refine lQ (j:=16) (v:= .obj 3 2) ⟨3,1,[(16,⟨true,false,1,2,[.str [105,109,103]]::p.images.map aU⟩),(13,⟨true,false,1,1,[[.str [105,109,103]]]⟩)]⟩ [] [(13,⟨true,false,1,1,[[.str [105,109,103]]]⟩)] rfl (by simp) rfl (by simp [Region.binds];rfl) (by decide) (by simp [Region.binds];rfl) (by simp;rfl) rfl ?_ ?_;(focus (refine oQ (by first|(simp;rfl)|(simp;done)|rfl) rfl (by first|(simp;rfl)|(simp;done)|rfl) (by first|(simp;rfl)|(simp;done)|rfl) (by first|(simp;rfl)|(simp;done)|rfl) (by simp;exact ⟨rfl,rfl⟩) (by simp) (by simp) (by simp;omega) (by simp;omega))))|(refine lQ (j:=13) (v:= .obj 3 1) ⟨3,1,[(16,⟨true,false,1,2,[.str [105,109,103]]::p.images.map aU⟩),(13,⟨true,false,1,1,[[.str [105,109,103]]]⟩)]⟩ [(16,⟨true,false,1,2,[.str [105,109,103]]::p.images.map aU⟩)] [] rfl (by simp) rfl (by simp [Region.binds];rfl) (by decide) (by simp [Region.binds];rfl) (by simp;rfl) rfl ?_ ?_;(focus (refine vH (by simp;exact ⟨rfl,rfl⟩) (by simp) rfl rfl (by decide) (by decide) (by first|(simp;rfl)|rfl) (by simp [AV.plainV]) (by simp [AV.good,AV.cells]) (by simp) (by simp [AV.cells]))))|(refine aOi rfl ?_ (by simp [Region.binds];rfl) (by decide) (by simp [Region.binds];rfl) (by simp;rfl) ?_ rfl (by first|rfl|(simp;done)) ?_;(focus (first|rfl|(simp;done)));(focus (first|rfl|(simp [iJ];done))))|(refine nx ?_;refine so ?_)|fail
    have W:=And.intro h2 hn
    have V:=And.intro h2 hn
    repeat' first|refine st ?_|(refine nx ?_;first|refine se ?_|refine so ?_)|(refine cx ?_;refine sc (fun hc=>?_) (fun hc=>?_)<;>try exact hc.elim)|(refine lx ?_;refine sp (fun hc=>?_) (fun hc=>?_)<;>try exact hc.elim)|refine sx ?_ ?_|refine sy ?_ ?_|fail
    all_goals (try (refine ⟨.inr rfl,?_⟩;simp [Hands,Tryz.results151,h2,hn,fT]))
    all_goals (exact absurd (by assumption) hn)
  ·rw [if_neg (fun h=>h2 h.2)]
   simp only [Bool.not_eq_true] at h2
   rw [h1,h2] at c0
   refine ent Tryz.mix Tryz.func151 Tryz.ntmps151 ?_
   have W:=h2
   have V:=h2
   repeat' first|refine st ?_|(refine nx ?_;first|refine se ?_|refine so ?_)|(refine cx ?_;refine sc (fun hc=>?_) (fun hc=>?_)<;>try exact hc.elim)|(refine lx ?_;refine sp (fun hc=>?_) (fun hc=>?_)<;>try exact hc.elim)|refine sx ?_ ?_|refine sy ?_ ?_|fail
   all_goals (try (refine ⟨.inr rfl,?_⟩;simp [Hands,Tryz.results151]))
 ·rw [if_neg (fun h=>h1 h.1)]
  simp only [Bool.not_eq_true] at h1
  rw [h1] at c0
  refine ent Tryz.mix Tryz.func151 Tryz.ntmps151 ?_
  have W:=trivial
  repeat' first|refine st ?_|(refine nx ?_;first|refine se ?_|refine so ?_)|(refine cx ?_;refine sc (fun hc=>?_) (fun hc=>?_)<;>try exact hc.elim)|(refine lx ?_;refine sp (fun hc=>?_) (fun hc=>?_)<;>try exact hc.elim)|refine sx ?_ ?_|refine sy ?_ ?_|fail
  all_goals (try (refine ⟨.inr rfl,?_⟩;simp [Hands,Tryz.results151]))
end Go.Proofs.YtajppdidkjbmkaaGreatDoor
