/-
  Proved here: steps towards the statement of this claim, text J3.
  No condition beyond what each statement spells out.
-/
import Derived.Test.YtkidoegojckmiaaGreatDoorAJ2
import Derived.Test.YtkidoegojckmiaaGreatDoorAYShelf
import Derived.Test.YtkidoegojckmiaaGreatDoorAF5
import Derived.Test.YtkidoegojckmiaaGreatDoorAF8
set_option linter.all false
set_option maxRecDepth 4000
set_option maxHeartbeats 4000000
namespace Go.Proofs.YtkidoegojckmiaaGreatDoor
open Go.Aw
theorem aDa [aB Tryz.prog] (l:List Str) (sep:Str) (hl:l.length≤140737488355328) (hs:(Lib.join l sep).length≤140737488355328):
  Ok Tryz.prog 132 [.sl .view 1 (l.map aK),.str sep] (.str (Lib.join l sep)):=aTx Tryz.lays156 Tryz.Builder_Extra_156 l sep hl hs
def pR (s:Str):Bool:= !bL s
theorem aJu [aB Tryz.prog] (s:Str) (hl:s.length≤1099511627776):Ok Tryz.prog 167 [.str s] (.bool (pR s)):=by
 have c1:=mM s hl
 unfold pR
 generalize bL s=b at *
 refine ent Tryz.mix Tryz.func167 Tryz.ntmps167 ?_
 have W:=trivial
 repeat' first|refine st ?_|(refine nx ?_;first|refine se ?_|refine so ?_)|(refine cx ?_;refine sc (fun hc=>?_) (fun hc=>?_)<;>try exact hc.elim)|(refine lx ?_;refine sp (fun hc=>?_) (fun hc=>?_)<;>try exact hc.elim)|refine sx ?_ ?_|refine sy ?_ ?_|fail
 all_goals (try (refine ⟨.inr rfl,?_⟩;simp [Hands,Tryz.results167]))
theorem aHo [aB Tryz.prog] (l:List Str) (hs:szL bU l≤1099511627776):Ok Tryz.prog 181 [.sl .view 1 (l.map aK),.fn 167 []] (.int .i64 (zW pR l)):=by
 simp only [szL] at hs
 refine ent Tryz.mix Tryz.func181 Tryz.ntmps181 ?_
 have W:=trivial
 repeat' first|refine st ?_|(refine nx ?_;first|refine se ?_|refine so ?_)|(refine cx ?_;refine sc (fun hc=>?_) (fun hc=>?_)<;>try exact hc.elim)|(refine lx ?_;refine sp (fun hc=>?_) (fun hc=>?_)<;>try exact hc.elim)|refine sx ?_ ?_|refine sy ?_ ?_|fail
 refine aJ (ι:={k:Nat // k≤l.length∧∀x∈l.take k,pR x=false}) (fun t o i=>⟨aL t [(8,.int .i64 i.1),(5,.undef)],o⟩)
  (fun i=>l.length - i.1) ⟨0,by simp⟩ (aH (by simp) (by simp)) ?_
 rintro ⟨k,hk,hpre⟩ K1 hK1
 simp only [aL,List.set_cons_succ,List.set_cons_zero] at hK1⊢
 have hk1:IntKind.i64.wrap ((k:Int)+1)=((k+1:Nat):Int):=by rw [wrap64]<;>omega
 by_cases hlt:k < l.length
 ·have hg:=List.getElem?_eq_getElem hlt
  have hel:=dJ bU l k hlt
  simp only [bU] at hel
  have c1:=aJu l[k] (by omega)
  generalize hb:pR l[k]=b at *
  have W:=And.intro hk1 (And.intro hg hlt)
  repeat' first|refine st ?_|(refine nx ?_;first|refine se ?_|refine so ?_)|(refine cx ?_;refine sc (fun hc=>?_) (fun hc=>?_)<;>try exact hc.elim)|(refine lx ?_;refine sp (fun hc=>?_) (fun hc=>?_)<;>try exact hc.elim)|refine sx ?_ ?_|refine sy ?_ ?_|fail
  ·all_goals (try (refine ⟨.inr rfl,?_⟩;simp [Hands,Tryz.results181]))
   rw [aMn hlt (by simpa [hb] using hc) hpre]
  ·exact hK1 _ ⟨k+1,by omega,dP hlt hpre (by simpa [hb] using hc)⟩ (aH (by simp) (by simp)) (by simp only;omega)
 ·have W:=hk1
  repeat' first|refine st ?_|(refine nx ?_;first|refine se ?_|refine so ?_)|(refine cx ?_;refine sc (fun hc=>?_) (fun hc=>?_)<;>try exact hc.elim)|(refine lx ?_;refine sp (fun hc=>?_) (fun hc=>?_)<;>try exact hc.elim)|refine sx ?_ ?_|refine sy ?_ ?_|fail
  all_goals (try (refine ⟨.inr rfl,?_⟩;simp [Hands,Tryz.results181]))
  rw [aF0 (iP (by omega) hpre)]
theorem aCs [aB Tryz.prog] (l:List Str) (hs:szL bU l≤1099511627776):Ok Tryz.prog 166 [.sl .view 1 (l.map aK),.fn 167 []] (.bool (l.any pR)):=by
 have c1:=aHo l hs
 refine ent Tryz.mix Tryz.func166 Tryz.ntmps166 ?_
 have W:=trivial
 repeat' first|refine st ?_|(refine nx ?_;first|refine se ?_|refine so ?_)|(refine cx ?_;refine sc (fun hc=>?_) (fun hc=>?_)<;>try exact hc.elim)|(refine lx ?_;refine sp (fun hc=>?_) (fun hc=>?_)<;>try exact hc.elim)|refine sx ?_ ?_|refine sy ?_ ?_|fail
 all_goals (try (refine ⟨.inr rfl,?_⟩;simp [Hands,Tryz.results166]))
 exact aCj _ _
theorem wQ [aB Tryz.prog] (l:List Str) (hs:szL bU l≤1099511627776):Ok Tryz.prog 146 [.sl .view 1 (l.map aK)] (.bool (eF l)):=by
 have c1:=aCs l hs
 simp only [szL] at hs
 have e:l.any pR= !l.all bL:=by
  rw [List.any_eq_not_all_not]
  simp [pR]
 have e2:decide (l.length≤4)=decide ((l.length:Int)≤4):=by simp only [decide_eq_decide];omega
 rw [e] at c1
 unfold eF
 rw [e2]
 generalize l.all bL=b at *
 refine ent Tryz.mix Tryz.func146 Tryz.ntmps146 ?_
 have W:=trivial
 repeat' first|refine st ?_|(refine nx ?_;first|refine se ?_|refine so ?_)|(refine cx ?_;refine sc (fun hc=>?_) (fun hc=>?_)<;>try exact hc.elim)|(refine lx ?_;refine sp (fun hc=>?_) (fun hc=>?_)<;>try exact hc.elim)|refine sx ?_ ?_|refine sy ?_ ?_|fail
 all_goals (try (refine ⟨.inr rfl,?_⟩;simp [Hands,Tryz.results146]))
 all_goals simp_all
theorem aD7 [aB Tryz.prog] (p:bH) (hs:bB p≤1099511627776):Ok Tryz.prog 131 [.agg (aS .view p)] (.bool (fT p)):=by
 simp only [bB] at hs
 have c1:=wQ p.scripts (by omega)
 have c2:=wQ p.styles (by omega)
 have c3:=wQ p.images (by omega)
 have c4:=wZ p.nonce (by omega)
 have l1:(p.scripts == [])=decide ((p.scripts.length:Int)=0):=by cases p.scripts<;>simp<;>omega
 have l2:(p.styles == [])=decide ((p.styles.length:Int)=0):=by cases p.styles<;>simp<;>omega
 have l3:(p.images == [])=decide ((p.images.length:Int)=0):=by cases p.images<;>simp<;>omega
 unfold fT
 rw [l1,l2,l3]
 generalize eF p.scripts=b1 at *
 generalize eF p.styles=b2 at *
 generalize eF p.images=b3 at *
 generalize dB p.nonce=b4 at *
 generalize hb:p.isSet=b at *
 cases b
 ·refine ent Tryz.mix Tryz.func131 Tryz.ntmps131 ?_
  have W:=hb
  repeat' first|refine st ?_|(refine nx ?_;first|refine se ?_|refine so ?_)|(refine cx ?_;refine sc (fun hc=>?_) (fun hc=>?_)<;>try exact hc.elim)|(refine lx ?_;refine sp (fun hc=>?_) (fun hc=>?_)<;>try exact hc.elim)|refine sx ?_ ?_|refine sy ?_ ?_|fail
  all_goals (try (refine ⟨.inr rfl,?_⟩;simp [Hands,Tryz.results131,hb]))
  all_goals simp_all
 ·refine ent Tryz.mix Tryz.func131 Tryz.ntmps131 ?_
  have W:=hb
  repeat' first|refine st ?_|(refine nx ?_;first|refine se ?_|refine so ?_)|(refine cx ?_;refine sc (fun hc=>?_) (fun hc=>?_)<;>try exact hc.elim)|(refine lx ?_;refine sp (fun hc=>?_) (fun hc=>?_)<;>try exact hc.elim)|refine sx ?_ ?_|refine sy ?_ ?_|fail
  all_goals (try (refine ⟨.inr rfl,?_⟩;simp [Hands,Tryz.results131,hb]))
  all_goals simp_all
theorem zK [aB Tryz.prog] (p:bH) (hs:bB p≤274877906944):Ok Tryz.prog 109 [.agg (aS .view p)] (.str (cB p)):=by
 have c0:=aD7 p (by omega)
 simp only [aS] at c0
 have hq:= @aDk p
 have hn':fT p=true→p.isSet=true→p.scripts.length≤4∧p.styles.length≤4∧p.images.length≤4:=by
  intro h hs
  simp only [fT,hs,if_true,Bool.and_eq_true] at h
  exact ⟨(pO h.1.1.1).1,(pO h.1.1.2).1,(pO h.1.2).1⟩
 have hs0:=hs
 simp only [bB,szL] at hs
 unfold cB
 by_cases h1:fT p=true
 ·by_cases h2:p.isSet=true
  ·obtain ⟨k1,k2,k3,k4⟩:=hq h1 h2
   obtain ⟨n1,n2,n3⟩:=hn' h1 h2
   have j1:Ok Tryz.prog 132 [.sl .view 1 ([.str [115,99,114,105,112,116]]::p.scripts.map aK),.str [32]] (.str (words jF p.scripts)):=aDa (jF::p.scripts) [32] (by simp;omega) (by change (words jF p.scripts).length≤_;omega)
   have j2:Ok Tryz.prog 132 [.sl .view 1 ([.str [115,116,121,108,101]]::p.styles.map aK),.str [32]] (.str (words kV p.styles)):=aDa (kV::p.styles) [32] (by simp;omega) (by change (words kV p.styles).length≤_;omega)
   have j3:Ok Tryz.prog 132 [.sl .view 1 ([.str [105,109,103]]::p.images.map aK),.str [32]] (.str (words oV p.images)):=aDa (oV::p.images) [32] (by simp;omega) (by change (words oV p.images).length≤_;omega)
   rw [if_pos ⟨h1,h2⟩]
   unfold xH
   rw [h1,h2] at c0
   generalize words jF p.scripts=q1 at *
   generalize words kV p.styles=q2 at *
   generalize words oV p.images=q3 at *
   by_cases hn:p.nonce=[]
   ·rw [if_pos hn]
    rw [hn] at c0
    refine aR5 Tryz.mix [3] Tryz.func109 Tryz.ntmps109 ?_
    have W:=And.intro h2 hn
    have V:=And.intro h2 hn
    repeat' first|refine st ?_|(refine nx ?_;first|refine se ?_|refine so ?_)|(refine cx ?_;refine sc (fun hc=>?_) (fun hc=>?_)<;>try exact hc.elim)|(refine lx ?_;refine sp (fun hc=>?_) (fun hc=>?_)<;>try exact hc.elim)|refine sx ?_ ?_|refine sy ?_ ?_|fail
    refine aGn [⟨1,1,[(3,⟨true,false,1,2,[.str [115,99,114,105,112,116]]::p.scripts.map aK⟩),(0,⟨true,false,1,1,[[.str [115,99,114,105,112,116]]]⟩)]⟩,⟨2,1,[(9,⟨true,false,1,2,[.str [115,116,121,108,101]]::p.styles.map aK⟩),(6,⟨true,false,1,1,[[.str [115,116,121,108,101]]]⟩)]⟩,⟨3,1,[(16,⟨true,false,1,2,[.str [105,109,103]]::p.images.map aK⟩),(13,⟨true,false,1,1,[[.str [105,109,103]]]⟩)]⟩] (by simp;rfl) (by decide+kernel) (by decide+kernel) (by simp [dL,pre,Region.binds]) (by simp) ?_
    repeat' first|refine aQg (by simp;rfl) (by simp;rfl) ?_|(refine aMt ?_ (by simp;rfl) ?_;(focus (simp;done)))|(refine kK (j:=3) (v:= .obj 1 2) ⟨1,1,[(3,⟨true,false,1,2,[.str [115,99,114,105,112,116]]::p.scripts.map aK⟩),(0,⟨true,false,1,1,[[.str [115,99,114,105,112,116]]]⟩)]⟩ [] [(0,⟨true,false,1,1,[[.str [115,99,114,105,112,116]]]⟩)] rfl (by simp) rfl (by simp [Region.binds];rfl) (by decide) (by simp [Region.binds];rfl) (by simp;rfl) rfl ?_ ?_;(focus (refine nV (by first|(simp;rfl)|(simp;done)|rfl) rfl (by first|(simp;rfl)|(simp;done)|rfl) (by first|(simp;rfl)|(simp;done)|rfl) (by first|(simp;rfl)|(simp;done)|rfl) (by simp;exact ⟨rfl,rfl⟩) (by simp) (by simp) (by simp;omega) (by simp;omega))))|(refine kK (j:=0) (v:= .obj 1 1) ⟨1,1,[(3,⟨true,false,1,2,[.str [115,99,114,105,112,116]]::p.scripts.map aK⟩),(0,⟨true,false,1,1,[[.str [115,99,114,105,112,116]]]⟩)]⟩ [(3,⟨true,false,1,2,[.str [115,99,114,105,112,116]]::p.scripts.map aK⟩)] [] rfl (by simp) rfl (by simp [Region.binds];rfl) (by decide) (by simp [Region.binds];rfl) (by simp;rfl) rfl ?_ ?_;(focus (refine uB (by simp;exact ⟨rfl,rfl⟩) (by simp) rfl rfl (by decide) (by decide) (by first|(simp;rfl)|rfl) (by simp [AV.plainV]) (by simp [AV.good,AV.cells]) (by simp) (by simp [AV.cells]))))|(refine kK (j:=9) (v:= .obj 2 2) ⟨2,1,[(9,⟨true,false,1,2,[.str [115,116,121,108,101]]::p.styles.map aK⟩),(6,⟨true,false,1,1,[[.str [115,116,121,108,101]]]⟩)]⟩ [] [(6,⟨true,false,1,1,[[.str [115,116,121,108,101]]]⟩)] rfl (by simp) rfl (by simp [Region.binds];rfl) (by decide) (by simp [Region.binds];rfl) (by simp;rfl) rfl ?_ ?_;(focus (refine nV (by first|(simp;rfl)|(simp;done)|rfl) rfl (by first|(simp;rfl)|(simp;done)|rfl) (by first|(simp;rfl)|(simp;done)|rfl) (by first|(simp;rfl)|(simp;done)|rfl) (by simp;exact ⟨rfl,rfl⟩) (by simp) (by simp) (by simp;omega) (by simp;omega))))|(refine kK (j:=6) (v:= .obj 2 1) ⟨2,1,[(9,⟨true,false,1,2,[.str [115,116,121,108,101]]::p.styles.map aK⟩),(6,⟨true,false,1,1,[[.str [115,116,121,108,101]]]⟩)]⟩ [(9,⟨true,false,1,2,[.str [115,116,121,108,101]]::p.styles.map aK⟩)] [] rfl (by simp) rfl (by simp [Region.binds];rfl) (by decide) (by simp [Region.binds];rfl) (by simp;rfl) rfl ?_ ?_;(focus (refine uB (by simp;exact ⟨rfl,rfl⟩) (by simp) rfl rfl (by decide) (by decide) (by first|(simp;rfl)|rfl) (by simp [AV.plainV]) (by simp [AV.good,AV.cells]) (by simp) (by simp [AV.cells]))))|(refine kK (j:=16) (v:= .obj 3 2) ⟨3,1,[(16,⟨true,false,1,2,[.str [105,109,103]]::p.images.map aK⟩),(13,⟨true,false,1,1,[[.str [105,109,103]]]⟩)]⟩ [] [(13,⟨true,false,1,1,[[.str [105,109,103]]]⟩)] rfl (by simp) rfl (by simp [Region.binds];rfl) (by decide) (by simp [Region.binds];rfl) (by simp;rfl) rfl ?_ ?_;(focus (refine nV (by first|(simp;rfl)|(simp;done)|rfl) rfl (by first|(simp;rfl)|(simp;done)|rfl) (by first|(simp;rfl)|(simp;done)|rfl) (by first|(simp;rfl)|(simp;done)|rfl) (by simp;exact ⟨rfl,rfl⟩) (by simp) (by simp) (by simp;omega) (by simp;omega))))|(refine kK (j:=13) (v:= .obj 3 1) ⟨3,1,[(16,⟨true,false,1,2,[.str [105,109,103]]::p.images.map aK⟩),(13,⟨true,false,1,1,[[.str [105,109,103]]]⟩)]⟩ [(16,⟨true,false,1,2,[.str [105,109,103]]::p.images.map aK⟩)] [] rfl (by simp) rfl (by simp [Region.binds];rfl) (by decide) (by simp [Region.binds];rfl) (by simp;rfl) rfl ?_ ?_;(focus (refine uB (by simp;exact ⟨rfl,rfl⟩) (by simp) rfl rfl (by decide) (by decide) (by first|(simp;rfl)|rfl) (by simp [AV.plainV]) (by simp [AV.good,AV.cells]) (by simp) (by simp [AV.cells]))))|(refine aMg rfl ?_ (by simp [Region.binds];rfl) (by decide) (by simp [Region.binds];rfl) (by simp;rfl) ?_ rfl (by first|rfl|(simp;done)) ?_;(focus (first|rfl|(simp;done)));(focus (first|rfl|(simp [gM];done))))|(refine nx ?_;refine so ?_)|fail
    have W:=And.intro h2 hn
    have V:=And.intro h2 hn
    repeat' first|refine st ?_|(refine nx ?_;first|refine se ?_|refine so ?_)|(refine cx ?_;refine sc (fun hc=>?_) (fun hc=>?_)<;>try exact hc.elim)|(refine lx ?_;refine sp (fun hc=>?_) (fun hc=>?_)<;>try exact hc.elim)|refine sx ?_ ?_|refine sy ?_ ?_|fail
    all_goals (try (refine ⟨.inr rfl,?_⟩;simp [Hands,Tryz.results109,h2,hn]))
   ·rw [if_neg hn]
    refine aR5 Tryz.mix [3] Tryz.func109 Tryz.ntmps109 ?_
    have W:=And.intro h2 hn
    have V:=And.intro h2 hn
    repeat' first|refine st ?_|(refine nx ?_;first|refine se ?_|refine so ?_)|(refine cx ?_;refine sc (fun hc=>?_) (fun hc=>?_)<;>try exact hc.elim)|(refine lx ?_;refine sp (fun hc=>?_) (fun hc=>?_)<;>try exact hc.elim)|refine sx ?_ ?_|refine sy ?_ ?_|fail
    refine aGn [⟨1,1,[(3,⟨true,false,1,2,[.str [115,99,114,105,112,116]]::p.scripts.map aK⟩),(0,⟨true,false,1,1,[[.str [115,99,114,105,112,116]]]⟩)]⟩,⟨2,1,[(9,⟨true,false,1,2,[.str [115,116,121,108,101]]::p.styles.map aK⟩),(6,⟨true,false,1,1,[[.str [115,116,121,108,101]]]⟩)]⟩,⟨3,1,[(16,⟨true,false,1,2,[.str [105,109,103]]::p.images.map aK⟩),(13,⟨true,false,1,1,[[.str [105,109,103]]]⟩)]⟩] (by simp;rfl) (by decide+kernel) (by decide+kernel) (by simp [dL,pre,Region.binds]) (by simp) ?_
    repeat' first|refine aQg (by simp;rfl) (by simp;rfl) ?_|(refine aMt ?_ (by simp;rfl) ?_;(focus (simp;done)))|(refine kK (j:=3) (v:= .obj 1 2) ⟨1,1,[(3,⟨true,false,1,2,[.str [115,99,114,105,112,116]]::p.scripts.map aK⟩),(0,⟨true,false,1,1,[[.str [115,99,114,105,112,116]]]⟩)]⟩ [] [(0,⟨true,false,1,1,[[.str [115,99,114,105,112,116]]]⟩)] rfl (by simp) rfl (by simp [Region.binds];rfl) (by decide) (by simp [Region.binds];rfl) (by simp;rfl) rfl ?_ ?_;(focus (refine nV (by first|(simp;rfl)|(simp;done)|rfl) rfl (by first|(simp;rfl)|(simp;done)|rfl) (by first|(simp;rfl)|(simp;done)|rfl) (by first|(simp;rfl)|(simp;done)|rfl) (by simp;exact ⟨rfl,rfl⟩) (by simp) (by simp) (by simp;omega) (by simp;omega))))|(refine kK (j:=0) (v:= .obj 1 1) ⟨1,1,[(3,⟨true,false,1,2,[.str [115,99,114,105,112,116]]::p.scripts.map aK⟩),(0,⟨true,false,1,1,[[.str [115,99,114,105,112,116]]]⟩)]⟩ [(3,⟨true,false,1,2,[.str [115,99,114,105,112,116]]::p.scripts.map aK⟩)] [] rfl (by simp) rfl (by simp [Region.binds];rfl) (by decide) (by simp [Region.binds];rfl) (by simp;rfl) rfl ?_ ?_;(focus (refine uB (by simp;exact ⟨rfl,rfl⟩) (by simp) rfl rfl (by decide) (by decide) (by first|(simp;rfl)|rfl) (by simp [AV.plainV]) (by simp [AV.good,AV.cells]) (by simp) (by simp [AV.cells]))))|(refine kK (j:=9) (v:= .obj 2 2) ⟨2,1,[(9,⟨true,false,1,2,[.str [115,116,121,108,101]]::p.styles.map aK⟩),(6,⟨true,false,1,1,[[.str [115,116,121,108,101]]]⟩)]⟩ [] [(6,⟨true,false,1,1,[[.str [115,116,121,108,101]]]⟩)] rfl (by simp) rfl (by simp [Region.binds];rfl) (by decide) (by simp [Region.binds];rfl) (by simp;rfl) rfl ?_ ?_;(focus (refine nV (by first|(simp;rfl)|(simp;done)|rfl) rfl (by first|(simp;rfl)|(simp;done)|rfl) (by first|(simp;rfl)|(simp;done)|rfl) (by first|(simp;rfl)|(simp;done)|rfl) (by simp;exact ⟨rfl,rfl⟩) (by simp) (by simp) (by simp;omega) (by simp;omega))))|(refine kK (j:=6) (v:= .obj 2 1) ⟨2,1,[(9,⟨true,false,1,2,[.str [115,116,121,108,101]]::p.styles.map aK⟩),(6,⟨true,false,1,1,[[.str [115,116,121,108,101]]]⟩)]⟩ [(9,⟨true,false,1,2,[.str [115,116,121,108,101]]::p.styles.map aK⟩)] [] rfl (by simp) rfl (by simp [Region.binds];rfl) (by decide) (by simp [Region.binds];rfl) (by simp;rfl) rfl ?_ ?_;(focus (refine uB (by simp;exact ⟨rfl,rfl⟩) (by simp) rfl rfl (by decide) (by decide) (by first|(simp;rfl)|rfl) (by simp [AV.plainV]) (by simp [AV.good,AV.cells]) (by simp) (by simp [AV.cells]))))|(refine kK (j:=16) (v:= .obj 3 2) ⟨3,1,[(16,⟨true,false,1,2,[.str [105,109,103]]::p.images.map aK⟩),(13,⟨true,false,1,1,[[.str [105,109,103]]]⟩)]⟩ [] [(13,⟨true,false,1,1,[[.str [105,109,103]]]⟩)] rfl (by simp) rfl (by simp [Region.binds];rfl) (by decide) (by simp [Region.binds];rfl) (by simp;rfl) rfl ?_ ?_;(focus (refine nV (by first|(simp;rfl)|(simp;done)|rfl) rfl (by first|(simp;rfl)|(simp;done)|rfl) (by first|(simp;rfl)|(simp;done)|rfl) (by first|(simp;rfl)|(simp;done)|rfl) (by simp;exact ⟨rfl,rfl⟩) (by simp) (by simp) (by simp;omega) (by simp;omega))))|(refine kK (j:=13) (v:= .obj 3 1) ⟨3,1,[(16,⟨true,false,1,2,[.str [105,109,103]]::p.images.map aK⟩),(13,⟨true,false,1,1,[[.str [105,109,103]]]⟩)]⟩ [(16,⟨true,false,1,2,[.str [105,109,103]]::p.images.map aK⟩)] [] rfl (by simp) rfl (by simp [Region.binds];rfl) (by decide) (by simp [Region.binds];rfl) (by simp;rfl) rfl ?_ ?_;(focus (refine uB (by simp;exact ⟨rfl,rfl⟩) (by simp) rfl rfl (by decide) (by decide) (by first|(simp;rfl)|rfl) (by simp [AV.plainV]) (by simp [AV.good,AV.cells]) (by simp) (by simp [AV.cells]))))|(refine aMg rfl ?_ (by simp [Region.binds];rfl) (by decide) (by simp [Region.binds];rfl) (by simp;rfl) ?_ rfl (by first|rfl|(simp;done)) ?_;(focus (first|rfl|(simp;done)));(focus (first|rfl|(simp [gM];done))))|(refine nx ?_;refine so ?_)|fail
    have W:=And.intro h2 hn
    have V:=And.intro h2 hn
    repeat' first|refine st ?_|(refine nx ?_;first|refine se ?_|refine so ?_)|(refine cx ?_;refine sc (fun hc=>?_) (fun hc=>?_)<;>try exact hc.elim)|(refine lx ?_;refine sp (fun hc=>?_) (fun hc=>?_)<;>try exact hc.elim)|refine sx ?_ ?_|refine sy ?_ ?_|fail
    all_goals (try (refine ⟨.inr rfl,?_⟩;simp [Hands,Tryz.results109,h2,hn,eY]))
    all_goals (exact absurd (by assumption) hn)
  ·rw [if_neg (fun h=>h2 h.2)]
   simp only [Bool.not_eq_true] at h2
   rw [h1,h2] at c0
   refine ent Tryz.mix Tryz.func109 Tryz.ntmps109 ?_
   have W:=h2
   have V:=h2
   repeat' first|refine st ?_|(refine nx ?_;first|refine se ?_|refine so ?_)|(refine cx ?_;refine sc (fun hc=>?_) (fun hc=>?_)<;>try exact hc.elim)|(refine lx ?_;refine sp (fun hc=>?_) (fun hc=>?_)<;>try exact hc.elim)|refine sx ?_ ?_|refine sy ?_ ?_|fail
   all_goals (try (refine ⟨.inr rfl,?_⟩;simp [Hands,Tryz.results109]))
 ·rw [if_neg (fun h=>h1 h.1)]
  simp only [Bool.not_eq_true] at h1
  rw [h1] at c0
  refine ent Tryz.mix Tryz.func109 Tryz.ntmps109 ?_
  have W:=trivial
  repeat' first|refine st ?_|(refine nx ?_;first|refine se ?_|refine so ?_)|(refine cx ?_;refine sc (fun hc=>?_) (fun hc=>?_)<;>try exact hc.elim)|(refine lx ?_;refine sp (fun hc=>?_) (fun hc=>?_)<;>try exact hc.elim)|refine sx ?_ ?_|refine sy ?_ ?_|fail
  all_goals (try (refine ⟨.inr rfl,?_⟩;simp [Hands,Tryz.results109]))
end Go.Proofs.YtkidoegojckmiaaGreatDoor
