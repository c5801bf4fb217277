/-
  Proved here: steps towards the statement of this claim, text J2.
  No condition beyond what each statement spells out.
-/
import Derived.Test.YtgkllebnnakojaaGreatDoorQY1
import Derived.Test.YtgkllebnnakojaaGreatDoorQD1
import Derived.Test.YtgkllebnnakojaaGreatDoorF8
set_option linter.all false
set_option maxRecDepth 4000
set_option maxHeartbeats 4000000
namespace Go.Proofs.YtgkllebnnakojaaGreatDoor
open Go.Aw
theorem aSe {l:List Str} {k:Nat} (h:k < l.length) (hc:dA l[k]=false):iY l=false:=by
 have:l.all dA=false:=by
  rw [List.all_eq_false]
  exact ⟨l[k],List.getElem_mem h,by simp [hc]⟩
 simp [iY,this]
theorem aPj {l:List Str} (h:∀x∈l,dA x=true):iY l=decide ((l.length:Int)≤4):=by
 have:l.all dA=true:=List.all_eq_true.2 h
 have h1:decide ((l.length:Int)≤4)=decide (l.length≤4):=by simp only [decide_eq_decide];omega
 rw [iY,this,h1,Bool.true_and]
theorem uW [aB Tryz.prog] (l:List Str) (hs:szL dO l≤1099511627776):Ok Tryz.prog 137 [.sl .view 1 (l.map bZ)] (.bool (iY l)):=by
 simp only [szL] at hs
 refine ent Tryz.mix Tryz.func137 Tryz.ntmps137 ?_
 have W:=trivial
 repeat' first|refine st ?_|(refine nx ?_;first|refine se ?_|refine so ?_)|(refine cx ?_;refine sc (fun hc=>?_) (fun hc=>?_)<;>try exact hc.elim)|(refine lx ?_;refine sp (fun hc=>?_) (fun hc=>?_)<;>try exact hc.elim)|refine sx ?_ ?_|refine sy ?_ ?_|fail
 refine aT (ι:={k:Nat // k≤l.length∧∀x∈l.take k,dA x=true}) (fun t o i=>⟨bB t [(3,.int .i64 i.1)],o⟩)
  (fun i=>l.length - i.1) ⟨0,by simp,by simp⟩ (aI (by simp) (by simp)) ?_
 rintro ⟨k,hk,hi⟩ K1 hK1
 simp only [bB,List.set_cons_succ,List.set_cons_zero] at hK1⊢
 have hk1:IntKind.i64.wrap ((k:Int)+1)=((k+1:Nat):Int):=by rw [wrap64]<;>omega
 by_cases hlt:k < l.length
 ·have hg:=List.getElem?_eq_getElem hlt
  have hel:=iK dO l k hlt
  simp only [dO] at hel
  have c1:=gY l[k] (by omega)
  generalize hb:dA l[k]=b at *
  cases b
  ·have W:=And.intro hk1 (And.intro hg hlt)
   repeat' first|refine st ?_|(refine nx ?_;first|refine se ?_|refine so ?_)|(refine cx ?_;refine sc (fun hc=>?_) (fun hc=>?_)<;>try exact hc.elim)|(refine lx ?_;refine sp (fun hc=>?_) (fun hc=>?_)<;>try exact hc.elim)|refine sx ?_ ?_|refine sy ?_ ?_|fail
   rw [aSe hlt hb]
   all_goals (try (refine ⟨.inr rfl,?_⟩;simp [Hands,Tryz.results137]))
  ·have W:=And.intro hk1 (And.intro hg hlt)
   repeat' first|refine st ?_|(refine nx ?_;first|refine se ?_|refine so ?_)|(refine cx ?_;refine sc (fun hc=>?_) (fun hc=>?_)<;>try exact hc.elim)|(refine lx ?_;refine sp (fun hc=>?_) (fun hc=>?_)<;>try exact hc.elim)|refine sx ?_ ?_|refine sy ?_ ?_|fail
   exact hK1 _ ⟨k+1,by omega,dD hlt hi hb⟩ (aI (by simp) (by simp)) (by simp only;omega)
 ·have W:=hk1
  repeat' first|refine st ?_|(refine nx ?_;first|refine se ?_|refine so ?_)|(refine cx ?_;refine sc (fun hc=>?_) (fun hc=>?_)<;>try exact hc.elim)|(refine lx ?_;refine sp (fun hc=>?_) (fun hc=>?_)<;>try exact hc.elim)|refine sx ?_ ?_|refine sy ?_ ?_|fail
  rw [aPj (iL (by omega) hi)]
  all_goals (try (refine ⟨.inr rfl,?_⟩;simp [Hands,Tryz.results137]))
theorem aE6 [aB Tryz.prog] (p:dE) (hs:dK p≤1099511627776):Ok Tryz.prog 107 [.agg (cB .view p)] (.bool (rU p)):=by
 simp only [dK] at hs
 have c1:=uW p.scripts (by omega)
 have c2:=uW p.styles (by omega)
 have c3:=uW p.images (by omega)
 have c4:=xL p.nonce (by omega)
 have l1:(p.scripts == [])=decide ((p.scripts.length:Int)=0):=by cases p.scripts<;>simp<;>omega
 have l2:(p.styles == [])=decide ((p.styles.length:Int)=0):=by cases p.styles<;>simp<;>omega
 have l3:(p.images == [])=decide ((p.images.length:Int)=0):=by cases p.images<;>simp<;>omega
 unfold rU
 rw [l1,l2,l3]
 generalize iY p.scripts=b1 at *
 generalize iY p.styles=b2 at *
 generalize iY p.images=b3 at *
 generalize kR p.nonce=b4 at *
 generalize hb:p.isSet=b at *
 cases b
 ·refine ent Tryz.mix Tryz.func107 Tryz.ntmps107 ?_
  have W:=hb
  repeat' first|refine st ?_|(refine nx ?_;first|refine se ?_|refine so ?_)|(refine cx ?_;refine sc (fun hc=>?_) (fun hc=>?_)<;>try exact hc.elim)|(refine lx ?_;refine sp (fun hc=>?_) (fun hc=>?_)<;>try exact hc.elim)|refine sx ?_ ?_|refine sy ?_ ?_|fail
  all_goals (try (refine ⟨.inr rfl,?_⟩;simp [Hands,Tryz.results107,hb]))
  all_goals simp_all
 ·refine ent Tryz.mix Tryz.func107 Tryz.ntmps107 ?_
  have W:=hb
  repeat' first|refine st ?_|(refine nx ?_;first|refine se ?_|refine so ?_)|(refine cx ?_;refine sc (fun hc=>?_) (fun hc=>?_)<;>try exact hc.elim)|(refine lx ?_;refine sp (fun hc=>?_) (fun hc=>?_)<;>try exact hc.elim)|refine sx ?_ ?_|refine sy ?_ ?_|fail
  all_goals (try (refine ⟨.inr rfl,?_⟩;simp [Hands,Tryz.results107,hb]))
  all_goals simp_all
theorem aOg (w:Str) (l:List Str) (x:Str):words w (l++[x])=words w l++32::x:=by
 unfold words
 rw [Lib.join_cons,Lib.join_cons]
 simp [Lib.joinTail]
theorem aPm (w:Str):words w []=w:=by simp [words,Lib.join_one]
theorem vY (w:Str) (l:List Str):(words w l).length=w.length+l.length+bF dO l:=by
 unfold words
 rw [Lib.join_cons]
 unfold Lib.joinTail
 have:∀l:List Str,((l.map (([32]:Str)++ ·)).flatten).length=l.length+bF dO l:=by
  intro l
  induction l with
  |nil=>simp [bF]
  |cons x l ih=>simp only [List.map_cons,List.flatten_cons,List.length_append,ih,bF,dO,List.length_cons,List.length_nil];omega
 rw [List.length_append,this];omega
theorem yT [aB Tryz.prog] (w:Str) (l:List Str) (hs:w.length+szL dO l≤1099511627776):Ok Tryz.prog 108 [.str w,.sl .view 1 (l.map bZ)] (.str (words w l)):=by
 simp only [szL] at hs
 refine ent Tryz.mix Tryz.func108 Tryz.ntmps108 ?_
 have W:=trivial
 repeat' first|refine st ?_|(refine nx ?_;first|refine se ?_|refine so ?_)|(refine cx ?_;refine sc (fun hc=>?_) (fun hc=>?_)<;>try exact hc.elim)|(refine lx ?_;refine sp (fun hc=>?_) (fun hc=>?_)<;>try exact hc.elim)|refine sx ?_ ?_|refine sy ?_ ?_|fail
 refine aT (ι:={k:Nat // k≤l.length}) (fun t o i=>⟨bB t [(5,.int .i64 i.1),(0,.str (words w (l.take i.1)))],o⟩)
  (fun i=>l.length - i.1) ⟨0,by simp⟩ (aI (by simp) (by simp [aPm])) ?_
 rintro ⟨k,hk⟩ K1 hK1
 simp only [bB,List.set_cons_succ,List.set_cons_zero] at hK1⊢
 have hk1:IntKind.i64.wrap ((k:Int)+1)=((k+1:Nat):Int):=by rw [wrap64]<;>omega
 by_cases hlt:k < l.length
 ·have hg:=List.getElem?_eq_getElem hlt
  have hel:=iK dO l k hlt
  simp only [dO] at hel
  have hw:=vY w (l.take k)
  have hts:=vG dO l k
  have htl:(l.take k).length≤l.length:=by simp;omega
  have e:l.take (k+1)=l.take k++[l[k]]:=by rw [List.take_add_one,hg];rfl
  have e2:=aOg w (l.take k) l[k]
  rw [←e] at e2
  generalize words w (l.take k)=q at *
  have W:=And.intro hk1 (And.intro hg hlt)
  repeat' first|refine st ?_|(refine nx ?_;first|refine se ?_|refine so ?_)|(refine cx ?_;refine sc (fun hc=>?_) (fun hc=>?_)<;>try exact hc.elim)|(refine lx ?_;refine sp (fun hc=>?_) (fun hc=>?_)<;>try exact hc.elim)|refine sx ?_ ?_|refine sy ?_ ?_|fail
  exact hK1 _ ⟨k+1,by omega⟩ (aI (by simp) (by simp [e2])) (by simp only;omega)
 ·have htk:l.take k=l:=List.take_of_length_le (by omega)
  rw [htk]
  have W:=hk1
  repeat' first|refine st ?_|(refine nx ?_;first|refine se ?_|refine so ?_)|(refine cx ?_;refine sc (fun hc=>?_) (fun hc=>?_)<;>try exact hc.elim)|(refine lx ?_;refine sp (fun hc=>?_) (fun hc=>?_)<;>try exact hc.elim)|refine sx ?_ ?_|refine sy ?_ ?_|fail
  all_goals (try (refine ⟨.inr rfl,?_⟩;simp [Hands,Tryz.results108]))
theorem zX {l:List Str} (h:iY l=true):l.length≤4∧bF dO l≤32:=by
 simp only [iY,Bool.and_eq_true,decide_eq_true_eq,List.all_eq_true] at h
 have key:∀l:List Str,(∀x∈l,dA x=true)→bF dO l≤8 * l.length:=by
  intro l
  induction l with
  |nil=>intro _;simp [bF]
  |cons x l ih=>
   intro hl
   have h1:=hl x (by simp)
   simp only [dA,Bool.and_eq_true,decide_eq_true_eq] at h1
   have:=ih fun y hy=>hl y (by simp [hy])
   simp only [bF,dO,List.length_cons]
   omega
 have:=key l h.1
 exact ⟨h.2,by omega⟩
theorem aQr {s:Str} (h:(s == [])=true∨kR s=true):s.length≤20:=by
 rcases h with h|h
 ·simp only [beq_iff_eq] at h;simp [h]
 ·simp only [kR,Bool.and_eq_true,decide_eq_true_eq] at h;exact h.2.2
theorem aNv {p:dE} (h:rU p=true) (hs:p.isSet=true):(words pX p.scripts).length≤42∧(words sW p.styles).length≤41∧(words aAr p.images).length≤39∧p.nonce.length≤20:=by
 simp only [rU,hs,if_true,Bool.and_eq_true,Bool.or_eq_true] at h
 obtain ⟨⟨⟨h1,h2⟩,h3⟩,h4⟩:=h
 have k1:=zX h1
 have k2:=zX h2
 have k3:=zX h3
 refine ⟨by rw [vY];simp [pX];omega,by rw [vY];simp [sW];omega,by rw [vY];simp [aAr];omega,aQr h4⟩
theorem mY [aB Tryz.prog] (p:dE) (hs:dK p≤274877906944):Ok Tryz.prog 64 [.agg (cB .view p)] (.str (iE p)):=by
 have c0:=aE6 p (by omega)
 simp only [cB] at c0
 have hq:= @aNv p
 simp only [dK] at hs
 have c1:Ok Tryz.prog 108 [.str [115,99,114,105,112,116],.sl .view 1 (p.scripts.map bZ)] (.str (words pX p.scripts)):=yT pX p.scripts (by simp [pX];omega)
 have c2:Ok Tryz.prog 108 [.str [115,116,121,108,101],.sl .view 1 (p.styles.map bZ)] (.str (words sW p.styles)):=yT sW p.styles (by simp [sW];omega)
 have c3:Ok Tryz.prog 108 [.str [105,109,103],.sl .view 1 (p.images.map bZ)] (.str (words aAr p.images)):=yT aAr p.images (by simp [aAr];omega)
 unfold iE
 by_cases h1:rU p=true
 ·by_cases h2:p.isSet=true
  ·obtain ⟨k1,k2,k3,k4⟩:=hq h1 h2
   rw [if_pos ⟨h1,h2⟩]
   unfold aFf
   rw [h1,h2] at c0
   generalize words pX p.scripts=q1 at *
   generalize words sW p.styles=q2 at *
   generalize words aAr p.images=q3 at *
   by_cases hn:p.nonce=[]
   ·rw [if_pos hn]
    rw [hn] at c0
    refine ent Tryz.mix Tryz.func64 Tryz.ntmps64 ?_
    have W:=And.intro h2 hn
    have V:=And.intro h2 hn
    repeat' first|refine st ?_|(refine nx ?_;first|refine se ?_|refine so ?_)|(refine cx ?_;refine sc (fun hc=>?_) (fun hc=>?_)<;>try exact hc.elim)|(refine lx ?_;refine sp (fun hc=>?_) (fun hc=>?_)<;>try exact hc.elim)|refine sx ?_ ?_|refine sy ?_ ?_|fail
    all_goals (try (refine ⟨.inr rfl,?_⟩;simp [Hands,Tryz.results64,h2,hn]))
   ·rw [if_neg hn]
    refine ent Tryz.mix Tryz.func64 Tryz.ntmps64 ?_
    have W:=And.intro h2 hn
    have V:=And.intro h2 hn
    repeat' first|refine st ?_|(refine nx ?_;first|refine se ?_|refine so ?_)|(refine cx ?_;refine sc (fun hc=>?_) (fun hc=>?_)<;>try exact hc.elim)|(refine lx ?_;refine sp (fun hc=>?_) (fun hc=>?_)<;>try exact hc.elim)|refine sx ?_ ?_|refine sy ?_ ?_|fail
    all_goals (try (refine ⟨.inr rfl,?_⟩;simp [Hands,Tryz.results64,h2,hn,aJ8]))
    all_goals (exact absurd (by assumption) hn)
  ·rw [if_neg (fun h=>h2 h.2)]
   simp only [Bool.not_eq_true] at h2
   rw [h1,h2] at c0
   refine ent Tryz.mix Tryz.func64 Tryz.ntmps64 ?_
   have W:=h2
   have V:=h2
   repeat' first|refine st ?_|(refine nx ?_;first|refine se ?_|refine so ?_)|(refine cx ?_;refine sc (fun hc=>?_) (fun hc=>?_)<;>try exact hc.elim)|(refine lx ?_;refine sp (fun hc=>?_) (fun hc=>?_)<;>try exact hc.elim)|refine sx ?_ ?_|refine sy ?_ ?_|fail
   all_goals (try (refine ⟨.inr rfl,?_⟩;simp [Hands,Tryz.results64]))
 ·rw [if_neg (fun h=>h1 h.1)]
  simp only [Bool.not_eq_true] at h1
  rw [h1] at c0
  refine ent Tryz.mix Tryz.func64 Tryz.ntmps64 ?_
  have W:=trivial
  repeat' first|refine st ?_|(refine nx ?_;first|refine se ?_|refine so ?_)|(refine cx ?_;refine sc (fun hc=>?_) (fun hc=>?_)<;>try exact hc.elim)|(refine lx ?_;refine sp (fun hc=>?_) (fun hc=>?_)<;>try exact hc.elim)|refine sx ?_ ?_|refine sy ?_ ?_|fail
  all_goals (try (refine ⟨.inr rfl,?_⟩;simp [Hands,Tryz.results64]))
end Go.Proofs.YtgkllebnnakojaaGreatDoor
