/-
  Proved here: steps towards the statement of this claim, text J2.
  No condition beyond what each statement spells out.
-/
import Derived.Test.YtkidoegojckmiaaGreatDoorAQJ1
import Derived.Test.YtkidoegojckmiaaGreatDoorAQD1
import Derived.Test.YtkidoegojckmiaaGreatDoorAF8
set_option linter.all false
set_option maxRecDepth 4000
set_option maxHeartbeats 4000000
namespace Go.Proofs.YtkidoegojckmiaaGreatDoor
open Go.Aw
theorem aRy {l:List Str} {k:Nat} (h:k < l.length) (hc:bL l[k]=false):eF l=false:=by
 have:l.all bL=false:=by
  rw [List.all_eq_false]
  exact ⟨l[k],List.getElem_mem h,by simp [hc]⟩
 simp [eF,this]
theorem aO7 {l:List Str} (h:∀x∈l,bL x=true):eF l=decide ((l.length:Int)≤4):=by
 have:l.all bL=true:=List.all_eq_true.2 h
 have h1:decide ((l.length:Int)≤4)=decide (l.length≤4):=by simp only [decide_eq_decide];omega
 rw [eF,this,h1,Bool.true_and]
theorem uR [aB Tryz.prog] (l:List Str) (hs:szL bU l≤1099511627776):Ok Tryz.prog 123 [.sl .view 1 (l.map aK)] (.bool (eF l)):=by
 simp only [szL] at hs
 refine ent Tryz.mix Tryz.func123 Tryz.ntmps123 ?_
 have W:=trivial
 repeat' first|refine st ?_|(refine nx ?_;first|refine se ?_|refine so ?_)|(refine cx ?_;refine sc (fun hc=>?_) (fun hc=>?_)<;>try exact hc.elim)|(refine lx ?_;refine sp (fun hc=>?_) (fun hc=>?_)<;>try exact hc.elim)|refine sx ?_ ?_|refine sy ?_ ?_|fail
 refine aJ (ι:={k:Nat // k≤l.length∧∀x∈l.take k,bL x=true}) (fun t o i=>⟨aL t [(3,.int .i64 i.1)],o⟩)
  (fun i=>l.length - i.1) ⟨0,by simp,by simp⟩ (aH (by simp) (by simp)) ?_
 rintro ⟨k,hk,hi⟩ K1 hK1
 simp only [aL,List.set_cons_succ,List.set_cons_zero] at hK1⊢
 have hk1:IntKind.i64.wrap ((k:Int)+1)=((k+1:Nat):Int):=by rw [wrap64]<;>omega
 by_cases hlt:k < l.length
 ·have hg:=List.getElem?_eq_getElem hlt
  have hel:=dJ bU l k hlt
  simp only [bU] at hel
  have c1:=gU l[k] (by omega)
  generalize hb:bL l[k]=b at *
  cases b
  ·have W:=And.intro hk1 (And.intro hg hlt)
   repeat' first|refine st ?_|(refine nx ?_;first|refine se ?_|refine so ?_)|(refine cx ?_;refine sc (fun hc=>?_) (fun hc=>?_)<;>try exact hc.elim)|(refine lx ?_;refine sp (fun hc=>?_) (fun hc=>?_)<;>try exact hc.elim)|refine sx ?_ ?_|refine sy ?_ ?_|fail
   rw [aRy hlt hb]
   all_goals (try (refine ⟨.inr rfl,?_⟩;simp [Hands,Tryz.results123]))
  ·have W:=And.intro hk1 (And.intro hg hlt)
   repeat' first|refine st ?_|(refine nx ?_;first|refine se ?_|refine so ?_)|(refine cx ?_;refine sc (fun hc=>?_) (fun hc=>?_)<;>try exact hc.elim)|(refine lx ?_;refine sp (fun hc=>?_) (fun hc=>?_)<;>try exact hc.elim)|refine sx ?_ ?_|refine sy ?_ ?_|fail
   exact hK1 _ ⟨k+1,by omega,dP hlt hi hb⟩ (aH (by simp) (by simp)) (by simp only;omega)
 ·have W:=hk1
  repeat' first|refine st ?_|(refine nx ?_;first|refine se ?_|refine so ?_)|(refine cx ?_;refine sc (fun hc=>?_) (fun hc=>?_)<;>try exact hc.elim)|(refine lx ?_;refine sp (fun hc=>?_) (fun hc=>?_)<;>try exact hc.elim)|refine sx ?_ ?_|refine sy ?_ ?_|fail
  rw [aO7 (iP (by omega) hi)]
  all_goals (try (refine ⟨.inr rfl,?_⟩;simp [Hands,Tryz.results123]))
theorem aDn [aB Tryz.prog] (p:bH) (hs:bB p≤1099511627776):Ok Tryz.prog 95 [.agg (aS .view p)] (.bool (fT p)):=by
 simp only [bB] at hs
 have c1:=uR p.scripts (by omega)
 have c2:=uR p.styles (by omega)
 have c3:=uR p.images (by omega)
 have c4:=nS p.nonce (by omega)
 have l1:(p.scripts == [])=decide ((p.scripts.length:Int)=0):=by cases p.scripts<;>simp<;>omega
 have l2:(p.styles == [])=decide ((p.styles.length:Int)=0):=by cases p.styles<;>simp<;>omega
 have l3:(p.images == [])=decide ((p.images.length:Int)=0):=by cases p.images<;>simp<;>omega
 unfold fT
 rw [l1,l2,l3]
 generalize eF p.scripts=b1 at *
 generalize eF p.styles=b2 at *
 generalize eF p.images=b3 at *
 generalize dB p.nonce=b4 at *
 generalize hb:p.isSet=b at *
 cases b
 ·refine ent Tryz.mix Tryz.func95 Tryz.ntmps95 ?_
  have W:=hb
  repeat' first|refine st ?_|(refine nx ?_;first|refine se ?_|refine so ?_)|(refine cx ?_;refine sc (fun hc=>?_) (fun hc=>?_)<;>try exact hc.elim)|(refine lx ?_;refine sp (fun hc=>?_) (fun hc=>?_)<;>try exact hc.elim)|refine sx ?_ ?_|refine sy ?_ ?_|fail
  all_goals (try (refine ⟨.inr rfl,?_⟩;simp [Hands,Tryz.results95,hb]))
  all_goals simp_all
 ·refine ent Tryz.mix Tryz.func95 Tryz.ntmps95 ?_
  have W:=hb
  repeat' first|refine st ?_|(refine nx ?_;first|refine se ?_|refine so ?_)|(refine cx ?_;refine sc (fun hc=>?_) (fun hc=>?_)<;>try exact hc.elim)|(refine lx ?_;refine sp (fun hc=>?_) (fun hc=>?_)<;>try exact hc.elim)|refine sx ?_ ?_|refine sy ?_ ?_|fail
  all_goals (try (refine ⟨.inr rfl,?_⟩;simp [Hands,Tryz.results95,hb]))
  all_goals simp_all
theorem aNb (w:Str) (l:List Str) (x:Str):words w (l++[x])=words w l++32::x:=by
 unfold words
 rw [Lib.join_cons,Lib.join_cons]
 simp [Lib.joinTail]
theorem aO5 (w:Str):words w []=w:=by simp [words,Lib.join_one]
theorem vQ (w:Str) (l:List Str):(words w l).length=w.length+l.length+bD bU l:=by
 unfold words
 rw [Lib.join_cons]
 unfold Lib.joinTail
 have:∀l:List Str,((l.map (([32]:Str)++ ·)).flatten).length=l.length+bD bU l:=by
  intro l
  induction l with
  |nil=>simp [bD]
  |cons x l ih=>simp only [List.map_cons,List.flatten_cons,List.length_append,ih,bD,bU,List.length_cons,List.length_nil];omega
 rw [List.length_append,this];omega
theorem yI [aB Tryz.prog] (w:Str) (l:List Str) (hs:w.length+szL bU l≤1099511627776):Ok Tryz.prog 96 [.str w,.sl .view 1 (l.map aK)] (.str (words w l)):=by
 simp only [szL] at hs
 refine ent Tryz.mix Tryz.func96 Tryz.ntmps96 ?_
 have W:=trivial
 repeat' first|refine st ?_|(refine nx ?_;first|refine se ?_|refine so ?_)|(refine cx ?_;refine sc (fun hc=>?_) (fun hc=>?_)<;>try exact hc.elim)|(refine lx ?_;refine sp (fun hc=>?_) (fun hc=>?_)<;>try exact hc.elim)|refine sx ?_ ?_|refine sy ?_ ?_|fail
 refine aJ (ι:={k:Nat // k≤l.length}) (fun t o i=>⟨aL t [(5,.int .i64 i.1),(0,.str (words w (l.take i.1)))],o⟩)
  (fun i=>l.length - i.1) ⟨0,by simp⟩ (aH (by simp) (by simp [aO5])) ?_
 rintro ⟨k,hk⟩ K1 hK1
 simp only [aL,List.set_cons_succ,List.set_cons_zero] at hK1⊢
 have hk1:IntKind.i64.wrap ((k:Int)+1)=((k+1:Nat):Int):=by rw [wrap64]<;>omega
 by_cases hlt:k < l.length
 ·have hg:=List.getElem?_eq_getElem hlt
  have hel:=dJ bU l k hlt
  simp only [bU] at hel
  have hw:=vQ w (l.take k)
  have hts:=uK bU l k
  have htl:(l.take k).length≤l.length:=by simp;omega
  have e:l.take (k+1)=l.take k++[l[k]]:=by rw [List.take_add_one,hg];rfl
  have e2:=aNb w (l.take k) l[k]
  rw [←e] at e2
  generalize words w (l.take k)=q at *
  have W:=And.intro hk1 (And.intro hg hlt)
  repeat' first|refine st ?_|(refine nx ?_;first|refine se ?_|refine so ?_)|(refine cx ?_;refine sc (fun hc=>?_) (fun hc=>?_)<;>try exact hc.elim)|(refine lx ?_;refine sp (fun hc=>?_) (fun hc=>?_)<;>try exact hc.elim)|refine sx ?_ ?_|refine sy ?_ ?_|fail
  exact hK1 _ ⟨k+1,by omega⟩ (aH (by simp) (by simp [e2])) (by simp only;omega)
 ·have htk:l.take k=l:=List.take_of_length_le (by omega)
  rw [htk]
  have W:=hk1
  repeat' first|refine st ?_|(refine nx ?_;first|refine se ?_|refine so ?_)|(refine cx ?_;refine sc (fun hc=>?_) (fun hc=>?_)<;>try exact hc.elim)|(refine lx ?_;refine sp (fun hc=>?_) (fun hc=>?_)<;>try exact hc.elim)|refine sx ?_ ?_|refine sy ?_ ?_|fail
  all_goals (try (refine ⟨.inr rfl,?_⟩;simp [Hands,Tryz.results96]))
theorem pO {l:List Str} (h:eF l=true):l.length≤4∧bD bU l≤32:=by
 simp only [eF,Bool.and_eq_true,decide_eq_true_eq,List.all_eq_true] at h
 have key:∀l:List Str,(∀x∈l,bL x=true)→bD bU l≤8 * l.length:=by
  intro l
  induction l with
  |nil=>intro _;simp [bD]
  |cons x l ih=>
   intro hl
   have h1:=hl x (by simp)
   simp only [bL,Bool.and_eq_true,decide_eq_true_eq] at h1
   have:=ih fun y hy=>hl y (by simp [hy])
   simp only [bD,bU,List.length_cons]
   omega
 have:=key l h.1
 exact ⟨h.2,by omega⟩
theorem aPv {s:Str} (h:(s == [])=true∨dB s=true):s.length≤20:=by
 rcases h with h|h
 ·simp only [beq_iff_eq] at h;simp [h]
 ·simp only [dB,Bool.and_eq_true,decide_eq_true_eq] at h;exact h.2.2
theorem aDk {p:bH} (h:fT p=true) (hs:p.isSet=true):(words jF p.scripts).length≤42∧(words kV p.styles).length≤41∧(words oV p.images).length≤39∧p.nonce.length≤20:=by
 simp only [fT,hs,if_true,Bool.and_eq_true,Bool.or_eq_true] at h
 obtain ⟨⟨⟨h1,h2⟩,h3⟩,h4⟩:=h
 have k1:=pO h1
 have k2:=pO h2
 have k3:=pO h3
 refine ⟨by rw [vQ];simp [jF];omega,by rw [vQ];simp [kV];omega,by rw [vQ];simp [oV];omega,aPv h4⟩
theorem mU [aB Tryz.prog] (p:bH) (hs:bB p≤274877906944):Ok Tryz.prog 56 [.agg (aS .view p)] (.str (cB p)):=by
 have c0:=aDn p (by omega)
 simp only [aS] at c0
 have hq:= @aDk p
 simp only [bB] at hs
 have c1:Ok Tryz.prog 96 [.str [115,99,114,105,112,116],.sl .view 1 (p.scripts.map aK)] (.str (words jF p.scripts)):=yI jF p.scripts (by simp [jF];omega)
 have c2:Ok Tryz.prog 96 [.str [115,116,121,108,101],.sl .view 1 (p.styles.map aK)] (.str (words kV p.styles)):=yI kV p.styles (by simp [kV];omega)
 have c3:Ok Tryz.prog 96 [.str [105,109,103],.sl .view 1 (p.images.map aK)] (.str (words oV p.images)):=yI oV p.images (by simp [oV];omega)
 unfold cB
 by_cases h1:fT p=true
 ·by_cases h2:p.isSet=true
  ·obtain ⟨k1,k2,k3,k4⟩:=hq h1 h2
   rw [if_pos ⟨h1,h2⟩]
   unfold xH
   rw [h1,h2] at c0
   generalize words jF p.scripts=q1 at *
   generalize words kV p.styles=q2 at *
   generalize words oV p.images=q3 at *
   by_cases hn:p.nonce=[]
   ·rw [if_pos hn]
    rw [hn] at c0
    refine ent Tryz.mix Tryz.func56 Tryz.ntmps56 ?_
    have W:=And.intro h2 hn
    have V:=And.intro h2 hn
    repeat' first|refine st ?_|(refine nx ?_;first|refine se ?_|refine so ?_)|(refine cx ?_;refine sc (fun hc=>?_) (fun hc=>?_)<;>try exact hc.elim)|(refine lx ?_;refine sp (fun hc=>?_) (fun hc=>?_)<;>try exact hc.elim)|refine sx ?_ ?_|refine sy ?_ ?_|fail
    all_goals (try (refine ⟨.inr rfl,?_⟩;simp [Hands,Tryz.results56,h2,hn]))
   ·rw [if_neg hn]
    refine ent Tryz.mix Tryz.func56 Tryz.ntmps56 ?_
    have W:=And.intro h2 hn
    have V:=And.intro h2 hn
    repeat' first|refine st ?_|(refine nx ?_;first|refine se ?_|refine so ?_)|(refine cx ?_;refine sc (fun hc=>?_) (fun hc=>?_)<;>try exact hc.elim)|(refine lx ?_;refine sp (fun hc=>?_) (fun hc=>?_)<;>try exact hc.elim)|refine sx ?_ ?_|refine sy ?_ ?_|fail
    all_goals (try (refine ⟨.inr rfl,?_⟩;simp [Hands,Tryz.results56,h2,hn,eY]))
    all_goals (exact absurd (by assumption) hn)
  ·rw [if_neg (fun h=>h2 h.2)]
   simp only [Bool.not_eq_true] at h2
   rw [h1,h2] at c0
   refine ent Tryz.mix Tryz.func56 Tryz.ntmps56 ?_
   have W:=h2
   have V:=h2
   repeat' first|refine st ?_|(refine nx ?_;first|refine se ?_|refine so ?_)|(refine cx ?_;refine sc (fun hc=>?_) (fun hc=>?_)<;>try exact hc.elim)|(refine lx ?_;refine sp (fun hc=>?_) (fun hc=>?_)<;>try exact hc.elim)|refine sx ?_ ?_|refine sy ?_ ?_|fail
   all_goals (try (refine ⟨.inr rfl,?_⟩;simp [Hands,Tryz.results56]))
 ·rw [if_neg (fun h=>h1 h.1)]
  simp only [Bool.not_eq_true] at h1
  rw [h1] at c0
  refine ent Tryz.mix Tryz.func56 Tryz.ntmps56 ?_
  have W:=trivial
  repeat' first|refine st ?_|(refine nx ?_;first|refine se ?_|refine so ?_)|(refine cx ?_;refine sc (fun hc=>?_) (fun hc=>?_)<;>try exact hc.elim)|(refine lx ?_;refine sp (fun hc=>?_) (fun hc=>?_)<;>try exact hc.elim)|refine sx ?_ ?_|refine sy ?_ ?_|fail
  all_goals (try (refine ⟨.inr rfl,?_⟩;simp [Hands,Tryz.results56]))
end Go.Proofs.YtkidoegojckmiaaGreatDoor
