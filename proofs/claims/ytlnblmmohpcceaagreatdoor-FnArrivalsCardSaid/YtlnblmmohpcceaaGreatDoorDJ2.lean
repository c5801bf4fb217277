/-
  Proved here: steps towards the statement of this claim, text J2.
  No condition beyond what each statement spells out.
-/
import Derived.Test.YtlnblmmohpcceaaGreatDoorDJ1
import Derived.Test.YtlnblmmohpcceaaGreatDoorDP1
import Derived.Test.YtlnblmmohpcceaaGreatDoorDF8
set_option linter.all false
set_option maxRecDepth 4000
set_option maxHeartbeats 4000000
namespace Go.Proofs.YtlnblmmohpcceaaGreatDoor
open Go.Aw
theorem aK6 {l:List Str} {k:Nat} (h:k < l.length) (hc:bK l[k]=false):dC l=false:=by
 have:l.all bK=false:=by
  rw [List.all_eq_false]
  exact ⟨l[k],List.getElem_mem h,by simp [hc]⟩
 simp [dC,this]
theorem aJn {l:List Str} (h:∀x∈l,bK x=true):dC l=decide ((l.length:Int)≤4):=by
 have:l.all bK=true:=List.all_eq_true.2 h
 have h1:decide ((l.length:Int)≤4)=decide (l.length≤4):=by simp only [decide_eq_decide];omega
 rw [dC,this,h1,Bool.true_and]
theorem pO [aB Tryz.prog] (l:List Str) (hs:szL bG l≤1099511627776):Ok Tryz.prog 257 [.sl .view 1 (l.map aI)] (.bool (dC l)):=by
 simp only [szL] at hs
 refine ent Tryz.mix Tryz.func257 Tryz.ntmps257 ?_
 have W:=trivial
 repeat' first|refine st ?_|(refine nx ?_;first|refine se ?_|refine so ?_)|(refine cx ?_;refine sc (fun hc=>?_) (fun hc=>?_)<;>try exact hc.elim)|(refine lx ?_;refine sp (fun hc=>?_) (fun hc=>?_)<;>try exact hc.elim)|refine sx ?_ ?_|refine sy ?_ ?_|fail
 refine aS (ι:={k:Nat // k≤l.length∧∀x∈l.take k,bK x=true}) (fun t o i=>⟨aP t [(3,.int .i64 i.1)],o⟩)
  (fun i=>l.length - i.1) ⟨0,by simp,by simp⟩ (aL (by simp) (by simp)) ?_
 rintro ⟨k,hk,hi⟩ K1 hK1
 simp only [aP,List.set_cons_succ,List.set_cons_zero] at hK1⊢
 have hk1:IntKind.i64.wrap ((k:Int)+1)=((k+1:Nat):Int):=by rw [wrap64]<;>omega
 by_cases hlt:k < l.length
 ·have hg:=List.getElem?_eq_getElem hlt
  have hel:=gN bG l k hlt
  simp only [bG] at hel
  have c1:=oO l[k] (by omega)
  generalize hb:bK l[k]=b at *
  cases b
  ·have W:=And.intro hk1 (And.intro hg hlt)
   repeat' first|refine st ?_|(refine nx ?_;first|refine se ?_|refine so ?_)|(refine cx ?_;refine sc (fun hc=>?_) (fun hc=>?_)<;>try exact hc.elim)|(refine lx ?_;refine sp (fun hc=>?_) (fun hc=>?_)<;>try exact hc.elim)|refine sx ?_ ?_|refine sy ?_ ?_|fail
   rw [aK6 hlt hb]
   all_goals (try (refine ⟨.inr rfl,?_⟩;simp [Hands,Tryz.results257]))
  ·have W:=And.intro hk1 (And.intro hg hlt)
   repeat' first|refine st ?_|(refine nx ?_;first|refine se ?_|refine so ?_)|(refine cx ?_;refine sc (fun hc=>?_) (fun hc=>?_)<;>try exact hc.elim)|(refine lx ?_;refine sp (fun hc=>?_) (fun hc=>?_)<;>try exact hc.elim)|refine sx ?_ ?_|refine sy ?_ ?_|fail
   exact hK1 _ ⟨k+1,by omega,iA hlt hi hb⟩ (aL (by simp) (by simp)) (by simp only;omega)
 ·have W:=hk1
  repeat' first|refine st ?_|(refine nx ?_;first|refine se ?_|refine so ?_)|(refine cx ?_;refine sc (fun hc=>?_) (fun hc=>?_)<;>try exact hc.elim)|(refine lx ?_;refine sp (fun hc=>?_) (fun hc=>?_)<;>try exact hc.elim)|refine sx ?_ ?_|refine sy ?_ ?_|fail
  rw [aJn (lL (by omega) hi)]
  all_goals (try (refine ⟨.inr rfl,?_⟩;simp [Hands,Tryz.results257]))
theorem yY [aB Tryz.prog] (p:bN) (hs:bU p≤1099511627776):Ok Tryz.prog 205 [.agg (aX .view p)] (.bool (eB p)):=by
 simp only [bU] at hs
 have c1:=pO p.scripts (by omega)
 have c2:=pO p.styles (by omega)
 have c3:=pO p.images (by omega)
 have c4:=aAz p.nonce (by omega)
 have l1:(p.scripts == [])=decide ((p.scripts.length:Int)=0):=by cases p.scripts<;>simp<;>omega
 have l2:(p.styles == [])=decide ((p.styles.length:Int)=0):=by cases p.styles<;>simp<;>omega
 have l3:(p.images == [])=decide ((p.images.length:Int)=0):=by cases p.images<;>simp<;>omega
 unfold eB
 rw [l1,l2,l3]
 generalize dC p.scripts=b1 at *
 generalize dC p.styles=b2 at *
 generalize dC p.images=b3 at *
 generalize eG p.nonce=b4 at *
 generalize hb:p.isSet=b at *
 cases b
 ·refine ent Tryz.mix Tryz.func205 Tryz.ntmps205 ?_
  have W:=hb
  repeat' first|refine st ?_|(refine nx ?_;first|refine se ?_|refine so ?_)|(refine cx ?_;refine sc (fun hc=>?_) (fun hc=>?_)<;>try exact hc.elim)|(refine lx ?_;refine sp (fun hc=>?_) (fun hc=>?_)<;>try exact hc.elim)|refine sx ?_ ?_|refine sy ?_ ?_|fail
  all_goals (try (refine ⟨.inr rfl,?_⟩;simp [Hands,Tryz.results205,hb]))
  all_goals simp_all
 ·refine ent Tryz.mix Tryz.func205 Tryz.ntmps205 ?_
  have W:=hb
  repeat' first|refine st ?_|(refine nx ?_;first|refine se ?_|refine so ?_)|(refine cx ?_;refine sc (fun hc=>?_) (fun hc=>?_)<;>try exact hc.elim)|(refine lx ?_;refine sp (fun hc=>?_) (fun hc=>?_)<;>try exact hc.elim)|refine sx ?_ ?_|refine sy ?_ ?_|fail
  all_goals (try (refine ⟨.inr rfl,?_⟩;simp [Hands,Tryz.results205,hb]))
  all_goals simp_all
theorem aHz (w:Str) (l:List Str) (x:Str):words w (l++[x])=words w l++32::x:=by
 unfold words
 rw [Lib.join_cons,Lib.join_cons]
 simp [Lib.joinTail]
theorem aJk (w:Str):words w []=w:=by simp [words,Lib.join_one]
theorem qX (w:Str) (l:List Str):(words w l).length=w.length+l.length+bC bG l:=by
 unfold words
 rw [Lib.join_cons]
 unfold Lib.joinTail
 have:∀l:List Str,((l.map (([32]:Str)++ ·)).flatten).length=l.length+bC bG l:=by
  intro l
  induction l with
  |nil=>simp [bC]
  |cons x l ih=>simp only [List.map_cons,List.flatten_cons,List.length_append,ih,bC,bG,List.length_cons,List.length_nil];omega
 rw [List.length_append,this];omega
theorem tK [aB Tryz.prog] (w:Str) (l:List Str) (hs:w.length+szL bG l≤1099511627776):Ok Tryz.prog 206 [.str w,.sl .view 1 (l.map aI)] (.str (words w l)):=by
 simp only [szL] at hs
 refine ent Tryz.mix Tryz.func206 Tryz.ntmps206 ?_
 have W:=trivial
 repeat' first|refine st ?_|(refine nx ?_;first|refine se ?_|refine so ?_)|(refine cx ?_;refine sc (fun hc=>?_) (fun hc=>?_)<;>try exact hc.elim)|(refine lx ?_;refine sp (fun hc=>?_) (fun hc=>?_)<;>try exact hc.elim)|refine sx ?_ ?_|refine sy ?_ ?_|fail
 refine aS (ι:={k:Nat // k≤l.length}) (fun t o i=>⟨aP t [(5,.int .i64 i.1),(0,.str (words w (l.take i.1)))],o⟩)
  (fun i=>l.length - i.1) ⟨0,by simp⟩ (aL (by simp) (by simp [aJk])) ?_
 rintro ⟨k,hk⟩ K1 hK1
 simp only [aP,List.set_cons_succ,List.set_cons_zero] at hK1⊢
 have hk1:IntKind.i64.wrap ((k:Int)+1)=((k+1:Nat):Int):=by rw [wrap64]<;>omega
 by_cases hlt:k < l.length
 ·have hg:=List.getElem?_eq_getElem hlt
  have hel:=gN bG l k hlt
  simp only [bG] at hel
  have hw:=qX w (l.take k)
  have hts:=qD bG l k
  have htl:(l.take k).length≤l.length:=by simp;omega
  have e:l.take (k+1)=l.take k++[l[k]]:=by rw [List.take_add_one,hg];rfl
  have e2:=aHz w (l.take k) l[k]
  rw [←e] at e2
  generalize words w (l.take k)=q at *
  have W:=And.intro hk1 (And.intro hg hlt)
  repeat' first|refine st ?_|(refine nx ?_;first|refine se ?_|refine so ?_)|(refine cx ?_;refine sc (fun hc=>?_) (fun hc=>?_)<;>try exact hc.elim)|(refine lx ?_;refine sp (fun hc=>?_) (fun hc=>?_)<;>try exact hc.elim)|refine sx ?_ ?_|refine sy ?_ ?_|fail
  exact hK1 _ ⟨k+1,by omega⟩ (aL (by simp) (by simp [e2])) (by simp only;omega)
 ·have htk:l.take k=l:=List.take_of_length_le (by omega)
  rw [htk]
  have W:=hk1
  repeat' first|refine st ?_|(refine nx ?_;first|refine se ?_|refine so ?_)|(refine cx ?_;refine sc (fun hc=>?_) (fun hc=>?_)<;>try exact hc.elim)|(refine lx ?_;refine sp (fun hc=>?_) (fun hc=>?_)<;>try exact hc.elim)|refine sx ?_ ?_|refine sy ?_ ?_|fail
  all_goals (try (refine ⟨.inr rfl,?_⟩;simp [Hands,Tryz.results206]))
theorem lY {l:List Str} (h:dC l=true):l.length≤4∧bC bG l≤32:=by
 simp only [dC,Bool.and_eq_true,decide_eq_true_eq,List.all_eq_true] at h
 have key:∀l:List Str,(∀x∈l,bK x=true)→bC bG l≤8 * l.length:=by
  intro l
  induction l with
  |nil=>intro _;simp [bC]
  |cons x l ih=>
   intro hl
   have h1:=hl x (by simp)
   simp only [bK,Bool.and_eq_true,decide_eq_true_eq] at h1
   have:=ih fun y hy=>hl y (by simp [hy])
   simp only [bC,bG,List.length_cons]
   omega
 have:=key l h.1
 exact ⟨h.2,by omega⟩
theorem aJq {s:Str} (h:(s == [])=true∨eG s=true):s.length≤20:=by
 rcases h with h|h
 ·simp only [beq_iff_eq] at h;simp [h]
 ·simp only [eG,Bool.and_eq_true,decide_eq_true_eq] at h;exact h.2.2
theorem yU {p:bN} (h:eB p=true) (hs:p.isSet=true):(words gZ p.scripts).length≤42∧(words iR p.styles).length≤41∧(words lK p.images).length≤39∧p.nonce.length≤20:=by
 simp only [eB,hs,if_true,Bool.and_eq_true,Bool.or_eq_true] at h
 obtain ⟨⟨⟨h1,h2⟩,h3⟩,h4⟩:=h
 have k1:=lY h1
 have k2:=lY h2
 have k3:=lY h3
 refine ⟨by rw [qX];simp [gZ];omega,by rw [qX];simp [iR];omega,by rw [qX];simp [lK];omega,aJq h4⟩
theorem nC [aB Tryz.prog] (p:bN) (hs:bU p≤274877906944):Ok Tryz.prog 134 [.agg (aX .view p)] (.str (bH p)):=by
 have c0:=yY p (by omega)
 simp only [aX] at c0
 have hq:= @yU p
 simp only [bU] at hs
 have c1:Ok Tryz.prog 206 [.str [115,99,114,105,112,116],.sl .view 1 (p.scripts.map aI)] (.str (words gZ p.scripts)):=tK gZ p.scripts (by simp [gZ];omega)
 have c2:Ok Tryz.prog 206 [.str [115,116,121,108,101],.sl .view 1 (p.styles.map aI)] (.str (words iR p.styles)):=tK iR p.styles (by simp [iR];omega)
 have c3:Ok Tryz.prog 206 [.str [105,109,103],.sl .view 1 (p.images.map aI)] (.str (words lK p.images)):=tK lK p.images (by simp [lK];omega)
 unfold bH
 by_cases h1:eB p=true
 ·by_cases h2:p.isSet=true
  ·obtain ⟨k1,k2,k3,k4⟩:=hq h1 h2
   rw [if_pos ⟨h1,h2⟩]
   unfold rZ
   rw [h1,h2] at c0
   generalize words gZ p.scripts=q1 at *
   generalize words iR p.styles=q2 at *
   generalize words lK p.images=q3 at *
   by_cases hn:p.nonce=[]
   ·rw [if_pos hn]
    rw [hn] at c0
    refine ent Tryz.mix Tryz.func134 Tryz.ntmps134 ?_
    have W:=And.intro h2 hn
    have V:=And.intro h2 hn
    repeat' first|refine st ?_|(refine nx ?_;first|refine se ?_|refine so ?_)|(refine cx ?_;refine sc (fun hc=>?_) (fun hc=>?_)<;>try exact hc.elim)|(refine lx ?_;refine sp (fun hc=>?_) (fun hc=>?_)<;>try exact hc.elim)|refine sx ?_ ?_|refine sy ?_ ?_|fail
    all_goals (try (refine ⟨.inr rfl,?_⟩;simp [Hands,Tryz.results134,h2,hn]))
   ·rw [if_neg hn]
    refine ent Tryz.mix Tryz.func134 Tryz.ntmps134 ?_
    have W:=And.intro h2 hn
    have V:=And.intro h2 hn
    repeat' first|refine st ?_|(refine nx ?_;first|refine se ?_|refine so ?_)|(refine cx ?_;refine sc (fun hc=>?_) (fun hc=>?_)<;>try exact hc.elim)|(refine lx ?_;refine sp (fun hc=>?_) (fun hc=>?_)<;>try exact hc.elim)|refine sx ?_ ?_|refine sy ?_ ?_|fail
    all_goals (try (refine ⟨.inr rfl,?_⟩;simp [Hands,Tryz.results134,h2,hn,dN]))
    all_goals (exact absurd (by assumption) hn)
  ·rw [if_neg (fun h=>h2 h.2)]
   simp only [Bool.not_eq_true] at h2
   rw [h1,h2] at c0
   refine ent Tryz.mix Tryz.func134 Tryz.ntmps134 ?_
   have W:=h2
   have V:=h2
   repeat' first|refine st ?_|(refine nx ?_;first|refine se ?_|refine so ?_)|(refine cx ?_;refine sc (fun hc=>?_) (fun hc=>?_)<;>try exact hc.elim)|(refine lx ?_;refine sp (fun hc=>?_) (fun hc=>?_)<;>try exact hc.elim)|refine sx ?_ ?_|refine sy ?_ ?_|fail
   all_goals (try (refine ⟨.inr rfl,?_⟩;simp [Hands,Tryz.results134]))
 ·rw [if_neg (fun h=>h1 h.1)]
  simp only [Bool.not_eq_true] at h1
  rw [h1] at c0
  refine ent Tryz.mix Tryz.func134 Tryz.ntmps134 ?_
  have W:=trivial
  repeat' first|refine st ?_|(refine nx ?_;first|refine se ?_|refine so ?_)|(refine cx ?_;refine sc (fun hc=>?_) (fun hc=>?_)<;>try exact hc.elim)|(refine lx ?_;refine sp (fun hc=>?_) (fun hc=>?_)<;>try exact hc.elim)|refine sx ?_ ?_|refine sy ?_ ?_|fail
  all_goals (try (refine ⟨.inr rfl,?_⟩;simp [Hands,Tryz.results134]))
end Go.Proofs.YtlnblmmohpcceaaGreatDoor
