/-
  Proved here: steps towards the statement of this claim, text J2.
  No condition beyond what each statement spells out.
-/
import Derived.Test.YtejigeoigebhcaaGreatAQJ1
import Derived.Test.YtejigeoigebhcaaGreatAQD1
import Derived.Test.YtejigeoigebhcaaGreatAF8
set_option linter.all false
set_option maxRecDepth 4000
set_option maxHeartbeats 4000000
namespace Go.Proofs.YtejigeoigebhcaaGreat
open Go.Aw
theorem aMe {l:List Str} {k:Nat} (h:k < l.length) (hc:bY l[k]=false):gW l=false:=by
 have:l.all bY=false:=by
  rw [List.all_eq_false]
  exact ⟨l[k],List.getElem_mem h,by simp [hc]⟩
 simp [gW,this]
theorem aKu {l:List Str} (h:∀x∈l,bY x=true):gW l=decide ((l.length:Int)≤4):=by
 have:l.all bY=true:=List.all_eq_true.2 h
 have h1:decide ((l.length:Int)≤4)=decide (l.length≤4):=by simp only [decide_eq_decide];omega
 rw [gW,this,h1,Bool.true_and]
theorem rZ [aB Tryz.prog] (l:List Str) (hs:szL bZ l≤1099511627776):Ok Tryz.prog 116 [.sl .view 1 (l.map bS)] (.bool (gW l)):=by
 simp only [szL] at hs
 refine ent Tryz.mix Tryz.func116 Tryz.ntmps116 ?_
 have W:=trivial
 repeat' first|refine st ?_|(refine nx ?_;first|refine se ?_|refine so ?_)|(refine cx ?_;refine sc (fun hc=>?_) (fun hc=>?_)<;>try exact hc.elim)|(refine lx ?_;refine sp (fun hc=>?_) (fun hc=>?_)<;>try exact hc.elim)|refine sx ?_ ?_|refine sy ?_ ?_|fail
 refine aQ (ι:={k:Nat // k≤l.length∧∀x∈l.take k,bY x=true}) (fun t o i=>⟨bB t [(3,.int .i64 i.1)],o⟩)
  (fun i=>l.length - i.1) ⟨0,by simp,by simp⟩ (aY (by simp) (by simp)) ?_
 rintro ⟨k,hk,hi⟩ K1 hK1
 simp only [bB,List.set_cons_succ,List.set_cons_zero] at hK1⊢
 have hk1:IntKind.i64.wrap ((k:Int)+1)=((k+1:Nat):Int):=by rw [wrap64]<;>omega
 by_cases hlt:k < l.length
 ·have hg:=List.getElem?_eq_getElem hlt
  have hel:=fK bZ l k hlt
  simp only [bZ] at hel
  have c1:=gQ l[k] (by omega)
  generalize hb:bY l[k]=b at *
  cases b
  ·have W:=And.intro hk1 (And.intro hg hlt)
   repeat' first|refine st ?_|(refine nx ?_;first|refine se ?_|refine so ?_)|(refine cx ?_;refine sc (fun hc=>?_) (fun hc=>?_)<;>try exact hc.elim)|(refine lx ?_;refine sp (fun hc=>?_) (fun hc=>?_)<;>try exact hc.elim)|refine sx ?_ ?_|refine sy ?_ ?_|fail
   rw [aMe hlt hb]
   all_goals (try (refine ⟨.inr rfl,?_⟩;simp [Hands,Tryz.results116]))
  ·have W:=And.intro hk1 (And.intro hg hlt)
   repeat' first|refine st ?_|(refine nx ?_;first|refine se ?_|refine so ?_)|(refine cx ?_;refine sc (fun hc=>?_) (fun hc=>?_)<;>try exact hc.elim)|(refine lx ?_;refine sp (fun hc=>?_) (fun hc=>?_)<;>try exact hc.elim)|refine sx ?_ ?_|refine sy ?_ ?_|fail
   exact hK1 _ ⟨k+1,by omega,dZ hlt hi hb⟩ (aY (by simp) (by simp)) (by simp only;omega)
 ·have W:=hk1
  repeat' first|refine st ?_|(refine nx ?_;first|refine se ?_|refine so ?_)|(refine cx ?_;refine sc (fun hc=>?_) (fun hc=>?_)<;>try exact hc.elim)|(refine lx ?_;refine sp (fun hc=>?_) (fun hc=>?_)<;>try exact hc.elim)|refine sx ?_ ?_|refine sy ?_ ?_|fail
  rw [aKu (jA (by omega) hi)]
  all_goals (try (refine ⟨.inr rfl,?_⟩;simp [Hands,Tryz.results116]))
theorem aBz [aB Tryz.prog] (p:bX) (hs:bE p≤1099511627776):Ok Tryz.prog 107 [.agg (bD .view p)] (.bool (oZ p)):=by
 simp only [bE] at hs
 have c1:=rZ p.scripts (by omega)
 have c2:=rZ p.styles (by omega)
 have c3:=rZ p.images (by omega)
 have c4:=mI p.nonce (by omega)
 have l1:(p.scripts == [])=decide ((p.scripts.length:Int)=0):=by cases p.scripts<;>simp<;>omega
 have l2:(p.styles == [])=decide ((p.styles.length:Int)=0):=by cases p.styles<;>simp<;>omega
 have l3:(p.images == [])=decide ((p.images.length:Int)=0):=by cases p.images<;>simp<;>omega
 unfold oZ
 rw [l1,l2,l3]
 generalize gW p.scripts=b1 at *
 generalize gW p.styles=b2 at *
 generalize gW p.images=b3 at *
 generalize dJ p.nonce=b4 at *
 generalize hb:p.isSet=b at *
 cases b
 ·refine ent Tryz.mix Tryz.func107 Tryz.ntmps107 ?_
  have W:=hb
  repeat' first|refine st ?_|(refine nx ?_;first|refine se ?_|refine so ?_)|(refine cx ?_;refine sc (fun hc=>?_) (fun hc=>?_)<;>try exact hc.elim)|(refine lx ?_;refine sp (fun hc=>?_) (fun hc=>?_)<;>try exact hc.elim)|refine sx ?_ ?_|refine sy ?_ ?_|fail
  all_goals (try (refine ⟨.inr rfl,?_⟩;simp [Hands,Tryz.results107,hb]))
  all_goals simp_all
 ·refine ent Tryz.mix Tryz.func107 Tryz.ntmps107 ?_
  have W:=hb
  repeat' first|refine st ?_|(refine nx ?_;first|refine se ?_|refine so ?_)|(refine cx ?_;refine sc (fun hc=>?_) (fun hc=>?_)<;>try exact hc.elim)|(refine lx ?_;refine sp (fun hc=>?_) (fun hc=>?_)<;>try exact hc.elim)|refine sx ?_ ?_|refine sy ?_ ?_|fail
  all_goals (try (refine ⟨.inr rfl,?_⟩;simp [Hands,Tryz.results107,hb]))
  all_goals simp_all
theorem aI1 (w:Str) (l:List Str) (x:Str):words w (l++[x])=words w l++32::x:=by
 unfold words
 rw [Lib.join_cons,Lib.join_cons]
 simp [Lib.joinTail]
theorem aKj (w:Str):words w []=w:=by simp [words,Lib.join_one]
theorem tK (w:Str) (l:List Str):(words w l).length=w.length+l.length+aZ bZ l:=by
 unfold words
 rw [Lib.join_cons]
 unfold Lib.joinTail
 have:∀l:List Str,((l.map (([32]:Str)++ ·)).flatten).length=l.length+aZ bZ l:=by
  intro l
  induction l with
  |nil=>simp [aZ]
  |cons x l ih=>simp only [List.map_cons,List.flatten_cons,List.length_append,ih,aZ,bZ,List.length_cons,List.length_nil];omega
 rw [List.length_append,this];omega
theorem wC [aB Tryz.prog] (w:Str) (l:List Str) (hs:w.length+szL bZ l≤1099511627776):Ok Tryz.prog 108 [.str w,.sl .view 1 (l.map bS)] (.str (words w l)):=by
 simp only [szL] at hs
 refine ent Tryz.mix Tryz.func108 Tryz.ntmps108 ?_
 have W:=trivial
 repeat' first|refine st ?_|(refine nx ?_;first|refine se ?_|refine so ?_)|(refine cx ?_;refine sc (fun hc=>?_) (fun hc=>?_)<;>try exact hc.elim)|(refine lx ?_;refine sp (fun hc=>?_) (fun hc=>?_)<;>try exact hc.elim)|refine sx ?_ ?_|refine sy ?_ ?_|fail
 refine aQ (ι:={k:Nat // k≤l.length}) (fun t o i=>⟨bB t [(5,.int .i64 i.1),(0,.str (words w (l.take i.1)))],o⟩)
  (fun i=>l.length - i.1) ⟨0,by simp⟩ (aY (by simp) (by simp [aKj])) ?_
 rintro ⟨k,hk⟩ K1 hK1
 simp only [bB,List.set_cons_succ,List.set_cons_zero] at hK1⊢
 have hk1:IntKind.i64.wrap ((k:Int)+1)=((k+1:Nat):Int):=by rw [wrap64]<;>omega
 by_cases hlt:k < l.length
 ·have hg:=List.getElem?_eq_getElem hlt
  have hel:=fK bZ l k hlt
  simp only [bZ] at hel
  have hw:=tK w (l.take k)
  have hts:=sD bZ l k
  have htl:(l.take k).length≤l.length:=by simp;omega
  have e:l.take (k+1)=l.take k++[l[k]]:=by rw [List.take_add_one,hg];rfl
  have e2:=aI1 w (l.take k) l[k]
  rw [←e] at e2
  generalize words w (l.take k)=q at *
  have W:=And.intro hk1 (And.intro hg hlt)
  repeat' first|refine st ?_|(refine nx ?_;first|refine se ?_|refine so ?_)|(refine cx ?_;refine sc (fun hc=>?_) (fun hc=>?_)<;>try exact hc.elim)|(refine lx ?_;refine sp (fun hc=>?_) (fun hc=>?_)<;>try exact hc.elim)|refine sx ?_ ?_|refine sy ?_ ?_|fail
  exact hK1 _ ⟨k+1,by omega⟩ (aY (by simp) (by simp [e2])) (by simp only;omega)
 ·have htk:l.take k=l:=List.take_of_length_le (by omega)
  rw [htk]
  have W:=hk1
  repeat' first|refine st ?_|(refine nx ?_;first|refine se ?_|refine so ?_)|(refine cx ?_;refine sc (fun hc=>?_) (fun hc=>?_)<;>try exact hc.elim)|(refine lx ?_;refine sp (fun hc=>?_) (fun hc=>?_)<;>try exact hc.elim)|refine sx ?_ ?_|refine sy ?_ ?_|fail
  all_goals (try (refine ⟨.inr rfl,?_⟩;simp [Hands,Tryz.results108]))
theorem yO {l:List Str} (h:gW l=true):l.length≤4∧aZ bZ l≤32:=by
 simp only [gW,Bool.and_eq_true,decide_eq_true_eq,List.all_eq_true] at h
 have key:∀l:List Str,(∀x∈l,bY x=true)→aZ bZ l≤8 * l.length:=by
  intro l
  induction l with
  |nil=>intro _;simp [aZ]
  |cons x l ih=>
   intro hl
   have h1:=hl x (by simp)
   simp only [bY,Bool.and_eq_true,decide_eq_true_eq] at h1
   have:=ih fun y hy=>hl y (by simp [hy])
   simp only [aZ,bZ,List.length_cons]
   omega
 have:=key l h.1
 exact ⟨h.2,by omega⟩
theorem aKa {s:Str} (h:(s == [])=true∨dJ s=true):s.length≤20:=by
 rcases h with h|h
 ·simp only [beq_iff_eq] at h;simp [h]
 ·simp only [dJ,Bool.and_eq_true,decide_eq_true_eq] at h;exact h.2.2
theorem aI7 {p:bX} (h:oZ p=true) (hs:p.isSet=true):(words nP p.scripts).length≤42∧(words qI p.styles).length≤41∧(words wV p.images).length≤39∧p.nonce.length≤20:=by
 simp only [oZ,hs,if_true,Bool.and_eq_true,Bool.or_eq_true] at h
 obtain ⟨⟨⟨h1,h2⟩,h3⟩,h4⟩:=h
 have k1:=yO h1
 have k2:=yO h2
 have k3:=yO h3
 refine ⟨by rw [tK];simp [nP];omega,by rw [tK];simp [qI];omega,by rw [tK];simp [wV];omega,aKa h4⟩
theorem oL [aB Tryz.prog] (p:bX) (hs:bE p≤274877906944):Ok Tryz.prog 96 [.agg (bD .view p)] (.str (gL p)):=by
 have c0:=aBz p (by omega)
 simp only [bD] at c0
 have hq:= @aI7 p
 simp only [bE] at hs
 have c1:Ok Tryz.prog 108 [.str [115,99,114,105,112,116],.sl .view 1 (p.scripts.map bS)] (.str (words nP p.scripts)):=wC nP p.scripts (by simp [nP];omega)
 have c2:Ok Tryz.prog 108 [.str [115,116,121,108,101],.sl .view 1 (p.styles.map bS)] (.str (words qI p.styles)):=wC qI p.styles (by simp [qI];omega)
 have c3:Ok Tryz.prog 108 [.str [105,109,103],.sl .view 1 (p.images.map bS)] (.str (words wV p.images)):=wC wV p.images (by simp [wV];omega)
 unfold gL
 by_cases h1:oZ p=true
 ·by_cases h2:p.isSet=true
  ·obtain ⟨k1,k2,k3,k4⟩:=hq h1 h2
   rw [if_pos ⟨h1,h2⟩]
   unfold aBh
   rw [h1,h2] at c0
   generalize words nP p.scripts=q1 at *
   generalize words qI p.styles=q2 at *
   generalize words wV p.images=q3 at *
   by_cases hn:p.nonce=[]
   ·rw [if_pos hn]
    rw [hn] at c0
    refine ent Tryz.mix Tryz.func96 Tryz.ntmps96 ?_
    have W:=And.intro h2 hn
    have V:=And.intro h2 hn
    repeat' first|refine st ?_|(refine nx ?_;first|refine se ?_|refine so ?_)|(refine cx ?_;refine sc (fun hc=>?_) (fun hc=>?_)<;>try exact hc.elim)|(refine lx ?_;refine sp (fun hc=>?_) (fun hc=>?_)<;>try exact hc.elim)|refine sx ?_ ?_|refine sy ?_ ?_|fail
    all_goals (try (refine ⟨.inr rfl,?_⟩;simp [Hands,Tryz.results96,h2,hn]))
   ·rw [if_neg hn]
    refine ent Tryz.mix Tryz.func96 Tryz.ntmps96 ?_
    have W:=And.intro h2 hn
    have V:=And.intro h2 hn
    repeat' first|refine st ?_|(refine nx ?_;first|refine se ?_|refine so ?_)|(refine cx ?_;refine sc (fun hc=>?_) (fun hc=>?_)<;>try exact hc.elim)|(refine lx ?_;refine sp (fun hc=>?_) (fun hc=>?_)<;>try exact hc.elim)|refine sx ?_ ?_|refine sy ?_ ?_|fail
    all_goals (try (refine ⟨.inr rfl,?_⟩;simp [Hands,Tryz.results96,h2,hn,aGl]))
    all_goals (exact absurd (by assumption) hn)
  ·rw [if_neg (fun h=>h2 h.2)]
   simp only [Bool.not_eq_true] at h2
   rw [h1,h2] at c0
   refine ent Tryz.mix Tryz.func96 Tryz.ntmps96 ?_
   have W:=h2
   have V:=h2
   repeat' first|refine st ?_|(refine nx ?_;first|refine se ?_|refine so ?_)|(refine cx ?_;refine sc (fun hc=>?_) (fun hc=>?_)<;>try exact hc.elim)|(refine lx ?_;refine sp (fun hc=>?_) (fun hc=>?_)<;>try exact hc.elim)|refine sx ?_ ?_|refine sy ?_ ?_|fail
   all_goals (try (refine ⟨.inr rfl,?_⟩;simp [Hands,Tryz.results96]))
 ·rw [if_neg (fun h=>h1 h.1)]
  simp only [Bool.not_eq_true] at h1
  rw [h1] at c0
  refine ent Tryz.mix Tryz.func96 Tryz.ntmps96 ?_
  have W:=trivial
  repeat' first|refine st ?_|(refine nx ?_;first|refine se ?_|refine so ?_)|(refine cx ?_;refine sc (fun hc=>?_) (fun hc=>?_)<;>try exact hc.elim)|(refine lx ?_;refine sp (fun hc=>?_) (fun hc=>?_)<;>try exact hc.elim)|refine sx ?_ ?_|refine sy ?_ ?_|fail
  all_goals (try (refine ⟨.inr rfl,?_⟩;simp [Hands,Tryz.results96]))
end Go.Proofs.YtejigeoigebhcaaGreat
