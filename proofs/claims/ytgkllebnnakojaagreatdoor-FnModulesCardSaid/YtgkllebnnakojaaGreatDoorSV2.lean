/-
  Proved here: steps towards the statement of this claim, text SV2.
  No condition beyond what each statement spells out.
-/
import Derived.Test.YtgkllebnnakojaaGreatDoorQFI
import Derived.Test.YtgkllebnnakojaaGreatDoorQY1
import Derived.Test.YtgkllebnnakojaaGreatDoorQP5
import Derived.Test.YtgkllebnnakojaaGreatDoorF8
import Derived.Test.YtgkllebnnakojaaGreatDoorF3
import Derived.Test.YtgkllebnnakojaaGreatDoorAwNest4
set_option linter.all false
set_option maxRecDepth 4000
set_option maxHeartbeats 4000000
namespace Go.Proofs.YtgkllebnnakojaaGreatDoor
open Go.Aw
def vF (s:bX) (i:Nat):Bool:=match s.files[i]? with
 |some f=>dA f.path&&(eG f.response&&(s.files.take i).all fun g=> !(g.path == f.path))
 |none=>true
def kC (s:bX):Bool:=(List.range s.files.length).all (vF s)&&(dA s.host&&decide ((s.files.length:Int)≤10))
theorem wY {s:bX} {k:Nat} (hk:k < s.files.length) (h:vF s k=false):kC s=false:=by
 unfold kC
 rw [Bool.and_eq_false_iff]
 left
 rw [List.all_eq_false]
 exact ⟨k,by simpa using hk,by simp [h]⟩
theorem aLe {s:bX} (h:∀i,i < s.files.length→vF s i=true):kC s=(dA s.host&&decide ((s.files.length:Int)≤10)):=by
 unfold kC
 rw [List.all_eq_true.2 fun i hi=>h i (by simpa using hi),Bool.true_and]
theorem nD [aB Tryz.prog] [cO Tryz.prog] (s:bX) (hs:aW s≤16777216):Ok Tryz.prog 100 [.agg (aQ .view s)] (.bool (kC s)):=by
 simp only [aW,szL] at hs
 have hsl:s.files.length≤16777216:=by omega
 refine ent Tryz.mix Tryz.func100 Tryz.ntmps100 ?_
 have W:=trivial
 repeat' first|refine st ?_|(refine nx ?_;first|refine se ?_|refine so ?_)|(refine cx ?_;refine sc (fun hc=>?_) (fun hc=>?_)<;>try exact hc.elim)|(refine lx ?_;refine sp (fun hc=>?_) (fun hc=>?_)<;>try exact hc.elim)|refine sx ?_ ?_|refine sy ?_ ?_|fail
 refine aT (ι:={k:Nat // k≤s.files.length∧∀i,i < k→vF s i=true}) (fun t o i=>⟨bB t [(3,.int .i64 i.1)],o⟩)
  (fun i=>s.files.length - i.1) ⟨0,by simp,by simp⟩ (aI (by simp) (by simp)) ?_
 rintro ⟨k,hk,hi⟩ K1 hK1
 simp only [bB,List.set_cons_succ,List.set_cons_zero] at hK1⊢
 have hk1:IntKind.i64.wrap ((k:Int)+1)=((k+1:Nat):Int):=by rw [wrap64]<;>omega
 by_cases hlt:k < s.files.length
 ·have hg:=List.getElem?_eq_getElem hlt
  have hz:=iK tL s.files k hlt
  simp only [tL] at hz
  have c1:=gY s.files[k].path (by omega)
  have c2:=oF s.files[k].response (by omega)
  simp only [bU] at c2
  have hok:vF s k=(dA s.files[k].path&&(eG s.files[k].response&&(s.files.take k).all fun g=> !(g.path == s.files[k].path))):=by unfold vF;rw [hg]
  generalize dA s.files[k].path=b1 at *
  generalize eG s.files[k].response=b2 at *
  cases b1
  ·rw [wY hlt (by rw [hok];rfl)]
   clear hi hok
   have W:=And.intro hk1 (And.intro hg hlt)
   repeat' first|refine st ?_|(refine nx ?_;first|refine se ?_|refine so ?_)|(refine cx ?_;refine sc (fun hc=>?_) (fun hc=>?_)<;>try exact hc.elim)|(refine lx ?_;refine sp (fun hc=>?_) (fun hc=>?_)<;>try exact hc.elim)|refine sx ?_ ?_|refine sy ?_ ?_|fail
   all_goals (try (refine ⟨.inr rfl,?_⟩;simp [Hands,Tryz.results100]))
  ·cases b2
   ·rw [wY hlt (by rw [hok];rfl)]
    clear hi hok
    have W:=And.intro hk1 (And.intro hg hlt)
    repeat' first|refine st ?_|(refine nx ?_;first|refine se ?_|refine so ?_)|(refine cx ?_;refine sc (fun hc=>?_) (fun hc=>?_)<;>try exact hc.elim)|(refine lx ?_;refine sp (fun hc=>?_) (fun hc=>?_)<;>try exact hc.elim)|refine sx ?_ ?_|refine sy ?_ ?_|fail
    all_goals (try (refine ⟨.inr rfl,?_⟩;simp [Hands,Tryz.results100]))
   ·rw [Bool.true_and,Bool.true_and] at hok
    have hnext:(∀g∈s.files.take k,(g.path == s.files[k].path)=false)→∀i,i < k+1→vF s i=true:=fun h i h1=>by
     rcases Nat.lt_succ_iff_lt_or_eq.1 h1 with h2|rfl
     ·exact hi i h2
     ·rw [hok,List.all_eq_true]
      intro g hgm
      simp [h g hgm]
    have hbad:∀j,(hj:j < k)→(s.files[j].path == s.files[k].path)=true→kC s=false:=fun j hj he=>wY hlt (by
     rw [hok,List.all_eq_false]
     exact ⟨s.files[j],List.mem_take_iff_getElem.2 ⟨j,by omega,rfl⟩,by simp [he]⟩)
    clear hi hok
    generalize hW:kC s=w at *
    have W:=And.intro hk1 (And.intro hg hlt)
    repeat' first|refine st ?_|(refine nx ?_;first|refine se ?_|refine so ?_)|(refine cx ?_;refine sc (fun hc=>?_) (fun hc=>?_)<;>try exact hc.elim)|(refine lx ?_;refine sp (fun hc=>?_) (fun hc=>?_)<;>try exact hc.elim)|refine sx ?_ ?_|refine sy ?_ ?_|fail
    have hK2:=hK1
    clear hK1
    refine aT (ι:={j:Nat // j≤k∧∀g∈s.files.take j,(g.path == s.files[k].path)=false}) (fun t o j=>⟨bB t [(4,.int .i64 (j.1:Int))],o⟩) (fun j=>k - j.1) ⟨0,by simp⟩ (aI (by simp) (by simp)) ?_
    rintro ⟨j,hj,hpj⟩ K3 hK3
    simp only [bB,List.set_cons_succ,List.set_cons_zero] at hK3⊢
    have hK4:=hK3
    clear hK3
    have hj1:IntKind.i64.wrap ((j:Int)+1)=((j+1:Nat):Int):=by rw [wrap64]<;>omega
    by_cases hjk:j < k
    ·have hji:(j:Int) < (k:Int):=by omega
     have hjl:j < s.files.length:=by omega
     have hg2:=List.getElem?_eq_getElem hjl
     have hb2:=hbad j hjk
     have hpn:(s.files[j].path == s.files[k].path)=false→∀g∈s.files.take (j+1),(g.path == s.files[k].path)=false:=fun he g hgm=>by
      rw [List.take_succ_eq_append_getElem hjl,List.mem_append] at hgm
      rcases hgm with hgm|hgm
      ·exact hpj g hgm
      ·simp only [List.mem_singleton] at hgm;subst hgm;exact he
     clear hpj hbad hnext
     cases he:s.files[j].path == s.files[k].path
     ·have hpn2:=hpn he
      clear hpn hb2
      have W:=And.intro hji (And.intro hg (And.intro hlt (And.intro hg2 (And.intro hjl (And.intro he hj1)))))
      repeat' first|refine st ?_|(refine nx ?_;first|refine se ?_|refine so ?_)|(refine cx ?_;refine sc (fun hc=>?_) (fun hc=>?_)<;>try exact hc.elim)|(refine lx ?_;refine sp (fun hc=>?_) (fun hc=>?_)<;>try exact hc.elim)|refine sx ?_ ?_|refine sy ?_ ?_|fail
      exact hK4 _ ⟨j+1,by omega,hpn2⟩ (aI (by simp) (by simp)) (by simp only;omega)
     ·have hw:=hb2 he
      subst hw
      clear hb2 hpn hK4
      have W:=And.intro hji (And.intro hg (And.intro hlt (And.intro hg2 (And.intro hjl he))))
      repeat' first|refine st ?_|(refine nx ?_;first|refine se ?_|refine so ?_)|(refine cx ?_;refine sc (fun hc=>?_) (fun hc=>?_)<;>try exact hc.elim)|(refine lx ?_;refine sp (fun hc=>?_) (fun hc=>?_)<;>try exact hc.elim)|refine sx ?_ ?_|refine sy ?_ ?_|fail
      all_goals (try (refine ⟨.inr rfl,?_⟩;simp [Hands,Tryz.results100]))
    ·have hji:¬(j:Int) < (k:Int):=by omega
     obtain rfl:j=k:=by omega
     have hn2:=hnext hpj
     clear hK4 hpj hnext hbad
     have W:=And.intro hji hk1
     repeat' first|refine st ?_|(refine nx ?_;first|refine se ?_|refine so ?_)|(refine cx ?_;refine sc (fun hc=>?_) (fun hc=>?_)<;>try exact hc.elim)|(refine lx ?_;refine sp (fun hc=>?_) (fun hc=>?_)<;>try exact hc.elim)|refine sx ?_ ?_|refine sy ?_ ?_|fail
     exact hK2 _ ⟨j+1,by omega,hn2⟩ (aI (by simp) (by simp)) (by simp only;omega)
 ·have c3:=gY s.host (by omega)
  rw [aLe fun i h=>hi i (by omega)]
  clear hi
  generalize dA s.host=b3 at *
  cases b3
  ·have W:=hk1
   repeat' first|refine st ?_|(refine nx ?_;first|refine se ?_|refine so ?_)|(refine cx ?_;refine sc (fun hc=>?_) (fun hc=>?_)<;>try exact hc.elim)|(refine lx ?_;refine sp (fun hc=>?_) (fun hc=>?_)<;>try exact hc.elim)|refine sx ?_ ?_|refine sy ?_ ?_|fail
   all_goals (try (refine ⟨.inr rfl,?_⟩;simp [Hands,Tryz.results100]))
  ·have W:=hk1
   repeat' first|refine st ?_|(refine nx ?_;first|refine se ?_|refine so ?_)|(refine cx ?_;refine sc (fun hc=>?_) (fun hc=>?_)<;>try exact hc.elim)|(refine lx ?_;refine sp (fun hc=>?_) (fun hc=>?_)<;>try exact hc.elim)|refine sx ?_ ?_|refine sy ?_ ?_|fail
   all_goals (try (refine ⟨.inr rfl,?_⟩;simp [Hands,Tryz.results100]))
end Go.Proofs.YtgkllebnnakojaaGreatDoor
