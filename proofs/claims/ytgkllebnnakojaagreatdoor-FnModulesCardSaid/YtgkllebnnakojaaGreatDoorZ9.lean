/-
  Proved here: steps towards the statement of this claim, text Z9.
  No condition beyond what each statement spells out.
-/
import Derived.Test.YtgkllebnnakojaaGreatDoorQMD0
set_option linter.all false
set_option maxRecDepth 4000
set_option maxHeartbeats 4000000
namespace Go.Proofs.YtgkllebnnakojaaGreatDoor
open Go.Aw
theorem aCa [aB Tryz.prog] [cO Tryz.prog] (p:aJ) (a:aC) (hs:szL bJ p.mods+aK a≤16777216):Ok Tryz.prog 15 [.agg (aL .view p),.agg (aD a)] (.bool (mM p a)):=by
 obtain ⟨hB,_⟩:=uT p a hs
 obtain ⟨z1,_,hU⟩:=rC p a hs
 have c0:=rA p _ hB a (by simp)
 have cm:=fun b=>uX p b (by simp only [bL,szL] at hs;omega)
 unfold mM
 generalize bC p a=L at *
 simp only [aD,aL] at c0 cm
 have hlen:(L.map aD).length=L.length:=by simp
 refine ent Tryz.mix Tryz.func15 Tryz.ntmps15 ?_
 have W:=trivial
 repeat' first|refine st ?_|(refine nx ?_;first|refine se ?_|refine so ?_)|(refine cx ?_;refine sc (fun hc=>?_) (fun hc=>?_)<;>try exact hc.elim)|(refine lx ?_;refine sp (fun hc=>?_) (fun hc=>?_)<;>try exact hc.elim)|refine sx ?_ ?_|refine sy ?_ ?_|fail
 refine aT (ι:={k:Nat // k≤L.length∧∀x∈L.take k,fA p x=true}) (fun t o i=>⟨bB t [(15,.int .i64 i.1),(16,.undef),(17,.undef),(18,.undef),(6,.undef),(7,.undef),(8,.undef),(9,.undef)],o.take 3⟩)
  (fun i=>L.length - i.1) ⟨0,by simp,by simp⟩ (aI (by simp) (by simp)) ?_
 rintro ⟨k,hk,hpre⟩ K1 hK1
 simp only [bB,List.set_cons_succ,List.set_cons_zero] at hK1⊢
 have hk1:IntKind.i64.wrap ((k:Int)+1)=((k+1:Nat):Int):=by rw [wrap64]<;>omega
 by_cases hlt:k < L.length
 ·have hg:=List.getElem?_eq_getElem hlt
  have c1:=cm L[k]
  have hnext:fA p L[k]=true→∀x∈L.take (k+1),fA p x=true:=fun h=>dD hlt hpre h
  have hbad:fA p L[k]=false→L.all (fA p)=false:=fun h=>aEd k hlt h
  rcases gZ (dJ L[k]) p.mods with ⟨hi,hf⟩|⟨j,hj,hi,hf⟩
  ·have hd:fA p L[k]=false:=by unfold fA;rw [hf]
   rw [hi] at c1
   have hres:=hbad hd
   have W:=And.intro hk1 (And.intro hg hlt)
   repeat' first|refine st ?_|(refine nx ?_;first|refine se ?_|refine so ?_)|(refine cx ?_;refine sc (fun hc=>?_) (fun hc=>?_)<;>try exact hc.elim)|(refine lx ?_;refine sp (fun hc=>?_) (fun hc=>?_)<;>try exact hc.elim)|refine sx ?_ ?_|refine sy ?_ ?_|fail
   all_goals (try (refine ⟨.inr rfl,?_⟩;simp [Hands,Tryz.results15,hres]))
  ·have hd:fA p L[k]=if p.mods[j].done=true∧p.mods[j].code=1 then (aN p.mods[j].body L[k].host).2.2 else false:=by unfold fA;rw [hf]
   rw [hi] at c1
   have hgm:=List.getElem?_eq_getElem hj
   have hj0:¬(j:Int) < 0:=by omega
   have hmz:=gI bJ (List.getElem_mem hj)
   have hha:=hB.host _ (hU _ (List.getElem_mem hlt))
   simp only [bL,szL] at hs
   simp only [bJ,aK] at hmz
   have cp:=nI p.mods[j].body L[k].host (by omega) hha
   cases hdone:p.mods[j].done
   ·have hres:=hbad (by rw [hd,hdone];simp)
    have W:=And.intro hk1 (And.intro hg (And.intro hlt (And.intro hgm (And.intro hj (And.intro hj0 hdone)))))
    repeat' first|refine st ?_|(refine nx ?_;first|refine se ?_|refine so ?_)|(refine cx ?_;refine sc (fun hc=>?_) (fun hc=>?_)<;>try exact hc.elim)|(refine lx ?_;refine sp (fun hc=>?_) (fun hc=>?_)<;>try exact hc.elim)|refine sx ?_ ?_|refine sy ?_ ?_|fail
    all_goals (try (refine ⟨.inr rfl,?_⟩;simp [Hands,Tryz.results15,hres]))
   ·by_cases hcode:p.mods[j].code=1
    ·rw [if_pos ⟨hdone,hcode⟩] at hd
     generalize aN p.mods[j].body L[k].host=u at *
     obtain ⟨g,d,c⟩:=u
     simp only at hd cp
     cases c
     ·have hres:=hbad hd
      have W:=And.intro hk1 (And.intro hg (And.intro hlt (And.intro hgm (And.intro hj (And.intro hj0 (And.intro hdone hcode))))))
      repeat' first|refine st ?_|(refine nx ?_;first|refine se ?_|refine so ?_)|(refine cx ?_;refine sc (fun hc=>?_) (fun hc=>?_)<;>try exact hc.elim)|(refine lx ?_;refine sp (fun hc=>?_) (fun hc=>?_)<;>try exact hc.elim)|refine sx ?_ ?_|refine sy ?_ ?_|fail
      all_goals (try (refine ⟨.inr rfl,?_⟩;simp [Hands,Tryz.results15,hres]))
     ·have hnx:=hnext hd
      have W:=And.intro hk1 (And.intro hg (And.intro hlt (And.intro hgm (And.intro hj (And.intro hj0 (And.intro hdone hcode))))))
      repeat' first|refine st ?_|(refine nx ?_;first|refine se ?_|refine so ?_)|(refine cx ?_;refine sc (fun hc=>?_) (fun hc=>?_)<;>try exact hc.elim)|(refine lx ?_;refine sp (fun hc=>?_) (fun hc=>?_)<;>try exact hc.elim)|refine sx ?_ ?_|refine sy ?_ ?_|fail
      exact hK1 _ ⟨k+1,by omega,hnx⟩ (aO 3 (by simp) (by simp) (by simp) (by simp)) (by simp only;omega)
    ·have hres:=hbad (by rw [hd,if_neg (fun h=>hcode h.2)])
     have W:=And.intro hk1 (And.intro hg (And.intro hlt (And.intro hgm (And.intro hj (And.intro hj0 (And.intro hdone hcode))))))
     repeat' first|refine st ?_|(refine nx ?_;first|refine se ?_|refine so ?_)|(refine cx ?_;refine sc (fun hc=>?_) (fun hc=>?_)<;>try exact hc.elim)|(refine lx ?_;refine sp (fun hc=>?_) (fun hc=>?_)<;>try exact hc.elim)|refine sx ?_ ?_|refine sy ?_ ?_|fail
     all_goals (try (refine ⟨.inr rfl,?_⟩;simp [Hands,Tryz.results15,hres]))
 ·have hres:L.all (fA p)=true:=aBr (by have:=hpre;rwa [List.take_of_length_le (by omega)] at this)
  have W:=And.intro hk1 hlt
  repeat' first|refine st ?_|(refine nx ?_;first|refine se ?_|refine so ?_)|(refine cx ?_;refine sc (fun hc=>?_) (fun hc=>?_)<;>try exact hc.elim)|(refine lx ?_;refine sp (fun hc=>?_) (fun hc=>?_)<;>try exact hc.elim)|refine sx ?_ ?_|refine sy ?_ ?_|fail
  all_goals (try (refine ⟨.inr rfl,?_⟩;simp [Hands,Tryz.results15,hres]))
theorem aCc [aB Tryz.prog] [cO Tryz.prog] (p:aJ) (a:aC) (hs:szL bJ p.mods+aK a≤16777216):Ok Tryz.prog 16 [.agg (aL .view p),.agg (aD a)] (.bool (mM p a)):=by
 obtain ⟨hB,_⟩:=uT p a hs
 obtain ⟨z1,_,hU⟩:=rC p a hs
 have c0:=nX p _ hB a (by simp)
 have cm:=fun b hb=>xV p _ hB b hb
 unfold mM
 generalize bC p a=L at *
 simp only [aD,aL] at c0 cm
 have hlen:(L.map aD).length=L.length:=by simp
 refine ent Tryz.mix Tryz.func16 Tryz.ntmps16 ?_
 have W:=trivial
 repeat' first|refine st ?_|(refine nx ?_;first|refine se ?_|refine so ?_)|(refine cx ?_;refine sc (fun hc=>?_) (fun hc=>?_)<;>try exact hc.elim)|(refine lx ?_;refine sp (fun hc=>?_) (fun hc=>?_)<;>try exact hc.elim)|refine sx ?_ ?_|refine sy ?_ ?_|fail
 refine aT (ι:={k:Nat // k≤L.length∧∀x∈L.take k,fA p x=true}) (fun t o i=>⟨bB t [(6,.int .i64 i.1),(7,.undef),(8,.undef)],o.take 3⟩)
  (fun i=>L.length - i.1) ⟨0,by simp,by simp⟩ (aI (by simp) (by simp)) ?_
 rintro ⟨k,hk,hpre⟩ K1 hK1
 simp only [bB,List.set_cons_succ,List.set_cons_zero] at hK1⊢
 have hk1:IntKind.i64.wrap ((k:Int)+1)=((k+1:Nat):Int):=by rw [wrap64]<;>omega
 by_cases hlt:k < L.length
 ·have hg:=List.getElem?_eq_getElem hlt
  have c1:=cm L[k] (hU _ (List.getElem_mem hlt))
  have hnext:fA p L[k]=true→∀x∈L.take (k+1),fA p x=true:=fun h=>dD hlt hpre h
  have hbad:fA p L[k]=false→L.all (fA p)=false:=fun h=>aEd k hlt h
  generalize bR p L[k]=g at *
  cases hd:fA p L[k]
  ·have hres:=hbad hd
   rw [hd] at c1
   have W:=And.intro hk1 (And.intro hg hlt)
   repeat' first|refine st ?_|(refine nx ?_;first|refine se ?_|refine so ?_)|(refine cx ?_;refine sc (fun hc=>?_) (fun hc=>?_)<;>try exact hc.elim)|(refine lx ?_;refine sp (fun hc=>?_) (fun hc=>?_)<;>try exact hc.elim)|refine sx ?_ ?_|refine sy ?_ ?_|fail
   all_goals (try (refine ⟨.inr rfl,?_⟩;simp [Hands,Tryz.results16,hres]))
  ·have hnx:=hnext hd
   rw [hd] at c1
   have W:=And.intro hk1 (And.intro hg hlt)
   repeat' first|refine st ?_|(refine nx ?_;first|refine se ?_|refine so ?_)|(refine cx ?_;refine sc (fun hc=>?_) (fun hc=>?_)<;>try exact hc.elim)|(refine lx ?_;refine sp (fun hc=>?_) (fun hc=>?_)<;>try exact hc.elim)|refine sx ?_ ?_|refine sy ?_ ?_|fail
   exact hK1 _ ⟨k+1,by omega,hnx⟩ (aO 3 (by simp) (by simp) (by simp) (by simp)) (by simp only;omega)
 ·have hres:L.all (fA p)=true:=aBr (by have:=hpre;rwa [List.take_of_length_le (by omega)] at this)
  have W:=And.intro hk1 hlt
  repeat' first|refine st ?_|(refine nx ?_;first|refine se ?_|refine so ?_)|(refine cx ?_;refine sc (fun hc=>?_) (fun hc=>?_)<;>try exact hc.elim)|(refine lx ?_;refine sp (fun hc=>?_) (fun hc=>?_)<;>try exact hc.elim)|refine sx ?_ ?_|refine sy ?_ ?_|fail
  all_goals (try (refine ⟨.inr rfl,?_⟩;simp [Hands,Tryz.results16,hres]))
end Go.Proofs.YtgkllebnnakojaaGreatDoor
