/-
  Proved here: steps towards the statement of this claim, text I5.
  No condition beyond what each statement spells out.
-/
import Derived.Test.YtejigeoigebhcaaGreatAI4
import Derived.Test.YtejigeoigebhcaaGreatAF9
set_option linter.all false
set_option maxRecDepth 4000
set_option maxHeartbeats 4000000
namespace Go.Proofs.YtejigeoigebhcaaGreat
open Go.Aw
theorem vO (l:List bT) (k:Nat):List.drop k (List.take l.length (List.map bL l))=List.drop k (List.map bL l):=by rw [List.take_of_length_le (by simp)]
theorem tV (l:List bT) (a:aP) (k:Nat) (d:Bool) (c:Int):cB (List.take k (List.map bL l)++[.str a.host,.str a.path,.bool d,.int .i64 c,.str []]::List.drop k (List.map bL l))=true:=by
 have e:List.take k (List.map bL l)++[.str a.host,.str a.path,.bool d,.int .i64 c,.str []]::List.drop k (List.map bL l)=(l.take k++⟨a,d,c,[]⟩::l.drop k).map bL:=by simp
 rw [e];exact aEf _
theorem aAh [aB Tryz.prog] (p:aS) (a:aP) (hs:aJ p≤137438953472) (ha:bG a≤1073741824):Ok Tryz.prog 45 [.agg (aR .view p),.agg (aO a)] (.agg (aR .own (bJ p a))):=by
 have c1:=mM p (by omega)
 have hsn:p.mods.length≤274877906944:=by simp only [aJ,szL] at hs;omega
 have hpol:bE p.policy≤274877906944:=by simp only [aJ] at hs;omega
 have cc:=fun b=>oN b a
 have cK:=oM p.policy ⟨5,a,p.addr.host,[]⟩ (by omega) (by simp only [fF,List.length_nil];simp only [aJ,bG] at hs;omega)
 simp only [bD,dH] at cK
 simp only [aR] at c1
 simp only [aO] at cc
 refine ent Tryz.mix Tryz.func45 Tryz.ntmps45 ?_
 have W:=trivial
 repeat' first|refine st ?_|(refine nx ?_;first|refine sz ?_|refine so ?_)|(refine cx ?_;refine sc (fun hc=>?_) (fun hc=>?_)<;>try exact hc.elim)|(refine lx ?_;refine sp (fun hc=>?_) (fun hc=>?_)<;>try exact hc.elim)|refine sx ?_ ?_|refine sy ?_ ?_|fail
 refine aQ (ι:={k:Nat // k≤p.mods.length∧∀x∈p.mods.take k,cmpAddr x.to a < 0}) (fun t o i=>⟨bB t [(6,.int .i64 i.1)],o⟩)
  (fun i=>p.mods.length - i.1) ⟨0,by simp,by simp⟩ (aY (by simp) (by simp)) ?_
 rintro ⟨k,hk,hpre⟩ K1 hK1
 simp only [bB,List.set_cons_succ,List.set_cons_zero] at hK1⊢
 have hk1:IntKind.i64.wrap ((k:Int)+1)=((k+1:Nat):Int):=by rw [wrap64]<;>omega
 by_cases hlt:k < p.mods.length
 ·have hg:=List.getElem?_eq_getElem hlt
  have c2:=cc p.mods[k].to
  by_cases hcm:cmpAddr p.mods[k].to a < 0
  ·have hnx:∀x∈p.mods.take (k+1),cmpAddr x.to a < 0:=by
    intro x hx
    rw [List.take_succ_eq_append_getElem hlt,List.mem_append] at hx
    rcases hx with h|h
    ·exact hpre x h
    ·simp at h;subst h;exact hcm
   have W:=And.intro hk1 (And.intro hg (And.intro hlt hcm))
   repeat' first|refine st ?_|(refine nx ?_;first|refine sz ?_|refine so ?_)|(refine cx ?_;refine sc (fun hc=>?_) (fun hc=>?_)<;>try exact hc.elim)|(refine lx ?_;refine sp (fun hc=>?_) (fun hc=>?_)<;>try exact hc.elim)|refine sx ?_ ?_|refine sy ?_ ?_|fail
   exact hK1 _ ⟨k+1,by omega,hnx⟩ (aY (by simp) (by simp)) (by simp only;omega)
  ·have hat:dA p.mods a=k:=oQ hk hpre (fun m hm=>by rw [hg] at hm;obtain rfl:=Option.some.inj hm;exact hcm)
   by_cases hto:p.mods[k].to=a
   ·rw [aDk (by rw [hat];exact hg) hto]
    have ce:=lD p.mods[k].to a
    rw [decide_eq_true hto] at ce
    simp only [aO] at ce
    have W:=And.intro hk1 (And.intro hg (And.intro hlt hcm))
    have c0:=ce
    repeat' first|refine st ?_|(refine nx ?_;first|refine sz ?_|refine so ?_)|(refine cx ?_;refine sc (fun hc=>?_) (fun hc=>?_)<;>try exact hc.elim)|(refine lx ?_;refine sp (fun hc=>?_) (fun hc=>?_)<;>try exact hc.elim)|refine sx ?_ ?_|refine sy ?_ ?_|fail
    all_goals (try (refine ⟨.inr rfl,?_⟩;simp [Hands,Tryz.results45]))
   ·have hno:∀m,p.mods[dA p.mods a]? =some m→m.to≠a:=fun m hm=>by rw [hat,hg] at hm;obtain rfl:=Option.some.inj hm;exact hto
    have ce:=lD p.mods[k].to a
    rw [decide_eq_false hto] at ce
    simp only [aO] at ce
    rw [zD hno,hat]
    unfold eZ lL
    by_cases hck:bR p.policy ⟨5,a,p.addr.host,[]⟩=1
    ·simp only [hck,if_true]
     rw [hck] at cK
     have W:=And.intro hk1 (And.intro hg (And.intro hlt (And.intro hcm hk)))
     have c0:=ce
     repeat' first|refine st ?_|(refine nx ?_;first|refine sz ?_|refine so ?_)|(refine cx ?_;refine sc (fun hc=>?_) (fun hc=>?_)<;>try exact hc.elim)|(refine lx ?_;refine sp (fun hc=>?_) (fun hc=>?_)<;>try exact hc.elim)|refine sx ?_ ?_|refine sy ?_ ?_|fail
     all_goals (try (refine ⟨.inr rfl,?_⟩;simp [Hands,Tryz.results45]))
     all_goals exact ⟨vO p.mods k,tV p.mods a k _ _⟩
    ·simp only [hck,if_false]
     have W:=And.intro hk1 (And.intro hg (And.intro hlt (And.intro hcm (And.intro hk hck))))
     have c0:=ce
     repeat' first|refine st ?_|(refine nx ?_;first|refine sz ?_|refine so ?_)|(refine cx ?_;refine sc (fun hc=>?_) (fun hc=>?_)<;>try exact hc.elim)|(refine lx ?_;refine sp (fun hc=>?_) (fun hc=>?_)<;>try exact hc.elim)|refine sx ?_ ?_|refine sy ?_ ?_|fail
     all_goals (try (refine ⟨.inr rfl,?_⟩;simp [Hands,Tryz.results45]))
     all_goals exact ⟨vO p.mods k,tV p.mods a k _ _⟩
 ·have hat:dA p.mods a=k:=oQ hk hpre (fun m hm=>by rw [List.getElem?_eq_none (by omega)] at hm;cases hm)
  have hno:∀m,p.mods[dA p.mods a]? =some m→m.to≠a:=fun m hm=>by rw [hat,List.getElem?_eq_none (by omega)] at hm;cases hm
  rw [zD hno,hat]
  unfold eZ lL
  by_cases hck:bR p.policy ⟨5,a,p.addr.host,[]⟩=1
  ·simp only [hck,if_true]
   rw [hck] at cK
   have W:=And.intro hk1 (And.intro hlt hk)
   repeat' first|refine st ?_|(refine nx ?_;first|refine sz ?_|refine so ?_)|(refine cx ?_;refine sc (fun hc=>?_) (fun hc=>?_)<;>try exact hc.elim)|(refine lx ?_;refine sp (fun hc=>?_) (fun hc=>?_)<;>try exact hc.elim)|refine sx ?_ ?_|refine sy ?_ ?_|fail
   all_goals (try (refine ⟨.inr rfl,?_⟩;simp [Hands,Tryz.results45]))
   all_goals exact ⟨vO p.mods k,tV p.mods a k _ _⟩
  ·simp only [hck,if_false]
   have W:=And.intro hk1 (And.intro hlt (And.intro hk hck))
   repeat' first|refine st ?_|(refine nx ?_;first|refine sz ?_|refine so ?_)|(refine cx ?_;refine sc (fun hc=>?_) (fun hc=>?_)<;>try exact hc.elim)|(refine lx ?_;refine sp (fun hc=>?_) (fun hc=>?_)<;>try exact hc.elim)|refine sx ?_ ?_|refine sy ?_ ?_|fail
   all_goals (try (refine ⟨.inr rfl,?_⟩;simp [Hands,Tryz.results45]))
   all_goals exact ⟨vO p.mods k,tV p.mods a k _ _⟩
end Go.Proofs.YtejigeoigebhcaaGreat
