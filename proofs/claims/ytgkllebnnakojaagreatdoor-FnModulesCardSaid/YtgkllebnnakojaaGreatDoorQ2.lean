/-
  Proved here: steps towards the statement of this claim, text Q2.
  No condition beyond what each statement spells out.
-/
import Derived.Test.YtgkllebnnakojaaGreatDoorQA0
import Derived.Test.YtgkllebnnakojaaGreatDoorF6
set_option linter.all false
set_option maxRecDepth 4000
set_option maxHeartbeats 4000000
namespace Go.Proofs.YtgkllebnnakojaaGreatDoor
open Go.Aw
theorem aQf {a b:aC}:aD a=aD b↔a=b:=by
 obtain ⟨a1,a2⟩:=a
 obtain ⟨b1,b2⟩:=b
 simp
theorem lW (a b:aC):EqA Tryz.prog 25 (aD a) (aD b) (decide (a=b)):=
 aWm (f:=6) (ss:=[.str,.str]) (by decide) (by kernel_rfl) (by kernel_rfl) (by kernel_rfl) (by kernel_rfl) (by simp [jT,uV]) (by simp [jT,uV]) (by rw [aQf,decide_eq_true_iff])
def dJ (a:aC) (m:bQ):Bool:=decide (m.to=a)
theorem sD [aB Tryz.prog] (p:aJ) (a:aC) (hl:p.mods.length≤1099511627776):Ok Tryz.prog 33 [.agg (aL .view p),.agg (aD a)] (.int .i64 (dZ (dJ a) p.mods)):=by
 refine ent Tryz.mix Tryz.func33 Tryz.ntmps33 ?_
 have W:=trivial
 repeat' first|refine st ?_|(refine nx ?_;first|refine se ?_|refine so ?_)|(refine cx ?_;refine sc (fun hc=>?_) (fun hc=>?_)<;>try exact hc.elim)|(refine lx ?_;refine sp (fun hc=>?_) (fun hc=>?_)<;>try exact hc.elim)|refine sx ?_ ?_|refine sy ?_ ?_|fail
 refine aT (ι:={k:Nat // k≤p.mods.length∧∀x∈p.mods.take k,dJ a x=false}) (fun t o i=>⟨bB t [(5,.int .i64 i.1)],o⟩)
  (fun i=>p.mods.length - i.1) ⟨0,by simp⟩ (aI (by simp) (by simp)) ?_
 rintro ⟨k,hk,hpre⟩ K1 hK1
 simp only [bB,List.set_cons_succ,List.set_cons_zero] at hK1⊢
 have hk1:IntKind.i64.wrap ((k:Int)+1)=((k+1:Nat):Int):=by rw [wrap64]<;>omega
 by_cases hlt:k < p.mods.length
 ·have hg:=List.getElem?_eq_getElem hlt
  have W:=And.intro hk1 (And.intro hg hlt)
  have c0:=lW p.mods[k].to a
  repeat' first|refine st ?_|(refine nx ?_;first|refine se ?_|refine so ?_)|(refine cx ?_;refine sc (fun hc=>?_) (fun hc=>?_)<;>try exact hc.elim)|(refine lx ?_;refine sp (fun hc=>?_) (fun hc=>?_)<;>try exact hc.elim)|refine sx ?_ ?_|refine sy ?_ ?_|fail
  ·all_goals (try (refine ⟨.inr rfl,?_⟩;simp [Hands,Tryz.results33]))
   rw [qA hlt (by simpa [dJ] using hc) hpre]
  ·exact hK1 _ ⟨k+1,by omega,dD hlt hpre (by simpa [dJ] using hc)⟩ (aI (by simp) (by simp)) (by simp only;omega)
 ·have W:=hk1
  repeat' first|refine st ?_|(refine nx ?_;first|refine se ?_|refine so ?_)|(refine cx ?_;refine sc (fun hc=>?_) (fun hc=>?_)<;>try exact hc.elim)|(refine lx ?_;refine sp (fun hc=>?_) (fun hc=>?_)<;>try exact hc.elim)|refine sx ?_ ?_|refine sy ?_ ?_|fail
  all_goals (try (refine ⟨.inr rfl,?_⟩;simp [Hands,Tryz.results33]))
  rw [nO (iL (by omega) hpre)]
theorem aPu [aB Tryz.prog] (m:bQ) (a:aC):Ok Tryz.prog 59 [.agg (dQ m),.vptr .view (aD a) 0] (.bool (dJ a m)):=by
 refine ent Tryz.mix Tryz.func59 Tryz.ntmps59 ?_
 have W:=trivial
 have c0:=lW m.to a
 repeat' first|refine st ?_|(refine nx ?_;first|refine se ?_|refine so ?_)|(refine cx ?_;refine sc (fun hc=>?_) (fun hc=>?_)<;>try exact hc.elim)|(refine lx ?_;refine sp (fun hc=>?_) (fun hc=>?_)<;>try exact hc.elim)|refine sx ?_ ?_|refine sy ?_ ?_|fail
 all_goals (try (refine ⟨.inr rfl,?_⟩;simp [Hands,Tryz.results59]))
 rfl
theorem aMc [aB Tryz.prog] (l:List bQ) (a:aC) (hl:l.length≤1099511627776):Ok Tryz.prog 58 [.sl .view 5 (l.map dQ),.fn 59 [.vptr .view (aD a) 0]] (.int .i64 (dZ (dJ a) l)):=by
 refine ent Tryz.mix Tryz.func58 Tryz.ntmps58 ?_
 have W:=trivial
 repeat' first|refine st ?_|(refine nx ?_;first|refine se ?_|refine so ?_)|(refine cx ?_;refine sc (fun hc=>?_) (fun hc=>?_)<;>try exact hc.elim)|(refine lx ?_;refine sp (fun hc=>?_) (fun hc=>?_)<;>try exact hc.elim)|refine sx ?_ ?_|refine sy ?_ ?_|fail
 refine aT (ι:={k:Nat // k≤l.length∧∀x∈l.take k,dJ a x=false}) (fun t o i=>⟨bB t [(8,.int .i64 i.1),(5,.undef)],o⟩)
  (fun i=>l.length - i.1) ⟨0,by simp⟩ (aI (by simp) (by simp)) ?_
 rintro ⟨k,hk,hpre⟩ K1 hK1
 simp only [bB,List.set_cons_succ,List.set_cons_zero] at hK1⊢
 have hk1:IntKind.i64.wrap ((k:Int)+1)=((k+1:Nat):Int):=by rw [wrap64]<;>omega
 by_cases hlt:k < l.length
 ·have hg:=List.getElem?_eq_getElem hlt
  have W:=And.intro hk1 (And.intro hg hlt)
  have c0:=aPu l[k] a
  repeat' first|refine st ?_|(refine nx ?_;first|refine se ?_|refine so ?_)|(refine cx ?_;refine sc (fun hc=>?_) (fun hc=>?_)<;>try exact hc.elim)|(refine lx ?_;refine sp (fun hc=>?_) (fun hc=>?_)<;>try exact hc.elim)|refine sx ?_ ?_|refine sy ?_ ?_|fail
  ·all_goals (try (refine ⟨.inr rfl,?_⟩;simp [Hands,Tryz.results58]))
   rw [qA hlt (by simpa using hc) hpre]
  ·exact hK1 _ ⟨k+1,by omega,dD hlt hpre (by simpa using hc)⟩ (aI (by simp) (by simp)) (by simp only;omega)
 ·have W:=hk1
  repeat' first|refine st ?_|(refine nx ?_;first|refine se ?_|refine so ?_)|(refine cx ?_;refine sc (fun hc=>?_) (fun hc=>?_)<;>try exact hc.elim)|(refine lx ?_;refine sp (fun hc=>?_) (fun hc=>?_)<;>try exact hc.elim)|refine sx ?_ ?_|refine sy ?_ ?_|fail
  all_goals (try (refine ⟨.inr rfl,?_⟩;simp [Hands,Tryz.results58]))
  rw [nO (iL (by omega) hpre)]
def bG (a x:aC):Bool:=decide (x=a)
theorem xU [aB Tryz.prog] (l:List aC) (a:aC) (hl:l.length≤1099511627776):Ok Tryz.prog 45 [.sl .view 2 (l.map aD),.agg (aD a)] (.bool (l.any (bG a))):=by
 refine ent Tryz.mix Tryz.func45 Tryz.ntmps45 ?_
 have W:=trivial
 repeat' first|refine st ?_|(refine nx ?_;first|refine se ?_|refine so ?_)|(refine cx ?_;refine sc (fun hc=>?_) (fun hc=>?_)<;>try exact hc.elim)|(refine lx ?_;refine sp (fun hc=>?_) (fun hc=>?_)<;>try exact hc.elim)|refine sx ?_ ?_|refine sy ?_ ?_|fail
 refine aT (ι:={k:Nat // k≤l.length∧∀x∈l.take k,bG a x=false}) (fun t o i=>⟨bB t [(5,.int .i64 i.1)],o⟩)
  (fun i=>l.length - i.1) ⟨0,by simp,by simp⟩ (aI (by simp) (by simp)) ?_
 rintro ⟨k,hk,hi⟩ K1 hK1
 simp only [bB,List.set_cons_succ,List.set_cons_zero] at hK1⊢
 have hk1:IntKind.i64.wrap ((k:Int)+1)=((k+1:Nat):Int):=by rw [wrap64]<;>omega
 by_cases hlt:k < l.length
 ·have hg:=List.getElem?_eq_getElem hlt
  have W:=And.intro hk1 (And.intro hg hlt)
  have c0:=lW l[k] a
  repeat' first|refine st ?_|(refine nx ?_;first|refine se ?_|refine so ?_)|(refine cx ?_;refine sc (fun hc=>?_) (fun hc=>?_)<;>try exact hc.elim)|(refine lx ?_;refine sp (fun hc=>?_) (fun hc=>?_)<;>try exact hc.elim)|refine sx ?_ ?_|refine sy ?_ ?_|fail
  ·all_goals (try (refine ⟨.inr rfl,?_⟩;simp [Hands,Tryz.results45]))
   refine ⟨_,List.getElem_mem hlt,by simpa [bG] using hc⟩
  ·exact hK1 _ ⟨k+1,by omega,dD hlt hi (by simpa [bG] using hc)⟩ (aO 1 (by simp) (by simp) (by simp) (by simp)) (by simp only;omega)
 ·have W:=hk1
  repeat' first|refine st ?_|(refine nx ?_;first|refine se ?_|refine so ?_)|(refine cx ?_;refine sc (fun hc=>?_) (fun hc=>?_)<;>try exact hc.elim)|(refine lx ?_;refine sp (fun hc=>?_) (fun hc=>?_)<;>try exact hc.elim)|refine sx ?_ ?_|refine sy ?_ ?_|fail
  all_goals (try (refine ⟨.inr rfl,?_⟩;simp [Hands,Tryz.results45]))
  have:=iL (by omega) hi
  simpa using this
theorem aKj [aB Tryz.prog] (l:List aC) (a:aC) (hl:l.length≤1099511627776):Ok Tryz.prog 57 [.sl .view 2 (l.map aD),.agg (aD a)] (.int .i64 (dZ (bG a) l)):=by
 refine ent Tryz.mix Tryz.func57 Tryz.ntmps57 ?_
 have W:=trivial
 repeat' first|refine st ?_|(refine nx ?_;first|refine se ?_|refine so ?_)|(refine cx ?_;refine sc (fun hc=>?_) (fun hc=>?_)<;>try exact hc.elim)|(refine lx ?_;refine sp (fun hc=>?_) (fun hc=>?_)<;>try exact hc.elim)|refine sx ?_ ?_|refine sy ?_ ?_|fail
 refine aT (ι:={k:Nat // k≤l.length∧∀x∈l.take k,bG a x=false}) (fun t o i=>⟨bB t [(8,.int .i64 i.1),(5,.undef)],o⟩)
  (fun i=>l.length - i.1) ⟨0,by simp,by simp⟩ (aI (by simp) (by simp)) ?_
 rintro ⟨k,hk,hi⟩ K1 hK1
 simp only [bB,List.set_cons_succ,List.set_cons_zero] at hK1⊢
 have hk1:IntKind.i64.wrap ((k:Int)+1)=((k+1:Nat):Int):=by rw [wrap64]<;>omega
 by_cases hlt:k < l.length
 ·have hg:=List.getElem?_eq_getElem hlt
  have hq:EqA Tryz.prog 25 (aD a) (aD l[k]) (decide (a=l[k])):=lW a l[k]
  have W:=And.intro hk1 (And.intro hg hlt)
  have c0:=hq
  repeat' first|refine st ?_|(refine nx ?_;first|refine se ?_|refine so ?_)|(refine cx ?_;refine sc (fun hc=>?_) (fun hc=>?_)<;>try exact hc.elim)|(refine lx ?_;refine sp (fun hc=>?_) (fun hc=>?_)<;>try exact hc.elim)|refine sx ?_ ?_|refine sy ?_ ?_|fail
  ·all_goals (try (refine ⟨.inr rfl,?_⟩;simp [Hands,Tryz.results57]))
   rw [qA hlt (by simp [bG];exact hc.symm) hi]
  ·exact hK1 _ ⟨k+1,by omega,dD hlt hi (by simp [bG];intro h;exact hc h.symm)⟩ (aO 1 (by simp) (by simp) (by simp) (by simp)) (by simp only;omega)
 ·have W:=hk1
  repeat' first|refine st ?_|(refine nx ?_;first|refine se ?_|refine so ?_)|(refine cx ?_;refine sc (fun hc=>?_) (fun hc=>?_)<;>try exact hc.elim)|(refine lx ?_;refine sp (fun hc=>?_) (fun hc=>?_)<;>try exact hc.elim)|refine sx ?_ ?_|refine sy ?_ ?_|fail
  all_goals (try (refine ⟨.inr rfl,?_⟩;simp [Hands,Tryz.results57]))
  rw [nO (iL (by omega) hi)]
theorem qH [aB Tryz.prog] (l:List aC) (a:aC) (hl:l.length≤1099511627776):Ok Tryz.prog 31 [.sl .view 2 (l.map aD),.agg (aD a)] (.bool (l.any (bG a))):=by
 have c1:=aKj l a hl
 simp only [aD] at c1
 refine ent Tryz.mix Tryz.func31 Tryz.ntmps31 ?_
 have W:=trivial
 repeat' first|refine st ?_|(refine nx ?_;first|refine se ?_|refine so ?_)|(refine cx ?_;refine sc (fun hc=>?_) (fun hc=>?_)<;>try exact hc.elim)|(refine lx ?_;refine sp (fun hc=>?_) (fun hc=>?_)<;>try exact hc.elim)|refine sx ?_ ?_|refine sy ?_ ?_|fail
 all_goals (try (refine ⟨.inr rfl,?_⟩;simp [Hands,Tryz.results31]))
 exact aMf _ _
theorem xP [aB Tryz.prog] (l:List aC) (a:aC) (hl:l.length≤1099511627776):Ok Tryz.prog 11 [.sl .view 2 (l.map aD),.agg (aD a)] (.bool (l.any (bG a))):=by
 have c1:=qH l a hl
 simp only [aD] at c1
 refine ent Tryz.mix Tryz.func11 Tryz.ntmps11 ?_
 have W:=trivial
 repeat' first|refine st ?_|(refine nx ?_;first|refine se ?_|refine so ?_)|(refine cx ?_;refine sc (fun hc=>?_) (fun hc=>?_)<;>try exact hc.elim)|(refine lx ?_;refine sp (fun hc=>?_) (fun hc=>?_)<;>try exact hc.elim)|refine sx ?_ ?_|refine sy ?_ ?_|fail
 all_goals (try (refine ⟨.inr rfl,?_⟩;simp [Hands,Tryz.results11]))
end Go.Proofs.YtgkllebnnakojaaGreatDoor
