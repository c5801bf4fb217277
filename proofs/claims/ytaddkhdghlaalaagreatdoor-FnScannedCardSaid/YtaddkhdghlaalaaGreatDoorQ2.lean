/-
  Proved here: steps towards the statement of this claim, text Q2.
  No condition beyond what each statement spells out.
-/
import Derived.Test.YtaddkhdghlaalaaGreatDoorQ1
import Derived.Test.YtaddkhdghlaalaaGreatDoorQMK1
import Derived.Test.YtaddkhdghlaalaaGreatDoorF6
set_option linter.all false
set_option maxRecDepth 4000
set_option maxHeartbeats 4000000
namespace Go.Proofs.YtaddkhdghlaalaaGreatDoor
open Go.Aw
theorem bAs {a b:aD}:aF a=aF b↔a=b:=by
 obtain ⟨a1,a2⟩:=a
 obtain ⟨b1,b2⟩:=b
 simp
theorem pM (a b:aD):EqA Tryz.prog 25 (aF a) (aF b) (decide (a=b)):=
 aZh (f:=6) (ss:=[.str,.str]) (by decide) (by kernel_rfl) (by kernel_rfl) (by kernel_rfl) (by kernel_rfl) (by simp [nP,yG]) (by simp [nP,yG]) (by rw [bAs,decide_eq_true_iff])
def gJ (a:aD) (m:dR):Bool:=decide (m.to=a)
def vJ (a:aD) (m:iK):Bool:=decide (m.to=a)
theorem sW [aB Tryz.prog] (p:aC) (a:aD) (hl:p.mods.length≤1099511627776):Ok Tryz.prog 53 [.agg (aG .view p),.agg (aF a)] (.int .i64 (kP (gJ a) p.mods)):=by
 refine ent Tryz.mix Tryz.func53 Tryz.ntmps53 ?_
 refine aW ?_
 refine aR (ι:={k:Nat // k≤p.mods.length∧∀x∈p.mods.take k,gJ a x=false}) (fun t o i=>⟨aS t [(5,.int .i64 i.1)],o⟩)
  (fun i=>p.mods.length - i.1) ⟨0,by simp⟩ aO ?_
 rintro ⟨k,hk,hpre⟩ K1 hK1
 simp only [aS,List.set_cons_succ,List.set_cons_zero] at hK1⊢
 have hk1:=wk1 (k:=k) (by omega)
 by_cases hlt:k < p.mods.length
 ·have hg:=List.getElem?_eq_getElem hlt
  have W:=And.intro hk1 (And.intro hg hlt)
  have c0:=pM p.mods[k].to a
  repeat' first|refine st ?_|(refine nx ?_;first|refine se ?_|refine so ?_)|(refine cx ?_;refine sc (fun hc=>?_) (fun hc=>?_)<;>try exact hc.elim)|(refine lx ?_;refine sp (fun hc=>?_) (fun hc=>?_)<;>try exact hc.elim)|refine sx ?_ ?_|refine sy ?_ ?_|fail
  ·all_goals (try (refine ⟨.inr rfl,?_⟩;simp [Hands,Tryz.results53]))
   rw [uQ hlt (by simpa [gJ] using hc) hpre]
  ·exact hK1 _ ⟨k+1,by omega,dK hlt hpre (by simpa [gJ] using hc)⟩ aO (by simp only;omega)
 ·have W:=hk1
  refine we ?_
  all_goals (try (refine ⟨.inr rfl,?_⟩;simp [Hands,Tryz.results53]))
  rw [pI (iQ (by omega) hpre)]
theorem bAp [aB Tryz.prog] (m:dR) (a:aD):Ok Tryz.prog 58 [.agg (jB m),.vptr .view (aF a) 0] (.bool (gJ a m)):=by
 refine ent Tryz.mix Tryz.func58 Tryz.ntmps58 ?_
 have W:=trivial
 have c0:=pM m.to a
 repeat' first|refine st ?_|(refine nx ?_;first|refine se ?_|refine so ?_)|(refine cx ?_;first|refine sT ?_|refine sF ?_)|fail
 all_goals (try (refine ⟨.inr rfl,?_⟩;simp [Hands,Tryz.results58]))
 rfl
theorem aU5 [aB Tryz.prog] (m:iK) (a:aD):Ok Tryz.prog 34 [.agg (oG m),.vptr .view (aF a) 0] (.bool (vJ a m)):=by
 refine ent Tryz.mix Tryz.func34 Tryz.ntmps34 ?_
 have W:=trivial
 have c0:=pM m.to a
 repeat' first|refine st ?_|(refine nx ?_;first|refine se ?_|refine so ?_)|(refine cx ?_;first|refine sT ?_|refine sF ?_)|fail
 all_goals (try (refine ⟨.inr rfl,?_⟩;simp [Hands,Tryz.results34]))
 rfl
theorem aUv [aB Tryz.prog] (l:List dR) (a:aD) (hl:l.length≤1099511627776):Ok Tryz.prog 57 [.sl .view 5 (l.map jB),.fn 58 [.vptr .view (aF a) 0]] (.int .i64 (kP (gJ a) l)):=by
 refine ent Tryz.mix Tryz.func57 Tryz.ntmps57 ?_
 refine aW ?_
 refine aR (ι:={k:Nat // k≤l.length∧∀x∈l.take k,gJ a x=false}) (fun t o i=>⟨aS t [(8,.int .i64 i.1),(5,.undef)],o⟩)
  (fun i=>l.length - i.1) ⟨0,by simp⟩ aO ?_
 rintro ⟨k,hk,hpre⟩ K1 hK1
 simp only [aS,List.set_cons_succ,List.set_cons_zero] at hK1⊢
 have hk1:=wk1 (k:=k) (by omega)
 by_cases hlt:k < l.length
 ·have hg:=List.getElem?_eq_getElem hlt
  have W:=And.intro hk1 (And.intro hg hlt)
  have c0:=bAp l[k] a
  repeat' first|refine st ?_|(refine nx ?_;first|refine se ?_|refine so ?_)|(refine cx ?_;refine sc (fun hc=>?_) (fun hc=>?_)<;>try exact hc.elim)|(refine lx ?_;refine sp (fun hc=>?_) (fun hc=>?_)<;>try exact hc.elim)|refine sx ?_ ?_|refine sy ?_ ?_|fail
  ·all_goals (try (refine ⟨.inr rfl,?_⟩;simp [Hands,Tryz.results57]))
   rw [uQ hlt (by simpa using hc) hpre]
  ·exact hK1 _ ⟨k+1,by omega,dK hlt hpre (by simpa using hc)⟩ aO (by simp only;omega)
 ·have W:=hk1
  refine we ?_
  all_goals (try (refine ⟨.inr rfl,?_⟩;simp [Hands,Tryz.results57]))
  rw [pI (iQ (by omega) hpre)]
theorem aSn [aB Tryz.prog] (l:List iK) (a:aD) (hl:l.length≤1099511627776):Ok Tryz.prog 59 [.sl .view 8 (l.map oG),.fn 34 [.vptr .view (aF a) 0]] (.int .i64 (kP (vJ a) l)):=by
 refine ent Tryz.mix Tryz.func59 Tryz.ntmps59 ?_
 refine aW ?_
 refine aR (ι:={k:Nat // k≤l.length∧∀x∈l.take k,vJ a x=false}) (fun t o i=>⟨aS t [(8,.int .i64 i.1),(5,.undef)],o⟩)
  (fun i=>l.length - i.1) ⟨0,by simp⟩ aO ?_
 rintro ⟨k,hk,hpre⟩ K1 hK1
 simp only [aS,List.set_cons_succ,List.set_cons_zero] at hK1⊢
 have hk1:=wk1 (k:=k) (by omega)
 by_cases hlt:k < l.length
 ·have hg:=List.getElem?_eq_getElem hlt
  have W:=And.intro hk1 (And.intro hg hlt)
  have c0:=aU5 l[k] a
  repeat' first|refine st ?_|(refine nx ?_;first|refine se ?_|refine so ?_)|(refine cx ?_;refine sc (fun hc=>?_) (fun hc=>?_)<;>try exact hc.elim)|(refine lx ?_;refine sp (fun hc=>?_) (fun hc=>?_)<;>try exact hc.elim)|refine sx ?_ ?_|refine sy ?_ ?_|fail
  ·all_goals (try (refine ⟨.inr rfl,?_⟩;simp [Hands,Tryz.results59]))
   rw [uQ hlt (by simpa using hc) hpre]
  ·exact hK1 _ ⟨k+1,by omega,dK hlt hpre (by simpa using hc)⟩ aO (by simp only;omega)
 ·have W:=hk1
  refine we ?_
  all_goals (try (refine ⟨.inr rfl,?_⟩;simp [Hands,Tryz.results59]))
  rw [pI (iQ (by omega) hpre)]
theorem aLc [aB Tryz.prog] (l:List iK) (a:aD) (hl:l.length≤1099511627776):Ok Tryz.prog 33 [.sl .view 8 (l.map oG),.fn 34 [.vptr .view (aF a) 0]] (.bool (l.any (vJ a))):=by
 refine ent Tryz.mix Tryz.func33 Tryz.ntmps33 ?_
 have W:=trivial
 have c0:=aSn l a hl
 repeat' first|refine st ?_|(refine nx ?_;first|refine se ?_|refine so ?_)|(refine cx ?_;first|refine sT ?_|refine sF ?_)|fail
 all_goals (try (refine ⟨.inr rfl,?_⟩;simp [Hands,Tryz.results33]))
 exact vL _ _
theorem bCm [aB Tryz.prog] (p:aC) (a:aD) (hl:p.mods.length≤1099511627776):Ok Tryz.prog 32 [.agg (aG .view p),.agg (aF a)] (.int .i64 (kP (gJ a) p.mods)):=by
 refine ent Tryz.mix Tryz.func32 Tryz.ntmps32 ?_
 have W:=trivial
 have c0:=aUv p.mods a hl
 repeat' first|refine st ?_|(refine nx ?_;first|refine se ?_|refine so ?_)|(refine cx ?_;first|refine sT ?_|refine sF ?_)|fail
 exact aM Tryz.results32
def rF (p:aC) (a:aD):Bool:=p.mods.any (gJ a) || p.slots.any (vJ a)
theorem yQ [aB Tryz.prog] (p:aC) (a:aD) (hl:p.mods.length≤1099511627776) (hl2:p.slots.length≤1099511627776):Ok Tryz.prog 10 [.agg (aG .view p),.agg (aF a)] (.bool (rF p a)):=by
 refine ent Tryz.mix Tryz.func10 Tryz.ntmps10 ?_
 have W:=trivial
 have c0:=bCm p a hl
 have c1:=aLc p.slots a hl2
 repeat' first|refine st ?_|(refine nx ?_;first|refine se ?_|refine so ?_)|(refine cx ?_;refine sc (fun hc=>?_) (fun hc=>?_)<;>try exact hc.elim)|(refine lx ?_;refine sp (fun hc=>?_) (fun hc=>?_)<;>try exact hc.elim)|refine sx ?_ ?_|refine sy ?_ ?_|fail
 all_goals (try (refine ⟨.inr rfl,?_⟩;simp [Hands,Tryz.results10]))
 all_goals (have hni:=vL (gJ a) p.mods;first|(rw [decide_eq_true hc] at hni;simp [rF,←hni])|(rw [decide_eq_false (by omega)] at hni;simp [rF,←hni]))
theorem aNn [aB Tryz.prog] (p:aC) (a:aD) (hl:p.mods.length≤1099511627776) (hl2:p.slots.length≤1099511627776):Ok Tryz.prog 27 [.agg (aG .view p),.agg (aF a)] (.bool (rF p a)):=by
 refine ent Tryz.mix Tryz.func27 Tryz.ntmps27 ?_
 refine aW ?_
 refine aR (ι:={k:Nat // k≤p.slots.length∧∀x∈p.slots.take k,vJ a x=false}) (fun t o i=>⟨aS t [(5,.int .i64 i.1)],o⟩)
  (fun i=>p.slots.length - i.1) ⟨0,by simp⟩ aO ?_
 rintro ⟨k,hk,hpre⟩ K1 hK1
 simp only [aS,List.set_cons_succ,List.set_cons_zero] at hK1⊢
 have hk1:=wk1 (k:=k) (by omega)
 by_cases hlt:k < p.slots.length
 ·have hg:=List.getElem?_eq_getElem hlt
  have W:=And.intro hk1 (And.intro hg hlt)
  have c0:=pM p.slots[k].to a
  repeat' first|refine st ?_|(refine nx ?_;first|refine se ?_|refine so ?_)|(refine cx ?_;refine sc (fun hc=>?_) (fun hc=>?_)<;>try exact hc.elim)|(refine lx ?_;refine sp (fun hc=>?_) (fun hc=>?_)<;>try exact hc.elim)|refine sx ?_ ?_|refine sy ?_ ?_|fail
  ·all_goals (try (refine ⟨.inr rfl,?_⟩;simp [Hands,Tryz.results27]))
   have:p.slots.any (vJ a)=true:=List.any_eq_true.2 ⟨_,List.getElem_mem hlt,by simpa [vJ] using hc⟩
   simp [rF,this]
  ·exact hK1 _ ⟨k+1,by omega,dK hlt hpre (by simpa [vJ] using hc)⟩ aO (by simp only;omega)
 ·have W:=hk1
  have c0:=sW p a hl
  repeat' first|refine st ?_|(refine nx ?_;first|refine se ?_|refine so ?_)|(refine cx ?_;first|refine sT ?_|refine sF ?_)|fail
  all_goals (try (refine ⟨.inr rfl,?_⟩;simp [Hands,Tryz.results27]))
  have:p.slots.any (vJ a)=false:=by
   have:=iQ (by omega) hpre
   simpa using this
  rw [vL]
  simp [rF,this]
theorem aFq [aB Tryz.prog] (p:aC) (a:aD) (hl:p.mods.length≤1099511627776) (hl2:p.slots.length≤1099511627776):Ok Tryz.prog 11 [.agg (aG .view p),.agg (aF a)] (.bool (p.loaded&& !rF p a)):=by
 refine ent Tryz.mix Tryz.func11 Tryz.ntmps11 ?_
 have W:=trivial
 have c0:=yQ p a hl hl2
 repeat' first|refine st ?_|(refine nx ?_;first|refine se ?_|refine so ?_)|(refine cx ?_;refine sc (fun hc=>?_) (fun hc=>?_)<;>try exact hc.elim)|(refine lx ?_;refine sp (fun hc=>?_) (fun hc=>?_)<;>try exact hc.elim)|refine sx ?_ ?_|refine sy ?_ ?_|fail
 all_goals (try (refine ⟨.inr rfl,?_⟩;simp [Hands,Tryz.results11]))
 all_goals simp_all
def eG (a x:aD):Bool:=decide (x=a)
theorem uP [aB Tryz.prog] (l:List aD) (a:aD) (hl:l.length≤1099511627776):Ok Tryz.prog 28 [.sl .view 2 (l.map aF),.agg (aF a)] (.bool (l.any (eG a))):=by
 refine ent Tryz.mix Tryz.func28 Tryz.ntmps28 ?_
 refine aW ?_
 refine aR (ι:={k:Nat // k≤l.length∧∀x∈l.take k,eG a x=false}) (fun t o i=>⟨aS t [(5,.int .i64 i.1)],o⟩)
  (fun i=>l.length - i.1) ⟨0,by simp,by simp⟩ aO ?_
 rintro ⟨k,hk,hi⟩ K1 hK1
 simp only [aS,List.set_cons_succ,List.set_cons_zero] at hK1⊢
 have hk1:=wk1 (k:=k) (by omega)
 by_cases hlt:k < l.length
 ·have hg:=List.getElem?_eq_getElem hlt
  have W:=And.intro hk1 (And.intro hg hlt)
  have c0:=pM l[k] a
  repeat' first|refine st ?_|(refine nx ?_;first|refine se ?_|refine so ?_)|(refine cx ?_;refine sc (fun hc=>?_) (fun hc=>?_)<;>try exact hc.elim)|(refine lx ?_;refine sp (fun hc=>?_) (fun hc=>?_)<;>try exact hc.elim)|refine sx ?_ ?_|refine sy ?_ ?_|fail
  ·all_goals (try (refine ⟨.inr rfl,?_⟩;simp [Hands,Tryz.results28]))
   refine ⟨_,List.getElem_mem hlt,by simpa [eG] using hc⟩
  ·exact hK1 _ ⟨k+1,by omega,dK hlt hi (by simpa [eG] using hc)⟩ (aN 1) (by simp only;omega)
 ·have W:=hk1
  refine we ?_
  all_goals (try (refine ⟨.inr rfl,?_⟩;simp [Hands,Tryz.results28]))
  have:=iQ (by omega) hi
  simpa using this
theorem aTk [aB Tryz.prog] (l:List aD) (a:aD) (hl:l.length≤1099511627776):Ok Tryz.prog 85 [.sl .view 2 (l.map aF),.agg (aF a)] (.int .i64 (kP (eG a) l)):=by
 refine ent Tryz.mix Tryz.func85 Tryz.ntmps85 ?_
 refine aW ?_
 refine aR (ι:={k:Nat // k≤l.length∧∀x∈l.take k,eG a x=false}) (fun t o i=>⟨aS t [(8,.int .i64 i.1),(5,.undef)],o⟩)
  (fun i=>l.length - i.1) ⟨0,by simp,by simp⟩ aO ?_
 rintro ⟨k,hk,hi⟩ K1 hK1
 simp only [aS,List.set_cons_succ,List.set_cons_zero] at hK1⊢
 have hk1:=wk1 (k:=k) (by omega)
 by_cases hlt:k < l.length
 ·have hg:=List.getElem?_eq_getElem hlt
  have hq:EqA Tryz.prog 25 (aF a) (aF l[k]) (decide (a=l[k])):=pM a l[k]
  have W:=And.intro hk1 (And.intro hg hlt)
  have c0:=hq
  repeat' first|refine st ?_|(refine nx ?_;first|refine se ?_|refine so ?_)|(refine cx ?_;refine sc (fun hc=>?_) (fun hc=>?_)<;>try exact hc.elim)|(refine lx ?_;refine sp (fun hc=>?_) (fun hc=>?_)<;>try exact hc.elim)|refine sx ?_ ?_|refine sy ?_ ?_|fail
  ·all_goals (try (refine ⟨.inr rfl,?_⟩;simp [Hands,Tryz.results85]))
   rw [uQ hlt (by simp [eG];exact hc.symm) hi]
  ·exact hK1 _ ⟨k+1,by omega,dK hlt hi (by simp [eG];intro h;exact hc h.symm)⟩ (aN 1) (by simp only;omega)
 ·have W:=hk1
  refine we ?_
  all_goals (try (refine ⟨.inr rfl,?_⟩;simp [Hands,Tryz.results85]))
  rw [pI (iQ (by omega) hi)]
theorem aKr [aB Tryz.prog] (l:List aD) (a:aD) (hl:l.length≤1099511627776):Ok Tryz.prog 50 [.sl .view 2 (l.map aF),.agg (aF a)] (.bool (l.any (eG a))):=by
 have c1:=aTk l a hl
 simp only [aF] at c1
 refine ent Tryz.mix Tryz.func50 Tryz.ntmps50 ?_
 refine aW ?_
 all_goals (try (refine ⟨.inr rfl,?_⟩;simp [Hands,Tryz.results50]))
 exact vL _ _
theorem aM8 [aB Tryz.prog] (l:List aD) (a:aD) (hl:l.length≤1099511627776):Ok Tryz.prog 23 [.sl .view 2 (l.map aF),.agg (aF a)] (.bool (l.any (eG a))):=by
 have c1:=aKr l a hl
 simp only [aF] at c1
 refine ent Tryz.mix Tryz.func23 Tryz.ntmps23 ?_
 refine aW ?_
 exact aM Tryz.results23
end Go.Proofs.YtaddkhdghlaalaaGreatDoor
