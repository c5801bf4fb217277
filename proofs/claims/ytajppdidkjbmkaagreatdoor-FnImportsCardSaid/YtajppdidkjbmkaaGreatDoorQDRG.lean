/-
  Proved here: steps towards the statement of this claim, text QDRG.
  No condition beyond what each statement spells out.
-/
import Derived.Test.YtajppdidkjbmkaaGreatDoorDR9
import Derived.Test.YtajppdidkjbmkaaGreatDoorQDR4
import Derived.Test.YtajppdidkjbmkaaGreatDoorQ1
import Derived.Test.YtajppdidkjbmkaaGreatDoorQDR8
import Derived.Test.YtajppdidkjbmkaaGreatDoorF6
set_option linter.all false
set_option maxRecDepth 4000
set_option maxHeartbeats 4000000
namespace Go.Proofs.YtajppdidkjbmkaaGreatDoor
open Go.Aw
def aUt:List Str:=[[104,111,109,101],[99,100,110],[]]
def aUq:List Str:=[[105,109,112,111,114,116,32],[105,109,112,111,114,116,32,117,116,105,108],[105,109,112,111,114,116,32,97,47,98,47,99,59],[105,109,112,111,114,116,32,117,116,105,108,59,105,109,112,111,114,116],[105,109,112,111,114,116,32,117,116,105,108,59,59,115,97,121,32,97],[115,97,121,32,97,59,105,109,112,111,114,116,32,117,116,105,108],[105,109,112,111,114,116,32,32,117,116,105,108],[105,109,112,111,114,116,32,117,116,105,108,59,119,104,97,116]]
theorem aTm:∀s∈aUt,s.length≤4:=by decide
theorem aSs:∀s∈aUq,s.length≤20:=by decide
def aTe (r:AV):Prop:=∃s b:Str,r= .tup [.str s,.str b]∧s.length≤540∧b.length≤4
theorem xJ [aB Tryz.prog] (code:List UInt8):OkE Tryz.prog 5 [.sl .view 1 (aK code)] aTe:=by
 refine aZ2 Tryz.mix Tryz.func5 Tryz.ntmps5 ?_
 have W:=trivial
 repeat' first|refine st ?_|(refine nx ?_;refine so ?_)|(refine cx ?_;refine sc (fun hc=>?_) (fun hc=>?_)<;>try exact hc.elim)|(refine lx ?_;refine sp (fun hc=>?_) (fun hc=>?_)<;>try exact hc.elim)|refine sx ?_ ?_|refine sy ?_ ?_|fail
 refine cn (aFq) ?_
 intro i h hi
 simp only [AS.newCur,aG,AS.put,List.length_nil,List.length_cons,Nat.reduceAdd,Nat.zero_add,List.set_cons_succ,List.set_cons_zero,List.append_nil,List.nil_append,List.cons_append]
 have W:=trivial
 repeat' first|refine st ?_|(refine nx ?_;refine so ?_)|(refine cx ?_;refine sc (fun hc=>?_) (fun hc=>?_)<;>try exact hc.elim)|(refine lx ?_;refine sp (fun hc=>?_) (fun hc=>?_)<;>try exact hc.elim)|refine sx ?_ ?_|refine sy ?_ ?_|fail
 refine fM (i:=1) (ver:=1) (by rfl) (by rfl) ?_ (by simp [AS.frozen,gM,gB,frz,gT,aA.frz,aA.kill,rtr,rtc,rt];rfl)
 refine cu (dJ aUt (by decide)) ?_
 rintro _ i2 h2 ⟨b,hb,rfl⟩ hi2
 simp only [AS.drew,AS.called,aG,AS.put,aF,aC,bF,aR,bE,aN,bG,aP,List.set_cons_succ,List.set_cons_zero,List.append_nil,List.nil_append,List.cons_append]
 have hbl:=aTm b hb
 have W:=trivial
 repeat' first|refine st ?_|(refine nx ?_;refine so ?_)|(refine cx ?_;refine sc (fun hc=>?_) (fun hc=>?_)<;>try exact hc.elim)|(refine lx ?_;refine sp (fun hc=>?_) (fun hc=>?_)<;>try exact hc.elim)|refine sx ?_ ?_|refine sy ?_ ?_|fail
 refine cu (eB 3) ?_
 rintro _ i3 h3 ⟨z,rfl⟩ hi3
 simp only [AS.drew,AS.called,aG,AS.put,aF,aC,bF,aR,bE,aN,bG,aP,List.set_cons_succ,List.set_cons_zero,List.append_nil,List.nil_append,List.cons_append]
 cases z
 ·have W:=trivial
  repeat' first|refine st ?_|(refine nx ?_;refine so ?_)|(refine cx ?_;refine sc (fun hc=>?_) (fun hc=>?_)<;>try exact hc.elim)|(refine lx ?_;refine sp (fun hc=>?_) (fun hc=>?_)<;>try exact hc.elim)|refine sx ?_ ?_|refine sy ?_ ?_|fail
  refine cu (aDp 5) ?_
  rintro _ i4 h4 ⟨s,rfl,hs⟩ hi4
  simp only [AS.drew,AS.called,aG,AS.put,aF,aC,bF,aR,bE,aN,bG,aP,List.set_cons_succ,List.set_cons_zero,List.append_nil,List.nil_append,List.cons_append]
  have W:=trivial
  repeat' first|refine st ?_|(refine nx ?_;refine so ?_)|(refine cx ?_;refine sc (fun hc=>?_) (fun hc=>?_)<;>try exact hc.elim)|(refine lx ?_;refine sp (fun hc=>?_) (fun hc=>?_)<;>try exact hc.elim)|refine sx ?_ ?_|refine sy ?_ ?_|fail
  refine ⟨.inr rfl,qF (by simp [Tryz.results5];rfl) (by simp) (by simp) ?_⟩
  simp only [single,res]
  exact ⟨s,b,rfl,by omega,hbl⟩
 ·have W:=trivial
  repeat' first|refine st ?_|(refine nx ?_;refine so ?_)|(refine cx ?_;refine sc (fun hc=>?_) (fun hc=>?_)<;>try exact hc.elim)|(refine lx ?_;refine sp (fun hc=>?_) (fun hc=>?_)<;>try exact hc.elim)|refine sx ?_ ?_|refine sy ?_ ?_|fail
  refine fM (i:=2) (ver:=1) (by rfl) (by rfl) ?_ (by simp [AS.frozen,gM,gB,frz,gT,aA.frz,aA.kill,rtr,rtc,rt];rfl)
  refine cu (dJ aUq (by decide)) ?_
  rintro _ i4 h4 ⟨s,hs,rfl⟩ hi4
  simp only [AS.drew,AS.called,aG,AS.put,aF,aC,bF,aR,bE,aN,bG,aP,List.set_cons_succ,List.set_cons_zero,List.append_nil,List.nil_append,List.cons_append]
  have hsl:=aSs s hs
  have W:=trivial
  repeat' first|refine st ?_|(refine nx ?_;refine so ?_)|(refine cx ?_;refine sc (fun hc=>?_) (fun hc=>?_)<;>try exact hc.elim)|(refine lx ?_;refine sp (fun hc=>?_) (fun hc=>?_)<;>try exact hc.elim)|refine sx ?_ ?_|refine sy ?_ ?_|fail
  refine ⟨.inr rfl,qF (by simp [Tryz.results5];rfl) (by simp) (by simp) ?_⟩
  simp only [single,res]
  exact ⟨s,b,rfl,by omega,hbl⟩
theorem aRd {a b:aH}:aL a=aL b↔a=b:=by
 obtain ⟨a1,a2⟩:=a
 obtain ⟨b1,b2⟩:=b
 simp
theorem kV (a b:aH):EqA Tryz.prog 32 (aL a) (aL b) (decide (a=b)):=
 aB2 (f:=6) (ss:=[.str,.str]) (by decide) (by kernel_rfl) (by kernel_rfl) (by kernel_rfl) (by kernel_rfl) (by simp [iA,nD]) (by simp [iA,nD]) (by rw [aRd,decide_eq_true_iff])
def fH (a:aH) (m:bN):Bool:=decide (m.to=a)
theorem aDu [aB Tryz.prog] (p:aY) (a:aH) (hl:p.mods.length≤1099511627776):Ok Tryz.prog 48 [.agg (aI .view p),.agg (aL a)] (.int .i64 (iT (fH a) p.mods)):=by
 refine ent Tryz.mix Tryz.func48 Tryz.ntmps48 ?_
 have W:=trivial
 repeat' first|refine st ?_|(refine nx ?_;first|refine se ?_|refine so ?_)|(refine cx ?_;refine sc (fun hc=>?_) (fun hc=>?_)<;>try exact hc.elim)|(refine lx ?_;refine sp (fun hc=>?_) (fun hc=>?_)<;>try exact hc.elim)|refine sx ?_ ?_|refine sy ?_ ?_|fail
 refine aJ (ι:={k:Nat // k≤p.mods.length∧∀x∈p.mods.take k,fH a x=false}) (fun t o i=>⟨aS t [(5,.int .i64 i.1)],o⟩)
  (fun i=>p.mods.length - i.1) ⟨0,by simp⟩ (aD (by simp) (by simp)) ?_
 rintro ⟨k,hk,hpre⟩ K1 hK1
 simp only [aS,List.set_cons_succ,List.set_cons_zero] at hK1⊢
 have hk1:IntKind.i64.wrap ((k:Int)+1)=((k+1:Nat):Int):=by rw [wrap64]<;>omega
 by_cases hlt:k < p.mods.length
 ·have hg:=List.getElem?_eq_getElem hlt
  have W:=And.intro hk1 (And.intro hg hlt)
  have c0:=kV p.mods[k].to a
  repeat' first|refine st ?_|(refine nx ?_;first|refine se ?_|refine so ?_)|(refine cx ?_;refine sc (fun hc=>?_) (fun hc=>?_)<;>try exact hc.elim)|(refine lx ?_;refine sp (fun hc=>?_) (fun hc=>?_)<;>try exact hc.elim)|refine sx ?_ ?_|refine sy ?_ ?_|fail
  ·all_goals (try (refine ⟨.inr rfl,?_⟩;simp [Hands,Tryz.results48]))
   rw [sO hlt (by simpa [fH] using hc) hpre]
  ·exact hK1 _ ⟨k+1,by omega,dX hlt hpre (by simpa [fH] using hc)⟩ (aD (by simp) (by simp)) (by simp only;omega)
 ·have W:=hk1
  repeat' first|refine st ?_|(refine nx ?_;first|refine se ?_|refine so ?_)|(refine cx ?_;refine sc (fun hc=>?_) (fun hc=>?_)<;>try exact hc.elim)|(refine lx ?_;refine sp (fun hc=>?_) (fun hc=>?_)<;>try exact hc.elim)|refine sx ?_ ?_|refine sy ?_ ?_|fail
  all_goals (try (refine ⟨.inr rfl,?_⟩;simp [Hands,Tryz.results48]))
  rw [oF (jB (by omega) hpre)]
theorem aQn [aB Tryz.prog] (m:bN) (a:aH):Ok Tryz.prog 83 [.agg (bL m),.vptr .view (aL a) 0] (.bool (fH a m)):=by
 refine ent Tryz.mix Tryz.func83 Tryz.ntmps83 ?_
 have W:=trivial
 have c0:=kV m.to a
 repeat' first|refine st ?_|(refine nx ?_;first|refine se ?_|refine so ?_)|(refine cx ?_;refine sc (fun hc=>?_) (fun hc=>?_)<;>try exact hc.elim)|(refine lx ?_;refine sp (fun hc=>?_) (fun hc=>?_)<;>try exact hc.elim)|refine sx ?_ ?_|refine sy ?_ ?_|fail
 all_goals (try (refine ⟨.inr rfl,?_⟩;simp [Hands,Tryz.results83]))
 rfl
theorem aNb [aB Tryz.prog] (l:List bN) (a:aH) (hl:l.length≤1099511627776):Ok Tryz.prog 82 [.sl .view 5 (l.map bL),.fn 83 [.vptr .view (aL a) 0]] (.int .i64 (iT (fH a) l)):=by
 refine ent Tryz.mix Tryz.func82 Tryz.ntmps82 ?_
 have W:=trivial
 repeat' first|refine st ?_|(refine nx ?_;first|refine se ?_|refine so ?_)|(refine cx ?_;refine sc (fun hc=>?_) (fun hc=>?_)<;>try exact hc.elim)|(refine lx ?_;refine sp (fun hc=>?_) (fun hc=>?_)<;>try exact hc.elim)|refine sx ?_ ?_|refine sy ?_ ?_|fail
 refine aJ (ι:={k:Nat // k≤l.length∧∀x∈l.take k,fH a x=false}) (fun t o i=>⟨aS t [(8,.int .i64 i.1),(5,.undef)],o⟩)
  (fun i=>l.length - i.1) ⟨0,by simp⟩ (aD (by simp) (by simp)) ?_
 rintro ⟨k,hk,hpre⟩ K1 hK1
 simp only [aS,List.set_cons_succ,List.set_cons_zero] at hK1⊢
 have hk1:IntKind.i64.wrap ((k:Int)+1)=((k+1:Nat):Int):=by rw [wrap64]<;>omega
 by_cases hlt:k < l.length
 ·have hg:=List.getElem?_eq_getElem hlt
  have W:=And.intro hk1 (And.intro hg hlt)
  have c0:=aQn l[k] a
  repeat' first|refine st ?_|(refine nx ?_;first|refine se ?_|refine so ?_)|(refine cx ?_;refine sc (fun hc=>?_) (fun hc=>?_)<;>try exact hc.elim)|(refine lx ?_;refine sp (fun hc=>?_) (fun hc=>?_)<;>try exact hc.elim)|refine sx ?_ ?_|refine sy ?_ ?_|fail
  ·all_goals (try (refine ⟨.inr rfl,?_⟩;simp [Hands,Tryz.results82]))
   rw [sO hlt (by simpa using hc) hpre]
  ·exact hK1 _ ⟨k+1,by omega,dX hlt hpre (by simpa using hc)⟩ (aD (by simp) (by simp)) (by simp only;omega)
 ·have W:=hk1
  repeat' first|refine st ?_|(refine nx ?_;first|refine se ?_|refine so ?_)|(refine cx ?_;refine sc (fun hc=>?_) (fun hc=>?_)<;>try exact hc.elim)|(refine lx ?_;refine sp (fun hc=>?_) (fun hc=>?_)<;>try exact hc.elim)|refine sx ?_ ?_|refine sy ?_ ?_|fail
  all_goals (try (refine ⟨.inr rfl,?_⟩;simp [Hands,Tryz.results82]))
  rw [oF (jB (by omega) hpre)]
theorem aWm {α:Type} {f:α→Bool} {l:List α} (hn:∀x∈l,f x=false):l.find? f=none:=List.find?_eq_none.2 fun x hx=>by simp [hn x hx]
theorem aKi {α:Type} {f:α→Bool}:∀l:List α,¬(∀x∈l,f x=false)→∃k,∃hk:k < l.length,f l[k]=true∧∀x∈l.take k,f x=false
 |[],h=>absurd (fun x hx=>by cases hx) h
 |x::l,h=>by
  cases hx:f x with
  |true=>exact ⟨0,by simp,by simpa using hx,by simp⟩
  |false=>
   obtain ⟨k,hk,h1,h2⟩:=aKi l (fun hl=>h (fun y hy=>by
    rcases List.mem_cons.1 hy with rfl|hy
    ·exact hx
    ·exact hl y hy))
   refine ⟨k+1,by simpa using hk,by simpa using h1,fun y hy=> ?_⟩
   simp only [List.take_succ_cons,List.mem_cons] at hy
   rcases hy with rfl|hy
   ·exact hx
   ·exact h2 y hy
theorem aVc {α:Type} {f:α→Bool} {l:List α} {k:Nat} (h:k < l.length) (hf:f l[k]=true) (hn:∀x∈l.take k,f x=false):l.find? f=some l[k]:=by
 have e:l=l.take k++l[k]::l.drop (k+1):=by simp
 have h5:=congrArg (List.find? f) e
 rw [h5,List.find?_append]
 have:(l.take k).find? f=none:=List.find?_eq_none.2 fun x hx=>by simp [hn x hx]
 rw [this]
 simp only [Option.none_or,List.find?_cons,hf]
theorem mE {α:Type} (f:α→Bool) (l:List α):(iT f l= -1∧l.find? f=none)∨∃k,∃h:k < l.length,iT f l=(k:Int)∧l.find? f=some l[k]:=by
 by_cases h:∀x∈l,f x=false
 ·exact .inl ⟨oF h,aWm h⟩
 ·right
  obtain ⟨k,hk,h1,h2⟩:=aKi l h
  exact ⟨k,hk,sO hk h1 h2,aVc hk h1 h2⟩
def kY:bA:=⟨404,1,[],0,false,[]⟩
theorem aFg [aB Tryz.prog]:Ok Tryz.prog 13 [] (.agg (aV kY)):=by
 refine ent Tryz.mix Tryz.func13 Tryz.ntmps13 ?_
 have W:=trivial
 repeat' first|refine st ?_|(refine nx ?_;first|refine se ?_|refine so ?_)|(refine cx ?_;refine sc (fun hc=>?_) (fun hc=>?_)<;>try exact hc.elim)|(refine lx ?_;refine sp (fun hc=>?_) (fun hc=>?_)<;>try exact hc.elim)|refine sx ?_ ?_|refine sy ?_ ?_|fail
 all_goals (try (refine ⟨.inr rfl,?_⟩;simp [Hands,Tryz.results13,kY]))
theorem aFz [aB Tryz.prog]:Ok Tryz.prog 75 [] (.agg (aV kY)):=by
 refine ent Tryz.mix Tryz.func75 Tryz.ntmps75 ?_
 have W:=trivial
 repeat' first|refine st ?_|(refine nx ?_;first|refine se ?_|refine so ?_)|(refine cx ?_;refine sc (fun hc=>?_) (fun hc=>?_)<;>try exact hc.elim)|(refine lx ?_;refine sp (fun hc=>?_) (fun hc=>?_)<;>try exact hc.elim)|refine sx ?_ ?_|refine sy ?_ ?_|fail
 all_goals (try (refine ⟨.inr rfl,?_⟩;simp [Hands,Tryz.results75,kY]))
end Go.Proofs.YtajppdidkjbmkaaGreatDoor
