/-
  Proved here: steps towards the statement of this claim, text QN1.
  No condition beyond what each statement spells out.
-/
import Derived.Test.YtejigeoigebhcaaGreatAQA0
import Derived.Test.YtejigeoigebhcaaGreatAF3
import Derived.Test.YtejigeoigebhcaaGreatAF6
import Derived.Test.YtejigeoigebhcaaGreatAQU1
import Derived.Test.YtejigeoigebhcaaGreatAQ1
set_option linter.all false
set_option maxRecDepth 4000
set_option maxHeartbeats 4000000
namespace Go.Proofs.YtejigeoigebhcaaGreat
open Go.Aw
def bI (m:Int):Int:=if m=1 then 4 else if m=2 then 3 else if m=3 then 2 else if m=4 then 2 else 0
theorem qW [aB Tryz.prog] (m:Int):Ok Tryz.prog 28 [.int .i64 m] (.int .i64 (bI m)):=by
 refine ent Tryz.mix Tryz.func28 Tryz.ntmps28 ?_
 have W:=trivial
 repeat' first|refine st ?_|(refine nx ?_;refine so ?_)|(refine cx ?_;refine sc (fun hc=>?_) (fun hc=>?_)<;>try exact hc.elim)|(refine lx ?_;refine sp (fun hc=>?_) (fun hc=>?_)<;>try exact hc.elim)|refine sx ?_ ?_|refine sy ?_ ?_|fail
 all_goals (try (refine ⟨.inr rfl,?_⟩;simp [Hands,Tryz.results28,bI]))
 all_goals simp_all [bI]
theorem qV [aB Tryz.prog] (m:Int):Ok Tryz.prog 25 [.int .i64 m] (.int .i64 (bI m)):=by
 refine ent Tryz.mix Tryz.func25 Tryz.ntmps25 ?_
 have W:=trivial
 repeat' first|refine st ?_|(refine nx ?_;refine so ?_)|(refine cx ?_;refine sc (fun hc=>?_) (fun hc=>?_)<;>try exact hc.elim)|(refine lx ?_;refine sp (fun hc=>?_) (fun hc=>?_)<;>try exact hc.elim)|refine sx ?_ ?_|refine sy ?_ ?_|fail
 all_goals (try (refine ⟨.inr rfl,?_⟩;simp [Hands,Tryz.results25,bI]))
 all_goals simp_all [bI]
def aNe:fC:=⟨0,⟨[],[]⟩,[],[]⟩
def gB (p:aS) (s:iC):fC:=⟨bI s.mode,s.to,p.addr.host,s.digest⟩
def jB (p:aS) (m:bT):fC:=⟨5,m.to,p.addr.host,[]⟩
def iM (p:aS) (i:Int):fC:=match p.slots[i.toNat]? with
 |some s=>gB p s
 |none=>aNe
def oC (p:aS) (i:Int):fC:=match p.mods[i.toNat]? with
 |some s=>jB p s
 |none=>aNe
theorem nJ {α:Type} {l:List α} {i:Int} (h0:0≤i) (h1:i < l.length):∃s,l[i.toNat]? =some s:=⟨l[i.toNat]'(by omega),List.getElem?_eq_getElem _⟩
theorem at_eq {α:Type} {l:List α} {k:Nat} {s:α} (h:k < l.length) (hg:l[k]? =some s):l[k]=s:=by
 rw [List.getElem?_eq_getElem h] at hg
 exact Option.some.inj hg
theorem xG [aB Tryz.prog] (p:aS) (i:Int) (h0:0≤i) (h1:i < p.slots.length) (hl:p.slots.length≤1099511627776):Ok Tryz.prog 31 [.agg (aR .view p),.int .i64 i] (.agg (dH (iM p i))):=by
 obtain ⟨s,hg⟩:=nJ h0 h1
 have e:iM p i=gB p s:=by simp [iM,hg]
 rw [e]
 obtain rfl:p.slots[i.toNat]'(by omega)=s:=at_eq (by omega) hg
 have c1:=lM i 0 (p.slots.length - 1)
 rw [show (decide (0≤i)&&decide (i≤(p.slots.length:Int) - 1))=true by simp;omega] at c1
 have c2:=qW (p.slots[i.toNat]'(by omega)).mode
 refine ent Tryz.mix Tryz.func31 Tryz.ntmps31 ?_
 have W:=And.intro hg (And.intro h0 h1)
 repeat' first|refine st ?_|(refine nx ?_;refine so ?_)|(refine cx ?_;refine sc (fun hc=>?_) (fun hc=>?_)<;>try exact hc.elim)|(refine lx ?_;refine sp (fun hc=>?_) (fun hc=>?_)<;>try exact hc.elim)|refine sx ?_ ?_|refine sy ?_ ?_|fail
 all_goals (try (refine ⟨.inr rfl,?_⟩;simp [Hands,Tryz.results31,gB]))
theorem qL [aB Tryz.prog] (p:aS) (i:Int) (h0:0≤i) (h1:i < p.slots.length) (hl:p.slots.length≤1099511627776):Ok Tryz.prog 10 [.agg (aR .view p),.int .i64 i] (.agg (dH (iM p i))):=by
 obtain ⟨s,hg⟩:=nJ h0 h1
 have e:iM p i=gB p s:=by simp [iM,hg]
 rw [e]
 obtain rfl:p.slots[i.toNat]'(by omega)=s:=at_eq (by omega) hg
 have c2:=qV (p.slots[i.toNat]'(by omega)).mode
 have n0:¬i < 0:=by omega
 have n1:¬(p.slots.length:Int)≤i:=by omega
 refine ent Tryz.mix Tryz.func10 Tryz.ntmps10 ?_
 have W:=And.intro hg (And.intro h0 (And.intro h1 (And.intro n0 n1)))
 repeat' first|refine st ?_|(refine nx ?_;refine so ?_)|(refine cx ?_;refine sc (fun hc=>?_) (fun hc=>?_)<;>try exact hc.elim)|(refine lx ?_;refine sp (fun hc=>?_) (fun hc=>?_)<;>try exact hc.elim)|refine sx ?_ ?_|refine sy ?_ ?_|fail
 all_goals (try (refine ⟨.inr rfl,?_⟩;simp [Hands,Tryz.results10,gB]))
theorem mK [aB Tryz.prog] (p:aS) (i:Int) (h0:0≤i) (h1:i < p.mods.length) (hl:p.mods.length≤1099511627776):Ok Tryz.prog 14 [.agg (aR .view p),.int .i64 i] (.agg (dH (oC p i))):=by
 obtain ⟨s,hg⟩:=nJ h0 h1
 have e:oC p i=jB p s:=by simp [oC,hg]
 rw [e]
 obtain rfl:p.mods[i.toNat]'(by omega)=s:=at_eq (by omega) hg
 have n0:¬i < 0:=by omega
 have n1:¬(p.mods.length:Int)≤i:=by omega
 refine ent Tryz.mix Tryz.func14 Tryz.ntmps14 ?_
 have W:=And.intro hg (And.intro h0 (And.intro h1 (And.intro n0 n1)))
 repeat' first|refine st ?_|(refine nx ?_;refine so ?_)|(refine cx ?_;refine sc (fun hc=>?_) (fun hc=>?_)<;>try exact hc.elim)|(refine lx ?_;refine sp (fun hc=>?_) (fun hc=>?_)<;>try exact hc.elim)|refine sx ?_ ?_|refine sy ?_ ?_|fail
 all_goals (try (refine ⟨.inr rfl,?_⟩;simp [Hands,Tryz.results14,jB]))
theorem aLa {a b:aP}:aO a=aO b↔a=b:=by
 obtain ⟨a1,a2⟩:=a
 obtain ⟨b1,b2⟩:=b
 simp
theorem lD (a b:aP):EqA Tryz.prog 25 (aO a) (aO b) (decide (a=b)):=
 yG (f:=6) (ss:=[.str,.str]) (by decide) (by kernel_rfl) (by kernel_rfl) (by kernel_rfl) (by kernel_rfl) (by simp [eX,kX]) (by simp [eX,kX]) (by rw [aLa,decide_eq_true_iff])
def sU (a x:aP):Bool:=decide (x=a)
theorem aCa [aB Tryz.prog] (l:List aP) (a:aP) (hl:l.length≤1099511627776):Ok Tryz.prog 81 [.sl .view 2 (l.map aO),.agg (aO a)] (.bool (l.any (sU a))):=by
 refine ent Tryz.mix Tryz.func81 Tryz.ntmps81 ?_
 have W:=trivial
 repeat' first|refine st ?_|(refine nx ?_;first|refine se ?_|refine so ?_)|(refine cx ?_;refine sc (fun hc=>?_) (fun hc=>?_)<;>try exact hc.elim)|(refine lx ?_;refine sp (fun hc=>?_) (fun hc=>?_)<;>try exact hc.elim)|refine sx ?_ ?_|refine sy ?_ ?_|fail
 refine aQ (ι:={k:Nat // k≤l.length∧∀x∈l.take k,sU a x=false}) (fun t o i=>⟨bB t [(5,.int .i64 i.1)],o⟩)
  (fun i=>l.length - i.1) ⟨0,by simp,by simp⟩ (aY (by simp) (by simp)) ?_
 rintro ⟨k,hk,hi⟩ K1 hK1
 simp only [bB,List.set_cons_succ,List.set_cons_zero] at hK1⊢
 have hk1:IntKind.i64.wrap ((k:Int)+1)=((k+1:Nat):Int):=by rw [wrap64]<;>omega
 by_cases hlt:k < l.length
 ·have hg:=List.getElem?_eq_getElem hlt
  have W:=And.intro hk1 (And.intro hg hlt)
  have c0:=lD l[k] a
  repeat' first|refine st ?_|(refine nx ?_;first|refine se ?_|refine so ?_)|(refine cx ?_;refine sc (fun hc=>?_) (fun hc=>?_)<;>try exact hc.elim)|(refine lx ?_;refine sp (fun hc=>?_) (fun hc=>?_)<;>try exact hc.elim)|refine sx ?_ ?_|refine sy ?_ ?_|fail
  ·all_goals (try (refine ⟨.inr rfl,?_⟩;simp [Hands,Tryz.results81]))
   refine ⟨_,List.getElem_mem hlt,by simpa [sU] using hc⟩
  ·exact hK1 _ ⟨k+1,by omega,dZ hlt hi (by simpa [sU] using hc)⟩ (aW 1 (by simp) (by simp) (by simp) (by simp)) (by simp only;omega)
 ·have W:=hk1
  repeat' first|refine st ?_|(refine nx ?_;first|refine se ?_|refine so ?_)|(refine cx ?_;refine sc (fun hc=>?_) (fun hc=>?_)<;>try exact hc.elim)|(refine lx ?_;refine sp (fun hc=>?_) (fun hc=>?_)<;>try exact hc.elim)|refine sx ?_ ?_|refine sy ?_ ?_|fail
  all_goals (try (refine ⟨.inr rfl,?_⟩;simp [Hands,Tryz.results81]))
  have:=jA (by omega) hi
  simpa using this
end Go.Proofs.YtejigeoigebhcaaGreat
