/-
  Proved here: steps towards the statement of this claim, text QFI.
  No condition beyond what each statement spells out.
-/
import Derived.Test.YtgkllebnnakojaaGreatDoorQ2
import Derived.Test.YtgkllebnnakojaaGreatDoorQA0
set_option linter.all false
set_option maxRecDepth 4000
set_option maxHeartbeats 4000000
namespace Go.Proofs.YtgkllebnnakojaaGreatDoor
open Go.Aw
theorem aVf {α:Type} {f:α→Bool} {l:List α} (hn:∀x∈l,f x=false):l.find? f=none:=List.find?_eq_none.2 fun x hx=>by simp [hn x hx]
theorem aLg {α:Type} {f:α→Bool}:∀l:List α,¬(∀x∈l,f x=false)→∃k,∃hk:k < l.length,f l[k]=true∧∀x∈l.take k,f x=false
 |[],h=>absurd (fun x hx=>by cases hx) h
 |x::l,h=>by
  cases hx:f x with
  |true=>exact ⟨0,by simp,by simpa using hx,by simp⟩
  |false=>
   obtain ⟨k,hk,h1,h2⟩:=aLg l (fun hl=>h (fun y hy=>by
    rcases List.mem_cons.1 hy with rfl|hy
    ·exact hx
    ·exact hl y hy))
   refine ⟨k+1,by simpa using hk,by simpa using h1,fun y hy=> ?_⟩
   simp only [List.take_succ_cons,List.mem_cons] at hy
   rcases hy with rfl|hy
   ·exact hx
   ·exact h2 y hy
theorem aT3 {α:Type} {f:α→Bool} {l:List α} {k:Nat} (h:k < l.length) (hf:f l[k]=true) (hn:∀x∈l.take k,f x=false):l.find? f=some l[k]:=by
 have e:l=l.take k++l[k]::l.drop (k+1):=by simp
 have h5:=congrArg (List.find? f) e
 rw [h5,List.find?_append]
 have:(l.take k).find? f=none:=List.find?_eq_none.2 fun x hx=>by simp [hn x hx]
 rw [this]
 simp only [Option.none_or,List.find?_cons,hf]
theorem gZ {α:Type} (f:α→Bool) (l:List α):(dZ f l= -1∧l.find? f=none)∨∃k,∃h:k < l.length,dZ f l=(k:Int)∧l.find? f=some l[k]:=by
 by_cases h:∀x∈l,f x=false
 ·exact .inl ⟨nO h,aVf h⟩
 ·right
  obtain ⟨k,hk,h1,h2⟩:=aLg l h
  exact ⟨k,hk,qA hk h1 h2,aT3 hk h1 h2⟩
def rJ:aZ:=⟨404,1,[],0,false,[]⟩
theorem aDu [aB Tryz.prog]:Ok Tryz.prog 74 [] (.agg (bU rJ)):=by
 refine ent Tryz.mix Tryz.func74 Tryz.ntmps74 ?_
 have W:=trivial
 repeat' first|refine st ?_|(refine nx ?_;first|refine se ?_|refine so ?_)|(refine cx ?_;refine sc (fun hc=>?_) (fun hc=>?_)<;>try exact hc.elim)|(refine lx ?_;refine sp (fun hc=>?_) (fun hc=>?_)<;>try exact hc.elim)|refine sx ?_ ?_|refine sy ?_ ?_|fail
 all_goals (try (refine ⟨.inr rfl,?_⟩;simp [Hands,Tryz.results74,rJ]))
def vZ (h:Str) (s:bX):Bool:=s.host == h
def nC (h:Str) (s:aBu):Bool:=s.path == h
def lG (l:List bX) (a:aC):aZ:=
 match l.find? (vZ a.host) with
 |some s=>match s.files.find? (nC a.path) with
  |some f=>f.response
  |none=>rJ
 |none=>rJ
theorem aAd [aB Tryz.prog] (l:List bX) (h:Str) (hl:l.length≤1099511627776):Ok Tryz.prog 73 [.sl .view 2 (l.map (aQ .view)),.str h] (.int .i64 (dZ (vZ h) l)):=by
 refine ent Tryz.mix Tryz.func73 Tryz.ntmps73 ?_
 have W:=trivial
 repeat' first|refine st ?_|(refine nx ?_;first|refine se ?_|refine so ?_)|(refine cx ?_;refine sc (fun hc=>?_) (fun hc=>?_)<;>try exact hc.elim)|(refine lx ?_;refine sp (fun hc=>?_) (fun hc=>?_)<;>try exact hc.elim)|refine sx ?_ ?_|refine sy ?_ ?_|fail
 refine aT (ι:={k:Nat // k≤l.length∧∀x∈l.take k,vZ h x=false}) (fun t o i=>⟨bB t [(5,.int .i64 i.1)],o⟩)
  (fun i=>l.length - i.1) ⟨0,by simp,by simp⟩ (aI (by simp) (by simp)) ?_
 rintro ⟨k,hk,hi⟩ K1 hK1
 simp only [bB,List.set_cons_succ,List.set_cons_zero] at hK1⊢
 have hk1:IntKind.i64.wrap ((k:Int)+1)=((k+1:Nat):Int):=by rw [wrap64]<;>omega
 by_cases hlt:k < l.length
 ·have hg:=List.getElem?_eq_getElem hlt
  by_cases hb:l[k].host=h
  ·have hbb:(l[k].host == h)=true:=by simp [hb]
   rw [qA hlt (by simpa [vZ] using hb) hi]
   have W:=And.intro hk1 (And.intro hg (And.intro hlt hbb))
   repeat' first|refine st ?_|(refine nx ?_;first|refine se ?_|refine so ?_)|(refine cx ?_;refine sc (fun hc=>?_) (fun hc=>?_)<;>try exact hc.elim)|(refine lx ?_;refine sp (fun hc=>?_) (fun hc=>?_)<;>try exact hc.elim)|refine sx ?_ ?_|refine sy ?_ ?_|fail
   all_goals (try (refine ⟨.inr rfl,?_⟩;simp [Hands,Tryz.results73]))
  ·have hbb:(l[k].host == h)=false:=by simp [hb]
   have hnx:∀x∈l.take (k+1),vZ h x=false:=dD hlt hi (by simpa [vZ] using hb)
   have W:=And.intro hk1 (And.intro hg (And.intro hlt hbb))
   repeat' first|refine st ?_|(refine nx ?_;first|refine se ?_|refine so ?_)|(refine cx ?_;refine sc (fun hc=>?_) (fun hc=>?_)<;>try exact hc.elim)|(refine lx ?_;refine sp (fun hc=>?_) (fun hc=>?_)<;>try exact hc.elim)|refine sx ?_ ?_|refine sy ?_ ?_|fail
   exact hK1 _ ⟨k+1,by omega,hnx⟩ (aI (by simp) (by simp)) (by simp only;omega)
 ·rw [nO (iL (by omega) hi)]
  have W:=hk1
  repeat' first|refine st ?_|(refine nx ?_;first|refine se ?_|refine so ?_)|(refine cx ?_;refine sc (fun hc=>?_) (fun hc=>?_)<;>try exact hc.elim)|(refine lx ?_;refine sp (fun hc=>?_) (fun hc=>?_)<;>try exact hc.elim)|refine sx ?_ ?_|refine sy ?_ ?_|fail
  all_goals (try (refine ⟨.inr rfl,?_⟩;simp [Hands,Tryz.results73]))
theorem zC [aB Tryz.prog] (s:bX) (h:Str) (hl:s.files.length≤1099511627776):Ok Tryz.prog 75 [.agg (aQ .view s),.str h] (.int .i64 (dZ (nC h) s.files)):=by
 refine ent Tryz.mix Tryz.func75 Tryz.ntmps75 ?_
 have W:=trivial
 repeat' first|refine st ?_|(refine nx ?_;first|refine se ?_|refine so ?_)|(refine cx ?_;refine sc (fun hc=>?_) (fun hc=>?_)<;>try exact hc.elim)|(refine lx ?_;refine sp (fun hc=>?_) (fun hc=>?_)<;>try exact hc.elim)|refine sx ?_ ?_|refine sy ?_ ?_|fail
 refine aT (ι:={k:Nat // k≤s.files.length∧∀x∈s.files.take k,nC h x=false}) (fun t o i=>⟨bB t [(5,.int .i64 i.1)],o⟩)
  (fun i=>s.files.length - i.1) ⟨0,by simp,by simp⟩ (aI (by simp) (by simp)) ?_
 rintro ⟨k,hk,hi⟩ K1 hK1
 simp only [bB,List.set_cons_succ,List.set_cons_zero] at hK1⊢
 have hk1:IntKind.i64.wrap ((k:Int)+1)=((k+1:Nat):Int):=by rw [wrap64]<;>omega
 by_cases hlt:k < s.files.length
 ·have hg:=List.getElem?_eq_getElem hlt
  by_cases hb:s.files[k].path=h
  ·have hbb:(s.files[k].path == h)=true:=by simp [hb]
   rw [qA hlt (by simpa [nC] using hb) hi]
   have W:=And.intro hk1 (And.intro hg (And.intro hlt hbb))
   repeat' first|refine st ?_|(refine nx ?_;first|refine se ?_|refine so ?_)|(refine cx ?_;refine sc (fun hc=>?_) (fun hc=>?_)<;>try exact hc.elim)|(refine lx ?_;refine sp (fun hc=>?_) (fun hc=>?_)<;>try exact hc.elim)|refine sx ?_ ?_|refine sy ?_ ?_|fail
   all_goals (try (refine ⟨.inr rfl,?_⟩;simp [Hands,Tryz.results75]))
  ·have hbb:(s.files[k].path == h)=false:=by simp [hb]
   have hnx:∀x∈s.files.take (k+1),nC h x=false:=dD hlt hi (by simpa [nC] using hb)
   have W:=And.intro hk1 (And.intro hg (And.intro hlt hbb))
   repeat' first|refine st ?_|(refine nx ?_;first|refine se ?_|refine so ?_)|(refine cx ?_;refine sc (fun hc=>?_) (fun hc=>?_)<;>try exact hc.elim)|(refine lx ?_;refine sp (fun hc=>?_) (fun hc=>?_)<;>try exact hc.elim)|refine sx ?_ ?_|refine sy ?_ ?_|fail
   exact hK1 _ ⟨k+1,by omega,hnx⟩ (aI (by simp) (by simp)) (by simp only;omega)
 ·rw [nO (iL (by omega) hi)]
  have W:=hk1
  repeat' first|refine st ?_|(refine nx ?_;first|refine se ?_|refine so ?_)|(refine cx ?_;refine sc (fun hc=>?_) (fun hc=>?_)<;>try exact hc.elim)|(refine lx ?_;refine sp (fun hc=>?_) (fun hc=>?_)<;>try exact hc.elim)|refine sx ?_ ?_|refine sy ?_ ?_|fail
  all_goals (try (refine ⟨.inr rfl,?_⟩;simp [Hands,Tryz.results75]))
theorem aEm [aB Tryz.prog] (l:List bX) (a:aC) (hs:szL aW l≤1099511627776):Ok Tryz.prog 42 [.sl .view 2 (l.map (aQ .view)),.agg (aD a)] (.agg (bU (lG l a))):=by
 simp only [szL] at hs
 have c1:=aAd l a.host (by omega)
 have c2:=aDu
 simp only [bU] at c2
 unfold lG
 rcases gZ (vZ a.host) l with ⟨h1,h2⟩|⟨k,hk,h1,h2⟩
 ·rw [h1] at c1
  rw [h2]
  refine ent Tryz.mix Tryz.func42 Tryz.ntmps42 ?_
  have W:=trivial
  repeat' first|refine st ?_|(refine nx ?_;first|refine se ?_|refine so ?_)|(refine cx ?_;refine sc (fun hc=>?_) (fun hc=>?_)<;>try exact hc.elim)|(refine lx ?_;refine sp (fun hc=>?_) (fun hc=>?_)<;>try exact hc.elim)|refine sx ?_ ?_|refine sy ?_ ?_|fail
  all_goals (try (refine ⟨.inr rfl,?_⟩;simp [Hands,Tryz.results42]))
 ·rw [h1] at c1
  rw [h2]
  have hg:=List.getElem?_eq_getElem hk
  have hn:¬((k:Int) < 0):=by omega
  have hz:=iK aW l k hk
  simp only [aW,szL] at hz
  have c3:=zC l[k] a.path (by omega)
  simp only [aQ] at c3
  simp only
  rcases gZ (nC a.path) l[k].files with ⟨h3,h4⟩|⟨j,hj,h3,h4⟩
  ·rw [h3] at c3
   rw [h4]
   refine ent Tryz.mix Tryz.func42 Tryz.ntmps42 ?_
   have W:=And.intro hg (And.intro hk hn)
   repeat' first|refine st ?_|(refine nx ?_;first|refine se ?_|refine so ?_)|(refine cx ?_;refine sc (fun hc=>?_) (fun hc=>?_)<;>try exact hc.elim)|(refine lx ?_;refine sp (fun hc=>?_) (fun hc=>?_)<;>try exact hc.elim)|refine sx ?_ ?_|refine sy ?_ ?_|fail
   all_goals (try (refine ⟨.inr rfl,?_⟩;simp [Hands,Tryz.results42]))
  ·rw [h3] at c3
   rw [h4]
   have hg2:=List.getElem?_eq_getElem hj
   have hn2:¬((j:Int) < 0):=by omega
   refine ent Tryz.mix Tryz.func42 Tryz.ntmps42 ?_
   have W:=And.intro hg (And.intro hk (And.intro hn (And.intro hg2 (And.intro hj hn2))))
   repeat' first|refine st ?_|(refine nx ?_;first|refine se ?_|refine so ?_)|(refine cx ?_;refine sc (fun hc=>?_) (fun hc=>?_)<;>try exact hc.elim)|(refine lx ?_;refine sp (fun hc=>?_) (fun hc=>?_)<;>try exact hc.elim)|refine sx ?_ ?_|refine sy ?_ ?_|fail
   all_goals (try (refine ⟨.inr rfl,?_⟩;simp [Hands,Tryz.results42]))
end Go.Proofs.YtgkllebnnakojaaGreatDoor
