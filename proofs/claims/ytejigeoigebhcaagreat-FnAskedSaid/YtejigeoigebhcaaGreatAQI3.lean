/-
  Proved here: steps towards the statement of this claim, text QI3.
  No condition beyond what each statement spells out.
-/
import Derived.Test.YtejigeoigebhcaaGreatAF8
import Derived.Test.YtejigeoigebhcaaGreatAQY3
import Derived.Test.YtejigeoigebhcaaGreatAQN1
import Derived.Test.YtejigeoigebhcaaGreatAR6
set_option linter.all false
set_option maxRecDepth 4000
set_option maxHeartbeats 4000000
namespace Go.Proofs.YtejigeoigebhcaaGreat
open Go.Aw
theorem aFj [aB Tryz.prog] (s t:Str):OkN Tryz.prog 93 [.str s,.str t] (.int .i64 (Lib.compareBytes s t)):=
 aHs (fn:=Tryz.f93) (by kernel_rfl) (by decide+kernel) rfl (by decide+kernel) (by rfl) s t
theorem aAu [aB Tryz.prog] (s t:Str):Ok Tryz.prog 75 [.str s,.str t] (.int .i64 (Lib.compareBytes s t)):=by
 refine ent Tryz.mix Tryz.func75 Tryz.ntmps75 ?_
 have W:=trivial
 have c0:=aFj s t
 repeat' first|refine st ?_|(refine nx ?_;first|refine se ?_|refine so ?_)|(refine cx ?_;refine sc (fun hc=>?_) (fun hc=>?_)<;>try exact hc.elim)|(refine lx ?_;refine sp (fun hc=>?_) (fun hc=>?_)<;>try exact hc.elim)|refine sx ?_ ?_|refine sy ?_ ?_|fail
 all_goals (try (refine ⟨.inr rfl,?_⟩;simp [Hands,Tryz.results75]))
theorem qX [aB Tryz.prog] (s t:Str):Ok Tryz.prog 44 [.str s,.str t] (.int .i64 (Lib.compareBytes s t)):=by
 refine ent Tryz.mix Tryz.func44 Tryz.ntmps44 ?_
 have W:=trivial
 have c0:=aAu s t
 repeat' first|refine st ?_|(refine nx ?_;first|refine se ?_|refine so ?_)|(refine cx ?_;refine sc (fun hc=>?_) (fun hc=>?_)<;>try exact hc.elim)|(refine lx ?_;refine sp (fun hc=>?_) (fun hc=>?_)<;>try exact hc.elim)|refine sx ?_ ?_|refine sy ?_ ?_|fail
 all_goals (try (refine ⟨.inr rfl,?_⟩;simp [Hands,Tryz.results44]))
def cmpAddr (a b:aP):Int:=if Lib.compareBytes a.host b.host≠0 then Lib.compareBytes a.host b.host else Lib.compareBytes a.path b.path
theorem oO [aB Tryz.prog] (a b:aP):Ok Tryz.prog 13 [.agg (aO a),.agg (aO b)] (.int .i64 (cmpAddr a b)):=by
 have c1:=qX a.host b.host
 have c2:=qX a.path b.path
 unfold cmpAddr
 generalize Lib.compareBytes a.host b.host=x at *
 generalize Lib.compareBytes a.path b.path=y at *
 by_cases hx:x=0
 ·refine ent Tryz.mix Tryz.func13 Tryz.ntmps13 ?_
  have W:=hx
  repeat' first|refine st ?_|(refine nx ?_;first|refine se ?_|refine so ?_)|(refine cx ?_;refine sc (fun hc=>?_) (fun hc=>?_)<;>try exact hc.elim)|(refine lx ?_;refine sp (fun hc=>?_) (fun hc=>?_)<;>try exact hc.elim)|refine sx ?_ ?_|refine sy ?_ ?_|fail
  all_goals (try (refine ⟨.inr rfl,?_⟩;simp [Hands,Tryz.results13,hx]))
 ·refine ent Tryz.mix Tryz.func13 Tryz.ntmps13 ?_
  have W:=hx
  repeat' first|refine st ?_|(refine nx ?_;first|refine se ?_|refine so ?_)|(refine cx ?_;refine sc (fun hc=>?_) (fun hc=>?_)<;>try exact hc.elim)|(refine lx ?_;refine sp (fun hc=>?_) (fun hc=>?_)<;>try exact hc.elim)|refine sx ?_ ?_|refine sy ?_ ?_|fail
  all_goals (try (refine ⟨.inr rfl,?_⟩;simp [Hands,Tryz.results13,hx]))
theorem mY:∀l:List UInt8,Op.bytesLess l l=false
 |[]=>rfl
 |x::l=>by simp [Op.bytesLess,mY l,UInt8.lt_irrefl]
theorem uO (a b:aP):cmpAddr a b=if a=b then 0 else if (Op.bytesLess a.host b.host || (a.host == b.host&&Op.bytesLess a.path b.path))=true then -1 else 1:=by
 unfold cmpAddr
 obtain ⟨h1,p1⟩:=a
 obtain ⟨h2,p2⟩:=b
 simp only [aIp,aP.mk.injEq]
 by_cases e1:h1=h2
 ·subst e1
  by_cases e2:p1=p2
  ·simp [e2]
  ·have:=mY h1
   simp [e2,this]
 ·cases hb:Op.bytesLess h1 h2<;>simp [e1,hb]
theorem oN [aB Tryz.prog] (a b:aP):Ok Tryz.prog 76 [.agg (aO a),.agg (aO b)] (.int .i64 (cmpAddr a b)):=by
 rw [uO]
 have c1:=lD a b
 by_cases he:a=b
 ·subst he
  simp only [aO,decide_true] at c1
  refine ent Tryz.mix Tryz.func76 Tryz.ntmps76 ?_
  have W:=trivial
  have c0:=c1
  repeat' first|refine st ?_|(refine nx ?_;first|refine se ?_|refine so ?_)|(refine cx ?_;refine sc (fun hc=>?_) (fun hc=>?_)<;>try exact hc.elim)|(refine lx ?_;refine sp (fun hc=>?_) (fun hc=>?_)<;>try exact hc.elim)|refine sx ?_ ?_|refine sy ?_ ?_|fail
  all_goals (try (refine ⟨.inr rfl,?_⟩;simp [Hands,Tryz.results76]))
 ·simp only [aO,he,decide_false] at c1
  simp only [he,if_false]
  cases h1:Op.bytesLess a.host b.host
  ·by_cases h2:a.host=b.host
   ·rw [h2] at c1
    have h0:=mY b.host
    cases h3:Op.bytesLess a.path b.path
    ·refine ent Tryz.mix Tryz.func76 Tryz.ntmps76 ?_
     have W:=And.intro h0 (And.intro h1 (And.intro h2 h3))
     have c0:=c1
     repeat' first|refine st ?_|(refine nx ?_;first|refine se ?_|refine so ?_)|(refine cx ?_;refine sc (fun hc=>?_) (fun hc=>?_)<;>try exact hc.elim)|(refine lx ?_;refine sp (fun hc=>?_) (fun hc=>?_)<;>try exact hc.elim)|refine sx ?_ ?_|refine sy ?_ ?_|fail
     all_goals (try (refine ⟨.inr rfl,?_⟩;simp [Hands,Tryz.results76,h0,h1,h2,h3]))
    ·refine ent Tryz.mix Tryz.func76 Tryz.ntmps76 ?_
     have W:=And.intro h0 (And.intro h1 (And.intro h2 h3))
     have c0:=c1
     repeat' first|refine st ?_|(refine nx ?_;first|refine se ?_|refine so ?_)|(refine cx ?_;refine sc (fun hc=>?_) (fun hc=>?_)<;>try exact hc.elim)|(refine lx ?_;refine sp (fun hc=>?_) (fun hc=>?_)<;>try exact hc.elim)|refine sx ?_ ?_|refine sy ?_ ?_|fail
     all_goals (try (refine ⟨.inr rfl,?_⟩;simp [Hands,Tryz.results76,h0,h1,h2,h3]))
   ·refine ent Tryz.mix Tryz.func76 Tryz.ntmps76 ?_
    have W:=And.intro h1 h2
    have c0:=c1
    repeat' first|refine st ?_|(refine nx ?_;first|refine se ?_|refine so ?_)|(refine cx ?_;refine sc (fun hc=>?_) (fun hc=>?_)<;>try exact hc.elim)|(refine lx ?_;refine sp (fun hc=>?_) (fun hc=>?_)<;>try exact hc.elim)|refine sx ?_ ?_|refine sy ?_ ?_|fail
    all_goals (try (refine ⟨.inr rfl,?_⟩;simp [Hands,Tryz.results76,h1,h2]))
  ·refine ent Tryz.mix Tryz.func76 Tryz.ntmps76 ?_
   have W:=h1
   have c0:=c1
   repeat' first|refine st ?_|(refine nx ?_;first|refine se ?_|refine so ?_)|(refine cx ?_;refine sc (fun hc=>?_) (fun hc=>?_)<;>try exact hc.elim)|(refine lx ?_;refine sp (fun hc=>?_) (fun hc=>?_)<;>try exact hc.elim)|refine sx ?_ ?_|refine sy ?_ ?_|fail
   all_goals (try (refine ⟨.inr rfl,?_⟩;simp [Hands,Tryz.results76,h1]))
def dA (l:List bT) (a:aP):Nat:=(l.takeWhile fun m=>decide (cmpAddr m.to a < 0)).length
theorem oQ {a:aP}:∀{l:List bT} {k:Nat},k≤l.length→(∀x∈l.take k,cmpAddr x.to a < 0)→(∀m,l[k]? =some m→¬cmpAddr m.to a < 0)→dA l a=k
 |[],k,h,_,_=>by simp at h;subst h;rfl
 |m::l,0,_,_,h=>by simp [dA,h m rfl]
 |m::l,k+1,h0,h1,h2=>by
  have ih:=oQ (a:=a) (l:=l) (k:=k) (by simpa using h0) (fun x hx=>h1 x (by simp [hx])) (fun m hm=>h2 m (by simpa using hm))
  have:=h1 m (by simp)
  simp only [dA,List.takeWhile_cons,decide_eq_true this,List.length_cons] at ih⊢
  simpa using ih
theorem aMq (l:List bT) (a:aP):dA l a≤l.length:=(List.takeWhile_sublist _).length_le
def lL (p:aS) (a:aP):bT:=if bR p.policy ⟨5,a,p.addr.host,[]⟩=1 then ⟨a,false,0,[]⟩ else ⟨a,true,2,[]⟩
def eZ (p:aS) (a:aP) (k:Nat):List bT:=p.mods.take k++lL p a::p.mods.drop k
def bJ (p:aS) (a:aP):aS:=
 match p.mods[dA p.mods a]? with
 |some m=>if m.to=a then p else {p with mods:=eZ p a (dA p.mods a)}
 |none=>{p with mods:=eZ p a (dA p.mods a)}
theorem aKz (s b:Str):bG (addrOf s b)≤s.length+b.length:=by
 have:=mO 47 s
 unfold addrOf
 split<;>simp [bG]<;>omega
theorem yM (s b:Str):bG (bA s b).1≤s.length+b.length:=by
 have:=aKz s b
 unfold bA
 split
 ·exact this
 ·simp [bG,lS]
end Go.Proofs.YtejigeoigebhcaaGreat
