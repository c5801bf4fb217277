/-
  Proved here: steps towards the statement of this claim, text QPL.
  No condition beyond what each statement spells out.
-/
import Derived.Test.YtgkllebnnakojaaGreatDoorF4
import Derived.Test.YtgkllebnnakojaaGreatDoorZ5
import Derived.Test.YtgkllebnnakojaaGreatDoorQN1
import Derived.Test.YtgkllebnnakojaaGreatDoorQP9
import Derived.Test.YtgkllebnnakojaaGreatDoorZ6
import Derived.Test.YtgkllebnnakojaaGreatDoorF8
import Derived.Test.YtgkllebnnakojaaGreatDoorF1
import Derived.Lib.Overlaps
import Derived.Lib.AppendZerosOnto
import Derived.Test.YtgkllebnnakojaaGreatDoorYFacts
import Derived.Shelf.Spec.SlicesInsertGrow
import Derived.Test.YtgkllebnnakojaaGreatDoorF5
import Derived.Test.YtgkllebnnakojaaGreatDoorQS1
import Derived.Test.YtgkllebnnakojaaGreatDoorQ2
set_option linter.all false
set_option maxRecDepth 4000
set_option maxHeartbeats 4000000
namespace Go.Proofs.YtgkllebnnakojaaGreatDoor
open Go.Aw
theorem wL {α:Type} (f:α→Nat):∀a b:List α,bF f (a++b)=bF f a+bF f b
 |[],b=>by simp [bF]
 |x::xs,b=>by simp only [List.cons_append,bF,wL f xs b];omega
end Go.Proofs.YtgkllebnnakojaaGreatDoor

set_option maxRecDepth 4000
set_option maxHeartbeats 4000000
namespace Go.Proofs.YtgkllebnnakojaaGreatDoor
open Go.Aw
theorem aJv (c:UInt8):∀s:Str,bF dO (bA c s)≤s.length
 |[]=>by simp [bA,bF,dO]
 |x::s=>by
  have ih:=aJv c s
  simp only [bA]
  split
  ·simp only [bF,dO,List.length_nil,List.length_cons] at ih⊢;omega
  ·split
   ·rename_i h0;exact absurd h0 (kW c s)
   ·rename_i p q h0
    rw [h0] at ih
    simp only [bF,dO,List.length_cons] at ih⊢;omega
theorem aUu (s b:Str):aK (dG s b).1≤s.length+b.length:=by
 have h:=qY 47 s
 unfold dG addrOf
 split<;>split<;>simp [aK,mV]<;>omega
theorem aMm (base:Str):∀(l:List Str) (acc:List aC) (q:List Str),fI base l=some (acc,q)→7 * acc.length≤bF dO l∧bF aK acc≤bF dO l+acc.length * base.length∧∀x∈acc,aK x≤bF dO l+base.length
 |[],acc,q,h=>by
  simp only [fI,Option.some.injEq,Prod.mk.injEq] at h
  obtain ⟨rfl,rfl⟩:=h
  simp [bF]
 |p::ps,acc,q,h=>by
  simp only [fI] at h
  split at h
  ·rename_i hp
   split at h
   ·obtain ⟨⟨a1,q1⟩,h1,h2⟩:=Option.map_eq_some_iff.1 h
    simp only [Prod.mk.injEq] at h2
    obtain ⟨rfl,rfl⟩:=h2
    obtain ⟨i1,i2,i3⟩:=aMm base ps a1 q1 h1
    have h7:=aJr hp
    have ha:=aUu (p.drop 7) base
    simp only [show jN.length=7 from rfl] at h7
    simp only [List.length_drop] at ha
    simp only [bF,dO,List.length_cons,Nat.succ_mul] at i1 i2 i3⊢
    refine ⟨by omega,by omega,?_⟩
    intro x hx
    rcases List.mem_cons.1 hx with rfl|hx
    ·omega
    ·have:=i3 x hx;omega
   ·cases h
  ·simp only [Option.some.injEq,Prod.mk.injEq] at h
   obtain ⟨rfl,rfl⟩:=h
   simp [bF]
theorem kK (s b:Str):7 * (aN s b).1.length≤s.length∧bF aK (aN s b).1≤s.length+(aN s b).1.length * b.length∧∀x∈(aN s b).1,aK x≤s.length+b.length:=by
 have hs:=aJv 59 s
 unfold aN
 split
 ·simp [bF]
 ·rename_i l q h
  obtain ⟨i1,i2,i3⟩:=aMm b _ _ _ h
  split
  ·exact ⟨by simp only;omega,by simp only;omega,fun x hx=>by have:=i3 x hx;omega⟩
  ·simp [bF]
theorem aM3 (N:Nat):∀l:List bQ,(∀m∈l,bJ m≤N)→7 * (l.flatMap fun m=>(aN m.body m.to.host).1).length≤bF bJ l∧bF aK (l.flatMap fun m=>(aN m.body m.to.host).1)≤bF bJ l+(l.flatMap fun m=>(aN m.body m.to.host).1).length * N
 |[],_=>by simp [bF]
 |m::l,h=>by
  obtain ⟨i1,i2⟩:=aM3 N l (fun x hx=>h x (by simp [hx]))
  obtain ⟨j1,j2,_⟩:=kK m.body m.to.host
  have hm:=h m (by simp)
  simp only [bJ,aK] at hm
  have h3:=Nat.mul_le_mul_left (aN m.body m.to.host).1.length (show m.to.host.length≤N by omega)
  simp only [List.flatMap_cons,List.length_append,bF,wL,Nat.add_mul,bJ,aK] at i1 i2⊢
  exact ⟨by omega,by omega⟩
theorem uT (p:aJ) (a:aC) (h:szL bJ p.mods+aK a≤16777216):Bnd p (a::gP p)∧(a::gP p).length≤2396746∧bF aK (a::gP p)≤50000000000000:=by
 have hm:∀m∈p.mods,bJ m≤16777216:=fun m hm=>by
  have:=gI bJ hm
  simp only [bL,szL] at h
  omega
 obtain ⟨f1,f2⟩:=aM3 16777216 p.mods hm
 have hs:bF bJ p.mods≤16777216:=by simp only [bL,szL] at h;omega
 have hl:(gP p).length≤2396745:=by unfold gP;omega
 have h4:=Nat.mul_le_mul_right 16777216 hl
 have h5:bF aK (gP p)≤16777216+(gP p).length * 16777216:=by unfold gP;omega
 refine ⟨⟨by omega,fun x hx=>List.mem_cons_of_mem _ hx,by simp only [List.length_cons];omega,?_,?_⟩,by simp only [List.length_cons];omega,by simp only [bF];omega⟩
 ·intro x hx
  rcases List.mem_cons.1 hx with rfl|hx
  ·simp only [aK] at h;omega
  ·obtain ⟨m,h1,h2⟩:=List.mem_flatMap.1 hx
   have h6:=(kK m.body m.to.host).2.2 x h2
   have h7:=hm m h1
   simp only [bJ,aK] at h6 h7
   omega
 ·intro m h1
  have h6:=(kK m.body m.to.host).1
  have h7:=hm m h1
  simp only [bJ] at h7
  omega
theorem rC (p:aJ) (a:aC) (h:szL bJ p.mods+aK a≤16777216):(bC p a).length≤2396746∧bF aK (bC p a)≤50000000000000∧∀x∈bC p a,x∈a::gP p:=by
 obtain ⟨hb,h1,h2⟩:=uT p a h
 have hs:=(uK hb.im (unseen p []+1) a ([],[]) (by simp) ⟨by simp,by simp,by simp,by simp⟩).1
 obtain ⟨h3,h4⟩:=wN aK _ (a::gP p) hs.ond (fun x hx=>hs.sub x (hs.osub x hx))
 exact ⟨Nat.le_trans h4 h1,Nat.le_trans h3 h2,fun x hx=>hs.sub x (hs.osub x hx)⟩
end Go.Proofs.YtgkllebnnakojaaGreatDoor

namespace Go.Proofs.YtgkllebnnakojaaGreatDoor
end Go.Proofs.YtgkllebnnakojaaGreatDoor

namespace Go.Aw
structure aZg (w w' : World) (b k n : Nat) (cs : List Value) (v : Value) (b' off' cap' : Nat) (C' : Array Value) (e' : TypeId) (fz' : Nat × Nat) : Prop where
  ret : v = .slice (some ⟨b', off', none⟩) n cap'
  blk : w'.heap[b']? = some (.cells C' e' fz')
  hz : (C'.size ≤ fz'.1 ∧ k = 1) ∨ fz'.2 = 0
  fit : off' + cap' * k ≤ C'.size
  len : n ≤ cap'
  max : cap' ≤ maxLen
  at' : bK w' b' off' cs
  new : b' = b ∨ w.heap.size ≤ b'
  lt : b' < w'.heap.size
  size : w.heap.size ≤ w'.heap.size
  frame : ∀ x, x < w.heap.size → x ≠ b → w'.heap[x]? = w.heap[x]?
  same : Same w w'
end Go.Aw

set_option maxRecDepth 100000
set_option maxHeartbeats 4000000
namespace Go.Proofs.YtgkllebnnakojaaGreatDoor
open Go.Aw Go.Shelf Go.RowKit Go.Lib
end Go.Proofs.YtgkllebnnakojaaGreatDoor

set_option maxRecDepth 4000
set_option maxHeartbeats 4000000
namespace Go.Proofs.YtgkllebnnakojaaGreatDoor
open Go.Aw
set_option maxRecDepth 100000
end Go.Proofs.YtgkllebnnakojaaGreatDoor

set_option maxRecDepth 4000
set_option maxHeartbeats 4000000
namespace Go.Proofs.YtgkllebnnakojaaGreatDoor
open Go.Aw
def cmpAddr (a b:aC):Int:=if Lib.compareBytes a.host b.host≠0 then Lib.compareBytes a.host b.host else Lib.compareBytes a.path b.path
theorem oW:∀l:List UInt8,Op.bytesLess l l=false
 |[]=>rfl
 |x::l=>by simp [Op.bytesLess,oW l,UInt8.lt_irrefl]
theorem wZ (a b:aC):cmpAddr a b=if a=b then 0 else if (Op.bytesLess a.host b.host || (a.host == b.host&&Op.bytesLess a.path b.path))=true then -1 else 1:=by
 unfold cmpAddr
 obtain ⟨h1,p1⟩:=a
 obtain ⟨h2,p2⟩:=b
 simp only [aM6,aC.mk.injEq]
 by_cases e1:h1=h2
 ·subst e1
  by_cases e2:p1=p2
  ·simp [e2]
  ·have:=oW h1
   simp [e2,this]
 ·cases hb:Op.bytesLess h1 h2<;>simp [e1,hb]
theorem zV [aB Tryz.prog] (a b:aC):Ok Tryz.prog 113 [.agg (aD a),.agg (aD b)] (.int .i64 (cmpAddr a b)):=by
 rw [wZ]
 have c1:=lW a b
 by_cases he:a=b
 ·subst he
  simp only [aD,decide_true] at c1
  refine ent Tryz.mix Tryz.func113 Tryz.ntmps113 ?_
  have W:=trivial
  have c0:=c1
  repeat' first|refine st ?_|(refine nx ?_;first|refine se ?_|refine so ?_)|(refine cx ?_;refine sc (fun hc=>?_) (fun hc=>?_)<;>try exact hc.elim)|(refine lx ?_;refine sp (fun hc=>?_) (fun hc=>?_)<;>try exact hc.elim)|refine sx ?_ ?_|refine sy ?_ ?_|fail
  all_goals (try (refine ⟨.inr rfl,?_⟩;simp [Hands,Tryz.results113]))
 ·simp only [aD,he,decide_false] at c1
  simp only [he,if_false]
  cases h1:Op.bytesLess a.host b.host
  ·by_cases h2:a.host=b.host
   ·rw [h2] at c1
    have h0:=oW b.host
    cases h3:Op.bytesLess a.path b.path
    ·refine ent Tryz.mix Tryz.func113 Tryz.ntmps113 ?_
     have W:=And.intro h0 (And.intro h1 (And.intro h2 h3))
     have c0:=c1
     repeat' first|refine st ?_|(refine nx ?_;first|refine se ?_|refine so ?_)|(refine cx ?_;refine sc (fun hc=>?_) (fun hc=>?_)<;>try exact hc.elim)|(refine lx ?_;refine sp (fun hc=>?_) (fun hc=>?_)<;>try exact hc.elim)|refine sx ?_ ?_|refine sy ?_ ?_|fail
     all_goals (try (refine ⟨.inr rfl,?_⟩;simp [Hands,Tryz.results113,h0,h1,h2,h3]))
    ·refine ent Tryz.mix Tryz.func113 Tryz.ntmps113 ?_
     have W:=And.intro h0 (And.intro h1 (And.intro h2 h3))
     have c0:=c1
     repeat' first|refine st ?_|(refine nx ?_;first|refine se ?_|refine so ?_)|(refine cx ?_;refine sc (fun hc=>?_) (fun hc=>?_)<;>try exact hc.elim)|(refine lx ?_;refine sp (fun hc=>?_) (fun hc=>?_)<;>try exact hc.elim)|refine sx ?_ ?_|refine sy ?_ ?_|fail
     all_goals (try (refine ⟨.inr rfl,?_⟩;simp [Hands,Tryz.results113,h0,h1,h2,h3]))
   ·refine ent Tryz.mix Tryz.func113 Tryz.ntmps113 ?_
    have W:=And.intro h1 h2
    have c0:=c1
    repeat' first|refine st ?_|(refine nx ?_;first|refine se ?_|refine so ?_)|(refine cx ?_;refine sc (fun hc=>?_) (fun hc=>?_)<;>try exact hc.elim)|(refine lx ?_;refine sp (fun hc=>?_) (fun hc=>?_)<;>try exact hc.elim)|refine sx ?_ ?_|refine sy ?_ ?_|fail
    all_goals (try (refine ⟨.inr rfl,?_⟩;simp [Hands,Tryz.results113,h1,h2]))
  ·refine ent Tryz.mix Tryz.func113 Tryz.ntmps113 ?_
   have W:=h1
   have c0:=c1
   repeat' first|refine st ?_|(refine nx ?_;first|refine se ?_|refine so ?_)|(refine cx ?_;refine sc (fun hc=>?_) (fun hc=>?_)<;>try exact hc.elim)|(refine lx ?_;refine sp (fun hc=>?_) (fun hc=>?_)<;>try exact hc.elim)|refine sx ?_ ?_|refine sy ?_ ?_|fail
   all_goals (try (refine ⟨.inr rfl,?_⟩;simp [Hands,Tryz.results113,h1]))
def fC (l:List bQ) (a:aC):Nat:=(l.takeWhile fun m=>decide (cmpAddr m.to a < 0)).length
theorem aDa {a:aC}:∀{l:List bQ} {k:Nat},k≤l.length→(∀x∈l.take k,cmpAddr x.to a < 0)→(∀m,l[k]? =some m→¬cmpAddr m.to a < 0)→fC l a=k
 |[],k,h,_,_=>by simp at h;subst h;rfl
 |m::l,0,_,_,h=>by simp [fC,h m rfl]
 |m::l,k+1,h0,h1,h2=>by
  have ih:=aDa (a:=a) (l:=l) (k:=k) (by simpa using h0) (fun x hx=>h1 x (by simp [hx])) (fun m hm=>h2 m (by simpa using hm))
  have:=h1 m (by simp)
  simp only [fC,List.takeWhile_cons,decide_eq_true this,List.length_cons] at ih⊢
  simpa using ih
def mQ (p:aJ) (a:aC):bQ:=if kJ p.policy ⟨5,a,p.addr.host,[]⟩=1 then ⟨a,false,0,[]⟩ else ⟨a,true,2,[]⟩
def lU (p:aJ) (a:aC) (k:Nat):List bQ:=p.mods.take k++mQ p a::p.mods.drop k
def dF (p:aJ) (a:aC):aJ:=
 match p.mods[fC p.mods a]? with
 |some m=>if m.to=a then p else {p with mods:=lU p a (fC p.mods a)}
 |none=>{p with mods:=lU p a (fC p.mods a)}
end Go.Proofs.YtgkllebnnakojaaGreatDoor

set_option maxRecDepth 4000
set_option maxHeartbeats 4000000
namespace Go.Proofs.YtgkllebnnakojaaGreatDoor
open Go.Aw
theorem aQh {p:aJ} {a:aC} {m:bQ} (h:p.mods[fC p.mods a]? =some m) (hm:m.to=a):dF p a=p:=by
 unfold dF;rw [h];simp [hm]
theorem aM0 {p:aJ} {a:aC} (h:∀m,p.mods[fC p.mods a]? =some m→m.to≠a):dF p a={p with mods:=lU p a (fC p.mods a)}:=by
 unfold dF
 split
 ·rename_i m hm
  rw [if_neg (h m hm)]
 ·rfl
end Go.Proofs.YtgkllebnnakojaaGreatDoor
