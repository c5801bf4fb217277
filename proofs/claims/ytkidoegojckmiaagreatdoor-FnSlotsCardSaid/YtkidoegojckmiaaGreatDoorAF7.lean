/-
  Proved here: steps towards the statement of this claim, text F7.
  No condition beyond what each statement spells out.
-/
import Derived.Test.YtkidoegojckmiaaGreatDoorAF5
import Derived.Lib.AtoiTie
import Derived.Shelf.Strings.Cut
import Derived.Shelf.Strconv.ErrVarAll
import Derived.Stop.LaidErr
set_option linter.all false
namespace Go.Aw
open Go.Lib
theorem aCb:∀(l r:List UInt8) (acc:Nat),decFrom acc (l++r)=(decFrom acc l).bind fun n=>decFrom n r
 |[],r,acc=>by simp [decFrom]
 |a::t,r,acc=>by
  simp only [List.cons_append,decFrom]
  cases digitVal a with
  |none=>simp
  |some d=>exact aCb t r _
theorem aB6 (k:Nat) (h:k < 10):digitVal (UInt8.ofNat (48+k))=some k:=by
 have e:(UInt8.ofNat (48+k)).toNat=48+k:=by simp;omega
 unfold digitVal
 rw [e,if_pos (by omega)]
 congr 1;omega
theorem aE1 (u:Nat):decFrom 0 (decDigits u)=some u:=by
 induction u using Nat.strongRecOn with
 |_ u ih=>
  rw [decDigits]
  split
  ·rename_i h
   simp only [decFrom,aB6 u h];simp
  ·rename_i h
   rw [aCb,ih (u / 10) (by omega)]
   simp only [Option.bind_some,decFrom,aB6 (u % 10) (by omega)]
   congr 1;omega
theorem zU (u:Nat):decDigits u≠[]:=by
 rw [decDigits];split<;>simp
theorem aHl (u:Nat):decNat (decDigits u)=some u:=by
 unfold decNat
 rw [if_neg (by simpa using zU u),aE1]
theorem zA:∀(k u:Nat),u < 10 ^ (k+1)→(decDigits u).length≤k+1
 |0,u,h=>by rw [decDigits,dif_pos (by omega)];simp
 |k+1,u,h=>by
  rw [decDigits]
  split
  ·simp
  ·have:=zA k (u / 10) (by rw [Nat.pow_succ] at h;omega)
   simp;omega
def jI (s:Str):Option Int:=match decNat s with
 |some m=>if s.length≤13∧m≤1000000000000∧decDigits m=s then some (m:Int) else none
 |none=>none
theorem aL3 {m:Nat} (h:m≤1000000000000):jI (decDigits m)=some (m:Int):=by
 have:=zA 12 m (by omega)
 simp [jI,aHl,h,this]
theorem vR {s:Str} {v:Int} (h:jI s=some v):∃m:Nat,v=m∧m≤1000000000000∧s=decDigits m∧s.length≤13∧decNat s=some m:=by
 unfold jI at h
 split at h
 ·rename_i m hm
  split at h
  ·rename_i hc
   simp only [Option.some.injEq] at h
   exact ⟨m,h.symm,hc.2.1,hc.2.2.symm,hc.1,hm⟩
  ·cases h
 ·cases h
theorem aJk {s:Str} {v:Int} (h:jI s=some v):atoiAll s= .ok v:=by
 obtain ⟨m,rfl,hm,hs,hl,hd⟩:=vR h
 rw [atoiAll_short s (by omega)]
 have:atoi s=some (m:Int):=by
  cases s with
  |nil=>simp [decNat] at hd
  |cons b r=>
   have hb:∃d,digitVal b=some d:=by
    have hd':=hd
    simp only [decNat,List.isEmpty_cons] at hd'
    exact digit_of_decFrom (b::r) 0 m (by simpa using hd') 0 b rfl
   obtain ⟨d,hb⟩:=hb
   have h45:(b == 45)=false:=by
    rw [beq_eq_false_iff_ne];rintro rfl;simp [digitVal] at hb
   have h43:(b == 43)=false:=by
    rw [beq_eq_false_iff_ne];rintro rfl;simp [digitVal] at hb
   simp [atoi,h45,h43,hd]
 rw [this];rfl
theorem aGt (s:Str):(∃v,atoiAll s= .ok v∧0≤v∧v≤1000000000000∧itoa v=s∧jI s=some v)∨
  (jI s=none∧∀v,atoiAll s= .ok v→v < 0∨1000000000000 < v∨itoa v≠s):=by
 cases h:jI s with
 |some v=>
  left
  obtain ⟨m,rfl,hm,hs,hl,hd⟩:=vR h
  refine ⟨(m:Int),aJk h,by omega,by omega,?_,rfl⟩
  unfold itoa
  rw [if_neg (by omega)]
  simpa using hs.symm
 |none=>
  right
  refine ⟨rfl,fun v hv=> ?_⟩
  by_cases h0:v < 0
  ·exact .inl h0
  by_cases h1:1000000000000 < v
  ·exact .inr (.inl h1)
  refine .inr (.inr fun hi=> ?_)
  have:itoa v=decDigits v.toNat:=by unfold itoa;rw [if_neg h0]
  rw [this] at hi
  have:=aL3 (m:=v.toNat) (by omega)
  rw [hi,h] at this
  cases this
theorem aLi {l:Str} {n:Nat} (h:decFrom 0 l=some n):n < 10 ^ l.length:=by
 have:=decFrom_lt l 0 n h
 simpa using this
end Go.Aw

namespace Go.Aw
open Go.Proofs Go.Shelf Go.RowKit
class uQ (P : Program) [aB P] : Prop where
  var : ∀ w, aB.holds P w → (∃ tp p, w.var? P "strconv.ErrSyntax" = some #[.iface tp p]) ∧ ∃ tp p, w.var? P "strconv.ErrRange" = some #[.iface tp p]
section
variable {P : Program} [aB P] {ρ : Ren}
theorem aNg [uQ P] (L : LaysC.n172 P ρ) (s : Str) (hl : s.length ≤ 281474976710656) (w : World) (hg : aB.holds P w) :
    Calls P (ρ.f 172) #[.string ⟨s.toArray⟩] w fun e w' =>
      ((∃ v, Lib.atoiAll s = .ok v ∧ e = .returned (.tuple #[.int .i64 v, .nilIface])) ∨
       ((∀ v, Lib.atoiAll s ≠ .ok v) ∧ ∃ v t p, e = .returned (.tuple #[.int .i64 v, .iface t p]))) ∧ Below w.heap.size w w' := by
  obtain ⟨⟨t1, p1, h1⟩, t2, p2, h2⟩ := uQ.var w hg
  have hb := aGm s
  cases h : Lib.atoiAll s
  · rename_i v
    refine (Any.strconv_Atoi_ok L ⟨s.toArray⟩ (by rw [xL]; omega) v (by rw [hb]; exact h) w).mono fun e w' ⟨he, hw⟩ => ⟨.inl ⟨v, rfl, he⟩, ?_⟩
    rcases hw with rfl | ⟨t, rfl⟩
    · exact Below.refl _ _
    · exact Lib.bytesWorld_below _ _ _
  · refine (Any.strconv_Atoi_syntax_var L ⟨s.toArray⟩ (by rw [xL]; exact hl) (by rw [hb]; exact h) t1 p1 w h1).mono fun e w' hq => ?_
    obtain ⟨N, he, h3, h4, h5⟩ := hq
    exact ⟨.inr ⟨(fun v hv => by cases hv), _, _, _, he⟩, h5⟩
  · refine (Any.strconv_Atoi_range_var L ⟨s.toArray⟩ (by rw [xL]; exact hl) (by rw [hb]; exact h) t2 p2 w h2).mono fun e w' hq => ?_
    obtain ⟨N, he, h3, h4, h5⟩ := hq
    exact ⟨.inr ⟨(fun v hv => by cases hv), _, _, _, he⟩, h5⟩
end
end Go.Aw

namespace Go.Aw
open Go.RowKit
def aIc (P:Program) (name:String):Bool:=match P.globalNamed name with
 |some g=>match P.globals[g]? with
  |some gl=>match P.underlying gl.type with
   |some (.interface _)=>true
   |_=>false
  |none=>false
 |none=>false
theorem sV {P:Program} {W:World} {name nm:String} {d:DataW Unit} (hc:aIc P name=true):
  ∀{l:List (String×DataW Unit)} {ps:List MemPlace},DataW.LaidVars P W l ps→(name,.iface nm d)∈l→∃u v,W.var? P name=some #[.iface u v]
 |[],_,_,hm=>by simp at hm
 |(nm',d')::r,ps,h,hm=>by
  obtain ⟨g',t',cs,fuel,p,q,hg',ht',hvar,hd,hr,_⟩:=h
  rcases List.mem_cons.1 hm with e1|hm
  ·obtain ⟨rfl,rfl⟩:=Prod.mk.inj e1
   unfold aIc at hc
   rw [hg'] at hc
   dsimp only at hc
   split at hc
   ·rename_i gl hgl
    rw [hgl] at ht'
    simp only [Option.map_some,Option.some.injEq] at ht'
    subst ht'
    split at hc
    ·rename_i ms hu
     obtain ⟨f1,u,v,hcs,_,_⟩:=iface_of_trod hu hd
     refine ⟨u,v,?_⟩
     rw [hvar]
     congr 1
     exact Array.toList_inj.1 (by simpa using hcs)
    ·cases hc
   ·cases hc
  ·exact sV hc hr hm
def aNm (P:Program) (n:Nat) (nm:String):Bool:=match P.globalNamed nm with|some g=>decide (g < n)|none=>true
theorem aDp {P:Program} {n:Nat} {w w':World} {nm:String} (hl:aNm P n nm=true) (hs:∀b,b < n→w'.heap[b]? =w.heap[b]?):w'.var? P nm=w.var? P nm:=by
 unfold World.var?
 unfold aNm at hl
 cases hg:P.globalNamed nm with
 |none=>rfl
 |some g=>
  rw [hg] at hl
  simp only [decide_eq_true_eq] at hl
  simp only [Option.bind_some]
  rw [hs g hl]
def vC (P:Program) (w:World):Prop:=(∃tp p,w.var? P "strconv.ErrSyntax" =some #[.iface tp p])∧∃tp p,w.var? P "strconv.ErrRange" =some #[.iface tp p]
theorem aK7 {P:Program} {n:Nat} {tabs:List (String×IntKind×List Int)} {ints:List String} (hn:(aFg P n tabs ints&&aNm P n "strconv.ErrSyntax" &&aNm P n "strconv.ErrRange")=true) (w w':World)
  (h:pU P n tabs ints w∧vC P w) (hs:∀b,b < n→w'.heap[b]? =w.heap[b]?):pU P n tabs ints w'∧vC P w':=by
 simp only [Bool.and_eq_true] at hn
 obtain ⟨⟨h1,h2⟩,h3⟩:=hn
 refine ⟨aM6 h1 w w' h.1 hs,?_,?_⟩
 ·rw [aDp h2 hs];exact h.2.1
 ·rw [aDp h3 hs];exact h.2.2
end Go.Aw
