/-
  Proved here: steps towards the statement of this claim, text S1.
  No condition beyond what each statement spells out.
-/
import Derived.Test.YtejigeoigebhcaaGreatAQP5
import Derived.Test.YtejigeoigebhcaaGreatAQ1
import Derived.Test.YtejigeoigebhcaaGreatAF3
import Derived.Test.YtejigeoigebhcaaGreatAF6
set_option linter.all false
set_option maxRecDepth 4000
set_option maxHeartbeats 4000000
namespace Go.Proofs.YtejigeoigebhcaaGreat
open Go.Aw
def bP:dE:=⟨0,[],[],[]⟩
def gV (w:Str):Str:=w.take (ixB 61 w)
def iW (w:Str):Str:=w.drop (ixB 61 w+1)
def dI:List Str→List gT→Option (List gT)
 |[],acc=>some acc
 |w::ws,acc=>if (decide (ixB 61 w < w.length)&&bY (gV w)&&dJ (iW w)&& !(gX acc (gV w)).2)=true then dI ws (acc++[⟨gV w,iW w⟩]) else none
def pW (w0:Str) (ws:List Str):dE×Bool:=
 if bY w0=true∧ws.length≤4 then (match dI ws [] with
  |some l=>(⟨1,w0,l,[]⟩,true)
  |none=>(bP,false)) else (bP,false)
def jS (s:Str):dE×Bool:=
 if 60 < s.length then (bP,false)
 else if pfx [47] s=true then (if bY (s.drop 1)=true then (⟨2,s.drop 1,[],[]⟩,true) else (bP,false))
 else pW (s.take (ixB 32 s)) (if ixB 32 s < s.length then bF 32 (s.drop (ixB 32 s+1)) else [])
theorem mP (c:UInt8) (s:Str):bF c s=s.take (ixB c s)::(if ixB c s < s.length then bF c (s.drop (ixB c s+1)) else []):=by
 rw [aK3]
 have h:=mO c s
 split
 ·rfl
 ·rw [List.take_of_length_le (by omega)]
theorem aMv {w0:Str} {ws:List Str} (h:¬(bY w0=true∧ws.length≤4)):pW w0 ws=(bP,false):=by unfold pW;rw [if_neg h]
theorem aI9 {w0:Str} {ws:List Str} (h:dI ws []=none):pW w0 ws=(bP,false):=by
 unfold pW;rw [h];split<;>rfl
theorem aJa {w0:Str} {ws:List Str} {l:List gT} (h1:bY w0=true) (h2:ws.length≤4) (h:dI ws []=some l):pW w0 ws=(⟨1,w0,l,[]⟩,true):=by
 unfold pW;rw [h,if_pos ⟨h1,h2⟩]
theorem sZ:∀(ws:List Str) (acc l:List gT),dI ws acc=some l→l.length=acc.length+ws.length
 |[],acc,l,h=>by simp only [dI,Option.some.injEq] at h;subst h;simp
 |w::ws,acc,l,h=>by
  simp only [dI] at h
  split at h
  ·have:=sZ ws _ l h
   simp at this⊢;omega
  ·cases h
theorem aAd:∀(ws:List Str) (acc l:List gT),dI ws acc=some l→szL qB l≤szL qB acc+aZ bZ ws
 |[],acc,l,h=>by simp only [dI,Option.some.injEq] at h;subst h;simp [aZ]
 |w::ws,acc,l,h=>by
  simp only [dI] at h
  split at h
  ·rename_i hc
   simp only [Bool.and_eq_true,decide_eq_true_eq] at hc
   have:=aAd ws _ l h
   have hj:∀a b:List gT,aZ qB (a++b)=aZ qB a+aZ qB b:=by
    intro a b
    induction a with
    |nil=>simp [aZ]
    |cons x xs ih=>simp only [List.cons_append,aZ,ih];omega
   simp only [szL,hj,aZ,qB,gV,iW,List.length_append,List.length_take,List.length_drop,List.length_cons,List.length_nil,bZ] at this⊢
   omega
  ·cases h
theorem xB (c:UInt8):∀s:Str,aZ bZ (bF c s)≤s.length
 |[]=>by simp [bF,aZ,bZ]
 |x::s=>by
  have ih:=xB c s
  simp only [bF]
  split
  ·simp only [aZ,bZ,List.length_nil,List.length_cons] at ih⊢;omega
  ·split
   ·rename_i h0;exact absurd h0 (nI c s)
   ·rename_i p q h0
    rw [h0] at ih
    simp only [aZ,bZ,List.length_cons] at ih⊢;omega
theorem aM0 (s:Str):dR (jS s).1≤s.length:=by
 have hn:dR bP=0:=by simp [bP,dR,szL,aZ]
 unfold jS
 split
 ·simp only [hn];omega
 ·split
  ·split
   ·simp [dR,szL,aZ]
   ·simp only [hn];omega
  ·have hs:=xB 32 s
   rw [mP] at hs
   simp only [aZ,bZ] at hs
   generalize (if ixB 32 s < s.length then bF 32 (s.drop (ixB 32 s+1)) else [])=ws at *
   unfold pW
   split
   ·split
    ·rename_i l hl
     have:=aAd ws [] l hl
     simp only [dR,szL,aZ,List.length_nil] at this⊢
     omega
    ·simp only [hn];omega
   ·simp only [hn];omega
end Go.Proofs.YtejigeoigebhcaaGreat
