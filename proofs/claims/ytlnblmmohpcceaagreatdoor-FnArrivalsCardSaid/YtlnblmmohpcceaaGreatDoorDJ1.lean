/-
  Proved here: steps towards the statement of this claim, text J1.
  No condition beyond what each statement spells out.
-/
import Derived.Test.YtlnblmmohpcceaaGreatDoorDQ1
import Derived.Test.YtlnblmmohpcceaaGreatDoorDF5
set_option linter.all false
set_option maxRecDepth 4000
set_option maxHeartbeats 4000000
namespace Go.Proofs.YtlnblmmohpcceaaGreatDoor
open Go.Aw
def dC (l:List Str):Bool:=l.all bK&&decide (l.length≤4)
def eB (p:bN):Bool:=
 if p.isSet=true then dC p.scripts&&dC p.styles&&dC p.images&&(p.nonce == [] || eG p.nonce)
 else p.scripts == []&&p.styles == []&&p.images == []&&p.nonce == []
def gZ:Str:=[115,99,114,105,112,116]
def iR:Str:=[115,116,121,108,101]
def lK:Str:=[105,109,103]
def dN:Str:=[110,111,110,99,101,32]
def words (w:Str) (l:List Str):Str:=Lib.join (w::l) [32]
def rZ (n:Str):Str:=if n=[] then [] else 59::(dN++n)
def bH (p:bN):Str:=
 if eB p=true∧p.isSet=true then words gZ p.scripts++59::(words iR p.styles++59::(words lK p.images++rZ p.nonce)) else []
def gM:bN:=⟨false,[],[],[],[]⟩
def dX (f:Str→Str) (s:Str):bN:=
 ⟨true,(aQ 32 ((aQ 59 s).getD 0 [])).tail,(aQ 32 ((aQ 59 s).getD 1 [])).tail,(aQ 32 ((aQ 59 s).getD 2 [])).tail,match (aQ 59 s)[3]? with|some x=>f x|none=>[]⟩
def iT (f:Str→Str) (s:Str):bN×Bool:=
 if s=[] then (gM,true) else if (aQ 59 s).length < 3 then (gM,false) else if bH (dX f s)=s then (dX f s,true) else (gM,false)
def fE (x:Str):Str:=if dN.isPrefixOf x then x.drop 6 else x
def fC (x:Str):Str:=if 6 < x.length then x.drop 6 else []
theorem aEh (c:UInt8) (hc:c.toNat < 97):∀(s:Str),bK s=true→∀x∈s,x≠c:=by
 intro s h x hx e
 subst e
 simp only [bK,Bool.and_eq_true,List.all_eq_true] at h
 have:=h.1 x hx
 simp [lowerB] at this
 omega
theorem aH2:∀(s:Str),eG s=true→∀x∈s,x≠59:=by
 intro s h x hx e
 subst e
 simp only [eG,Bool.and_eq_true,List.all_eq_true] at h
 have:=h.1 _ hx
 simp [iO] at this
theorem tZ (w:Str) (hw:∀x∈w,x≠59):∀(l:List Str),l.all bK=true→∀x∈words w l,x≠59:=by
 intro l hl x hx
 have key:∀(l:List Str),(∀s∈l,∀x∈s,x≠(59:UInt8))→∀x∈Lib.join l [32],x≠(59:UInt8):=by
  intro l
  unfold Lib.join
  induction l with
  |nil=>intro _ x hx;simp at hx
  |cons a l ih=>
   intro h x hx
   cases l with
   |nil=>simp at hx;exact h a (by simp) x hx
   |cons b l=>
    rw [List.intercalate_cons_cons] at hx
    simp only [List.mem_append] at hx
    rcases hx with (hx|hx)|hx
    ·exact h a (by simp) x hx
    ·simp at hx;subst hx;decide
    ·exact ih (fun s hs=>h s (by simp [hs])) x hx
 refine key (w::l) (fun s hs=> ?_) x hx
 rcases List.mem_cons.1 hs with rfl|hs
 ·exact hw
 ·exact aEh 59 (by decide) s (List.all_eq_true.1 hl s hs)
theorem aK9 (p:bN) (h:eB p=true) (hs:p.isSet=true):
  aQ 59 (bH p)=words gZ p.scripts::words iR p.styles::words lK p.images::(if p.nonce=[] then [] else [dN++p.nonce]):=by
 simp only [eB,hs,if_true,dC,Bool.and_eq_true] at h
 obtain ⟨⟨⟨h1,h2⟩,h3⟩,h4⟩:=h
 have hp:eB p=true:=by simp only [eB,hs,if_true,dC,Bool.and_eq_true];exact ⟨⟨⟨h1,h2⟩,h3⟩,h4⟩
 unfold bH
 rw [if_pos ⟨hp,hs⟩,nD _ _ _ (tZ gZ (by decide) _ h1.1),nD _ _ _ (tZ iR (by decide) _ h2.1)]
 unfold rZ
 by_cases hn:p.nonce=[]
 ·rw [if_pos hn,if_pos hn,List.append_nil,qB _ _ (tZ lK (by decide) _ h3.1)]
 ·rw [if_neg hn,if_neg hn,nD _ _ _ (tZ lK (by decide) _ h3.1),qB]
  intro x hx
  rcases List.mem_append.1 hx with hx|hx
  ·exact (by decide:∀x∈dN,x≠59) x hx
  ·have hv:eG p.nonce=true:=by
    simp only [Bool.or_eq_true,beq_iff_eq] at h4
    exact h4.resolve_left hn
   exact aH2 _ hv x hx
theorem aOg {p:bN} {s:Str} (hs:s≠[]) (h:bH p=s):eB p=true∧p.isSet=true:=by
 unfold bH at h
 by_cases hc:eB p=true∧p.isSet=true
 ·exact hc
 ·rw [if_neg hc] at h;exact absurd h.symm hs
theorem zD {f g:Str→Str} (hf:∀n,n≠[]→f (dN++n)=n) (hg:∀n,n≠[]→g (dN++n)=n) {s:Str} (hs:s≠[]) (h:bH (dX f s)=s):dX f s=dX g s:=by
 obtain ⟨h1,h2⟩:=aOg hs h
 have h3:=aK9 _ h1 h2
 rw [h] at h3
 unfold dX
 congr 1
 cases hx:(aQ 59 s)[3]? with
 |none=>rfl
 |some x=>
  dsimp only
  rw [h3] at hx
  by_cases hn:(dX f s).nonce=[]
  ·rw [if_pos hn] at hx;simp at hx
  ·rw [if_neg hn] at hx
   simp only [List.getElem?_cons_succ,List.getElem?_cons_zero,Option.some.injEq] at hx
   rw [←hx,hf _ hn,hg _ hn]
theorem aB7 (n:Str) (h:n≠[]):fE (dN++n)=n:=by
 unfold fE
 rw [if_pos (by simp [List.isPrefixOf_iff_prefix])]
 simp [dN]
theorem aCn (n:Str) (h:n≠[]):fC (dN++n)=n:=by
 unfold fC
 have:0 < n.length:=List.length_pos_iff.2 h
 rw [if_pos (by simp [dN];omega)]
 simp [dN]
theorem aHf (s:Str):iT fE s=iT fC s:=by
 unfold iT
 by_cases hs:s=[]
 ·rw [if_pos hs,if_pos hs]
 rw [if_neg hs,if_neg hs]
 by_cases hl:(aQ 59 s).length < 3
 ·rw [if_pos hl,if_pos hl]
 rw [if_neg hl,if_neg hl]
 by_cases h1:bH (dX fE s)=s
 ·have e:=zD aB7 aCn hs h1
  rw [if_pos h1,if_pos (by rw [←e];exact h1),e]
 ·by_cases h2:bH (dX fC s)=s
  ·have e:=zD aCn aB7 hs h2
   exact absurd (by rw [←e];exact h2) h1
  ·rw [if_neg h1,if_neg h2]
def bI (s:Str):bN×Bool:=iT fC s
end Go.Proofs.YtlnblmmohpcceaaGreatDoor
