/-
  Proved here: steps towards the statement of this claim, text QJ1.
  No condition beyond what each statement spells out.
-/
import Derived.Test.YtkidoegojckmiaaGreatDoorAQ1
import Derived.Test.YtkidoegojckmiaaGreatDoorAF5
import Derived.Test.YtkidoegojckmiaaGreatDoorAQU1
import Derived.Test.YtkidoegojckmiaaGreatDoorAF4
set_option linter.all false
set_option maxRecDepth 4000
set_option maxHeartbeats 4000000
namespace Go.Proofs.YtkidoegojckmiaaGreatDoor
open Go.Aw
def eF (l:List Str):Bool:=l.all bL&&decide (l.length≤4)
def fT (p:bH):Bool:=
 if p.isSet=true then eF p.scripts&&eF p.styles&&eF p.images&&(p.nonce == [] || dB p.nonce)
 else p.scripts == []&&p.styles == []&&p.images == []&&p.nonce == []
def jF:Str:=[115,99,114,105,112,116]
def kV:Str:=[115,116,121,108,101]
def oV:Str:=[105,109,103]
def eY:Str:=[110,111,110,99,101,32]
def words (w:Str) (l:List Str):Str:=Lib.join (w::l) [32]
def xH (n:Str):Str:=if n=[] then [] else 59::(eY++n)
def cB (p:bH):Str:=
 if fT p=true∧p.isSet=true then words jF p.scripts++59::(words kV p.styles++59::(words oV p.images++xH p.nonce)) else []
def iK:bH:=⟨false,[],[],[],[]⟩
def fO (f:Str→Str) (s:Str):bH:=
 ⟨true,(aT 32 ((aT 59 s).getD 0 [])).tail,(aT 32 ((aT 59 s).getD 1 [])).tail,(aT 32 ((aT 59 s).getD 2 [])).tail,match (aT 59 s)[3]? with|some x=>f x|none=>[]⟩
def jW (f:Str→Str) (s:Str):bH×Bool:=
 if s=[] then (iK,true) else if (aT 59 s).length < 3 then (iK,false) else if cB (fO f s)=s then (fO f s,true) else (iK,false)
def gP (x:Str):Str:=if eY.isPrefixOf x then x.drop 6 else x
def gB (x:Str):Str:=if 6 < x.length then x.drop 6 else []
theorem aJ8 (c:UInt8) (hc:c.toNat < 97):∀(s:Str),bL s=true→∀x∈s,x≠c:=by
 intro s h x hx e
 subst e
 simp only [bL,Bool.and_eq_true,List.all_eq_true] at h
 have:=h.1 x hx
 simp [lowerB] at this
 omega
theorem aN6:∀(s:Str),dB s=true→∀x∈s,x≠59:=by
 intro s h x hx e
 subst e
 simp only [dB,Bool.and_eq_true,List.all_eq_true] at h
 have:=h.1 _ hx
 simp [jX] at this
theorem yM (w:Str) (hw:∀x∈w,x≠59):∀(l:List Str),l.all bL=true→∀x∈words w l,x≠59:=by
 intro l hl x hx
 have key:∀(l:List Str),(∀s∈l,∀x∈s,x≠(59:UInt8))→∀x∈Lib.join l [32],x≠(59:UInt8):=by
  intro l
  unfold Lib.join
  induction l with
  |nil=>intro _ x hx;simp at hx
  |cons a l ih=>
   intro h x hx
   cases l with
   |nil=>simp at hx;exact h a (by simp) x hx
   |cons b l=>
    rw [List.intercalate_cons_cons] at hx
    simp only [List.mem_append] at hx
    rcases hx with (hx|hx)|hx
    ·exact h a (by simp) x hx
    ·simp at hx;subst hx;decide
    ·exact ih (fun s hs=>h s (by simp [hs])) x hx
 refine key (w::l) (fun s hs=> ?_) x hx
 rcases List.mem_cons.1 hs with rfl|hs
 ·exact hw
 ·exact aJ8 59 (by decide) s (List.all_eq_true.1 hl s hs)
theorem aRx (p:bH) (h:fT p=true) (hs:p.isSet=true):
  aT 59 (cB p)=words jF p.scripts::words kV p.styles::words oV p.images::(if p.nonce=[] then [] else [eY++p.nonce]):=by
 simp only [fT,hs,if_true,eF,Bool.and_eq_true] at h
 obtain ⟨⟨⟨h1,h2⟩,h3⟩,h4⟩:=h
 have hp:fT p=true:=by simp only [fT,hs,if_true,eF,Bool.and_eq_true];exact ⟨⟨⟨h1,h2⟩,h3⟩,h4⟩
 unfold cB
 rw [if_pos ⟨hp,hs⟩,qV _ _ _ (yM jF (by decide) _ h1.1),qV _ _ _ (yM kV (by decide) _ h2.1)]
 unfold xH
 by_cases hn:p.nonce=[]
 ·rw [if_pos hn,if_pos hn,List.append_nil,oN _ _ (yM oV (by decide) _ h3.1)]
 ·rw [if_neg hn,if_neg hn,qV _ _ _ (yM oV (by decide) _ h3.1),oN]
  intro x hx
  rcases List.mem_append.1 hx with hx|hx
  ·exact (by decide:∀x∈eY,x≠59) x hx
  ·have hv:dB p.nonce=true:=by
    simp only [Bool.or_eq_true,beq_iff_eq] at h4
    exact h4.resolve_left hn
   exact aN6 _ hv x hx
theorem aVk {p:bH} {s:Str} (hs:s≠[]) (h:cB p=s):fT p=true∧p.isSet=true:=by
 unfold cB at h
 by_cases hc:fT p=true∧p.isSet=true
 ·exact hc
 ·rw [if_neg hc] at h;exact absurd h.symm hs
theorem aEa {f g:Str→Str} (hf:∀n,n≠[]→f (eY++n)=n) (hg:∀n,n≠[]→g (eY++n)=n) {s:Str} (hs:s≠[]) (h:cB (fO f s)=s):fO f s=fO g s:=by
 obtain ⟨h1,h2⟩:=aVk hs h
 have h3:=aRx _ h1 h2
 rw [h] at h3
 unfold fO
 congr 1
 cases hx:(aT 59 s)[3]? with
 |none=>rfl
 |some x=>
  dsimp only
  rw [h3] at hx
  by_cases hn:(fO f s).nonce=[]
  ·rw [if_pos hn] at hx;simp at hx
  ·rw [if_neg hn] at hx
   simp only [List.getElem?_cons_succ,List.getElem?_cons_zero,Option.some.injEq] at hx
   rw [←hx,hf _ hn,hg _ hn]
theorem aGv (n:Str) (h:n≠[]):gP (eY++n)=n:=by
 unfold gP
 rw [if_pos (by simp [List.isPrefixOf_iff_prefix])]
 simp [eY]
theorem aGb (n:Str) (h:n≠[]):gB (eY++n)=n:=by
 unfold gB
 have:0 < n.length:=List.length_pos_iff.2 h
 rw [if_pos (by simp [eY];omega)]
 simp [eY]
theorem aNt (s:Str):jW gP s=jW gB s:=by
 unfold jW
 by_cases hs:s=[]
 ·rw [if_pos hs,if_pos hs]
 rw [if_neg hs,if_neg hs]
 by_cases hl:(aT 59 s).length < 3
 ·rw [if_pos hl,if_pos hl]
 rw [if_neg hl,if_neg hl]
 by_cases h1:cB (fO gP s)=s
 ·have e:=aEa aGv aGb hs h1
  rw [if_pos h1,if_pos (by rw [←e];exact h1),e]
 ·by_cases h2:cB (fO gB s)=s
  ·have e:=aEa aGb aGv hs h2
   exact absurd (by rw [←e];exact h2) h1
  ·rw [if_neg h1,if_neg h2]
def dC (s:Str):bH×Bool:=jW gB s
theorem vI [aB Tryz.prog] (l:List iF) (n:Str) (hl:l.length≤1099511627776):Ok Tryz.prog 180 [.sl .view 2 (l.map lN),.str n] (.tup [.str (iM l n).1,.bool (iM l n).2]):=by
 refine ent Tryz.mix Tryz.func180 Tryz.ntmps180 ?_
 have W:=trivial
 repeat' first|refine st ?_|(refine nx ?_;refine so ?_)|(refine cx ?_;refine sc (fun hc=>?_) (fun hc=>?_)<;>try exact hc.elim)|(refine lx ?_;refine sp (fun hc=>?_) (fun hc=>?_)<;>try exact hc.elim)|refine sx ?_ ?_|refine sy ?_ ?_|fail
 refine aJ (ι:={k:Nat // k≤l.length∧∀x∈l.take k,oF n x=false}) (fun t o i=>⟨aL t [(6,.int .i64 i.1)],o⟩)
  (fun i=>l.length - i.1) ⟨0,by simp,by simp⟩ (aH (by simp) (by simp)) ?_
 rintro ⟨k,hk,hi⟩ K1 hK1
 simp only [aL,List.set_cons_succ,List.set_cons_zero] at hK1⊢
 have hk1:IntKind.i64.wrap ((k:Int)+1)=((k+1:Nat):Int):=by rw [wrap64]<;>omega
 by_cases hlt:k < l.length
 ·have hg:=List.getElem?_eq_getElem hlt
  have W:=And.intro hk1 (And.intro hg hlt)
  repeat' first|refine st ?_|(refine nx ?_;refine so ?_)|(refine cx ?_;refine sc (fun hc=>?_) (fun hc=>?_)<;>try exact hc.elim)|(refine lx ?_;refine sp (fun hc=>?_) (fun hc=>?_)<;>try exact hc.elim)|refine sx ?_ ?_|refine sy ?_ ?_|fail
  ·all_goals (try (refine ⟨.inr rfl,?_⟩;simp [Hands,Tryz.results180]))
   rw [aKo hlt (by simpa [oF] using hc) hi]
   simp
  ·exact hK1 _ ⟨k+1,by omega,dP hlt hi (by simpa [oF] using hc)⟩ (aH (by simp) (by simp)) (by simp only;omega)
 ·have W:=hk1
  repeat' first|refine st ?_|(refine nx ?_;refine so ?_)|(refine cx ?_;refine sc (fun hc=>?_) (fun hc=>?_)<;>try exact hc.elim)|(refine lx ?_;refine sp (fun hc=>?_) (fun hc=>?_)<;>try exact hc.elim)|refine sx ?_ ?_|refine sy ?_ ?_|fail
  all_goals (try (refine ⟨.inr rfl,?_⟩;simp [Hands,Tryz.results180]))
  rw [aHq (iP (by omega) hi)]
  simp
theorem aBa [aB Tryz.prog] (s:Str) (c:UInt8):OkN Tryz.prog 175 [.str s,.int .u8 c.toNat] (.int .i64 (ixI c s)):=
 aHj (fn:=Tryz.f175) (by kernel_rfl) (by decide+kernel) rfl (by decide+kernel) (by rfl) s c
theorem zM [aB Tryz.prog] (s:Str) (c:UInt8):Ok Tryz.prog 154 [.str s,.int .u8 c.toNat] (.int .i64 (ixI c s)):=by
 have h1:=aBa s c
 refine ent Tryz.mix Tryz.func154 Tryz.ntmps154 ?_
 have W:=trivial
 repeat' first|refine st ?_|(refine nx ?_;refine so ?_)|(refine cx ?_;refine sc (fun hc=>?_) (fun hc=>?_)<;>try exact hc.elim)|(refine lx ?_;refine sp (fun hc=>?_) (fun hc=>?_)<;>try exact hc.elim)|refine sx ?_ ?_|refine sy ?_ ?_|fail
 all_goals (try (refine ⟨.inr rfl,?_⟩;simp [Hands,Tryz.results154]))
theorem aDt [aB Tryz.prog] (s:Str) (c:UInt8):Ok Tryz.prog 138 [.str s,.str [c]] (.int .i64 (ixI c s)):=by
 have h1:=zM s c
 refine ent Tryz.mix Tryz.func138 Tryz.ntmps138 ?_
 have W:=trivial
 repeat' first|refine st ?_|(refine nx ?_;refine so ?_)|(refine cx ?_;refine sc (fun hc=>?_) (fun hc=>?_)<;>try exact hc.elim)|(refine lx ?_;refine sp (fun hc=>?_) (fun hc=>?_)<;>try exact hc.elim)|refine sx ?_ ?_|refine sy ?_ ?_|fail
 all_goals (try (refine ⟨.inr rfl,?_⟩;simp [Hands,Tryz.results138]))
 all_goals (subst hc;simp [ixI,uT])
theorem aN3 [aB Tryz.prog] (s:Str) (c:UInt8) (hl:s.length≤1099511627776):Ok Tryz.prog 114 [.str s,.str [c]] (.tup [.str (s.take (ixB c s)),.str (s.drop (ixB c s+1)),.bool (decide (ixB c s < s.length))]):=by
 have h1:=aDt s c
 have hle:=uN c s
 by_cases h:ixB c s < s.length
 ·have e:ixI c s=ixB c s:=if_pos h
  rw [e] at h1
  generalize ixB c s=k at *
  refine ent Tryz.mix Tryz.func114 Tryz.ntmps114 ?_
  have W:=h
  repeat' first|refine st ?_|(refine nx ?_;refine so ?_)|(refine cx ?_;refine sc (fun hc=>?_) (fun hc=>?_)<;>try exact hc.elim)|(refine lx ?_;refine sp (fun hc=>?_) (fun hc=>?_)<;>try exact hc.elim)|refine sx ?_ ?_|refine sy ?_ ?_|fail
  all_goals (try (refine ⟨.inr rfl,?_⟩;simp [Hands,Tryz.results114]))
  all_goals simp_all
 ·have e:ixI c s= -1:=if_neg h
  rw [e] at h1
  have e2:ixB c s=s.length:=by omega
  rw [e2]
  refine ent Tryz.mix Tryz.func114 Tryz.ntmps114 ?_
  have W:=trivial
  repeat' first|refine st ?_|(refine nx ?_;refine so ?_)|(refine cx ?_;refine sc (fun hc=>?_) (fun hc=>?_)<;>try exact hc.elim)|(refine lx ?_;refine sp (fun hc=>?_) (fun hc=>?_)<;>try exact hc.elim)|refine sx ?_ ?_|refine sy ?_ ?_|fail
  all_goals (try (refine ⟨.inr rfl,?_⟩;simp [Hands,Tryz.results114]))
  all_goals simp
theorem aHr [aB Tryz.prog] (s:Str) (c:UInt8) (hl:s.length≤1099511627776):Ok Tryz.prog 82 [.str s,.str [c]] (.tup [.str (s.take (ixB c s)),.str (s.drop (ixB c s+1)),.bool (decide (ixB c s < s.length))]):=by
 have h1:=aN3 s c hl
 refine ent Tryz.mix Tryz.func82 Tryz.ntmps82 ?_
 have W:=trivial
 repeat' first|refine st ?_|(refine nx ?_;refine so ?_)|(refine cx ?_;refine sc (fun hc=>?_) (fun hc=>?_)<;>try exact hc.elim)|(refine lx ?_;refine sp (fun hc=>?_) (fun hc=>?_)<;>try exact hc.elim)|refine sx ?_ ?_|refine sy ?_ ?_|fail
 all_goals (try (refine ⟨.inr rfl,?_⟩;simp [Hands,Tryz.results82]))
end Go.Proofs.YtkidoegojckmiaaGreatDoor
