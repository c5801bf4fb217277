/-
  Proved here: steps towards the statement of this claim, text QJ1.
  No condition beyond what each statement spells out.
-/
import Derived.Test.YtajppdidkjbmkaaGreatDoorQ1
import Derived.Test.YtajppdidkjbmkaaGreatDoorF5
import Derived.Test.YtajppdidkjbmkaaGreatDoorQDR8
import Derived.Test.YtajppdidkjbmkaaGreatDoorF4
set_option linter.all false
set_option maxRecDepth 4000
set_option maxHeartbeats 4000000
namespace Go.Proofs.YtajppdidkjbmkaaGreatDoor
open Go.Aw
def fD (l:List Str):Bool:=l.all bV&&decide (l.length≤4)
def gX (p:bR):Bool:=
 if p.isSet=true then fD p.scripts&&fD p.styles&&fD p.images&&(p.nonce == [] || iH p.nonce)
 else p.scripts == []&&p.styles == []&&p.images == []&&p.nonce == []
def kC:Str:=[115,99,114,105,112,116]
def lZ:Str:=[115,116,121,108,101]
def qB:Str:=[105,109,103]
def fT:Str:=[110,111,110,99,101,32]
def words (w:Str) (l:List Str):Str:=Lib.join (w::l) [32]
def yR (n:Str):Str:=if n=[] then [] else 59::(fT++n)
def dF (p:bR):Str:=
 if gX p=true∧p.isSet=true then words kC p.scripts++59::(words lZ p.styles++59::(words qB p.images++yR p.nonce)) else []
def jG:bR:=⟨false,[],[],[],[]⟩
def gU (f:Str→Str) (s:Str):bR:=
 ⟨true,(bC 32 ((bC 59 s).getD 0 [])).tail,(bC 32 ((bC 59 s).getD 1 [])).tail,(bC 32 ((bC 59 s).getD 2 [])).tail,match (bC 59 s)[3]? with|some x=>f x|none=>[]⟩
def lF (f:Str→Str) (s:Str):bR×Bool:=
 if s=[] then (jG,true) else if (bC 59 s).length < 3 then (jG,false) else if dF (gU f s)=s then (gU f s,true) else (jG,false)
def iK (x:Str):Str:=if fT.isPrefixOf x then x.drop 6 else x
def iE (x:Str):Str:=if 6 < x.length then x.drop 6 else []
theorem aMt (c:UInt8) (hc:c.toNat < 97):∀(s:Str),bV s=true→∀x∈s,x≠c:=by
 intro s h x hx e
 subst e
 simp only [bV,Bool.and_eq_true,List.all_eq_true] at h
 have:=h.1 x hx
 simp [lowerB] at this
 omega
theorem aPp:∀(s:Str),iH s=true→∀x∈s,x≠59:=by
 intro s h x hx e
 subst e
 simp only [iH,Bool.and_eq_true,List.all_eq_true] at h
 have:=h.1 _ hx
 simp [lS] at this
theorem zU (w:Str) (hw:∀x∈w,x≠59):∀(l:List Str),l.all bV=true→∀x∈words w l,x≠59:=by
 intro l hl x hx
 have key:∀(l:List Str),(∀s∈l,∀x∈s,x≠(59:UInt8))→∀x∈Lib.join l [32],x≠(59:UInt8):=by
  intro l
  unfold Lib.join
  induction l with
  |nil=>intro _ x hx;simp at hx
  |cons a l ih=>
   intro h x hx
   cases l with
   |nil=>simp at hx;exact h a (by simp) x hx
   |cons b l=>
    rw [List.intercalate_cons_cons] at hx
    simp only [List.mem_append] at hx
    rcases hx with (hx|hx)|hx
    ·exact h a (by simp) x hx
    ·simp at hx;subst hx;decide
    ·exact ih (fun s hs=>h s (by simp [hs])) x hx
 refine key (w::l) (fun s hs=> ?_) x hx
 rcases List.mem_cons.1 hs with rfl|hs
 ·exact hw
 ·exact aMt 59 (by decide) s (List.all_eq_true.1 hl s hs)
theorem aT8 (p:bR) (h:gX p=true) (hs:p.isSet=true):
  bC 59 (dF p)=words kC p.scripts::words lZ p.styles::words qB p.images::(if p.nonce=[] then [] else [fT++p.nonce]):=by
 simp only [gX,hs,if_true,fD,Bool.and_eq_true] at h
 obtain ⟨⟨⟨h1,h2⟩,h3⟩,h4⟩:=h
 have hp:gX p=true:=by simp only [gX,hs,if_true,fD,Bool.and_eq_true];exact ⟨⟨⟨h1,h2⟩,h3⟩,h4⟩
 unfold dF
 rw [if_pos ⟨hp,hs⟩,sS _ _ _ (zU kC (by decide) _ h1.1),sS _ _ _ (zU lZ (by decide) _ h2.1)]
 unfold yR
 by_cases hn:p.nonce=[]
 ·rw [if_pos hn,if_pos hn,List.append_nil,vJ _ _ (zU qB (by decide) _ h3.1)]
 ·rw [if_neg hn,if_neg hn,sS _ _ _ (zU qB (by decide) _ h3.1),vJ]
  intro x hx
  rcases List.mem_append.1 hx with hx|hx
  ·exact (by decide:∀x∈fT,x≠59) x hx
  ·have hv:iH p.nonce=true:=by
    simp only [Bool.or_eq_true,beq_iff_eq] at h4
    exact h4.resolve_left hn
   exact aPp _ hv x hx
theorem aX5 {p:bR} {s:Str} (hs:s≠[]) (h:dF p=s):gX p=true∧p.isSet=true:=by
 unfold dF at h
 by_cases hc:gX p=true∧p.isSet=true
 ·exact hc
 ·rw [if_neg hc] at h;exact absurd h.symm hs
theorem aF3 {f g:Str→Str} (hf:∀n,n≠[]→f (fT++n)=n) (hg:∀n,n≠[]→g (fT++n)=n) {s:Str} (hs:s≠[]) (h:dF (gU f s)=s):gU f s=gU g s:=by
 obtain ⟨h1,h2⟩:=aX5 hs h
 have h3:=aT8 _ h1 h2
 rw [h] at h3
 unfold gU
 congr 1
 cases hx:(bC 59 s)[3]? with
 |none=>rfl
 |some x=>
  dsimp only
  rw [h3] at hx
  by_cases hn:(gU f s).nonce=[]
  ·rw [if_pos hn] at hx;simp at hx
  ·rw [if_neg hn] at hx
   simp only [List.getElem?_cons_succ,List.getElem?_cons_zero,Option.some.injEq] at hx
   rw [←hx,hf _ hn,hg _ hn]
theorem aHl (n:Str) (h:n≠[]):iK (fT++n)=n:=by
 unfold iK
 rw [if_pos (by simp [List.isPrefixOf_iff_prefix])]
 simp [fT]
theorem aH6 (n:Str) (h:n≠[]):iE (fT++n)=n:=by
 unfold iE
 have:0 < n.length:=List.length_pos_iff.2 h
 rw [if_pos (by simp [fT];omega)]
 simp [fT]
theorem aPo (s:Str):lF iK s=lF iE s:=by
 unfold lF
 by_cases hs:s=[]
 ·rw [if_pos hs,if_pos hs]
 rw [if_neg hs,if_neg hs]
 by_cases hl:(bC 59 s).length < 3
 ·rw [if_pos hl,if_pos hl]
 rw [if_neg hl,if_neg hl]
 by_cases h1:dF (gU iK s)=s
 ·have e:=aF3 aHl aH6 hs h1
  rw [if_pos h1,if_pos (by rw [←e];exact h1),e]
 ·by_cases h2:dF (gU iE s)=s
  ·have e:=aF3 aH6 aHl hs h2
   exact absurd (by rw [←e];exact h2) h1
  ·rw [if_neg h1,if_neg h2]
def dP (s:Str):bR×Bool:=lF iE s
theorem aB4 [aB Tryz.prog] (s:Str) (c:UInt8):OkN Tryz.prog 175 [.str s,.int .u8 c.toNat] (.int .i64 (ixI c s)):=
 aIq (fn:=Tryz.f175) (by kernel_rfl) (by decide+kernel) rfl (by decide+kernel) (by rfl) s c
theorem aAy [aB Tryz.prog] (s:Str) (c:UInt8):Ok Tryz.prog 162 [.str s,.int .u8 c.toNat] (.int .i64 (ixI c s)):=by
 have h1:=aB4 s c
 refine ent Tryz.mix Tryz.func162 Tryz.ntmps162 ?_
 have W:=trivial
 repeat' first|refine st ?_|(refine nx ?_;refine so ?_)|(refine cx ?_;refine sc (fun hc=>?_) (fun hc=>?_)<;>try exact hc.elim)|(refine lx ?_;refine sp (fun hc=>?_) (fun hc=>?_)<;>try exact hc.elim)|refine sx ?_ ?_|refine sy ?_ ?_|fail
 all_goals (try (refine ⟨.inr rfl,?_⟩;simp [Hands,Tryz.results162]))
theorem aE7 [aB Tryz.prog] (s:Str) (c:UInt8):Ok Tryz.prog 139 [.str s,.str [c]] (.int .i64 (ixI c s)):=by
 have h1:=aAy s c
 refine ent Tryz.mix Tryz.func139 Tryz.ntmps139 ?_
 have W:=trivial
 repeat' first|refine st ?_|(refine nx ?_;refine so ?_)|(refine cx ?_;refine sc (fun hc=>?_) (fun hc=>?_)<;>try exact hc.elim)|(refine lx ?_;refine sp (fun hc=>?_) (fun hc=>?_)<;>try exact hc.elim)|refine sx ?_ ?_|refine sy ?_ ?_|fail
 all_goals (try (refine ⟨.inr rfl,?_⟩;simp [Hands,Tryz.results139]))
 all_goals (subst hc;simp [ixI,zW])
theorem aO0 [aB Tryz.prog] (s:Str) (c:UInt8) (hl:s.length≤1099511627776):Ok Tryz.prog 109 [.str s,.str [c]] (.tup [.str (s.take (ixB c s)),.str (s.drop (ixB c s+1)),.bool (decide (ixB c s < s.length))]):=by
 have h1:=aE7 s c
 have hle:=rH c s
 by_cases h:ixB c s < s.length
 ·have e:ixI c s=ixB c s:=if_pos h
  rw [e] at h1
  generalize ixB c s=k at *
  refine ent Tryz.mix Tryz.func109 Tryz.ntmps109 ?_
  have W:=h
  repeat' first|refine st ?_|(refine nx ?_;refine so ?_)|(refine cx ?_;refine sc (fun hc=>?_) (fun hc=>?_)<;>try exact hc.elim)|(refine lx ?_;refine sp (fun hc=>?_) (fun hc=>?_)<;>try exact hc.elim)|refine sx ?_ ?_|refine sy ?_ ?_|fail
  all_goals (try (refine ⟨.inr rfl,?_⟩;simp [Hands,Tryz.results109]))
  all_goals simp_all
 ·have e:ixI c s= -1:=if_neg h
  rw [e] at h1
  have e2:ixB c s=s.length:=by omega
  rw [e2]
  refine ent Tryz.mix Tryz.func109 Tryz.ntmps109 ?_
  have W:=trivial
  repeat' first|refine st ?_|(refine nx ?_;refine so ?_)|(refine cx ?_;refine sc (fun hc=>?_) (fun hc=>?_)<;>try exact hc.elim)|(refine lx ?_;refine sp (fun hc=>?_) (fun hc=>?_)<;>try exact hc.elim)|refine sx ?_ ?_|refine sy ?_ ?_|fail
  all_goals (try (refine ⟨.inr rfl,?_⟩;simp [Hands,Tryz.results109]))
  all_goals simp
theorem aAu [aB Tryz.prog] (s:Str) (c:UInt8) (hl:s.length≤1099511627776):Ok Tryz.prog 60 [.str s,.str [c]] (.tup [.str (s.take (ixB c s)),.str (s.drop (ixB c s+1)),.bool (decide (ixB c s < s.length))]):=by
 have h1:=aO0 s c hl
 refine ent Tryz.mix Tryz.func60 Tryz.ntmps60 ?_
 have W:=trivial
 repeat' first|refine st ?_|(refine nx ?_;refine so ?_)|(refine cx ?_;refine sc (fun hc=>?_) (fun hc=>?_)<;>try exact hc.elim)|(refine lx ?_;refine sp (fun hc=>?_) (fun hc=>?_)<;>try exact hc.elim)|refine sx ?_ ?_|refine sy ?_ ?_|fail
 all_goals (try (refine ⟨.inr rfl,?_⟩;simp [Hands,Tryz.results60]))
theorem aVk {c:UInt8} {n:Nat} (hn:n < 256) (h:(c.toNat:Int)=n):c=UInt8.ofNat n:=by
 have:c.toNat=n:=by omega
 rw [←this];simp
theorem aWb {c:UInt8} {n:Nat} (hn:n < 256) (h:¬(c.toNat:Int)=n):c≠UInt8.ofNat n:=by
 rintro rfl
 apply h
 simp
 omega
theorem aF5 {s b:Str} {k:Nat} (h:ixB 47 s=k) (hk:k < s.length):addrOf s b=⟨s.take k,s.drop (k+1)⟩:=by
 subst h;exact if_pos hk
theorem aDq {s b:Str} (h:ixB 47 s=s.length):addrOf s b=⟨b,s⟩:=if_neg (by omega)
theorem vL [aB Tryz.prog] (s b:Str) (hl:s.length+b.length≤1099511627776):Ok Tryz.prog 26 [.str s,.str b] (.tup [.agg (aL (dH s b).1),.bool (dH s b).2]):=by
 simp only [dH]
 refine ent Tryz.mix Tryz.func26 Tryz.ntmps26 ?_
 have W:=trivial
 repeat' first|refine st ?_|(refine nx ?_;refine so ?_)|(refine cx ?_;refine sc (fun hc=>?_) (fun hc=>?_)<;>try exact hc.elim)|(refine lx ?_;refine sp (fun hc=>?_) (fun hc=>?_)<;>try exact hc.elim)|refine sx ?_ ?_|refine sy ?_ ?_|fail
 refine aJ (ι:={k:Nat // k≤s.length∧∀x∈s.take k,x≠47}) (fun t o i=>⟨aS t [(7,.int .i64 i.1)],o⟩)
  (fun i=>s.length - i.1) ⟨0,by simp,by simp⟩ (aD (by simp) (by simp)) ?_
 rintro ⟨k,hk,hi⟩ K1 hK1
 simp only [aS,List.set_cons_succ,List.set_cons_zero] at hK1⊢
 have hk1:IntKind.i64.wrap ((k:Int)+1)=((k+1:Nat):Int):=by rw [wrap64]<;>omega
 by_cases hlt:k < s.length
 ·have hg:=List.getElem?_eq_getElem hlt
  have W:=And.intro hk1 (And.intro hg hlt)
  repeat' first|refine st ?_|(refine nx ?_;refine so ?_)|(refine cx ?_;refine sc (fun hc=>?_) (fun hc=>?_)<;>try exact hc.elim)|(refine lx ?_;refine sp (fun hc=>?_) (fun hc=>?_)<;>try exact hc.elim)|refine sx ?_ ?_|refine sy ?_ ?_|fail
  ·have e:=aF5 (b:=b) (aLf hlt (aVk (by decide) hc) hi) hlt
   have h1:=pW ⟨s.take k,s.drop (k+1)⟩ (by simp [aO];omega)
   rw [e]
   simp only [aL] at h1
   have W:=trivial
   repeat' first|refine st ?_|(refine nx ?_;refine so ?_)|(refine cx ?_;refine sc (fun hc=>?_) (fun hc=>?_)<;>try exact hc.elim)|(refine lx ?_;refine sp (fun hc=>?_) (fun hc=>?_)<;>try exact hc.elim)|refine sx ?_ ?_|refine sy ?_ ?_|fail
   all_goals (try (refine ⟨.inr rfl,?_⟩;simp [Hands,Tryz.results26,nK]))
   all_goals simp_all [nK]
  ·exact hK1 _ ⟨k+1,by omega,dX hlt hi (aWb (by decide) hc)⟩ (aD (by simp) (by simp)) (by simp only;omega)
 ·have e:=aDq (b:=b) (aL4 (jB (by omega) hi))
  have h1:=pW ⟨b,s⟩ (by simp [aO];omega)
  rw [e]
  simp only [aL] at h1
  have W:=hk1
  repeat' first|refine st ?_|(refine nx ?_;refine so ?_)|(refine cx ?_;refine sc (fun hc=>?_) (fun hc=>?_)<;>try exact hc.elim)|(refine lx ?_;refine sp (fun hc=>?_) (fun hc=>?_)<;>try exact hc.elim)|refine sx ?_ ?_|refine sy ?_ ?_|fail
  all_goals (try (refine ⟨.inr rfl,?_⟩;simp [Hands,Tryz.results26,nK]))
  all_goals simp_all [nK]
theorem aEb [aB Tryz.prog] (s b:Str) (hl:s.length+b.length≤1099511627776):Ok Tryz.prog 22 [.str s,.str b] (.tup [.agg (aL (dH s b).1),.bool (dH s b).2]):=by
 have hC:=aAu s 47 (by omega)
 have hle:=rH 47 s
 simp only [dH]
 by_cases h:ixB 47 s < s.length
 ·rw [aF5 rfl h]
  rw [decide_eq_true h] at hC
  generalize ixB 47 s=k at *
  have h1:=uP ⟨s.take k,s.drop (k+1)⟩ (by simp [aO];omega)
  simp only [aL] at h1
  refine ent Tryz.mix Tryz.func22 Tryz.ntmps22 ?_
  have W:=trivial
  repeat' first|refine st ?_|(refine nx ?_;refine so ?_)|(refine cx ?_;refine sc (fun hc=>?_) (fun hc=>?_)<;>try exact hc.elim)|(refine lx ?_;refine sp (fun hc=>?_) (fun hc=>?_)<;>try exact hc.elim)|refine sx ?_ ?_|refine sy ?_ ?_|fail
  all_goals (try (refine ⟨.inr rfl,?_⟩;simp [Hands,Tryz.results22,nK]))
  all_goals simp_all [nK]
 ·have e2:ixB 47 s=s.length:=by omega
  rw [aDq e2]
  rw [decide_eq_false h] at hC
  have h1:=uP ⟨b,s⟩ (by simp [aO];omega)
  simp only [aL] at h1
  refine ent Tryz.mix Tryz.func22 Tryz.ntmps22 ?_
  have W:=trivial
  repeat' first|refine st ?_|(refine nx ?_;refine so ?_)|(refine cx ?_;refine sc (fun hc=>?_) (fun hc=>?_)<;>try exact hc.elim)|(refine lx ?_;refine sp (fun hc=>?_) (fun hc=>?_)<;>try exact hc.elim)|refine sx ?_ ?_|refine sy ?_ ?_|fail
  all_goals (try (refine ⟨.inr rfl,?_⟩;simp [Hands,Tryz.results22,nK]))
  all_goals simp_all [nK]
end Go.Proofs.YtajppdidkjbmkaaGreatDoor
