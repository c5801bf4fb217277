/-
  Proved here: steps towards the statement of this claim, text QR5.
  No condition beyond what each statement spells out.
-/
import Derived.Test.YtaddkhdghlaalaaGreatDoorQT1
import Derived.Test.YtaddkhdghlaalaaGreatDoorF4
import Derived.Test.YtaddkhdghlaalaaGreatDoorQD1
import Derived.Test.YtaddkhdghlaalaaGreatDoorF5
set_option linter.all false
set_option maxRecDepth 4000
set_option maxHeartbeats 4000000
namespace Go.Proofs.YtaddkhdghlaalaaGreatDoor
open Go.Aw
theorem xZ [aB Tryz.prog] (s:Str) (c:UInt8):Ok Tryz.prog 127 [.str s,.int .u8 c.toNat] (.int .i64 (ixI c s)):=by
 have h1:=aGv s c
 refine ent Tryz.mix Tryz.func127 Tryz.ntmps127 ?_
 refine bA ?_
 exact aM Tryz.results127
theorem aLw [aB Tryz.prog] (s:Str) (c:UInt8):Ok Tryz.prog 130 [.str s,.str [c]] (.int .i64 (ixI c s)):=by
 have h1:=xZ s c
 refine ent Tryz.mix Tryz.func130 Tryz.ntmps130 ?_
 have W:=trivial
 repeat' first|refine st ?_|(refine nx ?_;refine so ?_)|(refine cx ?_;refine sc (fun hc=>?_) (fun hc=>?_)<;>try exact hc.elim)|(refine lx ?_;refine sp (fun hc=>?_) (fun hc=>?_)<;>try exact hc.elim)|refine sx ?_ ?_|refine sy ?_ ?_|fail
 all_goals (try (refine ⟨.inr rfl,?_⟩;simp [Hands,Tryz.results130]))
 all_goals (subst hc;simp [ixI,wC])
theorem aXp [aB Tryz.prog] (s:Str) (c:UInt8) (hl:s.length≤1099511627776):Ok Tryz.prog 102 [.str s,.str [c]] (.tup [.str (s.take (ixB c s)),.str (s.drop (ixB c s+1)),.bool (decide (ixB c s < s.length))]):=by
 have h1:=aLw s c
 have hle:=oU c s
 by_cases h:ixB c s < s.length
 ·have e:ixI c s=ixB c s:=if_pos h
  rw [e] at h1
  generalize ixB c s=k at *
  refine ent Tryz.mix Tryz.func102 Tryz.ntmps102 ?_
  have W:=h
  refine wl ?_
  all_goals (try (refine ⟨.inr rfl,?_⟩;simp [Hands,Tryz.results102]))
  all_goals simp_all
 ·have e:ixI c s= -1:=if_neg h
  rw [e] at h1
  have e2:ixB c s=s.length:=by omega
  rw [e2]
  refine ent Tryz.mix Tryz.func102 Tryz.ntmps102 ?_
  refine bA ?_
  all_goals (try (refine ⟨.inr rfl,?_⟩;simp [Hands,Tryz.results102]))
  all_goals simp
theorem aFk [aB Tryz.prog] (s:Str) (c:UInt8) (hl:s.length≤1099511627776):Ok Tryz.prog 69 [.str s,.str [c]] (.tup [.str (s.take (ixB c s)),.str (s.drop (ixB c s+1)),.bool (decide (ixB c s < s.length))]):=by
 have h1:=aXp s c hl
 refine ent Tryz.mix Tryz.func69 Tryz.ntmps69 ?_
 refine bA ?_
 exact aM Tryz.results69
theorem bFn {c:UInt8} {n:Nat} (hn:n < 256) (h:(c.toNat:Int)=n):c=UInt8.ofNat n:=by
 have:c.toNat=n:=by omega
 rw [←this];simp
theorem bEx {c:UInt8} {n:Nat} (hn:n < 256) (h:¬(c.toNat:Int)=n):c≠UInt8.ofNat n:=by
 rintro rfl
 apply h
 simp
 omega
theorem aK6 {s b:Str} {k:Nat} (h:ixB 47 s=k) (hk:k < s.length):addrOf s b=⟨s.take k,s.drop (k+1)⟩:=by
 subst h;exact if_pos hk
theorem aI5 {s b:Str} (h:ixB 47 s=s.length):addrOf s b=⟨b,s⟩:=if_neg (by omega)
theorem pV [aB Tryz.prog] (s b:Str) (hl:s.length+b.length≤1099511627776):Ok Tryz.prog 44 [.str s,.str b] (.tup [.agg (aF (bO s b).1),.bool (bO s b).2]):=by
 simp only [bO]
 refine ent Tryz.mix Tryz.func44 Tryz.ntmps44 ?_
 refine bA ?_
 refine aR (ι:={k:Nat // k≤s.length∧∀x∈s.take k,x≠47}) (fun t o i=>⟨aS t [(7,.int .i64 i.1)],o⟩)
  (fun i=>s.length - i.1) ⟨0,by simp,by simp⟩ aO ?_
 rintro ⟨k,hk,hi⟩ K1 hK1
 simp only [aS,List.set_cons_succ,List.set_cons_zero] at hK1⊢
 have hk1:=wk1 (k:=k) (by omega)
 by_cases hlt:k < s.length
 ·have hg:=List.getElem?_eq_getElem hlt
  have W:=And.intro hk1 (And.intro hg hlt)
  repeat' first|refine st ?_|(refine nx ?_;refine so ?_)|(refine cx ?_;refine sc (fun hc=>?_) (fun hc=>?_)<;>try exact hc.elim)|(refine lx ?_;refine sp (fun hc=>?_) (fun hc=>?_)<;>try exact hc.elim)|refine sx ?_ ?_|refine sy ?_ ?_|fail
  ·have e:=aK6 (b:=b) (bBg hlt (bFn (by decide) hc) hi) hlt
   have h1:=sQ ⟨s.take k,s.drop (k+1)⟩ (by simp [aI];omega)
   rw [e]
   simp only [aF] at h1
   have W:=trivial
   repeat' first|refine st ?_|(refine nx ?_;refine so ?_)|(refine cx ?_;refine sc (fun hc=>?_) (fun hc=>?_)<;>try exact hc.elim)|(refine lx ?_;refine sp (fun hc=>?_) (fun hc=>?_)<;>try exact hc.elim)|refine sx ?_ ?_|refine sy ?_ ?_|fail
   all_goals (try (refine ⟨.inr rfl,?_⟩;simp [Hands,Tryz.results44,kZ]))
   all_goals simp_all [kZ]
  ·exact hK1 _ ⟨k+1,by omega,dK hlt hi (bEx (by decide) hc)⟩ aO (by simp only;omega)
 ·have e:=aI5 (b:=b) (aSa (iQ (by omega) hi))
  have h1:=sQ ⟨b,s⟩ (by simp [aI];omega)
  rw [e]
  simp only [aF] at h1
  have W:=hk1
  repeat' first|refine st ?_|(refine nx ?_;refine so ?_)|(refine cx ?_;refine sc (fun hc=>?_) (fun hc=>?_)<;>try exact hc.elim)|(refine lx ?_;refine sp (fun hc=>?_) (fun hc=>?_)<;>try exact hc.elim)|refine sx ?_ ?_|refine sy ?_ ?_|fail
  all_goals (try (refine ⟨.inr rfl,?_⟩;simp [Hands,Tryz.results44,kZ]))
  all_goals simp_all [kZ]
theorem aBo [aB Tryz.prog] (s b:Str) (hl:s.length+b.length≤1099511627776):Ok Tryz.prog 42 [.str s,.str b] (.tup [.agg (aF (bO s b).1),.bool (bO s b).2]):=by
 have hC:=aFk s 47 (by omega)
 have hle:=oU 47 s
 simp only [bO]
 by_cases h:ixB 47 s < s.length
 ·rw [aK6 rfl h]
  rw [decide_eq_true h] at hC
  generalize ixB 47 s=k at *
  have h1:=aAj ⟨s.take k,s.drop (k+1)⟩ (by simp [aI];omega)
  simp only [aF] at h1
  refine ent Tryz.mix Tryz.func42 Tryz.ntmps42 ?_
  have W:=trivial
  repeat' first|refine st ?_|(refine nx ?_;refine so ?_)|(refine cx ?_;refine sc (fun hc=>?_) (fun hc=>?_)<;>try exact hc.elim)|(refine lx ?_;refine sp (fun hc=>?_) (fun hc=>?_)<;>try exact hc.elim)|refine sx ?_ ?_|refine sy ?_ ?_|fail
  all_goals (try (refine ⟨.inr rfl,?_⟩;simp [Hands,Tryz.results42,kZ]))
  all_goals simp_all [kZ]
 ·have e2:ixB 47 s=s.length:=by omega
  rw [aI5 e2]
  rw [decide_eq_false h] at hC
  have h1:=aAj ⟨b,s⟩ (by simp [aI];omega)
  simp only [aF] at h1
  refine ent Tryz.mix Tryz.func42 Tryz.ntmps42 ?_
  have W:=trivial
  repeat' first|refine st ?_|(refine nx ?_;refine so ?_)|(refine cx ?_;refine sc (fun hc=>?_) (fun hc=>?_)<;>try exact hc.elim)|(refine lx ?_;refine sp (fun hc=>?_) (fun hc=>?_)<;>try exact hc.elim)|refine sx ?_ ?_|refine sy ?_ ?_|fail
  all_goals (try (refine ⟨.inr rfl,?_⟩;simp [Hands,Tryz.results42,kZ]))
  all_goals simp_all [kZ]
theorem aZo {c:UInt8} {s:Str} {f i:Nat} (hf:f≤i) (hi:i < s.length) (hc:s[i]=c) (hn:∀x∈(s.take i).drop f,x≠c):bF c (s.drop f)=(s.take i).drop f::bF c (s.drop (i+1)):=by
 have e:s.drop f=(s.take i).drop f++c::s.drop (i+1):=by
  have h1:s=s.take i++s[i]::s.drop (i+1):=by simp
  conv=>lhs;rw [h1]
  rw [List.drop_append_of_le_length (by simp;omega),hc]
 rw [e,aJo c _ _ hn]
theorem aZ3 {c:UInt8} {s:Str} {f:Nat} (hn:∀x∈(s.take s.length).drop f,x≠c):bF c (s.drop f)=[(s.take s.length).drop f]:=by
 rw [List.take_length] at hn⊢
 exact aBc c _ hn
theorem aZc {c:UInt8} {s:Str} {f i:Nat} (hf:f≤i) (hi:i < s.length) (hc:s[i]≠c) (hn:∀x∈(s.take i).drop f,x≠c):∀x∈(s.take (i+1)).drop f,x≠c:=by
 rw [List.take_succ_eq_append_getElem hi,List.drop_append_of_le_length (by simp;omega)]
 intro x hx
 rcases List.mem_append.1 hx with h|h
 ·exact hn x h
 ·rw [List.mem_singleton.1 h];exact hc
theorem sO [aB Tryz.prog] (s:Str) (c:UInt8) (hl:s.length≤1099511627776):Ok Tryz.prog 65 [.str s,.int .u8 c.toNat] (.sl .own 1 ((bF c s).map bX)):=by
 refine ent Tryz.mix Tryz.func65 Tryz.ntmps65 ?_
 refine bA ?_
 refine aR (ι:={q:Nat×Nat×List Str×Nat // q.1≤s.length+1∧q.2.1≤q.1∧q.2.2.1.length≤q.1∧1≤q.2.2.2∧(q.1≤s.length→bF c s=q.2.2.1++bF c (s.drop q.2.1)∧∀x∈(s.take q.1).drop q.2.1,x≠c)∧(q.1=s.length+1→q.2.2.1=bF c s)})
  (fun t o i=>⟨aS t [(7,.int .i64 i.1.1),(6,.int .i64 i.1.2.1),(5,.obj 0 i.1.2.2.2)],[⟨true,false,1,i.1.2.2.2,i.1.2.2.1.map bX⟩]⟩)
  (fun i=>s.length+1 - i.1.1) ⟨(0,0,[],1),by simp,by simp,by simp,by simp,by simp,by simp⟩ aO ?_
 rintro ⟨⟨k,f,out,v⟩,hk,hf,ho,hv,hin,hout⟩ K1 hK1
 simp only at hk hf ho hv hin hout
 simp only [aS,List.set_cons_succ,List.set_cons_zero] at hK1⊢
 have hk1:=wk1 (k:=k) (by omega)
 by_cases h1:k=s.length+1
 ·have e:=hout h1
  subst e
  subst h1
  have W:=hk1
  refine wl ?_
  exact aM Tryz.results65
 ·have hle:k≤s.length:=by omega
  obtain ⟨g1,g2⟩:=hin hle
  by_cases h2:k=s.length
  ·subst h2
   have e:=aZ3 g2
   rw [e,List.take_length] at g1
   have W:=hk1
   refine wl ?_
   exact hK1 _ ⟨(s.length+1,s.length+1,out++[s.drop f],v+1),by simp only;omega,by simp only;omega,by simp;omega,by simp only;omega,fun h=>by simp only at h;omega,fun _=>g1.symm⟩ (aN 1) (by simp only;omega)
  ·have hlt:k < s.length:=by omega
   have hg:=List.getElem?_eq_getElem hlt
   have W:=And.intro hk1 (And.intro hg hlt)
   repeat' first|refine st ?_|(refine nx ?_;refine so ?_)|(refine cx ?_;refine sc (fun hc=>?_) (fun hc=>?_)<;>try exact hc.elim)|(refine lx ?_;refine sp (fun hc=>?_) (fun hc=>?_)<;>try exact hc.elim)|refine sx ?_ ?_|refine sy ?_ ?_|fail
   ·have hcc:s[k]=c:=UInt8.toNat_inj.1 (by omega)
    rw [aZo hf hlt hcc g2] at g1
    exact hK1 _ ⟨(k+1,k+1,out++[(s.take k).drop f],v+1),by simp only;omega,by simp only;omega,by simp;omega,by simp only;omega,fun _=>⟨by rw [g1];simp,by simp⟩,fun h=>by simp only at h;omega⟩ (aN 1) (by simp only;omega)
   ·have hcc:s[k]≠c:=fun h=>hc (by rw [h])
    exact hK1 _ ⟨(k+1,f,out,v),by simp only;omega,by simp only;omega,by simp only;omega,by simp only;omega,fun _=>⟨g1,aZc hf hlt hcc g2⟩,fun h=>by simp only at h;omega⟩ (aN 1) (by simp only;omega)
theorem bHg [aB Tryz.prog] (a b:Int):Ok Tryz.prog 199 [.int .i64 a,.int .i64 b] (.int .i64 (min a b)):=by
 by_cases h:b < a
 ·have hr:min a b=b:=by omega
  rw [hr]
  refine ent Tryz.mix Tryz.func199 Tryz.ntmps199 ?_
  have W:=h
  repeat' first|refine st ?_|(refine nx ?_;first|refine se ?_|refine so ?_)|(refine cx ?_;refine sc (fun hc=>?_) (fun hc=>?_)<;>try exact hc.elim)|(refine lx ?_;refine sp (fun hc=>?_) (fun hc=>?_)<;>try exact hc.elim)|refine sx ?_ ?_|refine sy ?_ ?_|fail
  all_goals (try (refine ⟨.inr rfl,?_⟩;simp [Hands,Tryz.results199]))
 ·have hr:min a b=a:=by omega
  rw [hr]
  refine ent Tryz.mix Tryz.func199 Tryz.ntmps199 ?_
  have W:=h
  repeat' first|refine st ?_|(refine nx ?_;first|refine se ?_|refine so ?_)|(refine cx ?_;refine sc (fun hc=>?_) (fun hc=>?_)<;>try exact hc.elim)|(refine lx ?_;refine sp (fun hc=>?_) (fun hc=>?_)<;>try exact hc.elim)|refine sx ?_ ?_|refine sy ?_ ?_|fail
  all_goals (try (refine ⟨.inr rfl,?_⟩;simp [Hands,Tryz.results199]))
theorem aEl [aB Tryz.prog] (s:Str) (c:UInt8) (hl:s.length≤1099511627776):Ok Tryz.prog 72 [.str s,.int .u8 c.toNat] (.int .i64 (ixB c s:Nat)):=by
 refine ent Tryz.mix Tryz.func72 Tryz.ntmps72 ?_
 refine aW ?_
 refine aR (ι:={k:Nat // k≤s.length∧∀x∈s.take k,x≠c}) (fun t o i=>⟨aS t [(5,.int .i64 i.1)],o⟩)
  (fun i=>s.length - i.1) ⟨0,by simp,by simp⟩ aO ?_
 rintro ⟨k,hk,hi⟩ K1 hK1
 simp only [aS,List.set_cons_succ,List.set_cons_zero] at hK1⊢
 have hk1:=wk1 (k:=k) (by omega)
 by_cases hlt:k < s.length
 ·have hg:=List.getElem?_eq_getElem hlt
  have W:=And.intro hk1 (And.intro hg hlt)
  repeat' first|refine st ?_|(refine nx ?_;first|refine se ?_|refine so ?_)|(refine cx ?_;refine sc (fun hc=>?_) (fun hc=>?_)<;>try exact hc.elim)|(refine lx ?_;refine sp (fun hc=>?_) (fun hc=>?_)<;>try exact hc.elim)|refine sx ?_ ?_|refine sy ?_ ?_|fail
  ·have e:=bBg hlt (UInt8.toNat_inj.1 (by omega)) hi
   rw [e]
   all_goals (try (refine ⟨.inr rfl,?_⟩;simp [Hands,Tryz.results72]))
  ·exact hK1 _ ⟨k+1,by omega,dK hlt hi (fun h=>hc (by rw [h]))⟩ aO (by simp only;omega)
 ·have e:=aSa (iQ (by omega) hi)
  rw [e]
  have W:=hk1
  refine we ?_
  exact aM Tryz.results72
def pfx (p s:Str):Bool:=decide (p.length≤s.length)&&(s.take p.length == p)
theorem aT2 [aB Tryz.prog] (s p:Str) (hl:s.length≤1099511627776) (hp:p.length≤1099511627776):Ok Tryz.prog 184 [.str s,.str p] (.bool (pfx p s)):=by
 by_cases h:p.length≤s.length
 ·have hi:(p.length:Int)≤(s.length:Int):=by omega
  have hr:pfx p s=(s.take p.length == p):=by simp [pfx,h]
  rw [hr]
  refine ent Tryz.mix Tryz.func184 Tryz.ntmps184 ?_
  have W:=And.intro h hi
  refine we ?_
  exact aM Tryz.results184
 ·have hi:¬(p.length:Int)≤(s.length:Int):=by omega
  have hr:pfx p s=false:=by simp [pfx,h]
  rw [hr]
  refine ent Tryz.mix Tryz.func184 Tryz.ntmps184 ?_
  have W:=And.intro h hi
  refine we ?_
  exact aM Tryz.results184
theorem aLi {p s:Str} (h:pfx p s=true):p.length≤s.length:=by
 simp only [pfx,Bool.and_eq_true,decide_eq_true_eq] at h
 exact h.1
theorem aPr [aB Tryz.prog] (s p:Str) (hl:s.length≤1099511627776) (hp:p.length≤1099511627776):Ok Tryz.prog 157 [.str s,.str p] (.tup [.str (if pfx p s=true then s.drop p.length else s),.bool (pfx p s)]):=by
 have c1:=aT2 s p hl hp
 have h1:= @aLi p s
 generalize pfx p s=b at *
 cases b
 ·refine ent Tryz.mix Tryz.func157 Tryz.ntmps157 ?_
  have W:=trivial
  repeat' first|refine st ?_|(refine nx ?_;first|refine se ?_|refine so ?_)|(refine cx ?_;refine sc (fun hc=>?_) (fun hc=>?_)<;>try exact hc.elim)|(refine lx ?_;refine sp (fun hc=>?_) (fun hc=>?_)<;>try exact hc.elim)|refine sx ?_ ?_|refine sy ?_ ?_|fail
  all_goals (try (refine ⟨.inr rfl,?_⟩;simp [Hands,Tryz.results157]))
 ·have h2:=h1 rfl
  refine ent Tryz.mix Tryz.func157 Tryz.ntmps157 ?_
  have W:=h2
  repeat' first|refine st ?_|(refine nx ?_;first|refine se ?_|refine so ?_)|(refine cx ?_;refine sc (fun hc=>?_) (fun hc=>?_)<;>try exact hc.elim)|(refine lx ?_;refine sp (fun hc=>?_) (fun hc=>?_)<;>try exact hc.elim)|refine sx ?_ ?_|refine sy ?_ ?_|fail
  all_goals (try (refine ⟨.inr rfl,?_⟩;simp [Hands,Tryz.results157]))
theorem aTs [aB Tryz.prog] (s p:Str) (hl:s.length≤1099511627776) (hp:p.length≤1099511627776):Ok Tryz.prog 128 [.str s,.str p] (.tup [.str (if pfx p s=true then s.drop p.length else s),.bool (pfx p s)]):=by
 have c1:=aPr s p hl hp
 generalize (if pfx p s=true then s.drop p.length else s)=q at *
 generalize pfx p s=b at *
 refine ent Tryz.mix Tryz.func128 Tryz.ntmps128 ?_
 have W:=trivial
 repeat' first|refine st ?_|(refine nx ?_;first|refine se ?_|refine so ?_)|(refine cx ?_;refine sc (fun hc=>?_) (fun hc=>?_)<;>try exact hc.elim)|(refine lx ?_;refine sp (fun hc=>?_) (fun hc=>?_)<;>try exact hc.elim)|refine sx ?_ ?_|refine sy ?_ ?_|fail
 all_goals (try (refine ⟨.inr rfl,?_⟩;simp [Hands,Tryz.results128]))
end Go.Proofs.YtaddkhdghlaalaaGreatDoor
