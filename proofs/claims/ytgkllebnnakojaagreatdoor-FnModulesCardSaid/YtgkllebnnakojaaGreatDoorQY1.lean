/-
  Proved here: contracts of the copies of attributes, tokens and policies.
  No condition beyond what each statement spells out.
-/
import Derived.Test.YtgkllebnnakojaaGreatDoorQFI
import Derived.Test.YtgkllebnnakojaaGreatDoorF6
import Derived.Test.YtgkllebnnakojaaGreatDoorQA0
import Derived.Test.YtgkllebnnakojaaGreatDoorF5
import Derived.Test.YtgkllebnnakojaaGreatDoorF4
set_option linter.all false
set_option maxRecDepth 4000
set_option maxHeartbeats 4000000
namespace Go.Proofs.YtgkllebnnakojaaGreatDoor
open Go.Aw
theorem aDp {α β:Type} (f:α→β) (l:List α) (k:Nat) (h:k < l.length):(l.take (k+1)).map f=(l.take k).map f++[f l[k]]:=by
 rw [List.take_succ_eq_append_getElem h,List.map_append];rfl
theorem aFe [aB Tryz.prog] (l:List uJ) (hl:l.length≤1099511627776):Ok Tryz.prog 139 [.sl .view 2 (l.map qM)] (.sl .own 2 (l.map qM)):=by
 refine ent Tryz.mix Tryz.func139 Tryz.ntmps139 ?_
 have W:=trivial
 repeat' first|refine st ?_|(refine nx ?_;first|refine se ?_|refine so ?_)|(refine cx ?_;refine sc (fun hc=>?_) (fun hc=>?_)<;>try exact hc.elim)|(refine lx ?_;refine sp (fun hc=>?_) (fun hc=>?_)<;>try exact hc.elim)|refine sx ?_ ?_|refine sy ?_ ?_|fail
 all_goals (try (refine ⟨.inr rfl,?_⟩;simp [Hands,Tryz.results139]))
theorem aH4 [aB Tryz.prog] (l:List kG) (hs:szL aB0 l≤274877906944):Ok Tryz.prog 111 [.sl .view 4 (l.map (dR .view))] (.sl .own 4 (l.map (dR .own))):=by
 simp only [szL] at hs
 refine ent Tryz.mix Tryz.func111 Tryz.ntmps111 ?_
 have W:=trivial
 repeat' first|refine st ?_|(refine nx ?_;first|refine se ?_|refine so ?_)|(refine cx ?_;refine sc (fun hc=>?_) (fun hc=>?_)<;>try exact hc.elim)|(refine lx ?_;refine sp (fun hc=>?_) (fun hc=>?_)<;>try exact hc.elim)|refine sx ?_ ?_|refine sy ?_ ?_|fail
 refine aT (ι:={q:Nat×Nat // q.1≤l.length∧1≤q.2}) (fun t o i=>⟨bB t [(3,.obj 0 i.1.2),(4,.int .i64 i.1.1),(5,.undef)],o.take 0++[⟨true,false,4,i.1.2,(l.take i.1.1).map (dR .own)⟩]⟩)
  (fun i=>l.length - i.1.1) ⟨(0,1),by simp,by first|(simp;done)|(simp only;omega)⟩ (aI (by simp) (by simp)) ?_
 rintro ⟨⟨k,v⟩,hk,hv⟩ K1 hK1
 simp only at hk hv
 simp only [bB,List.set_cons_succ,List.set_cons_zero,List.take_succ_cons,List.take_zero,List.cons_append,List.nil_append] at hK1⊢
 have hk1:IntKind.i64.wrap ((k:Int)+1)=((k+1:Nat):Int):=by rw [wrap64]<;>omega
 by_cases hlt:k < l.length
 ·have hg:=List.getElem?_eq_getElem hlt
  have hps:=aDp (dR .own) l k hlt
  have hz:=iK aB0 l k hlt
  simp only [aB0,szL] at hz
  have c1:=aFe l[k].attrs (by omega)
  have hgl:((l.take k).map (dR .own)).length=k:=by simp;omega
  generalize (l.take k).map (dR .own)=g at *
  have W:=And.intro hk1 (And.intro hg (And.intro hlt hgl))
  repeat' first|refine st ?_|(refine nx ?_;first|refine se ?_|refine so ?_)|(refine cx ?_;refine sc (fun hc=>?_) (fun hc=>?_)<;>try exact hc.elim)|(refine lx ?_;refine sp (fun hc=>?_) (fun hc=>?_)<;>try exact hc.elim)|refine sx ?_ ?_|refine sy ?_ ?_|fail
  all_goals refine hK1 _ ⟨(k+1,v+1),by simp only;omega,by simp only;omega⟩ (aO 1 (by simp [hps]) (by simp) (by simp) (by simp)) (by simp only;omega)
 ·have htk:l.take k=l:=List.take_of_length_le (by omega)
  rw [htk]
  have W:=hk1
  repeat' first|refine st ?_|(refine nx ?_;first|refine se ?_|refine so ?_)|(refine cx ?_;refine sc (fun hc=>?_) (fun hc=>?_)<;>try exact hc.elim)|(refine lx ?_;refine sp (fun hc=>?_) (fun hc=>?_)<;>try exact hc.elim)|refine sx ?_ ?_|refine sy ?_ ?_|fail
  all_goals (try (refine ⟨.inr rfl,?_⟩;simp [Hands,Tryz.results111]))
theorem aHn [aB Tryz.prog] (a:dE) (hs:dK a≤274877906944):Ok Tryz.prog 110 [.agg (cB .view a)] (.agg (cB .own a)):=by
 simp only [dK,szL] at hs
 refine ent Tryz.mix Tryz.func110 Tryz.ntmps110 ?_
 have W:=trivial
 repeat' first|refine st ?_|(refine nx ?_;first|refine se ?_|refine so ?_)|(refine cx ?_;refine sc (fun hc=>?_) (fun hc=>?_)<;>try exact hc.elim)|(refine lx ?_;refine sp (fun hc=>?_) (fun hc=>?_)<;>try exact hc.elim)|refine sx ?_ ?_|refine sy ?_ ?_|fail
 all_goals (try (refine ⟨.inr rfl,?_⟩;simp [Hands,Tryz.results110]))
theorem aNi [aB Tryz.prog] (l:List bX) (hs:szL aW l≤274877906944):Ok Tryz.prog 99 [.sl .view 2 (l.map (aQ .view))] (.sl .own 2 (l.map (aQ .own))):=by
 simp only [szL] at hs
 refine ent Tryz.mix Tryz.func99 Tryz.ntmps99 ?_
 have W:=trivial
 repeat' first|refine st ?_|(refine nx ?_;first|refine se ?_|refine so ?_)|(refine cx ?_;refine sc (fun hc=>?_) (fun hc=>?_)<;>try exact hc.elim)|(refine lx ?_;refine sp (fun hc=>?_) (fun hc=>?_)<;>try exact hc.elim)|refine sx ?_ ?_|refine sy ?_ ?_|fail
 refine aT (ι:={q:Nat×Nat // q.1≤l.length∧1≤q.2}) (fun t o i=>⟨bB t [(3,.obj 0 i.1.2),(4,.int .i64 i.1.1)],o.take 0++[⟨true,false,2,i.1.2,(l.take i.1.1).map (aQ .own)⟩]⟩)
  (fun i=>l.length - i.1.1) ⟨(0,1),by simp,by first|(simp;done)|(simp only;omega)⟩ (aI (by simp) (by simp)) ?_
 rintro ⟨⟨k,v⟩,hk,hv⟩ K1 hK1
 simp only at hk hv
 simp only [bB,List.set_cons_succ,List.set_cons_zero,List.take_succ_cons,List.take_zero,List.cons_append,List.nil_append] at hK1⊢
 have hk1:IntKind.i64.wrap ((k:Int)+1)=((k+1:Nat):Int):=by rw [wrap64]<;>omega
 by_cases hlt:k < l.length
 ·have hg:=List.getElem?_eq_getElem hlt
  have hps:=aDp (aQ .own) l k hlt
  have hz:=iK aW l k hlt
  simp only [aW,szL] at hz
  have hgl:((l.take k).map (aQ .own)).length=k:=by simp;omega
  generalize (l.take k).map (aQ .own)=g at *
  have W:=And.intro hk1 (And.intro hg (And.intro hlt hgl))
  repeat' first|refine st ?_|(refine nx ?_;first|refine se ?_|refine so ?_)|(refine cx ?_;refine sc (fun hc=>?_) (fun hc=>?_)<;>try exact hc.elim)|(refine lx ?_;refine sp (fun hc=>?_) (fun hc=>?_)<;>try exact hc.elim)|refine sx ?_ ?_|refine sy ?_ ?_|fail
  all_goals refine hK1 _ ⟨(k+1,v+1),by simp only;omega,by simp only;omega⟩ (aO 1 (by simp [hps]) (by simp) (by simp) (by simp)) (by simp only;omega)
 ·have htk:l.take k=l:=List.take_of_length_le (by omega)
  rw [htk]
  have W:=hk1
  repeat' first|refine st ?_|(refine nx ?_;first|refine se ?_|refine so ?_)|(refine cx ?_;refine sc (fun hc=>?_) (fun hc=>?_)<;>try exact hc.elim)|(refine lx ?_;refine sp (fun hc=>?_) (fun hc=>?_)<;>try exact hc.elim)|refine sx ?_ ?_|refine sy ?_ ?_|fail
  all_goals (try (refine ⟨.inr rfl,?_⟩;simp [Hands,Tryz.results99]))
def iY (l:List Str):Bool:=l.all dA&&decide (l.length≤4)
def rU (p:dE):Bool:=
 if p.isSet=true then iY p.scripts&&iY p.styles&&iY p.images&&(p.nonce == [] || kR p.nonce)
 else p.scripts == []&&p.styles == []&&p.images == []&&p.nonce == []
def pX:Str:=[115,99,114,105,112,116]
def sW:Str:=[115,116,121,108,101]
def aAr:Str:=[105,109,103]
def aJ8:Str:=[110,111,110,99,101,32]
def words (w:Str) (l:List Str):Str:=Lib.join (w::l) [32]
def aFf (n:Str):Str:=if n=[] then [] else 59::(aJ8++n)
def iE (p:dE):Str:=
 if rU p=true∧p.isSet=true then words pX p.scripts++59::(words sW p.styles++59::(words aAr p.images++aFf p.nonce)) else []
def mH:dE:=⟨false,[],[],[],[]⟩
def nA (f:Str→Str) (s:Str):dE:=
 ⟨true,(bA 32 ((bA 59 s).getD 0 [])).tail,(bA 32 ((bA 59 s).getD 1 [])).tail,(bA 32 ((bA 59 s).getD 2 [])).tail,match (bA 59 s)[3]? with|some x=>f x|none=>[]⟩
def vO (f:Str→Str) (s:Str):dE×Bool:=
 if s=[] then (mH,true) else if (bA 59 s).length < 3 then (mH,false) else if iE (nA f s)=s then (nA f s,true) else (mH,false)
def iU (x:Str):Str:=if 6 < x.length then x.drop 6 else []
def eY (s:Str):dE×Bool:=vO iU s
theorem aAh [aB Tryz.prog] (s:Str) (c:UInt8):OkN Tryz.prog 155 [.str s,.int .u8 c.toNat] (.int .i64 (ixI c s)):=
 aH8 (fn:=Tryz.f155) (by kernel_rfl) (by decide+kernel) rfl (by decide+kernel) (by rfl) s c
theorem zT [aB Tryz.prog] (s:Str) (c:UInt8):Ok Tryz.prog 146 [.str s,.int .u8 c.toNat] (.int .i64 (ixI c s)):=by
 have h1:=aAh s c
 refine ent Tryz.mix Tryz.func146 Tryz.ntmps146 ?_
 have W:=trivial
 repeat' first|refine st ?_|(refine nx ?_;refine so ?_)|(refine cx ?_;refine sc (fun hc=>?_) (fun hc=>?_)<;>try exact hc.elim)|(refine lx ?_;refine sp (fun hc=>?_) (fun hc=>?_)<;>try exact hc.elim)|refine sx ?_ ?_|refine sy ?_ ?_|fail
 all_goals (try (refine ⟨.inr rfl,?_⟩;simp [Hands,Tryz.results146]))
theorem aEk [aB Tryz.prog] (s:Str) (c:UInt8):Ok Tryz.prog 127 [.str s,.str [c]] (.int .i64 (ixI c s)):=by
 have h1:=zT s c
 refine ent Tryz.mix Tryz.func127 Tryz.ntmps127 ?_
 have W:=trivial
 repeat' first|refine st ?_|(refine nx ?_;refine so ?_)|(refine cx ?_;refine sc (fun hc=>?_) (fun hc=>?_)<;>try exact hc.elim)|(refine lx ?_;refine sp (fun hc=>?_) (fun hc=>?_)<;>try exact hc.elim)|refine sx ?_ ?_|refine sy ?_ ?_|fail
 all_goals (try (refine ⟨.inr rfl,?_⟩;simp [Hands,Tryz.results127]))
 all_goals (subst hc;simp [ixI,zG])
theorem aOm [aB Tryz.prog] (s:Str) (c:UInt8) (hl:s.length≤1099511627776):Ok Tryz.prog 91 [.str s,.str [c]] (.tup [.str (s.take (ixB c s)),.str (s.drop (ixB c s+1)),.bool (decide (ixB c s < s.length))]):=by
 have h1:=aEk s c
 have hle:=qY c s
 by_cases h:ixB c s < s.length
 ·have e:ixI c s=ixB c s:=if_pos h
  rw [e] at h1
  generalize ixB c s=k at *
  refine ent Tryz.mix Tryz.func91 Tryz.ntmps91 ?_
  have W:=h
  repeat' first|refine st ?_|(refine nx ?_;refine so ?_)|(refine cx ?_;refine sc (fun hc=>?_) (fun hc=>?_)<;>try exact hc.elim)|(refine lx ?_;refine sp (fun hc=>?_) (fun hc=>?_)<;>try exact hc.elim)|refine sx ?_ ?_|refine sy ?_ ?_|fail
  all_goals (try (refine ⟨.inr rfl,?_⟩;simp [Hands,Tryz.results91]))
  all_goals simp_all
 ·have e:ixI c s= -1:=if_neg h
  rw [e] at h1
  have e2:ixB c s=s.length:=by omega
  rw [e2]
  refine ent Tryz.mix Tryz.func91 Tryz.ntmps91 ?_
  have W:=trivial
  repeat' first|refine st ?_|(refine nx ?_;refine so ?_)|(refine cx ?_;refine sc (fun hc=>?_) (fun hc=>?_)<;>try exact hc.elim)|(refine lx ?_;refine sp (fun hc=>?_) (fun hc=>?_)<;>try exact hc.elim)|refine sx ?_ ?_|refine sy ?_ ?_|fail
  all_goals (try (refine ⟨.inr rfl,?_⟩;simp [Hands,Tryz.results91]))
  all_goals simp
theorem zL [aB Tryz.prog] (s:Str) (c:UInt8) (hl:s.length≤1099511627776):Ok Tryz.prog 51 [.str s,.str [c]] (.tup [.str (s.take (ixB c s)),.str (s.drop (ixB c s+1)),.bool (decide (ixB c s < s.length))]):=by
 have h1:=aOm s c hl
 refine ent Tryz.mix Tryz.func51 Tryz.ntmps51 ?_
 have W:=trivial
 repeat' first|refine st ?_|(refine nx ?_;refine so ?_)|(refine cx ?_;refine sc (fun hc=>?_) (fun hc=>?_)<;>try exact hc.elim)|(refine lx ?_;refine sp (fun hc=>?_) (fun hc=>?_)<;>try exact hc.elim)|refine sx ?_ ?_|refine sy ?_ ?_|fail
 all_goals (try (refine ⟨.inr rfl,?_⟩;simp [Hands,Tryz.results51]))
theorem aVg {c:UInt8} {n:Nat} (hn:n < 256) (h:(c.toNat:Int)=n):c=UInt8.ofNat n:=by
 have:c.toNat=n:=by omega
 rw [←this];simp
theorem aUe {c:UInt8} {n:Nat} (hn:n < 256) (h:¬(c.toNat:Int)=n):c≠UInt8.ofNat n:=by
 rintro rfl
 apply h
 simp
 omega
theorem aE8 {s b:Str} {k:Nat} (h:ixB 47 s=k) (hk:k < s.length):addrOf s b=⟨s.take k,s.drop (k+1)⟩:=by
 subst h;exact if_pos hk
theorem aCg {s b:Str} (h:ixB 47 s=s.length):addrOf s b=⟨b,s⟩:=if_neg (by omega)
theorem vC [aB Tryz.prog] (s b:Str) (hl:s.length+b.length≤1099511627776):Ok Tryz.prog 67 [.str s,.str b] (.tup [.agg (aD (dG s b).1),.bool (dG s b).2]):=by
 simp only [dG]
 refine ent Tryz.mix Tryz.func67 Tryz.ntmps67 ?_
 have W:=trivial
 repeat' first|refine st ?_|(refine nx ?_;refine so ?_)|(refine cx ?_;refine sc (fun hc=>?_) (fun hc=>?_)<;>try exact hc.elim)|(refine lx ?_;refine sp (fun hc=>?_) (fun hc=>?_)<;>try exact hc.elim)|refine sx ?_ ?_|refine sy ?_ ?_|fail
 refine aT (ι:={k:Nat // k≤s.length∧∀x∈s.take k,x≠47}) (fun t o i=>⟨bB t [(7,.int .i64 i.1)],o⟩)
  (fun i=>s.length - i.1) ⟨0,by simp,by simp⟩ (aI (by simp) (by simp)) ?_
 rintro ⟨k,hk,hi⟩ K1 hK1
 simp only [bB,List.set_cons_succ,List.set_cons_zero] at hK1⊢
 have hk1:IntKind.i64.wrap ((k:Int)+1)=((k+1:Nat):Int):=by rw [wrap64]<;>omega
 by_cases hlt:k < s.length
 ·have hg:=List.getElem?_eq_getElem hlt
  have W:=And.intro hk1 (And.intro hg hlt)
  repeat' first|refine st ?_|(refine nx ?_;refine so ?_)|(refine cx ?_;refine sc (fun hc=>?_) (fun hc=>?_)<;>try exact hc.elim)|(refine lx ?_;refine sp (fun hc=>?_) (fun hc=>?_)<;>try exact hc.elim)|refine sx ?_ ?_|refine sy ?_ ?_|fail
  ·have e:=aE8 (b:=b) (aJ7 hlt (aVg (by decide) hc) hi) hlt
   have h1:=oN ⟨s.take k,s.drop (k+1)⟩ (by simp [aK];omega)
   rw [e]
   simp only [aD] at h1
   have W:=trivial
   repeat' first|refine st ?_|(refine nx ?_;refine so ?_)|(refine cx ?_;refine sc (fun hc=>?_) (fun hc=>?_)<;>try exact hc.elim)|(refine lx ?_;refine sp (fun hc=>?_) (fun hc=>?_)<;>try exact hc.elim)|refine sx ?_ ?_|refine sy ?_ ?_|fail
   all_goals (try (refine ⟨.inr rfl,?_⟩;simp [Hands,Tryz.results67,mV]))
   all_goals simp_all [mV]
  ·exact hK1 _ ⟨k+1,by omega,dD hlt hi (aUe (by decide) hc)⟩ (aI (by simp) (by simp)) (by simp only;omega)
 ·have e:=aCg (b:=b) (aK3 (iL (by omega) hi))
  have h1:=oN ⟨b,s⟩ (by simp [aK];omega)
  rw [e]
  simp only [aD] at h1
  have W:=hk1
  repeat' first|refine st ?_|(refine nx ?_;refine so ?_)|(refine cx ?_;refine sc (fun hc=>?_) (fun hc=>?_)<;>try exact hc.elim)|(refine lx ?_;refine sp (fun hc=>?_) (fun hc=>?_)<;>try exact hc.elim)|refine sx ?_ ?_|refine sy ?_ ?_|fail
  all_goals (try (refine ⟨.inr rfl,?_⟩;simp [Hands,Tryz.results67,mV]))
  all_goals simp_all [mV]
theorem aC8 [aB Tryz.prog] (s b:Str) (hl:s.length+b.length≤1099511627776):Ok Tryz.prog 28 [.str s,.str b] (.tup [.agg (aD (dG s b).1),.bool (dG s b).2]):=by
 have hC:=zL s 47 (by omega)
 have hle:=qY 47 s
 simp only [dG]
 by_cases h:ixB 47 s < s.length
 ·rw [aE8 rfl h]
  rw [decide_eq_true h] at hC
  generalize ixB 47 s=k at *
  have h1:=zM ⟨s.take k,s.drop (k+1)⟩ (by simp [aK];omega)
  simp only [aD] at h1
  refine ent Tryz.mix Tryz.func28 Tryz.ntmps28 ?_
  have W:=trivial
  repeat' first|refine st ?_|(refine nx ?_;refine so ?_)|(refine cx ?_;refine sc (fun hc=>?_) (fun hc=>?_)<;>try exact hc.elim)|(refine lx ?_;refine sp (fun hc=>?_) (fun hc=>?_)<;>try exact hc.elim)|refine sx ?_ ?_|refine sy ?_ ?_|fail
  all_goals (try (refine ⟨.inr rfl,?_⟩;simp [Hands,Tryz.results28,mV]))
  all_goals simp_all [mV]
 ·have e2:ixB 47 s=s.length:=by omega
  rw [aCg e2]
  rw [decide_eq_false h] at hC
  have h1:=zM ⟨b,s⟩ (by simp [aK];omega)
  simp only [aD] at h1
  refine ent Tryz.mix Tryz.func28 Tryz.ntmps28 ?_
  have W:=trivial
  repeat' first|refine st ?_|(refine nx ?_;refine so ?_)|(refine cx ?_;refine sc (fun hc=>?_) (fun hc=>?_)<;>try exact hc.elim)|(refine lx ?_;refine sp (fun hc=>?_) (fun hc=>?_)<;>try exact hc.elim)|refine sx ?_ ?_|refine sy ?_ ?_|fail
  all_goals (try (refine ⟨.inr rfl,?_⟩;simp [Hands,Tryz.results28,mV]))
  all_goals simp_all [mV]
end Go.Proofs.YtgkllebnnakojaaGreatDoor
