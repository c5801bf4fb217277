/-
  Proved here: steps towards the statement of this claim, text QJ1.
  No condition beyond what each statement spells out.
-/
import Derived.Test.YtejigeoigebhcaaGreatAQ1
import Derived.Test.YtejigeoigebhcaaGreatAF5
import Derived.Test.YtejigeoigebhcaaGreatAQU1
import Derived.Test.YtejigeoigebhcaaGreatAF4
set_option linter.all false
set_option maxRecDepth 4000
set_option maxHeartbeats 4000000
namespace Go.Proofs.YtejigeoigebhcaaGreat
open Go.Aw
def gW (l:List Str):Bool:=l.all bY&&decide (l.length≤4)
def oZ (p:bX):Bool:=
 if p.isSet=true then gW p.scripts&&gW p.styles&&gW p.images&&(p.nonce == [] || dJ p.nonce)
 else p.scripts == []&&p.styles == []&&p.images == []&&p.nonce == []
def nP:Str:=[115,99,114,105,112,116]
def qI:Str:=[115,116,121,108,101]
def wV:Str:=[105,109,103]
def aGl:Str:=[110,111,110,99,101,32]
def words (w:Str) (l:List Str):Str:=Lib.join (w::l) [32]
def aBh (n:Str):Str:=if n=[] then [] else 59::(aGl++n)
def gL (p:bX):Str:=
 if oZ p=true∧p.isSet=true then words nP p.scripts++59::(words qI p.styles++59::(words wV p.images++aBh p.nonce)) else []
def kR:bX:=⟨false,[],[],[],[]⟩
def lI (f:Str→Str) (s:Str):bX:=
 ⟨true,(bF 32 ((bF 59 s).getD 0 [])).tail,(bF 32 ((bF 59 s).getD 1 [])).tail,(bF 32 ((bF 59 s).getD 2 [])).tail,match (bF 59 s)[3]? with|some x=>f x|none=>[]⟩
def sO (f:Str→Str) (s:Str):bX×Bool:=
 if s=[] then (kR,true) else if (bF 59 s).length < 3 then (kR,false) else if gL (lI f s)=s then (lI f s,true) else (kR,false)
def gU (x:Str):Str:=if 6 < x.length then x.drop 6 else []
def dU (s:Str):bX×Bool:=sO gU s
theorem tN [aB Tryz.prog] (l:List gT) (n:Str) (hl:l.length≤1099511627776):Ok Tryz.prog 115 [.sl .view 2 (l.map lJ),.str n] (.tup [.str (gX l n).1,.bool (gX l n).2]):=by
 refine ent Tryz.mix Tryz.func115 Tryz.ntmps115 ?_
 have W:=trivial
 repeat' first|refine st ?_|(refine nx ?_;refine so ?_)|(refine cx ?_;refine sc (fun hc=>?_) (fun hc=>?_)<;>try exact hc.elim)|(refine lx ?_;refine sp (fun hc=>?_) (fun hc=>?_)<;>try exact hc.elim)|refine sx ?_ ?_|refine sy ?_ ?_|fail
 refine aQ (ι:={k:Nat // k≤l.length∧∀x∈l.take k,mQ n x=false}) (fun t o i=>⟨bB t [(6,.int .i64 i.1)],o⟩)
  (fun i=>l.length - i.1) ⟨0,by simp,by simp⟩ (aY (by simp) (by simp)) ?_
 rintro ⟨k,hk,hi⟩ K1 hK1
 simp only [bB,List.set_cons_succ,List.set_cons_zero] at hK1⊢
 have hk1:IntKind.i64.wrap ((k:Int)+1)=((k+1:Nat):Int):=by rw [wrap64]<;>omega
 by_cases hlt:k < l.length
 ·have hg:=List.getElem?_eq_getElem hlt
  have W:=And.intro hk1 (And.intro hg hlt)
  repeat' first|refine st ?_|(refine nx ?_;refine so ?_)|(refine cx ?_;refine sc (fun hc=>?_) (fun hc=>?_)<;>try exact hc.elim)|(refine lx ?_;refine sp (fun hc=>?_) (fun hc=>?_)<;>try exact hc.elim)|refine sx ?_ ?_|refine sy ?_ ?_|fail
  ·all_goals (try (refine ⟨.inr rfl,?_⟩;simp [Hands,Tryz.results115]))
   rw [aHg hlt (by simpa [mQ] using hc) hi]
   simp
  ·exact hK1 _ ⟨k+1,by omega,dZ hlt hi (by simpa [mQ] using hc)⟩ (aY (by simp) (by simp)) (by simp only;omega)
 ·have W:=hk1
  repeat' first|refine st ?_|(refine nx ?_;refine so ?_)|(refine cx ?_;refine sc (fun hc=>?_) (fun hc=>?_)<;>try exact hc.elim)|(refine lx ?_;refine sp (fun hc=>?_) (fun hc=>?_)<;>try exact hc.elim)|refine sx ?_ ?_|refine sy ?_ ?_|fail
  all_goals (try (refine ⟨.inr rfl,?_⟩;simp [Hands,Tryz.results115]))
  rw [aEn (jA (by omega) hi)]
  simp
theorem wS [aB Tryz.prog] (s:Str) (c:UInt8):OkN Tryz.prog 117 [.str s,.int .u8 c.toNat] (.int .i64 (ixI c s)):=
 aEm (fn:=Tryz.f117) (by kernel_rfl) (by decide+kernel) rfl (by decide+kernel) (by rfl) s c
theorem wO [aB Tryz.prog] (s:Str) (c:UInt8):Ok Tryz.prog 110 [.str s,.int .u8 c.toNat] (.int .i64 (ixI c s)):=by
 have h1:=wS s c
 refine ent Tryz.mix Tryz.func110 Tryz.ntmps110 ?_
 have W:=trivial
 repeat' first|refine st ?_|(refine nx ?_;refine so ?_)|(refine cx ?_;refine sc (fun hc=>?_) (fun hc=>?_)<;>try exact hc.elim)|(refine lx ?_;refine sp (fun hc=>?_) (fun hc=>?_)<;>try exact hc.elim)|refine sx ?_ ?_|refine sy ?_ ?_|fail
 all_goals (try (refine ⟨.inr rfl,?_⟩;simp [Hands,Tryz.results110]))
theorem aB7 [aB Tryz.prog] (s:Str) (c:UInt8):Ok Tryz.prog 100 [.str s,.str [c]] (.int .i64 (ixI c s)):=by
 have h1:=wO s c
 refine ent Tryz.mix Tryz.func100 Tryz.ntmps100 ?_
 have W:=trivial
 repeat' first|refine st ?_|(refine nx ?_;refine so ?_)|(refine cx ?_;refine sc (fun hc=>?_) (fun hc=>?_)<;>try exact hc.elim)|(refine lx ?_;refine sp (fun hc=>?_) (fun hc=>?_)<;>try exact hc.elim)|refine sx ?_ ?_|refine sy ?_ ?_|fail
 all_goals (try (refine ⟨.inr rfl,?_⟩;simp [Hands,Tryz.results100]))
 all_goals (subst hc;simp [ixI,rW])
theorem aJs [aB Tryz.prog] (s:Str) (c:UInt8) (hl:s.length≤1099511627776):Ok Tryz.prog 86 [.str s,.str [c]] (.tup [.str (s.take (ixB c s)),.str (s.drop (ixB c s+1)),.bool (decide (ixB c s < s.length))]):=by
 have h1:=aB7 s c
 have hle:=mO c s
 by_cases h:ixB c s < s.length
 ·have e:ixI c s=ixB c s:=if_pos h
  rw [e] at h1
  generalize ixB c s=k at *
  refine ent Tryz.mix Tryz.func86 Tryz.ntmps86 ?_
  have W:=h
  repeat' first|refine st ?_|(refine nx ?_;refine so ?_)|(refine cx ?_;refine sc (fun hc=>?_) (fun hc=>?_)<;>try exact hc.elim)|(refine lx ?_;refine sp (fun hc=>?_) (fun hc=>?_)<;>try exact hc.elim)|refine sx ?_ ?_|refine sy ?_ ?_|fail
  all_goals (try (refine ⟨.inr rfl,?_⟩;simp [Hands,Tryz.results86]))
  all_goals simp_all
 ·have e:ixI c s= -1:=if_neg h
  rw [e] at h1
  have e2:ixB c s=s.length:=by omega
  rw [e2]
  refine ent Tryz.mix Tryz.func86 Tryz.ntmps86 ?_
  have W:=trivial
  repeat' first|refine st ?_|(refine nx ?_;refine so ?_)|(refine cx ?_;refine sc (fun hc=>?_) (fun hc=>?_)<;>try exact hc.elim)|(refine lx ?_;refine sp (fun hc=>?_) (fun hc=>?_)<;>try exact hc.elim)|refine sx ?_ ?_|refine sy ?_ ?_|fail
  all_goals (try (refine ⟨.inr rfl,?_⟩;simp [Hands,Tryz.results86]))
  all_goals simp
theorem aD8 [aB Tryz.prog] (s:Str) (c:UInt8) (hl:s.length≤1099511627776):Ok Tryz.prog 54 [.str s,.str [c]] (.tup [.str (s.take (ixB c s)),.str (s.drop (ixB c s+1)),.bool (decide (ixB c s < s.length))]):=by
 have h1:=aJs s c hl
 refine ent Tryz.mix Tryz.func54 Tryz.ntmps54 ?_
 have W:=trivial
 repeat' first|refine st ?_|(refine nx ?_;refine so ?_)|(refine cx ?_;refine sc (fun hc=>?_) (fun hc=>?_)<;>try exact hc.elim)|(refine lx ?_;refine sp (fun hc=>?_) (fun hc=>?_)<;>try exact hc.elim)|refine sx ?_ ?_|refine sy ?_ ?_|fail
 all_goals (try (refine ⟨.inr rfl,?_⟩;simp [Hands,Tryz.results54]))
end Go.Proofs.YtejigeoigebhcaaGreat
