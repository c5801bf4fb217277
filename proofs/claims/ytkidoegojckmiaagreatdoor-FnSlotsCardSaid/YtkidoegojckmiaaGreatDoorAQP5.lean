/-
  Proved here: steps towards the statement of this claim, text QP5.
  No condition beyond what each statement spells out.
-/
import Derived.Test.YtkidoegojckmiaaGreatDoorAQD1
import Derived.Test.YtkidoegojckmiaaGreatDoorAF5
import Derived.Test.YtkidoegojckmiaaGreatDoorAQU1
import Derived.Test.YtkidoegojckmiaaGreatDoorAF6
set_option linter.all false
set_option maxRecDepth 4000
set_option maxHeartbeats 4000000
namespace Go.Proofs.YtkidoegojckmiaaGreatDoor
open Go.Aw
theorem aEb [aB Tryz.prog] (s:Str) (c:UInt8) (hl:s.length≤1099511627776):Ok Tryz.prog 163 [.str s,.int .u8 c.toNat] (.int .i64 (ixB c s:Nat)):=by
 refine ent Tryz.mix Tryz.func163 Tryz.ntmps163 ?_
 have W:=trivial
 repeat' first|refine st ?_|(refine nx ?_;first|refine se ?_|refine so ?_)|(refine cx ?_;refine sc (fun hc=>?_) (fun hc=>?_)<;>try exact hc.elim)|(refine lx ?_;refine sp (fun hc=>?_) (fun hc=>?_)<;>try exact hc.elim)|refine sx ?_ ?_|refine sy ?_ ?_|fail
 refine aJ (ι:={k:Nat // k≤s.length∧∀x∈s.take k,x≠c}) (fun t o i=>⟨aL t [(5,.int .i64 i.1)],o⟩)
  (fun i=>s.length - i.1) ⟨0,by simp,by simp⟩ (aH (by simp) (by simp)) ?_
 rintro ⟨k,hk,hi⟩ K1 hK1
 simp only [aL,List.set_cons_succ,List.set_cons_zero] at hK1⊢
 have hk1:IntKind.i64.wrap ((k:Int)+1)=((k+1:Nat):Int):=by rw [wrap64]<;>omega
 by_cases hlt:k < s.length
 ·have hg:=List.getElem?_eq_getElem hlt
  have W:=And.intro hk1 (And.intro hg hlt)
  repeat' first|refine st ?_|(refine nx ?_;first|refine se ?_|refine so ?_)|(refine cx ?_;refine sc (fun hc=>?_) (fun hc=>?_)<;>try exact hc.elim)|(refine lx ?_;refine sp (fun hc=>?_) (fun hc=>?_)<;>try exact hc.elim)|refine sx ?_ ?_|refine sy ?_ ?_|fail
  ·have e:=aVc hlt (UInt8.toNat_inj.1 (by omega)) hi
   rw [e]
   all_goals (try (refine ⟨.inr rfl,?_⟩;simp [Hands,Tryz.results163]))
  ·exact hK1 _ ⟨k+1,by omega,dP hlt hi (fun h=>hc (by rw [h]))⟩ (aH (by simp) (by simp)) (by simp only;omega)
 ·have e:=aQx (iP (by omega) hi)
  rw [e]
  have W:=hk1
  repeat' first|refine st ?_|(refine nx ?_;first|refine se ?_|refine so ?_)|(refine cx ?_;refine sc (fun hc=>?_) (fun hc=>?_)<;>try exact hc.elim)|(refine lx ?_;refine sp (fun hc=>?_) (fun hc=>?_)<;>try exact hc.elim)|refine sx ?_ ?_|refine sy ?_ ?_|fail
  all_goals (try (refine ⟨.inr rfl,?_⟩;simp [Hands,Tryz.results163]))
def pfx (p s:Str):Bool:=decide (p.length≤s.length)&&(s.take p.length == p)
theorem aJ4 [aB Tryz.prog] (s p:Str) (hl:s.length≤1099511627776) (hp:p.length≤1099511627776):Ok Tryz.prog 145 [.str s,.str p] (.bool (pfx p s)):=by
 by_cases h:p.length≤s.length
 ·have hi:(p.length:Int)≤(s.length:Int):=by omega
  have hr:pfx p s=(s.take p.length == p):=by simp [pfx,h]
  rw [hr]
  refine ent Tryz.mix Tryz.func145 Tryz.ntmps145 ?_
  have W:=And.intro h hi
  repeat' first|refine st ?_|(refine nx ?_;first|refine se ?_|refine so ?_)|(refine cx ?_;refine sc (fun hc=>?_) (fun hc=>?_)<;>try exact hc.elim)|(refine lx ?_;refine sp (fun hc=>?_) (fun hc=>?_)<;>try exact hc.elim)|refine sx ?_ ?_|refine sy ?_ ?_|fail
  all_goals (try (refine ⟨.inr rfl,?_⟩;simp [Hands,Tryz.results145]))
 ·have hi:¬(p.length:Int)≤(s.length:Int):=by omega
  have hr:pfx p s=false:=by simp [pfx,h]
  rw [hr]
  refine ent Tryz.mix Tryz.func145 Tryz.ntmps145 ?_
  have W:=And.intro h hi
  repeat' first|refine st ?_|(refine nx ?_;first|refine se ?_|refine so ?_)|(refine cx ?_;refine sc (fun hc=>?_) (fun hc=>?_)<;>try exact hc.elim)|(refine lx ?_;refine sp (fun hc=>?_) (fun hc=>?_)<;>try exact hc.elim)|refine sx ?_ ?_|refine sy ?_ ?_|fail
  all_goals (try (refine ⟨.inr rfl,?_⟩;simp [Hands,Tryz.results145]))
theorem aQq {p s:Str} (h:pfx p s=true):p.length≤s.length:=by
 simp only [pfx,Bool.and_eq_true,decide_eq_true_eq] at h
 exact h.1
theorem yR {α β:Type} (f:α→β) (l:List α) (k:Nat) (h:k < l.length):(l.take (k+1)).map f=(l.take k).map f++[f l[k]]:=by
 rw [List.take_succ_eq_append_getElem h,List.map_append];rfl
theorem aEd [aB Tryz.prog] (l:List iF) (hl:l.length≤1099511627776):Ok Tryz.prog 99 [.sl .view 2 (l.map lN)] (.sl .own 2 (l.map lN)):=by
 refine ent Tryz.mix Tryz.func99 Tryz.ntmps99 ?_
 have W:=trivial
 repeat' first|refine st ?_|(refine nx ?_;first|refine se ?_|refine so ?_)|(refine cx ?_;refine sc (fun hc=>?_) (fun hc=>?_)<;>try exact hc.elim)|(refine lx ?_;refine sp (fun hc=>?_) (fun hc=>?_)<;>try exact hc.elim)|refine sx ?_ ?_|refine sy ?_ ?_|fail
 all_goals (try (refine ⟨.inr rfl,?_⟩;simp [Hands,Tryz.results99]))
theorem aJq [aB Tryz.prog] (t:dM) (hl:t.attrs.length≤1099511627776):Ok Tryz.prog 98 [.agg (bP .view t)] (.agg (bP .own t)):=by
 refine ent Tryz.mix Tryz.func98 Tryz.ntmps98 ?_
 have W:=trivial
 repeat' first|refine st ?_|(refine nx ?_;first|refine se ?_|refine so ?_)|(refine cx ?_;refine sc (fun hc=>?_) (fun hc=>?_)<;>try exact hc.elim)|(refine lx ?_;refine sp (fun hc=>?_) (fun hc=>?_)<;>try exact hc.elim)|refine sx ?_ ?_|refine sy ?_ ?_|fail
 all_goals (try (refine ⟨.inr rfl,?_⟩;simp [Hands,Tryz.results98]))
theorem aHc [aB Tryz.prog] (l:List dM) (hs:szL eO l≤274877906944):Ok Tryz.prog 59 [.sl .view 4 (l.map (bP .view))] (.sl .own 4 (l.map (bP .own))):=by
 simp only [szL] at hs
 refine ent Tryz.mix Tryz.func59 Tryz.ntmps59 ?_
 have W:=trivial
 repeat' first|refine st ?_|(refine nx ?_;first|refine se ?_|refine so ?_)|(refine cx ?_;refine sc (fun hc=>?_) (fun hc=>?_)<;>try exact hc.elim)|(refine lx ?_;refine sp (fun hc=>?_) (fun hc=>?_)<;>try exact hc.elim)|refine sx ?_ ?_|refine sy ?_ ?_|fail
 refine aJ (ι:={q:Nat×Nat // q.1≤l.length∧1≤q.2}) (fun t o i=>⟨aL t [(3,.obj 0 i.1.2),(9,.int .i64 i.1.1),(5,.undef)],o.take 0++[⟨true,false,4,i.1.2,(l.take i.1.1).map (bP .own)⟩]⟩)
  (fun i=>l.length - i.1.1) ⟨(0,1),by simp,by first|(simp;done)|(simp only;omega)⟩ (aH (by simp) (by simp)) ?_
 rintro ⟨⟨k,v⟩,hk,hv⟩ K1 hK1
 simp only at hk hv
 simp only [aL,List.set_cons_succ,List.set_cons_zero,List.take_succ_cons,List.take_zero,List.cons_append,List.nil_append] at hK1⊢
 have hk1:IntKind.i64.wrap ((k:Int)+1)=((k+1:Nat):Int):=by rw [wrap64]<;>omega
 by_cases hlt:k < l.length
 ·have hg:=List.getElem?_eq_getElem hlt
  have hps:=yR (bP .own) l k hlt
  have hz:=dJ eO l k hlt
  simp only [eO,szL] at hz
  have c1:=aJq l[k] (by omega)
  simp only [bP] at c1
  have hgl:((l.take k).map (bP .own)).length=k:=by simp;omega
  generalize (l.take k).map (bP .own)=g at *
  have W:=And.intro hk1 (And.intro hg (And.intro hlt hgl))
  repeat' first|refine st ?_|(refine nx ?_;first|refine se ?_|refine so ?_)|(refine cx ?_;refine sc (fun hc=>?_) (fun hc=>?_)<;>try exact hc.elim)|(refine lx ?_;refine sp (fun hc=>?_) (fun hc=>?_)<;>try exact hc.elim)|refine sx ?_ ?_|refine sy ?_ ?_|fail
  all_goals refine hK1 _ ⟨(k+1,v+1),by simp only;omega,by simp only;omega⟩ (aG 1 (by simp [hps]) (by simp) (by simp) (by simp)) (by simp only;omega)
 ·have htk:l.take k=l:=List.take_of_length_le (by omega)
  rw [htk]
  have W:=hk1
  repeat' first|refine st ?_|(refine nx ?_;first|refine se ?_|refine so ?_)|(refine cx ?_;refine sc (fun hc=>?_) (fun hc=>?_)<;>try exact hc.elim)|(refine lx ?_;refine sp (fun hc=>?_) (fun hc=>?_)<;>try exact hc.elim)|refine sx ?_ ?_|refine sy ?_ ?_|fail
  all_goals (try (refine ⟨.inr rfl,?_⟩;simp [Hands,Tryz.results59]))
theorem aHe [aB Tryz.prog] (l:List dM) (hs:szL eO l≤274877906944):Ok Tryz.prog 66 [.sl .view 4 (l.map (bP .view))] (.sl .own 4 (l.map (bP .own))):=by
 simp only [szL] at hs
 refine ent Tryz.mix Tryz.func66 Tryz.ntmps66 ?_
 have W:=trivial
 repeat' first|refine st ?_|(refine nx ?_;first|refine se ?_|refine so ?_)|(refine cx ?_;refine sc (fun hc=>?_) (fun hc=>?_)<;>try exact hc.elim)|(refine lx ?_;refine sp (fun hc=>?_) (fun hc=>?_)<;>try exact hc.elim)|refine sx ?_ ?_|refine sy ?_ ?_|fail
 refine aJ (ι:={q:Nat×Nat // q.1≤l.length∧1≤q.2}) (fun t o i=>⟨aL t [(3,.obj 0 i.1.2),(4,.int .i64 i.1.1),(5,.undef)],o.take 0++[⟨true,false,4,i.1.2,(l.take i.1.1).map (bP .own)⟩]⟩)
  (fun i=>l.length - i.1.1) ⟨(0,1),by simp,by first|(simp;done)|(simp only;omega)⟩ (aH (by simp) (by simp)) ?_
 rintro ⟨⟨k,v⟩,hk,hv⟩ K1 hK1
 simp only at hk hv
 simp only [aL,List.set_cons_succ,List.set_cons_zero,List.take_succ_cons,List.take_zero,List.cons_append,List.nil_append] at hK1⊢
 have hk1:IntKind.i64.wrap ((k:Int)+1)=((k+1:Nat):Int):=by rw [wrap64]<;>omega
 by_cases hlt:k < l.length
 ·have hg:=List.getElem?_eq_getElem hlt
  have hps:=yR (bP .own) l k hlt
  have hz:=dJ eO l k hlt
  simp only [eO,szL] at hz
  have c1:=aEd l[k].attrs (by omega)
  have hgl:((l.take k).map (bP .own)).length=k:=by simp;omega
  generalize (l.take k).map (bP .own)=g at *
  have W:=And.intro hk1 (And.intro hg (And.intro hlt hgl))
  repeat' first|refine st ?_|(refine nx ?_;first|refine se ?_|refine so ?_)|(refine cx ?_;refine sc (fun hc=>?_) (fun hc=>?_)<;>try exact hc.elim)|(refine lx ?_;refine sp (fun hc=>?_) (fun hc=>?_)<;>try exact hc.elim)|refine sx ?_ ?_|refine sy ?_ ?_|fail
  all_goals refine hK1 _ ⟨(k+1,v+1),by simp only;omega,by simp only;omega⟩ (aG 1 (by simp [hps]) (by simp) (by simp) (by simp)) (by simp only;omega)
 ·have htk:l.take k=l:=List.take_of_length_le (by omega)
  rw [htk]
  have W:=hk1
  repeat' first|refine st ?_|(refine nx ?_;first|refine se ?_|refine so ?_)|(refine cx ?_;refine sc (fun hc=>?_) (fun hc=>?_)<;>try exact hc.elim)|(refine lx ?_;refine sp (fun hc=>?_) (fun hc=>?_)<;>try exact hc.elim)|refine sx ?_ ?_|refine sy ?_ ?_|fail
  all_goals (try (refine ⟨.inr rfl,?_⟩;simp [Hands,Tryz.results66]))
theorem yX [aB Tryz.prog] (a:bH) (hs:bB a≤274877906944):Ok Tryz.prog 58 [.agg (aS .view a)] (.agg (aS .own a)):=by
 simp only [bB,szL] at hs
 refine ent Tryz.mix Tryz.func58 Tryz.ntmps58 ?_
 have W:=trivial
 repeat' first|refine st ?_|(refine nx ?_;first|refine se ?_|refine so ?_)|(refine cx ?_;refine sc (fun hc=>?_) (fun hc=>?_)<;>try exact hc.elim)|(refine lx ?_;refine sp (fun hc=>?_) (fun hc=>?_)<;>try exact hc.elim)|refine sx ?_ ?_|refine sy ?_ ?_|fail
 all_goals (try (refine ⟨.inr rfl,?_⟩;simp [Hands,Tryz.results58]))
theorem aHd [aB Tryz.prog] (a:bH) (hs:bB a≤274877906944):Ok Tryz.prog 65 [.agg (aS .view a)] (.agg (aS .own a)):=by
 simp only [bB,szL] at hs
 refine ent Tryz.mix Tryz.func65 Tryz.ntmps65 ?_
 have W:=trivial
 repeat' first|refine st ?_|(refine nx ?_;first|refine se ?_|refine so ?_)|(refine cx ?_;refine sc (fun hc=>?_) (fun hc=>?_)<;>try exact hc.elim)|(refine lx ?_;refine sp (fun hc=>?_) (fun hc=>?_)<;>try exact hc.elim)|refine sx ?_ ?_|refine sy ?_ ?_|fail
 all_goals (try (refine ⟨.inr rfl,?_⟩;simp [Hands,Tryz.results65]))
def kM (t:iG):List dM:=if t.rest=[]∨t.rest.head? =some 60 then [] else [⟨3,[],[],t.rest⟩]
end Go.Proofs.YtkidoegojckmiaaGreatDoor
