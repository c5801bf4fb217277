/-
  Proved here: contracts of the copies of attributes, tokens and policies.
  No condition beyond what each statement spells out.
-/
import Derived.Test.YtejigeoigebhcaaGreatAQP5
import Derived.Test.YtejigeoigebhcaaGreatAF6
set_option linter.all false
set_option maxRecDepth 4000
set_option maxHeartbeats 4000000
namespace Go.Proofs.YtejigeoigebhcaaGreat
open Go.Aw
theorem vS {α β:Type} (f:α→β) (l:List α) (k:Nat) (h:k < l.length):(l.take (k+1)).map f=(l.take k).map f++[f l[k]]:=by
 rw [List.take_succ_eq_append_getElem h,List.map_append];rfl
theorem aBr [aB Tryz.prog] (l:List gT) (hl:l.length≤1099511627776):Ok Tryz.prog 87 [.sl .view 2 (l.map lJ)] (.sl .own 2 (l.map lJ)):=by
 refine ent Tryz.mix Tryz.func87 Tryz.ntmps87 ?_
 have W:=trivial
 repeat' first|refine st ?_|(refine nx ?_;first|refine se ?_|refine so ?_)|(refine cx ?_;refine sc (fun hc=>?_) (fun hc=>?_)<;>try exact hc.elim)|(refine lx ?_;refine sp (fun hc=>?_) (fun hc=>?_)<;>try exact hc.elim)|refine sx ?_ ?_|refine sy ?_ ?_|fail
 all_goals (try (refine ⟨.inr rfl,?_⟩;simp [Hands,Tryz.results87]))
theorem aFs [aB Tryz.prog] (t:dE) (hl:t.attrs.length≤1099511627776):Ok Tryz.prog 85 [.agg (bQ .view t)] (.agg (bQ .own t)):=by
 refine ent Tryz.mix Tryz.func85 Tryz.ntmps85 ?_
 have W:=trivial
 repeat' first|refine st ?_|(refine nx ?_;first|refine se ?_|refine so ?_)|(refine cx ?_;refine sc (fun hc=>?_) (fun hc=>?_)<;>try exact hc.elim)|(refine lx ?_;refine sp (fun hc=>?_) (fun hc=>?_)<;>try exact hc.elim)|refine sx ?_ ?_|refine sy ?_ ?_|fail
 all_goals (try (refine ⟨.inr rfl,?_⟩;simp [Hands,Tryz.results85]))
theorem aEb [aB Tryz.prog] (l:List dE) (hs:szL dR l≤274877906944):Ok Tryz.prog 52 [.sl .view 4 (l.map (bQ .view))] (.sl .own 4 (l.map (bQ .own))):=by
 simp only [szL] at hs
 refine ent Tryz.mix Tryz.func52 Tryz.ntmps52 ?_
 have W:=trivial
 repeat' first|refine st ?_|(refine nx ?_;first|refine se ?_|refine so ?_)|(refine cx ?_;refine sc (fun hc=>?_) (fun hc=>?_)<;>try exact hc.elim)|(refine lx ?_;refine sp (fun hc=>?_) (fun hc=>?_)<;>try exact hc.elim)|refine sx ?_ ?_|refine sy ?_ ?_|fail
 refine aQ (ι:={q:Nat×Nat // q.1≤l.length∧1≤q.2}) (fun t o i=>⟨bB t [(3,.obj 0 i.1.2),(9,.int .i64 i.1.1),(5,.undef)],o.take 0++[⟨true,false,4,i.1.2,(l.take i.1.1).map (bQ .own)⟩]⟩)
  (fun i=>l.length - i.1.1) ⟨(0,1),by simp,by first|(simp;done)|(simp only;omega)⟩ (aY (by simp) (by simp)) ?_
 rintro ⟨⟨k,v⟩,hk,hv⟩ K1 hK1
 simp only at hk hv
 simp only [bB,List.set_cons_succ,List.set_cons_zero,List.take_succ_cons,List.take_zero,List.cons_append,List.nil_append] at hK1⊢
 have hk1:IntKind.i64.wrap ((k:Int)+1)=((k+1:Nat):Int):=by rw [wrap64]<;>omega
 by_cases hlt:k < l.length
 ·have hg:=List.getElem?_eq_getElem hlt
  have hps:=vS (bQ .own) l k hlt
  have hz:=fK dR l k hlt
  simp only [dR,szL] at hz
  have c1:=aFs l[k] (by omega)
  simp only [bQ] at c1
  have hgl:((l.take k).map (bQ .own)).length=k:=by simp;omega
  generalize (l.take k).map (bQ .own)=g at *
  have W:=And.intro hk1 (And.intro hg (And.intro hlt hgl))
  repeat' first|refine st ?_|(refine nx ?_;first|refine se ?_|refine so ?_)|(refine cx ?_;refine sc (fun hc=>?_) (fun hc=>?_)<;>try exact hc.elim)|(refine lx ?_;refine sp (fun hc=>?_) (fun hc=>?_)<;>try exact hc.elim)|refine sx ?_ ?_|refine sy ?_ ?_|fail
  all_goals refine hK1 _ ⟨(k+1,v+1),by simp only;omega,by simp only;omega⟩ (aW 1 (by simp [hps]) (by simp) (by simp) (by simp)) (by simp only;omega)
 ·have htk:l.take k=l:=List.take_of_length_le (by omega)
  rw [htk]
  have W:=hk1
  repeat' first|refine st ?_|(refine nx ?_;first|refine se ?_|refine so ?_)|(refine cx ?_;refine sc (fun hc=>?_) (fun hc=>?_)<;>try exact hc.elim)|(refine lx ?_;refine sp (fun hc=>?_) (fun hc=>?_)<;>try exact hc.elim)|refine sx ?_ ?_|refine sy ?_ ?_|fail
  all_goals (try (refine ⟨.inr rfl,?_⟩;simp [Hands,Tryz.results52]))
theorem aEa [aB Tryz.prog] (l:List dE) (hs:szL dR l≤274877906944):Ok Tryz.prog 57 [.sl .view 4 (l.map (bQ .view))] (.sl .own 4 (l.map (bQ .own))):=by
 simp only [szL] at hs
 refine ent Tryz.mix Tryz.func57 Tryz.ntmps57 ?_
 have W:=trivial
 repeat' first|refine st ?_|(refine nx ?_;first|refine se ?_|refine so ?_)|(refine cx ?_;refine sc (fun hc=>?_) (fun hc=>?_)<;>try exact hc.elim)|(refine lx ?_;refine sp (fun hc=>?_) (fun hc=>?_)<;>try exact hc.elim)|refine sx ?_ ?_|refine sy ?_ ?_|fail
 refine aQ (ι:={q:Nat×Nat // q.1≤l.length∧1≤q.2}) (fun t o i=>⟨bB t [(3,.obj 0 i.1.2),(4,.int .i64 i.1.1),(5,.undef)],o.take 0++[⟨true,false,4,i.1.2,(l.take i.1.1).map (bQ .own)⟩]⟩)
  (fun i=>l.length - i.1.1) ⟨(0,1),by simp,by first|(simp;done)|(simp only;omega)⟩ (aY (by simp) (by simp)) ?_
 rintro ⟨⟨k,v⟩,hk,hv⟩ K1 hK1
 simp only at hk hv
 simp only [bB,List.set_cons_succ,List.set_cons_zero,List.take_succ_cons,List.take_zero,List.cons_append,List.nil_append] at hK1⊢
 have hk1:IntKind.i64.wrap ((k:Int)+1)=((k+1:Nat):Int):=by rw [wrap64]<;>omega
 by_cases hlt:k < l.length
 ·have hg:=List.getElem?_eq_getElem hlt
  have hps:=vS (bQ .own) l k hlt
  have hz:=fK dR l k hlt
  simp only [dR,szL] at hz
  have c1:=aBr l[k].attrs (by omega)
  have hgl:((l.take k).map (bQ .own)).length=k:=by simp;omega
  generalize (l.take k).map (bQ .own)=g at *
  have W:=And.intro hk1 (And.intro hg (And.intro hlt hgl))
  repeat' first|refine st ?_|(refine nx ?_;first|refine se ?_|refine so ?_)|(refine cx ?_;refine sc (fun hc=>?_) (fun hc=>?_)<;>try exact hc.elim)|(refine lx ?_;refine sp (fun hc=>?_) (fun hc=>?_)<;>try exact hc.elim)|refine sx ?_ ?_|refine sy ?_ ?_|fail
  all_goals refine hK1 _ ⟨(k+1,v+1),by simp only;omega,by simp only;omega⟩ (aW 1 (by simp [hps]) (by simp) (by simp) (by simp)) (by simp only;omega)
 ·have htk:l.take k=l:=List.take_of_length_le (by omega)
  rw [htk]
  have W:=hk1
  repeat' first|refine st ?_|(refine nx ?_;first|refine se ?_|refine so ?_)|(refine cx ?_;refine sc (fun hc=>?_) (fun hc=>?_)<;>try exact hc.elim)|(refine lx ?_;refine sp (fun hc=>?_) (fun hc=>?_)<;>try exact hc.elim)|refine sx ?_ ?_|refine sy ?_ ?_|fail
  all_goals (try (refine ⟨.inr rfl,?_⟩;simp [Hands,Tryz.results57]))
theorem aEg [aB Tryz.prog] (a:bX) (hs:bE a≤274877906944):Ok Tryz.prog 51 [.agg (bD .view a)] (.agg (bD .own a)):=by
 simp only [bE,szL] at hs
 refine ent Tryz.mix Tryz.func51 Tryz.ntmps51 ?_
 have W:=trivial
 repeat' first|refine st ?_|(refine nx ?_;first|refine se ?_|refine so ?_)|(refine cx ?_;refine sc (fun hc=>?_) (fun hc=>?_)<;>try exact hc.elim)|(refine lx ?_;refine sp (fun hc=>?_) (fun hc=>?_)<;>try exact hc.elim)|refine sx ?_ ?_|refine sy ?_ ?_|fail
 all_goals (try (refine ⟨.inr rfl,?_⟩;simp [Hands,Tryz.results51]))
theorem aEc [aB Tryz.prog] (a:bX) (hs:bE a≤274877906944):Ok Tryz.prog 56 [.agg (bD .view a)] (.agg (bD .own a)):=by
 simp only [bE,szL] at hs
 refine ent Tryz.mix Tryz.func56 Tryz.ntmps56 ?_
 have W:=trivial
 repeat' first|refine st ?_|(refine nx ?_;first|refine se ?_|refine so ?_)|(refine cx ?_;refine sc (fun hc=>?_) (fun hc=>?_)<;>try exact hc.elim)|(refine lx ?_;refine sp (fun hc=>?_) (fun hc=>?_)<;>try exact hc.elim)|refine sx ?_ ?_|refine sy ?_ ?_|fail
 all_goals (try (refine ⟨.inr rfl,?_⟩;simp [Hands,Tryz.results56]))
def jI (t:gJ):List dE:=if t.rest=[]∨t.rest.head? =some 60 then [] else [⟨3,[],[],t.rest⟩]
end Go.Proofs.YtejigeoigebhcaaGreat
