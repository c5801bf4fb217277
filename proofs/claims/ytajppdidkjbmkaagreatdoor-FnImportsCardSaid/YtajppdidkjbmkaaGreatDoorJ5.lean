/-
  Proved here: steps towards the statement of this claim, text J5.
  No condition beyond what each statement spells out.
-/
import Derived.Test.YtajppdidkjbmkaaGreatDoorJ3
import Derived.Test.YtajppdidkjbmkaaGreatDoorQJ4
import Derived.Test.YtajppdidkjbmkaaGreatDoorQSV1
set_option linter.all false
set_option maxRecDepth 4000
set_option maxHeartbeats 4000000
namespace Go.Proofs.YtajppdidkjbmkaaGreatDoor
open Go.Aw
theorem wF [aB Tryz.prog] [cZ Tryz.prog] (s:Str) (c:UInt8) (hs:s.length < 4294967281):Ok Tryz.prog 20 [.str s,.str [c]] (.sl .own 1 ((bC c s).map aU)):=aMl Tryz.laysM146 (by kernel_rfl) s c hs
theorem aGk [aB Tryz.prog] [cZ Tryz.prog] (s p:Str) (hl:s.length≤1099511627776) (hp:p.length≤1099511627776):Ok Tryz.prog 168 [.str s,.str p] (.str (if pfx p s=true then s.drop p.length else s)):=by
 have c1:=aCb s p hl hp
 have h1:= @aFp p s
 generalize pfx p s=b at *
 cases b
 ·refine ent Tryz.mix Tryz.func168 Tryz.ntmps168 ?_
  have W:=trivial
  repeat' first|refine st ?_|(refine nx ?_;first|refine se ?_|refine so ?_)|(refine cx ?_;refine sc (fun hc=>?_) (fun hc=>?_)<;>try exact hc.elim)|(refine lx ?_;refine sp (fun hc=>?_) (fun hc=>?_)<;>try exact hc.elim)|refine sx ?_ ?_|refine sy ?_ ?_|fail
  all_goals (try (refine ⟨.inr rfl,?_⟩;simp [Hands,Tryz.results168]))
 ·have h2:=h1 rfl
  refine ent Tryz.mix Tryz.func168 Tryz.ntmps168 ?_
  have W:=h2
  repeat' first|refine st ?_|(refine nx ?_;first|refine se ?_|refine so ?_)|(refine cx ?_;refine sc (fun hc=>?_) (fun hc=>?_)<;>try exact hc.elim)|(refine lx ?_;refine sp (fun hc=>?_) (fun hc=>?_)<;>try exact hc.elim)|refine sx ?_ ?_|refine sy ?_ ?_|fail
  all_goals (try (refine ⟨.inr rfl,?_⟩;simp [Hands,Tryz.results168]))
theorem aQc (x:Str):iK x=if pfx fT x=true then x.drop fT.length else x:=by
 unfold iK
 have e:fT.isPrefixOf x=pfx fT x:=by
  have h1:fT.isPrefixOf x=true↔pfx fT x=true:=by
   rw [List.isPrefixOf_iff_prefix,List.prefix_iff_eq_take]
   simp only [pfx,Bool.and_eq_true,decide_eq_true_eq,beq_iff_eq]
   constructor
   ·intro h
    refine ⟨?_,h.symm⟩
    have:=congrArg List.length h
    rw [List.length_take] at this;omega
   ·intro h;exact h.2.symm
  cases h2:pfx fT x<;>cases h3:fT.isPrefixOf x<;>simp_all
 rw [e];rfl
theorem aQw (x:Str):(iK x).length≤x.length:=by unfold iK;split<;>simp
theorem aJ5 [aB Tryz.prog] [cZ Tryz.prog] (x:Str) (hl:x.length≤1099511627776):Ok Tryz.prog 150 [.str x,.str [110,111,110,99,101,32]] (.str (iK x)):=by
 have c1:Ok Tryz.prog 168 [.str x,.str [110,111,110,99,101,32]] (.str (if pfx fT x=true then x.drop fT.length else x)):=aGk x fT hl (by decide)
 rw [←aQc] at c1
 generalize iK x=n at *
 refine ent Tryz.mix Tryz.func150 Tryz.ntmps150 ?_
 have W:=trivial
 repeat' first|refine st ?_|(refine nx ?_;first|refine se ?_|refine so ?_)|(refine cx ?_;refine sc (fun hc=>?_) (fun hc=>?_)<;>try exact hc.elim)|(refine lx ?_;refine sp (fun hc=>?_) (fun hc=>?_)<;>try exact hc.elim)|refine sx ?_ ?_|refine sy ?_ ?_|fail
 all_goals (try (refine ⟨.inr rfl,?_⟩;simp [Hands,Tryz.results150]))
def dM (k:Nat):List AV:=[if 0 < k then .obj 3 2 else .sl .own 1 [],if 1 < k then .obj 4 2 else .sl .own 1 [],if 2 < k then .obj 5 2 else .sl .own 1 []]
def fI (a b c:List (List AV)):List aA:=[⟨true,false,1,2,a⟩,⟨true,false,1,2,b⟩,⟨true,false,1,2,c⟩]
theorem aAv [aB Tryz.prog] [cZ Tryz.prog] (s:Str) (hl:s.length≤1073741824):Ok Tryz.prog 123 [.str s] (.tup [.agg (bD .own (lF iK s).1),.bool (lF iK s).2]):=by
 have c0:Ok Tryz.prog 20 [.str s,.str [59]] (.sl .own 1 ((bC 59 s).map aU)):=wF s 59 (by omega)
 unfold lF
 by_cases h0:s=[]
 ·rw [if_pos h0]
  subst h0
  refine aGt Tryz.mix Tryz.func123 Tryz.ntmps123 ?_
  have W:=trivial
  repeat' first|refine st ?_|(refine nx ?_;first|refine se ?_|refine so ?_)|(refine cx ?_;refine sc (fun hc=>?_) (fun hc=>?_)<;>try exact hc.elim)|(refine lx ?_;refine sp (fun hc=>?_) (fun hc=>?_)<;>try exact hc.elim)|refine sx ?_ ?_|refine sy ?_ ?_|fail
  all_goals (try (first|(refine ⟨.inr rfl,.inl ?_⟩;simp [Hands,Tryz.results123,jG];done)|(refine ⟨.inr rfl,.inr (qW ?_)⟩;simp [AS.rvB,AS.rvs,AS.rv,Tryz.results123,jG];done)|(refine ⟨.inr rfl,.inl ?_⟩;simp [Hands,Tryz.results123,jG])))
 rw [if_neg h0]
 by_cases h3:(bC 59 s).length < 3
 ·rw [if_pos h3]
  have h3':((bC 59 s).length:Int) < 3:=by omega
  generalize bC 59 s=L at *
  refine aGt Tryz.mix Tryz.func123 Tryz.ntmps123 ?_
  have W:=And.intro h0 (And.intro h3' h3)
  have V:=h0
  repeat' first|refine st ?_|(refine nx ?_;first|refine se ?_|refine so ?_)|(refine cx ?_;refine sc (fun hc=>?_) (fun hc=>?_)<;>try exact hc.elim)|(refine lx ?_;refine sp (fun hc=>?_) (fun hc=>?_)<;>try exact hc.elim)|refine sx ?_ ?_|refine sy ?_ ?_|fail
  all_goals (try (first|(refine ⟨.inr rfl,.inl ?_⟩;simp [Hands,Tryz.results123,jG];done)|(refine ⟨.inr rfl,.inr (qW ?_)⟩;simp [AS.rvB,AS.rvs,AS.rv,Tryz.results123,jG];done)|(refine ⟨.inr rfl,.inl ?_⟩;simp [Hands,Tryz.results123,jG])))
  all_goals first|exact absurd (by assumption) h0|omega
 rw [if_neg h3]
 have hz:=aAb iK aQw h3
 have cf:=aAz (gU iK s) (by omega)
 have cc:=aAl (gU iK s) (by omega)
 obtain ⟨x0,x1,x2,r,hs⟩:∃x0 x1 x2 r,bC 59 s=x0::x1::x2::r:=by
  match hs:bC 59 s with
  |[]=>rw [hs] at h3;simp at h3
  |[_]=>rw [hs] at h3;simp at h3
  |[_,_]=>rw [hs] at h3;simp at h3
  |x0::x1::x2::r=>exact ⟨x0,x1,x2,r,rfl⟩
 have m0:=jR (c:=59) (s:=s) (x:=x0) (by rw [hs];simp)
 have m1:=jR (c:=59) (s:=s) (x:=x1) (by rw [hs];simp)
 have m2:=jR (c:=59) (s:=s) (x:=x2) (by rw [hs];simp)
 have m3:∀x∈r,x.length≤s.length:=fun x hx=>jR (c:=59) (s:=s) (x:=x) (by rw [hs];simp [hx])
 have hrl:r.length≤s.length:=by
  have:=jO 59 s
  have h3:=List.count_le_length (a:=(59:UInt8)) (l:=s)
  rw [hs] at this;simp at this;omega
 rw [hs] at c0
 have e:=yA iK hs
 have c1:Ok Tryz.prog 20 [.str x0,.str [32]] (.sl .own 1 ((bC 32 x0).map aU)):=wF x0 32 (by omega)
 have c2:Ok Tryz.prog 20 [.str x1,.str [32]] (.sl .own 1 ((bC 32 x1).map aU)):=wF x1 32 (by omega)
 have c3:Ok Tryz.prog 20 [.str x2,.str [32]] (.sl .own 1 ((bC 32 x2).map aU)):=wF x2 32 (by omega)
 obtain ⟨y0,t0,e0⟩:=List.exists_cons_of_ne_nil (jJ 32 x0)
 obtain ⟨y1,t1,e1⟩:=List.exists_cons_of_ne_nil (jJ 32 x1)
 obtain ⟨y2,t2,e2⟩:=List.exists_cons_of_ne_nil (jJ 32 x2)
 rw [e0] at c1;rw [e1] at c2;rw [e2] at c3
 rw [e0,e1,e2] at e
 simp only [List.tail_cons] at e
 clear hs m0 m1 m2 e0 e1 e2 h3 hz
 have tk:∀(t:List Str),(t.map aU).take t.length=t.map aU:=fun t=>List.take_of_length_le (by simp)
 have hres:∀n,gU iK s=⟨true,t0,t1,t2,n⟩→Ok Tryz.prog 151 [.agg [.bool true,.sl .view 1 (t0.map aU),.sl .view 1 (t1.map aU),.sl .view 1 (t2.map aU),.str n]] (.str (dF (gU iK s)))→
   Ok Tryz.prog 79 [.agg [.bool true,.sl .view 1 (t0.map aU),.sl .view 1 (t1.map aU),.sl .view 1 (t2.map aU),.str n]] (.agg [.bool true,.sl .own 1 (t0.map aU),.sl .own 1 (t1.map aU),.sl .own 1 (t2.map aU),.str n])→
   Ok Tryz.prog 123 [.str s] (if dF (gU iK s)=s then .tup [.agg [.bool true,.sl .own 1 (t0.map aU),.sl .own 1 (t1.map aU),.sl .own 1 (t2.map aU),.str n],.bool true] else .tup [.agg [.bool false,.sl .own 1 [],.sl .own 1 [],.sl .own 1 [],.str []],.bool false]):=by
  intro n hn cF cC
  rw [e] at hn
  simp only [bR.mk.injEq,true_and] at hn
  clear cf cc
  generalize dF (gU iK s)=F at *
  clear e
  subst hn
  cases r with
  |nil=>
   simp only [List.getElem?_nil] at cF cC⊢
   by_cases hF:F=s
   ·rw [if_pos hF]
    refine aGt Tryz.mix Tryz.func123 Tryz.ntmps123 ?_
    have W:=And.intro h0 tk
    have V:=And.intro h0 tk
    repeat' first|refine st ?_|(refine nx ?_;first|refine se ?_|refine so ?_)|(refine cx ?_;refine sc (fun hc=>?_) (fun hc=>?_)<;>try exact hc.elim)|(refine lx ?_;refine sp (fun hc=>?_) (fun hc=>?_)<;>try exact hc.elim)|refine sx ?_ ?_|refine sy ?_ ?_|fail
    all_goals first|exact absurd (by assumption) h0|(exfalso;omega)|skip
    refine aJ (ι:={k:Nat // k≤3}) (fun t o i=>⟨aS t [(18,.int .i64 i.1)],o.take 2++[⟨true,true,3,0,[dM i.1]⟩]++(fI (t0.map aU) (t1.map aU) (t2.map aU)).take i.1⟩)
     (fun i=>3 - i.1) ⟨0,by omega⟩ (aD (by simp [dM]) (by simp)) ?_
    rintro ⟨k,hk⟩ K1 hK1
    have hk4:k=0∨k=1∨k=2∨k=3:=by omega
    rcases hk4 with rfl|rfl|rfl|rfl
    ·simp only [aS,List.set_cons_succ,List.set_cons_zero,List.take_succ_cons,List.take_zero,List.cons_append,List.nil_append,dM,fI,List.append_nil,Nat.lt_irrefl,if_false,if_true,Nat.reduceLT] at hK1⊢
     have W:=And.intro h0 tk
     have V:=And.intro h0 tk
     repeat' first|refine st ?_|(refine nx ?_;first|refine se ?_|refine so ?_)|(refine cx ?_;refine sc (fun hc=>?_) (fun hc=>?_)<;>try exact hc.elim)|(refine lx ?_;refine sp (fun hc=>?_) (fun hc=>?_)<;>try exact hc.elim)|refine sx ?_ ?_|refine sy ?_ ?_|fail
     exact hK1 _ ⟨1,by omega⟩ (aD (by simp [dM,fI]) (by simp)) (by simp only;omega)
    ·simp only [aS,List.set_cons_succ,List.set_cons_zero,List.take_succ_cons,List.take_zero,List.cons_append,List.nil_append,dM,fI,List.append_nil,Nat.lt_irrefl,if_false,if_true,Nat.reduceLT] at hK1⊢
     have W:=And.intro h0 tk
     have V:=And.intro h0 tk
     repeat' first|refine st ?_|(refine nx ?_;first|refine se ?_|refine so ?_)|(refine cx ?_;refine sc (fun hc=>?_) (fun hc=>?_)<;>try exact hc.elim)|(refine lx ?_;refine sp (fun hc=>?_) (fun hc=>?_)<;>try exact hc.elim)|refine sx ?_ ?_|refine sy ?_ ?_|fail
     exact hK1 _ ⟨2,by omega⟩ (aD (by simp [dM,fI]) (by simp)) (by simp only;omega)
    ·simp only [aS,List.set_cons_succ,List.set_cons_zero,List.take_succ_cons,List.take_zero,List.cons_append,List.nil_append,dM,fI,List.append_nil,Nat.lt_irrefl,if_false,if_true,Nat.reduceLT] at hK1⊢
     have W:=And.intro h0 tk
     have V:=And.intro h0 tk
     repeat' first|refine st ?_|(refine nx ?_;first|refine se ?_|refine so ?_)|(refine cx ?_;refine sc (fun hc=>?_) (fun hc=>?_)<;>try exact hc.elim)|(refine lx ?_;refine sp (fun hc=>?_) (fun hc=>?_)<;>try exact hc.elim)|refine sx ?_ ?_|refine sy ?_ ?_|fail
     exact hK1 _ ⟨3,by omega⟩ (aD (by simp [dM,fI]) (by simp)) (by simp only;omega)
    ·simp only [aS,List.set_cons_succ,List.set_cons_zero,List.take_succ_cons,List.take_zero,List.cons_append,List.nil_append,dM,fI,List.append_nil,Nat.lt_irrefl,if_false,if_true,Nat.reduceLT] at hK1⊢
     have W:=And.intro h0 (And.intro tk hF)
     have V:=And.intro h0 tk
     repeat' first|refine st ?_|(refine nx ?_;first|refine se ?_|refine so ?_)|(refine cx ?_;refine sc (fun hc=>?_) (fun hc=>?_)<;>try exact hc.elim)|(refine lx ?_;refine sp (fun hc=>?_) (fun hc=>?_)<;>try exact hc.elim)|refine sx ?_ ?_|refine sy ?_ ?_|fail
     all_goals (try (first|(refine ⟨.inr rfl,.inl ?_⟩;simp [Hands,Tryz.results123,hF];done)|(refine ⟨.inr rfl,.inr (qW ?_)⟩;simp [AS.rvB,AS.rvs,AS.rv,Tryz.results123,hF];done)|(refine ⟨.inr rfl,.inl ?_⟩;simp [Hands,Tryz.results123,hF])))
     all_goals first|exact absurd (by assumption) h0|(exfalso;omega)|simp_all
   ·rw [if_neg hF]
    refine aGt Tryz.mix Tryz.func123 Tryz.ntmps123 ?_
    have W:=And.intro h0 tk
    have V:=And.intro h0 tk
    repeat' first|refine st ?_|(refine nx ?_;first|refine se ?_|refine so ?_)|(refine cx ?_;refine sc (fun hc=>?_) (fun hc=>?_)<;>try exact hc.elim)|(refine lx ?_;refine sp (fun hc=>?_) (fun hc=>?_)<;>try exact hc.elim)|refine sx ?_ ?_|refine sy ?_ ?_|fail
    all_goals first|exact absurd (by assumption) h0|(exfalso;omega)|skip
    refine aJ (ι:={k:Nat // k≤3}) (fun t o i=>⟨aS t [(18,.int .i64 i.1)],o.take 2++[⟨true,true,3,0,[dM i.1]⟩]++(fI (t0.map aU) (t1.map aU) (t2.map aU)).take i.1⟩)
     (fun i=>3 - i.1) ⟨0,by omega⟩ (aD (by simp [dM]) (by simp)) ?_
    rintro ⟨k,hk⟩ K1 hK1
    have hk4:k=0∨k=1∨k=2∨k=3:=by omega
    rcases hk4 with rfl|rfl|rfl|rfl
    ·simp only [aS,List.set_cons_succ,List.set_cons_zero,List.take_succ_cons,List.take_zero,List.cons_append,List.nil_append,dM,fI,List.append_nil,Nat.lt_irrefl,if_false,if_true,Nat.reduceLT] at hK1⊢
     have W:=And.intro h0 tk
     have V:=And.intro h0 tk
     repeat' first|refine st ?_|(refine nx ?_;first|refine se ?_|refine so ?_)|(refine cx ?_;refine sc (fun hc=>?_) (fun hc=>?_)<;>try exact hc.elim)|(refine lx ?_;refine sp (fun hc=>?_) (fun hc=>?_)<;>try exact hc.elim)|refine sx ?_ ?_|refine sy ?_ ?_|fail
     exact hK1 _ ⟨1,by omega⟩ (aD (by simp [dM,fI]) (by simp)) (by simp only;omega)
    ·simp only [aS,List.set_cons_succ,List.set_cons_zero,List.take_succ_cons,List.take_zero,List.cons_append,List.nil_append,dM,fI,List.append_nil,Nat.lt_irrefl,if_false,if_true,Nat.reduceLT] at hK1⊢
     have W:=And.intro h0 tk
     have V:=And.intro h0 tk
     repeat' first|refine st ?_|(refine nx ?_;first|refine se ?_|refine so ?_)|(refine cx ?_;refine sc (fun hc=>?_) (fun hc=>?_)<;>try exact hc.elim)|(refine lx ?_;refine sp (fun hc=>?_) (fun hc=>?_)<;>try exact hc.elim)|refine sx ?_ ?_|refine sy ?_ ?_|fail
     exact hK1 _ ⟨2,by omega⟩ (aD (by simp [dM,fI]) (by simp)) (by simp only;omega)
    ·simp only [aS,List.set_cons_succ,List.set_cons_zero,List.take_succ_cons,List.take_zero,List.cons_append,List.nil_append,dM,fI,List.append_nil,Nat.lt_irrefl,if_false,if_true,Nat.reduceLT] at hK1⊢
     have W:=And.intro h0 tk
     have V:=And.intro h0 tk
     repeat' first|refine st ?_|(refine nx ?_;first|refine se ?_|refine so ?_)|(refine cx ?_;refine sc (fun hc=>?_) (fun hc=>?_)<;>try exact hc.elim)|(refine lx ?_;refine sp (fun hc=>?_) (fun hc=>?_)<;>try exact hc.elim)|refine sx ?_ ?_|refine sy ?_ ?_|fail
     exact hK1 _ ⟨3,by omega⟩ (aD (by simp [dM,fI]) (by simp)) (by simp only;omega)
    ·simp only [aS,List.set_cons_succ,List.set_cons_zero,List.take_succ_cons,List.take_zero,List.cons_append,List.nil_append,dM,fI,List.append_nil,Nat.lt_irrefl,if_false,if_true,Nat.reduceLT] at hK1⊢
     have W:=And.intro h0 (And.intro tk hF)
     have V:=And.intro h0 tk
     repeat' first|refine st ?_|(refine nx ?_;first|refine se ?_|refine so ?_)|(refine cx ?_;refine sc (fun hc=>?_) (fun hc=>?_)<;>try exact hc.elim)|(refine lx ?_;refine sp (fun hc=>?_) (fun hc=>?_)<;>try exact hc.elim)|refine sx ?_ ?_|refine sy ?_ ?_|fail
     all_goals (try (first|(refine ⟨.inr rfl,.inl ?_⟩;simp [Hands,Tryz.results123,hF];done)|(refine ⟨.inr rfl,.inr (qW ?_)⟩;simp [AS.rvB,AS.rvs,AS.rv,Tryz.results123,hF];done)|(refine ⟨.inr rfl,.inl ?_⟩;simp [Hands,Tryz.results123,hF])))
     all_goals first|exact absurd (by assumption) h0|(exfalso;omega)|simp_all
  |cons x r=>
   simp only [List.getElem?_cons_zero] at cF cC⊢
   have c4:=aJ5 x (by have:=m3 x (by simp);omega)
   by_cases hF:F=s
   ·rw [if_pos hF]
    refine aGt Tryz.mix Tryz.func123 Tryz.ntmps123 ?_
    have W:=And.intro h0 tk
    have V:=And.intro h0 tk
    repeat' first|refine st ?_|(refine nx ?_;first|refine se ?_|refine so ?_)|(refine cx ?_;refine sc (fun hc=>?_) (fun hc=>?_)<;>try exact hc.elim)|(refine lx ?_;refine sp (fun hc=>?_) (fun hc=>?_)<;>try exact hc.elim)|refine sx ?_ ?_|refine sy ?_ ?_|fail
    all_goals first|exact absurd (by assumption) h0|(exfalso;omega)|skip
    refine aJ (ι:={k:Nat // k≤3}) (fun t o i=>⟨aS t [(18,.int .i64 i.1)],o.take 2++[⟨true,true,3,0,[dM i.1]⟩]++(fI (t0.map aU) (t1.map aU) (t2.map aU)).take i.1⟩)
     (fun i=>3 - i.1) ⟨0,by omega⟩ (aD (by simp [dM]) (by simp)) ?_
    rintro ⟨k,hk⟩ K1 hK1
    have hk4:k=0∨k=1∨k=2∨k=3:=by omega
    rcases hk4 with rfl|rfl|rfl|rfl
    ·simp only [aS,List.set_cons_succ,List.set_cons_zero,List.take_succ_cons,List.take_zero,List.cons_append,List.nil_append,dM,fI,List.append_nil,Nat.lt_irrefl,if_false,if_true,Nat.reduceLT] at hK1⊢
     have W:=And.intro h0 tk
     have V:=And.intro h0 tk
     repeat' first|refine st ?_|(refine nx ?_;first|refine se ?_|refine so ?_)|(refine cx ?_;refine sc (fun hc=>?_) (fun hc=>?_)<;>try exact hc.elim)|(refine lx ?_;refine sp (fun hc=>?_) (fun hc=>?_)<;>try exact hc.elim)|refine sx ?_ ?_|refine sy ?_ ?_|fail
     exact hK1 _ ⟨1,by omega⟩ (aD (by simp [dM,fI]) (by simp)) (by simp only;omega)
    ·simp only [aS,List.set_cons_succ,List.set_cons_zero,List.take_succ_cons,List.take_zero,List.cons_append,List.nil_append,dM,fI,List.append_nil,Nat.lt_irrefl,if_false,if_true,Nat.reduceLT] at hK1⊢
     have W:=And.intro h0 tk
     have V:=And.intro h0 tk
     repeat' first|refine st ?_|(refine nx ?_;first|refine se ?_|refine so ?_)|(refine cx ?_;refine sc (fun hc=>?_) (fun hc=>?_)<;>try exact hc.elim)|(refine lx ?_;refine sp (fun hc=>?_) (fun hc=>?_)<;>try exact hc.elim)|refine sx ?_ ?_|refine sy ?_ ?_|fail
     exact hK1 _ ⟨2,by omega⟩ (aD (by simp [dM,fI]) (by simp)) (by simp only;omega)
    ·simp only [aS,List.set_cons_succ,List.set_cons_zero,List.take_succ_cons,List.take_zero,List.cons_append,List.nil_append,dM,fI,List.append_nil,Nat.lt_irrefl,if_false,if_true,Nat.reduceLT] at hK1⊢
     have W:=And.intro h0 tk
     have V:=And.intro h0 tk
     repeat' first|refine st ?_|(refine nx ?_;first|refine se ?_|refine so ?_)|(refine cx ?_;refine sc (fun hc=>?_) (fun hc=>?_)<;>try exact hc.elim)|(refine lx ?_;refine sp (fun hc=>?_) (fun hc=>?_)<;>try exact hc.elim)|refine sx ?_ ?_|refine sy ?_ ?_|fail
     exact hK1 _ ⟨3,by omega⟩ (aD (by simp [dM,fI]) (by simp)) (by simp only;omega)
    ·simp only [aS,List.set_cons_succ,List.set_cons_zero,List.take_succ_cons,List.take_zero,List.cons_append,List.nil_append,dM,fI,List.append_nil,Nat.lt_irrefl,if_false,if_true,Nat.reduceLT] at hK1⊢
     have W:=And.intro h0 (And.intro tk hF)
     have V:=And.intro h0 tk
     repeat' first|refine st ?_|(refine nx ?_;first|refine se ?_|refine so ?_)|(refine cx ?_;refine sc (fun hc=>?_) (fun hc=>?_)<;>try exact hc.elim)|(refine lx ?_;refine sp (fun hc=>?_) (fun hc=>?_)<;>try exact hc.elim)|refine sx ?_ ?_|refine sy ?_ ?_|fail
     all_goals (try (first|(refine ⟨.inr rfl,.inl ?_⟩;simp [Hands,Tryz.results123,hF];done)|(refine ⟨.inr rfl,.inr (qW ?_)⟩;simp [AS.rvB,AS.rvs,AS.rv,Tryz.results123,hF];done)|(refine ⟨.inr rfl,.inl ?_⟩;simp [Hands,Tryz.results123,hF])))
     all_goals first|exact absurd (by assumption) h0|(exfalso;omega)|simp_all
   ·rw [if_neg hF]
    refine aGt Tryz.mix Tryz.func123 Tryz.ntmps123 ?_
    have W:=And.intro h0 tk
    have V:=And.intro h0 tk
    repeat' first|refine st ?_|(refine nx ?_;first|refine se ?_|refine so ?_)|(refine cx ?_;refine sc (fun hc=>?_) (fun hc=>?_)<;>try exact hc.elim)|(refine lx ?_;refine sp (fun hc=>?_) (fun hc=>?_)<;>try exact hc.elim)|refine sx ?_ ?_|refine sy ?_ ?_|fail
    all_goals first|exact absurd (by assumption) h0|(exfalso;omega)|skip
    refine aJ (ι:={k:Nat // k≤3}) (fun t o i=>⟨aS t [(18,.int .i64 i.1)],o.take 2++[⟨true,true,3,0,[dM i.1]⟩]++(fI (t0.map aU) (t1.map aU) (t2.map aU)).take i.1⟩)
     (fun i=>3 - i.1) ⟨0,by omega⟩ (aD (by simp [dM]) (by simp)) ?_
    rintro ⟨k,hk⟩ K1 hK1
    have hk4:k=0∨k=1∨k=2∨k=3:=by omega
    rcases hk4 with rfl|rfl|rfl|rfl
    ·simp only [aS,List.set_cons_succ,List.set_cons_zero,List.take_succ_cons,List.take_zero,List.cons_append,List.nil_append,dM,fI,List.append_nil,Nat.lt_irrefl,if_false,if_true,Nat.reduceLT] at hK1⊢
     have W:=And.intro h0 tk
     have V:=And.intro h0 tk
     repeat' first|refine st ?_|(refine nx ?_;first|refine se ?_|refine so ?_)|(refine cx ?_;refine sc (fun hc=>?_) (fun hc=>?_)<;>try exact hc.elim)|(refine lx ?_;refine sp (fun hc=>?_) (fun hc=>?_)<;>try exact hc.elim)|refine sx ?_ ?_|refine sy ?_ ?_|fail
     exact hK1 _ ⟨1,by omega⟩ (aD (by simp [dM,fI]) (by simp)) (by simp only;omega)
    ·simp only [aS,List.set_cons_succ,List.set_cons_zero,List.take_succ_cons,List.take_zero,List.cons_append,List.nil_append,dM,fI,List.append_nil,Nat.lt_irrefl,if_false,if_true,Nat.reduceLT] at hK1⊢
     have W:=And.intro h0 tk
     have V:=And.intro h0 tk
     repeat' first|refine st ?_|(refine nx ?_;first|refine se ?_|refine so ?_)|(refine cx ?_;refine sc (fun hc=>?_) (fun hc=>?_)<;>try exact hc.elim)|(refine lx ?_;refine sp (fun hc=>?_) (fun hc=>?_)<;>try exact hc.elim)|refine sx ?_ ?_|refine sy ?_ ?_|fail
     exact hK1 _ ⟨2,by omega⟩ (aD (by simp [dM,fI]) (by simp)) (by simp only;omega)
    ·simp only [aS,List.set_cons_succ,List.set_cons_zero,List.take_succ_cons,List.take_zero,List.cons_append,List.nil_append,dM,fI,List.append_nil,Nat.lt_irrefl,if_false,if_true,Nat.reduceLT] at hK1⊢
     have W:=And.intro h0 tk
     have V:=And.intro h0 tk
     repeat' first|refine st ?_|(refine nx ?_;first|refine se ?_|refine so ?_)|(refine cx ?_;refine sc (fun hc=>?_) (fun hc=>?_)<;>try exact hc.elim)|(refine lx ?_;refine sp (fun hc=>?_) (fun hc=>?_)<;>try exact hc.elim)|refine sx ?_ ?_|refine sy ?_ ?_|fail
     exact hK1 _ ⟨3,by omega⟩ (aD (by simp [dM,fI]) (by simp)) (by simp only;omega)
    ·simp only [aS,List.set_cons_succ,List.set_cons_zero,List.take_succ_cons,List.take_zero,List.cons_append,List.nil_append,dM,fI,List.append_nil,Nat.lt_irrefl,if_false,if_true,Nat.reduceLT] at hK1⊢
     have W:=And.intro h0 (And.intro tk hF)
     have V:=And.intro h0 tk
     repeat' first|refine st ?_|(refine nx ?_;first|refine se ?_|refine so ?_)|(refine cx ?_;refine sc (fun hc=>?_) (fun hc=>?_)<;>try exact hc.elim)|(refine lx ?_;refine sp (fun hc=>?_) (fun hc=>?_)<;>try exact hc.elim)|refine sx ?_ ?_|refine sy ?_ ?_|fail
     all_goals (try (first|(refine ⟨.inr rfl,.inl ?_⟩;simp [Hands,Tryz.results123,hF];done)|(refine ⟨.inr rfl,.inr (qW ?_)⟩;simp [AS.rvB,AS.rvs,AS.rv,Tryz.results123,hF];done)|(refine ⟨.inr rfl,.inl ?_⟩;simp [Hands,Tryz.results123,hF])))
     all_goals first|exact absurd (by assumption) h0|(exfalso;omega)|simp_all
 have hcp:=hres _ e (by rw [e] at cf⊢;simpa only [bD] using cf) (by rw [e] at cc;simpa only [bD] using cc)
 by_cases hF:dF (gU iK s)=s
 ·rw [if_pos hF] at hcp⊢
  rw [e]
  simpa only [bD] using hcp
 ·rw [if_neg hF] at hcp⊢
  simpa only [bD,jG,List.map_nil] using hcp
end Go.Proofs.YtajppdidkjbmkaaGreatDoor
