/-
  Proved here: steps towards the statement of this claim, text J5.
  No condition beyond what each statement spells out.
-/
import Derived.Test.YtkidoegojckmiaaGreatDoorAJ3
import Derived.Test.YtkidoegojckmiaaGreatDoorAJ4
import Derived.Test.YtkidoegojckmiaaGreatDoorAQP5
set_option linter.all false
set_option maxRecDepth 4000
set_option maxHeartbeats 4000000
namespace Go.Proofs.YtkidoegojckmiaaGreatDoor
open Go.Aw
theorem vN [aB Tryz.prog] [bV Tryz.prog] (s:Str) (c:UInt8) (hs:s.length < 4294967281):Ok Tryz.prog 81 [.str s,.str [c]] (.sl .own 1 ((aT c s).map aK)):=aJy Tryz.laysM146 (by kernel_rfl) s c hs
theorem aFl [aB Tryz.prog] [bV Tryz.prog] (s p:Str) (hl:s.length≤1099511627776) (hp:p.length≤1099511627776):Ok Tryz.prog 130 [.str s,.str p] (.str (if pfx p s=true then s.drop p.length else s)):=by
 have c1:=aJ4 s p hl hp
 have h1:= @aQq p s
 generalize pfx p s=b at *
 cases b
 ·refine ent Tryz.mix Tryz.func130 Tryz.ntmps130 ?_
  have W:=trivial
  repeat' first|refine st ?_|(refine nx ?_;first|refine se ?_|refine so ?_)|(refine cx ?_;refine sc (fun hc=>?_) (fun hc=>?_)<;>try exact hc.elim)|(refine lx ?_;refine sp (fun hc=>?_) (fun hc=>?_)<;>try exact hc.elim)|refine sx ?_ ?_|refine sy ?_ ?_|fail
  all_goals (try (refine ⟨.inr rfl,?_⟩;simp [Hands,Tryz.results130]))
 ·have h2:=h1 rfl
  refine ent Tryz.mix Tryz.func130 Tryz.ntmps130 ?_
  have W:=h2
  repeat' first|refine st ?_|(refine nx ?_;first|refine se ?_|refine so ?_)|(refine cx ?_;refine sc (fun hc=>?_) (fun hc=>?_)<;>try exact hc.elim)|(refine lx ?_;refine sp (fun hc=>?_) (fun hc=>?_)<;>try exact hc.elim)|refine sx ?_ ?_|refine sy ?_ ?_|fail
  all_goals (try (refine ⟨.inr rfl,?_⟩;simp [Hands,Tryz.results130]))
theorem aOb (x:Str):gP x=if pfx eY x=true then x.drop eY.length else x:=by
 unfold gP
 have e:eY.isPrefixOf x=pfx eY x:=by
  have h1:eY.isPrefixOf x=true↔pfx eY x=true:=by
   rw [List.isPrefixOf_iff_prefix,List.prefix_iff_eq_take]
   simp only [pfx,Bool.and_eq_true,decide_eq_true_eq,beq_iff_eq]
   constructor
   ·intro h
    refine ⟨?_,h.symm⟩
    have:=congrArg List.length h
    rw [List.length_take] at this;omega
   ·intro h;exact h.2.symm
  cases h2:pfx eY x<;>cases h3:eY.isPrefixOf x<;>simp_all
 rw [e];rfl
theorem aQb (x:Str):(gP x).length≤x.length:=by unfold gP;split<;>simp
theorem aJl [aB Tryz.prog] [bV Tryz.prog] (x:Str) (hl:x.length≤1099511627776):Ok Tryz.prog 108 [.str x,.str [110,111,110,99,101,32]] (.str (gP x)):=by
 have c1:Ok Tryz.prog 130 [.str x,.str [110,111,110,99,101,32]] (.str (if pfx eY x=true then x.drop eY.length else x)):=aFl x eY hl (by decide)
 rw [←aOb] at c1
 generalize gP x=n at *
 refine ent Tryz.mix Tryz.func108 Tryz.ntmps108 ?_
 have W:=trivial
 repeat' first|refine st ?_|(refine nx ?_;first|refine se ?_|refine so ?_)|(refine cx ?_;refine sc (fun hc=>?_) (fun hc=>?_)<;>try exact hc.elim)|(refine lx ?_;refine sp (fun hc=>?_) (fun hc=>?_)<;>try exact hc.elim)|refine sx ?_ ?_|refine sy ?_ ?_|fail
 all_goals (try (refine ⟨.inr rfl,?_⟩;simp [Hands,Tryz.results108]))
def cZ (k:Nat):List AV:=[if 0 < k then .obj 3 2 else .sl .own 1 [],if 1 < k then .obj 4 2 else .sl .own 1 [],if 2 < k then .obj 5 2 else .sl .own 1 []]
def eP (a b c:List (List AV)):List aA:=[⟨true,false,1,2,a⟩,⟨true,false,1,2,b⟩,⟨true,false,1,2,c⟩]
theorem zJ [aB Tryz.prog] [bV Tryz.prog] (s:Str) (hl:s.length≤1073741824):Ok Tryz.prog 74 [.str s] (.tup [.agg (aS .own (jW gP s).1),.bool (jW gP s).2]):=by
 have c0:Ok Tryz.prog 81 [.str s,.str [59]] (.sl .own 1 ((aT 59 s).map aK)):=vN s 59 (by omega)
 unfold jW
 by_cases h0:s=[]
 ·rw [if_pos h0]
  subst h0
  refine uJ Tryz.mix Tryz.func74 Tryz.ntmps74 ?_
  have W:=trivial
  repeat' first|refine st ?_|(refine nx ?_;first|refine se ?_|refine so ?_)|(refine cx ?_;refine sc (fun hc=>?_) (fun hc=>?_)<;>try exact hc.elim)|(refine lx ?_;refine sp (fun hc=>?_) (fun hc=>?_)<;>try exact hc.elim)|refine sx ?_ ?_|refine sy ?_ ?_|fail
  all_goals (try (first|(refine ⟨.inr rfl,.inl ?_⟩;simp [Hands,Tryz.results74,iK];done)|(refine ⟨.inr rfl,.inr (dD ?_)⟩;simp [AS.rvB,AS.rvs,AS.rv,Tryz.results74,iK];done)|(refine ⟨.inr rfl,.inl ?_⟩;simp [Hands,Tryz.results74,iK])))
 rw [if_neg h0]
 by_cases h3:(aT 59 s).length < 3
 ·rw [if_pos h3]
  have h3':((aT 59 s).length:Int) < 3:=by omega
  generalize aT 59 s=L at *
  refine uJ Tryz.mix Tryz.func74 Tryz.ntmps74 ?_
  have W:=And.intro h0 (And.intro h3' h3)
  have V:=h0
  repeat' first|refine st ?_|(refine nx ?_;first|refine se ?_|refine so ?_)|(refine cx ?_;refine sc (fun hc=>?_) (fun hc=>?_)<;>try exact hc.elim)|(refine lx ?_;refine sp (fun hc=>?_) (fun hc=>?_)<;>try exact hc.elim)|refine sx ?_ ?_|refine sy ?_ ?_|fail
  all_goals (try (first|(refine ⟨.inr rfl,.inl ?_⟩;simp [Hands,Tryz.results74,iK];done)|(refine ⟨.inr rfl,.inr (dD ?_)⟩;simp [AS.rvB,AS.rvs,AS.rv,Tryz.results74,iK];done)|(refine ⟨.inr rfl,.inl ?_⟩;simp [Hands,Tryz.results74,iK])))
  all_goals first|exact absurd (by assumption) h0|omega
 rw [if_neg h3]
 have hz:=yN gP aQb h3
 have cf:=zK (fO gP s) (by omega)
 have cc:=yX (fO gP s) (by omega)
 obtain ⟨x0,x1,x2,r,hs⟩:∃x0 x1 x2 r,aT 59 s=x0::x1::x2::r:=by
  match hs:aT 59 s with
  |[]=>rw [hs] at h3;simp at h3
  |[_]=>rw [hs] at h3;simp at h3
  |[_,_]=>rw [hs] at h3;simp at h3
  |x0::x1::x2::r=>exact ⟨x0,x1,x2,r,rfl⟩
 have m0:=iZ (c:=59) (s:=s) (x:=x0) (by rw [hs];simp)
 have m1:=iZ (c:=59) (s:=s) (x:=x1) (by rw [hs];simp)
 have m2:=iZ (c:=59) (s:=s) (x:=x2) (by rw [hs];simp)
 have m3:∀x∈r,x.length≤s.length:=fun x hx=>iZ (c:=59) (s:=s) (x:=x) (by rw [hs];simp [hx])
 have hrl:r.length≤s.length:=by
  have:=fV 59 s
  have h3:=List.count_le_length (a:=(59:UInt8)) (l:=s)
  rw [hs] at this;simp at this;omega
 rw [hs] at c0
 have e:=wL gP hs
 have c1:Ok Tryz.prog 81 [.str x0,.str [32]] (.sl .own 1 ((aT 32 x0).map aK)):=vN x0 32 (by omega)
 have c2:Ok Tryz.prog 81 [.str x1,.str [32]] (.sl .own 1 ((aT 32 x1).map aK)):=vN x1 32 (by omega)
 have c3:Ok Tryz.prog 81 [.str x2,.str [32]] (.sl .own 1 ((aT 32 x2).map aK)):=vN x2 32 (by omega)
 obtain ⟨y0,t0,e0⟩:=List.exists_cons_of_ne_nil (lV 32 x0)
 obtain ⟨y1,t1,e1⟩:=List.exists_cons_of_ne_nil (lV 32 x1)
 obtain ⟨y2,t2,e2⟩:=List.exists_cons_of_ne_nil (lV 32 x2)
 rw [e0] at c1;rw [e1] at c2;rw [e2] at c3
 rw [e0,e1,e2] at e
 simp only [List.tail_cons] at e
 clear hs m0 m1 m2 e0 e1 e2 h3 hz
 have tk:∀(t:List Str),(t.map aK).take t.length=t.map aK:=fun t=>List.take_of_length_le (by simp)
 have hres:∀n,fO gP s=⟨true,t0,t1,t2,n⟩→Ok Tryz.prog 109 [.agg [.bool true,.sl .view 1 (t0.map aK),.sl .view 1 (t1.map aK),.sl .view 1 (t2.map aK),.str n]] (.str (cB (fO gP s)))→
   Ok Tryz.prog 58 [.agg [.bool true,.sl .view 1 (t0.map aK),.sl .view 1 (t1.map aK),.sl .view 1 (t2.map aK),.str n]] (.agg [.bool true,.sl .own 1 (t0.map aK),.sl .own 1 (t1.map aK),.sl .own 1 (t2.map aK),.str n])→
   Ok Tryz.prog 74 [.str s] (if cB (fO gP s)=s then .tup [.agg [.bool true,.sl .own 1 (t0.map aK),.sl .own 1 (t1.map aK),.sl .own 1 (t2.map aK),.str n],.bool true] else .tup [.agg [.bool false,.sl .own 1 [],.sl .own 1 [],.sl .own 1 [],.str []],.bool false]):=by
  intro n hn cF cC
  rw [e] at hn
  simp only [bH.mk.injEq,true_and] at hn
  clear cf cc
  generalize cB (fO gP s)=F at *
  clear e
  subst hn
  cases r with
  |nil=>
   simp only [List.getElem?_nil] at cF cC⊢
   by_cases hF:F=s
   ·rw [if_pos hF]
    refine uJ Tryz.mix Tryz.func74 Tryz.ntmps74 ?_
    have W:=And.intro h0 tk
    have V:=And.intro h0 tk
    repeat' first|refine st ?_|(refine nx ?_;first|refine se ?_|refine so ?_)|(refine cx ?_;refine sc (fun hc=>?_) (fun hc=>?_)<;>try exact hc.elim)|(refine lx ?_;refine sp (fun hc=>?_) (fun hc=>?_)<;>try exact hc.elim)|refine sx ?_ ?_|refine sy ?_ ?_|fail
    all_goals first|exact absurd (by assumption) h0|(exfalso;omega)|skip
    refine aJ (ι:={k:Nat // k≤3}) (fun t o i=>⟨aL t [(18,.int .i64 i.1)],o.take 2++[⟨true,true,3,0,[cZ i.1]⟩]++(eP (t0.map aK) (t1.map aK) (t2.map aK)).take i.1⟩)
     (fun i=>3 - i.1) ⟨0,by omega⟩ (aH (by simp [cZ]) (by simp)) ?_
    rintro ⟨k,hk⟩ K1 hK1
    have hk4:k=0∨k=1∨k=2∨k=3:=by omega
    rcases hk4 with rfl|rfl|rfl|rfl
    ·simp only [aL,List.set_cons_succ,List.set_cons_zero,List.take_succ_cons,List.take_zero,List.cons_append,List.nil_append,cZ,eP,List.append_nil,Nat.lt_irrefl,if_false,if_true,Nat.reduceLT] at hK1⊢
     have W:=And.intro h0 tk
     have V:=And.intro h0 tk
     repeat' first|refine st ?_|(refine nx ?_;first|refine se ?_|refine so ?_)|(refine cx ?_;refine sc (fun hc=>?_) (fun hc=>?_)<;>try exact hc.elim)|(refine lx ?_;refine sp (fun hc=>?_) (fun hc=>?_)<;>try exact hc.elim)|refine sx ?_ ?_|refine sy ?_ ?_|fail
     exact hK1 _ ⟨1,by omega⟩ (aH (by simp [cZ,eP]) (by simp)) (by simp only;omega)
    ·simp only [aL,List.set_cons_succ,List.set_cons_zero,List.take_succ_cons,List.take_zero,List.cons_append,List.nil_append,cZ,eP,List.append_nil,Nat.lt_irrefl,if_false,if_true,Nat.reduceLT] at hK1⊢
     have W:=And.intro h0 tk
     have V:=And.intro h0 tk
     repeat' first|refine st ?_|(refine nx ?_;first|refine se ?_|refine so ?_)|(refine cx ?_;refine sc (fun hc=>?_) (fun hc=>?_)<;>try exact hc.elim)|(refine lx ?_;refine sp (fun hc=>?_) (fun hc=>?_)<;>try exact hc.elim)|refine sx ?_ ?_|refine sy ?_ ?_|fail
     exact hK1 _ ⟨2,by omega⟩ (aH (by simp [cZ,eP]) (by simp)) (by simp only;omega)
    ·simp only [aL,List.set_cons_succ,List.set_cons_zero,List.take_succ_cons,List.take_zero,List.cons_append,List.nil_append,cZ,eP,List.append_nil,Nat.lt_irrefl,if_false,if_true,Nat.reduceLT] at hK1⊢
     have W:=And.intro h0 tk
     have V:=And.intro h0 tk
     repeat' first|refine st ?_|(refine nx ?_;first|refine se ?_|refine so ?_)|(refine cx ?_;refine sc (fun hc=>?_) (fun hc=>?_)<;>try exact hc.elim)|(refine lx ?_;refine sp (fun hc=>?_) (fun hc=>?_)<;>try exact hc.elim)|refine sx ?_ ?_|refine sy ?_ ?_|fail
     exact hK1 _ ⟨3,by omega⟩ (aH (by simp [cZ,eP]) (by simp)) (by simp only;omega)
    ·simp only [aL,List.set_cons_succ,List.set_cons_zero,List.take_succ_cons,List.take_zero,List.cons_append,List.nil_append,cZ,eP,List.append_nil,Nat.lt_irrefl,if_false,if_true,Nat.reduceLT] at hK1⊢
     have W:=And.intro h0 (And.intro tk hF)
     have V:=And.intro h0 tk
     repeat' first|refine st ?_|(refine nx ?_;first|refine se ?_|refine so ?_)|(refine cx ?_;refine sc (fun hc=>?_) (fun hc=>?_)<;>try exact hc.elim)|(refine lx ?_;refine sp (fun hc=>?_) (fun hc=>?_)<;>try exact hc.elim)|refine sx ?_ ?_|refine sy ?_ ?_|fail
     all_goals (try (first|(refine ⟨.inr rfl,.inl ?_⟩;simp [Hands,Tryz.results74,hF];done)|(refine ⟨.inr rfl,.inr (dD ?_)⟩;simp [AS.rvB,AS.rvs,AS.rv,Tryz.results74,hF];done)|(refine ⟨.inr rfl,.inl ?_⟩;simp [Hands,Tryz.results74,hF])))
     all_goals first|exact absurd (by assumption) h0|(exfalso;omega)|simp_all
   ·rw [if_neg hF]
    refine uJ Tryz.mix Tryz.func74 Tryz.ntmps74 ?_
    have W:=And.intro h0 tk
    have V:=And.intro h0 tk
    repeat' first|refine st ?_|(refine nx ?_;first|refine se ?_|refine so ?_)|(refine cx ?_;refine sc (fun hc=>?_) (fun hc=>?_)<;>try exact hc.elim)|(refine lx ?_;refine sp (fun hc=>?_) (fun hc=>?_)<;>try exact hc.elim)|refine sx ?_ ?_|refine sy ?_ ?_|fail
    all_goals first|exact absurd (by assumption) h0|(exfalso;omega)|skip
    refine aJ (ι:={k:Nat // k≤3}) (fun t o i=>⟨aL t [(18,.int .i64 i.1)],o.take 2++[⟨true,true,3,0,[cZ i.1]⟩]++(eP (t0.map aK) (t1.map aK) (t2.map aK)).take i.1⟩)
     (fun i=>3 - i.1) ⟨0,by omega⟩ (aH (by simp [cZ]) (by simp)) ?_
    rintro ⟨k,hk⟩ K1 hK1
    have hk4:k=0∨k=1∨k=2∨k=3:=by omega
    rcases hk4 with rfl|rfl|rfl|rfl
    ·simp only [aL,List.set_cons_succ,List.set_cons_zero,List.take_succ_cons,List.take_zero,List.cons_append,List.nil_append,cZ,eP,List.append_nil,Nat.lt_irrefl,if_false,if_true,Nat.reduceLT] at hK1⊢
     have W:=And.intro h0 tk
     have V:=And.intro h0 tk
     repeat' first|refine st ?_|(refine nx ?_;first|refine se ?_|refine so ?_)|(refine cx ?_;refine sc (fun hc=>?_) (fun hc=>?_)<;>try exact hc.elim)|(refine lx ?_;refine sp (fun hc=>?_) (fun hc=>?_)<;>try exact hc.elim)|refine sx ?_ ?_|refine sy ?_ ?_|fail
     exact hK1 _ ⟨1,by omega⟩ (aH (by simp [cZ,eP]) (by simp)) (by simp only;omega)
    ·simp only [aL,List.set_cons_succ,List.set_cons_zero,List.take_succ_cons,List.take_zero,List.cons_append,List.nil_append,cZ,eP,List.append_nil,Nat.lt_irrefl,if_false,if_true,Nat.reduceLT] at hK1⊢
     have W:=And.intro h0 tk
     have V:=And.intro h0 tk
     repeat' first|refine st ?_|(refine nx ?_;first|refine se ?_|refine so ?_)|(refine cx ?_;refine sc (fun hc=>?_) (fun hc=>?_)<;>try exact hc.elim)|(refine lx ?_;refine sp (fun hc=>?_) (fun hc=>?_)<;>try exact hc.elim)|refine sx ?_ ?_|refine sy ?_ ?_|fail
     exact hK1 _ ⟨2,by omega⟩ (aH (by simp [cZ,eP]) (by simp)) (by simp only;omega)
    ·simp only [aL,List.set_cons_succ,List.set_cons_zero,List.take_succ_cons,List.take_zero,List.cons_append,List.nil_append,cZ,eP,List.append_nil,Nat.lt_irrefl,if_false,if_true,Nat.reduceLT] at hK1⊢
     have W:=And.intro h0 tk
     have V:=And.intro h0 tk
     repeat' first|refine st ?_|(refine nx ?_;first|refine se ?_|refine so ?_)|(refine cx ?_;refine sc (fun hc=>?_) (fun hc=>?_)<;>try exact hc.elim)|(refine lx ?_;refine sp (fun hc=>?_) (fun hc=>?_)<;>try exact hc.elim)|refine sx ?_ ?_|refine sy ?_ ?_|fail
     exact hK1 _ ⟨3,by omega⟩ (aH (by simp [cZ,eP]) (by simp)) (by simp only;omega)
    ·simp only [aL,List.set_cons_succ,List.set_cons_zero,List.take_succ_cons,List.take_zero,List.cons_append,List.nil_append,cZ,eP,List.append_nil,Nat.lt_irrefl,if_false,if_true,Nat.reduceLT] at hK1⊢
     have W:=And.intro h0 (And.intro tk hF)
     have V:=And.intro h0 tk
     repeat' first|refine st ?_|(refine nx ?_;first|refine se ?_|refine so ?_)|(refine cx ?_;refine sc (fun hc=>?_) (fun hc=>?_)<;>try exact hc.elim)|(refine lx ?_;refine sp (fun hc=>?_) (fun hc=>?_)<;>try exact hc.elim)|refine sx ?_ ?_|refine sy ?_ ?_|fail
     all_goals (try (first|(refine ⟨.inr rfl,.inl ?_⟩;simp [Hands,Tryz.results74,hF];done)|(refine ⟨.inr rfl,.inr (dD ?_)⟩;simp [AS.rvB,AS.rvs,AS.rv,Tryz.results74,hF];done)|(refine ⟨.inr rfl,.inl ?_⟩;simp [Hands,Tryz.results74,hF])))
     all_goals first|exact absurd (by assumption) h0|(exfalso;omega)|simp_all
  |cons x r=>
   simp only [List.getElem?_cons_zero] at cF cC⊢
   have c4:=aJl x (by have:=m3 x (by simp);omega)
   by_cases hF:F=s
   ·rw [if_pos hF]
    refine uJ Tryz.mix Tryz.func74 Tryz.ntmps74 ?_
    have W:=And.intro h0 tk
    have V:=And.intro h0 tk
    repeat' first|refine st ?_|(refine nx ?_;first|refine se ?_|refine so ?_)|(refine cx ?_;refine sc (fun hc=>?_) (fun hc=>?_)<;>try exact hc.elim)|(refine lx ?_;refine sp (fun hc=>?_) (fun hc=>?_)<;>try exact hc.elim)|refine sx ?_ ?_|refine sy ?_ ?_|fail
    all_goals first|exact absurd (by assumption) h0|(exfalso;omega)|skip
    refine aJ (ι:={k:Nat // k≤3}) (fun t o i=>⟨aL t [(18,.int .i64 i.1)],o.take 2++[⟨true,true,3,0,[cZ i.1]⟩]++(eP (t0.map aK) (t1.map aK) (t2.map aK)).take i.1⟩)
     (fun i=>3 - i.1) ⟨0,by omega⟩ (aH (by simp [cZ]) (by simp)) ?_
    rintro ⟨k,hk⟩ K1 hK1
    have hk4:k=0∨k=1∨k=2∨k=3:=by omega
    rcases hk4 with rfl|rfl|rfl|rfl
    ·simp only [aL,List.set_cons_succ,List.set_cons_zero,List.take_succ_cons,List.take_zero,List.cons_append,List.nil_append,cZ,eP,List.append_nil,Nat.lt_irrefl,if_false,if_true,Nat.reduceLT] at hK1⊢
     have W:=And.intro h0 tk
     have V:=And.intro h0 tk
     repeat' first|refine st ?_|(refine nx ?_;first|refine se ?_|refine so ?_)|(refine cx ?_;refine sc (fun hc=>?_) (fun hc=>?_)<;>try exact hc.elim)|(refine lx ?_;refine sp (fun hc=>?_) (fun hc=>?_)<;>try exact hc.elim)|refine sx ?_ ?_|refine sy ?_ ?_|fail
     exact hK1 _ ⟨1,by omega⟩ (aH (by simp [cZ,eP]) (by simp)) (by simp only;omega)
    ·simp only [aL,List.set_cons_succ,List.set_cons_zero,List.take_succ_cons,List.take_zero,List.cons_append,List.nil_append,cZ,eP,List.append_nil,Nat.lt_irrefl,if_false,if_true,Nat.reduceLT] at hK1⊢
     have W:=And.intro h0 tk
     have V:=And.intro h0 tk
     repeat' first|refine st ?_|(refine nx ?_;first|refine se ?_|refine so ?_)|(refine cx ?_;refine sc (fun hc=>?_) (fun hc=>?_)<;>try exact hc.elim)|(refine lx ?_;refine sp (fun hc=>?_) (fun hc=>?_)<;>try exact hc.elim)|refine sx ?_ ?_|refine sy ?_ ?_|fail
     exact hK1 _ ⟨2,by omega⟩ (aH (by simp [cZ,eP]) (by simp)) (by simp only;omega)
    ·simp only [aL,List.set_cons_succ,List.set_cons_zero,List.take_succ_cons,List.take_zero,List.cons_append,List.nil_append,cZ,eP,List.append_nil,Nat.lt_irrefl,if_false,if_true,Nat.reduceLT] at hK1⊢
     have W:=And.intro h0 tk
     have V:=And.intro h0 tk
     repeat' first|refine st ?_|(refine nx ?_;first|refine se ?_|refine so ?_)|(refine cx ?_;refine sc (fun hc=>?_) (fun hc=>?_)<;>try exact hc.elim)|(refine lx ?_;refine sp (fun hc=>?_) (fun hc=>?_)<;>try exact hc.elim)|refine sx ?_ ?_|refine sy ?_ ?_|fail
     exact hK1 _ ⟨3,by omega⟩ (aH (by simp [cZ,eP]) (by simp)) (by simp only;omega)
    ·simp only [aL,List.set_cons_succ,List.set_cons_zero,List.take_succ_cons,List.take_zero,List.cons_append,List.nil_append,cZ,eP,List.append_nil,Nat.lt_irrefl,if_false,if_true,Nat.reduceLT] at hK1⊢
     have W:=And.intro h0 (And.intro tk hF)
     have V:=And.intro h0 tk
     repeat' first|refine st ?_|(refine nx ?_;first|refine se ?_|refine so ?_)|(refine cx ?_;refine sc (fun hc=>?_) (fun hc=>?_)<;>try exact hc.elim)|(refine lx ?_;refine sp (fun hc=>?_) (fun hc=>?_)<;>try exact hc.elim)|refine sx ?_ ?_|refine sy ?_ ?_|fail
     all_goals (try (first|(refine ⟨.inr rfl,.inl ?_⟩;simp [Hands,Tryz.results74,hF];done)|(refine ⟨.inr rfl,.inr (dD ?_)⟩;simp [AS.rvB,AS.rvs,AS.rv,Tryz.results74,hF];done)|(refine ⟨.inr rfl,.inl ?_⟩;simp [Hands,Tryz.results74,hF])))
     all_goals first|exact absurd (by assumption) h0|(exfalso;omega)|simp_all
   ·rw [if_neg hF]
    refine uJ Tryz.mix Tryz.func74 Tryz.ntmps74 ?_
    have W:=And.intro h0 tk
    have V:=And.intro h0 tk
    repeat' first|refine st ?_|(refine nx ?_;first|refine se ?_|refine so ?_)|(refine cx ?_;refine sc (fun hc=>?_) (fun hc=>?_)<;>try exact hc.elim)|(refine lx ?_;refine sp (fun hc=>?_) (fun hc=>?_)<;>try exact hc.elim)|refine sx ?_ ?_|refine sy ?_ ?_|fail
    all_goals first|exact absurd (by assumption) h0|(exfalso;omega)|skip
    refine aJ (ι:={k:Nat // k≤3}) (fun t o i=>⟨aL t [(18,.int .i64 i.1)],o.take 2++[⟨true,true,3,0,[cZ i.1]⟩]++(eP (t0.map aK) (t1.map aK) (t2.map aK)).take i.1⟩)
     (fun i=>3 - i.1) ⟨0,by omega⟩ (aH (by simp [cZ]) (by simp)) ?_
    rintro ⟨k,hk⟩ K1 hK1
    have hk4:k=0∨k=1∨k=2∨k=3:=by omega
    rcases hk4 with rfl|rfl|rfl|rfl
    ·simp only [aL,List.set_cons_succ,List.set_cons_zero,List.take_succ_cons,List.take_zero,List.cons_append,List.nil_append,cZ,eP,List.append_nil,Nat.lt_irrefl,if_false,if_true,Nat.reduceLT] at hK1⊢
     have W:=And.intro h0 tk
     have V:=And.intro h0 tk
     repeat' first|refine st ?_|(refine nx ?_;first|refine se ?_|refine so ?_)|(refine cx ?_;refine sc (fun hc=>?_) (fun hc=>?_)<;>try exact hc.elim)|(refine lx ?_;refine sp (fun hc=>?_) (fun hc=>?_)<;>try exact hc.elim)|refine sx ?_ ?_|refine sy ?_ ?_|fail
     exact hK1 _ ⟨1,by omega⟩ (aH (by simp [cZ,eP]) (by simp)) (by simp only;omega)
    ·simp only [aL,List.set_cons_succ,List.set_cons_zero,List.take_succ_cons,List.take_zero,List.cons_append,List.nil_append,cZ,eP,List.append_nil,Nat.lt_irrefl,if_false,if_true,Nat.reduceLT] at hK1⊢
     have W:=And.intro h0 tk
     have V:=And.intro h0 tk
     repeat' first|refine st ?_|(refine nx ?_;first|refine se ?_|refine so ?_)|(refine cx ?_;refine sc (fun hc=>?_) (fun hc=>?_)<;>try exact hc.elim)|(refine lx ?_;refine sp (fun hc=>?_) (fun hc=>?_)<;>try exact hc.elim)|refine sx ?_ ?_|refine sy ?_ ?_|fail
     exact hK1 _ ⟨2,by omega⟩ (aH (by simp [cZ,eP]) (by simp)) (by simp only;omega)
    ·simp only [aL,List.set_cons_succ,List.set_cons_zero,List.take_succ_cons,List.take_zero,List.cons_append,List.nil_append,cZ,eP,List.append_nil,Nat.lt_irrefl,if_false,if_true,Nat.reduceLT] at hK1⊢
     have W:=And.intro h0 tk
     have V:=And.intro h0 tk
     repeat' first|refine st ?_|(refine nx ?_;first|refine se ?_|refine so ?_)|(refine cx ?_;refine sc (fun hc=>?_) (fun hc=>?_)<;>try exact hc.elim)|(refine lx ?_;refine sp (fun hc=>?_) (fun hc=>?_)<;>try exact hc.elim)|refine sx ?_ ?_|refine sy ?_ ?_|fail
     exact hK1 _ ⟨3,by omega⟩ (aH (by simp [cZ,eP]) (by simp)) (by simp only;omega)
    ·simp only [aL,List.set_cons_succ,List.set_cons_zero,List.take_succ_cons,List.take_zero,List.cons_append,List.nil_append,cZ,eP,List.append_nil,Nat.lt_irrefl,if_false,if_true,Nat.reduceLT] at hK1⊢
     have W:=And.intro h0 (And.intro tk hF)
     have V:=And.intro h0 tk
     repeat' first|refine st ?_|(refine nx ?_;first|refine se ?_|refine so ?_)|(refine cx ?_;refine sc (fun hc=>?_) (fun hc=>?_)<;>try exact hc.elim)|(refine lx ?_;refine sp (fun hc=>?_) (fun hc=>?_)<;>try exact hc.elim)|refine sx ?_ ?_|refine sy ?_ ?_|fail
     all_goals (try (first|(refine ⟨.inr rfl,.inl ?_⟩;simp [Hands,Tryz.results74,hF];done)|(refine ⟨.inr rfl,.inr (dD ?_)⟩;simp [AS.rvB,AS.rvs,AS.rv,Tryz.results74,hF];done)|(refine ⟨.inr rfl,.inl ?_⟩;simp [Hands,Tryz.results74,hF])))
     all_goals first|exact absurd (by assumption) h0|(exfalso;omega)|simp_all
 have hcp:=hres _ e (by rw [e] at cf⊢;simpa only [aS] using cf) (by rw [e] at cc;simpa only [aS] using cc)
 by_cases hF:cB (fO gP s)=s
 ·rw [if_pos hF] at hcp⊢
  rw [e]
  simpa only [aS] using hcp
 ·rw [if_neg hF] at hcp⊢
  simpa only [aS,iK,List.map_nil] using hcp
end Go.Proofs.YtkidoegojckmiaaGreatDoor
