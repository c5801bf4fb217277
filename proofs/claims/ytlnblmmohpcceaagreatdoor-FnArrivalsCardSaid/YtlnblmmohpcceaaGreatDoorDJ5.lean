/-
  Proved here: steps towards the statement of this claim, text J5.
  No condition beyond what each statement spells out.
-/
import Derived.Test.YtlnblmmohpcceaaGreatDoorDJ3
import Derived.Test.YtlnblmmohpcceaaGreatDoorDJ4
import Derived.Test.YtlnblmmohpcceaaGreatDoorDP5
import Derived.Test.YtlnblmmohpcceaaGreatDoorDY1
set_option linter.all false
set_option maxRecDepth 4000
set_option maxHeartbeats 4000000
namespace Go.Proofs.YtlnblmmohpcceaaGreatDoor
open Go.Aw
theorem qP [aB Tryz.prog] [dO Tryz.prog] (s:Str) (c:UInt8) (hs:s.length < 4294967281):Ok Tryz.prog 123 [.str s,.str [c]] (.sl .own 1 ((aQ c s).map aI)):=aEr Tryz.laysM146 (by kernel_rfl) s c hs
theorem aBm [aB Tryz.prog] [dO Tryz.prog] (s p:Str) (hl:s.length≤1099511627776) (hp:p.length≤1099511627776):Ok Tryz.prog 192 [.str s,.str p] (.str (if pfx p s=true then s.drop p.length else s)):=by
 have c1:=vU s p hl hp
 have h1:= @aJ3 p s
 generalize pfx p s=b at *
 cases b
 ·refine ent Tryz.mix Tryz.func192 Tryz.ntmps192 ?_
  have W:=trivial
  repeat' first|refine st ?_|(refine nx ?_;first|refine se ?_|refine so ?_)|(refine cx ?_;refine sc (fun hc=>?_) (fun hc=>?_)<;>try exact hc.elim)|(refine lx ?_;refine sp (fun hc=>?_) (fun hc=>?_)<;>try exact hc.elim)|refine sx ?_ ?_|refine sy ?_ ?_|fail
  all_goals (try (refine ⟨.inr rfl,?_⟩;simp [Hands,Tryz.results192]))
 ·have h2:=h1 rfl
  refine ent Tryz.mix Tryz.func192 Tryz.ntmps192 ?_
  have W:=h2
  repeat' first|refine st ?_|(refine nx ?_;first|refine se ?_|refine so ?_)|(refine cx ?_;refine sc (fun hc=>?_) (fun hc=>?_)<;>try exact hc.elim)|(refine lx ?_;refine sp (fun hc=>?_) (fun hc=>?_)<;>try exact hc.elim)|refine sx ?_ ?_|refine sy ?_ ?_|fail
  all_goals (try (refine ⟨.inr rfl,?_⟩;simp [Hands,Tryz.results192]))
theorem aIh (x:Str):fE x=if pfx dN x=true then x.drop dN.length else x:=by
 unfold fE
 have e:dN.isPrefixOf x=pfx dN x:=by
  have h1:dN.isPrefixOf x=true↔pfx dN x=true:=by
   rw [List.isPrefixOf_iff_prefix,List.prefix_iff_eq_take]
   simp only [pfx,Bool.and_eq_true,decide_eq_true_eq,beq_iff_eq]
   constructor
   ·intro h
    refine ⟨?_,h.symm⟩
    have:=congrArg List.length h
    rw [List.length_take] at this;omega
   ·intro h;exact h.2.symm
  cases h2:pfx dN x<;>cases h3:dN.isPrefixOf x<;>simp_all
 rw [e];rfl
theorem aKb (x:Str):(fE x).length≤x.length:=by unfold fE;split<;>simp
theorem aEd [aB Tryz.prog] [dO Tryz.prog] (x:Str) (hl:x.length≤1099511627776):Ok Tryz.prog 124 [.str x,.str [110,111,110,99,101,32]] (.str (fE x)):=by
 have c1:Ok Tryz.prog 192 [.str x,.str [110,111,110,99,101,32]] (.str (if pfx dN x=true then x.drop dN.length else x)):=aBm x dN hl (by decide)
 rw [←aIh] at c1
 generalize fE x=n at *
 refine ent Tryz.mix Tryz.func124 Tryz.ntmps124 ?_
 have W:=trivial
 repeat' first|refine st ?_|(refine nx ?_;first|refine se ?_|refine so ?_)|(refine cx ?_;refine sc (fun hc=>?_) (fun hc=>?_)<;>try exact hc.elim)|(refine lx ?_;refine sp (fun hc=>?_) (fun hc=>?_)<;>try exact hc.elim)|refine sx ?_ ?_|refine sy ?_ ?_|fail
 all_goals (try (refine ⟨.inr rfl,?_⟩;simp [Hands,Tryz.results124]))
def bJ (k:Nat):List AV:=[if 0 < k then .obj 3 2 else .sl .own 1 [],if 1 < k then .obj 4 2 else .sl .own 1 [],if 2 < k then .obj 5 2 else .sl .own 1 []]
def dF (a b c:List (List AV)):List aA:=[⟨true,false,1,2,a⟩,⟨true,false,1,2,b⟩,⟨true,false,1,2,c⟩]
theorem uP [aB Tryz.prog] [dO Tryz.prog] (s:Str) (hl:s.length≤1073741824):Ok Tryz.prog 32 [.str s] (.tup [.agg (aX .own (iT fE s).1),.bool (iT fE s).2]):=by
 have c0:Ok Tryz.prog 123 [.str s,.str [59]] (.sl .own 1 ((aQ 59 s).map aI)):=qP s 59 (by omega)
 unfold iT
 by_cases h0:s=[]
 ·rw [if_pos h0]
  subst h0
  refine nJ Tryz.mix Tryz.func32 Tryz.ntmps32 ?_
  have W:=trivial
  repeat' first|refine st ?_|(refine nx ?_;first|refine se ?_|refine so ?_)|(refine cx ?_;refine sc (fun hc=>?_) (fun hc=>?_)<;>try exact hc.elim)|(refine lx ?_;refine sp (fun hc=>?_) (fun hc=>?_)<;>try exact hc.elim)|refine sx ?_ ?_|refine sy ?_ ?_|fail
  all_goals (try (first|(refine ⟨.inr rfl,.inl ?_⟩;simp [Hands,Tryz.results32,gM];done)|(refine ⟨.inr rfl,.inr (dH ?_)⟩;simp [AS.rvB,AS.rvs,AS.rv,Tryz.results32,gM];done)|(refine ⟨.inr rfl,.inl ?_⟩;simp [Hands,Tryz.results32,gM])))
 rw [if_neg h0]
 by_cases h3:(aQ 59 s).length < 3
 ·rw [if_pos h3]
  have h3':((aQ 59 s).length:Int) < 3:=by omega
  generalize aQ 59 s=L at *
  refine nJ Tryz.mix Tryz.func32 Tryz.ntmps32 ?_
  have W:=And.intro h0 (And.intro h3' h3)
  have V:=h0
  repeat' first|refine st ?_|(refine nx ?_;first|refine se ?_|refine so ?_)|(refine cx ?_;refine sc (fun hc=>?_) (fun hc=>?_)<;>try exact hc.elim)|(refine lx ?_;refine sp (fun hc=>?_) (fun hc=>?_)<;>try exact hc.elim)|refine sx ?_ ?_|refine sy ?_ ?_|fail
  all_goals (try (first|(refine ⟨.inr rfl,.inl ?_⟩;simp [Hands,Tryz.results32,gM];done)|(refine ⟨.inr rfl,.inr (dH ?_)⟩;simp [AS.rvB,AS.rvs,AS.rv,Tryz.results32,gM];done)|(refine ⟨.inr rfl,.inl ?_⟩;simp [Hands,Tryz.results32,gM])))
  all_goals first|exact absurd (by assumption) h0|omega
 rw [if_neg h3]
 have hz:=yM fE aKb h3
 have cf:=uQ (dX fE s) (by omega)
 have cc:=uJ (dX fE s) (by omega)
 obtain ⟨x0,x1,x2,r,hs⟩:∃x0 x1 x2 r,aQ 59 s=x0::x1::x2::r:=by
  match hs:aQ 59 s with
  |[]=>rw [hs] at h3;simp at h3
  |[_]=>rw [hs] at h3;simp at h3
  |[_,_]=>rw [hs] at h3;simp at h3
  |x0::x1::x2::r=>exact ⟨x0,x1,x2,r,rfl⟩
 have m0:=gW (c:=59) (s:=s) (x:=x0) (by rw [hs];simp)
 have m1:=gW (c:=59) (s:=s) (x:=x1) (by rw [hs];simp)
 have m2:=gW (c:=59) (s:=s) (x:=x2) (by rw [hs];simp)
 have m3:∀x∈r,x.length≤s.length:=fun x hx=>gW (c:=59) (s:=s) (x:=x) (by rw [hs];simp [hx])
 have hrl:r.length≤s.length:=by
  have:=jR 59 s
  have h3:=List.count_le_length (a:=(59:UInt8)) (l:=s)
  rw [hs] at this;simp at this;omega
 rw [hs] at c0
 have e:=rJ fE hs
 have c1:Ok Tryz.prog 123 [.str x0,.str [32]] (.sl .own 1 ((aQ 32 x0).map aI)):=qP x0 32 (by omega)
 have c2:Ok Tryz.prog 123 [.str x1,.str [32]] (.sl .own 1 ((aQ 32 x1).map aI)):=qP x1 32 (by omega)
 have c3:Ok Tryz.prog 123 [.str x2,.str [32]] (.sl .own 1 ((aQ 32 x2).map aI)):=qP x2 32 (by omega)
 obtain ⟨y0,t0,e0⟩:=List.exists_cons_of_ne_nil (jQ 32 x0)
 obtain ⟨y1,t1,e1⟩:=List.exists_cons_of_ne_nil (jQ 32 x1)
 obtain ⟨y2,t2,e2⟩:=List.exists_cons_of_ne_nil (jQ 32 x2)
 rw [e0] at c1;rw [e1] at c2;rw [e2] at c3
 rw [e0,e1,e2] at e
 simp only [List.tail_cons] at e
 clear hs m0 m1 m2 e0 e1 e2 h3 hz
 have tk:∀(t:List Str),(t.map aI).take t.length=t.map aI:=fun t=>List.take_of_length_le (by simp)
 have hres:∀n,dX fE s=⟨true,t0,t1,t2,n⟩→Ok Tryz.prog 125 [.agg [.bool true,.sl .view 1 (t0.map aI),.sl .view 1 (t1.map aI),.sl .view 1 (t2.map aI),.str n]] (.str (bH (dX fE s)))→
   Ok Tryz.prog 126 [.agg [.bool true,.sl .view 1 (t0.map aI),.sl .view 1 (t1.map aI),.sl .view 1 (t2.map aI),.str n]] (.agg [.bool true,.sl .own 1 (t0.map aI),.sl .own 1 (t1.map aI),.sl .own 1 (t2.map aI),.str n])→
   Ok Tryz.prog 32 [.str s] (if bH (dX fE s)=s then .tup [.agg [.bool true,.sl .own 1 (t0.map aI),.sl .own 1 (t1.map aI),.sl .own 1 (t2.map aI),.str n],.bool true] else .tup [.agg [.bool false,.sl .own 1 [],.sl .own 1 [],.sl .own 1 [],.str []],.bool false]):=by
  intro n hn cF cC
  rw [e] at hn
  simp only [bN.mk.injEq,true_and] at hn
  clear cf cc
  generalize bH (dX fE s)=F at *
  clear e
  subst hn
  cases r with
  |nil=>
   simp only [List.getElem?_nil] at cF cC⊢
   by_cases hF:F=s
   ·rw [if_pos hF]
    refine nJ Tryz.mix Tryz.func32 Tryz.ntmps32 ?_
    have W:=And.intro h0 tk
    have V:=And.intro h0 tk
    repeat' first|refine st ?_|(refine nx ?_;first|refine se ?_|refine so ?_)|(refine cx ?_;refine sc (fun hc=>?_) (fun hc=>?_)<;>try exact hc.elim)|(refine lx ?_;refine sp (fun hc=>?_) (fun hc=>?_)<;>try exact hc.elim)|refine sx ?_ ?_|refine sy ?_ ?_|fail
    all_goals first|exact absurd (by assumption) h0|(exfalso;omega)|skip
    refine aS (ι:={k:Nat // k≤3}) (fun t o i=>⟨aP t [(18,.int .i64 i.1)],o.take 2++[⟨true,true,3,0,[bJ i.1]⟩]++(dF (t0.map aI) (t1.map aI) (t2.map aI)).take i.1⟩)
     (fun i=>3 - i.1) ⟨0,by omega⟩ (aL (by simp [bJ]) (by simp)) ?_
    rintro ⟨k,hk⟩ K1 hK1
    have hk4:k=0∨k=1∨k=2∨k=3:=by omega
    rcases hk4 with rfl|rfl|rfl|rfl
    ·simp only [aP,List.set_cons_succ,List.set_cons_zero,List.take_succ_cons,List.take_zero,List.cons_append,List.nil_append,bJ,dF,List.append_nil,Nat.lt_irrefl,if_false,if_true,Nat.reduceLT] at hK1⊢
     have W:=And.intro h0 tk
     have V:=And.intro h0 tk
     repeat' first|refine st ?_|(refine nx ?_;first|refine se ?_|refine so ?_)|(refine cx ?_;refine sc (fun hc=>?_) (fun hc=>?_)<;>try exact hc.elim)|(refine lx ?_;refine sp (fun hc=>?_) (fun hc=>?_)<;>try exact hc.elim)|refine sx ?_ ?_|refine sy ?_ ?_|fail
     exact hK1 _ ⟨1,by omega⟩ (aL (by simp [bJ,dF]) (by simp)) (by simp only;omega)
    ·simp only [aP,List.set_cons_succ,List.set_cons_zero,List.take_succ_cons,List.take_zero,List.cons_append,List.nil_append,bJ,dF,List.append_nil,Nat.lt_irrefl,if_false,if_true,Nat.reduceLT] at hK1⊢
     have W:=And.intro h0 tk
     have V:=And.intro h0 tk
     repeat' first|refine st ?_|(refine nx ?_;first|refine se ?_|refine so ?_)|(refine cx ?_;refine sc (fun hc=>?_) (fun hc=>?_)<;>try exact hc.elim)|(refine lx ?_;refine sp (fun hc=>?_) (fun hc=>?_)<;>try exact hc.elim)|refine sx ?_ ?_|refine sy ?_ ?_|fail
     exact hK1 _ ⟨2,by omega⟩ (aL (by simp [bJ,dF]) (by simp)) (by simp only;omega)
    ·simp only [aP,List.set_cons_succ,List.set_cons_zero,List.take_succ_cons,List.take_zero,List.cons_append,List.nil_append,bJ,dF,List.append_nil,Nat.lt_irrefl,if_false,if_true,Nat.reduceLT] at hK1⊢
     have W:=And.intro h0 tk
     have V:=And.intro h0 tk
     repeat' first|refine st ?_|(refine nx ?_;first|refine se ?_|refine so ?_)|(refine cx ?_;refine sc (fun hc=>?_) (fun hc=>?_)<;>try exact hc.elim)|(refine lx ?_;refine sp (fun hc=>?_) (fun hc=>?_)<;>try exact hc.elim)|refine sx ?_ ?_|refine sy ?_ ?_|fail
     exact hK1 _ ⟨3,by omega⟩ (aL (by simp [bJ,dF]) (by simp)) (by simp only;omega)
    ·simp only [aP,List.set_cons_succ,List.set_cons_zero,List.take_succ_cons,List.take_zero,List.cons_append,List.nil_append,bJ,dF,List.append_nil,Nat.lt_irrefl,if_false,if_true,Nat.reduceLT] at hK1⊢
     have W:=And.intro h0 (And.intro tk hF)
     have V:=And.intro h0 tk
     repeat' first|refine st ?_|(refine nx ?_;first|refine se ?_|refine so ?_)|(refine cx ?_;refine sc (fun hc=>?_) (fun hc=>?_)<;>try exact hc.elim)|(refine lx ?_;refine sp (fun hc=>?_) (fun hc=>?_)<;>try exact hc.elim)|refine sx ?_ ?_|refine sy ?_ ?_|fail
     all_goals (try (first|(refine ⟨.inr rfl,.inl ?_⟩;simp [Hands,Tryz.results32,hF];done)|(refine ⟨.inr rfl,.inr (dH ?_)⟩;simp [AS.rvB,AS.rvs,AS.rv,Tryz.results32,hF];done)|(refine ⟨.inr rfl,.inl ?_⟩;simp [Hands,Tryz.results32,hF])))
     all_goals first|exact absurd (by assumption) h0|(exfalso;omega)|simp_all
   ·rw [if_neg hF]
    refine nJ Tryz.mix Tryz.func32 Tryz.ntmps32 ?_
    have W:=And.intro h0 tk
    have V:=And.intro h0 tk
    repeat' first|refine st ?_|(refine nx ?_;first|refine se ?_|refine so ?_)|(refine cx ?_;refine sc (fun hc=>?_) (fun hc=>?_)<;>try exact hc.elim)|(refine lx ?_;refine sp (fun hc=>?_) (fun hc=>?_)<;>try exact hc.elim)|refine sx ?_ ?_|refine sy ?_ ?_|fail
    all_goals first|exact absurd (by assumption) h0|(exfalso;omega)|skip
    refine aS (ι:={k:Nat // k≤3}) (fun t o i=>⟨aP t [(18,.int .i64 i.1)],o.take 2++[⟨true,true,3,0,[bJ i.1]⟩]++(dF (t0.map aI) (t1.map aI) (t2.map aI)).take i.1⟩)
     (fun i=>3 - i.1) ⟨0,by omega⟩ (aL (by simp [bJ]) (by simp)) ?_
    rintro ⟨k,hk⟩ K1 hK1
    have hk4:k=0∨k=1∨k=2∨k=3:=by omega
    rcases hk4 with rfl|rfl|rfl|rfl
    ·simp only [aP,List.set_cons_succ,List.set_cons_zero,List.take_succ_cons,List.take_zero,List.cons_append,List.nil_append,bJ,dF,List.append_nil,Nat.lt_irrefl,if_false,if_true,Nat.reduceLT] at hK1⊢
     have W:=And.intro h0 tk
     have V:=And.intro h0 tk
     repeat' first|refine st ?_|(refine nx ?_;first|refine se ?_|refine so ?_)|(refine cx ?_;refine sc (fun hc=>?_) (fun hc=>?_)<;>try exact hc.elim)|(refine lx ?_;refine sp (fun hc=>?_) (fun hc=>?_)<;>try exact hc.elim)|refine sx ?_ ?_|refine sy ?_ ?_|fail
     exact hK1 _ ⟨1,by omega⟩ (aL (by simp [bJ,dF]) (by simp)) (by simp only;omega)
    ·simp only [aP,List.set_cons_succ,List.set_cons_zero,List.take_succ_cons,List.take_zero,List.cons_append,List.nil_append,bJ,dF,List.append_nil,Nat.lt_irrefl,if_false,if_true,Nat.reduceLT] at hK1⊢
     have W:=And.intro h0 tk
     have V:=And.intro h0 tk
     repeat' first|refine st ?_|(refine nx ?_;first|refine se ?_|refine so ?_)|(refine cx ?_;refine sc (fun hc=>?_) (fun hc=>?_)<;>try exact hc.elim)|(refine lx ?_;refine sp (fun hc=>?_) (fun hc=>?_)<;>try exact hc.elim)|refine sx ?_ ?_|refine sy ?_ ?_|fail
     exact hK1 _ ⟨2,by omega⟩ (aL (by simp [bJ,dF]) (by simp)) (by simp only;omega)
    ·simp only [aP,List.set_cons_succ,List.set_cons_zero,List.take_succ_cons,List.take_zero,List.cons_append,List.nil_append,bJ,dF,List.append_nil,Nat.lt_irrefl,if_false,if_true,Nat.reduceLT] at hK1⊢
     have W:=And.intro h0 tk
     have V:=And.intro h0 tk
     repeat' first|refine st ?_|(refine nx ?_;first|refine se ?_|refine so ?_)|(refine cx ?_;refine sc (fun hc=>?_) (fun hc=>?_)<;>try exact hc.elim)|(refine lx ?_;refine sp (fun hc=>?_) (fun hc=>?_)<;>try exact hc.elim)|refine sx ?_ ?_|refine sy ?_ ?_|fail
     exact hK1 _ ⟨3,by omega⟩ (aL (by simp [bJ,dF]) (by simp)) (by simp only;omega)
    ·simp only [aP,List.set_cons_succ,List.set_cons_zero,List.take_succ_cons,List.take_zero,List.cons_append,List.nil_append,bJ,dF,List.append_nil,Nat.lt_irrefl,if_false,if_true,Nat.reduceLT] at hK1⊢
     have W:=And.intro h0 (And.intro tk hF)
     have V:=And.intro h0 tk
     repeat' first|refine st ?_|(refine nx ?_;first|refine se ?_|refine so ?_)|(refine cx ?_;refine sc (fun hc=>?_) (fun hc=>?_)<;>try exact hc.elim)|(refine lx ?_;refine sp (fun hc=>?_) (fun hc=>?_)<;>try exact hc.elim)|refine sx ?_ ?_|refine sy ?_ ?_|fail
     all_goals (try (first|(refine ⟨.inr rfl,.inl ?_⟩;simp [Hands,Tryz.results32,hF];done)|(refine ⟨.inr rfl,.inr (dH ?_)⟩;simp [AS.rvB,AS.rvs,AS.rv,Tryz.results32,hF];done)|(refine ⟨.inr rfl,.inl ?_⟩;simp [Hands,Tryz.results32,hF])))
     all_goals first|exact absurd (by assumption) h0|(exfalso;omega)|simp_all
  |cons x r=>
   simp only [List.getElem?_cons_zero] at cF cC⊢
   have c4:=aEd x (by have:=m3 x (by simp);omega)
   by_cases hF:F=s
   ·rw [if_pos hF]
    refine nJ Tryz.mix Tryz.func32 Tryz.ntmps32 ?_
    have W:=And.intro h0 tk
    have V:=And.intro h0 tk
    repeat' first|refine st ?_|(refine nx ?_;first|refine se ?_|refine so ?_)|(refine cx ?_;refine sc (fun hc=>?_) (fun hc=>?_)<;>try exact hc.elim)|(refine lx ?_;refine sp (fun hc=>?_) (fun hc=>?_)<;>try exact hc.elim)|refine sx ?_ ?_|refine sy ?_ ?_|fail
    all_goals first|exact absurd (by assumption) h0|(exfalso;omega)|skip
    refine aS (ι:={k:Nat // k≤3}) (fun t o i=>⟨aP t [(18,.int .i64 i.1)],o.take 2++[⟨true,true,3,0,[bJ i.1]⟩]++(dF (t0.map aI) (t1.map aI) (t2.map aI)).take i.1⟩)
     (fun i=>3 - i.1) ⟨0,by omega⟩ (aL (by simp [bJ]) (by simp)) ?_
    rintro ⟨k,hk⟩ K1 hK1
    have hk4:k=0∨k=1∨k=2∨k=3:=by omega
    rcases hk4 with rfl|rfl|rfl|rfl
    ·simp only [aP,List.set_cons_succ,List.set_cons_zero,List.take_succ_cons,List.take_zero,List.cons_append,List.nil_append,bJ,dF,List.append_nil,Nat.lt_irrefl,if_false,if_true,Nat.reduceLT] at hK1⊢
     have W:=And.intro h0 tk
     have V:=And.intro h0 tk
     repeat' first|refine st ?_|(refine nx ?_;first|refine se ?_|refine so ?_)|(refine cx ?_;refine sc (fun hc=>?_) (fun hc=>?_)<;>try exact hc.elim)|(refine lx ?_;refine sp (fun hc=>?_) (fun hc=>?_)<;>try exact hc.elim)|refine sx ?_ ?_|refine sy ?_ ?_|fail
     exact hK1 _ ⟨1,by omega⟩ (aL (by simp [bJ,dF]) (by simp)) (by simp only;omega)
    ·simp only [aP,List.set_cons_succ,List.set_cons_zero,List.take_succ_cons,List.take_zero,List.cons_append,List.nil_append,bJ,dF,List.append_nil,Nat.lt_irrefl,if_false,if_true,Nat.reduceLT] at hK1⊢
     have W:=And.intro h0 tk
     have V:=And.intro h0 tk
     repeat' first|refine st ?_|(refine nx ?_;first|refine se ?_|refine so ?_)|(refine cx ?_;refine sc (fun hc=>?_) (fun hc=>?_)<;>try exact hc.elim)|(refine lx ?_;refine sp (fun hc=>?_) (fun hc=>?_)<;>try exact hc.elim)|refine sx ?_ ?_|refine sy ?_ ?_|fail
     exact hK1 _ ⟨2,by omega⟩ (aL (by simp [bJ,dF]) (by simp)) (by simp only;omega)
    ·simp only [aP,List.set_cons_succ,List.set_cons_zero,List.take_succ_cons,List.take_zero,List.cons_append,List.nil_append,bJ,dF,List.append_nil,Nat.lt_irrefl,if_false,if_true,Nat.reduceLT] at hK1⊢
     have W:=And.intro h0 tk
     have V:=And.intro h0 tk
     repeat' first|refine st ?_|(refine nx ?_;first|refine se ?_|refine so ?_)|(refine cx ?_;refine sc (fun hc=>?_) (fun hc=>?_)<;>try exact hc.elim)|(refine lx ?_;refine sp (fun hc=>?_) (fun hc=>?_)<;>try exact hc.elim)|refine sx ?_ ?_|refine sy ?_ ?_|fail
     exact hK1 _ ⟨3,by omega⟩ (aL (by simp [bJ,dF]) (by simp)) (by simp only;omega)
    ·simp only [aP,List.set_cons_succ,List.set_cons_zero,List.take_succ_cons,List.take_zero,List.cons_append,List.nil_append,bJ,dF,List.append_nil,Nat.lt_irrefl,if_false,if_true,Nat.reduceLT] at hK1⊢
     have W:=And.intro h0 (And.intro tk hF)
     have V:=And.intro h0 tk
     repeat' first|refine st ?_|(refine nx ?_;first|refine se ?_|refine so ?_)|(refine cx ?_;refine sc (fun hc=>?_) (fun hc=>?_)<;>try exact hc.elim)|(refine lx ?_;refine sp (fun hc=>?_) (fun hc=>?_)<;>try exact hc.elim)|refine sx ?_ ?_|refine sy ?_ ?_|fail
     all_goals (try (first|(refine ⟨.inr rfl,.inl ?_⟩;simp [Hands,Tryz.results32,hF];done)|(refine ⟨.inr rfl,.inr (dH ?_)⟩;simp [AS.rvB,AS.rvs,AS.rv,Tryz.results32,hF];done)|(refine ⟨.inr rfl,.inl ?_⟩;simp [Hands,Tryz.results32,hF])))
     all_goals first|exact absurd (by assumption) h0|(exfalso;omega)|simp_all
   ·rw [if_neg hF]
    refine nJ Tryz.mix Tryz.func32 Tryz.ntmps32 ?_
    have W:=And.intro h0 tk
    have V:=And.intro h0 tk
    repeat' first|refine st ?_|(refine nx ?_;first|refine se ?_|refine so ?_)|(refine cx ?_;refine sc (fun hc=>?_) (fun hc=>?_)<;>try exact hc.elim)|(refine lx ?_;refine sp (fun hc=>?_) (fun hc=>?_)<;>try exact hc.elim)|refine sx ?_ ?_|refine sy ?_ ?_|fail
    all_goals first|exact absurd (by assumption) h0|(exfalso;omega)|skip
    refine aS (ι:={k:Nat // k≤3}) (fun t o i=>⟨aP t [(18,.int .i64 i.1)],o.take 2++[⟨true,true,3,0,[bJ i.1]⟩]++(dF (t0.map aI) (t1.map aI) (t2.map aI)).take i.1⟩)
     (fun i=>3 - i.1) ⟨0,by omega⟩ (aL (by simp [bJ]) (by simp)) ?_
    rintro ⟨k,hk⟩ K1 hK1
    have hk4:k=0∨k=1∨k=2∨k=3:=by omega
    rcases hk4 with rfl|rfl|rfl|rfl
    ·simp only [aP,List.set_cons_succ,List.set_cons_zero,List.take_succ_cons,List.take_zero,List.cons_append,List.nil_append,bJ,dF,List.append_nil,Nat.lt_irrefl,if_false,if_true,Nat.reduceLT] at hK1⊢
     have W:=And.intro h0 tk
     have V:=And.intro h0 tk
     repeat' first|refine st ?_|(refine nx ?_;first|refine se ?_|refine so ?_)|(refine cx ?_;refine sc (fun hc=>?_) (fun hc=>?_)<;>try exact hc.elim)|(refine lx ?_;refine sp (fun hc=>?_) (fun hc=>?_)<;>try exact hc.elim)|refine sx ?_ ?_|refine sy ?_ ?_|fail
     exact hK1 _ ⟨1,by omega⟩ (aL (by simp [bJ,dF]) (by simp)) (by simp only;omega)
    ·simp only [aP,List.set_cons_succ,List.set_cons_zero,List.take_succ_cons,List.take_zero,List.cons_append,List.nil_append,bJ,dF,List.append_nil,Nat.lt_irrefl,if_false,if_true,Nat.reduceLT] at hK1⊢
     have W:=And.intro h0 tk
     have V:=And.intro h0 tk
     repeat' first|refine st ?_|(refine nx ?_;first|refine se ?_|refine so ?_)|(refine cx ?_;refine sc (fun hc=>?_) (fun hc=>?_)<;>try exact hc.elim)|(refine lx ?_;refine sp (fun hc=>?_) (fun hc=>?_)<;>try exact hc.elim)|refine sx ?_ ?_|refine sy ?_ ?_|fail
     exact hK1 _ ⟨2,by omega⟩ (aL (by simp [bJ,dF]) (by simp)) (by simp only;omega)
    ·simp only [aP,List.set_cons_succ,List.set_cons_zero,List.take_succ_cons,List.take_zero,List.cons_append,List.nil_append,bJ,dF,List.append_nil,Nat.lt_irrefl,if_false,if_true,Nat.reduceLT] at hK1⊢
     have W:=And.intro h0 tk
     have V:=And.intro h0 tk
     repeat' first|refine st ?_|(refine nx ?_;first|refine se ?_|refine so ?_)|(refine cx ?_;refine sc (fun hc=>?_) (fun hc=>?_)<;>try exact hc.elim)|(refine lx ?_;refine sp (fun hc=>?_) (fun hc=>?_)<;>try exact hc.elim)|refine sx ?_ ?_|refine sy ?_ ?_|fail
     exact hK1 _ ⟨3,by omega⟩ (aL (by simp [bJ,dF]) (by simp)) (by simp only;omega)
    ·simp only [aP,List.set_cons_succ,List.set_cons_zero,List.take_succ_cons,List.take_zero,List.cons_append,List.nil_append,bJ,dF,List.append_nil,Nat.lt_irrefl,if_false,if_true,Nat.reduceLT] at hK1⊢
     have W:=And.intro h0 (And.intro tk hF)
     have V:=And.intro h0 tk
     repeat' first|refine st ?_|(refine nx ?_;first|refine se ?_|refine so ?_)|(refine cx ?_;refine sc (fun hc=>?_) (fun hc=>?_)<;>try exact hc.elim)|(refine lx ?_;refine sp (fun hc=>?_) (fun hc=>?_)<;>try exact hc.elim)|refine sx ?_ ?_|refine sy ?_ ?_|fail
     all_goals (try (first|(refine ⟨.inr rfl,.inl ?_⟩;simp [Hands,Tryz.results32,hF];done)|(refine ⟨.inr rfl,.inr (dH ?_)⟩;simp [AS.rvB,AS.rvs,AS.rv,Tryz.results32,hF];done)|(refine ⟨.inr rfl,.inl ?_⟩;simp [Hands,Tryz.results32,hF])))
     all_goals first|exact absurd (by assumption) h0|(exfalso;omega)|simp_all
 have hcp:=hres _ e (by rw [e] at cf⊢;simpa only [aX] using cf) (by rw [e] at cc;simpa only [aX] using cc)
 by_cases hF:bH (dX fE s)=s
 ·rw [if_pos hF] at hcp⊢
  rw [e]
  simpa only [aX] using hcp
 ·rw [if_neg hF] at hcp⊢
  simpa only [aX,gM,List.map_nil] using hcp
end Go.Proofs.YtlnblmmohpcceaaGreatDoor
