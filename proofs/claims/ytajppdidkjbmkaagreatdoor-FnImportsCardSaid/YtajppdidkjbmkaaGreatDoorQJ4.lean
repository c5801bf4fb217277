/-
  Proved here: steps towards the statement of this claim, text QJ4.
  No condition beyond what each statement spells out.
-/
import Derived.Test.YtajppdidkjbmkaaGreatDoorQD1
import Derived.Test.YtajppdidkjbmkaaGreatDoorF5
set_option linter.all false
set_option maxRecDepth 4000
set_option maxHeartbeats 4000000
namespace Go.Proofs.YtajppdidkjbmkaaGreatDoor
open Go.Aw
theorem aBu (c:UInt8):∀s:Str,bX dK (bC c s)≤s.length
 |[]=>by simp [bC,bX,dK]
 |x::s=>by
  have ih:=aBu c s
  simp only [bC]
  split
  ·simp only [bX,dK,List.length_nil,List.length_cons] at ih⊢;omega
  ·split
   ·rename_i h0;exact absurd h0 (jJ c s)
   ·rename_i p q h0
    rw [h0] at ih
    simp only [bX,dK,List.length_cons] at ih⊢;omega
theorem aS4 (c:UInt8) (s:Str):szL dK (bC c s)≤2 * s.length+1:=by
 have h1:=aBu c s
 have h2:=jO c s
 have h3:=List.count_le_length (a:=c) (l:=s)
 simp only [szL];omega
theorem zX (c:UInt8) (s:Str):szL dK (bC c s).tail≤2 * s.length+1:=by
 have h:=aS4 c s
 cases hs:bC c s with
 |nil=>exact absurd hs (jJ c s)
 |cons x l=>rw [hs] at h;simp only [szL,bX,List.length_cons,List.tail_cons] at h⊢;omega
theorem jR {c:UInt8} {s x:Str} (h:x∈bC c s):x.length≤s.length:=by
 have h1:=aBu c s
 have h2:=jN dK h
 simp only [dK] at h2;omega
theorem yA (f:Str→Str) {s x0 x1 x2:Str} {r:List Str} (h:bC 59 s=x0::x1::x2::r):gU f s=⟨true,(bC 32 x0).tail,(bC 32 x1).tail,(bC 32 x2).tail,match r[0]? with|some x=>f x|none=>[]⟩:=by
 unfold gU
 rw [h]
 rfl
theorem aAb (f:Str→Str) (hf:∀x,(f x).length≤x.length) {s:Str} (h:¬(bC 59 s).length < 3):bM (gU f s)≤7 * s.length+3:=by
 match hs:bC 59 s with
 |[]=>rw [hs] at h;simp at h
 |[_]=>rw [hs] at h;simp at h
 |[_,_]=>rw [hs] at h;simp at h
 |x0::x1::x2::r=>
  rw [yA f hs]
  have h0:=jR (c:=59) (s:=s) (x:=x0) (by rw [hs];simp)
  have h1:=jR (c:=59) (s:=s) (x:=x1) (by rw [hs];simp)
  have h2:=jR (c:=59) (s:=s) (x:=x2) (by rw [hs];simp)
  have k0:=zX 32 x0
  have k1:=zX 32 x1
  have k2:=zX 32 x2
  simp only [bM]
  cases r with
  |nil=>simp;omega
  |cons x r=>
   have h3:=jR (c:=59) (s:=s) (x:=x) (by rw [hs];simp)
   have:=hf x
   simp only [List.getElem?_cons_zero];omega
theorem aH5 (x:Str):(iE x).length≤x.length:=by unfold iE;split<;>simp
theorem tL [aB Tryz.prog] (s:Str) (c:UInt8) (hl:s.length≤1099511627776):Ok Tryz.prog 67 [.str s,.int .u8 c.toNat] (.sl .view 1 ((bC c s).map aU)):=(aE4 s c hl).vwas (by simp [rt])
theorem uB [aB Tryz.prog] (s:Str) (hl:s.length≤1073741824):Ok Tryz.prog 133 [.str s] (.tup [.agg (bD .view (lF iE s).1),.bool (lF iE s).2]):=by
 have z1:Ok Tryz.prog 133 [.str []] (.tup [.agg [.bool false,.sl .own 1 [],.sl .own 1 [],.sl .own 1 [],.str []],.bool true]):=by
  refine xQ Tryz.mix Tryz.func133 Tryz.ntmps133 ?_
  have W:=trivial
  repeat' first|refine st ?_|(refine nx ?_;first|refine se ?_|refine so ?_)|(refine cx ?_;refine sc (fun hc=>?_) (fun hc=>?_)<;>try exact hc.elim)|(refine lx ?_;refine sp (fun hc=>?_) (fun hc=>?_)<;>try exact hc.elim)|refine sx ?_ ?_|refine sy ?_ ?_|fail
  all_goals (try (first|(refine ⟨.inr rfl,.inl ?_⟩;simp [fK,Tryz.results133];done)|(refine ⟨.inr rfl,.inr (jP ?_)⟩;simp [AS.rvB,AS.rvs,AS.rv,Tryz.results133];done)|(refine ⟨.inr rfl,.inl ?_⟩;simp [fK,Tryz.results133])))
 have c0:Ok Tryz.prog 67 [.str s,.int .u8 59] (.sl .view 1 ((bC 59 s).map aU)):=tL s 59 (by omega)
 unfold lF
 by_cases h0:s=[]
 ·rw [if_pos h0]
  subst h0
  exact z1.vwas (by simp [rt,rtc,jG])
 rw [if_neg h0]
 by_cases h3:(bC 59 s).length < 3
 ·rw [if_pos h3]
  have z2:Ok Tryz.prog 133 [.str s] (.tup [.agg [.bool false,.sl .own 1 [],.sl .own 1 [],.sl .own 1 [],.str []],.bool false]):=by
   have h3':((bC 59 s).length:Int) < 3:=by omega
   generalize bC 59 s=L at *
   refine xQ Tryz.mix Tryz.func133 Tryz.ntmps133 ?_
   have W:=And.intro h0 (And.intro h3' h3)
   have V:=h0
   repeat' first|refine st ?_|(refine nx ?_;first|refine se ?_|refine so ?_)|(refine cx ?_;refine sc (fun hc=>?_) (fun hc=>?_)<;>try exact hc.elim)|(refine lx ?_;refine sp (fun hc=>?_) (fun hc=>?_)<;>try exact hc.elim)|refine sx ?_ ?_|refine sy ?_ ?_|fail
   all_goals (try (first|(refine ⟨.inr rfl,.inl ?_⟩;simp [fK,Tryz.results133];done)|(refine ⟨.inr rfl,.inr (jP ?_)⟩;simp [AS.rvB,AS.rvs,AS.rv,Tryz.results133];done)|(refine ⟨.inr rfl,.inl ?_⟩;simp [fK,Tryz.results133])))
   all_goals exact absurd (by assumption) h0
  exact z2.vwas (by simp [rt,rtc,jG])
 rw [if_neg h3]
 have hz:=aAb iE aH5 h3
 have cf:=nT (gU iE s) (by omega)
 obtain ⟨x0,x1,x2,r,hs⟩:∃x0 x1 x2 r,bC 59 s=x0::x1::x2::r:=by
  match hs:bC 59 s with
  |[]=>rw [hs] at h3;simp at h3
  |[_]=>rw [hs] at h3;simp at h3
  |[_,_]=>rw [hs] at h3;simp at h3
  |x0::x1::x2::r=>exact ⟨x0,x1,x2,r,rfl⟩
 have m0:=jR (c:=59) (s:=s) (x:=x0) (by rw [hs];simp)
 have m1:=jR (c:=59) (s:=s) (x:=x1) (by rw [hs];simp)
 have m2:=jR (c:=59) (s:=s) (x:=x2) (by rw [hs];simp)
 have hrl:r.length≤s.length:=by
  have:=jO 59 s
  have h3:=List.count_le_length (a:=(59:UInt8)) (l:=s)
  rw [hs] at this;simp at this;omega
 rw [hs] at c0
 have e:=yA iE hs
 have c1:Ok Tryz.prog 67 [.str x0,.int .u8 32] (.sl .view 1 ((bC 32 x0).map aU)):=tL x0 32 (by omega)
 have c2:Ok Tryz.prog 67 [.str x1,.int .u8 32] (.sl .view 1 ((bC 32 x1).map aU)):=tL x1 32 (by omega)
 have c3:Ok Tryz.prog 67 [.str x2,.int .u8 32] (.sl .view 1 ((bC 32 x2).map aU)):=tL x2 32 (by omega)
 obtain ⟨y0,t0,e0⟩:=List.exists_cons_of_ne_nil (jJ 32 x0)
 obtain ⟨y1,t1,e1⟩:=List.exists_cons_of_ne_nil (jJ 32 x1)
 obtain ⟨y2,t2,e2⟩:=List.exists_cons_of_ne_nil (jJ 32 x2)
 rw [e0] at c1;rw [e1] at c2;rw [e2] at c3
 rw [e0,e1,e2] at e
 simp only [List.tail_cons] at e
 clear hs m0 m1 m2 e0 e1 e2 h3 hz
 have tk:∀(t:List Str),(t.map aU).take t.length=t.map aU:=fun t=>List.take_of_length_le (by simp)
 have key:∀(n:Str),gU iE s=⟨true,t0,t1,t2,n⟩→∀b,decide (dF (gU iE s)=s)=b→Ok Tryz.prog 118 [.agg [.bool true,.sl .view 1 (t0.map aU),.sl .view 1 (t1.map aU),.sl .view 1 (t2.map aU),.str n]] (.str (dF (gU iE s))):=by
  intro n hn b _
  rw [hn] at cf⊢
  simpa only [bD] using cf
 have hres:∀n,gU iE s=⟨true,t0,t1,t2,n⟩→(Ok Tryz.prog 118 [.agg [.bool true,.sl .view 1 (t0.map aU),.sl .view 1 (t1.map aU),.sl .view 1 (t2.map aU),.str n]] (.str (dF (gU iE s))))→
   Ok Tryz.prog 133 [.str s] (if dF (gU iE s)=s then .tup [.agg [.bool true,.sl .view 1 (t0.map aU),.sl .view 1 (t1.map aU),.sl .view 1 (t2.map aU),.str n],.bool true] else .tup [.agg [.bool false,.sl .own 1 [],.sl .own 1 [],.sl .own 1 [],.str []],.bool false]):=by
  intro n hn cF
  rw [e] at hn
  simp only [bR.mk.injEq,true_and] at hn
  subst hn
  generalize dF (gU iE s)=F at *
  cases r with
  |nil=>
   simp only [List.getElem?_nil] at cF⊢
   by_cases hF:F=s
   ·rw [if_pos hF]
    refine xQ Tryz.mix Tryz.func133 Tryz.ntmps133 ?_
    have W:=And.intro h0 (And.intro hF tk)
    have V:=And.intro h0 tk
    repeat' first|refine st ?_|(refine nx ?_;first|refine se ?_|refine so ?_)|(refine cx ?_;refine sc (fun hc=>?_) (fun hc=>?_)<;>try exact hc.elim)|(refine lx ?_;refine sp (fun hc=>?_) (fun hc=>?_)<;>try exact hc.elim)|refine sx ?_ ?_|refine sy ?_ ?_|fail
    all_goals (try (first|(refine ⟨.inr rfl,.inl ?_⟩;simp [fK,Tryz.results133];done)|(refine ⟨.inr rfl,.inr (jP ?_)⟩;simp [AS.rvB,AS.rvs,AS.rv,Tryz.results133];done)|(refine ⟨.inr rfl,.inl ?_⟩;simp [fK,Tryz.results133])))
    all_goals first|exact absurd (by assumption) h0|omega|simp_all
   ·rw [if_neg hF]
    refine xQ Tryz.mix Tryz.func133 Tryz.ntmps133 ?_
    have W:=And.intro h0 (And.intro hF tk)
    have V:=And.intro h0 tk
    repeat' first|refine st ?_|(refine nx ?_;first|refine se ?_|refine so ?_)|(refine cx ?_;refine sc (fun hc=>?_) (fun hc=>?_)<;>try exact hc.elim)|(refine lx ?_;refine sp (fun hc=>?_) (fun hc=>?_)<;>try exact hc.elim)|refine sx ?_ ?_|refine sy ?_ ?_|fail
    all_goals (try (first|(refine ⟨.inr rfl,.inl ?_⟩;simp [fK,Tryz.results133];done)|(refine ⟨.inr rfl,.inr (jP ?_)⟩;simp [AS.rvB,AS.rvs,AS.rv,Tryz.results133];done)|(refine ⟨.inr rfl,.inl ?_⟩;simp [fK,Tryz.results133])))
    all_goals first|exact absurd (by assumption) h0|omega|simp_all
  |cons x r=>
   simp only [List.getElem?_cons_zero] at cF⊢
   unfold iE at cF⊢
   by_cases hx:6 < x.length
   ·rw [if_pos hx] at cF⊢
    by_cases hF:F=s
    ·rw [if_pos hF]
     refine xQ Tryz.mix Tryz.func133 Tryz.ntmps133 ?_
     have W:=And.intro h0 (And.intro hF (And.intro hx tk))
     have V:=And.intro h0 tk
     repeat' first|refine st ?_|(refine nx ?_;first|refine se ?_|refine so ?_)|(refine cx ?_;refine sc (fun hc=>?_) (fun hc=>?_)<;>try exact hc.elim)|(refine lx ?_;refine sp (fun hc=>?_) (fun hc=>?_)<;>try exact hc.elim)|refine sx ?_ ?_|refine sy ?_ ?_|fail
     all_goals (try (first|(refine ⟨.inr rfl,.inl ?_⟩;simp [fK,Tryz.results133];done)|(refine ⟨.inr rfl,.inr (jP ?_)⟩;simp [AS.rvB,AS.rvs,AS.rv,Tryz.results133];done)|(refine ⟨.inr rfl,.inl ?_⟩;simp [fK,Tryz.results133])))
     all_goals first|exact absurd (by assumption) h0|omega|simp_all
    ·rw [if_neg hF]
     refine xQ Tryz.mix Tryz.func133 Tryz.ntmps133 ?_
     have W:=And.intro h0 (And.intro hF (And.intro hx tk))
     have V:=And.intro h0 tk
     repeat' first|refine st ?_|(refine nx ?_;first|refine se ?_|refine so ?_)|(refine cx ?_;refine sc (fun hc=>?_) (fun hc=>?_)<;>try exact hc.elim)|(refine lx ?_;refine sp (fun hc=>?_) (fun hc=>?_)<;>try exact hc.elim)|refine sx ?_ ?_|refine sy ?_ ?_|fail
     all_goals (try (first|(refine ⟨.inr rfl,.inl ?_⟩;simp [fK,Tryz.results133];done)|(refine ⟨.inr rfl,.inr (jP ?_)⟩;simp [AS.rvB,AS.rvs,AS.rv,Tryz.results133];done)|(refine ⟨.inr rfl,.inl ?_⟩;simp [fK,Tryz.results133])))
     all_goals first|exact absurd (by assumption) h0|omega|simp_all
   ·rw [if_neg hx] at cF⊢
    by_cases hF:F=s
    ·rw [if_pos hF]
     refine xQ Tryz.mix Tryz.func133 Tryz.ntmps133 ?_
     have W:=And.intro h0 (And.intro hF (And.intro hx tk))
     have V:=And.intro h0 tk
     repeat' first|refine st ?_|(refine nx ?_;first|refine se ?_|refine so ?_)|(refine cx ?_;refine sc (fun hc=>?_) (fun hc=>?_)<;>try exact hc.elim)|(refine lx ?_;refine sp (fun hc=>?_) (fun hc=>?_)<;>try exact hc.elim)|refine sx ?_ ?_|refine sy ?_ ?_|fail
     all_goals (try (first|(refine ⟨.inr rfl,.inl ?_⟩;simp [fK,Tryz.results133];done)|(refine ⟨.inr rfl,.inr (jP ?_)⟩;simp [AS.rvB,AS.rvs,AS.rv,Tryz.results133];done)|(refine ⟨.inr rfl,.inl ?_⟩;simp [fK,Tryz.results133])))
     all_goals first|exact absurd (by assumption) h0|omega|simp_all
    ·rw [if_neg hF]
     refine xQ Tryz.mix Tryz.func133 Tryz.ntmps133 ?_
     have W:=And.intro h0 (And.intro hF (And.intro hx tk))
     have V:=And.intro h0 tk
     repeat' first|refine st ?_|(refine nx ?_;first|refine se ?_|refine so ?_)|(refine cx ?_;refine sc (fun hc=>?_) (fun hc=>?_)<;>try exact hc.elim)|(refine lx ?_;refine sp (fun hc=>?_) (fun hc=>?_)<;>try exact hc.elim)|refine sx ?_ ?_|refine sy ?_ ?_|fail
     all_goals (try (first|(refine ⟨.inr rfl,.inl ?_⟩;simp [fK,Tryz.results133];done)|(refine ⟨.inr rfl,.inr (jP ?_)⟩;simp [AS.rvB,AS.rvs,AS.rv,Tryz.results133];done)|(refine ⟨.inr rfl,.inl ?_⟩;simp [fK,Tryz.results133])))
     all_goals first|exact absurd (by assumption) h0|omega|simp_all
 have:=hres _ e (key _ e _ rfl)
 by_cases hF:dF (gU iE s)=s
 ·rw [if_pos hF] at this⊢
  rw [e]
  exact this.vwas (by simp [rt,rtc])
 ·rw [if_neg hF] at this⊢
  exact this.vwas (by simp [rt,rtc,jG])
theorem aX6 [aB Tryz.prog] (a b:Int):Ok Tryz.prog 27 [.int .i64 a,.int .i64 b] (.int .i64 (min a b)):=by
 by_cases h:b < a
 ·have hr:min a b=b:=by omega
  rw [hr]
  refine ent Tryz.mix Tryz.func27 Tryz.ntmps27 ?_
  have W:=h
  repeat' first|refine st ?_|(refine nx ?_;first|refine se ?_|refine so ?_)|(refine cx ?_;refine sc (fun hc=>?_) (fun hc=>?_)<;>try exact hc.elim)|(refine lx ?_;refine sp (fun hc=>?_) (fun hc=>?_)<;>try exact hc.elim)|refine sx ?_ ?_|refine sy ?_ ?_|fail
  all_goals (try (refine ⟨.inr rfl,?_⟩;simp [Hands,Tryz.results27]))
 ·have hr:min a b=a:=by omega
  rw [hr]
  refine ent Tryz.mix Tryz.func27 Tryz.ntmps27 ?_
  have W:=h
  repeat' first|refine st ?_|(refine nx ?_;first|refine se ?_|refine so ?_)|(refine cx ?_;refine sc (fun hc=>?_) (fun hc=>?_)<;>try exact hc.elim)|(refine lx ?_;refine sp (fun hc=>?_) (fun hc=>?_)<;>try exact hc.elim)|refine sx ?_ ?_|refine sy ?_ ?_|fail
  all_goals (try (refine ⟨.inr rfl,?_⟩;simp [Hands,Tryz.results27]))
theorem aQh [aB Tryz.prog] (s:Str) (c:UInt8) (hl:s.length≤1099511627776):Ok Tryz.prog 25 [.str s,.int .u8 c.toNat] (.int .i64 (ixB c s:Nat)):=by
 refine ent Tryz.mix Tryz.func25 Tryz.ntmps25 ?_
 have W:=trivial
 repeat' first|refine st ?_|(refine nx ?_;first|refine se ?_|refine so ?_)|(refine cx ?_;refine sc (fun hc=>?_) (fun hc=>?_)<;>try exact hc.elim)|(refine lx ?_;refine sp (fun hc=>?_) (fun hc=>?_)<;>try exact hc.elim)|refine sx ?_ ?_|refine sy ?_ ?_|fail
 refine aJ (ι:={k:Nat // k≤s.length∧∀x∈s.take k,x≠c}) (fun t o i=>⟨aS t [(5,.int .i64 i.1)],o⟩)
  (fun i=>s.length - i.1) ⟨0,by simp,by simp⟩ (aD (by simp) (by simp)) ?_
 rintro ⟨k,hk,hi⟩ K1 hK1
 simp only [aS,List.set_cons_succ,List.set_cons_zero] at hK1⊢
 have hk1:IntKind.i64.wrap ((k:Int)+1)=((k+1:Nat):Int):=by rw [wrap64]<;>omega
 by_cases hlt:k < s.length
 ·have hg:=List.getElem?_eq_getElem hlt
  have W:=And.intro hk1 (And.intro hg hlt)
  repeat' first|refine st ?_|(refine nx ?_;first|refine se ?_|refine so ?_)|(refine cx ?_;refine sc (fun hc=>?_) (fun hc=>?_)<;>try exact hc.elim)|(refine lx ?_;refine sp (fun hc=>?_) (fun hc=>?_)<;>try exact hc.elim)|refine sx ?_ ?_|refine sy ?_ ?_|fail
  ·have e:=aLf hlt (UInt8.toNat_inj.1 (by omega)) hi
   rw [e]
   all_goals (try (refine ⟨.inr rfl,?_⟩;simp [Hands,Tryz.results25]))
  ·exact hK1 _ ⟨k+1,by omega,dX hlt hi (fun h=>hc (by rw [h]))⟩ (aD (by simp) (by simp)) (by simp only;omega)
 ·have e:=aL4 (jB (by omega) hi)
  rw [e]
  have W:=hk1
  repeat' first|refine st ?_|(refine nx ?_;first|refine se ?_|refine so ?_)|(refine cx ?_;refine sc (fun hc=>?_) (fun hc=>?_)<;>try exact hc.elim)|(refine lx ?_;refine sp (fun hc=>?_) (fun hc=>?_)<;>try exact hc.elim)|refine sx ?_ ?_|refine sy ?_ ?_|fail
  all_goals (try (refine ⟨.inr rfl,?_⟩;simp [Hands,Tryz.results25]))
def pfx (p s:Str):Bool:=decide (p.length≤s.length)&&(s.take p.length == p)
theorem aCb [aB Tryz.prog] (s p:Str) (hl:s.length≤1099511627776) (hp:p.length≤1099511627776):Ok Tryz.prog 108 [.str s,.str p] (.bool (pfx p s)):=by
 by_cases h:p.length≤s.length
 ·have hi:(p.length:Int)≤(s.length:Int):=by omega
  have hr:pfx p s=(s.take p.length == p):=by simp [pfx,h]
  rw [hr]
  refine ent Tryz.mix Tryz.func108 Tryz.ntmps108 ?_
  have W:=And.intro h hi
  repeat' first|refine st ?_|(refine nx ?_;first|refine se ?_|refine so ?_)|(refine cx ?_;refine sc (fun hc=>?_) (fun hc=>?_)<;>try exact hc.elim)|(refine lx ?_;refine sp (fun hc=>?_) (fun hc=>?_)<;>try exact hc.elim)|refine sx ?_ ?_|refine sy ?_ ?_|fail
  all_goals (try (refine ⟨.inr rfl,?_⟩;simp [Hands,Tryz.results108]))
 ·have hi:¬(p.length:Int)≤(s.length:Int):=by omega
  have hr:pfx p s=false:=by simp [pfx,h]
  rw [hr]
  refine ent Tryz.mix Tryz.func108 Tryz.ntmps108 ?_
  have W:=And.intro h hi
  repeat' first|refine st ?_|(refine nx ?_;first|refine se ?_|refine so ?_)|(refine cx ?_;refine sc (fun hc=>?_) (fun hc=>?_)<;>try exact hc.elim)|(refine lx ?_;refine sp (fun hc=>?_) (fun hc=>?_)<;>try exact hc.elim)|refine sx ?_ ?_|refine sy ?_ ?_|fail
  all_goals (try (refine ⟨.inr rfl,?_⟩;simp [Hands,Tryz.results108]))
theorem aFp {p s:Str} (h:pfx p s=true):p.length≤s.length:=by
 simp only [pfx,Bool.and_eq_true,decide_eq_true_eq] at h
 exact h.1
theorem aIs [aB Tryz.prog] (s p:Str) (hl:s.length≤1099511627776) (hp:p.length≤1099511627776):Ok Tryz.prog 59 [.str s,.str p] (.tup [.str (if pfx p s=true then s.drop p.length else s),.bool (pfx p s)]):=by
 have c1:=aCb s p hl hp
 have h1:= @aFp p s
 generalize pfx p s=b at *
 cases b
 ·refine ent Tryz.mix Tryz.func59 Tryz.ntmps59 ?_
  have W:=trivial
  repeat' first|refine st ?_|(refine nx ?_;first|refine se ?_|refine so ?_)|(refine cx ?_;refine sc (fun hc=>?_) (fun hc=>?_)<;>try exact hc.elim)|(refine lx ?_;refine sp (fun hc=>?_) (fun hc=>?_)<;>try exact hc.elim)|refine sx ?_ ?_|refine sy ?_ ?_|fail
  all_goals (try (refine ⟨.inr rfl,?_⟩;simp [Hands,Tryz.results59]))
 ·have h2:=h1 rfl
  refine ent Tryz.mix Tryz.func59 Tryz.ntmps59 ?_
  have W:=h2
  repeat' first|refine st ?_|(refine nx ?_;first|refine se ?_|refine so ?_)|(refine cx ?_;refine sc (fun hc=>?_) (fun hc=>?_)<;>try exact hc.elim)|(refine lx ?_;refine sp (fun hc=>?_) (fun hc=>?_)<;>try exact hc.elim)|refine sx ?_ ?_|refine sy ?_ ?_|fail
  all_goals (try (refine ⟨.inr rfl,?_⟩;simp [Hands,Tryz.results59]))
theorem aA3 [aB Tryz.prog] (s p:Str) (hl:s.length≤1099511627776) (hp:p.length≤1099511627776):Ok Tryz.prog 21 [.str s,.str p] (.tup [.str (if pfx p s=true then s.drop p.length else s),.bool (pfx p s)]):=by
 have c1:=aIs s p hl hp
 generalize (if pfx p s=true then s.drop p.length else s)=q at *
 generalize pfx p s=b at *
 refine ent Tryz.mix Tryz.func21 Tryz.ntmps21 ?_
 have W:=trivial
 repeat' first|refine st ?_|(refine nx ?_;first|refine se ?_|refine so ?_)|(refine cx ?_;refine sc (fun hc=>?_) (fun hc=>?_)<;>try exact hc.elim)|(refine lx ?_;refine sp (fun hc=>?_) (fun hc=>?_)<;>try exact hc.elim)|refine sx ?_ ?_|refine sy ?_ ?_|fail
 all_goals (try (refine ⟨.inr rfl,?_⟩;simp [Hands,Tryz.results21]))
end Go.Proofs.YtajppdidkjbmkaaGreatDoor
