/-
  Proved here: steps towards the statement of this claim, text J4.
  No condition beyond what each statement spells out.
-/
import Derived.Test.YtkidoegojckmiaaGreatDoorAJ2
set_option linter.all false
set_option maxRecDepth 4000
set_option maxHeartbeats 4000000
namespace Go.Proofs.YtkidoegojckmiaaGreatDoor
open Go.Aw
theorem aAx (c:UInt8):∀s:Str,bD bU (aT c s)≤s.length
 |[]=>by simp [aT,bD,bU]
 |x::s=>by
  have ih:=aAx c s
  simp only [aT]
  split
  ·simp only [bD,bU,List.length_nil,List.length_cons] at ih⊢;omega
  ·split
   ·rename_i h0;exact absurd h0 (lV c s)
   ·rename_i p q h0
    rw [h0] at ih
    simp only [bD,bU,List.length_cons] at ih⊢;omega
theorem aQv (c:UInt8) (s:Str):szL bU (aT c s)≤2 * s.length+1:=by
 have h1:=aAx c s
 have h2:=fV c s
 have h3:=List.count_le_length (a:=c) (l:=s)
 simp only [szL];omega
theorem xV (c:UInt8) (s:Str):szL bU (aT c s).tail≤2 * s.length+1:=by
 have h:=aQv c s
 cases hs:aT c s with
 |nil=>exact absurd hs (lV c s)
 |cons x l=>rw [hs] at h;simp only [szL,bD,List.length_cons,List.tail_cons] at h⊢;omega
theorem iZ {c:UInt8} {s x:Str} (h:x∈aT c s):x.length≤s.length:=by
 have h1:=aAx c s
 have h2:=rQ bU h
 simp only [bU] at h2;omega
theorem wL (f:Str→Str) {s x0 x1 x2:Str} {r:List Str} (h:aT 59 s=x0::x1::x2::r):fO f s=⟨true,(aT 32 x0).tail,(aT 32 x1).tail,(aT 32 x2).tail,match r[0]? with|some x=>f x|none=>[]⟩:=by
 unfold fO
 rw [h]
 rfl
theorem yN (f:Str→Str) (hf:∀x,(f x).length≤x.length) {s:Str} (h:¬(aT 59 s).length < 3):bB (fO f s)≤7 * s.length+3:=by
 match hs:aT 59 s with
 |[]=>rw [hs] at h;simp at h
 |[_]=>rw [hs] at h;simp at h
 |[_,_]=>rw [hs] at h;simp at h
 |x0::x1::x2::r=>
  rw [wL f hs]
  have h0:=iZ (c:=59) (s:=s) (x:=x0) (by rw [hs];simp)
  have h1:=iZ (c:=59) (s:=s) (x:=x1) (by rw [hs];simp)
  have h2:=iZ (c:=59) (s:=s) (x:=x2) (by rw [hs];simp)
  have k0:=xV 32 x0
  have k1:=xV 32 x1
  have k2:=xV 32 x2
  simp only [bB]
  cases r with
  |nil=>simp;omega
  |cons x r=>
   have h3:=iZ (c:=59) (s:=s) (x:=x) (by rw [hs];simp)
   have:=hf x
   simp only [List.getElem?_cons_zero];omega
theorem aFy (x:Str):(gB x).length≤x.length:=by unfold gB;split<;>simp
theorem rY [aB Tryz.prog] (s:Str) (c:UInt8) (hl:s.length≤1099511627776):Ok Tryz.prog 85 [.str s,.int .u8 c.toNat] (.sl .view 1 ((aT c s).map aK)):=(nU s c hl).vwas (by simp [rt])
theorem sK [aB Tryz.prog] (s:Str) (hl:s.length≤1073741824):Ok Tryz.prog 102 [.str s] (.tup [.agg (aS .view (jW gB s).1),.bool (jW gB s).2]):=by
 have z1:Ok Tryz.prog 102 [.str []] (.tup [.agg [.bool false,.sl .own 1 [],.sl .own 1 [],.sl .own 1 [],.str []],.bool true]):=by
  refine wS Tryz.mix Tryz.func102 Tryz.ntmps102 ?_
  have W:=trivial
  repeat' first|refine st ?_|(refine nx ?_;first|refine se ?_|refine so ?_)|(refine cx ?_;refine sc (fun hc=>?_) (fun hc=>?_)<;>try exact hc.elim)|(refine lx ?_;refine sp (fun hc=>?_) (fun hc=>?_)<;>try exact hc.elim)|refine sx ?_ ?_|refine sy ?_ ?_|fail
  all_goals (try (first|(refine ⟨.inr rfl,.inl ?_⟩;simp [dY,Tryz.results102];done)|(refine ⟨.inr rfl,.inr (iW ?_)⟩;simp [AS.rvB,AS.rvs,AS.rv,Tryz.results102];done)|(refine ⟨.inr rfl,.inl ?_⟩;simp [dY,Tryz.results102])))
 have c0:Ok Tryz.prog 85 [.str s,.int .u8 59] (.sl .view 1 ((aT 59 s).map aK)):=rY s 59 (by omega)
 unfold jW
 by_cases h0:s=[]
 ·rw [if_pos h0]
  subst h0
  exact z1.vwas (by simp [rt,rtc,iK])
 rw [if_neg h0]
 by_cases h3:(aT 59 s).length < 3
 ·rw [if_pos h3]
  have z2:Ok Tryz.prog 102 [.str s] (.tup [.agg [.bool false,.sl .own 1 [],.sl .own 1 [],.sl .own 1 [],.str []],.bool false]):=by
   have h3':((aT 59 s).length:Int) < 3:=by omega
   generalize aT 59 s=L at *
   refine wS Tryz.mix Tryz.func102 Tryz.ntmps102 ?_
   have W:=And.intro h0 (And.intro h3' h3)
   have V:=h0
   repeat' first|refine st ?_|(refine nx ?_;first|refine se ?_|refine so ?_)|(refine cx ?_;refine sc (fun hc=>?_) (fun hc=>?_)<;>try exact hc.elim)|(refine lx ?_;refine sp (fun hc=>?_) (fun hc=>?_)<;>try exact hc.elim)|refine sx ?_ ?_|refine sy ?_ ?_|fail
   all_goals (try (first|(refine ⟨.inr rfl,.inl ?_⟩;simp [dY,Tryz.results102];done)|(refine ⟨.inr rfl,.inr (iW ?_)⟩;simp [AS.rvB,AS.rvs,AS.rv,Tryz.results102];done)|(refine ⟨.inr rfl,.inl ?_⟩;simp [dY,Tryz.results102])))
   all_goals exact absurd (by assumption) h0
  exact z2.vwas (by simp [rt,rtc,iK])
 rw [if_neg h3]
 have hz:=yN gB aFy h3
 have cf:=mU (fO gB s) (by omega)
 obtain ⟨x0,x1,x2,r,hs⟩:∃x0 x1 x2 r,aT 59 s=x0::x1::x2::r:=by
  match hs:aT 59 s with
  |[]=>rw [hs] at h3;simp at h3
  |[_]=>rw [hs] at h3;simp at h3
  |[_,_]=>rw [hs] at h3;simp at h3
  |x0::x1::x2::r=>exact ⟨x0,x1,x2,r,rfl⟩
 have m0:=iZ (c:=59) (s:=s) (x:=x0) (by rw [hs];simp)
 have m1:=iZ (c:=59) (s:=s) (x:=x1) (by rw [hs];simp)
 have m2:=iZ (c:=59) (s:=s) (x:=x2) (by rw [hs];simp)
 have hrl:r.length≤s.length:=by
  have:=fV 59 s
  have h3:=List.count_le_length (a:=(59:UInt8)) (l:=s)
  rw [hs] at this;simp at this;omega
 rw [hs] at c0
 have e:=wL gB hs
 have c1:Ok Tryz.prog 85 [.str x0,.int .u8 32] (.sl .view 1 ((aT 32 x0).map aK)):=rY x0 32 (by omega)
 have c2:Ok Tryz.prog 85 [.str x1,.int .u8 32] (.sl .view 1 ((aT 32 x1).map aK)):=rY x1 32 (by omega)
 have c3:Ok Tryz.prog 85 [.str x2,.int .u8 32] (.sl .view 1 ((aT 32 x2).map aK)):=rY x2 32 (by omega)
 obtain ⟨y0,t0,e0⟩:=List.exists_cons_of_ne_nil (lV 32 x0)
 obtain ⟨y1,t1,e1⟩:=List.exists_cons_of_ne_nil (lV 32 x1)
 obtain ⟨y2,t2,e2⟩:=List.exists_cons_of_ne_nil (lV 32 x2)
 rw [e0] at c1;rw [e1] at c2;rw [e2] at c3
 rw [e0,e1,e2] at e
 simp only [List.tail_cons] at e
 clear hs m0 m1 m2 e0 e1 e2 h3 hz
 have tk:∀(t:List Str),(t.map aK).take t.length=t.map aK:=fun t=>List.take_of_length_le (by simp)
 have key:∀(n:Str),fO gB s=⟨true,t0,t1,t2,n⟩→∀b,decide (cB (fO gB s)=s)=b→Ok Tryz.prog 56 [.agg [.bool true,.sl .view 1 (t0.map aK),.sl .view 1 (t1.map aK),.sl .view 1 (t2.map aK),.str n]] (.str (cB (fO gB s))):=by
  intro n hn b _
  rw [hn] at cf⊢
  simpa only [aS] using cf
 have hres:∀n,fO gB s=⟨true,t0,t1,t2,n⟩→(Ok Tryz.prog 56 [.agg [.bool true,.sl .view 1 (t0.map aK),.sl .view 1 (t1.map aK),.sl .view 1 (t2.map aK),.str n]] (.str (cB (fO gB s))))→
   Ok Tryz.prog 102 [.str s] (if cB (fO gB s)=s then .tup [.agg [.bool true,.sl .view 1 (t0.map aK),.sl .view 1 (t1.map aK),.sl .view 1 (t2.map aK),.str n],.bool true] else .tup [.agg [.bool false,.sl .own 1 [],.sl .own 1 [],.sl .own 1 [],.str []],.bool false]):=by
  intro n hn cF
  rw [e] at hn
  simp only [bH.mk.injEq,true_and] at hn
  subst hn
  generalize cB (fO gB s)=F at *
  cases r with
  |nil=>
   simp only [List.getElem?_nil] at cF⊢
   by_cases hF:F=s
   ·rw [if_pos hF]
    refine wS Tryz.mix Tryz.func102 Tryz.ntmps102 ?_
    have W:=And.intro h0 (And.intro hF tk)
    have V:=And.intro h0 tk
    repeat' first|refine st ?_|(refine nx ?_;first|refine se ?_|refine so ?_)|(refine cx ?_;refine sc (fun hc=>?_) (fun hc=>?_)<;>try exact hc.elim)|(refine lx ?_;refine sp (fun hc=>?_) (fun hc=>?_)<;>try exact hc.elim)|refine sx ?_ ?_|refine sy ?_ ?_|fail
    all_goals (try (first|(refine ⟨.inr rfl,.inl ?_⟩;simp [dY,Tryz.results102];done)|(refine ⟨.inr rfl,.inr (iW ?_)⟩;simp [AS.rvB,AS.rvs,AS.rv,Tryz.results102];done)|(refine ⟨.inr rfl,.inl ?_⟩;simp [dY,Tryz.results102])))
    all_goals first|exact absurd (by assumption) h0|omega|simp_all
   ·rw [if_neg hF]
    refine wS Tryz.mix Tryz.func102 Tryz.ntmps102 ?_
    have W:=And.intro h0 (And.intro hF tk)
    have V:=And.intro h0 tk
    repeat' first|refine st ?_|(refine nx ?_;first|refine se ?_|refine so ?_)|(refine cx ?_;refine sc (fun hc=>?_) (fun hc=>?_)<;>try exact hc.elim)|(refine lx ?_;refine sp (fun hc=>?_) (fun hc=>?_)<;>try exact hc.elim)|refine sx ?_ ?_|refine sy ?_ ?_|fail
    all_goals (try (first|(refine ⟨.inr rfl,.inl ?_⟩;simp [dY,Tryz.results102];done)|(refine ⟨.inr rfl,.inr (iW ?_)⟩;simp [AS.rvB,AS.rvs,AS.rv,Tryz.results102];done)|(refine ⟨.inr rfl,.inl ?_⟩;simp [dY,Tryz.results102])))
    all_goals first|exact absurd (by assumption) h0|omega|simp_all
  |cons x r=>
   simp only [List.getElem?_cons_zero] at cF⊢
   unfold gB at cF⊢
   by_cases hx:6 < x.length
   ·rw [if_pos hx] at cF⊢
    by_cases hF:F=s
    ·rw [if_pos hF]
     refine wS Tryz.mix Tryz.func102 Tryz.ntmps102 ?_
     have W:=And.intro h0 (And.intro hF (And.intro hx tk))
     have V:=And.intro h0 tk
     repeat' first|refine st ?_|(refine nx ?_;first|refine se ?_|refine so ?_)|(refine cx ?_;refine sc (fun hc=>?_) (fun hc=>?_)<;>try exact hc.elim)|(refine lx ?_;refine sp (fun hc=>?_) (fun hc=>?_)<;>try exact hc.elim)|refine sx ?_ ?_|refine sy ?_ ?_|fail
     all_goals (try (first|(refine ⟨.inr rfl,.inl ?_⟩;simp [dY,Tryz.results102];done)|(refine ⟨.inr rfl,.inr (iW ?_)⟩;simp [AS.rvB,AS.rvs,AS.rv,Tryz.results102];done)|(refine ⟨.inr rfl,.inl ?_⟩;simp [dY,Tryz.results102])))
     all_goals first|exact absurd (by assumption) h0|omega|simp_all
    ·rw [if_neg hF]
     refine wS Tryz.mix Tryz.func102 Tryz.ntmps102 ?_
     have W:=And.intro h0 (And.intro hF (And.intro hx tk))
     have V:=And.intro h0 tk
     repeat' first|refine st ?_|(refine nx ?_;first|refine se ?_|refine so ?_)|(refine cx ?_;refine sc (fun hc=>?_) (fun hc=>?_)<;>try exact hc.elim)|(refine lx ?_;refine sp (fun hc=>?_) (fun hc=>?_)<;>try exact hc.elim)|refine sx ?_ ?_|refine sy ?_ ?_|fail
     all_goals (try (first|(refine ⟨.inr rfl,.inl ?_⟩;simp [dY,Tryz.results102];done)|(refine ⟨.inr rfl,.inr (iW ?_)⟩;simp [AS.rvB,AS.rvs,AS.rv,Tryz.results102];done)|(refine ⟨.inr rfl,.inl ?_⟩;simp [dY,Tryz.results102])))
     all_goals first|exact absurd (by assumption) h0|omega|simp_all
   ·rw [if_neg hx] at cF⊢
    by_cases hF:F=s
    ·rw [if_pos hF]
     refine wS Tryz.mix Tryz.func102 Tryz.ntmps102 ?_
     have W:=And.intro h0 (And.intro hF (And.intro hx tk))
     have V:=And.intro h0 tk
     repeat' first|refine st ?_|(refine nx ?_;first|refine se ?_|refine so ?_)|(refine cx ?_;refine sc (fun hc=>?_) (fun hc=>?_)<;>try exact hc.elim)|(refine lx ?_;refine sp (fun hc=>?_) (fun hc=>?_)<;>try exact hc.elim)|refine sx ?_ ?_|refine sy ?_ ?_|fail
     all_goals (try (first|(refine ⟨.inr rfl,.inl ?_⟩;simp [dY,Tryz.results102];done)|(refine ⟨.inr rfl,.inr (iW ?_)⟩;simp [AS.rvB,AS.rvs,AS.rv,Tryz.results102];done)|(refine ⟨.inr rfl,.inl ?_⟩;simp [dY,Tryz.results102])))
     all_goals first|exact absurd (by assumption) h0|omega|simp_all
    ·rw [if_neg hF]
     refine wS Tryz.mix Tryz.func102 Tryz.ntmps102 ?_
     have W:=And.intro h0 (And.intro hF (And.intro hx tk))
     have V:=And.intro h0 tk
     repeat' first|refine st ?_|(refine nx ?_;first|refine se ?_|refine so ?_)|(refine cx ?_;refine sc (fun hc=>?_) (fun hc=>?_)<;>try exact hc.elim)|(refine lx ?_;refine sp (fun hc=>?_) (fun hc=>?_)<;>try exact hc.elim)|refine sx ?_ ?_|refine sy ?_ ?_|fail
     all_goals (try (first|(refine ⟨.inr rfl,.inl ?_⟩;simp [dY,Tryz.results102];done)|(refine ⟨.inr rfl,.inr (iW ?_)⟩;simp [AS.rvB,AS.rvs,AS.rv,Tryz.results102];done)|(refine ⟨.inr rfl,.inl ?_⟩;simp [dY,Tryz.results102])))
     all_goals first|exact absurd (by assumption) h0|omega|simp_all
 have:=hres _ e (key _ e _ rfl)
 by_cases hF:cB (fO gB s)=s
 ·rw [if_pos hF] at this⊢
  rw [e]
  exact this.vwas (by simp [rt,rtc])
 ·rw [if_neg hF] at this⊢
  exact this.vwas (by simp [rt,rtc,iK])
end Go.Proofs.YtkidoegojckmiaaGreatDoor
