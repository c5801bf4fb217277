/-
  Proved here: steps towards the statement of this claim, text QJ3.
  No condition beyond what each statement spells out.
-/
import Derived.Test.YtgkllebnnakojaaGreatDoorJ2
import Derived.Test.YtgkllebnnakojaaGreatDoorYShelf
import Derived.Test.YtgkllebnnakojaaGreatDoorF5
import Derived.Test.YtgkllebnnakojaaGreatDoorF8
set_option linter.all false
set_option maxRecDepth 4000
set_option maxHeartbeats 4000000
namespace Go.Proofs.YtgkllebnnakojaaGreatDoor
open Go.Aw
theorem aBl (c:UInt8):∀s:Str,bF dO (bA c s)≤s.length
 |[]=>by simp [bA,bF,dO]
 |x::s=>by
  have ih:=aBl c s
  simp only [bA]
  split
  ·simp only [bF,dO,List.length_nil,List.length_cons] at ih⊢;omega
  ·split
   ·rename_i h0;exact absurd h0 (kW c s)
   ·rename_i p q h0
    rw [h0] at ih
    simp only [bF,dO,List.length_cons] at ih⊢;omega
theorem aSv (c:UInt8) (s:Str):szL dO (bA c s)≤2 * s.length+1:=by
 have h1:=aBl c s
 have h2:=jX c s
 have h3:=List.count_le_length (a:=c) (l:=s)
 simp only [szL];omega
theorem zH (c:UInt8) (s:Str):szL dO (bA c s).tail≤2 * s.length+1:=by
 have h:=aSv c s
 cases hs:bA c s with
 |nil=>exact absurd hs (kW c s)
 |cons x l=>rw [hs] at h;simp only [szL,bF,List.length_cons,List.tail_cons] at h⊢;omega
theorem nT {c:UInt8} {s x:Str} (h:x∈bA c s):x.length≤s.length:=by
 have h1:=aBl c s
 have h2:=gI dO h
 simp only [dO] at h2;omega
theorem aCo (f:Str→Str) {s x0 x1 x2:Str} {r:List Str} (h:bA 59 s=x0::x1::x2::r):nA f s=⟨true,(bA 32 x0).tail,(bA 32 x1).tail,(bA 32 x2).tail,match r[0]? with|some x=>f x|none=>[]⟩:=by
 unfold nA
 rw [h]
 rfl
theorem aEr (f:Str→Str) (hf:∀x,(f x).length≤x.length) {s:Str} (h:¬(bA 59 s).length < 3):dK (nA f s)≤7 * s.length+3:=by
 match hs:bA 59 s with
 |[]=>rw [hs] at h;simp at h
 |[_]=>rw [hs] at h;simp at h
 |[_,_]=>rw [hs] at h;simp at h
 |x0::x1::x2::r=>
  rw [aCo f hs]
  have h0:=nT (c:=59) (s:=s) (x:=x0) (by rw [hs];simp)
  have h1:=nT (c:=59) (s:=s) (x:=x1) (by rw [hs];simp)
  have h2:=nT (c:=59) (s:=s) (x:=x2) (by rw [hs];simp)
  have k0:=zH 32 x0
  have k1:=zH 32 x1
  have k2:=zH 32 x2
  simp only [dK]
  cases r with
  |nil=>simp;omega
  |cons x r=>
   have h3:=nT (c:=59) (s:=s) (x:=x) (by rw [hs];simp)
   have:=hf x
   simp only [List.getElem?_cons_zero];omega
theorem aG8 (x:Str):(iU x).length≤x.length:=by unfold iU;split<;>simp
theorem rX [aB Tryz.prog] (s:Str) (c:UInt8) (hl:s.length≤1099511627776):Ok Tryz.prog 131 [.str s,.int .u8 c.toNat] (.sl .view 1 ((bA c s).map bZ)):=(aEo s c hl).vwas (by simp [rt])
theorem sP [aB Tryz.prog] (s:Str) (hl:s.length≤1073741824):Ok Tryz.prog 103 [.str s] (.tup [.agg (cB .view (vO iU s).1),.bool (vO iU s).2]):=by
 have z1:Ok Tryz.prog 103 [.str []] (.tup [.agg [.bool false,.sl .own 1 [],.sl .own 1 [],.sl .own 1 [],.str []],.bool true]):=by
  refine xB Tryz.mix Tryz.func103 Tryz.ntmps103 ?_
  have W:=trivial
  repeat' first|refine st ?_|(refine nx ?_;first|refine se ?_|refine so ?_)|(refine cx ?_;refine sc (fun hc=>?_) (fun hc=>?_)<;>try exact hc.elim)|(refine lx ?_;refine sp (fun hc=>?_) (fun hc=>?_)<;>try exact hc.elim)|refine sx ?_ ?_|refine sy ?_ ?_|fail
  all_goals (try (first|(refine ⟨.inr rfl,.inl ?_⟩;simp [fM,Tryz.results103];done)|(refine ⟨.inr rfl,.inr (jE ?_)⟩;simp [AS.rvB,AS.rvs,AS.rv,Tryz.results103];done)|(refine ⟨.inr rfl,.inl ?_⟩;simp [fM,Tryz.results103])))
 have c0:Ok Tryz.prog 131 [.str s,.int .u8 59] (.sl .view 1 ((bA 59 s).map bZ)):=rX s 59 (by omega)
 unfold vO
 by_cases h0:s=[]
 ·rw [if_pos h0]
  subst h0
  exact z1.vwas (by simp [rt,rtc,mH])
 rw [if_neg h0]
 by_cases h3:(bA 59 s).length < 3
 ·rw [if_pos h3]
  have z2:Ok Tryz.prog 103 [.str s] (.tup [.agg [.bool false,.sl .own 1 [],.sl .own 1 [],.sl .own 1 [],.str []],.bool false]):=by
   have h3':((bA 59 s).length:Int) < 3:=by omega
   generalize bA 59 s=L at *
   refine xB Tryz.mix Tryz.func103 Tryz.ntmps103 ?_
   have W:=And.intro h0 (And.intro h3' h3)
   have V:=h0
   repeat' first|refine st ?_|(refine nx ?_;first|refine se ?_|refine so ?_)|(refine cx ?_;refine sc (fun hc=>?_) (fun hc=>?_)<;>try exact hc.elim)|(refine lx ?_;refine sp (fun hc=>?_) (fun hc=>?_)<;>try exact hc.elim)|refine sx ?_ ?_|refine sy ?_ ?_|fail
   all_goals (try (first|(refine ⟨.inr rfl,.inl ?_⟩;simp [fM,Tryz.results103];done)|(refine ⟨.inr rfl,.inr (jE ?_)⟩;simp [AS.rvB,AS.rvs,AS.rv,Tryz.results103];done)|(refine ⟨.inr rfl,.inl ?_⟩;simp [fM,Tryz.results103])))
   all_goals exact absurd (by assumption) h0
  exact z2.vwas (by simp [rt,rtc,mH])
 rw [if_neg h3]
 have hz:=aEr iU aG8 h3
 have cf:=mY (nA iU s) (by omega)
 obtain ⟨x0,x1,x2,r,hs⟩:∃x0 x1 x2 r,bA 59 s=x0::x1::x2::r:=by
  match hs:bA 59 s with
  |[]=>rw [hs] at h3;simp at h3
  |[_]=>rw [hs] at h3;simp at h3
  |[_,_]=>rw [hs] at h3;simp at h3
  |x0::x1::x2::r=>exact ⟨x0,x1,x2,r,rfl⟩
 have m0:=nT (c:=59) (s:=s) (x:=x0) (by rw [hs];simp)
 have m1:=nT (c:=59) (s:=s) (x:=x1) (by rw [hs];simp)
 have m2:=nT (c:=59) (s:=s) (x:=x2) (by rw [hs];simp)
 have hrl:r.length≤s.length:=by
  have:=jX 59 s
  have h3:=List.count_le_length (a:=(59:UInt8)) (l:=s)
  rw [hs] at this;simp at this;omega
 rw [hs] at c0
 have e:=aCo iU hs
 have c1:Ok Tryz.prog 131 [.str x0,.int .u8 32] (.sl .view 1 ((bA 32 x0).map bZ)):=rX x0 32 (by omega)
 have c2:Ok Tryz.prog 131 [.str x1,.int .u8 32] (.sl .view 1 ((bA 32 x1).map bZ)):=rX x1 32 (by omega)
 have c3:Ok Tryz.prog 131 [.str x2,.int .u8 32] (.sl .view 1 ((bA 32 x2).map bZ)):=rX x2 32 (by omega)
 obtain ⟨y0,t0,e0⟩:=List.exists_cons_of_ne_nil (kW 32 x0)
 obtain ⟨y1,t1,e1⟩:=List.exists_cons_of_ne_nil (kW 32 x1)
 obtain ⟨y2,t2,e2⟩:=List.exists_cons_of_ne_nil (kW 32 x2)
 rw [e0] at c1;rw [e1] at c2;rw [e2] at c3
 rw [e0,e1,e2] at e
 simp only [List.tail_cons] at e
 clear hs m0 m1 m2 e0 e1 e2 h3 hz
 have tk:∀(t:List Str),(t.map bZ).take t.length=t.map bZ:=fun t=>List.take_of_length_le (by simp)
 have key:∀(n:Str),nA iU s=⟨true,t0,t1,t2,n⟩→∀b,decide (iE (nA iU s)=s)=b→Ok Tryz.prog 64 [.agg [.bool true,.sl .view 1 (t0.map bZ),.sl .view 1 (t1.map bZ),.sl .view 1 (t2.map bZ),.str n]] (.str (iE (nA iU s))):=by
  intro n hn b _
  rw [hn] at cf⊢
  simpa only [cB] using cf
 have hres:∀n,nA iU s=⟨true,t0,t1,t2,n⟩→(Ok Tryz.prog 64 [.agg [.bool true,.sl .view 1 (t0.map bZ),.sl .view 1 (t1.map bZ),.sl .view 1 (t2.map bZ),.str n]] (.str (iE (nA iU s))))→
   Ok Tryz.prog 103 [.str s] (if iE (nA iU s)=s then .tup [.agg [.bool true,.sl .view 1 (t0.map bZ),.sl .view 1 (t1.map bZ),.sl .view 1 (t2.map bZ),.str n],.bool true] else .tup [.agg [.bool false,.sl .own 1 [],.sl .own 1 [],.sl .own 1 [],.str []],.bool false]):=by
  intro n hn cF
  rw [e] at hn
  simp only [dE.mk.injEq,true_and] at hn
  subst hn
  generalize iE (nA iU s)=F at *
  cases r with
  |nil=>
   simp only [List.getElem?_nil] at cF⊢
   by_cases hF:F=s
   ·rw [if_pos hF]
    refine xB Tryz.mix Tryz.func103 Tryz.ntmps103 ?_
    have W:=And.intro h0 (And.intro hF tk)
    have V:=And.intro h0 tk
    repeat' first|refine st ?_|(refine nx ?_;first|refine se ?_|refine so ?_)|(refine cx ?_;refine sc (fun hc=>?_) (fun hc=>?_)<;>try exact hc.elim)|(refine lx ?_;refine sp (fun hc=>?_) (fun hc=>?_)<;>try exact hc.elim)|refine sx ?_ ?_|refine sy ?_ ?_|fail
    all_goals (try (first|(refine ⟨.inr rfl,.inl ?_⟩;simp [fM,Tryz.results103];done)|(refine ⟨.inr rfl,.inr (jE ?_)⟩;simp [AS.rvB,AS.rvs,AS.rv,Tryz.results103];done)|(refine ⟨.inr rfl,.inl ?_⟩;simp [fM,Tryz.results103])))
    all_goals first|exact absurd (by assumption) h0|omega|simp_all
   ·rw [if_neg hF]
    refine xB Tryz.mix Tryz.func103 Tryz.ntmps103 ?_
    have W:=And.intro h0 (And.intro hF tk)
    have V:=And.intro h0 tk
    repeat' first|refine st ?_|(refine nx ?_;first|refine se ?_|refine so ?_)|(refine cx ?_;refine sc (fun hc=>?_) (fun hc=>?_)<;>try exact hc.elim)|(refine lx ?_;refine sp (fun hc=>?_) (fun hc=>?_)<;>try exact hc.elim)|refine sx ?_ ?_|refine sy ?_ ?_|fail
    all_goals (try (first|(refine ⟨.inr rfl,.inl ?_⟩;simp [fM,Tryz.results103];done)|(refine ⟨.inr rfl,.inr (jE ?_)⟩;simp [AS.rvB,AS.rvs,AS.rv,Tryz.results103];done)|(refine ⟨.inr rfl,.inl ?_⟩;simp [fM,Tryz.results103])))
    all_goals first|exact absurd (by assumption) h0|omega|simp_all
  |cons x r=>
   simp only [List.getElem?_cons_zero] at cF⊢
   unfold iU at cF⊢
   by_cases hx:6 < x.length
   ·rw [if_pos hx] at cF⊢
    by_cases hF:F=s
    ·rw [if_pos hF]
     refine xB Tryz.mix Tryz.func103 Tryz.ntmps103 ?_
     have W:=And.intro h0 (And.intro hF (And.intro hx tk))
     have V:=And.intro h0 tk
     repeat' first|refine st ?_|(refine nx ?_;first|refine se ?_|refine so ?_)|(refine cx ?_;refine sc (fun hc=>?_) (fun hc=>?_)<;>try exact hc.elim)|(refine lx ?_;refine sp (fun hc=>?_) (fun hc=>?_)<;>try exact hc.elim)|refine sx ?_ ?_|refine sy ?_ ?_|fail
     all_goals (try (first|(refine ⟨.inr rfl,.inl ?_⟩;simp [fM,Tryz.results103];done)|(refine ⟨.inr rfl,.inr (jE ?_)⟩;simp [AS.rvB,AS.rvs,AS.rv,Tryz.results103];done)|(refine ⟨.inr rfl,.inl ?_⟩;simp [fM,Tryz.results103])))
     all_goals first|exact absurd (by assumption) h0|omega|simp_all
    ·rw [if_neg hF]
     refine xB Tryz.mix Tryz.func103 Tryz.ntmps103 ?_
     have W:=And.intro h0 (And.intro hF (And.intro hx tk))
     have V:=And.intro h0 tk
     repeat' first|refine st ?_|(refine nx ?_;first|refine se ?_|refine so ?_)|(refine cx ?_;refine sc (fun hc=>?_) (fun hc=>?_)<;>try exact hc.elim)|(refine lx ?_;refine sp (fun hc=>?_) (fun hc=>?_)<;>try exact hc.elim)|refine sx ?_ ?_|refine sy ?_ ?_|fail
     all_goals (try (first|(refine ⟨.inr rfl,.inl ?_⟩;simp [fM,Tryz.results103];done)|(refine ⟨.inr rfl,.inr (jE ?_)⟩;simp [AS.rvB,AS.rvs,AS.rv,Tryz.results103];done)|(refine ⟨.inr rfl,.inl ?_⟩;simp [fM,Tryz.results103])))
     all_goals first|exact absurd (by assumption) h0|omega|simp_all
   ·rw [if_neg hx] at cF⊢
    by_cases hF:F=s
    ·rw [if_pos hF]
     refine xB Tryz.mix Tryz.func103 Tryz.ntmps103 ?_
     have W:=And.intro h0 (And.intro hF (And.intro hx tk))
     have V:=And.intro h0 tk
     repeat' first|refine st ?_|(refine nx ?_;first|refine se ?_|refine so ?_)|(refine cx ?_;refine sc (fun hc=>?_) (fun hc=>?_)<;>try exact hc.elim)|(refine lx ?_;refine sp (fun hc=>?_) (fun hc=>?_)<;>try exact hc.elim)|refine sx ?_ ?_|refine sy ?_ ?_|fail
     all_goals (try (first|(refine ⟨.inr rfl,.inl ?_⟩;simp [fM,Tryz.results103];done)|(refine ⟨.inr rfl,.inr (jE ?_)⟩;simp [AS.rvB,AS.rvs,AS.rv,Tryz.results103];done)|(refine ⟨.inr rfl,.inl ?_⟩;simp [fM,Tryz.results103])))
     all_goals first|exact absurd (by assumption) h0|omega|simp_all
    ·rw [if_neg hF]
     refine xB Tryz.mix Tryz.func103 Tryz.ntmps103 ?_
     have W:=And.intro h0 (And.intro hF (And.intro hx tk))
     have V:=And.intro h0 tk
     repeat' first|refine st ?_|(refine nx ?_;first|refine se ?_|refine so ?_)|(refine cx ?_;refine sc (fun hc=>?_) (fun hc=>?_)<;>try exact hc.elim)|(refine lx ?_;refine sp (fun hc=>?_) (fun hc=>?_)<;>try exact hc.elim)|refine sx ?_ ?_|refine sy ?_ ?_|fail
     all_goals (try (first|(refine ⟨.inr rfl,.inl ?_⟩;simp [fM,Tryz.results103];done)|(refine ⟨.inr rfl,.inr (jE ?_)⟩;simp [AS.rvB,AS.rvs,AS.rv,Tryz.results103];done)|(refine ⟨.inr rfl,.inl ?_⟩;simp [fM,Tryz.results103])))
     all_goals first|exact absurd (by assumption) h0|omega|simp_all
 have:=hres _ e (key _ e _ rfl)
 by_cases hF:iE (nA iU s)=s
 ·rw [if_pos hF] at this⊢
  rw [e]
  exact this.vwas (by simp [rt,rtc])
 ·rw [if_neg hF] at this⊢
  exact this.vwas (by simp [rt,rtc,mH])
end Go.Proofs.YtgkllebnnakojaaGreatDoor
