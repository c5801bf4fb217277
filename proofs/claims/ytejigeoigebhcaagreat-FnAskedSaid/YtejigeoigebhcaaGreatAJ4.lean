/-
  Proved here: steps towards the statement of this claim, text J4.
  No condition beyond what each statement spells out.
-/
import Derived.Test.YtejigeoigebhcaaGreatAJ2
set_option linter.all false
set_option maxRecDepth 4000
set_option maxHeartbeats 4000000
namespace Go.Proofs.YtejigeoigebhcaaGreat
open Go.Aw
theorem xL (c:UInt8):∀s:Str,aZ bZ (bF c s)≤s.length
 |[]=>by simp [bF,aZ,bZ]
 |x::s=>by
  have ih:=xL c s
  simp only [bF]
  split
  ·simp only [aZ,bZ,List.length_nil,List.length_cons] at ih⊢;omega
  ·split
   ·rename_i h0;exact absurd h0 (nI c s)
   ·rename_i p q h0
    rw [h0] at ih
    simp only [aZ,bZ,List.length_cons] at ih⊢;omega
theorem aMn (c:UInt8) (s:Str):szL bZ (bF c s)≤2 * s.length+1:=by
 have h1:=xL c s
 have h2:=jP c s
 have h3:=List.count_le_length (a:=c) (l:=s)
 simp only [szL];omega
theorem vQ (c:UInt8) (s:Str):szL bZ (bF c s).tail≤2 * s.length+1:=by
 have h:=aMn c s
 cases hs:bF c s with
 |nil=>exact absurd hs (nI c s)
 |cons x l=>rw [hs] at h;simp only [szL,aZ,List.length_cons,List.tail_cons] at h⊢;omega
theorem lN {c:UInt8} {s x:Str} (h:x∈bF c s):x.length≤s.length:=by
 have h1:=xL c s
 have h2:=uJ bZ h
 simp only [bZ] at h2;omega
theorem aAb (f:Str→Str) {s x0 x1 x2:Str} {r:List Str} (h:bF 59 s=x0::x1::x2::r):lI f s=⟨true,(bF 32 x0).tail,(bF 32 x1).tail,(bF 32 x2).tail,match r[0]? with|some x=>f x|none=>[]⟩:=by
 unfold lI
 rw [h]
 rfl
theorem aBi (f:Str→Str) (hf:∀x,(f x).length≤x.length) {s:Str} (h:¬(bF 59 s).length < 3):bE (lI f s)≤7 * s.length+3:=by
 match hs:bF 59 s with
 |[]=>rw [hs] at h;simp at h
 |[_]=>rw [hs] at h;simp at h
 |[_,_]=>rw [hs] at h;simp at h
 |x0::x1::x2::r=>
  rw [aAb f hs]
  have h0:=lN (c:=59) (s:=s) (x:=x0) (by rw [hs];simp)
  have h1:=lN (c:=59) (s:=s) (x:=x1) (by rw [hs];simp)
  have h2:=lN (c:=59) (s:=s) (x:=x2) (by rw [hs];simp)
  have k0:=vQ 32 x0
  have k1:=vQ 32 x1
  have k2:=vQ 32 x2
  simp only [bE]
  cases r with
  |nil=>simp;omega
  |cons x r=>
   have h3:=lN (c:=59) (s:=s) (x:=x) (by rw [hs];simp)
   have:=hf x
   simp only [List.getElem?_cons_zero];omega
theorem aDa (x:Str):(gU x).length≤x.length:=by unfold gU;split<;>simp
theorem pK [aB Tryz.prog] (s:Str) (c:UInt8) (hl:s.length≤1099511627776):Ok Tryz.prog 114 [.str s,.int .u8 c.toNat] (.sl .view 1 ((bF c s).map bS)):=(rO s c hl).vwas (by simp [rt])
theorem qM [aB Tryz.prog] (s:Str) (hl:s.length≤1073741824):Ok Tryz.prog 104 [.str s] (.tup [.agg (bD .view (sO gU s).1),.bool (sO gU s).2]):=by
 have z1:Ok Tryz.prog 104 [.str []] (.tup [.agg [.bool false,.sl .own 1 [],.sl .own 1 [],.sl .own 1 [],.str []],.bool true]):=by
  refine uW Tryz.mix Tryz.func104 Tryz.ntmps104 ?_
  have W:=trivial
  repeat' first|refine st ?_|(refine nx ?_;first|refine se ?_|refine so ?_)|(refine cx ?_;refine sc (fun hc=>?_) (fun hc=>?_)<;>try exact hc.elim)|(refine lx ?_;refine sp (fun hc=>?_) (fun hc=>?_)<;>try exact hc.elim)|refine sx ?_ ?_|refine sy ?_ ?_|fail
  all_goals (try (first|(refine ⟨.inr rfl,.inl ?_⟩;simp [dF,Tryz.results104];done)|(refine ⟨.inr rfl,.inr (gZ ?_)⟩;simp [AS.rvB,AS.rvs,AS.rv,Tryz.results104];done)|(refine ⟨.inr rfl,.inl ?_⟩;simp [dF,Tryz.results104])))
 have c0:Ok Tryz.prog 114 [.str s,.int .u8 59] (.sl .view 1 ((bF 59 s).map bS)):=pK s 59 (by omega)
 unfold sO
 by_cases h0:s=[]
 ·rw [if_pos h0]
  subst h0
  exact z1.vwas (by simp [rt,rtc,kR])
 rw [if_neg h0]
 by_cases h3:(bF 59 s).length < 3
 ·rw [if_pos h3]
  have z2:Ok Tryz.prog 104 [.str s] (.tup [.agg [.bool false,.sl .own 1 [],.sl .own 1 [],.sl .own 1 [],.str []],.bool false]):=by
   have h3':((bF 59 s).length:Int) < 3:=by omega
   generalize bF 59 s=L at *
   refine uW Tryz.mix Tryz.func104 Tryz.ntmps104 ?_
   have W:=And.intro h0 (And.intro h3' h3)
   have V:=h0
   repeat' first|refine st ?_|(refine nx ?_;first|refine se ?_|refine so ?_)|(refine cx ?_;refine sc (fun hc=>?_) (fun hc=>?_)<;>try exact hc.elim)|(refine lx ?_;refine sp (fun hc=>?_) (fun hc=>?_)<;>try exact hc.elim)|refine sx ?_ ?_|refine sy ?_ ?_|fail
   all_goals (try (first|(refine ⟨.inr rfl,.inl ?_⟩;simp [dF,Tryz.results104];done)|(refine ⟨.inr rfl,.inr (gZ ?_)⟩;simp [AS.rvB,AS.rvs,AS.rv,Tryz.results104];done)|(refine ⟨.inr rfl,.inl ?_⟩;simp [dF,Tryz.results104])))
   all_goals exact absurd (by assumption) h0
  exact z2.vwas (by simp [rt,rtc,kR])
 rw [if_neg h3]
 have hz:=aBi gU aDa h3
 have cf:=oL (lI gU s) (by omega)
 obtain ⟨x0,x1,x2,r,hs⟩:∃x0 x1 x2 r,bF 59 s=x0::x1::x2::r:=by
  match hs:bF 59 s with
  |[]=>rw [hs] at h3;simp at h3
  |[_]=>rw [hs] at h3;simp at h3
  |[_,_]=>rw [hs] at h3;simp at h3
  |x0::x1::x2::r=>exact ⟨x0,x1,x2,r,rfl⟩
 have m0:=lN (c:=59) (s:=s) (x:=x0) (by rw [hs];simp)
 have m1:=lN (c:=59) (s:=s) (x:=x1) (by rw [hs];simp)
 have m2:=lN (c:=59) (s:=s) (x:=x2) (by rw [hs];simp)
 have hrl:r.length≤s.length:=by
  have:=jP 59 s
  have h3:=List.count_le_length (a:=(59:UInt8)) (l:=s)
  rw [hs] at this;simp at this;omega
 rw [hs] at c0
 have e:=aAb gU hs
 have c1:Ok Tryz.prog 114 [.str x0,.int .u8 32] (.sl .view 1 ((bF 32 x0).map bS)):=pK x0 32 (by omega)
 have c2:Ok Tryz.prog 114 [.str x1,.int .u8 32] (.sl .view 1 ((bF 32 x1).map bS)):=pK x1 32 (by omega)
 have c3:Ok Tryz.prog 114 [.str x2,.int .u8 32] (.sl .view 1 ((bF 32 x2).map bS)):=pK x2 32 (by omega)
 obtain ⟨y0,t0,e0⟩:=List.exists_cons_of_ne_nil (nI 32 x0)
 obtain ⟨y1,t1,e1⟩:=List.exists_cons_of_ne_nil (nI 32 x1)
 obtain ⟨y2,t2,e2⟩:=List.exists_cons_of_ne_nil (nI 32 x2)
 rw [e0] at c1;rw [e1] at c2;rw [e2] at c3
 rw [e0,e1,e2] at e
 simp only [List.tail_cons] at e
 clear hs m0 m1 m2 e0 e1 e2 h3 hz
 have tk:∀(t:List Str),(t.map bS).take t.length=t.map bS:=fun t=>List.take_of_length_le (by simp)
 have key:∀(n:Str),lI gU s=⟨true,t0,t1,t2,n⟩→∀b,decide (gL (lI gU s)=s)=b→Ok Tryz.prog 96 [.agg [.bool true,.sl .view 1 (t0.map bS),.sl .view 1 (t1.map bS),.sl .view 1 (t2.map bS),.str n]] (.str (gL (lI gU s))):=by
  intro n hn b _
  rw [hn] at cf⊢
  simpa only [bD] using cf
 have hres:∀n,lI gU s=⟨true,t0,t1,t2,n⟩→(Ok Tryz.prog 96 [.agg [.bool true,.sl .view 1 (t0.map bS),.sl .view 1 (t1.map bS),.sl .view 1 (t2.map bS),.str n]] (.str (gL (lI gU s))))→
   Ok Tryz.prog 104 [.str s] (if gL (lI gU s)=s then .tup [.agg [.bool true,.sl .view 1 (t0.map bS),.sl .view 1 (t1.map bS),.sl .view 1 (t2.map bS),.str n],.bool true] else .tup [.agg [.bool false,.sl .own 1 [],.sl .own 1 [],.sl .own 1 [],.str []],.bool false]):=by
  intro n hn cF
  rw [e] at hn
  simp only [bX.mk.injEq,true_and] at hn
  subst hn
  generalize gL (lI gU s)=F at *
  cases r with
  |nil=>
   simp only [List.getElem?_nil] at cF⊢
   by_cases hF:F=s
   ·rw [if_pos hF]
    refine uW Tryz.mix Tryz.func104 Tryz.ntmps104 ?_
    have W:=And.intro h0 (And.intro hF tk)
    have V:=And.intro h0 tk
    repeat' first|refine st ?_|(refine nx ?_;first|refine se ?_|refine so ?_)|(refine cx ?_;refine sc (fun hc=>?_) (fun hc=>?_)<;>try exact hc.elim)|(refine lx ?_;refine sp (fun hc=>?_) (fun hc=>?_)<;>try exact hc.elim)|refine sx ?_ ?_|refine sy ?_ ?_|fail
    all_goals (try (first|(refine ⟨.inr rfl,.inl ?_⟩;simp [dF,Tryz.results104];done)|(refine ⟨.inr rfl,.inr (gZ ?_)⟩;simp [AS.rvB,AS.rvs,AS.rv,Tryz.results104];done)|(refine ⟨.inr rfl,.inl ?_⟩;simp [dF,Tryz.results104])))
    all_goals first|exact absurd (by assumption) h0|omega|simp_all
   ·rw [if_neg hF]
    refine uW Tryz.mix Tryz.func104 Tryz.ntmps104 ?_
    have W:=And.intro h0 (And.intro hF tk)
    have V:=And.intro h0 tk
    repeat' first|refine st ?_|(refine nx ?_;first|refine se ?_|refine so ?_)|(refine cx ?_;refine sc (fun hc=>?_) (fun hc=>?_)<;>try exact hc.elim)|(refine lx ?_;refine sp (fun hc=>?_) (fun hc=>?_)<;>try exact hc.elim)|refine sx ?_ ?_|refine sy ?_ ?_|fail
    all_goals (try (first|(refine ⟨.inr rfl,.inl ?_⟩;simp [dF,Tryz.results104];done)|(refine ⟨.inr rfl,.inr (gZ ?_)⟩;simp [AS.rvB,AS.rvs,AS.rv,Tryz.results104];done)|(refine ⟨.inr rfl,.inl ?_⟩;simp [dF,Tryz.results104])))
    all_goals first|exact absurd (by assumption) h0|omega|simp_all
  |cons x r=>
   simp only [List.getElem?_cons_zero] at cF⊢
   unfold gU at cF⊢
   by_cases hx:6 < x.length
   ·rw [if_pos hx] at cF⊢
    by_cases hF:F=s
    ·rw [if_pos hF]
     refine uW Tryz.mix Tryz.func104 Tryz.ntmps104 ?_
     have W:=And.intro h0 (And.intro hF (And.intro hx tk))
     have V:=And.intro h0 tk
     repeat' first|refine st ?_|(refine nx ?_;first|refine se ?_|refine so ?_)|(refine cx ?_;refine sc (fun hc=>?_) (fun hc=>?_)<;>try exact hc.elim)|(refine lx ?_;refine sp (fun hc=>?_) (fun hc=>?_)<;>try exact hc.elim)|refine sx ?_ ?_|refine sy ?_ ?_|fail
     all_goals (try (first|(refine ⟨.inr rfl,.inl ?_⟩;simp [dF,Tryz.results104];done)|(refine ⟨.inr rfl,.inr (gZ ?_)⟩;simp [AS.rvB,AS.rvs,AS.rv,Tryz.results104];done)|(refine ⟨.inr rfl,.inl ?_⟩;simp [dF,Tryz.results104])))
     all_goals first|exact absurd (by assumption) h0|omega|simp_all
    ·rw [if_neg hF]
     refine uW Tryz.mix Tryz.func104 Tryz.ntmps104 ?_
     have W:=And.intro h0 (And.intro hF (And.intro hx tk))
     have V:=And.intro h0 tk
     repeat' first|refine st ?_|(refine nx ?_;first|refine se ?_|refine so ?_)|(refine cx ?_;refine sc (fun hc=>?_) (fun hc=>?_)<;>try exact hc.elim)|(refine lx ?_;refine sp (fun hc=>?_) (fun hc=>?_)<;>try exact hc.elim)|refine sx ?_ ?_|refine sy ?_ ?_|fail
     all_goals (try (first|(refine ⟨.inr rfl,.inl ?_⟩;simp [dF,Tryz.results104];done)|(refine ⟨.inr rfl,.inr (gZ ?_)⟩;simp [AS.rvB,AS.rvs,AS.rv,Tryz.results104];done)|(refine ⟨.inr rfl,.inl ?_⟩;simp [dF,Tryz.results104])))
     all_goals first|exact absurd (by assumption) h0|omega|simp_all
   ·rw [if_neg hx] at cF⊢
    by_cases hF:F=s
    ·rw [if_pos hF]
     refine uW Tryz.mix Tryz.func104 Tryz.ntmps104 ?_
     have W:=And.intro h0 (And.intro hF (And.intro hx tk))
     have V:=And.intro h0 tk
     repeat' first|refine st ?_|(refine nx ?_;first|refine se ?_|refine so ?_)|(refine cx ?_;refine sc (fun hc=>?_) (fun hc=>?_)<;>try exact hc.elim)|(refine lx ?_;refine sp (fun hc=>?_) (fun hc=>?_)<;>try exact hc.elim)|refine sx ?_ ?_|refine sy ?_ ?_|fail
     all_goals (try (first|(refine ⟨.inr rfl,.inl ?_⟩;simp [dF,Tryz.results104];done)|(refine ⟨.inr rfl,.inr (gZ ?_)⟩;simp [AS.rvB,AS.rvs,AS.rv,Tryz.results104];done)|(refine ⟨.inr rfl,.inl ?_⟩;simp [dF,Tryz.results104])))
     all_goals first|exact absurd (by assumption) h0|omega|simp_all
    ·rw [if_neg hF]
     refine uW Tryz.mix Tryz.func104 Tryz.ntmps104 ?_
     have W:=And.intro h0 (And.intro hF (And.intro hx tk))
     have V:=And.intro h0 tk
     repeat' first|refine st ?_|(refine nx ?_;first|refine se ?_|refine so ?_)|(refine cx ?_;refine sc (fun hc=>?_) (fun hc=>?_)<;>try exact hc.elim)|(refine lx ?_;refine sp (fun hc=>?_) (fun hc=>?_)<;>try exact hc.elim)|refine sx ?_ ?_|refine sy ?_ ?_|fail
     all_goals (try (first|(refine ⟨.inr rfl,.inl ?_⟩;simp [dF,Tryz.results104];done)|(refine ⟨.inr rfl,.inr (gZ ?_)⟩;simp [AS.rvB,AS.rvs,AS.rv,Tryz.results104];done)|(refine ⟨.inr rfl,.inl ?_⟩;simp [dF,Tryz.results104])))
     all_goals first|exact absurd (by assumption) h0|omega|simp_all
 have:=hres _ e (key _ e _ rfl)
 by_cases hF:gL (lI gU s)=s
 ·rw [if_pos hF] at this⊢
  rw [e]
  exact this.vwas (by simp [rt,rtc])
 ·rw [if_neg hF] at this⊢
  exact this.vwas (by simp [rt,rtc,kR])
end Go.Proofs.YtejigeoigebhcaaGreat
