/-
  Proved here: steps towards the statement of this claim, text QJ6.
  No condition beyond what each statement spells out.
-/
import Derived.Test.YtkidoegojckmiaaGreatDoorAJ5
import Derived.Test.YtkidoegojckmiaaGreatDoorAF6
import Derived.Test.YtkidoegojckmiaaGreatDoorAQP5
import Derived.Test.YtkidoegojckmiaaGreatDoorAQ1
import Derived.Test.YtkidoegojckmiaaGreatDoorAF3
set_option linter.all false
set_option maxRecDepth 4000
set_option maxHeartbeats 4000000
namespace Go.Proofs.YtkidoegojckmiaaGreatDoor
open Go.Aw
def eB (x:aR):Bool:=
 (decide (100≤x.status)&&decide (x.status≤599))&&(decide (1≤x.kind)&&decide (x.kind≤5))&&decide (x.body.length≤400)&&(decide (0≤x.age)&&decide (x.age≤1000))&&(dC x.policy).2
theorem aAg [aB Tryz.prog] [bV Tryz.prog] (s:Str) (hl:s.length≤1073741824):Ok Tryz.prog 74 [.str s] (.tup [.agg (aS .own (dC s).1),.bool (dC s).2]):=by
 have h:=zJ s hl
 rw [aNt s] at h
 exact h
theorem sW [aB Tryz.prog] [bV Tryz.prog] (x:aR) (hl:bE x≤1073741824):Ok Tryz.prog 69 [.agg (bA x)] (.bool (eB x)):=by
 simp only [bE] at hl
 have c0:Ok Tryz.prog 102 [.str x.policy] (.tup [.agg (aS .view (dC x.policy).1),.bool (dC x.policy).2]):=sK x.policy (by omega)
 have c1:=gH x.status 100 599
 have c2:=gH x.kind 1 5
 have c3:=gH x.age 0 1000
 have e:decide (x.body.length≤400)=decide ((x.body.length:Int)≤400):=by simp only [decide_eq_decide];omega
 unfold eB
 rw [e]
 generalize (decide (100≤x.status)&&decide (x.status≤599))=b1 at *
 generalize (decide (1≤x.kind)&&decide (x.kind≤5))=b2 at *
 generalize (decide (0≤x.age)&&decide (x.age≤1000))=b3 at *
 generalize (dC x.policy).1=q at *
 generalize (dC x.policy).2=b4 at *
 simp only [aS] at c0
 refine ent Tryz.mix Tryz.func69 Tryz.ntmps69 ?_
 have W:=trivial
 repeat' first|refine st ?_|(refine nx ?_;first|refine se ?_|refine so ?_)|(refine cx ?_;refine sc (fun hc=>?_) (fun hc=>?_)<;>try exact hc.elim)|(refine lx ?_;refine sp (fun hc=>?_) (fun hc=>?_)<;>try exact hc.elim)|refine sx ?_ ?_|refine sy ?_ ?_|fail
 all_goals (try (refine ⟨.inr rfl,?_⟩;simp [Hands,Tryz.results69]))
 all_goals first|(simp_all;done)|(simp_all;omega)|(simp_all;intros;omega)
theorem aBv [aB Tryz.prog] [bV Tryz.prog] (x:aR) (hl:bE x≤1073741824):Ok Tryz.prog 43 [.agg (bA x)] (.bool (eB x)):=by
 simp only [bE] at hl
 have c0:=aAg x.policy (by omega)
 have c1:=lW x.status 100 599
 have c2:=lW x.kind 1 5
 have c3:=lW x.age 0 1000
 have e:decide (x.body.length≤400)=decide ((x.body.length:Int)≤400):=by simp only [decide_eq_decide];omega
 unfold eB
 rw [e]
 generalize (decide (100≤x.status)&&decide (x.status≤599))=b1 at *
 generalize (decide (1≤x.kind)&&decide (x.kind≤5))=b2 at *
 generalize (decide (0≤x.age)&&decide (x.age≤1000))=b3 at *
 generalize (dC x.policy).1=q at *
 generalize (dC x.policy).2=b4 at *
 simp only [aS] at c0
 refine ent Tryz.mix Tryz.func43 Tryz.ntmps43 ?_
 have W:=trivial
 repeat' first|refine st ?_|(refine nx ?_;first|refine se ?_|refine so ?_)|(refine cx ?_;refine sc (fun hc=>?_) (fun hc=>?_)<;>try exact hc.elim)|(refine lx ?_;refine sp (fun hc=>?_) (fun hc=>?_)<;>try exact hc.elim)|refine sx ?_ ?_|refine sy ?_ ?_|fail
 all_goals (try (refine ⟨.inr rfl,?_⟩;simp [Hands,Tryz.results43]))
 all_goals first|(simp_all;done)|(simp_all;omega)|(simp_all;intros;omega)
def nI:gD:=⟨[⟨[112,97,103,101],[], -1,[]⟩],[0]⟩
theorem aBp [aB Tryz.prog] [bV Tryz.prog]:Ok Tryz.prog 165 [] (.agg (dG .own nI)):=by
 refine ent Tryz.mix Tryz.func165 Tryz.ntmps165 ?_
 have W:=trivial
 repeat' first|refine st ?_|(refine nx ?_;first|refine se ?_|refine so ?_)|(refine cx ?_;refine sc (fun hc=>?_) (fun hc=>?_)<;>try exact hc.elim)|(refine lx ?_;refine sp (fun hc=>?_) (fun hc=>?_)<;>try exact hc.elim)|refine sx ?_ ?_|refine sy ?_ ?_|fail
 all_goals (try (refine ⟨.inr rfl,?_⟩;simp [Hands,Tryz.results165,nI]))
def sS:aZ:=⟨⟨[],[]⟩,iK,⟨[]⟩,[],false,⟨[],[]⟩,[],[],[],0,0,0,0,[],[],false⟩
def aDs (a:bC) (p:bH):aZ:=⟨a,p,⟨[]⟩,[],false,nI,[],[],[],0,0,0,0,[],[],false⟩
def nQ (a:bC) (x:aR):aZ×Bool:=
 if mY a=true∧eB x=true∧x.status=200∧x.kind=1 then (aDs a (dC x.policy).1,true) else (sS,false)
theorem aOd (a:bC) (x:aR):nQ a x=if (!mY a || !eB x || !decide (x.status=200) || !decide (x.kind=1))=true then (sS,false) else (aDs a (dC x.policy).1,true):=by
 unfold nQ
 cases mY a<;>cases eB x<;>by_cases h1:x.status=200<;>by_cases h2:x.kind=1<;>simp [h1,h2]
theorem aFa [aB Tryz.prog] [bV Tryz.prog] (a : bC) (x : aR) (ha : eH a ≤ 1073741824) (hl : bE x ≤ 1073741824) : Ok Tryz.prog 142 [.agg (bF a), .agg (bA x)] (.tup [.agg (aU .view (nQ a x).1), .bool (nQ a x).2]) := by
  have c1 := yV a (by omega)
  simp only [eH] at ha
  have c2 := sW x hl
  have c4 := aBp
  have hb : eB x = true → (dC x.policy).2 = true := by
    intro h
    simp only [eB, Bool.and_eq_true] at h
    exact h.2
  simp only [bE] at hl
  have c3 : Ok Tryz.prog 102 [.str x.policy] (.tup [.agg (aS .view (dC x.policy).1), .bool (dC x.policy).2]) := sK x.policy (by omega)
  simp only [bF] at c1
  simp only [bA] at c2
  simp only [aS] at c3
  simp only [dG, nI, List.map_cons, List.map_nil, dE, jT] at c4
  rw [aOd]
  generalize mY a = b1 at *
  generalize eB x = b2 at *
  generalize (dC x.policy).1 = q at *
  generalize (dC x.policy).2 = b4 at *
  have bad : (b1 = false ∨ b2 = false ∨ x.status ≠ 200 ∨ x.kind ≠ 1) → Ok Tryz.prog 142 [.agg (bF a), .agg (bA x)] (.tup [.agg (aU .own sS), .bool false]) := by
    intro h
    by_cases h1 : x.status = 200 <;> by_cases h2 : x.kind = 1 <;> cases b1 <;> cases b2 <;> cases b4
    all_goals first
      | exact (Bool.false_ne_true (hb rfl)).elim
      | (exfalso; simp_all; done)
      | ((try rw [h1] at c2)
         (try rw [h2] at c2)
         refine wS Tryz.mix Tryz.func142 Tryz.ntmps142 ?_
         have W := And.intro h1 h2
         repeat' first|refine st ?_|(refine nx ?_;first|refine se ?_|refine so ?_)|(refine cx ?_;refine sc (fun hc=>?_) (fun hc=>?_)<;>try exact hc.elim)|(refine lx ?_;refine sp (fun hc=>?_) (fun hc=>?_)<;>try exact hc.elim)|refine sx ?_ ?_|refine sy ?_ ?_|fail
         all_goals (try (first | (refine ⟨.inr rfl, .inl ?_⟩; simp [dY, Tryz.results142, sS, iK, h1, h2]; done) | (refine ⟨.inr rfl, .inr (iW ?_)⟩; simp [AS.rvB, AS.rvs, AS.rv, Tryz.results142, sS, iK, h1, h2]; done) | (refine ⟨.inr rfl, .inl ?_⟩; simp [dY, Tryz.results142, sS, iK, h1, h2])))
         done)
  have good : b1 = true → b2 = true → x.status = 200 → x.kind = 1 → Ok Tryz.prog 142 [.agg (bF a), .agg (bA x)] (.tup [.agg [.str a.host, .str a.path, .bool q.isSet, .sl .view 1 (q.scripts.map aK), .sl .view 1 (q.styles.map aK), .sl .view 1 (q.images.map aK), .str q.nonce, .str [], .sl .own 4 [], .bool false, .sl .own 4 [[.str [112, 97, 103, 101], .str [], .int .i64 (-1), .sl .own 2 []]], .sl .own 1 [[.int .i64 0]], .sl .own 8 [], .sl .own 5 [], .sl .own 2 [], .int .i64 0, .int .i64 0, .int .i64 0, .int .i64 0, .sl .own 2 [], .sl .own 1 [], .bool false], .bool true]) := by
    intro h1 h2 h3 h4
    have hb' := hb h2
    subst h1; subst h2; subst hb'
    rw [h3, h4] at c2
    refine wS Tryz.mix Tryz.func142 Tryz.ntmps142 ?_
    have W := And.intro h3 h4
    repeat' first|refine st ?_|(refine nx ?_;first|refine se ?_|refine so ?_)|(refine cx ?_;refine sc (fun hc=>?_) (fun hc=>?_)<;>try exact hc.elim)|(refine lx ?_;refine sp (fun hc=>?_) (fun hc=>?_)<;>try exact hc.elim)|refine sx ?_ ?_|refine sy ?_ ?_|fail
    all_goals (try (first | (refine ⟨.inr rfl, .inl ?_⟩; simp [dY, Tryz.results142, h3, h4]; done) | (refine ⟨.inr rfl, .inr (iW ?_)⟩; simp [AS.rvB, AS.rvs, AS.rv, Tryz.results142, h3, h4]; done) | (refine ⟨.inr rfl, .inl ?_⟩; simp [dY, Tryz.results142, h3, h4])))
  by_cases hc : (!b1 || !b2 || !decide (x.status = 200) || !decide (x.kind = 1)) = true
  · rw [if_pos hc]
    refine (bad ?_).vwas (by simp [rt, rtc, rtr, sS, iK])
    simp only [Bool.or_eq_true, Bool.not_eq_true', decide_eq_false_iff_not] at hc
    rcases hc with ((h | h) | h) | h
    · exact .inl h
    · exact .inr (.inl h)
    · exact .inr (.inr (.inl h))
    · exact .inr (.inr (.inr h))
  · rw [if_neg hc]
    simp only [Bool.or_eq_true, Bool.not_eq_true', decide_eq_false_iff_not, not_or, Bool.not_eq_false, Decidable.not_not] at hc
    exact (good hc.1.1.1 hc.1.1.2 hc.1.2 hc.2).vwas (by simp [rt, rtc, rtr, aDs, nI])
theorem aPa [aB Tryz.prog] [bV Tryz.prog] (s:Str) (c:UInt8) (hs:s.length < 4294967281):Ok Tryz.prog 81 [.str s,.str [c]] (.sl .own 1 ((aT c s).map aK)):=aJy Tryz.laysM146 (by kernel_rfl) s c hs
def bT:dM:=⟨0,[],[],[]⟩
def iO (w:Str):Str:=w.take (ixB 61 w)
def jL (w:Str):Str:=w.drop (ixB 61 w+1)
def dO:List Str→List iF→Option (List iF)
 |[],acc=>some acc
 |w::ws,acc=>if (decide (ixB 61 w < w.length)&&bL (iO w)&&dB (jL w)&& !(iM acc (iO w)).2)=true then dO ws (acc++[⟨iO w,jL w⟩]) else none
def rW (w0:Str) (ws:List Str):dM×Bool:=
 if bL w0=true∧ws.length≤4 then (match dO ws [] with
  |some l=>(⟨1,w0,l,[]⟩,true)
  |none=>(bT,false)) else (bT,false)
def lL (s:Str):dM×Bool:=
 if 60 < s.length then (bT,false)
 else if pfx [47] s=true then (if bL (s.drop 1)=true then (⟨2,s.drop 1,[],[]⟩,true) else (bT,false))
 else rW (s.take (ixB 32 s)) (if ixB 32 s < s.length then aT 32 (s.drop (ixB 32 s+1)) else [])
theorem mR (c:UInt8) (s:Str):aT c s=s.take (ixB c s)::(if ixB c s < s.length then aT c (s.drop (ixB c s+1)) else []):=by
 rw [aF3]
 have h:=uN c s
 split
 ·rfl
 ·rw [List.take_of_length_le (by omega)]
theorem aQ1 {w0:Str} {ws:List Str} (h:¬(bL w0=true∧ws.length≤4)):rW w0 ws=(bT,false):=by unfold rW;rw [if_neg h]
theorem aNh {w0:Str} {ws:List Str} (h:dO ws []=none):rW w0 ws=(bT,false):=by
 unfold rW;rw [h];split<;>rfl
theorem aOq {w0:Str} {ws:List Str} {l:List iF} (h1:bL w0=true) (h2:ws.length≤4) (h:dO ws []=some l):rW w0 ws=(⟨1,w0,l,[]⟩,true):=by
 unfold rW;rw [h,if_pos ⟨h1,h2⟩]
theorem vD:∀(ws:List Str) (acc l:List iF),dO ws acc=some l→l.length=acc.length+ws.length
 |[],acc,l,h=>by simp only [dO,Option.some.injEq] at h;subst h;simp
 |w::ws,acc,l,h=>by
  simp only [dO] at h
  split at h
  ·have:=vD ws _ l h
   simp at this⊢;omega
  ·cases h
theorem aCd:∀(ws:List Str) (acc l:List iF),dO ws acc=some l→szL sD l≤szL sD acc+bD bU ws
 |[],acc,l,h=>by simp only [dO,Option.some.injEq] at h;subst h;simp [bD]
 |w::ws,acc,l,h=>by
  simp only [dO] at h
  split at h
  ·rename_i hc
   simp only [Bool.and_eq_true,decide_eq_true_eq] at hc
   have:=aCd ws _ l h
   have hj:∀a b:List iF,bD sD (a++b)=bD sD a+bD sD b:=by
    intro a b
    induction a with
    |nil=>simp [bD]
    |cons x xs ih=>simp only [List.cons_append,bD,ih];omega
   simp only [szL,hj,bD,sD,iO,jL,List.length_append,List.length_take,List.length_drop,List.length_cons,List.length_nil,bU] at this⊢
   omega
  ·cases h
theorem sI (c:UInt8):∀s:Str,bD bU (aT c s)≤s.length
 |[]=>by simp [aT,bD,bU]
 |x::s=>by
  have ih:=sI c s
  simp only [aT]
  split
  ·simp only [bD,bU,List.length_nil,List.length_cons] at ih⊢;omega
  ·split
   ·rename_i h0;exact absurd h0 (lV c s)
   ·rename_i p q h0
    rw [h0] at ih
    simp only [bD,bU,List.length_cons] at ih⊢;omega
theorem aR7 (s:Str):eO (lL s).1≤s.length:=by
 have hn:eO bT=0:=by simp [bT,eO,szL,bD]
 unfold lL
 split
 ·simp only [hn];omega
 ·split
  ·split
   ·simp [eO,szL,bD]
   ·simp only [hn];omega
  ·have hs:=sI 32 s
   rw [mR] at hs
   simp only [bD,bU] at hs
   generalize (if ixB 32 s < s.length then aT 32 (s.drop (ixB 32 s+1)) else [])=ws at *
   unfold rW
   split
   ·split
    ·rename_i l hl
     have:=aCd ws [] l hl
     simp only [eO,szL,bD,List.length_nil] at this⊢
     omega
    ·simp only [hn];omega
   ·simp only [hn];omega
end Go.Proofs.YtkidoegojckmiaaGreatDoor
