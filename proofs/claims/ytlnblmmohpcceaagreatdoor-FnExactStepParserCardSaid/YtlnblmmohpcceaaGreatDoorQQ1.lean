/-
  Proved here: steps towards the statement of this claim, text QQ1.
  No condition beyond what each statement spells out.
-/
import Derived.Test.YtlnblmmohpcceaaGreatDoorQD1
import Derived.Test.YtlnblmmohpcceaaGreatDoorQT1
import Derived.Test.YtlnblmmohpcceaaGreatDoorF3
import Derived.Test.YtlnblmmohpcceaaGreatDoorF6
set_option linter.all false
set_option maxRecDepth 4000
set_option maxHeartbeats 4000000
namespace Go.Proofs.YtlnblmmohpcceaaGreatDoor
open Go.Aw
def pQ (c:UInt8):Bool:=(decide (97≤c.toNat)&&decide (c.toNat≤122)) || (decide (48≤c.toNat)&&decide (c.toNat≤57)) || decide (c.toNat=47)
def gZ (s:Str):Bool:=s.all pQ&&(decide (1≤s.length)&&decide (s.length≤20))
theorem aR1 {s:Str} {k:Nat} (h:k < s.length) (hc:pQ s[k]=false):gZ s=false:=by
 have:s.all pQ=false:=by
  rw [List.all_eq_false]
  exact ⟨s[k],List.getElem_mem h,by simp [hc]⟩
 simp [gZ,this]
theorem aNk {s:Str} (h:∀x∈s,pQ x=true):gZ s=(decide ((1:Int)≤s.length)&&decide ((s.length:Int)≤20)):=by
 have:s.all pQ=true:=List.all_eq_true.2 h
 have h1:decide ((1:Int)≤s.length)=decide (1≤s.length):=by simp only [decide_eq_decide];omega
 have h2:decide ((s.length:Int)≤20)=decide (s.length≤20):=by simp only [decide_eq_decide];omega
 rw [gZ,this,h1,h2,Bool.true_and]
theorem yB [aA Tryz.prog] (s : Str) (hl : s.length ≤ 1099511627776) : Ok Tryz.prog 258 [.str s] (.bool (gZ s)) := by
  have h1 := gM s.length 1 20
  refine ent Tryz.mix Tryz.func258 Tryz.ntmps258 ?_
  have W := trivial
  repeat' first|refine we ?_|(refine sq (fun hc=>?_) (fun hc=>?_)<;>try exact hc.elim)|fail
  refine aM (ι := { k : Nat // k ≤ s.length ∧ ∀ x ∈ s.take k, pQ x = true }) (fun t o i => ⟨aO t [(3, .int .i64 i.1)], o⟩)
    (fun i => s.length - i.1) ⟨0, by simp, by simp⟩ (aH (by simp) (by simp)) ?_
  rintro ⟨k, hk, hi⟩ K1 hK1
  simp only [aO, List.set_cons_succ, List.set_cons_zero] at hK1 ⊢
  have hk1 : IntKind.i64.wrap ((k : Int) + 1) = ((k + 1 : Nat) : Int) := by rw [wrap64] <;> omega
  by_cases hlt : k < s.length
  · have hg := List.getElem?_eq_getElem hlt
    have W := And.intro hk1 (And.intro hg hlt)
    repeat' first|refine we ?_|(refine sq (fun hc=>?_) (fun hc=>?_)<;>try exact hc.elim)|fail
    all_goals first
      | exact hK1 _ ⟨k + 1, by omega, dP hlt hi (by simp [pQ]; omega)⟩ (aH (by simp) (by simp)) (by simp only; omega)
      | (rw [aR1 hlt (by simp [pQ]; omega)]
         all_goals (try (refine ⟨.inr rfl, ?_⟩; simp [Hands, Tryz.results258]))
         done)
  · have W := hk1
    repeat' first|refine we ?_|(refine sq (fun hc=>?_) (fun hc=>?_)<;>try exact hc.elim)|fail
    all_goals (try (refine ⟨.inr rfl, ?_⟩; simp [Hands, Tryz.results258]))
    rw [aNk (kG (by omega) hi)]
theorem aCr [aA Tryz.prog] (s : Str) (hl : s.length ≤ 1099511627776) : Ok Tryz.prog 200 [.str s] (.bool (gZ s)) := by
  have h1 := jT s.length 1 20
  refine ent Tryz.mix Tryz.func200 Tryz.ntmps200 ?_
  have W := trivial
  repeat' first|refine we ?_|(refine sq (fun hc=>?_) (fun hc=>?_)<;>try exact hc.elim)|fail
  refine aM (ι := { k : Nat // k ≤ s.length ∧ ∀ x ∈ s.take k, pQ x = true }) (fun t o i => ⟨aO t [(3, .int .i64 i.1)], o⟩)
    (fun i => s.length - i.1) ⟨0, by simp, by simp⟩ (aH (by simp) (by simp)) ?_
  rintro ⟨k, hk, hi⟩ K1 hK1
  simp only [aO, List.set_cons_succ, List.set_cons_zero] at hK1 ⊢
  have hk1 : IntKind.i64.wrap ((k : Int) + 1) = ((k + 1 : Nat) : Int) := by rw [wrap64] <;> omega
  by_cases hlt : k < s.length
  · have hg := List.getElem?_eq_getElem hlt
    have W := And.intro hk1 (And.intro hg hlt)
    repeat' first|refine we ?_|(refine sq (fun hc=>?_) (fun hc=>?_)<;>try exact hc.elim)|fail
    all_goals first
      | exact hK1 _ ⟨k + 1, by omega, dP hlt hi (by simp [pQ]; omega)⟩ (aH (by simp) (by simp)) (by simp only; omega)
      | (rw [aR1 hlt (by simp [pQ]; omega)]
         all_goals (try (refine ⟨.inr rfl, ?_⟩; simp [Hands, Tryz.results200]))
         done)
  · have W := hk1
    repeat' first|refine we ?_|(refine sq (fun hc=>?_) (fun hc=>?_)<;>try exact hc.elim)|fail
    all_goals (try (refine ⟨.inr rfl, ?_⟩; simp [Hands, Tryz.results200]))
    rw [aNk (kG (by omega) hi)]
def yS (r:gY):Bool:=(decide (1≤r.kind)&&decide (r.kind≤5))&&uG r.to&&bS r.frm&&(r.digest == [] || gZ r.digest)
theorem aI8 [aA Tryz.prog] (r:gY) (hl:nR r≤1099511627776):Ok Tryz.prog 294 [.agg (iJ r)] (.bool (yS r)):=by
 simp only [nR] at hl
 have c1:=gM r.kind 1 5
 have c2:=uO r.to (by omega)
 have c3:=eP r.frm (by omega)
 have c4:=yB r.digest (by omega)
 simp only [aF] at c2
 unfold yS
 generalize (decide (1≤r.kind)&&decide (r.kind≤5))=b1 at *
 generalize uG r.to=b2 at *
 generalize bS r.frm=b3 at *
 generalize gZ r.digest=b4 at *
 refine ent Tryz.mix Tryz.func294 Tryz.ntmps294 ?_
 have W:=trivial
 repeat' first|refine we ?_|(refine sq (fun hc=>?_) (fun hc=>?_)<;>try exact hc.elim)|fail
 all_goals (try (refine ⟨.inr rfl,?_⟩;simp [Hands,Tryz.results294]))
 all_goals simp_all
theorem aIk [aA Tryz.prog] (r:gY) (hl:nR r≤1099511627776):Ok Tryz.prog 297 [.agg (iJ r)] (.bool (yS r)):=by
 simp only [nR] at hl
 have c1:=jT r.kind 1 5
 have c2:=uR r.to (by omega)
 have c3:=gJ r.frm (by omega)
 have c4:=aCr r.digest (by omega)
 simp only [aF] at c2
 unfold yS
 generalize (decide (1≤r.kind)&&decide (r.kind≤5))=b1 at *
 generalize uG r.to=b2 at *
 generalize bS r.frm=b3 at *
 generalize gZ r.digest=b4 at *
 refine ent Tryz.mix Tryz.func297 Tryz.ntmps297 ?_
 have W:=trivial
 repeat' first|refine we ?_|(refine sq (fun hc=>?_) (fun hc=>?_)<;>try exact hc.elim)|fail
 all_goals (try (refine ⟨.inr rfl,?_⟩;simp [Hands,Tryz.results297]))
 all_goals simp_all
def allows (p:fC) (kind:Int) (host:Str):Bool:=
 if p.isSet=false then true else if kind=2∨kind=5 then p.scripts.any (fun x=>x == host) else if kind=3 then p.styles.any (fun x=>x == host) else if kind=4 then p.images.any (fun x=>x == host) else false
theorem bE6 {l:List Str} {k:Nat} (h:k < l.length) {n:Str} (hc:l[k]=n):l.any (fun x=>x == n)=true:=
 List.any_eq_true.2 ⟨_,List.getElem_mem h,by simp [hc]⟩
theorem aD6 [aA Tryz.prog] (l:List Str) (n:Str) (hl:l.length≤1099511627776):Ok Tryz.prog 313 [.sl .view 1 (l.map bU),.str n] (.bool (l.any (fun x=>x == n))):=by
 refine ent Tryz.mix Tryz.func313 Tryz.ntmps313 ?_
 have W:=trivial
 repeat' first|refine we ?_|(refine sq (fun hc=>?_) (fun hc=>?_)<;>try exact hc.elim)|fail
 refine aM (ι:={k:Nat // k≤l.length∧∀x∈l.take k,(x == n)=false}) (fun t o i=>⟨aO t [(5,.int .i64 i.1)],o⟩)
  (fun i=>l.length - i.1) ⟨0,by simp,by simp⟩ (aH (by simp) (by simp)) ?_
 rintro ⟨k,hk,hi⟩ K1 hK1
 simp only [aO,List.set_cons_succ,List.set_cons_zero] at hK1⊢
 have hk1:IntKind.i64.wrap ((k:Int)+1)=((k+1:Nat):Int):=by rw [wrap64]<;>omega
 by_cases hlt:k < l.length
 ·have hg:=List.getElem?_eq_getElem hlt
  have W:=And.intro hk1 (And.intro hg hlt)
  repeat' first|refine we ?_|(refine sq (fun hc=>?_) (fun hc=>?_)<;>try exact hc.elim)|fail
  ·rw [bE6 hlt hc]
   all_goals (try (refine ⟨.inr rfl,?_⟩;simp [Hands,Tryz.results313]))
  ·exact hK1 _ ⟨k+1,by omega,dP hlt hi (by simpa using hc)⟩ (aH (by simp) (by simp)) (by simp only;omega)
 ·have W:=hk1
  repeat' first|refine we ?_|(refine sq (fun hc=>?_) (fun hc=>?_)<;>try exact hc.elim)|fail
  all_goals (try (refine ⟨.inr rfl,?_⟩;simp [Hands,Tryz.results313]))
  have:=kG (by omega) hi
  simpa using this
theorem aUz [aA Tryz.prog] (l:List Str) (n:Str) (hl:l.length≤1099511627776):Ok Tryz.prog 324 [.sl .view 1 (l.map bU),.str n] (.int .i64 (rM (fun x=>x == n) l)):=by
 refine ent Tryz.mix Tryz.func324 Tryz.ntmps324 ?_
 have W:=trivial
 repeat' first|refine we ?_|(refine sq (fun hc=>?_) (fun hc=>?_)<;>try exact hc.elim)|fail
 refine aM (ι:={k:Nat // k≤l.length∧∀x∈l.take k,(x == n)=false}) (fun t o i=>⟨aO t [(8,.int .i64 i.1),(5,.undef)],o⟩)
  (fun i=>l.length - i.1) ⟨0,by simp,by simp⟩ (aH (by simp) (by simp)) ?_
 rintro ⟨k,hk,hi⟩ K1 hK1
 simp only [aO,List.set_cons_succ,List.set_cons_zero] at hK1⊢
 have hk1:IntKind.i64.wrap ((k:Int)+1)=((k+1:Nat):Int):=by rw [wrap64]<;>omega
 by_cases hlt:k < l.length
 ·have hg:=List.getElem?_eq_getElem hlt
  have W:=And.intro hk1 (And.intro hg hlt)
  repeat' first|refine we ?_|(refine sq (fun hc=>?_) (fun hc=>?_)<;>try exact hc.elim)|fail
  ·all_goals (try (refine ⟨.inr rfl,?_⟩;simp [Hands,Tryz.results324]))
   rw [aAf hlt (by simp [hc]) hi]
  ·exact hK1 _ ⟨k+1,by omega,dP hlt hi (by simp only [beq_eq_false_iff_ne];intro h;exact hc h.symm)⟩ (aH (by simp) (by simp)) (by simp only;omega)
 ·have W:=hk1
  repeat' first|refine we ?_|(refine sq (fun hc=>?_) (fun hc=>?_)<;>try exact hc.elim)|fail
  all_goals (try (refine ⟨.inr rfl,?_⟩;simp [Hands,Tryz.results324]))
  rw [sO (kG (by omega) hi)]
theorem xR [aA Tryz.prog] (l:List Str) (n:Str) (hl:l.length≤1099511627776):Ok Tryz.prog 314 [.sl .view 1 (l.map bU),.str n] (.bool (l.any (fun x=>x == n))):=by
 have c1:=aUz l n hl
 refine ent Tryz.mix Tryz.func314 Tryz.ntmps314 ?_
 have W:=trivial
 repeat' first|refine we ?_|(refine sq (fun hc=>?_) (fun hc=>?_)<;>try exact hc.elim)|fail
 all_goals (try (refine ⟨.inr rfl,?_⟩;simp [Hands,Tryz.results314]))
 exact aHg _ _
theorem aPo [aA Tryz.prog] (p:fC) (kind:Int) (host:Str) (hs:gL p≤1099511627776):Ok Tryz.prog 295 [.agg (bJ .view p),.int .i64 kind,.str host] (.bool (allows p kind host)):=by
 simp only [gL,szL] at hs
 have c1:=aD6 p.scripts host (by omega)
 have c2:=aD6 p.styles host (by omega)
 have c3:=aD6 p.images host (by omega)
 unfold allows
 refine ent Tryz.mix Tryz.func295 Tryz.ntmps295 ?_
 have W:=trivial
 repeat' first|refine we ?_|(refine sq (fun hc=>?_) (fun hc=>?_)<;>try exact hc.elim)|fail
 all_goals (try (refine ⟨.inr rfl,?_⟩;simp [Hands,Tryz.results295]))
 all_goals simp_all
theorem aOu [aA Tryz.prog] (p:fC) (kind:Int) (host:Str) (hs:gL p≤1099511627776):Ok Tryz.prog 298 [.agg (bJ .view p),.int .i64 kind,.str host] (.bool (allows p kind host)):=by
 simp only [gL,szL] at hs
 have c1:=xR p.scripts host (by omega)
 have c2:=xR p.styles host (by omega)
 have c3:=xR p.images host (by omega)
 unfold allows
 refine ent Tryz.mix Tryz.func298 Tryz.ntmps298 ?_
 have W:=trivial
 repeat' first|refine we ?_|(refine sq (fun hc=>?_) (fun hc=>?_)<;>try exact hc.elim)|fail
 all_goals (try (refine ⟨.inr rfl,?_⟩;simp [Hands,Tryz.results298]))
 all_goals simp_all
def gK (p:fC) (r:gY):Int:=if yS r=false∨(r.kind≠1∧allows p r.kind r.to.host=false) then 2 else 1
theorem xE [aA Tryz.prog] (p:fC) (r:gY) (hs:gL p≤1099511627776) (hl:nR r≤1099511627776):Ok Tryz.prog 274 [.agg (bJ .view p),.agg (iJ r)] (.int .i64 (gK p r)):=by
 have c1:=aI8 r hl
 have c2:=aPo p r.kind r.to.host hs
 simp only [iJ] at c1
 simp only [bJ] at c2
 unfold gK
 refine ent Tryz.mix Tryz.func274 Tryz.ntmps274 ?_
 have W:=trivial
 repeat' first|refine we ?_|(refine sq (fun hc=>?_) (fun hc=>?_)<;>try exact hc.elim)|fail
 all_goals (try (refine ⟨.inr rfl,?_⟩;simp [Hands,Tryz.results274]))
 all_goals simp_all
theorem xG [aA Tryz.prog] (p:fC) (r:gY) (hs:gL p≤1099511627776) (hl:nR r≤1099511627776):Ok Tryz.prog 278 [.agg (bJ .view p),.agg (iJ r)] (.int .i64 (gK p r)):=by
 have c1:=aIk r hl
 have c2:=aOu p r.kind r.to.host hs
 simp only [iJ] at c1
 simp only [bJ] at c2
 unfold gK
 refine ent Tryz.mix Tryz.func278 Tryz.ntmps278 ?_
 have W:=trivial
 repeat' first|refine we ?_|(refine sq (fun hc=>?_) (fun hc=>?_)<;>try exact hc.elim)|fail
 all_goals (try (refine ⟨.inr rfl,?_⟩;simp [Hands,Tryz.results278]))
 all_goals simp_all
theorem aNp [aA Tryz.prog] [dG Tryz.prog] (s:Str) (c:UInt8) (hs:s.length < 4294967281):Ok Tryz.prog 123 [.str s,.str [c]] (.sl .own 1 ((bH c s).map bU)):=aQz Tryz.laysM146 (by kernel_rfl) s c hs
def bK:aW:=⟨0,[],[],[]⟩
def iV (w:Str):Str:=w.take (ixB 61 w)
def kV (w:Str):Str:=w.drop (ixB 61 w+1)
def eT:List Str→List fA→Option (List fA)
 |[],acc=>some acc
 |w::ws,acc=>if (decide (ixB 61 w < w.length)&&bS (iV w)&&gZ (kV w)&& !(aN acc (iV w)).2)=true then eT ws (acc++[⟨iV w,kV w⟩]) else none
def uP (w0:Str) (ws:List Str):aW×Bool:=
 if bS w0=true∧ws.length≤4 then (match eT ws [] with
  |some l=>(⟨1,w0,l,[]⟩,true)
  |none=>(bK,false)) else (bK,false)
def jS (s:Str):aW×Bool:=
 if 60 < s.length then (bK,false)
 else if pfx [47] s=true then (if bS (s.drop 1)=true then (⟨2,s.drop 1,[],[]⟩,true) else (bK,false))
 else uP (s.take (ixB 32 s)) (if ixB 32 s < s.length then bH 32 (s.drop (ixB 32 s+1)) else [])
theorem pX (c:UInt8) (s:Str):bH c s=s.take (ixB c s)::(if ixB c s < s.length then bH c (s.drop (ixB c s+1)) else []):=by
 rw [aF6]
 have h:=mQ c s
 split
 ·rfl
 ·rw [List.take_of_length_le (by omega)]
theorem aIh {w0:Str} {ws:List Str} (h:¬(bS w0=true∧ws.length≤4)):uP w0 ws=(bK,false):=by unfold uP;rw [if_neg h]
theorem aKx {w0:Str} {ws:List Str} (h:eT ws []=none):uP w0 ws=(bK,false):=by
 unfold uP;rw [h];split<;>rfl
theorem aLg {w0:Str} {ws:List Str} {l:List fA} (h1:bS w0=true) (h2:ws.length≤4) (h:eT ws []=some l):uP w0 ws=(⟨1,w0,l,[]⟩,true):=by
 unfold uP;rw [h,if_pos ⟨h1,h2⟩]
theorem aA2:∀(ws:List Str) (acc l:List fA),eT ws acc=some l→l.length=acc.length+ws.length
 |[],acc,l,h=>by simp only [eT,Option.some.injEq] at h;subst h;simp
 |w::ws,acc,l,h=>by
  simp only [eT] at h
  split at h
  ·have:=aA2 ws _ l h
   simp at this⊢;omega
  ·cases h
theorem aHw:∀(ws:List Str) (acc l:List fA),eT ws acc=some l→szL eQ l≤szL eQ acc+aC cB ws
 |[],acc,l,h=>by simp only [eT,Option.some.injEq] at h;subst h;simp [aC]
 |w::ws,acc,l,h=>by
  simp only [eT] at h
  split at h
  ·rename_i hc
   simp only [Bool.and_eq_true,decide_eq_true_eq] at hc
   have:=aHw ws _ l h
   have hj:∀a b:List fA,aC eQ (a++b)=aC eQ a+aC eQ b:=by
    intro a b
    induction a with
    |nil=>simp [aC]
    |cons x xs ih=>simp only [List.cons_append,aC,ih];omega
   simp only [szL,hj,aC,eQ,iV,kV,List.length_append,List.length_take,List.length_drop,List.length_cons,List.length_nil,cB] at this⊢
   omega
  ·cases h
theorem vQ (c:UInt8):∀s:Str,aC cB (bH c s)≤s.length
 |[]=>by simp [bH,aC,cB]
 |x::s=>by
  have ih:=vQ c s
  simp only [bH]
  split
  ·simp only [aC,cB,List.length_nil,List.length_cons] at ih⊢;omega
  ·split
   ·rename_i h0;exact absurd h0 (uC c s)
   ·rename_i p q h0
    rw [h0] at ih
    simp only [aC,cB,List.length_cons] at ih⊢;omega
theorem bAp (s:Str):aV (jS s).1≤s.length:=by
 have hn:aV bK=0:=by simp [bK,aV,szL,aC]
 unfold jS
 split
 ·simp only [hn];omega
 ·split
  ·split
   ·simp [aV,szL,aC]
   ·simp only [hn];omega
  ·have hs:=vQ 32 s
   rw [pX] at hs
   simp only [aC,cB] at hs
   generalize (if ixB 32 s < s.length then bH 32 (s.drop (ixB 32 s+1)) else [])=ws at *
   unfold uP
   split
   ·split
    ·rename_i l hl
     have:=aHw ws [] l hl
     simp only [aV,szL,aC,List.length_nil] at this⊢
     omega
    ·simp only [hn];omega
   ·simp only [hn];omega
theorem aSb [aA Tryz.prog] [dG Tryz.prog] (s:Str) (hl:s.length≤1099511627776):Ok Tryz.prog 130 [.str s] (.tup [.agg (aU .own (jS s).1),.bool (jS s).2]):=by
 by_cases h60:(60:Int) < (s.length:Int)
 ·have hr:jS s=(bK,false):=by unfold jS;rw [if_pos (by omega)]
  rw [hr]
  refine aAj Tryz.mix Tryz.func130 Tryz.ntmps130 ?_
  have W:=h60
  repeat' first|refine we ?_|(refine sq (fun hc=>?_) (fun hc=>?_)<;>try exact hc.elim)|fail
  all_goals (try (first|(refine ⟨.inr rfl,.inl ?_⟩;simp [Hands,Tryz.results130,bK];done)|(refine ⟨.inr rfl,.inr (eG ?_)⟩;simp [AS.rvB,AS.rvs,AS.rv,Tryz.results130,bK];done)|(refine ⟨.inr rfl,.inl ?_⟩;simp [Hands,Tryz.results130,bK])))
 have c0:=aA8 s [47] hl (by simp)
 cases hp:pfx [47] s
 case true=>
  rw [hp] at c0
  simp only [if_true] at c0
  have c1:=gJ (s.drop 1) (by simp;omega)
  simp only [List.length_cons,List.length_nil,Nat.zero_add,Nat.reduceAdd] at c0
  generalize hs1:s.drop 1=s1 at *
  cases hn:bS s1
  ·have hr:jS s=(bK,false):=by unfold jS;rw [if_neg (by omega),if_pos hp,hs1,hn];rfl
   rw [hr]
   rw [hn] at c1
   refine aAj Tryz.mix Tryz.func130 Tryz.ntmps130 ?_
   have W:=h60
   repeat' first|refine we ?_|(refine sq (fun hc=>?_) (fun hc=>?_)<;>try exact hc.elim)|fail
   all_goals (try (first|(refine ⟨.inr rfl,.inl ?_⟩;simp [Hands,Tryz.results130,bK];done)|(refine ⟨.inr rfl,.inr (eG ?_)⟩;simp [AS.rvB,AS.rvs,AS.rv,Tryz.results130,bK];done)|(refine ⟨.inr rfl,.inl ?_⟩;simp [Hands,Tryz.results130,bK])))
  ·have hr:jS s=(⟨2,s1,[],[]⟩,true):=by unfold jS;rw [if_neg (by omega),if_pos hp,hs1,hn];rfl
   rw [hr]
   rw [hn] at c1
   refine aAj Tryz.mix Tryz.func130 Tryz.ntmps130 ?_
   have W:=h60
   repeat' first|refine we ?_|(refine sq (fun hc=>?_) (fun hc=>?_)<;>try exact hc.elim)|fail
   all_goals (try (first|(refine ⟨.inr rfl,.inl ?_⟩;simp [Hands,Tryz.results130];done)|(refine ⟨.inr rfl,.inr (eG ?_)⟩;simp [AS.rvB,AS.rvs,AS.rv,Tryz.results130];done)|(refine ⟨.inr rfl,.inl ?_⟩;simp [Hands,Tryz.results130])))
 case false=>
  rw [hp] at c0
  simp only [Bool.false_eq_true,if_false] at c0
  have hr:jS s=uP (s.take (ixB 32 s)) (if ixB 32 s < s.length then bH 32 (s.drop (ixB 32 s+1)) else []):=by unfold jS;rw [if_neg (by omega),if_neg (by rw [hp];simp)]
  have c2:=aNp s 32 (by omega)
  have hsl:=iP 32 s
  have hcn:s.count 32≤s.length:=List.count_le_length
  have hsm:=vQ 32 s
  rw [pX] at c2 hsl hsm
  rw [hr]
  have c1:=gJ (s.take (ixB 32 s)) (by simp;omega)
  generalize (if ixB 32 s < s.length then bH 32 (s.drop (ixB 32 s+1)) else [])=ws at *
  generalize s.take (ixB 32 s)=w0 at *
  simp only [aC,cB,List.length_cons] at hsl hsm
  simp only [List.map_cons] at c2
  clear hr hp
  have hw1:IntKind.i64.wrap ((ws.length:Int)+1 - 1)=(ws.length:Int):=by rw [wrap64]<;>omega
  have htk:List.take ws.length (ws.map bU)=ws.map bU:=List.take_of_length_le (by simp)
  cases hn:bS w0
  ·rw [aIh (by rw [hn];simp)]
   rw [hn] at c1
   refine aAj Tryz.mix Tryz.func130 Tryz.ntmps130 ?_
   have W:=And.intro h60 hw1
   repeat' first|refine we ?_|(refine sq (fun hc=>?_) (fun hc=>?_)<;>try exact hc.elim)|fail
   all_goals (try (first|(refine ⟨.inr rfl,.inl ?_⟩;simp [Hands,Tryz.results130,bK];done)|(refine ⟨.inr rfl,.inr (eG ?_)⟩;simp [AS.rvB,AS.rvs,AS.rv,Tryz.results130,bK];done)|(refine ⟨.inr rfl,.inl ?_⟩;simp [Hands,Tryz.results130,bK])))
  rw [hn] at c1
  by_cases h4:(4:Int) < (ws.length:Int)
  ·rw [aIh (by omega)]
   refine aAj Tryz.mix Tryz.func130 Tryz.ntmps130 ?_
   have W:=And.intro h60 (And.intro hw1 h4)
   repeat' first|refine we ?_|(refine sq (fun hc=>?_) (fun hc=>?_)<;>try exact hc.elim)|fail
   all_goals (try (first|(refine ⟨.inr rfl,.inl ?_⟩;simp [Hands,Tryz.results130,bK];done)|(refine ⟨.inr rfl,.inr (eG ?_)⟩;simp [AS.rvB,AS.rvs,AS.rv,Tryz.results130,bK];done)|(refine ⟨.inr rfl,.inl ?_⟩;simp [Hands,Tryz.results130,bK])))
  have hnone:=fun h=>aKx (w0:=w0) (ws:=ws) h
  have hsome:=fun l=>aLg (w0:=w0) (ws:=ws) (l:=l) hn (by omega)
  generalize uP w0 ws=res at *
  refine aAj Tryz.mix Tryz.func130 Tryz.ntmps130 ?_
  have W:=And.intro h60 (And.intro hw1 (And.intro h4 htk))
  repeat' first|refine we ?_|(refine sq (fun hc=>?_) (fun hc=>?_)<;>try exact hc.elim)|fail
  refine aM (ι:={q:Nat×Nat×List fA // (q.1≤ws.length∧1≤q.2.1)∧q.2.2.length=q.1∧eT ws []=eT (ws.drop q.1) q.2.2}) (fun t o i=>⟨aO t [(52,.int .i64 i.1.1),(48,.undef)],[⟨true,true,4,0,[[.int .i64 0,.str [],.sl .own 2 [],.str []]]⟩,⟨true,false,1,2,ws.map bU⟩,⟨true,true,4,0,[[.int .i64 1,.str w0,.obj 3 i.1.2.1,.str []]]⟩,⟨true,false,2,i.1.2.1,i.1.2.2.map dI⟩]⟩)
   (fun i=>ws.length - i.1.1) ⟨(0,1,[]),by simp,by simp,by simp⟩ (pR 2 0 2 (ob:=⟨true,true,4,0,[[.int .i64 1,.str w0,.sl .own 2 [],.str []]]⟩) (by rfl) (by rfl) (by rfl) (by simp) (by rfl) (by rfl) (by simp) (by simp [rtc,rt,dQ])) ?_
  rintro ⟨⟨k,v,acc⟩,⟨hk,hv⟩,hacc,hgo⟩ K1 hK1
  simp only at hk hv hacc hgo
  simp only [aO,List.set_cons_succ,List.set_cons_zero] at hK1⊢
  have hk1:IntKind.i64.wrap ((k:Int)+1)=((k+1:Nat):Int):=by rw [wrap64]<;>omega
  by_cases hlt:k < ws.length
  ·have hg:=List.getElem?_eq_getElem hlt
   have hwz:=dO cB ws k hlt
   rw [List.drop_eq_getElem_cons hlt] at hgo
   simp only [cB] at hwz
   have cC:=uV ws[k] 61 (by omega)
   have cN:=gJ (iV ws[k]) (by simp [iV];omega)
   have cV:=aCr (kV ws[k]) (by simp [kV];omega)
   have cF:=kJ acc (iV ws[k]) (by omega)
   have hbad:(decide (ixB 61 ws[k] < ws[k].length)&&bS (iV ws[k])&&gZ (kV ws[k])&& !(aN acc (iV ws[k])).2)=false→res=(bK,false):=fun h=>hnone (by rw [hgo];simp only [eT];rw [h];rfl)
   have hnext:(decide (ixB 61 ws[k] < ws[k].length)&&bS (iV ws[k])&&gZ (kV ws[k])&& !(aN acc (iV ws[k])).2)=true→eT ws []=eT (ws.drop (k+1)) (acc++[⟨iV ws[k],kV ws[k]⟩]):=fun h=>by rw [hgo];simp only [eT];rw [if_pos h]
   change Ok _ _ _ (.tup [.str (iV ws[k]),.str (kV ws[k]),.bool (decide (ixB 61 ws[k] < ws[k].length))]) at cC
   clear hgo hnone hsome
   generalize decide (ixB 61 ws[k] < ws[k].length)=b1 at *
   generalize bS (iV ws[k])=b2 at *
   generalize gZ (kV ws[k])=b3 at *
   generalize aN acc (iV ws[k])=fa at *
   obtain ⟨fv,b4⟩:=fa
   generalize iV ws[k]=ky at *
   generalize kV ws[k]=vl at *
   simp only at cF hbad hnext
   cases b1
   ·rw [hbad (by simp)]
    clear hbad hnext hK1
    have W:=And.intro hk1 (And.intro hg hlt)
    repeat' first|refine we ?_|(refine sq (fun hc=>?_) (fun hc=>?_)<;>try exact hc.elim)|fail
    all_goals (try (first|(refine ⟨.inr rfl,.inl ?_⟩;simp [Hands,Tryz.results130,bK];done)|(refine ⟨.inr rfl,.inr (eG ?_)⟩;simp [AS.rvB,AS.rvs,AS.rv,Tryz.results130,bK];done)|(refine ⟨.inr rfl,.inl ?_⟩;simp [Hands,Tryz.results130,bK])))
   cases b2
   ·rw [hbad (by simp)]
    clear hbad hnext hK1
    have W:=And.intro hk1 (And.intro hg hlt)
    repeat' first|refine we ?_|(refine sq (fun hc=>?_) (fun hc=>?_)<;>try exact hc.elim)|fail
    all_goals (try (first|(refine ⟨.inr rfl,.inl ?_⟩;simp [Hands,Tryz.results130,bK];done)|(refine ⟨.inr rfl,.inr (eG ?_)⟩;simp [AS.rvB,AS.rvs,AS.rv,Tryz.results130,bK];done)|(refine ⟨.inr rfl,.inl ?_⟩;simp [Hands,Tryz.results130,bK])))
   cases b3
   ·rw [hbad (by simp)]
    clear hbad hnext hK1
    have W:=And.intro hk1 (And.intro hg hlt)
    repeat' first|refine we ?_|(refine sq (fun hc=>?_) (fun hc=>?_)<;>try exact hc.elim)|fail
    all_goals (try (first|(refine ⟨.inr rfl,.inl ?_⟩;simp [Hands,Tryz.results130,bK];done)|(refine ⟨.inr rfl,.inr (eG ?_)⟩;simp [AS.rvB,AS.rvs,AS.rv,Tryz.results130,bK];done)|(refine ⟨.inr rfl,.inl ?_⟩;simp [Hands,Tryz.results130,bK])))
   cases b4
   ·have hn2:=hnext (by simp)
    clear hbad hnext
    have W:=And.intro hk1 (And.intro hg hlt)
    repeat' first|refine we ?_|(refine sq (fun hc=>?_) (fun hc=>?_)<;>try exact hc.elim)|fail
    all_goals refine hK1 _ ⟨(k+1,v+1,acc++[⟨ky,vl⟩]),⟨by simp only;omega,by simp only;omega⟩,by simp;omega,hn2⟩ (aQ 4 (by simp) (by simp) (by simp) (by simp)) (by simp only;omega)
   ·rw [hbad (by simp)]
    clear hbad hnext hK1
    have W:=And.intro hk1 (And.intro hg hlt)
    repeat' first|refine we ?_|(refine sq (fun hc=>?_) (fun hc=>?_)<;>try exact hc.elim)|fail
    all_goals (try (first|(refine ⟨.inr rfl,.inl ?_⟩;simp [Hands,Tryz.results130,bK];done)|(refine ⟨.inr rfl,.inr (eG ?_)⟩;simp [AS.rvB,AS.rvs,AS.rv,Tryz.results130,bK];done)|(refine ⟨.inr rfl,.inl ?_⟩;simp [Hands,Tryz.results130,bK])))
  ·have hdn:ws.drop k=[]:=List.drop_of_length_le (by omega)
   rw [hdn] at hgo
   rw [hsome acc (by rw [hgo];rfl)]
   clear hK1
   have W:=hk1
   repeat' first|refine we ?_|(refine sq (fun hc=>?_) (fun hc=>?_)<;>try exact hc.elim)|fail
   all_goals (try (first|(refine ⟨.inr rfl,.inl ?_⟩;simp [Hands,Tryz.results130];done)|(refine ⟨.inr rfl,.inr (eG ?_)⟩;simp [AS.rvB,AS.rvs,AS.rv,Tryz.results130];done)|(refine ⟨.inr rfl,.inl ?_⟩;simp [Hands,Tryz.results130])))
end Go.Proofs.YtlnblmmohpcceaaGreatDoor
