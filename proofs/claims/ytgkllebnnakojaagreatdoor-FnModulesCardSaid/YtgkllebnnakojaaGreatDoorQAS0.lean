/-
  Proved here: steps towards the statement of this claim, text QAS0.
  No condition beyond what each statement spells out.
-/
import Derived.Test.YtgkllebnnakojaaGreatDoorQPL
import Derived.Test.YtgkllebnnakojaaGreatDoorQI5
import Derived.Test.YtgkllebnnakojaaGreatDoorQY1
set_option linter.all false
set_option maxRecDepth 4000
set_option maxHeartbeats 4000000
namespace Go.Proofs.YtgkllebnnakojaaGreatDoor
open Go.Aw
theorem aDl:∀{a b c:List UInt8},Op.bytesLess a b=true→Op.bytesLess b c=true→Op.bytesLess a c=true
 |_,[],_,h,_=>by simp [Op.bytesLess] at h
 |_,_::_,[],_,h=>by simp [Op.bytesLess] at h
 |[],_::_,_::_,_,_=>by simp [Op.bytesLess]
 |x::a,y::b,z::c,h1,h2=>by
  simp only [Op.bytesLess,Bool.or_eq_true,Bool.and_eq_true,decide_eq_true_eq,beq_iff_eq] at h1 h2⊢
  rcases h1 with h1|⟨rfl,h1⟩
  ·rcases h2 with h2|⟨rfl,h2⟩
   ·exact .inl (UInt8.lt_trans h1 h2)
   ·exact .inl h1
  ·rcases h2 with h2|⟨rfl,h2⟩
   ·exact .inl h2
   ·exact .inr ⟨rfl,aDl h1 h2⟩
theorem aI9:∀{a b:List UInt8},a≠b→Op.bytesLess a b=false→Op.bytesLess b a=true
 |[],[],h,_=>(h rfl).elim
 |[],_::_,_,h=>by simp [Op.bytesLess] at h
 |_::_,[],_,_=>by simp [Op.bytesLess]
 |x::a,y::b,hne,h=>by
  simp only [Op.bytesLess,Bool.or_eq_false_iff,Bool.and_eq_false_iff,decide_eq_false_iff_not,beq_eq_false_iff_ne,Bool.or_eq_true,Bool.and_eq_true,decide_eq_true_eq,beq_iff_eq] at h⊢
  by_cases e:x=y
  ·subst e
   exact .inr ⟨rfl,aI9 (fun h=>hne (by rw [h])) (h.2.resolve_left fun h=>h rfl)⟩
  ·exact .inl (by rcases UInt8.lt_or_lt_of_ne e with h1|h1;exact (h.1 h1).elim;exact h1)
def jC (a b:aC):Bool:=Op.bytesLess a.host b.host || (a.host == b.host&&Op.bytesLess a.path b.path)
theorem nS (a:aC):jC a a=false:=by simp [jC,oW]
theorem aSp (a b:aC):cmpAddr a b= -1↔jC a b=true:=by
 rw [wZ]
 by_cases e:a=b
 ·subst e;simp [nS]
 ·rw [if_neg e]
  change (if jC a b=true then (-1:Int) else 1)= -1↔_
  split<;>simp_all
theorem aBz (a b:aC):cmpAddr a b < 0↔jC a b=true:=by
 rw [←aSp]
 have:=wZ a b
 split at this
 ·omega
 ·split at this<;>omega
theorem oH {a b c:aC} (h1:jC a b=true) (h2:jC b c=true):jC a c=true:=by
 simp only [jC,Bool.or_eq_true,Bool.and_eq_true,beq_iff_eq] at h1 h2⊢
 rcases h1 with h1|⟨e1,h1⟩
 ·rcases h2 with h2|⟨e2,h2⟩
  ·exact .inl (aDl h1 h2)
  ·exact .inl (e2▸h1)
 ·rcases h2 with h2|⟨e2,h2⟩
  ·exact .inl (e1▸h2)
  ·exact .inr ⟨e1.trans e2,aDl h1 h2⟩
theorem aAi {a b:aC} (hne:a≠b) (h:jC a b=false):jC b a=true:=by
 simp only [jC,Bool.or_eq_false_iff,Bool.and_eq_false_iff,Bool.or_eq_true,Bool.and_eq_true,beq_iff_eq,beq_eq_false_iff_ne] at h⊢
 by_cases e:a.host=b.host
 ·refine .inr ⟨e.symm,aI9 (fun h2=>hne ?_) (h.2.resolve_left fun h=>h e)⟩
  obtain ⟨x,y⟩:=a;obtain ⟨z,w⟩:=b;simp_all
 ·exact .inl (aI9 e h.1)
def eQ (l:List bQ):Prop:=l.Pairwise fun a b=>jC a.to b.to=true
theorem tX (a:aC):∀l:List bQ,(∀x∈l.take (fC l a),jC x.to a=true)∧(∀m,l[fC l a]? =some m→jC m.to a=false)
 |[]=>by simp [fC]
 |m::l=>by
  have ih:=tX a l
  simp only [fC] at ih
  by_cases h:cmpAddr m.to a < 0
  ·simp only [fC,List.takeWhile_cons,decide_eq_true h,if_true,List.length_cons,List.take_succ_cons,List.mem_cons,List.getElem?_cons_succ]
   refine ⟨fun x hx=>hx.elim (fun e=>e▸(aBz _ _).1 h) fun hx=>ih.1 x hx,ih.2⟩
  ·simp only [fC,List.takeWhile_cons,decide_eq_false h,Bool.false_eq_true,if_false,List.length_nil,List.take_zero,List.not_mem_nil,false_implies,implies_true,List.getElem?_cons_zero,Option.some.injEq,true_and]
   rintro _ rfl
   exact Bool.eq_false_iff.2 fun e=>h ((aBz _ _).2 e)
theorem wE (p:aJ) (a:aC):(mQ p a).to=a:=by unfold mQ;split<;>rfl
theorem aNb {l:List bQ} {a:aC} (h:eQ l) (hn:∀m,l[fC l a]? =some m→m.to≠a):∀x∈l.drop (fC l a),jC a x.to=true:=by
 obtain ⟨_,h2⟩:=tX a l
 generalize fC l a=k at *
 cases hd:l[k]? with
 |none=>
  have:l.length≤k:=by simpa using hd
  rw [List.drop_of_length_le this];simp
 |some m=>
  have hk:=(List.getElem?_eq_some_iff.1 hd).1
  have hm:=(List.getElem?_eq_some_iff.1 hd).2
  have h3:=aAi (hn m hd) (h2 m hd)
  rw [List.drop_eq_getElem_cons hk,hm]
  have hp:(l.drop k).Pairwise fun a b=>jC a.to b.to=true:=h.sublist (List.drop_sublist _ _)
  rw [List.drop_eq_getElem_cons hk,hm] at hp
  intro x hx
  rcases List.mem_cons.1 hx with rfl|hx
  ·exact h3
  ·exact oH h3 ((List.pairwise_cons.1 hp).1 x hx)
theorem aOr {p:aJ} {a:aC} (h:eQ p.mods) (hn:∀m,p.mods[fC p.mods a]? =some m→m.to≠a):eQ (lU p a (fC p.mods a)):=by
 have h1:=(tX a p.mods).1
 have h2:=aNb h hn
 unfold eQ lU
 rw [List.pairwise_append]
 refine ⟨h.sublist (List.take_sublist _ _),List.pairwise_cons.2 ⟨fun x hx=>by rw [wE];exact h2 x hx,h.sublist (List.drop_sublist _ _)⟩,?_⟩
 intro x hx y hy
 rcases List.mem_cons.1 hy with rfl|hy
 ·rw [wE];exact h1 x hx
 ·exact oH (h1 x hx) (h2 y hy)
theorem ask_cases (p:aJ) (a:aC):(dF p a=p∧∃m,p.mods[fC p.mods a]? =some m∧m.to=a)∨(dF p a={p with mods:=lU p a (fC p.mods a)}∧∀m,p.mods[fC p.mods a]? =some m→m.to≠a):=by
 unfold dF
 split
 ·rename_i m hm
  split
  ·rename_i e;exact .inl ⟨rfl,m,hm,e⟩
  ·rename_i e
   refine .inr ⟨rfl,fun x hx=> ?_⟩
   rw [hm] at hx
   exact Option.some.inj hx▸e
 ·rename_i hm
  refine .inr ⟨rfl,fun x hx=> ?_⟩
  rw [hm] at hx;cases hx
theorem xS {p:aJ} (a:aC) (h:eQ p.mods):eQ (dF p a).mods:=by
 rcases ask_cases p a with ⟨e,_⟩|⟨e,hn⟩
 ·rw [e];exact h
 ·rw [e];exact aOr h hn
theorem aSr (s b:Str):aK (dG s b).1≤s.length+b.length:=by
 have h:=qY 47 s
 unfold dG addrOf
 split<;>split<;>simp [aK,mV]<;>omega
def nQ (p:aJ) (tx:Str):aJ:=
 if (dG tx p.addr.host).2=false∨20≤p.entries.length then p else {dF p (dG tx p.addr.host).1 with entries:=p.entries++[(dG tx p.addr.host).1]}
theorem aGm (p:aJ) (a:aC):(dF p a).entries=p.entries:=by
 unfold dF
 split
 ·split<;>rfl
 ·rfl
theorem aD8 [aB Tryz.prog] (p:aJ) (tx:Str) (hs:bL p≤268435456) (hto:tx.length≤268435456):Ok Tryz.prog 38 [.agg (aL .view p),.str tx] (.agg (aL .own (nQ p tx))):=by
 have hsl:p.addr.host.length≤268435456:=by simp only [bL,aK] at hs;omega
 have hen:p.entries.length≤268435456:=by simp only [bL,szL] at hs;omega
 have c1:=wQ p (by omega)
 have c3:=vC tx p.addr.host (by omega)
 have hsz:=aSr tx p.addr.host
 unfold nQ
 generalize dG tx p.addr.host=pa at *
 obtain ⟨a,ok⟩:=pa
 simp only at c3 hsz⊢
 have c4:=vK p a (by omega) (by omega)
 have hke:=aGm p a
 obtain ⟨l1,hl1⟩:∃l,l=p.entries++[a]:=⟨_,rfl⟩
 have hap:p.entries.map aD++[[.str a.host,.str a.path]]=l1.map aD:=by rw [hl1];simp
 rw [←hl1]
 clear hl1
 generalize dF p a=g at *
 simp only [aL,aD] at c1 c3 c4
 rw [hke] at c4
 cases ok
 ·simp only [true_or,if_true]
  refine ent Tryz.mix Tryz.func38 Tryz.ntmps38 ?_
  have W:=trivial
  repeat' first|refine st ?_|(refine nx ?_;first|refine se ?_|refine so ?_)|(refine cx ?_;refine sc (fun hc=>?_) (fun hc=>?_)<;>try exact hc.elim)|(refine lx ?_;refine sp (fun hc=>?_) (fun hc=>?_)<;>try exact hc.elim)|refine sx ?_ ?_|refine sy ?_ ?_|fail
  all_goals (try (refine ⟨.inr rfl,?_⟩;simp [Hands,Tryz.results38]))
 ·by_cases h20:20≤p.entries.length
  ·have h20i:(20:Int)≤(p.entries.length:Int):=by omega
   simp only [h20,or_true,if_true]
   refine ent Tryz.mix Tryz.func38 Tryz.ntmps38 ?_
   have W:=h20i
   repeat' first|refine st ?_|(refine nx ?_;first|refine se ?_|refine so ?_)|(refine cx ?_;refine sc (fun hc=>?_) (fun hc=>?_)<;>try exact hc.elim)|(refine lx ?_;refine sp (fun hc=>?_) (fun hc=>?_)<;>try exact hc.elim)|refine sx ?_ ?_|refine sy ?_ ?_|fail
   all_goals (try (refine ⟨.inr rfl,?_⟩;simp [Hands,Tryz.results38]))
  ·have h20i:¬(20:Int)≤(p.entries.length:Int):=by omega
   rw [if_neg (by rintro (h|h);cases h;exact h20 h)]
   refine ent Tryz.mix Tryz.func38 Tryz.ntmps38 ?_
   have W:=And.intro h20i hap
   repeat' first|refine st ?_|(refine nx ?_;first|refine se ?_|refine so ?_)|(refine cx ?_;refine sc (fun hc=>?_) (fun hc=>?_)<;>try exact hc.elim)|(refine lx ?_;refine sp (fun hc=>?_) (fun hc=>?_)<;>try exact hc.elim)|refine sx ?_ ?_|refine sy ?_ ?_|fail
   all_goals (try (refine ⟨.inr rfl,?_⟩;simp [Hands,Tryz.results38]))
def jI (p:aJ) (a:aC):Prop:=∃m∈p.mods,m.to=a
def aFr (p:aJ):Prop:=∀m∈p.mods,m.done=true→m.code=1→∀b∈(aN m.body m.to.host).1,jI p b
theorem aPo {l:List bQ} (h:eQ l) {i j:Nat} (hi:i < l.length) (hj:j < l.length) (e:l[i].to=l[j].to):i=j:=by
 unfold eQ at h
 rw [List.pairwise_iff_getElem] at h
 rcases Nat.lt_trichotomy i j with hl|hl|hl
 ·have:=h i j hi hj hl
  rw [e,nS] at this;cases this
 ·exact hl
 ·have:=h j i hj hi hl
  rw [e,nS] at this;cases this
theorem xO {p:aJ} {a:aC} (h:eQ p.mods) {m:bQ}:m∈(dF p a).mods↔m∈p.mods∨(m=mQ p a∧¬jI p a):=by
 rcases ask_cases p a with ⟨e,x,hx,hxa⟩|⟨e,hn⟩
 ·rw [e]
  have:jI p a:=⟨x,List.mem_of_getElem? hx,hxa⟩
  simp [this]
 ·rw [e]
  have h1:=(tX a p.mods).1
  have h2:=aNb h hn
  have hno:¬jI p a:=by
   rintro ⟨x,hx,hxa⟩
   rw [←List.take_append_drop (fC p.mods a) p.mods,List.mem_append] at hx
   rcases hx with hx|hx
   ·have:=h1 x hx
    rw [hxa,nS] at this;cases this
   ·have:=h2 x hx
    rw [hxa,nS] at this;cases this
  have e2:m∈p.mods↔m∈p.mods.take (fC p.mods a)∨m∈p.mods.drop (fC p.mods a):=by
   rw [←List.mem_append,List.take_append_drop]
  simp only [lU,List.mem_append,List.mem_cons,e2,hno,not_false_eq_true,and_true]
  constructor
  ·rintro (h|h|h)
   ·exact .inl (.inl h)
   ·exact .inr h
   ·exact .inl (.inr h)
  ·rintro ((h|h)|h)
   ·exact .inl h
   ·exact .inr (.inr h)
   ·exact .inr (.inl h)
theorem aU7 {p:aJ} {a:aC} (h:eQ p.mods):jI (dF p a) a:=by
 by_cases hn:jI p a
 ·obtain ⟨m,hm,e⟩:=hn
  exact ⟨m,(xO h).2 (.inl hm),e⟩
 ·exact ⟨mQ p a,(xO h).2 (.inr ⟨rfl,hn⟩),wE p a⟩
theorem aDk {p:aJ} {a b:aC} (h:eQ p.mods) (hb:jI p b):jI (dF p a) b:=by
 obtain ⟨m,hm,e⟩:=hb
 exact ⟨m,(xO h).2 (.inl hm),e⟩
theorem aGx (p:aJ) (a:aC):¬((mQ p a).done=true∧(mQ p a).code=1):=by
 unfold mQ;split<;>simp
theorem aOs {p:aJ} {a:aC} (h:eQ p.mods) (hc:aFr p):aFr (dF p a):=by
 intro m hm hd hcode b hb
 rcases (xO h).1 hm with hm|⟨rfl,_⟩
 ·exact aDk h (hc m hm hd hcode b hb)
 ·exact absurd ⟨hd,hcode⟩ (aGx p a)
structure tZ (p : aJ) : Prop where
  up : eQ p.mods
  cl : aFr p
theorem aVz {p:aJ} (a:aC) (h:tZ p):tZ (dF p a):=⟨xS a h.up,aOs h.up h.cl⟩
theorem aQ6 {p:aJ} (tx:Str) (h:tZ p):tZ (nQ p tx):=by
 unfold nQ
 split
 ·exact h
 ·exact ⟨(aVz _ h).up,(aVz _ h).cl⟩
theorem aQ9 {l:List aC}:∀{q:aJ},eQ q.mods→eQ (gF q l).mods:=by
 induction l with
 |nil=>intro q h;exact h
 |cons a l ih=>intro q h;exact ih (xS a h)
theorem aCu {l:List aC}:∀{q:aJ} {b:aC},eQ q.mods→jI q b→jI (gF q l) b:=by
 induction l with
 |nil=>intro q b _ h;exact h
 |cons a l ih=>intro q b h hb;exact ih (xS a h) (aDk h hb)
theorem aOy {l:List aC}:∀{q:aJ} {b:aC},eQ q.mods→b∈l→jI (gF q l) b:=by
 induction l with
 |nil=>intro q b _ hb;cases hb
 |cons a l ih=>
  intro q b h hb
  rcases List.mem_cons.1 hb with rfl|hb
  ·show jI (gF (dF q b) l) b
   exact aCu (xS _ h) (aU7 h)
  ·exact ih (xS a h) hb
theorem aO7 {l:List aC}:∀{q:aJ} {m:bQ},eQ q.mods→m∈(gF q l).mods→m∈q.mods∨(¬(m.done=true∧m.code=1)∧¬jI q m.to):=by
 induction l with
 |nil=>intro q m _ h;exact .inl h
 |cons a l ih=>
  intro q m h hm
  rcases ih (xS a h) hm with h1|⟨h1,h2⟩
  ·rcases (xO h).1 h1 with h1|⟨rfl,h2⟩
   ·exact .inl h1
   ·exact .inr ⟨aGx q a,by rw [wE];exact h2⟩
  ·exact .inr ⟨h1,fun h3=>h2 (aDk h h3)⟩
theorem aU0 (l:List bQ) (k:Nat) (hk:k < l.length) (m:bQ) (h:m.to=l[k].to):(l.set k m).map (·.to)=l.map (·.to):=by
 rw [List.map_set,h]
 apply List.ext_getElem?
 intro i
 rw [List.getElem?_set]
 split
 ·rename_i e;subst e;simp [hk]
 ·rfl
theorem aEg {l l':List bQ} (h:l'.map (·.to)=l.map (·.to)) (hu:eQ l):eQ l':=by
 have e:∀l:List bQ,eQ l↔(l.map (·.to)).Pairwise fun a b=>jC a b=true:=fun l=>by unfold eQ;rw [List.pairwise_map]
 rw [e,h,←e];exact hu
theorem aOd {p q:aJ} (h:q.mods.map (·.to)=p.mods.map (·.to)) {b:aC}:jI q b↔jI p b:=by
 have e:∀p:aJ,jI p b↔b∈p.mods.map (·.to):=fun p=>by simp [jI]
 rw [e,h,←e]
theorem aGu {p:aJ} {a:aC} {k:Nat} (h:dZ (dJ a) p.mods=(k:Int)) (hk:k < p.mods.length):p.mods[k].to=a:=by
 have:=(aQw h hk).1
 simpa [dJ] using this
theorem aCk (p:aJ) (a:aC) (x:aZ):(fE p a x=p∧(∀m∈p.mods,m.to≠a))∨(∃k,∃hk:k < p.mods.length,dZ (dJ a) p.mods=(k:Int)∧p.mods.find? (dJ a)=some p.mods[k]∧p.mods[k].to=a∧
  ((fE p a x=p∧p.mods[k].done=true)∨(p.mods[k].done=false∧fE p a x=uO p a x k p.mods[k]))):=by
 rcases gZ (dJ a) p.mods with ⟨hi,hn⟩|⟨k,hk,hi,hf⟩
 ·refine .inl ⟨zB hi,fun m hm e=> ?_⟩
  have:=List.find?_eq_none.1 hn m hm
  simp [dJ,e] at this
 ·refine .inr ⟨k,hk,hi,hf,aGu hi hk,?_⟩
  cases hd:p.mods[k].done with
  |true=>exact .inl ⟨zK hi (List.getElem?_eq_getElem hk) hd,rfl⟩
  |false=>exact .inr ⟨rfl,aBe hi (List.getElem?_eq_getElem hk) hd⟩
theorem aD3 (p:aJ) (x:aZ) {k:Nat} (hk:k < p.mods.length):(p.mods.set k (dP p p.mods[k] x)).map (·.to)=p.mods.map (·.to):=aU0 _ _ hk _ rfl
theorem aR1 {p:aJ} (a:aC) (x:aZ) (h:eQ p.mods):eQ (fE p a x).mods:=by
 rcases aCk p a x with ⟨e,_⟩|⟨k,hk,_,_,_,⟨e,_⟩|⟨_,e⟩⟩
 ·rw [e];exact h
 ·rw [e];exact h
 ·rw [e];exact aQ9 (aEg (aD3 p x hk) h)
theorem aWk {p:aJ} (a:aC) (x:aZ) (h:tZ p):tZ (fE p a x):=by
 refine ⟨aR1 a x h.up,?_⟩
 rcases aCk p a x with ⟨e,_⟩|⟨k,hk,hi,hf,hto,⟨e,_⟩|⟨_,e⟩⟩
 ·rw [e];exact h.cl
 ·rw [e];exact h.cl
 ·rw [e]
  have hff:=wU (x:=x) hi hk hf
  have htos:=aD3 p x hk
  have hup:eQ (p.mods.set k (dP p p.mods[k] x)):=aEg htos h.up
  unfold uO
  intro m hm hd hc b hb
  rcases aO7 (q:={p with mods:=p.mods.set k (dP p p.mods[k] x)}) hup hm with hm|⟨hm,_⟩
  ·rcases List.mem_or_eq_of_mem_set hm with hm|rfl
   ·exact aCu (q:={p with mods:=p.mods.set k (dP p p.mods[k] x)}) hup ((aOd (p:=p) (q:={p with mods:=p.mods.set k (dP p p.mods[k] x)}) htos).2 (h.cl m hm hd hc b hb))
   ·refine aOy (q:={p with mods:=p.mods.set k (dP p p.mods[k] x)}) hup ?_
    unfold bR
    simp only [hff]
    have e2:(dP p p.mods[k] x).to=a:=hto
    rw [e2] at hb
    rw [if_pos ⟨hd,hc⟩]
    exact hb
  ·exact absurd ⟨hd,hc⟩ hm
theorem aKz (s b:Str):aK (dG s b).1≤16:=by
 unfold dG
 split
 ·rename_i h
  simp only [mR,dA,Bool.and_eq_true,decide_eq_true_eq] at h
  simp only [aK];omega
 ·simp [aK,mV]
theorem aI7 (base:Str):∀(ps:List Str) (l:List aC) (r:List Str),fI base ps=some (l,r)→∀b∈l,aK b≤16
 |[],l,r,h=>by simp only [fI,Option.some.injEq,Prod.mk.injEq] at h;obtain ⟨rfl,_⟩:=h;simp
 |p::ps,l,r,h=>by
  simp only [fI] at h
  split at h
  ·split at h
   ·cases hq:fI base ps with
    |none=>rw [hq] at h;simp at h
    |some q=>
     rw [hq] at h
     simp only [Option.map_some,Option.some.injEq,Prod.mk.injEq] at h
     obtain ⟨rfl,_⟩:=h
     intro b hb
     rcases List.mem_cons.1 hb with rfl|hb
     ·exact aKz _ _
     ·exact aI7 base ps q.1 q.2 (by rw [hq]) b hb
   ·cases h
  ·simp only [Option.some.injEq,Prod.mk.injEq] at h;obtain ⟨rfl,_⟩:=h;simp
theorem aR9 (s b:Str):∀a∈(aN s b).1,aK a≤16:=by
 unfold aN
 split
 ·simp
 ·rename_i l r h
  split
  ·exact aI7 b _ l r h
  ·simp
theorem aV0 (q:aJ) (a:aC):∀b∈bR q a,aK b≤16:=by
 unfold bR
 split
 ·split
  ·exact aR9 _ _
  ·simp
 ·simp
theorem aQ4 (p:aJ) (a:aC) (x:aZ):bL (fE p a x)≤bL p+1400:=by
 rcases gZ (dJ a) p.mods with ⟨hi,hf⟩|⟨k,hk,hi,hf⟩
 ·rw [zB hi];omega
 ·have hg:=List.getElem?_eq_getElem hk
  cases hd:p.mods[k].done
  ·rw [aBe hi hg hd]
   have hfi:=wU (x:=x) hi hk hf
   have hqs:=aNa p k hk x
   have hub:=aA1 p.policy (eU p p.mods[k]) x
   have b1:(bR {p with mods:=p.mods.set k (dP p p.mods[k] x)} a).length≤57:=by
    rw [aDt hfi]
    split
    ·obtain ⟨h1,_,h3⟩:=kK (dP p p.mods[k] x).body a.host
     have h4:(dP p p.mods[k] x).body.length≤400:=hub
     omega
    ·simp
   have h:=yJ 16 (bR {p with mods:=p.mods.set k (dP p p.mods[k] x)} a) {p with mods:=p.mods.set k (dP p p.mods[k] x)} (aV0 _ _)
   unfold uO
   have h4:=Nat.mul_le_mul_right (16+1) b1
   omega
  ·rw [zK hi hg hd];omega
end Go.Proofs.YtgkllebnnakojaaGreatDoor
