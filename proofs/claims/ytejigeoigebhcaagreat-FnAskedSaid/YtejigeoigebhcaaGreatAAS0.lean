/-
  Proved here: steps towards the statement of this claim, text AS0.
  No condition beyond what each statement spells out.
-/
import Derived.Test.YtejigeoigebhcaaGreatAQI3
import Derived.Test.YtejigeoigebhcaaGreatAQ4
set_option linter.all false
set_option maxRecDepth 4000
set_option maxHeartbeats 4000000
namespace Go.Proofs.YtejigeoigebhcaaGreat
open Go.Aw
theorem aAo:∀{a b c:List UInt8},Op.bytesLess a b=true→Op.bytesLess b c=true→Op.bytesLess a c=true
 |_,[],_,h,_=>by simp [Op.bytesLess] at h
 |_,_::_,[],_,h=>by simp [Op.bytesLess] at h
 |[],_::_,_::_,_,_=>by simp [Op.bytesLess]
 |x::a,y::b,z::c,h1,h2=>by
  simp only [Op.bytesLess,Bool.or_eq_true,Bool.and_eq_true,decide_eq_true_eq,beq_iff_eq] at h1 h2⊢
  rcases h1 with h1|⟨rfl,h1⟩
  ·rcases h2 with h2|⟨rfl,h2⟩
   ·exact .inl (UInt8.lt_trans h1 h2)
   ·exact .inl h1
  ·rcases h2 with h2|⟨rfl,h2⟩
   ·exact .inl h2
   ·exact .inr ⟨rfl,aAo h1 h2⟩
theorem aGj:∀{a b:List UInt8},a≠b→Op.bytesLess a b=false→Op.bytesLess b a=true
 |[],[],h,_=>(h rfl).elim
 |[],_::_,_,h=>by simp [Op.bytesLess] at h
 |_::_,[],_,_=>by simp [Op.bytesLess]
 |x::a,y::b,hne,h=>by
  simp only [Op.bytesLess,Bool.or_eq_false_iff,Bool.and_eq_false_iff,decide_eq_false_iff_not,beq_eq_false_iff_ne,Bool.or_eq_true,Bool.and_eq_true,decide_eq_true_eq,beq_iff_eq] at h⊢
  by_cases e:x=y
  ·subst e
   exact .inr ⟨rfl,aGj (fun h=>hne (by rw [h])) (h.2.resolve_left fun h=>h rfl)⟩
  ·exact .inl (by rcases UInt8.lt_or_lt_of_ne e with h1|h1;exact (h.1 h1).elim;exact h1)
def fO (a b:aP):Bool:=Op.bytesLess a.host b.host || (a.host == b.host&&Op.bytesLess a.path b.path)
theorem tT (a:aP):fO a a=false:=by simp [fO,mY]
theorem aFg (a b:aP):cmpAddr a b= -1↔fO a b=true:=by
 rw [uO]
 by_cases e:a=b
 ·subst e;simp [tT]
 ·rw [if_neg e]
  change (if fO a b=true then (-1:Int) else 1)= -1↔_
  split<;>simp_all
theorem rP (a b:aP):cmpAddr a b < 0↔fO a b=true:=by
 rw [←aFg]
 have:=uO a b
 split at this
 ·omega
 ·split at this<;>omega
theorem pQ {a b c:aP} (h1:fO a b=true) (h2:fO b c=true):fO a c=true:=by
 simp only [fO,Bool.or_eq_true,Bool.and_eq_true,beq_iff_eq] at h1 h2⊢
 rcases h1 with h1|⟨e1,h1⟩
 ·rcases h2 with h2|⟨e2,h2⟩
  ·exact .inl (aAo h1 h2)
  ·exact .inl (e2▸h1)
 ·rcases h2 with h2|⟨e2,h2⟩
  ·exact .inl (e1▸h2)
  ·exact .inr ⟨e1.trans e2,aAo h1 h2⟩
theorem aDg {a b:aP} (hne:a≠b) (h:fO a b=false):fO b a=true:=by
 simp only [fO,Bool.or_eq_false_iff,Bool.and_eq_false_iff,Bool.or_eq_true,Bool.and_eq_true,beq_iff_eq,beq_eq_false_iff_ne] at h⊢
 by_cases e:a.host=b.host
 ·refine .inr ⟨e.symm,aGj (fun h2=>hne ?_) (h.2.resolve_left fun h=>h e)⟩
  obtain ⟨x,y⟩:=a;obtain ⟨z,w⟩:=b;simp_all
 ·exact .inl (aGj e h.1)
def lK (l:List bT):Prop:=l.Pairwise fun a b=>fO a.to b.to=true
theorem nV (a:aP):∀l:List bT,(∀x∈l.take (dA l a),fO x.to a=true)∧(∀m,l[dA l a]? =some m→fO m.to a=false)
 |[]=>by simp [dA]
 |m::l=>by
  have ih:=nV a l
  simp only [dA] at ih
  by_cases h:cmpAddr m.to a < 0
  ·simp only [dA,List.takeWhile_cons,decide_eq_true h,if_true,List.length_cons,List.take_succ_cons,List.mem_cons,List.getElem?_cons_succ]
   refine ⟨fun x hx=>hx.elim (fun e=>e▸(rP _ _).1 h) fun hx=>ih.1 x hx,ih.2⟩
  ·simp only [dA,List.takeWhile_cons,decide_eq_false h,Bool.false_eq_true,if_false,List.length_nil,List.take_zero,List.not_mem_nil,false_implies,implies_true,List.getElem?_cons_zero,Option.some.injEq,true_and]
   rintro _ rfl
   exact Bool.eq_false_iff.2 fun e=>h ((rP _ _).2 e)
theorem tY (p:aS) (a:aP):(lL p a).to=a:=by unfold lL;split<;>rfl
theorem aH2 {l:List bT} {a:aP} (h:lK l) (hn:∀m,l[dA l a]? =some m→m.to≠a):∀x∈l.drop (dA l a),fO a x.to=true:=by
 obtain ⟨_,h2⟩:=nV a l
 generalize dA l a=k at *
 cases hd:l[k]? with
 |none=>
  have:l.length≤k:=by simpa using hd
  rw [List.drop_of_length_le this];simp
 |some m=>
  have hk:=(List.getElem?_eq_some_iff.1 hd).1
  have hm:=(List.getElem?_eq_some_iff.1 hd).2
  have h3:=aDg (hn m hd) (h2 m hd)
  rw [List.drop_eq_getElem_cons hk,hm]
  have hp:(l.drop k).Pairwise fun a b=>fO a.to b.to=true:=h.sublist (List.drop_sublist _ _)
  rw [List.drop_eq_getElem_cons hk,hm] at hp
  intro x hx
  rcases List.mem_cons.1 hx with rfl|hx
  ·exact h3
  ·exact pQ h3 ((List.pairwise_cons.1 hp).1 x hx)
theorem aIu {p:aS} {a:aP} (h:lK p.mods) (hn:∀m,p.mods[dA p.mods a]? =some m→m.to≠a):lK (eZ p a (dA p.mods a)):=by
 have h1:=(nV a p.mods).1
 have h2:=aH2 h hn
 unfold lK eZ
 rw [List.pairwise_append]
 refine ⟨h.sublist (List.take_sublist _ _),List.pairwise_cons.2 ⟨fun x hx=>by rw [tY];exact h2 x hx,h.sublist (List.drop_sublist _ _)⟩,?_⟩
 intro x hx y hy
 rcases List.mem_cons.1 hy with rfl|hy
 ·rw [tY];exact h1 x hx
 ·exact pQ (h1 x hx) (h2 y hy)
theorem ask_cases (p:aS) (a:aP):(bJ p a=p∧∃m,p.mods[dA p.mods a]? =some m∧m.to=a)∨(bJ p a={p with mods:=eZ p a (dA p.mods a)}∧∀m,p.mods[dA p.mods a]? =some m→m.to≠a):=by
 unfold bJ
 split
 ·rename_i m hm
  split
  ·rename_i e;exact .inl ⟨rfl,m,hm,e⟩
  ·rename_i e
   refine .inr ⟨rfl,fun x hx=> ?_⟩
   rw [hm] at hx
   exact Option.some.inj hx▸e
 ·rename_i hm
  refine .inr ⟨rfl,fun x hx=> ?_⟩
  rw [hm] at hx;cases hx
theorem aQn {p:aS} (a:aP) (h:lK p.mods):lK (bJ p a).mods:=by
 rcases ask_cases p a with ⟨e,_⟩|⟨e,hn⟩
 ·rw [e];exact h
 ·rw [e];exact aIu h hn
theorem aMb {p:aS} {a:aP} (h:lK p.mods) (m:bT) (hm:m∈(bJ p a).mods) (ha:m.to=a):m.done=true∨bR p.policy (jB (bJ p a) m)=1∨(bJ p a).mods.length≤p.mods.length:=by
 rcases ask_cases p a with ⟨e,_⟩|⟨e,hn⟩
 ·rw [e];exact .inr (.inr (Nat.le_refl _))
 ·rw [e] at hm⊢
  have h1:=(nV a p.mods).1
  have h2:=aH2 h hn
  simp only [eZ,List.mem_append,List.mem_cons] at hm
  rcases hm with hm|rfl|hm
  ·have:=h1 m hm
   rw [ha,tT] at this;cases this
  ·unfold lL
   split
   ·rename_i hc;exact .inr (.inl hc)
   ·exact .inl rfl
  ·have:=h2 m hm
   rw [ha,tT] at this;cases this
theorem aPc (p:aS) (a:aP):bJ (bJ p a) a=bJ p a:=by
 rcases ask_cases p a with ⟨e,_⟩|⟨e,hn⟩
 ·rw [e,e]
 ·rw [e]
  have hle:=aMq p.mods a
  have h1:=(nV a p.mods).1
  have hat:dA (eZ p a (dA p.mods a)) a=dA p.mods a:=by
   refine oQ (by simp [eZ];omega) ?_ ?_
   ·intro x hx
    rw [eZ,List.take_left' (by simp;omega)] at hx
    exact (rP _ _).2 (h1 x hx)
   ·intro m hm
    rw [eZ,List.getElem?_append_right (by simp;omega)] at hm
    rw [List.length_take,Nat.min_eq_left hle,Nat.sub_self] at hm
    simp only [List.getElem?_cons_zero,Option.some.injEq] at hm
    subst hm
    rw [tY,rP,tT];simp
  have hg:(eZ p a (dA p.mods a))[dA p.mods a]? =some (lL p a):=by
   rw [eZ,List.getElem?_append_right (by simp;omega),List.length_take,Nat.min_eq_left hle,Nat.sub_self]
   rfl
  rw [bJ]
  simp only [hat,hg,tY,if_true]
theorem aHp (p:aS) (mode:Int) (tu digest:Str) (node:Int):
  (dP p mode tu digest node).2= -1∨∃s,(dP p mode tu digest node).1.slots[p.slots.length]? =some s∧(dP p mode tu digest node).2=(p.slots.length:Int)∧p.slots.length < (dP p mode tu digest node).1.slots.length∧
   (bR p.policy (gB (dP p mode tu digest node).1 s)=1∨(s.done=true∧s.code=2)):=by
 unfold dP
 split
 ·exact .inl rfl
 ·split
  ·refine .inr ⟨⟨mode,(bA tu p.addr.host).1,digest,node,true,2,[]⟩,by simp,rfl,by simp,.inr ⟨rfl,rfl⟩⟩
  ·rename_i h
   have h2:bR p.policy ⟨bI mode,(bA tu p.addr.host).1,p.addr.host,digest⟩=1:=by
    by_cases e:bR p.policy ⟨bI mode,(bA tu p.addr.host).1,p.addr.host,digest⟩=1
    ·exact e
    ·exact (h (.inr e)).elim
   refine .inr ⟨⟨mode,(bA tu p.addr.host).1,digest,node,false,0,[]⟩,by simp,rfl,by simp,.inl h2⟩
end Go.Proofs.YtejigeoigebhcaaGreat
