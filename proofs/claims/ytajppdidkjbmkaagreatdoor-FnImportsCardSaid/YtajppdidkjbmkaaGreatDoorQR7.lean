/-
  Proved here: steps towards the statement of this claim, text QR7.
  No condition beyond what each statement spells out.
-/
import Derived.Test.YtajppdidkjbmkaaGreatDoorQJ1
import Derived.Test.YtajppdidkjbmkaaGreatDoorQDRG
import Derived.Test.YtajppdidkjbmkaaGreatDoorQS1
import Derived.Test.YtajppdidkjbmkaaGreatDoorQN1
import Derived.Test.YtajppdidkjbmkaaGreatDoorQI2
import Derived.Test.YtajppdidkjbmkaaGreatDoorQI4
import Derived.Test.YtajppdidkjbmkaaGreatDoorQP9
import Derived.Test.YtajppdidkjbmkaaGreatDoorI9
set_option linter.all false
set_option maxRecDepth 4000
set_option maxHeartbeats 4000000
namespace Go.Proofs.YtajppdidkjbmkaaGreatDoor
open Go.Aw
theorem aEe:∀{a b c:List UInt8},Op.bytesLess a b=true→Op.bytesLess b c=true→Op.bytesLess a c=true
 |_,[],_,h,_=>by simp [Op.bytesLess] at h
 |_,_::_,[],_,h=>by simp [Op.bytesLess] at h
 |[],_::_,_::_,_,_=>by simp [Op.bytesLess]
 |x::a,y::b,z::c,h1,h2=>by
  simp only [Op.bytesLess,Bool.or_eq_true,Bool.and_eq_true,decide_eq_true_eq,beq_iff_eq] at h1 h2⊢
  rcases h1 with h1|⟨rfl,h1⟩
  ·rcases h2 with h2|⟨rfl,h2⟩
   ·exact .inl (UInt8.lt_trans h1 h2)
   ·exact .inl h1
  ·rcases h2 with h2|⟨rfl,h2⟩
   ·exact .inl h2
   ·exact .inr ⟨rfl,aEe h1 h2⟩
theorem aL0:∀{a b:List UInt8},a≠b→Op.bytesLess a b=false→Op.bytesLess b a=true
 |[],[],h,_=>(h rfl).elim
 |[],_::_,_,h=>by simp [Op.bytesLess] at h
 |_::_,[],_,_=>by simp [Op.bytesLess]
 |x::a,y::b,hne,h=>by
  simp only [Op.bytesLess,Bool.or_eq_false_iff,Bool.and_eq_false_iff,decide_eq_false_iff_not,beq_eq_false_iff_ne,Bool.or_eq_true,Bool.and_eq_true,decide_eq_true_eq,beq_iff_eq] at h⊢
  by_cases e:x=y
  ·subst e
   exact .inr ⟨rfl,aL0 (fun h=>hne (by rw [h])) (h.2.resolve_left fun h=>h rfl)⟩
  ·exact .inl (by rcases UInt8.lt_or_lt_of_ne e with h1|h1;exact (h.1 h1).elim;exact h1)
def lK (a b:aH):Bool:=Op.bytesLess a.host b.host || (a.host == b.host&&Op.bytesLess a.path b.path)
theorem tY (a:aH):lK a a=false:=by simp [lK,pQ]
theorem aUa (a b:aH):cmpAddr a b= -1↔lK a b=true:=by
 rw [xU]
 by_cases e:a=b
 ·subst e;simp [tY]
 ·rw [if_neg e]
  change (if lK a b=true then (-1:Int) else 1)= -1↔_
  split<;>simp_all
theorem aOo (a b:aH):cmpAddr a b < 0↔lK a b=true:=by
 rw [←aUa]
 have:=xU a b
 split at this
 ·omega
 ·split at this<;>omega
theorem aDr {a b c:aH} (h1:lK a b=true) (h2:lK b c=true):lK a c=true:=by
 simp only [lK,Bool.or_eq_true,Bool.and_eq_true,beq_iff_eq] at h1 h2⊢
 rcases h1 with h1|⟨e1,h1⟩
 ·rcases h2 with h2|⟨e2,h2⟩
  ·exact .inl (aEe h1 h2)
  ·exact .inl (e2▸h1)
 ·rcases h2 with h2|⟨e2,h2⟩
  ·exact .inl (e1▸h2)
  ·exact .inr ⟨e1.trans e2,aEe h1 h2⟩
theorem aRe {a b:aH} (hne:a≠b) (h:lK a b=false):lK b a=true:=by
 simp only [lK,Bool.or_eq_false_iff,Bool.and_eq_false_iff,Bool.or_eq_true,Bool.and_eq_true,beq_iff_eq,beq_eq_false_iff_ne] at h⊢
 by_cases e:a.host=b.host
 ·refine .inr ⟨e.symm,aL0 (fun h2=>hne ?_) (h.2.resolve_left fun h=>h e)⟩
  obtain ⟨x,y⟩:=a;obtain ⟨z,w⟩:=b;simp_all
 ·exact .inl (aL0 e h.1)
def fB (l:List bN):Prop:=l.Pairwise fun a b=>lK a.to b.to=true
theorem vD (a:aH):∀l:List bN,(∀x∈l.take (eO l a),lK x.to a=true)∧(∀m,l[eO l a]? =some m→lK m.to a=false)
 |[]=>by simp [eO]
 |m::l=>by
  have ih:=vD a l
  simp only [eO] at ih
  by_cases h:cmpAddr m.to a < 0
  ·simp only [eO,List.takeWhile_cons,decide_eq_true h,if_true,List.length_cons,List.take_succ_cons,List.mem_cons,List.getElem?_cons_succ]
   refine ⟨fun x hx=>hx.elim (fun e=>e▸(aOo _ _).1 h) fun hx=>ih.1 x hx,ih.2⟩
  ·simp only [eO,List.takeWhile_cons,decide_eq_false h,Bool.false_eq_true,if_false,List.length_nil,List.take_zero,List.not_mem_nil,false_implies,implies_true,List.getElem?_cons_zero,Option.some.injEq,true_and]
   rintro _ rfl
   exact Bool.eq_false_iff.2 fun e=>h ((aOo _ _).2 e)
theorem wV (p:aY) (a:aH):(lY p a).to=a:=by unfold lY;split<;>rfl
theorem aNu {l:List bN} {a:aH} (h:fB l) (hn:∀m,l[eO l a]? =some m→m.to≠a):∀x∈l.drop (eO l a),lK a x.to=true:=by
 obtain ⟨_,h2⟩:=vD a l
 generalize eO l a=k at *
 cases hd:l[k]? with
 |none=>
  have:l.length≤k:=by simpa using hd
  rw [List.drop_of_length_le this];simp
 |some m=>
  have hk:=(List.getElem?_eq_some_iff.1 hd).1
  have hm:=(List.getElem?_eq_some_iff.1 hd).2
  have h3:=aRe (hn m hd) (h2 m hd)
  rw [List.drop_eq_getElem_cons hk,hm]
  have hp:(l.drop k).Pairwise fun a b=>lK a.to b.to=true:=h.sublist (List.drop_sublist _ _)
  rw [List.drop_eq_getElem_cons hk,hm] at hp
  intro x hx
  rcases List.mem_cons.1 hx with rfl|hx
  ·exact h3
  ·exact aDr h3 ((List.pairwise_cons.1 hp).1 x hx)
theorem aOx {p:aY} {a:aH} (h:fB p.mods) (hn:∀m,p.mods[eO p.mods a]? =some m→m.to≠a):fB (kS p a (eO p.mods a)):=by
 have h1:=(vD a p.mods).1
 have h2:=aNu h hn
 unfold fB kS
 rw [List.pairwise_append]
 refine ⟨h.sublist (List.take_sublist _ _),List.pairwise_cons.2 ⟨fun x hx=>by rw [wV];exact h2 x hx,h.sublist (List.drop_sublist _ _)⟩,?_⟩
 intro x hx y hy
 rcases List.mem_cons.1 hy with rfl|hy
 ·rw [wV];exact h1 x hx
 ·exact aDr (h1 x hx) (h2 y hy)
theorem ask_cases (p:aY) (a:aH):(dB p a=p∧∃m,p.mods[eO p.mods a]? =some m∧m.to=a)∨(dB p a={p with mods:=kS p a (eO p.mods a)}∧∀m,p.mods[eO p.mods a]? =some m→m.to≠a):=by
 unfold dB
 split
 ·rename_i m hm
  split
  ·rename_i e;exact .inl ⟨rfl,m,hm,e⟩
  ·rename_i e
   refine .inr ⟨rfl,fun x hx=> ?_⟩
   rw [hm] at hx
   exact Option.some.inj hx▸e
 ·rename_i hm
  refine .inr ⟨rfl,fun x hx=> ?_⟩
  rw [hm] at hx;cases hx
theorem yJ {p:aY} (a:aH) (h:fB p.mods):fB (dB p a).mods:=by
 rcases ask_cases p a with ⟨e,_⟩|⟨e,hn⟩
 ·rw [e];exact h
 ·rw [e];exact aOx h hn
theorem aTz (s b:Str):aO (dH s b).1≤s.length+b.length:=by
 have h:=rH 47 s
 unfold dH addrOf
 split<;>split<;>simp [aO,nK]<;>omega
def oD (p:aY) (tx:Str):aY:=
 if (dH tx p.addr.host).2=false∨20≤p.entries.length then p else {dB p (dH tx p.addr.host).1 with entries:=p.entries++[(dH tx p.addr.host).1]}
theorem aIk (p:aY) (a:aH):(dB p a).entries=p.entries:=by
 unfold dB
 split
 ·split<;>rfl
 ·rfl
theorem aEr [aB Tryz.prog] (p:aY) (tx:Str) (hs:bJ p≤268435456) (hto:tx.length≤268435456):Ok Tryz.prog 71 [.agg (aI .view p),.str tx] (.agg (aI .own (oD p tx))):=by
 have hsl:p.addr.host.length≤268435456:=by simp only [bJ,aO] at hs;omega
 have hen:p.entries.length≤268435456:=by simp only [bJ,szL] at hs;omega
 have c1:=xL p (by omega)
 have c3:=vL tx p.addr.host (by omega)
 have hsz:=aTz tx p.addr.host
 unfold oD
 generalize dH tx p.addr.host=pa at *
 obtain ⟨a,ok⟩:=pa
 simp only at c3 hsz⊢
 have c4:=vR p a (by omega) (by omega)
 have hke:=aIk p a
 obtain ⟨l1,hl1⟩:∃l,l=p.entries++[a]:=⟨_,rfl⟩
 have hap:p.entries.map aL++[[.str a.host,.str a.path]]=l1.map aL:=by rw [hl1];simp
 rw [←hl1]
 clear hl1
 generalize dB p a=g at *
 simp only [aI,aL] at c1 c3 c4
 rw [hke] at c4
 cases ok
 ·simp only [true_or,if_true]
  refine ent Tryz.mix Tryz.func71 Tryz.ntmps71 ?_
  have W:=trivial
  repeat' first|refine st ?_|(refine nx ?_;first|refine se ?_|refine so ?_)|(refine cx ?_;refine sc (fun hc=>?_) (fun hc=>?_)<;>try exact hc.elim)|(refine lx ?_;refine sp (fun hc=>?_) (fun hc=>?_)<;>try exact hc.elim)|refine sx ?_ ?_|refine sy ?_ ?_|fail
  all_goals (try (refine ⟨.inr rfl,?_⟩;simp [Hands,Tryz.results71]))
 ·by_cases h20:20≤p.entries.length
  ·have h20i:(20:Int)≤(p.entries.length:Int):=by omega
   simp only [h20,or_true,if_true]
   refine ent Tryz.mix Tryz.func71 Tryz.ntmps71 ?_
   have W:=h20i
   repeat' first|refine st ?_|(refine nx ?_;first|refine se ?_|refine so ?_)|(refine cx ?_;refine sc (fun hc=>?_) (fun hc=>?_)<;>try exact hc.elim)|(refine lx ?_;refine sp (fun hc=>?_) (fun hc=>?_)<;>try exact hc.elim)|refine sx ?_ ?_|refine sy ?_ ?_|fail
   all_goals (try (refine ⟨.inr rfl,?_⟩;simp [Hands,Tryz.results71]))
  ·have h20i:¬(20:Int)≤(p.entries.length:Int):=by omega
   rw [if_neg (by rintro (h|h);cases h;exact h20 h)]
   refine ent Tryz.mix Tryz.func71 Tryz.ntmps71 ?_
   have W:=And.intro h20i hap
   repeat' first|refine st ?_|(refine nx ?_;first|refine se ?_|refine so ?_)|(refine cx ?_;refine sc (fun hc=>?_) (fun hc=>?_)<;>try exact hc.elim)|(refine lx ?_;refine sp (fun hc=>?_) (fun hc=>?_)<;>try exact hc.elim)|refine sx ?_ ?_|refine sy ?_ ?_|fail
   all_goals (try (refine ⟨.inr rfl,?_⟩;simp [Hands,Tryz.results71]))
def jS (p:aY) (a:aH):Prop:=∃m∈p.mods,m.to=a
def aG5 (p:aY):Prop:=∀m∈p.mods,m.done=true→m.code=1→∀b∈(aX m.body m.to.host).1,jS p b
theorem aQ0 {l:List bN} (h:fB l) {i j:Nat} (hi:i < l.length) (hj:j < l.length) (e:l[i].to=l[j].to):i=j:=by
 unfold fB at h
 rw [List.pairwise_iff_getElem] at h
 rcases Nat.lt_trichotomy i j with hl|hl|hl
 ·have:=h i j hi hj hl
  rw [e,tY] at this;cases this
 ·exact hl
 ·have:=h j i hj hi hl
  rw [e,tY] at this;cases this
theorem yO {p:aY} {a:aH} (h:fB p.mods) {m:bN}:m∈(dB p a).mods↔m∈p.mods∨(m=lY p a∧¬jS p a):=by
 rcases ask_cases p a with ⟨e,x,hx,hxa⟩|⟨e,hn⟩
 ·rw [e]
  have:jS p a:=⟨x,List.mem_of_getElem? hx,hxa⟩
  simp [this]
 ·rw [e]
  have h1:=(vD a p.mods).1
  have h2:=aNu h hn
  have hno:¬jS p a:=by
   rintro ⟨x,hx,hxa⟩
   rw [←List.take_append_drop (eO p.mods a) p.mods,List.mem_append] at hx
   rcases hx with hx|hx
   ·have:=h1 x hx
    rw [hxa,tY] at this;cases this
   ·have:=h2 x hx
    rw [hxa,tY] at this;cases this
  have e2:m∈p.mods↔m∈p.mods.take (eO p.mods a)∨m∈p.mods.drop (eO p.mods a):=by
   rw [←List.mem_append,List.take_append_drop]
  simp only [kS,List.mem_append,List.mem_cons,e2,hno,not_false_eq_true,and_true]
  constructor
  ·rintro (h|h|h)
   ·exact .inl (.inl h)
   ·exact .inr h
   ·exact .inl (.inr h)
  ·rintro ((h|h)|h)
   ·exact .inl h
   ·exact .inr (.inr h)
   ·exact .inr (.inl h)
theorem aVs {p:aY} {a:aH} (h:fB p.mods):jS (dB p a) a:=by
 by_cases hn:jS p a
 ·obtain ⟨m,hm,e⟩:=hn
  exact ⟨m,(yO h).2 (.inl hm),e⟩
 ·exact ⟨lY p a,(yO h).2 (.inr ⟨rfl,hn⟩),wV p a⟩
theorem aEh {p:aY} {a b:aH} (h:fB p.mods) (hb:jS p b):jS (dB p a) b:=by
 obtain ⟨m,hm,e⟩:=hb
 exact ⟨m,(yO h).2 (.inl hm),e⟩
theorem aHg (p:aY) (a:aH):¬((lY p a).done=true∧(lY p a).code=1):=by
 unfold lY;split<;>simp
theorem aP5 {p:aY} {a:aH} (h:fB p.mods) (hc:aG5 p):aG5 (dB p a):=by
 intro m hm hd hcode b hb
 rcases (yO h).1 hm with hm|⟨rfl,_⟩
 ·exact aEh h (hc m hm hd hcode b hb)
 ·exact absurd ⟨hd,hcode⟩ (aHg p a)
structure uX (p : aY) : Prop where
  up : fB p.mods
  cl : aG5 p
theorem aXd {p:aY} (a:aH) (h:uX p):uX (dB p a):=⟨yJ a h.up,aP5 h.up h.cl⟩
theorem aSo {p:aY} (tx:Str) (h:uX p):uX (oD p tx):=by
 unfold oD
 split
 ·exact h
 ·exact ⟨(aXd _ h).up,(aXd _ h).cl⟩
theorem aQ2 {l:List aH}:∀{q:aY},fB q.mods→fB (dN q l).mods:=by
 induction l with
 |nil=>intro q h;exact h
 |cons a l ih=>intro q h;exact ih (yJ a h)
theorem aC3 {l:List aH}:∀{q:aY} {b:aH},fB q.mods→jS q b→jS (dN q l) b:=by
 induction l with
 |nil=>intro q b _ h;exact h
 |cons a l ih=>intro q b h hb;exact ih (yJ a h) (aEh h hb)
theorem aQg {l:List aH}:∀{q:aY} {b:aH},fB q.mods→b∈l→jS (dN q l) b:=by
 induction l with
 |nil=>intro q b _ hb;cases hb
 |cons a l ih=>
  intro q b h hb
  rcases List.mem_cons.1 hb with rfl|hb
  ·show jS (dN (dB q b) l) b
   exact aC3 (yJ _ h) (aVs h)
  ·exact ih (yJ a h) hb
theorem aEs {l:List aH}:∀{q:aY} {m:bN},fB q.mods→m∈(dN q l).mods→m∈q.mods∨(¬(m.done=true∧m.code=1)∧¬jS q m.to):=by
 induction l with
 |nil=>intro q m _ h;exact .inl h
 |cons a l ih=>
  intro q m h hm
  rcases ih (yJ a h) hm with h1|⟨h1,h2⟩
  ·rcases (yO h).1 h1 with h1|⟨rfl,h2⟩
   ·exact .inl h1
   ·exact .inr ⟨aHg q a,by rw [wV];exact h2⟩
  ·exact .inr ⟨h1,fun h3=>h2 (aEh h h3)⟩
theorem aVw (l:List bN) (k:Nat) (hk:k < l.length) (m:bN) (h:m.to=l[k].to):(l.set k m).map (·.to)=l.map (·.to):=by
 rw [List.map_set,h]
 apply List.ext_getElem?
 intro i
 rw [List.getElem?_set]
 split
 ·rename_i e;subst e;simp [hk]
 ·rfl
theorem zB {l l':List bN} (h:l'.map (·.to)=l.map (·.to)) (hu:fB l):fB l':=by
 have e:∀l:List bN,fB l↔(l.map (·.to)).Pairwise fun a b=>lK a b=true:=fun l=>by unfold fB;rw [List.pairwise_map]
 rw [e,h,←e];exact hu
theorem aP3 {p q:aY} (h:q.mods.map (·.to)=p.mods.map (·.to)) {b:aH}:jS q b↔jS p b:=by
 have e:∀p:aY,jS p b↔b∈p.mods.map (·.to):=fun p=>by simp [jS]
 rw [e,h,←e]
theorem aQv {p:aY} {a:aH} {k:Nat} (h:iT (fH a) p.mods=(k:Int)) (hk:k < p.mods.length):p.mods[k].to=a:=by
 have:=(aSm h hk).1
 simpa [fH] using this
theorem nQ (p:aY) (a:aH) (x:bA):(bS p a x=p∧(∀m∈p.mods,m.to≠a))∨(∃k,∃hk:k < p.mods.length,iT (fH a) p.mods=(k:Int)∧p.mods.find? (fH a)=some p.mods[k]∧p.mods[k].to=a∧
  ((bS p a x=p∧p.mods[k].done=true)∨(p.mods[k].done=false∧bS p a x=qI p a x k p.mods[k]))):=by
 rcases mE (fH a) p.mods with ⟨hi,hn⟩|⟨k,hk,hi,hf⟩
 ·refine .inl ⟨vE hi,fun m hm e=> ?_⟩
  have:=List.find?_eq_none.1 hn m hm
  simp [fH,e] at this
 ·refine .inr ⟨k,hk,hi,hf,aQv hi hk,?_⟩
  cases hd:p.mods[k].done with
  |true=>exact .inl ⟨vC hi (List.getElem?_eq_getElem hk) hd,rfl⟩
  |false=>exact .inr ⟨rfl,xD hi (List.getElem?_eq_getElem hk) hd⟩
theorem zG (p:aY) (x:bA) {k:Nat} (hk:k < p.mods.length):(p.mods.set k (bY p p.mods[k] x)).map (·.to)=p.mods.map (·.to):=aVw _ _ hk _ rfl
theorem aTh {p:aY} (a:aH) (x:bA) (h:fB p.mods):fB (bS p a x).mods:=by
 rcases nQ p a x with ⟨e,_⟩|⟨k,hk,_,_,_,⟨e,_⟩|⟨_,e⟩⟩
 ·rw [e];exact h
 ·rw [e];exact h
 ·rw [e];exact aQ2 (zB (zG p x hk) h)
theorem aR2 {p:aY} (a:aH) (x:bA) (h:uX p):uX (bS p a x):=by
 refine ⟨aTh a x h.up,?_⟩
 rcases nQ p a x with ⟨e,_⟩|⟨k,hk,hi,hf,hto,⟨e,_⟩|⟨_,e⟩⟩
 ·rw [e];exact h.cl
 ·rw [e];exact h.cl
 ·rw [e]
  have hff:=tX (x:=x) hi hk hf
  have htos:=zG p x hk
  have hup:fB (p.mods.set k (bY p p.mods[k] x)):=zB htos h.up
  unfold qI
  intro m hm hd hc b hb
  rcases aEs (q:={p with mods:=p.mods.set k (bY p p.mods[k] x)}) hup hm with hm|⟨hm,_⟩
  ·rcases List.mem_or_eq_of_mem_set hm with hm|rfl
   ·exact aC3 (q:={p with mods:=p.mods.set k (bY p p.mods[k] x)}) hup ((aP3 (p:=p) (q:={p with mods:=p.mods.set k (bY p p.mods[k] x)}) htos).2 (h.cl m hm hd hc b hb))
   ·refine aQg (q:={p with mods:=p.mods.set k (bY p p.mods[k] x)}) hup ?_
    unfold mD
    simp only [hff]
    have e2:(bY p p.mods[k] x).to=a:=hto
    rw [e2] at hb
    rw [if_pos ⟨hd,hc⟩]
    exact hb
  ·exact absurd ⟨hd,hc⟩ hm
theorem aMx {p:aY} (a:aH) (x y:bA) (h:fB p.mods):bS (bS p a x) a y=bS p a x:=by
 rcases nQ p a x with ⟨e,hn⟩|⟨k,hk,hi,_,hto,⟨e,hd⟩|⟨_,e⟩⟩
 ·rw [e]
  rcases nQ p a y with ⟨e,_⟩|⟨k,hk,_,_,hto,_⟩
  ·exact e
  ·exact absurd hto (hn _ (List.getElem_mem hk))
 ·rw [e]
  rcases nQ p a y with ⟨e,_⟩|⟨k2,hk2,hi2,_,_,⟨e,_⟩|⟨hd2,_⟩⟩
  ·exact e
  ·exact e
  ·have:k=k2:=by omega
   subst this
   rw [hd] at hd2;cases hd2
 ·have htos:=zG p x hk
  have hup:fB (p.mods.set k (bY p p.mods[k] x)):=zB htos h
  have hkl:k < (p.mods.set k (bY p p.mods[k] x)).length:=by rw [List.length_set];exact hk
  have hkg:(p.mods.set k (bY p p.mods[k] x))[k]=bY p p.mods[k] x:=by simp
  rcases nQ (bS p a x) a y with ⟨e2,_⟩|⟨k2,hk2,_,_,hto2,⟨e2,_⟩|⟨hd2,_⟩⟩
  ·exact e2
  ·exact e2
  ·exfalso
   have hm:(bS p a x).mods[k2]∈(bS p a x).mods:=List.getElem_mem hk2
   generalize (bS p a x).mods[k2]=m at *
   rw [e] at hm
   unfold qI at hm
   rcases aEs (q:={p with mods:=p.mods.set k (bY p p.mods[k] x)}) hup hm with hm|⟨_,hm⟩
   ·obtain ⟨j,hj,rfl⟩:=List.getElem_of_mem hm
    have:=aQ0 hup hj hkl (by rw [hkg];exact hto2.trans hto.symm)
    subst this
    rw [hkg] at hd2
    cases hd2
   ·refine hm ⟨bY p p.mods[k] x,?_,?_⟩
    ·exact List.mem_of_getElem? (i:=k) (by simp [hk])
    ·exact hto.trans hto2.symm
theorem aKq (s b:Str):aO (dH s b).1≤16:=by
 unfold dH
 split
 ·rename_i h
  simp only [mR,bV,Bool.and_eq_true,decide_eq_true_eq] at h
  simp only [aO];omega
 ·simp [aO,nK]
theorem aMr (base:Str):∀(ps:List Str) (l:List aH) (r:List Str),fZ base ps=some (l,r)→∀b∈l,aO b≤16
 |[],l,r,h=>by simp only [fZ,Option.some.injEq,Prod.mk.injEq] at h;obtain ⟨rfl,_⟩:=h;simp
 |p::ps,l,r,h=>by
  simp only [fZ] at h
  split at h
  ·split at h
   ·cases hq:fZ base ps with
    |none=>rw [hq] at h;simp at h
    |some q=>
     rw [hq] at h
     simp only [Option.map_some,Option.some.injEq,Prod.mk.injEq] at h
     obtain ⟨rfl,_⟩:=h
     intro b hb
     rcases List.mem_cons.1 hb with rfl|hb
     ·exact aKq _ _
     ·exact aMr base ps q.1 q.2 (by rw [hq]) b hb
   ·cases h
  ·simp only [Option.some.injEq,Prod.mk.injEq] at h;obtain ⟨rfl,_⟩:=h;simp
theorem aS0 (s b:Str):∀a∈(aX s b).1,aO a≤16:=by
 unfold aX
 split
 ·simp
 ·rename_i l r h
  split
  ·exact aMr b _ l r h
  ·simp
theorem aXe (q:aY) (a:aH):∀b∈mD q a,aO b≤16:=by
 unfold mD
 split
 ·split
  ·exact aS0 _ _
  ·simp
 ·simp
theorem aIg (p:aY) (a:aH) (x:bA):bJ (bS p a x)≤bJ p+1400:=by
 rcases mE (fH a) p.mods with ⟨hi,hf⟩|⟨k,hk,hi,hf⟩
 ·rw [vE hi];omega
 ·have hg:=List.getElem?_eq_getElem hk
  cases hd:p.mods[k].done
  ·rw [xD hi hg hd]
   have hfi:=tX (x:=x) hi hk hf
   have hqs:=aGx p k hk x
   have hub:=wY p.policy (bU p p.mods[k]) x
   have b1:(mD {p with mods:=p.mods.set k (bY p p.mods[k] x)} a).length≤57:=by
    rw [aAk hfi]
    split
    ·obtain ⟨h1,_,h3⟩:=rU (bY p p.mods[k] x).body a.host
     have h4:(bY p p.mods[k] x).body.length≤400:=hub
     omega
    ·simp
   have h:=aAe 16 (mD {p with mods:=p.mods.set k (bY p p.mods[k] x)} a) {p with mods:=p.mods.set k (bY p p.mods[k] x)} (aXe _ _)
   unfold qI
   have h4:=Nat.mul_le_mul_right (16+1) b1
   omega
  ·rw [vC hi hg hd];omega
end Go.Proofs.YtajppdidkjbmkaaGreatDoor
