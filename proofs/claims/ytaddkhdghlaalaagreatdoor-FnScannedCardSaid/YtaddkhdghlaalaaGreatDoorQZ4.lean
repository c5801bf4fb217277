/-
  Proved here: steps towards the statement of this claim, text QZ4.
  No condition beyond what each statement spells out.
-/
import Derived.Test.YtaddkhdghlaalaaGreatDoorQ2
import Derived.Test.YtaddkhdghlaalaaGreatDoorQTK7
import Derived.Test.YtaddkhdghlaalaaGreatDoorQMK1
import Derived.Test.YtaddkhdghlaalaaGreatDoorQD1
import Derived.Test.YtaddkhdghlaalaaGreatDoorF6
import Derived.Test.YtaddkhdghlaalaaGreatDoorF8
set_option linter.all false
set_option maxRecDepth 4000
set_option maxHeartbeats 4000000
namespace Go.Proofs.YtaddkhdghlaalaaGreatDoor
open Go.Aw
def gI (p:aC) (a:aD):List aD:=
 match p.mods.find? (gJ a) with
 |some m=>if m.done=true∧m.code=1 then (bK m.body a.host).1 else []
 |none=>[]
def oH (p:aC):List aD:=p.mods.flatMap fun m=>(bK m.body m.to.host).1
def fU (p:aC):Nat→aD→List aD→List aD→List aD×List aD
 |0,_,seen,out=>(seen,out)
 |n+1,a,seen,out=>if seen.any (eG a)=true then (seen,out) else
   (((gI p a).foldl (fun s b=>fU p n b s.1 s.2) (seen++[a],out)).1,((gI p a).foldl (fun s b=>fU p n b s.1 s.2) (seen++[a],out)).2++[a])
def unseen (p:aC) (seen:List aD):Nat:=(p.mods.filter fun m=> !seen.any (eG m.to)).length
def iB (p:aC) (n:Nat) (l:List aD) (s:List aD×List aD):List aD×List aD:=l.foldl (fun s b=>fU p n b s.1 s.2) s
theorem aNo (p:aC) (n:Nat) (l:List aD) (b:aD) (s:List aD×List aD):iB p n (l++[b]) s=fU p n b (iB p n l s).1 (iB p n l s).2:=by
 simp [iB]
theorem uD {l:List aD} {a:aD}:l.any (eG a)=true↔a∈l:=by
 simp [eG]
theorem aLm (p:aC) (a:aD):∀b∈gI p a,b∈oH p:=by
 intro b hb
 unfold gI at hb
 split at hb
 ·rename_i m hm
  split at hb
  ·have h1:=List.find?_some hm
   have h2:=List.mem_of_find?_eq_some hm
   simp only [gJ,decide_eq_true_eq] at h1
   subst h1
   exact List.mem_flatMap.2 ⟨m,h2,hb⟩
  ·cases hb
 ·cases hb
theorem aX1 {p:aC} {a:aD} (h:gI p a≠[]):∃m∈p.mods,m.to=a:=by
 unfold gI at h
 split at h
 ·rename_i m hm
  have h1:=List.find?_some hm
  simp only [gJ,decide_eq_true_eq] at h1
  exact ⟨m,List.mem_of_find?_eq_some hm,h1⟩
 ·exact absurd rfl h
structure Seen (U : List aD) (s : List aD × List aD) : Prop where
  nd : s.1.Nodup
  sub : ∀ x ∈ s.1, x ∈ U
  ond : s.2.Nodup
  osub : ∀ x ∈ s.2, x ∈ s.1
theorem aU8 {p:aC} {s s':List aD} (h:∀x∈s,x∈s'):unseen p s'≤unseen p s:=by
 unfold unseen
 have:∀l:List dR,(l.filter fun m=> !s'.any (eG m.to)).length≤(l.filter fun m=> !s.any (eG m.to)).length:=by
  intro l
  induction l with
  |nil=>simp
  |cons m l ih=>
   simp only [List.filter_cons]
   by_cases h1:s.any (eG m.to)=true
   ·have h2:s'.any (eG m.to)=true:=uD.2 (h _ (uD.1 h1))
    simp [h1,h2,ih]
   ·simp only [Bool.not_eq_true] at h1
    simp only [h1]
    split<;>simp<;>omega
 exact this p.mods
theorem bA9 {p:aC} {s:List aD} {a:aD} (h:¬s.any (eG a)=true) (hm:∃m∈p.mods,m.to=a):unseen p (s++[a]) < unseen p s:=by
 obtain ⟨m,hm,rfl⟩:=hm
 unfold unseen
 have key:∀l:List dR,(l.filter fun x=> !(s++[m.to]).any (eG x.to)).length≤(l.filter fun x=> !s.any (eG x.to)).length∧(m∈l→(l.filter fun x=> !(s++[m.to]).any (eG x.to)).length < (l.filter fun x=> !s.any (eG x.to)).length):=by
  intro l
  induction l with
  |nil=>simp
  |cons x l ih=>
   simp only [List.filter_cons]
   by_cases h1:s.any (eG x.to)=true
   ·have h2:(s++[m.to]).any (eG x.to)=true:=uD.2 (List.mem_append_left _ (uD.1 h1))
    simp only [h1,h2,Bool.not_true,Bool.false_eq_true,if_false]
    refine ⟨ih.1,fun hmem=> ?_⟩
    rcases List.mem_cons.1 hmem with rfl|hmem
    ·exact absurd h1 h
    ·exact ih.2 hmem
   ·by_cases h2:(s++[m.to]).any (eG x.to)=true
    ·simp only [Bool.not_eq_true] at h1
     simp only [h1,h2,Bool.not_true,Bool.false_eq_true,if_false,Bool.not_false,if_true,List.length_cons]
     exact ⟨by omega,fun _=>by omega⟩
    ·have h2':=h2
     simp only [Bool.not_eq_true] at h1 h2
     simp only [h1,h2,Bool.not_false,if_true,List.length_cons]
     refine ⟨by omega,fun hmem=> ?_⟩
     rcases List.mem_cons.1 hmem with rfl|hmem
     ·exact absurd (uD.2 (by simp)) h2'
     ·have:=ih.2 hmem;omega
 exact (key p.mods).2 hm
theorem aAs {p:aC} {U:List aD} (hU:∀x∈oH p,x∈U):∀(n:Nat) (a:aD) (s:List aD×List aD),a∈U→Seen U s→Seen U (fU p n a s.1 s.2)∧(∀x∈s.1,x∈(fU p n a s.1 s.2).1)
 |0,a,s,_,hs=>by simp only [fU];exact ⟨hs,fun _ h=>h⟩
 |n+1,a,s,ha,hs=>by
  simp only [fU]
  split
  ·exact ⟨hs,fun _ h=>h⟩
  ·rename_i hn
   have hna:a∉s.1:=fun h=>hn (uD.2 h)
   have key:∀(l:List aD) (q:List aD×List aD),(∀x∈l,x∈U)→Seen U q→(a∈q.1∧a∉q.2)→Seen U (l.foldl (fun s b=>fU p n b s.1 s.2) q)∧(∀x∈q.1,x∈(l.foldl (fun s b=>fU p n b s.1 s.2) q).1)∧a∉(l.foldl (fun s b=>fU p n b s.1 s.2) q).2:=by
    intro l
    induction l with
    |nil=>intro q _ hq ha;exact ⟨hq,fun _ h=>h,ha.2⟩
    |cons b l ih=>
     intro q hl hq haq
     obtain ⟨h1,h2⟩:=aAs hU n b q (hl b (by simp)) hq
     have h3:a∉(fU p n b q.1 q.2).2:=visit_out n b q haq.1 haq.2
     obtain ⟨h4,h5,h6⟩:=ih (fU p n b q.1 q.2) (fun x hx=>hl x (by simp [hx])) h1 ⟨h2 a haq.1,h3⟩
     exact ⟨h4,fun x hx=>h5 x (h2 x hx),h6⟩
   have hs1:Seen U (s.1++[a],s.2):=⟨List.nodup_append.2 ⟨hs.nd,by simp,fun x hx y hy e=>hna (by simp at hy;subst hy;subst e;exact hx)⟩,fun x hx=>by
    rcases List.mem_append.1 hx with h|h
    ·exact hs.sub x h
    ·simp at h;subst h;exact ha,hs.ond,fun x hx=>List.mem_append_left _ (hs.osub x hx)⟩
   obtain ⟨h1,h2,h3⟩:=key (gI p a) (s.1++[a],s.2) (fun x hx=>hU x (aLm p a x hx)) hs1 ⟨by simp,fun h=>hna (hs.osub a h)⟩
   refine ⟨⟨h1.nd,h1.sub,?_,?_⟩,fun x hx=>h2 x (List.mem_append_left _ hx)⟩
   ·exact List.nodup_append.2 ⟨h1.ond,by simp,fun x hx y hy e=>h3 (by simp at hy;subst hy;subst e;exact hx)⟩
   ·intro x hx
    rcases List.mem_append.1 hx with h|h
    ·exact h1.osub x h
    ·simp at h;subst h;exact h2 x (by simp)
where
 visit_out {p:aC} {a:aD}:∀(n:Nat) (b:aD) (q:List aD×List aD),a∈q.1→a∉q.2→a∉(fU p n b q.1 q.2).2
  |0,b,q,h1,h2=>by simpa only [fU] using h2
  |n+1,b,q,h1,h2=>by
   simp only [fU]
   split
   ·exact h2
   ·rename_i hn
    have hne:a≠b:=fun e=>hn (uD.2 (e▸h1))
    have key:∀(l:List aD) (q:List aD×List aD),a∈q.1→a∉q.2→a∉(l.foldl (fun s b=>fU p n b s.1 s.2) q).2:=by
     intro l
     induction l with
     |nil=>intro q _ h;exact h
     |cons c l ih=>
      intro q h1 h2
      exact ih _ (visit_in n c q h1) (visit_out n c q h1 h2)
    intro hm
    rcases List.mem_append.1 hm with h|h
    ·exact key (gI p b) (q.1++[b],q.2) (List.mem_append_left _ h1) h2 h
    ·simp at h;exact hne h
 visit_in {p:aC} {a:aD}:∀(n:Nat) (b:aD) (q:List aD×List aD),a∈q.1→a∈(fU p n b q.1 q.2).1
  |0,b,q,h1=>by simpa only [fU] using h1
  |n+1,b,q,h1=>by
   simp only [fU]
   split
   ·exact h1
   ·have key:∀(l:List aD) (q:List aD×List aD),a∈q.1→a∈(l.foldl (fun s b=>fU p n b s.1 s.2) q).1:=by
     intro l
     induction l with
     |nil=>intro q h;exact h
     |cons c l ih=>intro q h1;exact ih _ (visit_in n c q h1)
    exact key (gI p b) (q.1++[b],q.2) (List.mem_append_left _ h1)
theorem zX {α:Type} (f:α→Nat):∀(l U:List α),l.Nodup→(∀x∈l,x∈U)→aK f l≤aK f U∧l.length≤U.length
 |[],U,_,_=>by simp [aK]
 |x::l,U,hn,hs=>by
  simp only [List.nodup_cons] at hn
  obtain ⟨U1,U2,rfl⟩:=List.append_of_mem (hs x (by simp))
  have ih:=zX f l (U1++U2) hn.2 (fun y hy=>by
   have:=hs y (by simp [hy])
   simp only [List.mem_append,List.mem_cons] at this⊢
   rcases this with h|h|h
   ·exact .inl h
   ·subst h;exact absurd hy hn.1
   ·exact .inr h)
  have e:∀(A B:List α),aK f (A++B)=aK f A+aK f B:=by
   intro A B
   induction A with
   |nil=>simp [aK]
   |cons a A ih=>simp only [List.cons_append,aK,ih];omega
  simp only [e,aK,List.length_append,List.length_cons] at ih⊢
  omega
def yP:aV:=⟨404,1,[],0,false,[]⟩
theorem aJ8 [aB Tryz.prog]:Ok Tryz.prog 118 [] (.agg (cZ yP)):=by
 refine ent Tryz.mix Tryz.func118 Tryz.ntmps118 ?_
 refine aW ?_
 all_goals (try (refine ⟨.inr rfl,?_⟩;simp [Hands,Tryz.results118,yP]))
theorem bE3 {α:Type} {f:α→Bool} {l:List α} (hn:∀x∈l,f x=false):l.find? f=none:=List.find?_eq_none.2 fun x hx=>by simp [hn x hx]
theorem aTz {α:Type} {f:α→Bool}:∀l:List α,¬(∀x∈l,f x=false)→∃k,∃hk:k < l.length,f l[k]=true∧∀x∈l.take k,f x=false
 |[],h=>absurd (fun x hx=>by cases hx) h
 |x::l,h=>by
  cases hx:f x with
  |true=>exact ⟨0,by simp,by simpa using hx,by simp⟩
  |false=>
   obtain ⟨k,hk,h1,h2⟩:=aTz l (fun hl=>h (fun y hy=>by
    rcases List.mem_cons.1 hy with rfl|hy
    ·exact hx
    ·exact hl y hy))
   refine ⟨k+1,by simpa using hk,by simpa using h1,fun y hy=> ?_⟩
   simp only [List.take_succ_cons,List.mem_cons] at hy
   rcases hy with rfl|hy
   ·exact hx
   ·exact h2 y hy
theorem bFd {α:Type} {f:α→Bool} {l:List α} {k:Nat} (h:k < l.length) (hf:f l[k]=true) (hn:∀x∈l.take k,f x=false):l.find? f=some l[k]:=by
 have e:l=l.take k++l[k]::l.drop (k+1):=by simp
 have h5:=congrArg (List.find? f) e
 rw [h5,List.find?_append]
 have:(l.take k).find? f=none:=List.find?_eq_none.2 fun x hx=>by simp [hn x hx]
 rw [this]
 simp only [Option.none_or,List.find?_cons,hf]
theorem oP {α:Type} (f:α→Bool) (l:List α):(kP f l= -1∧l.find? f=none)∨∃k,∃h:k < l.length,kP f l=(k:Int)∧l.find? f=some l[k]:=by
 by_cases h:∀x∈l,f x=false
 ·exact .inl ⟨pI h,bE3 h⟩
 ·right
  obtain ⟨k,hk,h1,h2⟩:=aTz l h
  exact ⟨k,hk,uQ hk h1 h2,bFd hk h1 h2⟩
def aCt (h:Str) (s:dS):Bool:=s.host == h
def tK (h:Str) (s:aHx):Bool:=s.path == h
def sN (l:List dS) (a:aD):aV:=
 match l.find? (aCt a.host) with
 |some s=>match s.files.find? (tK a.path) with
  |some f=>f.response
  |none=>yP
 |none=>yP
theorem aHc [aB Tryz.prog] (l:List dS) (h:Str) (hl:l.length≤1099511627776):Ok Tryz.prog 117 [.sl .view 2 (l.map (bJ .view)),.str h] (.int .i64 (kP (aCt h) l)):=by
 refine ent Tryz.mix Tryz.func117 Tryz.ntmps117 ?_
 refine aW ?_
 refine aR (ι:={k:Nat // k≤l.length∧∀x∈l.take k,aCt h x=false}) (fun t o i=>⟨aS t [(5,.int .i64 i.1)],o⟩)
  (fun i=>l.length - i.1) ⟨0,by simp,by simp⟩ aO ?_
 rintro ⟨k,hk,hi⟩ K1 hK1
 simp only [aS,List.set_cons_succ,List.set_cons_zero] at hK1⊢
 have hk1:=wk1 (k:=k) (by omega)
 by_cases hlt:k < l.length
 ·have hg:=List.getElem?_eq_getElem hlt
  by_cases hb:l[k].host=h
  ·have hbb:(l[k].host == h)=true:=by simp [hb]
   rw [uQ hlt (by simpa [aCt] using hb) hi]
   have W:=And.intro hk1 (And.intro hg (And.intro hlt hbb))
   refine we ?_
   exact aM Tryz.results117
  ·have hbb:(l[k].host == h)=false:=by simp [hb]
   have hnx:∀x∈l.take (k+1),aCt h x=false:=dK hlt hi (by simpa [aCt] using hb)
   have W:=And.intro hk1 (And.intro hg (And.intro hlt hbb))
   refine we ?_
   exact hK1 _ ⟨k+1,by omega,hnx⟩ aO (by simp only;omega)
 ·rw [pI (iQ (by omega) hi)]
  have W:=hk1
  refine we ?_
  exact aM Tryz.results117
theorem aEj [aB Tryz.prog] (s:dS) (h:Str) (hl:s.files.length≤1099511627776):Ok Tryz.prog 119 [.agg (bJ .view s),.str h] (.int .i64 (kP (tK h) s.files)):=by
 refine ent Tryz.mix Tryz.func119 Tryz.ntmps119 ?_
 refine aW ?_
 refine aR (ι:={k:Nat // k≤s.files.length∧∀x∈s.files.take k,tK h x=false}) (fun t o i=>⟨aS t [(5,.int .i64 i.1)],o⟩)
  (fun i=>s.files.length - i.1) ⟨0,by simp,by simp⟩ aO ?_
 rintro ⟨k,hk,hi⟩ K1 hK1
 simp only [aS,List.set_cons_succ,List.set_cons_zero] at hK1⊢
 have hk1:=wk1 (k:=k) (by omega)
 by_cases hlt:k < s.files.length
 ·have hg:=List.getElem?_eq_getElem hlt
  by_cases hb:s.files[k].path=h
  ·have hbb:(s.files[k].path == h)=true:=by simp [hb]
   rw [uQ hlt (by simpa [tK] using hb) hi]
   have W:=And.intro hk1 (And.intro hg (And.intro hlt hbb))
   refine we ?_
   exact aM Tryz.results119
  ·have hbb:(s.files[k].path == h)=false:=by simp [hb]
   have hnx:∀x∈s.files.take (k+1),tK h x=false:=dK hlt hi (by simpa [tK] using hb)
   have W:=And.intro hk1 (And.intro hg (And.intro hlt hbb))
   refine we ?_
   exact hK1 _ ⟨k+1,by omega,hnx⟩ aO (by simp only;omega)
 ·rw [pI (iQ (by omega) hi)]
  have W:=hk1
  refine we ?_
  exact aM Tryz.results119
theorem aL6 [aB Tryz.prog] (l:List dS) (a:aD) (hs:szL bQ l≤1099511627776):Ok Tryz.prog 79 [.sl .view 2 (l.map (bJ .view)),.agg (aF a)] (.agg (cZ (sN l a))):=by
 simp only [szL] at hs
 have c1:=aHc l a.host (by omega)
 have c2:=aJ8
 simp only [cZ] at c2
 unfold sN
 rcases oP (aCt a.host) l with ⟨h1,h2⟩|⟨k,hk,h1,h2⟩
 ·rw [h1] at c1
  rw [h2]
  refine ent Tryz.mix Tryz.func79 Tryz.ntmps79 ?_
  refine aW ?_
  exact aM Tryz.results79
 ·rw [h1] at c1
  rw [h2]
  have hg:=List.getElem?_eq_getElem hk
  have hn:¬((k:Int) < 0):=by omega
  have hz:=fM bQ l k hk
  simp only [bQ,szL] at hz
  have c3:=aEj l[k] a.path (by omega)
  simp only [bJ] at c3
  simp only
  rcases oP (tK a.path) l[k].files with ⟨h3,h4⟩|⟨j,hj,h3,h4⟩
  ·rw [h3] at c3
   rw [h4]
   refine ent Tryz.mix Tryz.func79 Tryz.ntmps79 ?_
   have W:=And.intro hg (And.intro hk hn)
   refine we ?_
   exact aM Tryz.results79
  ·rw [h3] at c3
   rw [h4]
   have hg2:=List.getElem?_eq_getElem hj
   have hn2:¬((j:Int) < 0):=by omega
   refine ent Tryz.mix Tryz.func79 Tryz.ntmps79 ?_
   have W:=And.intro hg (And.intro hk (And.intro hn (And.intro hg2 (And.intro hj hn2))))
   refine we ?_
   exact aM Tryz.results79
theorem qP {α:Type} {f:α→List AV} {i j:Nat} (h:∀x,lD i j (f x)=f x):∀l:List α,iU i j (l.map f)=l.map f
 |[]=>rfl
 |x::l=>by simp only [List.map_cons,iU,h,qP h l]
@[simp] theorem bI8 (i j:Nat) (l:List Str):iU i j (l.map bX)=l.map bX:=qP (fun _=>rfl) l
@[simp] theorem bJm (i j:Nat) (l:List Int):iU i j (l.map jI)=l.map jI:=qP (fun _=>rfl) l
@[simp] theorem bIe (i j:Nat) (l:List aD):iU i j (l.map aF)=l.map aF:=qP (fun _=>rfl) l
@[simp] theorem bIt (i j:Nat) (l:List iJ):iU i j (l.map mW)=l.map mW:=qP (fun _=>rfl) l
@[simp] theorem bIu (i j:Nat) (l:List iK):iU i j (l.map oG)=l.map oG:=qP (fun _=>rfl) l
@[simp] theorem bHp (i j:Nat) (l:List dR):iU i j (l.map jB)=l.map jB:=qP (fun _=>rfl) l
@[simp] theorem bHh (i j:Nat) (l:List bE):iU i j (l.map (bL .view))=l.map (bL .view):=qP (fun _=>by simp) l
@[simp] theorem bH7 (i j:Nat) (l:List gW):iU i j (l.map (dY .view))=l.map (dY .view):=qP (fun _=>by simp) l
@[simp] theorem bJt (u:List Nat) (b:Bool) (l:List bE):rtr (eZ u) b (l.map (bL .view))=l.map (bL .view):=by
 induction l with
 |nil=>rfl
 |cons x l ih=>rw [List.map_cons,rtr,ih];simp [rtc,rt,bL,eZ]
@[simp] theorem bJb (u:List Nat) (b:Bool) (l:List gW):rtr (eZ u) b (l.map (dY .view))=l.map (dY .view):=by
 induction l with
 |nil=>rfl
 |cons x l ih=>rw [List.map_cons,rtr,ih];simp [rtc,rt,dY,eZ]
theorem aEf {p:aC} {U:List aD} (hU:∀x∈oH p,x∈U) (n:Nat):∀(l:List aD) (s:List aD×List aD),(∀b∈l,b∈U)→Seen U s→Seen U (iB p n l s)∧(∀x∈s.1,x∈(iB p n l s).1)
 |[],s,_,h=>⟨h,fun _ h=>h⟩
 |b::l,s,hl,h=>by
  obtain ⟨h1,h2⟩:=aAs hU n b s (hl b (by simp)) h
  obtain ⟨h3,h4⟩:=aEf hU n l _ (fun x hx=>hl x (by simp [hx])) h1
  exact ⟨h3,fun x hx=>h4 x (h2 x hx)⟩
structure Bnd (p : aC) (U : List aD) : Prop where
  hs : szL bI p.mods ≤ 268435456
  im : ∀ x ∈ oH p, x ∈ U
  len : U.length ≤ 1073741824
  host : ∀ x ∈ U, x.host.length ≤ 1073741824
  ps : ∀ m ∈ p.mods, (bK m.body m.to.host).1.length ≤ 1073741824
theorem Seen.len {U:List aD} {s:List aD×List aD} (h:Seen U s):s.1.length≤U.length∧s.2.length≤U.length:=
 ⟨(zX (fun _=>0) s.1 U h.nd h.sub).2,(zX (fun _=>0) s.2 U h.ond (fun x hx=>h.sub x (h.osub x hx))).2⟩
def fA (p:aC) (a:aD):List aD:=(fU p (unseen p []+1) a [] []).2
end Go.Proofs.YtaddkhdghlaalaaGreatDoor
