/-
  Proved here: steps towards the statement of this claim, text QI5.
  No condition beyond what each statement spells out.
-/
import Derived.Test.YtgkllebnnakojaaGreatDoorQPL
import Derived.Test.YtgkllebnnakojaaGreatDoorF9
import Derived.Test.YtgkllebnnakojaaGreatDoorQN1
import Derived.Test.YtgkllebnnakojaaGreatDoorF8
import Derived.Test.YtgkllebnnakojaaGreatDoorQY1
import Derived.Test.YtgkllebnnakojaaGreatDoorQ2
import Derived.Test.YtgkllebnnakojaaGreatDoorQS1
set_option linter.all false
set_option maxRecDepth 4000
set_option maxHeartbeats 4000000
namespace Go.Proofs.YtgkllebnnakojaaGreatDoor
open Go.Aw
theorem yN (l:List bQ) (k:Nat):List.drop k (List.take l.length (List.map dQ l))=List.drop k (List.map dQ l):=by rw [List.take_of_length_le (by simp)]
theorem vV (l:List bQ) (a:aC) (k:Nat) (d:Bool) (c:Int):dL (List.take k (List.map dQ l)++[.str a.host,.str a.path,.bool d,.int .i64 c,.str []]::List.drop k (List.map dQ l))=true:=by
 have e:List.take k (List.map dQ l)++[.str a.host,.str a.path,.bool d,.int .i64 c,.str []]::List.drop k (List.map dQ l)=(l.take k++⟨a,d,c,[]⟩::l.drop k).map dQ:=by simp
 rw [e];exact aIb _
theorem vK [aB Tryz.prog] (p:aJ) (a:aC) (hs:bL p≤137438953472) (ha:aK a≤1073741824):Ok Tryz.prog 69 [.agg (aL .view p),.agg (aD a)] (.agg (aL .own (dF p a))):=by
 have c1:=wQ p (by omega)
 have hsn:p.mods.length≤274877906944:=by simp only [bL,szL] at hs;omega
 have hpol:dK p.policy≤274877906944:=by simp only [bL] at hs;omega
 have cc:=fun b=>zV b a
 have cK:=qZ p.policy ⟨5,a,p.addr.host,[]⟩ (by omega) (by simp only [lZ,List.length_nil];simp only [bL,aK] at hs;omega)
 simp only [cB,iM] at cK
 simp only [aL] at c1
 simp only [aD] at cc
 refine ent Tryz.mix Tryz.func69 Tryz.ntmps69 ?_
 have W:=trivial
 repeat' first|refine st ?_|(refine nx ?_;first|refine sz ?_|refine so ?_)|(refine cx ?_;refine sc (fun hc=>?_) (fun hc=>?_)<;>try exact hc.elim)|(refine lx ?_;refine sp (fun hc=>?_) (fun hc=>?_)<;>try exact hc.elim)|refine sx ?_ ?_|refine sy ?_ ?_|fail
 refine aT (ι:={k:Nat // k≤p.mods.length∧∀x∈p.mods.take k,cmpAddr x.to a < 0}) (fun t o i=>⟨bB t [(6,.int .i64 i.1)],o⟩)
  (fun i=>p.mods.length - i.1) ⟨0,by simp,by simp⟩ (aI (by simp) (by simp)) ?_
 rintro ⟨k,hk,hpre⟩ K1 hK1
 simp only [bB,List.set_cons_succ,List.set_cons_zero] at hK1⊢
 have hk1:IntKind.i64.wrap ((k:Int)+1)=((k+1:Nat):Int):=by rw [wrap64]<;>omega
 by_cases hlt:k < p.mods.length
 ·have hg:=List.getElem?_eq_getElem hlt
  have c2:=cc p.mods[k].to
  by_cases hcm:cmpAddr p.mods[k].to a < 0
  ·have hnx:∀x∈p.mods.take (k+1),cmpAddr x.to a < 0:=by
    intro x hx
    rw [List.take_succ_eq_append_getElem hlt,List.mem_append] at hx
    rcases hx with h|h
    ·exact hpre x h
    ·simp at h;subst h;exact hcm
   have W:=And.intro hk1 (And.intro hg (And.intro hlt hcm))
   repeat' first|refine st ?_|(refine nx ?_;first|refine sz ?_|refine so ?_)|(refine cx ?_;refine sc (fun hc=>?_) (fun hc=>?_)<;>try exact hc.elim)|(refine lx ?_;refine sp (fun hc=>?_) (fun hc=>?_)<;>try exact hc.elim)|refine sx ?_ ?_|refine sy ?_ ?_|fail
   exact hK1 _ ⟨k+1,by omega,hnx⟩ (aI (by simp) (by simp)) (by simp only;omega)
  ·have hat:fC p.mods a=k:=aDa hk hpre (fun m hm=>by rw [hg] at hm;obtain rfl:=Option.some.inj hm;exact hcm)
   by_cases hto:p.mods[k].to=a
   ·rw [aQh (by rw [hat];exact hg) hto]
    have ce:=lW p.mods[k].to a
    rw [decide_eq_true hto] at ce
    simp only [aD] at ce
    have W:=And.intro hk1 (And.intro hg (And.intro hlt hcm))
    have c0:=ce
    repeat' first|refine st ?_|(refine nx ?_;first|refine sz ?_|refine so ?_)|(refine cx ?_;refine sc (fun hc=>?_) (fun hc=>?_)<;>try exact hc.elim)|(refine lx ?_;refine sp (fun hc=>?_) (fun hc=>?_)<;>try exact hc.elim)|refine sx ?_ ?_|refine sy ?_ ?_|fail
    all_goals (try (refine ⟨.inr rfl,?_⟩;simp [Hands,Tryz.results69]))
   ·have hno:∀m,p.mods[fC p.mods a]? =some m→m.to≠a:=fun m hm=>by rw [hat,hg] at hm;obtain rfl:=Option.some.inj hm;exact hto
    have ce:=lW p.mods[k].to a
    rw [decide_eq_false hto] at ce
    simp only [aD] at ce
    rw [aM0 hno,hat]
    unfold lU mQ
    by_cases hck:kJ p.policy ⟨5,a,p.addr.host,[]⟩=1
    ·simp only [hck,if_true]
     rw [hck] at cK
     have W:=And.intro hk1 (And.intro hg (And.intro hlt (And.intro hcm hk)))
     have c0:=ce
     repeat' first|refine st ?_|(refine nx ?_;first|refine sz ?_|refine so ?_)|(refine cx ?_;refine sc (fun hc=>?_) (fun hc=>?_)<;>try exact hc.elim)|(refine lx ?_;refine sp (fun hc=>?_) (fun hc=>?_)<;>try exact hc.elim)|refine sx ?_ ?_|refine sy ?_ ?_|fail
     all_goals (try (refine ⟨.inr rfl,?_⟩;simp [Hands,Tryz.results69]))
     all_goals exact ⟨yN p.mods k,vV p.mods a k _ _⟩
    ·simp only [hck,if_false]
     have W:=And.intro hk1 (And.intro hg (And.intro hlt (And.intro hcm (And.intro hk hck))))
     have c0:=ce
     repeat' first|refine st ?_|(refine nx ?_;first|refine sz ?_|refine so ?_)|(refine cx ?_;refine sc (fun hc=>?_) (fun hc=>?_)<;>try exact hc.elim)|(refine lx ?_;refine sp (fun hc=>?_) (fun hc=>?_)<;>try exact hc.elim)|refine sx ?_ ?_|refine sy ?_ ?_|fail
     all_goals (try (refine ⟨.inr rfl,?_⟩;simp [Hands,Tryz.results69]))
     all_goals exact ⟨yN p.mods k,vV p.mods a k _ _⟩
 ·have hat:fC p.mods a=k:=aDa hk hpre (fun m hm=>by rw [List.getElem?_eq_none (by omega)] at hm;cases hm)
  have hno:∀m,p.mods[fC p.mods a]? =some m→m.to≠a:=fun m hm=>by rw [hat,List.getElem?_eq_none (by omega)] at hm;cases hm
  rw [aM0 hno,hat]
  unfold lU mQ
  by_cases hck:kJ p.policy ⟨5,a,p.addr.host,[]⟩=1
  ·simp only [hck,if_true]
   rw [hck] at cK
   have W:=And.intro hk1 (And.intro hlt hk)
   repeat' first|refine st ?_|(refine nx ?_;first|refine sz ?_|refine so ?_)|(refine cx ?_;refine sc (fun hc=>?_) (fun hc=>?_)<;>try exact hc.elim)|(refine lx ?_;refine sp (fun hc=>?_) (fun hc=>?_)<;>try exact hc.elim)|refine sx ?_ ?_|refine sy ?_ ?_|fail
   all_goals (try (refine ⟨.inr rfl,?_⟩;simp [Hands,Tryz.results69]))
   all_goals exact ⟨yN p.mods k,vV p.mods a k _ _⟩
  ·simp only [hck,if_false]
   have W:=And.intro hk1 (And.intro hlt (And.intro hk hck))
   repeat' first|refine st ?_|(refine nx ?_;first|refine sz ?_|refine so ?_)|(refine cx ?_;refine sc (fun hc=>?_) (fun hc=>?_)<;>try exact hc.elim)|(refine lx ?_;refine sp (fun hc=>?_) (fun hc=>?_)<;>try exact hc.elim)|refine sx ?_ ?_|refine sy ?_ ?_|fail
   all_goals (try (refine ⟨.inr rfl,?_⟩;simp [Hands,Tryz.results69]))
   all_goals exact ⟨yN p.mods k,vV p.mods a k _ _⟩
theorem aO1 (p:aJ) (a:aC) (k:Nat):szL bJ (lU p a k)=szL bJ p.mods+1+aK a:=by
 have h1:bF bJ (p.mods.take k)+bF bJ (p.mods.drop k)=bF bJ p.mods:=by rw [←wL,List.take_append_drop]
 have h2:(p.mods.take k).length+(p.mods.drop k).length=p.mods.length:=by rw [←List.length_append,List.take_append_drop]
 have h3:bJ (mQ p a)=aK a:=by unfold mQ;split<;>simp [bJ]
 simp only [lU,szL,List.length_append,List.length_cons,wL,bF,h3]
 omega
theorem aP4 (p:aJ) (a:aC):bL (dF p a)≤bL p+aK a+1:=by
 have h:=aO1 p a (fC p.mods a)
 unfold dF
 split
 ·split
  ·omega
  ·simp only [bL,h];omega
 ·simp only [bL,h];omega
def dP (p:aJ) (m:bQ) (x:aZ):bQ:={m with done:=true,code:=gJ p.policy (eU p m) x,body:=kX p.policy (eU p m) x}
def gF (q:aJ) (l:List aC):aJ:=l.foldl dF q
def uO (p:aJ) (a:aC) (x:aZ) (k:Nat) (m:bQ):aJ:=gF {p with mods:=p.mods.set k (dP p m x)} (bR {p with mods:=p.mods.set k (dP p m x)} a)
def fE (p:aJ) (a:aC) (x:aZ):aJ:=
 if dZ (dJ a) p.mods < 0 then p else match p.mods[(dZ (dJ a) p.mods).toNat]? with
 |some m=>if m.done=true then p else uO p a x (dZ (dJ a) p.mods).toNat m
 |none=>p
theorem zB {p:aJ} {a:aC} {x:aZ} (h:dZ (dJ a) p.mods= -1):fE p a x=p:=by
 unfold fE;rw [h];rfl
theorem zK {p:aJ} {a:aC} {x:aZ} {k:Nat} {m:bQ} (h:dZ (dJ a) p.mods=(k:Int)) (hg:p.mods[k]? =some m) (hd:m.done=true):fE p a x=p:=by
 unfold fE;rw [h,if_neg (by omega),Int.toNat_natCast,hg];simp [hd]
theorem aBe {p:aJ} {a:aC} {x:aZ} {k:Nat} {m:bQ} (h:dZ (dJ a) p.mods=(k:Int)) (hg:p.mods[k]? =some m) (hd:m.done=false):fE p a x=uO p a x k m:=by
 unfold fE;rw [h,if_neg (by omega),Int.toNat_natCast,hg];simp [hd]
theorem aKk {α:Type} (f:α→Bool) (y:α):∀(l:List α) (k:Nat) (h:k < l.length),f y=true→l.find? f=some l[k]→(∀j (hj:j < k),f (l[j]'(Nat.lt_trans hj h))=false)→(l.set k y).find? f=some y
 |[],k,h,_,_,_=>by simp at h
 |z::l,0,h,hy,_,_=>by simp [hy]
 |z::l,k+1,h,hy,hf,hn=>by
  have hz:f z=false:=hn 0 (by omega)
  rw [List.set_cons_succ,List.find?_cons,hz]
  rw [List.find?_cons,hz] at hf
  exact aKk f y l k (by simpa using h) hy (by simpa using hf) (fun j hj=>by have:=hn (j+1) (by omega);simpa using this)
theorem aQw {α:Type} {f:α→Bool} {l:List α} {k:Nat} (h:dZ f l=(k:Int)) (hk:k < l.length):f l[k]=true∧∀j (hj:j < k),f (l[j]'(Nat.lt_trans hj hk))=false:=by
 unfold dZ at h
 split at h
 ·rename_i ha
  have hk2:l.findIdx f=k:=by omega
  rw [List.findIdx_eq hk] at hk2
  exact hk2
 ·omega
theorem wU {p:aJ} {a:aC} {x:aZ} {k:Nat} (h:dZ (dJ a) p.mods=(k:Int)) (hk:k < p.mods.length) (hf:p.mods.find? (dJ a)=some p.mods[k]):(p.mods.set k (dP p p.mods[k] x)).find? (dJ a)=some (dP p p.mods[k] x):=by
 obtain ⟨h1,h2⟩:=aQw h hk
 exact aKk _ _ _ _ hk (by simp only [dJ] at h1⊢;exact h1) hf h2
theorem aMz {α:Type} (f:α→Nat) (c:Nat):∀(l:List α) (i:Nat) (y:α) (h:i < l.length),f y≤f l[i]+c→bF f (l.set i y)≤bF f l+c
 |[],i,y,h,_=>by simp at h
 |z::l,0,y,h,hs=>by simp only [List.set_cons_zero,bF,List.getElem_cons_zero] at hs⊢;omega
 |z::l,i+1,y,h,hs=>by
  have:=aMz f c l i y (by simpa using h) (by simpa using hs)
  simp only [List.set_cons_succ,bF];omega
theorem aNa (p:aJ) (k:Nat) (hk:k < p.mods.length) (x:aZ):bL {p with mods:=p.mods.set k (dP p p.mods[k] x)}≤bL p+400:=by
 have hb:=aA1 p.policy (eU p p.mods[k]) x
 have h:=aMz bJ 400 p.mods k (dP p p.mods[k] x) hk (by simp only [bJ,dP];omega)
 simp only [bL,szL,List.length_set]
 omega
theorem yJ (N:Nat):∀(l:List aC) (q:aJ),(∀x∈l,aK x≤N)→bL (gF q l)≤bL q+l.length * (N+1)
 |[],q,_=>by simp [gF]
 |b::l,q,h=>by
  have h1:=yJ N l (dF q b) (fun x hx=>h x (by simp [hx]))
  have h2:=aP4 q b
  have h3:=h b (by simp)
  simp only [gF,List.foldl_cons,List.length_cons,Nat.succ_mul] at h1⊢
  omega
theorem aLj (q:aJ) (l:List aC) (b:aC):gF q (l++[b])=dF (gF q l) b:=by simp [gF]
theorem aDt {q:aJ} {a:aC} {m:bQ} (hf:q.mods.find? (dJ a)=some m):bR q a=if m.done=true∧m.code=1 then (aN m.body a.host).1 else []:=by unfold bR;rw [hf]
theorem aMe {q:aJ} {a:aC} {m:bQ} (hf:q.mods.find? (dJ a)=some m) (hb:m.body.length≤400) (ha:aK a≤1048576):(bR q a).length≤57∧∀b∈bR q a,aK b≤1048976:=by
 rw [aDt hf]
 split
 ·obtain ⟨h1,_,h3⟩:=kK m.body a.host
  refine ⟨by omega,fun b hb=> ?_⟩
  have:=h3 b hb
  simp only [aK] at ha this⊢
  omega
 ·simp
theorem aLh {q:aJ} {l:List aC} (h0:bL q≤1048976) (h1:l.length≤57) (h2:∀b∈l,aK b≤1048976) (i:Nat):bL (gF q (l.take i))≤61000000:=by
 have h:=yJ 1048976 (l.take i) q (fun x hx=>h2 x (List.mem_of_mem_take hx))
 have h3:(l.take i).length≤57:=by rw [List.length_take];omega
 have h4:=Nat.mul_le_mul_right (1048976+1) h3
 omega
end Go.Proofs.YtgkllebnnakojaaGreatDoor
