/-
  Proved here: steps towards the statement of this claim, text QTK5.
  No condition beyond what each statement spells out.
-/
import Derived.Test.YtaddkhdghlaalaaGreatDoorQN1
import Derived.Test.YtaddkhdghlaalaaGreatDoorQR7
import Derived.Test.YtaddkhdghlaalaaGreatDoorQTK1
import Derived.Test.YtaddkhdghlaalaaGreatDoorF8
import Derived.Test.YtaddkhdghlaalaaGreatDoorYFacts
import Derived.Test.YtaddkhdghlaalaaGreatDoorQMK1
import Derived.Shelf.Spec.SlicesInsertGrow
import Derived.Test.YtaddkhdghlaalaaGreatDoorQP3
import Derived.Test.YtaddkhdghlaalaaGreatDoorF5
import Derived.Test.YtaddkhdghlaalaaGreatDoorQRLsd
import Derived.Test.YtaddkhdghlaalaaGreatDoorQ2
import Derived.Test.YtaddkhdghlaalaaGreatDoorF9
import Derived.Test.YtaddkhdghlaalaaGreatDoorQR5
set_option linter.all false
set_option maxRecDepth 4000
set_option maxHeartbeats 4000000
namespace Go.Proofs.YtaddkhdghlaalaaGreatDoor
open Go.Aw
def xG (p:dU) (n:Str):Bool:= !p.isSet || ((p.nonce != [])&&(p.nonce == n))
theorem aFp [aB Tryz.prog] (p:dU) (n:Str):Ok Tryz.prog 196 [.agg (bY .view p),.str n] (.bool (xG p n)):=by
 obtain ⟨pis,psc,pst,pim,nc⟩:=p
 unfold xG
 cases pis
 ·refine ent Tryz.mix Tryz.func196 Tryz.ntmps196 ?_
  refine aW ?_
  exact aM Tryz.results196
 ·by_cases h:nc=[]
  ·subst h
   refine ent Tryz.mix Tryz.func196 Tryz.ntmps196 ?_
   refine aW ?_
   exact aM Tryz.results196
  ·have h2:(nc != [])=true:=by simpa using h
   refine ent Tryz.mix Tryz.func196 Tryz.ntmps196 ?_
   have W:=And.intro h h2
   refine we ?_
   all_goals (try (refine ⟨.inr rfl,?_⟩;simp [Hands,Tryz.results196,h,h2]))
def xQ (p:aC) (t:bE) (n:Int):aC:=
 if t.name=aCq∧(aP t.attrs mV).2=true then (fP p 2 (aP t.attrs mV).1 (aP t.attrs dN).1 n).1
 else if t.name=aC4∧(aP t.attrs gK).2=true then (fP p 1 (aP t.attrs gK).1 (aP t.attrs dN).1 n).1 else p
theorem aD0 [aB Tryz.prog] (p:aC) (t:bE) (n:Int) (hs:aJ p≤274877906944) (ht:bN t≤274877906944):OkG Tryz.prog 175 [.give (.agg (aG .own p)),.view (.agg (bL .view t)),.view (.int .i64 n)] (.agg (aG .own (xQ p t n))):=by
 obtain ⟨tk,tn,ta,tx⟩:=t
 have hta:ta.length+aK lI ta≤274877906944:=by simp only [bN,szL] at ht;omega
 have z1:=iY ta dN
 have z2:=iY ta mV
 have z3:=iY ta gK
 have c1:=fZ ta dN (by omega)
 have c2:=fZ ta mV (by omega)
 have c3:=fZ ta gK (by omega)
 have a2:=uO p 2 (aP ta mV).1 (aP ta dN).1 n hs (by omega) (by omega)
 have a1:=uO p 1 (aP ta gK).1 (aP ta dN).1 n hs (by omega) (by omega)
 simp only [xQ]
 generalize fP p 2 (aP ta mV).1 (aP ta dN).1 n=g2 at *
 generalize fP p 1 (aP ta gK).1 (aP ta dN).1 n=g1 at *
 simp only [aG] at a1 a2
 clear z1 z2 z3
 generalize aP ta dN=fd at *
 generalize aP ta mV=fh at *
 generalize aP ta gK=fs at *
 obtain ⟨dv,db⟩:=fd
 obtain ⟨hv,hb⟩:=fh
 obtain ⟨sv,sb⟩:=fs
 simp only [dN] at c1
 simp only [mV] at c2
 simp only [gK] at c3
 by_cases h1:tn=aCq
 ·have h2:¬tn=aC4:=by rw [h1];decide
  subst h1
  cases hb
  ·rw [if_neg (by rintro ⟨_,h⟩;cases h),if_neg (by rintro ⟨h,_⟩;exact h2 h)]
   simp only [aCq]
   cases sb
   ·refine qD Tryz.mix Tryz.func175 Tryz.ntmps175 ?_
    refine aW ?_
    all_goals (try (refine ⟨by first|exact .inr rfl|exact .inl rfl,?_⟩;simp [iM,fB,eH,rowOf,Tryz.results175]))
   ·refine qD Tryz.mix Tryz.func175 Tryz.ntmps175 ?_
    refine aW ?_
    all_goals (try (refine ⟨by first|exact .inr rfl|exact .inl rfl,?_⟩;simp [iM,fB,eH,rowOf,Tryz.results175]))
  ·rw [if_pos ⟨rfl,rfl⟩]
   simp only [aCq]
   cases sb
   ·refine qD Tryz.mix Tryz.func175 Tryz.ntmps175 ?_
    refine aW ?_
    all_goals (try (refine ⟨by first|exact .inr rfl|exact .inl rfl,?_⟩;simp [iM,fB,eH,rowOf,Tryz.results175]))
   ·refine qD Tryz.mix Tryz.func175 Tryz.ntmps175 ?_
    refine aW ?_
    all_goals (try (refine ⟨by first|exact .inr rfl|exact .inl rfl,?_⟩;simp [iM,fB,eH,rowOf,Tryz.results175]))
 ·rw [if_neg (by rintro ⟨h,_⟩;exact h1 h)]
  have h1b:(tn == [108,105,110,107])=false:=by simpa [aCq] using h1
  by_cases h2:tn=aC4
  ·subst h2
   simp only [aC4] at h1b
   cases sb
   ·rw [if_neg (by rintro ⟨_,h⟩;cases h)]
    simp only [aC4]
    cases hb
    ·refine qD Tryz.mix Tryz.func175 Tryz.ntmps175 ?_
     refine aW ?_
     all_goals (try (refine ⟨by first|exact .inr rfl|exact .inl rfl,?_⟩;simp [iM,fB,eH,rowOf,Tryz.results175]))
    ·refine qD Tryz.mix Tryz.func175 Tryz.ntmps175 ?_
     refine aW ?_
     all_goals (try (refine ⟨by first|exact .inr rfl|exact .inl rfl,?_⟩;simp [iM,fB,eH,rowOf,Tryz.results175]))
   ·rw [if_pos ⟨rfl,rfl⟩]
    simp only [aC4]
    cases hb
    ·refine qD Tryz.mix Tryz.func175 Tryz.ntmps175 ?_
     refine aW ?_
     all_goals (try (refine ⟨by first|exact .inr rfl|exact .inl rfl,?_⟩;simp [iM,fB,eH,rowOf,Tryz.results175]))
    ·refine qD Tryz.mix Tryz.func175 Tryz.ntmps175 ?_
     refine aW ?_
     all_goals (try (refine ⟨by first|exact .inr rfl|exact .inl rfl,?_⟩;simp [iM,fB,eH,rowOf,Tryz.results175]))
  ·have h2b:(tn == [105,109,103])=false:=by simpa [aC4] using h2
   rw [if_neg (by rintro ⟨h,_⟩;exact h2 h)]
   cases hb<;>cases sb
   ·refine qD Tryz.mix Tryz.func175 Tryz.ntmps175 ?_
    have W:=And.intro h1b h2b
    refine we ?_
    all_goals (try (refine ⟨by first|exact .inr rfl|exact .inl rfl,?_⟩;simp [iM,fB,eH,rowOf,Tryz.results175]))
   ·refine qD Tryz.mix Tryz.func175 Tryz.ntmps175 ?_
    have W:=And.intro h1b h2b
    refine we ?_
    all_goals (try (refine ⟨by first|exact .inr rfl|exact .inl rfl,?_⟩;simp [iM,fB,eH,rowOf,Tryz.results175]))
   ·refine qD Tryz.mix Tryz.func175 Tryz.ntmps175 ?_
    have W:=And.intro h1b h2b
    refine we ?_
    all_goals (try (refine ⟨by first|exact .inr rfl|exact .inl rfl,?_⟩;simp [iM,fB,eH,rowOf,Tryz.results175]))
   ·refine qD Tryz.mix Tryz.func175 Tryz.ntmps175 ?_
    have W:=And.intro h1b h2b
    refine we ?_
    all_goals (try (refine ⟨by first|exact .inr rfl|exact .inl rfl,?_⟩;simp [iM,fB,eH,rowOf,Tryz.results175]))
end Go.Proofs.YtaddkhdghlaalaaGreatDoor

set_option maxRecDepth 100000
set_option maxHeartbeats 4000000
namespace Go.Proofs.YtaddkhdghlaalaaGreatDoor
open Go.Aw Go.Shelf Go.RowKit Go.Lib
end Go.Proofs.YtaddkhdghlaalaaGreatDoor

set_option maxRecDepth 4000
set_option maxHeartbeats 4000000
namespace Go.Proofs.YtaddkhdghlaalaaGreatDoor
open Go.Aw
set_option maxRecDepth 100000
end Go.Proofs.YtaddkhdghlaalaaGreatDoor

set_option maxRecDepth 4000
set_option maxHeartbeats 4000000
namespace Go.Proofs.YtaddkhdghlaalaaGreatDoor
open Go.Aw
def cmpAddr (a b:aD):Int:=if Lib.compareBytes a.host b.host≠0 then Lib.compareBytes a.host b.host else Lib.compareBytes a.path b.path
theorem vN:∀l:List UInt8,Op.bytesLess l l=false
 |[]=>rfl
 |x::l=>by simp [Op.bytesLess,vN l,UInt8.lt_irrefl]
theorem aDb (a b:aD):cmpAddr a b=if a=b then 0 else if (Op.bytesLess a.host b.host || (a.host == b.host&&Op.bytesLess a.path b.path))=true then -1 else 1:=by
 unfold cmpAddr
 obtain ⟨h1,p1⟩:=a
 obtain ⟨h2,p2⟩:=b
 simp only [aVw,aD.mk.injEq]
 by_cases e1:h1=h2
 ·subst e1
  by_cases e2:p1=p2
  ·simp [e2]
  ·have:=vN h1
   simp [e2,this]
 ·cases hb:Op.bytesLess h1 h2<;>simp [e1,hb]
theorem aFr [aB Tryz.prog] (a b:aD):Ok Tryz.prog 183 [.agg (aF a),.agg (aF b)] (.int .i64 (cmpAddr a b)):=by
 rw [aDb]
 have c1:=pM a b
 by_cases he:a=b
 ·subst he
  simp only [aF,decide_true] at c1
  refine ent Tryz.mix Tryz.func183 Tryz.ntmps183 ?_
  have W:=trivial
  have c0:=c1
  repeat' first|refine st ?_|(refine nx ?_;first|refine se ?_|refine so ?_)|(refine cx ?_;first|refine sT ?_|refine sF ?_)|fail
  exact aM Tryz.results183
 ·simp only [aF,he,decide_false] at c1
  simp only [he,if_false]
  cases h1:Op.bytesLess a.host b.host
  ·by_cases h2:a.host=b.host
   ·rw [h2] at c1
    have h0:=vN b.host
    cases h3:Op.bytesLess a.path b.path
    ·refine ent Tryz.mix Tryz.func183 Tryz.ntmps183 ?_
     have W:=And.intro h0 (And.intro h1 (And.intro h2 h3))
     have c0:=c1
     repeat' first|refine st ?_|(refine nx ?_;first|refine se ?_|refine so ?_)|(refine cx ?_;first|refine sT ?_|refine sF ?_)|fail
     all_goals (try (refine ⟨.inr rfl,?_⟩;simp [Hands,Tryz.results183,h0,h1,h2,h3]))
    ·refine ent Tryz.mix Tryz.func183 Tryz.ntmps183 ?_
     have W:=And.intro h0 (And.intro h1 (And.intro h2 h3))
     have c0:=c1
     repeat' first|refine st ?_|(refine nx ?_;first|refine se ?_|refine so ?_)|(refine cx ?_;first|refine sT ?_|refine sF ?_)|fail
     all_goals (try (refine ⟨.inr rfl,?_⟩;simp [Hands,Tryz.results183,h0,h1,h2,h3]))
   ·refine ent Tryz.mix Tryz.func183 Tryz.ntmps183 ?_
    have W:=And.intro h1 h2
    have c0:=c1
    repeat' first|refine st ?_|(refine nx ?_;first|refine se ?_|refine so ?_)|(refine cx ?_;first|refine sT ?_|refine sF ?_)|fail
    all_goals (try (refine ⟨.inr rfl,?_⟩;simp [Hands,Tryz.results183,h1,h2]))
  ·refine ent Tryz.mix Tryz.func183 Tryz.ntmps183 ?_
   have W:=h1
   have c0:=c1
   repeat' first|refine st ?_|(refine nx ?_;first|refine se ?_|refine so ?_)|(refine cx ?_;first|refine sT ?_|refine sF ?_)|fail
   all_goals (try (refine ⟨.inr rfl,?_⟩;simp [Hands,Tryz.results183,h1]))
def qM (l:List dR) (a:aD):Nat:=(l.takeWhile fun m=>decide (cmpAddr m.to a < 0)).length
theorem aJe {a:aD}:∀{l:List dR} {k:Nat},k≤l.length→(∀x∈l.take k,cmpAddr x.to a < 0)→(∀m,l[k]? =some m→¬cmpAddr m.to a < 0)→qM l a=k
 |[],k,h,_,_=>by simp at h;subst h;rfl
 |m::l,0,_,_,h=>by simp [qM,h m rfl]
 |m::l,k+1,h0,h1,h2=>by
  have ih:=aJe (a:=a) (l:=l) (k:=k) (by simpa using h0) (fun x hx=>h1 x (by simp [hx])) (fun m hm=>h2 m (by simpa using hm))
  have:=h1 m (by simp)
  simp only [qM,List.takeWhile_cons,decide_eq_true this,List.length_cons] at ih⊢
  simpa using ih
def xI (p:aC) (a:aD):dR:=if eY p.policy ⟨5,a,p.addr.host,[]⟩=1 then ⟨a,false,0,[]⟩ else ⟨a,true,2,[]⟩
def rH (p:aC) (a:aD) (k:Nat):List dR:=p.mods.take k++xI p a::p.mods.drop k
def eU (p:aC) (a:aD):aC:=
 match p.mods[qM p.mods a]? with
 |some m=>if m.to=a then p else {p with mods:=rH p a (qM p.mods a)}
 |none=>{p with mods:=rH p a (qM p.mods a)}
end Go.Proofs.YtaddkhdghlaalaaGreatDoor

set_option maxRecDepth 4000
set_option maxHeartbeats 4000000
namespace Go.Proofs.YtaddkhdghlaalaaGreatDoor
open Go.Aw
theorem bBl {p:aC} {a:aD} {m:dR} (h:p.mods[qM p.mods a]? =some m) (hm:m.to=a):eU p a=p:=by
 unfold eU;rw [h];simp [hm]
theorem aWj {p:aC} {a:aD} (h:∀m,p.mods[qM p.mods a]? =some m→m.to≠a):eU p a={p with mods:=rH p a (qM p.mods a)}:=by
 unfold eU
 split
 ·rename_i m hm
  rw [if_neg (h m hm)]
 ·rfl
end Go.Proofs.YtaddkhdghlaalaaGreatDoor

set_option maxRecDepth 4000
set_option maxHeartbeats 4000000
namespace Go.Proofs.YtaddkhdghlaalaaGreatDoor
open Go.Aw
theorem aEi (l:List dR) (k:Nat):List.drop k (List.take l.length (List.map jB l))=List.drop k (List.map jB l):=by rw [List.take_of_length_le (by simp)]
theorem aCd (l:List dR) (a:aD) (k:Nat) (d:Bool) (c:Int):gF (List.take k (List.map jB l)++[.str a.host,.str a.path,.bool d,.int .i64 c,.str []]::List.drop k (List.map jB l))=true:=by
 have e:List.take k (List.map jB l)++[.str a.host,.str a.path,.bool d,.int .i64 c,.str []]::List.drop k (List.map jB l)=(l.take k++⟨a,d,c,[]⟩::l.drop k).map jB:=by simp
 rw [e];exact aPs _
theorem aBg [aB Tryz.prog] (p:aC) (a:aD) (hs:aJ p≤137438953472) (ha:aI a≤1073741824):Ok Tryz.prog 153 [.agg (aG .view p),.agg (aF a)] (.agg (aG .own (eU p a))):=by
 have c1:=fH p (by omega)
 have hsn:p.mods.length≤274877906944:=by simp only [aJ,szL] at hs;omega
 have hpol:dX p.policy≤274877906944:=by simp only [aJ] at hs;omega
 have cc:=fun b=>aFr b a
 have cK:=qC p.policy ⟨5,a,p.addr.host,[]⟩ (by omega) (by simp only [fE,List.length_nil];simp only [aJ,aI] at hs;omega)
 simp only [bY,bT] at cK
 simp only [aG] at c1
 simp only [aF] at cc
 refine ent Tryz.mix Tryz.func153 Tryz.ntmps153 ?_
 have W:=trivial
 repeat' first|refine st ?_|(refine nx ?_;first|refine sz ?_|refine so ?_)|(refine cx ?_;refine sc (fun hc=>?_) (fun hc=>?_)<;>try exact hc.elim)|(refine lx ?_;refine sp (fun hc=>?_) (fun hc=>?_)<;>try exact hc.elim)|refine sx ?_ ?_|refine sy ?_ ?_|fail
 refine aR (ι:={k:Nat // k≤p.mods.length∧∀x∈p.mods.take k,cmpAddr x.to a < 0}) (fun t o i=>⟨aS t [(6,.int .i64 i.1)],o⟩)
  (fun i=>p.mods.length - i.1) ⟨0,by simp,by simp⟩ aO ?_
 rintro ⟨k,hk,hpre⟩ K1 hK1
 simp only [aS,List.set_cons_succ,List.set_cons_zero] at hK1⊢
 have hk1:=wk1 (k:=k) (by omega)
 by_cases hlt:k < p.mods.length
 ·have hg:=List.getElem?_eq_getElem hlt
  have c2:=cc p.mods[k].to
  by_cases hcm:cmpAddr p.mods[k].to a < 0
  ·have hnx:∀x∈p.mods.take (k+1),cmpAddr x.to a < 0:=by
    intro x hx
    rw [List.take_succ_eq_append_getElem hlt,List.mem_append] at hx
    rcases hx with h|h
    ·exact hpre x h
    ·simp at h;subst h;exact hcm
   have W:=And.intro hk1 (And.intro hg (And.intro hlt hcm))
   repeat' first|refine st ?_|(refine nx ?_;first|refine sz ?_|refine so ?_)|(refine cx ?_;refine sc (fun hc=>?_) (fun hc=>?_)<;>try exact hc.elim)|(refine lx ?_;refine sp (fun hc=>?_) (fun hc=>?_)<;>try exact hc.elim)|refine sx ?_ ?_|refine sy ?_ ?_|fail
   exact hK1 _ ⟨k+1,by omega,hnx⟩ aO (by simp only;omega)
  ·have hat:qM p.mods a=k:=aJe hk hpre (fun m hm=>by rw [hg] at hm;obtain rfl:=Option.some.inj hm;exact hcm)
   by_cases hto:p.mods[k].to=a
   ·rw [bBl (by rw [hat];exact hg) hto]
    have ce:=pM p.mods[k].to a
    rw [decide_eq_true hto] at ce
    simp only [aF] at ce
    have W:=And.intro hk1 (And.intro hg (And.intro hlt hcm))
    have c0:=ce
    repeat' first|refine st ?_|(refine nx ?_;first|refine sz ?_|refine so ?_)|(refine cx ?_;refine sc (fun hc=>?_) (fun hc=>?_)<;>try exact hc.elim)|(refine lx ?_;refine sp (fun hc=>?_) (fun hc=>?_)<;>try exact hc.elim)|refine sx ?_ ?_|refine sy ?_ ?_|fail
    exact aM Tryz.results153
   ·have hno:∀m,p.mods[qM p.mods a]? =some m→m.to≠a:=fun m hm=>by rw [hat,hg] at hm;obtain rfl:=Option.some.inj hm;exact hto
    have ce:=pM p.mods[k].to a
    rw [decide_eq_false hto] at ce
    simp only [aF] at ce
    rw [aWj hno,hat]
    unfold rH xI
    by_cases hck:eY p.policy ⟨5,a,p.addr.host,[]⟩=1
    ·simp only [hck,if_true]
     rw [hck] at cK
     have W:=And.intro hk1 (And.intro hg (And.intro hlt (And.intro hcm hk)))
     have c0:=ce
     repeat' first|refine st ?_|(refine nx ?_;first|refine sz ?_|refine so ?_)|(refine cx ?_;refine sc (fun hc=>?_) (fun hc=>?_)<;>try exact hc.elim)|(refine lx ?_;refine sp (fun hc=>?_) (fun hc=>?_)<;>try exact hc.elim)|refine sx ?_ ?_|refine sy ?_ ?_|fail
     all_goals (try (refine ⟨.inr rfl,?_⟩;simp [Hands,Tryz.results153]))
     all_goals exact ⟨aEi p.mods k,aCd p.mods a k _ _⟩
    ·simp only [hck,if_false]
     have W:=And.intro hk1 (And.intro hg (And.intro hlt (And.intro hcm (And.intro hk hck))))
     have c0:=ce
     repeat' first|refine st ?_|(refine nx ?_;first|refine sz ?_|refine so ?_)|(refine cx ?_;refine sc (fun hc=>?_) (fun hc=>?_)<;>try exact hc.elim)|(refine lx ?_;refine sp (fun hc=>?_) (fun hc=>?_)<;>try exact hc.elim)|refine sx ?_ ?_|refine sy ?_ ?_|fail
     all_goals (try (refine ⟨.inr rfl,?_⟩;simp [Hands,Tryz.results153]))
     all_goals exact ⟨aEi p.mods k,aCd p.mods a k _ _⟩
 ·have hat:qM p.mods a=k:=aJe hk hpre (fun m hm=>by rw [List.getElem?_eq_none (by omega)] at hm;cases hm)
  have hno:∀m,p.mods[qM p.mods a]? =some m→m.to≠a:=fun m hm=>by rw [hat,List.getElem?_eq_none (by omega)] at hm;cases hm
  rw [aWj hno,hat]
  unfold rH xI
  by_cases hck:eY p.policy ⟨5,a,p.addr.host,[]⟩=1
  ·simp only [hck,if_true]
   rw [hck] at cK
   have W:=And.intro hk1 (And.intro hlt hk)
   repeat' first|refine st ?_|(refine nx ?_;first|refine sz ?_|refine so ?_)|(refine cx ?_;refine sc (fun hc=>?_) (fun hc=>?_)<;>try exact hc.elim)|(refine lx ?_;refine sp (fun hc=>?_) (fun hc=>?_)<;>try exact hc.elim)|refine sx ?_ ?_|refine sy ?_ ?_|fail
   all_goals (try (refine ⟨.inr rfl,?_⟩;simp [Hands,Tryz.results153]))
   all_goals exact ⟨aEi p.mods k,aCd p.mods a k _ _⟩
  ·simp only [hck,if_false]
   have W:=And.intro hk1 (And.intro hlt (And.intro hk hck))
   repeat' first|refine st ?_|(refine nx ?_;first|refine sz ?_|refine so ?_)|(refine cx ?_;refine sc (fun hc=>?_) (fun hc=>?_)<;>try exact hc.elim)|(refine lx ?_;refine sp (fun hc=>?_) (fun hc=>?_)<;>try exact hc.elim)|refine sx ?_ ?_|refine sy ?_ ?_|fail
   all_goals (try (refine ⟨.inr rfl,?_⟩;simp [Hands,Tryz.results153]))
   all_goals exact ⟨aEi p.mods k,aCd p.mods a k _ _⟩
end Go.Proofs.YtaddkhdghlaalaaGreatDoor

set_option maxRecDepth 4000
set_option maxHeartbeats 4000000
namespace Go.Proofs.YtaddkhdghlaalaaGreatDoor
open Go.Aw
theorem bC4 (s b:Str):aI (bO s b).1≤s.length+b.length:=by
 have h:=oU 47 s
 unfold bO addrOf
 split<;>split<;>simp [aI,kZ]<;>omega
def oI (p:aC) (tx:Str):aC:=
 if (bO tx p.addr.host).2=false∨20≤p.entries.length then p else {eU p (bO tx p.addr.host).1 with entries:=p.entries++[(bO tx p.addr.host).1]}
theorem bAl (p:aC) (a:aD):(eU p a).entries=p.entries:=by
 unfold eU
 split
 ·split<;>rfl
 ·rfl
theorem aKq [aB Tryz.prog] (p:aC) (tx:Str) (hs:aJ p≤268435456) (hto:tx.length≤268435456):Ok Tryz.prog 197 [.agg (aG .view p),.str tx] (.agg (aG .own (oI p tx))):=by
 have hsl:p.addr.host.length≤268435456:=by simp only [aJ,aI] at hs;omega
 have hen:p.entries.length≤268435456:=by simp only [aJ,szL] at hs;omega
 have c1:=fH p (by omega)
 have c3:=pV tx p.addr.host (by omega)
 have hsz:=bC4 tx p.addr.host
 unfold oI
 generalize bO tx p.addr.host=pa at *
 obtain ⟨a,ok⟩:=pa
 simp only at c3 hsz⊢
 have c4:=aBg p a (by omega) (by omega)
 have hke:=bAl p a
 obtain ⟨l1,hl1⟩:∃l,l=p.entries++[a]:=⟨_,rfl⟩
 have hap:p.entries.map aF++[[.str a.host,.str a.path]]=l1.map aF:=by rw [hl1];simp
 rw [←hl1]
 clear hl1
 generalize eU p a=g at *
 simp only [aG,aF] at c1 c3 c4
 rw [hke] at c4
 cases ok
 ·simp only [true_or,if_true]
  refine ent Tryz.mix Tryz.func197 Tryz.ntmps197 ?_
  refine aW ?_
  exact aM Tryz.results197
 ·by_cases h20:20≤p.entries.length
  ·have h20i:(20:Int)≤(p.entries.length:Int):=by omega
   simp only [h20,or_true,if_true]
   refine ent Tryz.mix Tryz.func197 Tryz.ntmps197 ?_
   have W:=h20i
   refine we ?_
   exact aM Tryz.results197
  ·have h20i:¬(20:Int)≤(p.entries.length:Int):=by omega
   rw [if_neg (by rintro (h|h);cases h;exact h20 h)]
   refine ent Tryz.mix Tryz.func197 Tryz.ntmps197 ?_
   have W:=And.intro h20i hap
   refine we ?_
   exact aM Tryz.results197
end Go.Proofs.YtaddkhdghlaalaaGreatDoor

set_option maxRecDepth 4000
set_option maxHeartbeats 4000000
namespace Go.Proofs.YtaddkhdghlaalaaGreatDoor
open Go.Aw
def aL0:Str:=[100,101,102,101,114]
def aGc:Str:=[110,111,110,99,101]
def rY (p:aC) (k:Nat) (l:List iJ):aC:=
 if (aP l gK).2=false then (if xG p.policy (aP l aGc).1=true then {p with inline:=((k:Nat):Int)} else p)
 else if (aP l zK).1=aL0 then (fP p 4 (aP l gK).1 (aP l dN).1 ((k:Nat):Int)).1
 else if (aP l zK).1=yS then oI p (aP l gK).1
 else {(fP p 3 (aP l gK).1 (aP l dN).1 ((k:Nat):Int)).1 with block:=(fP p 3 (aP l gK).1 (aP l dN).1 ((k:Nat):Int)).2+1}
theorem aXl (p:aC) (m:Int) (a b:Str) (n:Int): -1≤(fP p m a b n).2∧(fP p m a b n).2≤(p.slots.length:Int):=by
 unfold fP
 split
 ·simp only;omega
 ·split<;>(simp only;omega)
end Go.Proofs.YtaddkhdghlaalaaGreatDoor
