/-
  Proved here: steps towards the statement of this claim, text QI4.
  No condition beyond what each statement spells out.
-/
import Derived.Test.YtajppdidkjbmkaaGreatDoorQI2
import Derived.Test.YtajppdidkjbmkaaGreatDoorF8
import Derived.Test.YtajppdidkjbmkaaGreatDoorF9
import Derived.Test.YtajppdidkjbmkaaGreatDoorQP9
import Derived.Test.YtajppdidkjbmkaaGreatDoorQN1
set_option linter.all false
set_option maxRecDepth 4000
set_option maxHeartbeats 4000000
namespace Go.Proofs.YtajppdidkjbmkaaGreatDoor
open Go.Aw
theorem aIi {p:aY} {a:aH} {m:bN} (h:p.mods[eO p.mods a]? =some m) (hm:m.to=a):dB p a=p:=by
 unfold dB;rw [h];simp [hm]
theorem aCf {p:aY} {a:aH} (h:∀m,p.mods[eO p.mods a]? =some m→m.to≠a):dB p a={p with mods:=kS p a (eO p.mods a)}:=by
 unfold dB
 split
 ·rename_i m hm
  rw [if_neg (h m hm)]
 ·rfl
theorem aDx [aB Tryz.prog] (p:aY) (a:aH) (hs:bJ p≤137438953472) (ha:aO a≤1073741824):Ok Tryz.prog 38 [.agg (aI .view p),.agg (aL a)] (.agg (aI .own (dB p a))):=by
 have c1:=aDb p (by omega)
 have hsn:p.mods.length≤274877906944:=by simp only [bJ,szL] at hs;omega
 have hpol:bM p.policy≤274877906944:=by simp only [bJ] at hs;omega
 have cc:=fun b=>aA0 b a
 simp only [aI] at c1
 simp only [aL] at cc
 have cK:=sG p.policy ⟨5,a,p.addr.host,[]⟩ (by omega) (by simp only [gK,List.length_nil];simp only [bJ,aO] at hs;omega)
 simp only [bD,dL] at cK
 refine ent Tryz.mix Tryz.func38 Tryz.ntmps38 ?_
 have W:=trivial
 repeat' first|refine st ?_|(refine nx ?_;first|refine se ?_|refine so ?_)|(refine cx ?_;refine sc (fun hc=>?_) (fun hc=>?_)<;>try exact hc.elim)|(refine lx ?_;refine sp (fun hc=>?_) (fun hc=>?_)<;>try exact hc.elim)|refine sx ?_ ?_|refine sy ?_ ?_|fail
 refine aJ (ι:={k:Nat // k≤p.mods.length∧∀x∈p.mods.take k,cmpAddr x.to a < 0}) (fun t o i=>⟨aS t [(6,.int .i64 i.1)],o⟩)
  (fun i=>p.mods.length - i.1) ⟨0,by simp,by simp⟩ (aD (by simp) (by simp)) ?_
 rintro ⟨k,hk,hpre⟩ K1 hK1
 simp only [aS,List.set_cons_succ,List.set_cons_zero] at hK1⊢
 have hk1:IntKind.i64.wrap ((k:Int)+1)=((k+1:Nat):Int):=by rw [wrap64]<;>omega
 by_cases hlt:k < p.mods.length
 ·have hg:=List.getElem?_eq_getElem hlt
  have c2:=cc p.mods[k].to
  by_cases hcm:cmpAddr p.mods[k].to a < 0
  ·have hnx:∀x∈p.mods.take (k+1),cmpAddr x.to a < 0:=by
    intro x hx
    rw [List.take_succ_eq_append_getElem hlt,List.mem_append] at hx
    rcases hx with h|h
    ·exact hpre x h
    ·simp at h;subst h;exact hcm
   have W:=And.intro hk1 (And.intro hg (And.intro hlt hcm))
   repeat' first|refine st ?_|(refine nx ?_;first|refine se ?_|refine so ?_)|(refine cx ?_;refine sc (fun hc=>?_) (fun hc=>?_)<;>try exact hc.elim)|(refine lx ?_;refine sp (fun hc=>?_) (fun hc=>?_)<;>try exact hc.elim)|refine sx ?_ ?_|refine sy ?_ ?_|fail
   exact hK1 _ ⟨k+1,by omega,hnx⟩ (aD (by simp) (by simp)) (by simp only;omega)
  ·have hat:eO p.mods a=k:=vQ hk hpre (fun m hm=>by rw [hg] at hm;obtain rfl:=Option.some.inj hm;exact hcm)
   by_cases hto:p.mods[k].to=a
   ·rw [aIi (by rw [hat];exact hg) hto]
    have ce:=kV p.mods[k].to a
    rw [decide_eq_true hto] at ce
    simp only [aL] at ce
    have W:=And.intro hk1 (And.intro hg (And.intro hlt hcm))
    have c0:=ce
    repeat' first|refine st ?_|(refine nx ?_;first|refine se ?_|refine so ?_)|(refine cx ?_;refine sc (fun hc=>?_) (fun hc=>?_)<;>try exact hc.elim)|(refine lx ?_;refine sp (fun hc=>?_) (fun hc=>?_)<;>try exact hc.elim)|refine sx ?_ ?_|refine sy ?_ ?_|fail
    all_goals (try (refine ⟨.inr rfl,?_⟩;simp [Hands,Tryz.results38]))
   ·have hno:∀m,p.mods[eO p.mods a]? =some m→m.to≠a:=fun m hm=>by rw [hat,hg] at hm;obtain rfl:=Option.some.inj hm;exact hto
    have ce:=kV p.mods[k].to a
    rw [decide_eq_false hto] at ce
    simp only [aL] at ce
    rw [aCf hno,hat]
    unfold kS lY
    have hkt:(p.mods.take k).length=k:=by simp;omega
    obtain ⟨m0,hm0⟩:∃m:bN,m=⟨a,false,0,[]⟩:=⟨_,rfl⟩
    obtain ⟨L1,hL1⟩:∃l,l=p.mods.take k++m0::p.mods.drop k:=⟨_,rfl⟩
    obtain ⟨L3,hL3⟩:∃l:List bN,l=p.mods.take k++⟨a,true,2,[]⟩::p.mods.drop k:=⟨_,rfl⟩
    have hln:L1.length=p.mods.length+1:=by rw [hL1];simp;omega
    have hg1:L1[k]? =some m0:=by rw [hL1,List.getElem?_append_right (by omega),hkt];simp
    have hlt1:k < L1.length:=by omega
    have cI:=aH1 p.mods m0 k hk (by omega)
    rw [←hL1,hm0] at cI
    have cR:=pG {p with mods:=L1} k (by omega) (by simp only;omega) (by simp only;omega)
    rw [show lT {p with mods:=L1} (k:Int)=⟨5,a,p.addr.host,[]⟩ by simp only [lT,Int.toNat_natCast,hg1,bU,hm0]] at cR
    have hset:∀h,(L1.map bL).set k [.str (L1[k]'h).to.host,.str (L1[k]'h).to.path,.bool true,.int .i64 2,.str (L1[k]'h).body]=L3.map bL:=by
     intro h
     have e:L1[k]'h=m0:=by rw [List.getElem?_eq_getElem h] at hg1;exact Option.some.inj hg1
     rw [e,hL1,hL3,hm0,List.map_append,List.map_append,List.set_append_right _ _ (by simp;omega),show k - ((p.mods.take k).map bL).length=0 by rw [List.length_map,hkt,Nat.sub_self]]
     simp
    simp only [aI,dL,bL] at cI cR
    by_cases hck:dZ p.policy ⟨5,a,p.addr.host,[]⟩=1
    ·simp only [hck,if_true]
     rw [←hm0,←hL1]
     rw [hck] at cK
     clear hL1 hL3 hm0
     clear hset
     have W:=And.intro hk1 (And.intro hg (And.intro hlt hcm))
     have c0:=ce
     repeat' first|refine st ?_|(refine nx ?_;first|refine se ?_|refine so ?_|refine sg (hc:=cI) (h:=?_))|(refine cx ?_;refine sc (fun hc=>?_) (fun hc=>?_)<;>try exact hc.elim)|(refine lx ?_;refine sp (fun hc=>?_) (fun hc=>?_)<;>try exact hc.elim)|refine sx ?_ ?_|refine sy ?_ ?_|fail
     have W:=And.intro hlt1 hg1
     repeat' first|refine st ?_|(refine nx ?_;first|refine se ?_|refine so ?_)|(refine cx ?_;refine sc (fun hc=>?_) (fun hc=>?_)<;>try exact hc.elim)|(refine lx ?_;refine sp (fun hc=>?_) (fun hc=>?_)<;>try exact hc.elim)|refine sx ?_ ?_|refine sy ?_ ?_|fail
     all_goals (try (refine ⟨.inr rfl,?_⟩;simp [Hands,Tryz.results38]))
    ·simp only [hck,if_false]
     rw [←hL3]
     clear hL1 hL3 hm0
     have W:=And.intro hk1 (And.intro hg (And.intro hlt hcm))
     have c0:=ce
     repeat' first|refine st ?_|(refine nx ?_;first|refine se ?_|refine so ?_|refine sg (hc:=cI) (h:=?_))|(refine cx ?_;refine sc (fun hc=>?_) (fun hc=>?_)<;>try exact hc.elim)|(refine lx ?_;refine sp (fun hc=>?_) (fun hc=>?_)<;>try exact hc.elim)|refine sx ?_ ?_|refine sy ?_ ?_|fail
     have W:=And.intro hlt1 (And.intro hg1 hck)
     repeat' first|refine st ?_|(refine nx ?_;first|refine se ?_|refine so ?_)|(refine cx ?_;refine sc (fun hc=>?_) (fun hc=>?_)<;>try exact hc.elim)|(refine lx ?_;refine sp (fun hc=>?_) (fun hc=>?_)<;>try exact hc.elim)|refine sx ?_ ?_|refine sy ?_ ?_|fail
     all_goals (try (refine ⟨.inr rfl,?_⟩;simp [Hands,Tryz.results38]))
     all_goals exact hset _
 ·have hat:eO p.mods a=k:=vQ hk hpre (fun m hm=>by rw [List.getElem?_eq_none (by omega)] at hm;cases hm)
  have hno:∀m,p.mods[eO p.mods a]? =some m→m.to≠a:=fun m hm=>by rw [hat,List.getElem?_eq_none (by omega)] at hm;cases hm
  rw [aCf hno,hat]
  unfold kS lY
  have hkt:(p.mods.take k).length=k:=by simp;omega
  obtain ⟨m0,hm0⟩:∃m:bN,m=⟨a,false,0,[]⟩:=⟨_,rfl⟩
  obtain ⟨L1,hL1⟩:∃l,l=p.mods.take k++m0::p.mods.drop k:=⟨_,rfl⟩
  obtain ⟨L3,hL3⟩:∃l:List bN,l=p.mods.take k++⟨a,true,2,[]⟩::p.mods.drop k:=⟨_,rfl⟩
  have hln:L1.length=p.mods.length+1:=by rw [hL1];simp;omega
  have hg1:L1[k]? =some m0:=by rw [hL1,List.getElem?_append_right (by omega),hkt];simp
  have hlt1:k < L1.length:=by omega
  have cI:=aH1 p.mods m0 k hk (by omega)
  rw [←hL1,hm0] at cI
  have cR:=pG {p with mods:=L1} k (by omega) (by simp only;omega) (by simp only;omega)
  rw [show lT {p with mods:=L1} (k:Int)=⟨5,a,p.addr.host,[]⟩ by simp only [lT,Int.toNat_natCast,hg1,bU,hm0]] at cR
  have hset:∀h,(L1.map bL).set k [.str (L1[k]'h).to.host,.str (L1[k]'h).to.path,.bool true,.int .i64 2,.str (L1[k]'h).body]=L3.map bL:=by
   intro h
   have e:L1[k]'h=m0:=by rw [List.getElem?_eq_getElem h] at hg1;exact Option.some.inj hg1
   rw [e,hL1,hL3,hm0,List.map_append,List.map_append,List.set_append_right _ _ (by simp;omega),show k - ((p.mods.take k).map bL).length=0 by rw [List.length_map,hkt,Nat.sub_self]]
   simp
  simp only [aI,dL,bL] at cI cR
  by_cases hck:dZ p.policy ⟨5,a,p.addr.host,[]⟩=1
  ·simp only [hck,if_true]
   rw [←hm0,←hL1]
   rw [hck] at cK
   clear hL1 hL3 hm0
   clear hset
   have W:=And.intro hk1 hlt
   repeat' first|refine st ?_|(refine nx ?_;first|refine se ?_|refine so ?_|refine sg (hc:=cI) (h:=?_))|(refine cx ?_;refine sc (fun hc=>?_) (fun hc=>?_)<;>try exact hc.elim)|(refine lx ?_;refine sp (fun hc=>?_) (fun hc=>?_)<;>try exact hc.elim)|refine sx ?_ ?_|refine sy ?_ ?_|fail
   have W:=And.intro hlt1 hg1
   repeat' first|refine st ?_|(refine nx ?_;first|refine se ?_|refine so ?_)|(refine cx ?_;refine sc (fun hc=>?_) (fun hc=>?_)<;>try exact hc.elim)|(refine lx ?_;refine sp (fun hc=>?_) (fun hc=>?_)<;>try exact hc.elim)|refine sx ?_ ?_|refine sy ?_ ?_|fail
   all_goals (try (refine ⟨.inr rfl,?_⟩;simp [Hands,Tryz.results38]))
  ·simp only [hck,if_false]
   rw [←hL3]
   clear hL1 hL3 hm0
   have W:=And.intro hk1 hlt
   repeat' first|refine st ?_|(refine nx ?_;first|refine se ?_|refine so ?_|refine sg (hc:=cI) (h:=?_))|(refine cx ?_;refine sc (fun hc=>?_) (fun hc=>?_)<;>try exact hc.elim)|(refine lx ?_;refine sp (fun hc=>?_) (fun hc=>?_)<;>try exact hc.elim)|refine sx ?_ ?_|refine sy ?_ ?_|fail
   have W:=And.intro hlt1 (And.intro hg1 hck)
   repeat' first|refine st ?_|(refine nx ?_;first|refine se ?_|refine so ?_)|(refine cx ?_;refine sc (fun hc=>?_) (fun hc=>?_)<;>try exact hc.elim)|(refine lx ?_;refine sp (fun hc=>?_) (fun hc=>?_)<;>try exact hc.elim)|refine sx ?_ ?_|refine sy ?_ ?_|fail
   all_goals (try (refine ⟨.inr rfl,?_⟩;simp [Hands,Tryz.results38]))
   all_goals exact hset _
theorem aAf (l:List bN) (k:Nat):List.drop k (List.take l.length (List.map bL l))=List.drop k (List.map bL l):=by rw [List.take_of_length_le (by simp)]
theorem wO (l:List bN) (a:aH) (k:Nat) (d:Bool) (c:Int):dQ (List.take k (List.map bL l)++[.str a.host,.str a.path,.bool d,.int .i64 c,.str []]::List.drop k (List.map bL l))=true:=by
 have e:List.take k (List.map bL l)++[.str a.host,.str a.path,.bool d,.int .i64 c,.str []]::List.drop k (List.map bL l)=(l.take k++⟨a,d,c,[]⟩::l.drop k).map bL:=by simp
 rw [e];exact aJl _
theorem vR [aB Tryz.prog] (p:aY) (a:aH) (hs:bJ p≤137438953472) (ha:aO a≤1073741824):Ok Tryz.prog 53 [.agg (aI .view p),.agg (aL a)] (.agg (aI .own (dB p a))):=by
 have c1:=xL p (by omega)
 have hsn:p.mods.length≤274877906944:=by simp only [bJ,szL] at hs;omega
 have hpol:bM p.policy≤274877906944:=by simp only [bJ] at hs;omega
 have cc:=fun b=>aA1 b a
 have cK:=sF p.policy ⟨5,a,p.addr.host,[]⟩ (by omega) (by simp only [gK,List.length_nil];simp only [bJ,aO] at hs;omega)
 simp only [bD,dL] at cK
 simp only [aI] at c1
 simp only [aL] at cc
 refine ent Tryz.mix Tryz.func53 Tryz.ntmps53 ?_
 have W:=trivial
 repeat' first|refine st ?_|(refine nx ?_;first|refine sz ?_|refine so ?_)|(refine cx ?_;refine sc (fun hc=>?_) (fun hc=>?_)<;>try exact hc.elim)|(refine lx ?_;refine sp (fun hc=>?_) (fun hc=>?_)<;>try exact hc.elim)|refine sx ?_ ?_|refine sy ?_ ?_|fail
 refine aJ (ι:={k:Nat // k≤p.mods.length∧∀x∈p.mods.take k,cmpAddr x.to a < 0}) (fun t o i=>⟨aS t [(6,.int .i64 i.1)],o⟩)
  (fun i=>p.mods.length - i.1) ⟨0,by simp,by simp⟩ (aD (by simp) (by simp)) ?_
 rintro ⟨k,hk,hpre⟩ K1 hK1
 simp only [aS,List.set_cons_succ,List.set_cons_zero] at hK1⊢
 have hk1:IntKind.i64.wrap ((k:Int)+1)=((k+1:Nat):Int):=by rw [wrap64]<;>omega
 by_cases hlt:k < p.mods.length
 ·have hg:=List.getElem?_eq_getElem hlt
  have c2:=cc p.mods[k].to
  by_cases hcm:cmpAddr p.mods[k].to a < 0
  ·have hnx:∀x∈p.mods.take (k+1),cmpAddr x.to a < 0:=by
    intro x hx
    rw [List.take_succ_eq_append_getElem hlt,List.mem_append] at hx
    rcases hx with h|h
    ·exact hpre x h
    ·simp at h;subst h;exact hcm
   have W:=And.intro hk1 (And.intro hg (And.intro hlt hcm))
   repeat' first|refine st ?_|(refine nx ?_;first|refine sz ?_|refine so ?_)|(refine cx ?_;refine sc (fun hc=>?_) (fun hc=>?_)<;>try exact hc.elim)|(refine lx ?_;refine sp (fun hc=>?_) (fun hc=>?_)<;>try exact hc.elim)|refine sx ?_ ?_|refine sy ?_ ?_|fail
   exact hK1 _ ⟨k+1,by omega,hnx⟩ (aD (by simp) (by simp)) (by simp only;omega)
  ·have hat:eO p.mods a=k:=vQ hk hpre (fun m hm=>by rw [hg] at hm;obtain rfl:=Option.some.inj hm;exact hcm)
   by_cases hto:p.mods[k].to=a
   ·rw [aIi (by rw [hat];exact hg) hto]
    have ce:=kV p.mods[k].to a
    rw [decide_eq_true hto] at ce
    simp only [aL] at ce
    have W:=And.intro hk1 (And.intro hg (And.intro hlt hcm))
    have c0:=ce
    repeat' first|refine st ?_|(refine nx ?_;first|refine sz ?_|refine so ?_)|(refine cx ?_;refine sc (fun hc=>?_) (fun hc=>?_)<;>try exact hc.elim)|(refine lx ?_;refine sp (fun hc=>?_) (fun hc=>?_)<;>try exact hc.elim)|refine sx ?_ ?_|refine sy ?_ ?_|fail
    all_goals (try (refine ⟨.inr rfl,?_⟩;simp [Hands,Tryz.results53]))
   ·have hno:∀m,p.mods[eO p.mods a]? =some m→m.to≠a:=fun m hm=>by rw [hat,hg] at hm;obtain rfl:=Option.some.inj hm;exact hto
    have ce:=kV p.mods[k].to a
    rw [decide_eq_false hto] at ce
    simp only [aL] at ce
    rw [aCf hno,hat]
    unfold kS lY
    by_cases hck:dZ p.policy ⟨5,a,p.addr.host,[]⟩=1
    ·simp only [hck,if_true]
     rw [hck] at cK
     have W:=And.intro hk1 (And.intro hg (And.intro hlt (And.intro hcm hk)))
     have c0:=ce
     repeat' first|refine st ?_|(refine nx ?_;first|refine sz ?_|refine so ?_)|(refine cx ?_;refine sc (fun hc=>?_) (fun hc=>?_)<;>try exact hc.elim)|(refine lx ?_;refine sp (fun hc=>?_) (fun hc=>?_)<;>try exact hc.elim)|refine sx ?_ ?_|refine sy ?_ ?_|fail
     all_goals (try (refine ⟨.inr rfl,?_⟩;simp [Hands,Tryz.results53]))
     all_goals exact ⟨aAf p.mods k,wO p.mods a k _ _⟩
    ·simp only [hck,if_false]
     have W:=And.intro hk1 (And.intro hg (And.intro hlt (And.intro hcm (And.intro hk hck))))
     have c0:=ce
     repeat' first|refine st ?_|(refine nx ?_;first|refine sz ?_|refine so ?_)|(refine cx ?_;refine sc (fun hc=>?_) (fun hc=>?_)<;>try exact hc.elim)|(refine lx ?_;refine sp (fun hc=>?_) (fun hc=>?_)<;>try exact hc.elim)|refine sx ?_ ?_|refine sy ?_ ?_|fail
     all_goals (try (refine ⟨.inr rfl,?_⟩;simp [Hands,Tryz.results53]))
     all_goals exact ⟨aAf p.mods k,wO p.mods a k _ _⟩
 ·have hat:eO p.mods a=k:=vQ hk hpre (fun m hm=>by rw [List.getElem?_eq_none (by omega)] at hm;cases hm)
  have hno:∀m,p.mods[eO p.mods a]? =some m→m.to≠a:=fun m hm=>by rw [hat,List.getElem?_eq_none (by omega)] at hm;cases hm
  rw [aCf hno,hat]
  unfold kS lY
  by_cases hck:dZ p.policy ⟨5,a,p.addr.host,[]⟩=1
  ·simp only [hck,if_true]
   rw [hck] at cK
   have W:=And.intro hk1 (And.intro hlt hk)
   repeat' first|refine st ?_|(refine nx ?_;first|refine sz ?_|refine so ?_)|(refine cx ?_;refine sc (fun hc=>?_) (fun hc=>?_)<;>try exact hc.elim)|(refine lx ?_;refine sp (fun hc=>?_) (fun hc=>?_)<;>try exact hc.elim)|refine sx ?_ ?_|refine sy ?_ ?_|fail
   all_goals (try (refine ⟨.inr rfl,?_⟩;simp [Hands,Tryz.results53]))
   all_goals exact ⟨aAf p.mods k,wO p.mods a k _ _⟩
  ·simp only [hck,if_false]
   have W:=And.intro hk1 (And.intro hlt (And.intro hk hck))
   repeat' first|refine st ?_|(refine nx ?_;first|refine sz ?_|refine so ?_)|(refine cx ?_;refine sc (fun hc=>?_) (fun hc=>?_)<;>try exact hc.elim)|(refine lx ?_;refine sp (fun hc=>?_) (fun hc=>?_)<;>try exact hc.elim)|refine sx ?_ ?_|refine sy ?_ ?_|fail
   all_goals (try (refine ⟨.inr rfl,?_⟩;simp [Hands,Tryz.results53]))
   all_goals exact ⟨aAf p.mods k,wO p.mods a k _ _⟩
theorem aPs (p:aY) (a:aH) (k:Nat):szL dV (kS p a k)=szL dV p.mods+1+aO a:=by
 have h1:bX dV (p.mods.take k)+bX dV (p.mods.drop k)=bX dV p.mods:=by rw [←aB9,List.take_append_drop]
 have h2:(p.mods.take k).length+(p.mods.drop k).length=p.mods.length:=by rw [←List.length_append,List.take_append_drop]
 have h3:dV (lY p a)=aO a:=by unfold lY;split<;>simp [dV]
 simp only [kS,szL,List.length_append,List.length_cons,aB9,bX,h3]
 omega
theorem aSe (p:aY) (a:aH):bJ (dB p a)≤bJ p+aO a+1:=by
 have h:=aPs p a (eO p.mods a)
 unfold dB
 split
 ·split
  ·omega
  ·simp only [bJ,h];omega
 ·simp only [bJ,h];omega
def bY (p:aY) (m:bN) (x:bA):bN:={m with done:=true,code:=dI p.policy (bU p m) x,body:=gZ p.policy (bU p m) x}
def dN (q:aY) (l:List aH):aY:=l.foldl dB q
def qI (p:aY) (a:aH) (x:bA) (k:Nat) (m:bN):aY:=dN {p with mods:=p.mods.set k (bY p m x)} (mD {p with mods:=p.mods.set k (bY p m x)} a)
def bS (p:aY) (a:aH) (x:bA):aY:=
 if iT (fH a) p.mods < 0 then p else match p.mods[(iT (fH a) p.mods).toNat]? with
 |some m=>if m.done=true then p else qI p a x (iT (fH a) p.mods).toNat m
 |none=>p
theorem vE {p:aY} {a:aH} {x:bA} (h:iT (fH a) p.mods= -1):bS p a x=p:=by
 unfold bS;rw [h];rfl
theorem vC {p:aY} {a:aH} {x:bA} {k:Nat} {m:bN} (h:iT (fH a) p.mods=(k:Int)) (hg:p.mods[k]? =some m) (hd:m.done=true):bS p a x=p:=by
 unfold bS;rw [h,if_neg (by omega),Int.toNat_natCast,hg];simp [hd]
theorem xD {p:aY} {a:aH} {x:bA} {k:Nat} {m:bN} (h:iT (fH a) p.mods=(k:Int)) (hg:p.mods[k]? =some m) (hd:m.done=false):bS p a x=qI p a x k m:=by
 unfold bS;rw [h,if_neg (by omega),Int.toNat_natCast,hg];simp [hd]
theorem aKm {α:Type} (f:α→Bool) (y:α):∀(l:List α) (k:Nat) (h:k < l.length),f y=true→l.find? f=some l[k]→(∀j (hj:j < k),f (l[j]'(Nat.lt_trans hj h))=false)→(l.set k y).find? f=some y
 |[],k,h,_,_,_=>by simp at h
 |z::l,0,h,hy,_,_=>by simp [hy]
 |z::l,k+1,h,hy,hf,hn=>by
  have hz:f z=false:=hn 0 (by omega)
  rw [List.set_cons_succ,List.find?_cons,hz]
  rw [List.find?_cons,hz] at hf
  exact aKm f y l k (by simpa using h) hy (by simpa using hf) (fun j hj=>by have:=hn (j+1) (by omega);simpa using this)
theorem aSm {α:Type} {f:α→Bool} {l:List α} {k:Nat} (h:iT f l=(k:Int)) (hk:k < l.length):f l[k]=true∧∀j (hj:j < k),f (l[j]'(Nat.lt_trans hj hk))=false:=by
 unfold iT at h
 split at h
 ·rename_i ha
  have hk2:l.findIdx f=k:=by omega
  rw [List.findIdx_eq hk] at hk2
  exact hk2
 ·omega
theorem tX {p:aY} {a:aH} {x:bA} {k:Nat} (h:iT (fH a) p.mods=(k:Int)) (hk:k < p.mods.length) (hf:p.mods.find? (fH a)=some p.mods[k]):(p.mods.set k (bY p p.mods[k] x)).find? (fH a)=some (bY p p.mods[k] x):=by
 obtain ⟨h1,h2⟩:=aSm h hk
 exact aKm _ _ _ _ hk (by simp only [fH] at h1⊢;exact h1) hf h2
theorem aOp {α:Type} (f:α→Nat) (c:Nat):∀(l:List α) (i:Nat) (y:α) (h:i < l.length),f y≤f l[i]+c→bX f (l.set i y)≤bX f l+c
 |[],i,y,h,_=>by simp at h
 |z::l,0,y,h,hs=>by simp only [List.set_cons_zero,bX,List.getElem_cons_zero] at hs⊢;omega
 |z::l,i+1,y,h,hs=>by
  have:=aOp f c l i y (by simpa using h) (by simpa using hs)
  simp only [List.set_cons_succ,bX];omega
theorem aGx (p:aY) (k:Nat) (hk:k < p.mods.length) (x:bA):bJ {p with mods:=p.mods.set k (bY p p.mods[k] x)}≤bJ p+400:=by
 have hb:=wY p.policy (bU p p.mods[k]) x
 have h:=aOp dV 400 p.mods k (bY p p.mods[k] x) hk (by simp only [dV,bY];omega)
 simp only [bJ,szL,List.length_set]
 omega
theorem aAe (N:Nat):∀(l:List aH) (q:aY),(∀x∈l,aO x≤N)→bJ (dN q l)≤bJ q+l.length * (N+1)
 |[],q,_=>by simp [dN]
 |b::l,q,h=>by
  have h1:=aAe N l (dB q b) (fun x hx=>h x (by simp [hx]))
  have h2:=aSe q b
  have h3:=h b (by simp)
  simp only [dN,List.foldl_cons,List.length_cons,Nat.succ_mul] at h1⊢
  omega
theorem aC2 (q:aY) (l:List aH) (b:aH):dN q (l++[b])=dB (dN q l) b:=by simp [dN]
end Go.Proofs.YtajppdidkjbmkaaGreatDoor
