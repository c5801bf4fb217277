/-
  Proved here: steps towards the statement of this claim, text QI4.
  No condition beyond what each statement spells out.
-/
import Derived.Test.YtlnblmmohpcceaaGreatDoorQI1
import Derived.Test.YtlnblmmohpcceaaGreatDoorF8
import Derived.Test.YtlnblmmohpcceaaGreatDoorF9
import Derived.Test.YtlnblmmohpcceaaGreatDoorQT1
import Derived.Test.YtlnblmmohpcceaaGreatDoorQTKB
import Derived.Test.YtlnblmmohpcceaaGreatDoorQRCB
import Derived.Test.YtlnblmmohpcceaaGreatDoorQN1
set_option linter.all false
set_option maxRecDepth 8000
set_option maxHeartbeats 8000000
namespace Go.Proofs.YtlnblmmohpcceaaGreatDoor
open Go.Aw
theorem aN9 {p:aJ} {a:aK} {m:cZ} (h:p.mods[oL p.mods a]? =some m) (hm:m.to=a):iQ p a=p:=by
 unfold iQ;rw [h];simp [hm]
theorem aGw {p:aJ} {a:aK} (h:∀m,p.mods[oL p.mods a]? =some m→m.to≠a):iQ p a={p with mods:=tX p a (oL p.mods a)}:=by
 unfold iQ
 split
 ·rename_i m hm
  rw [if_neg (h m hm)]
 ·rfl
theorem aIq [aA Tryz.prog] (p:aJ) (a:aK) (hs:aD p≤137438953472) (ha:aR a≤1073741824):Ok Tryz.prog 280 [.agg (aG .view p),.agg (aF a)] (.agg (aG .own (iQ p a))):=by
 have c1:=jZ p (by omega)
 have hsn:p.mods.length≤274877906944:=by simp only [aD,szL] at hs;omega
 have hpol:gL p.policy≤274877906944:=by simp only [aD] at hs;omega
 have cc:=fun b=>aEy b a
 simp only [aG] at c1
 simp only [aF] at cc
 have cK:=xG p.policy ⟨5,a,p.addr.host,[]⟩ (by omega) (by simp only [nR,List.length_nil];simp only [aD,aR] at hs;omega)
 simp only [bJ,iJ] at cK
 refine ent Tryz.mix Tryz.func280 Tryz.ntmps280 ?_
 have W:=trivial
 repeat' first|refine we ?_|(refine sq (fun hc=>?_) (fun hc=>?_)<;>try exact hc.elim)|fail
 refine aM (ι:={k:Nat // k≤p.mods.length∧∀x∈p.mods.take k,cmpAddr x.to a < 0}) (fun t o i=>⟨aO t [(6,.int .i64 i.1)],o⟩)
  (fun i=>p.mods.length - i.1) ⟨0,by simp,by simp⟩ (aH (by simp) (by simp)) ?_
 rintro ⟨k,hk,hpre⟩ K1 hK1
 simp only [aO,List.set_cons_succ,List.set_cons_zero] at hK1⊢
 have hk1:IntKind.i64.wrap ((k:Int)+1)=((k+1:Nat):Int):=by rw [wrap64]<;>omega
 by_cases hlt:k < p.mods.length
 ·have hg:=List.getElem?_eq_getElem hlt
  have c2:=cc p.mods[k].to
  by_cases hcm:cmpAddr p.mods[k].to a < 0
  ·have hnx:∀x∈p.mods.take (k+1),cmpAddr x.to a < 0:=by
    intro x hx
    rw [List.take_succ_eq_append_getElem hlt,List.mem_append] at hx
    rcases hx with h|h
    ·exact hpre x h
    ·simp at h;subst h;exact hcm
   have W:=And.intro hk1 (And.intro hg (And.intro hlt hcm))
   repeat' first|refine we ?_|(refine sq (fun hc=>?_) (fun hc=>?_)<;>try exact hc.elim)|fail
   exact hK1 _ ⟨k+1,by omega,hnx⟩ (aH (by simp) (by simp)) (by simp only;omega)
  ·have hat:oL p.mods a=k:=aA9 hk hpre (fun m hm=>by rw [hg] at hm;obtain rfl:=Option.some.inj hm;exact hcm)
   by_cases hto:p.mods[k].to=a
   ·rw [aN9 (by rw [hat];exact hg) hto]
    have ce:=tO p.mods[k].to a
    rw [decide_eq_true hto] at ce
    simp only [aF] at ce
    have W:=And.intro hk1 (And.intro hg (And.intro hlt hcm))
    have c0:=ce
    repeat' first|refine we ?_|(refine sq (fun hc=>?_) (fun hc=>?_)<;>try exact hc.elim)|fail
    all_goals (try (refine ⟨.inr rfl,?_⟩;simp [Hands,Tryz.results280]))
   ·have hno:∀m,p.mods[oL p.mods a]? =some m→m.to≠a:=fun m hm=>by rw [hat,hg] at hm;obtain rfl:=Option.some.inj hm;exact hto
    have ce:=tO p.mods[k].to a
    rw [decide_eq_false hto] at ce
    simp only [aF] at ce
    rw [aGw hno,hat]
    unfold tX aA7
    have hkt:(p.mods.take k).length=k:=by simp;omega
    obtain ⟨m0,hm0⟩:∃m:cZ,m=⟨a,false,0,[]⟩:=⟨_,rfl⟩
    obtain ⟨L1,hL1⟩:∃l,l=p.mods.take k++m0::p.mods.drop k:=⟨_,rfl⟩
    obtain ⟨L3,hL3⟩:∃l:List cZ,l=p.mods.take k++⟨a,true,2,[]⟩::p.mods.drop k:=⟨_,rfl⟩
    have hln:L1.length=p.mods.length+1:=by rw [hL1];simp;omega
    have hg1:L1[k]? =some m0:=by rw [hL1,List.getElem?_append_right (by omega),hkt];simp
    have hlt1:k < L1.length:=by omega
    have cI:=aOf p.mods m0 k hk (by omega)
    rw [←hL1,hm0] at cI
    have cR:=zN {p with mods:=L1} k (by omega) (by simp only;omega) (by simp only;omega)
    rw [show aA4 {p with mods:=L1} (k:Int)=⟨5,a,p.addr.host,[]⟩ by simp only [aA4,Int.toNat_natCast,hg1,aAr,hm0]] at cR
    have hset:∀h,(L1.map bD).set k [.str (L1[k]'h).to.host,.str (L1[k]'h).to.path,.bool true,.int .i64 2,.str (L1[k]'h).body]=L3.map bD:=by
     intro h
     have e:L1[k]'h=m0:=by rw [List.getElem?_eq_getElem h] at hg1;exact Option.some.inj hg1
     rw [e,hL1,hL3,hm0,List.map_append,List.map_append,List.set_append_right _ _ (by simp;omega),show k - ((p.mods.take k).map bD).length=0 by rw [List.length_map,hkt,Nat.sub_self]]
     simp
    simp only [aG,iJ,bD] at cI cR
    by_cases hck:gK p.policy ⟨5,a,p.addr.host,[]⟩=1
    ·simp only [hck,if_true]
     rw [←hm0,←hL1]
     rw [hck] at cK
     clear hL1 hL3 hm0
     clear hset
     have W:=And.intro hk1 (And.intro hg (And.intro hlt hcm))
     have c0:=ce
     repeat' first|refine we ?_|(refine nx ?_;refine sg (hc:=cI) (h:=?_))|(refine sq (fun hc=>?_) (fun hc=>?_)<;>try exact hc.elim)|fail
     have W:=And.intro hlt1 hg1
     repeat' first|refine we ?_|(refine sq (fun hc=>?_) (fun hc=>?_)<;>try exact hc.elim)|fail
     all_goals (try (refine ⟨.inr rfl,?_⟩;simp [Hands,Tryz.results280]))
    ·simp only [hck,if_false]
     rw [←hL3]
     clear hL1 hL3 hm0
     have W:=And.intro hk1 (And.intro hg (And.intro hlt hcm))
     have c0:=ce
     repeat' first|refine we ?_|(refine nx ?_;refine sg (hc:=cI) (h:=?_))|(refine sq (fun hc=>?_) (fun hc=>?_)<;>try exact hc.elim)|fail
     have W:=And.intro hlt1 (And.intro hg1 hck)
     repeat' first|refine we ?_|(refine sq (fun hc=>?_) (fun hc=>?_)<;>try exact hc.elim)|fail
     all_goals (try (refine ⟨.inr rfl,?_⟩;simp [Hands,Tryz.results280]))
     all_goals exact hset _
 ·have hat:oL p.mods a=k:=aA9 hk hpre (fun m hm=>by rw [List.getElem?_eq_none (by omega)] at hm;cases hm)
  have hno:∀m,p.mods[oL p.mods a]? =some m→m.to≠a:=fun m hm=>by rw [hat,List.getElem?_eq_none (by omega)] at hm;cases hm
  rw [aGw hno,hat]
  unfold tX aA7
  have hkt:(p.mods.take k).length=k:=by simp;omega
  obtain ⟨m0,hm0⟩:∃m:cZ,m=⟨a,false,0,[]⟩:=⟨_,rfl⟩
  obtain ⟨L1,hL1⟩:∃l,l=p.mods.take k++m0::p.mods.drop k:=⟨_,rfl⟩
  obtain ⟨L3,hL3⟩:∃l:List cZ,l=p.mods.take k++⟨a,true,2,[]⟩::p.mods.drop k:=⟨_,rfl⟩
  have hln:L1.length=p.mods.length+1:=by rw [hL1];simp;omega
  have hg1:L1[k]? =some m0:=by rw [hL1,List.getElem?_append_right (by omega),hkt];simp
  have hlt1:k < L1.length:=by omega
  have cI:=aOf p.mods m0 k hk (by omega)
  rw [←hL1,hm0] at cI
  have cR:=zN {p with mods:=L1} k (by omega) (by simp only;omega) (by simp only;omega)
  rw [show aA4 {p with mods:=L1} (k:Int)=⟨5,a,p.addr.host,[]⟩ by simp only [aA4,Int.toNat_natCast,hg1,aAr,hm0]] at cR
  have hset:∀h,(L1.map bD).set k [.str (L1[k]'h).to.host,.str (L1[k]'h).to.path,.bool true,.int .i64 2,.str (L1[k]'h).body]=L3.map bD:=by
   intro h
   have e:L1[k]'h=m0:=by rw [List.getElem?_eq_getElem h] at hg1;exact Option.some.inj hg1
   rw [e,hL1,hL3,hm0,List.map_append,List.map_append,List.set_append_right _ _ (by simp;omega),show k - ((p.mods.take k).map bD).length=0 by rw [List.length_map,hkt,Nat.sub_self]]
   simp
  simp only [aG,iJ,bD] at cI cR
  by_cases hck:gK p.policy ⟨5,a,p.addr.host,[]⟩=1
  ·simp only [hck,if_true]
   rw [←hm0,←hL1]
   rw [hck] at cK
   clear hL1 hL3 hm0
   clear hset
   have W:=And.intro hk1 hlt
   repeat' first|refine we ?_|(refine nx ?_;refine sg (hc:=cI) (h:=?_))|(refine sq (fun hc=>?_) (fun hc=>?_)<;>try exact hc.elim)|fail
   have W:=And.intro hlt1 hg1
   repeat' first|refine we ?_|(refine sq (fun hc=>?_) (fun hc=>?_)<;>try exact hc.elim)|fail
   all_goals (try (refine ⟨.inr rfl,?_⟩;simp [Hands,Tryz.results280]))
  ·simp only [hck,if_false]
   rw [←hL3]
   clear hL1 hL3 hm0
   have W:=And.intro hk1 hlt
   repeat' first|refine we ?_|(refine nx ?_;refine sg (hc:=cI) (h:=?_))|(refine sq (fun hc=>?_) (fun hc=>?_)<;>try exact hc.elim)|fail
   have W:=And.intro hlt1 (And.intro hg1 hck)
   repeat' first|refine we ?_|(refine sq (fun hc=>?_) (fun hc=>?_)<;>try exact hc.elim)|fail
   all_goals (try (refine ⟨.inr rfl,?_⟩;simp [Hands,Tryz.results280]))
   all_goals exact hset _
theorem aD4 (l:List cZ) (k:Nat):List.drop k (List.take l.length (List.map bD l))=List.drop k (List.map bD l):=by rw [List.take_of_length_le (by simp)]
theorem aBm (l:List cZ) (a:aK) (k:Nat) (d:Bool) (c:Int):eB (List.take k (List.map bD l)++[.str a.host,.str a.path,.bool d,.int .i64 c,.str []]::List.drop k (List.map bD l))=true:=by
 have e:List.take k (List.map bD l)++[.str a.host,.str a.path,.bool d,.int .i64 c,.str []]::List.drop k (List.map bD l)=(l.take k++⟨a,d,c,[]⟩::l.drop k).map bD:=by simp
 rw [e];exact aPh _
theorem aIf [aA Tryz.prog] (p:aJ) (a:aK) (hs:aD p≤137438953472) (ha:aR a≤1073741824):Ok Tryz.prog 276 [.agg (aG .view p),.agg (aF a)] (.agg (aG .own (iQ p a))):=by
 have c1:=iO p (by omega)
 have hsn:p.mods.length≤274877906944:=by simp only [aD,szL] at hs;omega
 have hpol:gL p.policy≤274877906944:=by simp only [aD] at hs;omega
 have cc:=fun b=>aEx b a
 have cK:=xE p.policy ⟨5,a,p.addr.host,[]⟩ (by omega) (by simp only [nR,List.length_nil];simp only [aD,aR] at hs;omega)
 simp only [bJ,iJ] at cK
 simp only [aG] at c1
 simp only [aF] at cc
 refine ent Tryz.mix Tryz.func276 Tryz.ntmps276 ?_
 have W:=trivial
 repeat' first|refine st ?_|(refine nx ?_;first|refine sz ?_|refine so ?_)|(refine cx ?_;refine sc (fun hc=>?_) (fun hc=>?_)<;>try exact hc.elim)|(refine lx ?_;refine sp (fun hc=>?_) (fun hc=>?_)<;>try exact hc.elim)|refine sx ?_ ?_|refine sy ?_ ?_|fail
 refine aM (ι:={k:Nat // k≤p.mods.length∧∀x∈p.mods.take k,cmpAddr x.to a < 0}) (fun t o i=>⟨aO t [(6,.int .i64 i.1)],o⟩)
  (fun i=>p.mods.length - i.1) ⟨0,by simp,by simp⟩ (aH (by simp) (by simp)) ?_
 rintro ⟨k,hk,hpre⟩ K1 hK1
 simp only [aO,List.set_cons_succ,List.set_cons_zero] at hK1⊢
 have hk1:IntKind.i64.wrap ((k:Int)+1)=((k+1:Nat):Int):=by rw [wrap64]<;>omega
 by_cases hlt:k < p.mods.length
 ·have hg:=List.getElem?_eq_getElem hlt
  have c2:=cc p.mods[k].to
  by_cases hcm:cmpAddr p.mods[k].to a < 0
  ·have hnx:∀x∈p.mods.take (k+1),cmpAddr x.to a < 0:=by
    intro x hx
    rw [List.take_succ_eq_append_getElem hlt,List.mem_append] at hx
    rcases hx with h|h
    ·exact hpre x h
    ·simp at h;subst h;exact hcm
   have W:=And.intro hk1 (And.intro hg (And.intro hlt hcm))
   repeat' first|refine st ?_|(refine nx ?_;first|refine sz ?_|refine so ?_)|(refine cx ?_;refine sc (fun hc=>?_) (fun hc=>?_)<;>try exact hc.elim)|(refine lx ?_;refine sp (fun hc=>?_) (fun hc=>?_)<;>try exact hc.elim)|refine sx ?_ ?_|refine sy ?_ ?_|fail
   exact hK1 _ ⟨k+1,by omega,hnx⟩ (aH (by simp) (by simp)) (by simp only;omega)
  ·have hat:oL p.mods a=k:=aA9 hk hpre (fun m hm=>by rw [hg] at hm;obtain rfl:=Option.some.inj hm;exact hcm)
   by_cases hto:p.mods[k].to=a
   ·rw [aN9 (by rw [hat];exact hg) hto]
    have ce:=tO p.mods[k].to a
    rw [decide_eq_true hto] at ce
    simp only [aF] at ce
    have W:=And.intro hk1 (And.intro hg (And.intro hlt hcm))
    have c0:=ce
    repeat' first|refine st ?_|(refine nx ?_;first|refine sz ?_|refine so ?_)|(refine cx ?_;refine sc (fun hc=>?_) (fun hc=>?_)<;>try exact hc.elim)|(refine lx ?_;refine sp (fun hc=>?_) (fun hc=>?_)<;>try exact hc.elim)|refine sx ?_ ?_|refine sy ?_ ?_|fail
    all_goals (try (refine ⟨.inr rfl,?_⟩;simp [Hands,Tryz.results276]))
   ·have hno:∀m,p.mods[oL p.mods a]? =some m→m.to≠a:=fun m hm=>by rw [hat,hg] at hm;obtain rfl:=Option.some.inj hm;exact hto
    have ce:=tO p.mods[k].to a
    rw [decide_eq_false hto] at ce
    simp only [aF] at ce
    rw [aGw hno,hat]
    unfold tX aA7
    by_cases hck:gK p.policy ⟨5,a,p.addr.host,[]⟩=1
    ·simp only [hck,if_true]
     rw [hck] at cK
     have W:=And.intro hk1 (And.intro hg (And.intro hlt (And.intro hcm hk)))
     have c0:=ce
     repeat' first|refine st ?_|(refine nx ?_;first|refine sz ?_|refine so ?_)|(refine cx ?_;refine sc (fun hc=>?_) (fun hc=>?_)<;>try exact hc.elim)|(refine lx ?_;refine sp (fun hc=>?_) (fun hc=>?_)<;>try exact hc.elim)|refine sx ?_ ?_|refine sy ?_ ?_|fail
     all_goals (try (refine ⟨.inr rfl,?_⟩;simp [Hands,Tryz.results276]))
     all_goals exact ⟨aD4 p.mods k,aBm p.mods a k _ _⟩
    ·simp only [hck,if_false]
     have W:=And.intro hk1 (And.intro hg (And.intro hlt (And.intro hcm (And.intro hk hck))))
     have c0:=ce
     repeat' first|refine st ?_|(refine nx ?_;first|refine sz ?_|refine so ?_)|(refine cx ?_;refine sc (fun hc=>?_) (fun hc=>?_)<;>try exact hc.elim)|(refine lx ?_;refine sp (fun hc=>?_) (fun hc=>?_)<;>try exact hc.elim)|refine sx ?_ ?_|refine sy ?_ ?_|fail
     all_goals (try (refine ⟨.inr rfl,?_⟩;simp [Hands,Tryz.results276]))
     all_goals exact ⟨aD4 p.mods k,aBm p.mods a k _ _⟩
 ·have hat:oL p.mods a=k:=aA9 hk hpre (fun m hm=>by rw [List.getElem?_eq_none (by omega)] at hm;cases hm)
  have hno:∀m,p.mods[oL p.mods a]? =some m→m.to≠a:=fun m hm=>by rw [hat,List.getElem?_eq_none (by omega)] at hm;cases hm
  rw [aGw hno,hat]
  unfold tX aA7
  by_cases hck:gK p.policy ⟨5,a,p.addr.host,[]⟩=1
  ·simp only [hck,if_true]
   rw [hck] at cK
   have W:=And.intro hk1 (And.intro hlt hk)
   repeat' first|refine st ?_|(refine nx ?_;first|refine sz ?_|refine so ?_)|(refine cx ?_;refine sc (fun hc=>?_) (fun hc=>?_)<;>try exact hc.elim)|(refine lx ?_;refine sp (fun hc=>?_) (fun hc=>?_)<;>try exact hc.elim)|refine sx ?_ ?_|refine sy ?_ ?_|fail
   all_goals (try (refine ⟨.inr rfl,?_⟩;simp [Hands,Tryz.results276]))
   all_goals exact ⟨aD4 p.mods k,aBm p.mods a k _ _⟩
  ·simp only [hck,if_false]
   have W:=And.intro hk1 (And.intro hlt (And.intro hk hck))
   repeat' first|refine st ?_|(refine nx ?_;first|refine sz ?_|refine so ?_)|(refine cx ?_;refine sc (fun hc=>?_) (fun hc=>?_)<;>try exact hc.elim)|(refine lx ?_;refine sp (fun hc=>?_) (fun hc=>?_)<;>try exact hc.elim)|refine sx ?_ ?_|refine sy ?_ ?_|fail
   all_goals (try (refine ⟨.inr rfl,?_⟩;simp [Hands,Tryz.results276]))
   all_goals exact ⟨aD4 p.mods k,aBm p.mods a k _ _⟩
theorem aI7 (s b:Str):aR (bI s b).1≤s.length+b.length:=by
 have h:=mQ 47 s
 unfold bI addrOf
 split<;>split<;>simp [aR,qI]<;>omega
def rO (p:aJ) (tx:Str):aJ:=
 if (bI tx p.addr.host).2=false∨20≤p.entries.length then p else {iQ p (bI tx p.addr.host).1 with entries:=p.entries++[(bI tx p.addr.host).1]}
theorem aUj (p:aJ) (a:aK) (e:List aK):iQ {p with entries:=e} a={iQ p a with entries:=e}:=by
 unfold iQ
 simp only
 split
 ·split<;>rfl
 ·rfl
theorem aOm (p:aJ) (a:aK):(iQ p a).entries=p.entries:=by
 unfold iQ
 split
 ·split<;>rfl
 ·rfl
theorem aJw [aA Tryz.prog] (p:aJ) (tx:Str) (hs:aD p≤268435456) (hto:tx.length≤268435456):Ok Tryz.prog 243 [.agg (aG .view p),.str tx] (.agg (aG .own (rO p tx))):=by
 have hsl:p.addr.host.length≤268435456:=by simp only [aD,aR] at hs;omega
 have hen:p.entries.length≤268435456:=by simp only [aD,szL] at hs;omega
 have c1:=jZ p (by omega)
 have c3:=vF tx p.addr.host (by omega)
 have hsz:=aI7 tx p.addr.host
 unfold rO
 generalize bI tx p.addr.host=pa at *
 obtain ⟨a,ok⟩:=pa
 simp only at c3 hsz⊢
 have c4:=aIq {p with entries:=p.entries++[a]} a (by simp only [aD,szL,List.length_append,gW,aC,List.length_cons,List.length_nil] at hs⊢;omega) (by omega)
 rw [aUj] at c4
 obtain ⟨l1,hl1⟩:∃l,l=p.entries++[a]:=⟨_,rfl⟩
 have hap:p.entries.map aF++[[.str a.host,.str a.path]]=l1.map aF:=by rw [hl1];simp
 rw [←hl1] at c4⊢
 clear hl1
 generalize iQ p a=g at *
 simp only [aG,aF] at c1 c3 c4
 cases ok
 ·simp only [true_or,if_true]
  refine ent Tryz.mix Tryz.func243 Tryz.ntmps243 ?_
  have W:=trivial
  repeat' first|refine we ?_|(refine sq (fun hc=>?_) (fun hc=>?_)<;>try exact hc.elim)|fail
  all_goals (try (refine ⟨.inr rfl,?_⟩;simp [Hands,Tryz.results243]))
 ·by_cases h20:20≤p.entries.length
  ·have h20i:(20:Int)≤(p.entries.length:Int):=by omega
   simp only [h20,or_true,if_true]
   refine ent Tryz.mix Tryz.func243 Tryz.ntmps243 ?_
   have W:=h20i
   repeat' first|refine we ?_|(refine sq (fun hc=>?_) (fun hc=>?_)<;>try exact hc.elim)|fail
   all_goals (try (refine ⟨.inr rfl,?_⟩;simp [Hands,Tryz.results243]))
  ·have h20i:¬(20:Int)≤(p.entries.length:Int):=by omega
   rw [if_neg (by rintro (h|h);cases h;exact h20 h)]
   refine ent Tryz.mix Tryz.func243 Tryz.ntmps243 ?_
   have W:=And.intro h20i hap
   repeat' first|refine we ?_|(refine sq (fun hc=>?_) (fun hc=>?_)<;>try exact hc.elim)|fail
   all_goals (try (refine ⟨.inr rfl,?_⟩;simp [Hands,Tryz.results243]))
theorem aJm [aA Tryz.prog] (p:aJ) (tx:Str) (hs:aD p≤268435456) (hto:tx.length≤268435456):Ok Tryz.prog 239 [.agg (aG .view p),.str tx] (.agg (aG .own (rO p tx))):=by
 have hsl:p.addr.host.length≤268435456:=by simp only [aD,aR] at hs;omega
 have hen:p.entries.length≤268435456:=by simp only [aD,szL] at hs;omega
 have c1:=iO p (by omega)
 have c3:=vE tx p.addr.host (by omega)
 have hsz:=aI7 tx p.addr.host
 unfold rO
 generalize bI tx p.addr.host=pa at *
 obtain ⟨a,ok⟩:=pa
 simp only at c3 hsz⊢
 have c4:=aIf p a (by omega) (by omega)
 have hke:=aOm p a
 obtain ⟨l1,hl1⟩:∃l,l=p.entries++[a]:=⟨_,rfl⟩
 have hap:p.entries.map aF++[[.str a.host,.str a.path]]=l1.map aF:=by rw [hl1];simp
 rw [←hl1]
 clear hl1
 generalize iQ p a=g at *
 simp only [aG,aF] at c1 c3 c4
 rw [hke] at c4
 cases ok
 ·simp only [true_or,if_true]
  refine ent Tryz.mix Tryz.func239 Tryz.ntmps239 ?_
  have W:=trivial
  repeat' first|refine we ?_|(refine sq (fun hc=>?_) (fun hc=>?_)<;>try exact hc.elim)|fail
  all_goals (try (refine ⟨.inr rfl,?_⟩;simp [Hands,Tryz.results239]))
 ·by_cases h20:20≤p.entries.length
  ·have h20i:(20:Int)≤(p.entries.length:Int):=by omega
   simp only [h20,or_true,if_true]
   refine ent Tryz.mix Tryz.func239 Tryz.ntmps239 ?_
   have W:=h20i
   repeat' first|refine we ?_|(refine sq (fun hc=>?_) (fun hc=>?_)<;>try exact hc.elim)|fail
   all_goals (try (refine ⟨.inr rfl,?_⟩;simp [Hands,Tryz.results239]))
  ·have h20i:¬(20:Int)≤(p.entries.length:Int):=by omega
   rw [if_neg (by rintro (h|h);cases h;exact h20 h)]
   refine ent Tryz.mix Tryz.func239 Tryz.ntmps239 ?_
   have W:=And.intro h20i hap
   repeat' first|refine we ?_|(refine sq (fun hc=>?_) (fun hc=>?_)<;>try exact hc.elim)|fail
   all_goals (try (refine ⟨.inr rfl,?_⟩;simp [Hands,Tryz.results239]))
def aA5:Str:=[100,101,102,101,114]
def wZ:Str:=[110,111,110,99,101]
def oU (p:aJ) (k:Nat) (l:List fA):aJ:=
 if (aN l fV).2=false then (if oC p.policy (aN l wZ).1=true then {p with inline:=((k:Nat):Int)} else p)
 else if (aN l aAc).1=aA5 then (fT p 4 (aN l fV).1 (aN l bW).1 ((k:Nat):Int)).1
 else if (aN l aAc).1=vN then rO p (aN l fV).1
 else {(fT p 3 (aN l fV).1 (aN l bW).1 ((k:Nat):Int)).1 with block:=(fT p 3 (aN l fV).1 (aN l bW).1 ((k:Nat):Int)).2+1}
theorem aKc (p:aJ) (m:Int) (a b:Str) (n:Int): -1≤(fT p m a b n).2∧(fT p m a b n).2≤(p.slots.length:Int):=by
 unfold fT
 split
 ·simp only;omega
 ·split<;>(simp only;omega)
theorem aIj [aA Tryz.prog] (p:aJ) (k:Nat) (nd:dA) (hk:k < p.builder.nodes.length) (hg:p.builder.nodes[k]? =some nd) (hs:aD p≤268435456):OkG Tryz.prog 190 [.give (.agg (aG .own p)),.view (.int .i64 ((k:Nat):Int))] (.agg (aG .own (oU p k nd.attrs))):=by
 have hns:dW nd≤268435456:=by
  have h1:=bV dW (List.mem_of_getElem? hg)
  simp only [aD,aI,szL] at hs;omega
 obtain ⟨nn,ntx,np,ta⟩:=nd
 have hta:ta.length+aC eQ ta≤268435456:=by simp only [dW,szL] at hns;omega
 have z1:=gX ta bW
 have z3:=gX ta fV
 have c1:=kJ ta bW (by omega)
 have c2:=kJ ta aAc (by omega)
 have c3:=kJ ta fV (by omega)
 have c4:=kJ ta wZ (by omega)
 have c5:=aEu p.policy (aN ta wZ).1
 have a4:=tL p 4 (aN ta fV).1 (aN ta bW).1 ((k:Nat):Int) (by omega) (by omega) (by omega)
 have a3:=tL p 3 (aN ta fV).1 (aN ta bW).1 ((k:Nat):Int) (by omega) (by omega) (by omega)
 have a5:=aJw p (aN ta fV).1 hs (by omega)
 have hrg:=aKc p 3 (aN ta fV).1 (aN ta bW).1 ((k:Nat):Int)
 have hsl:p.slots.length≤268435456:=by simp only [aD,szL] at hs;omega
 simp only [oU]
 generalize fT p 4 (aN ta fV).1 (aN ta bW).1 ((k:Nat):Int)=g4 at *
 generalize fT p 3 (aN ta fV).1 (aN ta bW).1 ((k:Nat):Int)=g3 at *
 generalize rO p (aN ta fV).1=g5 at *
 simp only [aG] at a3 a4 a5
 simp only [bJ] at c5
 clear z1 z3
 generalize aN ta bW=fd at *
 generalize aN ta aAc=fk at *
 generalize aN ta fV=fs at *
 generalize aN ta wZ=fn at *
 obtain ⟨dv,db⟩:=fd
 obtain ⟨kv,kb⟩:=fk
 obtain ⟨sv,sbb⟩:=fs
 obtain ⟨nv,nb⟩:=fn
 obtain ⟨g3p,g3k⟩:=g3
 simp only [bW] at c1
 simp only [aAc] at c2
 simp only [fV] at c3
 simp only [wZ] at c4
 simp only at hrg c5
 generalize oC p.policy nv=al at *
 have hw:IntKind.i64.wrap (g3k+1)=g3k+1:=by rw [wrap64]<;>omega
 cases sbb
 ·rw [if_pos rfl]
  cases al
  ·rw [if_neg (by simp)]
   refine iE Tryz.mix Tryz.func190 Tryz.ntmps190 ?_
   have W:=hg
   have V:=hk
   repeat' first|refine we ?_|(refine sq (fun hc=>?_) (fun hc=>?_)<;>try exact hc.elim)|fail
   all_goals (try (refine ⟨by first|exact .inr rfl|exact .inl rfl,?_⟩;simp [dK,bQ,bN,rowOf,Tryz.results190]))
  ·rw [if_pos rfl]
   refine iE Tryz.mix Tryz.func190 Tryz.ntmps190 ?_
   have W:=hg
   have V:=hk
   repeat' first|refine we ?_|(refine sq (fun hc=>?_) (fun hc=>?_)<;>try exact hc.elim)|fail
   all_goals (try (refine ⟨by first|exact .inr rfl|exact .inl rfl,?_⟩;simp [dK,bQ,bN,rowOf,Tryz.results190]))
 ·rw [if_neg (by simp)]
  by_cases h1:kv=aA5
  ·rw [if_pos h1]
   have h1b:(kv == [100,101,102,101,114])=true:=by simpa [aA5] using h1
   refine iE Tryz.mix Tryz.func190 Tryz.ntmps190 ?_
   have W:=And.intro hg h1b
   have V:=hk
   repeat' first|refine we ?_|(refine sq (fun hc=>?_) (fun hc=>?_)<;>try exact hc.elim)|fail
   all_goals (try (refine ⟨by first|exact .inr rfl|exact .inl rfl,?_⟩;simp [dK,bQ,bN,rowOf,Tryz.results190]))
  ·rw [if_neg h1]
   have h1b:(kv == [100,101,102,101,114])=false:=by simpa [aA5] using h1
   by_cases h2:kv=vN
   ·rw [if_pos h2]
    have h2b:(kv == [109,111,100,117,108,101])=true:=by simpa [vN] using h2
    refine iE Tryz.mix Tryz.func190 Tryz.ntmps190 ?_
    have W:=And.intro hg (And.intro h1b h2b)
    have V:=hk
    repeat' first|refine we ?_|(refine sq (fun hc=>?_) (fun hc=>?_)<;>try exact hc.elim)|fail
    all_goals (try (refine ⟨by first|exact .inr rfl|exact .inl rfl,?_⟩;simp [dK,bQ,bN,rowOf,Tryz.results190]))
   ·rw [if_neg h2]
    have h2b:(kv == [109,111,100,117,108,101])=false:=by simpa [vN] using h2
    refine iE Tryz.mix Tryz.func190 Tryz.ntmps190 ?_
    have W:=And.intro hg (And.intro h1b (And.intro h2b hw))
    have V:=hk
    repeat' first|refine we ?_|(refine sq (fun hc=>?_) (fun hc=>?_)<;>try exact hc.elim)|fail
    all_goals (try (refine ⟨by first|exact .inr rfl|exact .inl rfl,?_⟩;simp [dK,bQ,bN,rowOf,Tryz.results190]))
theorem aIl [aA Tryz.prog] (p:aJ) (k:Nat) (nd:dA) (hk:k < p.builder.nodes.length) (hg:p.builder.nodes[k]? =some nd) (hs:aD p≤268435456):OkG Tryz.prog 187 [.give (.agg (aG .own p)),.view (.int .i64 ((k:Nat):Int))] (.agg (aG .own (oU p k nd.attrs))):=by
 have hns:dW nd≤268435456:=by
  have h1:=bV dW (List.mem_of_getElem? hg)
  simp only [aD,aI,szL] at hs;omega
 obtain ⟨nn,ntx,np,ta⟩:=nd
 have hta:ta.length+aC eQ ta≤268435456:=by simp only [dW,szL] at hns;omega
 have z1:=gX ta bW
 have z3:=gX ta fV
 have c1:=jO ta bW (by omega)
 have c2:=jO ta aAc (by omega)
 have c3:=jO ta fV (by omega)
 have c4:=jO ta wZ (by omega)
 have c5:=aEw p.policy (aN ta wZ).1
 have a4:=tN p 4 (aN ta fV).1 (aN ta bW).1 ((k:Nat):Int) (by omega) (by omega) (by omega)
 have a3:=tN p 3 (aN ta fV).1 (aN ta bW).1 ((k:Nat):Int) (by omega) (by omega) (by omega)
 have a5:=aJm p (aN ta fV).1 hs (by omega)
 have hrg:=aKc p 3 (aN ta fV).1 (aN ta bW).1 ((k:Nat):Int)
 have hsl:p.slots.length≤268435456:=by simp only [aD,szL] at hs;omega
 simp only [oU]
 generalize fT p 4 (aN ta fV).1 (aN ta bW).1 ((k:Nat):Int)=g4 at *
 generalize fT p 3 (aN ta fV).1 (aN ta bW).1 ((k:Nat):Int)=g3 at *
 generalize rO p (aN ta fV).1=g5 at *
 simp only [aG] at a3 a4 a5
 simp only [bJ] at c5
 clear z1 z3
 generalize aN ta bW=fd at *
 generalize aN ta aAc=fk at *
 generalize aN ta fV=fs at *
 generalize aN ta wZ=fn at *
 obtain ⟨dv,db⟩:=fd
 obtain ⟨kv,kb⟩:=fk
 obtain ⟨sv,sbb⟩:=fs
 obtain ⟨nv,nb⟩:=fn
 obtain ⟨g3p,g3k⟩:=g3
 simp only [bW] at c1
 simp only [aAc] at c2
 simp only [fV] at c3
 simp only [wZ] at c4
 simp only at hrg c5
 generalize oC p.policy nv=al at *
 have hw:IntKind.i64.wrap (g3k+1)=g3k+1:=by rw [wrap64]<;>omega
 cases sbb
 ·rw [if_pos rfl]
  cases al
  ·rw [if_neg (by simp)]
   refine iE Tryz.mix Tryz.func187 Tryz.ntmps187 ?_
   have W:=hg
   have V:=hk
   repeat' first|refine we ?_|(refine sq (fun hc=>?_) (fun hc=>?_)<;>try exact hc.elim)|fail
   all_goals (try (refine ⟨by first|exact .inr rfl|exact .inl rfl,?_⟩;simp [dK,bQ,bN,rowOf,Tryz.results187]))
  ·rw [if_pos rfl]
   refine iE Tryz.mix Tryz.func187 Tryz.ntmps187 ?_
   have W:=hg
   have V:=hk
   repeat' first|refine we ?_|(refine sq (fun hc=>?_) (fun hc=>?_)<;>try exact hc.elim)|fail
   all_goals (try (refine ⟨by first|exact .inr rfl|exact .inl rfl,?_⟩;simp [dK,bQ,bN,rowOf,Tryz.results187]))
 ·rw [if_neg (by simp)]
  by_cases h1:kv=aA5
  ·rw [if_pos h1]
   have h1b:(kv == [100,101,102,101,114])=true:=by simpa [aA5] using h1
   refine iE Tryz.mix Tryz.func187 Tryz.ntmps187 ?_
   have W:=And.intro hg h1b
   have V:=hk
   repeat' first|refine we ?_|(refine sq (fun hc=>?_) (fun hc=>?_)<;>try exact hc.elim)|fail
   all_goals (try (refine ⟨by first|exact .inr rfl|exact .inl rfl,?_⟩;simp [dK,bQ,bN,rowOf,Tryz.results187]))
  ·rw [if_neg h1]
   have h1b:(kv == [100,101,102,101,114])=false:=by simpa [aA5] using h1
   by_cases h2:kv=vN
   ·rw [if_pos h2]
    have h2b:(kv == [109,111,100,117,108,101])=true:=by simpa [vN] using h2
    refine iE Tryz.mix Tryz.func187 Tryz.ntmps187 ?_
    have W:=And.intro hg (And.intro h1b h2b)
    have V:=hk
    repeat' first|refine we ?_|(refine sq (fun hc=>?_) (fun hc=>?_)<;>try exact hc.elim)|fail
    all_goals (try (refine ⟨by first|exact .inr rfl|exact .inl rfl,?_⟩;simp [dK,bQ,bN,rowOf,Tryz.results187]))
   ·rw [if_neg h2]
    have h2b:(kv == [109,111,100,117,108,101])=false:=by simpa [vN] using h2
    refine iE Tryz.mix Tryz.func187 Tryz.ntmps187 ?_
    have W:=And.intro hg (And.intro h1b (And.intro h2b hw))
    have V:=hk
    repeat' first|refine we ?_|(refine sq (fun hc=>?_) (fun hc=>?_)<;>try exact hc.elim)|fail
    all_goals (try (refine ⟨by first|exact .inr rfl|exact .inl rfl,?_⟩;simp [dK,bQ,bN,rowOf,Tryz.results187]))
theorem aJj {α:Type} (f:α→Nat):∀a b:List α,aC f (a++b)=aC f a+aC f b
 |[],b=>by simp [aC]
 |x::xs,b=>by simp only [List.cons_append,aC,aJj f xs b];omega
def mD (b:aS) (t:aW):Option Nat:=
 if t.kind=2∧t.name=eU then
  match b.opens.getLast? with
  |some n=>if 1≤n∧(b.nodes[n.toNat]?).any (fun x=>decide (x.name=eU))=true then some n.toNat else none
  |none=>none
 else none
def gI (p:aJ) (t:aW) (q:List aW):aJ:=
 match mD p.builder t with
 |some k=>oU {p with queue:=q,builder:=(bL p.builder t).1} k ((p.builder.nodes[k]?).elim [] (·.attrs))
 |none=>if t.kind=1∧0≤(bL p.builder t).2 then uL {p with queue:=q,builder:=(bL p.builder t).1} t (bL p.builder t).2 else {p with queue:=q,builder:=(bL p.builder t).1}
def gH (p:aJ):aJ×Bool:=match p.queue with
 |[]=>(p,false)
 |t::q=>if p.block=0∧p.inline=0 then (gI p t q,true) else (p,false)
theorem aUw (b:aS) (t:aW):aI (bL b t).1≤aI b+aV t+2:=by
 unfold bL
 split
 ·have:=aHp b t.name (b.opens.length - 1)
  simp only [aI,szL] at this⊢
  omega
 ·split
  ·simp only;omega
  ·split
   ·simp only;omega
   ·have h1:dW (oP b t)≤aV t:=by
     unfold oP
     split<;>simp only [dW,aV,szL,List.length_nil,aC]<;>omega
    have h2:(if jK t=true then b.opens++[((b.nodes.length:Nat):Int)] else b.opens).length≤b.opens.length+1:=by split<;>simp
    simp only [aI,szL,List.length_append,aJj,aC,List.length_cons,List.length_nil] at h1 h2⊢
    omega
theorem nI {p:aJ} {t:aW} {q:List aW} (h:p.queue=t::q):aD {p with queue:=q,builder:=(bL p.builder t).1}≤aD p+2:=by
 have h1:=aUw p.builder t
 simp only [aD,h,szL,aC,List.length_cons] at h1⊢
 omega
theorem lW {b:aS} {t:aW} (h:t.kind=2):(bL b t).2= -1∧(bL b t).1.nodes=b.nodes:=by rw [xO h];exact ⟨rfl,rfl⟩
theorem uK {b:aS} {t:aW} (h:¬(t.kind=2∧t.name=eU)):mD b t=none:=by unfold mD;rw [if_neg h]
theorem aEz {b:aS} {t:aW} (h:b.opens=[]):mD b t=none:=by unfold mD;rw [h];split<;>rfl
theorem wN {b:aS} {t:aW} {os:List Int} {k:Nat} (h1:t.kind=2) (h2:t.name=eU) (h:b.opens=os++[((k:Nat):Int)]) (hk:1≤k) {nd:dA} (hg:b.nodes[k]? =some nd) (hn:nd.name=eU):mD b t=some k:=by
 unfold mD
 rw [if_pos ⟨h1,h2⟩,h,List.getLast?_concat]
 simp only
 rw [if_pos ⟨by omega,by rw [Int.toNat_natCast,hg];simpa using hn⟩]
 simp
def stepBlock (p:aJ) (k:Int):aJ×Bool:=
 if 0≤k then match p.slots[k.toNat]? with
  |some s=>if s.done=true∧p.slots.all jR=true then ({(if s.code=1 then jQ p s.body true else p) with block:=0},true) else (p,false)
  |none=>({p with block:=0},true)
 else ({p with block:=0},true)
def nP (p:aJ):aJ×Bool:=
 if p.inline≠0 then (if p.slots.all jR=true then ({jQ p (textOf p.builder p.inline) true with inline:=0},true) else (p,false))
 else if p.block≠0 then stepBlock p (IntKind.i64.wrap (p.block - 1))
 else gH p
theorem aI6 {α:Type} (f:α→Nat):∀{l:List α} {x:α},x∈l→f x≤aC f l
 |y::l,x,h=>by
  rcases List.mem_cons.1 h with rfl|h
  ·simp only [aC];omega
  ·have:=aI6 f h;simp only [aC];omega
end Go.Proofs.YtlnblmmohpcceaaGreatDoor
