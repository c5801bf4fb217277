/-
  Proved here: steps towards the statement of this claim, text I4.
  No condition beyond what each statement spells out.
-/
import Derived.Test.YtejigeoigebhcaaGreatAQPL
import Derived.Test.YtejigeoigebhcaaGreatAQI3
import Derived.Test.YtejigeoigebhcaaGreatAF8
set_option linter.all false
set_option maxRecDepth 4000
set_option maxHeartbeats 4000000
namespace Go.Proofs.YtejigeoigebhcaaGreat
open Go.Aw
theorem aDk {p:aS} {a:aP} {m:bT} (h:p.mods[dA p.mods a]? =some m) (hm:m.to=a):bJ p a=p:=by
 unfold bJ;rw [h];simp [hm]
theorem zD {p:aS} {a:aP} (h:∀m,p.mods[dA p.mods a]? =some m→m.to≠a):bJ p a={p with mods:=eZ p a (dA p.mods a)}:=by
 unfold bJ
 split
 ·rename_i m hm
  rw [if_neg (h m hm)]
 ·rfl
theorem nE [aB Tryz.prog] (p:aS) (a:aP) (hs:aJ p≤137438953472) (ha:bG a≤1073741824):Ok Tryz.prog 12 [.agg (aR .view p),.agg (aO a)] (.agg (aR .own (bJ p a))):=by
 have c1:=uR p (by omega)
 have hsn:p.mods.length≤274877906944:=by simp only [aJ,szL] at hs;omega
 have hpol:bE p.policy≤274877906944:=by simp only [aJ] at hs;omega
 have cc:=fun b=>oO b a
 simp only [aR] at c1
 simp only [aO] at cc
 have cK:=jF p.policy ⟨5,a,p.addr.host,[]⟩ (by omega) (by simp only [fF,List.length_nil];simp only [aJ,bG] at hs;omega)
 simp only [bD,dH] at cK
 refine ent Tryz.mix Tryz.func12 Tryz.ntmps12 ?_
 have W:=trivial
 repeat' first|refine st ?_|(refine nx ?_;first|refine se ?_|refine so ?_)|(refine cx ?_;refine sc (fun hc=>?_) (fun hc=>?_)<;>try exact hc.elim)|(refine lx ?_;refine sp (fun hc=>?_) (fun hc=>?_)<;>try exact hc.elim)|refine sx ?_ ?_|refine sy ?_ ?_|fail
 refine aQ (ι:={k:Nat // k≤p.mods.length∧∀x∈p.mods.take k,cmpAddr x.to a < 0}) (fun t o i=>⟨bB t [(6,.int .i64 i.1)],o⟩)
  (fun i=>p.mods.length - i.1) ⟨0,by simp,by simp⟩ (aY (by simp) (by simp)) ?_
 rintro ⟨k,hk,hpre⟩ K1 hK1
 simp only [bB,List.set_cons_succ,List.set_cons_zero] at hK1⊢
 have hk1:IntKind.i64.wrap ((k:Int)+1)=((k+1:Nat):Int):=by rw [wrap64]<;>omega
 by_cases hlt:k < p.mods.length
 ·have hg:=List.getElem?_eq_getElem hlt
  have c2:=cc p.mods[k].to
  by_cases hcm:cmpAddr p.mods[k].to a < 0
  ·have hnx:∀x∈p.mods.take (k+1),cmpAddr x.to a < 0:=by
    intro x hx
    rw [List.take_succ_eq_append_getElem hlt,List.mem_append] at hx
    rcases hx with h|h
    ·exact hpre x h
    ·simp at h;subst h;exact hcm
   have W:=And.intro hk1 (And.intro hg (And.intro hlt hcm))
   repeat' first|refine st ?_|(refine nx ?_;first|refine se ?_|refine so ?_)|(refine cx ?_;refine sc (fun hc=>?_) (fun hc=>?_)<;>try exact hc.elim)|(refine lx ?_;refine sp (fun hc=>?_) (fun hc=>?_)<;>try exact hc.elim)|refine sx ?_ ?_|refine sy ?_ ?_|fail
   exact hK1 _ ⟨k+1,by omega,hnx⟩ (aY (by simp) (by simp)) (by simp only;omega)
  ·have hat:dA p.mods a=k:=oQ hk hpre (fun m hm=>by rw [hg] at hm;obtain rfl:=Option.some.inj hm;exact hcm)
   by_cases hto:p.mods[k].to=a
   ·rw [aDk (by rw [hat];exact hg) hto]
    have ce:=lD p.mods[k].to a
    rw [decide_eq_true hto] at ce
    simp only [aO] at ce
    have W:=And.intro hk1 (And.intro hg (And.intro hlt hcm))
    have c0:=ce
    repeat' first|refine st ?_|(refine nx ?_;first|refine se ?_|refine so ?_)|(refine cx ?_;refine sc (fun hc=>?_) (fun hc=>?_)<;>try exact hc.elim)|(refine lx ?_;refine sp (fun hc=>?_) (fun hc=>?_)<;>try exact hc.elim)|refine sx ?_ ?_|refine sy ?_ ?_|fail
    all_goals (try (refine ⟨.inr rfl,?_⟩;simp [Hands,Tryz.results12]))
   ·have hno:∀m,p.mods[dA p.mods a]? =some m→m.to≠a:=fun m hm=>by rw [hat,hg] at hm;obtain rfl:=Option.some.inj hm;exact hto
    have ce:=lD p.mods[k].to a
    rw [decide_eq_false hto] at ce
    simp only [aO] at ce
    rw [zD hno,hat]
    unfold eZ lL
    have hkt:(p.mods.take k).length=k:=by simp;omega
    obtain ⟨m0,hm0⟩:∃m:bT,m=⟨a,false,0,[]⟩:=⟨_,rfl⟩
    obtain ⟨L1,hL1⟩:∃l,l=p.mods.take k++m0::p.mods.drop k:=⟨_,rfl⟩
    obtain ⟨L3,hL3⟩:∃l:List bT,l=p.mods.take k++⟨a,true,2,[]⟩::p.mods.drop k:=⟨_,rfl⟩
    have hln:L1.length=p.mods.length+1:=by rw [hL1];simp;omega
    have hg1:L1[k]? =some m0:=by rw [hL1,List.getElem?_append_right (by omega),hkt];simp
    have hlt1:k < L1.length:=by omega
    have cI:=aD1 p.mods m0 k hk (by omega)
    rw [←hL1,hm0] at cI
    have cR:=mK {p with mods:=L1} k (by omega) (by simp only;omega) (by simp only;omega)
    rw [show oC {p with mods:=L1} (k:Int)=⟨5,a,p.addr.host,[]⟩ by simp only [oC,Int.toNat_natCast,hg1,jB,hm0]] at cR
    have hset:∀h,(L1.map bL).set k [.str (L1[k]'h).to.host,.str (L1[k]'h).to.path,.bool true,.int .i64 2,.str (L1[k]'h).body]=L3.map bL:=by
     intro h
     have e:L1[k]'h=m0:=by rw [List.getElem?_eq_getElem h] at hg1;exact Option.some.inj hg1
     rw [e,hL1,hL3,hm0,List.map_append,List.map_append,List.set_append_right _ _ (by simp;omega),show k - ((p.mods.take k).map bL).length=0 by rw [List.length_map,hkt,Nat.sub_self]]
     simp
    simp only [aR,dH,bL] at cI cR
    by_cases hck:bR p.policy ⟨5,a,p.addr.host,[]⟩=1
    ·simp only [hck,if_true]
     rw [←hm0,←hL1]
     rw [hck] at cK
     clear hL1 hL3 hm0
     clear hset
     have W:=And.intro hk1 (And.intro hg (And.intro hlt hcm))
     have c0:=ce
     repeat' first|refine st ?_|(refine nx ?_;first|refine se ?_|refine so ?_|refine sg (hc:=cI) (h:=?_))|(refine cx ?_;refine sc (fun hc=>?_) (fun hc=>?_)<;>try exact hc.elim)|(refine lx ?_;refine sp (fun hc=>?_) (fun hc=>?_)<;>try exact hc.elim)|refine sx ?_ ?_|refine sy ?_ ?_|fail
     have W:=And.intro hlt1 hg1
     repeat' first|refine st ?_|(refine nx ?_;first|refine se ?_|refine so ?_)|(refine cx ?_;refine sc (fun hc=>?_) (fun hc=>?_)<;>try exact hc.elim)|(refine lx ?_;refine sp (fun hc=>?_) (fun hc=>?_)<;>try exact hc.elim)|refine sx ?_ ?_|refine sy ?_ ?_|fail
     all_goals (try (refine ⟨.inr rfl,?_⟩;simp [Hands,Tryz.results12]))
    ·simp only [hck,if_false]
     rw [←hL3]
     clear hL1 hL3 hm0
     have W:=And.intro hk1 (And.intro hg (And.intro hlt hcm))
     have c0:=ce
     repeat' first|refine st ?_|(refine nx ?_;first|refine se ?_|refine so ?_|refine sg (hc:=cI) (h:=?_))|(refine cx ?_;refine sc (fun hc=>?_) (fun hc=>?_)<;>try exact hc.elim)|(refine lx ?_;refine sp (fun hc=>?_) (fun hc=>?_)<;>try exact hc.elim)|refine sx ?_ ?_|refine sy ?_ ?_|fail
     have W:=And.intro hlt1 (And.intro hg1 hck)
     repeat' first|refine st ?_|(refine nx ?_;first|refine se ?_|refine so ?_)|(refine cx ?_;refine sc (fun hc=>?_) (fun hc=>?_)<;>try exact hc.elim)|(refine lx ?_;refine sp (fun hc=>?_) (fun hc=>?_)<;>try exact hc.elim)|refine sx ?_ ?_|refine sy ?_ ?_|fail
     all_goals (try (refine ⟨.inr rfl,?_⟩;simp [Hands,Tryz.results12]))
     all_goals exact hset _
 ·have hat:dA p.mods a=k:=oQ hk hpre (fun m hm=>by rw [List.getElem?_eq_none (by omega)] at hm;cases hm)
  have hno:∀m,p.mods[dA p.mods a]? =some m→m.to≠a:=fun m hm=>by rw [hat,List.getElem?_eq_none (by omega)] at hm;cases hm
  rw [zD hno,hat]
  unfold eZ lL
  have hkt:(p.mods.take k).length=k:=by simp;omega
  obtain ⟨m0,hm0⟩:∃m:bT,m=⟨a,false,0,[]⟩:=⟨_,rfl⟩
  obtain ⟨L1,hL1⟩:∃l,l=p.mods.take k++m0::p.mods.drop k:=⟨_,rfl⟩
  obtain ⟨L3,hL3⟩:∃l:List bT,l=p.mods.take k++⟨a,true,2,[]⟩::p.mods.drop k:=⟨_,rfl⟩
  have hln:L1.length=p.mods.length+1:=by rw [hL1];simp;omega
  have hg1:L1[k]? =some m0:=by rw [hL1,List.getElem?_append_right (by omega),hkt];simp
  have hlt1:k < L1.length:=by omega
  have cI:=aD1 p.mods m0 k hk (by omega)
  rw [←hL1,hm0] at cI
  have cR:=mK {p with mods:=L1} k (by omega) (by simp only;omega) (by simp only;omega)
  rw [show oC {p with mods:=L1} (k:Int)=⟨5,a,p.addr.host,[]⟩ by simp only [oC,Int.toNat_natCast,hg1,jB,hm0]] at cR
  have hset:∀h,(L1.map bL).set k [.str (L1[k]'h).to.host,.str (L1[k]'h).to.path,.bool true,.int .i64 2,.str (L1[k]'h).body]=L3.map bL:=by
   intro h
   have e:L1[k]'h=m0:=by rw [List.getElem?_eq_getElem h] at hg1;exact Option.some.inj hg1
   rw [e,hL1,hL3,hm0,List.map_append,List.map_append,List.set_append_right _ _ (by simp;omega),show k - ((p.mods.take k).map bL).length=0 by rw [List.length_map,hkt,Nat.sub_self]]
   simp
  simp only [aR,dH,bL] at cI cR
  by_cases hck:bR p.policy ⟨5,a,p.addr.host,[]⟩=1
  ·simp only [hck,if_true]
   rw [←hm0,←hL1]
   rw [hck] at cK
   clear hL1 hL3 hm0
   clear hset
   have W:=And.intro hk1 hlt
   repeat' first|refine st ?_|(refine nx ?_;first|refine se ?_|refine so ?_|refine sg (hc:=cI) (h:=?_))|(refine cx ?_;refine sc (fun hc=>?_) (fun hc=>?_)<;>try exact hc.elim)|(refine lx ?_;refine sp (fun hc=>?_) (fun hc=>?_)<;>try exact hc.elim)|refine sx ?_ ?_|refine sy ?_ ?_|fail
   have W:=And.intro hlt1 hg1
   repeat' first|refine st ?_|(refine nx ?_;first|refine se ?_|refine so ?_)|(refine cx ?_;refine sc (fun hc=>?_) (fun hc=>?_)<;>try exact hc.elim)|(refine lx ?_;refine sp (fun hc=>?_) (fun hc=>?_)<;>try exact hc.elim)|refine sx ?_ ?_|refine sy ?_ ?_|fail
   all_goals (try (refine ⟨.inr rfl,?_⟩;simp [Hands,Tryz.results12]))
  ·simp only [hck,if_false]
   rw [←hL3]
   clear hL1 hL3 hm0
   have W:=And.intro hk1 hlt
   repeat' first|refine st ?_|(refine nx ?_;first|refine se ?_|refine so ?_|refine sg (hc:=cI) (h:=?_))|(refine cx ?_;refine sc (fun hc=>?_) (fun hc=>?_)<;>try exact hc.elim)|(refine lx ?_;refine sp (fun hc=>?_) (fun hc=>?_)<;>try exact hc.elim)|refine sx ?_ ?_|refine sy ?_ ?_|fail
   have W:=And.intro hlt1 (And.intro hg1 hck)
   repeat' first|refine st ?_|(refine nx ?_;first|refine se ?_|refine so ?_)|(refine cx ?_;refine sc (fun hc=>?_) (fun hc=>?_)<;>try exact hc.elim)|(refine lx ?_;refine sp (fun hc=>?_) (fun hc=>?_)<;>try exact hc.elim)|refine sx ?_ ?_|refine sy ?_ ?_|fail
   all_goals (try (refine ⟨.inr rfl,?_⟩;simp [Hands,Tryz.results12]))
   all_goals exact hset _
end Go.Proofs.YtejigeoigebhcaaGreat
