/-
  Proved here: steps towards the statement of this claim, text QSFA.
  No condition beyond what each statement spells out.
-/
import Derived.Test.YtgkllebnnakojaaGreatDoorQMD1
import Derived.Test.YtgkllebnnakojaaGreatDoorQPL
import Derived.Test.YtgkllebnnakojaaGreatDoorQAS0
import Derived.Test.YtgkllebnnakojaaGreatDoorQ2
import Derived.Test.YtgkllebnnakojaaGreatDoorQDR1
import Derived.Test.YtgkllebnnakojaaGreatDoorF4
set_option linter.all false
set_option maxRecDepth 8000
set_option maxHeartbeats 4000000
namespace Go.Proofs.YtgkllebnnakojaaGreatDoor
open Go.Aw Go.Sort Go.Shelf Go.RowKit Go.Lib
theorem aF6 (a b:aC):ltOf cmpAddr a b=jC a b:=by
 unfold ltOf
 cases h:jC a b
 ·rw [decide_eq_false_iff_not,aBz,h];simp
 ·rw [decide_eq_true_iff,aBz,h]
theorem aWe:SWO (ltOf cmpAddr):=by
 refine ⟨fun x=> ?_,fun x y z h1 h2=> ?_,fun x y z h1 h2=> ?_⟩
 ·rw [aF6];exact nS x
 ·rw [aF6] at *;exact oH h1 h2
 ·rw [aF6] at *
  by_cases e1:x=y
  ·rw [e1];exact h2
  ·by_cases e2:y=z
   ·rw [←e2];exact h1
   ·have h3:=oH (aAi e2 h2) (aAi e1 h1)
    cases h4:jC x z
    ·rfl
    ·have:=oH h4 h3
     rw [nS] at this;cases this
def uG (l:List aC):List aC:=(pdq (ltOf cmpAddr) l.toArray 0 l.toArray.size (Lib.bitLen l.toArray.size) true true).toList
theorem aEy (l:List aC):(uG l).Perm l:=by
 have h:=(pdq_sorts (ltOf cmpAddr) aWe l.toArray 0 l.toArray.size (Lib.bitLen l.toArray.size) true true (Nat.zero_le _) (Nat.le_refl _) (Or.inl rfl)).1
 unfold uG
 generalize pdq (ltOf cmpAddr) l.toArray 0 l.toArray.size (Lib.bitLen l.toArray.size) true true=d at h
 obtain ⟨h1,_,h3⟩:=h
 rw [←h1] at h3
 simp only [Array.extract_size] at h3
 rw [h1] at h3
 simpa using h3
theorem aA7 (l:List aC):(uG l).length=l.length:=(aEy l).length_eq
theorem aS0 (x:aC):∀v∈iR x,v.oneCell'=true:=by
 intro v hv
 simp only [iR,List.mem_cons,List.not_mem_nil,or_false] at hv
 rcases hv with rfl|rfl<;>rfl
set_option maxHeartbeats 4000000 in
theorem aO6 (x y:aC) (W:World):Calls Tryz.prog 24 #[.agg (iR x).toArray,.agg (iR y).toArray] W fun e w'=>e= .returned (.int .i64 (cmpAddr x y))∧∃q os',w'=grow (W.drewN q) os':=by
 have c1:=fun W'=>Any.strings_Compare Tryz.Laysx106 ⟨x.host.toArray⟩ ⟨y.host.toArray⟩ W'
 have c2:=fun W'=>Any.strings_Compare Tryz.Laysx106 ⟨x.path.toArray⟩ ⟨y.path.toArray⟩ W'
 change∀W',Calls Tryz.prog 48 _ _ _ at c1 c2
 unfold cmpAddr
 simp only [List.toList_toArray] at c1 c2
 generalize Lib.compareBytes x.host y.host=r at *
 generalize Lib.compareBytes x.path y.path=s at *
 simp only [iR,encStr]
 by_cases hr:r=0
 ·subst hr
  go_enter Tryz.func24,Tryz.ntmps24
  go_wp2_with (go_at_call 48;first|(refine (c1 _).mono ?_;rintro e w' ⟨rfl,rfl⟩)|(refine (c2 _).mono ?_;rintro e w' ⟨rfl,rfl⟩))
  go_ret
  exact ⟨rfl,0,_,by rw [alloc_eq_grow,alloc_eq_grow,grow_grow];rfl⟩
 ·rw [if_pos hr]
  go_enter Tryz.func24,Tryz.ntmps24
  go_wp2_with (go_at_call 48;first|(refine (c1 _).mono ?_;rintro e w' ⟨rfl,rfl⟩)|(refine (c2 _).mono ?_;rintro e w' ⟨rfl,rfl⟩))
  all_goals first
   |(go_ret;exact ⟨rfl,0,_,by rw [alloc_eq_grow,alloc_eq_grow,grow_grow];rfl⟩)
   |(exfalso;simp_all)
theorem aS6 [aB Tryz.prog] (l:List aC) (hl:l.length < 4611686018427387904):OkM Tryz.prog 23 (.sl .own 2 (l.map aD)) (.sl .own 2 ((uG l).map aD)) [.fn 24 []] (.tup []):=by
 have eg:∀args w,(callFunc 24 args).run Tryz.prog w= .ok (.enter 24 args) w:=enters_of Tryz.func24 (by kernel_rfl) rfl
 refine aQl aA7 (fun b off cap zs w hH hb hz=> ?_) (fun p cap w=>AnyF.slices_SortFunc_none Tryz.sortAd p cap _ w) l hl
 have h:=AnyQ.slices_SortFunc_eq Tryz.sortAd 2 Tryz.isAgg25 Tryz.sizeOf25 iR (fun _=>rfl) aS0 cmpAddr aWe 24 #[] b off cap zs.toArray w eg (fun _ _ _ _ x y=>aO6 x y _) hH hb hz
 unfold uG
 simpa using h
theorem aL4 [aB Tryz.prog] (l:List aC) (hl:l.length≤1099511627776) (hd:l.Nodup):OkG Tryz.prog 25 [.give (.sl .own 2 (l.map aD))] (.sl .own 2 (l.map aD)):=by
 refine xG Tryz.mix Tryz.func25 Tryz.ntmps25 ?_
 by_cases h2:l.length < 2
 ·have h2i:(l.length:Int) < 2:=by omega
  have W:=h2i
  repeat' first|refine st ?_|(refine nx ?_;refine so ?_)|(refine cx ?_;refine sc (fun hc=>?_) (fun hc=>?_)<;>try exact hc.elim)|(refine lx ?_;refine sp (fun hc=>?_) (fun hc=>?_)<;>try exact hc.elim)|refine sx ?_ ?_|refine sy ?_ ?_|fail
  all_goals (try (refine ⟨by first|exact .inr rfl|exact .inl rfl,?_⟩;simp [mP,iF,gN,rowOf,Tryz.results25]))
 ·have h2i:¬(l.length:Int) < 2:=by omega
  have W:=h2i
  repeat' first|refine st ?_|(refine nx ?_;refine so ?_)|(refine cx ?_;refine sc (fun hc=>?_) (fun hc=>?_)<;>try exact hc.elim)|(refine lx ?_;refine sp (fun hc=>?_) (fun hc=>?_)<;>try exact hc.elim)|refine sx ?_ ?_|refine sy ?_ ?_|fail
  refine aT (ι:={k:Nat // 1≤k∧k≤l.length}) (fun t o k=>⟨bB t [(3,.int .i64 k.1)],o⟩) (fun k=>l.length - k.1) ⟨1,by omega,by omega⟩ (aI (by simp) (by simp)) ?_
  rintro ⟨k,hk0,hk⟩ K1 hK1
  simp only [bB,List.set_cons_succ,List.set_cons_zero] at hK1⊢
  have hk1:IntKind.i64.wrap ((k:Int)+1)=((k+1:Nat):Int):=by rw [Go.Aw.wrap64]<;>omega
  have hkm:IntKind.i64.wrap ((k:Int) - 1)=((k - 1:Nat):Int):=by rw [Go.Aw.wrap64]<;>omega
  by_cases hlt:k < l.length
  ·have hli:(k:Int) < (l.length:Int):=by omega
   have hlj:((k - 1:Nat):Int) < (l.length:Int):=by omega
   obtain ⟨x,hgx⟩:∃x,l[k]? =some x:=⟨_,List.getElem?_eq_getElem hlt⟩
   obtain ⟨y,hgy⟩:∃y,l[k - 1]? =some y:=⟨_,List.getElem?_eq_getElem (by omega)⟩
   have hne:x≠y:=fun e=>by
    rw [e] at hgx
    have:=(List.getElem?_inj hlt hd).1 (hgx.trans hgy.symm)
    omega
   have he:=lW x y
   rw [decide_eq_false hne] at he
   simp only [aD] at he
   clear hlt
   have W:=And.intro hli (And.intro hlj (And.intro hkm (And.intro hk1 (And.intro hgx hgy))))
   have c0:=he
   repeat' first|refine st ?_|(refine nx ?_;refine so ?_)|(refine cx ?_;refine sc (fun hc=>?_) (fun hc=>?_)<;>try exact hc.elim)|(refine lx ?_;refine sp (fun hc=>?_) (fun hc=>?_)<;>try exact hc.elim)|refine sx ?_ ?_|refine sy ?_ ?_|fail
   exact hK1 _ ⟨k+1,by omega,by omega⟩ (aI (by simp) (by simp)) (by simp only;omega)
  ·have hli:¬(k:Int) < (l.length:Int):=by omega
   have W:=hli
   repeat' first|refine st ?_|(refine nx ?_;refine so ?_)|(refine cx ?_;refine sc (fun hc=>?_) (fun hc=>?_)<;>try exact hc.elim)|(refine lx ?_;refine sp (fun hc=>?_) (fun hc=>?_)<;>try exact hc.elim)|refine sx ?_ ?_|refine sy ?_ ?_|fail
   all_goals (try (refine ⟨by first|exact .inr rfl|exact .inl rfl,?_⟩;simp [mP,iF,gN,rowOf,Tryz.results25]))
theorem aDc [aB Tryz.prog] (l:List aC) (hl:l.length≤1099511627776) (hd:l.Nodup):Ok Tryz.prog 9 [.sl .view 2 (l.map aD)] (.sl .own 2 ((uG l).map aD)):=by
 have cS:=aS6 l (by omega)
 have cK:=aL4 (uG l) (by rw [aA7];exact hl) ((aEy l).nodup_iff.2 hd)
 refine ent Tryz.mix Tryz.func9 Tryz.ntmps9 ?_
 have W:=trivial
 repeat' first|refine st ?_|(refine nx ?_;first|refine so ?_|refine sm (hc:=cS) (h:=?_)|refine sg (hc:=cK) (h:=?_))|(refine cx ?_;refine sc (fun hc=>?_) (fun hc=>?_)<;>try exact hc.elim)|(refine lx ?_;refine sp (fun hc=>?_) (fun hc=>?_)<;>try exact hc.elim)|refine sx ?_ ?_|refine sy ?_ ?_|fail
 all_goals (try (refine ⟨.inr rfl,?_⟩;simp [Hands,Tryz.results9]))
end Go.Proofs.YtgkllebnnakojaaGreatDoor

set_option maxRecDepth 4000
set_option maxHeartbeats 4000000
namespace Go.Proofs.YtgkllebnnakojaaGreatDoor
open Go.Aw
theorem aKq [aB Tryz.prog] (l:List aC) (hl:l.length≤1099511627776):Ok Tryz.prog 7 [.sl .view 2 (l.map aD),.sl .view 2 (l.map aD)] (.bool true):=by
 refine ent Tryz.mix Tryz.func7 Tryz.ntmps7 ?_
 have W:=trivial
 repeat' first|refine st ?_|(refine nx ?_;refine so ?_)|(refine cx ?_;refine sc (fun hc=>?_) (fun hc=>?_)<;>try exact hc.elim)|(refine lx ?_;refine sp (fun hc=>?_) (fun hc=>?_)<;>try exact hc.elim)|refine sx ?_ ?_|refine sy ?_ ?_|fail
 refine aT (ι:={k:Nat // k≤l.length}) (fun t o i=>⟨bB t [(5,.int .i64 i.1)],o⟩)
  (fun i=>l.length - i.1) ⟨0,by simp⟩ (aI (by simp) (by simp)) ?_
 rintro ⟨k,hk⟩ K1 hK1
 simp only [bB,List.set_cons_succ,List.set_cons_zero] at hK1⊢
 have hk1:IntKind.i64.wrap ((k:Int)+1)=((k+1:Nat):Int):=by rw [wrap64]<;>omega
 by_cases hlt:k < l.length
 ·have hg:=List.getElem?_eq_getElem hlt
  have he:=lW l[k] l[k]
  rw [decide_eq_true rfl] at he
  generalize l[k]=a at *
  simp only [aD] at he
  have hli:(k:Int) < (l.length:Int):=by omega
  clear hlt
  have W:=And.intro hk1 (And.intro hg hli)
  have c0:=he
  repeat' first|refine st ?_|(refine nx ?_;refine so ?_)|(refine cx ?_;refine sc (fun hc=>?_) (fun hc=>?_)<;>try exact hc.elim)|(refine lx ?_;refine sp (fun hc=>?_) (fun hc=>?_)<;>try exact hc.elim)|refine sx ?_ ?_|refine sy ?_ ?_|fail
  exact hK1 _ ⟨k+1,by omega⟩ (aI (by simp) (by simp)) (by simp only;omega)
 ·have W:=hk1
  repeat' first|refine st ?_|(refine nx ?_;refine so ?_)|(refine cx ?_;refine sc (fun hc=>?_) (fun hc=>?_)<;>try exact hc.elim)|(refine lx ?_;refine sp (fun hc=>?_) (fun hc=>?_)<;>try exact hc.elim)|refine sx ?_ ?_|refine sy ?_ ?_|fail
  all_goals (try (refine ⟨.inr rfl,?_⟩;simp [Hands,Tryz.results7]))
theorem aS2 [aB Tryz.prog] (l:List aC) (a:aC) (hl:l.length≤1099511627776):Ok Tryz.prog 12 [.sl .view 2 (l.map aD),.agg (aD a)] (.int .i64 (dZ (bG a) l)):=by
 refine ent Tryz.mix Tryz.func12 Tryz.ntmps12 ?_
 have W:=trivial
 repeat' first|refine st ?_|(refine nx ?_;refine so ?_)|(refine cx ?_;refine sc (fun hc=>?_) (fun hc=>?_)<;>try exact hc.elim)|(refine lx ?_;refine sp (fun hc=>?_) (fun hc=>?_)<;>try exact hc.elim)|refine sx ?_ ?_|refine sy ?_ ?_|fail
 refine aT (ι:={k:Nat // k≤l.length∧∀x∈l.take k,bG a x=false}) (fun t o i=>⟨bB t [(5,.int .i64 i.1)],o⟩)
  (fun i=>l.length - i.1) ⟨0,by simp,by simp⟩ (aI (by simp) (by simp)) ?_
 rintro ⟨k,hk,hi⟩ K1 hK1
 simp only [bB,List.set_cons_succ,List.set_cons_zero] at hK1⊢
 have hk1:IntKind.i64.wrap ((k:Int)+1)=((k+1:Nat):Int):=by rw [wrap64]<;>omega
 by_cases hlt:k < l.length
 ·have hg:=List.getElem?_eq_getElem hlt
  have W:=And.intro hk1 (And.intro hg hlt)
  have c0:=lW l[k] a
  repeat' first|refine st ?_|(refine nx ?_;refine so ?_)|(refine cx ?_;refine sc (fun hc=>?_) (fun hc=>?_)<;>try exact hc.elim)|(refine lx ?_;refine sp (fun hc=>?_) (fun hc=>?_)<;>try exact hc.elim)|refine sx ?_ ?_|refine sy ?_ ?_|fail
  ·all_goals (try (refine ⟨.inr rfl,?_⟩;simp [Hands,Tryz.results12]))
   rw [qA hlt (by simpa [bG] using hc) hi]
  ·exact hK1 _ ⟨k+1,by omega,dD hlt hi (by simpa [bG] using hc)⟩ (aO 1 (by simp) (by simp) (by simp) (by simp)) (by simp only;omega)
 ·have W:=hk1
  repeat' first|refine st ?_|(refine nx ?_;refine so ?_)|(refine cx ?_;refine sc (fun hc=>?_) (fun hc=>?_)<;>try exact hc.elim)|(refine lx ?_;refine sp (fun hc=>?_) (fun hc=>?_)<;>try exact hc.elim)|refine sx ?_ ?_|refine sy ?_ ?_|fail
  all_goals (try (refine ⟨.inr rfl,?_⟩;simp [Hands,Tryz.results12]))
  rw [nO (iL (by omega) hi)]
end Go.Proofs.YtgkllebnnakojaaGreatDoor

set_option maxRecDepth 8000
set_option maxHeartbeats 8000000
namespace Go.Proofs.YtgkllebnnakojaaGreatDoor
open Go.Aw
theorem aWt [aB Tryz.prog] (d:List UInt8) (hd:d.length≤9223372036854775807):Ok Tryz.prog 4 [.sl .view 1 (aP d)] (.bool (decide (1048576 < (d.length:Int)))):=by
 refine ent Tryz.mix Tryz.func4 Tryz.ntmps4 ?_
 have hb:(aP d).length=d.length:=by simp [aP]
 have W:=hb
 repeat' first|refine st ?_|(refine nx ?_;refine so ?_)|(refine cx ?_;refine sc (fun hc=>?_) (fun hc=>?_)<;>try exact hc.elim)|(refine lx ?_;refine sp (fun hc=>?_) (fun hc=>?_)<;>try exact hc.elim)|refine sx ?_ ?_|refine sy ?_ ?_|fail
 all_goals (try (refine ⟨.inr rfl,?_⟩;simp [Hands,Tryz.results4]))
theorem aN9 {x:AV} (hx:fO [.sl 1 [.int .u8]] [x]):∃d:List UInt8,x= .sl .view 1 (aP d)∧d.length≤9223372036854775807:=by
 obtain ⟨l,rfl,⟨h,_⟩,_⟩:=aO8 (e:=fun c:UInt8=>[.int .u8 c.toNat]) (p:=fun _=>True) (q:=fun _=>True) (fun r h=>by
  obtain ⟨n,r',rfl,hn,h⟩:=fits_int h
  obtain rfl:=aRq h
  have hn1:0≤n∧n≤255:=hn
  refine ⟨UInt8.ofNat n.toNat,?_,trivial,trivial⟩
  have e:(((UInt8.ofNat n.toNat).toNat:Nat):Int)=n:=by
   rw [UInt8.toNat_ofNat']
   omega
  rw [e]) hx
 exact ⟨l,rfl,h⟩
end Go.Proofs.YtgkllebnnakojaaGreatDoor
