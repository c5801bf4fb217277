/-
  Proved here: steps towards the statement of this claim, text LFnImports.
  No condition beyond what each statement spells out.
-/
import Derived.Test.YtajppdidkjbmkaaGreatDoorQDRG
import Derived.Test.YtajppdidkjbmkaaGreatDoorDRH
import Derived.Test.YtajppdidkjbmkaaGreatDoorQFSA
import Derived.Test.YtajppdidkjbmkaaGreatDoorQFA1
import Derived.Test.YtajppdidkjbmkaaGreatDoorQP6
import Derived.Test.YtajppdidkjbmkaaGreatDoorQP9
import Derived.Test.YtajppdidkjbmkaaGreatDoorF8
set_option linter.all false
set_option maxRecDepth 8000
set_option maxHeartbeats 8000000
namespace Go.Proofs.YtajppdidkjbmkaaGreatDoor
open Go.Aw
theorem aJs [aB Tryz.prog] [cZ Tryz.prog] [iD Tryz.prog] (d:List UInt8) (hwd:d.length≤9223372036854775807):Ok Tryz.prog 3 [.sl .view 1 (aK d)] (.bool true):=by
 have cb:=aXp d hwd
 have cq:=xJ d
 have cf:=zA d
 refine aT4 Tryz.mix [17,23] Tryz.func3 Tryz.ntmps3 ?_
 have W:=trivial
 repeat' first|refine st ?_|(refine nx ?_;refine so ?_)|(refine cx ?_;refine sc (fun hc=>?_) (fun hc=>?_)<;>try exact hc.elim)|(refine lx ?_;refine sp (fun hc=>?_) (fun hc=>?_)<;>try exact hc.elim)|refine sx ?_ ?_|refine sy ?_ ?_|fail
 ·all_goals (try (refine ⟨.inr rfl,?_⟩;simp [Hands,Tryz.results3]))
 ·refine ce (cq) ?_
  rintro _ ⟨s,b,rfl,hs,hb⟩
  simp only [AS.called,AS.put,aF,aC,bF,aR,bE,aN,bG,aP,List.set_cons_succ,List.set_cons_zero,List.append_nil,List.nil_append,List.cons_append]
  have m1:=(uM s b (by omega) (by omega)).vwas (r':= .tup [.sl .view 2 ((aX s b).1.map aL),.sl .view 2 ((aX s b).2.1.map iG),.bool (aX s b).2.2]) (by simp [rt,rtc])
  have m2:=(nY s b (by omega) (by omega)).vwas (r':= .tup [.sl .view 2 ((aX s b).1.map aL),.sl .view 2 ((aX s b).2.1.map iG),.bool (aX s b).2.2]) (by simp [rt,rtc])
  have hpz:=(rU s b).1
  have sa:=aJ1 (aX s b).1 (by omega)
  clear hpz
  generalize (aX s b).1=l1 at *
  generalize (aX s b).2.1=l2 at *
  generalize (aX s b).2.2=ok at *
  have W:=trivial
  repeat' first|refine st ?_|(refine nx ?_;refine so ?_)|(refine cx ?_;refine sc (fun hc=>?_) (fun hc=>?_)<;>try exact hc.elim)|(refine lx ?_;refine sp (fun hc=>?_) (fun hc=>?_)<;>try exact hc.elim)|refine sx ?_ ?_|refine sy ?_ ?_|fail
  refine ce (cf) ?_
  rintro _ ⟨p,a,x,rfl,hp,ha,hx⟩
  simp only [AS.called,AS.put,aF,aC,bF,aR,bE,aN,bG,aP,List.set_cons_succ,List.set_cons_zero,List.append_nil,List.nil_append,List.cons_append]
  have hps:=hp.sz
  clear m1 m2 sa
  have hvz:=aIg p a x
  have hvg:=aR2 a x hp.good
  have c1:=(uQ p a x (by omega) (by omega)).vwas (r':= .agg (aI .view (bS p a x))) (by simp [rt])
  have c2:=(uR p a x (by omega) (by omega)).vwas (r':= .agg (aI .view (bS p a x))) (by simp [rt])
  have c3:=(uQ (bS p a x) a kY (by omega) (by decide)).vwas (r':= .agg (aI .view (bS (bS p a x) a kY))) (by simp [rt])
  rw [aMx a x kY hp.good.up] at c3
  have hnf:=aFg
  have ceq:=aIw (bS p a x) (by omega)
  generalize bS p a x=v at *
  simp only [aI,aL,aV] at c1 c2 c3 hnf ceq⊢
  have W:=trivial
  repeat' first|refine st ?_|(refine nx ?_;refine so ?_)|(refine cx ?_;refine sc (fun hc=>?_) (fun hc=>?_)<;>try exact hc.elim)|(refine lx ?_;refine sp (fun hc=>?_) (fun hc=>?_)<;>try exact hc.elim)|refine sx ?_ ?_|refine sy ?_ ?_|fail
  clear c1 c2 c3 hnf ceq cf cb cq
  have hvz2:bJ v≤21400:=by omega
  have hml:v.mods.length≤21400:=by have h5:=hvz2;simp only [bJ,szL] at h5;omega
  refine aJ (ι:={i:Nat // i≤v.mods.length}) (fun t o i=>⟨[.sl .view 1 (aK d),.undef,.bool false,.undef,.undef,.undef,.undef,.undef,.undef,.undef,.undef,.ptr 0 0 0 0,.ptr 1 0 0 0,.ptr 2 0 0 0,.ptr 3 0 0 0,.int .i64 (i.1:Int),.undef,.undef,.undef,.undef,.undef,.undef,.undef,.undef,.undef,.undef,.undef,.undef,.undef,.undef,.undef,.undef,.undef,.undef,.undef,.undef,.undef,.undef,.undef,.undef,.undef,.undef,.undef,.undef,.undef,.undef,.undef,.undef,.undef,.undef,.undef,.undef,.undef,.undef,.undef,.undef,.undef,.undef,.undef,.undef,.undef,.undef,.undef,.undef,.undef,.undef,.undef,.undef,.undef,.undef,.undef,.undef,.undef,.undef,.undef,.undef,.undef,.undef,.undef,.undef,.undef,.undef,.undef,.undef,.undef,.undef,.undef,.undef,.undef,.undef,.undef,.undef,.undef,.undef,.undef,.undef,.undef,.undef,.undef,.undef,.undef,.undef,.undef,.undef,.undef,.undef,.undef,.undef,.undef,.undef,.undef,.undef,.undef,.undef,.undef,.undef,.undef,.undef,.undef,.undef,.undef,.undef,.undef,.undef,.undef,.undef,.undef,.undef,.undef,.undef,.undef,.undef,.undef,.undef,.undef,.undef,.undef,.undef,.undef,.undef,.undef,.undef,.undef,.undef,.undef,.undef,.undef,.undef,.undef,.undef,.undef,.undef,.undef,.undef,.undef,.undef,.undef,.undef,.undef,.undef,.undef,.undef,.undef,.undef,.undef,.undef,.undef,.undef,.undef,.undef,.undef,.undef,.undef,.undef,.undef,.undef],[⟨true,true,22,0,[aI .view p]⟩,⟨true,true,2,0,[aL a]⟩,⟨true,true,6,0,[aV x]⟩,⟨true,true,22,0,[aI .view v]⟩]⟩)
   (fun i=>v.mods.length - i.1) ⟨0,by simp⟩ (aQ 4 (by simp [aI]) (by simp) (by simp) (by simp)) ?_
  rintro ⟨i,hi⟩ K1 hK1
  have hK2:=hK1
  simp only at hK1⊢
  clear hK1
  have hi1:IntKind.i64.wrap ((i:Int)+1)=((i+1:Nat):Int):=by rw [wrap64]<;>omega
  simp only [aI]
  by_cases hlt:i < v.mods.length
  ·have hii:(i:Int) < (v.mods.length:Int):=by omega
   obtain ⟨m,hg,hmem⟩:∃m,v.mods[i]? =some m∧m∈v.mods:=⟨_,List.getElem?_eq_getElem hlt,List.getElem_mem hlt⟩
   have hcl:=hvg.cl _ hmem
   have hmz:=jN dV hmem
   clear hmem hlt
   have hmz2:dV m≤22000:=by have h5:=hvz2;simp only [bJ,szL] at h5;omega
   have hb1:m.body.length≤22000:=by simp only [dV] at hmz2;omega
   have hb2:m.to.host.length≤22000:=by simp only [dV,aO] at hmz2;omega
   have cm:=(nY m.body m.to.host (by omega) (by omega)).vwas (r':= .tup [.sl .view 2 ((aX m.body m.to.host).1.map aL),.sl .view 2 ((aX m.body m.to.host).2.1.map iG),.bool (aX m.body m.to.host).2.2]) (by simp [rt,rtc])
   have hpz:=(rU m.body m.to.host).1
   have hl1:(aX m.body m.to.host).1.length≤22000:=by omega
   clear hpz hmz hmz2
   generalize (aX m.body m.to.host).1=l1 at *
   generalize (aX m.body m.to.host).2.1=l2 at *
   generalize (aX m.body m.to.host).2.2=ok at *
   have W:=And.intro hii hg
   repeat' first|refine st ?_|(refine nx ?_;refine so ?_)|(refine cx ?_;refine sc (fun hc=>?_) (fun hc=>?_)<;>try exact hc.elim)|(refine lx ?_;refine sp (fun hc=>?_) (fun hc=>?_)<;>try exact hc.elim)|refine sx ?_ ?_|refine sy ?_ ?_|fail
   clear cm
   refine aJ (ι:={k:Nat // k≤l1.length}) (fun t o k=>⟨[.sl .view 1 (aK d),.undef,.bool false,.undef,.undef,.undef,.undef,.undef,.undef,.undef,.undef,.ptr 0 0 0 0,.ptr 1 0 0 0,.ptr 2 0 0 0,.ptr 3 0 0 0,.int .i64 (i:Int),.sl .view 2 (l1.map aL),.sl .view 2 (l2.map iG),.bool ok,.int .i64 (k.1:Int),.undef,.undef,.undef,.undef,.undef,.undef,.undef,.undef,.undef,.undef,.undef,.undef,.undef,.undef,.undef,.undef,.undef,.undef,.undef,.undef,.undef,.undef,.undef,.undef,.undef,.undef,.undef,.undef,.undef,.undef,.undef,.undef,.undef,.undef,.undef,.undef,.undef,.undef,.undef,.undef,.undef,.undef,.undef,.undef,.undef,.undef,.undef,.undef,.undef,.undef,.undef,.undef,.undef,.undef,.undef,.undef,.undef,.undef,.undef,.undef,.undef,.undef,.undef,.undef,.undef,.undef,.undef,.undef,.undef,.undef,.undef,.undef,.undef,.undef,.undef,.undef,.undef,.undef,.undef,.undef,.undef,.undef,.undef,.undef,.undef,.undef,.undef,.undef,.undef,.undef,.undef,.undef,.undef,.undef,.undef,.undef,.undef,.undef,.undef,.undef,.undef,.undef,.undef,.undef,.undef,.undef,.undef,.undef,.undef,.undef,.undef,.undef,.undef,.undef,.undef,.undef,.undef,.undef,.undef,.undef,.undef,.undef,.undef,.undef,.undef,.undef,.undef,.undef,.undef,.undef,.undef,.undef,.undef,.undef,.undef,.undef,.undef,.undef,.undef,.undef,.undef,.undef,.undef,.undef,.undef,.undef,.undef,.undef,.undef,.undef,.undef,.undef,.undef,.undef,.undef,.undef],[⟨true,true,22,0,[aI .view p]⟩,⟨true,true,2,0,[aL a]⟩,⟨true,true,6,0,[aV x]⟩,⟨true,true,22,0,[aI .view v]⟩]⟩)
    (fun k=>l1.length - k.1) ⟨0,by simp⟩ (aQ 4 (by simp [aI]) (by simp) (by simp) (by simp)) ?_
   rintro ⟨k,hk⟩ K3 hK3
   have hK4:=hK3
   simp only at hK3⊢
   clear hK3
   have hk1:IntKind.i64.wrap ((k:Int)+1)=((k+1:Nat):Int):=by rw [wrap64]<;>omega
   obtain ⟨bv,hbv⟩:∃bv:Bool,(bv=true↔(k < l1.length∧ok=true∧m.to=a∧m.code=1∧m.done=true)):=⟨decide (k < l1.length∧ok=true∧m.to=a∧m.code=1∧m.done=true),by simp only [decide_eq_true_eq]⟩
   simp only [aI]
   have W:=trivial
   repeat' first|refine st ?_|(refine nx ?_;refine so ?_)|(refine cx ?_;refine sc (fun hc=>?_) (fun hc=>?_)<;>try exact hc.elim)|(refine lx ?_;refine sp (fun hc=>?_) (fun hc=>?_)<;>try exact hc.elim)|refine sx ?_ ?_|refine sy ?_ ?_|fail
   refine nP _ _ (fun e s'=>e= .normal∧s'.ev (.tmp 143)= .bool bv∧dR s' ⟨[.sl .view 1 (aK d),.undef,.bool false,.undef,.undef,.undef,.undef,.undef,.undef,.undef,.undef,.ptr 0 0 0 0,.ptr 1 0 0 0,.ptr 2 0 0 0,.ptr 3 0 0 0,.int .i64 (i:Int),.sl .view 2 (l1.map aL),.sl .view 2 (l2.map iG),.bool ok,.int .i64 (k:Int),.undef,.undef,.undef,.undef,.undef,.undef,.undef,.undef,.undef,.undef,.undef,.undef,.undef,.undef,.undef,.undef,.undef,.undef,.undef,.undef,.undef,.undef,.undef,.undef,.undef,.undef,.undef,.undef,.undef,.undef,.undef,.undef,.undef,.undef,.undef,.undef,.undef,.undef,.undef,.undef,.undef,.undef,.undef,.undef,.undef,.undef,.undef,.undef,.undef,.undef,.undef,.undef,.undef,.undef,.undef,.undef,.undef,.undef,.undef,.undef,.undef,.undef,.undef,.undef,.undef,.undef,.undef,.undef,.undef,.undef,.undef,.undef,.undef,.undef,.undef,.undef,.undef,.undef,.undef,.undef,.undef,.undef,.undef,.undef,.undef,.undef,.undef,.undef,.undef,.undef,.undef,.undef,.undef,.undef,.undef,.undef,.undef,.undef,.undef,.undef,.undef,.undef,.undef,.undef,.undef,.undef,.undef,.undef,.undef,.undef,.undef,.undef,.undef,.undef,.undef,.undef,.undef,.undef,.undef,.undef,.undef,.undef,.undef,.undef,.undef,.undef,.undef,.undef,.undef,.undef,.undef,.undef,.undef,.undef,.undef,.undef,.undef,.undef,.undef,.undef,.undef,.undef,.undef,.undef,.undef,.undef,.undef,.undef,.undef,.undef,.undef,.undef,.undef,.undef,.undef,.undef],[⟨true,true,22,0,[aI .view p]⟩,⟨true,true,2,0,[aL a]⟩,⟨true,true,6,0,[aV x]⟩,⟨true,true,22,0,[aI .view v]⟩]⟩) _ ?_ ?_
   ·rintro e s' ⟨rfl,hcd,hwk⟩
    simp only [iN]
    refine aEg hcd (fun hb=> ?_) (fun hb=> ?_)
    ·refine aD5 ?_
     simp only [iN]
     refine aL9 ?_
     refine aBc ?_
     refine aHz hwk ?_
     clear hwk hcd hK2
     obtain ⟨hkl,hok,hto,hcode,hdone⟩:=hbv.1 hb
     obtain ⟨c,hlc,hcm⟩:∃c,l1[k]? =some c∧c∈l1:=⟨_,List.getElem?_eq_getElem hkl,List.getElem_mem hkl⟩
     obtain ⟨mc,hmc,hmct⟩:=hcl hdone hcode c hcm
     have hki:(k:Int) < (l1.length:Int):=by omega
     simp only [aI]
     have W:=trivial
     repeat' first|refine st ?_|(refine nx ?_;refine so ?_)|(refine cx ?_;refine sc (fun hc=>?_) (fun hc=>?_)<;>try exact hc.elim)|(refine lx ?_;refine sp (fun hc=>?_) (fun hc=>?_)<;>try exact hc.elim)|refine sx ?_ ?_|refine sy ?_ ?_|fail
     refine aJ (ι:={y:Nat×Bool // y.1≤v.mods.length∧(y.2=true∨∀z∈v.mods.take y.1,z.to≠c)}) (fun t o y=>⟨[.sl .view 1 (aK d),.undef,.bool false,.undef,.undef,.undef,.undef,.undef,.undef,.undef,.undef,.ptr 0 0 0 0,.ptr 1 0 0 0,.ptr 2 0 0 0,.ptr 3 0 0 0,.int .i64 (i:Int),.sl .view 2 (l1.map aL),.sl .view 2 (l2.map iG),.bool ok,.int .i64 (k:Int),.bool y.1.2,.int .i64 (y.1.1:Int),.undef,.undef,.undef,.undef,.undef,.undef,.undef,.undef,.undef,.undef,.undef,.undef,.undef,.undef,.undef,.undef,.undef,.undef,.undef,.undef,.undef,.undef,.undef,.undef,.undef,.undef,.undef,.undef,.undef,.undef,.undef,.undef,.undef,.undef,.undef,.undef,.undef,.undef,.undef,.undef,.undef,.undef,.undef,.undef,.undef,.undef,.undef,.undef,.undef,.undef,.undef,.undef,.undef,.undef,.undef,.undef,.undef,.undef,.undef,.undef,.undef,.undef,.undef,.undef,.undef,.undef,.undef,.undef,.undef,.undef,.undef,.undef,.undef,.undef,.undef,.undef,.undef,.undef,.undef,.undef,.undef,.undef,.undef,.undef,.undef,.undef,.undef,.undef,.undef,.undef,.undef,.undef,.undef,.undef,.undef,.undef,.undef,.undef,.undef,.undef,.undef,.undef,.undef,.undef,.undef,.undef,.undef,.undef,.undef,.undef,.undef,.undef,.undef,.undef,.undef,.undef,.undef,.undef,.undef,.undef,.undef,.undef,.undef,.undef,.undef,.undef,.undef,.undef,.undef,.undef,.undef,.undef,.undef,.undef,.undef,.undef,.undef,.undef,.undef,.undef,.undef,.undef,.undef,.undef,.undef,.undef,.undef,.undef,.undef,.undef,.undef,.undef,.undef,.undef],[⟨true,true,22,0,[aI .view p]⟩,⟨true,true,2,0,[aL a]⟩,⟨true,true,6,0,[aV x]⟩,⟨true,true,22,0,[aI .view v]⟩]⟩)
      (fun y=>v.mods.length - y.1.1) ⟨(0,false),by simp,by simp⟩ (aQ 4 (by simp [aI]) (by simp) (by simp) (by simp)) ?_
     rintro ⟨⟨j,fb⟩,hj,hfb⟩ K5 hK5
     have hK6:=hK5
     simp only at hj hfb hK5⊢
     clear hK5
     have hj1:IntKind.i64.wrap ((j:Int)+1)=((j+1:Nat):Int):=by rw [wrap64]<;>omega
     simp only [aI]
     by_cases hjl:j < v.mods.length
     ·have hji:(j:Int) < (v.mods.length:Int):=by omega
      obtain ⟨mj,hgj⟩:∃mj,v.mods[j]? =some mj:=⟨_,List.getElem?_eq_getElem hjl⟩
      have W:=hji
      repeat' first|refine st ?_|(refine nx ?_;refine so ?_)|(refine cx ?_;refine sc (fun hc=>?_) (fun hc=>?_)<;>try exact hc.elim)|(refine lx ?_;refine sp (fun hc=>?_) (fun hc=>?_)<;>try exact hc.elim)|refine sx ?_ ?_|refine sy ?_ ?_|fail
      rw [nO]
      refine nP _ _ (fun e s'=>e= .normal∧dR s' ⟨[.sl .view 1 (aK d),.undef,.bool false,.undef,.undef,.undef,.undef,.undef,.undef,.undef,.undef,.ptr 0 0 0 0,.ptr 1 0 0 0,.ptr 2 0 0 0,.ptr 3 0 0 0,.int .i64 (i:Int),.sl .view 2 (l1.map aL),.sl .view 2 (l2.map iG),.bool ok,.int .i64 (k:Int),.bool (fb || decide (mj.to=c)),.int .i64 (j:Int),.undef,.undef,.undef,.undef,.undef,.undef,.undef,.undef,.undef,.undef,.undef,.undef,.undef,.undef,.undef,.undef,.undef,.undef,.undef,.undef,.undef,.undef,.undef,.undef,.undef,.undef,.undef,.undef,.undef,.undef,.undef,.undef,.undef,.undef,.undef,.undef,.undef,.undef,.undef,.undef,.undef,.undef,.undef,.undef,.undef,.undef,.undef,.undef,.undef,.undef,.undef,.undef,.undef,.undef,.undef,.undef,.undef,.undef,.undef,.undef,.undef,.undef,.undef,.undef,.undef,.undef,.undef,.undef,.undef,.undef,.undef,.undef,.undef,.undef,.undef,.undef,.undef,.undef,.undef,.undef,.undef,.undef,.undef,.undef,.undef,.undef,.undef,.undef,.undef,.undef,.undef,.undef,.undef,.undef,.undef,.undef,.undef,.undef,.undef,.undef,.undef,.undef,.undef,.undef,.undef,.undef,.undef,.undef,.undef,.undef,.undef,.undef,.undef,.undef,.undef,.undef,.undef,.undef,.undef,.undef,.undef,.undef,.undef,.undef,.undef,.undef,.undef,.undef,.undef,.undef,.undef,.undef,.undef,.undef,.undef,.undef,.undef,.undef,.undef,.undef,.undef,.undef,.undef,.undef,.undef,.undef,.undef,.undef,.undef,.undef,.undef,.undef,.undef,.undef],[⟨true,true,22,0,[aI .view p]⟩,⟨true,true,2,0,[aL a]⟩,⟨true,true,6,0,[aV x]⟩,⟨true,true,22,0,[aI .view v]⟩]⟩) _ ?_ ?_
      ·rintro e s' ⟨rfl,hwk⟩
       simp only [iN,AIn]
       refine rD hwk ?_
       clear hwk
       simp only [aI]
       have W:=hj1
       repeat' first|refine st ?_|(refine nx ?_;refine so ?_)|(refine cx ?_;refine sc (fun hc=>?_) (fun hc=>?_)<;>try exact hc.elim)|(refine lx ?_;refine sp (fun hc=>?_) (fun hc=>?_)<;>try exact hc.elim)|refine sx ?_ ?_|refine sy ?_ ?_|fail
       refine hK6 _ ⟨(j+1,fb || decide (mj.to=c)),by simp only;omega,?_⟩ (aQ 4 (by simp [aI]) (by simp) (by simp) (by simp)) (by simp only;omega)
       rcases hfb with h|h
       ·exact .inl (by simp [h])
       ·by_cases hz:mj.to=c
        ·exact .inl (by simp [hz])
        ·refine .inr fun z hz2=> ?_
         simp only at hz2
         rw [List.take_add_one,hgj,List.mem_append] at hz2
         rcases hz2 with hz2|hz2
         ·exact h z hz2
         ·simp only [Option.toList_some,List.mem_singleton] at hz2
          subst hz2;exact hz
      ·clear hK4 hK6
       cases fb
       ·have hea:=kV mj.to c
        simp only [aL] at hea
        simp only [Bool.false_or]
        have W:=And.intro hji (And.intro hgj (And.intro hki hlc))
        have c0:=hea
        repeat' first|refine st ?_|(refine nx ?_;refine so ?_)|(refine cx ?_;refine sc (fun hc=>?_) (fun hc=>?_)<;>try exact hc.elim)|(refine lx ?_;refine sp (fun hc=>?_) (fun hc=>?_)<;>try exact hc.elim)|refine sx ?_ ?_|refine sy ?_ ?_|fail
        exact ⟨rfl,(aQ 4 (by simp [aI]) (by simp) (by simp) (by simp))⟩
       ·simp only [Bool.true_or]
        have W:=trivial
        repeat' first|refine st ?_|(refine nx ?_;refine so ?_)|(refine cx ?_;refine sc (fun hc=>?_) (fun hc=>?_)<;>try exact hc.elim)|(refine lx ?_;refine sp (fun hc=>?_) (fun hc=>?_)<;>try exact hc.elim)|refine sx ?_ ?_|refine sy ?_ ?_|fail
        exact ⟨rfl,(aQ 4 (by simp [aI]) (by simp) (by simp) (by simp))⟩
     ·have hji:¬(j:Int) < (v.mods.length:Int):=by omega
      clear hK6
      have hfb2:fb=true:=by
       rcases hfb with h|h
       ·exact h
       ·exact absurd hmct (h mc (by rw [List.take_of_length_le (by omega)];exact hmc))
      subst hfb2
      have W:=And.intro hji hk1
      repeat' first|refine st ?_|(refine nx ?_;refine so ?_)|(refine cx ?_;refine sc (fun hc=>?_) (fun hc=>?_)<;>try exact hc.elim)|(refine lx ?_;refine sp (fun hc=>?_) (fun hc=>?_)<;>try exact hc.elim)|refine sx ?_ ?_|refine sy ?_ ?_|fail
      exact hK4 _ ⟨k+1,by omega⟩ (aQ 4 (by simp [aI]) (by simp) (by simp) (by simp)) (by simp only;omega)
    ·refine aEd ?_
     simp only [iN,AIn,if_true]
     refine rD hwk ?_
     clear hwk hcd hK4
     simp only [aI]
     have W:=hi1
     repeat' first|refine st ?_|(refine nx ?_;refine so ?_)|(refine cx ?_;refine sc (fun hc=>?_) (fun hc=>?_)<;>try exact hc.elim)|(refine lx ?_;refine sp (fun hc=>?_) (fun hc=>?_)<;>try exact hc.elim)|refine sx ?_ ?_|refine sy ?_ ?_|fail
     exact hK2 _ ⟨i+1,by omega⟩ (aQ 4 (by simp [aI]) (by simp) (by simp) (by simp)) (by simp only;omega)
   ·rw [nO]
    clear hK2 hK4 hcl
    by_cases h1:k < l1.length
    ·have h1i:(k:Int) < (l1.length:Int):=by omega
     cases ok
     ·have:bv=false:=Bool.eq_false_iff.2 fun e=>by have:=(hbv.1 e).2.1;cases this
      subst this
      have W:=h1i
      repeat' first|refine st ?_|(refine nx ?_;refine so ?_)|(refine cx ?_;refine sc (fun hc=>?_) (fun hc=>?_)<;>try exact hc.elim)|(refine lx ?_;refine sp (fun hc=>?_) (fun hc=>?_)<;>try exact hc.elim)|refine sx ?_ ?_|refine sy ?_ ?_|fail
      exact ⟨rfl,by rfl,(aQ 4 (by simp [aI]) (by simp) (by simp) (by simp))⟩
     ·by_cases hto:m.to=a
      ·have hea:=kV m.to a
       rw [decide_eq_true hto] at hea
       simp only [aL] at hea
       by_cases hcode:m.code=1
       ·have:bv=m.done:=by
         cases hd:m.done
         ·exact Bool.eq_false_iff.2 fun e=>by have:=(hbv.1 e).2.2.2.2;rw [hd] at this;cases this
         ·exact hbv.2 ⟨h1,rfl,hto,hcode,hd⟩
        subst this
        have W:=And.intro h1i (And.intro hii (And.intro hg hcode))
        have c0:=hea
        repeat' first|refine st ?_|(refine nx ?_;refine so ?_)|(refine cx ?_;refine sc (fun hc=>?_) (fun hc=>?_)<;>try exact hc.elim)|(refine lx ?_;refine sp (fun hc=>?_) (fun hc=>?_)<;>try exact hc.elim)|refine sx ?_ ?_|refine sy ?_ ?_|fail
        exact ⟨rfl,by rfl,(aQ 4 (by simp [aI]) (by simp) (by simp) (by simp))⟩
       ·have:bv=false:=Bool.eq_false_iff.2 fun e=>hcode (hbv.1 e).2.2.2.1
        subst this
        have hcb:¬m.code=1:=hcode
        have W:=And.intro h1i (And.intro hii (And.intro hg hcb))
        have c0:=hea
        repeat' first|refine st ?_|(refine nx ?_;refine so ?_)|(refine cx ?_;refine sc (fun hc=>?_) (fun hc=>?_)<;>try exact hc.elim)|(refine lx ?_;refine sp (fun hc=>?_) (fun hc=>?_)<;>try exact hc.elim)|refine sx ?_ ?_|refine sy ?_ ?_|fail
        exact ⟨rfl,by rfl,(aQ 4 (by simp [aI]) (by simp) (by simp) (by simp))⟩
      ·have:bv=false:=Bool.eq_false_iff.2 fun e=>hto (hbv.1 e).2.2.1
       subst this
       have hea:=kV m.to a
       rw [decide_eq_false hto] at hea
       simp only [aL] at hea
       have W:=And.intro h1i (And.intro hii hg)
       have c0:=hea
       repeat' first|refine st ?_|(refine nx ?_;refine so ?_)|(refine cx ?_;refine sc (fun hc=>?_) (fun hc=>?_)<;>try exact hc.elim)|(refine lx ?_;refine sp (fun hc=>?_) (fun hc=>?_)<;>try exact hc.elim)|refine sx ?_ ?_|refine sy ?_ ?_|fail
       exact ⟨rfl,by rfl,(aQ 4 (by simp [aI]) (by simp) (by simp) (by simp))⟩
    ·have:bv=false:=Bool.eq_false_iff.2 fun e=>h1 (hbv.1 e).1
     subst this
     have h1i:¬(k:Int) < (l1.length:Int):=by omega
     have W:=h1i
     repeat' first|refine st ?_|(refine nx ?_;refine so ?_)|(refine cx ?_;refine sc (fun hc=>?_) (fun hc=>?_)<;>try exact hc.elim)|(refine lx ?_;refine sp (fun hc=>?_) (fun hc=>?_)<;>try exact hc.elim)|refine sx ?_ ?_|refine sy ?_ ?_|fail
     exact ⟨rfl,by rfl,(aQ 4 (by simp [aI]) (by simp) (by simp) (by simp))⟩
  ·have hii:¬(i:Int) < (v.mods.length:Int):=by omega
   have o1:=(aFj v (by omega)).vwas (r':= .sl .view 1 ((places iC 0 v.mods).map gY)) (by simp [rt])
   have o2:=(rA v (by omega)).vwas (r':= .sl .view 1 ((places iC 0 v.mods).map gY)) (by simp [rt])
   generalize places iC 0 v.mods=l1 at *
   simp only [aI] at o1 o2
   clear hK2
   have W:=hii
   repeat' first|refine st ?_|(refine nx ?_;refine so ?_)|(refine cx ?_;refine sc (fun hc=>?_) (fun hc=>?_)<;>try exact hc.elim)|(refine lx ?_;refine sp (fun hc=>?_) (fun hc=>?_)<;>try exact hc.elim)|refine sx ?_ ?_|refine sy ?_ ?_|fail
   all_goals (try (refine ⟨.inr rfl,?_⟩;simp [Hands,Tryz.results3]))
end Go.Proofs.YtajppdidkjbmkaaGreatDoor
