/-
  Proved here: steps towards the statement of this claim, text QFA2.
  No condition beyond what each statement spells out.
-/
import Derived.Test.YtkidoegojckmiaaGreatDoorAFA1
import Derived.Test.YtkidoegojckmiaaGreatDoorAQA0
import Derived.Test.YtkidoegojckmiaaGreatDoorAF4
import Derived.Test.YtkidoegojckmiaaGreatDoorAQE1
import Derived.Test.YtkidoegojckmiaaGreatDoorAQP5
set_option linter.all false
set_option maxRecDepth 8000
set_option maxHeartbeats 8000000
namespace Go.Proofs.YtkidoegojckmiaaGreatDoor
open Go.Aw
theorem aC9 [aB Tryz.prog] (a:bH) (hl:bB a≤1099511627776):Ok Tryz.prog 29 [.agg (aS .view a),.agg (aS .view a)] (.bool true):=by
 have c1:=rP a.scripts a.scripts (by simp only [bB,szL] at hl;omega)
 have c2:=rP a.styles a.styles (by simp only [bB,szL] at hl;omega)
 have c3:=rP a.images a.images (by simp only [bB,szL] at hl;omega)
 simp only [decide_true] at c1 c2 c3
 refine ent Tryz.mix Tryz.func29 Tryz.ntmps29 ?_
 have W:=trivial
 repeat' first|refine st ?_|(refine nx ?_;refine so ?_)|(refine cx ?_;refine sc (fun hc=>?_) (fun hc=>?_)<;>try exact hc.elim)|(refine lx ?_;refine sp (fun hc=>?_) (fun hc=>?_)<;>try exact hc.elim)|refine sx ?_ ?_|refine sy ?_ ?_|fail
 all_goals (try (refine ⟨.inr rfl,?_⟩;simp [Hands,Tryz.results29]))
theorem aJm (a b:iG):EqA Tryz.prog 30 (jK a) (jK b) (decide (a=b)):=
 xK (f:=6) (ss:=[.str]) (by decide) (by kernel_rfl) (by kernel_rfl) (by kernel_rfl) (by kernel_rfl) (by simp [fK,kZ]) (by simp [fK,kZ]) (by obtain ⟨x⟩:=a;obtain ⟨y⟩:=b;simp)
theorem aHi [aB Tryz.prog] (a:aZ) (hl:bK a≤1099511627776):Ok Tryz.prog 7 [.agg (aU .view a),.agg (aU .view a)] (.bool true):=by
 have c0:=aC9 a.policy (by simp only [bK] at hl;omega)
 have c1:=aBo a.queue a.queue (by simp only [bK] at hl;omega)
 have c2:=aCv a.builder a.builder (by simp only [bK] at hl;omega)
 have c3:=aI6 a.slots a.slots (by simp only [bK,szL] at hl;omega)
 have c4:=aE2 a.mods a.mods (by simp only [bK,szL] at hl;omega)
 have c5:=zS a.entries a.entries (by simp only [bK,szL] at hl;omega)
 have c6:=zS a.ran a.ran (by simp only [bK,szL] at hl;omega)
 have c7:=rP a.log a.log (by simp only [bK,szL] at hl;omega)
 simp only [decide_true,aS,dG] at c0 c1 c2 c3 c4 c5 c6 c7
 refine ent Tryz.mix Tryz.func7 Tryz.ntmps7 ?_
 have W:=trivial
 have c0:=pM a.addr a.addr
 have c1:=aJm a.tok a.tok
 repeat' first|refine st ?_|(refine nx ?_;refine so ?_)|(refine cx ?_;refine sc (fun hc=>?_) (fun hc=>?_)<;>try exact hc.elim)|(refine lx ?_;refine sp (fun hc=>?_) (fun hc=>?_)<;>try exact hc.elim)|refine sx ?_ ?_|refine sy ?_ ?_|fail
 all_goals (try (refine ⟨.inr rfl,?_⟩;simp [Hands,Tryz.results7]))
theorem aVs [aB Tryz.prog] (d:List UInt8) (hd:d.length≤9223372036854775807):Ok Tryz.prog 4 [.sl .view 1 (aM d)] (.bool (decide (1048576 < (d.length:Int)))):=by
 refine ent Tryz.mix Tryz.func4 Tryz.ntmps4 ?_
 have hb:(aM d).length=d.length:=by simp [aM]
 have W:=hb
 repeat' first|refine st ?_|(refine nx ?_;refine so ?_)|(refine cx ?_;refine sc (fun hc=>?_) (fun hc=>?_)<;>try exact hc.elim)|(refine lx ?_;refine sp (fun hc=>?_) (fun hc=>?_)<;>try exact hc.elim)|refine sx ?_ ?_|refine sy ?_ ?_|fail
 all_goals (try (refine ⟨.inr rfl,?_⟩;simp [Hands,Tryz.results4]))
theorem aM0 {x:AV} (hx:fF [.sl 1 [.int .u8]] [x]):∃d:List UInt8,x= .sl .view 1 (aM d)∧d.length≤9223372036854775807:=by
 obtain ⟨l,rfl,⟨h,_⟩,_⟩:=aNe (e:=fun c:UInt8=>[.int .u8 c.toNat]) (p:=fun _=>True) (q:=fun _=>True) (fun r h=>by
  obtain ⟨n,r',rfl,hn,h⟩:=fits_int h
  obtain rfl:=aRj h
  have hn1:0≤n∧n≤255:=hn
  refine ⟨UInt8.ofNat n.toNat,?_,trivial,trivial⟩
  have e:(((UInt8.ofNat n.toNat).toNat:Nat):Int)=n:=by
   rw [UInt8.toNat_ofNat']
   omega
  rw [e]) hx
 exact ⟨l,rfl,h⟩
theorem aHn [aB Tryz.prog] (a b:iL) (hl:a.rules.length≤1099511627776):Ok Tryz.prog 48 [.agg (bY .view a),.agg (bY .view b)] (.bool (decide (a=b))):=by
 have c0:=aKg a.rules b.rules hl
 rw [show decide (a=b)=decide (a.rules=b.rules) by rw [decide_eq_decide];cases a;cases b;simp]
 refine ent Tryz.mix Tryz.func48 Tryz.ntmps48 ?_
 have W:=trivial
 repeat' first|refine st ?_|(refine nx ?_;refine so ?_)|(refine cx ?_;refine sc (fun hc=>?_) (fun hc=>?_)<;>try exact hc.elim)|(refine lx ?_;refine sp (fun hc=>?_) (fun hc=>?_)<;>try exact hc.elim)|refine sx ?_ ?_|refine sy ?_ ?_|fail
 all_goals (try (refine ⟨.inr rfl,?_⟩;simp [Hands,Tryz.results48]))
theorem aBt [aB Tryz.prog] (a b:List iL) (hl:szL nP a≤1099511627776):Ok Tryz.prog 47 [.sl .view 1 (a.map (bY .view)),.sl .view 1 (b.map (bY .view)),.fn 48 []] (.bool (decide (a=b))):=by
 simp only [szL] at hl
 refine ent Tryz.mix Tryz.func47 Tryz.ntmps47 ?_
 have W:=trivial
 repeat' first|refine st ?_|(refine nx ?_;refine so ?_)|(refine cx ?_;refine sc (fun hc=>?_) (fun hc=>?_)<;>try exact hc.elim)|(refine lx ?_;refine sp (fun hc=>?_) (fun hc=>?_)<;>try exact hc.elim)|refine sx ?_ ?_|refine sy ?_ ?_|fail
 ·all_goals (try (refine ⟨.inr rfl,?_⟩;simp [Hands,Tryz.results47]))
  exact nZ (by omega)
 ·have hlen:=hc
  refine aJ (ι:={k:Nat // k≤a.length∧a.take k=b.take k}) (fun t o i=>⟨aL t [(17,.int .i64 i.1),(7,.undef)],o⟩)
   (fun i=>a.length - i.1) ⟨0,by simp,by simp⟩ (aH (by simp) (by simp)) ?_
  rintro ⟨k,hk,hi⟩ K1 hK1
  simp only [aL,List.set_cons_succ,List.set_cons_zero] at hK1⊢
  have hk1:IntKind.i64.wrap ((k:Int)+1)=((k+1:Nat):Int):=by rw [wrap64]<;>omega
  by_cases hlt:k < a.length
  ·have hg:=List.getElem?_eq_getElem hlt
   have hltb:k < b.length:=by omega
   have hg2:=List.getElem?_eq_getElem hltb
   have hz:=dJ nP a k hlt
   simp only [nP,szL] at hz
   have c1:=aHn a[k] b[k] (by omega)
   simp only [bY] at c1
   have W:=And.intro hk1 (And.intro hg (And.intro hg2 (And.intro hlt hltb)))
   repeat' first|refine st ?_|(refine nx ?_;refine so ?_)|(refine cx ?_;refine sc (fun hc=>?_) (fun hc=>?_)<;>try exact hc.elim)|(refine lx ?_;refine sp (fun hc=>?_) (fun hc=>?_)<;>try exact hc.elim)|refine sx ?_ ?_|refine sy ?_ ?_|fail
   ·all_goals (try (refine ⟨.inr rfl,?_⟩;simp [Hands,Tryz.results47]))
    exact rJ hlt hltb (by simpa using hc)
   ·exact hK1 _ ⟨k+1,by omega,gN hi hlt hltb (by simpa using hc)⟩ (aG 0 (by simp) (by simp) (by simp) (by simp)) (by simp only;omega)
  ·have W:=hk1
   repeat' first|refine st ?_|(refine nx ?_;refine so ?_)|(refine cx ?_;refine sc (fun hc=>?_) (fun hc=>?_)<;>try exact hc.elim)|(refine lx ?_;refine sp (fun hc=>?_) (fun hc=>?_)<;>try exact hc.elim)|refine sx ?_ ?_|refine sy ?_ ?_|fail
   all_goals (try (refine ⟨.inr rfl,?_⟩;simp [Hands,Tryz.results47]))
   exact take_eq_all (by omega) hlt hi
theorem aAc [aB Tryz.prog] (a b:List iL) (hl:szL nP a≤1099511627776):Ok Tryz.prog 18 [.sl .view 1 (a.map (bY .view)),.sl .view 1 (b.map (bY .view))] (.bool (decide (a=b))):=by
 have c1:=aBt a b hl
 refine ent Tryz.mix Tryz.func18 Tryz.ntmps18 ?_
 have W:=trivial
 repeat' first|refine st ?_|(refine nx ?_;refine so ?_)|(refine cx ?_;refine sc (fun hc=>?_) (fun hc=>?_)<;>try exact hc.elim)|(refine lx ?_;refine sp (fun hc=>?_) (fun hc=>?_)<;>try exact hc.elim)|refine sx ?_ ?_|refine sy ?_ ?_|fail
 all_goals (try (refine ⟨.inr rfl,?_⟩;simp [Hands,Tryz.results18]))
def vB:aR:=⟨404,1,[],0,false,[]⟩
theorem aEl [aB Tryz.prog]:Ok Tryz.prog 9 [] (.agg (bA vB)):=by
 refine ent Tryz.mix Tryz.func9 Tryz.ntmps9 ?_
 have W:=trivial
 repeat' first|refine st ?_|(refine nx ?_;first|refine se ?_|refine so ?_)|(refine cx ?_;refine sc (fun hc=>?_) (fun hc=>?_)<;>try exact hc.elim)|(refine lx ?_;refine sp (fun hc=>?_) (fun hc=>?_)<;>try exact hc.elim)|refine sx ?_ ?_|refine sy ?_ ?_|fail
 all_goals (try (refine ⟨.inr rfl,?_⟩;simp [Hands,Tryz.results9,vB]))
end Go.Proofs.YtkidoegojckmiaaGreatDoor
