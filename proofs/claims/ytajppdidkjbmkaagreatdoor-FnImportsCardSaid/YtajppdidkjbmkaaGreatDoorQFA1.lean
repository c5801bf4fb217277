/-
  Proved here: steps towards the statement of this claim, text QFA1.
  No condition beyond what each statement spells out.
-/
import Derived.Test.YtajppdidkjbmkaaGreatDoorQFSA
import Derived.Test.YtajppdidkjbmkaaGreatDoorQDRG
import Derived.Test.YtajppdidkjbmkaaGreatDoorQA0
import Derived.Test.YtajppdidkjbmkaaGreatDoorF4
set_option linter.all false
set_option maxRecDepth 8000
set_option maxHeartbeats 8000000
namespace Go.Proofs.YtajppdidkjbmkaaGreatDoor
open Go.Aw
theorem aWk (a b:wT):EqA Tryz.prog 95 (rY a) (rY b) (decide (a=b)):=
 aB2 (f:=6) (ss:=[.int .i64,.str,.str,.str,.int .i64,.bool,.int .i64,.str]) (by decide) (by kernel_rfl) (by kernel_rfl) (by kernel_rfl) (by kernel_rfl) (by simp [iA,nD]) (by simp [iA,nD]) (by obtain ⟨m,⟨t1,t2⟩,d,n,o,c,bo⟩:=a;obtain ⟨m2,⟨u1,u2⟩,d2,n2,o2,c2,bo2⟩:=b;simp [and_assoc])
theorem aQ3 (a b:bN):EqA Tryz.prog 55 (bL a) (bL b) (decide (a=b)):=
 aB2 (f:=6) (ss:=[.str,.str,.bool,.int .i64,.str]) (by decide) (by kernel_rfl) (by kernel_rfl) (by kernel_rfl) (by kernel_rfl) (by simp [iA,nD]) (by simp [iA,nD]) (by obtain ⟨⟨t1,t2⟩,o,c,bo⟩:=a;obtain ⟨⟨u1,u2⟩,o2,c2,bo2⟩:=b;simp [and_assoc])
theorem aLl [aB Tryz.prog] (a b:List wT) (hl:a.length≤1099511627776):Ok Tryz.prog 43 [.sl .view 8 (a.map rY),.sl .view 8 (b.map rY)] (.bool (decide (a=b))):=by
 refine ent Tryz.mix Tryz.func43 Tryz.ntmps43 ?_
 have W:=trivial
 repeat' first|refine st ?_|(refine nx ?_;refine so ?_)|(refine cx ?_;refine sc (fun hc=>?_) (fun hc=>?_)<;>try exact hc.elim)|(refine lx ?_;refine sp (fun hc=>?_) (fun hc=>?_)<;>try exact hc.elim)|refine sx ?_ ?_|refine sy ?_ ?_|fail
 ·all_goals (try (refine ⟨.inr rfl,?_⟩;simp [Hands,Tryz.results43]))
  exact uK (by omega)
 ·have hlen:=hc
  refine aJ (ι:={k:Nat // k≤a.length∧a.take k=b.take k}) (fun t o i=>⟨aS t [(13,.int .i64 i.1),(5,.undef)],o⟩)
   (fun i=>a.length - i.1) ⟨0,by simp,by simp⟩ (aD (by simp) (by simp)) ?_
  rintro ⟨k,hk,hi⟩ K1 hK1
  simp only [aS,List.set_cons_succ,List.set_cons_zero] at hK1⊢
  have hk1:IntKind.i64.wrap ((k:Int)+1)=((k+1:Nat):Int):=by rw [wrap64]<;>omega
  by_cases hlt:k < a.length
  ·have hg:=List.getElem?_eq_getElem hlt
   have hg2:=List.getElem?_eq_getElem (show k < b.length by omega)
   have hltb:k < b.length:=by omega
   have W:=And.intro hk1 (And.intro hg (And.intro hg2 (And.intro hlt hltb)))
   repeat' first|refine st ?_|(refine nx ?_;first|refine so ?_|refine sk (hc:=aWk a[k] (b[k]'(by omega))) (h:=?_))|(refine cx ?_;refine sc (fun hc=>?_) (fun hc=>?_)<;>try exact hc.elim)|(refine lx ?_;refine sp (fun hc=>?_) (fun hc=>?_)<;>try exact hc.elim)|refine sx ?_ ?_|refine sy ?_ ?_|fail
   ·all_goals (try (refine ⟨.inr rfl,?_⟩;simp [Hands,Tryz.results43]))
    exact wU hlt hltb hc
   ·exact hK1 _ ⟨k+1,by omega,jT hi hlt hltb hc⟩ (aD (by simp) (by simp)) (by simp only;omega)
  ·have W:=hk1
   repeat' first|refine st ?_|(refine nx ?_;refine so ?_)|(refine cx ?_;refine sc (fun hc=>?_) (fun hc=>?_)<;>try exact hc.elim)|(refine lx ?_;refine sp (fun hc=>?_) (fun hc=>?_)<;>try exact hc.elim)|refine sx ?_ ?_|refine sy ?_ ?_|fail
   all_goals (try (refine ⟨.inr rfl,?_⟩;simp [Hands,Tryz.results43]))
   exact take_eq_all (by omega) hlt hi
theorem aGj [aB Tryz.prog] (a b:List bN) (hl:a.length≤1099511627776):Ok Tryz.prog 44 [.sl .view 5 (a.map bL),.sl .view 5 (b.map bL)] (.bool (decide (a=b))):=by
 refine ent Tryz.mix Tryz.func44 Tryz.ntmps44 ?_
 have W:=trivial
 repeat' first|refine st ?_|(refine nx ?_;refine so ?_)|(refine cx ?_;refine sc (fun hc=>?_) (fun hc=>?_)<;>try exact hc.elim)|(refine lx ?_;refine sp (fun hc=>?_) (fun hc=>?_)<;>try exact hc.elim)|refine sx ?_ ?_|refine sy ?_ ?_|fail
 ·all_goals (try (refine ⟨.inr rfl,?_⟩;simp [Hands,Tryz.results44]))
  exact uK (by omega)
 ·have hlen:=hc
  refine aJ (ι:={k:Nat // k≤a.length∧a.take k=b.take k}) (fun t o i=>⟨aS t [(13,.int .i64 i.1),(5,.undef)],o⟩)
   (fun i=>a.length - i.1) ⟨0,by simp,by simp⟩ (aD (by simp) (by simp)) ?_
  rintro ⟨k,hk,hi⟩ K1 hK1
  simp only [aS,List.set_cons_succ,List.set_cons_zero] at hK1⊢
  have hk1:IntKind.i64.wrap ((k:Int)+1)=((k+1:Nat):Int):=by rw [wrap64]<;>omega
  by_cases hlt:k < a.length
  ·have hg:=List.getElem?_eq_getElem hlt
   have hg2:=List.getElem?_eq_getElem (show k < b.length by omega)
   have hltb:k < b.length:=by omega
   have W:=And.intro hk1 (And.intro hg (And.intro hg2 (And.intro hlt hltb)))
   repeat' first|refine st ?_|(refine nx ?_;first|refine so ?_|refine sk (hc:=aQ3 a[k] (b[k]'(by omega))) (h:=?_))|(refine cx ?_;refine sc (fun hc=>?_) (fun hc=>?_)<;>try exact hc.elim)|(refine lx ?_;refine sp (fun hc=>?_) (fun hc=>?_)<;>try exact hc.elim)|refine sx ?_ ?_|refine sy ?_ ?_|fail
   ·all_goals (try (refine ⟨.inr rfl,?_⟩;simp [Hands,Tryz.results44]))
    exact wU hlt hltb hc
   ·exact hK1 _ ⟨k+1,by omega,jT hi hlt hltb hc⟩ (aD (by simp) (by simp)) (by simp only;omega)
  ·have W:=hk1
   repeat' first|refine st ?_|(refine nx ?_;refine so ?_)|(refine cx ?_;refine sc (fun hc=>?_) (fun hc=>?_)<;>try exact hc.elim)|(refine lx ?_;refine sp (fun hc=>?_) (fun hc=>?_)<;>try exact hc.elim)|refine sx ?_ ?_|refine sy ?_ ?_|fail
   all_goals (try (refine ⟨.inr rfl,?_⟩;simp [Hands,Tryz.results44]))
   exact take_eq_all (by omega) hlt hi
theorem aA4 [aB Tryz.prog] (a b:List aH) (hl:a.length≤1099511627776):Ok Tryz.prog 45 [.sl .view 2 (a.map aL),.sl .view 2 (b.map aL)] (.bool (decide (a=b))):=by
 refine ent Tryz.mix Tryz.func45 Tryz.ntmps45 ?_
 have W:=trivial
 repeat' first|refine st ?_|(refine nx ?_;refine so ?_)|(refine cx ?_;refine sc (fun hc=>?_) (fun hc=>?_)<;>try exact hc.elim)|(refine lx ?_;refine sp (fun hc=>?_) (fun hc=>?_)<;>try exact hc.elim)|refine sx ?_ ?_|refine sy ?_ ?_|fail
 ·all_goals (try (refine ⟨.inr rfl,?_⟩;simp [Hands,Tryz.results45]))
  exact uK (by omega)
 ·have hlen:=hc
  refine aJ (ι:={k:Nat // k≤a.length∧a.take k=b.take k}) (fun t o i=>⟨aS t [(13,.int .i64 i.1),(5,.undef)],o⟩)
   (fun i=>a.length - i.1) ⟨0,by simp,by simp⟩ (aD (by simp) (by simp)) ?_
  rintro ⟨k,hk,hi⟩ K1 hK1
  simp only [aS,List.set_cons_succ,List.set_cons_zero] at hK1⊢
  have hk1:IntKind.i64.wrap ((k:Int)+1)=((k+1:Nat):Int):=by rw [wrap64]<;>omega
  by_cases hlt:k < a.length
  ·have hg:=List.getElem?_eq_getElem hlt
   have hg2:=List.getElem?_eq_getElem (show k < b.length by omega)
   have hltb:k < b.length:=by omega
   have W:=And.intro hk1 (And.intro hg (And.intro hg2 (And.intro hlt hltb)))
   repeat' first|refine st ?_|(refine nx ?_;first|refine so ?_|refine sk (hc:=kV a[k] (b[k]'(by omega))) (h:=?_))|(refine cx ?_;refine sc (fun hc=>?_) (fun hc=>?_)<;>try exact hc.elim)|(refine lx ?_;refine sp (fun hc=>?_) (fun hc=>?_)<;>try exact hc.elim)|refine sx ?_ ?_|refine sy ?_ ?_|fail
   ·all_goals (try (refine ⟨.inr rfl,?_⟩;simp [Hands,Tryz.results45]))
    exact wU hlt hltb hc
   ·exact hK1 _ ⟨k+1,by omega,jT hi hlt hltb hc⟩ (aD (by simp) (by simp)) (by simp only;omega)
  ·have W:=hk1
   repeat' first|refine st ?_|(refine nx ?_;refine so ?_)|(refine cx ?_;refine sc (fun hc=>?_) (fun hc=>?_)<;>try exact hc.elim)|(refine lx ?_;refine sp (fun hc=>?_) (fun hc=>?_)<;>try exact hc.elim)|refine sx ?_ ?_|refine sy ?_ ?_|fail
   all_goals (try (refine ⟨.inr rfl,?_⟩;simp [Hands,Tryz.results45]))
   exact take_eq_all (by omega) hlt hi
theorem aUc {a b:jH}:a=b↔a.kind=b.kind∧a.name=b.name∧a.attrs=b.attrs∧a.text=b.text:=by
 cases a;cases b;simp
theorem aHb [aB Tryz.prog] (a b:jH) (hl:a.attrs.length≤1099511627776):Ok Tryz.prog 41 [.agg (dG .view a),.agg (dG .view b)] (.bool (decide (a=b))):=by
 have c1:=aA2 a.attrs b.attrs hl
 rw [show decide (a=b)=decide (a.kind=b.kind∧a.name=b.name∧a.attrs=b.attrs∧a.text=b.text) by rw [decide_eq_decide];exact aUc]
 refine ent Tryz.mix Tryz.func41 Tryz.ntmps41 ?_
 have W:=trivial
 repeat' first|refine st ?_|(refine nx ?_;refine so ?_)|(refine cx ?_;refine sc (fun hc=>?_) (fun hc=>?_)<;>try exact hc.elim)|(refine lx ?_;refine sp (fun hc=>?_) (fun hc=>?_)<;>try exact hc.elim)|refine sx ?_ ?_|refine sy ?_ ?_|fail
 all_goals (try (refine ⟨.inr rfl,?_⟩;simp [Hands,Tryz.results41]))
 all_goals (first|(simp_all;done)|(simp_all;rw [Bool.eq_iff_iff];simp))
theorem aCy [aB Tryz.prog] (a b:List jH) (hl:szL nS a≤1099511627776):Ok Tryz.prog 40 [.sl .view 4 (a.map (dG .view)),.sl .view 4 (b.map (dG .view)),.fn 41 []] (.bool (decide (a=b))):=by
 simp only [szL] at hl
 refine ent Tryz.mix Tryz.func40 Tryz.ntmps40 ?_
 have W:=trivial
 repeat' first|refine st ?_|(refine nx ?_;refine so ?_)|(refine cx ?_;refine sc (fun hc=>?_) (fun hc=>?_)<;>try exact hc.elim)|(refine lx ?_;refine sp (fun hc=>?_) (fun hc=>?_)<;>try exact hc.elim)|refine sx ?_ ?_|refine sy ?_ ?_|fail
 ·all_goals (try (refine ⟨.inr rfl,?_⟩;simp [Hands,Tryz.results40]))
  exact uK (by omega)
 ·have hlen:=hc
  refine aJ (ι:={k:Nat // k≤a.length∧a.take k=b.take k}) (fun t o i=>⟨aS t [(17,.int .i64 i.1),(7,.undef)],o⟩)
   (fun i=>a.length - i.1) ⟨0,by simp,by simp⟩ (aD (by simp) (by simp)) ?_
  rintro ⟨k,hk,hi⟩ K1 hK1
  simp only [aS,List.set_cons_succ,List.set_cons_zero] at hK1⊢
  have hk1:IntKind.i64.wrap ((k:Int)+1)=((k+1:Nat):Int):=by rw [wrap64]<;>omega
  by_cases hlt:k < a.length
  ·have hg:=List.getElem?_eq_getElem hlt
   have hltb:k < b.length:=by omega
   have hg2:=List.getElem?_eq_getElem hltb
   have hz:=eX nS a k hlt
   simp only [nS,szL] at hz
   have c1:=aHb a[k] b[k] (by omega)
   simp only [dG] at c1
   have W:=And.intro hk1 (And.intro hg (And.intro hg2 (And.intro hlt hltb)))
   repeat' first|refine st ?_|(refine nx ?_;refine so ?_)|(refine cx ?_;refine sc (fun hc=>?_) (fun hc=>?_)<;>try exact hc.elim)|(refine lx ?_;refine sp (fun hc=>?_) (fun hc=>?_)<;>try exact hc.elim)|refine sx ?_ ?_|refine sy ?_ ?_|fail
   ·all_goals (try (refine ⟨.inr rfl,?_⟩;simp [Hands,Tryz.results40]))
    exact wU hlt hltb (by simpa using hc)
   ·exact hK1 _ ⟨k+1,by omega,jT hi hlt hltb (by simpa using hc)⟩ (aQ 0 (by simp) (by simp) (by simp) (by simp)) (by simp only;omega)
  ·have W:=hk1
   repeat' first|refine st ?_|(refine nx ?_;refine so ?_)|(refine cx ?_;refine sc (fun hc=>?_) (fun hc=>?_)<;>try exact hc.elim)|(refine lx ?_;refine sp (fun hc=>?_) (fun hc=>?_)<;>try exact hc.elim)|refine sx ?_ ?_|refine sy ?_ ?_|fail
   all_goals (try (refine ⟨.inr rfl,?_⟩;simp [Hands,Tryz.results40]))
   exact take_eq_all (by omega) hlt hi
theorem aP7 {a b:iF}:a=b↔a.nodes=b.nodes∧a.opens=b.opens:=by
 cases a;cases b;simp
theorem aEm [aB Tryz.prog] (a b:iF) (hl:kR a≤1099511627776):Ok Tryz.prog 42 [.agg (dU .view a),.agg (dU .view b)] (.bool (decide (a=b))):=by
 have c1:=aEp a.nodes b.nodes (by simp only [kR] at hl;omega)
 have c2:=aMy a.opens b.opens (by simp only [kR] at hl;omega)
 rw [show decide (a=b)=decide (a.nodes=b.nodes∧a.opens=b.opens) by rw [decide_eq_decide];exact aP7]
 refine ent Tryz.mix Tryz.func42 Tryz.ntmps42 ?_
 have W:=trivial
 repeat' first|refine st ?_|(refine nx ?_;refine so ?_)|(refine cx ?_;refine sc (fun hc=>?_) (fun hc=>?_)<;>try exact hc.elim)|(refine lx ?_;refine sp (fun hc=>?_) (fun hc=>?_)<;>try exact hc.elim)|refine sx ?_ ?_|refine sy ?_ ?_|fail
 all_goals (try (refine ⟨.inr rfl,?_⟩;simp [Hands,Tryz.results42]))
 all_goals simp_all
theorem aEo [aB Tryz.prog] (a:bR) (hl:bM a≤1099511627776):Ok Tryz.prog 39 [.agg (bD .view a),.agg (bD .view a)] (.bool true):=by
 have c1:=sW a.scripts a.scripts (by simp only [bM,szL] at hl;omega)
 have c2:=sW a.styles a.styles (by simp only [bM,szL] at hl;omega)
 have c3:=sW a.images a.images (by simp only [bM,szL] at hl;omega)
 simp only [decide_true] at c1 c2 c3
 refine ent Tryz.mix Tryz.func39 Tryz.ntmps39 ?_
 have W:=trivial
 repeat' first|refine st ?_|(refine nx ?_;refine so ?_)|(refine cx ?_;refine sc (fun hc=>?_) (fun hc=>?_)<;>try exact hc.elim)|(refine lx ?_;refine sp (fun hc=>?_) (fun hc=>?_)<;>try exact hc.elim)|refine sx ?_ ?_|refine sy ?_ ?_|fail
 all_goals (try (refine ⟨.inr rfl,?_⟩;simp [Hands,Tryz.results39]))
theorem aKt (a b:oW):EqA Tryz.prog 37 (rM a) (rM b) (decide (a=b)):=
 aB2 (f:=6) (ss:=[.str]) (by decide) (by kernel_rfl) (by kernel_rfl) (by kernel_rfl) (by kernel_rfl) (by simp [iA,nD]) (by simp [iA,nD]) (by obtain ⟨x⟩:=a;obtain ⟨y⟩:=b;simp)
theorem aIw [aB Tryz.prog] (a:aY) (hl:bJ a≤1099511627776):Ok Tryz.prog 11 [.agg (aI .view a),.agg (aI .view a)] (.bool true):=by
 have c0:=aEo a.policy (by simp only [bJ] at hl;omega)
 have c1:=aCy a.queue a.queue (by simp only [bJ] at hl;omega)
 have c2:=aEm a.builder a.builder (by simp only [bJ] at hl;omega)
 have c3:=aLl a.slots a.slots (by simp only [bJ,szL] at hl;omega)
 have c4:=aGj a.mods a.mods (by simp only [bJ,szL] at hl;omega)
 have c5:=aA4 a.entries a.entries (by simp only [bJ,szL] at hl;omega)
 have c6:=aA4 a.ran a.ran (by simp only [bJ,szL] at hl;omega)
 have c7:=sW a.log a.log (by simp only [bJ,szL] at hl;omega)
 simp only [decide_true,bD,dU] at c0 c1 c2 c3 c4 c5 c6 c7
 refine ent Tryz.mix Tryz.func11 Tryz.ntmps11 ?_
 have W:=trivial
 have c0:=kV a.addr a.addr
 have c1:=aKt a.tok a.tok
 repeat' first|refine st ?_|(refine nx ?_;refine so ?_)|(refine cx ?_;refine sc (fun hc=>?_) (fun hc=>?_)<;>try exact hc.elim)|(refine lx ?_;refine sp (fun hc=>?_) (fun hc=>?_)<;>try exact hc.elim)|refine sx ?_ ?_|refine sy ?_ ?_|fail
 all_goals (try (refine ⟨.inr rfl,?_⟩;simp [Hands,Tryz.results11]))
theorem aXp [aB Tryz.prog] (d:List UInt8) (hd:d.length≤9223372036854775807):Ok Tryz.prog 4 [.sl .view 1 (aK d)] (.bool (decide (1048576 < (d.length:Int)))):=by
 refine ent Tryz.mix Tryz.func4 Tryz.ntmps4 ?_
 have hb:(aK d).length=d.length:=by simp [aK]
 have W:=hb
 repeat' first|refine st ?_|(refine nx ?_;refine so ?_)|(refine cx ?_;refine sc (fun hc=>?_) (fun hc=>?_)<;>try exact hc.elim)|(refine lx ?_;refine sp (fun hc=>?_) (fun hc=>?_)<;>try exact hc.elim)|refine sx ?_ ?_|refine sy ?_ ?_|fail
 all_goals (try (refine ⟨.inr rfl,?_⟩;simp [Hands,Tryz.results4]))
theorem aOt {x:AV} (hx:gH [.sl 1 [.int .u8]] [x]):∃d:List UInt8,x= .sl .view 1 (aK d)∧d.length≤9223372036854775807:=by
 obtain ⟨l,rfl,⟨h,_⟩,_⟩:=aPu (e:=fun c:UInt8=>[.int .u8 c.toNat]) (p:=fun _=>True) (q:=fun _=>True) (fun r h=>by
  obtain ⟨n,r',rfl,hn,h⟩:=fits_int h
  obtain rfl:=aS6 h
  have hn1:0≤n∧n≤255:=hn
  refine ⟨UInt8.ofNat n.toNat,?_,trivial,trivial⟩
  have e:(((UInt8.ofNat n.toNat).toNat:Nat):Int)=n:=by
   rw [UInt8.toNat_ofNat']
   omega
  rw [e]) hx
 exact ⟨l,rfl,h⟩
end Go.Proofs.YtajppdidkjbmkaaGreatDoor
