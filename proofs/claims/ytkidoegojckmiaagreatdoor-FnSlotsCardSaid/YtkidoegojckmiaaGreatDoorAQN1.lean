/-
  Proved here: steps towards the statement of this claim, text QN1.
  No condition beyond what each statement spells out.
-/
import Derived.Test.YtkidoegojckmiaaGreatDoorAQA0
import Derived.Test.YtkidoegojckmiaaGreatDoorAF3
import Derived.Test.YtkidoegojckmiaaGreatDoorAF6
import Derived.Test.YtkidoegojckmiaaGreatDoorAQU1
import Derived.Test.YtkidoegojckmiaaGreatDoorAQ1
import Derived.Test.YtkidoegojckmiaaGreatDoorAF8
import Derived.Test.YtkidoegojckmiaaGreatDoorAQY2
set_option linter.all false
set_option maxRecDepth 4000
set_option maxHeartbeats 4000000
namespace Go.Proofs.YtkidoegojckmiaaGreatDoor
open Go.Aw
def places {α:Type} (f:α→Bool):Nat→List α→List Int
 |_,[]=>[]
 |i,x::xs=>if f x then (i:Int)::places f (i+1) xs else places f (i+1) xs
theorem aCk {α:Type} (f:α→Bool) (x:α):∀(l:List α) (i:Nat),places f i (l++[x])=places f i l++(if f x then [((i+l.length:Nat):Int)] else [])
 |[],i=>by simp only [List.nil_append,places];cases f x<;>simp
 |y::ys,i=>by
  simp only [List.cons_append,places]
  rw [aCk f x ys (i+1)]
  have:i+1+ys.length=i+(y::ys).length:=by simp;omega
  rw [this]
  cases f y<;>simp
theorem aKi {α:Type} (f:α→Bool) (l:List α) (k:Nat) (h:k < l.length):places f 0 (l.take (k+1))=places f 0 (l.take k)++(if f l[k] then [(k:Int)] else []):=by
 rw [List.take_succ_eq_append_getElem h,aCk]
 have:(l.take k).length=k:=by simp;omega
 rw [this,Nat.zero_add]
theorem zB {α:Type} (f:α→Bool):∀(l:List α) (i:Nat),(places f i l).length≤l.length
 |[],_=>by simp [places]
 |x::xs,i=>by
  simp only [places]
  have:=zB f xs (i+1)
  cases f x<;>simp<;>omega
def lF (s:dR):Bool:= !s.done
theorem uX [aB Tryz.prog] (p:aZ) (hl:p.slots.length≤16777216):Ok Tryz.prog 15 [.agg (aU .view p)] (.sl .own 1 ((places lF 0 p.slots).map jT)):=by
 refine ent Tryz.mix Tryz.func15 Tryz.ntmps15 ?_
 have W:=trivial
 repeat' first|refine st ?_|(refine nx ?_;refine so ?_)|(refine cx ?_;refine sc (fun hc=>?_) (fun hc=>?_)<;>try exact hc.elim)|(refine lx ?_;refine sp (fun hc=>?_) (fun hc=>?_)<;>try exact hc.elim)|refine sx ?_ ?_|refine sy ?_ ?_|fail
 refine aJ (ι:={q:Nat×Nat // q.1≤p.slots.length∧1≤q.2}) (fun t o i=>⟨aL t [(3,.obj 1 i.1.2),(10,.int .i64 i.1.1)],o.take 1++[⟨true,false,1,i.1.2,(places lF 0 (p.slots.take i.1.1)).map jT⟩]⟩)
  (fun i=>p.slots.length - i.1.1) ⟨(0,1),by simp,by simp⟩ (aH (by simp [places]) (by simp)) ?_
 rintro ⟨⟨k,v⟩,hk,hv⟩ K1 hK1
 simp only at hk hv
 simp only [aL,List.set_cons_succ,List.set_cons_zero,List.take_succ_cons,List.take_zero,List.cons_append,List.nil_append] at hK1⊢
 have hk1:IntKind.i64.wrap ((k:Int)+1)=((k+1:Nat):Int):=by rw [wrap64]<;>omega
 by_cases hlt:k < p.slots.length
 ·have hg:=List.getElem?_eq_getElem hlt
  have hps:=aKi lF p.slots k hlt
  have hpl:=zB lF (p.slots.take k) 0
  have htl:(p.slots.take k).length=k:=by simp;omega
  have hb1:((places lF 0 (p.slots.take k)).length+1) * 8≤140737488355328:=by omega
  have hb2:(places lF 0 (p.slots.take k)).length+1≤9223372036854775807:=by omega
  have hb3:(places lF 0 (p.slots.take k)).length≤9223372036854775806:=by omega
  have W:=And.intro hk1 (And.intro hg (And.intro hlt (And.intro hb1 (And.intro hb2 hb3))))
  repeat' first|refine st ?_|(refine nx ?_;refine so ?_)|(refine cx ?_;refine sc (fun hc=>?_) (fun hc=>?_)<;>try exact hc.elim)|(refine lx ?_;refine sp (fun hc=>?_) (fun hc=>?_)<;>try exact hc.elim)|refine sx ?_ ?_|refine sy ?_ ?_|fail
  ·refine hK1 _ ⟨(k+1,v+1),by simp only;omega,by simp only;omega⟩ (aG 2 (by simp [hps,lF,hc]) (by simp) (by simp) (by simp)) (by simp only;omega)
  ·refine hK1 _ ⟨(k+1,v),by simp only;omega,hv⟩ (aG 2 (by simp [hps,lF,hc]) (by simp) (by simp) (by simp)) (by simp only;omega)
 ·have htk:p.slots.take k=p.slots:=List.take_of_length_le (by omega)
  rw [htk]
  have W:=hk1
  repeat' first|refine st ?_|(refine nx ?_;refine so ?_)|(refine cx ?_;refine sc (fun hc=>?_) (fun hc=>?_)<;>try exact hc.elim)|(refine lx ?_;refine sp (fun hc=>?_) (fun hc=>?_)<;>try exact hc.elim)|refine sx ?_ ?_|refine sy ?_ ?_|fail
  all_goals (try (refine ⟨.inr rfl,?_⟩;simp [Hands,Tryz.results15]))
def kS (m:Int):Int:=if m=1 then 4 else if m=2 then 3 else if m=3 then 2 else if m=4 then 2 else 0
theorem sZ [aB Tryz.prog] (m:Int):Ok Tryz.prog 27 [.int .i64 m] (.int .i64 (kS m)):=by
 refine ent Tryz.mix Tryz.func27 Tryz.ntmps27 ?_
 have W:=trivial
 repeat' first|refine st ?_|(refine nx ?_;refine so ?_)|(refine cx ?_;refine sc (fun hc=>?_) (fun hc=>?_)<;>try exact hc.elim)|(refine lx ?_;refine sp (fun hc=>?_) (fun hc=>?_)<;>try exact hc.elim)|refine sx ?_ ?_|refine sy ?_ ?_|fail
 all_goals (try (refine ⟨.inr rfl,?_⟩;simp [Hands,Tryz.results27,kS]))
 all_goals simp_all [kS]
theorem aBn [aB Tryz.prog] (m:Int):Ok Tryz.prog 41 [.int .i64 m] (.int .i64 (kS m)):=by
 refine ent Tryz.mix Tryz.func41 Tryz.ntmps41 ?_
 have W:=trivial
 repeat' first|refine st ?_|(refine nx ?_;refine so ?_)|(refine cx ?_;refine sc (fun hc=>?_) (fun hc=>?_)<;>try exact hc.elim)|(refine lx ?_;refine sp (fun hc=>?_) (fun hc=>?_)<;>try exact hc.elim)|refine sx ?_ ?_|refine sy ?_ ?_|fail
 all_goals (try (refine ⟨.inr rfl,?_⟩;simp [Hands,Tryz.results41,kS]))
 all_goals simp_all [kS]
def aW1:dU:=⟨0,⟨[],[]⟩,[],[]⟩
def bM (p:aZ) (s:dR):dU:=⟨kS s.mode,s.to,p.addr.host,s.digest⟩
def kQ (p:aZ) (i:Int):dU:=match p.slots[i.toNat]? with
 |some s=>bM p s
 |none=>aW1
theorem rA {α:Type} {l:List α} {i:Int} (h0:0≤i) (h1:i < l.length):∃s,l[i.toNat]? =some s:=⟨l[i.toNat]'(by omega),List.getElem?_eq_getElem _⟩
theorem at_eq {α:Type} {l:List α} {k:Nat} {s:α} (h:k < l.length) (hg:l[k]? =some s):l[k]=s:=by
 rw [List.getElem?_eq_getElem h] at hg
 exact Option.some.inj hg
theorem aAs [aB Tryz.prog] (p:aZ) (i:Int) (h0:0≤i) (h1:i < p.slots.length) (hl:p.slots.length≤1099511627776):Ok Tryz.prog 38 [.agg (aU .view p),.int .i64 i] (.agg (dI (kQ p i))):=by
 obtain ⟨s,hg⟩:=rA h0 h1
 have e:kQ p i=bM p s:=by simp [kQ,hg]
 rw [e]
 obtain rfl:p.slots[i.toNat]'(by omega)=s:=at_eq (by omega) hg
 have c1:=gH i 0 (p.slots.length - 1)
 rw [show (decide (0≤i)&&decide (i≤(p.slots.length:Int) - 1))=true by simp;omega] at c1
 have c2:=sZ (p.slots[i.toNat]'(by omega)).mode
 refine ent Tryz.mix Tryz.func38 Tryz.ntmps38 ?_
 have W:=And.intro hg (And.intro h0 h1)
 repeat' first|refine st ?_|(refine nx ?_;refine so ?_)|(refine cx ?_;refine sc (fun hc=>?_) (fun hc=>?_)<;>try exact hc.elim)|(refine lx ?_;refine sp (fun hc=>?_) (fun hc=>?_)<;>try exact hc.elim)|refine sx ?_ ?_|refine sy ?_ ?_|fail
 all_goals (try (refine ⟨.inr rfl,?_⟩;simp [Hands,Tryz.results38,bM]))
theorem sQ [aB Tryz.prog] (p:aZ) (i:Int) (h0:0≤i) (h1:i < p.slots.length) (hl:p.slots.length≤1099511627776):Ok Tryz.prog 11 [.agg (aU .view p),.int .i64 i] (.agg (dI (kQ p i))):=by
 obtain ⟨s,hg⟩:=rA h0 h1
 have e:kQ p i=bM p s:=by simp [kQ,hg]
 rw [e]
 obtain rfl:p.slots[i.toNat]'(by omega)=s:=at_eq (by omega) hg
 have c2:=aBn (p.slots[i.toNat]'(by omega)).mode
 have n0:¬i < 0:=by omega
 have n1:¬(p.slots.length:Int)≤i:=by omega
 refine ent Tryz.mix Tryz.func11 Tryz.ntmps11 ?_
 have W:=And.intro hg (And.intro h0 (And.intro h1 (And.intro n0 n1)))
 repeat' first|refine st ?_|(refine nx ?_;refine so ?_)|(refine cx ?_;refine sc (fun hc=>?_) (fun hc=>?_)<;>try exact hc.elim)|(refine lx ?_;refine sp (fun hc=>?_) (fun hc=>?_)<;>try exact hc.elim)|refine sx ?_ ?_|refine sy ?_ ?_|fail
 all_goals (try (refine ⟨.inr rfl,?_⟩;simp [Hands,Tryz.results11,bM]))
theorem aPy {a b:bC}:bF a=bF b↔a=b:=by
 obtain ⟨a1,a2⟩:=a
 obtain ⟨b1,b2⟩:=b
 simp
theorem pM (a b:bC):EqA Tryz.prog 25 (bF a) (bF b) (decide (a=b)):=
 xK (f:=6) (ss:=[.str,.str]) (by decide) (by kernel_rfl) (by kernel_rfl) (by kernel_rfl) (by kernel_rfl) (by simp [fK,kZ]) (by simp [fK,kZ]) (by rw [aPy,decide_eq_true_iff])
def uL (a x:bC):Bool:=decide (x=a)
theorem aFx [aB Tryz.prog] (l:List bC) (a:bC) (hl:l.length≤1099511627776):Ok Tryz.prog 120 [.sl .view 2 (l.map bF),.agg (bF a)] (.bool (l.any (uL a))):=by
 refine ent Tryz.mix Tryz.func120 Tryz.ntmps120 ?_
 have W:=trivial
 repeat' first|refine st ?_|(refine nx ?_;first|refine se ?_|refine so ?_)|(refine cx ?_;refine sc (fun hc=>?_) (fun hc=>?_)<;>try exact hc.elim)|(refine lx ?_;refine sp (fun hc=>?_) (fun hc=>?_)<;>try exact hc.elim)|refine sx ?_ ?_|refine sy ?_ ?_|fail
 refine aJ (ι:={k:Nat // k≤l.length∧∀x∈l.take k,uL a x=false}) (fun t o i=>⟨aL t [(5,.int .i64 i.1)],o⟩)
  (fun i=>l.length - i.1) ⟨0,by simp,by simp⟩ (aH (by simp) (by simp)) ?_
 rintro ⟨k,hk,hi⟩ K1 hK1
 simp only [aL,List.set_cons_succ,List.set_cons_zero] at hK1⊢
 have hk1:IntKind.i64.wrap ((k:Int)+1)=((k+1:Nat):Int):=by rw [wrap64]<;>omega
 by_cases hlt:k < l.length
 ·have hg:=List.getElem?_eq_getElem hlt
  have W:=And.intro hk1 (And.intro hg hlt)
  have c0:=pM l[k] a
  repeat' first|refine st ?_|(refine nx ?_;first|refine se ?_|refine so ?_)|(refine cx ?_;refine sc (fun hc=>?_) (fun hc=>?_)<;>try exact hc.elim)|(refine lx ?_;refine sp (fun hc=>?_) (fun hc=>?_)<;>try exact hc.elim)|refine sx ?_ ?_|refine sy ?_ ?_|fail
  ·all_goals (try (refine ⟨.inr rfl,?_⟩;simp [Hands,Tryz.results120]))
   refine ⟨_,List.getElem_mem hlt,by simpa [uL] using hc⟩
  ·exact hK1 _ ⟨k+1,by omega,dP hlt hi (by simpa [uL] using hc)⟩ (aG 1 (by simp) (by simp) (by simp) (by simp)) (by simp only;omega)
 ·have W:=hk1
  repeat' first|refine st ?_|(refine nx ?_;first|refine se ?_|refine so ?_)|(refine cx ?_;refine sc (fun hc=>?_) (fun hc=>?_)<;>try exact hc.elim)|(refine lx ?_;refine sp (fun hc=>?_) (fun hc=>?_)<;>try exact hc.elim)|refine sx ?_ ?_|refine sy ?_ ?_|fail
  all_goals (try (refine ⟨.inr rfl,?_⟩;simp [Hands,Tryz.results120]))
  have:=iP (by omega) hi
  simpa using this
def cmpAddr (a b:bC):Int:=if Lib.compareBytes a.host b.host≠0 then Lib.compareBytes a.host b.host else Lib.compareBytes a.path b.path
theorem oL:∀l:List UInt8,Op.bytesLess l l=false
 |[]=>rfl
 |x::l=>by simp [Op.bytesLess,oL l,UInt8.lt_irrefl]
theorem wV (a b:bC):cmpAddr a b=if a=b then 0 else if (Op.bytesLess a.host b.host || (a.host == b.host&&Op.bytesLess a.path b.path))=true then -1 else 1:=by
 unfold cmpAddr
 obtain ⟨h1,p1⟩:=a
 obtain ⟨h2,p2⟩:=b
 simp only [aMv,bC.mk.injEq]
 by_cases e1:h1=h2
 ·subst e1
  by_cases e2:p1=p2
  ·simp [e2]
  ·have:=oL h1
   simp [e2,this]
 ·cases hb:Op.bytesLess h1 h2<;>simp [e1,hb]
theorem zI [aB Tryz.prog] (a b:bC):Ok Tryz.prog 121 [.agg (bF a),.agg (bF b)] (.int .i64 (cmpAddr a b)):=by
 rw [wV]
 have c1:=pM a b
 by_cases he:a=b
 ·subst he
  simp only [bF,decide_true] at c1
  refine ent Tryz.mix Tryz.func121 Tryz.ntmps121 ?_
  have W:=trivial
  have c0:=c1
  repeat' first|refine st ?_|(refine nx ?_;first|refine se ?_|refine so ?_)|(refine cx ?_;refine sc (fun hc=>?_) (fun hc=>?_)<;>try exact hc.elim)|(refine lx ?_;refine sp (fun hc=>?_) (fun hc=>?_)<;>try exact hc.elim)|refine sx ?_ ?_|refine sy ?_ ?_|fail
  all_goals (try (refine ⟨.inr rfl,?_⟩;simp [Hands,Tryz.results121]))
 ·simp only [bF,he,decide_false] at c1
  simp only [he,if_false]
  cases h1:Op.bytesLess a.host b.host
  ·by_cases h2:a.host=b.host
   ·rw [h2] at c1
    have h0:=oL b.host
    cases h3:Op.bytesLess a.path b.path
    ·refine ent Tryz.mix Tryz.func121 Tryz.ntmps121 ?_
     have W:=And.intro h0 (And.intro h1 (And.intro h2 h3))
     have c0:=c1
     repeat' first|refine st ?_|(refine nx ?_;first|refine se ?_|refine so ?_)|(refine cx ?_;refine sc (fun hc=>?_) (fun hc=>?_)<;>try exact hc.elim)|(refine lx ?_;refine sp (fun hc=>?_) (fun hc=>?_)<;>try exact hc.elim)|refine sx ?_ ?_|refine sy ?_ ?_|fail
     all_goals (try (refine ⟨.inr rfl,?_⟩;simp [Hands,Tryz.results121,h0,h1,h2,h3]))
    ·refine ent Tryz.mix Tryz.func121 Tryz.ntmps121 ?_
     have W:=And.intro h0 (And.intro h1 (And.intro h2 h3))
     have c0:=c1
     repeat' first|refine st ?_|(refine nx ?_;first|refine se ?_|refine so ?_)|(refine cx ?_;refine sc (fun hc=>?_) (fun hc=>?_)<;>try exact hc.elim)|(refine lx ?_;refine sp (fun hc=>?_) (fun hc=>?_)<;>try exact hc.elim)|refine sx ?_ ?_|refine sy ?_ ?_|fail
     all_goals (try (refine ⟨.inr rfl,?_⟩;simp [Hands,Tryz.results121,h0,h1,h2,h3]))
   ·refine ent Tryz.mix Tryz.func121 Tryz.ntmps121 ?_
    have W:=And.intro h1 h2
    have c0:=c1
    repeat' first|refine st ?_|(refine nx ?_;first|refine se ?_|refine so ?_)|(refine cx ?_;refine sc (fun hc=>?_) (fun hc=>?_)<;>try exact hc.elim)|(refine lx ?_;refine sp (fun hc=>?_) (fun hc=>?_)<;>try exact hc.elim)|refine sx ?_ ?_|refine sy ?_ ?_|fail
    all_goals (try (refine ⟨.inr rfl,?_⟩;simp [Hands,Tryz.results121,h1,h2]))
  ·refine ent Tryz.mix Tryz.func121 Tryz.ntmps121 ?_
   have W:=h1
   have c0:=c1
   repeat' first|refine st ?_|(refine nx ?_;first|refine se ?_|refine so ?_)|(refine cx ?_;refine sc (fun hc=>?_) (fun hc=>?_)<;>try exact hc.elim)|(refine lx ?_;refine sp (fun hc=>?_) (fun hc=>?_)<;>try exact hc.elim)|refine sx ?_ ?_|refine sy ?_ ?_|fail
   all_goals (try (refine ⟨.inr rfl,?_⟩;simp [Hands,Tryz.results121,h1]))
end Go.Proofs.YtkidoegojckmiaaGreatDoor
