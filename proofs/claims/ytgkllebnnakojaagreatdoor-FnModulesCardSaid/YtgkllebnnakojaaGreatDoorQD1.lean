/-
  Proved here: contracts of the library's Itoa and Join, and of FormatInt in the reference and in the program.
  No condition beyond what each statement spells out.
-/
import Derived.Test.YtgkllebnnakojaaGreatDoorQA0
import Derived.Test.YtgkllebnnakojaaGreatDoorYShelf
import Derived.Test.YtgkllebnnakojaaGreatDoorF5
import Derived.Test.YtgkllebnnakojaaGreatDoorQY1
set_option linter.all false
set_option maxRecDepth 4000
set_option maxHeartbeats 4000000
namespace Go.Proofs.YtgkllebnnakojaaGreatDoor
open Go.Aw
theorem aDn [aB Tryz.prog] (n:Int) (h: -9223372036854775808≤n∧n≤9223372036854775807):Ok Tryz.prog 142 [.int .i64 n] (.str (Lib.itoa n)):=by
 by_cases h0:n=0
 ·subst h0
  refine ent Tryz.mix Tryz.func142 Tryz.ntmps142 ?_
  have W:=trivial
  repeat' first|refine st ?_|(refine nx ?_;refine so ?_)|(refine cx ?_;refine sc (fun hc=>?_) (fun hc=>?_)<;>try exact hc.elim)|(refine lx ?_;refine sp (fun hc=>?_) (fun hc=>?_)<;>try exact hc.elim)|refine sx ?_ ?_|refine sy ?_ ?_|fail
  all_goals (try (refine ⟨.inr rfl,?_⟩;simp [Hands,Tryz.results142]))
  all_goals exact aQ3.symm
 ·refine ent Tryz.mix Tryz.func142 Tryz.ntmps142 ?_
  have W:=h0
  repeat' first|refine st ?_|(refine nx ?_;refine so ?_)|(refine cx ?_;refine sc (fun hc=>?_) (fun hc=>?_)<;>try exact hc.elim)|(refine lx ?_;refine sp (fun hc=>?_) (fun hc=>?_)<;>try exact hc.elim)|refine sx ?_ ?_|refine sy ?_ ?_|fail
  refine aT (ι:={p:Int×Str // (-9223372036854775808≤p.1∧p.1≤9223372036854775807)∧pG p.1.natAbs++p.2=pG n.natAbs}) (fun t o i=>⟨bB t [(4,.int .i64 i.1.1),(3,.str i.1.2),(5,.undef)],o⟩)
   (fun i=>i.1.1.natAbs) ⟨(n,[]),h,by simp⟩ (aI (by simp) (by simp)) ?_
  rintro ⟨⟨x,s⟩,⟨hx1,hx2⟩,hi⟩ K1 hK1
  simp only [bB,List.set_cons_succ,List.set_cons_zero] at hK1 hx1 hx2 hi⊢
  have hsl:=congrArg List.length hi
  have hnl:=aTb n h.1 h.2
  rw [List.length_append] at hsl
  have hs1:1+s.length≤9223372036854775807:=by omega
  have hs2:s.length≤9223372036854775806:=by omega
  clear hsl hnl
  by_cases hx:x=0
  ·subst hx
   have hs:s=pG n.natAbs:=by simpa [pG] using hi
   have W:=And.intro hs1 hs2
   repeat' first|refine st ?_|(refine nx ?_;refine so ?_)|(refine cx ?_;refine sc (fun hc=>?_) (fun hc=>?_)<;>try exact hc.elim)|(refine lx ?_;refine sp (fun hc=>?_) (fun hc=>?_)<;>try exact hc.elim)|refine sx ?_ ?_|refine sy ?_ ?_|fail
   ·all_goals (try (refine ⟨.inr rfl,?_⟩;simp [Hands,Tryz.results142]))
    exact (itoa_neg (by omega) hs).symm
   ·all_goals (try (refine ⟨.inr rfl,?_⟩;simp [Hands,Tryz.results142]))
    exact (aRo h0 (by omega) hs).symm
  ·obtain ⟨r,q,hr0,hr9,hq,hq1,hq2,hqa,hr,ht⟩:=aNy x hx1 hx2
   have hp:=aPt x.natAbs (by omega)
   have hu8:=aWn (48+r) (by omega) (by omega)
   have hb:UInt8.ofNat (48+r).toNat=UInt8.ofNat (48+x.natAbs % 10):=by congr 1;omega
   have hi2:pG q.natAbs++UInt8.ofNat (48+r).toNat::s=pG n.natAbs:=by rw [←hi,hp,hqa,hb];simp
   have hm:q.natAbs < x.natAbs:=by omega
   clear hr hb hp
   rcases ht with ht|⟨ht,hrp⟩
   ·have W:=And.intro hx (And.intro ht (And.intro hq (And.intro hu8 (And.intro hs1 hs2))))
    repeat' first|refine st ?_|(refine nx ?_;refine so ?_)|(refine cx ?_;refine sc (fun hc=>?_) (fun hc=>?_)<;>try exact hc.elim)|(refine lx ?_;refine sp (fun hc=>?_) (fun hc=>?_)<;>try exact hc.elim)|refine sx ?_ ?_|refine sy ?_ ?_|fail
    refine hK1 _ ⟨(q,UInt8.ofNat (48+r).toNat::s),⟨hq1,hq2⟩,hi2⟩ (aO 0 (by simp) (by simp) (by simp) (by simp)) (by simp only;omega)
   ·have W:=And.intro hx (And.intro ht (And.intro hq (And.intro hu8 (And.intro hs1 hs2))))
    repeat' first|refine st ?_|(refine nx ?_;refine so ?_)|(refine cx ?_;refine sc (fun hc=>?_) (fun hc=>?_)<;>try exact hc.elim)|(refine lx ?_;refine sp (fun hc=>?_) (fun hc=>?_)<;>try exact hc.elim)|refine sx ?_ ?_|refine sy ?_ ?_|fail
    refine hK1 _ ⟨(q,UInt8.ofNat (48+r).toNat::s),⟨hq1,hq2⟩,hi2⟩ (aO 0 (by simp) (by simp) (by simp) (by simp)) (by simp only;omega)
theorem aQ5 {c:UInt8} {s:Str} {f i:Nat} (hf:f≤i) (hi:i < s.length) (hc:s[i]=c) (hn:∀x∈(s.take i).drop f,x≠c):bA c (s.drop f)=(s.take i).drop f::bA c (s.drop (i+1)):=by
 have e:s.drop f=(s.take i).drop f++c::s.drop (i+1):=by
  have h1:s=s.take i++s[i]::s.drop (i+1):=by simp
  conv=>lhs;rw [h1]
  rw [List.drop_append_of_le_length (by simp;omega),hc]
 rw [e,aDb c _ _ hn]
theorem aQp {c:UInt8} {s:Str} {f:Nat} (hn:∀x∈(s.take s.length).drop f,x≠c):bA c (s.drop f)=[(s.take s.length).drop f]:=by
 rw [List.take_length] at hn⊢
 exact aC4 c _ hn
theorem aPw {c:UInt8} {s:Str} {f i:Nat} (hf:f≤i) (hi:i < s.length) (hc:s[i]≠c) (hn:∀x∈(s.take i).drop f,x≠c):∀x∈(s.take (i+1)).drop f,x≠c:=by
 rw [List.take_succ_eq_append_getElem hi,List.drop_append_of_le_length (by simp;omega)]
 intro x hx
 rcases List.mem_append.1 hx with h|h
 ·exact hn x h
 ·rw [List.mem_singleton.1 h];exact hc
theorem aEo [aB Tryz.prog] (s:Str) (c:UInt8) (hl:s.length≤1099511627776):Ok Tryz.prog 131 [.str s,.int .u8 c.toNat] (.sl .own 1 ((bA c s).map bZ)):=by
 refine ent Tryz.mix Tryz.func131 Tryz.ntmps131 ?_
 have W:=trivial
 repeat' first|refine st ?_|(refine nx ?_;refine so ?_)|(refine cx ?_;refine sc (fun hc=>?_) (fun hc=>?_)<;>try exact hc.elim)|(refine lx ?_;refine sp (fun hc=>?_) (fun hc=>?_)<;>try exact hc.elim)|refine sx ?_ ?_|refine sy ?_ ?_|fail
 refine aT (ι:={q:Nat×Nat×List Str×Nat // q.1≤s.length+1∧q.2.1≤q.1∧q.2.2.1.length≤q.1∧1≤q.2.2.2∧(q.1≤s.length→bA c s=q.2.2.1++bA c (s.drop q.2.1)∧∀x∈(s.take q.1).drop q.2.1,x≠c)∧(q.1=s.length+1→q.2.2.1=bA c s)})
  (fun t o i=>⟨bB t [(7,.int .i64 i.1.1),(6,.int .i64 i.1.2.1),(5,.obj 0 i.1.2.2.2)],[⟨true,false,1,i.1.2.2.2,i.1.2.2.1.map bZ⟩]⟩)
  (fun i=>s.length+1 - i.1.1) ⟨(0,0,[],1),by simp,by simp,by simp,by simp,by simp,by simp⟩ (aI (by simp) (by simp)) ?_
 rintro ⟨⟨k,f,out,v⟩,hk,hf,ho,hv,hin,hout⟩ K1 hK1
 simp only at hk hf ho hv hin hout
 simp only [bB,List.set_cons_succ,List.set_cons_zero] at hK1⊢
 have hk1:IntKind.i64.wrap ((k:Int)+1)=((k+1:Nat):Int):=by rw [wrap64]<;>omega
 by_cases h1:k=s.length+1
 ·have e:=hout h1
  subst e
  subst h1
  have W:=hk1
  repeat' first|refine st ?_|(refine nx ?_;refine so ?_)|(refine cx ?_;refine sc (fun hc=>?_) (fun hc=>?_)<;>try exact hc.elim)|(refine lx ?_;refine sp (fun hc=>?_) (fun hc=>?_)<;>try exact hc.elim)|refine sx ?_ ?_|refine sy ?_ ?_|fail
  all_goals (try (refine ⟨.inr rfl,?_⟩;simp [Hands,Tryz.results131]))
 ·have hle:k≤s.length:=by omega
  obtain ⟨g1,g2⟩:=hin hle
  by_cases h2:k=s.length
  ·subst h2
   have e:=aQp g2
   rw [e,List.take_length] at g1
   have W:=hk1
   repeat' first|refine st ?_|(refine nx ?_;refine so ?_)|(refine cx ?_;refine sc (fun hc=>?_) (fun hc=>?_)<;>try exact hc.elim)|(refine lx ?_;refine sp (fun hc=>?_) (fun hc=>?_)<;>try exact hc.elim)|refine sx ?_ ?_|refine sy ?_ ?_|fail
   exact hK1 _ ⟨(s.length+1,s.length+1,out++[s.drop f],v+1),by simp only;omega,by simp only;omega,by simp;omega,by simp only;omega,fun h=>by simp only at h;omega,fun _=>g1.symm⟩ (aO 1 (by simp) (by simp) (by simp) (by simp)) (by simp only;omega)
  ·have hlt:k < s.length:=by omega
   have hg:=List.getElem?_eq_getElem hlt
   have W:=And.intro hk1 (And.intro hg hlt)
   repeat' first|refine st ?_|(refine nx ?_;refine so ?_)|(refine cx ?_;refine sc (fun hc=>?_) (fun hc=>?_)<;>try exact hc.elim)|(refine lx ?_;refine sp (fun hc=>?_) (fun hc=>?_)<;>try exact hc.elim)|refine sx ?_ ?_|refine sy ?_ ?_|fail
   ·have hcc:s[k]=c:=UInt8.toNat_inj.1 (by omega)
    rw [aQ5 hf hlt hcc g2] at g1
    exact hK1 _ ⟨(k+1,k+1,out++[(s.take k).drop f],v+1),by simp only;omega,by simp only;omega,by simp;omega,by simp only;omega,fun _=>⟨by rw [g1];simp,by simp⟩,fun h=>by simp only at h;omega⟩ (aO 1 (by simp) (by simp) (by simp) (by simp)) (by simp only;omega)
   ·have hcc:s[k]≠c:=fun h=>hc (by rw [h])
    exact hK1 _ ⟨(k+1,f,out,v),by simp only;omega,by simp only;omega,by simp only;omega,by simp only;omega,fun _=>⟨g1,aPw hf hlt hcc g2⟩,fun h=>by simp only at h;omega⟩ (aO 1 (by simp) (by simp) (by simp) (by simp)) (by simp only;omega)
end Go.Proofs.YtgkllebnnakojaaGreatDoor
