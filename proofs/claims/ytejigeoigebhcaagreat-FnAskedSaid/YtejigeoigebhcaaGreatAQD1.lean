/-
  Proved here: contracts of the library's Itoa and Join, and of FormatInt in the reference and in the program.
  No condition beyond what each statement spells out.
-/
import Derived.Test.YtejigeoigebhcaaGreatAQA0
import Derived.Test.YtejigeoigebhcaaGreatAYShelf
import Derived.Test.YtejigeoigebhcaaGreatAF5
import Derived.Test.YtejigeoigebhcaaGreatAR6
set_option linter.all false
set_option maxRecDepth 4000
set_option maxHeartbeats 4000000
namespace Go.Proofs.YtejigeoigebhcaaGreat
open Go.Aw
theorem aLp {c:UInt8} {s:Str} {f i:Nat} (hf:f≤i) (hi:i < s.length) (hc:s[i]=c) (hn:∀x∈(s.take i).drop f,x≠c):bF c (s.drop f)=(s.take i).drop f::bF c (s.drop (i+1)):=by
 have e:s.drop f=(s.take i).drop f++c::s.drop (i+1):=by
  have h1:s=s.take i++s[i]::s.drop (i+1):=by simp
  conv=>lhs;rw [h1]
  rw [List.drop_append_of_le_length (by simp;omega),hc]
 rw [e,aAf c _ _ hn]
theorem aK9 {c:UInt8} {s:Str} {f:Nat} (hn:∀x∈(s.take s.length).drop f,x≠c):bF c (s.drop f)=[(s.take s.length).drop f]:=by
 rw [List.take_length] at hn⊢
 exact vZ c _ hn
theorem aKr {c:UInt8} {s:Str} {f i:Nat} (hf:f≤i) (hi:i < s.length) (hc:s[i]≠c) (hn:∀x∈(s.take i).drop f,x≠c):∀x∈(s.take (i+1)).drop f,x≠c:=by
 rw [List.take_succ_eq_append_getElem hi,List.drop_append_of_le_length (by simp;omega)]
 intro x hx
 rcases List.mem_append.1 hx with h|h
 ·exact hn x h
 ·rw [List.mem_singleton.1 h];exact hc
theorem rO [aB Tryz.prog] (s:Str) (c:UInt8) (hl:s.length≤1099511627776):Ok Tryz.prog 114 [.str s,.int .u8 c.toNat] (.sl .own 1 ((bF c s).map bS)):=by
 refine ent Tryz.mix Tryz.func114 Tryz.ntmps114 ?_
 have W:=trivial
 repeat' first|refine st ?_|(refine nx ?_;refine so ?_)|(refine cx ?_;refine sc (fun hc=>?_) (fun hc=>?_)<;>try exact hc.elim)|(refine lx ?_;refine sp (fun hc=>?_) (fun hc=>?_)<;>try exact hc.elim)|refine sx ?_ ?_|refine sy ?_ ?_|fail
 refine aQ (ι:={q:Nat×Nat×List Str×Nat // q.1≤s.length+1∧q.2.1≤q.1∧q.2.2.1.length≤q.1∧1≤q.2.2.2∧(q.1≤s.length→bF c s=q.2.2.1++bF c (s.drop q.2.1)∧∀x∈(s.take q.1).drop q.2.1,x≠c)∧(q.1=s.length+1→q.2.2.1=bF c s)})
  (fun t o i=>⟨bB t [(7,.int .i64 i.1.1),(6,.int .i64 i.1.2.1),(5,.obj 0 i.1.2.2.2)],[⟨true,false,1,i.1.2.2.2,i.1.2.2.1.map bS⟩]⟩)
  (fun i=>s.length+1 - i.1.1) ⟨(0,0,[],1),by simp,by simp,by simp,by simp,by simp,by simp⟩ (aY (by simp) (by simp)) ?_
 rintro ⟨⟨k,f,out,v⟩,hk,hf,ho,hv,hin,hout⟩ K1 hK1
 simp only at hk hf ho hv hin hout
 simp only [bB,List.set_cons_succ,List.set_cons_zero] at hK1⊢
 have hk1:IntKind.i64.wrap ((k:Int)+1)=((k+1:Nat):Int):=by rw [wrap64]<;>omega
 by_cases h1:k=s.length+1
 ·have e:=hout h1
  subst e
  subst h1
  have W:=hk1
  repeat' first|refine st ?_|(refine nx ?_;refine so ?_)|(refine cx ?_;refine sc (fun hc=>?_) (fun hc=>?_)<;>try exact hc.elim)|(refine lx ?_;refine sp (fun hc=>?_) (fun hc=>?_)<;>try exact hc.elim)|refine sx ?_ ?_|refine sy ?_ ?_|fail
  all_goals (try (refine ⟨.inr rfl,?_⟩;simp [Hands,Tryz.results114]))
 ·have hle:k≤s.length:=by omega
  obtain ⟨g1,g2⟩:=hin hle
  by_cases h2:k=s.length
  ·subst h2
   have e:=aK9 g2
   rw [e,List.take_length] at g1
   have W:=hk1
   repeat' first|refine st ?_|(refine nx ?_;refine so ?_)|(refine cx ?_;refine sc (fun hc=>?_) (fun hc=>?_)<;>try exact hc.elim)|(refine lx ?_;refine sp (fun hc=>?_) (fun hc=>?_)<;>try exact hc.elim)|refine sx ?_ ?_|refine sy ?_ ?_|fail
   exact hK1 _ ⟨(s.length+1,s.length+1,out++[s.drop f],v+1),by simp only;omega,by simp only;omega,by simp;omega,by simp only;omega,fun h=>by simp only at h;omega,fun _=>g1.symm⟩ (aW 1 (by simp) (by simp) (by simp) (by simp)) (by simp only;omega)
  ·have hlt:k < s.length:=by omega
   have hg:=List.getElem?_eq_getElem hlt
   have W:=And.intro hk1 (And.intro hg hlt)
   repeat' first|refine st ?_|(refine nx ?_;refine so ?_)|(refine cx ?_;refine sc (fun hc=>?_) (fun hc=>?_)<;>try exact hc.elim)|(refine lx ?_;refine sp (fun hc=>?_) (fun hc=>?_)<;>try exact hc.elim)|refine sx ?_ ?_|refine sy ?_ ?_|fail
   ·have hcc:s[k]=c:=UInt8.toNat_inj.1 (by omega)
    rw [aLp hf hlt hcc g2] at g1
    exact hK1 _ ⟨(k+1,k+1,out++[(s.take k).drop f],v+1),by simp only;omega,by simp only;omega,by simp;omega,by simp only;omega,fun _=>⟨by rw [g1];simp,by simp⟩,fun h=>by simp only at h;omega⟩ (aW 1 (by simp) (by simp) (by simp) (by simp)) (by simp only;omega)
   ·have hcc:s[k]≠c:=fun h=>hc (by rw [h])
    exact hK1 _ ⟨(k+1,f,out,v),by simp only;omega,by simp only;omega,by simp only;omega,by simp only;omega,fun _=>⟨g1,aKr hf hlt hcc g2⟩,fun h=>by simp only at h;omega⟩ (aW 1 (by simp) (by simp) (by simp) (by simp)) (by simp only;omega)
end Go.Proofs.YtejigeoigebhcaaGreat
