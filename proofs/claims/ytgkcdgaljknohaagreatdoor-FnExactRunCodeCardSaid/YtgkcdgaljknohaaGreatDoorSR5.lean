/-
  Proved here: steps towards the statement of this claim, text SR5.
  No condition beyond what each statement spells out.
-/
import Derived.Test.YtgkcdgaljknohaaGreatDoorST2
import Derived.Test.YtgkcdgaljknohaaGreatDoorF4
import Derived.Test.YtgkcdgaljknohaaGreatDoorSD1
import Derived.Test.YtgkcdgaljknohaaGreatDoorF5
set_option linter.all false
set_option maxRecDepth 4000
set_option maxHeartbeats 400000
namespace Go.Proofs.YtgkcdgaljknohaaGreatDoor
open Go.Aw
theorem stringsIndexByte_ok [Tabs Tryz.prog] (s:Str) (c:UInt8):Ok Tryz.prog 272 [.str s,.int .u8 c.toNat] (.int .i64 (ixI c s)):=by
 have h1:=indexByteString_ok s c
 refine ent Tryz.mix Tryz.func272 Tryz.ntmps272 ?_
 have W:=trivial
 repeat' first|refine wl ?_|refine sq (fun hc=>?_) fun hc=>?_|fail
 all_goals (try (refine ⟨.inr rfl,?_⟩;simp [Hands,Tryz.results272]))
theorem stringsIndex_ok [Tabs Tryz.prog] (s:Str) (c:UInt8):Ok Tryz.prog 267 [.str s,.str [c]] (.int .i64 (ixI c s)):=by
 have h1:=stringsIndexByte_ok s c
 refine ent Tryz.mix Tryz.func267 Tryz.ntmps267 ?_
 have W:=trivial
 repeat' first|refine wl ?_|refine sq (fun hc=>?_) fun hc=>?_|fail
 all_goals (try (refine ⟨.inr rfl,?_⟩;simp [Hands,Tryz.results267]))
 all_goals (subst hc;simp [ixI,ixB_cons])
theorem liteCut_ok [Tabs Tryz.prog] (s:Str) (c:UInt8) (hl:s.length≤1099511627776):Ok Tryz.prog 234 [.str s,.str [c]] (.tup [.str (s.take (ixB c s)),.str (s.drop (ixB c s+1)),.bool (decide (ixB c s < s.length))]):=by
 have h1:=stringsIndex_ok s c
 have hle:=ixB_le c s
 by_cases h:ixB c s < s.length
 ·have e:ixI c s=ixB c s:=if_pos h
  rw [e] at h1
  generalize ixB c s=k at *
  refine ent Tryz.mix Tryz.func234 Tryz.ntmps234 ?_
  have W:=h
  repeat' first|refine wl ?_|refine sq (fun hc=>?_) fun hc=>?_|fail
  all_goals (try (refine ⟨.inr rfl,?_⟩;simp [Hands,Tryz.results234]))
  all_goals simp_all
 ·have e:ixI c s= -1:=if_neg h
  rw [e] at h1
  have e2:ixB c s=s.length:=by omega
  rw [e2]
  refine ent Tryz.mix Tryz.func234 Tryz.ntmps234 ?_
  have W:=trivial
  repeat' first|refine wl ?_|refine sq (fun hc=>?_) fun hc=>?_|fail
  all_goals (try (refine ⟨.inr rfl,?_⟩;simp [Hands,Tryz.results234]))
  all_goals simp
theorem stringsCut_ok [Tabs Tryz.prog] (s:Str) (c:UInt8) (hl:s.length≤1099511627776):Ok Tryz.prog 183 [.str s,.str [c]] (.tup [.str (s.take (ixB c s)),.str (s.drop (ixB c s+1)),.bool (decide (ixB c s < s.length))]):=by
 have h1:=liteCut_ok s c hl
 refine ent Tryz.mix Tryz.func183 Tryz.ntmps183 ?_
 have W:=trivial
 repeat' first|refine wl ?_|refine sq (fun hc=>?_) fun hc=>?_|fail
 all_goals (try (refine ⟨.inr rfl,?_⟩;simp [Hands,Tryz.results183]))
end Go.Proofs.YtgkcdgaljknohaaGreatDoor

set_option maxRecDepth 4000
set_option maxHeartbeats 400000
namespace Go.Proofs.YtgkcdgaljknohaaGreatDoor
open Go.Aw
end Go.Proofs.YtgkcdgaljknohaaGreatDoor

set_option maxRecDepth 4000
set_option maxHeartbeats 4000000
namespace Go.Proofs.YtgkcdgaljknohaaGreatDoor
open Go.Aw
theorem split_hit {c:UInt8} {s:Str} {f i:Nat} (hf:f≤i) (hi:i < s.length) (hc:s[i]=c) (hn:∀x∈(s.take i).drop f,x≠c):segs c (s.drop f)=(s.take i).drop f::segs c (s.drop (i+1)):=by
 have e:s.drop f=(s.take i).drop f++c::s.drop (i+1):=by
  have h1:s=s.take i++s[i]::s.drop (i+1):=by simp
  conv=>lhs;rw [h1]
  rw [List.drop_append_of_le_length (by simp;omega),hc]
 rw [e,segs_cut c _ _ hn]
theorem split_end {c:UInt8} {s:Str} {f:Nat} (hn:∀x∈(s.take s.length).drop f,x≠c):segs c (s.drop f)=[(s.take s.length).drop f]:=by
 rw [List.take_length] at hn⊢
 exact segs_one c _ hn
theorem nocs_succ {c:UInt8} {s:Str} {f i:Nat} (hf:f≤i) (hi:i < s.length) (hc:s[i]≠c) (hn:∀x∈(s.take i).drop f,x≠c):∀x∈(s.take (i+1)).drop f,x≠c:=by
 rw [List.take_succ_eq_append_getElem hi,List.drop_append_of_le_length (by simp;omega)]
 intro x hx
 rcases List.mem_append.1 hx with h|h
 ·exact hn x h
 ·rw [List.mem_singleton.1 h];exact hc
theorem l5Split_ok [Tabs Tryz.prog] (s:Str) (c:UInt8) (hl:s.length≤1099511627776):Ok Tryz.prog 107 [.str s,.int .u8 c.toNat] (.sl .own 1 ((segs c s).map eStr)):=by
 refine ent Tryz.mix Tryz.func107 Tryz.ntmps107 ?_
 have W:=trivial
 repeat' first|refine wl ?_|(refine sq (fun hc=>?_) (fun hc=>?_)<;>try exact hc.elim)|fail
 refine awp_loop' (ι:={q:Nat×Nat×List Str×Nat // q.1≤s.length+1∧q.2.1≤q.1∧q.2.2.1.length≤q.1∧1≤q.2.2.2∧(q.1≤s.length→segs c s=q.2.2.1++segs c (s.drop q.2.1)∧∀x∈(s.take q.1).drop q.2.1,x≠c)∧(q.1=s.length+1→q.2.2.1=segs c s)})
  (fun t o i=>⟨upds t [(7,.int .i64 i.1.1),(6,.int .i64 i.1.2.1),(5,.obj 0 i.1.2.2.2)],[⟨true,false,1,i.1.2.2.2,i.1.2.2.1.map eStr⟩]⟩)
  (fun i=>s.length+1 - i.1.1) ⟨(0,0,[],1),by simp,by simp,by simp,by simp,by simp,by simp⟩ (weak_o (by simp) (by simp)) ?_
 rintro ⟨⟨k,f,out,v⟩,hk,hf,ho,hv,hin,hout⟩ K1 hK1
 simp only at hk hf ho hv hin hout
 simp only [upds,List.set_cons_succ,List.set_cons_zero] at hK1⊢
 have hk1:IntKind.i64.wrap ((k:Int)+1)=((k+1:Nat):Int):=by rw [wrap64]<;>omega
 by_cases h1:k=s.length+1
 ·have e:=hout h1
  subst e
  subst h1
  have W:=hk1
  repeat' first|refine wl ?_|(refine sq (fun hc=>?_) (fun hc=>?_)<;>try exact hc.elim)|fail
  all_goals (try (refine ⟨.inr rfl,?_⟩;simp [Hands,Tryz.results107]))
 ·have hle:k≤s.length:=by omega
  obtain ⟨g1,g2⟩:=hin hle
  by_cases h2:k=s.length
  ·subst h2
   have e:=split_end g2
   rw [e,List.take_length] at g1
   have W:=hk1
   repeat' first|refine wl ?_|(refine sq (fun hc=>?_) (fun hc=>?_)<;>try exact hc.elim)|fail
   exact hK1 _ ⟨(s.length+1,s.length+1,out++[s.drop f],v+1),by simp only;omega,by simp only;omega,by simp;omega,by simp only;omega,fun h=>by simp only at h;omega,fun _=>g1.symm⟩ (weak_take 1 (by simp) (by simp) (by simp) (by simp)) (by simp only;omega)
  ·have hlt:k < s.length:=by omega
   have hg:=List.getElem?_eq_getElem hlt
   have W:=And.intro hk1 (And.intro hg hlt)
   repeat' first|refine wl ?_|(refine sq (fun hc=>?_) (fun hc=>?_)<;>try exact hc.elim)|fail
   ·have hcc:s[k]=c:=UInt8.toNat_inj.1 (by omega)
    rw [split_hit hf hlt hcc g2] at g1
    exact hK1 _ ⟨(k+1,k+1,out++[(s.take k).drop f],v+1),by simp only;omega,by simp only;omega,by simp;omega,by simp only;omega,fun _=>⟨by rw [g1];simp,by simp⟩,fun h=>by simp only at h;omega⟩ (weak_take 1 (by simp) (by simp) (by simp) (by simp)) (by simp only;omega)
   ·have hcc:s[k]≠c:=fun h=>hc (by rw [h])
    exact hK1 _ ⟨(k+1,f,out,v),by simp only;omega,by simp only;omega,by simp only;omega,by simp only;omega,fun _=>⟨g1,nocs_succ hf hlt hcc g2⟩,fun h=>by simp only at h;omega⟩ (weak_take 1 (by simp) (by simp) (by simp) (by simp)) (by simp only;omega)
end Go.Proofs.YtgkcdgaljknohaaGreatDoor

set_option maxRecDepth 4000
set_option maxHeartbeats 4000000
namespace Go.Proofs.YtgkcdgaljknohaaGreatDoor
open Go.Aw
theorem l5Index_ok [Tabs Tryz.prog] (s:Str) (c:UInt8) (hl:s.length≤1099511627776):Ok Tryz.prog 177 [.str s,.int .u8 c.toNat] (.int .i64 (ixB c s:Nat)):=by
 refine ent Tryz.mix Tryz.func177 Tryz.ntmps177 ?_
 have W:=trivial
 repeat' first|refine we ?_|(refine sq (fun hc=>?_) (fun hc=>?_)<;>try exact hc.elim)|fail
 refine awp_loop' (ι:={k:Nat // k≤s.length∧∀x∈s.take k,x≠c}) (fun t o i=>⟨upds t [(5,.int .i64 i.1)],o⟩)
  (fun i=>s.length - i.1) ⟨0,by simp,by simp⟩ (weak_o (by simp) (by simp)) ?_
 rintro ⟨k,hk,hi⟩ K1 hK1
 simp only [upds,List.set_cons_succ,List.set_cons_zero] at hK1⊢
 have hk1:IntKind.i64.wrap ((k:Int)+1)=((k+1:Nat):Int):=by rw [wrap64]<;>omega
 by_cases hlt:k < s.length
 ·have hg:=List.getElem?_eq_getElem hlt
  have W:=And.intro hk1 (And.intro hg hlt)
  repeat' first|refine we ?_|(refine sq (fun hc=>?_) (fun hc=>?_)<;>try exact hc.elim)|fail
  ·have e:=ixB_at hlt (UInt8.toNat_inj.1 (by omega)) hi
   rw [e]
   all_goals (try (refine ⟨.inr rfl,?_⟩;simp [Hands,Tryz.results177]))
  ·exact hK1 _ ⟨k+1,by omega,take_succ_all hlt hi (fun h=>hc (by rw [h]))⟩ (weak_o (by simp) (by simp)) (by simp only;omega)
 ·have e:=ixB_none (take_all (by omega) hi)
  rw [e]
  have W:=hk1
  repeat' first|refine we ?_|(refine sq (fun hc=>?_) (fun hc=>?_)<;>try exact hc.elim)|fail
  all_goals (try (refine ⟨.inr rfl,?_⟩;simp [Hands,Tryz.results177]))
def pfx (p s:Str):Bool:=decide (p.length≤s.length)&&(s.take p.length == p)
theorem hasPrefix_ok [Tabs Tryz.prog] (s p:Str) (hl:s.length≤1099511627776) (hp:p.length≤1099511627776):Ok Tryz.prog 274 [.str s,.str p] (.bool (pfx p s)):=by
 by_cases h:p.length≤s.length
 ·have hi:(p.length:Int)≤(s.length:Int):=by omega
  have hr:pfx p s=(s.take p.length == p):=by simp [pfx,h]
  rw [hr]
  refine ent Tryz.mix Tryz.func274 Tryz.ntmps274 ?_
  have W:=And.intro h hi
  repeat' first|refine we ?_|(refine sq (fun hc=>?_) (fun hc=>?_)<;>try exact hc.elim)|fail
  all_goals (try (refine ⟨.inr rfl,?_⟩;simp [Hands,Tryz.results274]))
 ·have hi:¬(p.length:Int)≤(s.length:Int):=by omega
  have hr:pfx p s=false:=by simp [pfx,h]
  rw [hr]
  refine ent Tryz.mix Tryz.func274 Tryz.ntmps274 ?_
  have W:=And.intro h hi
  repeat' first|refine we ?_|(refine sq (fun hc=>?_) (fun hc=>?_)<;>try exact hc.elim)|fail
  all_goals (try (refine ⟨.inr rfl,?_⟩;simp [Hands,Tryz.results274]))
theorem pfx_le {p s:Str} (h:pfx p s=true):p.length≤s.length:=by
 simp only [pfx,Bool.and_eq_true,decide_eq_true_eq] at h
 exact h.1
theorem cutPrefixL_ok [Tabs Tryz.prog] (s p:Str) (hl:s.length≤1099511627776) (hp:p.length≤1099511627776):Ok Tryz.prog 249 [.str s,.str p] (.tup [.str (if pfx p s=true then s.drop p.length else s),.bool (pfx p s)]):=by
 have c1:=hasPrefix_ok s p hl hp
 have h1:= @pfx_le p s
 generalize pfx p s=b at *
 cases b
 ·refine ent Tryz.mix Tryz.func249 Tryz.ntmps249 ?_
  have W:=trivial
  repeat' first|refine we ?_|(refine sq (fun hc=>?_) (fun hc=>?_)<;>try exact hc.elim)|fail
  all_goals (try (refine ⟨.inr rfl,?_⟩;simp [Hands,Tryz.results249]))
 ·have h2:=h1 rfl
  refine ent Tryz.mix Tryz.func249 Tryz.ntmps249 ?_
  have W:=h2
  repeat' first|refine we ?_|(refine sq (fun hc=>?_) (fun hc=>?_)<;>try exact hc.elim)|fail
  all_goals (try (refine ⟨.inr rfl,?_⟩;simp [Hands,Tryz.results249]))
theorem cutPrefix_ok [Tabs Tryz.prog] (s p:Str) (hl:s.length≤1099511627776) (hp:p.length≤1099511627776):Ok Tryz.prog 212 [.str s,.str p] (.tup [.str (if pfx p s=true then s.drop p.length else s),.bool (pfx p s)]):=by
 have c1:=cutPrefixL_ok s p hl hp
 generalize (if pfx p s=true then s.drop p.length else s)=q at *
 generalize pfx p s=b at *
 refine ent Tryz.mix Tryz.func212 Tryz.ntmps212 ?_
 have W:=trivial
 repeat' first|refine we ?_|(refine sq (fun hc=>?_) (fun hc=>?_)<;>try exact hc.elim)|fail
 all_goals (try (refine ⟨.inr rfl,?_⟩;simp [Hands,Tryz.results212]))
end Go.Proofs.YtgkcdgaljknohaaGreatDoor

set_option maxRecDepth 4000
set_option maxHeartbeats 4000000
namespace Go.Proofs.YtgkcdgaljknohaaGreatDoor
open Go.Aw
def valueB (c:UInt8):Bool:=(decide (97≤c.toNat)&&decide (c.toNat≤122)) || (decide (48≤c.toNat)&&decide (c.toNat≤57)) || decide (c.toNat=47)
def isValue (s:Str):Bool:=s.all valueB&&(decide (1≤s.length)&&decide (s.length≤20))
theorem value_no {s:Str} {k:Nat} (h:k < s.length) (hc:valueB s[k]=false):isValue s=false:=by
 have:s.all valueB=false:=by
  rw [List.all_eq_false]
  exact ⟨s[k],List.getElem_mem h,by simp [hc]⟩
 simp [isValue,this]
theorem value_end {s:Str} (h:∀x∈s,valueB x=true):isValue s=(decide ((1:Int)≤s.length)&&decide ((s.length:Int)≤20)):=by
 have:s.all valueB=true:=List.all_eq_true.2 h
 have h1:decide ((1:Int)≤s.length)=decide (1≤s.length):=by simp only [decide_eq_decide];omega
 have h2:decide ((s.length:Int)≤20)=decide (s.length≤20):=by simp only [decide_eq_decide];omega
 rw [isValue,this,h1,h2,Bool.true_and]
theorem specIsValue_ok [Tabs Tryz.prog] (s : Str) (hl : s.length ≤ 1099511627776) : Ok Tryz.prog 229 [.str s] (.bool (isValue s)) := by
  have h1 := specIn_ok s.length 1 20
  refine ent Tryz.mix Tryz.func229 Tryz.ntmps229 ?_
  have W := trivial
  repeat' first|refine we ?_|(refine sq (fun hc=>?_) (fun hc=>?_)<;>try exact hc.elim)|fail
  refine awp_loop' (ι := { k : Nat // k ≤ s.length ∧ ∀ x ∈ s.take k, valueB x = true }) (fun t o i => ⟨upds t [(3, .int .i64 i.1)], o⟩)
    (fun i => s.length - i.1) ⟨0, by simp, by simp⟩ (weak_o (by simp) (by simp)) ?_
  rintro ⟨k, hk, hi⟩ K1 hK1
  simp only [upds, List.set_cons_succ, List.set_cons_zero] at hK1 ⊢
  have hk1 : IntKind.i64.wrap ((k : Int) + 1) = ((k + 1 : Nat) : Int) := by rw [wrap64] <;> omega
  by_cases hlt : k < s.length
  · have hg := List.getElem?_eq_getElem hlt
    have W := And.intro hk1 (And.intro hg hlt)
    repeat' first|refine we ?_|(refine sq (fun hc=>?_) (fun hc=>?_)<;>try exact hc.elim)|fail
    all_goals first
      | exact hK1 _ ⟨k + 1, by omega, take_succ_all hlt hi (by simp [valueB]; omega)⟩ (weak_o (by simp) (by simp)) (by simp only; omega)
      | (rw [value_no hlt (by simp [valueB]; omega)]
         all_goals (try (refine ⟨.inr rfl, ?_⟩; simp [Hands, Tryz.results229]))
         done)
  · have W := hk1
    repeat' first|refine we ?_|(refine sq (fun hc=>?_) (fun hc=>?_)<;>try exact hc.elim)|fail
    all_goals (try (refine ⟨.inr rfl, ?_⟩; simp [Hands, Tryz.results229]))
    rw [value_end (take_all (by omega) hi)]
theorem implIsValue_ok [Tabs Tryz.prog] (s : Str) (hl : s.length ≤ 1099511627776) : Ok Tryz.prog 273 [.str s] (.bool (isValue s)) := by
  have h1 := implIn_ok s.length 1 20
  refine ent Tryz.mix Tryz.func273 Tryz.ntmps273 ?_
  have W := trivial
  repeat' first|refine we ?_|(refine sq (fun hc=>?_) (fun hc=>?_)<;>try exact hc.elim)|fail
  refine awp_loop' (ι := { k : Nat // k ≤ s.length ∧ ∀ x ∈ s.take k, valueB x = true }) (fun t o i => ⟨upds t [(3, .int .i64 i.1)], o⟩)
    (fun i => s.length - i.1) ⟨0, by simp, by simp⟩ (weak_o (by simp) (by simp)) ?_
  rintro ⟨k, hk, hi⟩ K1 hK1
  simp only [upds, List.set_cons_succ, List.set_cons_zero] at hK1 ⊢
  have hk1 : IntKind.i64.wrap ((k : Int) + 1) = ((k + 1 : Nat) : Int) := by rw [wrap64] <;> omega
  by_cases hlt : k < s.length
  · have hg := List.getElem?_eq_getElem hlt
    have W := And.intro hk1 (And.intro hg hlt)
    repeat' first|refine we ?_|(refine sq (fun hc=>?_) (fun hc=>?_)<;>try exact hc.elim)|fail
    all_goals first
      | exact hK1 _ ⟨k + 1, by omega, take_succ_all hlt hi (by simp [valueB]; omega)⟩ (weak_o (by simp) (by simp)) (by simp only; omega)
      | (rw [value_no hlt (by simp [valueB]; omega)]
         all_goals (try (refine ⟨.inr rfl, ?_⟩; simp [Hands, Tryz.results273]))
         done)
  · have W := hk1
    repeat' first|refine we ?_|(refine sq (fun hc=>?_) (fun hc=>?_)<;>try exact hc.elim)|fail
    all_goals (try (refine ⟨.inr rfl, ?_⟩; simp [Hands, Tryz.results273]))
    rw [value_end (take_all (by omega) hi)]
end Go.Proofs.YtgkcdgaljknohaaGreatDoor
