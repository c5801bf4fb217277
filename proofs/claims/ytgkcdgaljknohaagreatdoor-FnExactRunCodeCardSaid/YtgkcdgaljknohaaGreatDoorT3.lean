/-
  Proved here: steps towards the statement of this claim, text T3.
  No condition beyond what each statement spells out.
-/
import Derived.Test.YtgkcdgaljknohaaGreatDoorST2
import Derived.Test.YtgkcdgaljknohaaGreatDoorS1
set_option linter.all false
set_option maxRecDepth 4000
set_option maxHeartbeats 4000000
namespace Go.Proofs.YtgkcdgaljknohaaGreatDoor
open Go.Aw
def rKey (p:Str):Str:=p.take (ixB 58 p)
def rVal (p:Str):Str:=p.drop (ixB 58 p+1)
def ruleOf (p:Str):Option DRule:=match pInt (rVal p) with
 |some v=>if isName (rKey p)=true∧1≤v∧v≤999 then some ⟨rKey p,v⟩ else none
 |none=>none
def rulesOf (l:List Str):List DRule:=(l.filterMap ruleOf).take 8
def parseSheet (s:Str):DSheet:=⟨rulesOf (segs 59 s)⟩
theorem ruleOf_no {p:Str} (h:pInt (rVal p)=none):ruleOf p=none:=by rw [ruleOf,h]
theorem ruleOf_name {p:Str} (h:isName (rKey p)=false):ruleOf p=none:=by
 unfold ruleOf
 split
 ·rw [if_neg (by simp [h])]
 ·rfl
theorem ruleOf_out {p:Str} {v:Int} (h:pInt (rVal p)=some v) (h1:¬(1≤v∧v≤999)):ruleOf p=none:=by
 rw [ruleOf,h];exact if_neg (fun h=>h1 h.2)
theorem ruleOf_yes {p:Str} {v:Int} (h:pInt (rVal p)=some v) (hn:isName (rKey p)=true) (h1:1≤v∧v≤999):ruleOf p=some ⟨rKey p,v⟩:=by
 rw [ruleOf,h];exact if_pos ⟨hn,h1⟩
theorem rules_none {l:List Str} {k:Nat} (h:k < l.length) (hr:ruleOf l[k]=none):rulesOf (l.take (k+1))=rulesOf (l.take k):=by
 unfold rulesOf
 rw [List.take_succ_eq_append_getElem h,List.filterMap_append]
 simp [hr]
theorem rules_some {l:List Str} {k:Nat} {r:DRule} (h:k < l.length) (hr:ruleOf l[k]=some r) (h8:(rulesOf (l.take k)).length < 8):rulesOf (l.take (k+1))=rulesOf (l.take k)++[r]:=by
 unfold rulesOf at *
 rw [List.take_succ_eq_append_getElem h,List.filterMap_append]
 simp only [List.length_take] at h8
 simp only [List.filterMap_cons,hr,List.filterMap_nil]
 generalize (l.take k).filterMap ruleOf=x at *
 rw [List.take_of_length_le (l:=x++[r]) (by simp;omega),List.take_of_length_le (l:=x) (by omega)]
theorem rules_full {l:List Str} {k:Nat} (h8:¬(rulesOf (l.take k)).length < 8):rulesOf l=rulesOf (l.take k):=by
 unfold rulesOf at *
 conv=>lhs;rw [←List.take_append_drop k l,List.filterMap_append]
 simp only [List.length_take] at h8
 rw [List.take_append_of_le_length (by omega)]
theorem rules_full1 {l:List Str} {k:Nat} (h8:¬(rulesOf (l.take k)).length < 8):rulesOf (l.take (k+1))=rulesOf (l.take k):=by
 have:= @rules_full (l.take (k+1)) k
 rw [List.take_take,Nat.min_eq_left (by omega)] at this
 exact this h8
theorem rules_le (l:List Str):(rulesOf l).length≤8:=by unfold rulesOf;simp;omega
theorem rVal_colon {p:Str} {x:UInt8} (hx:x∈rVal p) (h:x=58):pInt (rVal p)=none:=by
 obtain ⟨k,hk,e⟩:=List.mem_iff_getElem.1 hx
 refine pInt_bad hk ?_
 rw [e,h];decide
theorem segs58 (p:Str):(segs 58 p=[rKey p,rVal p])∨((segs 58 p).length≠2∧ruleOf p=none):=by
 rw [segs_first1]
 by_cases h:ixB 58 p < p.length
 ·rw [if_pos h]
  by_cases h2:∀x∈rVal p,x≠58
  ·left
   rw [show p.drop (ixB 58 p+1)=rVal p from rfl,segs_one _ _ h2];rfl
  ·right
   have ⟨x,hx⟩:=Classical.not_forall.1 h2
   have ⟨hm,hne⟩:=Classical.not_imp.1 hx
   have hx58:=Classical.not_not.1 hne
   refine ⟨?_,ruleOf_no (rVal_colon hm hx58)⟩
   rw [show p.drop (ixB 58 p+1)=rVal p from rfl,List.length_cons,segs_length]
   have:0 < (rVal p).count 58:=List.count_pos_iff.2 (hx58▸hm)
   omega
 ·right
  rw [if_neg h]
  refine ⟨by simp,ruleOf_no ?_⟩
  have e:rVal p=[]:=by
   unfold rVal
   exact List.drop_eq_nil_of_le (by omega)
  rw [e]
  exact pInt_long (by simp)
theorem implParseSheet_ok [Tabs Tryz.prog] [HasMax Tryz.prog] [HasPow Tryz.prog] [HasErr Tryz.prog] (s:Str) (hl:s.length≤1073741824):Ok Tryz.prog 187 [.str s] (.agg (eSheet .own (parseSheet s))):=by
 have cS:=splitS_ok s 59 (by omega)
 have hsm:=segs_sumS 59 s
 have hsl:=segs_length 59 s
 have hcn:s.count 59≤s.length:=List.count_le_length
 unfold parseSheet
 generalize segs 59 s=l at *
 have hll:l.length≤1073741825:=by omega
 simp only [eSheet]
 refine ent Tryz.mix Tryz.func187 Tryz.ntmps187 ?_
 have W:=trivial
 repeat' first|refine we ?_|(refine sq (fun hc=>?_) (fun hc=>?_)<;>try exact hc.elim)|fail
 refine awp_loop' (ι:={q:Nat×Nat×List DRule // (q.1≤l.length∧1≤q.2.1)∧q.2.2=rulesOf (l.take q.1)}) (fun t o i=>⟨upds t [(15,.int .i64 i.1.1),(11,.undef)],o.take 1++[⟨true,true,1,0,[[.obj 3 i.1.2.1]]⟩,⟨true,false,1,1,l.map eStr⟩,⟨true,false,2,i.1.2.1,i.1.2.2.map eRule⟩]⟩)
  (fun i=>l.length - i.1.1) ⟨(0,1,[]),by simp,by simp [rulesOf]⟩ (weak_openB 1 0 0 (ob:=⟨true,true,1,0,[[.sl .own 2 []]]⟩) (by rfl) (by rfl) (by rfl) (by simp) (by rfl) (by rfl) (by simp) (by simp [rtc,rt,dropf])) ?_
 rintro ⟨⟨k,v,acc⟩,⟨hk,hv⟩,hacc⟩ K1 hK1
 simp only at hk hv hacc
 simp only [upds,List.set_cons_succ,List.set_cons_zero,List.take_succ_cons,List.take_zero,List.cons_append,List.nil_append] at hK1⊢
 have hk1:IntKind.i64.wrap ((k:Int)+1)=((k+1:Nat):Int):=by rw [wrap64]<;>omega
 by_cases hlt:k < l.length
 ·have hg:=List.getElem?_eq_getElem hlt
  have hwz:=sumN_get_le szStr l k hlt
  simp only [szStr] at hwz
  have cC:=stringsCut_ok l[k] 58 (by omega)
  have cN:=implIsName_ok (rKey l[k]) (by simp [rKey];omega)
  have cP:=implParseInt_ok (rVal l[k]) (by simp [rVal];omega)
  change Ok _ _ _ (.tup [.str (rKey l[k]),.str (rVal l[k]),.bool (decide (ixB 58 l[k] < l[k].length))]) at cC
  have n1:= @rules_none l k hlt
  have n2:=fun r=> @rules_some l k r hlt
  have n3:= @rules_full1 l k
  have r1:= @ruleOf_no l[k]
  have r2:= @ruleOf_name l[k]
  have r3:=fun v=> @ruleOf_out l[k] v
  have r4:=fun v=> @ruleOf_yes l[k] v
  have ha8:=rules_le (l.take k)
  rw [←hacc] at n1 n2 n3 ha8
  generalize hE2:rulesOf (l.take (k+1))=acc2 at *
  generalize hrl:ruleOf l[k]=ru at *
  generalize decide (ixB 58 l[k] < l[k].length)=b1 at *
  generalize rKey l[k]=ky at *
  generalize rVal l[k]=vl at *
  cases hp:pInt vl with
  |none=>
   rw [pIntR_none hp] at cP
   have e2:=n1 (r1 hp)
   clear r1 r2 r3 r4 n1 n2 n3
   have W:=And.intro hk1 (And.intro hg hlt)
   repeat' first|refine we ?_|(refine sq (fun hc=>?_) (fun hc=>?_)<;>try exact hc.elim)|fail
   exact hK1 _ ⟨(k+1,v,acc),⟨by simp only;omega,hv⟩,(by simp only;rw [hE2];exact e2.symm)⟩ (weak_take 4 (by simp) (by simp) (by simp) (by simp)) (by simp only;omega)
  |some x=>
   rw [pIntR_some hp] at cP
   cases hn:isName ky with
   |false=>
    rw [hn] at cN
    have e2:=n1 (r2 hn)
    clear r1 r2 r3 r4 n1 n2 n3
    have W:=And.intro hk1 (And.intro hg hlt)
    repeat' first|refine we ?_|(refine sq (fun hc=>?_) (fun hc=>?_)<;>try exact hc.elim)|fail
    exact hK1 _ ⟨(k+1,v,acc),⟨by simp only;omega,hv⟩,(by simp only;rw [hE2];exact e2.symm)⟩ (weak_take 4 (by simp) (by simp) (by simp) (by simp)) (by simp only;omega)
   |true=>
    rw [hn] at cN
    have cR:=implIn_ok x 1 999
    by_cases hx:1≤x∧x≤999
    ·have hb:(decide ((1:Int)≤x)&&decide (x≤(999:Int)))=true:=by simp;omega
     rw [hb] at cR
     have hr:=r4 x hp hn hx
     by_cases h8:acc.length < 8
     ·have h8i:((acc.length:Int) < 8):=by omega
      have e2:=n2 _ hr h8
      clear r1 r2 r3 r4 n1 n2 n3
      have hps:acc2.map eRule=acc.map eRule++[eRule ⟨ky,x⟩]:=by rw [e2];simp
      have hgl:(acc.map eRule).length=acc.length:=by simp
      have W:=And.intro hk1 (And.intro hg (And.intro hlt h8i))
      repeat' first|refine we ?_|(refine sq (fun hc=>?_) (fun hc=>?_)<;>try exact hc.elim)|fail
      exact hK1 _ ⟨(k+1,v+1,acc2),⟨by simp only;omega,by simp only;omega⟩,(by simp only;exact hE2.symm)⟩ (weak_take 4 (by simp [hps]) (by simp) (by simp) (by simp)) (by simp only;omega)
     ·have h8i:¬((acc.length:Int) < 8):=by omega
      have e2:=n3 h8
      clear r1 r2 r3 r4 n1 n2 n3
      have W:=And.intro hk1 (And.intro hg (And.intro hlt h8i))
      repeat' first|refine we ?_|(refine sq (fun hc=>?_) (fun hc=>?_)<;>try exact hc.elim)|fail
      exact hK1 _ ⟨(k+1,v,acc),⟨by simp only;omega,hv⟩,(by simp only;rw [hE2];exact e2.symm)⟩ (weak_take 4 (by simp) (by simp) (by simp) (by simp)) (by simp only;omega)
    ·have hb:(decide ((1:Int)≤x)&&decide (x≤(999:Int)))=false:=by simp only [Bool.and_eq_false_iff,decide_eq_false_iff_not];omega
     rw [hb] at cR
     have e2:=n1 (r3 x hp hx)
     clear r1 r2 r3 r4 n1 n2 n3
     have W:=And.intro hk1 (And.intro hg hlt)
     repeat' first|refine we ?_|(refine sq (fun hc=>?_) (fun hc=>?_)<;>try exact hc.elim)|fail
     exact hK1 _ ⟨(k+1,v,acc),⟨by simp only;omega,hv⟩,(by simp only;rw [hE2];exact e2.symm)⟩ (weak_take 4 (by simp) (by simp) (by simp) (by simp)) (by simp only;omega)
 ·have htk:l.take k=l:=List.take_of_length_le (by omega)
  rw [htk] at hacc
  subst hacc
  have W:=hk1
  repeat' first|refine we ?_|(refine sq (fun hc=>?_) (fun hc=>?_)<;>try exact hc.elim)|fail
  all_goals (try (refine ⟨.inr rfl,?_⟩;simp [Hands,Tryz.results187]))
end Go.Proofs.YtgkcdgaljknohaaGreatDoor
