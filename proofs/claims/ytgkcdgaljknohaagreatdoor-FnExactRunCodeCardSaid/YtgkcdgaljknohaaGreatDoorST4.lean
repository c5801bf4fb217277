/-
  Proved here: steps towards the statement of this claim, text ST4.
  No condition beyond what each statement spells out.
-/
import Derived.Test.YtgkcdgaljknohaaGreatDoorT3
set_option linter.all false
set_option maxRecDepth 4000
set_option maxHeartbeats 4000000
namespace Go.Proofs.YtgkcdgaljknohaaGreatDoor
open Go.Aw
theorem specParseSheet_ok [Tabs Tryz.prog] [HasMax Tryz.prog] [HasPow Tryz.prog] (s:Str) (hl:s.length≤1073741824):Ok Tryz.prog 110 [.str s] (.agg (eSheet .own (parseSheet s))):=by
 have cS:Ok Tryz.prog 107 [.str s,.int .u8 59] (.sl .own 1 ((segs 59 s).map eStr)):=l5Split_ok s 59 (by omega)
 have hsm:=segs_sumS 59 s
 have hsl:=segs_length 59 s
 have hcn:s.count 59≤s.length:=List.count_le_length
 unfold parseSheet
 generalize segs 59 s=l at *
 have hll:l.length≤1073741825:=by omega
 simp only [eSheet]
 refine ent Tryz.mix Tryz.func110 Tryz.ntmps110 ?_
 have W:=trivial
 repeat' first|refine we ?_|(refine sq (fun hc=>?_) (fun hc=>?_)<;>try exact hc.elim)|fail
 refine awp_loop' (ι:={q:Nat×Nat×List DRule // (q.1≤l.length∧1≤q.2.1)∧q.2.2=rulesOf (l.take q.1)}) (fun t o i=>⟨upds t [(5,.int .i64 i.1.1),(9,.undef)],o.take 1++[⟨true,true,1,0,[[.obj 3 i.1.2.1]]⟩,⟨true,false,1,1,l.map eStr⟩,⟨true,false,2,i.1.2.1,i.1.2.2.map eRule⟩]⟩)
  (fun i=>l.length - i.1.1) ⟨(0,1,[]),by simp,by simp [rulesOf]⟩ (weak_openB 1 0 0 (ob:=⟨true,true,1,0,[[.sl .own 2 []]]⟩) (by rfl) (by rfl) (by rfl) (by simp) (by rfl) (by rfl) (by simp) (by simp [rtc,rt,dropf])) ?_
 rintro ⟨⟨k,v,acc⟩,⟨hk,hv⟩,hacc⟩ K1 hK1
 simp only at hk hv hacc
 simp only [upds,List.set_cons_succ,List.set_cons_zero,List.take_succ_cons,List.take_zero,List.cons_append,List.nil_append] at hK1⊢
 have hk1:IntKind.i64.wrap ((k:Int)+1)=((k+1:Nat):Int):=by rw [wrap64]<;>omega
 have hgl:(acc.map eRule).length=acc.length:=by simp
 by_cases hlt:k < l.length
 ·have hg:=List.getElem?_eq_getElem hlt
  by_cases h8:acc.length < 8
  ·have h8i:((acc.length:Int) < 8):=by omega
   have hwz:=sumN_get_le szStr l k hlt
   simp only [szStr] at hwz
   have cC:Ok Tryz.prog 107 [.str l[k],.int .u8 58] (.sl .own 1 ((segs 58 l[k]).map eStr)):=l5Split_ok l[k] 58 (by omega)
   have cN:=specIsName_ok (rKey l[k]) (by simp [rKey];omega)
   have cP:=specParseInt_ok (rVal l[k]) (by simp [rVal];omega)
   have n1:= @rules_none l k hlt
   have n2:=fun r=> @rules_some l k r hlt
   have r1:= @ruleOf_no l[k]
   have r2:= @ruleOf_name l[k]
   have r3:=fun v=> @ruleOf_out l[k] v
   have r4:=fun v=> @ruleOf_yes l[k] v
   have h2:=segs58 l[k]
   have hsg:=segs_length 58 l[k]
   have hcg:l[k].count 58≤l[k].length:=List.count_le_length
   rw [←hacc] at n1 n2
   generalize hE2:rulesOf (l.take (k+1))=acc2 at *
   generalize hrl:ruleOf l[k]=ru at *
   generalize rKey l[k]=ky at *
   generalize rVal l[k]=vl at *
   generalize segs 58 l[k]=ps at *
   rcases h2 with h2|⟨h2,hr⟩
   ·subst h2
    simp only [List.map_cons,List.map_nil,eStr] at cC
    cases hn:isName ky with
    |false=>
     rw [hn] at cN
     have e2:=n1 (r2 hn)
     clear r1 r2 r3 r4 n1 n2
     have W:=And.intro hk1 (And.intro hg (And.intro hlt h8i))
     repeat' first|refine we ?_|(refine sq (fun hc=>?_) (fun hc=>?_)<;>try exact hc.elim)|fail
     exact hK1 _ ⟨(k+1,v,acc),⟨by simp only;omega,hv⟩,(by simp only;rw [hE2];exact e2.symm)⟩ (weak_take 4 (by simp) (by simp) (by simp) (by simp)) (by simp only;omega)
    |true=>
     rw [hn] at cN
     cases hp:pInt vl with
     |none=>
      rw [pIntR_none hp] at cP
      have e2:=n1 (r1 hp)
      clear r1 r2 r3 r4 n1 n2
      have W:=And.intro hk1 (And.intro hg (And.intro hlt h8i))
      repeat' first|refine we ?_|(refine sq (fun hc=>?_) (fun hc=>?_)<;>try exact hc.elim)|fail
      exact hK1 _ ⟨(k+1,v,acc),⟨by simp only;omega,hv⟩,(by simp only;rw [hE2];exact e2.symm)⟩ (weak_take 4 (by simp) (by simp) (by simp) (by simp)) (by simp only;omega)
     |some x=>
      rw [pIntR_some hp] at cP
      have cR:=specIn_ok x 1 999
      by_cases hx:1≤x∧x≤999
      ·have hb:(decide ((1:Int)≤x)&&decide (x≤(999:Int)))=true:=by simp;omega
       rw [hb] at cR
       have e2:=n2 _ (r4 x hp hn hx) h8
       clear r1 r2 r3 r4 n1 n2
       have hps:acc2.map eRule=acc.map eRule++[eRule ⟨ky,x⟩]:=by rw [e2];simp
       have W:=And.intro hk1 (And.intro hg (And.intro hlt (And.intro h8i hgl)))
       repeat' first|refine we ?_|(refine sq (fun hc=>?_) (fun hc=>?_)<;>try exact hc.elim)|fail
       all_goals exact hK1 _ ⟨(k+1,v+1,acc2),⟨by simp only;omega,by simp only;omega⟩,(by simp only;exact hE2.symm)⟩ (weak_take 4 (by simp [hps]) (by simp) (by simp) (by simp)) (by simp only;omega)
      ·have hb:(decide ((1:Int)≤x)&&decide (x≤(999:Int)))=false:=by simp only [Bool.and_eq_false_iff,decide_eq_false_iff_not];omega
       rw [hb] at cR
       have e2:=n1 (r3 x hp hx)
       clear r1 r2 r3 r4 n1 n2
       have W:=And.intro hk1 (And.intro hg (And.intro hlt h8i))
       repeat' first|refine we ?_|(refine sq (fun hc=>?_) (fun hc=>?_)<;>try exact hc.elim)|fail
       exact hK1 _ ⟨(k+1,v,acc),⟨by simp only;omega,hv⟩,(by simp only;rw [hE2];exact e2.symm)⟩ (weak_take 4 (by simp) (by simp) (by simp) (by simp)) (by simp only;omega)
   ·have e2:=n1 hr
    have h2i:¬((ps.length:Int)=2):=by omega
    clear r1 r2 r3 r4 n1 n2 cN cP
    have W:=And.intro hk1 (And.intro hg (And.intro hlt (And.intro h8i h2i)))
    repeat' first|refine we ?_|(refine sq (fun hc=>?_) (fun hc=>?_)<;>try exact hc.elim)|fail
    exact hK1 _ ⟨(k+1,v,acc),⟨by simp only;omega,hv⟩,(by simp only;rw [hE2];exact e2.symm)⟩ (weak_take 4 (by simp) (by simp) (by simp) (by simp)) (by simp only;omega)
  ·have h8i:¬((acc.length:Int) < 8):=by omega
   have hf:=rules_full (l:=l) (k:=k) (by rw [←hacc];exact h8)
   rw [←hacc] at hf
   rw [hf]
   have W:=And.intro hk1 (And.intro hg (And.intro hlt (And.intro h8i hgl)))
   repeat' first|refine we ?_|(refine sq (fun hc=>?_) (fun hc=>?_)<;>try exact hc.elim)|fail
   all_goals (try (refine ⟨.inr rfl,?_⟩;simp [Hands,Tryz.results110]))
 ·have htk:l.take k=l:=List.take_of_length_le (by omega)
  rw [htk] at hacc
  subst hacc
  have W:=hk1
  repeat' first|refine we ?_|(refine sq (fun hc=>?_) (fun hc=>?_)<;>try exact hc.elim)|fail
  all_goals (try (refine ⟨.inr rfl,?_⟩;simp [Hands,Tryz.results110]))
end Go.Proofs.YtgkcdgaljknohaaGreatDoor

set_option maxRecDepth 4000
set_option maxHeartbeats 4000000
namespace Go.Proofs.YtgkcdgaljknohaaGreatDoor
open Go.Aw
def sheetOk (x:DSlot):Bool:=decide (x.mode=2)&&x.done&&decide (x.code=1)
def sheetsTo (l:List DSlot):List DSheet:=(l.filter sheetOk).map fun x=>parseSheet x.body
def sheetsOf (p:DPage):List DSheet:=sheetsTo p.slots
theorem sheets_yes {l:List DSlot} {k:Nat} (h:k < l.length) (ho:sheetOk l[k]=true):sheetsTo (l.take (k+1))=sheetsTo (l.take k)++[parseSheet l[k].body]:=by
 unfold sheetsTo
 rw [List.take_succ_eq_append_getElem h,List.filter_append,List.map_append]
 simp [ho]
theorem sheets_no {l:List DSlot} {k:Nat} (h:k < l.length) (ho:sheetOk l[k]=false):sheetsTo (l.take (k+1))=sheetsTo (l.take k):=by
 unfold sheetsTo
 rw [List.take_succ_eq_append_getElem h,List.filter_append]
 simp [ho]
theorem sheetsTo_len (l:List DSlot):(sheetsTo l).length≤l.length:=by
 unfold sheetsTo;rw [List.length_map];exact List.length_filter_le _ _
theorem implSheetsOf_ok [Tabs Tryz.prog] [HasMax Tryz.prog] [HasPow Tryz.prog] [HasErr Tryz.prog] (p:DPage) (hs:szL szSlot p.slots≤1073741824):Ok Tryz.prog 124 [.agg (ePage .view p)] (.sl .own 1 ((sheetsOf p).map (eSheet .own))):=by
 simp only [szL] at hs
 unfold sheetsOf
 simp only [ePage]
 generalize p.slots=l at *
 refine ent Tryz.mix Tryz.func124 Tryz.ntmps124 ?_
 have W:=trivial
 repeat' first|refine wl ?_|(refine sq (fun hc=>?_) (fun hc=>?_)<;>try exact hc.elim)|fail
 refine awp_loop' (ι:={q:Nat×Nat×List DSheet // (q.1≤l.length∧1≤q.2.1)∧q.2.2=sheetsTo (l.take q.1)}) (fun t o i=>⟨upds t [(10,.int .i64 i.1.1),(3,.obj 1 i.1.2.1)],o.take 1++[⟨true,false,1,i.1.2.1,i.1.2.2.map (eSheet .own)⟩]⟩)
  (fun i=>l.length - i.1.1) ⟨(0,1,[]),by simp,by simp [sheetsTo]⟩ (weak_o (by simp) (by simp)) ?_
 rintro ⟨⟨k,v,acc⟩,⟨hk,hv⟩,hacc⟩ K1 hK1
 simp only at hk hv hacc
 simp only [upds,List.set_cons_succ,List.set_cons_zero,List.take_succ_cons,List.take_zero,List.cons_append,List.nil_append] at hK1⊢
 have hk1:IntKind.i64.wrap ((k:Int)+1)=((k+1:Nat):Int):=by rw [wrap64]<;>omega
 by_cases hlt:k < l.length
 ·have hg:=List.getElem?_eq_getElem hlt
  have hwz:=sumN_get_le szSlot l k hlt
  simp only [szSlot] at hwz
  have cP:=implParseSheet_ok l[k].body (by omega)
  have n1:= @sheets_no l k hlt
  have n2:= @sheets_yes l k hlt
  have hal:acc.length≤k:=by rw [hacc];have:=sheetsTo_len (l.take k);rw [List.length_take] at this;omega
  have hgl:(acc.map (eSheet .own)).length=acc.length:=by simp
  rw [←hacc] at n1 n2
  generalize hE2:sheetsTo (l.take (k+1))=acc2 at *
  generalize parseSheet l[k].body=sh at *
  unfold sheetOk at n1 n2
  by_cases h1:l[k].mode=2
  ·cases h2:l[k].done
   ·have e2:=n1 (by simp [h2])
    have W:=And.intro hk1 (And.intro hg (And.intro hlt (And.intro h1 h2)))
    repeat' first|refine wl ?_|(refine sq (fun hc=>?_) (fun hc=>?_)<;>try exact hc.elim)|fail
    all_goals exact hK1 _ ⟨(k+1,v,acc),⟨by simp only;omega,hv⟩,(by simp only;rw [hE2];exact e2.symm)⟩ (weak_take 2 (by simp) (by simp) (by simp) (by simp)) (by simp only;omega)
   ·by_cases h3:l[k].code=1
    ·have e2:=n2 (by simp [h1,h2,h3])
     have hps:acc2.map (eSheet .own)=acc.map (eSheet .own)++[eSheet .own sh]:=by rw [e2];simp
     simp only [eSheet] at cP
     clear n1 n2
     generalize acc.map (eSheet .own)=g at *
     have W:=And.intro hk1 (And.intro hg (And.intro hlt (And.intro h1 (And.intro h2 (And.intro h3 hgl)))))
     repeat' first|refine wl ?_|(refine sq (fun hc=>?_) (fun hc=>?_)<;>try exact hc.elim)|fail
     all_goals exact hK1 _ ⟨(k+1,v+1,acc2),⟨by simp only;omega,by simp only;omega⟩,(by simp only;exact hE2.symm)⟩ (weak_take 2 (by simp [hps]) (by simp) (by simp) (by simp)) (by simp only;omega)
    ·have e2:=n1 (by simp [h3])
     have W:=And.intro hk1 (And.intro hg (And.intro hlt (And.intro h1 (And.intro h2 h3))))
     repeat' first|refine wl ?_|(refine sq (fun hc=>?_) (fun hc=>?_)<;>try exact hc.elim)|fail
     all_goals exact hK1 _ ⟨(k+1,v,acc),⟨by simp only;omega,hv⟩,(by simp only;rw [hE2];exact e2.symm)⟩ (weak_take 2 (by simp) (by simp) (by simp) (by simp)) (by simp only;omega)
  ·have e2:=n1 (by simp [h1])
   have W:=And.intro hk1 (And.intro hg (And.intro hlt h1))
   repeat' first|refine wl ?_|(refine sq (fun hc=>?_) (fun hc=>?_)<;>try exact hc.elim)|fail
   all_goals exact hK1 _ ⟨(k+1,v,acc),⟨by simp only;omega,hv⟩,(by simp only;rw [hE2];exact e2.symm)⟩ (weak_take 2 (by simp) (by simp) (by simp) (by simp)) (by simp only;omega)
 ·have htk:l.take k=l:=List.take_of_length_le (by omega)
  rw [htk] at hacc
  subst hacc
  have W:=hk1
  repeat' first|refine wl ?_|(refine sq (fun hc=>?_) (fun hc=>?_)<;>try exact hc.elim)|fail
  all_goals (try (refine ⟨.inr rfl,?_⟩;simp [Hands,Tryz.results124]))
theorem specSheetsOf_ok [Tabs Tryz.prog] [HasMax Tryz.prog] [HasPow Tryz.prog] (p:DPage) (hs:szL szSlot p.slots≤1073741824):Ok Tryz.prog 38 [.agg (ePage .view p)] (.sl .own 1 ((sheetsOf p).map (eSheet .own))):=by
 simp only [szL] at hs
 unfold sheetsOf
 simp only [ePage]
 generalize p.slots=l at *
 refine ent Tryz.mix Tryz.func38 Tryz.ntmps38 ?_
 have W:=trivial
 repeat' first|refine wl ?_|(refine sq (fun hc=>?_) (fun hc=>?_)<;>try exact hc.elim)|fail
 refine awp_loop' (ι:={q:Nat×Nat×List DSheet // (q.1≤l.length∧1≤q.2.1)∧q.2.2=sheetsTo (l.take q.1)}) (fun t o i=>⟨upds t [(4,.int .i64 i.1.1),(3,.obj 1 i.1.2.1)],o.take 1++[⟨true,false,1,i.1.2.1,i.1.2.2.map (eSheet .own)⟩]⟩)
  (fun i=>l.length - i.1.1) ⟨(0,1,[]),by simp,by simp [sheetsTo]⟩ (weak_o (by simp) (by simp)) ?_
 rintro ⟨⟨k,v,acc⟩,⟨hk,hv⟩,hacc⟩ K1 hK1
 simp only at hk hv hacc
 simp only [upds,List.set_cons_succ,List.set_cons_zero,List.take_succ_cons,List.take_zero,List.cons_append,List.nil_append] at hK1⊢
 have hk1:IntKind.i64.wrap ((k:Int)+1)=((k+1:Nat):Int):=by rw [wrap64]<;>omega
 by_cases hlt:k < l.length
 ·have hg:=List.getElem?_eq_getElem hlt
  have hwz:=sumN_get_le szSlot l k hlt
  simp only [szSlot] at hwz
  have cP:=specParseSheet_ok l[k].body (by omega)
  have n1:= @sheets_no l k hlt
  have n2:= @sheets_yes l k hlt
  have hal:acc.length≤k:=by rw [hacc];have:=sheetsTo_len (l.take k);rw [List.length_take] at this;omega
  have hgl:(acc.map (eSheet .own)).length=acc.length:=by simp
  rw [←hacc] at n1 n2
  generalize hE2:sheetsTo (l.take (k+1))=acc2 at *
  generalize parseSheet l[k].body=sh at *
  unfold sheetOk at n1 n2
  by_cases h1:l[k].mode=2
  ·cases h2:l[k].done
   ·have e2:=n1 (by simp [h2])
    have W:=And.intro hk1 (And.intro hg (And.intro hlt (And.intro h1 h2)))
    repeat' first|refine wl ?_|(refine sq (fun hc=>?_) (fun hc=>?_)<;>try exact hc.elim)|fail
    all_goals exact hK1 _ ⟨(k+1,v,acc),⟨by simp only;omega,hv⟩,(by simp only;rw [hE2];exact e2.symm)⟩ (weak_take 2 (by simp) (by simp) (by simp) (by simp)) (by simp only;omega)
   ·by_cases h3:l[k].code=1
    ·have e2:=n2 (by simp [h1,h2,h3])
     have hps:acc2.map (eSheet .own)=acc.map (eSheet .own)++[eSheet .own sh]:=by rw [e2];simp
     simp only [eSheet] at cP
     clear n1 n2
     generalize acc.map (eSheet .own)=g at *
     have W:=And.intro hk1 (And.intro hg (And.intro hlt (And.intro h1 (And.intro h2 (And.intro h3 hgl)))))
     repeat' first|refine wl ?_|(refine sq (fun hc=>?_) (fun hc=>?_)<;>try exact hc.elim)|fail
     all_goals exact hK1 _ ⟨(k+1,v+1,acc2),⟨by simp only;omega,by simp only;omega⟩,(by simp only;exact hE2.symm)⟩ (weak_take 2 (by simp [hps]) (by simp) (by simp) (by simp)) (by simp only;omega)
    ·have e2:=n1 (by simp [h3])
     have W:=And.intro hk1 (And.intro hg (And.intro hlt (And.intro h1 (And.intro h2 h3))))
     repeat' first|refine wl ?_|(refine sq (fun hc=>?_) (fun hc=>?_)<;>try exact hc.elim)|fail
     all_goals exact hK1 _ ⟨(k+1,v,acc),⟨by simp only;omega,hv⟩,(by simp only;rw [hE2];exact e2.symm)⟩ (weak_take 2 (by simp) (by simp) (by simp) (by simp)) (by simp only;omega)
  ·have e2:=n1 (by simp [h1])
   have W:=And.intro hk1 (And.intro hg (And.intro hlt h1))
   repeat' first|refine wl ?_|(refine sq (fun hc=>?_) (fun hc=>?_)<;>try exact hc.elim)|fail
   all_goals exact hK1 _ ⟨(k+1,v,acc),⟨by simp only;omega,hv⟩,(by simp only;rw [hE2];exact e2.symm)⟩ (weak_take 2 (by simp) (by simp) (by simp) (by simp)) (by simp only;omega)
 ·have htk:l.take k=l:=List.take_of_length_le (by omega)
  rw [htk] at hacc
  subst hacc
  have W:=hk1
  repeat' first|refine wl ?_|(refine sq (fun hc=>?_) (fun hc=>?_)<;>try exact hc.elim)|fail
  all_goals (try (refine ⟨.inr rfl,?_⟩;simp [Hands,Tryz.results38]))
end Go.Proofs.YtgkcdgaljknohaaGreatDoor
