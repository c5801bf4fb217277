/-
  Proved here: steps towards the statement of this claim, text U2.
  No condition beyond what each statement spells out.
-/
import Derived.Test.YtgkcdgaljknohaaGreatDoorU1
set_option linter.all false
set_option maxRecDepth 4000
set_option maxHeartbeats 4000000
namespace Go.Proofs.YtgkcdgaljknohaaGreatDoor
open Go.Aw
theorem toAttrS_ok [Tabs Tryz.prog] (l:List DAttr) (hs:szL szAttr l≤1048576):Ok Tryz.prog 179 [.sl .view 2 (l.map eAttr)] (.sl .own 2 (l.map eAttr)):=by
 have hl:l.length≤1048576:=by (try simp only [szL] at hs);omega
 have hb:(32:Int) * (l.length:Int)≤281474976710656:=by omega
 have hb2:(l.length:Int)≤9223372036854775807:=by omega
 generalize hz:([.str [],.str []]:List AV)=z
 have hz0:=fillL_zero z (l.map eAttr)
 rw [List.length_map] at hz0
 refine ent Tryz.mix Tryz.func179 Tryz.ntmps179 ?_
 have W:=And.intro hb hb2
 repeat' first|refine wl ?_|refine sq (fun hc=>?_) fun hc=>?_|fail
 refine awp_loop' (ι:={k:Nat // k≤l.length}) (fun t o i=>⟨upds t [(4,.int .i64 i.1)],[⟨true,false,2,1,fillL z (l.map eAttr) i.1⟩]⟩)
  (fun i=>l.length - i.1) ⟨0,by simp⟩ (weak_o (by simp [hz,hz0]) (by simp)) ?_
 rintro ⟨k,hk⟩ K1 hK1
 simp only [upds,List.set_cons_succ,List.set_cons_zero] at hK1⊢
 have hk1:IntKind.i64.wrap ((k:Int)+1)=((k+1:Nat):Int):=by rw [wrap64]<;>omega
 by_cases hlt:k < l.length
 ·have hg:=List.getElem?_eq_getElem hlt
  have hfg:=fillL_get z (l.map eAttr) k (by simpa using hlt)
  have hfs:=fillL_set z (l.map eAttr) k (by simpa using hlt)
  rw [List.getElem_map] at hfs
  simp only [eAttr] at hfs
  have hzl:z.length=2:=by rw [←hz];rfl
  have hzd:z.drop 2=[]:=by rw [←hz];rfl
  have W:=And.intro hk1 (And.intro hg (And.intro hfg (And.intro hzl (And.intro hzd hfs))))
  have V:=And.intro hk1 (And.intro hg hlt)
  repeat' first|refine wl ?_|(refine nx ?_;refine sk (hc:=toAttr_ok l[k] (by have:=sumN_get_le szAttr l k hlt;(try simp only [szL] at hs);omega)) (h:=?_))|refine sq (fun hc=>?_) fun hc=>?_|fail
  refine hK1 _ ⟨k+1,by omega⟩ (weak_take 1 rfl ?_ (by simp) (by simp)) (by simp only;omega)
  simp
 ·have W:=hk1
  repeat' first|refine wl ?_|refine sq (fun hc=>?_) fun hc=>?_|fail
  have hfa:=fillL_all z (l.map eAttr) k (by simpa using hlt)
  all_goals (try (refine ⟨.inr rfl,?_⟩;simp [Hands,Tryz.results179,hfa]))
theorem szAttrS_ok [Tabs Tryz.prog] (l:List DAttr) (n:Int) (h0:0≤n) (h1:n≤1048576) (hw:l.length≤9223372036854775807∧∀y∈l,wfAttr y):Ok Tryz.prog 167 [.sl .view 2 (l.map eAttr),.int .i64 n] (.int .i64 (sub n (szL szAttr l))):=by
 obtain ⟨hl,hw⟩:=hw
 refine ent Tryz.mix Tryz.func167 Tryz.ntmps167 ?_
 have W:=trivial
 repeat' first|refine wl ?_|refine sq (fun hc=>?_) fun hc=>?_|fail
 ·refine ⟨.inr rfl,?_⟩;simp [Hands,Tryz.results167,sub,szL];omega
 ·refine awp_loop' (ι:={k:Nat // k≤l.length∧l.length+sumN szAttr (l.take k)≤n}) (fun t o i=>⟨upds t [(1,.int .i64 (n - (l.length+sumN szAttr (l.take i.1):Nat))),(5,.int .i64 i.1)],[]⟩)
   (fun i=>l.length - i.1) ⟨0,by simp,by simp [sumN];omega⟩ (weak_o (by simp) (by simp [sumN])) ?_
  rintro ⟨k,hk,hs⟩ K1 hK1
  simp only [upds,List.set_cons_succ,List.set_cons_zero] at hK1⊢
  have hk1:IntKind.i64.wrap ((k:Int)+1)=((k+1:Nat):Int):=by rw [wrap64]<;>omega
  by_cases hlt:k < l.length
  ·have hg:=List.getElem?_eq_getElem hlt
   have hts:=sumN_take_succ szAttr l k hlt
   have htl:=sumN_take_le szAttr l (k+1)
   have hwg:=hw _ (List.getElem_mem hlt)
   have W:=And.intro hk1 hg
   repeat' first|refine wl ?_|(refine nx ?_;refine sk (hc:=szAttr_ok _ _ (by omega) (by omega) hwg) (h:=?_))|refine sq (fun hc=>?_) fun hc=>?_|fail
   ·refine ⟨.inr rfl,?_⟩
    simp [Hands,Tryz.results167,szL]
    (repeat clear hK K);simp only [sub] at *;grind
   ·refine hK1 _ ⟨k+1,by omega,by (repeat clear hK K);simp only [sub] at *;grind⟩ (weak_o (by simp) ?_) (by simp only;omega)
    simp
    (repeat clear hK K);simp only [sub] at *;grind
  ·have W:=hk1
   repeat' first|refine wl ?_|refine sq (fun hc=>?_) fun hc=>?_|fail
   all_goals (try (refine ⟨.inr rfl,?_⟩;simp [Hands,Tryz.results167,szL]))
   have:k=l.length:=by omega
   subst this
   rw [List.take_length] at *
   rw [sub_pos (by omega)]
   omega
theorem eqAttrS_ok [Tabs Tryz.prog] (a b:List DAttr) (hs:szL szAttr a≤1099511627776):Ok Tryz.prog 190 [.sl .view 2 (a.map eAttr),.sl .view 2 (b.map eAttr)] (.bool (decide (a=b))):=by
 have hl:a.length≤1099511627776:=by (try simp only [szL] at hs);omega
 refine ent Tryz.mix Tryz.func190 Tryz.ntmps190 ?_
 have W:=trivial
 repeat' first|refine wl ?_|refine sq (fun hc=>?_) fun hc=>?_|fail
 ·all_goals (try (refine ⟨.inr rfl,?_⟩;simp [Hands,Tryz.results190]))
  intro h;subst h;exact absurd rfl hc
 ·have hlen:a.length=b.length:=by omega
  refine awp_loop' (ι:={k:Nat // k≤a.length∧a.take k=b.take k}) (fun t o i=>⟨upds t [(5,.int .i64 i.1)],[]⟩)
   (fun i=>a.length - i.1) ⟨0,by simp⟩ (weak_o (by simp) (by simp)) ?_
  rintro ⟨k,hk,hpre⟩ K1 hK1
  simp only [upds,List.set_cons_succ,List.set_cons_zero] at hK1⊢
  have hk1:IntKind.i64.wrap ((k:Int)+1)=((k+1:Nat):Int):=by rw [wrap64]<;>omega
  by_cases hlt:k < a.length
  ·have hg:=List.getElem?_eq_getElem hlt
   have hltb:k < b.length:=by omega
   have hgb:=List.getElem?_eq_getElem hltb
   have W:=And.intro hk1 (And.intro hg (And.intro hlt (And.intro hgb hltb)))
   repeat' first|refine wl ?_|(refine nx ?_;refine sk (hc:=eqAttr_ok a[k] b[k] (by have:=sumN_get_le szAttr a k hlt;(try simp only [szL] at hs);omega)) (h:=?_))|refine sq (fun hc=>?_) fun hc=>?_|fail
   ·all_goals (try (refine ⟨.inr rfl,?_⟩;simp [Hands,Tryz.results190]))
    intro h;subst h;exact hc rfl
   ·have hts:a.take (k+1)=b.take (k+1):=by
     rw [List.take_succ_eq_append_getElem hlt,List.take_succ_eq_append_getElem hltb,hpre,hc]
    refine hK1 _ ⟨k+1,by omega,hts⟩ (weak_o (by simp) (by simp)) (by simp only;omega)
  ·have hka:a.length≤k:=by omega
   rw [List.take_of_length_le hka,List.take_of_length_le (by omega)] at hpre
   subst hpre
   have W:=hk1
   repeat' first|refine wl ?_|refine sq (fun hc=>?_) fun hc=>?_|fail
   all_goals (try (refine ⟨.inr rfl,?_⟩;simp [Hands,Tryz.results190]))
theorem toAddrS_ok [Tabs Tryz.prog] (l:List DAddr) (hs:szL szAddr l≤1048576):Ok Tryz.prog 46 [.sl .view 2 (l.map eAddr)] (.sl .own 2 (l.map eAddr)):=by
 have hl:l.length≤1048576:=by (try simp only [szL] at hs);omega
 have hb:(32:Int) * (l.length:Int)≤281474976710656:=by omega
 have hb2:(l.length:Int)≤9223372036854775807:=by omega
 generalize hz:([.str [],.str []]:List AV)=z
 have hz0:=fillL_zero z (l.map eAddr)
 rw [List.length_map] at hz0
 refine ent Tryz.mix Tryz.func46 Tryz.ntmps46 ?_
 have W:=And.intro hb hb2
 repeat' first|refine wl ?_|refine sq (fun hc=>?_) fun hc=>?_|fail
 refine awp_loop' (ι:={k:Nat // k≤l.length}) (fun t o i=>⟨upds t [(4,.int .i64 i.1)],[⟨true,false,2,1,fillL z (l.map eAddr) i.1⟩]⟩)
  (fun i=>l.length - i.1) ⟨0,by simp⟩ (weak_o (by simp [hz,hz0]) (by simp)) ?_
 rintro ⟨k,hk⟩ K1 hK1
 simp only [upds,List.set_cons_succ,List.set_cons_zero] at hK1⊢
 have hk1:IntKind.i64.wrap ((k:Int)+1)=((k+1:Nat):Int):=by rw [wrap64]<;>omega
 by_cases hlt:k < l.length
 ·have hg:=List.getElem?_eq_getElem hlt
  have hfg:=fillL_get z (l.map eAddr) k (by simpa using hlt)
  have hfs:=fillL_set z (l.map eAddr) k (by simpa using hlt)
  rw [List.getElem_map] at hfs
  simp only [eAddr] at hfs
  have hzl:z.length=2:=by rw [←hz];rfl
  have hzd:z.drop 2=[]:=by rw [←hz];rfl
  have W:=And.intro hk1 (And.intro hg (And.intro hfg (And.intro hzl (And.intro hzd hfs))))
  have V:=And.intro hk1 (And.intro hg hlt)
  repeat' first|refine wl ?_|(refine nx ?_;refine sk (hc:=toAddr_ok l[k] (by have:=sumN_get_le szAddr l k hlt;(try simp only [szL] at hs);omega)) (h:=?_))|refine sq (fun hc=>?_) fun hc=>?_|fail
  refine hK1 _ ⟨k+1,by omega⟩ (weak_take 1 rfl ?_ (by simp) (by simp)) (by simp only;omega)
  simp
 ·have W:=hk1
  repeat' first|refine wl ?_|refine sq (fun hc=>?_) fun hc=>?_|fail
  have hfa:=fillL_all z (l.map eAddr) k (by simpa using hlt)
  all_goals (try (refine ⟨.inr rfl,?_⟩;simp [Hands,Tryz.results46,hfa]))
theorem szAddrS_ok [Tabs Tryz.prog] (l:List DAddr) (n:Int) (h0:0≤n) (h1:n≤1048576) (hw:l.length≤9223372036854775807∧∀y∈l,wfAddr y):Ok Tryz.prog 33 [.sl .view 2 (l.map eAddr),.int .i64 n] (.int .i64 (sub n (szL szAddr l))):=by
 obtain ⟨hl,hw⟩:=hw
 refine ent Tryz.mix Tryz.func33 Tryz.ntmps33 ?_
 have W:=trivial
 repeat' first|refine wl ?_|refine sq (fun hc=>?_) fun hc=>?_|fail
 ·refine ⟨.inr rfl,?_⟩;simp [Hands,Tryz.results33,sub,szL];omega
 ·refine awp_loop' (ι:={k:Nat // k≤l.length∧l.length+sumN szAddr (l.take k)≤n}) (fun t o i=>⟨upds t [(1,.int .i64 (n - (l.length+sumN szAddr (l.take i.1):Nat))),(5,.int .i64 i.1)],[]⟩)
   (fun i=>l.length - i.1) ⟨0,by simp,by simp [sumN];omega⟩ (weak_o (by simp) (by simp [sumN])) ?_
  rintro ⟨k,hk,hs⟩ K1 hK1
  simp only [upds,List.set_cons_succ,List.set_cons_zero] at hK1⊢
  have hk1:IntKind.i64.wrap ((k:Int)+1)=((k+1:Nat):Int):=by rw [wrap64]<;>omega
  by_cases hlt:k < l.length
  ·have hg:=List.getElem?_eq_getElem hlt
   have hts:=sumN_take_succ szAddr l k hlt
   have htl:=sumN_take_le szAddr l (k+1)
   have hwg:=hw _ (List.getElem_mem hlt)
   have W:=And.intro hk1 hg
   repeat' first|refine wl ?_|(refine nx ?_;refine sk (hc:=szAddr_ok _ _ (by omega) (by omega) hwg) (h:=?_))|refine sq (fun hc=>?_) fun hc=>?_|fail
   ·refine ⟨.inr rfl,?_⟩
    simp [Hands,Tryz.results33,szL]
    (repeat clear hK K);simp only [sub] at *;grind
   ·refine hK1 _ ⟨k+1,by omega,by (repeat clear hK K);simp only [sub] at *;grind⟩ (weak_o (by simp) ?_) (by simp only;omega)
    simp
    (repeat clear hK K);simp only [sub] at *;grind
  ·have W:=hk1
   repeat' first|refine wl ?_|refine sq (fun hc=>?_) fun hc=>?_|fail
   all_goals (try (refine ⟨.inr rfl,?_⟩;simp [Hands,Tryz.results33,szL]))
   have:k=l.length:=by omega
   subst this
   rw [List.take_length] at *
   rw [sub_pos (by omega)]
   omega
theorem eqAddrS_ok [Tabs Tryz.prog] (a b:List DAddr) (hs:szL szAddr a≤1099511627776):Ok Tryz.prog 59 [.sl .view 2 (a.map eAddr),.sl .view 2 (b.map eAddr)] (.bool (decide (a=b))):=by
 have hl:a.length≤1099511627776:=by (try simp only [szL] at hs);omega
 refine ent Tryz.mix Tryz.func59 Tryz.ntmps59 ?_
 have W:=trivial
 repeat' first|refine wl ?_|refine sq (fun hc=>?_) fun hc=>?_|fail
 ·all_goals (try (refine ⟨.inr rfl,?_⟩;simp [Hands,Tryz.results59]))
  intro h;subst h;exact absurd rfl hc
 ·have hlen:a.length=b.length:=by omega
  refine awp_loop' (ι:={k:Nat // k≤a.length∧a.take k=b.take k}) (fun t o i=>⟨upds t [(5,.int .i64 i.1)],[]⟩)
   (fun i=>a.length - i.1) ⟨0,by simp⟩ (weak_o (by simp) (by simp)) ?_
  rintro ⟨k,hk,hpre⟩ K1 hK1
  simp only [upds,List.set_cons_succ,List.set_cons_zero] at hK1⊢
  have hk1:IntKind.i64.wrap ((k:Int)+1)=((k+1:Nat):Int):=by rw [wrap64]<;>omega
  by_cases hlt:k < a.length
  ·have hg:=List.getElem?_eq_getElem hlt
   have hltb:k < b.length:=by omega
   have hgb:=List.getElem?_eq_getElem hltb
   have W:=And.intro hk1 (And.intro hg (And.intro hlt (And.intro hgb hltb)))
   repeat' first|refine wl ?_|(refine nx ?_;refine sk (hc:=eqAddr_ok a[k] b[k] (by have:=sumN_get_le szAddr a k hlt;(try simp only [szL] at hs);omega)) (h:=?_))|refine sq (fun hc=>?_) fun hc=>?_|fail
   ·all_goals (try (refine ⟨.inr rfl,?_⟩;simp [Hands,Tryz.results59]))
    intro h;subst h;exact hc rfl
   ·have hts:a.take (k+1)=b.take (k+1):=by
     rw [List.take_succ_eq_append_getElem hlt,List.take_succ_eq_append_getElem hltb,hpre,hc]
    refine hK1 _ ⟨k+1,by omega,hts⟩ (weak_o (by simp) (by simp)) (by simp only;omega)
  ·have hka:a.length≤k:=by omega
   rw [List.take_of_length_le hka,List.take_of_length_le (by omega)] at hpre
   subst hpre
   have W:=hk1
   repeat' first|refine wl ?_|refine sq (fun hc=>?_) fun hc=>?_|fail
   all_goals (try (refine ⟨.inr rfl,?_⟩;simp [Hands,Tryz.results59]))
theorem toSlot_ok [Tabs Tryz.prog] (a:DSlot) (hs:szSlot a≤1048576):Ok Tryz.prog 116 [.agg (eSlot a)] (.agg (eSlot a)):=by
 simp only [szSlot] at hs
 refine ent Tryz.mix Tryz.func116 Tryz.ntmps116 ?_
 have W:=trivial
 repeat' first|refine wl ?_|(refine nx ?_;refine sk (hc:=toAddr_ok a.to (by omega)) (h:=?_))|refine sq (fun hc=>?_) fun hc=>?_|fail
 all_goals (try (refine ⟨.inr rfl,?_⟩;simp [Hands,Tryz.results116]))
theorem szSlot_ok [Tabs Tryz.prog] (a:DSlot) (n:Int) (h0:0≤n) (h1:n≤1048576) (hw:wfSlot a):Ok Tryz.prog 102 [.agg (eSlot a),.int .i64 n] (.int .i64 (sub n (szSlot a))):=by
 simp only [wfSlot] at hw
 obtain ⟨wto,wdigest,wbody⟩:=hw
 refine ent Tryz.mix Tryz.func102 Tryz.ntmps102 ?_
 have W:=trivial
 repeat' first|refine wl ?_|(refine nx ?_;refine sk (hc:=szAddr_ok a.to _ (by omega) (by repeat' (first|omega|apply purse_le|apply purse_len)) wto) (h:=?_))|refine sq (fun hc=>?_) fun hc=>?_|fail
 all_goals (try (refine ⟨.inr rfl,?_⟩;simp [Hands,Tryz.results102,szSlot]))
 all_goals (
  (try generalize e0:sub n (szAddr a.to)=m0 at *)
  (try (first|have f0:=purse_ok e0 (by omega)|have f0:=purse_bad e0 (by omega) (by omega)))
  repeat (simp (disch:=omega) only [wrap64] at *)
  (try simp only [sub]);(try split);all_goals omega)
theorem eqSlot_ok [Tabs Tryz.prog] (a b:DSlot) (hs:szSlot a≤1099511627776):Ok Tryz.prog 129 [.agg (eSlot a),.agg (eSlot b)] (.bool (decide (a=b))):=by
 simp only [szSlot] at hs
 refine ent Tryz.mix Tryz.func129 Tryz.ntmps129 ?_
 have W:=trivial
 repeat' first|refine wl ?_|(refine nx ?_;refine sk (hc:=eqAddr_ok a.to b.to (by omega)) (h:=?_))|refine sq (fun hc=>?_) fun hc=>?_|fail
 all_goals (try (refine ⟨.inr rfl,?_⟩;simp [Hands,Tryz.results129]))
 all_goals ((repeat clear hK K);cases a;cases b;simp_all)
theorem toModule_ok [Tabs Tryz.prog] (a:DModule) (hs:szModule a≤1048576):Ok Tryz.prog 117 [.agg (eModule a)] (.agg (eModule a)):=by
 simp only [szModule] at hs
 refine ent Tryz.mix Tryz.func117 Tryz.ntmps117 ?_
 have W:=trivial
 repeat' first|refine wl ?_|(refine nx ?_;refine sk (hc:=toAddr_ok a.to (by omega)) (h:=?_))|refine sq (fun hc=>?_) fun hc=>?_|fail
 all_goals (try (refine ⟨.inr rfl,?_⟩;simp [Hands,Tryz.results117]))
theorem szModule_ok [Tabs Tryz.prog] (a:DModule) (n:Int) (h0:0≤n) (h1:n≤1048576) (hw:wfModule a):Ok Tryz.prog 103 [.agg (eModule a),.int .i64 n] (.int .i64 (sub n (szModule a))):=by
 simp only [wfModule] at hw
 obtain ⟨wto,wbody⟩:=hw
 refine ent Tryz.mix Tryz.func103 Tryz.ntmps103 ?_
 have W:=trivial
 repeat' first|refine wl ?_|(refine nx ?_;refine sk (hc:=szAddr_ok a.to _ (by omega) (by repeat' (first|omega|apply purse_le|apply purse_len)) wto) (h:=?_))|refine sq (fun hc=>?_) fun hc=>?_|fail
 all_goals (try (refine ⟨.inr rfl,?_⟩;simp [Hands,Tryz.results103,szModule]))
 all_goals (
  (try generalize e0:sub n (szAddr a.to)=m0 at *)
  (try (first|have f0:=purse_ok e0 (by omega)|have f0:=purse_bad e0 (by omega) (by omega)))
  repeat (simp (disch:=omega) only [wrap64] at *)
  (try simp only [sub]);(try split);all_goals omega)
theorem eqModule_ok [Tabs Tryz.prog] (a b:DModule) (hs:szModule a≤1099511627776):Ok Tryz.prog 130 [.agg (eModule a),.agg (eModule b)] (.bool (decide (a=b))):=by
 simp only [szModule] at hs
 refine ent Tryz.mix Tryz.func130 Tryz.ntmps130 ?_
 have W:=trivial
 repeat' first|refine wl ?_|(refine nx ?_;refine sk (hc:=eqAddr_ok a.to b.to (by omega)) (h:=?_))|refine sq (fun hc=>?_) fun hc=>?_|fail
 all_goals (try (refine ⟨.inr rfl,?_⟩;simp [Hands,Tryz.results130]))
 all_goals ((repeat clear hK K);cases a;cases b;simp_all)
theorem toPolicy_ok [Tabs Tryz.prog] (a:DPolicy) (hs:szPolicy a≤1048576):Ok Tryz.prog 40 [.agg (ePolicy .view a)] (.agg (ePolicy .own a)):=by
 simp only [szPolicy] at hs
 refine ent Tryz.mix Tryz.func40 Tryz.ntmps40 ?_
 have W:=trivial
 repeat' first|refine wl ?_|(refine nx ?_;first|refine sk (hc:=toStringS_ok a.scripts (by omega)) (h:=?_)|refine sk (hc:=toStringS_ok a.styles (by omega)) (h:=?_)|refine sk (hc:=toStringS_ok a.images (by omega)) (h:=?_))|refine sq (fun hc=>?_) fun hc=>?_|fail
 all_goals (try (refine ⟨.inr rfl,?_⟩;simp [Hands,Tryz.results40]))
theorem szPolicy_ok [Tabs Tryz.prog] (a:DPolicy) (n:Int) (h0:0≤n) (h1:n≤1048576) (hw:wfPolicy a):Ok Tryz.prog 27 [.agg (ePolicy .view a),.int .i64 n] (.int .i64 (sub n (szPolicy a))):=by
 simp only [wfPolicy] at hw
 obtain ⟨wscripts,wstyles,wimages,wnonce⟩:=hw
 refine ent Tryz.mix Tryz.func27 Tryz.ntmps27 ?_
 have W:=trivial
 repeat' first|refine wl ?_|(refine nx ?_;first|refine sk (hc:=szStringS_ok a.scripts _ (by omega) (by repeat' (first|omega|apply purse_le|apply purse_len)) wscripts) (h:=?_)|refine sk (hc:=szStringS_ok a.styles _ (by omega) (by repeat' (first|omega|apply purse_le|apply purse_len)) wstyles) (h:=?_)|refine sk (hc:=szStringS_ok a.images _ (by omega) (by repeat' (first|omega|apply purse_le|apply purse_len)) wimages) (h:=?_))|refine sq (fun hc=>?_) fun hc=>?_|fail
 all_goals (try (refine ⟨.inr rfl,?_⟩;simp [Hands,Tryz.results27,szPolicy]))
 all_goals (
  (try generalize e0:sub n (szL szStr a.scripts)=m0 at *)
  (try (first|have f0:=purse_ok e0 (by omega)|have f0:=purse_bad e0 (by omega) (by omega)))
  (try generalize e1:sub m0 (szL szStr a.styles)=m1 at *)
  (try (first|have f1:=purse_ok e1 (by omega)|have f1:=purse_bad e1 (by omega) (by omega)))
  (try generalize e2:sub m1 (szL szStr a.images)=m2 at *)
  (try (first|have f2:=purse_ok e2 (by omega)|have f2:=purse_bad e2 (by omega) (by omega)))
  repeat (simp (disch:=omega) only [wrap64] at *)
  (try simp only [sub]);(try split);all_goals omega)
theorem eqPolicy_ok [Tabs Tryz.prog] (a b:DPolicy) (hs:szPolicy a≤1099511627776):Ok Tryz.prog 53 [.agg (ePolicy .view a),.agg (ePolicy .view b)] (.bool (decide (a=b))):=by
 simp only [szPolicy] at hs
 refine ent Tryz.mix Tryz.func53 Tryz.ntmps53 ?_
 have W:=trivial
 repeat' first|refine wl ?_|(refine nx ?_;first|refine sk (hc:=eqStringS_ok a.scripts b.scripts (by omega)) (h:=?_)|refine sk (hc:=eqStringS_ok a.styles b.styles (by omega)) (h:=?_)|refine sk (hc:=eqStringS_ok a.images b.images (by omega)) (h:=?_))|refine sq (fun hc=>?_) fun hc=>?_|fail
 all_goals (try (refine ⟨.inr rfl,?_⟩;simp [Hands,Tryz.results53]))
 all_goals ((repeat clear hK K);cases a;cases b;simp_all)
end Go.Proofs.YtgkcdgaljknohaaGreatDoor
