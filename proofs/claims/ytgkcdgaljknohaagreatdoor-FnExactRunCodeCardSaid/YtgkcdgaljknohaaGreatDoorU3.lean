/-
  Proved here: steps towards the statement of this claim, text U3.
  No condition beyond what each statement spells out.
-/
import Derived.Test.YtgkcdgaljknohaaGreatDoorU2
set_option linter.all false
set_option maxRecDepth 4000
set_option maxHeartbeats 4000000
namespace Go.Proofs.YtgkcdgaljknohaaGreatDoor
open Go.Aw
theorem toToken_ok [Tabs Tryz.prog] (a:DToken) (hs:szToken a≤1048576):Ok Tryz.prog 113 [.agg (eToken .view a)] (.agg (eToken .own a)):=by
 simp only [szToken] at hs
 refine ent Tryz.mix Tryz.func113 Tryz.ntmps113 ?_
 have W:=trivial
 repeat' first|refine wl ?_|(refine nx ?_;refine sk (hc:=toAttrS_ok a.attrs (by omega)) (h:=?_))|refine sq (fun hc=>?_) fun hc=>?_|fail
 all_goals (try (refine ⟨.inr rfl,?_⟩;simp [Hands,Tryz.results113]))
theorem szToken_ok [Tabs Tryz.prog] (a:DToken) (n:Int) (h0:0≤n) (h1:n≤1048576) (hw:wfToken a):Ok Tryz.prog 99 [.agg (eToken .view a),.int .i64 n] (.int .i64 (sub n (szToken a))):=by
 simp only [wfToken] at hw
 obtain ⟨wname,wattrs,wtext⟩:=hw
 refine ent Tryz.mix Tryz.func99 Tryz.ntmps99 ?_
 have W:=trivial
 repeat' first|refine wl ?_|(refine nx ?_;refine sk (hc:=szAttrS_ok a.attrs _ (by omega) (by repeat' (first|omega|apply purse_le|apply purse_len)) wattrs) (h:=?_))|refine sq (fun hc=>?_) fun hc=>?_|fail
 all_goals (try (refine ⟨.inr rfl,?_⟩;simp [Hands,Tryz.results99,szToken]))
 all_goals (
  (try generalize e0:sub (n - (a.name.length:Int)) (szL szAttr a.attrs)=m0 at *)
  (try (first|have f0:=purse_ok e0 (by omega)|have f0:=purse_bad e0 (by omega) (by omega)))
  repeat (simp (disch:=omega) only [wrap64] at *)
  (try simp only [sub]);(try split);all_goals omega)
theorem eqToken_ok [Tabs Tryz.prog] (a b:DToken) (hs:szToken a≤1099511627776):Ok Tryz.prog 126 [.agg (eToken .view a),.agg (eToken .view b)] (.bool (decide (a=b))):=by
 simp only [szToken] at hs
 refine ent Tryz.mix Tryz.func126 Tryz.ntmps126 ?_
 have W:=trivial
 repeat' first|refine wl ?_|(refine nx ?_;refine sk (hc:=eqAttrS_ok a.attrs b.attrs (by omega)) (h:=?_))|refine sq (fun hc=>?_) fun hc=>?_|fail
 all_goals (try (refine ⟨.inr rfl,?_⟩;simp [Hands,Tryz.results126]))
 all_goals ((repeat clear hK K);cases a;cases b;simp_all)
theorem toNode_ok [Tabs Tryz.prog] (a:DNode) (hs:szNode a≤1048576):Ok Tryz.prog 180 [.agg (eNode .view a)] (.agg (eNode .own a)):=by
 simp only [szNode] at hs
 refine ent Tryz.mix Tryz.func180 Tryz.ntmps180 ?_
 have W:=trivial
 repeat' first|refine wl ?_|(refine nx ?_;refine sk (hc:=toAttrS_ok a.attrs (by omega)) (h:=?_))|refine sq (fun hc=>?_) fun hc=>?_|fail
 all_goals (try (refine ⟨.inr rfl,?_⟩;simp [Hands,Tryz.results180]))
theorem szNode_ok [Tabs Tryz.prog] (a:DNode) (n:Int) (h0:0≤n) (h1:n≤1048576) (hw:wfNode a):Ok Tryz.prog 168 [.agg (eNode .view a),.int .i64 n] (.int .i64 (sub n (szNode a))):=by
 simp only [wfNode] at hw
 obtain ⟨wname,wtext,wattrs⟩:=hw
 refine ent Tryz.mix Tryz.func168 Tryz.ntmps168 ?_
 have W:=trivial
 repeat' first|refine wl ?_|(refine nx ?_;refine sk (hc:=szAttrS_ok a.attrs _ (by omega) (by repeat' (first|omega|apply purse_le|apply purse_len)) wattrs) (h:=?_))|refine sq (fun hc=>?_) fun hc=>?_|fail
 all_goals (try (refine ⟨.inr rfl,?_⟩;simp [Hands,Tryz.results168,szNode]))
 all_goals (
  (try generalize e0:sub (n - (a.name.length:Int) - (a.text.length:Int)) (szL szAttr a.attrs)=m0 at *)
  (try (first|have f0:=purse_ok e0 (by omega)|have f0:=purse_bad e0 (by omega) (by omega)))
  repeat (simp (disch:=omega) only [wrap64] at *)
  (try simp only [sub]);(try split);all_goals omega)
theorem eqNode_ok [Tabs Tryz.prog] (a b:DNode) (hs:szNode a≤1099511627776):Ok Tryz.prog 191 [.agg (eNode .view a),.agg (eNode .view b)] (.bool (decide (a=b))):=by
 simp only [szNode] at hs
 refine ent Tryz.mix Tryz.func191 Tryz.ntmps191 ?_
 have W:=trivial
 repeat' first|refine wl ?_|(refine nx ?_;refine sk (hc:=eqAttrS_ok a.attrs b.attrs (by omega)) (h:=?_))|refine sq (fun hc=>?_) fun hc=>?_|fail
 all_goals (try (refine ⟨.inr rfl,?_⟩;simp [Hands,Tryz.results191]))
 all_goals ((repeat clear hK K);cases a;cases b;simp_all)
theorem toSlotS_ok [Tabs Tryz.prog] (l:List DSlot) (hs:szL szSlot l≤1048576):Ok Tryz.prog 44 [.sl .view 8 (l.map eSlot)] (.sl .own 8 (l.map eSlot)):=by
 have hl:l.length≤1048576:=by (try simp only [szL] at hs);omega
 have hb:(96:Int) * (l.length:Int)≤281474976710656:=by omega
 have hb2:(l.length:Int)≤9223372036854775807:=by omega
 generalize hz:([.int .i64 0,.str [],.str [],.str [],.int .i64 0,.bool false,.int .i64 0,.str []]:List AV)=z
 have hz0:=fillL_zero z (l.map eSlot)
 rw [List.length_map] at hz0
 refine ent Tryz.mix Tryz.func44 Tryz.ntmps44 ?_
 have W:=And.intro hb hb2
 repeat' first|refine wl ?_|refine sq (fun hc=>?_) fun hc=>?_|fail
 refine awp_loop' (ι:={k:Nat // k≤l.length}) (fun t o i=>⟨upds t [(4,.int .i64 i.1)],[⟨true,false,8,1,fillL z (l.map eSlot) i.1⟩]⟩)
  (fun i=>l.length - i.1) ⟨0,by simp⟩ (weak_o (by simp [hz,hz0]) (by simp)) ?_
 rintro ⟨k,hk⟩ K1 hK1
 simp only [upds,List.set_cons_succ,List.set_cons_zero] at hK1⊢
 have hk1:IntKind.i64.wrap ((k:Int)+1)=((k+1:Nat):Int):=by rw [wrap64]<;>omega
 by_cases hlt:k < l.length
 ·have hg:=List.getElem?_eq_getElem hlt
  have hfg:=fillL_get z (l.map eSlot) k (by simpa using hlt)
  have hfs:=fillL_set z (l.map eSlot) k (by simpa using hlt)
  rw [List.getElem_map] at hfs
  simp only [eSlot] at hfs
  have hzl:z.length=8:=by rw [←hz];rfl
  have hzd:z.drop 8=[]:=by rw [←hz];rfl
  have W:=And.intro hk1 (And.intro hg (And.intro hfg (And.intro hzl (And.intro hzd hfs))))
  have V:=And.intro hk1 (And.intro hg hlt)
  repeat' first|refine wl ?_|(refine nx ?_;refine sk (hc:=toSlot_ok l[k] (by have:=sumN_get_le szSlot l k hlt;(try simp only [szL] at hs);omega)) (h:=?_))|refine sq (fun hc=>?_) fun hc=>?_|fail
  refine hK1 _ ⟨k+1,by omega⟩ (weak_take 1 rfl ?_ (by simp) (by simp)) (by simp only;omega)
  simp
 ·have W:=hk1
  repeat' first|refine wl ?_|refine sq (fun hc=>?_) fun hc=>?_|fail
  have hfa:=fillL_all z (l.map eSlot) k (by simpa using hlt)
  all_goals (try (refine ⟨.inr rfl,?_⟩;simp [Hands,Tryz.results44,hfa]))
theorem szSlotS_ok [Tabs Tryz.prog] (l:List DSlot) (n:Int) (h0:0≤n) (h1:n≤1048576) (hw:l.length≤9223372036854775807∧∀y∈l,wfSlot y):Ok Tryz.prog 31 [.sl .view 8 (l.map eSlot),.int .i64 n] (.int .i64 (sub n (szL szSlot l))):=by
 obtain ⟨hl,hw⟩:=hw
 refine ent Tryz.mix Tryz.func31 Tryz.ntmps31 ?_
 have W:=trivial
 repeat' first|refine wl ?_|refine sq (fun hc=>?_) fun hc=>?_|fail
 ·refine ⟨.inr rfl,?_⟩;simp [Hands,Tryz.results31,sub,szL];omega
 ·refine awp_loop' (ι:={k:Nat // k≤l.length∧l.length+sumN szSlot (l.take k)≤n}) (fun t o i=>⟨upds t [(1,.int .i64 (n - (l.length+sumN szSlot (l.take i.1):Nat))),(5,.int .i64 i.1)],[]⟩)
   (fun i=>l.length - i.1) ⟨0,by simp,by simp [sumN];omega⟩ (weak_o (by simp) (by simp [sumN])) ?_
  rintro ⟨k,hk,hs⟩ K1 hK1
  simp only [upds,List.set_cons_succ,List.set_cons_zero] at hK1⊢
  have hk1:IntKind.i64.wrap ((k:Int)+1)=((k+1:Nat):Int):=by rw [wrap64]<;>omega
  by_cases hlt:k < l.length
  ·have hg:=List.getElem?_eq_getElem hlt
   have hts:=sumN_take_succ szSlot l k hlt
   have htl:=sumN_take_le szSlot l (k+1)
   have hwg:=hw _ (List.getElem_mem hlt)
   have W:=And.intro hk1 hg
   repeat' first|refine wl ?_|(refine nx ?_;refine sk (hc:=szSlot_ok _ _ (by omega) (by omega) hwg) (h:=?_))|refine sq (fun hc=>?_) fun hc=>?_|fail
   ·refine ⟨.inr rfl,?_⟩
    simp [Hands,Tryz.results31,szL]
    (repeat clear hK K);simp only [sub] at *;grind
   ·refine hK1 _ ⟨k+1,by omega,by (repeat clear hK K);simp only [sub] at *;grind⟩ (weak_o (by simp) ?_) (by simp only;omega)
    simp
    (repeat clear hK K);simp only [sub] at *;grind
  ·have W:=hk1
   repeat' first|refine wl ?_|refine sq (fun hc=>?_) fun hc=>?_|fail
   all_goals (try (refine ⟨.inr rfl,?_⟩;simp [Hands,Tryz.results31,szL]))
   have:k=l.length:=by omega
   subst this
   rw [List.take_length] at *
   rw [sub_pos (by omega)]
   omega
theorem eqSlotS_ok [Tabs Tryz.prog] (a b:List DSlot) (hs:szL szSlot a≤1099511627776):Ok Tryz.prog 57 [.sl .view 8 (a.map eSlot),.sl .view 8 (b.map eSlot)] (.bool (decide (a=b))):=by
 have hl:a.length≤1099511627776:=by (try simp only [szL] at hs);omega
 refine ent Tryz.mix Tryz.func57 Tryz.ntmps57 ?_
 have W:=trivial
 repeat' first|refine wl ?_|refine sq (fun hc=>?_) fun hc=>?_|fail
 ·all_goals (try (refine ⟨.inr rfl,?_⟩;simp [Hands,Tryz.results57]))
  intro h;subst h;exact absurd rfl hc
 ·have hlen:a.length=b.length:=by omega
  refine awp_loop' (ι:={k:Nat // k≤a.length∧a.take k=b.take k}) (fun t o i=>⟨upds t [(5,.int .i64 i.1)],[]⟩)
   (fun i=>a.length - i.1) ⟨0,by simp⟩ (weak_o (by simp) (by simp)) ?_
  rintro ⟨k,hk,hpre⟩ K1 hK1
  simp only [upds,List.set_cons_succ,List.set_cons_zero] at hK1⊢
  have hk1:IntKind.i64.wrap ((k:Int)+1)=((k+1:Nat):Int):=by rw [wrap64]<;>omega
  by_cases hlt:k < a.length
  ·have hg:=List.getElem?_eq_getElem hlt
   have hltb:k < b.length:=by omega
   have hgb:=List.getElem?_eq_getElem hltb
   have W:=And.intro hk1 (And.intro hg (And.intro hlt (And.intro hgb hltb)))
   repeat' first|refine wl ?_|(refine nx ?_;refine sk (hc:=eqSlot_ok a[k] b[k] (by have:=sumN_get_le szSlot a k hlt;(try simp only [szL] at hs);omega)) (h:=?_))|refine sq (fun hc=>?_) fun hc=>?_|fail
   ·all_goals (try (refine ⟨.inr rfl,?_⟩;simp [Hands,Tryz.results57]))
    intro h;subst h;exact hc rfl
   ·have hts:a.take (k+1)=b.take (k+1):=by
     rw [List.take_succ_eq_append_getElem hlt,List.take_succ_eq_append_getElem hltb,hpre,hc]
    refine hK1 _ ⟨k+1,by omega,hts⟩ (weak_o (by simp) (by simp)) (by simp only;omega)
  ·have hka:a.length≤k:=by omega
   rw [List.take_of_length_le hka,List.take_of_length_le (by omega)] at hpre
   subst hpre
   have W:=hk1
   repeat' first|refine wl ?_|refine sq (fun hc=>?_) fun hc=>?_|fail
   all_goals (try (refine ⟨.inr rfl,?_⟩;simp [Hands,Tryz.results57]))
theorem toModuleS_ok [Tabs Tryz.prog] (l:List DModule) (hs:szL szModule l≤1048576):Ok Tryz.prog 45 [.sl .view 5 (l.map eModule)] (.sl .own 5 (l.map eModule)):=by
 have hl:l.length≤1048576:=by (try simp only [szL] at hs);omega
 have hb:(64:Int) * (l.length:Int)≤281474976710656:=by omega
 have hb2:(l.length:Int)≤9223372036854775807:=by omega
 generalize hz:([.str [],.str [],.bool false,.int .i64 0,.str []]:List AV)=z
 have hz0:=fillL_zero z (l.map eModule)
 rw [List.length_map] at hz0
 refine ent Tryz.mix Tryz.func45 Tryz.ntmps45 ?_
 have W:=And.intro hb hb2
 repeat' first|refine wl ?_|refine sq (fun hc=>?_) fun hc=>?_|fail
 refine awp_loop' (ι:={k:Nat // k≤l.length}) (fun t o i=>⟨upds t [(4,.int .i64 i.1)],[⟨true,false,5,1,fillL z (l.map eModule) i.1⟩]⟩)
  (fun i=>l.length - i.1) ⟨0,by simp⟩ (weak_o (by simp [hz,hz0]) (by simp)) ?_
 rintro ⟨k,hk⟩ K1 hK1
 simp only [upds,List.set_cons_succ,List.set_cons_zero] at hK1⊢
 have hk1:IntKind.i64.wrap ((k:Int)+1)=((k+1:Nat):Int):=by rw [wrap64]<;>omega
 by_cases hlt:k < l.length
 ·have hg:=List.getElem?_eq_getElem hlt
  have hfg:=fillL_get z (l.map eModule) k (by simpa using hlt)
  have hfs:=fillL_set z (l.map eModule) k (by simpa using hlt)
  rw [List.getElem_map] at hfs
  simp only [eModule] at hfs
  have hzl:z.length=5:=by rw [←hz];rfl
  have hzd:z.drop 5=[]:=by rw [←hz];rfl
  have W:=And.intro hk1 (And.intro hg (And.intro hfg (And.intro hzl (And.intro hzd hfs))))
  have V:=And.intro hk1 (And.intro hg hlt)
  repeat' first|refine wl ?_|(refine nx ?_;refine sk (hc:=toModule_ok l[k] (by have:=sumN_get_le szModule l k hlt;(try simp only [szL] at hs);omega)) (h:=?_))|refine sq (fun hc=>?_) fun hc=>?_|fail
  refine hK1 _ ⟨k+1,by omega⟩ (weak_take 1 rfl ?_ (by simp) (by simp)) (by simp only;omega)
  simp
 ·have W:=hk1
  repeat' first|refine wl ?_|refine sq (fun hc=>?_) fun hc=>?_|fail
  have hfa:=fillL_all z (l.map eModule) k (by simpa using hlt)
  all_goals (try (refine ⟨.inr rfl,?_⟩;simp [Hands,Tryz.results45,hfa]))
theorem szModuleS_ok [Tabs Tryz.prog] (l:List DModule) (n:Int) (h0:0≤n) (h1:n≤1048576) (hw:l.length≤9223372036854775807∧∀y∈l,wfModule y):Ok Tryz.prog 32 [.sl .view 5 (l.map eModule),.int .i64 n] (.int .i64 (sub n (szL szModule l))):=by
 obtain ⟨hl,hw⟩:=hw
 refine ent Tryz.mix Tryz.func32 Tryz.ntmps32 ?_
 have W:=trivial
 repeat' first|refine wl ?_|refine sq (fun hc=>?_) fun hc=>?_|fail
 ·refine ⟨.inr rfl,?_⟩;simp [Hands,Tryz.results32,sub,szL];omega
 ·refine awp_loop' (ι:={k:Nat // k≤l.length∧l.length+sumN szModule (l.take k)≤n}) (fun t o i=>⟨upds t [(1,.int .i64 (n - (l.length+sumN szModule (l.take i.1):Nat))),(5,.int .i64 i.1)],[]⟩)
   (fun i=>l.length - i.1) ⟨0,by simp,by simp [sumN];omega⟩ (weak_o (by simp) (by simp [sumN])) ?_
  rintro ⟨k,hk,hs⟩ K1 hK1
  simp only [upds,List.set_cons_succ,List.set_cons_zero] at hK1⊢
  have hk1:IntKind.i64.wrap ((k:Int)+1)=((k+1:Nat):Int):=by rw [wrap64]<;>omega
  by_cases hlt:k < l.length
  ·have hg:=List.getElem?_eq_getElem hlt
   have hts:=sumN_take_succ szModule l k hlt
   have htl:=sumN_take_le szModule l (k+1)
   have hwg:=hw _ (List.getElem_mem hlt)
   have W:=And.intro hk1 hg
   repeat' first|refine wl ?_|(refine nx ?_;refine sk (hc:=szModule_ok _ _ (by omega) (by omega) hwg) (h:=?_))|refine sq (fun hc=>?_) fun hc=>?_|fail
   ·refine ⟨.inr rfl,?_⟩
    simp [Hands,Tryz.results32,szL]
    (repeat clear hK K);simp only [sub] at *;grind
   ·refine hK1 _ ⟨k+1,by omega,by (repeat clear hK K);simp only [sub] at *;grind⟩ (weak_o (by simp) ?_) (by simp only;omega)
    simp
    (repeat clear hK K);simp only [sub] at *;grind
  ·have W:=hk1
   repeat' first|refine wl ?_|refine sq (fun hc=>?_) fun hc=>?_|fail
   all_goals (try (refine ⟨.inr rfl,?_⟩;simp [Hands,Tryz.results32,szL]))
   have:k=l.length:=by omega
   subst this
   rw [List.take_length] at *
   rw [sub_pos (by omega)]
   omega
theorem eqModuleS_ok [Tabs Tryz.prog] (a b:List DModule) (hs:szL szModule a≤1099511627776):Ok Tryz.prog 58 [.sl .view 5 (a.map eModule),.sl .view 5 (b.map eModule)] (.bool (decide (a=b))):=by
 have hl:a.length≤1099511627776:=by (try simp only [szL] at hs);omega
 refine ent Tryz.mix Tryz.func58 Tryz.ntmps58 ?_
 have W:=trivial
 repeat' first|refine wl ?_|refine sq (fun hc=>?_) fun hc=>?_|fail
 ·all_goals (try (refine ⟨.inr rfl,?_⟩;simp [Hands,Tryz.results58]))
  intro h;subst h;exact absurd rfl hc
 ·have hlen:a.length=b.length:=by omega
  refine awp_loop' (ι:={k:Nat // k≤a.length∧a.take k=b.take k}) (fun t o i=>⟨upds t [(5,.int .i64 i.1)],[]⟩)
   (fun i=>a.length - i.1) ⟨0,by simp⟩ (weak_o (by simp) (by simp)) ?_
  rintro ⟨k,hk,hpre⟩ K1 hK1
  simp only [upds,List.set_cons_succ,List.set_cons_zero] at hK1⊢
  have hk1:IntKind.i64.wrap ((k:Int)+1)=((k+1:Nat):Int):=by rw [wrap64]<;>omega
  by_cases hlt:k < a.length
  ·have hg:=List.getElem?_eq_getElem hlt
   have hltb:k < b.length:=by omega
   have hgb:=List.getElem?_eq_getElem hltb
   have W:=And.intro hk1 (And.intro hg (And.intro hlt (And.intro hgb hltb)))
   repeat' first|refine wl ?_|(refine nx ?_;refine sk (hc:=eqModule_ok a[k] b[k] (by have:=sumN_get_le szModule a k hlt;(try simp only [szL] at hs);omega)) (h:=?_))|refine sq (fun hc=>?_) fun hc=>?_|fail
   ·all_goals (try (refine ⟨.inr rfl,?_⟩;simp [Hands,Tryz.results58]))
    intro h;subst h;exact hc rfl
   ·have hts:a.take (k+1)=b.take (k+1):=by
     rw [List.take_succ_eq_append_getElem hlt,List.take_succ_eq_append_getElem hltb,hpre,hc]
    refine hK1 _ ⟨k+1,by omega,hts⟩ (weak_o (by simp) (by simp)) (by simp only;omega)
  ·have hka:a.length≤k:=by omega
   rw [List.take_of_length_le hka,List.take_of_length_le (by omega)] at hpre
   subst hpre
   have W:=hk1
   repeat' first|refine wl ?_|refine sq (fun hc=>?_) fun hc=>?_|fail
   all_goals (try (refine ⟨.inr rfl,?_⟩;simp [Hands,Tryz.results58]))
end Go.Proofs.YtgkcdgaljknohaaGreatDoor
