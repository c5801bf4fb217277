/-
  Proved here: steps towards the statement of this claim, text U4.
  No condition beyond what each statement spells out.
-/
import Derived.Test.YtgkcdgaljknohaaGreatDoorU3
set_option linter.all false
set_option maxRecDepth 4000
set_option maxHeartbeats 4000000
namespace Go.Proofs.YtgkcdgaljknohaaGreatDoor
open Go.Aw
theorem toTokenS_ok [Tabs Tryz.prog] (l:List DToken) (hs:szL szToken l≤1048576):Ok Tryz.prog 42 [.sl .view 4 (l.map (eToken .view))] (.sl .own 4 (l.map (eToken .own))):=by
 have hl:l.length≤1048576:=by (try simp only [szL] at hs);omega
 have hb:(64:Int) * (l.length:Int)≤281474976710656:=by omega
 have hb2:(l.length:Int)≤9223372036854775807:=by omega
 generalize hz:([.int .i64 0,.str [],.sl .own 2 [],.str []]:List AV)=z
 have hz0:=fillL_zero z (l.map (eToken .own))
 rw [List.length_map] at hz0
 refine ent Tryz.mix Tryz.func42 Tryz.ntmps42 ?_
 have W:=And.intro hb hb2
 repeat' first|refine wl ?_|refine sq (fun hc=>?_) fun hc=>?_|fail
 refine awp_loop' (ι:={k:Nat // k≤l.length}) (fun t o i=>⟨upds t [(4,.int .i64 i.1)],[⟨true,false,4,1,fillL z (l.map (eToken .own)) i.1⟩]⟩)
  (fun i=>l.length - i.1) ⟨0,by simp⟩ (weak_o (by simp [hz,hz0]) (by simp)) ?_
 rintro ⟨k,hk⟩ K1 hK1
 simp only [upds,List.set_cons_succ,List.set_cons_zero] at hK1⊢
 have hk1:IntKind.i64.wrap ((k:Int)+1)=((k+1:Nat):Int):=by rw [wrap64]<;>omega
 by_cases hlt:k < l.length
 ·have hg:=List.getElem?_eq_getElem hlt
  have hfg:=fillL_get z (l.map (eToken .own)) k (by simpa using hlt)
  have hfs:=fillL_set z (l.map (eToken .own)) k (by simpa using hlt)
  rw [List.getElem_map] at hfs
  simp only [eToken] at hfs
  have hzl:z.length=4:=by rw [←hz];rfl
  have hzd:z.drop 4=[]:=by rw [←hz];rfl
  have W:=And.intro hk1 (And.intro hg (And.intro hfg (And.intro hzl (And.intro hzd hfs))))
  have V:=And.intro hk1 (And.intro hg hlt)
  repeat' first|refine wl ?_|(refine nx ?_;refine sk (hc:=toToken_ok l[k] (by have:=sumN_get_le szToken l k hlt;(try simp only [szL] at hs);omega)) (h:=?_))|refine sq (fun hc=>?_) fun hc=>?_|fail
  refine hK1 _ ⟨k+1,by omega⟩ (weak_take 1 rfl ?_ (by simp) (by simp)) (by simp only;omega)
  simp
 ·have W:=hk1
  repeat' first|refine wl ?_|refine sq (fun hc=>?_) fun hc=>?_|fail
  have hfa:=fillL_all z (l.map (eToken .own)) k (by simpa using hlt)
  all_goals (try (refine ⟨.inr rfl,?_⟩;simp [Hands,Tryz.results42,hfa]))
theorem szTokenS_ok [Tabs Tryz.prog] (l:List DToken) (n:Int) (h0:0≤n) (h1:n≤1048576) (hw:l.length≤9223372036854775807∧∀y∈l,wfToken y):Ok Tryz.prog 29 [.sl .view 4 (l.map (eToken .view)),.int .i64 n] (.int .i64 (sub n (szL szToken l))):=by
 obtain ⟨hl,hw⟩:=hw
 refine ent Tryz.mix Tryz.func29 Tryz.ntmps29 ?_
 have W:=trivial
 repeat' first|refine wl ?_|refine sq (fun hc=>?_) fun hc=>?_|fail
 ·refine ⟨.inr rfl,?_⟩;simp [Hands,Tryz.results29,sub,szL];omega
 ·refine awp_loop' (ι:={k:Nat // k≤l.length∧l.length+sumN szToken (l.take k)≤n}) (fun t o i=>⟨upds t [(1,.int .i64 (n - (l.length+sumN szToken (l.take i.1):Nat))),(5,.int .i64 i.1)],[]⟩)
   (fun i=>l.length - i.1) ⟨0,by simp,by simp [sumN];omega⟩ (weak_o (by simp) (by simp [sumN])) ?_
  rintro ⟨k,hk,hs⟩ K1 hK1
  simp only [upds,List.set_cons_succ,List.set_cons_zero] at hK1⊢
  have hk1:IntKind.i64.wrap ((k:Int)+1)=((k+1:Nat):Int):=by rw [wrap64]<;>omega
  by_cases hlt:k < l.length
  ·have hg:=List.getElem?_eq_getElem hlt
   have hts:=sumN_take_succ szToken l k hlt
   have htl:=sumN_take_le szToken l (k+1)
   have hwg:=hw _ (List.getElem_mem hlt)
   have W:=And.intro hk1 hg
   repeat' first|refine wl ?_|(refine nx ?_;refine sk (hc:=szToken_ok _ _ (by omega) (by omega) hwg) (h:=?_))|refine sq (fun hc=>?_) fun hc=>?_|fail
   ·refine ⟨.inr rfl,?_⟩
    simp [Hands,Tryz.results29,szL]
    (repeat clear hK K);simp only [sub] at *;grind
   ·refine hK1 _ ⟨k+1,by omega,by (repeat clear hK K);simp only [sub] at *;grind⟩ (weak_o (by simp) ?_) (by simp only;omega)
    simp
    (repeat clear hK K);simp only [sub] at *;grind
  ·have W:=hk1
   repeat' first|refine wl ?_|refine sq (fun hc=>?_) fun hc=>?_|fail
   all_goals (try (refine ⟨.inr rfl,?_⟩;simp [Hands,Tryz.results29,szL]))
   have:k=l.length:=by omega
   subst this
   rw [List.take_length] at *
   rw [sub_pos (by omega)]
   omega
theorem eqTokenS_ok [Tabs Tryz.prog] (a b:List DToken) (hs:szL szToken a≤1099511627776):Ok Tryz.prog 55 [.sl .view 4 (a.map (eToken .view)),.sl .view 4 (b.map (eToken .view))] (.bool (decide (a=b))):=by
 have hl:a.length≤1099511627776:=by (try simp only [szL] at hs);omega
 refine ent Tryz.mix Tryz.func55 Tryz.ntmps55 ?_
 have W:=trivial
 repeat' first|refine wl ?_|refine sq (fun hc=>?_) fun hc=>?_|fail
 ·all_goals (try (refine ⟨.inr rfl,?_⟩;simp [Hands,Tryz.results55]))
  intro h;subst h;exact absurd rfl hc
 ·have hlen:a.length=b.length:=by omega
  refine awp_loop' (ι:={k:Nat // k≤a.length∧a.take k=b.take k}) (fun t o i=>⟨upds t [(5,.int .i64 i.1)],[]⟩)
   (fun i=>a.length - i.1) ⟨0,by simp⟩ (weak_o (by simp) (by simp)) ?_
  rintro ⟨k,hk,hpre⟩ K1 hK1
  simp only [upds,List.set_cons_succ,List.set_cons_zero] at hK1⊢
  have hk1:IntKind.i64.wrap ((k:Int)+1)=((k+1:Nat):Int):=by rw [wrap64]<;>omega
  by_cases hlt:k < a.length
  ·have hg:=List.getElem?_eq_getElem hlt
   have hltb:k < b.length:=by omega
   have hgb:=List.getElem?_eq_getElem hltb
   have W:=And.intro hk1 (And.intro hg (And.intro hlt (And.intro hgb hltb)))
   repeat' first|refine wl ?_|(refine nx ?_;refine sk (hc:=eqToken_ok a[k] b[k] (by have:=sumN_get_le szToken a k hlt;(try simp only [szL] at hs);omega)) (h:=?_))|refine sq (fun hc=>?_) fun hc=>?_|fail
   ·all_goals (try (refine ⟨.inr rfl,?_⟩;simp [Hands,Tryz.results55]))
    intro h;subst h;exact hc rfl
   ·have hts:a.take (k+1)=b.take (k+1):=by
     rw [List.take_succ_eq_append_getElem hlt,List.take_succ_eq_append_getElem hltb,hpre,hc]
    refine hK1 _ ⟨k+1,by omega,hts⟩ (weak_o (by simp) (by simp)) (by simp only;omega)
  ·have hka:a.length≤k:=by omega
   rw [List.take_of_length_le hka,List.take_of_length_le (by omega)] at hpre
   subst hpre
   have W:=hk1
   repeat' first|refine wl ?_|refine sq (fun hc=>?_) fun hc=>?_|fail
   all_goals (try (refine ⟨.inr rfl,?_⟩;simp [Hands,Tryz.results55]))
theorem toNodeS_ok [Tabs Tryz.prog] (l:List DNode) (hs:szL szNode l≤1048576):Ok Tryz.prog 114 [.sl .view 4 (l.map (eNode .view))] (.sl .own 4 (l.map (eNode .own))):=by
 have hl:l.length≤1048576:=by (try simp only [szL] at hs);omega
 have hb:(64:Int) * (l.length:Int)≤281474976710656:=by omega
 have hb2:(l.length:Int)≤9223372036854775807:=by omega
 generalize hz:([.str [],.str [],.int .i64 0,.sl .own 2 []]:List AV)=z
 have hz0:=fillL_zero z (l.map (eNode .own))
 rw [List.length_map] at hz0
 refine ent Tryz.mix Tryz.func114 Tryz.ntmps114 ?_
 have W:=And.intro hb hb2
 repeat' first|refine wl ?_|refine sq (fun hc=>?_) fun hc=>?_|fail
 refine awp_loop' (ι:={k:Nat // k≤l.length}) (fun t o i=>⟨upds t [(4,.int .i64 i.1)],[⟨true,false,4,1,fillL z (l.map (eNode .own)) i.1⟩]⟩)
  (fun i=>l.length - i.1) ⟨0,by simp⟩ (weak_o (by simp [hz,hz0]) (by simp)) ?_
 rintro ⟨k,hk⟩ K1 hK1
 simp only [upds,List.set_cons_succ,List.set_cons_zero] at hK1⊢
 have hk1:IntKind.i64.wrap ((k:Int)+1)=((k+1:Nat):Int):=by rw [wrap64]<;>omega
 by_cases hlt:k < l.length
 ·have hg:=List.getElem?_eq_getElem hlt
  have hfg:=fillL_get z (l.map (eNode .own)) k (by simpa using hlt)
  have hfs:=fillL_set z (l.map (eNode .own)) k (by simpa using hlt)
  rw [List.getElem_map] at hfs
  simp only [eNode] at hfs
  have hzl:z.length=4:=by rw [←hz];rfl
  have hzd:z.drop 4=[]:=by rw [←hz];rfl
  have W:=And.intro hk1 (And.intro hg (And.intro hfg (And.intro hzl (And.intro hzd hfs))))
  have V:=And.intro hk1 (And.intro hg hlt)
  repeat' first|refine wl ?_|(refine nx ?_;refine sk (hc:=toNode_ok l[k] (by have:=sumN_get_le szNode l k hlt;(try simp only [szL] at hs);omega)) (h:=?_))|refine sq (fun hc=>?_) fun hc=>?_|fail
  refine hK1 _ ⟨k+1,by omega⟩ (weak_take 1 rfl ?_ (by simp) (by simp)) (by simp only;omega)
  simp
 ·have W:=hk1
  repeat' first|refine wl ?_|refine sq (fun hc=>?_) fun hc=>?_|fail
  have hfa:=fillL_all z (l.map (eNode .own)) k (by simpa using hlt)
  all_goals (try (refine ⟨.inr rfl,?_⟩;simp [Hands,Tryz.results114,hfa]))
theorem szNodeS_ok [Tabs Tryz.prog] (l:List DNode) (n:Int) (h0:0≤n) (h1:n≤1048576) (hw:l.length≤9223372036854775807∧∀y∈l,wfNode y):Ok Tryz.prog 100 [.sl .view 4 (l.map (eNode .view)),.int .i64 n] (.int .i64 (sub n (szL szNode l))):=by
 obtain ⟨hl,hw⟩:=hw
 refine ent Tryz.mix Tryz.func100 Tryz.ntmps100 ?_
 have W:=trivial
 repeat' first|refine wl ?_|refine sq (fun hc=>?_) fun hc=>?_|fail
 ·refine ⟨.inr rfl,?_⟩;simp [Hands,Tryz.results100,sub,szL];omega
 ·refine awp_loop' (ι:={k:Nat // k≤l.length∧l.length+sumN szNode (l.take k)≤n}) (fun t o i=>⟨upds t [(1,.int .i64 (n - (l.length+sumN szNode (l.take i.1):Nat))),(5,.int .i64 i.1)],[]⟩)
   (fun i=>l.length - i.1) ⟨0,by simp,by simp [sumN];omega⟩ (weak_o (by simp) (by simp [sumN])) ?_
  rintro ⟨k,hk,hs⟩ K1 hK1
  simp only [upds,List.set_cons_succ,List.set_cons_zero] at hK1⊢
  have hk1:IntKind.i64.wrap ((k:Int)+1)=((k+1:Nat):Int):=by rw [wrap64]<;>omega
  by_cases hlt:k < l.length
  ·have hg:=List.getElem?_eq_getElem hlt
   have hts:=sumN_take_succ szNode l k hlt
   have htl:=sumN_take_le szNode l (k+1)
   have hwg:=hw _ (List.getElem_mem hlt)
   have W:=And.intro hk1 hg
   repeat' first|refine wl ?_|(refine nx ?_;refine sk (hc:=szNode_ok _ _ (by omega) (by omega) hwg) (h:=?_))|refine sq (fun hc=>?_) fun hc=>?_|fail
   ·refine ⟨.inr rfl,?_⟩
    simp [Hands,Tryz.results100,szL]
    (repeat clear hK K);simp only [sub] at *;grind
   ·refine hK1 _ ⟨k+1,by omega,by (repeat clear hK K);simp only [sub] at *;grind⟩ (weak_o (by simp) ?_) (by simp only;omega)
    simp
    (repeat clear hK K);simp only [sub] at *;grind
  ·have W:=hk1
   repeat' first|refine wl ?_|refine sq (fun hc=>?_) fun hc=>?_|fail
   all_goals (try (refine ⟨.inr rfl,?_⟩;simp [Hands,Tryz.results100,szL]))
   have:k=l.length:=by omega
   subst this
   rw [List.take_length] at *
   rw [sub_pos (by omega)]
   omega
theorem eqNodeS_ok [Tabs Tryz.prog] (a b:List DNode) (hs:szL szNode a≤1099511627776):Ok Tryz.prog 127 [.sl .view 4 (a.map (eNode .view)),.sl .view 4 (b.map (eNode .view))] (.bool (decide (a=b))):=by
 have hl:a.length≤1099511627776:=by (try simp only [szL] at hs);omega
 refine ent Tryz.mix Tryz.func127 Tryz.ntmps127 ?_
 have W:=trivial
 repeat' first|refine wl ?_|refine sq (fun hc=>?_) fun hc=>?_|fail
 ·all_goals (try (refine ⟨.inr rfl,?_⟩;simp [Hands,Tryz.results127]))
  intro h;subst h;exact absurd rfl hc
 ·have hlen:a.length=b.length:=by omega
  refine awp_loop' (ι:={k:Nat // k≤a.length∧a.take k=b.take k}) (fun t o i=>⟨upds t [(5,.int .i64 i.1)],[]⟩)
   (fun i=>a.length - i.1) ⟨0,by simp⟩ (weak_o (by simp) (by simp)) ?_
  rintro ⟨k,hk,hpre⟩ K1 hK1
  simp only [upds,List.set_cons_succ,List.set_cons_zero] at hK1⊢
  have hk1:IntKind.i64.wrap ((k:Int)+1)=((k+1:Nat):Int):=by rw [wrap64]<;>omega
  by_cases hlt:k < a.length
  ·have hg:=List.getElem?_eq_getElem hlt
   have hltb:k < b.length:=by omega
   have hgb:=List.getElem?_eq_getElem hltb
   have W:=And.intro hk1 (And.intro hg (And.intro hlt (And.intro hgb hltb)))
   repeat' first|refine wl ?_|(refine nx ?_;refine sk (hc:=eqNode_ok a[k] b[k] (by have:=sumN_get_le szNode a k hlt;(try simp only [szL] at hs);omega)) (h:=?_))|refine sq (fun hc=>?_) fun hc=>?_|fail
   ·all_goals (try (refine ⟨.inr rfl,?_⟩;simp [Hands,Tryz.results127]))
    intro h;subst h;exact hc rfl
   ·have hts:a.take (k+1)=b.take (k+1):=by
     rw [List.take_succ_eq_append_getElem hlt,List.take_succ_eq_append_getElem hltb,hpre,hc]
    refine hK1 _ ⟨k+1,by omega,hts⟩ (weak_o (by simp) (by simp)) (by simp only;omega)
  ·have hka:a.length≤k:=by omega
   rw [List.take_of_length_le hka,List.take_of_length_le (by omega)] at hpre
   subst hpre
   have W:=hk1
   repeat' first|refine wl ?_|refine sq (fun hc=>?_) fun hc=>?_|fail
   all_goals (try (refine ⟨.inr rfl,?_⟩;simp [Hands,Tryz.results127]))
end Go.Proofs.YtgkcdgaljknohaaGreatDoor
