/-
  Proved here: steps towards the statement of this claim, text U1.
  No condition beyond what each statement spells out.
-/
import Derived.Test.YtgkcdgaljknohaaGreatDoorSMK5
set_option linter.all false
set_option maxRecDepth 4000
set_option maxHeartbeats 4000000
namespace Go.Proofs.YtgkcdgaljknohaaGreatDoor
open Go.Aw
theorem toAddr_ok [Tabs Tryz.prog] (a:DAddr) (hs:szAddr a≤1048576):Ok Tryz.prog 24 [.agg (eAddr a)] (.agg (eAddr a)):=by
 simp only [szAddr] at hs
 refine ent Tryz.mix Tryz.func24 Tryz.ntmps24 ?_
 have W:=trivial
 repeat' first|refine wl ?_|refine sq (fun hc=>?_) fun hc=>?_|fail
 all_goals (try (refine ⟨.inr rfl,?_⟩;simp [Hands,Tryz.results24]))
theorem szAddr_ok [Tabs Tryz.prog] (a:DAddr) (n:Int) (h0:0≤n) (h1:n≤1048576) (hw:wfAddr a):Ok Tryz.prog 21 [.agg (eAddr a),.int .i64 n] (.int .i64 (sub n (szAddr a))):=by
 simp only [wfAddr] at hw
 obtain ⟨whost,wpath⟩:=hw
 refine ent Tryz.mix Tryz.func21 Tryz.ntmps21 ?_
 have W:=trivial
 repeat' first|refine wl ?_|refine sq (fun hc=>?_) fun hc=>?_|fail
 all_goals (try (refine ⟨.inr rfl,?_⟩;simp [Hands,Tryz.results21,szAddr]))
 all_goals (
  repeat (simp (disch:=omega) only [wrap64] at *)
  (try simp only [sub]);(try split);all_goals omega)
theorem eqAddr_ok [Tabs Tryz.prog] (a b:DAddr) (hs:szAddr a≤1099511627776):Ok Tryz.prog 52 [.agg (eAddr a),.agg (eAddr b)] (.bool (decide (a=b))):=by
 simp only [szAddr] at hs
 refine ent Tryz.mix Tryz.func52 Tryz.ntmps52 ?_
 have W:=trivial
 repeat' first|refine wl ?_|refine sq (fun hc=>?_) fun hc=>?_|fail
 all_goals (try (refine ⟨.inr rfl,?_⟩;simp [Hands,Tryz.results52]))
 all_goals ((repeat clear hK K);cases a;cases b;simp_all)
theorem toAttr_ok [Tabs Tryz.prog] (a:DAttr) (hs:szAttr a≤1048576):Ok Tryz.prog 230 [.agg (eAttr a)] (.agg (eAttr a)):=by
 simp only [szAttr] at hs
 refine ent Tryz.mix Tryz.func230 Tryz.ntmps230 ?_
 have W:=trivial
 repeat' first|refine wl ?_|refine sq (fun hc=>?_) fun hc=>?_|fail
 all_goals (try (refine ⟨.inr rfl,?_⟩;simp [Hands,Tryz.results230]))
theorem szAttr_ok [Tabs Tryz.prog] (a:DAttr) (n:Int) (h0:0≤n) (h1:n≤1048576) (hw:wfAttr a):Ok Tryz.prog 228 [.agg (eAttr a),.int .i64 n] (.int .i64 (sub n (szAttr a))):=by
 simp only [wfAttr] at hw
 obtain ⟨wname,wvalue⟩:=hw
 refine ent Tryz.mix Tryz.func228 Tryz.ntmps228 ?_
 have W:=trivial
 repeat' first|refine wl ?_|refine sq (fun hc=>?_) fun hc=>?_|fail
 all_goals (try (refine ⟨.inr rfl,?_⟩;simp [Hands,Tryz.results228,szAttr]))
 all_goals (
  repeat (simp (disch:=omega) only [wrap64] at *)
  (try simp only [sub]);(try split);all_goals omega)
theorem eqAttr_ok [Tabs Tryz.prog] (a b:DAttr) (hs:szAttr a≤1099511627776):Ok Tryz.prog 243 [.agg (eAttr a),.agg (eAttr b)] (.bool (decide (a=b))):=by
 simp only [szAttr] at hs
 refine ent Tryz.mix Tryz.func243 Tryz.ntmps243 ?_
 have W:=trivial
 repeat' first|refine wl ?_|refine sq (fun hc=>?_) fun hc=>?_|fail
 all_goals (try (refine ⟨.inr rfl,?_⟩;simp [Hands,Tryz.results243]))
 all_goals ((repeat clear hK K);cases a;cases b;simp_all)
theorem toTokenizer_ok [Tabs Tryz.prog] (a:DTokenizer) (hs:szTokenizer a≤1048576):Ok Tryz.prog 41 [.agg (eTokenizer a)] (.agg (eTokenizer a)):=by
 simp only [szTokenizer] at hs
 refine ent Tryz.mix Tryz.func41 Tryz.ntmps41 ?_
 have W:=trivial
 repeat' first|refine wl ?_|refine sq (fun hc=>?_) fun hc=>?_|fail
 all_goals (try (refine ⟨.inr rfl,?_⟩;simp [Hands,Tryz.results41]))
theorem szTokenizer_ok [Tabs Tryz.prog] (a:DTokenizer) (n:Int) (h0:0≤n) (h1:n≤1048576) (hw:wfTokenizer a):Ok Tryz.prog 28 [.agg (eTokenizer a),.int .i64 n] (.int .i64 (sub n (szTokenizer a))):=by
 simp only [wfTokenizer] at hw
 have wrest:=hw
 refine ent Tryz.mix Tryz.func28 Tryz.ntmps28 ?_
 have W:=trivial
 repeat' first|refine wl ?_|refine sq (fun hc=>?_) fun hc=>?_|fail
 all_goals (try (refine ⟨.inr rfl,?_⟩;simp [Hands,Tryz.results28,szTokenizer]))
 all_goals (
  repeat (simp (disch:=omega) only [wrap64] at *)
  (try simp only [sub]);(try split);all_goals omega)
theorem eqTokenizer_ok [Tabs Tryz.prog] (a b:DTokenizer) (hs:szTokenizer a≤1099511627776):Ok Tryz.prog 54 [.agg (eTokenizer a),.agg (eTokenizer b)] (.bool (decide (a=b))):=by
 simp only [szTokenizer] at hs
 refine ent Tryz.mix Tryz.func54 Tryz.ntmps54 ?_
 have W:=trivial
 repeat' first|refine wl ?_|refine sq (fun hc=>?_) fun hc=>?_|fail
 all_goals (try (refine ⟨.inr rfl,?_⟩;simp [Hands,Tryz.results54]))
 all_goals ((repeat clear hK K);cases a;cases b;simp_all)
theorem toIntS_ok [Tabs Tryz.prog] (l:List Int) (hs:l.length≤1048576):Ok Tryz.prog 115 [.sl .view 1 (l.map eInt)] (.sl .own 1 (l.map eInt)):=by
 have hl:l.length≤1048576:=by (try simp only [szL] at hs);omega
 have hb:(8:Int) * (l.length:Int)≤281474976710656:=by omega
 have hb2:(l.length:Int)≤9223372036854775807:=by omega
 generalize hz:([.int .i64 0]:List AV)=z
 have hz0:=fillL_zero z (l.map eInt)
 rw [List.length_map] at hz0
 refine ent Tryz.mix Tryz.func115 Tryz.ntmps115 ?_
 have W:=And.intro hb hb2
 repeat' first|refine wl ?_|refine sq (fun hc=>?_) fun hc=>?_|fail
 refine awp_loop' (ι:={k:Nat // k≤l.length}) (fun t o i=>⟨upds t [(4,.int .i64 i.1)],[⟨true,false,1,1,fillL z (l.map eInt) i.1⟩]⟩)
  (fun i=>l.length - i.1) ⟨0,by simp⟩ (weak_o (by simp [hz,hz0]) (by simp)) ?_
 rintro ⟨k,hk⟩ K1 hK1
 simp only [upds,List.set_cons_succ,List.set_cons_zero] at hK1⊢
 have hk1:IntKind.i64.wrap ((k:Int)+1)=((k+1:Nat):Int):=by rw [wrap64]<;>omega
 by_cases hlt:k < l.length
 ·have hg:=List.getElem?_eq_getElem hlt
  have hfg:=fillL_get z (l.map eInt) k (by simpa using hlt)
  have hfs:=fillL_set z (l.map eInt) k (by simpa using hlt)
  rw [List.getElem_map] at hfs
  simp only [eInt] at hfs
  have hzl:z.length=1:=by rw [←hz];rfl
  have hzd:z.drop 1=[]:=by rw [←hz];rfl
  have W:=And.intro hk1 (And.intro hg (And.intro hfg (And.intro hzl (And.intro hzd hfs))))
  have V:=And.intro hk1 (And.intro hg hlt)
  repeat' first|refine wl ?_|refine sq (fun hc=>?_) fun hc=>?_|fail
  refine hK1 _ ⟨k+1,by omega⟩ (weak_take 1 rfl ?_ (by simp) (by simp)) (by simp only;omega)
  simp
 ·have W:=hk1
  repeat' first|refine wl ?_|refine sq (fun hc=>?_) fun hc=>?_|fail
  have hfa:=fillL_all z (l.map eInt) k (by simpa using hlt)
  all_goals (try (refine ⟨.inr rfl,?_⟩;simp [Hands,Tryz.results115,hfa]))
theorem szIntS_ok [Tabs Tryz.prog] (l:List Int) (n:Int) (h0:0≤n) (h1:n≤1048576) (hw:l.length≤9223372036854775807):Ok Tryz.prog 101 [.sl .view 1 (l.map eInt),.int .i64 n] (.int .i64 (sub n (l.length))):=by
 refine ent Tryz.mix Tryz.func101 Tryz.ntmps101 ?_
 have W:=trivial
 repeat' first|refine wl ?_|refine sq (fun hc=>?_) fun hc=>?_|fail
 all_goals (try (refine ⟨.inr rfl,?_⟩;simp [Hands,Tryz.results101]))
 all_goals (first|omega|((repeat clear hK K);simp only [sub] at *;grind)|((repeat clear hK K);simp only [sub,IntKind.wrap_i64] at *;grind))
theorem eqIntS_ok [Tabs Tryz.prog] (a b:List Int) (hs:a.length≤1099511627776):Ok Tryz.prog 128 [.sl .view 1 (a.map eInt),.sl .view 1 (b.map eInt)] (.bool (decide (a=b))):=by
 have hl:a.length≤1099511627776:=by (try simp only [szL] at hs);omega
 refine ent Tryz.mix Tryz.func128 Tryz.ntmps128 ?_
 have W:=trivial
 repeat' first|refine wl ?_|refine sq (fun hc=>?_) fun hc=>?_|fail
 ·all_goals (try (refine ⟨.inr rfl,?_⟩;simp [Hands,Tryz.results128]))
  intro h;subst h;exact absurd rfl hc
 ·have hlen:a.length=b.length:=by omega
  refine awp_loop' (ι:={k:Nat // k≤a.length∧a.take k=b.take k}) (fun t o i=>⟨upds t [(5,.int .i64 i.1)],[]⟩)
   (fun i=>a.length - i.1) ⟨0,by simp⟩ (weak_o (by simp) (by simp)) ?_
  rintro ⟨k,hk,hpre⟩ K1 hK1
  simp only [upds,List.set_cons_succ,List.set_cons_zero] at hK1⊢
  have hk1:IntKind.i64.wrap ((k:Int)+1)=((k+1:Nat):Int):=by rw [wrap64]<;>omega
  by_cases hlt:k < a.length
  ·have hg:=List.getElem?_eq_getElem hlt
   have hltb:k < b.length:=by omega
   have hgb:=List.getElem?_eq_getElem hltb
   have W:=And.intro hk1 (And.intro hg (And.intro hlt (And.intro hgb hltb)))
   repeat' first|refine wl ?_|refine sq (fun hc=>?_) fun hc=>?_|fail
   ·all_goals (try (refine ⟨.inr rfl,?_⟩;simp [Hands,Tryz.results128]))
    intro h;subst h;exact hc rfl
   ·have hts:a.take (k+1)=b.take (k+1):=by
     rw [List.take_succ_eq_append_getElem hlt,List.take_succ_eq_append_getElem hltb,hpre,hc]
    refine hK1 _ ⟨k+1,by omega,hts⟩ (weak_o (by simp) (by simp)) (by simp only;omega)
  ·have hka:a.length≤k:=by omega
   rw [List.take_of_length_le hka,List.take_of_length_le (by omega)] at hpre
   subst hpre
   have W:=hk1
   repeat' first|refine wl ?_|refine sq (fun hc=>?_) fun hc=>?_|fail
   all_goals (try (refine ⟨.inr rfl,?_⟩;simp [Hands,Tryz.results128]))
theorem toStringS_ok [Tabs Tryz.prog] (l:List Str) (hs:szL szStr l≤1048576):Ok Tryz.prog 47 [.sl .view 1 (l.map eStr)] (.sl .own 1 (l.map eStr)):=by
 have hl:l.length≤1048576:=by (try simp only [szL] at hs);omega
 have hb:(16:Int) * (l.length:Int)≤281474976710656:=by omega
 have hb2:(l.length:Int)≤9223372036854775807:=by omega
 generalize hz:([.str []]:List AV)=z
 have hz0:=fillL_zero z (l.map eStr)
 rw [List.length_map] at hz0
 refine ent Tryz.mix Tryz.func47 Tryz.ntmps47 ?_
 have W:=And.intro hb hb2
 repeat' first|refine wl ?_|refine sq (fun hc=>?_) fun hc=>?_|fail
 refine awp_loop' (ι:={k:Nat // k≤l.length}) (fun t o i=>⟨upds t [(4,.int .i64 i.1)],[⟨true,false,1,1,fillL z (l.map eStr) i.1⟩]⟩)
  (fun i=>l.length - i.1) ⟨0,by simp⟩ (weak_o (by simp [hz,hz0]) (by simp)) ?_
 rintro ⟨k,hk⟩ K1 hK1
 simp only [upds,List.set_cons_succ,List.set_cons_zero] at hK1⊢
 have hk1:IntKind.i64.wrap ((k:Int)+1)=((k+1:Nat):Int):=by rw [wrap64]<;>omega
 by_cases hlt:k < l.length
 ·have hg:=List.getElem?_eq_getElem hlt
  have hfg:=fillL_get z (l.map eStr) k (by simpa using hlt)
  have hfs:=fillL_set z (l.map eStr) k (by simpa using hlt)
  rw [List.getElem_map] at hfs
  simp only [eStr] at hfs
  have hzl:z.length=1:=by rw [←hz];rfl
  have hzd:z.drop 1=[]:=by rw [←hz];rfl
  have W:=And.intro hk1 (And.intro hg (And.intro hfg (And.intro hzl (And.intro hzd hfs))))
  have V:=And.intro hk1 (And.intro hg hlt)
  repeat' first|refine wl ?_|refine sq (fun hc=>?_) fun hc=>?_|fail
  refine hK1 _ ⟨k+1,by omega⟩ (weak_take 1 rfl ?_ (by simp) (by simp)) (by simp only;omega)
  simp
 ·have W:=hk1
  repeat' first|refine wl ?_|refine sq (fun hc=>?_) fun hc=>?_|fail
  have hfa:=fillL_all z (l.map eStr) k (by simpa using hlt)
  all_goals (try (refine ⟨.inr rfl,?_⟩;simp [Hands,Tryz.results47,hfa]))
theorem szStringS_ok [Tabs Tryz.prog] (l:List Str) (n:Int) (h0:0≤n) (h1:n≤1048576) (hw:l.length≤9223372036854775807∧∀y∈l,y.length≤9223372036854775807):Ok Tryz.prog 34 [.sl .view 1 (l.map eStr),.int .i64 n] (.int .i64 (sub n (szL szStr l))):=by
 obtain ⟨hl,hw⟩:=hw
 refine ent Tryz.mix Tryz.func34 Tryz.ntmps34 ?_
 have W:=trivial
 repeat' first|refine wl ?_|refine sq (fun hc=>?_) fun hc=>?_|fail
 ·refine ⟨.inr rfl,?_⟩;simp [Hands,Tryz.results34,sub,szL];omega
 ·refine awp_loop' (ι:={k:Nat // k≤l.length∧l.length+sumN szStr (l.take k)≤n}) (fun t o i=>⟨upds t [(1,.int .i64 (n - (l.length+sumN szStr (l.take i.1):Nat))),(5,.int .i64 i.1)],[]⟩)
   (fun i=>l.length - i.1) ⟨0,by simp,by simp [sumN];omega⟩ (weak_o (by simp) (by simp [sumN])) ?_
  rintro ⟨k,hk,hs⟩ K1 hK1
  simp only [upds,List.set_cons_succ,List.set_cons_zero] at hK1⊢
  have hk1:IntKind.i64.wrap ((k:Int)+1)=((k+1:Nat):Int):=by rw [wrap64]<;>omega
  by_cases hlt:k < l.length
  ·have hg:=List.getElem?_eq_getElem hlt
   have hts:=sumN_take_succ szStr l k hlt
   have htl:=sumN_take_le szStr l (k+1)
   have hwg:=hw _ (List.getElem_mem hlt)
   have W:=And.intro hk1 hg
   repeat' first|refine wl ?_|refine sq (fun hc=>?_) fun hc=>?_|fail
   ·refine ⟨.inr rfl,?_⟩
    simp [Hands,Tryz.results34,szL]
    (repeat clear hK K);simp only [sub,szStr] at *;grind
   ·refine hK1 _ ⟨k+1,by omega,by (repeat clear hK K);simp only [sub,szStr] at *;grind⟩ (weak_o (by simp) ?_) (by simp only;omega)
    simp
    (repeat clear hK K);simp only [sub,szStr] at *;grind
  ·have W:=hk1
   repeat' first|refine wl ?_|refine sq (fun hc=>?_) fun hc=>?_|fail
   all_goals (try (refine ⟨.inr rfl,?_⟩;simp [Hands,Tryz.results34,szL]))
   have:k=l.length:=by omega
   subst this
   rw [List.take_length] at *
   rw [sub_pos (by omega)]
   omega
theorem eqStringS_ok [Tabs Tryz.prog] (a b:List Str) (hs:szL szStr a≤1099511627776):Ok Tryz.prog 60 [.sl .view 1 (a.map eStr),.sl .view 1 (b.map eStr)] (.bool (decide (a=b))):=by
 have hl:a.length≤1099511627776:=by (try simp only [szL] at hs);omega
 refine ent Tryz.mix Tryz.func60 Tryz.ntmps60 ?_
 have W:=trivial
 repeat' first|refine wl ?_|refine sq (fun hc=>?_) fun hc=>?_|fail
 ·all_goals (try (refine ⟨.inr rfl,?_⟩;simp [Hands,Tryz.results60]))
  intro h;subst h;exact absurd rfl hc
 ·have hlen:a.length=b.length:=by omega
  refine awp_loop' (ι:={k:Nat // k≤a.length∧a.take k=b.take k}) (fun t o i=>⟨upds t [(5,.int .i64 i.1)],[]⟩)
   (fun i=>a.length - i.1) ⟨0,by simp⟩ (weak_o (by simp) (by simp)) ?_
  rintro ⟨k,hk,hpre⟩ K1 hK1
  simp only [upds,List.set_cons_succ,List.set_cons_zero] at hK1⊢
  have hk1:IntKind.i64.wrap ((k:Int)+1)=((k+1:Nat):Int):=by rw [wrap64]<;>omega
  by_cases hlt:k < a.length
  ·have hg:=List.getElem?_eq_getElem hlt
   have hltb:k < b.length:=by omega
   have hgb:=List.getElem?_eq_getElem hltb
   have W:=And.intro hk1 (And.intro hg (And.intro hlt (And.intro hgb hltb)))
   repeat' first|refine wl ?_|refine sq (fun hc=>?_) fun hc=>?_|fail
   ·all_goals (try (refine ⟨.inr rfl,?_⟩;simp [Hands,Tryz.results60]))
    intro h;subst h;exact hc rfl
   ·have hts:a.take (k+1)=b.take (k+1):=by
     rw [List.take_succ_eq_append_getElem hlt,List.take_succ_eq_append_getElem hltb,hpre,hc]
    refine hK1 _ ⟨k+1,by omega,hts⟩ (weak_o (by simp) (by simp)) (by simp only;omega)
  ·have hka:a.length≤k:=by omega
   rw [List.take_of_length_le hka,List.take_of_length_le (by omega)] at hpre
   subst hpre
   have W:=hk1
   repeat' first|refine wl ?_|refine sq (fun hc=>?_) fun hc=>?_|fail
   all_goals (try (refine ⟨.inr rfl,?_⟩;simp [Hands,Tryz.results60]))
end Go.Proofs.YtgkcdgaljknohaaGreatDoor
