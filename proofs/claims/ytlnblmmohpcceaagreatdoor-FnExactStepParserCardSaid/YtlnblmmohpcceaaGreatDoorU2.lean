/-
  Proved here: steps towards the statement of this claim, text U2.
  No condition beyond what each statement spells out.
-/
import Derived.Test.YtlnblmmohpcceaaGreatDoorQMK6
set_option linter.all false
set_option maxRecDepth 4000
set_option maxHeartbeats 4000000
namespace Go.Proofs.YtlnblmmohpcceaaGreatDoor
open Go.Aw
theorem aKk [aA Tryz.prog] (l:List fA) (hs:szL eQ l≤1048576):Ok Tryz.prog 221 [.sl .view 2 (l.map dI)] (.sl .own 2 (l.map dI)):=by
 have hl:l.length≤1048576:=by (try simp only [szL] at hs);omega
 have hb:(32:Int) * (l.length:Int)≤281474976710656:=by omega
 have hb2:(l.length:Int)≤9223372036854775807:=by omega
 generalize hz:([.str [],.str []]:List AV)=z
 have hz0:=pU z (l.map dI)
 rw [List.length_map] at hz0
 refine ent Tryz.mix Tryz.func221 Tryz.ntmps221 ?_
 have W:=And.intro hb hb2
 repeat' first|refine wl ?_|(refine sq (fun hc=>?_) (fun hc=>?_)<;>try exact hc.elim)|fail
 refine aM (ι:={k:Nat // k≤l.length}) (fun t o i=>⟨aO t [(4,.int .i64 i.1)],[⟨true,false,2,1,nN z (l.map dI) i.1⟩]⟩)
  (fun i=>l.length - i.1) ⟨0,by simp⟩ (aH (by simp [hz,hz0]) (by simp)) ?_
 rintro ⟨k,hk⟩ K1 hK1
 simp only [aO,List.set_cons_succ,List.set_cons_zero] at hK1⊢
 have hk1:IntKind.i64.wrap ((k:Int)+1)=((k+1:Nat):Int):=by rw [wrap64]<;>omega
 by_cases hlt:k < l.length
 ·have hg:=List.getElem?_eq_getElem hlt
  have hfg:=qX z (l.map dI) k (by simpa using hlt)
  have hfs:=qP z (l.map dI) k (by simpa using hlt)
  rw [List.getElem_map] at hfs
  simp only [dI] at hfs
  have hzl:z.length=2:=by rw [←hz];rfl
  have hzd:z.drop 2=[]:=by rw [←hz];rfl
  have W:=And.intro hk1 (And.intro hg (And.intro hfg (And.intro hzl (And.intro hzd hfs))))
  have V:=And.intro hk1 (And.intro hg hlt)
  repeat' first|refine wl ?_|(refine nx ?_;refine sk (hc:=aZk l[k] (by have:=dO eQ l k hlt;(try simp only [szL] at hs);omega)) (h:=?_))|(refine sq (fun hc=>?_) (fun hc=>?_)<;>try exact hc.elim)|fail
  refine hK1 _ ⟨k+1,by omega⟩ (aQ 1 rfl ?_ (by simp) (by simp)) (by simp only;omega)
  simp
 ·have W:=hk1
  repeat' first|refine wl ?_|(refine sq (fun hc=>?_) (fun hc=>?_)<;>try exact hc.elim)|fail
  have hfa:=qZ z (l.map dI) k (by simpa using hlt)
  all_goals (try (refine ⟨.inr rfl,?_⟩;simp [Hands,Tryz.results221,hfa]))
theorem aJd [aA Tryz.prog] (l:List fA) (n:Int) (h0:0≤n) (h1:n≤1048576) (hw:l.length≤9223372036854775807∧∀y∈l,aCo y):Ok Tryz.prog 208 [.sl .view 2 (l.map dI),.int .i64 n] (.int .i64 (sub n (szL eQ l))):=by
 obtain ⟨hl,hw⟩:=hw
 refine ent Tryz.mix Tryz.func208 Tryz.ntmps208 ?_
 have W:=trivial
 repeat' first|refine wl ?_|(refine sq (fun hc=>?_) (fun hc=>?_)<;>try exact hc.elim)|fail
 ·refine ⟨.inr rfl,?_⟩;simp [Hands,Tryz.results208,sub,szL];omega
 ·refine aM (ι:={k:Nat // k≤l.length∧l.length+aC eQ (l.take k)≤n}) (fun t o i=>⟨aO t [(1,.int .i64 (n - (l.length+aC eQ (l.take i.1):Nat))),(5,.int .i64 i.1)],[]⟩)
   (fun i=>l.length - i.1) ⟨0,by simp,by simp [aC];omega⟩ (aH (by simp) (by simp [aC])) ?_
  rintro ⟨k,hk,hs⟩ K1 hK1
  simp only [aO,List.set_cons_succ,List.set_cons_zero] at hK1⊢
  have hk1:IntKind.i64.wrap ((k:Int)+1)=((k+1:Nat):Int):=by rw [wrap64]<;>omega
  by_cases hlt:k < l.length
  ·have hg:=List.getElem?_eq_getElem hlt
   have hts:=bT eQ l k hlt
   have htl:=dC eQ l (k+1)
   have hwg:=hw _ (List.getElem_mem hlt)
   have W:=And.intro hk1 hg
   repeat' first|refine wl ?_|(refine nx ?_;refine sk (hc:=aZ0 _ _ (by omega) (by omega) hwg) (h:=?_))|(refine sq (fun hc=>?_) (fun hc=>?_)<;>try exact hc.elim)|fail
   ·refine ⟨.inr rfl,?_⟩
    simp [Hands,Tryz.results208,szL]
    (repeat clear hK K);simp only [sub] at *;grind
   ·refine hK1 _ ⟨k+1,by omega,by (repeat clear hK K);simp only [sub] at *;grind⟩ (aH (by simp) ?_) (by simp only;omega)
    simp
    (repeat clear hK K);simp only [sub] at *;grind
  ·have W:=hk1
   repeat' first|refine wl ?_|(refine sq (fun hc=>?_) (fun hc=>?_)<;>try exact hc.elim)|fail
   all_goals (try (refine ⟨.inr rfl,?_⟩;simp [Hands,Tryz.results208,szL]))
   have:k=l.length:=by omega
   subst this
   rw [List.take_length] at *
   rw [uA (by omega)]
   omega
theorem aKy [aA Tryz.prog] (a b:List fA) (hs:szL eQ a≤1099511627776):Ok Tryz.prog 232 [.sl .view 2 (a.map dI),.sl .view 2 (b.map dI)] (.bool (decide (a=b))):=by
 have hl:a.length≤1099511627776:=by (try simp only [szL] at hs);omega
 refine ent Tryz.mix Tryz.func232 Tryz.ntmps232 ?_
 have W:=trivial
 repeat' first|refine wl ?_|(refine sq (fun hc=>?_) (fun hc=>?_)<;>try exact hc.elim)|fail
 ·all_goals (try (refine ⟨.inr rfl,?_⟩;simp [Hands,Tryz.results232]))
  intro h;subst h;exact absurd rfl hc
 ·have hlen:a.length=b.length:=by omega
  refine aM (ι:={k:Nat // k≤a.length∧a.take k=b.take k}) (fun t o i=>⟨aO t [(5,.int .i64 i.1)],[]⟩)
   (fun i=>a.length - i.1) ⟨0,by simp⟩ (aH (by simp) (by simp)) ?_
  rintro ⟨k,hk,hpre⟩ K1 hK1
  simp only [aO,List.set_cons_succ,List.set_cons_zero] at hK1⊢
  have hk1:IntKind.i64.wrap ((k:Int)+1)=((k+1:Nat):Int):=by rw [wrap64]<;>omega
  by_cases hlt:k < a.length
  ·have hg:=List.getElem?_eq_getElem hlt
   have hltb:k < b.length:=by omega
   have hgb:=List.getElem?_eq_getElem hltb
   have W:=And.intro hk1 (And.intro hg (And.intro hlt (And.intro hgb hltb)))
   repeat' first|refine wl ?_|(refine nx ?_;refine sk (hc:=aZr a[k] b[k] (by have:=dO eQ a k hlt;(try simp only [szL] at hs);omega)) (h:=?_))|(refine sq (fun hc=>?_) (fun hc=>?_)<;>try exact hc.elim)|fail
   ·all_goals (try (refine ⟨.inr rfl,?_⟩;simp [Hands,Tryz.results232]))
    intro h;subst h;exact hc rfl
   ·have hts:a.take (k+1)=b.take (k+1):=by
     rw [List.take_succ_eq_append_getElem hlt,List.take_succ_eq_append_getElem hltb,hpre,hc]
    refine hK1 _ ⟨k+1,by omega,hts⟩ (aH (by simp) (by simp)) (by simp only;omega)
  ·have hka:a.length≤k:=by omega
   rw [List.take_of_length_le hka,List.take_of_length_le (by omega)] at hpre
   subst hpre
   have W:=hk1
   repeat' first|refine wl ?_|(refine sq (fun hc=>?_) (fun hc=>?_)<;>try exact hc.elim)|fail
   all_goals (try (refine ⟨.inr rfl,?_⟩;simp [Hands,Tryz.results232]))
theorem aJc [aA Tryz.prog] (l:List aK) (hs:szL aR l≤1048576):Ok Tryz.prog 79 [.sl .view 2 (l.map aF)] (.sl .own 2 (l.map aF)):=by
 have hl:l.length≤1048576:=by (try simp only [szL] at hs);omega
 have hb:(32:Int) * (l.length:Int)≤281474976710656:=by omega
 have hb2:(l.length:Int)≤9223372036854775807:=by omega
 generalize hz:([.str [],.str []]:List AV)=z
 have hz0:=pU z (l.map aF)
 rw [List.length_map] at hz0
 refine ent Tryz.mix Tryz.func79 Tryz.ntmps79 ?_
 have W:=And.intro hb hb2
 repeat' first|refine wl ?_|(refine sq (fun hc=>?_) (fun hc=>?_)<;>try exact hc.elim)|fail
 refine aM (ι:={k:Nat // k≤l.length}) (fun t o i=>⟨aO t [(4,.int .i64 i.1)],[⟨true,false,2,1,nN z (l.map aF) i.1⟩]⟩)
  (fun i=>l.length - i.1) ⟨0,by simp⟩ (aH (by simp [hz,hz0]) (by simp)) ?_
 rintro ⟨k,hk⟩ K1 hK1
 simp only [aO,List.set_cons_succ,List.set_cons_zero] at hK1⊢
 have hk1:IntKind.i64.wrap ((k:Int)+1)=((k+1:Nat):Int):=by rw [wrap64]<;>omega
 by_cases hlt:k < l.length
 ·have hg:=List.getElem?_eq_getElem hlt
  have hfg:=qX z (l.map aF) k (by simpa using hlt)
  have hfs:=qP z (l.map aF) k (by simpa using hlt)
  rw [List.getElem_map] at hfs
  simp only [aF] at hfs
  have hzl:z.length=2:=by rw [←hz];rfl
  have hzd:z.drop 2=[]:=by rw [←hz];rfl
  have W:=And.intro hk1 (And.intro hg (And.intro hfg (And.intro hzl (And.intro hzd hfs))))
  have V:=And.intro hk1 (And.intro hg hlt)
  repeat' first|refine wl ?_|(refine nx ?_;refine sk (hc:=aB5 l[k] (by have:=dO aR l k hlt;(try simp only [szL] at hs);omega)) (h:=?_))|(refine sq (fun hc=>?_) (fun hc=>?_)<;>try exact hc.elim)|fail
  refine hK1 _ ⟨k+1,by omega⟩ (aQ 1 rfl ?_ (by simp) (by simp)) (by simp only;omega)
  simp
 ·have W:=hk1
  repeat' first|refine wl ?_|(refine sq (fun hc=>?_) (fun hc=>?_)<;>try exact hc.elim)|fail
  have hfa:=qZ z (l.map aF) k (by simpa using hlt)
  all_goals (try (refine ⟨.inr rfl,?_⟩;simp [Hands,Tryz.results79,hfa]))
theorem aJ8 [aA Tryz.prog] (l:List aK) (n:Int) (h0:0≤n) (h1:n≤1048576) (hw:l.length≤9223372036854775807∧∀y∈l,wI y):Ok Tryz.prog 60 [.sl .view 2 (l.map aF),.int .i64 n] (.int .i64 (sub n (szL aR l))):=by
 obtain ⟨hl,hw⟩:=hw
 refine ent Tryz.mix Tryz.func60 Tryz.ntmps60 ?_
 have W:=trivial
 repeat' first|refine wl ?_|(refine sq (fun hc=>?_) (fun hc=>?_)<;>try exact hc.elim)|fail
 ·refine ⟨.inr rfl,?_⟩;simp [Hands,Tryz.results60,sub,szL];omega
 ·refine aM (ι:={k:Nat // k≤l.length∧l.length+aC aR (l.take k)≤n}) (fun t o i=>⟨aO t [(1,.int .i64 (n - (l.length+aC aR (l.take i.1):Nat))),(5,.int .i64 i.1)],[]⟩)
   (fun i=>l.length - i.1) ⟨0,by simp,by simp [aC];omega⟩ (aH (by simp) (by simp [aC])) ?_
  rintro ⟨k,hk,hs⟩ K1 hK1
  simp only [aO,List.set_cons_succ,List.set_cons_zero] at hK1⊢
  have hk1:IntKind.i64.wrap ((k:Int)+1)=((k+1:Nat):Int):=by rw [wrap64]<;>omega
  by_cases hlt:k < l.length
  ·have hg:=List.getElem?_eq_getElem hlt
   have hts:=bT aR l k hlt
   have htl:=dC aR l (k+1)
   have hwg:=hw _ (List.getElem_mem hlt)
   have W:=And.intro hk1 hg
   repeat' first|refine wl ?_|(refine nx ?_;refine sk (hc:=aBr _ _ (by omega) (by omega) hwg) (h:=?_))|(refine sq (fun hc=>?_) (fun hc=>?_)<;>try exact hc.elim)|fail
   ·refine ⟨.inr rfl,?_⟩
    simp [Hands,Tryz.results60,szL]
    (repeat clear hK K);simp only [sub] at *;grind
   ·refine hK1 _ ⟨k+1,by omega,by (repeat clear hK K);simp only [sub] at *;grind⟩ (aH (by simp) ?_) (by simp only;omega)
    simp
    (repeat clear hK K);simp only [sub] at *;grind
  ·have W:=hk1
   repeat' first|refine wl ?_|(refine sq (fun hc=>?_) (fun hc=>?_)<;>try exact hc.elim)|fail
   all_goals (try (refine ⟨.inr rfl,?_⟩;simp [Hands,Tryz.results60,szL]))
   have:k=l.length:=by omega
   subst this
   rw [List.take_length] at *
   rw [uA (by omega)]
   omega
theorem aKo [aA Tryz.prog] (a b:List aK) (hs:szL aR a≤1099511627776):Ok Tryz.prog 97 [.sl .view 2 (a.map aF),.sl .view 2 (b.map aF)] (.bool (decide (a=b))):=by
 have hl:a.length≤1099511627776:=by (try simp only [szL] at hs);omega
 refine ent Tryz.mix Tryz.func97 Tryz.ntmps97 ?_
 have W:=trivial
 repeat' first|refine wl ?_|(refine sq (fun hc=>?_) (fun hc=>?_)<;>try exact hc.elim)|fail
 ·all_goals (try (refine ⟨.inr rfl,?_⟩;simp [Hands,Tryz.results97]))
  intro h;subst h;exact absurd rfl hc
 ·have hlen:a.length=b.length:=by omega
  refine aM (ι:={k:Nat // k≤a.length∧a.take k=b.take k}) (fun t o i=>⟨aO t [(5,.int .i64 i.1)],[]⟩)
   (fun i=>a.length - i.1) ⟨0,by simp⟩ (aH (by simp) (by simp)) ?_
  rintro ⟨k,hk,hpre⟩ K1 hK1
  simp only [aO,List.set_cons_succ,List.set_cons_zero] at hK1⊢
  have hk1:IntKind.i64.wrap ((k:Int)+1)=((k+1:Nat):Int):=by rw [wrap64]<;>omega
  by_cases hlt:k < a.length
  ·have hg:=List.getElem?_eq_getElem hlt
   have hltb:k < b.length:=by omega
   have hgb:=List.getElem?_eq_getElem hltb
   have W:=And.intro hk1 (And.intro hg (And.intro hlt (And.intro hgb hltb)))
   repeat' first|refine wl ?_|(refine nx ?_;refine sk (hc:=aB4 a[k] b[k] (by have:=dO aR a k hlt;(try simp only [szL] at hs);omega)) (h:=?_))|(refine sq (fun hc=>?_) (fun hc=>?_)<;>try exact hc.elim)|fail
   ·all_goals (try (refine ⟨.inr rfl,?_⟩;simp [Hands,Tryz.results97]))
    intro h;subst h;exact hc rfl
   ·have hts:a.take (k+1)=b.take (k+1):=by
     rw [List.take_succ_eq_append_getElem hlt,List.take_succ_eq_append_getElem hltb,hpre,hc]
    refine hK1 _ ⟨k+1,by omega,hts⟩ (aH (by simp) (by simp)) (by simp only;omega)
  ·have hka:a.length≤k:=by omega
   rw [List.take_of_length_le hka,List.take_of_length_le (by omega)] at hpre
   subst hpre
   have W:=hk1
   repeat' first|refine wl ?_|(refine sq (fun hc=>?_) (fun hc=>?_)<;>try exact hc.elim)|fail
   all_goals (try (refine ⟨.inr rfl,?_⟩;simp [Hands,Tryz.results97]))
theorem aYu [aA Tryz.prog] (a:gP) (hs:fG a≤1048576):Ok Tryz.prog 163 [.agg (eX a)] (.agg (eX a)):=by
 simp only [fG] at hs
 refine ent Tryz.mix Tryz.func163 Tryz.ntmps163 ?_
 have W:=trivial
 repeat' first|refine wl ?_|(refine nx ?_;refine sk (hc:=aB5 a.to (by omega)) (h:=?_))|(refine sq (fun hc=>?_) (fun hc=>?_)<;>try exact hc.elim)|fail
 all_goals (try (refine ⟨.inr rfl,?_⟩;simp [Hands,Tryz.results163]))
theorem aZh [aA Tryz.prog] (a:gP) (n:Int) (h0:0≤n) (h1:n≤1048576) (hw:aFd a):Ok Tryz.prog 145 [.agg (eX a),.int .i64 n] (.int .i64 (sub n (fG a))):=by
 simp only [aFd] at hw
 obtain ⟨wto,wdigest,wbody⟩:=hw
 refine ent Tryz.mix Tryz.func145 Tryz.ntmps145 ?_
 have W:=trivial
 repeat' first|refine wl ?_|(refine nx ?_;refine sk (hc:=aBr a.to _ (by omega) (by repeat' (first|omega|apply jA|apply gU)) wto) (h:=?_))|(refine sq (fun hc=>?_) (fun hc=>?_)<;>try exact hc.elim)|fail
 all_goals (try (refine ⟨.inr rfl,?_⟩;simp [Hands,Tryz.results145,fG]))
 all_goals (
  (try generalize e0:sub n (aR a.to)=m0 at *)
  (try (first|have f0:=iX e0 (by omega)|have f0:=gV e0 (by omega) (by omega)))
  repeat (simp (disch:=omega) only [wrap64] at *)
  (try simp only [sub]);(try split);all_goals omega)
theorem aZn [aA Tryz.prog] (a b:gP) (hs:fG a≤1099511627776):Ok Tryz.prog 176 [.agg (eX a),.agg (eX b)] (.bool (decide (a=b))):=by
 simp only [fG] at hs
 refine ent Tryz.mix Tryz.func176 Tryz.ntmps176 ?_
 have W:=trivial
 repeat' first|refine wl ?_|(refine nx ?_;refine sk (hc:=aB4 a.to b.to (by omega)) (h:=?_))|(refine sq (fun hc=>?_) (fun hc=>?_)<;>try exact hc.elim)|fail
 all_goals (try (refine ⟨.inr rfl,?_⟩;simp [Hands,Tryz.results176]))
 all_goals ((repeat clear hK K);cases a;cases b;simp_all)
theorem aUy [aA Tryz.prog] (a:cZ) (hs:aZ a≤1048576):Ok Tryz.prog 164 [.agg (bD a)] (.agg (bD a)):=by
 simp only [aZ] at hs
 refine ent Tryz.mix Tryz.func164 Tryz.ntmps164 ?_
 have W:=trivial
 repeat' first|refine wl ?_|(refine nx ?_;refine sk (hc:=aB5 a.to (by omega)) (h:=?_))|(refine sq (fun hc=>?_) (fun hc=>?_)<;>try exact hc.elim)|fail
 all_goals (try (refine ⟨.inr rfl,?_⟩;simp [Hands,Tryz.results164]))
theorem aVb [aA Tryz.prog] (a:cZ) (n:Int) (h0:0≤n) (h1:n≤1048576) (hw:aBb a):Ok Tryz.prog 146 [.agg (bD a),.int .i64 n] (.int .i64 (sub n (aZ a))):=by
 simp only [aBb] at hw
 obtain ⟨wto,wbody⟩:=hw
 refine ent Tryz.mix Tryz.func146 Tryz.ntmps146 ?_
 have W:=trivial
 repeat' first|refine wl ?_|(refine nx ?_;refine sk (hc:=aBr a.to _ (by omega) (by repeat' (first|omega|apply jA|apply gU)) wto) (h:=?_))|(refine sq (fun hc=>?_) (fun hc=>?_)<;>try exact hc.elim)|fail
 all_goals (try (refine ⟨.inr rfl,?_⟩;simp [Hands,Tryz.results146,aZ]))
 all_goals (
  (try generalize e0:sub n (aR a.to)=m0 at *)
  (try (first|have f0:=iX e0 (by omega)|have f0:=gV e0 (by omega) (by omega)))
  repeat (simp (disch:=omega) only [wrap64] at *)
  (try simp only [sub]);(try split);all_goals omega)
theorem aVc [aA Tryz.prog] (a b:cZ) (hs:aZ a≤1099511627776):Ok Tryz.prog 177 [.agg (bD a),.agg (bD b)] (.bool (decide (a=b))):=by
 simp only [aZ] at hs
 refine ent Tryz.mix Tryz.func177 Tryz.ntmps177 ?_
 have W:=trivial
 repeat' first|refine wl ?_|(refine nx ?_;refine sk (hc:=aB4 a.to b.to (by omega)) (h:=?_))|(refine sq (fun hc=>?_) (fun hc=>?_)<;>try exact hc.elim)|fail
 all_goals (try (refine ⟨.inr rfl,?_⟩;simp [Hands,Tryz.results177]))
 all_goals ((repeat clear hK K);cases a;cases b;simp_all)
theorem aU4 [aA Tryz.prog] (a:fC) (hs:gL a≤1048576):Ok Tryz.prog 73 [.agg (bJ .view a)] (.agg (bJ .own a)):=by
 simp only [gL] at hs
 refine ent Tryz.mix Tryz.func73 Tryz.ntmps73 ?_
 have W:=trivial
 repeat' first|refine wl ?_|(refine nx ?_;first|refine sk (hc:=wW a.scripts (by omega)) (h:=?_)|refine sk (hc:=wW a.styles (by omega)) (h:=?_)|refine sk (hc:=wW a.images (by omega)) (h:=?_))|(refine sq (fun hc=>?_) (fun hc=>?_)<;>try exact hc.elim)|fail
 all_goals (try (refine ⟨.inr rfl,?_⟩;simp [Hands,Tryz.results73]))
theorem aTy [aA Tryz.prog] (a:fC) (n:Int) (h0:0≤n) (h1:n≤1048576) (hw:aId a):Ok Tryz.prog 54 [.agg (bJ .view a),.int .i64 n] (.int .i64 (sub n (gL a))):=by
 simp only [aId] at hw
 obtain ⟨wscripts,wstyles,wimages,wnonce⟩:=hw
 refine ent Tryz.mix Tryz.func54 Tryz.ntmps54 ?_
 have W:=trivial
 repeat' first|refine wl ?_|(refine nx ?_;first|refine sk (hc:=wG a.scripts _ (by omega) (by repeat' (first|omega|apply jA|apply gU)) wscripts) (h:=?_)|refine sk (hc:=wG a.styles _ (by omega) (by repeat' (first|omega|apply jA|apply gU)) wstyles) (h:=?_)|refine sk (hc:=wG a.images _ (by omega) (by repeat' (first|omega|apply jA|apply gU)) wimages) (h:=?_))|(refine sq (fun hc=>?_) (fun hc=>?_)<;>try exact hc.elim)|fail
 all_goals (try (refine ⟨.inr rfl,?_⟩;simp [Hands,Tryz.results54,gL]))
 all_goals (
  (try generalize e0:sub n (szL cB a.scripts)=m0 at *)
  (try (first|have f0:=iX e0 (by omega)|have f0:=gV e0 (by omega) (by omega)))
  (try generalize e1:sub m0 (szL cB a.styles)=m1 at *)
  (try (first|have f1:=iX e1 (by omega)|have f1:=gV e1 (by omega) (by omega)))
  (try generalize e2:sub m1 (szL cB a.images)=m2 at *)
  (try (first|have f2:=iX e2 (by omega)|have f2:=gV e2 (by omega) (by omega)))
  repeat (simp (disch:=omega) only [wrap64] at *)
  (try simp only [sub]);(try split);all_goals omega)
theorem aVd [aA Tryz.prog] (a b:fC) (hs:gL a≤1099511627776):Ok Tryz.prog 91 [.agg (bJ .view a),.agg (bJ .view b)] (.bool (decide (a=b))):=by
 simp only [gL] at hs
 refine ent Tryz.mix Tryz.func91 Tryz.ntmps91 ?_
 have W:=trivial
 repeat' first|refine wl ?_|(refine nx ?_;first|refine sk (hc:=wC a.scripts b.scripts (by omega)) (h:=?_)|refine sk (hc:=wC a.styles b.styles (by omega)) (h:=?_)|refine sk (hc:=wC a.images b.images (by omega)) (h:=?_))|(refine sq (fun hc=>?_) (fun hc=>?_)<;>try exact hc.elim)|fail
 all_goals (try (refine ⟨.inr rfl,?_⟩;simp [Hands,Tryz.results91]))
 all_goals ((repeat clear hK K);cases a;cases b;simp_all)
end Go.Proofs.YtlnblmmohpcceaaGreatDoor
