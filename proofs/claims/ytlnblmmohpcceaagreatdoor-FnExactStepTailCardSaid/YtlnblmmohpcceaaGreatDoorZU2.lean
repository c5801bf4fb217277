/- Proved here: steps towards the statement of this claim. No condition. -/
import Derived.Test.YtlnblmmohpcceaaGreatDoorZQMK6
set_option linter.all false
set_option maxRecDepth 4000
set_option maxHeartbeats 4000000
namespace Go.Proofs.YtlnblmmohpcceaaGreatDoor
open Go.Aw Proofs.Tryz List IntKind
theorem toAttrS_ok [aD prog] (l:List iU) (hs:bP fI l<=1048576):Ok prog 221 [.sl .view 2 (l.map fQ)] (.sl .own 2 (l.map fQ)):=by
 have hl:l.length<=1048576:=by (try simp only [bP] at hs);omega
 have hb:(32:Int) * (l.length:Int)<=281474976710656:=by omega
 have hb2:(l.length:Int)<=9223372036854775807:=by omega
 generalize hz:([.str [],.str []]:List AV)=z
 have hz0:=qV z (l.map fQ)
 rw [length_map] at hz0
 refine bR aAc func221 ntmps221 ?_
 have W:=aA hb hb2
 repeat' first|refine wl ?_|(refine sq ?_ ?_<;>intro hc<;>try exact hc.elim)|fail
 refine aJ (ι:={k:Nat // k<=l.length}) (fun t o i=>⟨aZ t [(4,.int .i64 i.1)],[⟨true,false,2,1,uE z (l.map fQ) i.1⟩]⟩)
  (fun i=>l.length - i.1) ⟨0,by simp⟩ (aI (by simp [hz,hz0]) (by simp)) ?_
 rintro ⟨k,hk⟩ K1 hK1
 simp only [aZ,set_cons_succ,set_cons_zero] at hK1⊢
 have hk1:i64.wrap ((k:Int)+1)=((k+1:Nat):Int):=by rw [wrap64]<;>omega
 by_cases hlt:k < l.length
 ·have hg:=getElem?_eq_getElem hlt
  have XX:=tJ z (l.map fQ) k (by simpa using hlt)
  have vC:=tK z (l.map fQ) k (by simpa using hlt)
  rw [getElem_map] at vC
  simp only [fQ] at vC
  have Sk:z.length=2:=by rw [<-hz];rfl
  have XY:z.drop 2=[]:=by rw [<-hz];rfl
  have W:=aA hk1 (aA hg (aA XX (aA Sk (aA XY vC))))
  have V:=aA hk1 (aA hg hlt)
  repeat' first|refine wl ?_|(refine nx ?_;refine sk (hc:=toAttr_ok l[k] (by have:=dV fI l k hlt;(try simp only [bP] at hs);omega)) (h:=?_))|(refine sq ?_ ?_<;>intro hc<;>try exact hc.elim)|fail
  refine hK1 _ ⟨k+1,by omega⟩ (aS 1 rfl ?_ (by simp) (by simp)) (by simp only;omega)
  simp
 ·have W:=hk1
  repeat' first|refine wl ?_|(refine sq ?_ ?_<;>intro hc<;>try exact hc.elim)|fail
  have XZ:=tH z (l.map fQ) k (by simpa using hlt)
  all_goals try(refine ⟨.inr rfl,?_⟩;simp [aB,results221,XZ])
theorem Nn [aD prog] (l:List iU) (n:Int) (h0:0<=n) (h1:n<=1048576) (hw:l.length<=9223372036854775807/\∀y∈l,IU y):Ok prog 208 [.sl .view 2 (l.map fQ),.int .i64 n] (.int .i64 (sub n (bP fI l))):=by
 obtain ⟨hl,hw⟩:=hw
 refine bR aAc func208 ntmps208 ?_
 have W:=trivial
 repeat' first|refine wl ?_|(refine sq ?_ ?_<;>intro hc<;>try exact hc.elim)|fail
 ·refine ⟨.inr rfl,?_⟩;simp [aB,results208,sub,bP];omega
 ·refine aJ (ι:={k:Nat // k<=l.length/\l.length+aO fI (l.take k)<=n}) (fun t o i=>⟨aZ t [(1,.int .i64 (n - (l.length+aO fI (l.take i.1):Nat))),(5,.int .i64 i.1)],[]⟩)
   (fun i=>l.length - i.1) ⟨0,by simp,by simp [aO];omega⟩ (aI (by simp) (by simp [aO])) ?_
  rintro ⟨k,hk,hs⟩ K1 hK1
  simp only [aZ,set_cons_succ,set_cons_zero] at hK1⊢
  have hk1:i64.wrap ((k:Int)+1)=((k+1:Nat):Int):=by rw [wrap64]<;>omega
  by_cases hlt:k < l.length
  ·have hg:=getElem?_eq_getElem hlt
   have hts:=bT fI l k hlt
   have htl:=dC fI l (k+1)
   have tq:=hw _ (getElem_mem hlt)
   have W:=aA hk1 hg
   repeat' first|refine wl ?_|(refine nx ?_;refine sk (hc:=ik _ _ (by omega) (by omega) tq) (h:=?_))|(refine sq ?_ ?_<;>intro hc<;>try exact hc.elim)|fail
   ·refine ⟨.inr rfl,?_⟩
    simp [aB,results208,bP]
    (repeat clear hK K);simp only [sub] at *;grind
   ·refine hK1 _ ⟨k+1,by omega,by (repeat clear hK K);simp only [sub] at *;grind⟩ (aI (by simp) ?_) (by simp only;omega)
    simp
    (repeat clear hK K);simp only [sub] at *;grind
  ·have W:=hk1
   repeat' first|refine wl ?_|(refine sq ?_ ?_<;>intro hc<;>try exact hc.elim)|fail
   all_goals try(refine ⟨.inr rfl,?_⟩;simp [aB,results208,bP])
   have:k=l.length:=by omega
   subst this
   rw [take_length] at *
   rw [sub_pos (by omega)]
   omega
theorem Np [aD prog] (a b:List iU) (hs:bP fI a<=1099511627776):Ok prog 232 [.sl .view 2 (a.map fQ),.sl .view 2 (b.map fQ)] (.bool (decide (a=b))):=by
 have hl:a.length<=1099511627776:=by (try simp only [bP] at hs);omega
 refine bR aAc func232 ntmps232 ?_
 have W:=trivial
 repeat' first|refine wl ?_|(refine sq ?_ ?_<;>intro hc<;>try exact hc.elim)|fail
 ·all_goals try(refine ⟨.inr rfl,?_⟩;simp [aB,results232])
  intro h;subst h;exact absurd rfl hc
 ·have hlen:a.length=b.length:=by omega
  refine aJ (ι:={k:Nat // k<=a.length/\a.take k=b.take k}) (fun t o i=>⟨aZ t [(5,.int .i64 i.1)],[]⟩)
   (fun i=>a.length - i.1) ⟨0,by simp⟩ (aI (by simp) (by simp)) ?_
  rintro ⟨k,hk,hpre⟩ K1 hK1
  simp only [aZ,set_cons_succ,set_cons_zero] at hK1⊢
  have hk1:i64.wrap ((k:Int)+1)=((k+1:Nat):Int):=by rw [wrap64]<;>omega
  by_cases hlt:k < a.length
  ·have hg:=getElem?_eq_getElem hlt
   have sS:k < b.length:=by omega
   have Ya:=getElem?_eq_getElem sS
   have W:=aA hk1 (aA hg (aA hlt (aA Ya sS)))
   repeat' first|refine wl ?_|(refine nx ?_;refine sk (hc:=il a[k] b[k] (by have:=dV fI a k hlt;(try simp only [bP] at hs);omega)) (h:=?_))|(refine sq ?_ ?_<;>intro hc<;>try exact hc.elim)|fail
   ·all_goals try(refine ⟨.inr rfl,?_⟩;simp [aB,results232])
    intro h;subst h;exact hc rfl
   ·have hts:a.take (k+1)=b.take (k+1):=by
     rw [take_succ_eq_append_getElem hlt,take_succ_eq_append_getElem sS,hpre,hc]
    refine hK1 _ ⟨k+1,by omega,hts⟩ (aI (by simp) (by simp)) (by simp only;omega)
  ·have Yb:a.length<=k:=by omega
   rw [take_of_length_le Yb,take_of_length_le (by omega)] at hpre
   subst hpre
   have W:=hk1
   repeat' first|refine wl ?_|(refine sq ?_ ?_<;>intro hc<;>try exact hc.elim)|fail
   all_goals try(refine ⟨.inr rfl,?_⟩;simp [aB,results232])
theorem toAddrS_ok [aD prog] (l:List aT) (hs:bP aV l<=1048576):Ok prog 79 [.sl .view 2 (l.map aK)] (.sl .own 2 (l.map aK)):=by
 have hl:l.length<=1048576:=by (try simp only [bP] at hs);omega
 have hb:(32:Int) * (l.length:Int)<=281474976710656:=by omega
 have hb2:(l.length:Int)<=9223372036854775807:=by omega
 generalize hz:([.str [],.str []]:List AV)=z
 have hz0:=qV z (l.map aK)
 rw [length_map] at hz0
 refine bR aAc func79 ntmps79 ?_
 have W:=aA hb hb2
 repeat' first|refine wl ?_|(refine sq ?_ ?_<;>intro hc<;>try exact hc.elim)|fail
 refine aJ (ι:={k:Nat // k<=l.length}) (fun t o i=>⟨aZ t [(4,.int .i64 i.1)],[⟨true,false,2,1,uE z (l.map aK) i.1⟩]⟩)
  (fun i=>l.length - i.1) ⟨0,by simp⟩ (aI (by simp [hz,hz0]) (by simp)) ?_
 rintro ⟨k,hk⟩ K1 hK1
 simp only [aZ,set_cons_succ,set_cons_zero] at hK1⊢
 have hk1:i64.wrap ((k:Int)+1)=((k+1:Nat):Int):=by rw [wrap64]<;>omega
 by_cases hlt:k < l.length
 ·have hg:=getElem?_eq_getElem hlt
  have XX:=tJ z (l.map aK) k (by simpa using hlt)
  have vC:=tK z (l.map aK) k (by simpa using hlt)
  rw [getElem_map] at vC
  simp only [aK] at vC
  have Sk:z.length=2:=by rw [<-hz];rfl
  have XY:z.drop 2=[]:=by rw [<-hz];rfl
  have W:=aA hk1 (aA hg (aA XX (aA Sk (aA XY vC))))
  have V:=aA hk1 (aA hg hlt)
  repeat' first|refine wl ?_|(refine nx ?_;refine sk (hc:=toAddr_ok l[k] (by have:=dV aV l k hlt;(try simp only [bP] at hs);omega)) (h:=?_))|(refine sq ?_ ?_<;>intro hc<;>try exact hc.elim)|fail
  refine hK1 _ ⟨k+1,by omega⟩ (aS 1 rfl ?_ (by simp) (by simp)) (by simp only;omega)
  simp
 ·have W:=hk1
  repeat' first|refine wl ?_|(refine sq ?_ ?_<;>intro hc<;>try exact hc.elim)|fail
  have XZ:=tH z (l.map aK) k (by simpa using hlt)
  all_goals try(refine ⟨.inr rfl,?_⟩;simp [aB,results79,XZ])
theorem Nq [aD prog] (l:List aT) (n:Int) (h0:0<=n) (h1:n<=1048576) (hw:l.length<=9223372036854775807/\∀y∈l,BH y):Ok prog 60 [.sl .view 2 (l.map aK),.int .i64 n] (.int .i64 (sub n (bP aV l))):=by
 obtain ⟨hl,hw⟩:=hw
 refine bR aAc func60 ntmps60 ?_
 have W:=trivial
 repeat' first|refine wl ?_|(refine sq ?_ ?_<;>intro hc<;>try exact hc.elim)|fail
 ·refine ⟨.inr rfl,?_⟩;simp [aB,results60,sub,bP];omega
 ·refine aJ (ι:={k:Nat // k<=l.length/\l.length+aO aV (l.take k)<=n}) (fun t o i=>⟨aZ t [(1,.int .i64 (n - (l.length+aO aV (l.take i.1):Nat))),(5,.int .i64 i.1)],[]⟩)
   (fun i=>l.length - i.1) ⟨0,by simp,by simp [aO];omega⟩ (aI (by simp) (by simp [aO])) ?_
  rintro ⟨k,hk,hs⟩ K1 hK1
  simp only [aZ,set_cons_succ,set_cons_zero] at hK1⊢
  have hk1:i64.wrap ((k:Int)+1)=((k+1:Nat):Int):=by rw [wrap64]<;>omega
  by_cases hlt:k < l.length
  ·have hg:=getElem?_eq_getElem hlt
   have hts:=bT aV l k hlt
   have htl:=dC aV l (k+1)
   have tq:=hw _ (getElem_mem hlt)
   have W:=aA hk1 hg
   repeat' first|refine wl ?_|(refine nx ?_;refine sk (hc:=Ec _ _ (by omega) (by omega) tq) (h:=?_))|(refine sq ?_ ?_<;>intro hc<;>try exact hc.elim)|fail
   ·refine ⟨.inr rfl,?_⟩
    simp [aB,results60,bP]
    (repeat clear hK K);simp only [sub] at *;grind
   ·refine hK1 _ ⟨k+1,by omega,by (repeat clear hK K);simp only [sub] at *;grind⟩ (aI (by simp) ?_) (by simp only;omega)
    simp
    (repeat clear hK K);simp only [sub] at *;grind
  ·have W:=hk1
   repeat' first|refine wl ?_|(refine sq ?_ ?_<;>intro hc<;>try exact hc.elim)|fail
   all_goals try(refine ⟨.inr rfl,?_⟩;simp [aB,results60,bP])
   have:k=l.length:=by omega
   subst this
   rw [take_length] at *
   rw [sub_pos (by omega)]
   omega
theorem Nr [aD prog] (a b:List aT) (hs:bP aV a<=1099511627776):Ok prog 97 [.sl .view 2 (a.map aK),.sl .view 2 (b.map aK)] (.bool (decide (a=b))):=by
 have hl:a.length<=1099511627776:=by (try simp only [bP] at hs);omega
 refine bR aAc func97 ntmps97 ?_
 have W:=trivial
 repeat' first|refine wl ?_|(refine sq ?_ ?_<;>intro hc<;>try exact hc.elim)|fail
 ·all_goals try(refine ⟨.inr rfl,?_⟩;simp [aB,results97])
  intro h;subst h;exact absurd rfl hc
 ·have hlen:a.length=b.length:=by omega
  refine aJ (ι:={k:Nat // k<=a.length/\a.take k=b.take k}) (fun t o i=>⟨aZ t [(5,.int .i64 i.1)],[]⟩)
   (fun i=>a.length - i.1) ⟨0,by simp⟩ (aI (by simp) (by simp)) ?_
  rintro ⟨k,hk,hpre⟩ K1 hK1
  simp only [aZ,set_cons_succ,set_cons_zero] at hK1⊢
  have hk1:i64.wrap ((k:Int)+1)=((k+1:Nat):Int):=by rw [wrap64]<;>omega
  by_cases hlt:k < a.length
  ·have hg:=getElem?_eq_getElem hlt
   have sS:k < b.length:=by omega
   have Ya:=getElem?_eq_getElem sS
   have W:=aA hk1 (aA hg (aA hlt (aA Ya sS)))
   repeat' first|refine wl ?_|(refine nx ?_;refine sk (hc:=Ed a[k] b[k] (by have:=dV aV a k hlt;(try simp only [bP] at hs);omega)) (h:=?_))|(refine sq ?_ ?_<;>intro hc<;>try exact hc.elim)|fail
   ·all_goals try(refine ⟨.inr rfl,?_⟩;simp [aB,results97])
    intro h;subst h;exact hc rfl
   ·have hts:a.take (k+1)=b.take (k+1):=by
     rw [take_succ_eq_append_getElem hlt,take_succ_eq_append_getElem sS,hpre,hc]
    refine hK1 _ ⟨k+1,by omega,hts⟩ (aI (by simp) (by simp)) (by simp only;omega)
  ·have Yb:a.length<=k:=by omega
   rw [take_of_length_le Yb,take_of_length_le (by omega)] at hpre
   subst hpre
   have W:=hk1
   repeat' first|refine wl ?_|(refine sq ?_ ?_<;>intro hc<;>try exact hc.elim)|fail
   all_goals try(refine ⟨.inr rfl,?_⟩;simp [aB,results97])
theorem toSlot_ok [aD prog] (a:lF) (hs:gZ a<=1048576):Ok prog 163 [.agg (iO a)] (.agg (iO a)):=by
 simp only [gZ] at hs
 refine bR aAc func163 ntmps163 ?_
 have W:=trivial
 repeat' first|refine wl ?_|(refine nx ?_;refine sk (hc:=toAddr_ok a.to (by omega)) (h:=?_))|(refine sq ?_ ?_<;>intro hc<;>try exact hc.elim)|fail
 all_goals try(refine ⟨.inr rfl,?_⟩;simp [aB,results163])
theorem iy [aD prog] (a:lF) (n:Int) (h0:0<=n) (h1:n<=1048576) (hw:MM a):Ok prog 145 [.agg (iO a),.int .i64 n] (.int .i64 (sub n (gZ a))):=by
 simp only [MM] at hw
 obtain ⟨wto,aNd,aK1⟩:=hw
 refine bR aAc func145 ntmps145 ?_
 have W:=trivial
 repeat' first|refine wl ?_|(refine nx ?_;refine sk (hc:=Ec a.to _ (by omega) (by repeat' (first|omega|apply jX|apply iI)) wto) (h:=?_))|(refine sq ?_ ?_<;>intro hc<;>try exact hc.elim)|fail
 all_goals try(refine ⟨.inr rfl,?_⟩;simp [aB,results145,gZ])
 all_goals (
  (try generalize e0:sub n (aV a.to)=m0 at *)
  (try (first|have f0:=jY e0 (by omega)|have f0:=iJ e0 (by omega) (by omega)))
  repeat (simp (disch:=omega) only [wrap64] at *)
  (try simp only [sub]);(try split);all_goals omega)
theorem ja [aD prog] (a b:lF) (hs:gZ a<=1099511627776):Ok prog 176 [.agg (iO a),.agg (iO b)] (.bool (decide (a=b))):=by
 simp only [gZ] at hs
 refine bR aAc func176 ntmps176 ?_
 have W:=trivial
 repeat' first|refine wl ?_|(refine nx ?_;refine sk (hc:=Ed a.to b.to (by omega)) (h:=?_))|(refine sq ?_ ?_<;>intro hc<;>try exact hc.elim)|fail
 all_goals try(refine ⟨.inr rfl,?_⟩;simp [aB,results176])
 all_goals ((repeat clear hK K);cases a;cases b;simp_all)
theorem toModule_ok [aD prog] (a:dD) (hs:bE a<=1048576):Ok prog 164 [.agg (bO a)] (.agg (bO a)):=by
 simp only [bE] at hs
 refine bR aAc func164 ntmps164 ?_
 have W:=trivial
 repeat' first|refine wl ?_|(refine nx ?_;refine sk (hc:=toAddr_ok a.to (by omega)) (h:=?_))|(refine sq ?_ ?_<;>intro hc<;>try exact hc.elim)|fail
 all_goals try(refine ⟨.inr rfl,?_⟩;simp [aB,results164])
theorem Vl [aD prog] (a:dD) (n:Int) (h0:0<=n) (h1:n<=1048576) (hw:CV a):Ok prog 146 [.agg (bO a),.int .i64 n] (.int .i64 (sub n (bE a))):=by
 simp only [CV] at hw
 obtain ⟨wto,aK1⟩:=hw
 refine bR aAc func146 ntmps146 ?_
 have W:=trivial
 repeat' first|refine wl ?_|(refine nx ?_;refine sk (hc:=Ec a.to _ (by omega) (by repeat' (first|omega|apply jX|apply iI)) wto) (h:=?_))|(refine sq ?_ ?_<;>intro hc<;>try exact hc.elim)|fail
 all_goals try(refine ⟨.inr rfl,?_⟩;simp [aB,results146,bE])
 all_goals (
  (try generalize e0:sub n (aV a.to)=m0 at *)
  (try (first|have f0:=jY e0 (by omega)|have f0:=iJ e0 (by omega) (by omega)))
  repeat (simp (disch:=omega) only [wrap64] at *)
  (try simp only [sub]);(try split);all_goals omega)
theorem Vm [aD prog] (a b:dD) (hs:bE a<=1099511627776):Ok prog 177 [.agg (bO a),.agg (bO b)] (.bool (decide (a=b))):=by
 simp only [bE] at hs
 refine bR aAc func177 ntmps177 ?_
 have W:=trivial
 repeat' first|refine wl ?_|(refine nx ?_;refine sk (hc:=Ed a.to b.to (by omega)) (h:=?_))|(refine sq ?_ ?_<;>intro hc<;>try exact hc.elim)|fail
 all_goals try(refine ⟨.inr rfl,?_⟩;simp [aB,results177])
 all_goals ((repeat clear hK K);cases a;cases b;simp_all)
theorem toPolicy_ok [aD prog] (a:gN) (hs:iC a<=1048576):Ok prog 73 [.agg (bV .view a)] (.agg (bV .own a)):=by
 simp only [iC] at hs
 refine bR aAc func73 ntmps73 ?_
 have W:=trivial
 repeat' first|refine wl ?_|(refine nx ?_;first|refine sk (hc:=toStringS_ok a.jQ (by omega)) (h:=?_)|refine sk (hc:=toStringS_ok a.mO (by omega)) (h:=?_)|refine sk (hc:=toStringS_ok a.nD (by omega)) (h:=?_))|(refine sq ?_ ?_<;>intro hc<;>try exact hc.elim)|fail
 all_goals try(refine ⟨.inr rfl,?_⟩;simp [aB,results73])
theorem Vn [aD prog] (a:gN) (n:Int) (h0:0<=n) (h1:n<=1048576) (hw:MK a):Ok prog 54 [.agg (bV .view a),.int .i64 n] (.int .i64 (sub n (iC a))):=by
 simp only [MK] at hw
 obtain ⟨G8,aC0,aC1,aP4⟩:=hw
 refine bR aAc func54 ntmps54 ?_
 have W:=trivial
 repeat' first|refine wl ?_|(refine nx ?_;first|refine sk (hc:=xX a.jQ _ (by omega) (by repeat' (first|omega|apply jX|apply iI)) G8) (h:=?_)|refine sk (hc:=xX a.mO _ (by omega) (by repeat' (first|omega|apply jX|apply iI)) aC0) (h:=?_)|refine sk (hc:=xX a.nD _ (by omega) (by repeat' (first|omega|apply jX|apply iI)) aC1) (h:=?_))|(refine sq ?_ ?_<;>intro hc<;>try exact hc.elim)|fail
 all_goals try(refine ⟨.inr rfl,?_⟩;simp [aB,results54,iC])
 all_goals (
  (try generalize e0:sub n (bP gT a.jQ)=m0 at *)
  (try (first|have f0:=jY e0 (by omega)|have f0:=iJ e0 (by omega) (by omega)))
  (try generalize e1:sub m0 (bP gT a.mO)=m1 at *)
  (try (first|have f1:=jY e1 (by omega)|have f1:=iJ e1 (by omega) (by omega)))
  (try generalize e2:sub m1 (bP gT a.nD)=m2 at *)
  (try (first|have f2:=jY e2 (by omega)|have f2:=iJ e2 (by omega) (by omega)))
  repeat (simp (disch:=omega) only [wrap64] at *)
  (try simp only [sub]);(try split);all_goals omega)
theorem Vo [aD prog] (a b:gN) (hs:iC a<=1099511627776):Ok prog 91 [.agg (bV .view a),.agg (bV .view b)] (.bool (decide (a=b))):=by
 simp only [iC] at hs
 refine bR aAc func91 ntmps91 ?_
 have W:=trivial
 repeat' first|refine wl ?_|(refine nx ?_;first|refine sk (hc:=xY a.jQ b.jQ (by omega)) (h:=?_)|refine sk (hc:=xY a.mO b.mO (by omega)) (h:=?_)|refine sk (hc:=xY a.nD b.nD (by omega)) (h:=?_))|(refine sq ?_ ?_<;>intro hc<;>try exact hc.elim)|fail
 all_goals try(refine ⟨.inr rfl,?_⟩;simp [aB,results91])
 all_goals ((repeat clear hK K);cases a;cases b;simp_all)
end Go.Proofs.YtlnblmmohpcceaaGreatDoor
