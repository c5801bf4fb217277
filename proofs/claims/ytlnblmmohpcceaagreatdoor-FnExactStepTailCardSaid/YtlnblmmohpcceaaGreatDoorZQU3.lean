/- Proved here: steps towards the statement of this claim. No condition. -/
import Derived.Test.YtlnblmmohpcceaaGreatDoorZU2
set_option linter.all false
set_option maxRecDepth 4000
set_option maxHeartbeats 4000000
namespace Go.Proofs.YtlnblmmohpcceaaGreatDoor
open Go.Aw Proofs.Tryz List IntKind
theorem toToken_ok [aD prog] (a:bH) (hs:bF a<=1048576):Ok prog 160 [.agg (bB .view a)] (.agg (bB .own a)):=by
 simp only [bF] at hs
 refine bR aAc func160 ntmps160 ?_
 have W:=trivial
 repeat' first|refine wl ?_|(refine nx ?_;refine sk (hc:=toAttrS_ok a.attrs (by omega)) (h:=?_))|(refine sq ?_ ?_<;>intro hc<;>try exact hc.elim)|fail
 all_goals try(refine ⟨.inr rfl,?_⟩;simp [aB,results160])
theorem Yc [aD prog] (a:bH) (n:Int) (h0:0<=n) (h1:n<=1048576) (hw:Gw a):Ok prog 142 [.agg (bB .view a),.int .i64 n] (.int .i64 (sub n (bF a))):=by
 simp only [Gw] at hw
 obtain ⟨aFf,Yd,aK2⟩:=hw
 refine bR aAc func142 ntmps142 ?_
 have W:=trivial
 repeat' first|refine wl ?_|(refine nx ?_;refine sk (hc:=Nn a.attrs _ (by omega) (by repeat' (first|omega|apply jX|apply iI)) Yd) (h:=?_))|(refine sq ?_ ?_<;>intro hc<;>try exact hc.elim)|fail
 all_goals try(refine ⟨.inr rfl,?_⟩;simp [aB,results142,bF])
 all_goals (
  (try generalize e0:sub (n - (a.name.length:Int)) (bP fI a.attrs)=m0 at *)
  (try (first|have f0:=jY e0 (by omega)|have f0:=iJ e0 (by omega) (by omega)))
  repeat (simp (disch:=omega) only [wrap64] at *)
  (try simp only [sub]);(try split);all_goals omega)
theorem Ye [aD prog] (a b:bH) (hs:bF a<=1099511627776):Ok prog 173 [.agg (bB .view a),.agg (bB .view b)] (.bool (decide (a=b))):=by
 simp only [bF] at hs
 refine bR aAc func173 ntmps173 ?_
 have W:=trivial
 repeat' first|refine wl ?_|(refine nx ?_;refine sk (hc:=Np a.attrs b.attrs (by omega)) (h:=?_))|(refine sq ?_ ?_<;>intro hc<;>try exact hc.elim)|fail
 all_goals try(refine ⟨.inr rfl,?_⟩;simp [aB,results173])
 all_goals ((repeat clear hK K);cases a;cases b;simp_all)
theorem toNode_ok [aD prog] (a:eY) (hs:fU a<=1048576):Ok prog 222 [.agg (bX .view a)] (.agg (bX .own a)):=by
 simp only [fU] at hs
 refine bR aAc func222 ntmps222 ?_
 have W:=trivial
 repeat' first|refine wl ?_|(refine nx ?_;refine sk (hc:=toAttrS_ok a.attrs (by omega)) (h:=?_))|(refine sq ?_ ?_<;>intro hc<;>try exact hc.elim)|fail
 all_goals try(refine ⟨.inr rfl,?_⟩;simp [aB,results222])
theorem jb [aD prog] (a:eY) (n:Int) (h0:0<=n) (h1:n<=1048576) (hw:MJ a):Ok prog 209 [.agg (bX .view a),.int .i64 n] (.int .i64 (sub n (fU a))):=by
 simp only [MJ] at hw
 obtain ⟨aFf,aK2,Yd⟩:=hw
 refine bR aAc func209 ntmps209 ?_
 have W:=trivial
 repeat' first|refine wl ?_|(refine nx ?_;refine sk (hc:=Nn a.attrs _ (by omega) (by repeat' (first|omega|apply jX|apply iI)) Yd) (h:=?_))|(refine sq ?_ ?_<;>intro hc<;>try exact hc.elim)|fail
 all_goals try(refine ⟨.inr rfl,?_⟩;simp [aB,results209,fU])
 all_goals (
  (try generalize e0:sub (n - (a.name.length:Int) - (a.text.length:Int)) (bP fI a.attrs)=m0 at *)
  (try (first|have f0:=jY e0 (by omega)|have f0:=iJ e0 (by omega) (by omega)))
  repeat (simp (disch:=omega) only [wrap64] at *)
  (try simp only [sub]);(try split);all_goals omega)
theorem jc [aD prog] (a b:eY) (hs:fU a<=1099511627776):Ok prog 233 [.agg (bX .view a),.agg (bX .view b)] (.bool (decide (a=b))):=by
 simp only [fU] at hs
 refine bR aAc func233 ntmps233 ?_
 have W:=trivial
 repeat' first|refine wl ?_|(refine nx ?_;refine sk (hc:=Np a.attrs b.attrs (by omega)) (h:=?_))|(refine sq ?_ ?_<;>intro hc<;>try exact hc.elim)|fail
 all_goals try(refine ⟨.inr rfl,?_⟩;simp [aB,results233])
 all_goals ((repeat clear hK K);cases a;cases b;simp_all)
theorem toSlotS_ok [aD prog] (l:List lF) (hs:bP gZ l<=1048576):Ok prog 77 [.sl .view 8 (l.map iO)] (.sl .own 8 (l.map iO)):=by
 have hl:l.length<=1048576:=by (try simp only [bP] at hs);omega
 have hb:(96:Int) * (l.length:Int)<=281474976710656:=by omega
 have hb2:(l.length:Int)<=9223372036854775807:=by omega
 generalize hz:([.int .i64 0,.str [],.str [],.str [],.int .i64 0,.bool false,.int .i64 0,.str []]:List AV)=z
 have hz0:=qV z (l.map iO)
 rw [length_map] at hz0
 refine bR aAc func77 ntmps77 ?_
 have W:=aA hb hb2
 repeat' first|refine wl ?_|(refine sq ?_ ?_<;>intro hc<;>try exact hc.elim)|fail
 refine aJ (ι:={k:Nat // k<=l.length}) (fun t o i=>⟨aZ t [(4,.int .i64 i.1)],[⟨true,false,8,1,uE z (l.map iO) i.1⟩]⟩)
  (fun i=>l.length - i.1) ⟨0,by simp⟩ (aI (by simp [hz,hz0]) (by simp)) ?_
 rintro ⟨k,hk⟩ K1 hK1
 simp only [aZ,set_cons_succ,set_cons_zero] at hK1⊢
 have hk1:i64.wrap ((k:Int)+1)=((k+1:Nat):Int):=by rw [wrap64]<;>omega
 by_cases hlt:k < l.length
 ·have hg:=getElem?_eq_getElem hlt
  have XX:=tJ z (l.map iO) k (by simpa using hlt)
  have vC:=tK z (l.map iO) k (by simpa using hlt)
  rw [getElem_map] at vC
  simp only [iO] at vC
  have Sk:z.length=8:=by rw [<-hz];rfl
  have XY:z.drop 8=[]:=by rw [<-hz];rfl
  have W:=aA hk1 (aA hg (aA XX (aA Sk (aA XY vC))))
  have V:=aA hk1 (aA hg hlt)
  repeat' first|refine wl ?_|(refine nx ?_;refine sk (hc:=toSlot_ok l[k] (by have:=dV gZ l k hlt;(try simp only [bP] at hs);omega)) (h:=?_))|(refine sq ?_ ?_<;>intro hc<;>try exact hc.elim)|fail
  refine hK1 _ ⟨k+1,by omega⟩ (aS 1 rfl ?_ (by simp) (by simp)) (by simp only;omega)
  simp
 ·have W:=hk1
  repeat' first|refine wl ?_|(refine sq ?_ ?_<;>intro hc<;>try exact hc.elim)|fail
  have XZ:=tH z (l.map iO) k (by simpa using hlt)
  all_goals try(refine ⟨.inr rfl,?_⟩;simp [aB,results77,XZ])
theorem Yf [aD prog] (l:List lF) (n:Int) (h0:0<=n) (h1:n<=1048576) (hw:l.length<=9223372036854775807/\∀y∈l,MM y):Ok prog 58 [.sl .view 8 (l.map iO),.int .i64 n] (.int .i64 (sub n (bP gZ l))):=by
 obtain ⟨hl,hw⟩:=hw
 refine bR aAc func58 ntmps58 ?_
 have W:=trivial
 repeat' first|refine wl ?_|(refine sq ?_ ?_<;>intro hc<;>try exact hc.elim)|fail
 ·refine ⟨.inr rfl,?_⟩;simp [aB,results58,sub,bP];omega
 ·refine aJ (ι:={k:Nat // k<=l.length/\l.length+aO gZ (l.take k)<=n}) (fun t o i=>⟨aZ t [(1,.int .i64 (n - (l.length+aO gZ (l.take i.1):Nat))),(5,.int .i64 i.1)],[]⟩)
   (fun i=>l.length - i.1) ⟨0,by simp,by simp [aO];omega⟩ (aI (by simp) (by simp [aO])) ?_
  rintro ⟨k,hk,hs⟩ K1 hK1
  simp only [aZ,set_cons_succ,set_cons_zero] at hK1⊢
  have hk1:i64.wrap ((k:Int)+1)=((k+1:Nat):Int):=by rw [wrap64]<;>omega
  by_cases hlt:k < l.length
  ·have hg:=getElem?_eq_getElem hlt
   have hts:=bT gZ l k hlt
   have htl:=dC gZ l (k+1)
   have tq:=hw _ (getElem_mem hlt)
   have W:=aA hk1 hg
   repeat' first|refine wl ?_|(refine nx ?_;refine sk (hc:=iy _ _ (by omega) (by omega) tq) (h:=?_))|(refine sq ?_ ?_<;>intro hc<;>try exact hc.elim)|fail
   ·refine ⟨.inr rfl,?_⟩
    simp [aB,results58,bP]
    (repeat clear hK K);simp only [sub] at *;grind
   ·refine hK1 _ ⟨k+1,by omega,by (repeat clear hK K);simp only [sub] at *;grind⟩ (aI (by simp) ?_) (by simp only;omega)
    simp
    (repeat clear hK K);simp only [sub] at *;grind
  ·have W:=hk1
   repeat' first|refine wl ?_|(refine sq ?_ ?_<;>intro hc<;>try exact hc.elim)|fail
   all_goals try(refine ⟨.inr rfl,?_⟩;simp [aB,results58,bP])
   have:k=l.length:=by omega
   subst this
   rw [take_length] at *
   rw [sub_pos (by omega)]
   omega
theorem Yg [aD prog] (a b:List lF) (hs:bP gZ a<=1099511627776):Ok prog 95 [.sl .view 8 (a.map iO),.sl .view 8 (b.map iO)] (.bool (decide (a=b))):=by
 have hl:a.length<=1099511627776:=by (try simp only [bP] at hs);omega
 refine bR aAc func95 ntmps95 ?_
 have W:=trivial
 repeat' first|refine wl ?_|(refine sq ?_ ?_<;>intro hc<;>try exact hc.elim)|fail
 ·all_goals try(refine ⟨.inr rfl,?_⟩;simp [aB,results95])
  intro h;subst h;exact absurd rfl hc
 ·have hlen:a.length=b.length:=by omega
  refine aJ (ι:={k:Nat // k<=a.length/\a.take k=b.take k}) (fun t o i=>⟨aZ t [(5,.int .i64 i.1)],[]⟩)
   (fun i=>a.length - i.1) ⟨0,by simp⟩ (aI (by simp) (by simp)) ?_
  rintro ⟨k,hk,hpre⟩ K1 hK1
  simp only [aZ,set_cons_succ,set_cons_zero] at hK1⊢
  have hk1:i64.wrap ((k:Int)+1)=((k+1:Nat):Int):=by rw [wrap64]<;>omega
  by_cases hlt:k < a.length
  ·have hg:=getElem?_eq_getElem hlt
   have sS:k < b.length:=by omega
   have Ya:=getElem?_eq_getElem sS
   have W:=aA hk1 (aA hg (aA hlt (aA Ya sS)))
   repeat' first|refine wl ?_|(refine nx ?_;refine sk (hc:=ja a[k] b[k] (by have:=dV gZ a k hlt;(try simp only [bP] at hs);omega)) (h:=?_))|(refine sq ?_ ?_<;>intro hc<;>try exact hc.elim)|fail
   ·all_goals try(refine ⟨.inr rfl,?_⟩;simp [aB,results95])
    intro h;subst h;exact hc rfl
   ·have hts:a.take (k+1)=b.take (k+1):=by
     rw [take_succ_eq_append_getElem hlt,take_succ_eq_append_getElem sS,hpre,hc]
    refine hK1 _ ⟨k+1,by omega,hts⟩ (aI (by simp) (by simp)) (by simp only;omega)
  ·have Yb:a.length<=k:=by omega
   rw [take_of_length_le Yb,take_of_length_le (by omega)] at hpre
   subst hpre
   have W:=hk1
   repeat' first|refine wl ?_|(refine sq ?_ ?_<;>intro hc<;>try exact hc.elim)|fail
   all_goals try(refine ⟨.inr rfl,?_⟩;simp [aB,results95])
theorem toModuleS_ok [aD prog] (l:List dD) (hs:bP bE l<=1048576):Ok prog 78 [.sl .view 5 (l.map bO)] (.sl .own 5 (l.map bO)):=by
 have hl:l.length<=1048576:=by (try simp only [bP] at hs);omega
 have hb:(64:Int) * (l.length:Int)<=281474976710656:=by omega
 have hb2:(l.length:Int)<=9223372036854775807:=by omega
 generalize hz:([.str [],.str [],.bool false,.int .i64 0,.str []]:List AV)=z
 have hz0:=qV z (l.map bO)
 rw [length_map] at hz0
 refine bR aAc func78 ntmps78 ?_
 have W:=aA hb hb2
 repeat' first|refine wl ?_|(refine sq ?_ ?_<;>intro hc<;>try exact hc.elim)|fail
 refine aJ (ι:={k:Nat // k<=l.length}) (fun t o i=>⟨aZ t [(4,.int .i64 i.1)],[⟨true,false,5,1,uE z (l.map bO) i.1⟩]⟩)
  (fun i=>l.length - i.1) ⟨0,by simp⟩ (aI (by simp [hz,hz0]) (by simp)) ?_
 rintro ⟨k,hk⟩ K1 hK1
 simp only [aZ,set_cons_succ,set_cons_zero] at hK1⊢
 have hk1:i64.wrap ((k:Int)+1)=((k+1:Nat):Int):=by rw [wrap64]<;>omega
 by_cases hlt:k < l.length
 ·have hg:=getElem?_eq_getElem hlt
  have XX:=tJ z (l.map bO) k (by simpa using hlt)
  have vC:=tK z (l.map bO) k (by simpa using hlt)
  rw [getElem_map] at vC
  simp only [bO] at vC
  have Sk:z.length=5:=by rw [<-hz];rfl
  have XY:z.drop 5=[]:=by rw [<-hz];rfl
  have W:=aA hk1 (aA hg (aA XX (aA Sk (aA XY vC))))
  have V:=aA hk1 (aA hg hlt)
  repeat' first|refine wl ?_|(refine nx ?_;refine sk (hc:=toModule_ok l[k] (by have:=dV bE l k hlt;(try simp only [bP] at hs);omega)) (h:=?_))|(refine sq ?_ ?_<;>intro hc<;>try exact hc.elim)|fail
  refine hK1 _ ⟨k+1,by omega⟩ (aS 1 rfl ?_ (by simp) (by simp)) (by simp only;omega)
  simp
 ·have W:=hk1
  repeat' first|refine wl ?_|(refine sq ?_ ?_<;>intro hc<;>try exact hc.elim)|fail
  have XZ:=tH z (l.map bO) k (by simpa using hlt)
  all_goals try(refine ⟨.inr rfl,?_⟩;simp [aB,results78,XZ])
theorem SQ [aD prog] (l:List dD) (n:Int) (h0:0<=n) (h1:n<=1048576) (hw:l.length<=9223372036854775807/\∀y∈l,CV y):Ok prog 59 [.sl .view 5 (l.map bO),.int .i64 n] (.int .i64 (sub n (bP bE l))):=by
 obtain ⟨hl,hw⟩:=hw
 refine bR aAc func59 ntmps59 ?_
 have W:=trivial
 repeat' first|refine wl ?_|(refine sq ?_ ?_<;>intro hc<;>try exact hc.elim)|fail
 ·refine ⟨.inr rfl,?_⟩;simp [aB,results59,sub,bP];omega
 ·refine aJ (ι:={k:Nat // k<=l.length/\l.length+aO bE (l.take k)<=n}) (fun t o i=>⟨aZ t [(1,.int .i64 (n - (l.length+aO bE (l.take i.1):Nat))),(5,.int .i64 i.1)],[]⟩)
   (fun i=>l.length - i.1) ⟨0,by simp,by simp [aO];omega⟩ (aI (by simp) (by simp [aO])) ?_
  rintro ⟨k,hk,hs⟩ K1 hK1
  simp only [aZ,set_cons_succ,set_cons_zero] at hK1⊢
  have hk1:i64.wrap ((k:Int)+1)=((k+1:Nat):Int):=by rw [wrap64]<;>omega
  by_cases hlt:k < l.length
  ·have hg:=getElem?_eq_getElem hlt
   have hts:=bT bE l k hlt
   have htl:=dC bE l (k+1)
   have tq:=hw _ (getElem_mem hlt)
   have W:=aA hk1 hg
   repeat' first|refine wl ?_|(refine nx ?_;refine sk (hc:=Vl _ _ (by omega) (by omega) tq) (h:=?_))|(refine sq ?_ ?_<;>intro hc<;>try exact hc.elim)|fail
   ·refine ⟨.inr rfl,?_⟩
    simp [aB,results59,bP]
    (repeat clear hK K);simp only [sub] at *;grind
   ·refine hK1 _ ⟨k+1,by omega,by (repeat clear hK K);simp only [sub] at *;grind⟩ (aI (by simp) ?_) (by simp only;omega)
    simp
    (repeat clear hK K);simp only [sub] at *;grind
  ·have W:=hk1
   repeat' first|refine wl ?_|(refine sq ?_ ?_<;>intro hc<;>try exact hc.elim)|fail
   all_goals try(refine ⟨.inr rfl,?_⟩;simp [aB,results59,bP])
   have:k=l.length:=by omega
   subst this
   rw [take_length] at *
   rw [sub_pos (by omega)]
   omega
theorem SS [aD prog] (a b:List dD) (hs:bP bE a<=1099511627776):Ok prog 96 [.sl .view 5 (a.map bO),.sl .view 5 (b.map bO)] (.bool (decide (a=b))):=by
 have hl:a.length<=1099511627776:=by (try simp only [bP] at hs);omega
 refine bR aAc func96 ntmps96 ?_
 have W:=trivial
 repeat' first|refine wl ?_|(refine sq ?_ ?_<;>intro hc<;>try exact hc.elim)|fail
 ·all_goals try(refine ⟨.inr rfl,?_⟩;simp [aB,results96])
  intro h;subst h;exact absurd rfl hc
 ·have hlen:a.length=b.length:=by omega
  refine aJ (ι:={k:Nat // k<=a.length/\a.take k=b.take k}) (fun t o i=>⟨aZ t [(5,.int .i64 i.1)],[]⟩)
   (fun i=>a.length - i.1) ⟨0,by simp⟩ (aI (by simp) (by simp)) ?_
  rintro ⟨k,hk,hpre⟩ K1 hK1
  simp only [aZ,set_cons_succ,set_cons_zero] at hK1⊢
  have hk1:i64.wrap ((k:Int)+1)=((k+1:Nat):Int):=by rw [wrap64]<;>omega
  by_cases hlt:k < a.length
  ·have hg:=getElem?_eq_getElem hlt
   have sS:k < b.length:=by omega
   have Ya:=getElem?_eq_getElem sS
   have W:=aA hk1 (aA hg (aA hlt (aA Ya sS)))
   repeat' first|refine wl ?_|(refine nx ?_;refine sk (hc:=Vm a[k] b[k] (by have:=dV bE a k hlt;(try simp only [bP] at hs);omega)) (h:=?_))|(refine sq ?_ ?_<;>intro hc<;>try exact hc.elim)|fail
   ·all_goals try(refine ⟨.inr rfl,?_⟩;simp [aB,results96])
    intro h;subst h;exact hc rfl
   ·have hts:a.take (k+1)=b.take (k+1):=by
     rw [take_succ_eq_append_getElem hlt,take_succ_eq_append_getElem sS,hpre,hc]
    refine hK1 _ ⟨k+1,by omega,hts⟩ (aI (by simp) (by simp)) (by simp only;omega)
  ·have Yb:a.length<=k:=by omega
   rw [take_of_length_le Yb,take_of_length_le (by omega)] at hpre
   subst hpre
   have W:=hk1
   repeat' first|refine wl ?_|(refine sq ?_ ?_<;>intro hc<;>try exact hc.elim)|fail
   all_goals try(refine ⟨.inr rfl,?_⟩;simp [aB,results96])
theorem toTokenS_ok [aD prog] (l:List bH) (hs:bP bF l<=1048576):Ok prog 75 [.sl .view 4 (l.map (bB .view))] (.sl .own 4 (l.map (bB .own))):=by
 have hl:l.length<=1048576:=by (try simp only [bP] at hs);omega
 have hb:(64:Int) * (l.length:Int)<=281474976710656:=by omega
 have hb2:(l.length:Int)<=9223372036854775807:=by omega
 generalize hz:([.int .i64 0,.str [],.sl .own 2 [],.str []]:List AV)=z
 have hz0:=qV z (l.map (bB .own))
 rw [length_map] at hz0
 refine bR aAc func75 ntmps75 ?_
 have W:=aA hb hb2
 repeat' first|refine wl ?_|(refine sq ?_ ?_<;>intro hc<;>try exact hc.elim)|fail
 refine aJ (ι:={k:Nat // k<=l.length}) (fun t o i=>⟨aZ t [(4,.int .i64 i.1)],[⟨true,false,4,1,uE z (l.map (bB .own)) i.1⟩]⟩)
  (fun i=>l.length - i.1) ⟨0,by simp⟩ (aI (by simp [hz,hz0]) (by simp)) ?_
 rintro ⟨k,hk⟩ K1 hK1
 simp only [aZ,set_cons_succ,set_cons_zero] at hK1⊢
 have hk1:i64.wrap ((k:Int)+1)=((k+1:Nat):Int):=by rw [wrap64]<;>omega
 by_cases hlt:k < l.length
 ·have hg:=getElem?_eq_getElem hlt
  have XX:=tJ z (l.map (bB .own)) k (by simpa using hlt)
  have vC:=tK z (l.map (bB .own)) k (by simpa using hlt)
  rw [getElem_map] at vC
  simp only [bB] at vC
  have Sk:z.length=4:=by rw [<-hz];rfl
  have XY:z.drop 4=[]:=by rw [<-hz];rfl
  have W:=aA hk1 (aA hg (aA XX (aA Sk (aA XY vC))))
  have V:=aA hk1 (aA hg hlt)
  repeat' first|refine wl ?_|(refine nx ?_;refine sk (hc:=toToken_ok l[k] (by have:=dV bF l k hlt;(try simp only [bP] at hs);omega)) (h:=?_))|(refine sq ?_ ?_<;>intro hc<;>try exact hc.elim)|fail
  refine hK1 _ ⟨k+1,by omega⟩ (aS 1 rfl ?_ (by simp) (by simp)) (by simp only;omega)
  simp
 ·have W:=hk1
  repeat' first|refine wl ?_|(refine sq ?_ ?_<;>intro hc<;>try exact hc.elim)|fail
  have XZ:=tH z (l.map (bB .own)) k (by simpa using hlt)
  all_goals try(refine ⟨.inr rfl,?_⟩;simp [aB,results75,XZ])
theorem Vp [aD prog] (l:List bH) (n:Int) (h0:0<=n) (h1:n<=1048576) (hw:l.length<=9223372036854775807/\∀y∈l,Gw y):Ok prog 56 [.sl .view 4 (l.map (bB .view)),.int .i64 n] (.int .i64 (sub n (bP bF l))):=by
 obtain ⟨hl,hw⟩:=hw
 refine bR aAc func56 ntmps56 ?_
 have W:=trivial
 repeat' first|refine wl ?_|(refine sq ?_ ?_<;>intro hc<;>try exact hc.elim)|fail
 ·refine ⟨.inr rfl,?_⟩;simp [aB,results56,sub,bP];omega
 ·refine aJ (ι:={k:Nat // k<=l.length/\l.length+aO bF (l.take k)<=n}) (fun t o i=>⟨aZ t [(1,.int .i64 (n - (l.length+aO bF (l.take i.1):Nat))),(5,.int .i64 i.1)],[]⟩)
   (fun i=>l.length - i.1) ⟨0,by simp,by simp [aO];omega⟩ (aI (by simp) (by simp [aO])) ?_
  rintro ⟨k,hk,hs⟩ K1 hK1
  simp only [aZ,set_cons_succ,set_cons_zero] at hK1⊢
  have hk1:i64.wrap ((k:Int)+1)=((k+1:Nat):Int):=by rw [wrap64]<;>omega
  by_cases hlt:k < l.length
  ·have hg:=getElem?_eq_getElem hlt
   have hts:=bT bF l k hlt
   have htl:=dC bF l (k+1)
   have tq:=hw _ (getElem_mem hlt)
   have W:=aA hk1 hg
   repeat' first|refine wl ?_|(refine nx ?_;refine sk (hc:=Yc _ _ (by omega) (by omega) tq) (h:=?_))|(refine sq ?_ ?_<;>intro hc<;>try exact hc.elim)|fail
   ·refine ⟨.inr rfl,?_⟩
    simp [aB,results56,bP]
    (repeat clear hK K);simp only [sub] at *;grind
   ·refine hK1 _ ⟨k+1,by omega,by (repeat clear hK K);simp only [sub] at *;grind⟩ (aI (by simp) ?_) (by simp only;omega)
    simp
    (repeat clear hK K);simp only [sub] at *;grind
  ·have W:=hk1
   repeat' first|refine wl ?_|(refine sq ?_ ?_<;>intro hc<;>try exact hc.elim)|fail
   all_goals try(refine ⟨.inr rfl,?_⟩;simp [aB,results56,bP])
   have:k=l.length:=by omega
   subst this
   rw [take_length] at *
   rw [sub_pos (by omega)]
   omega
theorem Vq [aD prog] (a b:List bH) (hs:bP bF a<=1099511627776):Ok prog 93 [.sl .view 4 (a.map (bB .view)),.sl .view 4 (b.map (bB .view))] (.bool (decide (a=b))):=by
 have hl:a.length<=1099511627776:=by (try simp only [bP] at hs);omega
 refine bR aAc func93 ntmps93 ?_
 have W:=trivial
 repeat' first|refine wl ?_|(refine sq ?_ ?_<;>intro hc<;>try exact hc.elim)|fail
 ·all_goals try(refine ⟨.inr rfl,?_⟩;simp [aB,results93])
  intro h;subst h;exact absurd rfl hc
 ·have hlen:a.length=b.length:=by omega
  refine aJ (ι:={k:Nat // k<=a.length/\a.take k=b.take k}) (fun t o i=>⟨aZ t [(5,.int .i64 i.1)],[]⟩)
   (fun i=>a.length - i.1) ⟨0,by simp⟩ (aI (by simp) (by simp)) ?_
  rintro ⟨k,hk,hpre⟩ K1 hK1
  simp only [aZ,set_cons_succ,set_cons_zero] at hK1⊢
  have hk1:i64.wrap ((k:Int)+1)=((k+1:Nat):Int):=by rw [wrap64]<;>omega
  by_cases hlt:k < a.length
  ·have hg:=getElem?_eq_getElem hlt
   have sS:k < b.length:=by omega
   have Ya:=getElem?_eq_getElem sS
   have W:=aA hk1 (aA hg (aA hlt (aA Ya sS)))
   repeat' first|refine wl ?_|(refine nx ?_;refine sk (hc:=Ye a[k] b[k] (by have:=dV bF a k hlt;(try simp only [bP] at hs);omega)) (h:=?_))|(refine sq ?_ ?_<;>intro hc<;>try exact hc.elim)|fail
   ·all_goals try(refine ⟨.inr rfl,?_⟩;simp [aB,results93])
    intro h;subst h;exact hc rfl
   ·have hts:a.take (k+1)=b.take (k+1):=by
     rw [take_succ_eq_append_getElem hlt,take_succ_eq_append_getElem sS,hpre,hc]
    refine hK1 _ ⟨k+1,by omega,hts⟩ (aI (by simp) (by simp)) (by simp only;omega)
  ·have Yb:a.length<=k:=by omega
   rw [take_of_length_le Yb,take_of_length_le (by omega)] at hpre
   subst hpre
   have W:=hk1
   repeat' first|refine wl ?_|(refine sq ?_ ?_<;>intro hc<;>try exact hc.elim)|fail
   all_goals try(refine ⟨.inr rfl,?_⟩;simp [aB,results93])
theorem toNodeS_ok [aD prog] (l:List eY) (hs:bP fU l<=1048576):Ok prog 161 [.sl .view 4 (l.map (bX .view))] (.sl .own 4 (l.map (bX .own))):=by
 have hl:l.length<=1048576:=by (try simp only [bP] at hs);omega
 have hb:(64:Int) * (l.length:Int)<=281474976710656:=by omega
 have hb2:(l.length:Int)<=9223372036854775807:=by omega
 generalize hz:([.str [],.str [],.int .i64 0,.sl .own 2 []]:List AV)=z
 have hz0:=qV z (l.map (bX .own))
 rw [length_map] at hz0
 refine bR aAc func161 ntmps161 ?_
 have W:=aA hb hb2
 repeat' first|refine wl ?_|(refine sq ?_ ?_<;>intro hc<;>try exact hc.elim)|fail
 refine aJ (ι:={k:Nat // k<=l.length}) (fun t o i=>⟨aZ t [(4,.int .i64 i.1)],[⟨true,false,4,1,uE z (l.map (bX .own)) i.1⟩]⟩)
  (fun i=>l.length - i.1) ⟨0,by simp⟩ (aI (by simp [hz,hz0]) (by simp)) ?_
 rintro ⟨k,hk⟩ K1 hK1
 simp only [aZ,set_cons_succ,set_cons_zero] at hK1⊢
 have hk1:i64.wrap ((k:Int)+1)=((k+1:Nat):Int):=by rw [wrap64]<;>omega
 by_cases hlt:k < l.length
 ·have hg:=getElem?_eq_getElem hlt
  have XX:=tJ z (l.map (bX .own)) k (by simpa using hlt)
  have vC:=tK z (l.map (bX .own)) k (by simpa using hlt)
  rw [getElem_map] at vC
  simp only [bX] at vC
  have Sk:z.length=4:=by rw [<-hz];rfl
  have XY:z.drop 4=[]:=by rw [<-hz];rfl
  have W:=aA hk1 (aA hg (aA XX (aA Sk (aA XY vC))))
  have V:=aA hk1 (aA hg hlt)
  repeat' first|refine wl ?_|(refine nx ?_;refine sk (hc:=toNode_ok l[k] (by have:=dV fU l k hlt;(try simp only [bP] at hs);omega)) (h:=?_))|(refine sq ?_ ?_<;>intro hc<;>try exact hc.elim)|fail
  refine hK1 _ ⟨k+1,by omega⟩ (aS 1 rfl ?_ (by simp) (by simp)) (by simp only;omega)
  simp
 ·have W:=hk1
  repeat' first|refine wl ?_|(refine sq ?_ ?_<;>intro hc<;>try exact hc.elim)|fail
  have XZ:=tH z (l.map (bX .own)) k (by simpa using hlt)
  all_goals try(refine ⟨.inr rfl,?_⟩;simp [aB,results161,XZ])
theorem Yh [aD prog] (l:List eY) (n:Int) (h0:0<=n) (h1:n<=1048576) (hw:l.length<=9223372036854775807/\∀y∈l,MJ y):Ok prog 143 [.sl .view 4 (l.map (bX .view)),.int .i64 n] (.int .i64 (sub n (bP fU l))):=by
 obtain ⟨hl,hw⟩:=hw
 refine bR aAc func143 ntmps143 ?_
 have W:=trivial
 repeat' first|refine wl ?_|(refine sq ?_ ?_<;>intro hc<;>try exact hc.elim)|fail
 ·refine ⟨.inr rfl,?_⟩;simp [aB,results143,sub,bP];omega
 ·refine aJ (ι:={k:Nat // k<=l.length/\l.length+aO fU (l.take k)<=n}) (fun t o i=>⟨aZ t [(1,.int .i64 (n - (l.length+aO fU (l.take i.1):Nat))),(5,.int .i64 i.1)],[]⟩)
   (fun i=>l.length - i.1) ⟨0,by simp,by simp [aO];omega⟩ (aI (by simp) (by simp [aO])) ?_
  rintro ⟨k,hk,hs⟩ K1 hK1
  simp only [aZ,set_cons_succ,set_cons_zero] at hK1⊢
  have hk1:i64.wrap ((k:Int)+1)=((k+1:Nat):Int):=by rw [wrap64]<;>omega
  by_cases hlt:k < l.length
  ·have hg:=getElem?_eq_getElem hlt
   have hts:=bT fU l k hlt
   have htl:=dC fU l (k+1)
   have tq:=hw _ (getElem_mem hlt)
   have W:=aA hk1 hg
   repeat' first|refine wl ?_|(refine nx ?_;refine sk (hc:=jb _ _ (by omega) (by omega) tq) (h:=?_))|(refine sq ?_ ?_<;>intro hc<;>try exact hc.elim)|fail
   ·refine ⟨.inr rfl,?_⟩
    simp [aB,results143,bP]
    (repeat clear hK K);simp only [sub] at *;grind
   ·refine hK1 _ ⟨k+1,by omega,by (repeat clear hK K);simp only [sub] at *;grind⟩ (aI (by simp) ?_) (by simp only;omega)
    simp
    (repeat clear hK K);simp only [sub] at *;grind
  ·have W:=hk1
   repeat' first|refine wl ?_|(refine sq ?_ ?_<;>intro hc<;>try exact hc.elim)|fail
   all_goals try(refine ⟨.inr rfl,?_⟩;simp [aB,results143,bP])
   have:k=l.length:=by omega
   subst this
   rw [take_length] at *
   rw [sub_pos (by omega)]
   omega
theorem Yi [aD prog] (a b:List eY) (hs:bP fU a<=1099511627776):Ok prog 174 [.sl .view 4 (a.map (bX .view)),.sl .view 4 (b.map (bX .view))] (.bool (decide (a=b))):=by
 have hl:a.length<=1099511627776:=by (try simp only [bP] at hs);omega
 refine bR aAc func174 ntmps174 ?_
 have W:=trivial
 repeat' first|refine wl ?_|(refine sq ?_ ?_<;>intro hc<;>try exact hc.elim)|fail
 ·all_goals try(refine ⟨.inr rfl,?_⟩;simp [aB,results174])
  intro h;subst h;exact absurd rfl hc
 ·have hlen:a.length=b.length:=by omega
  refine aJ (ι:={k:Nat // k<=a.length/\a.take k=b.take k}) (fun t o i=>⟨aZ t [(5,.int .i64 i.1)],[]⟩)
   (fun i=>a.length - i.1) ⟨0,by simp⟩ (aI (by simp) (by simp)) ?_
  rintro ⟨k,hk,hpre⟩ K1 hK1
  simp only [aZ,set_cons_succ,set_cons_zero] at hK1⊢
  have hk1:i64.wrap ((k:Int)+1)=((k+1:Nat):Int):=by rw [wrap64]<;>omega
  by_cases hlt:k < a.length
  ·have hg:=getElem?_eq_getElem hlt
   have sS:k < b.length:=by omega
   have Ya:=getElem?_eq_getElem sS
   have W:=aA hk1 (aA hg (aA hlt (aA Ya sS)))
   repeat' first|refine wl ?_|(refine nx ?_;refine sk (hc:=jc a[k] b[k] (by have:=dV fU a k hlt;(try simp only [bP] at hs);omega)) (h:=?_))|(refine sq ?_ ?_<;>intro hc<;>try exact hc.elim)|fail
   ·all_goals try(refine ⟨.inr rfl,?_⟩;simp [aB,results174])
    intro h;subst h;exact hc rfl
   ·have hts:a.take (k+1)=b.take (k+1):=by
     rw [take_succ_eq_append_getElem hlt,take_succ_eq_append_getElem sS,hpre,hc]
    refine hK1 _ ⟨k+1,by omega,hts⟩ (aI (by simp) (by simp)) (by simp only;omega)
  ·have Yb:a.length<=k:=by omega
   rw [take_of_length_le Yb,take_of_length_le (by omega)] at hpre
   subst hpre
   have W:=hk1
   repeat' first|refine wl ?_|(refine sq ?_ ?_<;>intro hc<;>try exact hc.elim)|fail
   all_goals try(refine ⟨.inr rfl,?_⟩;simp [aB,results174])
end Go.Proofs.YtlnblmmohpcceaaGreatDoor
