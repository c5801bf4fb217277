/- Proved here: steps towards the statement of this claim. No condition. -/
import Derived.Test.YtlnblmmohpcceaaGreatDoorZQRLsc
set_option linter.all false
set_option maxRecDepth 4000
set_option maxHeartbeats 4000000
namespace Go.Proofs.YtlnblmmohpcceaaGreatDoor
open Go.Aw Proofs.Tryz List IntKind
def places {α:Type} (f:α->Bool):Nat->List α->List Int
 |_,[]=>[]
 |i,x::xs=>if f x then (i:Int)::places f (i+1) xs else places f (i+1) xs
theorem Kv {α:Type} (f:α->Bool) (x:α):∀(l:List α) (i:Nat),places f i (l++[x])=places f i l++(if f x then [((i+l.length:Nat):Int)] else [])
 |[],i=>by simp only [nil_append,places];cases f x<;>simp
 |y::ys,i=>by
  simp only [cons_append,places]
  rw [Kv f x ys (i+1)]
  have:i+1+ys.length=i+(y::ys).length:=by simp;omega
  rw [this]
  cases f y<;>simp
theorem tV {α:Type} (f:α->Bool) (l:List α) (k:Nat) (h:k < l.length):places f 0 (l.take (k+1))=places f 0 (l.take k)++(if f l[k] then [(k:Int)] else []):=by
 rw [take_succ_eq_append_getElem h,Kv]
 have:(l.take k).length=k:=by simp;omega
 rw [this,Nat.zero_add]
theorem lJ {α:Type} (f:α->Bool):∀(l:List α) (i:Nat),(places f i l).length<=l.length
 |[],_=>by simp [places]
 |x::xs,i=>by
  simp only [places]
  have:=lJ f xs (i+1)
  cases f x<;>simp<;>omega
def sI (s:lF):Bool:= !s.done
def sJ (s:dD):Bool:= !s.done
def iF (s:lF):Bool:=s.mode == 4
theorem Ju [aD prog] (p:aP) (hl:p.aF.length<=16777216):Ok prog 69 [.agg (aM .view p)] (.sl .own 1 ((places sI 0 p.aF).map iX)):=by
 refine bR aAc func69 ntmps69 ?_
 have W:=trivial
 repeat' first|refine wl ?_|(refine sq ?_ ?_<;>intro hc<;>try exact hc.elim)|fail
 refine aJ (ι:={q:Nat×Nat // q.1<=p.aF.length/\1<=q.2}) (fun t o i=>⟨aZ t [(3,.obj 1 i.1.2),(4,.int .i64 i.1.1)],o.take 1++[⟨true,false,1,i.1.2,(places sI 0 (p.aF.take i.1.1)).map iX⟩]⟩)
  (fun i=>p.aF.length - i.1.1) ⟨(0,1),by simp,by simp⟩ (aI (by simp [places]) (by simp)) ?_
 rintro ⟨⟨k,v⟩,hk,hv⟩ K1 hK1
 simp only at hk hv
 simp only [aZ,set_cons_succ,set_cons_zero,take_succ_cons,take_zero,cons_append,nil_append] at hK1⊢
 have hk1:i64.wrap ((k:Int)+1)=((k+1:Nat):Int):=by rw [wrap64]<;>omega
 by_cases hlt:k < p.aF.length
 ·have hg:=getElem?_eq_getElem hlt
  have hps:=tV sI p.aF k hlt
  have hpl:=lJ sI (p.aF.take k) 0
  have htl:(p.aF.take k).length=k:=by simp;omega
  have hb1:((places sI 0 (p.aF.take k)).length+1) * 8<=140737488355328:=by omega
  have hb2:(places sI 0 (p.aF.take k)).length+1<=9223372036854775807:=by omega
  have hb3:(places sI 0 (p.aF.take k)).length<=9223372036854775806:=by omega
  have W:=aA hk1 (aA hg (aA hlt (aA hb1 (aA hb2 hb3))))
  repeat' first|refine wl ?_|(refine sq ?_ ?_<;>intro hc<;>try exact hc.elim)|fail
  ·refine hK1 _ ⟨(k+1,v+1),by simp only;omega,by simp only;omega⟩ (aS 2 (by simp [hps,sI,hc]) (by simp) (by simp) (by simp)) (by simp only;omega)
  ·refine hK1 _ ⟨(k+1,v),by simp only;omega,hv⟩ (aS 2 (by simp [hps,sI,hc]) (by simp) (by simp) (by simp)) (by simp only;omega)
 ·have htk:p.aF.take k=p.aF:=take_of_length_le (by omega)
  rw [htk]
  have W:=hk1
  repeat' first|refine wl ?_|(refine sq ?_ ?_<;>intro hc<;>try exact hc.elim)|fail
  all_goals try(refine ⟨.inr rfl,?_⟩;simp [aB,results69])
theorem Jv [aD prog] (p:aP) (hl:p.aF.length<=16777216):Ok prog 87 [.agg (aM .view p)] (.sl .own 1 ((places sI 0 p.aF).map iX)):=by
 refine bR aAc func87 ntmps87 ?_
 have W:=trivial
 repeat' first|refine wl ?_|(refine sq ?_ ?_<;>intro hc<;>try exact hc.elim)|fail
 refine aJ (ι:={q:Nat×Nat // q.1<=p.aF.length/\1<=q.2}) (fun t o i=>⟨aZ t [(3,.obj 1 i.1.2),(10,.int .i64 i.1.1)],o.take 1++[⟨true,false,1,i.1.2,(places sI 0 (p.aF.take i.1.1)).map iX⟩]⟩)
  (fun i=>p.aF.length - i.1.1) ⟨(0,1),by simp,by simp⟩ (aI (by simp [places]) (by simp)) ?_
 rintro ⟨⟨k,v⟩,hk,hv⟩ K1 hK1
 simp only at hk hv
 simp only [aZ,set_cons_succ,set_cons_zero,take_succ_cons,take_zero,cons_append,nil_append] at hK1⊢
 have hk1:i64.wrap ((k:Int)+1)=((k+1:Nat):Int):=by rw [wrap64]<;>omega
 by_cases hlt:k < p.aF.length
 ·have hg:=getElem?_eq_getElem hlt
  have hps:=tV sI p.aF k hlt
  have hpl:=lJ sI (p.aF.take k) 0
  have htl:(p.aF.take k).length=k:=by simp;omega
  have hb1:((places sI 0 (p.aF.take k)).length+1) * 8<=140737488355328:=by omega
  have hb2:(places sI 0 (p.aF.take k)).length+1<=9223372036854775807:=by omega
  have hb3:(places sI 0 (p.aF.take k)).length<=9223372036854775806:=by omega
  have W:=aA hk1 (aA hg (aA hlt (aA hb1 (aA hb2 hb3))))
  repeat' first|refine wl ?_|(refine sq ?_ ?_<;>intro hc<;>try exact hc.elim)|fail
  ·refine hK1 _ ⟨(k+1,v+1),by simp only;omega,by simp only;omega⟩ (aS 2 (by simp [hps,sI,hc]) (by simp) (by simp) (by simp)) (by simp only;omega)
  ·refine hK1 _ ⟨(k+1,v),by simp only;omega,hv⟩ (aS 2 (by simp [hps,sI,hc]) (by simp) (by simp) (by simp)) (by simp only;omega)
 ·have htk:p.aF.take k=p.aF:=take_of_length_le (by omega)
  rw [htk]
  have W:=hk1
  repeat' first|refine wl ?_|(refine sq ?_ ?_<;>intro hc<;>try exact hc.elim)|fail
  all_goals try(refine ⟨.inr rfl,?_⟩;simp [aB,results87])
theorem KV [aD prog] (p:aP) (hl:p.aX.length<=16777216):Ok prog 70 [.agg (aM .view p)] (.sl .own 1 ((places sJ 0 p.aX).map iX)):=by
 refine bR aAc func70 ntmps70 ?_
 have W:=trivial
 repeat' first|refine wl ?_|(refine sq ?_ ?_<;>intro hc<;>try exact hc.elim)|fail
 refine aJ (ι:={q:Nat×Nat // q.1<=p.aX.length/\1<=q.2}) (fun t o i=>⟨aZ t [(3,.obj 1 i.1.2),(4,.int .i64 i.1.1)],o.take 1++[⟨true,false,1,i.1.2,(places sJ 0 (p.aX.take i.1.1)).map iX⟩]⟩)
  (fun i=>p.aX.length - i.1.1) ⟨(0,1),by simp,by simp⟩ (aI (by simp [places]) (by simp)) ?_
 rintro ⟨⟨k,v⟩,hk,hv⟩ K1 hK1
 simp only at hk hv
 simp only [aZ,set_cons_succ,set_cons_zero,take_succ_cons,take_zero,cons_append,nil_append] at hK1⊢
 have hk1:i64.wrap ((k:Int)+1)=((k+1:Nat):Int):=by rw [wrap64]<;>omega
 by_cases hlt:k < p.aX.length
 ·have hg:=getElem?_eq_getElem hlt
  have hps:=tV sJ p.aX k hlt
  have hpl:=lJ sJ (p.aX.take k) 0
  have htl:(p.aX.take k).length=k:=by simp;omega
  have hb1:((places sJ 0 (p.aX.take k)).length+1) * 8<=140737488355328:=by omega
  have hb2:(places sJ 0 (p.aX.take k)).length+1<=9223372036854775807:=by omega
  have hb3:(places sJ 0 (p.aX.take k)).length<=9223372036854775806:=by omega
  have W:=aA hk1 (aA hg (aA hlt (aA hb1 (aA hb2 hb3))))
  repeat' first|refine wl ?_|(refine sq ?_ ?_<;>intro hc<;>try exact hc.elim)|fail
  ·refine hK1 _ ⟨(k+1,v+1),by simp only;omega,by simp only;omega⟩ (aS 2 (by simp [hps,sJ,hc]) (by simp) (by simp) (by simp)) (by simp only;omega)
  ·refine hK1 _ ⟨(k+1,v),by simp only;omega,hv⟩ (aS 2 (by simp [hps,sJ,hc]) (by simp) (by simp) (by simp)) (by simp only;omega)
 ·have htk:p.aX.take k=p.aX:=take_of_length_le (by omega)
  rw [htk]
  have W:=hk1
  repeat' first|refine wl ?_|(refine sq ?_ ?_<;>intro hc<;>try exact hc.elim)|fail
  all_goals try(refine ⟨.inr rfl,?_⟩;simp [aB,results70])
theorem KW [aD prog] (p:aP) (hl:p.aX.length<=16777216):Ok prog 88 [.agg (aM .view p)] (.sl .own 1 ((places sJ 0 p.aX).map iX)):=by
 refine bR aAc func88 ntmps88 ?_
 have W:=trivial
 repeat' first|refine wl ?_|(refine sq ?_ ?_<;>intro hc<;>try exact hc.elim)|fail
 refine aJ (ι:={q:Nat×Nat // q.1<=p.aX.length/\1<=q.2}) (fun t o i=>⟨aZ t [(3,.obj 1 i.1.2),(10,.int .i64 i.1.1)],o.take 1++[⟨true,false,1,i.1.2,(places sJ 0 (p.aX.take i.1.1)).map iX⟩]⟩)
  (fun i=>p.aX.length - i.1.1) ⟨(0,1),by simp,by simp⟩ (aI (by simp [places]) (by simp)) ?_
 rintro ⟨⟨k,v⟩,hk,hv⟩ K1 hK1
 simp only at hk hv
 simp only [aZ,set_cons_succ,set_cons_zero,take_succ_cons,take_zero,cons_append,nil_append] at hK1⊢
 have hk1:i64.wrap ((k:Int)+1)=((k+1:Nat):Int):=by rw [wrap64]<;>omega
 by_cases hlt:k < p.aX.length
 ·have hg:=getElem?_eq_getElem hlt
  have hps:=tV sJ p.aX k hlt
  have hpl:=lJ sJ (p.aX.take k) 0
  have htl:(p.aX.take k).length=k:=by simp;omega
  have hb1:((places sJ 0 (p.aX.take k)).length+1) * 8<=140737488355328:=by omega
  have hb2:(places sJ 0 (p.aX.take k)).length+1<=9223372036854775807:=by omega
  have hb3:(places sJ 0 (p.aX.take k)).length<=9223372036854775806:=by omega
  have W:=aA hk1 (aA hg (aA hlt (aA hb1 (aA hb2 hb3))))
  repeat' first|refine wl ?_|(refine sq ?_ ?_<;>intro hc<;>try exact hc.elim)|fail
  ·refine hK1 _ ⟨(k+1,v+1),by simp only;omega,by simp only;omega⟩ (aS 2 (by simp [hps,sJ,hc]) (by simp) (by simp) (by simp)) (by simp only;omega)
  ·refine hK1 _ ⟨(k+1,v),by simp only;omega,hv⟩ (aS 2 (by simp [hps,sJ,hc]) (by simp) (by simp) (by simp)) (by simp only;omega)
 ·have htk:p.aX.take k=p.aX:=take_of_length_le (by omega)
  rw [htk]
  have W:=hk1
  repeat' first|refine wl ?_|(refine sq ?_ ?_<;>intro hc<;>try exact hc.elim)|fail
  all_goals try(refine ⟨.inr rfl,?_⟩;simp [aB,results88])
theorem Du [aD prog] (p:aP) (hl:p.aF.length<=16777216):Ok prog 64 [.agg (aM .view p)] (.sl .own 1 ((places iF 0 p.aF).map iX)):=by
 refine bR aAc func64 ntmps64 ?_
 have W:=trivial
 repeat' first|refine wl ?_|(refine sq ?_ ?_<;>intro hc<;>try exact hc.elim)|fail
 refine aJ (ι:={q:Nat×Nat // q.1<=p.aF.length/\1<=q.2}) (fun t o i=>⟨aZ t [(3,.obj 1 i.1.2),(4,.int .i64 i.1.1)],o.take 1++[⟨true,false,1,i.1.2,(places iF 0 (p.aF.take i.1.1)).map iX⟩]⟩)
  (fun i=>p.aF.length - i.1.1) ⟨(0,1),by simp,by simp⟩ (aI (by simp [places]) (by simp)) ?_
 rintro ⟨⟨k,v⟩,hk,hv⟩ K1 hK1
 simp only at hk hv
 simp only [aZ,set_cons_succ,set_cons_zero,take_succ_cons,take_zero,cons_append,nil_append] at hK1⊢
 have hk1:i64.wrap ((k:Int)+1)=((k+1:Nat):Int):=by rw [wrap64]<;>omega
 by_cases hlt:k < p.aF.length
 ·have hg:=getElem?_eq_getElem hlt
  have hps:=tV iF p.aF k hlt
  have hpl:=lJ iF (p.aF.take k) 0
  have htl:(p.aF.take k).length=k:=by simp;omega
  have hb1:((places iF 0 (p.aF.take k)).length+1) * 8<=140737488355328:=by omega
  have hb2:(places iF 0 (p.aF.take k)).length+1<=9223372036854775807:=by omega
  have hb3:(places iF 0 (p.aF.take k)).length<=9223372036854775806:=by omega
  have W:=aA hk1 (aA hg (aA hlt (aA hb1 (aA hb2 hb3))))
  repeat' first|refine wl ?_|(refine sq ?_ ?_<;>intro hc<;>try exact hc.elim)|fail
  ·refine hK1 _ ⟨(k+1,v+1),by simp only;omega,by simp only;omega⟩ (aS 2 (by simp [hps,iF,hc]) (by simp) (by simp) (by simp)) (by simp only;omega)
  ·refine hK1 _ ⟨(k+1,v),by simp only;omega,hv⟩ (aS 2 (by simp [hps,iF,hc]) (by simp) (by simp) (by simp)) (by simp only;omega)
 ·have htk:p.aF.take k=p.aF:=take_of_length_le (by omega)
  rw [htk]
  have W:=hk1
  repeat' first|refine wl ?_|(refine sq ?_ ?_<;>intro hc<;>try exact hc.elim)|fail
  all_goals try(refine ⟨.inr rfl,?_⟩;simp [aB,results64])
theorem Dv [aD prog] (p:aP) (hl:p.aF.length<=16777216):Ok prog 82 [.agg (aM .view p)] (.sl .own 1 ((places iF 0 p.aF).map iX)):=by
 refine bR aAc func82 ntmps82 ?_
 have W:=trivial
 repeat' first|refine wl ?_|(refine sq ?_ ?_<;>intro hc<;>try exact hc.elim)|fail
 refine aJ (ι:={q:Nat×Nat // q.1<=p.aF.length/\1<=q.2}) (fun t o i=>⟨aZ t [(3,.obj 1 i.1.2),(10,.int .i64 i.1.1)],o.take 1++[⟨true,false,1,i.1.2,(places iF 0 (p.aF.take i.1.1)).map iX⟩]⟩)
  (fun i=>p.aF.length - i.1.1) ⟨(0,1),by simp,by simp⟩ (aI (by simp [places]) (by simp)) ?_
 rintro ⟨⟨k,v⟩,hk,hv⟩ K1 hK1
 simp only at hk hv
 simp only [aZ,set_cons_succ,set_cons_zero,take_succ_cons,take_zero,cons_append,nil_append] at hK1⊢
 have hk1:i64.wrap ((k:Int)+1)=((k+1:Nat):Int):=by rw [wrap64]<;>omega
 by_cases hlt:k < p.aF.length
 ·have hg:=getElem?_eq_getElem hlt
  have hps:=tV iF p.aF k hlt
  have hpl:=lJ iF (p.aF.take k) 0
  have htl:(p.aF.take k).length=k:=by simp;omega
  have hb1:((places iF 0 (p.aF.take k)).length+1) * 8<=140737488355328:=by omega
  have hb2:(places iF 0 (p.aF.take k)).length+1<=9223372036854775807:=by omega
  have hb3:(places iF 0 (p.aF.take k)).length<=9223372036854775806:=by omega
  have W:=aA hk1 (aA hg (aA hlt (aA hb1 (aA hb2 hb3))))
  repeat' first|refine wl ?_|(refine sq ?_ ?_<;>intro hc<;>try exact hc.elim)|fail
  ·refine hK1 _ ⟨(k+1,v+1),by simp only;omega,by simp only;omega⟩ (aS 2 (by simp [hps,iF,hc]) (by simp) (by simp) (by simp)) (by simp only;omega)
  ·refine hK1 _ ⟨(k+1,v),by simp only;omega,hv⟩ (aS 2 (by simp [hps,iF,hc]) (by simp) (by simp) (by simp)) (by simp only;omega)
 ·have htk:p.aF.take k=p.aF:=take_of_length_le (by omega)
  rw [htk]
  have W:=hk1
  repeat' first|refine wl ?_|(refine sq ?_ ?_<;>intro hc<;>try exact hc.elim)|fail
  all_goals try(refine ⟨.inr rfl,?_⟩;simp [aB,results82])
def eB (m:Int):Int:=if m=1 then 4 else if m=2 then 3 else if m=3 then 2 else if m=4 then 2 else 0
theorem Al [aD prog] (m:Int):Ok prog 273 [.int .i64 m] (.int .i64 (eB m)):=by
 refine bR aAc func273 ntmps273 ?_
 have W:=trivial
 repeat' first|refine wl ?_|(refine sq ?_ ?_<;>intro hc<;>try exact hc.elim)|fail
 all_goals try(refine ⟨.inr rfl,?_⟩;simp [aB,results273,eB])
 all_goals simp_all [eB]
theorem Am [aD prog] (m:Int):Ok prog 277 [.int .i64 m] (.int .i64 (eB m)):=by
 refine bR aAc func277 ntmps277 ?_
 have W:=trivial
 repeat' first|refine wl ?_|(refine sq ?_ ?_<;>intro hc<;>try exact hc.elim)|fail
 all_goals try(refine ⟨.inr rfl,?_⟩;simp [aB,results277,eB])
 all_goals simp_all [eB]
def aFj:jA:=⟨0,⟨[],[]⟩,[],[]⟩
def vO (p:aP) (s:lF):jA:=⟨eB s.mode,s.to,p.addr.host,s.digest⟩
def Dw (p:aP) (m:dD):jA:=⟨5,m.to,p.addr.host,[]⟩
def sO (p:aP) (i:Int):jA:=match p.aF[i.toNat]? with
 |some s=>vO p s
 |none=>aFj
def FM (p:aP) (i:Int):jA:=match p.aX[i.toNat]? with
 |some s=>Dw p s
 |none=>aFj
theorem zU {α:Type} {l:List α} {i:Int} (h0:0<=i) (h1:i < l.length):∃s,l[i.toNat]? =some s:=⟨l[i.toNat]'(by omega),getElem?_eq_getElem _⟩
theorem V7 {α:Type} {l:List α} {k:Nat} {s:α} (h:k < l.length) (hg:l[k]? =some s):l[k]=s:=by
 rw [getElem?_eq_getElem h] at hg
 exact Option.some.inj hg
theorem FN [aD prog] (p:aP) (i:Int) (h0:0<=i) (h1:i < p.aF.length) (hl:p.aF.length<=1099511627776):Ok prog 275 [.agg (aM .view p),.int .i64 i] (.agg (jM (sO p i))):=by
 obtain ⟨s,hg⟩:=zU h0 h1
 have e:sO p i=vO p s:=by simp [sO,hg]
 rw [e]
 obtain rfl:p.aF[i.toNat]'(by omega)=s:=V7 (by omega) hg
 have c1:=iA i 0 (p.aF.length - 1)
 rw [show (decide (0<=i)&&decide (i<=(p.aF.length:Int) - 1))=true by simp;omega] at c1
 have c2:=Al (p.aF[i.toNat]'(by omega)).mode
 refine bR aAc func275 ntmps275 ?_
 have W:=aA hg (aA h0 h1)
 repeat' first|refine wl ?_|(refine sq ?_ ?_<;>intro hc<;>try exact hc.elim)|fail
 all_goals try(refine ⟨.inr rfl,?_⟩;simp [aB,results275,vO])
theorem FO [aD prog] (p:aP) (i:Int) (h0:0<=i) (h1:i < p.aF.length) (hl:p.aF.length<=1099511627776):Ok prog 279 [.agg (aM .view p),.int .i64 i] (.agg (jM (sO p i))):=by
 obtain ⟨s,hg⟩:=zU h0 h1
 have e:sO p i=vO p s:=by simp [sO,hg]
 rw [e]
 obtain rfl:p.aF[i.toNat]'(by omega)=s:=V7 (by omega) hg
 have c2:=Am (p.aF[i.toNat]'(by omega)).mode
 have n0:¬i < 0:=by omega
 have n1:¬(p.aF.length:Int)<=i:=by omega
 refine bR aAc func279 ntmps279 ?_
 have W:=aA hg (aA h0 (aA h1 (aA n0 n1)))
 repeat' first|refine wl ?_|(refine sq ?_ ?_<;>intro hc<;>try exact hc.elim)|fail
 all_goals try(refine ⟨.inr rfl,?_⟩;simp [aB,results279,vO])
theorem Ao [aD prog] (p:aP) (i:Int) (h0:0<=i) (h1:i < p.aX.length) (hl:p.aX.length<=1099511627776):Ok prog 301 [.agg (aM .view p),.int .i64 i] (.agg (jM (FM p i))):=by
 obtain ⟨s,hg⟩:=zU h0 h1
 have e:FM p i=Dw p s:=by simp [FM,hg]
 rw [e]
 obtain rfl:p.aX[i.toNat]'(by omega)=s:=V7 (by omega) hg
 have n0:¬i < 0:=by omega
 have n1:¬(p.aX.length:Int)<=i:=by omega
 refine bR aAc func301 ntmps301 ?_
 have W:=aA hg (aA h0 (aA h1 (aA n0 n1)))
 repeat' first|refine wl ?_|(refine sq ?_ ?_<;>intro hc<;>try exact hc.elim)|fail
 all_goals try(refine ⟨.inr rfl,?_⟩;simp [aB,results301,Dw])
def lT (s:lF):Bool:= !(decide (s.mode=2)&& !s.done)
theorem zF [aD prog] (p:aP) (hl:p.aF.length<=1099511627776):Ok prog 65 [.agg (aM .view p)] (.bool (p.aF.all lT)):=by
 refine bR aAc func65 ntmps65 ?_
 have W:=trivial
 repeat' first|refine wl ?_|(refine sq ?_ ?_<;>intro hc<;>try exact hc.elim)|fail
 refine aJ (ι:={k:Nat // k<=p.aF.length/\∀x∈p.aF.take k,lT x=true}) (fun t o i=>⟨aZ t [(3,.int .i64 i.1)],o⟩)
  (fun i=>p.aF.length - i.1) ⟨0,by simp⟩ (aI (by simp) (by simp)) ?_
 rintro ⟨k,hk,hpre⟩ K1 hK1
 simp only [aZ,set_cons_succ,set_cons_zero] at hK1⊢
 have hk1:i64.wrap ((k:Int)+1)=((k+1:Nat):Int):=by rw [wrap64]<;>omega
 by_cases hlt:k < p.aF.length
 ·have hg:=getElem?_eq_getElem hlt
  have W:=aA hk1 (aA hg hlt)
  repeat' first|refine wl ?_|(refine sq ?_ ?_<;>intro hc<;>try exact hc.elim)|fail
  all_goals first
   |(refine hK1 _ ⟨k+1,by omega,dS hlt hpre (by simp_all [lT])⟩ (aI (by simp) (by simp)) (by simp only;omega);done)
   |skip
  all_goals try(refine ⟨.inr rfl,?_⟩;simp [aB,results65])
  exact ⟨_,getElem_mem hlt,by simp_all [lT]⟩
 ·have W:=hk1
  repeat' first|refine wl ?_|(refine sq ?_ ?_<;>intro hc<;>try exact hc.elim)|fail
  all_goals try(refine ⟨.inr rfl,?_⟩;simp [aB,results65])
  exact lW (by omega) hpre
theorem zG [aD prog] (p:aP) (hl:p.aF.length<=1099511627776):Ok prog 83 [.agg (aM .view p)] (.bool (p.aF.all lT)):=by
 refine bR aAc func83 ntmps83 ?_
 have W:=trivial
 repeat' first|refine wl ?_|(refine sq ?_ ?_<;>intro hc<;>try exact hc.elim)|fail
 refine aJ (ι:={k:Nat // k<=p.aF.length/\∀x∈p.aF.take k,lT x=true}) (fun t o i=>⟨aZ t [(8,.int .i64 i.1)],o⟩)
  (fun i=>p.aF.length - i.1) ⟨0,by simp⟩ (aI (by simp) (by simp)) ?_
 rintro ⟨k,hk,hpre⟩ K1 hK1
 simp only [aZ,set_cons_succ,set_cons_zero] at hK1⊢
 have hk1:i64.wrap ((k:Int)+1)=((k+1:Nat):Int):=by rw [wrap64]<;>omega
 by_cases hlt:k < p.aF.length
 ·have hg:=getElem?_eq_getElem hlt
  have W:=aA hk1 (aA hg hlt)
  repeat' first|refine wl ?_|(refine sq ?_ ?_<;>intro hc<;>try exact hc.elim)|fail
  all_goals first
   |(refine hK1 _ ⟨k+1,by omega,dS hlt hpre (by simp_all [lT])⟩ (aS 1 rfl (by simp) (by simp) (by simp)) (by simp only;omega);done)
   |skip
  all_goals try(refine ⟨.inr rfl,?_⟩;simp [aB,results83])
  exact ⟨_,getElem_mem hlt,by simp_all [lT]⟩
 ·have W:=hk1
  repeat' first|refine wl ?_|(refine sq ?_ ?_<;>intro hc<;>try exact hc.elim)|fail
  all_goals try(refine ⟨.inr rfl,?_⟩;simp [aB,results83])
  exact lW (by omega) hpre
def Ce (n:Int) (s:bC) (x:eY):bC:=if x.parent=n/\x.name=[] then s++x.text else s
def zH (b:aW) (n:Int):bC:=b.nodes.foldl (Ce n) []
def Ht (b:aW) (n:Int) (k:Nat):bC:=(b.nodes.take k).foldl (Ce n) []
theorem Rz (b:aW) (n:Int) (k:Nat) (h:k < b.nodes.length):Ht b n (k+1)=Ce n (Ht b n k) b.nodes[k]:=by
 unfold Ht
 rw [take_succ_eq_append_getElem h,foldl_append];rfl
theorem YN (n:Int) (s:bC) (x:eY):(Ce n s x).length<=s.length+fU x:=by
 unfold Ce fU
 split
 ·simp only [length_append];omega
 ·omega
theorem X0 (n:Int):∀(l:List eY) (s:bC),(l.foldl (Ce n) s).length<=s.length+aO fU l
 |[],s=>by simp [aO]
 |x::l,s=>by
  have h1:=X0 n l (Ce n s x)
  have h2:=YN n s x
  simp only [foldl_cons,aO];omega
theorem vP {α:Type} (f:α->Nat):∀(l:List α) (k:Nat),aO f (l.take k)<=aO f l
 |[],k=>by simp [aO]
 |x::l,0=>by simp [aO]
 |x::l,k+1=>by have:=vP f l k;simp only [take_succ_cons,aO];omega
theorem Ob (b:aW) (n:Int) (k:Nat):(Ht b n k).length<=aH b:=by
 have h1:=X0 n (b.nodes.take k) []
 have h2:=vP fU b.nodes k
 unfold Ht
 simp only [aH,bP,length_nil] at *;omega
theorem Oc (b:aW) (n:Int):(zH b n).length<=aH b:=by
 have:=Ob b n b.nodes.length
 unfold Ht at this
 rwa [take_length] at this
theorem Qd [aD prog] (b:aW) (n:Int) (hs:aH b<=1099511627776):Ok prog 116 [.agg (aN .view b),.int .i64 n] (.str (zH b n)):=by
 have hN:b.nodes.length<=1099511627776:=by simp only [aH,bP] at hs;omega
 have hend:Ht b n b.nodes.length=zH b n:=by unfold Ht zH;rw [take_length]
 rw [<-hend]
 have hz:Ht b n 0=[]:=rfl
 have YJ:=fun k=>Ob b n k
 have hsu:=Rz b n
 generalize Ht b n=T at *
 clear hend
 refine bR aAc func116 ntmps116 ?_
 have W:=trivial
 repeat' first|refine wl ?_|(refine sq ?_ ?_<;>intro hc<;>try exact hc.elim)|fail
 refine aJ (ι:={k:Nat // k<=b.nodes.length}) (fun t o i=>⟨aZ t [(11,.int .i64 i.1),(5,.str (T i.1))],o⟩)
  (fun i=>b.nodes.length - i.1) ⟨0,by simp⟩ (aI (by simp) (by simp [hz])) ?_
 rintro ⟨k,hk⟩ K1 hK1
 simp only [aZ,set_cons_succ,set_cons_zero] at hK1⊢
 have hk1:i64.wrap ((k:Int)+1)=((k+1:Nat):Int):=by rw [wrap64]<;>omega
 by_cases hlt:k < b.nodes.length
 ·have hg:=getElem?_eq_getElem hlt
  have hnext:=hsu k hlt
  have hl1:=YJ (k+1)
  have hl0:=YJ k
  rw [hnext] at hl1
  unfold Ce at hnext hl1
  clear hsu YJ hz
  generalize hT:T k=s at *
  by_cases hp:b.nodes[k].parent=n
  ·by_cases hn:b.nodes[k].name=[]
   ·rw [if_pos ⟨hp,hn⟩] at hnext hl1
    rw [length_append] at hl1
    have aHp:s.length+b.nodes[k].text.length<=1099511627776:=by omega
    have W:=aA hk1 (aA hg (aA hlt (aA hp (aA hn aHp))))
    repeat' first|refine wl ?_|(refine sq ?_ ?_<;>intro hc<;>try exact hc.elim)|fail
    all_goals refine hK1 _ ⟨k+1,by omega⟩ (aS 1 rfl (by simp [hnext]) (by simp) (by simp)) (by simp only;omega)
   ·rw [if_neg (by simp [hn])] at hnext hl1
    have hne:b.nodes[k].name.isEmpty=false:=by cases hc:b.nodes[k].name with|nil=>exact absurd hc hn|cons _ _=>rfl
    have W:=aA hk1 (aA hg (aA hlt (aA hp (aA hn hne))))
    repeat' first|refine wl ?_|(refine sq ?_ ?_<;>intro hc<;>try exact hc.elim)|fail
    all_goals refine hK1 _ ⟨k+1,by omega⟩ (aS 1 rfl (by simp [hnext]) (by simp) (by simp)) (by simp only;omega)
  ·rw [if_neg (by simp [hp])] at hnext hl1
   have W:=aA hk1 (aA hg (aA hlt hp))
   repeat' first|refine wl ?_|(refine sq ?_ ?_<;>intro hc<;>try exact hc.elim)|fail
   all_goals refine hK1 _ ⟨k+1,by omega⟩ (aS 1 rfl (by simp [hnext]) (by simp) (by simp)) (by simp only;omega)
 ·have hkl:k=b.nodes.length:=by omega
  subst hkl
  have W:=hk1
  repeat' first|refine wl ?_|(refine sq ?_ ?_<;>intro hc<;>try exact hc.elim)|fail
  all_goals try(refine ⟨.inr rfl,?_⟩;simp [aB,results116])
theorem Qe [aD prog] (b:aW) (n:Int) (hs:aH b<=1099511627776):Ok prog 113 [.agg (aN .view b),.int .i64 n] (.str (zH b n)):=by
 have hN:b.nodes.length<=1099511627776:=by simp only [aH,bP] at hs;omega
 have hend:Ht b n b.nodes.length=zH b n:=by unfold Ht zH;rw [take_length]
 rw [<-hend]
 have hz:Ht b n 0=[]:=rfl
 have YJ:=fun k=>Ob b n k
 have hsu:=Rz b n
 generalize Ht b n=T at *
 clear hend
 refine bR aAc func113 ntmps113 ?_
 have W:=trivial
 repeat' first|refine wl ?_|(refine sq ?_ ?_<;>intro hc<;>try exact hc.elim)|fail
 refine aJ (ι:={k:Nat // k<=b.nodes.length}) (fun t o i=>⟨aZ t [(6,.int .i64 i.1),(5,.str (T i.1))],o⟩)
  (fun i=>b.nodes.length - i.1) ⟨0,by simp⟩ (aI (by simp) (by simp [hz])) ?_
 rintro ⟨k,hk⟩ K1 hK1
 simp only [aZ,set_cons_succ,set_cons_zero] at hK1⊢
 have hk1:i64.wrap ((k:Int)+1)=((k+1:Nat):Int):=by rw [wrap64]<;>omega
 by_cases hlt:k < b.nodes.length
 ·have hg:=getElem?_eq_getElem hlt
  have hnext:=hsu k hlt
  have hl1:=YJ (k+1)
  have hl0:=YJ k
  rw [hnext] at hl1
  unfold Ce at hnext hl1
  clear hsu YJ hz
  generalize hT:T k=s at *
  by_cases hp:b.nodes[k].parent=n
  ·by_cases hn:b.nodes[k].name=[]
   ·rw [if_pos ⟨hp,hn⟩] at hnext hl1
    rw [length_append] at hl1
    have aHp:s.length+b.nodes[k].text.length<=1099511627776:=by omega
    have W:=aA hk1 (aA hg (aA hlt (aA hp (aA hn aHp))))
    repeat' first|refine wl ?_|(refine sq ?_ ?_<;>intro hc<;>try exact hc.elim)|fail
    all_goals refine hK1 _ ⟨k+1,by omega⟩ (aI (by simp) (by simp [hnext])) (by simp only;omega)
   ·rw [if_neg (by simp [hn])] at hnext hl1
    have hne:b.nodes[k].name.isEmpty=false:=by cases hc:b.nodes[k].name with|nil=>exact absurd hc hn|cons _ _=>rfl
    have W:=aA hk1 (aA hg (aA hlt (aA hp (aA hn hne))))
    repeat' first|refine wl ?_|(refine sq ?_ ?_<;>intro hc<;>try exact hc.elim)|fail
    all_goals refine hK1 _ ⟨k+1,by omega⟩ (aI (by simp) (by simp [hnext])) (by simp only;omega)
  ·rw [if_neg (by simp [hp])] at hnext hl1
   have W:=aA hk1 (aA hg (aA hlt hp))
   repeat' first|refine wl ?_|(refine sq ?_ ?_<;>intro hc<;>try exact hc.elim)|fail
   all_goals refine hK1 _ ⟨k+1,by omega⟩ (aI (by simp) (by simp [hnext])) (by simp only;omega)
 ·have hkl:k=b.nodes.length:=by omega
  subst hkl
  have W:=hk1
  repeat' first|refine wl ?_|(refine sq ?_ ?_<;>intro hc<;>try exact hc.elim)|fail
  all_goals try(refine ⟨.inr rfl,?_⟩;simp [aB,results113])
end Go.Proofs.YtlnblmmohpcceaaGreatDoor
