/-
  Proved here: steps towards the statement of this claim, text QN1.
  No condition beyond what each statement spells out.
-/
import Derived.Test.YtlnblmmohpcceaaGreatDoorQMK6
import Derived.Test.YtlnblmmohpcceaaGreatDoorF3
import Derived.Test.YtlnblmmohpcceaaGreatDoorF6
import Derived.Test.YtlnblmmohpcceaaGreatDoorQD1
import Derived.Test.YtlnblmmohpcceaaGreatDoorQRLsc
set_option linter.all false
set_option maxRecDepth 4000
set_option maxHeartbeats 4000000
namespace Go.Proofs.YtlnblmmohpcceaaGreatDoor
open Go.Aw
def places {α:Type} (f:α→Bool):Nat→List α→List Int
 |_,[]=>[]
 |i,x::xs=>if f x then (i:Int)::places f (i+1) xs else places f (i+1) xs
theorem aHz {α:Type} (f:α→Bool) (x:α):∀(l:List α) (i:Nat),places f i (l++[x])=places f i l++(if f x then [((i+l.length:Nat):Int)] else [])
 |[],i=>by simp only [List.nil_append,places];cases f x<;>simp
 |y::ys,i=>by
  simp only [List.cons_append,places]
  rw [aHz f x ys (i+1)]
  have:i+1+ys.length=i+(y::ys).length:=by simp;omega
  rw [this]
  cases f y<;>simp
theorem rY {α:Type} (f:α→Bool) (l:List α) (k:Nat) (h:k < l.length):places f 0 (l.take (k+1))=places f 0 (l.take k)++(if f l[k] then [(k:Int)] else []):=by
 rw [List.take_succ_eq_append_getElem h,aHz]
 have:(l.take k).length=k:=by simp;omega
 rw [this,Nat.zero_add]
theorem kZ {α:Type} (f:α→Bool):∀(l:List α) (i:Nat),(places f i l).length≤l.length
 |[],_=>by simp [places]
 |x::xs,i=>by
  simp only [places]
  have:=kZ f xs (i+1)
  cases f x<;>simp<;>omega
def mO (s:gP):Bool:= !s.done
def mI (s:cZ):Bool:= !s.done
def fO (s:gP):Bool:=s.mode == 4
theorem aIm [aA Tryz.prog] (p:aJ) (hl:p.slots.length≤16777216):Ok Tryz.prog 69 [.agg (aG .view p)] (.sl .own 1 ((places mO 0 p.slots).map dV)):=by
 refine ent Tryz.mix Tryz.func69 Tryz.ntmps69 ?_
 have W:=trivial
 repeat' first|refine wl ?_|(refine sq (fun hc=>?_) (fun hc=>?_)<;>try exact hc.elim)|fail
 refine aM (ι:={q:Nat×Nat // q.1≤p.slots.length∧1≤q.2}) (fun t o i=>⟨aO t [(3,.obj 1 i.1.2),(4,.int .i64 i.1.1)],o.take 1++[⟨true,false,1,i.1.2,(places mO 0 (p.slots.take i.1.1)).map dV⟩]⟩)
  (fun i=>p.slots.length - i.1.1) ⟨(0,1),by simp,by simp⟩ (aH (by simp [places]) (by simp)) ?_
 rintro ⟨⟨k,v⟩,hk,hv⟩ K1 hK1
 simp only at hk hv
 simp only [aO,List.set_cons_succ,List.set_cons_zero,List.take_succ_cons,List.take_zero,List.cons_append,List.nil_append] at hK1⊢
 have hk1:IntKind.i64.wrap ((k:Int)+1)=((k+1:Nat):Int):=by rw [wrap64]<;>omega
 by_cases hlt:k < p.slots.length
 ·have hg:=List.getElem?_eq_getElem hlt
  have hps:=rY mO p.slots k hlt
  have hpl:=kZ mO (p.slots.take k) 0
  have htl:(p.slots.take k).length=k:=by simp;omega
  have hb1:((places mO 0 (p.slots.take k)).length+1) * 8≤140737488355328:=by omega
  have hb2:(places mO 0 (p.slots.take k)).length+1≤9223372036854775807:=by omega
  have hb3:(places mO 0 (p.slots.take k)).length≤9223372036854775806:=by omega
  have W:=And.intro hk1 (And.intro hg (And.intro hlt (And.intro hb1 (And.intro hb2 hb3))))
  repeat' first|refine wl ?_|(refine sq (fun hc=>?_) (fun hc=>?_)<;>try exact hc.elim)|fail
  ·refine hK1 _ ⟨(k+1,v+1),by simp only;omega,by simp only;omega⟩ (aQ 2 (by simp [hps,mO,hc]) (by simp) (by simp) (by simp)) (by simp only;omega)
  ·refine hK1 _ ⟨(k+1,v),by simp only;omega,hv⟩ (aQ 2 (by simp [hps,mO,hc]) (by simp) (by simp) (by simp)) (by simp only;omega)
 ·have htk:p.slots.take k=p.slots:=List.take_of_length_le (by omega)
  rw [htk]
  have W:=hk1
  repeat' first|refine wl ?_|(refine sq (fun hc=>?_) (fun hc=>?_)<;>try exact hc.elim)|fail
  all_goals (try (refine ⟨.inr rfl,?_⟩;simp [Hands,Tryz.results69]))
theorem aIu [aA Tryz.prog] (p:aJ) (hl:p.slots.length≤16777216):Ok Tryz.prog 87 [.agg (aG .view p)] (.sl .own 1 ((places mO 0 p.slots).map dV)):=by
 refine ent Tryz.mix Tryz.func87 Tryz.ntmps87 ?_
 have W:=trivial
 repeat' first|refine wl ?_|(refine sq (fun hc=>?_) (fun hc=>?_)<;>try exact hc.elim)|fail
 refine aM (ι:={q:Nat×Nat // q.1≤p.slots.length∧1≤q.2}) (fun t o i=>⟨aO t [(3,.obj 1 i.1.2),(10,.int .i64 i.1.1)],o.take 1++[⟨true,false,1,i.1.2,(places mO 0 (p.slots.take i.1.1)).map dV⟩]⟩)
  (fun i=>p.slots.length - i.1.1) ⟨(0,1),by simp,by simp⟩ (aH (by simp [places]) (by simp)) ?_
 rintro ⟨⟨k,v⟩,hk,hv⟩ K1 hK1
 simp only at hk hv
 simp only [aO,List.set_cons_succ,List.set_cons_zero,List.take_succ_cons,List.take_zero,List.cons_append,List.nil_append] at hK1⊢
 have hk1:IntKind.i64.wrap ((k:Int)+1)=((k+1:Nat):Int):=by rw [wrap64]<;>omega
 by_cases hlt:k < p.slots.length
 ·have hg:=List.getElem?_eq_getElem hlt
  have hps:=rY mO p.slots k hlt
  have hpl:=kZ mO (p.slots.take k) 0
  have htl:(p.slots.take k).length=k:=by simp;omega
  have hb1:((places mO 0 (p.slots.take k)).length+1) * 8≤140737488355328:=by omega
  have hb2:(places mO 0 (p.slots.take k)).length+1≤9223372036854775807:=by omega
  have hb3:(places mO 0 (p.slots.take k)).length≤9223372036854775806:=by omega
  have W:=And.intro hk1 (And.intro hg (And.intro hlt (And.intro hb1 (And.intro hb2 hb3))))
  repeat' first|refine wl ?_|(refine sq (fun hc=>?_) (fun hc=>?_)<;>try exact hc.elim)|fail
  ·refine hK1 _ ⟨(k+1,v+1),by simp only;omega,by simp only;omega⟩ (aQ 2 (by simp [hps,mO,hc]) (by simp) (by simp) (by simp)) (by simp only;omega)
  ·refine hK1 _ ⟨(k+1,v),by simp only;omega,hv⟩ (aQ 2 (by simp [hps,mO,hc]) (by simp) (by simp) (by simp)) (by simp only;omega)
 ·have htk:p.slots.take k=p.slots:=List.take_of_length_le (by omega)
  rw [htk]
  have W:=hk1
  repeat' first|refine wl ?_|(refine sq (fun hc=>?_) (fun hc=>?_)<;>try exact hc.elim)|fail
  all_goals (try (refine ⟨.inr rfl,?_⟩;simp [Hands,Tryz.results87]))
theorem aKz [aA Tryz.prog] (p:aJ) (hl:p.mods.length≤16777216):Ok Tryz.prog 70 [.agg (aG .view p)] (.sl .own 1 ((places mI 0 p.mods).map dV)):=by
 refine ent Tryz.mix Tryz.func70 Tryz.ntmps70 ?_
 have W:=trivial
 repeat' first|refine wl ?_|(refine sq (fun hc=>?_) (fun hc=>?_)<;>try exact hc.elim)|fail
 refine aM (ι:={q:Nat×Nat // q.1≤p.mods.length∧1≤q.2}) (fun t o i=>⟨aO t [(3,.obj 1 i.1.2),(4,.int .i64 i.1.1)],o.take 1++[⟨true,false,1,i.1.2,(places mI 0 (p.mods.take i.1.1)).map dV⟩]⟩)
  (fun i=>p.mods.length - i.1.1) ⟨(0,1),by simp,by simp⟩ (aH (by simp [places]) (by simp)) ?_
 rintro ⟨⟨k,v⟩,hk,hv⟩ K1 hK1
 simp only at hk hv
 simp only [aO,List.set_cons_succ,List.set_cons_zero,List.take_succ_cons,List.take_zero,List.cons_append,List.nil_append] at hK1⊢
 have hk1:IntKind.i64.wrap ((k:Int)+1)=((k+1:Nat):Int):=by rw [wrap64]<;>omega
 by_cases hlt:k < p.mods.length
 ·have hg:=List.getElem?_eq_getElem hlt
  have hps:=rY mI p.mods k hlt
  have hpl:=kZ mI (p.mods.take k) 0
  have htl:(p.mods.take k).length=k:=by simp;omega
  have hb1:((places mI 0 (p.mods.take k)).length+1) * 8≤140737488355328:=by omega
  have hb2:(places mI 0 (p.mods.take k)).length+1≤9223372036854775807:=by omega
  have hb3:(places mI 0 (p.mods.take k)).length≤9223372036854775806:=by omega
  have W:=And.intro hk1 (And.intro hg (And.intro hlt (And.intro hb1 (And.intro hb2 hb3))))
  repeat' first|refine wl ?_|(refine sq (fun hc=>?_) (fun hc=>?_)<;>try exact hc.elim)|fail
  ·refine hK1 _ ⟨(k+1,v+1),by simp only;omega,by simp only;omega⟩ (aQ 2 (by simp [hps,mI,hc]) (by simp) (by simp) (by simp)) (by simp only;omega)
  ·refine hK1 _ ⟨(k+1,v),by simp only;omega,hv⟩ (aQ 2 (by simp [hps,mI,hc]) (by simp) (by simp) (by simp)) (by simp only;omega)
 ·have htk:p.mods.take k=p.mods:=List.take_of_length_le (by omega)
  rw [htk]
  have W:=hk1
  repeat' first|refine wl ?_|(refine sq (fun hc=>?_) (fun hc=>?_)<;>try exact hc.elim)|fail
  all_goals (try (refine ⟨.inr rfl,?_⟩;simp [Hands,Tryz.results70]))
theorem aK0 [aA Tryz.prog] (p:aJ) (hl:p.mods.length≤16777216):Ok Tryz.prog 88 [.agg (aG .view p)] (.sl .own 1 ((places mI 0 p.mods).map dV)):=by
 refine ent Tryz.mix Tryz.func88 Tryz.ntmps88 ?_
 have W:=trivial
 repeat' first|refine wl ?_|(refine sq (fun hc=>?_) (fun hc=>?_)<;>try exact hc.elim)|fail
 refine aM (ι:={q:Nat×Nat // q.1≤p.mods.length∧1≤q.2}) (fun t o i=>⟨aO t [(3,.obj 1 i.1.2),(10,.int .i64 i.1.1)],o.take 1++[⟨true,false,1,i.1.2,(places mI 0 (p.mods.take i.1.1)).map dV⟩]⟩)
  (fun i=>p.mods.length - i.1.1) ⟨(0,1),by simp,by simp⟩ (aH (by simp [places]) (by simp)) ?_
 rintro ⟨⟨k,v⟩,hk,hv⟩ K1 hK1
 simp only at hk hv
 simp only [aO,List.set_cons_succ,List.set_cons_zero,List.take_succ_cons,List.take_zero,List.cons_append,List.nil_append] at hK1⊢
 have hk1:IntKind.i64.wrap ((k:Int)+1)=((k+1:Nat):Int):=by rw [wrap64]<;>omega
 by_cases hlt:k < p.mods.length
 ·have hg:=List.getElem?_eq_getElem hlt
  have hps:=rY mI p.mods k hlt
  have hpl:=kZ mI (p.mods.take k) 0
  have htl:(p.mods.take k).length=k:=by simp;omega
  have hb1:((places mI 0 (p.mods.take k)).length+1) * 8≤140737488355328:=by omega
  have hb2:(places mI 0 (p.mods.take k)).length+1≤9223372036854775807:=by omega
  have hb3:(places mI 0 (p.mods.take k)).length≤9223372036854775806:=by omega
  have W:=And.intro hk1 (And.intro hg (And.intro hlt (And.intro hb1 (And.intro hb2 hb3))))
  repeat' first|refine wl ?_|(refine sq (fun hc=>?_) (fun hc=>?_)<;>try exact hc.elim)|fail
  ·refine hK1 _ ⟨(k+1,v+1),by simp only;omega,by simp only;omega⟩ (aQ 2 (by simp [hps,mI,hc]) (by simp) (by simp) (by simp)) (by simp only;omega)
  ·refine hK1 _ ⟨(k+1,v),by simp only;omega,hv⟩ (aQ 2 (by simp [hps,mI,hc]) (by simp) (by simp) (by simp)) (by simp only;omega)
 ·have htk:p.mods.take k=p.mods:=List.take_of_length_le (by omega)
  rw [htk]
  have W:=hk1
  repeat' first|refine wl ?_|(refine sq (fun hc=>?_) (fun hc=>?_)<;>try exact hc.elim)|fail
  all_goals (try (refine ⟨.inr rfl,?_⟩;simp [Hands,Tryz.results88]))
theorem aD8 [aA Tryz.prog] (p:aJ) (hl:p.slots.length≤16777216):Ok Tryz.prog 64 [.agg (aG .view p)] (.sl .own 1 ((places fO 0 p.slots).map dV)):=by
 refine ent Tryz.mix Tryz.func64 Tryz.ntmps64 ?_
 have W:=trivial
 repeat' first|refine wl ?_|(refine sq (fun hc=>?_) (fun hc=>?_)<;>try exact hc.elim)|fail
 refine aM (ι:={q:Nat×Nat // q.1≤p.slots.length∧1≤q.2}) (fun t o i=>⟨aO t [(3,.obj 1 i.1.2),(4,.int .i64 i.1.1)],o.take 1++[⟨true,false,1,i.1.2,(places fO 0 (p.slots.take i.1.1)).map dV⟩]⟩)
  (fun i=>p.slots.length - i.1.1) ⟨(0,1),by simp,by simp⟩ (aH (by simp [places]) (by simp)) ?_
 rintro ⟨⟨k,v⟩,hk,hv⟩ K1 hK1
 simp only at hk hv
 simp only [aO,List.set_cons_succ,List.set_cons_zero,List.take_succ_cons,List.take_zero,List.cons_append,List.nil_append] at hK1⊢
 have hk1:IntKind.i64.wrap ((k:Int)+1)=((k+1:Nat):Int):=by rw [wrap64]<;>omega
 by_cases hlt:k < p.slots.length
 ·have hg:=List.getElem?_eq_getElem hlt
  have hps:=rY fO p.slots k hlt
  have hpl:=kZ fO (p.slots.take k) 0
  have htl:(p.slots.take k).length=k:=by simp;omega
  have hb1:((places fO 0 (p.slots.take k)).length+1) * 8≤140737488355328:=by omega
  have hb2:(places fO 0 (p.slots.take k)).length+1≤9223372036854775807:=by omega
  have hb3:(places fO 0 (p.slots.take k)).length≤9223372036854775806:=by omega
  have W:=And.intro hk1 (And.intro hg (And.intro hlt (And.intro hb1 (And.intro hb2 hb3))))
  repeat' first|refine wl ?_|(refine sq (fun hc=>?_) (fun hc=>?_)<;>try exact hc.elim)|fail
  ·refine hK1 _ ⟨(k+1,v+1),by simp only;omega,by simp only;omega⟩ (aQ 2 (by simp [hps,fO,hc]) (by simp) (by simp) (by simp)) (by simp only;omega)
  ·refine hK1 _ ⟨(k+1,v),by simp only;omega,hv⟩ (aQ 2 (by simp [hps,fO,hc]) (by simp) (by simp) (by simp)) (by simp only;omega)
 ·have htk:p.slots.take k=p.slots:=List.take_of_length_le (by omega)
  rw [htk]
  have W:=hk1
  repeat' first|refine wl ?_|(refine sq (fun hc=>?_) (fun hc=>?_)<;>try exact hc.elim)|fail
  all_goals (try (refine ⟨.inr rfl,?_⟩;simp [Hands,Tryz.results64]))
theorem aDn [aA Tryz.prog] (p:aJ) (hl:p.slots.length≤16777216):Ok Tryz.prog 82 [.agg (aG .view p)] (.sl .own 1 ((places fO 0 p.slots).map dV)):=by
 refine ent Tryz.mix Tryz.func82 Tryz.ntmps82 ?_
 have W:=trivial
 repeat' first|refine wl ?_|(refine sq (fun hc=>?_) (fun hc=>?_)<;>try exact hc.elim)|fail
 refine aM (ι:={q:Nat×Nat // q.1≤p.slots.length∧1≤q.2}) (fun t o i=>⟨aO t [(3,.obj 1 i.1.2),(10,.int .i64 i.1.1)],o.take 1++[⟨true,false,1,i.1.2,(places fO 0 (p.slots.take i.1.1)).map dV⟩]⟩)
  (fun i=>p.slots.length - i.1.1) ⟨(0,1),by simp,by simp⟩ (aH (by simp [places]) (by simp)) ?_
 rintro ⟨⟨k,v⟩,hk,hv⟩ K1 hK1
 simp only at hk hv
 simp only [aO,List.set_cons_succ,List.set_cons_zero,List.take_succ_cons,List.take_zero,List.cons_append,List.nil_append] at hK1⊢
 have hk1:IntKind.i64.wrap ((k:Int)+1)=((k+1:Nat):Int):=by rw [wrap64]<;>omega
 by_cases hlt:k < p.slots.length
 ·have hg:=List.getElem?_eq_getElem hlt
  have hps:=rY fO p.slots k hlt
  have hpl:=kZ fO (p.slots.take k) 0
  have htl:(p.slots.take k).length=k:=by simp;omega
  have hb1:((places fO 0 (p.slots.take k)).length+1) * 8≤140737488355328:=by omega
  have hb2:(places fO 0 (p.slots.take k)).length+1≤9223372036854775807:=by omega
  have hb3:(places fO 0 (p.slots.take k)).length≤9223372036854775806:=by omega
  have W:=And.intro hk1 (And.intro hg (And.intro hlt (And.intro hb1 (And.intro hb2 hb3))))
  repeat' first|refine wl ?_|(refine sq (fun hc=>?_) (fun hc=>?_)<;>try exact hc.elim)|fail
  ·refine hK1 _ ⟨(k+1,v+1),by simp only;omega,by simp only;omega⟩ (aQ 2 (by simp [hps,fO,hc]) (by simp) (by simp) (by simp)) (by simp only;omega)
  ·refine hK1 _ ⟨(k+1,v),by simp only;omega,hv⟩ (aQ 2 (by simp [hps,fO,hc]) (by simp) (by simp) (by simp)) (by simp only;omega)
 ·have htk:p.slots.take k=p.slots:=List.take_of_length_le (by omega)
  rw [htk]
  have W:=hk1
  repeat' first|refine wl ?_|(refine sq (fun hc=>?_) (fun hc=>?_)<;>try exact hc.elim)|fail
  all_goals (try (refine ⟨.inr rfl,?_⟩;simp [Hands,Tryz.results82]))
def dR (m:Int):Int:=if m=1 then 4 else if m=2 then 3 else if m=3 then 2 else if m=4 then 2 else 0
theorem zK [aA Tryz.prog] (m:Int):Ok Tryz.prog 273 [.int .i64 m] (.int .i64 (dR m)):=by
 refine ent Tryz.mix Tryz.func273 Tryz.ntmps273 ?_
 have W:=trivial
 repeat' first|refine wl ?_|(refine sq (fun hc=>?_) (fun hc=>?_)<;>try exact hc.elim)|fail
 all_goals (try (refine ⟨.inr rfl,?_⟩;simp [Hands,Tryz.results273,dR]))
 all_goals simp_all [dR]
theorem zM [aA Tryz.prog] (m:Int):Ok Tryz.prog 277 [.int .i64 m] (.int .i64 (dR m)):=by
 refine ent Tryz.mix Tryz.func277 Tryz.ntmps277 ?_
 have W:=trivial
 repeat' first|refine wl ?_|(refine sq (fun hc=>?_) (fun hc=>?_)<;>try exact hc.elim)|fail
 all_goals (try (refine ⟨.inr rfl,?_⟩;simp [Hands,Tryz.results277,dR]))
 all_goals simp_all [dR]
def bCs:gY:=⟨0,⟨[],[]⟩,[],[]⟩
def sS (p:aJ) (s:gP):gY:=⟨dR s.mode,s.to,p.addr.host,s.digest⟩
def aAr (p:aJ) (m:cZ):gY:=⟨5,m.to,p.addr.host,[]⟩
def oO (p:aJ) (i:Int):gY:=match p.slots[i.toNat]? with
 |some s=>sS p s
 |none=>bCs
def aA4 (p:aJ) (i:Int):gY:=match p.mods[i.toNat]? with
 |some s=>aAr p s
 |none=>bCs
theorem vY {α:Type} {l:List α} {i:Int} (h0:0≤i) (h1:i < l.length):∃s,l[i.toNat]? =some s:=⟨l[i.toNat]'(by omega),List.getElem?_eq_getElem _⟩
theorem at_eq {α:Type} {l:List α} {k:Nat} {s:α} (h:k < l.length) (hg:l[k]? =some s):l[k]=s:=by
 rw [List.getElem?_eq_getElem h] at hg
 exact Option.some.inj hg
theorem aFw [aA Tryz.prog] (p:aJ) (i:Int) (h0:0≤i) (h1:i < p.slots.length) (hl:p.slots.length≤1099511627776):Ok Tryz.prog 275 [.agg (aG .view p),.int .i64 i] (.agg (iJ (oO p i))):=by
 obtain ⟨s,hg⟩:=vY h0 h1
 have e:oO p i=sS p s:=by simp [oO,hg]
 rw [e]
 obtain rfl:p.slots[i.toNat]'(by omega)=s:=at_eq (by omega) hg
 have c1:=gM i 0 (p.slots.length - 1)
 rw [show (decide (0≤i)&&decide (i≤(p.slots.length:Int) - 1))=true by simp;omega] at c1
 have c2:=zK (p.slots[i.toNat]'(by omega)).mode
 refine ent Tryz.mix Tryz.func275 Tryz.ntmps275 ?_
 have W:=And.intro hg (And.intro h0 h1)
 repeat' first|refine wl ?_|(refine sq (fun hc=>?_) (fun hc=>?_)<;>try exact hc.elim)|fail
 all_goals (try (refine ⟨.inr rfl,?_⟩;simp [Hands,Tryz.results275,sS]))
theorem aE7 [aA Tryz.prog] (p:aJ) (i:Int) (h0:0≤i) (h1:i < p.slots.length) (hl:p.slots.length≤1099511627776):Ok Tryz.prog 279 [.agg (aG .view p),.int .i64 i] (.agg (iJ (oO p i))):=by
 obtain ⟨s,hg⟩:=vY h0 h1
 have e:oO p i=sS p s:=by simp [oO,hg]
 rw [e]
 obtain rfl:p.slots[i.toNat]'(by omega)=s:=at_eq (by omega) hg
 have c2:=zM (p.slots[i.toNat]'(by omega)).mode
 have n0:¬i < 0:=by omega
 have n1:¬(p.slots.length:Int)≤i:=by omega
 refine ent Tryz.mix Tryz.func279 Tryz.ntmps279 ?_
 have W:=And.intro hg (And.intro h0 (And.intro h1 (And.intro n0 n1)))
 repeat' first|refine wl ?_|(refine sq (fun hc=>?_) (fun hc=>?_)<;>try exact hc.elim)|fail
 all_goals (try (refine ⟨.inr rfl,?_⟩;simp [Hands,Tryz.results279,sS]))
theorem zN [aA Tryz.prog] (p:aJ) (i:Int) (h0:0≤i) (h1:i < p.mods.length) (hl:p.mods.length≤1099511627776):Ok Tryz.prog 301 [.agg (aG .view p),.int .i64 i] (.agg (iJ (aA4 p i))):=by
 obtain ⟨s,hg⟩:=vY h0 h1
 have e:aA4 p i=aAr p s:=by simp [aA4,hg]
 rw [e]
 obtain rfl:p.mods[i.toNat]'(by omega)=s:=at_eq (by omega) hg
 have n0:¬i < 0:=by omega
 have n1:¬(p.mods.length:Int)≤i:=by omega
 refine ent Tryz.mix Tryz.func301 Tryz.ntmps301 ?_
 have W:=And.intro hg (And.intro h0 (And.intro h1 (And.intro n0 n1)))
 repeat' first|refine wl ?_|(refine sq (fun hc=>?_) (fun hc=>?_)<;>try exact hc.elim)|fail
 all_goals (try (refine ⟨.inr rfl,?_⟩;simp [Hands,Tryz.results301,aAr]))
def jR (s:gP):Bool:= !(decide (s.mode=2)&& !s.done)
theorem zF [aA Tryz.prog] (p:aJ) (hl:p.slots.length≤1099511627776):Ok Tryz.prog 65 [.agg (aG .view p)] (.bool (p.slots.all jR)):=by
 refine ent Tryz.mix Tryz.func65 Tryz.ntmps65 ?_
 have W:=trivial
 repeat' first|refine wl ?_|(refine sq (fun hc=>?_) (fun hc=>?_)<;>try exact hc.elim)|fail
 refine aM (ι:={k:Nat // k≤p.slots.length∧∀x∈p.slots.take k,jR x=true}) (fun t o i=>⟨aO t [(3,.int .i64 i.1)],o⟩)
  (fun i=>p.slots.length - i.1) ⟨0,by simp⟩ (aH (by simp) (by simp)) ?_
 rintro ⟨k,hk,hpre⟩ K1 hK1
 simp only [aO,List.set_cons_succ,List.set_cons_zero] at hK1⊢
 have hk1:IntKind.i64.wrap ((k:Int)+1)=((k+1:Nat):Int):=by rw [wrap64]<;>omega
 by_cases hlt:k < p.slots.length
 ·have hg:=List.getElem?_eq_getElem hlt
  have W:=And.intro hk1 (And.intro hg hlt)
  repeat' first|refine wl ?_|(refine sq (fun hc=>?_) (fun hc=>?_)<;>try exact hc.elim)|fail
  all_goals first
   |(refine hK1 _ ⟨k+1,by omega,dP hlt hpre (by simp_all [jR])⟩ (aH (by simp) (by simp)) (by simp only;omega);done)
   |skip
  all_goals (try (refine ⟨.inr rfl,?_⟩;simp [Hands,Tryz.results65]))
  exact ⟨_,List.getElem_mem hlt,by simp_all [jR]⟩
 ·have W:=hk1
  repeat' first|refine wl ?_|(refine sq (fun hc=>?_) (fun hc=>?_)<;>try exact hc.elim)|fail
  all_goals (try (refine ⟨.inr rfl,?_⟩;simp [Hands,Tryz.results65]))
  exact kG (by omega) hpre
theorem yQ [aA Tryz.prog] (p:aJ) (hl:p.slots.length≤1099511627776):Ok Tryz.prog 83 [.agg (aG .view p)] (.bool (p.slots.all jR)):=by
 refine ent Tryz.mix Tryz.func83 Tryz.ntmps83 ?_
 have W:=trivial
 repeat' first|refine wl ?_|(refine sq (fun hc=>?_) (fun hc=>?_)<;>try exact hc.elim)|fail
 refine aM (ι:={k:Nat // k≤p.slots.length∧∀x∈p.slots.take k,jR x=true}) (fun t o i=>⟨aO t [(8,.int .i64 i.1)],o⟩)
  (fun i=>p.slots.length - i.1) ⟨0,by simp⟩ (aH (by simp) (by simp)) ?_
 rintro ⟨k,hk,hpre⟩ K1 hK1
 simp only [aO,List.set_cons_succ,List.set_cons_zero] at hK1⊢
 have hk1:IntKind.i64.wrap ((k:Int)+1)=((k+1:Nat):Int):=by rw [wrap64]<;>omega
 by_cases hlt:k < p.slots.length
 ·have hg:=List.getElem?_eq_getElem hlt
  have W:=And.intro hk1 (And.intro hg hlt)
  repeat' first|refine wl ?_|(refine sq (fun hc=>?_) (fun hc=>?_)<;>try exact hc.elim)|fail
  all_goals first
   |(refine hK1 _ ⟨k+1,by omega,dP hlt hpre (by simp_all [jR])⟩ (aQ 1 rfl (by simp) (by simp) (by simp)) (by simp only;omega);done)
   |skip
  all_goals (try (refine ⟨.inr rfl,?_⟩;simp [Hands,Tryz.results83]))
  exact ⟨_,List.getElem_mem hlt,by simp_all [jR]⟩
 ·have W:=hk1
  repeat' first|refine wl ?_|(refine sq (fun hc=>?_) (fun hc=>?_)<;>try exact hc.elim)|fail
  all_goals (try (refine ⟨.inr rfl,?_⟩;simp [Hands,Tryz.results83]))
  exact kG (by omega) hpre
def wU (n:Int) (s:Str) (x:dA):Str:=if x.parent=n∧x.name=[] then s++x.text else s
def textOf (b:aS) (n:Int):Str:=b.nodes.foldl (wU n) []
def wY (b:aS) (n:Int) (k:Nat):Str:=(b.nodes.take k).foldl (wU n) []
theorem aN5 (b:aS) (n:Int) (k:Nat) (h:k < b.nodes.length):wY b n (k+1)=wU n (wY b n k) b.nodes[k]:=by
 unfold wY
 rw [List.take_succ_eq_append_getElem h,List.foldl_append];rfl
theorem aXj (n:Int) (s:Str) (x:dA):(wU n s x).length≤s.length+dW x:=by
 unfold wU dW
 split
 ·simp only [List.length_append];omega
 ·omega
theorem aZf (n:Int):∀(l:List dA) (s:Str),(l.foldl (wU n) s).length≤s.length+aC dW l
 |[],s=>by simp [aC]
 |x::l,s=>by
  have h1:=aZf n l (wU n s x)
  have h2:=aXj n s x
  simp only [List.foldl_cons,aC];omega
theorem wR {α:Type} (f:α→Nat):∀(l:List α) (k:Nat),aC f (l.take k)≤aC f l
 |[],k=>by simp [aC]
 |x::l,0=>by simp [aC]
 |x::l,k+1=>by have:=wR f l k;simp only [List.take_succ_cons,aC];omega
theorem aIn (b:aS) (n:Int) (k:Nat):(wY b n k).length≤aI b:=by
 have h1:=aZf n (b.nodes.take k) []
 have h2:=wR dW b.nodes k
 unfold wY
 simp only [aI,szL,List.length_nil] at *;omega
theorem aJk (b:aS) (n:Int):(textOf b n).length≤aI b:=by
 have:=aIn b n b.nodes.length
 unfold wY at this
 rwa [List.take_length] at this
theorem aOv [aA Tryz.prog] (b:aS) (n:Int) (hs:aI b≤1099511627776):Ok Tryz.prog 116 [.agg (aL .view b),.int .i64 n] (.str (textOf b n)):=by
 have hN:b.nodes.length≤1099511627776:=by simp only [aI,szL] at hs;omega
 have hend:wY b n b.nodes.length=textOf b n:=by unfold wY textOf;rw [List.take_length]
 rw [←hend]
 have hz:wY b n 0=[]:=rfl
 have hln:=fun k=>aIn b n k
 have hsu:=aN5 b n
 generalize wY b n=T at *
 clear hend
 refine ent Tryz.mix Tryz.func116 Tryz.ntmps116 ?_
 have W:=trivial
 repeat' first|refine wl ?_|(refine sq (fun hc=>?_) (fun hc=>?_)<;>try exact hc.elim)|fail
 refine aM (ι:={k:Nat // k≤b.nodes.length}) (fun t o i=>⟨aO t [(11,.int .i64 i.1),(5,.str (T i.1))],o⟩)
  (fun i=>b.nodes.length - i.1) ⟨0,by simp⟩ (aH (by simp) (by simp [hz])) ?_
 rintro ⟨k,hk⟩ K1 hK1
 simp only [aO,List.set_cons_succ,List.set_cons_zero] at hK1⊢
 have hk1:IntKind.i64.wrap ((k:Int)+1)=((k+1:Nat):Int):=by rw [wrap64]<;>omega
 by_cases hlt:k < b.nodes.length
 ·have hg:=List.getElem?_eq_getElem hlt
  have hnext:=hsu k hlt
  have hl1:=hln (k+1)
  have hl0:=hln k
  rw [hnext] at hl1
  unfold wU at hnext hl1
  clear hsu hln hz
  generalize hT:T k=s at *
  by_cases hp:b.nodes[k].parent=n
  ·by_cases hn:b.nodes[k].name=[]
   ·rw [if_pos ⟨hp,hn⟩] at hnext hl1
    rw [List.length_append] at hl1
    have hsum:s.length+b.nodes[k].text.length≤1099511627776:=by omega
    have W:=And.intro hk1 (And.intro hg (And.intro hlt (And.intro hp (And.intro hn hsum))))
    repeat' first|refine wl ?_|(refine sq (fun hc=>?_) (fun hc=>?_)<;>try exact hc.elim)|fail
    all_goals refine hK1 _ ⟨k+1,by omega⟩ (aQ 1 rfl (by simp [hnext]) (by simp) (by simp)) (by simp only;omega)
   ·rw [if_neg (by simp [hn])] at hnext hl1
    have hne:b.nodes[k].name.isEmpty=false:=by cases hc:b.nodes[k].name with|nil=>exact absurd hc hn|cons _ _=>rfl
    have W:=And.intro hk1 (And.intro hg (And.intro hlt (And.intro hp (And.intro hn hne))))
    repeat' first|refine wl ?_|(refine sq (fun hc=>?_) (fun hc=>?_)<;>try exact hc.elim)|fail
    all_goals refine hK1 _ ⟨k+1,by omega⟩ (aQ 1 rfl (by simp [hnext]) (by simp) (by simp)) (by simp only;omega)
  ·rw [if_neg (by simp [hp])] at hnext hl1
   have W:=And.intro hk1 (And.intro hg (And.intro hlt hp))
   repeat' first|refine wl ?_|(refine sq (fun hc=>?_) (fun hc=>?_)<;>try exact hc.elim)|fail
   all_goals refine hK1 _ ⟨k+1,by omega⟩ (aQ 1 rfl (by simp [hnext]) (by simp) (by simp)) (by simp only;omega)
 ·have hkl:k=b.nodes.length:=by omega
  subst hkl
  have W:=hk1
  repeat' first|refine wl ?_|(refine sq (fun hc=>?_) (fun hc=>?_)<;>try exact hc.elim)|fail
  all_goals (try (refine ⟨.inr rfl,?_⟩;simp [Hands,Tryz.results116]))
theorem aOy [aA Tryz.prog] (b:aS) (n:Int) (hs:aI b≤1099511627776):Ok Tryz.prog 113 [.agg (aL .view b),.int .i64 n] (.str (textOf b n)):=by
 have hN:b.nodes.length≤1099511627776:=by simp only [aI,szL] at hs;omega
 have hend:wY b n b.nodes.length=textOf b n:=by unfold wY textOf;rw [List.take_length]
 rw [←hend]
 have hz:wY b n 0=[]:=rfl
 have hln:=fun k=>aIn b n k
 have hsu:=aN5 b n
 generalize wY b n=T at *
 clear hend
 refine ent Tryz.mix Tryz.func113 Tryz.ntmps113 ?_
 have W:=trivial
 repeat' first|refine wl ?_|(refine sq (fun hc=>?_) (fun hc=>?_)<;>try exact hc.elim)|fail
 refine aM (ι:={k:Nat // k≤b.nodes.length}) (fun t o i=>⟨aO t [(6,.int .i64 i.1),(5,.str (T i.1))],o⟩)
  (fun i=>b.nodes.length - i.1) ⟨0,by simp⟩ (aH (by simp) (by simp [hz])) ?_
 rintro ⟨k,hk⟩ K1 hK1
 simp only [aO,List.set_cons_succ,List.set_cons_zero] at hK1⊢
 have hk1:IntKind.i64.wrap ((k:Int)+1)=((k+1:Nat):Int):=by rw [wrap64]<;>omega
 by_cases hlt:k < b.nodes.length
 ·have hg:=List.getElem?_eq_getElem hlt
  have hnext:=hsu k hlt
  have hl1:=hln (k+1)
  have hl0:=hln k
  rw [hnext] at hl1
  unfold wU at hnext hl1
  clear hsu hln hz
  generalize hT:T k=s at *
  by_cases hp:b.nodes[k].parent=n
  ·by_cases hn:b.nodes[k].name=[]
   ·rw [if_pos ⟨hp,hn⟩] at hnext hl1
    rw [List.length_append] at hl1
    have hsum:s.length+b.nodes[k].text.length≤1099511627776:=by omega
    have W:=And.intro hk1 (And.intro hg (And.intro hlt (And.intro hp (And.intro hn hsum))))
    repeat' first|refine wl ?_|(refine sq (fun hc=>?_) (fun hc=>?_)<;>try exact hc.elim)|fail
    all_goals refine hK1 _ ⟨k+1,by omega⟩ (aH (by simp) (by simp [hnext])) (by simp only;omega)
   ·rw [if_neg (by simp [hn])] at hnext hl1
    have hne:b.nodes[k].name.isEmpty=false:=by cases hc:b.nodes[k].name with|nil=>exact absurd hc hn|cons _ _=>rfl
    have W:=And.intro hk1 (And.intro hg (And.intro hlt (And.intro hp (And.intro hn hne))))
    repeat' first|refine wl ?_|(refine sq (fun hc=>?_) (fun hc=>?_)<;>try exact hc.elim)|fail
    all_goals refine hK1 _ ⟨k+1,by omega⟩ (aH (by simp) (by simp [hnext])) (by simp only;omega)
  ·rw [if_neg (by simp [hp])] at hnext hl1
   have W:=And.intro hk1 (And.intro hg (And.intro hlt hp))
   repeat' first|refine wl ?_|(refine sq (fun hc=>?_) (fun hc=>?_)<;>try exact hc.elim)|fail
   all_goals refine hK1 _ ⟨k+1,by omega⟩ (aH (by simp) (by simp [hnext])) (by simp only;omega)
 ·have hkl:k=b.nodes.length:=by omega
  subst hkl
  have W:=hk1
  repeat' first|refine wl ?_|(refine sq (fun hc=>?_) (fun hc=>?_)<;>try exact hc.elim)|fail
  all_goals (try (refine ⟨.inr rfl,?_⟩;simp [Hands,Tryz.results113]))
end Go.Proofs.YtlnblmmohpcceaaGreatDoor
