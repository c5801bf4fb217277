/-
  Proved here: steps towards the statement of this claim, text QC1.
  No condition beyond what each statement spells out.
-/
import Derived.Test.YtlnblmmohpcceaaGreatDoorQT3
import Derived.Test.YtlnblmmohpcceaaGreatDoorQU5
import Derived.Test.YtlnblmmohpcceaaGreatDoorQD1
import Derived.Test.YtlnblmmohpcceaaGreatDoorF8
set_option linter.all false
set_option maxRecDepth 4000
set_option maxHeartbeats 4000000
namespace Go.Proofs.YtlnblmmohpcceaaGreatDoor
open Go.Aw
def look {α:Type} (f:α→Option Int) (l:List α) (k:Nat):Option Int:=((l.take k).reverse).findSome? f
theorem aBz {α:Type} (f:α→Option Int) {l:List α} {k:Nat} (h:k < l.length):look f l (k+1)=match f l[k] with|some x=>some x|none=>look f l k:=by
 unfold look
 rw [List.take_succ_eq_append_getElem h,List.reverse_append]
 simp only [List.reverse_cons,List.reverse_nil,List.nil_append,List.singleton_append,List.findSome?_cons]
 cases f l[k]<;>rfl
theorem aBy {α:Type} (f:α→Option Int) (l:List α):look f l 0=none:=rfl
def yC (n:Str) (r:uU):Option Int:=if r.name=n then some r.color else none
def qO (n:Str) (s:dU):Option Int:=look (yC n) s.rules s.rules.length
def aT (ss:List dU) (n:Str):Int:=(look (qO n) ss ss.length).getD 0
theorem nX [aA Tryz.prog] (ss:List dU) (n:Str) (hl:ss.length≤1099511627776) (hr:∀x∈ss,x.rules.length≤1099511627776):Ok Tryz.prog 292 [.sl .view 1 (ss.map (bP .view)),.str n] (.int .i64 (aT ss n)):=by
 unfold aT
 refine ent Tryz.mix Tryz.func292 Tryz.ntmps292 ?_
 have W:=trivial
 repeat' first|refine wl ?_|(refine sq (fun hc=>?_) (fun hc=>?_)<;>try exact hc.elim)|fail
 refine aM (ι:={k:Nat // k≤ss.length∧look (qO n) ss ss.length=look (qO n) ss k}) (fun t o i=>⟨aO t [(5,.int .i64 ((i.1:Int) - 1))],o⟩)
  (fun i=>i.1) ⟨ss.length,by simp,rfl⟩ (aH (by simp) (by simp)) ?_
 rintro ⟨k,hk,hi⟩ K1 hK1
 simp only [aO,List.set_cons_succ,List.set_cons_zero] at hK1 hi hk⊢
 cases k with
 |zero=>
  rw [hi,aBy]
  have W:=trivial
  repeat' first|refine wl ?_|(refine sq (fun hc=>?_) (fun hc=>?_)<;>try exact hc.elim)|fail
  all_goals (try (refine ⟨.inr rfl,?_⟩;simp [Hands,Tryz.results292]))
 |succ k=>
  have hlt:k < ss.length:=by omega
  have hk0:(((k+1:Nat):Int) - 1)=(k:Int):=by omega
  have hg:=List.getElem?_eq_getElem hlt
  have hk1:IntKind.i64.wrap ((k:Int) - 1)=(k:Int) - 1:=by rw [wrap64]<;>omega
  have hrl:=hr _ (List.getElem_mem hlt)
  have hls:=aBz (qO n) hlt
  have hsc:qO n ss[k]=look (yC n) ss[k].rules ss[k].rules.length:=rfl
  have hw6:IntKind.i64.wrap ((ss[k].rules.length:Int) - 1)=(ss[k].rules.length:Int) - 1:=by rw [wrap64]<;>omega
  rw [hk0]
  have W:=And.intro hlt (And.intro hg hw6)
  repeat' first|refine wl ?_|(refine sq (fun hc=>?_) (fun hc=>?_)<;>try exact hc.elim)|fail
  refine aM (ι:={m:Nat // m≤ss[k].rules.length∧qO n ss[k]=look (yC n) ss[k].rules m}) (fun t o i=>⟨aO t [(6,.int .i64 ((i.1:Int) - 1))],o⟩)
   (fun i=>i.1) ⟨ss[k].rules.length,by simp,rfl⟩ (aH (by simp) (by simp)) ?_
  rintro ⟨m,hm,hj⟩ K2 hK2
  simp only [aO,List.set_cons_succ,List.set_cons_zero] at hK2 hm hj⊢
  cases m with
  |zero=>
   rw [hj,aBy] at hls
   simp only at hls
   have W:=hk1
   repeat' first|refine wl ?_|(refine sq (fun hc=>?_) (fun hc=>?_)<;>try exact hc.elim)|fail
   exact hK1 _ ⟨k,by omega,by rw [hi,hls]⟩ (aH (by simp) (by simp)) (by simp only;omega)
  |succ m=>
   have hlm:m < ss[k].rules.length:=by omega
   have hm0:(((m+1:Nat):Int) - 1)=(m:Int):=by omega
   have hgm:=List.getElem?_eq_getElem hlm
   have hm1:IntKind.i64.wrap ((m:Int) - 1)=(m:Int) - 1:=by rw [wrap64]<;>omega
   have hlr:=aBz (yC n) hlm
   have hrc:yC n ss[k].rules[m]=if ss[k].rules[m].name=n then some ss[k].rules[m].color else none:=rfl
   rw [hm0]
   by_cases hn:ss[k].rules[m].name=n
   ·rw [if_pos hn] at hrc
    rw [hrc] at hlr
    simp only at hlr
    rw [hj,hlr] at hls
    simp only at hls
    rw [hi,hls]
    have W:=And.intro hlt (And.intro hg (And.intro hlm (And.intro hgm hn)))
    repeat' first|refine wl ?_|(refine sq (fun hc=>?_) (fun hc=>?_)<;>try exact hc.elim)|fail
    all_goals (try (refine ⟨.inr rfl,?_⟩;simp [Hands,Tryz.results292]))
   ·rw [if_neg hn] at hrc
    rw [hrc] at hlr
    simp only at hlr
    have W:=And.intro hlt (And.intro hg (And.intro hlm (And.intro hgm (And.intro hn hm1))))
    repeat' first|refine wl ?_|(refine sq (fun hc=>?_) (fun hc=>?_)<;>try exact hc.elim)|fail
    ·exact absurd hc hn
    ·exact hK2 _ ⟨m,by omega,by rw [hj,hlr]⟩ (aH (by simp) (by simp)) (by simp only;omega)
theorem nZ [aA Tryz.prog] (ss:List dU) (n:Str) (hl:ss.length≤1099511627776) (hr:∀x∈ss,x.rules.length≤1099511627776):Ok Tryz.prog 264 [.sl .view 1 (ss.map (bP .view)),.str n] (.int .i64 (aT ss n)):=by
 unfold aT
 refine ent Tryz.mix Tryz.func264 Tryz.ntmps264 ?_
 have W:=trivial
 repeat' first|refine wl ?_|(refine sq (fun hc=>?_) (fun hc=>?_)<;>try exact hc.elim)|fail
 refine aM (ι:={k:Nat // k≤ss.length∧look (qO n) ss ss.length=look (qO n) ss k}) (fun t o i=>⟨aO t [(5,.int .i64 ((i.1:Int) - 1))],o⟩)
  (fun i=>i.1) ⟨ss.length,by simp,rfl⟩ (aH (by simp) (by simp)) ?_
 rintro ⟨k,hk,hi⟩ K1 hK1
 simp only [aO,List.set_cons_succ,List.set_cons_zero] at hK1 hi hk⊢
 cases k with
 |zero=>
  rw [hi,aBy]
  have W:=trivial
  repeat' first|refine wl ?_|(refine sq (fun hc=>?_) (fun hc=>?_)<;>try exact hc.elim)|fail
  all_goals (try (refine ⟨.inr rfl,?_⟩;simp [Hands,Tryz.results264]))
 |succ k=>
  have hlt:k < ss.length:=by omega
  have hk0:(((k+1:Nat):Int) - 1)=(k:Int):=by omega
  have hg:=List.getElem?_eq_getElem hlt
  have hk1:IntKind.i64.wrap ((k:Int) - 1)=(k:Int) - 1:=by rw [wrap64]<;>omega
  have hrl:=hr _ (List.getElem_mem hlt)
  have hls:=aBz (qO n) hlt
  have hsc:qO n ss[k]=look (yC n) ss[k].rules ss[k].rules.length:=rfl
  have hw6:IntKind.i64.wrap ((ss[k].rules.length:Int) - 1)=(ss[k].rules.length:Int) - 1:=by rw [wrap64]<;>omega
  rw [hk0]
  have W:=And.intro hlt (And.intro hg hw6)
  repeat' first|refine wl ?_|(refine sq (fun hc=>?_) (fun hc=>?_)<;>try exact hc.elim)|fail
  refine aM (ι:={m:Nat // m≤ss[k].rules.length∧qO n ss[k]=look (yC n) ss[k].rules m}) (fun t o i=>⟨aO t [(6,.int .i64 ((i.1:Int) - 1))],o⟩)
   (fun i=>i.1) ⟨ss[k].rules.length,by simp,rfl⟩ (aH (by simp) (by simp)) ?_
  rintro ⟨m,hm,hj⟩ K2 hK2
  simp only [aO,List.set_cons_succ,List.set_cons_zero] at hK2 hm hj⊢
  cases m with
  |zero=>
   rw [hj,aBy] at hls
   simp only at hls
   have W:=hk1
   repeat' first|refine wl ?_|(refine sq (fun hc=>?_) (fun hc=>?_)<;>try exact hc.elim)|fail
   exact hK1 _ ⟨k,by omega,by rw [hi,hls]⟩ (aH (by simp) (by simp)) (by simp only;omega)
  |succ m=>
   have hlm:m < ss[k].rules.length:=by omega
   have hm0:(((m+1:Nat):Int) - 1)=(m:Int):=by omega
   have hgm:=List.getElem?_eq_getElem hlm
   have hm1:IntKind.i64.wrap ((m:Int) - 1)=(m:Int) - 1:=by rw [wrap64]<;>omega
   have hlr:=aBz (yC n) hlm
   have hrc:yC n ss[k].rules[m]=if ss[k].rules[m].name=n then some ss[k].rules[m].color else none:=rfl
   rw [hm0]
   by_cases hn:ss[k].rules[m].name=n
   ·rw [if_pos hn] at hrc
    rw [hrc] at hlr
    simp only at hlr
    rw [hj,hlr] at hls
    simp only at hls
    rw [hi,hls]
    have W:=And.intro hlt (And.intro hg (And.intro hlm (And.intro hgm hn)))
    repeat' first|refine wl ?_|(refine sq (fun hc=>?_) (fun hc=>?_)<;>try exact hc.elim)|fail
    all_goals (try (refine ⟨.inr rfl,?_⟩;simp [Hands,Tryz.results264]))
   ·rw [if_neg hn] at hrc
    rw [hrc] at hlr
    simp only at hlr
    have W:=And.intro hlt (And.intro hg (And.intro hlm (And.intro hgm (And.intro hn hm1))))
    repeat' first|refine wl ?_|(refine sq (fun hc=>?_) (fun hc=>?_)<;>try exact hc.elim)|fail
    ·exact absurd hc hn
    ·exact hK2 _ ⟨m,by omega,by rw [hj,hlr]⟩ (aH (by simp) (by simp)) (by simp only;omega)
theorem mG [aA Tryz.prog] (b:aS) (n:Str) (hl:b.nodes.length≤1099511627776):Ok Tryz.prog 291 [.agg (aL .view b),.str n] (.int .i64 (aP b n)):=by
 refine ent Tryz.mix Tryz.func291 Tryz.ntmps291 ?_
 have W:=trivial
 repeat' first|refine we ?_|(refine sq (fun hc=>?_) (fun hc=>?_)<;>try exact hc.elim)|fail
 refine aM (ι:={k:Nat // k≤b.nodes.length}) (fun t o i=>⟨aO t [(11,.int .i64 i.1),(5,.int .i64 ((((b.nodes.take i.1).filter fun x=>decide (x.name=n)).length:Nat):Int)),(7,.undef)],o.take 1⟩)
  (fun i=>b.nodes.length - i.1) ⟨0,by simp⟩ (aH (by simp) (by simp)) ?_
 rintro ⟨k,hk⟩ K1 hK1
 simp only [aO,List.set_cons_succ,List.set_cons_zero,List.take_succ_cons,List.take_zero] at hK1⊢
 have hk1:IntKind.i64.wrap ((k:Int)+1)=((k+1:Nat):Int):=by rw [wrap64]<;>omega
 have hcl:((b.nodes.take k).filter fun x=>decide (x.name=n)).length≤b.nodes.length:=by
  refine Nat.le_trans (List.length_filter_le _ _) ?_
  simp;omega
 by_cases hlt:k < b.nodes.length
 ·have hg:=List.getElem?_eq_getElem hlt
  have hst:=aKn b n k hlt
  generalize ((b.nodes.take k).filter fun x=>decide (x.name=n)).length=c at *
  have hc1:IntKind.i64.wrap ((c:Int)+1)=((c+1:Nat):Int):=by rw [wrap64]<;>omega
  by_cases hn:b.nodes[k].name=n
  ·have hnb:(b.nodes[k].name == n)=true:=by simpa using hn
   rw [if_pos hn] at hst
   have W:=And.intro hk1 (And.intro hc1 (And.intro hg (And.intro hlt hnb)))
   repeat' first|refine we ?_|(refine sq (fun hc=>?_) (fun hc=>?_)<;>try exact hc.elim)|fail
   all_goals exact hK1 _ ⟨k+1,by omega⟩ (aQ 1 (by simp) (by simp [hst]) (by simp) (by simp)) (by simp only;omega)
  ·have hnb:(b.nodes[k].name == n)=false:=by simpa using hn
   rw [if_neg hn] at hst
   have W:=And.intro hk1 (And.intro hc1 (And.intro hg (And.intro hlt hnb)))
   repeat' first|refine we ?_|(refine sq (fun hc=>?_) (fun hc=>?_)<;>try exact hc.elim)|fail
   all_goals exact hK1 _ ⟨k+1,by omega⟩ (aQ 1 (by simp) (by simp [hst]) (by simp) (by simp)) (by simp only;omega)
 ·have htk:b.nodes.take k=b.nodes:=List.take_of_length_le (by omega)
  rw [htk]
  have W:=hk1
  repeat' first|refine we ?_|(refine sq (fun hc=>?_) (fun hc=>?_)<;>try exact hc.elim)|fail
  all_goals (try (refine ⟨.inr rfl,?_⟩;simp [Hands,Tryz.results291,aP]))
theorem mE [aA Tryz.prog] (b:aS) (n:Str) (hl:b.nodes.length≤1099511627776):Ok Tryz.prog 263 [.agg (aL .view b),.str n] (.int .i64 (aP b n)):=by
 refine ent Tryz.mix Tryz.func263 Tryz.ntmps263 ?_
 have W:=trivial
 repeat' first|refine we ?_|(refine sq (fun hc=>?_) (fun hc=>?_)<;>try exact hc.elim)|fail
 refine aM (ι:={k:Nat // k≤b.nodes.length}) (fun t o i=>⟨aO t [(6,.int .i64 i.1),(5,.int .i64 ((((b.nodes.take i.1).filter fun x=>decide (x.name=n)).length:Nat):Int))],o⟩)
  (fun i=>b.nodes.length - i.1) ⟨0,by simp⟩ (aH (by simp) (by simp)) ?_
 rintro ⟨k,hk⟩ K1 hK1
 simp only [aO,List.set_cons_succ,List.set_cons_zero] at hK1⊢
 have hk1:IntKind.i64.wrap ((k:Int)+1)=((k+1:Nat):Int):=by rw [wrap64]<;>omega
 by_cases hlt:k < b.nodes.length
 ·have hg:=List.getElem?_eq_getElem hlt
  have hst:=aKn b n k hlt
  have hcl:((b.nodes.take k).filter fun x=>decide (x.name=n)).length≤b.nodes.length:=by
   refine Nat.le_trans (List.length_filter_le _ _) ?_
   simp;omega
  generalize ((b.nodes.take k).filter fun x=>decide (x.name=n)).length=c at *
  have hc1:IntKind.i64.wrap ((c:Int)+1)=((c+1:Nat):Int):=by rw [wrap64]<;>omega
  by_cases hn:b.nodes[k].name=n
  ·have hnb:(b.nodes[k].name == n)=true:=by simpa using hn
   rw [if_pos hn] at hst
   have W:=And.intro hk1 (And.intro hc1 (And.intro hg (And.intro hlt hnb)))
   repeat' first|refine we ?_|(refine sq (fun hc=>?_) (fun hc=>?_)<;>try exact hc.elim)|fail
   all_goals exact hK1 _ ⟨k+1,by omega⟩ (aH (by simp) (by simp [hst])) (by simp only;omega)
  ·have hnb:(b.nodes[k].name == n)=false:=by simpa using hn
   rw [if_neg hn] at hst
   have W:=And.intro hk1 (And.intro hc1 (And.intro hg (And.intro hlt hnb)))
   repeat' first|refine we ?_|(refine sq (fun hc=>?_) (fun hc=>?_)<;>try exact hc.elim)|fail
   all_goals exact hK1 _ ⟨k+1,by omega⟩ (aH (by simp) (by simp [hst])) (by simp only;omega)
 ·have htk:b.nodes.take k=b.nodes:=List.take_of_length_le (by omega)
  rw [htk]
  have W:=hk1
  repeat' first|refine we ?_|(refine sq (fun hc=>?_) (fun hc=>?_)<;>try exact hc.elim)|fail
  all_goals (try (refine ⟨.inr rfl,?_⟩;simp [Hands,Tryz.results263,aP]))
def pJ:Str:=[99,111,117,110,116,32]
def rZ:Str:=[108,111,111,107,32]
def wT:Str:=[115,97,121,32]
def bE (b:aS) (ss:List dU) (x:fI):aS×Str×Str:=
 if x.op=1 then (b,x.text.map kK,[])
 else if x.op=2 then (if (1≤b.nodes.length∧b.nodes.length≤39)∧bS x.text=true then ({b with nodes:=b.nodes++[⟨x.text,[],0,[]⟩]},[],[]) else (b,[],[]))
 else if x.op=3 then (b,[],pJ++x.text++[32]++Lib.itoa (aP b x.text))
 else if x.op=4 then (b,[],rZ++x.text++[32]++Lib.itoa (aT ss x.text))
 else if x.op=5 then (b,[],wT++x.text)
 else (b,[],[])
theorem bBr [aA Tryz.prog] [dY Tryz.prog] (b:aS) (ss:List dU) (x:fI) (hs:aI b≤274877906944) (hx:x.text.length≤268435456) (hl:ss.length≤1099511627776) (hr:∀x∈ss,x.rules.length≤1099511627776) (hco:∀n,0≤aT ss n∧aT ss n≤999) (hop:x.op=1):
  Ok Tryz.prog 269 [.agg (aL .view b),.sl .view 1 (ss.map (bP .view)),.agg (fU x)] (.tup [.agg (aL .own (bE b ss x).1),.str (bE b ss x).2.1,.str (bE b ss x).2.2]):=by
 have c1:=jG b hs
 have hn:b.nodes.length≤274877906944:=by simp only [aI,szL] at hs;omega
 obtain ⟨op,tx⟩:=x
 simp only at hx hop
 have c2:=nC tx (by omega)
 have c3:=mG b tx (by omega)
 have c4:=nX ss tx hl hr
 have c5:=gJ tx (by omega)
 have c6:=jT (b.nodes.length:Int) 1 39
 have hcn:0≤aP b tx∧aP b tx≤(b.nodes.length:Int):=by
  unfold aP
  have:=List.length_filter_le (fun x:dA=>decide (x.name=tx)) b.nodes
  omega
 have hcc:=hco tx
 have c7:=fE (aP b tx) (by omega)
 have c8:=fE (aT ss tx) (by omega)
 have z7:=fF (aP b tx) (by omega) (by omega)
 have z8:=fF (aT ss tx) (by omega) (by omega)
 simp only [aL] at c1 c3
 clear hr hco
 simp only [bE,pJ,rZ,wT]
 generalize Lib.itoa (aP b tx)=i7 at *
 generalize Lib.itoa (aT ss tx)=i8 at *
 generalize aP b tx=cn at *
 generalize aT ss tx=cc at *
 subst hop
 rw [if_pos rfl]
 refine ent Tryz.mix Tryz.func269 Tryz.ntmps269 ?_
 have W:=trivial
 repeat' first|refine we ?_|(refine sq (fun hc=>?_) (fun hc=>?_)<;>try exact hc.elim)|fail
 all_goals (try (refine ⟨.inr rfl,?_⟩;simp [Hands,Tryz.results269]))
end Go.Proofs.YtlnblmmohpcceaaGreatDoor
