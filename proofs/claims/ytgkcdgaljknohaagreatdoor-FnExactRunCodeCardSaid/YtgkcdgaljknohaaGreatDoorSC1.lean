/-
  Proved here: steps towards the statement of this claim, text SC1.
  No condition beyond what each statement spells out.
-/
import Derived.Test.YtgkcdgaljknohaaGreatDoorST4
import Derived.Test.YtgkcdgaljknohaaGreatDoorSY2
import Derived.Test.YtgkcdgaljknohaaGreatDoorSD1
set_option linter.all false
set_option maxRecDepth 4000
set_option maxHeartbeats 4000000
namespace Go.Proofs.YtgkcdgaljknohaaGreatDoor
open Go.Aw
def look {α:Type} (f:α→Option Int) (l:List α) (k:Nat):Option Int:=((l.take k).reverse).findSome? f
theorem look_succ {α:Type} (f:α→Option Int) {l:List α} {k:Nat} (h:k < l.length):look f l (k+1)=match f l[k] with|some x=>some x|none=>look f l k:=by
 unfold look
 rw [List.take_succ_eq_append_getElem h,List.reverse_append]
 simp only [List.reverse_cons,List.reverse_nil,List.nil_append,List.singleton_append,List.findSome?_cons]
 cases f l[k]<;>rfl
theorem look_zero {α:Type} (f:α→Option Int) (l:List α):look f l 0=none:=rfl
def ruleC (n:Str) (r:DRule):Option Int:=if r.name=n then some r.color else none
def sheetC (n:Str) (s:DSheet):Option Int:=look (ruleC n) s.rules s.rules.length
def colorOf (ss:List DSheet) (n:Str):Int:=(look (sheetC n) ss ss.length).getD 0
theorem implColorOf_ok [Tabs Tryz.prog] (ss:List DSheet) (n:Str) (hl:ss.length≤1099511627776) (hr:∀x∈ss,x.rules.length≤1099511627776):Ok Tryz.prog 239 [.sl .view 1 (ss.map (eSheet .view)),.str n] (.int .i64 (colorOf ss n)):=by
 unfold colorOf
 refine ent Tryz.mix Tryz.func239 Tryz.ntmps239 ?_
 have W:=trivial
 repeat' first|refine wl ?_|(refine sq (fun hc=>?_) (fun hc=>?_)<;>try exact hc.elim)|fail
 refine awp_loop' (ι:={k:Nat // k≤ss.length∧look (sheetC n) ss ss.length=look (sheetC n) ss k}) (fun t o i=>⟨upds t [(5,.int .i64 ((i.1:Int) - 1))],o⟩)
  (fun i=>i.1) ⟨ss.length,by simp,rfl⟩ (weak_o (by simp) (by simp)) ?_
 rintro ⟨k,hk,hi⟩ K1 hK1
 simp only [upds,List.set_cons_succ,List.set_cons_zero] at hK1 hi hk⊢
 cases k with
 |zero=>
  rw [hi,look_zero]
  have W:=trivial
  repeat' first|refine wl ?_|(refine sq (fun hc=>?_) (fun hc=>?_)<;>try exact hc.elim)|fail
  all_goals (try (refine ⟨.inr rfl,?_⟩;simp [Hands,Tryz.results239]))
 |succ k=>
  have hlt:k < ss.length:=by omega
  have hk0:(((k+1:Nat):Int) - 1)=(k:Int):=by omega
  have hg:=List.getElem?_eq_getElem hlt
  have hk1:IntKind.i64.wrap ((k:Int) - 1)=(k:Int) - 1:=by rw [wrap64]<;>omega
  have hrl:=hr _ (List.getElem_mem hlt)
  have hls:=look_succ (sheetC n) hlt
  have hsc:sheetC n ss[k]=look (ruleC n) ss[k].rules ss[k].rules.length:=rfl
  have hw6:IntKind.i64.wrap ((ss[k].rules.length:Int) - 1)=(ss[k].rules.length:Int) - 1:=by rw [wrap64]<;>omega
  rw [hk0]
  have W:=And.intro hlt (And.intro hg hw6)
  repeat' first|refine wl ?_|(refine sq (fun hc=>?_) (fun hc=>?_)<;>try exact hc.elim)|fail
  refine awp_loop' (ι:={m:Nat // m≤ss[k].rules.length∧sheetC n ss[k]=look (ruleC n) ss[k].rules m}) (fun t o i=>⟨upds t [(6,.int .i64 ((i.1:Int) - 1))],o⟩)
   (fun i=>i.1) ⟨ss[k].rules.length,by simp,rfl⟩ (weak_o (by simp) (by simp)) ?_
  rintro ⟨m,hm,hj⟩ K2 hK2
  simp only [upds,List.set_cons_succ,List.set_cons_zero] at hK2 hm hj⊢
  cases m with
  |zero=>
   rw [hj,look_zero] at hls
   simp only at hls
   have W:=hk1
   repeat' first|refine wl ?_|(refine sq (fun hc=>?_) (fun hc=>?_)<;>try exact hc.elim)|fail
   exact hK1 _ ⟨k,by omega,by rw [hi,hls]⟩ (weak_o (by simp) (by simp)) (by simp only;omega)
  |succ m=>
   have hlm:m < ss[k].rules.length:=by omega
   have hm0:(((m+1:Nat):Int) - 1)=(m:Int):=by omega
   have hgm:=List.getElem?_eq_getElem hlm
   have hm1:IntKind.i64.wrap ((m:Int) - 1)=(m:Int) - 1:=by rw [wrap64]<;>omega
   have hlr:=look_succ (ruleC n) hlm
   have hrc:ruleC n ss[k].rules[m]=if ss[k].rules[m].name=n then some ss[k].rules[m].color else none:=rfl
   rw [hm0]
   by_cases hn:ss[k].rules[m].name=n
   ·rw [if_pos hn] at hrc
    rw [hrc] at hlr
    simp only at hlr
    rw [hj,hlr] at hls
    simp only at hls
    rw [hi,hls]
    have W:=And.intro hlt (And.intro hg (And.intro hlm (And.intro hgm hn)))
    repeat' first|refine wl ?_|(refine sq (fun hc=>?_) (fun hc=>?_)<;>try exact hc.elim)|fail
    all_goals (try (refine ⟨.inr rfl,?_⟩;simp [Hands,Tryz.results239]))
   ·rw [if_neg hn] at hrc
    rw [hrc] at hlr
    simp only at hlr
    have W:=And.intro hlt (And.intro hg (And.intro hlm (And.intro hgm (And.intro hn hm1))))
    repeat' first|refine wl ?_|(refine sq (fun hc=>?_) (fun hc=>?_)<;>try exact hc.elim)|fail
    ·exact absurd hc hn
    ·exact hK2 _ ⟨m,by omega,by rw [hj,hlr]⟩ (weak_o (by simp) (by simp)) (by simp only;omega)
theorem specColorOf_ok [Tabs Tryz.prog] (ss:List DSheet) (n:Str) (hl:ss.length≤1099511627776) (hr:∀x∈ss,x.rules.length≤1099511627776):Ok Tryz.prog 175 [.sl .view 1 (ss.map (eSheet .view)),.str n] (.int .i64 (colorOf ss n)):=by
 unfold colorOf
 refine ent Tryz.mix Tryz.func175 Tryz.ntmps175 ?_
 have W:=trivial
 repeat' first|refine wl ?_|(refine sq (fun hc=>?_) (fun hc=>?_)<;>try exact hc.elim)|fail
 refine awp_loop' (ι:={k:Nat // k≤ss.length∧look (sheetC n) ss ss.length=look (sheetC n) ss k}) (fun t o i=>⟨upds t [(5,.int .i64 ((i.1:Int) - 1))],o⟩)
  (fun i=>i.1) ⟨ss.length,by simp,rfl⟩ (weak_o (by simp) (by simp)) ?_
 rintro ⟨k,hk,hi⟩ K1 hK1
 simp only [upds,List.set_cons_succ,List.set_cons_zero] at hK1 hi hk⊢
 cases k with
 |zero=>
  rw [hi,look_zero]
  have W:=trivial
  repeat' first|refine wl ?_|(refine sq (fun hc=>?_) (fun hc=>?_)<;>try exact hc.elim)|fail
  all_goals (try (refine ⟨.inr rfl,?_⟩;simp [Hands,Tryz.results175]))
 |succ k=>
  have hlt:k < ss.length:=by omega
  have hk0:(((k+1:Nat):Int) - 1)=(k:Int):=by omega
  have hg:=List.getElem?_eq_getElem hlt
  have hk1:IntKind.i64.wrap ((k:Int) - 1)=(k:Int) - 1:=by rw [wrap64]<;>omega
  have hrl:=hr _ (List.getElem_mem hlt)
  have hls:=look_succ (sheetC n) hlt
  have hsc:sheetC n ss[k]=look (ruleC n) ss[k].rules ss[k].rules.length:=rfl
  have hw6:IntKind.i64.wrap ((ss[k].rules.length:Int) - 1)=(ss[k].rules.length:Int) - 1:=by rw [wrap64]<;>omega
  rw [hk0]
  have W:=And.intro hlt (And.intro hg hw6)
  repeat' first|refine wl ?_|(refine sq (fun hc=>?_) (fun hc=>?_)<;>try exact hc.elim)|fail
  refine awp_loop' (ι:={m:Nat // m≤ss[k].rules.length∧sheetC n ss[k]=look (ruleC n) ss[k].rules m}) (fun t o i=>⟨upds t [(6,.int .i64 ((i.1:Int) - 1))],o⟩)
   (fun i=>i.1) ⟨ss[k].rules.length,by simp,rfl⟩ (weak_o (by simp) (by simp)) ?_
  rintro ⟨m,hm,hj⟩ K2 hK2
  simp only [upds,List.set_cons_succ,List.set_cons_zero] at hK2 hm hj⊢
  cases m with
  |zero=>
   rw [hj,look_zero] at hls
   simp only at hls
   have W:=hk1
   repeat' first|refine wl ?_|(refine sq (fun hc=>?_) (fun hc=>?_)<;>try exact hc.elim)|fail
   exact hK1 _ ⟨k,by omega,by rw [hi,hls]⟩ (weak_o (by simp) (by simp)) (by simp only;omega)
  |succ m=>
   have hlm:m < ss[k].rules.length:=by omega
   have hm0:(((m+1:Nat):Int) - 1)=(m:Int):=by omega
   have hgm:=List.getElem?_eq_getElem hlm
   have hm1:IntKind.i64.wrap ((m:Int) - 1)=(m:Int) - 1:=by rw [wrap64]<;>omega
   have hlr:=look_succ (ruleC n) hlm
   have hrc:ruleC n ss[k].rules[m]=if ss[k].rules[m].name=n then some ss[k].rules[m].color else none:=rfl
   rw [hm0]
   by_cases hn:ss[k].rules[m].name=n
   ·rw [if_pos hn] at hrc
    rw [hrc] at hlr
    simp only at hlr
    rw [hj,hlr] at hls
    simp only at hls
    rw [hi,hls]
    have W:=And.intro hlt (And.intro hg (And.intro hlm (And.intro hgm hn)))
    repeat' first|refine wl ?_|(refine sq (fun hc=>?_) (fun hc=>?_)<;>try exact hc.elim)|fail
    all_goals (try (refine ⟨.inr rfl,?_⟩;simp [Hands,Tryz.results175]))
   ·rw [if_neg hn] at hrc
    rw [hrc] at hlr
    simp only at hlr
    have W:=And.intro hlt (And.intro hg (And.intro hlm (And.intro hgm (And.intro hn hm1))))
    repeat' first|refine wl ?_|(refine sq (fun hc=>?_) (fun hc=>?_)<;>try exact hc.elim)|fail
    ·exact absurd hc hn
    ·exact hK2 _ ⟨m,by omega,by rw [hj,hlr]⟩ (weak_o (by simp) (by simp)) (by simp only;omega)
end Go.Proofs.YtgkcdgaljknohaaGreatDoor

set_option maxRecDepth 4000
set_option maxHeartbeats 4000000
namespace Go.Proofs.YtgkcdgaljknohaaGreatDoor
open Go.Aw
theorem implCountName_ok [Tabs Tryz.prog] (b:DBuilder) (n:Str) (hl:b.nodes.length≤1099511627776):Ok Tryz.prog 238 [.agg (eBuilder .view b),.str n] (.int .i64 (countName b n)):=by
 refine ent Tryz.mix Tryz.func238 Tryz.ntmps238 ?_
 have W:=trivial
 repeat' first|refine we ?_|(refine sq (fun hc=>?_) (fun hc=>?_)<;>try exact hc.elim)|fail
 refine awp_loop' (ι:={k:Nat // k≤b.nodes.length}) (fun t o i=>⟨upds t [(11,.int .i64 i.1),(5,.int .i64 ((((b.nodes.take i.1).filter fun x=>decide (x.name=n)).length:Nat):Int)),(7,.undef)],o.take 1⟩)
  (fun i=>b.nodes.length - i.1) ⟨0,by simp⟩ (weak_o (by simp) (by simp)) ?_
 rintro ⟨k,hk⟩ K1 hK1
 simp only [upds,List.set_cons_succ,List.set_cons_zero,List.take_succ_cons,List.take_zero] at hK1⊢
 have hk1:IntKind.i64.wrap ((k:Int)+1)=((k+1:Nat):Int):=by rw [wrap64]<;>omega
 have hcl:((b.nodes.take k).filter fun x=>decide (x.name=n)).length≤b.nodes.length:=by
  refine Nat.le_trans (List.length_filter_le _ _) ?_
  simp;omega
 by_cases hlt:k < b.nodes.length
 ·have hg:=List.getElem?_eq_getElem hlt
  have hst:=count_step b n k hlt
  generalize ((b.nodes.take k).filter fun x=>decide (x.name=n)).length=c at *
  have hc1:IntKind.i64.wrap ((c:Int)+1)=((c+1:Nat):Int):=by rw [wrap64]<;>omega
  by_cases hn:b.nodes[k].name=n
  ·have hnb:(b.nodes[k].name == n)=true:=by simpa using hn
   rw [if_pos hn] at hst
   have W:=And.intro hk1 (And.intro hc1 (And.intro hg (And.intro hlt hnb)))
   repeat' first|refine we ?_|(refine sq (fun hc=>?_) (fun hc=>?_)<;>try exact hc.elim)|fail
   all_goals exact hK1 _ ⟨k+1,by omega⟩ (weak_take 1 (by simp) (by simp [hst]) (by simp) (by simp)) (by simp only;omega)
  ·have hnb:(b.nodes[k].name == n)=false:=by simpa using hn
   rw [if_neg hn] at hst
   have W:=And.intro hk1 (And.intro hc1 (And.intro hg (And.intro hlt hnb)))
   repeat' first|refine we ?_|(refine sq (fun hc=>?_) (fun hc=>?_)<;>try exact hc.elim)|fail
   all_goals exact hK1 _ ⟨k+1,by omega⟩ (weak_take 1 (by simp) (by simp [hst]) (by simp) (by simp)) (by simp only;omega)
 ·have htk:b.nodes.take k=b.nodes:=List.take_of_length_le (by omega)
  rw [htk]
  have W:=hk1
  repeat' first|refine we ?_|(refine sq (fun hc=>?_) (fun hc=>?_)<;>try exact hc.elim)|fail
  all_goals (try (refine ⟨.inr rfl,?_⟩;simp [Hands,Tryz.results238,countName]))
theorem specCountName_ok [Tabs Tryz.prog] (b:DBuilder) (n:Str) (hl:b.nodes.length≤1099511627776):Ok Tryz.prog 174 [.agg (eBuilder .view b),.str n] (.int .i64 (countName b n)):=by
 refine ent Tryz.mix Tryz.func174 Tryz.ntmps174 ?_
 have W:=trivial
 repeat' first|refine we ?_|(refine sq (fun hc=>?_) (fun hc=>?_)<;>try exact hc.elim)|fail
 refine awp_loop' (ι:={k:Nat // k≤b.nodes.length}) (fun t o i=>⟨upds t [(6,.int .i64 i.1),(5,.int .i64 ((((b.nodes.take i.1).filter fun x=>decide (x.name=n)).length:Nat):Int))],o⟩)
  (fun i=>b.nodes.length - i.1) ⟨0,by simp⟩ (weak_o (by simp) (by simp)) ?_
 rintro ⟨k,hk⟩ K1 hK1
 simp only [upds,List.set_cons_succ,List.set_cons_zero] at hK1⊢
 have hk1:IntKind.i64.wrap ((k:Int)+1)=((k+1:Nat):Int):=by rw [wrap64]<;>omega
 by_cases hlt:k < b.nodes.length
 ·have hg:=List.getElem?_eq_getElem hlt
  have hst:=count_step b n k hlt
  have hcl:((b.nodes.take k).filter fun x=>decide (x.name=n)).length≤b.nodes.length:=by
   refine Nat.le_trans (List.length_filter_le _ _) ?_
   simp;omega
  generalize ((b.nodes.take k).filter fun x=>decide (x.name=n)).length=c at *
  have hc1:IntKind.i64.wrap ((c:Int)+1)=((c+1:Nat):Int):=by rw [wrap64]<;>omega
  by_cases hn:b.nodes[k].name=n
  ·have hnb:(b.nodes[k].name == n)=true:=by simpa using hn
   rw [if_pos hn] at hst
   have W:=And.intro hk1 (And.intro hc1 (And.intro hg (And.intro hlt hnb)))
   repeat' first|refine we ?_|(refine sq (fun hc=>?_) (fun hc=>?_)<;>try exact hc.elim)|fail
   all_goals exact hK1 _ ⟨k+1,by omega⟩ (weak_o (by simp) (by simp [hst])) (by simp only;omega)
  ·have hnb:(b.nodes[k].name == n)=false:=by simpa using hn
   rw [if_neg hn] at hst
   have W:=And.intro hk1 (And.intro hc1 (And.intro hg (And.intro hlt hnb)))
   repeat' first|refine we ?_|(refine sq (fun hc=>?_) (fun hc=>?_)<;>try exact hc.elim)|fail
   all_goals exact hK1 _ ⟨k+1,by omega⟩ (weak_o (by simp) (by simp [hst])) (by simp only;omega)
 ·have htk:b.nodes.take k=b.nodes:=List.take_of_length_le (by omega)
  rw [htk]
  have W:=hk1
  repeat' first|refine we ?_|(refine sq (fun hc=>?_) (fun hc=>?_)<;>try exact hc.elim)|fail
  all_goals (try (refine ⟨.inr rfl,?_⟩;simp [Hands,Tryz.results174,countName]))
end Go.Proofs.YtgkcdgaljknohaaGreatDoor

set_option maxRecDepth 4000
set_option maxHeartbeats 4000000
namespace Go.Proofs.YtgkcdgaljknohaaGreatDoor
open Go.Aw
def sCount:Str:=[99,111,117,110,116,32]
def sLook:Str:=[108,111,111,107,32]
def sSay:Str:=[115,97,121,32]
def runLine (b:DBuilder) (ss:List DSheet) (x:DLine):DBuilder×Str×Str:=
 if x.op=1 then (b,x.text.map markC,[])
 else if x.op=2 then (if (1≤b.nodes.length∧b.nodes.length≤39)∧isName x.text=true then ({b with nodes:=b.nodes++[⟨x.text,[],0,[]⟩]},[],[]) else (b,[],[]))
 else if x.op=3 then (b,[],sCount++x.text++[32]++Lib.itoa (countName b x.text))
 else if x.op=4 then (b,[],sLook++x.text++[32]++Lib.itoa (colorOf ss x.text))
 else if x.op=5 then (b,[],sSay++x.text)
 else (b,[],[])
end Go.Proofs.YtgkcdgaljknohaaGreatDoor

set_option maxRecDepth 4000
set_option maxHeartbeats 4000000
namespace Go.Proofs.YtgkcdgaljknohaaGreatDoor
open Go.Aw
theorem implRun1 [Tabs Tryz.prog] [HasPow Tryz.prog] (b:DBuilder) (ss:List DSheet) (x:DLine) (hs:szBuilder b≤274877906944) (hx:x.text.length≤268435456) (hl:ss.length≤1099511627776) (hr:∀x∈ss,x.rules.length≤1099511627776) (hco:∀n,0≤colorOf ss n∧colorOf ss n≤999) (hop:x.op=1):
  Ok Tryz.prog 186 [.agg (eBuilder .view b),.sl .view 1 (ss.map (eSheet .view)),.agg (eLine x)] (.tup [.agg (eBuilder .own (runLine b ss x).1),.str (runLine b ss x).2.1,.str (runLine b ss x).2.2]):=by
 have c1:=copyBuilder_ok b hs
 have hn:b.nodes.length≤274877906944:=by simp only [szBuilder,szL] at hs;omega
 obtain ⟨op,tx⟩:=x
 simp only at hx hop
 have c2:=implMarkupOf_ok tx (by omega)
 have c3:=implCountName_ok b tx (by omega)
 have c4:=implColorOf_ok ss tx hl hr
 have c5:=implIsName_ok tx (by omega)
 have c6:=implIn_ok (b.nodes.length:Int) 1 39
 have hcn:0≤countName b tx∧countName b tx≤(b.nodes.length:Int):=by
  unfold countName
  have:=List.length_filter_le (fun x:DNode=>decide (x.name=tx)) b.nodes
  omega
 have hcc:=hco tx
 have c7:=implFormatInt_ok (countName b tx) (by omega)
 have c8:=implFormatInt_ok (colorOf ss tx) (by omega)
 have z7:=itoa_len (countName b tx) (by omega) (by omega)
 have z8:=itoa_len (colorOf ss tx) (by omega) (by omega)
 simp only [eBuilder] at c1 c3
 clear hr hco
 simp only [runLine,sCount,sLook,sSay]
 generalize Lib.itoa (countName b tx)=i7 at *
 generalize Lib.itoa (colorOf ss tx)=i8 at *
 generalize countName b tx=cn at *
 generalize colorOf ss tx=cc at *
 subst hop
 rw [if_pos rfl]
 refine ent Tryz.mix Tryz.func186 Tryz.ntmps186 ?_
 have W:=trivial
 repeat' first|refine we ?_|(refine sq (fun hc=>?_) (fun hc=>?_)<;>try exact hc.elim)|fail
 all_goals (try (refine ⟨.inr rfl,?_⟩;simp [Hands,Tryz.results186]))
end Go.Proofs.YtgkcdgaljknohaaGreatDoor
