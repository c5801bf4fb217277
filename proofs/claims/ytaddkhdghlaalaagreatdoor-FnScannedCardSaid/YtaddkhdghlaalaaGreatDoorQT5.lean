/-
  Proved here: steps towards the statement of this claim, text QT5.
  No condition beyond what each statement spells out.
-/
import Derived.Test.YtaddkhdghlaalaaGreatDoorQS1
import Derived.Test.YtaddkhdghlaalaaGreatDoorQMK1
import Derived.Test.YtaddkhdghlaalaaGreatDoorQD1
import Derived.Test.YtaddkhdghlaalaaGreatDoorF8
set_option linter.all false
set_option maxRecDepth 4000
set_option maxHeartbeats 4000000
namespace Go.Proofs.YtaddkhdghlaalaaGreatDoor
open Go.Aw
def aH4 (x:iK):Bool:=decide (x.mode=2)&&x.done&&decide (x.code=1)
def mI (l:List iK):List fT:=(l.filter aH4).map fun x=>xL x.body
def dM (p:aC):List fT:=mI p.slots
theorem aYs {l:List iK} {k:Nat} (h:k < l.length) (ho:aH4 l[k]=true):mI (l.take (k+1))=mI (l.take k)++[xL l[k].body]:=by
 unfold mI
 rw [List.take_succ_eq_append_getElem h,List.filter_append,List.map_append]
 simp [ho]
theorem aZb {l:List iK} {k:Nat} (h:k < l.length) (ho:aH4 l[k]=false):mI (l.take (k+1))=mI (l.take k):=by
 unfold mI
 rw [List.take_succ_eq_append_getElem h,List.filter_append]
 simp [ho]
theorem aF5 (l:List iK):(mI l).length≤l.length:=by
 unfold mI;rw [List.length_map];exact List.length_filter_le _ _
theorem aCb [aB Tryz.prog] [dB Tryz.prog] (p:aC) (hs:szL kH p.slots≤1073741824):Ok Tryz.prog 173 [.agg (aG .view p)] (.sl .own 1 ((dM p).map (fD .own))):=by
 simp only [szL] at hs
 unfold dM
 simp only [aG]
 generalize p.slots=l at *
 refine ent Tryz.mix Tryz.func173 Tryz.ntmps173 ?_
 refine bA ?_
 refine aR (ι:={q:Nat×Nat×List fT // (q.1≤l.length∧1≤q.2.1)∧q.2.2=mI (l.take q.1)}) (fun t o i=>⟨aS t [(4,.int .i64 i.1.1),(3,.obj 1 i.1.2.1)],o.take 1++[⟨true,false,1,i.1.2.1,i.1.2.2.map (fD .own)⟩]⟩)
  (fun i=>l.length - i.1.1) ⟨(0,1,[]),by simp,by simp [mI]⟩ aO ?_
 rintro ⟨⟨k,v,acc⟩,⟨hk,hv⟩,hacc⟩ K1 hK1
 simp only at hk hv hacc
 simp only [aS,List.set_cons_succ,List.set_cons_zero,List.take_succ_cons,List.take_zero,List.cons_append,List.nil_append] at hK1⊢
 have hk1:=wk1 (k:=k) (by omega)
 by_cases hlt:k < l.length
 ·have hg:=List.getElem?_eq_getElem hlt
  have hwz:=fM kH l k hlt
  simp only [kH] at hwz
  have cP:=aIf l[k].body (by omega)
  have n1:= @aZb l k hlt
  have n2:= @aYs l k hlt
  have hal:acc.length≤k:=by rw [hacc];have:=aF5 (l.take k);rw [List.length_take] at this;omega
  have hgl:(acc.map (fD .own)).length=acc.length:=by simp
  rw [←hacc] at n1 n2
  generalize hE2:mI (l.take (k+1))=acc2 at *
  generalize xL l[k].body=sh at *
  unfold aH4 at n1 n2
  by_cases h1:l[k].mode=2
  ·cases h2:l[k].done
   ·have e2:=n1 (by simp [h2])
    have W:=And.intro hk1 (And.intro hg (And.intro hlt (And.intro h1 h2)))
    refine wl ?_
    all_goals exact hK1 _ ⟨(k+1,v,acc),⟨by simp only;omega,hv⟩,(by simp only;rw [hE2];exact e2.symm)⟩ (aN 2) (by simp only;omega)
   ·by_cases h3:l[k].code=1
    ·have e2:=n2 (by simp [h1,h2,h3])
     have hps:acc2.map (fD .own)=acc.map (fD .own)++[fD .own sh]:=by rw [e2];simp
     simp only [fD] at cP
     clear n1 n2
     generalize acc.map (fD .own)=g at *
     have W:=And.intro hk1 (And.intro hg (And.intro hlt (And.intro h1 (And.intro h2 (And.intro h3 hgl)))))
     refine wl ?_
     all_goals exact hK1 _ ⟨(k+1,v+1,acc2),⟨by simp only;omega,by simp only;omega⟩,(by simp only;exact hE2.symm)⟩ (aN 2 (by simp [hps])) (by simp only;omega)
    ·have e2:=n1 (by simp [h3])
     have W:=And.intro hk1 (And.intro hg (And.intro hlt (And.intro h1 (And.intro h2 h3))))
     refine wl ?_
     all_goals exact hK1 _ ⟨(k+1,v,acc),⟨by simp only;omega,hv⟩,(by simp only;rw [hE2];exact e2.symm)⟩ (aN 2) (by simp only;omega)
  ·have e2:=n1 (by simp [h1])
   have W:=And.intro hk1 (And.intro hg (And.intro hlt h1))
   refine wl ?_
   all_goals exact hK1 _ ⟨(k+1,v,acc),⟨by simp only;omega,hv⟩,(by simp only;rw [hE2];exact e2.symm)⟩ (aN 2) (by simp only;omega)
 ·have htk:l.take k=l:=List.take_of_length_le (by omega)
  rw [htk] at hacc
  subst hacc
  have W:=hk1
  refine wl ?_
  exact aM Tryz.results173
def look {α:Type} (f:α→Option Int) (l:List α) (k:Nat):Option Int:=((l.take k).reverse).findSome? f
theorem aOp {α:Type} (f:α→Option Int) {l:List α} {k:Nat} (h:k < l.length):look f l (k+1)=match f l[k] with|some x=>some x|none=>look f l k:=by
 unfold look
 rw [List.take_succ_eq_append_getElem h,List.reverse_append]
 simp only [List.reverse_cons,List.reverse_nil,List.nil_append,List.singleton_append,List.findSome?_cons]
 cases f l[k]<;>rfl
theorem aOl {α:Type} (f:α→Option Int) (l:List α):look f l 0=none:=rfl
def aH7 (n:Str) (r:xE):Option Int:=if r.name=n then some r.color else none
def aAc (n:Str) (s:fT):Option Int:=look (aH7 n) s.rules s.rules.length
def cB (ss:List fT) (n:Str):Int:=(look (aAc n) ss ss.length).getD 0
theorem pO [aB Tryz.prog] (ss:List fT) (n:Str) (hl:ss.length≤1099511627776) (hr:∀x∈ss,x.rules.length≤1099511627776):Ok Tryz.prog 208 [.sl .view 1 (ss.map (fD .view)),.str n] (.int .i64 (cB ss n)):=by
 unfold cB
 refine ent Tryz.mix Tryz.func208 Tryz.ntmps208 ?_
 refine bA ?_
 refine aR (ι:={k:Nat // k≤ss.length∧look (aAc n) ss ss.length=look (aAc n) ss k}) (fun t o i=>⟨aS t [(5,.int .i64 ((i.1:Int) - 1))],o⟩)
  (fun i=>i.1) ⟨ss.length,by simp,rfl⟩ aO ?_
 rintro ⟨k,hk,hi⟩ K1 hK1
 simp only [aS,List.set_cons_succ,List.set_cons_zero] at hK1 hi hk⊢
 cases k with
 |zero=>
  rw [hi,aOl]
  refine bA ?_
  exact aM Tryz.results208
 |succ k=>
  have hlt:k < ss.length:=by omega
  have hk0:(((k+1:Nat):Int) - 1)=(k:Int):=by omega
  have hg:=List.getElem?_eq_getElem hlt
  have hk1:IntKind.i64.wrap ((k:Int) - 1)=(k:Int) - 1:=by rw [wrap64]<;>omega
  have hrl:=hr _ (List.getElem_mem hlt)
  have hls:=aOp (aAc n) hlt
  have hsc:aAc n ss[k]=look (aH7 n) ss[k].rules ss[k].rules.length:=rfl
  have hw6:IntKind.i64.wrap ((ss[k].rules.length:Int) - 1)=(ss[k].rules.length:Int) - 1:=by rw [wrap64]<;>omega
  rw [hk0]
  have W:=And.intro hlt (And.intro hg hw6)
  refine wl ?_
  refine aR (ι:={m:Nat // m≤ss[k].rules.length∧aAc n ss[k]=look (aH7 n) ss[k].rules m}) (fun t o i=>⟨aS t [(6,.int .i64 ((i.1:Int) - 1))],o⟩)
   (fun i=>i.1) ⟨ss[k].rules.length,by simp,rfl⟩ aO ?_
  rintro ⟨m,hm,hj⟩ K2 hK2
  simp only [aS,List.set_cons_succ,List.set_cons_zero] at hK2 hm hj⊢
  cases m with
  |zero=>
   rw [hj,aOl] at hls
   simp only at hls
   have W:=hk1
   refine wl ?_
   exact hK1 _ ⟨k,by omega,by rw [hi,hls]⟩ aO (by simp only;omega)
  |succ m=>
   have hlm:m < ss[k].rules.length:=by omega
   have hm0:(((m+1:Nat):Int) - 1)=(m:Int):=by omega
   have hgm:=List.getElem?_eq_getElem hlm
   have hm1:IntKind.i64.wrap ((m:Int) - 1)=(m:Int) - 1:=by rw [wrap64]<;>omega
   have hlr:=aOp (aH7 n) hlm
   have hrc:aH7 n ss[k].rules[m]=if ss[k].rules[m].name=n then some ss[k].rules[m].color else none:=rfl
   rw [hm0]
   by_cases hn:ss[k].rules[m].name=n
   ·rw [if_pos hn] at hrc
    rw [hrc] at hlr
    simp only at hlr
    rw [hj,hlr] at hls
    simp only at hls
    rw [hi,hls]
    have W:=And.intro hlt (And.intro hg (And.intro hlm (And.intro hgm hn)))
    refine wl ?_
    exact aM Tryz.results208
   ·rw [if_neg hn] at hrc
    rw [hrc] at hlr
    simp only at hlr
    have W:=And.intro hlt (And.intro hg (And.intro hlm (And.intro hgm (And.intro hn hm1))))
    repeat' first|refine st ?_|(refine nx ?_;refine so ?_)|(refine cx ?_;refine sc (fun hc=>?_) (fun hc=>?_)<;>try exact hc.elim)|(refine lx ?_;refine sp (fun hc=>?_) (fun hc=>?_)<;>try exact hc.elim)|refine sx ?_ ?_|refine sy ?_ ?_|fail
    ·exact absurd hc hn
    ·exact hK2 _ ⟨m,by omega,by rw [hj,hlr]⟩ aO (by simp only;omega)
theorem nH [aB Tryz.prog] (b:aX) (n:Str) (hl:b.nodes.length≤1099511627776):Ok Tryz.prog 207 [.agg (aZ .view b),.str n] (.int .i64 (bM b n)):=by
 refine ent Tryz.mix Tryz.func207 Tryz.ntmps207 ?_
 refine aW ?_
 refine aR (ι:={k:Nat // k≤b.nodes.length}) (fun t o i=>⟨aS t [(6,.int .i64 i.1),(5,.int .i64 ((((b.nodes.take i.1).filter fun x=>decide (x.name=n)).length:Nat):Int))],o⟩)
  (fun i=>b.nodes.length - i.1) ⟨0,by simp⟩ aO ?_
 rintro ⟨k,hk⟩ K1 hK1
 simp only [aS,List.set_cons_succ,List.set_cons_zero] at hK1⊢
 have hk1:=wk1 (k:=k) (by omega)
 by_cases hlt:k < b.nodes.length
 ·have hg:=List.getElem?_eq_getElem hlt
  have hst:=aY2 b n k hlt
  have hcl:((b.nodes.take k).filter fun x=>decide (x.name=n)).length≤b.nodes.length:=by
   refine Nat.le_trans (List.length_filter_le _ _) ?_
   simp;omega
  generalize ((b.nodes.take k).filter fun x=>decide (x.name=n)).length=c at *
  have hc1:IntKind.i64.wrap ((c:Int)+1)=((c+1:Nat):Int):=by rw [wrap64]<;>omega
  by_cases hn:b.nodes[k].name=n
  ·have hnb:(b.nodes[k].name == n)=true:=by simpa using hn
   rw [if_pos hn] at hst
   have W:=And.intro hk1 (And.intro hc1 (And.intro hg (And.intro hlt hnb)))
   refine we ?_
   all_goals exact hK1 _ ⟨k+1,by omega⟩ (aO (by simp) (by simp [hst])) (by simp only;omega)
  ·have hnb:(b.nodes[k].name == n)=false:=by simpa using hn
   rw [if_neg hn] at hst
   have W:=And.intro hk1 (And.intro hc1 (And.intro hg (And.intro hlt hnb)))
   refine we ?_
   all_goals exact hK1 _ ⟨k+1,by omega⟩ (aO (by simp) (by simp [hst])) (by simp only;omega)
 ·have htk:b.nodes.take k=b.nodes:=List.take_of_length_le (by omega)
  rw [htk]
  have W:=hk1
  refine we ?_
  all_goals (try (refine ⟨.inr rfl,?_⟩;simp [Hands,Tryz.results207,bM]))
def zU:Str:=[99,111,117,110,116,32]
def aB7:Str:=[108,111,111,107,32]
def aG9:Str:=[115,97,121,32]
def dO (b:aX) (ss:List fT) (x:iG):aX×Str×Str:=
 if x.op=1 then (b,x.text.map uN,[])
 else if x.op=2 then (if (1≤b.nodes.length∧b.nodes.length≤39)∧bU x.text=true then ({b with nodes:=b.nodes++[⟨x.text,[],0,[]⟩]},[],[]) else (b,[],[]))
 else if x.op=3 then (b,[],zU++x.text++[32]++Lib.itoa (bM b x.text))
 else if x.op=4 then (b,[],aB7++x.text++[32]++Lib.itoa (cB ss x.text))
 else if x.op=5 then (b,[],aG9++x.text)
 else (b,[],[])
theorem bCx [aB Tryz.prog] (b:aX) (ss:List fT) (x:iG) (hs:aU b≤274877906944) (hx:x.text.length≤268435456) (hl:ss.length≤1099511627776) (hr:∀x∈ss,x.rules.length≤1099511627776) (hco:∀n,0≤cB ss n∧cB ss n≤999) (hop:x.op=1):
  Ok Tryz.prog 191 [.agg (aZ .view b),.sl .view 1 (ss.map (fD .view)),.agg (mM x)] (.tup [.agg (aZ .own (dO b ss x).1),.str (dO b ss x).2.1,.str (dO b ss x).2.2]):=by
 have c1:=jM b hs
 have hn:b.nodes.length≤274877906944:=by simp only [aU,szL] at hs;omega
 obtain ⟨op,tx⟩:=x
 simp only at hx hop
 have c2:=nZ tx (by omega)
 have c3:=nH b tx (by omega)
 have c4:=pO ss tx hl hr
 have c5:=dW tx (by omega)
 have c6:=eQ (b.nodes.length:Int) 1 39
 have hcn:0≤bM b tx∧bM b tx≤(b.nodes.length:Int):=by
  unfold bM
  have:=List.length_filter_le (fun x:gW=>decide (x.name=tx)) b.nodes
  omega
 have hcc:=hco tx
 have c7:=eX (bM b tx) (by omega)
 have c8:=eX (cB ss tx) (by omega)
 have z7:=lS (bM b tx) (by omega) (by omega)
 have z8:=lS (cB ss tx) (by omega) (by omega)
 simp only [aZ] at c1 c3
 clear hr hco
 simp only [dO,zU,aB7,aG9]
 generalize Lib.itoa (bM b tx)=i7 at *
 generalize Lib.itoa (cB ss tx)=i8 at *
 generalize bM b tx=cn at *
 generalize cB ss tx=cc at *
 subst hop
 rw [if_pos rfl]
 refine ent Tryz.mix Tryz.func191 Tryz.ntmps191 ?_
 refine aW ?_
 exact aM Tryz.results191
theorem bDu [aB Tryz.prog] (b:aX) (ss:List fT) (x:iG) (hs:aU b≤274877906944) (hx:x.text.length≤268435456) (hl:ss.length≤1099511627776) (hr:∀x∈ss,x.rules.length≤1099511627776) (hco:∀n,0≤cB ss n∧cB ss n≤999) (hop:x.op=2):
  Ok Tryz.prog 191 [.agg (aZ .view b),.sl .view 1 (ss.map (fD .view)),.agg (mM x)] (.tup [.agg (aZ .own (dO b ss x).1),.str (dO b ss x).2.1,.str (dO b ss x).2.2]):=by
 have c1:=jM b hs
 have hn:b.nodes.length≤274877906944:=by simp only [aU,szL] at hs;omega
 obtain ⟨op,tx⟩:=x
 simp only at hx hop
 have c2:=nZ tx (by omega)
 have c3:=nH b tx (by omega)
 have c4:=pO ss tx hl hr
 have c5:=dW tx (by omega)
 have c6:=eQ (b.nodes.length:Int) 1 39
 have hcn:0≤bM b tx∧bM b tx≤(b.nodes.length:Int):=by
  unfold bM
  have:=List.length_filter_le (fun x:gW=>decide (x.name=tx)) b.nodes
  omega
 have hcc:=hco tx
 have c7:=eX (bM b tx) (by omega)
 have c8:=eX (cB ss tx) (by omega)
 have z7:=lS (bM b tx) (by omega) (by omega)
 have z8:=lS (cB ss tx) (by omega) (by omega)
 simp only [aZ] at c1 c3
 clear hr hco
 simp only [dO,zU,aB7,aG9]
 generalize Lib.itoa (bM b tx)=i7 at *
 generalize Lib.itoa (cB ss tx)=i8 at *
 generalize bM b tx=cn at *
 generalize cB ss tx=cc at *
 subst hop
 rw [if_neg (by decide),if_pos rfl]
 by_cases hc:(1≤b.nodes.length∧b.nodes.length≤39)∧bU tx=true
 ·rw [if_pos hc]
  rw [show (decide ((1:Int)≤(b.nodes.length:Int))&&decide ((b.nodes.length:Int)≤39))=true from by simp;omega] at c6
  rw [hc.2] at c5
  obtain ⟨l0,hl0⟩:∃l,l=b.nodes++[(⟨tx,[],0,[]⟩:gW)]:=⟨_,rfl⟩
  have hap:b.nodes.map (dY .own)++[[.str tx,.str [],.int .i64 0,.sl .own 2 []]]=l0.map (dY .own):=by rw [hl0];simp
  rw [←hl0]
  clear hl0 hc
  refine ent Tryz.mix Tryz.func191 Tryz.ntmps191 ?_
  have W:=And.intro hap hn
  refine we ?_
  exact aM Tryz.results191
 ·rw [if_neg hc]
  by_cases hc1:1≤b.nodes.length∧b.nodes.length≤39
  ·have hc2:bU tx=false:=by
    cases h:bU tx with
    |false=>rfl
    |true=>exact absurd ⟨hc1,h⟩ hc
   rw [show (decide ((1:Int)≤(b.nodes.length:Int))&&decide ((b.nodes.length:Int)≤39))=true from by simp;omega] at c6
   rw [hc2] at c5
   clear hc
   refine ent Tryz.mix Tryz.func191 Tryz.ntmps191 ?_
   refine aW ?_
   exact aM Tryz.results191
  ·rw [show (decide ((1:Int)≤(b.nodes.length:Int))&&decide ((b.nodes.length:Int)≤39))=false from by simp;omega] at c6
   clear hc
   refine ent Tryz.mix Tryz.func191 Tryz.ntmps191 ?_
   refine aW ?_
   exact aM Tryz.results191
theorem bBr [aB Tryz.prog] (b:aX) (ss:List fT) (x:iG) (hs:aU b≤274877906944) (hx:x.text.length≤268435456) (hl:ss.length≤1099511627776) (hr:∀x∈ss,x.rules.length≤1099511627776) (hco:∀n,0≤cB ss n∧cB ss n≤999) (hop:¬x.op=1∧¬x.op=2∧¬x.op=3∧¬x.op=4∧¬x.op=5):
  Ok Tryz.prog 191 [.agg (aZ .view b),.sl .view 1 (ss.map (fD .view)),.agg (mM x)] (.tup [.agg (aZ .own (dO b ss x).1),.str (dO b ss x).2.1,.str (dO b ss x).2.2]):=by
 have c1:=jM b hs
 have hn:b.nodes.length≤274877906944:=by simp only [aU,szL] at hs;omega
 obtain ⟨op,tx⟩:=x
 simp only at hx hop
 have c2:=nZ tx (by omega)
 have c3:=nH b tx (by omega)
 have c4:=pO ss tx hl hr
 have c5:=dW tx (by omega)
 have c6:=eQ (b.nodes.length:Int) 1 39
 have hcn:0≤bM b tx∧bM b tx≤(b.nodes.length:Int):=by
  unfold bM
  have:=List.length_filter_le (fun x:gW=>decide (x.name=tx)) b.nodes
  omega
 have hcc:=hco tx
 have c7:=eX (bM b tx) (by omega)
 have c8:=eX (cB ss tx) (by omega)
 have z7:=lS (bM b tx) (by omega) (by omega)
 have z8:=lS (cB ss tx) (by omega) (by omega)
 simp only [aZ] at c1 c3
 clear hr hco
 simp only [dO,zU,aB7,aG9]
 generalize Lib.itoa (bM b tx)=i7 at *
 generalize Lib.itoa (cB ss tx)=i8 at *
 generalize bM b tx=cn at *
 generalize cB ss tx=cc at *
 obtain ⟨h1,h2,h3,h4,h5⟩:=hop
 rw [if_neg h1,if_neg h2,if_neg h3,if_neg h4,if_neg h5]
 refine ent Tryz.mix Tryz.func191 Tryz.ntmps191 ?_
 have W:=And.intro h1 (And.intro h2 (And.intro h3 (And.intro h4 h5)))
 refine we ?_
 exact aM Tryz.results191
theorem bCi [aB Tryz.prog] (b:aX) (ss:List fT) (x:iG) (hs:aU b≤274877906944) (hx:x.text.length≤268435456) (hl:ss.length≤1099511627776) (hr:∀x∈ss,x.rules.length≤1099511627776) (hco:∀n,0≤cB ss n∧cB ss n≤999) (hop:x.op=3):
  Ok Tryz.prog 191 [.agg (aZ .view b),.sl .view 1 (ss.map (fD .view)),.agg (mM x)] (.tup [.agg (aZ .own (dO b ss x).1),.str (dO b ss x).2.1,.str (dO b ss x).2.2]):=by
 have c1:=jM b hs
 have hn:b.nodes.length≤274877906944:=by simp only [aU,szL] at hs;omega
 obtain ⟨op,tx⟩:=x
 simp only at hx hop
 have c2:=nZ tx (by omega)
 have c3:=nH b tx (by omega)
 have c4:=pO ss tx hl hr
 have c5:=dW tx (by omega)
 have c6:=eQ (b.nodes.length:Int) 1 39
 have hcn:0≤bM b tx∧bM b tx≤(b.nodes.length:Int):=by
  unfold bM
  have:=List.length_filter_le (fun x:gW=>decide (x.name=tx)) b.nodes
  omega
 have hcc:=hco tx
 have c7:=eX (bM b tx) (by omega)
 have c8:=eX (cB ss tx) (by omega)
 have z7:=lS (bM b tx) (by omega) (by omega)
 have z8:=lS (cB ss tx) (by omega) (by omega)
 simp only [aZ] at c1 c3
 clear hr hco
 simp only [dO,zU,aB7,aG9]
 generalize Lib.itoa (bM b tx)=i7 at *
 generalize Lib.itoa (cB ss tx)=i8 at *
 generalize bM b tx=cn at *
 generalize cB ss tx=cc at *
 subst hop
 rw [if_neg (by decide),if_neg (by decide),if_pos rfl]
 clear c2 c4 c5 c6 c8 z8 hcc hl
 have z7l:i7.length≤40:=by omega
 refine rJ Tryz.mix [10] Tryz.func191 Tryz.ntmps191 ?_
 refine aW ?_
 rw [rG]
 refine aQx (fun J=>⟨[.undef,.sl .view 1 (ss.map (fD .view)),.undef,.ptr 0 0 0 0,.undef,.ptr 1 0 0 0,.ptr 2 0 0 0,dv J 12 (.str []),dv J 13 (.str ([99,111,117,110,116,32]++tx++[32]++i7)),.ptr 5 0 0 0,.undef,.undef,.undef,.undef,.undef,.undef,.undef,.undef,.undef,.undef,.undef,.undef,.undef,.undef,.undef,.undef,.undef,.undef,.undef,.undef,.undef,.undef,.undef,.undef,.undef,.undef,.undef,.undef,.undef,.undef,.undef,.undef,dv J 0 (.agg [.obj 3 1,.obj 4 1]),dv J 1 (.ptr 1 0 0 1),dv J 2 (.str tx),dv J 3 (.str ([99,111,117,110,116,32]++tx)),dv J 4 (.str ([99,111,117,110,116,32]++tx++[32])),dv J 5 (.agg [.sl .view 4 (b.nodes.map (dY .view)),.sl .view 1 (b.opens.map jI)]),dv J 6 (.ptr 1 0 0 1),dv J 7 (.str tx),dv J 8 (.int .i64 cn),dv J 9 (.str i7),dv J 10 (.str ([99,111,117,110,116,32]++tx++[32]++i7)),.undef,.undef,.undef,.undef,.undef,.undef,.undef,.undef,.undef,.undef,.undef,.undef,.undef,.undef,.undef,.undef,.undef,.undef,.undef,.undef],[⟨true,true,2,0,[[.sl .view 4 (b.nodes.map (dY .view)),.sl .view 1 (b.opens.map jI)]]⟩,⟨true,true,2,0,[[.int .i64 3,.str tx]]⟩,⟨true,true,2,0,[if J 11=true then [.obj 3 1,.obj 4 1] else [.sl .own 4 [],.sl .own 1 []]]⟩,⟨true,false,4,1,b.nodes.map (dY .own)⟩,⟨true,false,1,1,b.opens.map jI⟩,⟨true,true,2,0,[[.obj 3 1,.obj 4 1]]⟩]⟩) (aO (by simp [dv,hx,z7l]) (by simp [dv,hx,z7l])) (by decide) ?_ ?_
 ·simp only [wQ,and_true]
  refine ⟨⟨trivial,fun J h1 h2=>jV fun K hK=> ?_⟩,⟨trivial,fun J h1 h2=>jV fun K hK=> ?_⟩,⟨trivial,fun J h1 h2=>jV fun K hK=> ?_⟩,⟨trivial,fun J h1 h2=>jV fun K hK=> ?_⟩,⟨trivial,fun J h1 h2=>jV fun K hK=> ?_⟩,⟨trivial,fun J h1 h2=>jV fun K hK=> ?_⟩,⟨trivial,fun J h1 h2=>jV fun K hK=> ?_⟩,⟨trivial,fun J h1 h2=>jV fun K hK=> ?_⟩,⟨trivial,fun J h1 h2=>jV fun K hK=> ?_⟩,⟨trivial,fun J h1 h2=>jV fun K hK=> ?_⟩,⟨trivial,fun J h1 h2=>jV fun K hK=> ?_⟩,⟨trivial,fun J h1 h2=>jV fun K hK=> ?_⟩,⟨trivial,fun J h1 h2=>jV fun K hK=> ?_⟩,⟨trivial,fun J h1 h2=>jV fun K hK=> ?_⟩⟩
  all_goals simp [Region.binds] at h2
  all_goals first
   |(simp [-Bool.exists_bool,aop,dv,h1,h2,hx,z7l];refine ⟨_,(c3),hK _ (aO ?_ ?_)⟩<;>simp [dv,upd,h1,h2])
   |(simp [-Bool.exists_bool,aop,dv,h1,h2,hx,z7l];refine ⟨_,(c7),hK _ (aO ?_ ?_)⟩<;>simp [dv,upd,h1,h2])
   |(simp [-Bool.exists_bool,aop,dv,h1,h2,hx,z7l];refine ⟨?_,hK _ (aO ?_ ?_)⟩;(focus omega);all_goals simp [dv,upd,h1,h2])
   |(simp [-Bool.exists_bool,aop,dv,h1,h2,hx,z7l];refine hK _ (aO ?_ ?_)<;>simp [dv,upd,h1,h2])
 ·intro J hJ
  have hJs:J 0=true∧J 1=true∧J 2=true∧J 3=true∧J 4=true∧J 5=true∧J 6=true∧J 7=true∧J 8=true∧J 9=true∧J 10=true∧J 11=true∧J 12=true∧J 13=true:=⟨hJ 0 (by decide),hJ 1 (by decide),hJ 2 (by decide),hJ 3 (by decide),hJ 4 (by decide),hJ 5 (by decide),hJ 6 (by decide),hJ 7 (by decide),hJ 8 (by decide),hJ 9 (by decide),hJ 10 (by decide),hJ 11 (by decide),hJ 12 (by decide),hJ 13 (by decide)⟩
  simp only [dv,hJs,if_true]
  clear hJs hJ J
  refine aW ?_
  exact aM Tryz.results191
end Go.Proofs.YtaddkhdghlaalaaGreatDoor
