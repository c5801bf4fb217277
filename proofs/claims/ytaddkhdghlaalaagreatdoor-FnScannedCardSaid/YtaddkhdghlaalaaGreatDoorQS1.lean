/-
  Proved here: steps towards the statement of this claim, text QS1.
  No condition beyond what each statement spells out.
-/
import Derived.Test.YtaddkhdghlaalaaGreatDoorQR5
import Derived.Test.YtaddkhdghlaalaaGreatDoorQ1
import Derived.Test.YtaddkhdghlaalaaGreatDoorF3
import Derived.Test.YtaddkhdghlaalaaGreatDoorF6
import Derived.Test.YtaddkhdghlaalaaGreatDoorQT1
set_option linter.all false
set_option maxRecDepth 4000
set_option maxHeartbeats 4000000
namespace Go.Proofs.YtaddkhdghlaalaaGreatDoor
open Go.Aw
theorem aZ0 [aB Tryz.prog] [dB Tryz.prog] (s:Str) (c:UInt8) (hs:s.length < 4294967281):Ok Tryz.prog 129 [.str s,.str [c]] (.sl .own 1 ((bF c s).map bX)):=bB5 Tryz.laysM146 (by kernel_rfl) s c hs
def bW:bE:=⟨0,[],[],[]⟩
def jE (w:Str):Str:=w.take (ixB 61 w)
def lJ (w:Str):Str:=w.drop (ixB 61 w+1)
def fF:List Str→List iJ→Option (List iJ)
 |[],acc=>some acc
 |w::ws,acc=>if (decide (ixB 61 w < w.length)&&bU (jE w)&&gG (lJ w)&& !(aP acc (jE w)).2)=true then fF ws (acc++[⟨jE w,lJ w⟩]) else none
def vT (w0:Str) (ws:List Str):bE×Bool:=
 if bU w0=true∧ws.length≤4 then (match fF ws [] with
  |some l=>(⟨1,w0,l,[]⟩,true)
  |none=>(bW,false)) else (bW,false)
def iZ (s:Str):bE×Bool:=
 if 60 < s.length then (bW,false)
 else if pfx [47] s=true then (if bU (s.drop 1)=true then (⟨2,s.drop 1,[],[]⟩,true) else (bW,false))
 else vT (s.take (ixB 32 s)) (if ixB 32 s < s.length then bF 32 (s.drop (ixB 32 s+1)) else [])
theorem qV (c:UInt8) (s:Str):bF c s=s.take (ixB c s)::(if ixB c s < s.length then bF c (s.drop (ixB c s+1)) else []):=by
 rw [aGo]
 have h:=oU c s
 split
 ·rfl
 ·rw [List.take_of_length_le (by omega)]
theorem aJb {w0:Str} {ws:List Str} (h:¬(bU w0=true∧ws.length≤4)):vT w0 ws=(bW,false):=by unfold vT;rw [if_neg h]
theorem aK7 {w0:Str} {ws:List Str} (h:fF ws []=none):vT w0 ws=(bW,false):=by
 unfold vT;rw [h];split<;>rfl
theorem aKb {w0:Str} {ws:List Str} {l:List iJ} (h1:bU w0=true) (h2:ws.length≤4) (h:fF ws []=some l):vT w0 ws=(⟨1,w0,l,[]⟩,true):=by
 unfold vT;rw [h,if_pos ⟨h1,h2⟩]
theorem aBe:∀(ws:List Str) (acc l:List iJ),fF ws acc=some l→l.length=acc.length+ws.length
 |[],acc,l,h=>by simp only [fF,Option.some.injEq] at h;subst h;simp
 |w::ws,acc,l,h=>by
  simp only [fF] at h
  split at h
  ·have:=aBe ws _ l h
   simp at this⊢;omega
  ·cases h
theorem aI4:∀(ws:List Str) (acc l:List iJ),fF ws acc=some l→szL lI l≤szL lI acc+aK dH ws
 |[],acc,l,h=>by simp only [fF,Option.some.injEq] at h;subst h;simp [aK]
 |w::ws,acc,l,h=>by
  simp only [fF] at h
  split at h
  ·rename_i hc
   simp only [Bool.and_eq_true,decide_eq_true_eq] at hc
   have:=aI4 ws _ l h
   have hj:∀a b:List iJ,aK lI (a++b)=aK lI a+aK lI b:=by
    intro a b
    induction a with
    |nil=>simp [aK]
    |cons x xs ih=>simp only [List.cons_append,aK,ih];omega
   simp only [szL,hj,aK,lI,jE,lJ,List.length_append,List.length_take,List.length_drop,List.length_cons,List.length_nil,dH] at this⊢
   omega
  ·cases h
theorem zT (c:UInt8):∀s:Str,aK dH (bF c s)≤s.length
 |[]=>by simp [bF,aK,dH]
 |x::s=>by
  have ih:=zT c s
  simp only [bF]
  split
  ·simp only [aK,dH,List.length_nil,List.length_cons] at ih⊢;omega
  ·split
   ·rename_i h0;exact absurd h0 (pR c s)
   ·rename_i p q h0
    rw [h0] at ih
    simp only [aK,dH,List.length_cons] at ih⊢;omega
theorem aQ8 (s:Str):bN (iZ s).1≤s.length:=by
 have hn:bN bW=0:=by simp [bW,bN,szL,aK]
 unfold iZ
 split
 ·simp only [hn];omega
 ·split
  ·split
   ·simp [bN,szL,aK]
   ·simp only [hn];omega
  ·have hs:=zT 32 s
   rw [qV] at hs
   simp only [aK,dH] at hs
   generalize (if ixB 32 s < s.length then bF 32 (s.drop (ixB 32 s+1)) else [])=ws at *
   unfold vT
   split
   ·split
    ·rename_i l hl
     have:=aI4 ws [] l hl
     simp only [bN,szL,aK,List.length_nil] at this⊢
     omega
    ·simp only [hn];omega
   ·simp only [hn];omega
theorem aTq [aB Tryz.prog] [dB Tryz.prog] (s:Str) (hl:s.length≤1099511627776):Ok Tryz.prog 101 [.str s] (.tup [.agg (bL .own (iZ s).1),.bool (iZ s).2]):=by
 by_cases h60:(60:Int) < (s.length:Int)
 ·have hr:iZ s=(bW,false):=by unfold iZ;rw [if_pos (by omega)]
  rw [hr]
  refine aBb Tryz.mix Tryz.func101 Tryz.ntmps101 ?_
  have W:=h60
  refine we ?_
  all_goals (try (first|(refine ⟨.inr rfl,.inl ?_⟩;simp [Hands,Tryz.results101,bW];done)|(refine ⟨.inr rfl,.inr (eT ?_)⟩;simp [AS.rvB,AS.rvs,AS.rv,Tryz.results101,bW];done)|(refine ⟨.inr rfl,.inl ?_⟩;simp [Hands,Tryz.results101,bW])))
 have c0:=aTs s [47] hl (by simp)
 cases hp:pfx [47] s
 case true=>
  rw [hp] at c0
  simp only [if_true] at c0
  have c1:=qH (s.drop 1) (by simp;omega)
  simp only [List.length_cons,List.length_nil,Nat.zero_add,Nat.reduceAdd] at c0
  generalize hs1:s.drop 1=s1 at *
  cases hn:bU s1
  ·have hr:iZ s=(bW,false):=by unfold iZ;rw [if_neg (by omega),if_pos hp,hs1,hn];rfl
   rw [hr]
   rw [hn] at c1
   refine aBb Tryz.mix Tryz.func101 Tryz.ntmps101 ?_
   have W:=h60
   refine we ?_
   all_goals (try (first|(refine ⟨.inr rfl,.inl ?_⟩;simp [Hands,Tryz.results101,bW];done)|(refine ⟨.inr rfl,.inr (eT ?_)⟩;simp [AS.rvB,AS.rvs,AS.rv,Tryz.results101,bW];done)|(refine ⟨.inr rfl,.inl ?_⟩;simp [Hands,Tryz.results101,bW])))
  ·have hr:iZ s=(⟨2,s1,[],[]⟩,true):=by unfold iZ;rw [if_neg (by omega),if_pos hp,hs1,hn];rfl
   rw [hr]
   rw [hn] at c1
   refine aBb Tryz.mix Tryz.func101 Tryz.ntmps101 ?_
   have W:=h60
   refine we ?_
   all_goals (try (first|(refine ⟨.inr rfl,.inl ?_⟩;simp [Hands,Tryz.results101];done)|(refine ⟨.inr rfl,.inr (eT ?_)⟩;simp [AS.rvB,AS.rvs,AS.rv,Tryz.results101];done)|(refine ⟨.inr rfl,.inl ?_⟩;simp [Hands,Tryz.results101])))
 case false=>
  rw [hp] at c0
  simp only [Bool.false_eq_true,if_false] at c0
  have hr:iZ s=vT (s.take (ixB 32 s)) (if ixB 32 s < s.length then bF 32 (s.drop (ixB 32 s+1)) else []):=by unfold iZ;rw [if_neg (by omega),if_neg (by rw [hp];simp)]
  have c2:=aZ0 s 32 (by omega)
  have hsl:=jO 32 s
  have hcn:s.count 32≤s.length:=List.count_le_length
  have hsm:=zT 32 s
  rw [qV] at c2 hsl hsm
  rw [hr]
  have c1:=qH (s.take (ixB 32 s)) (by simp;omega)
  generalize (if ixB 32 s < s.length then bF 32 (s.drop (ixB 32 s+1)) else [])=ws at *
  generalize s.take (ixB 32 s)=w0 at *
  simp only [aK,dH,List.length_cons] at hsl hsm
  simp only [List.map_cons] at c2
  clear hr hp
  have hw1:IntKind.i64.wrap ((ws.length:Int)+1 - 1)=(ws.length:Int):=by rw [wrap64]<;>omega
  have htk:List.take ws.length (ws.map bX)=ws.map bX:=List.take_of_length_le (by simp)
  cases hn:bU w0
  ·rw [aJb (by rw [hn];simp)]
   rw [hn] at c1
   refine aBb Tryz.mix Tryz.func101 Tryz.ntmps101 ?_
   have W:=And.intro h60 hw1
   refine we ?_
   all_goals (try (first|(refine ⟨.inr rfl,.inl ?_⟩;simp [Hands,Tryz.results101,bW];done)|(refine ⟨.inr rfl,.inr (eT ?_)⟩;simp [AS.rvB,AS.rvs,AS.rv,Tryz.results101,bW];done)|(refine ⟨.inr rfl,.inl ?_⟩;simp [Hands,Tryz.results101,bW])))
  rw [hn] at c1
  by_cases h4:(4:Int) < (ws.length:Int)
  ·rw [aJb (by omega)]
   refine aBb Tryz.mix Tryz.func101 Tryz.ntmps101 ?_
   have W:=And.intro h60 (And.intro hw1 h4)
   refine we ?_
   all_goals (try (first|(refine ⟨.inr rfl,.inl ?_⟩;simp [Hands,Tryz.results101,bW];done)|(refine ⟨.inr rfl,.inr (eT ?_)⟩;simp [AS.rvB,AS.rvs,AS.rv,Tryz.results101,bW];done)|(refine ⟨.inr rfl,.inl ?_⟩;simp [Hands,Tryz.results101,bW])))
  have hnone:=fun h=>aK7 (w0:=w0) (ws:=ws) h
  have hsome:=fun l=>aKb (w0:=w0) (ws:=ws) (l:=l) hn (by omega)
  generalize vT w0 ws=res at *
  refine aBb Tryz.mix Tryz.func101 Tryz.ntmps101 ?_
  have W:=And.intro h60 (And.intro hw1 (And.intro h4 htk))
  refine we ?_
  refine aR (ι:={q:Nat×Nat×List iJ // (q.1≤ws.length∧1≤q.2.1)∧q.2.2.length=q.1∧fF ws []=fF (ws.drop q.1) q.2.2}) (fun t o i=>⟨aS t [(52,.int .i64 i.1.1),(48,.undef)],[⟨true,true,4,0,[[.int .i64 0,.str [],.sl .own 2 [],.str []]]⟩,⟨true,false,1,2,ws.map bX⟩,⟨true,true,4,0,[[.int .i64 1,.str w0,.obj 3 i.1.2.1,.str []]]⟩,⟨true,false,2,i.1.2.1,i.1.2.2.map mW⟩]⟩)
   (fun i=>ws.length - i.1.1) ⟨(0,1,[]),by simp,by simp,by simp⟩ (sP 2 0 2 (ob:=⟨true,true,4,0,[[.int .i64 1,.str w0,.sl .own 2 [],.str []]]⟩) (by rfl) (by rfl) (by rfl) (by simp) (by rfl) (by rfl) (by simp) (by simp [rtc,rt,eZ])) ?_
  rintro ⟨⟨k,v,acc⟩,⟨hk,hv⟩,hacc,hgo⟩ K1 hK1
  simp only at hk hv hacc hgo
  simp only [aS,List.set_cons_succ,List.set_cons_zero] at hK1⊢
  have hk1:=wk1 (k:=k) (by omega)
  by_cases hlt:k < ws.length
  ·have hg:=List.getElem?_eq_getElem hlt
   have hwz:=fM dH ws k hlt
   rw [List.drop_eq_getElem_cons hlt] at hgo
   simp only [dH] at hwz
   have cC:=aFk ws[k] 61 (by omega)
   have cN:=qH (jE ws[k]) (by simp [jE];omega)
   have cV:=aD1 (lJ ws[k]) (by simp [lJ];omega)
   have cF:=qL acc (jE ws[k]) (by omega)
   have hbad:(decide (ixB 61 ws[k] < ws[k].length)&&bU (jE ws[k])&&gG (lJ ws[k])&& !(aP acc (jE ws[k])).2)=false→res=(bW,false):=fun h=>hnone (by rw [hgo];simp only [fF];rw [h];rfl)
   have hnext:(decide (ixB 61 ws[k] < ws[k].length)&&bU (jE ws[k])&&gG (lJ ws[k])&& !(aP acc (jE ws[k])).2)=true→fF ws []=fF (ws.drop (k+1)) (acc++[⟨jE ws[k],lJ ws[k]⟩]):=fun h=>by rw [hgo];simp only [fF];rw [if_pos h]
   change Ok _ _ _ (.tup [.str (jE ws[k]),.str (lJ ws[k]),.bool (decide (ixB 61 ws[k] < ws[k].length))]) at cC
   clear hgo hnone hsome
   generalize decide (ixB 61 ws[k] < ws[k].length)=b1 at *
   generalize bU (jE ws[k])=b2 at *
   generalize gG (lJ ws[k])=b3 at *
   generalize aP acc (jE ws[k])=fa at *
   obtain ⟨fv,b4⟩:=fa
   generalize jE ws[k]=ky at *
   generalize lJ ws[k]=vl at *
   simp only at cF hbad hnext
   cases b1
   ·rw [hbad (by simp)]
    clear hbad hnext hK1
    have W:=And.intro hk1 (And.intro hg hlt)
    refine we ?_
    all_goals (try (first|(refine ⟨.inr rfl,.inl ?_⟩;simp [Hands,Tryz.results101,bW];done)|(refine ⟨.inr rfl,.inr (eT ?_)⟩;simp [AS.rvB,AS.rvs,AS.rv,Tryz.results101,bW];done)|(refine ⟨.inr rfl,.inl ?_⟩;simp [Hands,Tryz.results101,bW])))
   cases b2
   ·rw [hbad (by simp)]
    clear hbad hnext hK1
    have W:=And.intro hk1 (And.intro hg hlt)
    refine we ?_
    all_goals (try (first|(refine ⟨.inr rfl,.inl ?_⟩;simp [Hands,Tryz.results101,bW];done)|(refine ⟨.inr rfl,.inr (eT ?_)⟩;simp [AS.rvB,AS.rvs,AS.rv,Tryz.results101,bW];done)|(refine ⟨.inr rfl,.inl ?_⟩;simp [Hands,Tryz.results101,bW])))
   cases b3
   ·rw [hbad (by simp)]
    clear hbad hnext hK1
    have W:=And.intro hk1 (And.intro hg hlt)
    refine we ?_
    all_goals (try (first|(refine ⟨.inr rfl,.inl ?_⟩;simp [Hands,Tryz.results101,bW];done)|(refine ⟨.inr rfl,.inr (eT ?_)⟩;simp [AS.rvB,AS.rvs,AS.rv,Tryz.results101,bW];done)|(refine ⟨.inr rfl,.inl ?_⟩;simp [Hands,Tryz.results101,bW])))
   cases b4
   ·have hn2:=hnext (by simp)
    clear hbad hnext
    have W:=And.intro hk1 (And.intro hg hlt)
    refine we ?_
    all_goals refine hK1 _ ⟨(k+1,v+1,acc++[⟨ky,vl⟩]),⟨by simp only;omega,by simp only;omega⟩,by simp;omega,hn2⟩ (aN 4) (by simp only;omega)
   ·rw [hbad (by simp)]
    clear hbad hnext hK1
    have W:=And.intro hk1 (And.intro hg hlt)
    refine we ?_
    all_goals (try (first|(refine ⟨.inr rfl,.inl ?_⟩;simp [Hands,Tryz.results101,bW];done)|(refine ⟨.inr rfl,.inr (eT ?_)⟩;simp [AS.rvB,AS.rvs,AS.rv,Tryz.results101,bW];done)|(refine ⟨.inr rfl,.inl ?_⟩;simp [Hands,Tryz.results101,bW])))
  ·have hdn:ws.drop k=[]:=List.drop_of_length_le (by omega)
   rw [hdn] at hgo
   rw [hsome acc (by rw [hgo];rfl)]
   clear hK1
   have W:=hk1
   refine we ?_
   all_goals (try (first|(refine ⟨.inr rfl,.inl ?_⟩;simp [Hands,Tryz.results101];done)|(refine ⟨.inr rfl,.inr (eT ?_)⟩;simp [AS.rvB,AS.rvs,AS.rv,Tryz.results101];done)|(refine ⟨.inr rfl,.inl ?_⟩;simp [Hands,Tryz.results101])))
def aEz (p:Str):Str:=p.take (ixB 58 p)
def vC (p:Str):Str:=p.drop (ixB 58 p+1)
def oQ (p:Str):Option xE:=match uE (vC p) with
 |some v=>if bU (aEz p)=true∧1≤v∧v≤999 then some ⟨aEz p,v⟩ else none
 |none=>none
def lU (l:List Str):List xE:=(l.filterMap oQ).take 8
def xL (s:Str):fT:=⟨lU (bF 59 s)⟩
theorem aHd {p:Str} (h:uE (vC p)=none):oQ p=none:=by rw [oQ,h]
theorem aUr {p:Str} (h:bU (aEz p)=false):oQ p=none:=by
 unfold oQ
 split
 ·rw [if_neg (by simp [h])]
 ·rfl
theorem aYv {p:Str} {v:Int} (h:uE (vC p)=some v) (h1:¬(1≤v∧v≤999)):oQ p=none:=by
 rw [oQ,h];exact if_neg (fun h=>h1 h.2)
theorem aWy {p:Str} {v:Int} (h:uE (vC p)=some v) (hn:bU (aEz p)=true) (h1:1≤v∧v≤999):oQ p=some ⟨aEz p,v⟩:=by
 rw [oQ,h];exact if_pos ⟨hn,h1⟩
theorem aXs {l:List Str} {k:Nat} (h:k < l.length) (hr:oQ l[k]=none):lU (l.take (k+1))=lU (l.take k):=by
 unfold lU
 rw [List.take_succ_eq_append_getElem h,List.filterMap_append]
 simp [hr]
theorem aYk {l:List Str} {k:Nat} {r:xE} (h:k < l.length) (hr:oQ l[k]=some r) (h8:(lU (l.take k)).length < 8):lU (l.take (k+1))=lU (l.take k)++[r]:=by
 unfold lU at *
 rw [List.take_succ_eq_append_getElem h,List.filterMap_append]
 simp only [List.length_take] at h8
 simp only [List.filterMap_cons,hr,List.filterMap_nil]
 generalize (l.take k).filterMap oQ=x at *
 rw [List.take_of_length_le (l:=x++[r]) (by simp;omega),List.take_of_length_le (l:=x) (by omega)]
theorem aWx {l:List Str} {k:Nat} (h8:¬(lU (l.take k)).length < 8):lU l=lU (l.take k):=by
 unfold lU at *
 conv=>lhs;rw [←List.take_append_drop k l,List.filterMap_append]
 simp only [List.length_take] at h8
 rw [List.take_append_of_le_length (by omega)]
theorem bCb (l:List Str):(lU l).length≤8:=by unfold lU;simp;omega
theorem aW9 {p:Str} {x:UInt8} (hx:x∈vC p) (h:x=58):uE (vC p)=none:=by
 obtain ⟨k,hk,e⟩:=List.mem_iff_getElem.1 hx
 refine aTl hk ?_
 rw [e,h];decide
theorem bG1 (p:Str):(bF 58 p=[aEz p,vC p])∨((bF 58 p).length≠2∧oQ p=none):=by
 rw [qV]
 by_cases h:ixB 58 p < p.length
 ·rw [if_pos h]
  by_cases h2:∀x∈vC p,x≠58
  ·left
   rw [show p.drop (ixB 58 p+1)=vC p from rfl,aBc _ _ h2];rfl
  ·right
   have ⟨x,hx⟩:=Classical.not_forall.1 h2
   have ⟨hm,hne⟩:=Classical.not_imp.1 hx
   have hx58:=Classical.not_not.1 hne
   refine ⟨?_,aHd (aW9 hm hx58)⟩
   rw [show p.drop (ixB 58 p+1)=vC p from rfl,List.length_cons,jO]
   have:0 < (vC p).count 58:=List.count_pos_iff.2 (hx58▸hm)
   omega
 ·right
  rw [if_neg h]
  refine ⟨by simp,aHd ?_⟩
  have e:vC p=[]:=by
   unfold vC
   exact List.drop_eq_nil_of_le (by omega)
  rw [e]
  exact aNv (by simp)
theorem aIf [aB Tryz.prog] [dB Tryz.prog] (s:Str) (hl:s.length≤1073741824):Ok Tryz.prog 192 [.str s] (.agg (fD .own (xL s))):=by
 have cS:Ok Tryz.prog 65 [.str s,.int .u8 59] (.sl .own 1 ((bF 59 s).map bX)):=sO s 59 (by omega)
 have hsm:=zT 59 s
 have hsl:=jO 59 s
 have hcn:s.count 59≤s.length:=List.count_le_length
 unfold xL
 generalize bF 59 s=l at *
 have hll:l.length≤1073741825:=by omega
 simp only [fD]
 refine ent Tryz.mix Tryz.func192 Tryz.ntmps192 ?_
 refine aW ?_
 refine aR (ι:={q:Nat×Nat×List xE // (q.1≤l.length∧1≤q.2.1)∧q.2.2=lU (l.take q.1)}) (fun t o i=>⟨aS t [(5,.int .i64 i.1.1),(9,.undef)],o.take 1++[⟨true,true,1,0,[[.obj 3 i.1.2.1]]⟩,⟨true,false,1,1,l.map bX⟩,⟨true,false,2,i.1.2.1,i.1.2.2.map vQ⟩]⟩)
  (fun i=>l.length - i.1.1) ⟨(0,1,[]),by simp,by simp [lU]⟩ (sP 1 0 0 (ob:=⟨true,true,1,0,[[.sl .own 2 []]]⟩) (by rfl) (by rfl) (by rfl) (by simp) (by rfl) (by rfl) (by simp) (by simp [rtc,rt,eZ])) ?_
 rintro ⟨⟨k,v,acc⟩,⟨hk,hv⟩,hacc⟩ K1 hK1
 simp only at hk hv hacc
 simp only [aS,List.set_cons_succ,List.set_cons_zero,List.take_succ_cons,List.take_zero,List.cons_append,List.nil_append] at hK1⊢
 have hk1:=wk1 (k:=k) (by omega)
 have hgl:(acc.map vQ).length=acc.length:=by simp
 by_cases hlt:k < l.length
 ·have hg:=List.getElem?_eq_getElem hlt
  by_cases h8:acc.length < 8
  ·have h8i:((acc.length:Int) < 8):=by omega
   have hwz:=fM dH l k hlt
   simp only [dH] at hwz
   have cC:Ok Tryz.prog 65 [.str l[k],.int .u8 58] (.sl .own 1 ((bF 58 l[k]).map bX)):=sO l[k] 58 (by omega)
   have cN:=dW (aEz l[k]) (by simp [aEz];omega)
   have cP:=aK4 (vC l[k]) (by simp [vC];omega)
   have n1:= @aXs l k hlt
   have n2:=fun r=> @aYk l k r hlt
   have r1:= @aHd l[k]
   have r2:= @aUr l[k]
   have r3:=fun v=> @aYv l[k] v
   have r4:=fun v=> @aWy l[k] v
   have h2:=bG1 l[k]
   have hsg:=jO 58 l[k]
   have hcg:l[k].count 58≤l[k].length:=List.count_le_length
   rw [←hacc] at n1 n2
   generalize hE2:lU (l.take (k+1))=acc2 at *
   generalize hrl:oQ l[k]=ru at *
   generalize aEz l[k]=ky at *
   generalize vC l[k]=vl at *
   generalize bF 58 l[k]=ps at *
   rcases h2 with h2|⟨h2,hr⟩
   ·subst h2
    simp only [List.map_cons,List.map_nil,bX] at cC
    cases hn:bU ky with
    |false=>
     rw [hn] at cN
     have e2:=n1 (r2 hn)
     clear r1 r2 r3 r4 n1 n2
     have W:=And.intro hk1 (And.intro hg (And.intro hlt h8i))
     refine we ?_
     exact hK1 _ ⟨(k+1,v,acc),⟨by simp only;omega,hv⟩,(by simp only;rw [hE2];exact e2.symm)⟩ (aN 4) (by simp only;omega)
    |true=>
     rw [hn] at cN
     cases hp:uE vl with
     |none=>
      rw [xO hp] at cP
      have e2:=n1 (r1 hp)
      clear r1 r2 r3 r4 n1 n2
      have W:=And.intro hk1 (And.intro hg (And.intro hlt h8i))
      refine we ?_
      exact hK1 _ ⟨(k+1,v,acc),⟨by simp only;omega,hv⟩,(by simp only;rw [hE2];exact e2.symm)⟩ (aN 4) (by simp only;omega)
     |some x=>
      rw [aL7 hp] at cP
      have cR:=eQ x 1 999
      by_cases hx:1≤x∧x≤999
      ·have hb:(decide ((1:Int)≤x)&&decide (x≤(999:Int)))=true:=by simp;omega
       rw [hb] at cR
       have e2:=n2 _ (r4 x hp hn hx) h8
       clear r1 r2 r3 r4 n1 n2
       have hps:acc2.map vQ=acc.map vQ++[vQ ⟨ky,x⟩]:=by rw [e2];simp
       have W:=And.intro hk1 (And.intro hg (And.intro hlt (And.intro h8i hgl)))
       refine we ?_
       all_goals exact hK1 _ ⟨(k+1,v+1,acc2),⟨by simp only;omega,by simp only;omega⟩,(by simp only;exact hE2.symm)⟩ (aN 4 (by simp [hps])) (by simp only;omega)
      ·have hb:(decide ((1:Int)≤x)&&decide (x≤(999:Int)))=false:=by simp only [Bool.and_eq_false_iff,decide_eq_false_iff_not];omega
       rw [hb] at cR
       have e2:=n1 (r3 x hp hx)
       clear r1 r2 r3 r4 n1 n2
       have W:=And.intro hk1 (And.intro hg (And.intro hlt h8i))
       refine we ?_
       exact hK1 _ ⟨(k+1,v,acc),⟨by simp only;omega,hv⟩,(by simp only;rw [hE2];exact e2.symm)⟩ (aN 4) (by simp only;omega)
   ·have e2:=n1 hr
    have h2i:¬((ps.length:Int)=2):=by omega
    clear r1 r2 r3 r4 n1 n2 cN cP
    have W:=And.intro hk1 (And.intro hg (And.intro hlt (And.intro h8i h2i)))
    refine we ?_
    exact hK1 _ ⟨(k+1,v,acc),⟨by simp only;omega,hv⟩,(by simp only;rw [hE2];exact e2.symm)⟩ (aN 4) (by simp only;omega)
  ·have h8i:¬((acc.length:Int) < 8):=by omega
   have hf:=aWx (l:=l) (k:=k) (by rw [←hacc];exact h8)
   rw [←hacc] at hf
   rw [hf]
   have W:=And.intro hk1 (And.intro hg (And.intro hlt (And.intro h8i hgl)))
   refine we ?_
   exact aM Tryz.results192
 ·have htk:l.take k=l:=List.take_of_length_le (by omega)
  rw [htk] at hacc
  subst hacc
  have W:=hk1
  refine we ?_
  exact aM Tryz.results192
end Go.Proofs.YtaddkhdghlaalaaGreatDoor
