/-
  Proved here: contracts of Mod, Hash and BytesToInts, in the reference and in the program.
  No condition beyond what each statement spells out.
-/
import Derived.Test.YtgkllebnnakojaaGreatDoorQFI
import Derived.Test.YtgkllebnnakojaaGreatDoorQA0
import Derived.Test.YtgkllebnnakojaaGreatDoorF4
import Derived.Test.YtgkllebnnakojaaGreatDoorF5
import Derived.Test.YtgkllebnnakojaaGreatDoorQP5
import Derived.Test.YtgkllebnnakojaaGreatDoorF6
set_option linter.all false
set_option maxRecDepth 4000
set_option maxHeartbeats 4000000
namespace Go.Proofs.YtgkllebnnakojaaGreatDoor
open Go.Aw
theorem aX2 (v:Int):(0≤v∧v.tmod 2147483647=v % 2147483647)∨(v < 0∧∃r,v.tmod 2147483647= -r∧0≤r∧r < 2147483647∧(r=0→v % 2147483647=0)∧(r≠0→v % 2147483647=2147483647 - r)):=by
 by_cases h:0≤v
 ·exact .inl ⟨h,Int.tmod_eq_emod_of_nonneg h⟩
 ·right
  obtain ⟨u,hu⟩:∃u:Nat,v= -(u:Int):=⟨v.natAbs,by omega⟩
  subst hu
  refine ⟨by omega,((u % 2147483647:Nat):Int),by rw [Int.neg_tmod];rfl,by omega,by omega,by omega,by omega⟩
theorem aO4 [aB Tryz.prog] (v:Int) (h:rgI v):Ok Tryz.prog 157 [.int .i64 v,.int .i64 2147483647] (.int .i64 (v % 2147483647)):=by
 have c1:=mD 2147483647 1 1000000000000
 rw [show (decide ((1:Int)≤2147483647)&&decide ((2147483647:Int)≤1000000000000))=true by decide] at c1
 obtain ⟨h1,h2⟩:=h
 rcases aX2 v with ⟨h0,hm⟩|⟨h0,r,hm,hr0,hr1,hz,hnz⟩
 ·have hm2:(v % 2147483647+2147483647).tmod 2147483647=v % 2147483647:=by
   rw [Int.tmod_eq_emod_of_nonneg (by omega)];omega
  have hb1:0≤v % 2147483647:=by omega
  have hb2:v % 2147483647 < 2147483647:=by omega
  generalize v % 2147483647=m at *
  refine ent Tryz.mix Tryz.func157 Tryz.ntmps157 ?_
  have W:=And.intro hm hm2
  repeat' first|refine st ?_|(refine nx ?_;refine so ?_)|(refine cx ?_;refine sc (fun hc=>?_) (fun hc=>?_)<;>try exact hc.elim)|(refine lx ?_;refine sp (fun hc=>?_) (fun hc=>?_)<;>try exact hc.elim)|refine sx ?_ ?_|refine sy ?_ ?_|fail
  all_goals (try (refine ⟨.inr rfl,?_⟩;simp [Hands,Tryz.results157]))
 ·have hm2:(-r+2147483647).tmod 2147483647=v % 2147483647:=by
   rw [Int.tmod_eq_emod_of_nonneg (by omega)]
   by_cases e:r=0
   ·rw [hz e,e];rfl
   ·rw [hnz e];omega
  generalize v % 2147483647=m at *
  refine ent Tryz.mix Tryz.func157 Tryz.ntmps157 ?_
  have W:=And.intro hm hm2
  repeat' first|refine st ?_|(refine nx ?_;refine so ?_)|(refine cx ?_;refine sc (fun hc=>?_) (fun hc=>?_)<;>try exact hc.elim)|(refine lx ?_;refine sp (fun hc=>?_) (fun hc=>?_)<;>try exact hc.elim)|refine sx ?_ ?_|refine sy ?_ ?_|fail
  all_goals (try (refine ⟨.inr rfl,?_⟩;simp [Hands,Tryz.results157]))
def nU (acc v:Int):Int:=(acc * 1000003+v % 2147483647+13) % 2147483647
def lL (l:List Int):Int:=l.foldl nU 11
theorem aMb:∀(l:List Int),0≤lL l∧lL l < 2147483647:=by
 have:∀(l:List Int) (a:Int),0≤a∧a < 2147483647→0≤l.foldl nU a∧l.foldl nU a < 2147483647:=by
  intro l
  induction l with
  |nil=>intro a h;exact h
  |cons x l ih=>intro a h;exact ih _ (by unfold nU;omega)
 intro l
 exact this l 11 (by omega)
theorem aNj (l:List Int) (k:Nat) (h:k < l.length):lL (l.take (k+1))=nU (lL (l.take k)) l[k]:=by
 unfold lL
 rw [List.take_succ_eq_append_getElem h,List.foldl_append]
 rfl
theorem aLv [aB Tryz.prog] (l:List Int) (hl:l.length≤1099511627776) (hr:∀y∈l,rgI y):Ok Tryz.prog 153 [.sl .view 1 (l.map kM)] (.int .i64 (lL l)):=by
 refine ent Tryz.mix Tryz.func153 Tryz.ntmps153 ?_
 have W:=trivial
 repeat' first|refine st ?_|(refine nx ?_;refine so ?_)|(refine cx ?_;refine sc (fun hc=>?_) (fun hc=>?_)<;>try exact hc.elim)|(refine lx ?_;refine sp (fun hc=>?_) (fun hc=>?_)<;>try exact hc.elim)|refine sx ?_ ?_|refine sy ?_ ?_|fail
 refine aT (ι:={k:Nat // k≤l.length}) (fun t o i=>⟨bB t [(4,.int .i64 i.1),(3,.int .i64 (lL (l.take i.1)))],o⟩)
  (fun i=>l.length - i.1) ⟨0,by simp⟩ (aI (by simp) (by simp [lL])) ?_
 rintro ⟨k,hk⟩ K1 hK1
 simp only [bB,List.set_cons_succ,List.set_cons_zero] at hK1⊢
 have hk1:IntKind.i64.wrap ((k:Int)+1)=((k+1:Nat):Int):=by rw [wrap64]<;>omega
 by_cases hlt:k < l.length
 ·have hg:=List.getElem?_eq_getElem hlt
  have hs:=aNj l k hlt
  have hb:=aMb (l.take k)
  have c1:=aO4 l[k] (hr _ (List.getElem_mem hlt))
  have hm:(lL (l.take k) * 1000003+l[k] % 2147483647+13).tmod 2147483647=lL (l.take (k+1)):=by
   rw [hs,Int.tmod_eq_emod_of_nonneg (by omega)];rfl
  have hb1:0≤l[k] % 2147483647:=by omega
  have hb2:l[k] % 2147483647 < 2147483647:=by omega
  clear hs
  generalize ha':lL (l.take (k+1))=a' at *
  generalize lL (l.take k)=a at *
  generalize l[k] % 2147483647=m at *
  have W:=And.intro hk1 (And.intro hg (And.intro hlt hm))
  repeat' first|refine st ?_|(refine nx ?_;refine so ?_)|(refine cx ?_;refine sc (fun hc=>?_) (fun hc=>?_)<;>try exact hc.elim)|(refine lx ?_;refine sp (fun hc=>?_) (fun hc=>?_)<;>try exact hc.elim)|refine sx ?_ ?_|refine sy ?_ ?_|fail
  all_goals exact hK1 _ ⟨k+1,by omega⟩ (aI (by simp) (by simp [ha'])) (by simp only;omega)
 ·have htk:l.take k=l:=List.take_of_length_le (by omega)
  rw [htk]
  have W:=hk1
  repeat' first|refine st ?_|(refine nx ?_;refine so ?_)|(refine cx ?_;refine sc (fun hc=>?_) (fun hc=>?_)<;>try exact hc.elim)|(refine lx ?_;refine sp (fun hc=>?_) (fun hc=>?_)<;>try exact hc.elim)|refine sx ?_ ?_|refine sy ?_ ?_|fail
  all_goals (try (refine ⟨.inr rfl,?_⟩;simp [Hands,Tryz.results153]))
def xY (s:Str):List Int:=yF (fun c:UInt8=>(c.toNat:Int)) s
def jW (s:Str):List Int:=(s.length:Int)::xY s
theorem aId (s:Str) (k:Nat) (h:k < s.length):(aP s)[k]? =some [.int .u8 s[k].toNat]:=by
 simp [aP,h]
theorem aAk [aB Tryz.prog] (s:Str) (hl:s.length≤1099511627776):Ok Tryz.prog 154 [.sl .view 1 (aP s)] (.sl .own 1 ((jW s).map kM)):=by
 have hbl:=mO s
 refine ent Tryz.mix Tryz.func154 Tryz.ntmps154 ?_
 have W:=hbl
 repeat' first|refine st ?_|(refine nx ?_;refine so ?_)|(refine cx ?_;refine sc (fun hc=>?_) (fun hc=>?_)<;>try exact hc.elim)|(refine lx ?_;refine sp (fun hc=>?_) (fun hc=>?_)<;>try exact hc.elim)|refine sx ?_ ?_|refine sy ?_ ?_|fail
 refine aT (ι:={q:Nat×Nat // q.1≤s.length∧1≤q.2}) (fun t o i=>⟨bB t [(3,.obj 0 i.1.2),(4,.int .i64 i.1.1)],o.take 0++[⟨true,false,1,i.1.2,((s.length:Int)::xY (s.take i.1.1)).map kM⟩]⟩)
  (fun i=>s.length - i.1.1) ⟨(0,1),by simp,by first|(simp;done)|(simp only;omega)⟩ (aI (by simp [xY]) (by simp)) ?_
 rintro ⟨⟨k,v⟩,hk,hv⟩ K1 hK1
 simp only at hk hv
 simp only [bB,List.set_cons_succ,List.set_cons_zero,List.take_succ_cons,List.take_zero,List.cons_append,List.nil_append] at hK1⊢
 have hk1:IntKind.i64.wrap ((k:Int)+1)=((k+1:Nat):Int):=by rw [wrap64]<;>omega
 by_cases hlt:k < s.length
 ·have hg:=aId s k hlt
  have hps:=aP5 (fun c:UInt8=>(c.toNat:Int)) s k hlt
  have hpl:=aL5 (fun c:UInt8=>(c.toNat:Int)) (s.take k)
  have htl:(s.take k).length=k:=by simp;omega
  have hu:s[k].toNat < 256:=UInt8.toNat_lt s[k]
  have hlb:k < (aP s).length:=by omega
  simp only [xY] at hK1⊢
  generalize yF (fun c:UInt8=>(c.toNat:Int)) (s.take k)=g at *
  have W:=And.intro hk1 (And.intro hg hbl)
  have V:=And.intro hk1 (And.intro hlt hbl)
  repeat' first|refine st ?_|(refine nx ?_;refine so ?_)|(refine cx ?_;refine sc (fun hc=>?_) (fun hc=>?_)<;>try exact hc.elim)|(refine lx ?_;refine sp (fun hc=>?_) (fun hc=>?_)<;>try exact hc.elim)|refine sx ?_ ?_|refine sy ?_ ?_|fail
  all_goals refine hK1 _ ⟨(k+1,v+1),by simp only;omega,by simp only;omega⟩ (aO 1 (by simp [hps]) (by simp) (by simp) (by simp)) (by simp only;omega)
 ·have htk:s.take k=s:=List.take_of_length_le (by omega)
  rw [htk]
  have W:=And.intro hk1 hbl
  repeat' first|refine st ?_|(refine nx ?_;refine so ?_)|(refine cx ?_;refine sc (fun hc=>?_) (fun hc=>?_)<;>try exact hc.elim)|(refine lx ?_;refine sp (fun hc=>?_) (fun hc=>?_)<;>try exact hc.elim)|refine sx ?_ ?_|refine sy ?_ ?_|fail
  all_goals (try (refine ⟨.inr rfl,?_⟩;simp [Hands,Tryz.results154,jW]))
@[simp] theorem aUb (f:Tg→Option Tg) (b:Bool) (l:Str):rtr f b (aP l)=aP l:=by
 induction l with
 |nil=>rfl
 |cons x l ih=>simp only [aP,List.map_cons,rtr,rtc,rt] at ih⊢;rw [ih]
def rO (s:Str):Int:=lL (151::jW s)
theorem aS9 (s:Str) (h:s.length≤60000000):∀y∈(151::jW s),rgI y:=by
 intro y hy
 unfold rgI
 rcases List.mem_cons.1 hy with rfl|hy
 ·omega
 rcases List.mem_cons.1 hy with rfl|hy
 ·omega
 ·simp only [xY,yF,List.mem_map] at hy
  obtain ⟨c,_,rfl⟩:=hy
  have:c.toNat < 256:=UInt8.toNat_lt c
  omega
theorem aGy (s:Str):(jW s).length=s.length+1:=by simp [jW,xY,yF]
theorem aSx (l:List Int):0≤lL l∧lL l≤2147483647:=by
 unfold lL
 have:∀(l:List Int) (a:Int),0≤a∧a≤2147483647→0≤l.foldl nU a∧l.foldl nU a≤2147483647:=by
  intro l
  induction l with
  |nil=>intro a h;exact h
  |cons x l ih=>
   intro a _
   refine ih _ ?_
   unfold nU
   omega
 exact this l 11 (by omega)
theorem aDv [aB Tryz.prog] [cO Tryz.prog] (s:Str) (hl:s.length≤1048576):Ok Tryz.prog 143 [.str s] (.int .i64 (rO s)):=by
 have c3:=aAk s (by omega)
 have c4:=aLv (151::jW s) (by simp only [List.length_cons,aGy];omega) (aS9 _ (by omega))
 have hil:=aGy s
 have hq:(jW s).length≤1048577:=by omega
 simp only [List.map_cons] at c4
 unfold rO
 generalize jW s=q at *
 refine ent Tryz.mix Tryz.func143 Tryz.ntmps143 ?_
 have W:=trivial
 repeat' first|refine st ?_|(refine nx ?_;first|refine se ?_|refine so ?_|refine sb ?_)|(refine cx ?_;refine sc (fun hc=>?_) (fun hc=>?_)<;>try exact hc.elim)|(refine lx ?_;refine sp (fun hc=>?_) (fun hc=>?_)<;>try exact hc.elim)|refine sx ?_ ?_|refine sy ?_ ?_|fail
 all_goals (try (refine ⟨.inr rfl,?_⟩;simp [Hands,Tryz.results143]))
def rV (body v:Str):Bool:=v == [] || v == Lib.itoa (rO body)
theorem aBi [aB Tryz.prog] [cO Tryz.prog] (s v:Str) (hl:s.length≤1048576):Ok Tryz.prog 117 [.str s,.str v] (.bool (rV s v)):=by
 have c1:=aDv s hl
 have hr:=aSx (151::jW s)
 have c2:=aDn (rO s) (by unfold rO;omega)
 unfold rV
 generalize rO s=d at *
 generalize Lib.itoa d=t at *
 refine ent Tryz.mix Tryz.func117 Tryz.ntmps117 ?_
 have W:=trivial
 repeat' first|refine st ?_|(refine nx ?_;first|refine se ?_|refine so ?_|refine sb ?_)|(refine cx ?_;refine sc (fun hc=>?_) (fun hc=>?_)<;>try exact hc.elim)|(refine lx ?_;refine sp (fun hc=>?_) (fun hc=>?_)<;>try exact hc.elim)|refine sx ?_ ?_|refine sy ?_ ?_|fail
 all_goals (try (refine ⟨.inr rfl,?_⟩;simp [Hands,Tryz.results117]))
 all_goals simp_all
def yZ (x:aZ) (k:Int):Bool:=decide (x.kind=k) || (decide (k=5)&&decide (x.kind=2))
theorem aDs [aB Tryz.prog] [cO Tryz.prog] (x:aZ) (k:Int):Ok Tryz.prog 116 [.agg (bU x),.int .i64 k] (.bool (yZ x k)):=by
 unfold yZ
 refine ent Tryz.mix Tryz.func116 Tryz.ntmps116 ?_
 have W:=trivial
 repeat' first|refine st ?_|(refine nx ?_;first|refine se ?_|refine so ?_|refine sb ?_)|(refine cx ?_;refine sc (fun hc=>?_) (fun hc=>?_)<;>try exact hc.elim)|(refine lx ?_;refine sp (fun hc=>?_) (fun hc=>?_)<;>try exact hc.elim)|refine sx ?_ ?_|refine sy ?_ ?_|fail
 all_goals (try (refine ⟨.inr rfl,?_⟩;simp [Hands,Tryz.results116]))
 all_goals first|(simp_all;done)|(by_cases hk2:x.kind=2<;>simp_all)
def aLa (r:gG) (x:aZ):Bool:=decide (r.frm≠r.to.host)&& !x.shares&&(decide (r.kind=5) || decide (r.digest≠[]))
def gJ (p:dE) (r:gG) (x:aZ):Int:=
 if kJ p r≠1 then 2 else if eG x=false∨x.status≠200 then 3 else if yZ x r.kind=false then 4 else if aLa r x=true then 5 else if rV x.body r.digest=false then 6 else 1
theorem qG [aB Tryz.prog] [cO Tryz.prog] (p:dE) (r:gG) (x:aZ) (hp:dK p≤274877906944) (hr:lZ r≤274877906944) (hx:bS x≤1048576):Ok Tryz.prog 71 [.agg (cB .view p),.agg (iM r),.agg (bU x)] (.int .i64 (gJ p r x)):=by
 have c1:=qZ p r (by omega) (by omega)
 have c2:=oF x (by omega)
 have c3:=aDs x r.kind
 have c4:=aBi x.body r.digest (by simp only [bS] at hx;omega)
 simp only [cB,iM] at c1
 simp only [bU] at c2 c3
 unfold gJ aLa
 generalize kJ p r=n at *
 generalize eG x=b2 at *
 generalize yZ x r.kind=b3 at *
 generalize rV x.body r.digest=b4 at *
 by_cases h1:n=1
 ·subst h1
  refine ent Tryz.mix Tryz.func71 Tryz.ntmps71 ?_
  have W:=trivial
  repeat' first|refine st ?_|(refine nx ?_;first|refine se ?_|refine so ?_|refine sb ?_)|(refine cx ?_;refine sc (fun hc=>?_) (fun hc=>?_)<;>try exact hc.elim)|(refine lx ?_;refine sp (fun hc=>?_) (fun hc=>?_)<;>try exact hc.elim)|refine sx ?_ ?_|refine sy ?_ ?_|fail
  all_goals (try (refine ⟨.inr rfl,?_⟩;simp [Hands,Tryz.results71]))
  all_goals simp_all
 ·refine ent Tryz.mix Tryz.func71 Tryz.ntmps71 ?_
  have W:=h1
  repeat' first|refine st ?_|(refine nx ?_;first|refine se ?_|refine so ?_|refine sb ?_)|(refine cx ?_;refine sc (fun hc=>?_) (fun hc=>?_)<;>try exact hc.elim)|(refine lx ?_;refine sp (fun hc=>?_) (fun hc=>?_)<;>try exact hc.elim)|refine sx ?_ ?_|refine sy ?_ ?_|fail
  all_goals (try (refine ⟨.inr rfl,?_⟩;simp [Hands,Tryz.results71,h1]))
  all_goals simp_all
def kX (p:dE) (r:gG) (x:aZ):Str:=if gJ p r x=1 then x.body else []
theorem aB7 [aB Tryz.prog] [cO Tryz.prog] (p:dE) (r:gG) (x:aZ) (hp:dK p≤274877906944) (hr:lZ r≤274877906944) (hx:bS x≤1048576):Ok Tryz.prog 72 [.agg (cB .view p),.agg (iM r),.agg (bU x)] (.tup [.str (kX p r x),.bool (decide (gJ p r x=1))]):=by
 have c1:=qG p r x hp hr hx
 simp only [cB,iM,bU] at c1
 unfold kX
 generalize gJ p r x=n at *
 by_cases h1:n=1
 ·subst h1
  refine ent Tryz.mix Tryz.func72 Tryz.ntmps72 ?_
  have W:=trivial
  repeat' first|refine st ?_|(refine nx ?_;first|refine se ?_|refine so ?_|refine sb ?_)|(refine cx ?_;refine sc (fun hc=>?_) (fun hc=>?_)<;>try exact hc.elim)|(refine lx ?_;refine sp (fun hc=>?_) (fun hc=>?_)<;>try exact hc.elim)|refine sx ?_ ?_|refine sy ?_ ?_|fail
  all_goals (try (refine ⟨.inr rfl,?_⟩;simp [Hands,Tryz.results72]))
 ·refine ent Tryz.mix Tryz.func72 Tryz.ntmps72 ?_
  have W:=h1
  repeat' first|refine st ?_|(refine nx ?_;first|refine se ?_|refine so ?_|refine sb ?_)|(refine cx ?_;refine sc (fun hc=>?_) (fun hc=>?_)<;>try exact hc.elim)|(refine lx ?_;refine sp (fun hc=>?_) (fun hc=>?_)<;>try exact hc.elim)|refine sx ?_ ?_|refine sy ?_ ?_|fail
  all_goals (try (refine ⟨.inr rfl,?_⟩;simp [Hands,Tryz.results72,h1]))
end Go.Proofs.YtgkllebnnakojaaGreatDoor
