/-
  Proved here: contracts of Mod, Hash and BytesToInts, in the reference and in the program.
  No condition beyond what each statement spells out.
-/
import Derived.Test.YtajppdidkjbmkaaGreatDoorQDRG
import Derived.Test.YtajppdidkjbmkaaGreatDoorQDR8
import Derived.Test.YtajppdidkjbmkaaGreatDoorF4
import Derived.Test.YtajppdidkjbmkaaGreatDoorF5
set_option linter.all false
set_option maxRecDepth 4000
set_option maxHeartbeats 400000
namespace Go.Proofs.YtajppdidkjbmkaaGreatDoor
open Go.Aw
theorem aUw (v:Int):(0≤v∧v.tmod 2147483647=v % 2147483647)∨(v < 0∧∃r,v.tmod 2147483647= -r∧0≤r∧r < 2147483647∧(r=0→v % 2147483647=0)∧(r≠0→v % 2147483647=2147483647 - r)):=by
 by_cases h:0≤v
 ·exact .inl ⟨h,Int.tmod_eq_emod_of_nonneg h⟩
 ·right
  obtain ⟨u,hu⟩:∃u:Nat,v= -(u:Int):=⟨v.natAbs,by omega⟩
  subst hu
  refine ⟨by omega,((u % 2147483647:Nat):Int),by rw [Int.neg_tmod];rfl,by omega,by omega,by omega,by omega⟩
theorem aPh [aB Tryz.prog] (v:Int) (h:rgI v):Ok Tryz.prog 174 [.int .i64 v,.int .i64 2147483647] (.int .i64 (v % 2147483647)):=by
 have c1:=mZ 2147483647 1 1000000000000
 rw [show (decide ((1:Int)≤2147483647)&&decide ((2147483647:Int)≤1000000000000))=true by decide] at c1
 obtain ⟨h1,h2⟩:=h
 rcases aUw v with ⟨h0,hm⟩|⟨h0,r,hm,hr0,hr1,hz,hnz⟩
 ·have hm2:(v % 2147483647+2147483647).tmod 2147483647=v % 2147483647:=by
   rw [Int.tmod_eq_emod_of_nonneg (by omega)];omega
  have hb1:0≤v % 2147483647:=by omega
  have hb2:v % 2147483647 < 2147483647:=by omega
  generalize v % 2147483647=m at *
  refine ent Tryz.mix Tryz.func174 Tryz.ntmps174 ?_
  have W:=And.intro hm hm2
  repeat' first|refine st ?_|(refine nx ?_;refine so ?_)|(refine cx ?_;refine sc (fun hc=>?_) (fun hc=>?_)<;>try exact hc.elim)|(refine lx ?_;refine sp (fun hc=>?_) (fun hc=>?_)<;>try exact hc.elim)|refine sx ?_ ?_|refine sy ?_ ?_|fail
  all_goals (try (refine ⟨.inr rfl,?_⟩;simp [Hands,Tryz.results174]))
 ·have hm2:(-r+2147483647).tmod 2147483647=v % 2147483647:=by
   rw [Int.tmod_eq_emod_of_nonneg (by omega)]
   by_cases e:r=0
   ·rw [hz e,e];rfl
   ·rw [hnz e];omega
  generalize v % 2147483647=m at *
  refine ent Tryz.mix Tryz.func174 Tryz.ntmps174 ?_
  have W:=And.intro hm hm2
  repeat' first|refine st ?_|(refine nx ?_;refine so ?_)|(refine cx ?_;refine sc (fun hc=>?_) (fun hc=>?_)<;>try exact hc.elim)|(refine lx ?_;refine sp (fun hc=>?_) (fun hc=>?_)<;>try exact hc.elim)|refine sx ?_ ?_|refine sy ?_ ?_|fail
  all_goals (try (refine ⟨.inr rfl,?_⟩;simp [Hands,Tryz.results174]))
theorem aQd [aB Tryz.prog] (v:Int) (h:rgI v):Ok Tryz.prog 171 [.int .i64 v,.int .i64 2147483647] (.int .i64 (v % 2147483647)):=by
 have c1:=jF 2147483647 1 1000000000000
 rw [show (decide ((1:Int)≤2147483647)&&decide ((2147483647:Int)≤1000000000000))=true by decide] at c1
 obtain ⟨h1,h2⟩:=h
 rcases aUw v with ⟨h0,hm⟩|⟨h0,r,hm,hr0,hr1,hz,hnz⟩
 ·have hb1:0≤v % 2147483647:=by omega
  have hb2:v % 2147483647 < 2147483647:=by omega
  generalize v % 2147483647=m at *
  refine ent Tryz.mix Tryz.func171 Tryz.ntmps171 ?_
  have W:=hm
  repeat' first|refine st ?_|(refine nx ?_;refine so ?_)|(refine cx ?_;refine sc (fun hc=>?_) (fun hc=>?_)<;>try exact hc.elim)|(refine lx ?_;refine sp (fun hc=>?_) (fun hc=>?_)<;>try exact hc.elim)|refine sx ?_ ?_|refine sy ?_ ?_|fail
  all_goals (try (refine ⟨.inr rfl,?_⟩;simp [Hands,Tryz.results171]))
 ·by_cases e:r=0
  ·have hz:=hz e
   subst e
   rw [hz]
   refine ent Tryz.mix Tryz.func171 Tryz.ntmps171 ?_
   have W:=hm
   repeat' first|refine st ?_|(refine nx ?_;refine so ?_)|(refine cx ?_;refine sc (fun hc=>?_) (fun hc=>?_)<;>try exact hc.elim)|(refine lx ?_;refine sp (fun hc=>?_) (fun hc=>?_)<;>try exact hc.elim)|refine sx ?_ ?_|refine sy ?_ ?_|fail
   all_goals (try (refine ⟨.inr rfl,?_⟩;simp [Hands,Tryz.results171]))
   all_goals rfl
  ·have hnz:=hnz e
   rw [hnz]
   have hneg: -r < 0:=by omega
   refine ent Tryz.mix Tryz.func171 Tryz.ntmps171 ?_
   have W:=hm
   repeat' first|refine st ?_|(refine nx ?_;refine so ?_)|(refine cx ?_;refine sc (fun hc=>?_) (fun hc=>?_)<;>try exact hc.elim)|(refine lx ?_;refine sp (fun hc=>?_) (fun hc=>?_)<;>try exact hc.elim)|refine sx ?_ ?_|refine sy ?_ ?_|fail
   all_goals (try (refine ⟨.inr rfl,?_⟩;simp [Hands,Tryz.results171]))
   all_goals omega
def oG (acc v:Int):Int:=(acc * 1000003+v % 2147483647+13) % 2147483647
def iY (l:List Int):Int:=l.foldl oG 11
theorem aDa:∀(l:List Int),0≤iY l∧iY l < 2147483647:=by
 have:∀(l:List Int) (a:Int),0≤a∧a < 2147483647→0≤l.foldl oG a∧l.foldl oG a < 2147483647:=by
  intro l
  induction l with
  |nil=>intro a h;exact h
  |cons x l ih=>intro a h;exact ih _ (by unfold oG;omega)
 intro l
 exact this l 11 (by omega)
theorem aFu (l:List Int) (k:Nat) (h:k < l.length):iY (l.take (k+1))=oG (iY (l.take k)) l[k]:=by
 unfold iY
 rw [List.take_succ_eq_append_getElem h,List.foldl_append]
 rfl
theorem aMz [aB Tryz.prog] (l:List Int) (hl:l.length≤1099511627776) (hr:∀y∈l,rgI y):Ok Tryz.prog 159 [.sl .view 1 (l.map gY)] (.int .i64 (iY l)):=by
 refine ent Tryz.mix Tryz.func159 Tryz.ntmps159 ?_
 have W:=trivial
 repeat' first|refine st ?_|(refine nx ?_;refine so ?_)|(refine cx ?_;refine sc (fun hc=>?_) (fun hc=>?_)<;>try exact hc.elim)|(refine lx ?_;refine sp (fun hc=>?_) (fun hc=>?_)<;>try exact hc.elim)|refine sx ?_ ?_|refine sy ?_ ?_|fail
 refine aJ (ι:={k:Nat // k≤l.length}) (fun t o i=>⟨aS t [(4,.int .i64 i.1),(3,.int .i64 (iY (l.take i.1)))],o⟩)
  (fun i=>l.length - i.1) ⟨0,by simp⟩ (aD (by simp) (by simp [iY])) ?_
 rintro ⟨k,hk⟩ K1 hK1
 simp only [aS,List.set_cons_succ,List.set_cons_zero] at hK1⊢
 have hk1:IntKind.i64.wrap ((k:Int)+1)=((k+1:Nat):Int):=by rw [wrap64]<;>omega
 by_cases hlt:k < l.length
 ·have hg:=List.getElem?_eq_getElem hlt
  have hs:=aFu l k hlt
  have hb:=aDa (l.take k)
  have c1:=aPh l[k] (hr _ (List.getElem_mem hlt))
  have hm:(iY (l.take k) * 1000003+l[k] % 2147483647+13).tmod 2147483647=iY (l.take (k+1)):=by
   rw [hs,Int.tmod_eq_emod_of_nonneg (by omega)];rfl
  have hb1:0≤l[k] % 2147483647:=by omega
  have hb2:l[k] % 2147483647 < 2147483647:=by omega
  clear hs
  generalize ha':iY (l.take (k+1))=a' at *
  generalize iY (l.take k)=a at *
  generalize l[k] % 2147483647=m at *
  have W:=And.intro hk1 (And.intro hg (And.intro hlt hm))
  repeat' first|refine st ?_|(refine nx ?_;refine so ?_)|(refine cx ?_;refine sc (fun hc=>?_) (fun hc=>?_)<;>try exact hc.elim)|(refine lx ?_;refine sp (fun hc=>?_) (fun hc=>?_)<;>try exact hc.elim)|refine sx ?_ ?_|refine sy ?_ ?_|fail
  all_goals exact hK1 _ ⟨k+1,by omega⟩ (aD (by simp) (by simp [ha'])) (by simp only;omega)
 ·have htk:l.take k=l:=List.take_of_length_le (by omega)
  rw [htk]
  have W:=hk1
  repeat' first|refine st ?_|(refine nx ?_;refine so ?_)|(refine cx ?_;refine sc (fun hc=>?_) (fun hc=>?_)<;>try exact hc.elim)|(refine lx ?_;refine sp (fun hc=>?_) (fun hc=>?_)<;>try exact hc.elim)|refine sx ?_ ?_|refine sy ?_ ?_|fail
  all_goals (try (refine ⟨.inr rfl,?_⟩;simp [Hands,Tryz.results159]))
theorem aNk [aB Tryz.prog] (l:List Int) (hl:l.length≤1099511627776) (hr:∀y∈l,rgI y):Ok Tryz.prog 153 [.sl .view 1 (l.map gY)] (.int .i64 (iY l)):=by
 refine ent Tryz.mix Tryz.func153 Tryz.ntmps153 ?_
 have W:=trivial
 repeat' first|refine st ?_|(refine nx ?_;refine so ?_)|(refine cx ?_;refine sc (fun hc=>?_) (fun hc=>?_)<;>try exact hc.elim)|(refine lx ?_;refine sp (fun hc=>?_) (fun hc=>?_)<;>try exact hc.elim)|refine sx ?_ ?_|refine sy ?_ ?_|fail
 refine aJ (ι:={k:Nat // k≤l.length}) (fun t o i=>⟨aS t [(8,.int .i64 i.1),(3,.int .i64 (iY (l.take i.1))),(5,.undef)],o⟩)
  (fun i=>l.length - i.1) ⟨0,by simp⟩ (aD (by simp) (by simp [iY])) ?_
 rintro ⟨k,hk⟩ K1 hK1
 simp only [aS,List.set_cons_succ,List.set_cons_zero] at hK1⊢
 have hk1:IntKind.i64.wrap ((k:Int)+1)=((k+1:Nat):Int):=by rw [wrap64]<;>omega
 by_cases hlt:k < l.length
 ·have hg:=List.getElem?_eq_getElem hlt
  have hs:=aFu l k hlt
  have hb:=aDa (l.take k)
  have c1:=aQd l[k] (hr _ (List.getElem_mem hlt))
  have hm:(iY (l.take k) * 1000003+l[k] % 2147483647+13).tmod 2147483647=iY (l.take (k+1)):=by
   rw [hs,Int.tmod_eq_emod_of_nonneg (by omega)];rfl
  have hb1:0≤l[k] % 2147483647:=by omega
  have hb2:l[k] % 2147483647 < 2147483647:=by omega
  clear hs
  generalize ha':iY (l.take (k+1))=a' at *
  generalize iY (l.take k)=a at *
  generalize l[k] % 2147483647=m at *
  have W:=And.intro hk1 (And.intro hg (And.intro hlt hm))
  repeat' first|refine st ?_|(refine nx ?_;refine so ?_)|(refine cx ?_;refine sc (fun hc=>?_) (fun hc=>?_)<;>try exact hc.elim)|(refine lx ?_;refine sp (fun hc=>?_) (fun hc=>?_)<;>try exact hc.elim)|refine sx ?_ ?_|refine sy ?_ ?_|fail
  all_goals exact hK1 _ ⟨k+1,by omega⟩ (aD (by simp) (by simp [ha'])) (by simp only;omega)
 ·have htk:l.take k=l:=List.take_of_length_le (by omega)
  rw [htk]
  have W:=hk1
  repeat' first|refine st ?_|(refine nx ?_;refine so ?_)|(refine cx ?_;refine sc (fun hc=>?_) (fun hc=>?_)<;>try exact hc.elim)|(refine lx ?_;refine sp (fun hc=>?_) (fun hc=>?_)<;>try exact hc.elim)|refine sx ?_ ?_|refine sy ?_ ?_|fail
  all_goals (try (refine ⟨.inr rfl,?_⟩;simp [Hands,Tryz.results153]))
def qZ (s:Str):List Int:=xY (fun c:UInt8=>(c.toNat:Int)) s
def gL (s:Str):List Int:=(s.length:Int)::qZ s
theorem aAo (s:Str) (k:Nat) (h:k < s.length):(aK s)[k]? =some [.int .u8 s[k].toNat]:=by
 simp [aK,h]
theorem aBi [aB Tryz.prog] (s:Str) (hl:s.length≤1099511627776):Ok Tryz.prog 160 [.sl .view 1 (aK s)] (.sl .own 1 ((gL s).map gY)):=by
 have hbl:=lC s
 refine ent Tryz.mix Tryz.func160 Tryz.ntmps160 ?_
 have W:=hbl
 repeat' first|refine st ?_|(refine nx ?_;refine so ?_)|(refine cx ?_;refine sc (fun hc=>?_) (fun hc=>?_)<;>try exact hc.elim)|(refine lx ?_;refine sp (fun hc=>?_) (fun hc=>?_)<;>try exact hc.elim)|refine sx ?_ ?_|refine sy ?_ ?_|fail
 refine aJ (ι:={q:Nat×Nat // q.1≤s.length∧1≤q.2}) (fun t o i=>⟨aS t [(3,.obj 0 i.1.2),(4,.int .i64 i.1.1)],o.take 0++[⟨true,false,1,i.1.2,((s.length:Int)::qZ (s.take i.1.1)).map gY⟩]⟩)
  (fun i=>s.length - i.1.1) ⟨(0,1),by simp,by first|(simp;done)|(simp only;omega)⟩ (aD (by simp [qZ]) (by simp)) ?_
 rintro ⟨⟨k,v⟩,hk,hv⟩ K1 hK1
 simp only at hk hv
 simp only [aS,List.set_cons_succ,List.set_cons_zero,List.take_succ_cons,List.take_zero,List.cons_append,List.nil_append] at hK1⊢
 have hk1:IntKind.i64.wrap ((k:Int)+1)=((k+1:Nat):Int):=by rw [wrap64]<;>omega
 by_cases hlt:k < s.length
 ·have hg:=aAo s k hlt
  have hps:=aHw (fun c:UInt8=>(c.toNat:Int)) s k hlt
  have hpl:=aC9 (fun c:UInt8=>(c.toNat:Int)) (s.take k)
  have htl:(s.take k).length=k:=by simp;omega
  have hu:s[k].toNat < 256:=UInt8.toNat_lt s[k]
  have hlb:k < (aK s).length:=by omega
  simp only [qZ] at hK1⊢
  generalize xY (fun c:UInt8=>(c.toNat:Int)) (s.take k)=g at *
  have W:=And.intro hk1 (And.intro hg hbl)
  have V:=And.intro hk1 (And.intro hlt hbl)
  repeat' first|refine st ?_|(refine nx ?_;refine so ?_)|(refine cx ?_;refine sc (fun hc=>?_) (fun hc=>?_)<;>try exact hc.elim)|(refine lx ?_;refine sp (fun hc=>?_) (fun hc=>?_)<;>try exact hc.elim)|refine sx ?_ ?_|refine sy ?_ ?_|fail
  all_goals refine hK1 _ ⟨(k+1,v+1),by simp only;omega,by simp only;omega⟩ (aQ 1 (by simp [hps]) (by simp) (by simp) (by simp)) (by simp only;omega)
 ·have htk:s.take k=s:=List.take_of_length_le (by omega)
  rw [htk]
  have W:=And.intro hk1 hbl
  repeat' first|refine st ?_|(refine nx ?_;refine so ?_)|(refine cx ?_;refine sc (fun hc=>?_) (fun hc=>?_)<;>try exact hc.elim)|(refine lx ?_;refine sp (fun hc=>?_) (fun hc=>?_)<;>try exact hc.elim)|refine sx ?_ ?_|refine sy ?_ ?_|fail
  all_goals (try (refine ⟨.inr rfl,?_⟩;simp [Hands,Tryz.results160,gL]))
theorem aB1 [aB Tryz.prog] (s:Str) (hl:s.length≤1099511627776):Ok Tryz.prog 154 [.sl .view 1 (aK s)] (.sl .own 1 ((gL s).map gY)):=by
 have hbl:=lC s
 refine ent Tryz.mix Tryz.func154 Tryz.ntmps154 ?_
 have W:=hbl
 repeat' first|refine st ?_|(refine nx ?_;refine so ?_)|(refine cx ?_;refine sc (fun hc=>?_) (fun hc=>?_)<;>try exact hc.elim)|(refine lx ?_;refine sp (fun hc=>?_) (fun hc=>?_)<;>try exact hc.elim)|refine sx ?_ ?_|refine sy ?_ ?_|fail
 refine aJ (ι:={q:Nat×Nat // q.1≤s.length∧1≤q.2}) (fun t o i=>⟨aS t [(3,.obj 0 i.1.2),(11,.int .i64 i.1.1),(5,.undef)],o.take 0++[⟨true,false,1,i.1.2,((s.length:Int)::qZ (s.take i.1.1)).map gY⟩]⟩)
  (fun i=>s.length - i.1.1) ⟨(0,1),by simp,by first|(simp;done)|(simp only;omega)⟩ (aD (by simp [qZ]) (by simp)) ?_
 rintro ⟨⟨k,v⟩,hk,hv⟩ K1 hK1
 simp only at hk hv
 simp only [aS,List.set_cons_succ,List.set_cons_zero,List.take_succ_cons,List.take_zero,List.cons_append,List.nil_append] at hK1⊢
 have hk1:IntKind.i64.wrap ((k:Int)+1)=((k+1:Nat):Int):=by rw [wrap64]<;>omega
 by_cases hlt:k < s.length
 ·have hg:=aAo s k hlt
  have hps:=aHw (fun c:UInt8=>(c.toNat:Int)) s k hlt
  have hpl:=aC9 (fun c:UInt8=>(c.toNat:Int)) (s.take k)
  have htl:(s.take k).length=k:=by simp;omega
  have hu:s[k].toNat < 256:=UInt8.toNat_lt s[k]
  have hlb:k < (aK s).length:=by omega
  simp only [qZ] at hK1⊢
  generalize xY (fun c:UInt8=>(c.toNat:Int)) (s.take k)=g at *
  have W:=And.intro hk1 (And.intro hg hbl)
  have V:=And.intro hk1 (And.intro hlt hbl)
  repeat' first|refine st ?_|(refine nx ?_;refine so ?_)|(refine cx ?_;refine sc (fun hc=>?_) (fun hc=>?_)<;>try exact hc.elim)|(refine lx ?_;refine sp (fun hc=>?_) (fun hc=>?_)<;>try exact hc.elim)|refine sx ?_ ?_|refine sy ?_ ?_|fail
  all_goals refine hK1 _ ⟨(k+1,v+1),by simp only;omega,by simp only;omega⟩ (aQ 1 (by simp [hps]) (by simp) (by simp) (by simp)) (by simp only;omega)
 ·have htk:s.take k=s:=List.take_of_length_le (by omega)
  rw [htk]
  have W:=And.intro hk1 hbl
  repeat' first|refine st ?_|(refine nx ?_;refine so ?_)|(refine cx ?_;refine sc (fun hc=>?_) (fun hc=>?_)<;>try exact hc.elim)|(refine lx ?_;refine sp (fun hc=>?_) (fun hc=>?_)<;>try exact hc.elim)|refine sx ?_ ?_|refine sy ?_ ?_|fail
  all_goals (try (refine ⟨.inr rfl,?_⟩;simp [Hands,Tryz.results154,gL]))
end Go.Proofs.YtajppdidkjbmkaaGreatDoor
