/-
  Proved here: steps towards the statement of this claim, text QSV1.
  No condition beyond what each statement spells out.
-/
import Derived.Test.YtajppdidkjbmkaaGreatDoorQDRG
import Derived.Test.YtajppdidkjbmkaaGreatDoorF6
set_option linter.all false
set_option maxRecDepth 4000
set_option maxHeartbeats 4000000
namespace Go.Proofs.YtajppdidkjbmkaaGreatDoor
open Go.Aw
def wN (h:Str) (s:cB):Bool:=s.host == h
def nU (h:Str) (s:aCj):Bool:=s.path == h
def lD (l:List cB) (a:aH):bA:=
 match l.find? (wN a.host) with
 |some s=>match s.files.find? (nU a.path) with
  |some f=>f.response
  |none=>kY
 |none=>kY
theorem aA5 [aB Tryz.prog] (l:List cB) (h:Str) (hl:l.length≤1099511627776):Ok Tryz.prog 74 [.sl .view 2 (l.map (aW .view)),.str h] (.int .i64 (iT (wN h) l)):=by
 refine ent Tryz.mix Tryz.func74 Tryz.ntmps74 ?_
 have W:=trivial
 repeat' first|refine st ?_|(refine nx ?_;first|refine se ?_|refine so ?_)|(refine cx ?_;refine sc (fun hc=>?_) (fun hc=>?_)<;>try exact hc.elim)|(refine lx ?_;refine sp (fun hc=>?_) (fun hc=>?_)<;>try exact hc.elim)|refine sx ?_ ?_|refine sy ?_ ?_|fail
 refine aJ (ι:={k:Nat // k≤l.length∧∀x∈l.take k,wN h x=false}) (fun t o i=>⟨aS t [(5,.int .i64 i.1)],o⟩)
  (fun i=>l.length - i.1) ⟨0,by simp,by simp⟩ (aD (by simp) (by simp)) ?_
 rintro ⟨k,hk,hi⟩ K1 hK1
 simp only [aS,List.set_cons_succ,List.set_cons_zero] at hK1⊢
 have hk1:IntKind.i64.wrap ((k:Int)+1)=((k+1:Nat):Int):=by rw [wrap64]<;>omega
 by_cases hlt:k < l.length
 ·have hg:=List.getElem?_eq_getElem hlt
  by_cases hb:l[k].host=h
  ·have hbb:(l[k].host == h)=true:=by simp [hb]
   rw [sO hlt (by simpa [wN] using hb) hi]
   have W:=And.intro hk1 (And.intro hg (And.intro hlt hbb))
   repeat' first|refine st ?_|(refine nx ?_;first|refine se ?_|refine so ?_)|(refine cx ?_;refine sc (fun hc=>?_) (fun hc=>?_)<;>try exact hc.elim)|(refine lx ?_;refine sp (fun hc=>?_) (fun hc=>?_)<;>try exact hc.elim)|refine sx ?_ ?_|refine sy ?_ ?_|fail
   all_goals (try (refine ⟨.inr rfl,?_⟩;simp [Hands,Tryz.results74]))
  ·have hbb:(l[k].host == h)=false:=by simp [hb]
   have hnx:∀x∈l.take (k+1),wN h x=false:=dX hlt hi (by simpa [wN] using hb)
   have W:=And.intro hk1 (And.intro hg (And.intro hlt hbb))
   repeat' first|refine st ?_|(refine nx ?_;first|refine se ?_|refine so ?_)|(refine cx ?_;refine sc (fun hc=>?_) (fun hc=>?_)<;>try exact hc.elim)|(refine lx ?_;refine sp (fun hc=>?_) (fun hc=>?_)<;>try exact hc.elim)|refine sx ?_ ?_|refine sy ?_ ?_|fail
   exact hK1 _ ⟨k+1,by omega,hnx⟩ (aD (by simp) (by simp)) (by simp only;omega)
 ·rw [oF (jB (by omega) hi)]
  have W:=hk1
  repeat' first|refine st ?_|(refine nx ?_;first|refine se ?_|refine so ?_)|(refine cx ?_;refine sc (fun hc=>?_) (fun hc=>?_)<;>try exact hc.elim)|(refine lx ?_;refine sp (fun hc=>?_) (fun hc=>?_)<;>try exact hc.elim)|refine sx ?_ ?_|refine sy ?_ ?_|fail
  all_goals (try (refine ⟨.inr rfl,?_⟩;simp [Hands,Tryz.results74]))
theorem zI [aB Tryz.prog] (s:cB) (h:Str) (hl:s.files.length≤1099511627776):Ok Tryz.prog 76 [.agg (aW .view s),.str h] (.int .i64 (iT (nU h) s.files)):=by
 refine ent Tryz.mix Tryz.func76 Tryz.ntmps76 ?_
 have W:=trivial
 repeat' first|refine st ?_|(refine nx ?_;first|refine se ?_|refine so ?_)|(refine cx ?_;refine sc (fun hc=>?_) (fun hc=>?_)<;>try exact hc.elim)|(refine lx ?_;refine sp (fun hc=>?_) (fun hc=>?_)<;>try exact hc.elim)|refine sx ?_ ?_|refine sy ?_ ?_|fail
 refine aJ (ι:={k:Nat // k≤s.files.length∧∀x∈s.files.take k,nU h x=false}) (fun t o i=>⟨aS t [(5,.int .i64 i.1)],o⟩)
  (fun i=>s.files.length - i.1) ⟨0,by simp,by simp⟩ (aD (by simp) (by simp)) ?_
 rintro ⟨k,hk,hi⟩ K1 hK1
 simp only [aS,List.set_cons_succ,List.set_cons_zero] at hK1⊢
 have hk1:IntKind.i64.wrap ((k:Int)+1)=((k+1:Nat):Int):=by rw [wrap64]<;>omega
 by_cases hlt:k < s.files.length
 ·have hg:=List.getElem?_eq_getElem hlt
  by_cases hb:s.files[k].path=h
  ·have hbb:(s.files[k].path == h)=true:=by simp [hb]
   rw [sO hlt (by simpa [nU] using hb) hi]
   have W:=And.intro hk1 (And.intro hg (And.intro hlt hbb))
   repeat' first|refine st ?_|(refine nx ?_;first|refine se ?_|refine so ?_)|(refine cx ?_;refine sc (fun hc=>?_) (fun hc=>?_)<;>try exact hc.elim)|(refine lx ?_;refine sp (fun hc=>?_) (fun hc=>?_)<;>try exact hc.elim)|refine sx ?_ ?_|refine sy ?_ ?_|fail
   all_goals (try (refine ⟨.inr rfl,?_⟩;simp [Hands,Tryz.results76]))
  ·have hbb:(s.files[k].path == h)=false:=by simp [hb]
   have hnx:∀x∈s.files.take (k+1),nU h x=false:=dX hlt hi (by simpa [nU] using hb)
   have W:=And.intro hk1 (And.intro hg (And.intro hlt hbb))
   repeat' first|refine st ?_|(refine nx ?_;first|refine se ?_|refine so ?_)|(refine cx ?_;refine sc (fun hc=>?_) (fun hc=>?_)<;>try exact hc.elim)|(refine lx ?_;refine sp (fun hc=>?_) (fun hc=>?_)<;>try exact hc.elim)|refine sx ?_ ?_|refine sy ?_ ?_|fail
   exact hK1 _ ⟨k+1,by omega,hnx⟩ (aD (by simp) (by simp)) (by simp only;omega)
 ·rw [oF (jB (by omega) hi)]
  have W:=hk1
  repeat' first|refine st ?_|(refine nx ?_;first|refine se ?_|refine so ?_)|(refine cx ?_;refine sc (fun hc=>?_) (fun hc=>?_)<;>try exact hc.elim)|(refine lx ?_;refine sp (fun hc=>?_) (fun hc=>?_)<;>try exact hc.elim)|refine sx ?_ ?_|refine sy ?_ ?_|fail
  all_goals (try (refine ⟨.inr rfl,?_⟩;simp [Hands,Tryz.results76]))
theorem wZ [aB Tryz.prog] (l:List cB) (a:aH) (hs:szL bH l≤1099511627776):Ok Tryz.prog 31 [.sl .view 2 (l.map (aW .view)),.agg (aL a)] (.agg (aV (lD l a))):=by
 simp only [szL] at hs
 have c1:=aA5 l a.host (by omega)
 have c2:=aFz
 simp only [aV] at c2
 unfold lD
 rcases mE (wN a.host) l with ⟨h1,h2⟩|⟨k,hk,h1,h2⟩
 ·rw [h1] at c1
  rw [h2]
  refine ent Tryz.mix Tryz.func31 Tryz.ntmps31 ?_
  have W:=trivial
  repeat' first|refine st ?_|(refine nx ?_;first|refine se ?_|refine so ?_)|(refine cx ?_;refine sc (fun hc=>?_) (fun hc=>?_)<;>try exact hc.elim)|(refine lx ?_;refine sp (fun hc=>?_) (fun hc=>?_)<;>try exact hc.elim)|refine sx ?_ ?_|refine sy ?_ ?_|fail
  all_goals (try (refine ⟨.inr rfl,?_⟩;simp [Hands,Tryz.results31]))
 ·rw [h1] at c1
  rw [h2]
  have hg:=List.getElem?_eq_getElem hk
  have hn:¬((k:Int) < 0):=by omega
  have hz:=eX bH l k hk
  simp only [bH,szL] at hz
  have c3:=zI l[k] a.path (by omega)
  simp only [aW] at c3
  simp only
  rcases mE (nU a.path) l[k].files with ⟨h3,h4⟩|⟨j,hj,h3,h4⟩
  ·rw [h3] at c3
   rw [h4]
   refine ent Tryz.mix Tryz.func31 Tryz.ntmps31 ?_
   have W:=And.intro hg (And.intro hk hn)
   repeat' first|refine st ?_|(refine nx ?_;first|refine se ?_|refine so ?_)|(refine cx ?_;refine sc (fun hc=>?_) (fun hc=>?_)<;>try exact hc.elim)|(refine lx ?_;refine sp (fun hc=>?_) (fun hc=>?_)<;>try exact hc.elim)|refine sx ?_ ?_|refine sy ?_ ?_|fail
   all_goals (try (refine ⟨.inr rfl,?_⟩;simp [Hands,Tryz.results31]))
  ·rw [h3] at c3
   rw [h4]
   have hg2:=List.getElem?_eq_getElem hj
   have hn2:¬((j:Int) < 0):=by omega
   refine ent Tryz.mix Tryz.func31 Tryz.ntmps31 ?_
   have W:=And.intro hg (And.intro hk (And.intro hn (And.intro hg2 (And.intro hj hn2))))
   repeat' first|refine st ?_|(refine nx ?_;first|refine se ?_|refine so ?_)|(refine cx ?_;refine sc (fun hc=>?_) (fun hc=>?_)<;>try exact hc.elim)|(refine lx ?_;refine sp (fun hc=>?_) (fun hc=>?_)<;>try exact hc.elim)|refine sx ?_ ?_|refine sy ?_ ?_|fail
   all_goals (try (refine ⟨.inr rfl,?_⟩;simp [Hands,Tryz.results31]))
theorem vK {α β:Type} (f:α→β) (l:List α) (k:Nat) (h:k < l.length):(l.take (k+1)).map f=(l.take k).map f++[f l[k]]:=by
 rw [List.take_succ_eq_append_getElem h,List.map_append];rfl
theorem aEy [aB Tryz.prog] (l:List sV) (hl:l.length≤1099511627776):Ok Tryz.prog 130 [.sl .view 2 (l.map oN)] (.sl .own 2 (l.map oN)):=by
 refine ent Tryz.mix Tryz.func130 Tryz.ntmps130 ?_
 have W:=trivial
 repeat' first|refine st ?_|(refine nx ?_;first|refine se ?_|refine so ?_)|(refine cx ?_;refine sc (fun hc=>?_) (fun hc=>?_)<;>try exact hc.elim)|(refine lx ?_;refine sp (fun hc=>?_) (fun hc=>?_)<;>try exact hc.elim)|refine sx ?_ ?_|refine sy ?_ ?_|fail
 all_goals (try (refine ⟨.inr rfl,?_⟩;simp [Hands,Tryz.results130]))
theorem aKs [aB Tryz.prog] (t:jH) (hl:t.attrs.length≤1099511627776):Ok Tryz.prog 120 [.agg (dG .view t)] (.agg (dG .own t)):=by
 refine ent Tryz.mix Tryz.func120 Tryz.ntmps120 ?_
 have W:=trivial
 repeat' first|refine st ?_|(refine nx ?_;first|refine se ?_|refine so ?_)|(refine cx ?_;refine sc (fun hc=>?_) (fun hc=>?_)<;>try exact hc.elim)|(refine lx ?_;refine sp (fun hc=>?_) (fun hc=>?_)<;>try exact hc.elim)|refine sx ?_ ?_|refine sy ?_ ?_|fail
 all_goals (try (refine ⟨.inr rfl,?_⟩;simp [Hands,Tryz.results120]))
theorem aI3 [aB Tryz.prog] (l:List jH) (hs:szL nS l≤274877906944):Ok Tryz.prog 80 [.sl .view 4 (l.map (dG .view))] (.sl .own 4 (l.map (dG .own))):=by
 simp only [szL] at hs
 refine ent Tryz.mix Tryz.func80 Tryz.ntmps80 ?_
 have W:=trivial
 repeat' first|refine st ?_|(refine nx ?_;first|refine se ?_|refine so ?_)|(refine cx ?_;refine sc (fun hc=>?_) (fun hc=>?_)<;>try exact hc.elim)|(refine lx ?_;refine sp (fun hc=>?_) (fun hc=>?_)<;>try exact hc.elim)|refine sx ?_ ?_|refine sy ?_ ?_|fail
 refine aJ (ι:={q:Nat×Nat // q.1≤l.length∧1≤q.2}) (fun t o i=>⟨aS t [(3,.obj 0 i.1.2),(9,.int .i64 i.1.1),(5,.undef)],o.take 0++[⟨true,false,4,i.1.2,(l.take i.1.1).map (dG .own)⟩]⟩)
  (fun i=>l.length - i.1.1) ⟨(0,1),by simp,by first|(simp;done)|(simp only;omega)⟩ (aD (by simp) (by simp)) ?_
 rintro ⟨⟨k,v⟩,hk,hv⟩ K1 hK1
 simp only at hk hv
 simp only [aS,List.set_cons_succ,List.set_cons_zero,List.take_succ_cons,List.take_zero,List.cons_append,List.nil_append] at hK1⊢
 have hk1:IntKind.i64.wrap ((k:Int)+1)=((k+1:Nat):Int):=by rw [wrap64]<;>omega
 by_cases hlt:k < l.length
 ·have hg:=List.getElem?_eq_getElem hlt
  have hps:=vK (dG .own) l k hlt
  have hz:=eX nS l k hlt
  simp only [nS,szL] at hz
  have c1:=aKs l[k] (by omega)
  simp only [dG] at c1
  have hgl:((l.take k).map (dG .own)).length=k:=by simp;omega
  generalize (l.take k).map (dG .own)=g at *
  have W:=And.intro hk1 (And.intro hg (And.intro hlt hgl))
  repeat' first|refine st ?_|(refine nx ?_;first|refine se ?_|refine so ?_)|(refine cx ?_;refine sc (fun hc=>?_) (fun hc=>?_)<;>try exact hc.elim)|(refine lx ?_;refine sp (fun hc=>?_) (fun hc=>?_)<;>try exact hc.elim)|refine sx ?_ ?_|refine sy ?_ ?_|fail
  all_goals refine hK1 _ ⟨(k+1,v+1),by simp only;omega,by simp only;omega⟩ (aQ 1 (by simp [hps]) (by simp) (by simp) (by simp)) (by simp only;omega)
 ·have htk:l.take k=l:=List.take_of_length_le (by omega)
  rw [htk]
  have W:=hk1
  repeat' first|refine st ?_|(refine nx ?_;first|refine se ?_|refine so ?_)|(refine cx ?_;refine sc (fun hc=>?_) (fun hc=>?_)<;>try exact hc.elim)|(refine lx ?_;refine sp (fun hc=>?_) (fun hc=>?_)<;>try exact hc.elim)|refine sx ?_ ?_|refine sy ?_ ?_|fail
  all_goals (try (refine ⟨.inr rfl,?_⟩;simp [Hands,Tryz.results80]))
theorem aJc [aB Tryz.prog] (l:List jH) (hs:szL nS l≤274877906944):Ok Tryz.prog 95 [.sl .view 4 (l.map (dG .view))] (.sl .own 4 (l.map (dG .own))):=by
 simp only [szL] at hs
 refine ent Tryz.mix Tryz.func95 Tryz.ntmps95 ?_
 have W:=trivial
 repeat' first|refine st ?_|(refine nx ?_;first|refine se ?_|refine so ?_)|(refine cx ?_;refine sc (fun hc=>?_) (fun hc=>?_)<;>try exact hc.elim)|(refine lx ?_;refine sp (fun hc=>?_) (fun hc=>?_)<;>try exact hc.elim)|refine sx ?_ ?_|refine sy ?_ ?_|fail
 refine aJ (ι:={q:Nat×Nat // q.1≤l.length∧1≤q.2}) (fun t o i=>⟨aS t [(3,.obj 0 i.1.2),(4,.int .i64 i.1.1),(5,.undef)],o.take 0++[⟨true,false,4,i.1.2,(l.take i.1.1).map (dG .own)⟩]⟩)
  (fun i=>l.length - i.1.1) ⟨(0,1),by simp,by first|(simp;done)|(simp only;omega)⟩ (aD (by simp) (by simp)) ?_
 rintro ⟨⟨k,v⟩,hk,hv⟩ K1 hK1
 simp only at hk hv
 simp only [aS,List.set_cons_succ,List.set_cons_zero,List.take_succ_cons,List.take_zero,List.cons_append,List.nil_append] at hK1⊢
 have hk1:IntKind.i64.wrap ((k:Int)+1)=((k+1:Nat):Int):=by rw [wrap64]<;>omega
 by_cases hlt:k < l.length
 ·have hg:=List.getElem?_eq_getElem hlt
  have hps:=vK (dG .own) l k hlt
  have hz:=eX nS l k hlt
  simp only [nS,szL] at hz
  have c1:=aEy l[k].attrs (by omega)
  have hgl:((l.take k).map (dG .own)).length=k:=by simp;omega
  generalize (l.take k).map (dG .own)=g at *
  have W:=And.intro hk1 (And.intro hg (And.intro hlt hgl))
  repeat' first|refine st ?_|(refine nx ?_;first|refine se ?_|refine so ?_)|(refine cx ?_;refine sc (fun hc=>?_) (fun hc=>?_)<;>try exact hc.elim)|(refine lx ?_;refine sp (fun hc=>?_) (fun hc=>?_)<;>try exact hc.elim)|refine sx ?_ ?_|refine sy ?_ ?_|fail
  all_goals refine hK1 _ ⟨(k+1,v+1),by simp only;omega,by simp only;omega⟩ (aQ 1 (by simp [hps]) (by simp) (by simp) (by simp)) (by simp only;omega)
 ·have htk:l.take k=l:=List.take_of_length_le (by omega)
  rw [htk]
  have W:=hk1
  repeat' first|refine st ?_|(refine nx ?_;first|refine se ?_|refine so ?_)|(refine cx ?_;refine sc (fun hc=>?_) (fun hc=>?_)<;>try exact hc.elim)|(refine lx ?_;refine sp (fun hc=>?_) (fun hc=>?_)<;>try exact hc.elim)|refine sx ?_ ?_|refine sy ?_ ?_|fail
  all_goals (try (refine ⟨.inr rfl,?_⟩;simp [Hands,Tryz.results95]))
theorem aAl [aB Tryz.prog] (a:bR) (hs:bM a≤274877906944):Ok Tryz.prog 79 [.agg (bD .view a)] (.agg (bD .own a)):=by
 simp only [bM,szL] at hs
 refine ent Tryz.mix Tryz.func79 Tryz.ntmps79 ?_
 have W:=trivial
 repeat' first|refine st ?_|(refine nx ?_;first|refine se ?_|refine so ?_)|(refine cx ?_;refine sc (fun hc=>?_) (fun hc=>?_)<;>try exact hc.elim)|(refine lx ?_;refine sp (fun hc=>?_) (fun hc=>?_)<;>try exact hc.elim)|refine sx ?_ ?_|refine sy ?_ ?_|fail
 all_goals (try (refine ⟨.inr rfl,?_⟩;simp [Hands,Tryz.results79]))
theorem aJh [aB Tryz.prog] (a:bR) (hs:bM a≤274877906944):Ok Tryz.prog 94 [.agg (bD .view a)] (.agg (bD .own a)):=by
 simp only [bM,szL] at hs
 refine ent Tryz.mix Tryz.func94 Tryz.ntmps94 ?_
 have W:=trivial
 repeat' first|refine st ?_|(refine nx ?_;first|refine se ?_|refine so ?_)|(refine cx ?_;refine sc (fun hc=>?_) (fun hc=>?_)<;>try exact hc.elim)|(refine lx ?_;refine sp (fun hc=>?_) (fun hc=>?_)<;>try exact hc.elim)|refine sx ?_ ?_|refine sy ?_ ?_|fail
 all_goals (try (refine ⟨.inr rfl,?_⟩;simp [Hands,Tryz.results94]))
theorem aPd [aB Tryz.prog] (l:List cB) (hs:szL bH l≤274877906944):Ok Tryz.prog 142 [.sl .view 2 (l.map (aW .view))] (.sl .own 2 (l.map (aW .own))):=by
 simp only [szL] at hs
 refine ent Tryz.mix Tryz.func142 Tryz.ntmps142 ?_
 have W:=trivial
 repeat' first|refine st ?_|(refine nx ?_;first|refine se ?_|refine so ?_)|(refine cx ?_;refine sc (fun hc=>?_) (fun hc=>?_)<;>try exact hc.elim)|(refine lx ?_;refine sp (fun hc=>?_) (fun hc=>?_)<;>try exact hc.elim)|refine sx ?_ ?_|refine sy ?_ ?_|fail
 refine aJ (ι:={q:Nat×Nat // q.1≤l.length∧1≤q.2}) (fun t o i=>⟨aS t [(3,.obj 0 i.1.2),(4,.int .i64 i.1.1)],o.take 0++[⟨true,false,2,i.1.2,(l.take i.1.1).map (aW .own)⟩]⟩)
  (fun i=>l.length - i.1.1) ⟨(0,1),by simp,by first|(simp;done)|(simp only;omega)⟩ (aD (by simp) (by simp)) ?_
 rintro ⟨⟨k,v⟩,hk,hv⟩ K1 hK1
 simp only at hk hv
 simp only [aS,List.set_cons_succ,List.set_cons_zero,List.take_succ_cons,List.take_zero,List.cons_append,List.nil_append] at hK1⊢
 have hk1:IntKind.i64.wrap ((k:Int)+1)=((k+1:Nat):Int):=by rw [wrap64]<;>omega
 by_cases hlt:k < l.length
 ·have hg:=List.getElem?_eq_getElem hlt
  have hps:=vK (aW .own) l k hlt
  have hz:=eX bH l k hlt
  simp only [bH,szL] at hz
  have hgl:((l.take k).map (aW .own)).length=k:=by simp;omega
  generalize (l.take k).map (aW .own)=g at *
  have W:=And.intro hk1 (And.intro hg (And.intro hlt hgl))
  repeat' first|refine st ?_|(refine nx ?_;first|refine se ?_|refine so ?_)|(refine cx ?_;refine sc (fun hc=>?_) (fun hc=>?_)<;>try exact hc.elim)|(refine lx ?_;refine sp (fun hc=>?_) (fun hc=>?_)<;>try exact hc.elim)|refine sx ?_ ?_|refine sy ?_ ?_|fail
  all_goals refine hK1 _ ⟨(k+1,v+1),by simp only;omega,by simp only;omega⟩ (aQ 1 (by simp [hps]) (by simp) (by simp) (by simp)) (by simp only;omega)
 ·have htk:l.take k=l:=List.take_of_length_le (by omega)
  rw [htk]
  have W:=hk1
  repeat' first|refine st ?_|(refine nx ?_;first|refine se ?_|refine so ?_)|(refine cx ?_;refine sc (fun hc=>?_) (fun hc=>?_)<;>try exact hc.elim)|(refine lx ?_;refine sp (fun hc=>?_) (fun hc=>?_)<;>try exact hc.elim)|refine sx ?_ ?_|refine sy ?_ ?_|fail
  all_goals (try (refine ⟨.inr rfl,?_⟩;simp [Hands,Tryz.results142]))
end Go.Proofs.YtajppdidkjbmkaaGreatDoor
