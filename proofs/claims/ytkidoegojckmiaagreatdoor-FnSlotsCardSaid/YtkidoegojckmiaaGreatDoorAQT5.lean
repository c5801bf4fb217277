/-
  Proved here: steps towards the statement of this claim, text QT5.
  No condition beyond what each statement spells out.
-/
import Derived.Test.YtkidoegojckmiaaGreatDoorAQT3
import Derived.Test.YtkidoegojckmiaaGreatDoorAF4
import Derived.Test.YtkidoegojckmiaaGreatDoorAQN1
set_option linter.all false
set_option maxRecDepth 8000
set_option maxHeartbeats 8000000
namespace Go.Proofs.YtkidoegojckmiaaGreatDoor
open Go.Aw
def xR (x:dR):Bool:=decide (x.mode=2)&&x.done&&decide (x.code=1)
def gF (l:List dR):List iL:=(l.filter xR).map fun x=>iR x.body
def lY (p:aZ):List iL:=gF p.slots
theorem aEi {l:List dR} {k:Nat} (h:k < l.length) (ho:xR l[k]=true):gF (l.take (k+1))=gF (l.take k)++[iR l[k].body]:=by
 unfold gF
 rw [List.take_succ_eq_append_getElem h,List.filter_append,List.map_append]
 simp [ho]
theorem aG8 {l:List dR} {k:Nat} (h:k < l.length) (ho:xR l[k]=false):gF (l.take (k+1))=gF (l.take k):=by
 unfold gF
 rw [List.take_succ_eq_append_getElem h,List.filter_append]
 simp [ho]
theorem uH (l:List dR):(gF l).length≤l.length:=by
 unfold gF;rw [List.length_map];exact List.length_filter_le _ _
theorem aEf [aB Tryz.prog] [bV Tryz.prog] [eG Tryz.prog] [uQ Tryz.prog] (p:aZ) (hs:szL fC p.slots≤1073741824):Ok Tryz.prog 19 [.agg (aU .view p)] (.sl .own 1 ((lY p).map (bY .own))):=by
 simp only [szL] at hs
 unfold lY
 simp only [aU]
 generalize p.slots=l at *
 refine ent Tryz.mix Tryz.func19 Tryz.ntmps19 ?_
 have W:=trivial
 repeat' first|refine st ?_|(refine nx ?_;refine so ?_)|(refine cx ?_;refine sc (fun hc=>?_) (fun hc=>?_)<;>try exact hc.elim)|(refine lx ?_;refine sp (fun hc=>?_) (fun hc=>?_)<;>try exact hc.elim)|refine sx ?_ ?_|refine sy ?_ ?_|fail
 refine aJ (ι:={q:Nat×Nat×List iL // (q.1≤l.length∧1≤q.2.1)∧q.2.2=gF (l.take q.1)}) (fun t o i=>⟨aL t [(10,.int .i64 i.1.1),(3,.obj 1 i.1.2.1)],o.take 1++[⟨true,false,1,i.1.2.1,i.1.2.2.map (bY .own)⟩]⟩)
  (fun i=>l.length - i.1.1) ⟨(0,1,[]),by simp,by simp [gF]⟩ (aH (by simp) (by simp)) ?_
 rintro ⟨⟨k,v,acc⟩,⟨hk,hv⟩,hacc⟩ K1 hK1
 simp only at hk hv hacc
 simp only [aL,List.set_cons_succ,List.set_cons_zero,List.take_succ_cons,List.take_zero,List.cons_append,List.nil_append] at hK1⊢
 have hk1:IntKind.i64.wrap ((k:Int)+1)=((k+1:Nat):Int):=by rw [wrap64]<;>omega
 by_cases hlt:k < l.length
 ·have hg:=List.getElem?_eq_getElem hlt
  have hwz:=dJ fC l k hlt
  simp only [fC] at hwz
  have cP:=aBu l[k].body (by omega)
  have n1:= @aG8 l k hlt
  have n2:= @aEi l k hlt
  have hal:acc.length≤k:=by rw [hacc];have:=uH (l.take k);rw [List.length_take] at this;omega
  have hgl:(acc.map (bY .own)).length=acc.length:=by simp
  rw [←hacc] at n1 n2
  generalize hE2:gF (l.take (k+1))=acc2 at *
  generalize iR l[k].body=sh at *
  unfold xR at n1 n2
  by_cases h1:l[k].mode=2
  ·cases h2:l[k].done
   ·have e2:=n1 (by simp [h2])
    have W:=And.intro hk1 (And.intro hg (And.intro hlt (And.intro h1 h2)))
    repeat' first|refine st ?_|(refine nx ?_;refine so ?_)|(refine cx ?_;refine sc (fun hc=>?_) (fun hc=>?_)<;>try exact hc.elim)|(refine lx ?_;refine sp (fun hc=>?_) (fun hc=>?_)<;>try exact hc.elim)|refine sx ?_ ?_|refine sy ?_ ?_|fail
    all_goals exact hK1 _ ⟨(k+1,v,acc),⟨by simp only;omega,hv⟩,(by simp only;rw [hE2];exact e2.symm)⟩ (aG 2 (by simp) (by simp) (by simp) (by simp)) (by simp only;omega)
   ·by_cases h3:l[k].code=1
    ·have e2:=n2 (by simp [h1,h2,h3])
     have hps:acc2.map (bY .own)=acc.map (bY .own)++[bY .own sh]:=by rw [e2];simp
     simp only [bY] at cP
     clear n1 n2
     generalize acc.map (bY .own)=g at *
     have W:=And.intro hk1 (And.intro hg (And.intro hlt (And.intro h1 (And.intro h2 (And.intro h3 hgl)))))
     repeat' first|refine st ?_|(refine nx ?_;refine so ?_)|(refine cx ?_;refine sc (fun hc=>?_) (fun hc=>?_)<;>try exact hc.elim)|(refine lx ?_;refine sp (fun hc=>?_) (fun hc=>?_)<;>try exact hc.elim)|refine sx ?_ ?_|refine sy ?_ ?_|fail
     all_goals exact hK1 _ ⟨(k+1,v+1,acc2),⟨by simp only;omega,by simp only;omega⟩,(by simp only;exact hE2.symm)⟩ (aG 2 (by simp [hps]) (by simp) (by simp) (by simp)) (by simp only;omega)
    ·have e2:=n1 (by simp [h3])
     have W:=And.intro hk1 (And.intro hg (And.intro hlt (And.intro h1 (And.intro h2 h3))))
     repeat' first|refine st ?_|(refine nx ?_;refine so ?_)|(refine cx ?_;refine sc (fun hc=>?_) (fun hc=>?_)<;>try exact hc.elim)|(refine lx ?_;refine sp (fun hc=>?_) (fun hc=>?_)<;>try exact hc.elim)|refine sx ?_ ?_|refine sy ?_ ?_|fail
     all_goals exact hK1 _ ⟨(k+1,v,acc),⟨by simp only;omega,hv⟩,(by simp only;rw [hE2];exact e2.symm)⟩ (aG 2 (by simp) (by simp) (by simp) (by simp)) (by simp only;omega)
  ·have e2:=n1 (by simp [h1])
   have W:=And.intro hk1 (And.intro hg (And.intro hlt h1))
   repeat' first|refine st ?_|(refine nx ?_;refine so ?_)|(refine cx ?_;refine sc (fun hc=>?_) (fun hc=>?_)<;>try exact hc.elim)|(refine lx ?_;refine sp (fun hc=>?_) (fun hc=>?_)<;>try exact hc.elim)|refine sx ?_ ?_|refine sy ?_ ?_|fail
   all_goals exact hK1 _ ⟨(k+1,v,acc),⟨by simp only;omega,hv⟩,(by simp only;rw [hE2];exact e2.symm)⟩ (aG 2 (by simp) (by simp) (by simp) (by simp)) (by simp only;omega)
 ·have htk:l.take k=l:=List.take_of_length_le (by omega)
  rw [htk] at hacc
  subst hacc
  have W:=hk1
  repeat' first|refine st ?_|(refine nx ?_;refine so ?_)|(refine cx ?_;refine sc (fun hc=>?_) (fun hc=>?_)<;>try exact hc.elim)|(refine lx ?_;refine sp (fun hc=>?_) (fun hc=>?_)<;>try exact hc.elim)|refine sx ?_ ?_|refine sy ?_ ?_|fail
  all_goals (try (refine ⟨.inr rfl,?_⟩;simp [Hands,Tryz.results19]))
theorem aEm [aB Tryz.prog] [bV Tryz.prog] [eG Tryz.prog] (p:aZ) (hs:szL fC p.slots≤1073741824):Ok Tryz.prog 20 [.agg (aU .view p)] (.sl .own 1 ((lY p).map (bY .own))):=by
 simp only [szL] at hs
 unfold lY
 simp only [aU]
 generalize p.slots=l at *
 refine ent Tryz.mix Tryz.func20 Tryz.ntmps20 ?_
 have W:=trivial
 repeat' first|refine st ?_|(refine nx ?_;refine so ?_)|(refine cx ?_;refine sc (fun hc=>?_) (fun hc=>?_)<;>try exact hc.elim)|(refine lx ?_;refine sp (fun hc=>?_) (fun hc=>?_)<;>try exact hc.elim)|refine sx ?_ ?_|refine sy ?_ ?_|fail
 refine aJ (ι:={q:Nat×Nat×List iL // (q.1≤l.length∧1≤q.2.1)∧q.2.2=gF (l.take q.1)}) (fun t o i=>⟨aL t [(4,.int .i64 i.1.1),(3,.obj 1 i.1.2.1)],o.take 1++[⟨true,false,1,i.1.2.1,i.1.2.2.map (bY .own)⟩]⟩)
  (fun i=>l.length - i.1.1) ⟨(0,1,[]),by simp,by simp [gF]⟩ (aH (by simp) (by simp)) ?_
 rintro ⟨⟨k,v,acc⟩,⟨hk,hv⟩,hacc⟩ K1 hK1
 simp only at hk hv hacc
 simp only [aL,List.set_cons_succ,List.set_cons_zero,List.take_succ_cons,List.take_zero,List.cons_append,List.nil_append] at hK1⊢
 have hk1:IntKind.i64.wrap ((k:Int)+1)=((k+1:Nat):Int):=by rw [wrap64]<;>omega
 by_cases hlt:k < l.length
 ·have hg:=List.getElem?_eq_getElem hlt
  have hwz:=dJ fC l k hlt
  simp only [fC] at hwz
  have cP:=aBr l[k].body (by omega)
  have n1:= @aG8 l k hlt
  have n2:= @aEi l k hlt
  have hal:acc.length≤k:=by rw [hacc];have:=uH (l.take k);rw [List.length_take] at this;omega
  have hgl:(acc.map (bY .own)).length=acc.length:=by simp
  rw [←hacc] at n1 n2
  generalize hE2:gF (l.take (k+1))=acc2 at *
  generalize iR l[k].body=sh at *
  unfold xR at n1 n2
  by_cases h1:l[k].mode=2
  ·cases h2:l[k].done
   ·have e2:=n1 (by simp [h2])
    have W:=And.intro hk1 (And.intro hg (And.intro hlt (And.intro h1 h2)))
    repeat' first|refine st ?_|(refine nx ?_;refine so ?_)|(refine cx ?_;refine sc (fun hc=>?_) (fun hc=>?_)<;>try exact hc.elim)|(refine lx ?_;refine sp (fun hc=>?_) (fun hc=>?_)<;>try exact hc.elim)|refine sx ?_ ?_|refine sy ?_ ?_|fail
    all_goals exact hK1 _ ⟨(k+1,v,acc),⟨by simp only;omega,hv⟩,(by simp only;rw [hE2];exact e2.symm)⟩ (aG 2 (by simp) (by simp) (by simp) (by simp)) (by simp only;omega)
   ·by_cases h3:l[k].code=1
    ·have e2:=n2 (by simp [h1,h2,h3])
     have hps:acc2.map (bY .own)=acc.map (bY .own)++[bY .own sh]:=by rw [e2];simp
     simp only [bY] at cP
     clear n1 n2
     generalize acc.map (bY .own)=g at *
     have W:=And.intro hk1 (And.intro hg (And.intro hlt (And.intro h1 (And.intro h2 (And.intro h3 hgl)))))
     repeat' first|refine st ?_|(refine nx ?_;refine so ?_)|(refine cx ?_;refine sc (fun hc=>?_) (fun hc=>?_)<;>try exact hc.elim)|(refine lx ?_;refine sp (fun hc=>?_) (fun hc=>?_)<;>try exact hc.elim)|refine sx ?_ ?_|refine sy ?_ ?_|fail
     all_goals exact hK1 _ ⟨(k+1,v+1,acc2),⟨by simp only;omega,by simp only;omega⟩,(by simp only;exact hE2.symm)⟩ (aG 2 (by simp [hps]) (by simp) (by simp) (by simp)) (by simp only;omega)
    ·have e2:=n1 (by simp [h3])
     have W:=And.intro hk1 (And.intro hg (And.intro hlt (And.intro h1 (And.intro h2 h3))))
     repeat' first|refine st ?_|(refine nx ?_;refine so ?_)|(refine cx ?_;refine sc (fun hc=>?_) (fun hc=>?_)<;>try exact hc.elim)|(refine lx ?_;refine sp (fun hc=>?_) (fun hc=>?_)<;>try exact hc.elim)|refine sx ?_ ?_|refine sy ?_ ?_|fail
     all_goals exact hK1 _ ⟨(k+1,v,acc),⟨by simp only;omega,hv⟩,(by simp only;rw [hE2];exact e2.symm)⟩ (aG 2 (by simp) (by simp) (by simp) (by simp)) (by simp only;omega)
  ·have e2:=n1 (by simp [h1])
   have W:=And.intro hk1 (And.intro hg (And.intro hlt h1))
   repeat' first|refine st ?_|(refine nx ?_;refine so ?_)|(refine cx ?_;refine sc (fun hc=>?_) (fun hc=>?_)<;>try exact hc.elim)|(refine lx ?_;refine sp (fun hc=>?_) (fun hc=>?_)<;>try exact hc.elim)|refine sx ?_ ?_|refine sy ?_ ?_|fail
   all_goals exact hK1 _ ⟨(k+1,v,acc),⟨by simp only;omega,hv⟩,(by simp only;rw [hE2];exact e2.symm)⟩ (aG 2 (by simp) (by simp) (by simp) (by simp)) (by simp only;omega)
 ·have htk:l.take k=l:=List.take_of_length_le (by omega)
  rw [htk] at hacc
  subst hacc
  have W:=hk1
  repeat' first|refine st ?_|(refine nx ?_;refine so ?_)|(refine cx ?_;refine sc (fun hc=>?_) (fun hc=>?_)<;>try exact hc.elim)|(refine lx ?_;refine sp (fun hc=>?_) (fun hc=>?_)<;>try exact hc.elim)|refine sx ?_ ?_|refine sy ?_ ?_|fail
  all_goals (try (refine ⟨.inr rfl,?_⟩;simp [Hands,Tryz.results20]))
theorem aAn {α:Type} (f:α→Nat) (c:Nat):∀l:List α,(∀x∈l,f x≤c)→bD f l≤c * l.length
 |[],_=>by simp [bD]
 |x::xs,h=>by
  have h1:=h x (by simp)
  have h2:=aAn f c xs (fun y hy=>h y (by simp [hy]))
  simp only [bD,List.length_cons,Nat.mul_add,Nat.mul_one]
  omega
theorem aSj {p:Str} {r:nN} (h:jA p=some r):zN r≤8:=by
 unfold jA at h
 split at h
 ·split at h
  ·rename_i hc
   have hn:=hc.1
   simp only [Option.some.injEq] at h
   subst h
   simp only [bL,Bool.and_eq_true,decide_eq_true_eq] at hn
   simp only [zN]
   omega
  ·cases h
 ·cases h
theorem aOx (l:List Str):∀r∈dV l,zN r≤8:=by
 intro r hr
 have h1:=List.mem_of_mem_take hr
 obtain ⟨p,_,hp⟩:=List.mem_filterMap.1 h1
 exact aSj hp
theorem aO4 (s:Str):nP (iR s)≤72:=by
 have h1:=aI4 (aT 59 s)
 have h2:=aAn zN 8 _ (aOx (aT 59 s))
 simp only [nP,iR,szL];omega
theorem aNx (p:aZ):szL nP (lY p)≤73 * p.slots.length:=by
 have hm:∀x∈lY p,nP x≤72:=by
  intro x hx
  unfold lY gF at hx
  obtain ⟨y,_,rfl⟩:=List.mem_map.1 hx
  exact aO4 _
 have h1:=aAn nP 72 _ hm
 have h2:(lY p).length≤p.slots.length:=uH _
 simp only [szL];omega
theorem aLu (p:aZ) {s:dR} {k:Nat} (hg:p.slots[k]? =some s):gJ (bM p s)≤bK p:=by
 have hm:=rQ fC (List.mem_of_getElem? hg)
 simp only [fC] at hm
 simp only [gJ,bM,bK,eH,szL] at *
 omega
end Go.Proofs.YtkidoegojckmiaaGreatDoor
