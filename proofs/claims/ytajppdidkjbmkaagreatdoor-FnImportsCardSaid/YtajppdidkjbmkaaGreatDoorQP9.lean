/-
  Proved here: steps towards the statement of this claim, text QP9.
  No condition beyond what each statement spells out.
-/
import Derived.Test.YtajppdidkjbmkaaGreatDoorQP6
import Derived.Test.YtajppdidkjbmkaaGreatDoorF4
import Derived.Test.YtajppdidkjbmkaaGreatDoorQDRG
import Derived.Test.YtajppdidkjbmkaaGreatDoorF8
set_option linter.all false
set_option maxRecDepth 4000
set_option maxHeartbeats 4000000
namespace Go.Proofs.YtajppdidkjbmkaaGreatDoor
open Go.Aw
theorem nY [aB Tryz.prog] [cZ Tryz.prog] (body base:Str) (hl:body.length≤1073741824) (hb:base.length≤1073741824):Ok Tryz.prog 7 [.str body,.str base] (.tup [.sl .own 2 ((aX body base).1.map aL),.sl .own 2 ((aX body base).2.1.map iG),.bool (aX body base).2.2]):=by
 have hst:=aBb base (bC 59 body)
 have hn:=jO 59 body
 have hcn:body.count 59≤body.length:=List.count_le_length
 have hll:(bC 59 body).length≤1073741825:=by omega
 have hres:∀acc r,fZ base (bC 59 body)=some (acc,r)→∀ls ok,eU (Lib.join r [59])=(ls,ok)→aX body base=if ok=true then (acc,ls,true) else ([],[],false):=by
  intro acc r h1 ls ok h2
  unfold aX
  rw [h1]
  simp only [h2]
 have hnone:fZ base (bC 59 body)=none→aX body base=([],[],false):=by
  intro h1
  unfold aX
  rw [h1]
 generalize aX body base=g at *
 have hi0:bC 59 body=bC 59 body∨(bC 59 body=[]∧body=[]):= .inl rfl
 generalize hL:bC 59 body=l at hst hn hll hres hnone hi0
 refine ent Tryz.mix Tryz.func7 Tryz.ntmps7 ?_
 have W:=trivial
 repeat' first|refine st ?_|(refine nx ?_;first|refine se ?_|refine so ?_)|(refine cx ?_;refine sc (fun hc=>?_) (fun hc=>?_)<;>try exact hc.elim)|(refine lx ?_;refine sp (fun hc=>?_) (fun hc=>?_)<;>try exact hc.elim)|refine sx ?_ ?_|refine sy ?_ ?_|fail
 refine aJ (ι:={q:Str×List Str×List aH×Nat // (q.1.length≤body.length∧1≤q.2.2.2)∧(q.2.1=bC 59 q.1∨(q.2.1=[]∧q.1=[]))∧q.2.2.1.length+q.2.1.length≤l.length∧mX base l q.2.2.1 q.2.1}) (fun t o i=>⟨aS t [(8,.str i.1.1),(7,.obj 0 i.1.2.2.2),(9,.undef),(10,.undef),(11,.undef)],[⟨true,false,2,i.1.2.2.2,i.1.2.2.1.map aL⟩]⟩)
  (fun i=>i.1.2.1.length) ⟨(body,l,[],1),by simp,.inl hL.symm,by simp,hst⟩ (aD (by simp) (by simp)) ?_
 rintro ⟨⟨rest,parts,acc,v⟩,⟨hrl,hv⟩,hparts,hac,hgo⟩ K1 hK1
 simp only at hrl hv hparts hac hgo
 simp only [aS,List.set_cons_succ,List.set_cons_zero] at hK1⊢
 have hjoin:Lib.join parts [59]=rest:=by
  rcases hparts with rfl|⟨rfl,rfl⟩
  ·exact aBn 59 rest
  ·rfl
 cases hp:pfx kH rest with
 |false=>
  have hs:fZ base l=some (acc,parts):=by
   rcases hparts with rfl|⟨rfl,rfl⟩
   ·rw [aFv] at hgo⊢
    refine aDt hgo ?_
    cases h:pfx kH (rest.take (ixB 59 rest)) with
    |false=>rfl
    |true=>rw [aTk h] at hp;cases hp
   ·exact aFt hgo
  have hr:=hres _ _ hs
  rw [hjoin] at hr
  have cP:=aBq rest (by omega)
  generalize eU rest=q at *
  obtain ⟨ls,ok⟩:=q
  have hr:=hr ls ok rfl
  subst hr
  simp only at cP
  clear hK1 hs hres hnone hgo
  by_cases h7:(7:Int)≤(rest.length:Int)
  ·have he:(rest.take 7 == ([105,109,112,111,114,116,32]:Str))=false:=by
    simp only [pfx,show kH.length=7 from rfl,Bool.and_eq_false_iff,decide_eq_false_iff_not] at hp
    rcases hp with hp|hp
    ·omega
    ·exact hp
   clear hp
   cases ok
   ·simp only [Bool.false_eq_true,if_false]
    have W:=And.intro h7 he
    repeat' first|refine st ?_|(refine nx ?_;first|refine se ?_|refine so ?_)|(refine cx ?_;refine sc (fun hc=>?_) (fun hc=>?_)<;>try exact hc.elim)|(refine lx ?_;refine sp (fun hc=>?_) (fun hc=>?_)<;>try exact hc.elim)|refine sx ?_ ?_|refine sy ?_ ?_|fail
    all_goals (try (refine ⟨.inr rfl,?_⟩;simp [Hands,Tryz.results7]))
   ·simp only [if_true]
    have W:=And.intro h7 he
    repeat' first|refine st ?_|(refine nx ?_;first|refine se ?_|refine so ?_)|(refine cx ?_;refine sc (fun hc=>?_) (fun hc=>?_)<;>try exact hc.elim)|(refine lx ?_;refine sp (fun hc=>?_) (fun hc=>?_)<;>try exact hc.elim)|refine sx ?_ ?_|refine sy ?_ ?_|fail
    all_goals (try (refine ⟨.inr rfl,?_⟩;simp [Hands,Tryz.results7]))
  ·clear hp
   cases ok
   ·simp only [Bool.false_eq_true,if_false]
    have W:=h7
    repeat' first|refine st ?_|(refine nx ?_;first|refine se ?_|refine so ?_)|(refine cx ?_;refine sc (fun hc=>?_) (fun hc=>?_)<;>try exact hc.elim)|(refine lx ?_;refine sp (fun hc=>?_) (fun hc=>?_)<;>try exact hc.elim)|refine sx ?_ ?_|refine sy ?_ ?_|fail
    all_goals (try (refine ⟨.inr rfl,?_⟩;simp [Hands,Tryz.results7]))
   ·simp only [if_true]
    have W:=h7
    repeat' first|refine st ?_|(refine nx ?_;first|refine se ?_|refine so ?_)|(refine cx ?_;refine sc (fun hc=>?_) (fun hc=>?_)<;>try exact hc.elim)|(refine lx ?_;refine sp (fun hc=>?_) (fun hc=>?_)<;>try exact hc.elim)|refine sx ?_ ?_|refine sy ?_ ?_|fail
    all_goals (try (refine ⟨.inr rfl,?_⟩;simp [Hands,Tryz.results7]))
 |true=>
  have h7n:=aFp hp
  have h7:(7:Int)≤(rest.length:Int):=by simp only [show kH.length=7 from rfl] at h7n;omega
  have he:(rest.take 7 == ([105,109,112,111,114,116,32]:Str))=true:=by
   simp only [pfx,show kH.length=7 from rfl,Bool.and_eq_true] at hp
   exact hp.2
  have hpt:=aQr hp
  have hix:=aQ7 hp
  have hxl:=rH 59 rest
  have hsg:parts=bC 59 rest:=by
   rcases hparts with h|⟨_,h⟩
   ·exact h
   ·subst h;simp at h7
  rw [aFv] at hsg
  have cI:Ok Tryz.prog 25 [.str rest,.int .u8 59] (.int .i64 (ixB 59 rest:Nat)):=aQh rest 59 (by omega)
  generalize ixB 59 rest=k at *
  subst hsg
  have c2:=vL ((rest.take k).drop 7) base (by simp;omega)
  simp only [aL] at c2
  have hbad:=aFk hgo hpt
  have hnext:=aC4 hgo hpt
  have cM:=aX6 (rest.length:Int) ((k:Int)+1)
  have hk7:(7:Int)≤(k:Int):=by omega
  have hkl:(k:Int)≤(rest.length:Int):=by omega
  generalize dH ((rest.take k).drop 7) base=pa at *
  obtain ⟨a,ok⟩:=pa
  simp only at c2 hbad hnext
  clear hp hpt
  cases ok with
  |false=>
   have hr:=hnone (hbad rfl)
   subst hr
   clear hK1
   have W:=And.intro h7 (And.intro he (And.intro hk7 hkl))
   repeat' first|refine st ?_|(refine nx ?_;first|refine se ?_|refine so ?_)|(refine cx ?_;refine sc (fun hc=>?_) (fun hc=>?_)<;>try exact hc.elim)|(refine lx ?_;refine sp (fun hc=>?_) (fun hc=>?_)<;>try exact hc.elim)|refine sx ?_ ?_|refine sy ?_ ?_|fail
   all_goals (try (refine ⟨.inr rfl,?_⟩;simp [Hands,Tryz.results7]))
  |true=>
   by_cases hkk:k < rest.length
   ·have hm:min (rest.length:Int) ((k:Int)+1)=((k+1:Nat):Int):=by omega
    rw [hm] at cM
    have hk1:IntKind.i64.wrap ((k:Int)+1)=((k+1:Nat):Int):=by rw [wrap64]<;>omega
    rw [if_pos hkk] at hnext hac
    have W:=And.intro h7 (And.intro he (And.intro hk7 (And.intro hkl hk1)))
    repeat' first|refine st ?_|(refine nx ?_;first|refine se ?_|refine so ?_)|(refine cx ?_;refine sc (fun hc=>?_) (fun hc=>?_)<;>try exact hc.elim)|(refine lx ?_;refine sp (fun hc=>?_) (fun hc=>?_)<;>try exact hc.elim)|refine sx ?_ ?_|refine sy ?_ ?_|fail
    all_goals exact hK1 _ ⟨(rest.drop (k+1),bC 59 (rest.drop (k+1)),acc++[a],v+1),⟨by simp;omega,by simp only;omega⟩,.inl rfl,by simp at hac⊢;omega,hnext rfl⟩ (aQ 1 (by simp) (by simp) (by simp) (by simp)) (by simp [if_pos hkk])
   ·have hm:min (rest.length:Int) ((k:Int)+1)=(rest.length:Int):=by omega
    rw [hm] at cM
    rw [if_neg hkk] at hnext hac
    have W:=And.intro h7 (And.intro he (And.intro hk7 hkl))
    repeat' first|refine st ?_|(refine nx ?_;first|refine se ?_|refine so ?_)|(refine cx ?_;refine sc (fun hc=>?_) (fun hc=>?_)<;>try exact hc.elim)|(refine lx ?_;refine sp (fun hc=>?_) (fun hc=>?_)<;>try exact hc.elim)|refine sx ?_ ?_|refine sy ?_ ?_|fail
    all_goals exact hK1 _ ⟨([],[],acc++[a],v+1),⟨by simp,by simp only;omega⟩,.inr ⟨rfl,rfl⟩,by simp at hac⊢;omega,hnext rfl⟩ (aQ 1 (by simp) (by simp) (by simp) (by simp)) (by simp)
theorem aB9 {α:Type} (f:α→Nat):∀a b:List α,bX f (a++b)=bX f a+bX f b
 |[],b=>by simp [bX]
 |x::xs,b=>by simp only [List.cons_append,bX,aB9 f xs b];omega
def mD (p:aY) (a:aH):List aH:=
 match p.mods.find? (fH a) with
 |some m=>if m.done=true∧m.code=1 then (aX m.body a.host).1 else []
 |none=>[]
def aLh (p:aY) (a:aH):Bool:=
 match p.mods.find? (fH a) with
 |some m=>if m.done=true∧m.code=1 then (aX m.body a.host).2.2 else false
 |none=>false
theorem aJ6 (c:UInt8):∀s:Str,bX dK (bC c s)≤s.length
 |[]=>by simp [bC,bX,dK]
 |x::s=>by
  have ih:=aJ6 c s
  simp only [bC]
  split
  ·simp only [bX,dK,List.length_nil,List.length_cons] at ih⊢;omega
  ·split
   ·rename_i h0;exact absurd h0 (jJ c s)
   ·rename_i p q h0
    rw [h0] at ih
    simp only [bX,dK,List.length_cons] at ih⊢;omega
theorem aWi (s b:Str):aO (dH s b).1≤s.length+b.length:=by
 have h:=rH 47 s
 unfold dH addrOf
 split<;>split<;>simp [aO,nK]<;>omega
theorem aOl (base:Str):∀(l:List Str) (acc:List aH) (q:List Str),fZ base l=some (acc,q)→7 * acc.length≤bX dK l∧bX aO acc≤bX dK l+acc.length * base.length∧∀x∈acc,aO x≤bX dK l+base.length
 |[],acc,q,h=>by
  simp only [fZ,Option.some.injEq,Prod.mk.injEq] at h
  obtain ⟨rfl,rfl⟩:=h
  simp [bX]
 |p::ps,acc,q,h=>by
  simp only [fZ] at h
  split at h
  ·rename_i hp
   split at h
   ·obtain ⟨⟨a1,q1⟩,h1,h2⟩:=Option.map_eq_some_iff.1 h
    simp only [Prod.mk.injEq] at h2
    obtain ⟨rfl,rfl⟩:=h2
    obtain ⟨i1,i2,i3⟩:=aOl base ps a1 q1 h1
    have h7:=aFp hp
    have ha:=aWi (p.drop 7) base
    simp only [show kH.length=7 from rfl] at h7
    simp only [List.length_drop] at ha
    simp only [bX,dK,List.length_cons,Nat.succ_mul] at i1 i2 i3⊢
    refine ⟨by omega,by omega,?_⟩
    intro x hx
    rcases List.mem_cons.1 hx with rfl|hx
    ·omega
    ·have:=i3 x hx;omega
   ·cases h
  ·simp only [Option.some.injEq,Prod.mk.injEq] at h
   obtain ⟨rfl,rfl⟩:=h
   simp [bX]
theorem rU (s b:Str):7 * (aX s b).1.length≤s.length∧bX aO (aX s b).1≤s.length+(aX s b).1.length * b.length∧∀x∈(aX s b).1,aO x≤s.length+b.length:=by
 have hs:=aJ6 59 s
 unfold aX
 split
 ·simp [bX]
 ·rename_i l q h
  obtain ⟨i1,i2,i3⟩:=aOl b _ _ _ h
  split
  ·exact ⟨by simp only;omega,by simp only;omega,fun x hx=>by have:=i3 x hx;omega⟩
  ·simp [bX]
theorem aK8 [aB Tryz.prog] (p:aY) (a:aH) (hl:p.mods.length≤1099511627776):Ok Tryz.prog 34 [.agg (aI .view p),.agg (aL a)] (.int .i64 (iT (fH a) p.mods)):=by
 have c1:=aNb p.mods a hl
 simp only [aL] at c1
 refine ent Tryz.mix Tryz.func34 Tryz.ntmps34 ?_
 have W:=trivial
 repeat' first|refine st ?_|(refine nx ?_;first|refine se ?_|refine so ?_)|(refine cx ?_;refine sc (fun hc=>?_) (fun hc=>?_)<;>try exact hc.elim)|(refine lx ?_;refine sp (fun hc=>?_) (fun hc=>?_)<;>try exact hc.elim)|refine sx ?_ ?_|refine sy ?_ ?_|fail
 all_goals (try (refine ⟨.inr rfl,?_⟩;simp [Hands,Tryz.results34]))
end Go.Proofs.YtajppdidkjbmkaaGreatDoor
