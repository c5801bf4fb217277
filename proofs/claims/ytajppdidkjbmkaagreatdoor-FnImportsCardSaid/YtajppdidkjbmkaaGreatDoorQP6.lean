/-
  Proved here: steps towards the statement of this claim, text QP6.
  No condition beyond what each statement spells out.
-/
import Derived.Test.YtajppdidkjbmkaaGreatDoorQJ4
import Derived.Test.YtajppdidkjbmkaaGreatDoorP4
set_option linter.all false
set_option maxRecDepth 4000
set_option maxHeartbeats 4000000
namespace Go.Proofs.YtajppdidkjbmkaaGreatDoor
open Go.Aw
def kH:Str:=[105,109,112,111,114,116,32]
def fZ (base:Str):List Str→Option (List aH×List Str)
 |[]=>some ([],[])
 |p::ps=>if pfx kH p=true then (if (dH (p.drop 7) base).2=true then (fZ base ps).map (fun q=>((dH (p.drop 7) base).1::q.1,q.2)) else none) else some ([],p::ps)
def aX (body base:Str):List aH×List uU×Bool:=
 match fZ base (bC 59 body) with
 |none=>([],[],false)
 |some (l,r)=>if (eU (Lib.join r [59])).2=true then (l,(eU (Lib.join r [59])).1,true) else ([],[],false)
def mX (base:Str) (l:List Str) (acc:List aH) (r:List Str):Prop:=fZ base l=(fZ base r).map fun q=>(acc++q.1,q.2)
theorem aBb (base:Str) (l:List Str):mX base l [] l:=by
 unfold mX
 cases fZ base l<;>simp
theorem aFk {base:Str} {l:List Str} {acc:List aH} {p:Str} {ps:List Str} (h:mX base l acc (p::ps)) (h1:pfx kH p=true) (h2:(dH (p.drop 7) base).2=false):fZ base l=none:=by
 unfold mX at h
 rw [h]
 simp [fZ,h1,h2]
theorem aC4 {base:Str} {l:List Str} {acc:List aH} {p:Str} {ps:List Str} (h:mX base l acc (p::ps)) (h1:pfx kH p=true) (h2:(dH (p.drop 7) base).2=true):mX base l (acc++[(dH (p.drop 7) base).1]) ps:=by
 unfold mX at h⊢
 rw [h]
 simp only [fZ,h1,h2,if_true]
 cases fZ base ps<;>simp
theorem aFt {base:Str} {l:List Str} {acc:List aH} (h:mX base l acc []):fZ base l=some (acc,[]):=by
 unfold mX at h
 rw [h]
 simp [fZ]
theorem aDt {base:Str} {l:List Str} {acc:List aH} {p:Str} {ps:List Str} (h:mX base l acc (p::ps)) (h1:pfx kH p=false):fZ base l=some (acc,p::ps):=by
 unfold mX at h
 rw [h]
 simp [fZ,h1]
theorem aBn (c:UInt8):∀s:Str,Lib.join (bC c s) [c]=s
 |[]=>by simp [bC,Lib.join_one]
 |x::s=>by
  have ih:=aBn c s
  simp only [bC]
  split
  ·rename_i h
   subst h
   cases hs:bC x s with
   |nil=>exact absurd hs (jJ x s)
   |cons p r=>
    rw [hs] at ih
    simp only [Lib.join,List.intercalate] at ih⊢
    simp only [List.intersperse,List.flatten_cons,List.nil_append,List.singleton_append] at ih⊢
    rw [ih]
  ·split
   ·rename_i h0;exact absurd h0 (jJ c s)
   ·rename_i p r h0
    rw [h0] at ih
    simp only [Lib.join,List.intercalate] at ih⊢
    cases r with
    |nil=>simp only [List.intersperse,List.flatten_cons,List.flatten_nil,List.append_nil] at ih⊢;rw [ih]
    |cons q r=>simp only [List.intersperse,List.flatten_cons,List.cons_append] at ih⊢;rw [ih]
theorem aTg [aB Tryz.prog] [cZ Tryz.prog] (l:List Str) (sep:Str) (hl:l.length≤140737488355328) (hs:(Lib.join l sep).length≤140737488355328):
  Ok Tryz.prog 24 [.sl .view 1 (l.map aU),.str sep] (.str (Lib.join l sep)):=aOj Tryz.lays156 Tryz.Builder_Extra_156 l sep hl hs
theorem aKc (x:Str) (xs:List Str) (c:UInt8):(Lib.join xs [c]).length≤(Lib.join (x::xs) [c]).length:=by
 cases xs with
 |nil=>simp [Lib.join_nil]
 |cons y ys=>
  simp only [Lib.join,List.intercalate,List.intersperse,List.flatten_cons,List.length_append]
  omega
theorem aA8 (c:UInt8):∀(k:Nat) (l:List Str),(Lib.join (l.drop k) [c]).length≤(Lib.join l [c]).length
 |0,l=>by simp
 |_+1,[]=>by simp
 |k+1,x::xs=>by
  rw [List.drop_succ_cons]
  exact Nat.le_trans (aA8 c k xs) (aKc x xs c)
theorem aRl [aB Tryz.prog] [cZ Tryz.prog] {s:Str} (hl:s.length≤1099511627776) (h:pfx kH s=false):Ok Tryz.prog 21 [.str s,.str [105,109,112,111,114,116,32]] (.tup [.str s,.bool false]):=by
 have c:=aA3 s kH hl (by simp [kH])
 rw [h] at c
 exact c
theorem aPw [aB Tryz.prog] [cZ Tryz.prog] {s:Str} (hl:s.length≤1099511627776) (h:pfx kH s=true):Ok Tryz.prog 21 [.str s,.str [105,109,112,111,114,116,32]] (.tup [.str (s.drop 7),.bool true]):=by
 have c:=aA3 s kH hl (by simp [kH])
 rw [h] at c
 exact c
theorem uM [aB Tryz.prog] [cZ Tryz.prog] (body base:Str) (hl:body.length≤1073741824) (hb:base.length≤1073741824):Ok Tryz.prog 6 [.str body,.str base] (.tup [.sl .own 2 ((aX body base).1.map aL),.sl .own 2 ((aX body base).2.1.map iG),.bool (aX body base).2.2]):=by
 have cS:=aMf body 59 (by omega)
 have hle:=aCq 59 body
 have hst:=aBb base (bC 59 body)
 have hn:=jO 59 body
 have hcn:body.count 59≤body.length:=List.count_le_length
 have hll:(bC 59 body).length≤1073741825:=by omega
 have hres:∀acc r,fZ base (bC 59 body)=some (acc,r)→∀ls ok,eU (Lib.join r [59])=(ls,ok)→aX body base=if ok=true then (acc,ls,true) else ([],[],false):=by
  intro acc r h1 ls ok h2
  unfold aX
  rw [h1]
  simp only [h2]
 have hnone:fZ base (bC 59 body)=none→aX body base=([],[],false):=by
  intro h1
  unfold aX
  rw [h1]
 generalize aX body base=g at *
 have hjl:(Lib.join (bC 59 body) [59]).length≤1073741824:=by rw [aBn];exact hl
 generalize bC 59 body=l at *
 refine ent Tryz.mix Tryz.func6 Tryz.ntmps6 ?_
 have W:=trivial
 repeat' first|refine st ?_|(refine nx ?_;first|refine se ?_|refine so ?_)|(refine cx ?_;refine sc (fun hc=>?_) (fun hc=>?_)<;>try exact hc.elim)|(refine lx ?_;refine sp (fun hc=>?_) (fun hc=>?_)<;>try exact hc.elim)|refine sx ?_ ?_|refine sy ?_ ?_|fail
 refine aJ (ι:={q:Nat×List aH×Nat // (q.1≤l.length∧1≤q.2.2)∧q.2.1.length=q.1∧mX base l q.2.1 (l.drop q.1)}) (fun t o i=>⟨aS t [(7,.obj 0 (i.1.1+1)),(8,.obj 1 i.1.2.2),(9,.undef),(10,.undef),(11,.undef),(12,.undef)],[⟨true,false,1,i.1.1+1,(l.drop i.1.1).map aU⟩,⟨true,false,2,i.1.2.2,i.1.2.1.map aL⟩]⟩)
  (fun i=>l.length - i.1.1) ⟨(0,[],1),by simp,by simp,by simpa using hst⟩ (aD (by simp) (by simp)) ?_
 rintro ⟨⟨k,acc,v⟩,⟨hk,hv⟩,hacc,hgo⟩ K1 hK1
 simp only at hk hv hacc hgo
 simp only [aS,List.set_cons_succ,List.set_cons_zero] at hK1⊢
 have hjd:=aA8 59 k l
 have hdl:(l.drop k).length≤1073741825:=by simp;omega
 have cJ:=aTg (l.drop k) [59] (by omega) (by omega)
 have cP:=aB7 (Lib.join (l.drop k) [59]) (by omega)
 by_cases hlt:k < l.length
 ·have hd:l.drop k=l[k]::l.drop (k+1):=List.drop_eq_getElem_cons hlt
  have hpl:=hle _ (List.getElem_mem hlt)
  have c2:=aEb (l[k].drop 7) base (by simp;omega)
  simp only [aL] at c2
  rw [hd] at hgo cJ cP hdl⊢
  generalize hps:l.drop (k+1)=ps at *
  generalize l[k]=p at *
  simp only [List.length_cons] at hdl
  cases hp:pfx kH p with
  |false=>
   have hs:=aDt hgo hp
   have c1:=aRl (by omega) hp
   have hr:=hres _ _ hs
   clear hp hs hgo hst hK1
   have hdp:(0:Int) < (ps.length:Int)+1:=by omega
   generalize Lib.join (p::ps) [59]=J2 at *
   generalize eU J2=q at *
   obtain ⟨ls,ok⟩:=q
   have hr:=hr ls ok rfl
   subst hr
   simp only at cP
   cases ok
   ·simp only [Bool.false_eq_true,if_false]
    have W:=hdp
    repeat' first|refine st ?_|(refine nx ?_;first|refine se ?_|refine so ?_)|(refine cx ?_;refine sc (fun hc=>?_) (fun hc=>?_)<;>try exact hc.elim)|(refine lx ?_;refine sp (fun hc=>?_) (fun hc=>?_)<;>try exact hc.elim)|refine sx ?_ ?_|refine sy ?_ ?_|fail
    all_goals (try (refine ⟨.inr rfl,?_⟩;simp [Hands,Tryz.results6]))
   ·simp only [if_true]
    have W:=hdp
    repeat' first|refine st ?_|(refine nx ?_;first|refine se ?_|refine so ?_)|(refine cx ?_;refine sc (fun hc=>?_) (fun hc=>?_)<;>try exact hc.elim)|(refine lx ?_;refine sp (fun hc=>?_) (fun hc=>?_)<;>try exact hc.elim)|refine sx ?_ ?_|refine sy ?_ ?_|fail
    all_goals (try (refine ⟨.inr rfl,?_⟩;simp [Hands,Tryz.results6]))
  |true=>
   have hbad:=aFk hgo hp
   have hnext:=aC4 hgo hp
   have c1:=aPw (by omega) hp
   clear hp
   have hdp:(0:Int) < (ps.length:Int)+1:=by omega
   generalize dH (p.drop 7) base=pa at *
   obtain ⟨a,ok⟩:=pa
   simp only at c2 hbad hnext
   have htk:List.take ps.length (ps.map aU)=ps.map aU:=List.take_of_length_le (by simp)
   cases ok with
   |false=>
    have hr:=hnone (hbad rfl)
    subst hr
    have W:=hdp
    repeat' first|refine st ?_|(refine nx ?_;first|refine se ?_|refine so ?_)|(refine cx ?_;refine sc (fun hc=>?_) (fun hc=>?_)<;>try exact hc.elim)|(refine lx ?_;refine sp (fun hc=>?_) (fun hc=>?_)<;>try exact hc.elim)|refine sx ?_ ?_|refine sy ?_ ?_|fail
    all_goals (try (refine ⟨.inr rfl,?_⟩;simp [Hands,Tryz.results6]))
   |true=>
    have W:=hdp
    repeat' first|refine st ?_|(refine nx ?_;first|refine se ?_|refine so ?_)|(refine cx ?_;refine sc (fun hc=>?_) (fun hc=>?_)<;>try exact hc.elim)|(refine lx ?_;refine sp (fun hc=>?_) (fun hc=>?_)<;>try exact hc.elim)|refine sx ?_ ?_|refine sy ?_ ?_|fail
    all_goals exact hK1 _ ⟨(k+1,acc++[a],v+1),⟨by simp only;omega,by simp only;omega⟩,by simp;omega,by simp only [hps];exact hnext rfl⟩ (aQ 2 (by simp [hps,htk]) (by simp) (by simp) (by simp)) (by simp only;omega)
 ·have hd:l.drop k=[]:=List.drop_of_length_le (by omega)
  rw [hd] at hgo cJ cP⊢
  have hr:=hres _ _ (aFt hgo) [] true rfl
  subst hr
  have hq:eU []=([],true):=rfl
  simp only [Lib.join_nil,hq,List.map_nil,if_true] at cJ cP⊢
  have W:=trivial
  repeat' first|refine st ?_|(refine nx ?_;first|refine se ?_|refine so ?_)|(refine cx ?_;refine sc (fun hc=>?_) (fun hc=>?_)<;>try exact hc.elim)|(refine lx ?_;refine sp (fun hc=>?_) (fun hc=>?_)<;>try exact hc.elim)|refine sx ?_ ?_|refine sy ?_ ?_|fail
  all_goals (try (refine ⟨.inr rfl,?_⟩;simp [Hands,Tryz.results6]))
theorem aFv (c:UInt8) (s:Str):bC c s=s.take (ixB c s)::(if ixB c s < s.length then bC c (s.drop (ixB c s+1)) else []):=by
 rw [aIj]
 have h:=rH c s
 split
 ·rfl
 ·rw [List.take_of_length_le (by omega)]
theorem aTk {p s:Str} {k:Nat} (h:pfx p (s.take k)=true):pfx p s=true:=by
 simp only [pfx,Bool.and_eq_true,decide_eq_true_eq,beq_iff_eq,List.take_take,List.length_take] at h⊢
 obtain ⟨h1,h2⟩:=h
 rw [Nat.min_eq_left (by omega)] at h2
 exact ⟨by omega,h2⟩
theorem aQ7 {s:Str} (h:pfx kH s=true):7≤ixB 59 s:=by
 simp only [pfx,Bool.and_eq_true,decide_eq_true_eq,beq_iff_eq] at h
 obtain ⟨h1,h2⟩:=h
 have h3:s=kH++s.drop 7:=by
  have:=List.take_append_drop 7 s
  rw [show kH.length=7 from rfl] at h2
  rw [h2] at this;exact this.symm
 rw [h3,zO 59 kH _ (by decide)]
 simp [kH]
theorem aQr {s:Str} (h:pfx kH s=true):pfx kH (s.take (ixB 59 s))=true:=by
 have h7:=aQ7 h
 have hle:=rH 59 s
 simp only [pfx,Bool.and_eq_true,decide_eq_true_eq,beq_iff_eq,List.take_take,List.length_take,show kH.length=7 from rfl] at h⊢
 rw [Nat.min_eq_left h7]
 exact ⟨by omega,h.2⟩
end Go.Proofs.YtajppdidkjbmkaaGreatDoor
