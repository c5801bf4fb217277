/-
  Proved here: steps towards the statement of this claim, text QP6.
  No condition beyond what each statement spells out.
-/
import Derived.Test.YtgkllebnnakojaaGreatDoorQP5
import Derived.Test.YtgkllebnnakojaaGreatDoorP4
set_option linter.all false
set_option maxRecDepth 4000
set_option maxHeartbeats 4000000
namespace Go.Proofs.YtgkllebnnakojaaGreatDoor
open Go.Aw
def jN:Str:=[105,109,112,111,114,116,32]
def fI (base:Str):List Str→Option (List aC×List Str)
 |[]=>some ([],[])
 |p::ps=>if pfx jN p=true then (if (dG (p.drop 7) base).2=true then (fI base ps).map (fun q=>((dG (p.drop 7) base).1::q.1,q.2)) else none) else some ([],p::ps)
def aN (body base:Str):List aC×List uM×Bool:=
 match fI base (bA 59 body) with
 |none=>([],[],false)
 |some (l,r)=>if (dY (Lib.join r [59])).2=true then (l,(dY (Lib.join r [59])).1,true) else ([],[],false)
def lQ (base:Str) (l:List Str) (acc:List aC) (r:List Str):Prop:=fI base l=(fI base r).map fun q=>(acc++q.1,q.2)
theorem aBk (base:Str) (l:List Str):lQ base l [] l:=by
 unfold lQ
 cases fI base l<;>simp
theorem aEh {base:Str} {l:List Str} {acc:List aC} {p:Str} {ps:List Str} (h:lQ base l acc (p::ps)) (h1:pfx jN p=true) (h2:(dG (p.drop 7) base).2=false):fI base l=none:=by
 unfold lQ at h
 rw [h]
 simp [fI,h1,h2]
theorem aCy {base:Str} {l:List Str} {acc:List aC} {p:Str} {ps:List Str} (h:lQ base l acc (p::ps)) (h1:pfx jN p=true) (h2:(dG (p.drop 7) base).2=true):lQ base l (acc++[(dG (p.drop 7) base).1]) ps:=by
 unfold lQ at h⊢
 rw [h]
 simp only [fI,h1,h2,if_true]
 cases fI base ps<;>simp
theorem aEb {base:Str} {l:List Str} {acc:List aC} (h:lQ base l acc []):fI base l=some (acc,[]):=by
 unfold lQ at h
 rw [h]
 simp [fI]
theorem aCr {base:Str} {l:List Str} {acc:List aC} {p:Str} {ps:List Str} (h:lQ base l acc (p::ps)) (h1:pfx jN p=false):fI base l=some (acc,p::ps):=by
 unfold lQ at h
 rw [h]
 simp [fI,h1]
theorem aAa (c:UInt8):∀s:Str,Lib.join (bA c s) [c]=s
 |[]=>by simp [bA,Lib.join_one]
 |x::s=>by
  have ih:=aAa c s
  simp only [bA]
  split
  ·rename_i h
   subst h
   cases hs:bA x s with
   |nil=>exact absurd hs (kW x s)
   |cons p r=>
    rw [hs] at ih
    simp only [Lib.join,List.intercalate] at ih⊢
    simp only [List.intersperse,List.flatten_cons,List.nil_append,List.singleton_append] at ih⊢
    rw [ih]
  ·split
   ·rename_i h0;exact absurd h0 (kW c s)
   ·rename_i p r h0
    rw [h0] at ih
    simp only [Lib.join,List.intercalate] at ih⊢
    cases r with
    |nil=>simp only [List.intersperse,List.flatten_cons,List.flatten_nil,List.append_nil] at ih⊢;rw [ih]
    |cons q r=>simp only [List.intersperse,List.flatten_cons,List.cons_append] at ih⊢;rw [ih]
theorem aR7 [aB Tryz.prog] [cO Tryz.prog] (l:List Str) (sep:Str) (hl:l.length≤140737488355328) (hs:(Lib.join l sep).length≤140737488355328):
  Ok Tryz.prog 30 [.sl .view 1 (l.map bZ),.str sep] (.str (Lib.join l sep)):=aT6 Tryz.lays156 Tryz.Builder_Extra_156 l sep hl hs
theorem aJl (x:Str) (xs:List Str) (c:UInt8):(Lib.join xs [c]).length≤(Lib.join (x::xs) [c]).length:=by
 cases xs with
 |nil=>simp [Lib.join_nil]
 |cons y ys=>
  simp only [Lib.join,List.intercalate,List.intersperse,List.flatten_cons,List.length_append]
  omega
theorem aBa (c:UInt8):∀(k:Nat) (l:List Str),(Lib.join (l.drop k) [c]).length≤(Lib.join l [c]).length
 |0,l=>by simp
 |_+1,[]=>by simp
 |k+1,x::xs=>by
  rw [List.drop_succ_cons]
  exact Nat.le_trans (aBa c k xs) (aJl x xs c)
theorem aRa [aB Tryz.prog] [cO Tryz.prog] {s:Str} (hl:s.length≤1099511627776) (h:pfx jN s=false):Ok Tryz.prog 27 [.str s,.str [105,109,112,111,114,116,32]] (.tup [.str s,.bool false]):=by
 have c:=aAc s jN hl (by simp [jN])
 rw [h] at c
 exact c
theorem aOk [aB Tryz.prog] [cO Tryz.prog] {s:Str} (hl:s.length≤1099511627776) (h:pfx jN s=true):Ok Tryz.prog 27 [.str s,.str [105,109,112,111,114,116,32]] (.tup [.str (s.drop 7),.bool true]):=by
 have c:=aAc s jN hl (by simp [jN])
 rw [h] at c
 exact c
theorem nI [aB Tryz.prog] [cO Tryz.prog] (body base:Str) (hl:body.length≤1073741824) (hb:base.length≤1073741824):Ok Tryz.prog 10 [.str body,.str base] (.tup [.sl .own 2 ((aN body base).1.map aD),.sl .own 2 ((aN body base).2.1.map jM),.bool (aN body base).2.2]):=by
 have cS:=aKr body 59 (by omega)
 have hle:=aBs 59 body
 have hst:=aBk base (bA 59 body)
 have hn:=jX 59 body
 have hcn:body.count 59≤body.length:=List.count_le_length
 have hll:(bA 59 body).length≤1073741825:=by omega
 have hres:∀acc r,fI base (bA 59 body)=some (acc,r)→∀ls ok,dY (Lib.join r [59])=(ls,ok)→aN body base=if ok=true then (acc,ls,true) else ([],[],false):=by
  intro acc r h1 ls ok h2
  unfold aN
  rw [h1]
  simp only [h2]
 have hnone:fI base (bA 59 body)=none→aN body base=([],[],false):=by
  intro h1
  unfold aN
  rw [h1]
 generalize aN body base=g at *
 have hjl:(Lib.join (bA 59 body) [59]).length≤1073741824:=by rw [aAa];exact hl
 generalize bA 59 body=l at *
 refine ent Tryz.mix Tryz.func10 Tryz.ntmps10 ?_
 have W:=trivial
 repeat' first|refine st ?_|(refine nx ?_;first|refine se ?_|refine so ?_)|(refine cx ?_;refine sc (fun hc=>?_) (fun hc=>?_)<;>try exact hc.elim)|(refine lx ?_;refine sp (fun hc=>?_) (fun hc=>?_)<;>try exact hc.elim)|refine sx ?_ ?_|refine sy ?_ ?_|fail
 refine aT (ι:={q:Nat×List aC×Nat // (q.1≤l.length∧1≤q.2.2)∧q.2.1.length=q.1∧lQ base l q.2.1 (l.drop q.1)}) (fun t o i=>⟨bB t [(7,.obj 0 (i.1.1+1)),(8,.obj 1 i.1.2.2),(9,.undef),(10,.undef),(11,.undef),(12,.undef)],[⟨true,false,1,i.1.1+1,(l.drop i.1.1).map bZ⟩,⟨true,false,2,i.1.2.2,i.1.2.1.map aD⟩]⟩)
  (fun i=>l.length - i.1.1) ⟨(0,[],1),by simp,by simp,by simpa using hst⟩ (aI (by simp) (by simp)) ?_
 rintro ⟨⟨k,acc,v⟩,⟨hk,hv⟩,hacc,hgo⟩ K1 hK1
 simp only at hk hv hacc hgo
 simp only [bB,List.set_cons_succ,List.set_cons_zero] at hK1⊢
 have hjd:=aBa 59 k l
 have hdl:(l.drop k).length≤1073741825:=by simp;omega
 have cJ:=aR7 (l.drop k) [59] (by omega) (by omega)
 have cP:=aAg (Lib.join (l.drop k) [59]) (by omega)
 by_cases hlt:k < l.length
 ·have hd:l.drop k=l[k]::l.drop (k+1):=List.drop_eq_getElem_cons hlt
  have hpl:=hle _ (List.getElem_mem hlt)
  have c2:=aC8 (l[k].drop 7) base (by simp;omega)
  simp only [aD] at c2
  rw [hd] at hgo cJ cP hdl⊢
  generalize hps:l.drop (k+1)=ps at *
  generalize l[k]=p at *
  simp only [List.length_cons] at hdl
  cases hp:pfx jN p with
  |false=>
   have hs:=aCr hgo hp
   have c1:=aRa (by omega) hp
   have hr:=hres _ _ hs
   clear hp hs hgo hst hK1
   have hdp:(0:Int) < (ps.length:Int)+1:=by omega
   generalize Lib.join (p::ps) [59]=J2 at *
   generalize dY J2=q at *
   obtain ⟨ls,ok⟩:=q
   have hr:=hr ls ok rfl
   subst hr
   simp only at cP
   cases ok
   ·simp only [Bool.false_eq_true,if_false]
    have W:=hdp
    repeat' first|refine st ?_|(refine nx ?_;first|refine se ?_|refine so ?_)|(refine cx ?_;refine sc (fun hc=>?_) (fun hc=>?_)<;>try exact hc.elim)|(refine lx ?_;refine sp (fun hc=>?_) (fun hc=>?_)<;>try exact hc.elim)|refine sx ?_ ?_|refine sy ?_ ?_|fail
    all_goals (try (refine ⟨.inr rfl,?_⟩;simp [Hands,Tryz.results10]))
   ·simp only [if_true]
    have W:=hdp
    repeat' first|refine st ?_|(refine nx ?_;first|refine se ?_|refine so ?_)|(refine cx ?_;refine sc (fun hc=>?_) (fun hc=>?_)<;>try exact hc.elim)|(refine lx ?_;refine sp (fun hc=>?_) (fun hc=>?_)<;>try exact hc.elim)|refine sx ?_ ?_|refine sy ?_ ?_|fail
    all_goals (try (refine ⟨.inr rfl,?_⟩;simp [Hands,Tryz.results10]))
  |true=>
   have hbad:=aEh hgo hp
   have hnext:=aCy hgo hp
   have c1:=aOk (by omega) hp
   clear hp
   have hdp:(0:Int) < (ps.length:Int)+1:=by omega
   generalize dG (p.drop 7) base=pa at *
   obtain ⟨a,ok⟩:=pa
   simp only at c2 hbad hnext
   have htk:List.take ps.length (ps.map bZ)=ps.map bZ:=List.take_of_length_le (by simp)
   cases ok with
   |false=>
    have hr:=hnone (hbad rfl)
    subst hr
    have W:=hdp
    repeat' first|refine st ?_|(refine nx ?_;first|refine se ?_|refine so ?_)|(refine cx ?_;refine sc (fun hc=>?_) (fun hc=>?_)<;>try exact hc.elim)|(refine lx ?_;refine sp (fun hc=>?_) (fun hc=>?_)<;>try exact hc.elim)|refine sx ?_ ?_|refine sy ?_ ?_|fail
    all_goals (try (refine ⟨.inr rfl,?_⟩;simp [Hands,Tryz.results10]))
   |true=>
    have W:=hdp
    repeat' first|refine st ?_|(refine nx ?_;first|refine se ?_|refine so ?_)|(refine cx ?_;refine sc (fun hc=>?_) (fun hc=>?_)<;>try exact hc.elim)|(refine lx ?_;refine sp (fun hc=>?_) (fun hc=>?_)<;>try exact hc.elim)|refine sx ?_ ?_|refine sy ?_ ?_|fail
    all_goals exact hK1 _ ⟨(k+1,acc++[a],v+1),⟨by simp only;omega,by simp only;omega⟩,by simp;omega,by simp only [hps];exact hnext rfl⟩ (aO 2 (by simp [hps,htk]) (by simp) (by simp) (by simp)) (by simp only;omega)
 ·have hd:l.drop k=[]:=List.drop_of_length_le (by omega)
  rw [hd] at hgo cJ cP⊢
  have hr:=hres _ _ (aEb hgo) [] true rfl
  subst hr
  have hq:dY []=([],true):=rfl
  simp only [Lib.join_nil,hq,List.map_nil,if_true] at cJ cP⊢
  have W:=trivial
  repeat' first|refine st ?_|(refine nx ?_;first|refine se ?_|refine so ?_)|(refine cx ?_;refine sc (fun hc=>?_) (fun hc=>?_)<;>try exact hc.elim)|(refine lx ?_;refine sp (fun hc=>?_) (fun hc=>?_)<;>try exact hc.elim)|refine sx ?_ ?_|refine sy ?_ ?_|fail
  all_goals (try (refine ⟨.inr rfl,?_⟩;simp [Hands,Tryz.results10]))
theorem aEc (c:UInt8) (s:Str):bA c s=s.take (ixB c s)::(if ixB c s < s.length then bA c (s.drop (ixB c s+1)) else []):=by
 rw [aGh]
 have h:=qY c s
 split
 ·rfl
 ·rw [List.take_of_length_le (by omega)]
theorem aRr {p s:Str} {k:Nat} (h:pfx p (s.take k)=true):pfx p s=true:=by
 simp only [pfx,Bool.and_eq_true,decide_eq_true_eq,beq_iff_eq,List.take_take,List.length_take] at h⊢
 obtain ⟨h1,h2⟩:=h
 rw [Nat.min_eq_left (by omega)] at h2
 exact ⟨by omega,h2⟩
theorem aPv {s:Str} (h:pfx jN s=true):7≤ixB 59 s:=by
 simp only [pfx,Bool.and_eq_true,decide_eq_true_eq,beq_iff_eq] at h
 obtain ⟨h1,h2⟩:=h
 have h3:s=jN++s.drop 7:=by
  have:=List.take_append_drop 7 s
  rw [show jN.length=7 from rfl] at h2
  rw [h2] at this;exact this.symm
 rw [h3,yU 59 jN _ (by decide)]
 simp [jN]
theorem aPz {s:Str} (h:pfx jN s=true):pfx jN (s.take (ixB 59 s))=true:=by
 have h7:=aPv h
 have hle:=qY 59 s
 simp only [pfx,Bool.and_eq_true,decide_eq_true_eq,beq_iff_eq,List.take_take,List.length_take,show jN.length=7 from rfl] at h⊢
 rw [Nat.min_eq_left h7]
 exact ⟨by omega,h.2⟩
end Go.Proofs.YtgkllebnnakojaaGreatDoor
