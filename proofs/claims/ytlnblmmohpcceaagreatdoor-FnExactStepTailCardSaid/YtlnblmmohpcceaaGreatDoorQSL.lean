/-
  Proved here: steps towards the statement of this claim, text QSL.
  No condition beyond what each statement spells out.
-/
import Derived.Test.YtlnblmmohpcceaaGreatDoorQRC7
import Derived.Test.YtlnblmmohpcceaaGreatDoorF8
import Derived.Test.YtlnblmmohpcceaaGreatDoorQN1
import Derived.Test.YtlnblmmohpcceaaGreatDoorQT1
import Derived.Test.YtlnblmmohpcceaaGreatDoorQP3
import Derived.Test.YtlnblmmohpcceaaGreatDoorQRCB
import Derived.Test.YtlnblmmohpcceaaGreatDoorQU3
import Derived.Test.YtlnblmmohpcceaaGreatDoorQD1
import Derived.Test.YtlnblmmohpcceaaGreatDoorF6
set_option linter.all false
set_option maxRecDepth 4000
set_option maxHeartbeats 4000000
namespace Go.Proofs.YtlnblmmohpcceaaGreatDoor
open Go.Aw
theorem aDl [aA Tryz.prog] (p:aJ) (s:Str) (hs:p.log.length≤1099511627776):OkG Tryz.prog 71 [.give (.agg (aG .own p)),.view (.str s)] (.agg (aG .own {p with log:=dZ p.log s})):=by
 by_cases h:p.log.length < 40
 ·have hi:(p.log.length:Int) < 40:=by omega
  obtain ⟨l1,hl1⟩:∃l,l=p.log++[s]:=⟨_,rfl⟩
  have hap:p.log.map bU++[[.str s]]=l1.map bU:=by rw [hl1];simp
  have e:dZ p.log s=l1:=by unfold dZ;rw [if_pos h,hl1]
  rw [e]
  clear e hl1
  refine iE Tryz.mix Tryz.func71 Tryz.ntmps71 ?_
  have W:=And.intro hi (And.intro hap hs)
  repeat' first|refine we ?_|(refine sq (fun hc=>?_) (fun hc=>?_)<;>try exact hc.elim)|fail
  all_goals (try (refine ⟨by first|exact .inr rfl|exact .inl rfl,?_⟩;simp [dK,bQ,bN,rowOf,Tryz.results71]))
 ·have hi:¬(p.log.length:Int) < 40:=by omega
  have e:dZ p.log s=p.log:=by unfold dZ;rw [if_neg h]
  rw [e]
  clear e
  refine iE Tryz.mix Tryz.func71 Tryz.ntmps71 ?_
  have W:=hi
  repeat' first|refine we ?_|(refine sq (fun hc=>?_) (fun hc=>?_)<;>try exact hc.elim)|fail
  all_goals (try (refine ⟨by first|exact .inr rfl|exact .inl rfl,?_⟩;simp [dK,bQ,bN,rowOf,Tryz.results71]))
theorem aHa [aA Tryz.prog] (a:aK) (hl:aR a≤1099511627776):Ok Tryz.prog 157 [.agg (aF a)] (.str (iZ a)):=by
 have c1:=uO a (by omega)
 simp only [aR] at hl
 have f1:a.host.length≤9223372036854775806:=by omega
 have f2:a.host.length+1≤9223372036854775807:=by omega
 have f3:a.host.length+1+a.path.length≤9223372036854775807:=by omega
 have f4:a.host.length+(a.path.length+1)≤9223372036854775807:=by omega
 refine ent Tryz.mix Tryz.func157 Tryz.ntmps157 ?_
 have W:=And.intro f1 (And.intro f2 (And.intro f3 f4))
 repeat' first|refine wl ?_|(refine sq (fun hc=>?_) (fun hc=>?_)<;>try exact hc.elim)|fail
 all_goals (try (refine ⟨.inr rfl,?_⟩;simp [Hands,Tryz.results157,iZ]))
 all_goals simp_all [iZ]
theorem xU (a:aK):(iZ a).length≤17:=by
 unfold iZ
 split
 ·rename_i h
  simp [uG,bS] at h
  simp
  omega
 ·simp
theorem aG5 [aA Tryz.prog] (a:aK) (hl:aR a≤1099511627776):Ok Tryz.prog 170 [.agg (aF a)] (.str (iZ a)):=by
 have c1:=uR a (by omega)
 simp only [aR] at hl
 have f1:a.host.length≤9223372036854775806:=by omega
 have f2:a.host.length+1≤9223372036854775807:=by omega
 have f3:a.host.length+1+a.path.length≤9223372036854775807:=by omega
 have f4:a.host.length+(a.path.length+1)≤9223372036854775807:=by omega
 refine ent Tryz.mix Tryz.func170 Tryz.ntmps170 ?_
 have W:=And.intro f1 (And.intro f2 (And.intro f3 f4))
 repeat' first|refine wl ?_|(refine sq (fun hc=>?_) (fun hc=>?_)<;>try exact hc.elim)|fail
 all_goals (try (refine ⟨.inr rfl,?_⟩;simp [Hands,Tryz.results170,iZ]))
 all_goals simp_all [iZ]
def nL:Str:=[105,109,112,111,114,116,32]
def kX (base:Str):List Str→Option (List aK×List Str)
 |[]=>some ([],[])
 |p::ps=>if pfx nL p=true then (if (bI (p.drop 7) base).2=true then (kX base ps).map (fun q=>((bI (p.drop 7) base).1::q.1,q.2)) else none) else some ([],p::ps)
def bA (body base:Str):List aK×List fI×Bool:=
 match kX base (bH 59 body) with
 |none=>([],[],false)
 |some (l,r)=>if (eO (Lib.join r [59])).2=true then (l,(eO (Lib.join r [59])).1,true) else ([],[],false)
def qG (base:Str) (l:List Str) (acc:List aK) (r:List Str):Prop:=kX base l=(kX base r).map fun q=>(acc++q.1,q.2)
theorem aF8 (base:Str) (l:List Str):qG base l [] l:=by
 unfold qG
 cases kX base l<;>simp
theorem aJ5 {base:Str} {l:List Str} {acc:List aK} {p:Str} {ps:List Str} (h:qG base l acc (p::ps)) (h1:pfx nL p=true) (h2:(bI (p.drop 7) base).2=false):kX base l=none:=by
 unfold qG at h
 rw [h]
 simp [kX,h1,h2]
theorem aH2 {base:Str} {l:List Str} {acc:List aK} {p:Str} {ps:List Str} (h:qG base l acc (p::ps)) (h1:pfx nL p=true) (h2:(bI (p.drop 7) base).2=true):qG base l (acc++[(bI (p.drop 7) base).1]) ps:=by
 unfold qG at h⊢
 rw [h]
 simp only [kX,h1,h2,if_true]
 cases kX base ps<;>simp
theorem aLe {base:Str} {l:List Str} {acc:List aK} (h:qG base l acc []):kX base l=some (acc,[]):=by
 unfold qG at h
 rw [h]
 simp [kX]
theorem aHt {base:Str} {l:List Str} {acc:List aK} {p:Str} {ps:List Str} (h:qG base l acc (p::ps)) (h1:pfx nL p=false):kX base l=some (acc,p::ps):=by
 unfold qG at h
 rw [h]
 simp [kX,h1]
theorem aGb (c:UInt8):∀s:Str,Lib.join (bH c s) [c]=s
 |[]=>by simp [bH,Lib.join_one]
 |x::s=>by
  have ih:=aGb c s
  simp only [bH]
  split
  ·rename_i h
   subst h
   cases hs:bH x s with
   |nil=>exact absurd hs (uC x s)
   |cons p r=>
    rw [hs] at ih
    simp only [Lib.join,List.intercalate] at ih⊢
    simp only [List.intersperse,List.flatten_cons,List.nil_append,List.singleton_append] at ih⊢
    rw [ih]
  ·split
   ·rename_i h0;exact absurd h0 (uC c s)
   ·rename_i p r h0
    rw [h0] at ih
    simp only [Lib.join,List.intercalate] at ih⊢
    cases r with
    |nil=>simp only [List.intersperse,List.flatten_cons,List.flatten_nil,List.append_nil] at ih⊢;rw [ih]
    |cons q r=>simp only [List.intersperse,List.flatten_cons,List.cons_append] at ih⊢;rw [ih]
theorem bBv [aA Tryz.prog] [dG Tryz.prog] (l:List Str) (sep:Str) (hl:l.length≤140737488355328) (hs:(Lib.join l sep).length≤140737488355328):
  Ok Tryz.prog 194 [.sl .view 1 (l.map bU),.str sep] (.str (Lib.join l sep)):=bC1 Tryz.lays156 Tryz.Builder_Extra_156 l sep hl hs
theorem aQd (x:Str) (xs:List Str) (c:UInt8):(Lib.join xs [c]).length≤(Lib.join (x::xs) [c]).length:=by
 cases xs with
 |nil=>simp [Lib.join_nil]
 |cons y ys=>
  simp only [Lib.join,List.intercalate,List.intersperse,List.flatten_cons,List.length_append]
  omega
theorem aFm (c:UInt8):∀(k:Nat) (l:List Str),(Lib.join (l.drop k) [c]).length≤(Lib.join l [c]).length
 |0,l=>by simp
 |_+1,[]=>by simp
 |k+1,x::xs=>by
  rw [List.drop_succ_cons]
  exact Nat.le_trans (aFm c k xs) (aQd x xs c)
theorem aY3 [aA Tryz.prog] [dG Tryz.prog] {s:Str} (hl:s.length≤1099511627776) (h:pfx nL s=false):Ok Tryz.prog 197 [.str s,.str [105,109,112,111,114,116,32]] (.tup [.str s,.bool false]):=by
 have c:=aA8 s nL hl (by simp [nL])
 rw [h] at c
 exact c
theorem aWm [aA Tryz.prog] [dG Tryz.prog] {s:Str} (hl:s.length≤1099511627776) (h:pfx nL s=true):Ok Tryz.prog 197 [.str s,.str [105,109,112,111,114,116,32]] (.tup [.str (s.drop 7),.bool true]):=by
 have c:=aA8 s nL hl (by simp [nL])
 rw [h] at c
 exact c
theorem sJ [aA Tryz.prog] [dG Tryz.prog] (body base:Str) (hl:body.length≤1073741824) (hb:base.length≤1073741824):Ok Tryz.prog 172 [.str body,.str base] (.tup [.sl .own 2 ((bA body base).1.map aF),.sl .own 2 ((bA body base).2.1.map fU),.bool (bA body base).2.2]):=by
 have cS:=aTk body 59 (by omega)
 have hle:=aGz 59 body
 have hst:=aF8 base (bH 59 body)
 have hn:=iP 59 body
 have hcn:body.count 59≤body.length:=List.count_le_length
 have hll:(bH 59 body).length≤1073741825:=by omega
 have hres:∀acc r,kX base (bH 59 body)=some (acc,r)→∀ls ok,eO (Lib.join r [59])=(ls,ok)→bA body base=if ok=true then (acc,ls,true) else ([],[],false):=by
  intro acc r h1 ls ok h2
  unfold bA
  rw [h1]
  simp only [h2]
 have hnone:kX base (bH 59 body)=none→bA body base=([],[],false):=by
  intro h1
  unfold bA
  rw [h1]
 generalize bA body base=g at *
 have hjl:(Lib.join (bH 59 body) [59]).length≤1073741824:=by rw [aGb];exact hl
 generalize bH 59 body=l at *
 refine ent Tryz.mix Tryz.func172 Tryz.ntmps172 ?_
 have W:=trivial
 repeat' first|refine we ?_|(refine sq (fun hc=>?_) (fun hc=>?_)<;>try exact hc.elim)|fail
 refine aM (ι:={q:Nat×List aK×Nat // (q.1≤l.length∧1≤q.2.2)∧q.2.1.length=q.1∧qG base l q.2.1 (l.drop q.1)}) (fun t o i=>⟨aO t [(7,.obj 0 (i.1.1+1)),(8,.obj 1 i.1.2.2),(9,.undef),(10,.undef),(11,.undef),(12,.undef)],[⟨true,false,1,i.1.1+1,(l.drop i.1.1).map bU⟩,⟨true,false,2,i.1.2.2,i.1.2.1.map aF⟩]⟩)
  (fun i=>l.length - i.1.1) ⟨(0,[],1),by simp,by simp,by simpa using hst⟩ (aH (by simp) (by simp)) ?_
 rintro ⟨⟨k,acc,v⟩,⟨hk,hv⟩,hacc,hgo⟩ K1 hK1
 simp only at hk hv hacc hgo
 simp only [aO,List.set_cons_succ,List.set_cons_zero] at hK1⊢
 have hjd:=aFm 59 k l
 have hdl:(l.drop k).length≤1073741825:=by simp;omega
 have cJ:=bBv (l.drop k) [59] (by omega) (by omega)
 have cP:=yT (Lib.join (l.drop k) [59]) (by omega)
 by_cases hlt:k < l.length
 ·have hd:l.drop k=l[k]::l.drop (k+1):=List.drop_eq_getElem_cons hlt
  have hpl:=hle _ (List.getElem_mem hlt)
  have c2:=vF (l[k].drop 7) base (by simp;omega)
  simp only [aF] at c2
  rw [hd] at hgo cJ cP hdl⊢
  generalize hps:l.drop (k+1)=ps at *
  generalize l[k]=p at *
  simp only [List.length_cons] at hdl
  cases hp:pfx nL p with
  |false=>
   have hs:=aHt hgo hp
   have c1:=aY3 (by omega) hp
   have hr:=hres _ _ hs
   clear hp hs hgo hst hK1
   have hdp:(0:Int) < (ps.length:Int)+1:=by omega
   generalize Lib.join (p::ps) [59]=J2 at *
   generalize eO J2=q at *
   obtain ⟨ls,ok⟩:=q
   have hr:=hr ls ok rfl
   subst hr
   simp only at cP
   cases ok
   ·simp only [Bool.false_eq_true,if_false]
    have W:=hdp
    repeat' first|refine we ?_|(refine sq (fun hc=>?_) (fun hc=>?_)<;>try exact hc.elim)|fail
    all_goals (try (refine ⟨.inr rfl,?_⟩;simp [Hands,Tryz.results172]))
   ·simp only [if_true]
    have W:=hdp
    repeat' first|refine we ?_|(refine sq (fun hc=>?_) (fun hc=>?_)<;>try exact hc.elim)|fail
    all_goals (try (refine ⟨.inr rfl,?_⟩;simp [Hands,Tryz.results172]))
  |true=>
   have hbad:=aJ5 hgo hp
   have hnext:=aH2 hgo hp
   have c1:=aWm (by omega) hp
   clear hp
   have hdp:(0:Int) < (ps.length:Int)+1:=by omega
   generalize bI (p.drop 7) base=pa at *
   obtain ⟨a,ok⟩:=pa
   simp only at c2 hbad hnext
   have htk:List.take ps.length (ps.map bU)=ps.map bU:=List.take_of_length_le (by simp)
   cases ok with
   |false=>
    have hr:=hnone (hbad rfl)
    subst hr
    have W:=hdp
    repeat' first|refine we ?_|(refine sq (fun hc=>?_) (fun hc=>?_)<;>try exact hc.elim)|fail
    all_goals (try (refine ⟨.inr rfl,?_⟩;simp [Hands,Tryz.results172]))
   |true=>
    have W:=hdp
    repeat' first|refine we ?_|(refine sq (fun hc=>?_) (fun hc=>?_)<;>try exact hc.elim)|fail
    all_goals exact hK1 _ ⟨(k+1,acc++[a],v+1),⟨by simp only;omega,by simp only;omega⟩,by simp;omega,by simp only [hps];exact hnext rfl⟩ (aQ 2 (by simp [hps,htk]) (by simp) (by simp) (by simp)) (by simp only;omega)
 ·have hd:l.drop k=[]:=List.drop_of_length_le (by omega)
  rw [hd] at hgo cJ cP⊢
  have hr:=hres _ _ (aLe hgo) [] true rfl
  subst hr
  have hq:eO []=([],true):=rfl
  simp only [Lib.join_nil,hq,List.map_nil,if_true] at cJ cP⊢
  have W:=trivial
  repeat' first|refine we ?_|(refine sq (fun hc=>?_) (fun hc=>?_)<;>try exact hc.elim)|fail
  all_goals (try (refine ⟨.inr rfl,?_⟩;simp [Hands,Tryz.results172]))
theorem aK7 (c:UInt8) (s:Str):bH c s=s.take (ixB c s)::(if ixB c s < s.length then bH c (s.drop (ixB c s+1)) else []):=by
 rw [aF6]
 have h:=mQ c s
 split
 ·rfl
 ·rw [List.take_of_length_le (by omega)]
theorem bB7 {p s:Str} {k:Nat} (h:pfx p (s.take k)=true):pfx p s=true:=by
 simp only [pfx,Bool.and_eq_true,decide_eq_true_eq,beq_iff_eq,List.take_take,List.length_take] at h⊢
 obtain ⟨h1,h2⟩:=h
 rw [Nat.min_eq_left (by omega)] at h2
 exact ⟨by omega,h2⟩
theorem bAf {s:Str} (h:pfx nL s=true):7≤ixB 59 s:=by
 simp only [pfx,Bool.and_eq_true,decide_eq_true_eq,beq_iff_eq] at h
 obtain ⟨h1,h2⟩:=h
 have h3:s=nL++s.drop 7:=by
  have:=List.take_append_drop 7 s
  rw [show nL.length=7 from rfl] at h2
  rw [h2] at this;exact this.symm
 rw [h3,aDt 59 nL _ (by decide)]
 simp [nL]
theorem aZq {s:Str} (h:pfx nL s=true):pfx nL (s.take (ixB 59 s))=true:=by
 have h7:=bAf h
 have hle:=mQ 59 s
 simp only [pfx,Bool.and_eq_true,decide_eq_true_eq,beq_iff_eq,List.take_take,List.length_take,show nL.length=7 from rfl] at h⊢
 rw [Nat.min_eq_left h7]
 exact ⟨by omega,h.2⟩
theorem zC [aA Tryz.prog] [dG Tryz.prog] (body base:Str) (hl:body.length≤1073741824) (hb:base.length≤1073741824):Ok Tryz.prog 159 [.str body,.str base] (.tup [.sl .own 2 ((bA body base).1.map aF),.sl .own 2 ((bA body base).2.1.map fU),.bool (bA body base).2.2]):=by
 have hst:=aF8 base (bH 59 body)
 have hn:=iP 59 body
 have hcn:body.count 59≤body.length:=List.count_le_length
 have hll:(bH 59 body).length≤1073741825:=by omega
 have hres:∀acc r,kX base (bH 59 body)=some (acc,r)→∀ls ok,eO (Lib.join r [59])=(ls,ok)→bA body base=if ok=true then (acc,ls,true) else ([],[],false):=by
  intro acc r h1 ls ok h2
  unfold bA
  rw [h1]
  simp only [h2]
 have hnone:kX base (bH 59 body)=none→bA body base=([],[],false):=by
  intro h1
  unfold bA
  rw [h1]
 generalize bA body base=g at *
 have hi0:bH 59 body=bH 59 body∨(bH 59 body=[]∧body=[]):= .inl rfl
 generalize hL:bH 59 body=l at hst hn hll hres hnone hi0
 refine ent Tryz.mix Tryz.func159 Tryz.ntmps159 ?_
 have W:=trivial
 repeat' first|refine we ?_|(refine sq (fun hc=>?_) (fun hc=>?_)<;>try exact hc.elim)|fail
 refine aM (ι:={q:Str×List Str×List aK×Nat // (q.1.length≤body.length∧1≤q.2.2.2)∧(q.2.1=bH 59 q.1∨(q.2.1=[]∧q.1=[]))∧q.2.2.1.length+q.2.1.length≤l.length∧qG base l q.2.2.1 q.2.1}) (fun t o i=>⟨aO t [(8,.str i.1.1),(7,.obj 0 i.1.2.2.2),(9,.undef),(10,.undef),(11,.undef)],[⟨true,false,2,i.1.2.2.2,i.1.2.2.1.map aF⟩]⟩)
  (fun i=>i.1.2.1.length) ⟨(body,l,[],1),by simp,.inl hL.symm,by simp,hst⟩ (aH (by simp) (by simp)) ?_
 rintro ⟨⟨rest,parts,acc,v⟩,⟨hrl,hv⟩,hparts,hac,hgo⟩ K1 hK1
 simp only at hrl hv hparts hac hgo
 simp only [aO,List.set_cons_succ,List.set_cons_zero] at hK1⊢
 have hjoin:Lib.join parts [59]=rest:=by
  rcases hparts with rfl|⟨rfl,rfl⟩
  ·exact aGb 59 rest
  ·rfl
 cases hp:pfx nL rest with
 |false=>
  have hs:kX base l=some (acc,parts):=by
   rcases hparts with rfl|⟨rfl,rfl⟩
   ·rw [aK7] at hgo⊢
    refine aHt hgo ?_
    cases h:pfx nL (rest.take (ixB 59 rest)) with
    |false=>rfl
    |true=>rw [bB7 h] at hp;cases hp
   ·exact aLe hgo
  have hr:=hres _ _ hs
  rw [hjoin] at hr
  have cP:=yY rest (by omega)
  generalize eO rest=q at *
  obtain ⟨ls,ok⟩:=q
  have hr:=hr ls ok rfl
  subst hr
  simp only at cP
  clear hK1 hs hres hnone hgo
  by_cases h7:(7:Int)≤(rest.length:Int)
  ·have he:(rest.take 7 == ([105,109,112,111,114,116,32]:Str))=false:=by
    simp only [pfx,show nL.length=7 from rfl,Bool.and_eq_false_iff,decide_eq_false_iff_not] at hp
    rcases hp with hp|hp
    ·omega
    ·exact hp
   clear hp
   cases ok
   ·simp only [Bool.false_eq_true,if_false]
    have W:=And.intro h7 he
    repeat' first|refine we ?_|(refine sq (fun hc=>?_) (fun hc=>?_)<;>try exact hc.elim)|fail
    all_goals (try (refine ⟨.inr rfl,?_⟩;simp [Hands,Tryz.results159]))
   ·simp only [if_true]
    have W:=And.intro h7 he
    repeat' first|refine we ?_|(refine sq (fun hc=>?_) (fun hc=>?_)<;>try exact hc.elim)|fail
    all_goals (try (refine ⟨.inr rfl,?_⟩;simp [Hands,Tryz.results159]))
  ·clear hp
   cases ok
   ·simp only [Bool.false_eq_true,if_false]
    have W:=h7
    repeat' first|refine we ?_|(refine sq (fun hc=>?_) (fun hc=>?_)<;>try exact hc.elim)|fail
    all_goals (try (refine ⟨.inr rfl,?_⟩;simp [Hands,Tryz.results159]))
   ·simp only [if_true]
    have W:=h7
    repeat' first|refine we ?_|(refine sq (fun hc=>?_) (fun hc=>?_)<;>try exact hc.elim)|fail
    all_goals (try (refine ⟨.inr rfl,?_⟩;simp [Hands,Tryz.results159]))
 |true=>
  have h7n:=aKi hp
  have h7:(7:Int)≤(rest.length:Int):=by simp only [show nL.length=7 from rfl] at h7n;omega
  have he:(rest.take 7 == ([105,109,112,111,114,116,32]:Str))=true:=by
   simp only [pfx,show nL.length=7 from rfl,Bool.and_eq_true] at hp
   exact hp.2
  have hpt:=aZq hp
  have hix:=bAf hp
  have hxl:=mQ 59 rest
  have hsg:parts=bH 59 rest:=by
   rcases hparts with h|⟨_,h⟩
   ·exact h
   ·subst h;simp at h7
  rw [aK7] at hsg
  have cI:Ok Tryz.prog 218 [.str rest,.int .u8 59] (.int .i64 (ixB 59 rest:Nat)):=aD7 rest 59 (by omega)
  generalize ixB 59 rest=k at *
  subst hsg
  have c2:=vE ((rest.take k).drop 7) base (by simp;omega)
  simp only [aF] at c2
  have hbad:=aJ5 hgo hpt
  have hnext:=aH2 hgo hpt
  have cM:=bFb (rest.length:Int) ((k:Int)+1)
  have hk7:(7:Int)≤(k:Int):=by omega
  have hkl:(k:Int)≤(rest.length:Int):=by omega
  generalize bI ((rest.take k).drop 7) base=pa at *
  obtain ⟨a,ok⟩:=pa
  simp only at c2 hbad hnext
  clear hp hpt
  cases ok with
  |false=>
   have hr:=hnone (hbad rfl)
   subst hr
   clear hK1
   have W:=And.intro h7 (And.intro he (And.intro hk7 hkl))
   repeat' first|refine we ?_|(refine sq (fun hc=>?_) (fun hc=>?_)<;>try exact hc.elim)|fail
   all_goals (try (refine ⟨.inr rfl,?_⟩;simp [Hands,Tryz.results159]))
  |true=>
   by_cases hkk:k < rest.length
   ·have hm:min (rest.length:Int) ((k:Int)+1)=((k+1:Nat):Int):=by omega
    rw [hm] at cM
    have hk1:IntKind.i64.wrap ((k:Int)+1)=((k+1:Nat):Int):=by rw [wrap64]<;>omega
    rw [if_pos hkk] at hnext hac
    have W:=And.intro h7 (And.intro he (And.intro hk7 (And.intro hkl hk1)))
    repeat' first|refine we ?_|(refine sq (fun hc=>?_) (fun hc=>?_)<;>try exact hc.elim)|fail
    all_goals exact hK1 _ ⟨(rest.drop (k+1),bH 59 (rest.drop (k+1)),acc++[a],v+1),⟨by simp;omega,by simp only;omega⟩,.inl rfl,by simp at hac⊢;omega,hnext rfl⟩ (aQ 1 (by simp) (by simp) (by simp) (by simp)) (by simp [if_pos hkk])
   ·have hm:min (rest.length:Int) ((k:Int)+1)=(rest.length:Int):=by omega
    rw [hm] at cM
    rw [if_neg hkk] at hnext hac
    have W:=And.intro h7 (And.intro he (And.intro hk7 hkl))
    repeat' first|refine we ?_|(refine sq (fun hc=>?_) (fun hc=>?_)<;>try exact hc.elim)|fail
    all_goals exact hK1 _ ⟨([],[],acc++[a],v+1),⟨by simp,by simp only;omega⟩,.inr ⟨rfl,rfl⟩,by simp at hac⊢;omega,hnext rfl⟩ (aQ 1 (by simp) (by simp) (by simp) (by simp)) (by simp)
def iD (p:aJ) (a:aK):List aK:=
 match p.mods.find? (kM a) with
 |some m=>if m.done=true∧m.code=1 then (bA m.body a.host).1 else []
 |none=>[]
def mY (p:aJ):List aK:=p.mods.flatMap fun m=>(bA m.body m.to.host).1
def dH (p:aJ):Nat→aK→List aK→List aK→List aK×List aK
 |0,_,seen,out=>(seen,out)
 |n+1,a,seen,out=>if seen.any (fP a)=true then (seen,out) else
   (((iD p a).foldl (fun s b=>dH p n b s.1 s.2) (seen++[a],out)).1,((iD p a).foldl (fun s b=>dH p n b s.1 s.2) (seen++[a],out)).2++[a])
def unseen (p:aJ) (seen:List aK):Nat:=(p.mods.filter fun m=> !seen.any (fP m.to)).length
def dB (p:aJ) (n:Nat) (l:List aK) (s:List aK×List aK):List aK×List aK:=l.foldl (fun s b=>dH p n b s.1 s.2) s
theorem aCt (p:aJ) (n:Nat) (l:List aK) (b:aK) (s:List aK×List aK):dB p n (l++[b]) s=dH p n b (dB p n l s).1 (dB p n l s).2:=by
 simp [dB]
theorem rF {l:List aK} {a:aK}:l.any (fP a)=true↔a∈l:=by
 simp [fP]
theorem aD1 (p:aJ) (a:aK):∀b∈iD p a,b∈mY p:=by
 intro b hb
 unfold iD at hb
 split at hb
 ·rename_i m hm
  split at hb
  ·have h1:=List.find?_some hm
   have h2:=List.mem_of_find?_eq_some hm
   simp only [kM,decide_eq_true_eq] at h1
   subst h1
   exact List.mem_flatMap.2 ⟨m,h2,hb⟩
  ·cases hb
 ·cases hb
theorem aWv {p:aJ} {a:aK} (h:iD p a≠[]):∃m∈p.mods,m.to=a:=by
 unfold iD at h
 split at h
 ·rename_i m hm
  have h1:=List.find?_some hm
  simp only [kM,decide_eq_true_eq] at h1
  exact ⟨m,List.mem_of_find?_eq_some hm,h1⟩
 ·exact absurd rfl h
structure Seen (U : List aK) (s : List aK × List aK) : Prop where
  nd : s.1.Nodup
  sub : ∀ x ∈ s.1, x ∈ U
  ond : s.2.Nodup
  osub : ∀ x ∈ s.2, x ∈ s.1
theorem aH4 {p:aJ} {s s':List aK} (h:∀x∈s,x∈s'):unseen p s'≤unseen p s:=by
 unfold unseen
 have:∀l:List cZ,(l.filter fun m=> !s'.any (fP m.to)).length≤(l.filter fun m=> !s.any (fP m.to)).length:=by
  intro l
  induction l with
  |nil=>simp
  |cons m l ih=>
   simp only [List.filter_cons]
   by_cases h1:s.any (fP m.to)=true
   ·have h2:s'.any (fP m.to)=true:=rF.2 (h _ (rF.1 h1))
    simp [h1,h2,ih]
   ·simp only [Bool.not_eq_true] at h1
    simp only [h1]
    split<;>simp<;>omega
 exact this p.mods
theorem aNi {p:aJ} {s:List aK} {a:aK} (h:¬s.any (fP a)=true) (hm:∃m∈p.mods,m.to=a):unseen p (s++[a]) < unseen p s:=by
 obtain ⟨m,hm,rfl⟩:=hm
 unfold unseen
 have key:∀l:List cZ,(l.filter fun x=> !(s++[m.to]).any (fP x.to)).length≤(l.filter fun x=> !s.any (fP x.to)).length∧(m∈l→(l.filter fun x=> !(s++[m.to]).any (fP x.to)).length < (l.filter fun x=> !s.any (fP x.to)).length):=by
  intro l
  induction l with
  |nil=>simp
  |cons x l ih=>
   simp only [List.filter_cons]
   by_cases h1:s.any (fP x.to)=true
   ·have h2:(s++[m.to]).any (fP x.to)=true:=rF.2 (List.mem_append_left _ (rF.1 h1))
    simp only [h1,h2,Bool.not_true,Bool.false_eq_true,if_false]
    refine ⟨ih.1,fun hmem=> ?_⟩
    rcases List.mem_cons.1 hmem with rfl|hmem
    ·exact absurd h1 h
    ·exact ih.2 hmem
   ·by_cases h2:(s++[m.to]).any (fP x.to)=true
    ·simp only [Bool.not_eq_true] at h1
     simp only [h1,h2,Bool.not_true,Bool.false_eq_true,if_false,Bool.not_false,if_true,List.length_cons]
     exact ⟨by omega,fun _=>by omega⟩
    ·have h2':=h2
     simp only [Bool.not_eq_true] at h1 h2
     simp only [h1,h2,Bool.not_false,if_true,List.length_cons]
     refine ⟨by omega,fun hmem=> ?_⟩
     rcases List.mem_cons.1 hmem with rfl|hmem
     ·exact absurd (rF.2 (by simp)) h2'
     ·have:=ih.2 hmem;omega
 exact (key p.mods).2 hm
theorem zO {p:aJ} {U:List aK} (hU:∀x∈mY p,x∈U):∀(n:Nat) (a:aK) (s:List aK×List aK),a∈U→Seen U s→Seen U (dH p n a s.1 s.2)∧(∀x∈s.1,x∈(dH p n a s.1 s.2).1)
 |0,a,s,_,hs=>by simp only [dH];exact ⟨hs,fun _ h=>h⟩
 |n+1,a,s,ha,hs=>by
  simp only [dH]
  split
  ·exact ⟨hs,fun _ h=>h⟩
  ·rename_i hn
   have hna:a∉s.1:=fun h=>hn (rF.2 h)
   have key:∀(l:List aK) (q:List aK×List aK),(∀x∈l,x∈U)→Seen U q→(a∈q.1∧a∉q.2)→Seen U (l.foldl (fun s b=>dH p n b s.1 s.2) q)∧(∀x∈q.1,x∈(l.foldl (fun s b=>dH p n b s.1 s.2) q).1)∧a∉(l.foldl (fun s b=>dH p n b s.1 s.2) q).2:=by
    intro l
    induction l with
    |nil=>intro q _ hq ha;exact ⟨hq,fun _ h=>h,ha.2⟩
    |cons b l ih=>
     intro q hl hq haq
     obtain ⟨h1,h2⟩:=zO hU n b q (hl b (by simp)) hq
     have h3:a∉(dH p n b q.1 q.2).2:=visit_out n b q haq.1 haq.2
     obtain ⟨h4,h5,h6⟩:=ih (dH p n b q.1 q.2) (fun x hx=>hl x (by simp [hx])) h1 ⟨h2 a haq.1,h3⟩
     exact ⟨h4,fun x hx=>h5 x (h2 x hx),h6⟩
   have hs1:Seen U (s.1++[a],s.2):=⟨List.nodup_append.2 ⟨hs.nd,by simp,fun x hx y hy e=>hna (by simp at hy;subst hy;subst e;exact hx)⟩,fun x hx=>by
    rcases List.mem_append.1 hx with h|h
    ·exact hs.sub x h
    ·simp at h;subst h;exact ha,hs.ond,fun x hx=>List.mem_append_left _ (hs.osub x hx)⟩
   obtain ⟨h1,h2,h3⟩:=key (iD p a) (s.1++[a],s.2) (fun x hx=>hU x (aD1 p a x hx)) hs1 ⟨by simp,fun h=>hna (hs.osub a h)⟩
   refine ⟨⟨h1.nd,h1.sub,?_,?_⟩,fun x hx=>h2 x (List.mem_append_left _ hx)⟩
   ·exact List.nodup_append.2 ⟨h1.ond,by simp,fun x hx y hy e=>h3 (by simp at hy;subst hy;subst e;exact hx)⟩
   ·intro x hx
    rcases List.mem_append.1 hx with h|h
    ·exact h1.osub x h
    ·simp at h;subst h;exact h2 x (by simp)
where
 visit_out {p:aJ} {a:aK}:∀(n:Nat) (b:aK) (q:List aK×List aK),a∈q.1→a∉q.2→a∉(dH p n b q.1 q.2).2
  |0,b,q,h1,h2=>by simpa only [dH] using h2
  |n+1,b,q,h1,h2=>by
   simp only [dH]
   split
   ·exact h2
   ·rename_i hn
    have hne:a≠b:=fun e=>hn (rF.2 (e▸h1))
    have key:∀(l:List aK) (q:List aK×List aK),a∈q.1→a∉q.2→a∉(l.foldl (fun s b=>dH p n b s.1 s.2) q).2:=by
     intro l
     induction l with
     |nil=>intro q _ h;exact h
     |cons c l ih=>
      intro q h1 h2
      exact ih _ (visit_in n c q h1) (visit_out n c q h1 h2)
    intro hm
    rcases List.mem_append.1 hm with h|h
    ·exact key (iD p b) (q.1++[b],q.2) (List.mem_append_left _ h1) h2 h
    ·simp at h;exact hne h
 visit_in {p:aJ} {a:aK}:∀(n:Nat) (b:aK) (q:List aK×List aK),a∈q.1→a∈(dH p n b q.1 q.2).1
  |0,b,q,h1=>by simpa only [dH] using h1
  |n+1,b,q,h1=>by
   simp only [dH]
   split
   ·exact h1
   ·have key:∀(l:List aK) (q:List aK×List aK),a∈q.1→a∈(l.foldl (fun s b=>dH p n b s.1 s.2) q).1:=by
     intro l
     induction l with
     |nil=>intro q h;exact h
     |cons c l ih=>intro q h1;exact ih _ (visit_in n c q h1)
    exact key (iD p b) (q.1++[b],q.2) (List.mem_append_left _ h1)
theorem yP {α:Type} (f:α→Nat):∀(l U:List α),l.Nodup→(∀x∈l,x∈U)→aC f l≤aC f U∧l.length≤U.length
 |[],U,_,_=>by simp [aC]
 |x::l,U,hn,hs=>by
  simp only [List.nodup_cons] at hn
  obtain ⟨U1,U2,rfl⟩:=List.append_of_mem (hs x (by simp))
  have ih:=yP f l (U1++U2) hn.2 (fun y hy=>by
   have:=hs y (by simp [hy])
   simp only [List.mem_append,List.mem_cons] at this⊢
   rcases this with h|h|h
   ·exact .inl h
   ·subst h;exact absurd hy hn.1
   ·exact .inr h)
  have e:∀(A B:List α),aC f (A++B)=aC f A+aC f B:=by
   intro A B
   induction A with
   |nil=>simp [aC]
   |cons a A ih=>simp only [List.cons_append,aC,ih];omega
  simp only [e,aC,List.length_append,List.length_cons] at ih⊢
  omega
theorem bD0 {α:Type} {f:α→Bool} {l:List α} {k:Nat} (h:k < l.length) (hf:f l[k]=true) (hn:∀x∈l.take k,f x=false):l.find? f=some l[k]:=by
 have e:l=l.take k++l[k]::l.drop (k+1):=by simp
 have h5:=congrArg (List.find? f) e
 rw [h5,List.find?_append]
 have:(l.take k).find? f=none:=List.find?_eq_none.2 fun x hx=>by simp [hn x hx]
 rw [this]
 simp only [Option.none_or,List.find?_cons,hf]
theorem bD1 {α:Type} {f:α→Bool} {l:List α} (hn:∀x∈l,f x=false):l.find? f=none:=List.find?_eq_none.2 fun x hx=>by simp [hn x hx]
theorem aTt {α:Type} {f:α→Bool}:∀l:List α,¬(∀x∈l,f x=false)→∃k,∃hk:k < l.length,f l[k]=true∧∀x∈l.take k,f x=false
 |[],h=>absurd (fun x hx=>by cases hx) h
 |x::l,h=>by
  cases hx:f x with
  |true=>exact ⟨0,by simp,by simpa using hx,by simp⟩
  |false=>
   obtain ⟨k,hk,h1,h2⟩:=aTt l (fun hl=>h (fun y hy=>by
    rcases List.mem_cons.1 hy with rfl|hy
    ·exact hx
    ·exact hl y hy))
   refine ⟨k+1,by simpa using hk,by simpa using h1,fun y hy=> ?_⟩
   simp only [List.take_succ_cons,List.mem_cons] at hy
   rcases hy with rfl|hy
   ·exact hx
   ·exact h2 y hy
theorem uZ {α:Type} (f:α→Bool) (l:List α):(rM f l= -1∧l.find? f=none)∨∃k,∃h:k < l.length,rM f l=(k:Int)∧l.find? f=some l[k]:=by
 by_cases h:∀x∈l,f x=false
 ·exact .inl ⟨sO h,bD1 h⟩
 ·right
  obtain ⟨k,hk,h1,h2⟩:=aTt l h
  exact ⟨k,hk,aAf hk h1 h2,bD0 hk h1 h2⟩
end Go.Proofs.YtlnblmmohpcceaaGreatDoor
