/-
  Proved here: steps towards the statement of this claim, text QS1.
  No condition beyond what each statement spells out.
-/
import Derived.Test.YtajppdidkjbmkaaGreatDoorQJ4
import Derived.Test.YtajppdidkjbmkaaGreatDoorQ1
import Derived.Test.YtajppdidkjbmkaaGreatDoorF3
import Derived.Test.YtajppdidkjbmkaaGreatDoorF6
import Derived.Test.YtajppdidkjbmkaaGreatDoorQSV1
import Derived.Test.YtajppdidkjbmkaaGreatDoorJ6
import Derived.Test.YtajppdidkjbmkaaGreatDoorDR9
set_option linter.all false
set_option maxRecDepth 8000
set_option maxHeartbeats 8000000
namespace Go.Proofs.YtajppdidkjbmkaaGreatDoor
open Go.Aw
theorem aHs (u:List Nat) (b:Bool) (l:List mK):rtr (eZ u) b (l.map (dW .view))=l.map (dW .view):=by
 induction l with
 |nil=>rfl
 |cons x l ih=>rw [List.map_cons,rtr,ih];simp [rtc,rt,dW,eZ]
theorem aHa [aB Tryz.prog] (b:iF) (hs:kR b≤274877906944):Ok Tryz.prog 81 [.agg (dU .view b)] (.agg (dU .own b)):=by
 simp only [kR,szL] at hs
 obtain ⟨l,opens⟩:=b
 simp only at hs
 refine ent Tryz.mix Tryz.func81 Tryz.ntmps81 ?_
 have W:=trivial
 repeat' first|refine st ?_|(refine nx ?_;first|refine se ?_|refine so ?_)|(refine cx ?_;refine sc (fun hc=>?_) (fun hc=>?_)<;>try exact hc.elim)|(refine lx ?_;refine sp (fun hc=>?_) (fun hc=>?_)<;>try exact hc.elim)|refine sx ?_ ?_|refine sy ?_ ?_|fail
 refine aJ (ι:={q:Nat×Nat // q.1≤l.length∧1≤q.2}) (fun t o i=>⟨aS t [(14,.int .i64 i.1.1),(5,.undef),(10,.undef)],o.take 3++[⟨true,true,2,0,[[.obj 4 i.1.2,.obj 2 2]]⟩,⟨true,false,4,i.1.2,(l.take i.1.1).map (dW .own)⟩]⟩)
  (fun i=>l.length - i.1.1) ⟨(0,1),by simp,by simp⟩ (zL 3 0 0 (ob:=⟨true,true,2,0,[[.sl .own 4 [],.obj 2 2]]⟩) (by rfl) (by rfl) (by rfl) (by simp) (by rfl) (by rfl) (by simp) (by simp [rtc,rt,eZ,aHs])) ?_
 rintro ⟨⟨k,v⟩,hk,hv⟩ K1 hK1
 simp only at hk hv
 simp only [aS,List.set_cons_succ,List.set_cons_zero,List.take_succ_cons,List.take_zero,List.cons_append,List.nil_append] at hK1⊢
 have hk1:IntKind.i64.wrap ((k:Int)+1)=((k+1:Nat):Int):=by rw [wrap64]<;>omega
 by_cases hlt:k < l.length
 ·have hg:=List.getElem?_eq_getElem hlt
  have hps:=vK (dW .own) l k hlt
  have hz:=eX rV l k hlt
  simp only [rV,szL] at hz
  have hgl:((l.take k).map (dW .own)).length=k:=by simp;omega
  generalize (l.take k).map (dW .own)=g at *
  have W:=And.intro hk1 (And.intro hg (And.intro hlt hgl))
  repeat' first|refine st ?_|(refine nx ?_;first|refine se ?_|refine so ?_)|(refine cx ?_;refine sc (fun hc=>?_) (fun hc=>?_)<;>try exact hc.elim)|(refine lx ?_;refine sp (fun hc=>?_) (fun hc=>?_)<;>try exact hc.elim)|refine sx ?_ ?_|refine sy ?_ ?_|fail
  all_goals refine hK1 _ ⟨(k+1,v+1),by simp only;omega,by simp only;omega⟩ (aQ 5 (by simp [hps]) (by simp) (by simp) (by simp)) (by simp only;omega)
 ·have htk:l.take k=l:=List.take_of_length_le (by omega)
  rw [htk]
  have W:=hk1
  repeat' first|refine st ?_|(refine nx ?_;first|refine se ?_|refine so ?_)|(refine cx ?_;refine sc (fun hc=>?_) (fun hc=>?_)<;>try exact hc.elim)|(refine lx ?_;refine sp (fun hc=>?_) (fun hc=>?_)<;>try exact hc.elim)|refine sx ?_ ?_|refine sy ?_ ?_|fail
  all_goals (try (refine ⟨.inr rfl,?_⟩;simp [Hands,Tryz.results81]))
theorem aGu [aB Tryz.prog] (b:iF) (hs:kR b≤274877906944):Ok Tryz.prog 96 [.agg (dU .view b)] (.agg (dU .own b)):=by
 simp only [kR,szL] at hs
 obtain ⟨l,opens⟩:=b
 simp only at hs
 refine ent Tryz.mix Tryz.func96 Tryz.ntmps96 ?_
 have W:=trivial
 repeat' first|refine st ?_|(refine nx ?_;first|refine se ?_|refine so ?_)|(refine cx ?_;refine sc (fun hc=>?_) (fun hc=>?_)<;>try exact hc.elim)|(refine lx ?_;refine sp (fun hc=>?_) (fun hc=>?_)<;>try exact hc.elim)|refine sx ?_ ?_|refine sy ?_ ?_|fail
 refine aJ (ι:={q:Nat×Nat // q.1≤l.length∧1≤q.2}) (fun t o i=>⟨aS t [(4,.int .i64 i.1.1),(5,.undef),(10,.undef)],o.take 3++[⟨true,true,2,0,[[.obj 4 i.1.2,.obj 2 2]]⟩,⟨true,false,4,i.1.2,(l.take i.1.1).map (dW .own)⟩]⟩)
  (fun i=>l.length - i.1.1) ⟨(0,1),by simp,by simp⟩ (zL 3 0 0 (ob:=⟨true,true,2,0,[[.sl .own 4 [],.obj 2 2]]⟩) (by rfl) (by rfl) (by rfl) (by simp) (by rfl) (by rfl) (by simp) (by simp [rtc,rt,eZ,aHs])) ?_
 rintro ⟨⟨k,v⟩,hk,hv⟩ K1 hK1
 simp only at hk hv
 simp only [aS,List.set_cons_succ,List.set_cons_zero,List.take_succ_cons,List.take_zero,List.cons_append,List.nil_append] at hK1⊢
 have hk1:IntKind.i64.wrap ((k:Int)+1)=((k+1:Nat):Int):=by rw [wrap64]<;>omega
 by_cases hlt:k < l.length
 ·have hg:=List.getElem?_eq_getElem hlt
  have hps:=vK (dW .own) l k hlt
  have hz:=eX rV l k hlt
  simp only [rV,szL] at hz
  have c1:=aEy l[k].attrs (by omega)
  have hgl:((l.take k).map (dW .own)).length=k:=by simp;omega
  generalize (l.take k).map (dW .own)=g at *
  have W:=And.intro hk1 (And.intro hg (And.intro hlt hgl))
  repeat' first|refine st ?_|(refine nx ?_;first|refine se ?_|refine so ?_)|(refine cx ?_;refine sc (fun hc=>?_) (fun hc=>?_)<;>try exact hc.elim)|(refine lx ?_;refine sp (fun hc=>?_) (fun hc=>?_)<;>try exact hc.elim)|refine sx ?_ ?_|refine sy ?_ ?_|fail
  all_goals refine hK1 _ ⟨(k+1,v+1),by simp only;omega,by simp only;omega⟩ (aQ 5 (by simp [hps]) (by simp) (by simp) (by simp)) (by simp only;omega)
 ·have htk:l.take k=l:=List.take_of_length_le (by omega)
  rw [htk]
  have W:=hk1
  repeat' first|refine st ?_|(refine nx ?_;first|refine se ?_|refine so ?_)|(refine cx ?_;refine sc (fun hc=>?_) (fun hc=>?_)<;>try exact hc.elim)|(refine lx ?_;refine sp (fun hc=>?_) (fun hc=>?_)<;>try exact hc.elim)|refine sx ?_ ?_|refine sy ?_ ?_|fail
  all_goals (try (refine ⟨.inr rfl,?_⟩;simp [Hands,Tryz.results96]))
theorem aDb [aB Tryz.prog] (a:aY) (hs:bJ a≤274877906944):Ok Tryz.prog 33 [.agg (aI .view a)] (.agg (aI .own a)):=by
 simp only [bJ] at hs
 have c1:=aAl a.policy (by omega)
 have c2:=aI3 a.queue (by omega)
 have c3:=aHa a.builder (by omega)
 simp only [szL] at hs
 simp only [bD] at c1
 simp only [dU] at c3
 refine ent Tryz.mix Tryz.func33 Tryz.ntmps33 ?_
 have W:=trivial
 repeat' first|refine st ?_|(refine nx ?_;first|refine se ?_|refine so ?_)|(refine cx ?_;refine sc (fun hc=>?_) (fun hc=>?_)<;>try exact hc.elim)|(refine lx ?_;refine sp (fun hc=>?_) (fun hc=>?_)<;>try exact hc.elim)|refine sx ?_ ?_|refine sy ?_ ?_|fail
 all_goals (try (refine ⟨.inr rfl,?_⟩;simp [Hands,Tryz.results33]))
theorem xL [aB Tryz.prog] (a:aY) (hs:bJ a≤274877906944):Ok Tryz.prog 47 [.agg (aI .view a)] (.agg (aI .own a)):=by
 simp only [bJ] at hs
 have c1:=aJh a.policy (by omega)
 have c2:=aJc a.queue (by omega)
 have c3:=aGu a.builder (by omega)
 simp only [szL] at hs
 simp only [bD] at c1
 simp only [dU] at c3
 refine ent Tryz.mix Tryz.func47 Tryz.ntmps47 ?_
 have W:=trivial
 repeat' first|refine st ?_|(refine nx ?_;first|refine se ?_|refine so ?_)|(refine cx ?_;refine sc (fun hc=>?_) (fun hc=>?_)<;>try exact hc.elim)|(refine lx ?_;refine sp (fun hc=>?_) (fun hc=>?_)<;>try exact hc.elim)|refine sx ?_ ?_|refine sy ?_ ?_|fail
 all_goals (try (refine ⟨.inr rfl,?_⟩;simp [Hands,Tryz.results47]))
structure aX0 (n : Nat) (p : aY) : Prop where
  sz : bJ p ≤ n
  mods : p.mods = []
  slots : p.slots = []
  ents : p.entries = []
def aY5 (n:Nat) (r:AV):Prop:=∃p:aY,r= .agg (aI .view p)∧aX0 n p
theorem aM3 (a:aH) (x:bA):bJ (oP a x).1≤aO a+7 * bB x+100:=by
 unfold oP
 have hp:bM (dP x.policy).1≤7 * x.policy.length+3:=by
  unfold dP lF
  split
  ·simp [jG,bM,szL,bX]
  ·split
   ·simp [jG,bM,szL,bX]
   ·rename_i h3
    split
    ·exact aAb iE aH5 h3
    ·simp [jG,bM,szL,bX]
 split
 ·simp only [bJ,aFo,xN,szL,kR,oM,rV,bB,bX,List.length_cons,List.length_nil] at *
  omega
 ·simp only [bJ,uG,jG,bM,aO,xN,szL,kR,bX,List.length_nil]
  omega
theorem aNg (a:aH) (x:bA) (n:Nat) (h:aO a+7 * bB x+100≤n):aX0 n (oP a x).1:=by
 refine ⟨Nat.le_trans (aM3 a x) h,?_,?_,?_⟩<;>(unfold oP;split<;>rfl)
theorem aLv [aB Tryz.prog] [cZ Tryz.prog]:OkC Tryz.prog 70 [] (aY5 1000):=by
 refine nE Tryz.mix Tryz.func70 Tryz.ntmps70 ?_
 intro code i h hi hl
 simp only [aG]
 have W:=trivial
 repeat' first|refine st ?_|(refine nx ?_;refine so ?_)|(refine cx ?_;refine sc (fun hc=>?_) (fun hc=>?_)<;>try exact hc.elim)|(refine lx ?_;refine sp (fun hc=>?_) (fun hc=>?_)<;>try exact hc.elim)|refine sx ?_ ?_|refine sy ?_ ?_|fail
 refine cu (yQ) ?_
 rintro _ i5 h5 ⟨p,rfl,hp⟩ hi5
 simp only [AS.drew,AS.called,aG,AS.put,aF,aC,bF,aR,bE,aN,bG,aP,List.set_cons_succ,List.set_cons_zero,List.append_nil,List.nil_append,List.cons_append]
 have hf:=nT p (by omega)
 have hfl:=aNv p
 generalize dF p=fp at *
 have c0:=aGe ⟨[104,111,109,101],[105,110,100,101,120]⟩ ⟨200,1,[],0,false,fp⟩ (by decide) (by simp only [bB,List.length_nil];omega)
 have hn:=aNg ⟨[104,111,109,101],[105,110,100,101,120]⟩ ⟨200,1,[],0,false,fp⟩ 1000 (by simp only [aO,bB,List.length_nil,List.length_cons];omega)
 generalize oP ⟨[104,111,109,101],[105,110,100,101,120]⟩ ⟨200,1,[],0,false,fp⟩=z at *
 simp only [bD] at hf⊢
 simp only [aL,aV] at c0
 have W:=trivial
 repeat' first|refine st ?_|(refine nx ?_;refine so ?_)|(refine cx ?_;refine sc (fun hc=>?_) (fun hc=>?_)<;>try exact hc.elim)|(refine lx ?_;refine sp (fun hc=>?_) (fun hc=>?_)<;>try exact hc.elim)|refine sx ?_ ?_|refine sy ?_ ?_|fail
 refine ⟨.inr rfl,fE (by simp [Tryz.results70];rfl) (by rfl) (by rfl) (by omega) (by simp) (by simp) ?_⟩
 simp only [single,res]
 exact ⟨z.1,rfl,hn⟩
end Go.Proofs.YtajppdidkjbmkaaGreatDoor
