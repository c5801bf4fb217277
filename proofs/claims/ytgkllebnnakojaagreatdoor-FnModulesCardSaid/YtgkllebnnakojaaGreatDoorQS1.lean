/-
  Proved here: steps towards the statement of this claim, text QS1.
  No condition beyond what each statement spells out.
-/
import Derived.Test.YtgkllebnnakojaaGreatDoorQP5
import Derived.Test.YtgkllebnnakojaaGreatDoorQA0
import Derived.Test.YtgkllebnnakojaaGreatDoorF3
import Derived.Test.YtgkllebnnakojaaGreatDoorF6
import Derived.Test.YtgkllebnnakojaaGreatDoorQY1
import Derived.Test.YtgkllebnnakojaaGreatDoorDR9
set_option linter.all false
set_option maxRecDepth 8000
set_option maxHeartbeats 8000000
namespace Go.Proofs.YtgkllebnnakojaaGreatDoor
open Go.Aw
theorem aP6 (u:List Nat) (b:Bool) (l:List mJ):rtr (dU u) b (l.map (eB .view))=l.map (eB .view):=by
 induction l with
 |nil=>rfl
 |cons x l ih=>rw [List.map_cons,rtr,ih];simp [rtc,rt,eB,dU]
theorem aFz [aB Tryz.prog] (b:iZ) (hs:sU b≤274877906944):Ok Tryz.prog 112 [.agg (fQ .view b)] (.agg (fQ .own b)):=by
 simp only [sU,szL] at hs
 obtain ⟨l,opens⟩:=b
 simp only at hs
 refine ent Tryz.mix Tryz.func112 Tryz.ntmps112 ?_
 have W:=trivial
 repeat' first|refine st ?_|(refine nx ?_;first|refine se ?_|refine so ?_)|(refine cx ?_;refine sc (fun hc=>?_) (fun hc=>?_)<;>try exact hc.elim)|(refine lx ?_;refine sp (fun hc=>?_) (fun hc=>?_)<;>try exact hc.elim)|refine sx ?_ ?_|refine sy ?_ ?_|fail
 refine aT (ι:={q:Nat×Nat // q.1≤l.length∧1≤q.2}) (fun t o i=>⟨bB t [(4,.int .i64 i.1.1),(5,.undef),(10,.undef)],o.take 3++[⟨true,true,2,0,[[.obj 4 i.1.2,.obj 2 2]]⟩,⟨true,false,4,i.1.2,(l.take i.1.1).map (eB .own)⟩]⟩)
  (fun i=>l.length - i.1.1) ⟨(0,1),by simp,by simp⟩ (aE5 3 0 0 (ob:=⟨true,true,2,0,[[.sl .own 4 [],.obj 2 2]]⟩) (by rfl) (by rfl) (by rfl) (by simp) (by rfl) (by rfl) (by simp) (by simp [rtc,rt,dU,aP6])) ?_
 rintro ⟨⟨k,v⟩,hk,hv⟩ K1 hK1
 simp only at hk hv
 simp only [bB,List.set_cons_succ,List.set_cons_zero,List.take_succ_cons,List.take_zero,List.cons_append,List.nil_append] at hK1⊢
 have hk1:IntKind.i64.wrap ((k:Int)+1)=((k+1:Nat):Int):=by rw [wrap64]<;>omega
 by_cases hlt:k < l.length
 ·have hg:=List.getElem?_eq_getElem hlt
  have hps:=aDp (eB .own) l k hlt
  have hz:=iK aE9 l k hlt
  simp only [aE9,szL] at hz
  have c1:=aFe l[k].attrs (by omega)
  have hgl:((l.take k).map (eB .own)).length=k:=by simp;omega
  generalize (l.take k).map (eB .own)=g at *
  have W:=And.intro hk1 (And.intro hg (And.intro hlt hgl))
  repeat' first|refine st ?_|(refine nx ?_;first|refine se ?_|refine so ?_)|(refine cx ?_;refine sc (fun hc=>?_) (fun hc=>?_)<;>try exact hc.elim)|(refine lx ?_;refine sp (fun hc=>?_) (fun hc=>?_)<;>try exact hc.elim)|refine sx ?_ ?_|refine sy ?_ ?_|fail
  all_goals refine hK1 _ ⟨(k+1,v+1),by simp only;omega,by simp only;omega⟩ (aO 5 (by simp [hps]) (by simp) (by simp) (by simp)) (by simp only;omega)
 ·have htk:l.take k=l:=List.take_of_length_le (by omega)
  rw [htk]
  have W:=hk1
  repeat' first|refine st ?_|(refine nx ?_;first|refine se ?_|refine so ?_)|(refine cx ?_;refine sc (fun hc=>?_) (fun hc=>?_)<;>try exact hc.elim)|(refine lx ?_;refine sp (fun hc=>?_) (fun hc=>?_)<;>try exact hc.elim)|refine sx ?_ ?_|refine sy ?_ ?_|fail
  all_goals (try (refine ⟨.inr rfl,?_⟩;simp [Hands,Tryz.results112]))
theorem wQ [aB Tryz.prog] (a:aJ) (hs:bL a≤274877906944):Ok Tryz.prog 68 [.agg (aL .view a)] (.agg (aL .own a)):=by
 simp only [bL] at hs
 have c1:=aHn a.policy (by omega)
 have c2:=aH4 a.queue (by omega)
 have c3:=aFz a.builder (by omega)
 simp only [szL] at hs
 simp only [cB] at c1
 simp only [fQ] at c3
 refine ent Tryz.mix Tryz.func68 Tryz.ntmps68 ?_
 have W:=trivial
 repeat' first|refine st ?_|(refine nx ?_;first|refine se ?_|refine so ?_)|(refine cx ?_;refine sc (fun hc=>?_) (fun hc=>?_)<;>try exact hc.elim)|(refine lx ?_;refine sp (fun hc=>?_) (fun hc=>?_)<;>try exact hc.elim)|refine sx ?_ ?_|refine sy ?_ ?_|fail
 all_goals (try (refine ⟨.inr rfl,?_⟩;simp [Hands,Tryz.results68]))
structure aWf (n : Nat) (p : aJ) : Prop where
  sz : bL p ≤ n
  mods : p.mods = []
  slots : p.slots = []
  ents : p.entries = []
def aYe (n:Nat) (r:AV):Prop:=∃p:aJ,r= .agg (aL .view p)∧aWf n p
theorem aLy (a:aC) (x:aZ):bL (nV a x).1≤aK a+7 * bS x+100:=by
 unfold nV
 have hp:dK (eY x.policy).1≤7 * x.policy.length+3:=by
  unfold eY vO
  split
  ·simp [mH,dK,szL,bF]
  ·split
   ·simp [mH,dK,szL,bF]
   ·rename_i h3
    split
    ·exact aEr iU aG8 h3
    ·simp [mH,dK,szL,bF]
 split
 ·simp only [bL,aDx,wW,szL,sU,nZ,aE9,bS,bF,List.length_cons,List.length_nil] at *
  omega
 ·simp only [bL,sO,mH,dK,aK,wW,szL,sU,bF,List.length_nil]
  omega
theorem aLo (a:aC) (x:aZ) (n:Nat) (h:aK a+7 * bS x+100≤n):aWf n (nV a x).1:=by
 refine ⟨Nat.le_trans (aLy a x) h,?_,?_,?_⟩<;>(unfold nV;split<;>rfl)
theorem aIu [aB Tryz.prog] [cO Tryz.prog]:OkC Tryz.prog 36 [] (aYe 1000):=by
 refine mZ Tryz.mix Tryz.func36 Tryz.ntmps36 ?_
 intro code i h hi hl
 simp only [aH]
 have W:=trivial
 repeat' first|refine st ?_|(refine nx ?_;refine so ?_)|(refine cx ?_;refine sc (fun hc=>?_) (fun hc=>?_)<;>try exact hc.elim)|(refine lx ?_;refine sp (fun hc=>?_) (fun hc=>?_)<;>try exact hc.elim)|refine sx ?_ ?_|refine sy ?_ ?_|fail
 refine cu (xN) ?_
 rintro _ i5 h5 ⟨p,rfl,hp⟩ hi5
 simp only [AS.drew,AS.called,aH,AS.put,aG,aF,bE,aU,bD,aS,bH,aV,List.set_cons_succ,List.set_cons_zero,List.append_nil,List.nil_append,List.cons_append]
 have hf:=mY p (by omega)
 have hfl:=aMr p
 generalize iE p=fp at *
 have c0:=aFn ⟨[104,111,109,101],[105,110,100,101,120]⟩ ⟨200,1,[],0,false,fp⟩ (by decide) (by simp only [bS,List.length_nil];omega)
 have hn:=aLo ⟨[104,111,109,101],[105,110,100,101,120]⟩ ⟨200,1,[],0,false,fp⟩ 1000 (by simp only [aK,bS,List.length_nil,List.length_cons];omega)
 generalize nV ⟨[104,111,109,101],[105,110,100,101,120]⟩ ⟨200,1,[],0,false,fp⟩=z at *
 simp only [cB] at hf⊢
 simp only [aD,bU] at c0
 have W:=trivial
 repeat' first|refine st ?_|(refine nx ?_;refine so ?_)|(refine cx ?_;refine sc (fun hc=>?_) (fun hc=>?_)<;>try exact hc.elim)|(refine lx ?_;refine sp (fun hc=>?_) (fun hc=>?_)<;>try exact hc.elim)|refine sx ?_ ?_|refine sy ?_ ?_|fail
 refine ⟨.inr rfl,gD (by simp [Tryz.results36];rfl) (by rfl) (by rfl) (by omega) (by simp) (by simp) ?_⟩
 simp only [single,res]
 exact ⟨z.1,rfl,hn⟩
end Go.Proofs.YtgkllebnnakojaaGreatDoor
