/-
  Proved here: steps towards the statement of this claim, text DR8.
  No condition beyond what each statement spells out.
-/
import Derived.Test.YtgkllebnnakojaaGreatDoorDR7
set_option linter.all false
set_option maxRecDepth 4000
set_option maxHeartbeats 4000000
namespace Go.Proofs.YtgkllebnnakojaaGreatDoor
open Go.Aw
def vM:List Str:=[[104,111,109,101],[99,100,110],[101,118,105,108]]
def aWx (r:AV):Prop:=∃l:List Str,r= .sl .own 1 (l.map bZ)∧l.length≤3∧∀s∈l,s.length≤4
theorem vH [aB Tryz.prog]:OkC Tryz.prog 109 [] aWx:=by
 refine mZ Tryz.mix Tryz.func109 Tryz.ntmps109 ?_
 intro code i h hi hl
 simp only [aH]
 have W:=trivial
 repeat' first|refine st ?_|(refine nx ?_;refine so ?_)|(refine cx ?_;refine sc (fun hc=>?_) (fun hc=>?_)<;>try exact hc.elim)|(refine lx ?_;refine sp (fun hc=>?_) (fun hc=>?_)<;>try exact hc.elim)|refine sx ?_ ?_|refine sy ?_ ?_|fail
 refine aT (ι:={x:Nat×List Str×Nat×Int×Int // x.1≤3∧x.2.1.length≤x.1∧(∀s∈x.2.1,s.length≤4)∧1≤x.2.2.1∧0≤x.2.2.2.1}) (fun t o y=>⟨bB t [(3,.obj 1 y.1.2.2.1),(5,.undef),(9,.int .i64 (y.1.1:Int))],[⟨true,true,3,2,[[.sl .view 1 (aP code),.int .i64 y.1.2.2.2.1,.int .i64 y.1.2.2.2.2]]⟩,⟨true,false,1,y.1.2.2.1,y.1.2.1.map bZ⟩,⟨true,false,1,1,vM.map bZ⟩]⟩)
  (fun y=>3 - y.1.1) ⟨(0,[],1,i,h),by simp,by simp,by simp,by simp,hi⟩ (aI (by simp [vM]) (by simp)) ?_
 rintro ⟨⟨k,l,v,j,g⟩,hk,hlk,hs,hv,hj⟩ K1 hK1
 simp only at hk hlk hs hv hj
 have hK2:=hK1
 simp only [bB,List.set_cons_succ,List.set_cons_zero] at hK1⊢
 clear hK1
 have h3:vM.length=3:=rfl
 by_cases h0:k < 3
 ·have hk0:(k:Int) < 3:=by omega
  have hk1:IntKind.i64.wrap ((k:Int)+1)=((k+1:Nat):Int):=by rw [wrap64]<;>omega
  have hlt:k < vM.length:=by omega
  have hg:=List.getElem?_eq_getElem hlt
  have hu:=(by decide:∀s∈vM,s.length≤4) _ (List.getElem_mem hlt)
  generalize vM[k]=u at *
  generalize vM=H at *
  have W:=And.intro hk0 hg
  repeat' first|refine st ?_|(refine nx ?_;refine so ?_)|(refine cx ?_;refine sc (fun hc=>?_) (fun hc=>?_)<;>try exact hc.elim)|(refine lx ?_;refine sp (fun hc=>?_) (fun hc=>?_)<;>try exact hc.elim)|refine sx ?_ ?_|refine sy ?_ ?_|fail
  refine cu (eZ 2) ?_
  rintro _ j2 g2 ⟨b,rfl⟩ hj2
  simp only [AS.drew,AS.called,aH,AS.put,aG,aF,bE,aU,bD,aS,bH,aV,List.set_cons_succ,List.set_cons_zero,List.append_nil,List.nil_append,List.cons_append]
  cases b
  ·have W:=hk1
   repeat' first|refine st ?_|(refine nx ?_;refine so ?_)|(refine cx ?_;refine sc (fun hc=>?_) (fun hc=>?_)<;>try exact hc.elim)|(refine lx ?_;refine sp (fun hc=>?_) (fun hc=>?_)<;>try exact hc.elim)|refine sx ?_ ?_|refine sy ?_ ?_|fail
   refine hK2 _ ⟨(k+1,l,v,j2,g2),by simp only;omega,by simp only;omega,hs,hv,hj2⟩ ?_ (by simp only;omega)
   exact aO 3 (by simp) (by simp) (by simp) (by simp)
  ·obtain ⟨l1,hl1⟩:∃m,m=l++[u]:=⟨_,rfl⟩
   have hap:l.map bZ++[[.str u]]=l1.map bZ:=by rw [hl1];simp
   have hl2:l1.length=l.length+1:=by rw [hl1];simp
   have hs1:∀s∈l1,s.length≤4:=fun s hm=>by
    rw [hl1] at hm
    rcases List.mem_append.1 hm with h|h
    ·exact hs s h
    ·simp only [List.mem_singleton] at h;subst h;exact hu
   have hb1:(l.length+1) * 16≤140737488355328:=by omega
   have hb2:l.length+1≤9223372036854775807:=by omega
   have hb3:l.length≤9223372036854775806:=by omega
   have W:=And.intro hk1 (And.intro hap (And.intro hb1 (And.intro hb2 hb3)))
   repeat' first|refine st ?_|(refine nx ?_;refine so ?_)|(refine cx ?_;refine sc (fun hc=>?_) (fun hc=>?_)<;>try exact hc.elim)|(refine lx ?_;refine sp (fun hc=>?_) (fun hc=>?_)<;>try exact hc.elim)|refine sx ?_ ?_|refine sy ?_ ?_|fail
   refine hK2 _ ⟨(k+1,l1,v+1,j2,g2),by simp only;omega,by simp only;omega,hs1,by simp only;omega,hj2⟩ ?_ (by simp only;omega)
   exact aO 3 (by simp) (by simp) (by simp) (by simp)
 ·have hk0:¬(k:Int) < 3:=by omega
  have W:=hk0
  repeat' first|refine st ?_|(refine nx ?_;refine so ?_)|(refine cx ?_;refine sc (fun hc=>?_) (fun hc=>?_)<;>try exact hc.elim)|(refine lx ?_;refine sp (fun hc=>?_) (fun hc=>?_)<;>try exact hc.elim)|refine sx ?_ ?_|refine sy ?_ ?_|fail
  refine ⟨.inr rfl,gD (by simp [Tryz.results109];rfl) (by rfl) (by rfl) (by omega) (by simp) (by simp) ?_⟩
  simp only [single,res]
  exact ⟨l,by simp [AV.isObj],by omega,hs⟩
theorem aC2 {l:List Str} (h:l.length≤3) (hs:∀s∈l,s.length≤4):szL dO l≤15:=by
 have key:∀l:List Str,(∀s∈l,s.length≤4)→bF dO l≤4 * l.length:=by
  intro l
  induction l with
  |nil=>intro _;simp [bF]
  |cons x l ih=>
   intro hs
   have h1:=hs x (by simp)
   have h2:=ih (fun s hm=>hs s (by simp [hm]))
   simp only [bF,dO,List.length_cons];omega
 have:=key l hs
 simp only [szL];omega
def aUj (r:AV):Prop:=∃p:dE,r= .agg (cB .own p)∧dK p≤60
theorem xN [aB Tryz.prog]:OkC Tryz.prog 65 [] aUj:=by
 refine mZ Tryz.mix Tryz.func65 Tryz.ntmps65 ?_
 intro code i h hi hl
 simp only [aH]
 have W:=trivial
 repeat' first|refine st ?_|(refine nx ?_;refine so ?_)|(refine cx ?_;refine sc (fun hc=>?_) (fun hc=>?_)<;>try exact hc.elim)|(refine lx ?_;refine sp (fun hc=>?_) (fun hc=>?_)<;>try exact hc.elim)|refine sx ?_ ?_|refine sy ?_ ?_|fail
 refine cu (eZ 2) ?_
 rintro _ i2 h2 ⟨b,rfl⟩ hi2
 simp only [AS.drew,AS.called,aH,AS.put,aG,aF,bE,aU,bD,aS,bH,aV,List.set_cons_succ,List.set_cons_zero,List.append_nil,List.nil_append,List.cons_append]
 cases b
 ·have W:=trivial
  repeat' first|refine st ?_|(refine nx ?_;refine so ?_)|(refine cx ?_;refine sc (fun hc=>?_) (fun hc=>?_)<;>try exact hc.elim)|(refine lx ?_;refine sp (fun hc=>?_) (fun hc=>?_)<;>try exact hc.elim)|refine sx ?_ ?_|refine sy ?_ ?_|fail
  refine cu (vH) ?_
  rintro _ i3 h3 ⟨l1,rfl,n1,s1⟩ hi3
  simp only [AS.drew,AS.called,aH,AS.put,aG,aF,bE,aU,bD,aS,bH,aV,List.set_cons_succ,List.set_cons_zero,List.append_nil,List.nil_append,List.cons_append]
  have z1:=aC2 n1 s1
  have W:=trivial
  repeat' first|refine st ?_|(refine nx ?_;refine so ?_)|(refine cx ?_;refine sc (fun hc=>?_) (fun hc=>?_)<;>try exact hc.elim)|(refine lx ?_;refine sp (fun hc=>?_) (fun hc=>?_)<;>try exact hc.elim)|refine sx ?_ ?_|refine sy ?_ ?_|fail
  refine cu (vH) ?_
  rintro _ i4 h4 ⟨l2,rfl,n2,s2⟩ hi4
  simp only [AS.drew,AS.called,aH,AS.put,aG,aF,bE,aU,bD,aS,bH,aV,List.set_cons_succ,List.set_cons_zero,List.append_nil,List.nil_append,List.cons_append]
  have z2:=aC2 n2 s2
  have W:=trivial
  repeat' first|refine st ?_|(refine nx ?_;refine so ?_)|(refine cx ?_;refine sc (fun hc=>?_) (fun hc=>?_)<;>try exact hc.elim)|(refine lx ?_;refine sp (fun hc=>?_) (fun hc=>?_)<;>try exact hc.elim)|refine sx ?_ ?_|refine sy ?_ ?_|fail
  refine cu (vH) ?_
  rintro _ i5 h5 ⟨l3,rfl,n3,s3⟩ hi5
  simp only [AS.drew,AS.called,aH,AS.put,aG,aF,bE,aU,bD,aS,bH,aV,List.set_cons_succ,List.set_cons_zero,List.append_nil,List.nil_append,List.cons_append]
  have z3:=aC2 n3 s3
  have W:=trivial
  repeat' first|refine st ?_|(refine nx ?_;refine so ?_)|(refine cx ?_;refine sc (fun hc=>?_) (fun hc=>?_)<;>try exact hc.elim)|(refine lx ?_;refine sp (fun hc=>?_) (fun hc=>?_)<;>try exact hc.elim)|refine sx ?_ ?_|refine sy ?_ ?_|fail
  refine cu (eZ 2) ?_
  rintro _ i6 h6 ⟨b,rfl⟩ hi6
  simp only [AS.drew,AS.called,aH,AS.put,aG,aF,bE,aU,bD,aS,bH,aV,List.set_cons_succ,List.set_cons_zero,List.append_nil,List.nil_append,List.cons_append]
  cases b
  ·have W:=trivial
   repeat' first|refine st ?_|(refine nx ?_;refine so ?_)|(refine cx ?_;refine sc (fun hc=>?_) (fun hc=>?_)<;>try exact hc.elim)|(refine lx ?_;refine sp (fun hc=>?_) (fun hc=>?_)<;>try exact hc.elim)|refine sx ?_ ?_|refine sy ?_ ?_|fail
   refine ⟨.inr rfl,gD (by simp [Tryz.results65];rfl) (by rfl) (by rfl) (by omega) (by simp) (by simp) ?_⟩
   simp only [single,res]
   exact ⟨⟨true,l1,l2,l3,[]⟩,by simp [fD,res,AV.isObj],by simp only [dK,List.length_nil];omega⟩
  ·have W:=trivial
   repeat' first|refine st ?_|(refine nx ?_;refine so ?_)|(refine cx ?_;refine sc (fun hc=>?_) (fun hc=>?_)<;>try exact hc.elim)|(refine lx ?_;refine sp (fun hc=>?_) (fun hc=>?_)<;>try exact hc.elim)|refine sx ?_ ?_|refine sy ?_ ?_|fail
   refine ⟨.inr rfl,gD (by simp [Tryz.results65];rfl) (by rfl) (by rfl) (by omega) (by simp) (by simp) ?_⟩
   simp only [single,res]
   exact ⟨⟨true,l1,l2,l3,[110,55]⟩,by simp [fD,res,AV.isObj],by simp only [dK,List.length_cons,List.length_nil];omega⟩
 ·have W:=trivial
  repeat' first|refine st ?_|(refine nx ?_;refine so ?_)|(refine cx ?_;refine sc (fun hc=>?_) (fun hc=>?_)<;>try exact hc.elim)|(refine lx ?_;refine sp (fun hc=>?_) (fun hc=>?_)<;>try exact hc.elim)|refine sx ?_ ?_|refine sy ?_ ?_|fail
  refine ⟨.inr rfl,aXl (k:=1) (by simp [AS.rvB,AS.rvs,AS.rv,Tryz.results65];rfl) (by rfl) (by rfl) (by omega) (by simp) (by simp) (by simp) (by simp) ?_⟩
  simp only [single,res]
  exact ⟨⟨false,[],[],[],[]⟩,by simp [fD,res,AV.isObj],by decide⟩
end Go.Proofs.YtgkllebnnakojaaGreatDoor
