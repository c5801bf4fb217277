/-
  Proved here: steps towards the statement of this claim, text DR8.
  No condition beyond what each statement spells out.
-/
import Derived.Test.YtkidoegojckmiaaGreatDoorADR7
set_option linter.all false
set_option maxRecDepth 4000
set_option maxHeartbeats 4000000
namespace Go.Proofs.YtkidoegojckmiaaGreatDoor
open Go.Aw
def uD:List Str:=[[104,111,109,101],[99,100,110],[101,118,105,108]]
def aVt (r:AV):Prop:=∃l:List Str,r= .sl .own 1 (l.map aK)∧l.length≤3∧∀s∈l,s.length≤4
theorem uG [aB Tryz.prog]:OkC Tryz.prog 97 [] aVt:=by
 refine lD Tryz.mix Tryz.func97 Tryz.ntmps97 ?_
 intro code i h hi hl
 simp only [aD]
 have W:=trivial
 repeat' first|refine st ?_|(refine nx ?_;refine so ?_)|(refine cx ?_;refine sc (fun hc=>?_) (fun hc=>?_)<;>try exact hc.elim)|(refine lx ?_;refine sp (fun hc=>?_) (fun hc=>?_)<;>try exact hc.elim)|refine sx ?_ ?_|refine sy ?_ ?_|fail
 refine aJ (ι:={x:Nat×List Str×Nat×Int×Int // x.1≤3∧x.2.1.length≤x.1∧(∀s∈x.2.1,s.length≤4)∧1≤x.2.2.1∧0≤x.2.2.2.1}) (fun t o y=>⟨aL t [(3,.obj 1 y.1.2.2.1),(5,.undef),(9,.int .i64 (y.1.1:Int))],[⟨true,true,3,2,[[.sl .view 1 (aM code),.int .i64 y.1.2.2.2.1,.int .i64 y.1.2.2.2.2]]⟩,⟨true,false,1,y.1.2.2.1,y.1.2.1.map aK⟩,⟨true,false,1,1,uD.map aK⟩]⟩)
  (fun y=>3 - y.1.1) ⟨(0,[],1,i,h),by simp,by simp,by simp,by simp,hi⟩ (aH (by simp [uD]) (by simp)) ?_
 rintro ⟨⟨k,l,v,j,g⟩,hk,hlk,hs,hv,hj⟩ K1 hK1
 simp only at hk hlk hs hv hj
 have hK2:=hK1
 simp only [aL,List.set_cons_succ,List.set_cons_zero] at hK1⊢
 clear hK1
 have h3:uD.length=3:=rfl
 by_cases h0:k < 3
 ·have hk0:(k:Int) < 3:=by omega
  have hk1:IntKind.i64.wrap ((k:Int)+1)=((k+1:Nat):Int):=by rw [wrap64]<;>omega
  have hlt:k < uD.length:=by omega
  have hg:=List.getElem?_eq_getElem hlt
  have hu:=(by decide:∀s∈uD,s.length≤4) _ (List.getElem_mem hlt)
  generalize uD[k]=u at *
  generalize uD=H at *
  have W:=And.intro hk0 hg
  repeat' first|refine st ?_|(refine nx ?_;refine so ?_)|(refine cx ?_;refine sc (fun hc=>?_) (fun hc=>?_)<;>try exact hc.elim)|(refine lx ?_;refine sp (fun hc=>?_) (fun hc=>?_)<;>try exact hc.elim)|refine sx ?_ ?_|refine sy ?_ ?_|fail
  refine cu (iD 2) ?_
  rintro _ j2 g2 ⟨b,rfl⟩ hj2
  simp only [AS.drew,AS.called,aD,AS.put,aF,aC,aX,aP,aV,aN,aY,aQ,List.set_cons_succ,List.set_cons_zero,List.append_nil,List.nil_append,List.cons_append]
  cases b
  ·have W:=hk1
   repeat' first|refine st ?_|(refine nx ?_;refine so ?_)|(refine cx ?_;refine sc (fun hc=>?_) (fun hc=>?_)<;>try exact hc.elim)|(refine lx ?_;refine sp (fun hc=>?_) (fun hc=>?_)<;>try exact hc.elim)|refine sx ?_ ?_|refine sy ?_ ?_|fail
   refine hK2 _ ⟨(k+1,l,v,j2,g2),by simp only;omega,by simp only;omega,hs,hv,hj2⟩ ?_ (by simp only;omega)
   exact aG 3 (by simp) (by simp) (by simp) (by simp)
  ·obtain ⟨l1,hl1⟩:∃m,m=l++[u]:=⟨_,rfl⟩
   have hap:l.map aK++[[.str u]]=l1.map aK:=by rw [hl1];simp
   have hl2:l1.length=l.length+1:=by rw [hl1];simp
   have hs1:∀s∈l1,s.length≤4:=fun s hm=>by
    rw [hl1] at hm
    rcases List.mem_append.1 hm with h|h
    ·exact hs s h
    ·simp only [List.mem_singleton] at h;subst h;exact hu
   have hb1:(l.length+1) * 16≤140737488355328:=by omega
   have hb2:l.length+1≤9223372036854775807:=by omega
   have hb3:l.length≤9223372036854775806:=by omega
   have W:=And.intro hk1 (And.intro hap (And.intro hb1 (And.intro hb2 hb3)))
   repeat' first|refine st ?_|(refine nx ?_;refine so ?_)|(refine cx ?_;refine sc (fun hc=>?_) (fun hc=>?_)<;>try exact hc.elim)|(refine lx ?_;refine sp (fun hc=>?_) (fun hc=>?_)<;>try exact hc.elim)|refine sx ?_ ?_|refine sy ?_ ?_|fail
   refine hK2 _ ⟨(k+1,l1,v+1,j2,g2),by simp only;omega,by simp only;omega,hs1,by simp only;omega,hj2⟩ ?_ (by simp only;omega)
   exact aG 3 (by simp) (by simp) (by simp) (by simp)
 ·have hk0:¬(k:Int) < 3:=by omega
  have W:=hk0
  repeat' first|refine st ?_|(refine nx ?_;refine so ?_)|(refine cx ?_;refine sc (fun hc=>?_) (fun hc=>?_)<;>try exact hc.elim)|(refine lx ?_;refine sp (fun hc=>?_) (fun hc=>?_)<;>try exact hc.elim)|refine sx ?_ ?_|refine sy ?_ ?_|fail
  refine ⟨.inr rfl,dS (by simp [Tryz.results97];rfl) (by rfl) (by rfl) (by omega) (by simp) (by simp) ?_⟩
  simp only [single,res]
  exact ⟨l,by simp [AV.isObj],by omega,hs⟩
theorem aCn {l:List Str} (h:l.length≤3) (hs:∀s∈l,s.length≤4):szL bU l≤15:=by
 have key:∀l:List Str,(∀s∈l,s.length≤4)→bD bU l≤4 * l.length:=by
  intro l
  induction l with
  |nil=>intro _;simp [bD]
  |cons x l ih=>
   intro hs
   have h1:=hs x (by simp)
   have h2:=ih (fun s hm=>hs s (by simp [hm]))
   simp only [bD,bU,List.length_cons];omega
 have:=key l hs
 simp only [szL];omega
def aTe (r:AV):Prop:=∃p:bH,r= .agg (aS .own p)∧bB p≤60
theorem xB [aB Tryz.prog]:OkC Tryz.prog 57 [] aTe:=by
 refine lD Tryz.mix Tryz.func57 Tryz.ntmps57 ?_
 intro code i h hi hl
 simp only [aD]
 have W:=trivial
 repeat' first|refine st ?_|(refine nx ?_;refine so ?_)|(refine cx ?_;refine sc (fun hc=>?_) (fun hc=>?_)<;>try exact hc.elim)|(refine lx ?_;refine sp (fun hc=>?_) (fun hc=>?_)<;>try exact hc.elim)|refine sx ?_ ?_|refine sy ?_ ?_|fail
 refine cu (iD 2) ?_
 rintro _ i2 h2 ⟨b,rfl⟩ hi2
 simp only [AS.drew,AS.called,aD,AS.put,aF,aC,aX,aP,aV,aN,aY,aQ,List.set_cons_succ,List.set_cons_zero,List.append_nil,List.nil_append,List.cons_append]
 cases b
 ·have W:=trivial
  repeat' first|refine st ?_|(refine nx ?_;refine so ?_)|(refine cx ?_;refine sc (fun hc=>?_) (fun hc=>?_)<;>try exact hc.elim)|(refine lx ?_;refine sp (fun hc=>?_) (fun hc=>?_)<;>try exact hc.elim)|refine sx ?_ ?_|refine sy ?_ ?_|fail
  refine cu (uG) ?_
  rintro _ i3 h3 ⟨l1,rfl,n1,s1⟩ hi3
  simp only [AS.drew,AS.called,aD,AS.put,aF,aC,aX,aP,aV,aN,aY,aQ,List.set_cons_succ,List.set_cons_zero,List.append_nil,List.nil_append,List.cons_append]
  have z1:=aCn n1 s1
  have W:=trivial
  repeat' first|refine st ?_|(refine nx ?_;refine so ?_)|(refine cx ?_;refine sc (fun hc=>?_) (fun hc=>?_)<;>try exact hc.elim)|(refine lx ?_;refine sp (fun hc=>?_) (fun hc=>?_)<;>try exact hc.elim)|refine sx ?_ ?_|refine sy ?_ ?_|fail
  refine cu (uG) ?_
  rintro _ i4 h4 ⟨l2,rfl,n2,s2⟩ hi4
  simp only [AS.drew,AS.called,aD,AS.put,aF,aC,aX,aP,aV,aN,aY,aQ,List.set_cons_succ,List.set_cons_zero,List.append_nil,List.nil_append,List.cons_append]
  have z2:=aCn n2 s2
  have W:=trivial
  repeat' first|refine st ?_|(refine nx ?_;refine so ?_)|(refine cx ?_;refine sc (fun hc=>?_) (fun hc=>?_)<;>try exact hc.elim)|(refine lx ?_;refine sp (fun hc=>?_) (fun hc=>?_)<;>try exact hc.elim)|refine sx ?_ ?_|refine sy ?_ ?_|fail
  refine cu (uG) ?_
  rintro _ i5 h5 ⟨l3,rfl,n3,s3⟩ hi5
  simp only [AS.drew,AS.called,aD,AS.put,aF,aC,aX,aP,aV,aN,aY,aQ,List.set_cons_succ,List.set_cons_zero,List.append_nil,List.nil_append,List.cons_append]
  have z3:=aCn n3 s3
  have W:=trivial
  repeat' first|refine st ?_|(refine nx ?_;refine so ?_)|(refine cx ?_;refine sc (fun hc=>?_) (fun hc=>?_)<;>try exact hc.elim)|(refine lx ?_;refine sp (fun hc=>?_) (fun hc=>?_)<;>try exact hc.elim)|refine sx ?_ ?_|refine sy ?_ ?_|fail
  refine cu (iD 2) ?_
  rintro _ i6 h6 ⟨b,rfl⟩ hi6
  simp only [AS.drew,AS.called,aD,AS.put,aF,aC,aX,aP,aV,aN,aY,aQ,List.set_cons_succ,List.set_cons_zero,List.append_nil,List.nil_append,List.cons_append]
  cases b
  ·have W:=trivial
   repeat' first|refine st ?_|(refine nx ?_;refine so ?_)|(refine cx ?_;refine sc (fun hc=>?_) (fun hc=>?_)<;>try exact hc.elim)|(refine lx ?_;refine sp (fun hc=>?_) (fun hc=>?_)<;>try exact hc.elim)|refine sx ?_ ?_|refine sy ?_ ?_|fail
   refine ⟨.inr rfl,dS (by simp [Tryz.results57];rfl) (by rfl) (by rfl) (by omega) (by simp) (by simp) ?_⟩
   simp only [single,res]
   exact ⟨⟨true,l1,l2,l3,[]⟩,by simp [fI,res,AV.isObj],by simp only [bB,List.length_nil];omega⟩
  ·have W:=trivial
   repeat' first|refine st ?_|(refine nx ?_;refine so ?_)|(refine cx ?_;refine sc (fun hc=>?_) (fun hc=>?_)<;>try exact hc.elim)|(refine lx ?_;refine sp (fun hc=>?_) (fun hc=>?_)<;>try exact hc.elim)|refine sx ?_ ?_|refine sy ?_ ?_|fail
   refine ⟨.inr rfl,dS (by simp [Tryz.results57];rfl) (by rfl) (by rfl) (by omega) (by simp) (by simp) ?_⟩
   simp only [single,res]
   exact ⟨⟨true,l1,l2,l3,[110,55]⟩,by simp [fI,res,AV.isObj],by simp only [bB,List.length_cons,List.length_nil];omega⟩
 ·have W:=trivial
  repeat' first|refine st ?_|(refine nx ?_;refine so ?_)|(refine cx ?_;refine sc (fun hc=>?_) (fun hc=>?_)<;>try exact hc.elim)|(refine lx ?_;refine sp (fun hc=>?_) (fun hc=>?_)<;>try exact hc.elim)|refine sx ?_ ?_|refine sy ?_ ?_|fail
  refine ⟨.inr rfl,aWw (k:=1) (by simp [AS.rvB,AS.rvs,AS.rv,Tryz.results57];rfl) (by rfl) (by rfl) (by omega) (by simp) (by simp) (by simp) (by simp) ?_⟩
  simp only [single,res]
  exact ⟨⟨false,[],[],[],[]⟩,by simp [fI,res,AV.isObj],by decide⟩
end Go.Proofs.YtkidoegojckmiaaGreatDoor
