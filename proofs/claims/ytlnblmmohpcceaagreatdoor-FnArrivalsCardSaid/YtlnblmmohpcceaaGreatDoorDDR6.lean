/-
  Proved here: steps towards the statement of this claim, text DR6.
  No condition beyond what each statement spells out.
-/
import Derived.Test.YtlnblmmohpcceaaGreatDoorDDR5
set_option linter.all false
set_option maxRecDepth 4000
set_option maxHeartbeats 4000000
namespace Go.Proofs.YtlnblmmohpcceaaGreatDoor
open Go.Aw
def aMz (r:AV):Prop:=∃(s:Str) (l:List Int),r= .tup [.str s,.sl .own 1 (l.map kW)]∧s.length≤506∧l.length≤3
theorem aC1 [aB Tryz.prog] (code:List UInt8):OkE Tryz.prog 8 [.sl .view 1 (aO code)] aMz:=by
 refine aOu Tryz.mix Tryz.func8 Tryz.ntmps8 ?_
 have W:=trivial
 repeat' first|refine wl ?_|(refine sq (fun hc=>?_) (fun hc=>?_)<;>try exact hc.elim)|fail
 refine cn (zL) ?_
 intro i h hi
 simp only [AS.newCur,aD,AS.put,List.length_nil,List.length_cons,Nat.reduceAdd,Nat.zero_add,List.set_cons_succ,List.set_cons_zero,List.append_nil,List.nil_append,List.cons_append]
 have W:=trivial
 repeat' first|refine wl ?_|(refine sq (fun hc=>?_) (fun hc=>?_)<;>try exact hc.elim)|fail
 refine cu (vN 8 (by omega)) ?_
 rintro _ i2 h2 ⟨s,rfl,hs⟩ hi2
 simp only [AS.drew,AS.called,aD,AS.put,aF,aC,aV,aM,aU,aJ,aW,aK,List.set_cons_succ,List.set_cons_zero,List.append_nil,List.nil_append,List.cons_append]
 have W:=trivial
 repeat' first|refine wl ?_|(refine sq (fun hc=>?_) (fun hc=>?_)<;>try exact hc.elim)|fail
 refine cu (dK 4) ?_
 rintro _ i3 h3 ⟨x,rfl,x0,x1,x2⟩ hi3
 simp only [AS.drew,AS.called,aD,AS.put,aF,aC,aV,aM,aU,aJ,aW,aK,List.set_cons_succ,List.set_cons_zero,List.append_nil,List.nil_append,List.cons_append]
 obtain ⟨n,rfl⟩:=Int.eq_ofNat_of_zero_le x0
 have hn:n≤3:=by omega
 have W:=trivial
 repeat' first|refine wl ?_|(refine sq (fun hc=>?_) (fun hc=>?_)<;>try exact hc.elim)|fail
 refine aS (ι:={x:Nat×List Int×Nat×Int×Int // x.2.1.length+x.1≤3∧1≤x.2.2.1∧0≤x.2.2.2.1}) (fun t o y=>⟨aP t [(6,.obj 1 y.1.2.2.1),(7,.int .i64 (y.1.1:Int))],[⟨true,true,3,0,[[.sl .view 1 (aO code),.int .i64 y.1.2.2.2.1,.int .i64 y.1.2.2.2.2]]⟩,⟨true,false,1,y.1.2.2.1,y.1.2.1.map kW⟩]⟩)
  (fun y=>y.1.1) ⟨(n,[],1,i3,h3),by simp;omega,by simp,hi3⟩ (aL (by simp) (by simp)) ?_
 rintro ⟨⟨k,l,v,j,g⟩,hk,hv,hj⟩ K1 hK1
 simp only at hk hv hj
 have hK2:=hK1
 simp only [aP,List.set_cons_succ,List.set_cons_zero] at hK1⊢
 clear hK1
 by_cases h0:0 < k
 ·have hk0:(k:Int) > 0:=by omega
  have hk1:IntKind.i64.wrap ((k:Int) - 1)=((k - 1:Nat):Int):=by rw [wrap64]<;>omega
  have hs1:IntKind.i64.wrap ((s.length:Int)+1)=(s.length:Int)+1:=by rw [wrap64]<;>omega
  have W:=And.intro hk0 hs1
  repeat' first|refine wl ?_|(refine sq (fun hc=>?_) (fun hc=>?_)<;>try exact hc.elim)|fail
  refine cu (dK ((s.length:Int)+1)) ?_
  rintro _ j2 g2 ⟨x,rfl,x0,x1,x2⟩ hj2
  simp only [AS.drew,AS.called,aD,AS.put,aF,aC,aV,aM,aU,aJ,aW,aK,List.set_cons_succ,List.set_cons_zero,List.append_nil,List.nil_append,List.cons_append]
  obtain ⟨l1,hl1⟩:∃m,m=l++[x]:=⟨_,rfl⟩
  have hap:l.map kW++[[.int .i64 x]]=l1.map kW:=by rw [hl1];simp
  have hl2:l1.length=l.length+1:=by rw [hl1];simp
  have hb1:(l.length+1) * 8≤140737488355328:=by omega
  have hb2:l.length+1≤9223372036854775807:=by omega
  have hb3:l.length≤9223372036854775806:=by omega
  have W:=And.intro hk1 (And.intro hap (And.intro hb1 (And.intro hb2 hb3)))
  repeat' first|refine wl ?_|(refine sq (fun hc=>?_) (fun hc=>?_)<;>try exact hc.elim)|fail
  refine hK2 _ ⟨(k - 1,l1,v+1,j2,g2),by simp only;omega,by simp only;omega,hj2⟩ ?_ (by simp only;omega)
  exact bX 2 (by simp) (by simp) (by simp) (by simp)
 ·have hk0:¬(k:Int) > 0:=by omega
  have W:=hk0
  repeat' first|refine wl ?_|(refine sq (fun hc=>?_) (fun hc=>?_)<;>try exact hc.elim)|fail
  refine ⟨.inr rfl,aKl (by simp [Tryz.results8];rfl) (by simp) (by simp) (by simp) ?_⟩
  simp only [single,res]
  exact ⟨s,l,by simp [eD,res,AV.isObj],hs,by omega⟩
end Go.Proofs.YtlnblmmohpcceaaGreatDoor
