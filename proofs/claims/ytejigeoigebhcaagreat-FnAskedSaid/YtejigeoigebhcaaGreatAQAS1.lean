/-
  Proved here: steps towards the statement of this claim, text QAS1.
  No condition beyond what each statement spells out.
-/
import Derived.Test.YtejigeoigebhcaaGreatAAS0
import Derived.Test.YtejigeoigebhcaaGreatADR3
import Derived.Test.YtejigeoigebhcaaGreatAF9
set_option linter.all false
set_option maxRecDepth 4000
set_option maxHeartbeats 4000000
namespace Go.Proofs.YtejigeoigebhcaaGreat
open Go.Aw
def upA (l:List aP):Prop:=l.Pairwise fun a b=>fO a b=true
theorem aQu {l:List aP} {a:aP} {k:Nat} (h:upA l) (hk:k≤l.length) (hd:∀x∈l.drop k,fO a x=true) (ht:∀y,0 < k→l[k - 1]? =some y→fO y a=true):upA (l.take k++a::l.drop k):=by
 unfold upA at *
 have h1:∀x∈l.take k,fO x a=true:=by
  intro x hx
  obtain ⟨j,hj,rfl⟩:=List.getElem_of_mem hx
  rw [List.length_take] at hj
  rw [List.getElem_take]
  have hk0:0 < k:=by omega
  have hy:=ht l[k - 1] hk0 (List.getElem?_eq_getElem (by omega))
  rw [List.pairwise_iff_getElem] at h
  by_cases e:j=k - 1
  ·subst e;exact hy
  ·exact pQ (h j (k - 1) (by omega) (by omega) (by omega)) hy
 rw [List.pairwise_append]
 refine ⟨h.sublist (List.take_sublist _ _),List.pairwise_cons.2 ⟨hd,h.sublist (List.drop_sublist _ _)⟩,?_⟩
 intro x hx y hy
 rcases List.mem_cons.1 hy with rfl|hy
 ·exact h1 x hx
 ·exact pQ (h1 x hx) (hd y hy)
theorem aOq {l:List aP} {a:aP} {k:Nat} {x:aP} (hx:x∈l.take k++a::l.drop k):x∈l∨x=a:=by
 rcases List.mem_append.1 hx with h|h
 ·exact .inl (List.mem_of_mem_take h)
 ·rcases List.mem_cons.1 h with h|h
  ·exact .inr h
  ·exact .inl (List.mem_of_mem_drop h)
theorem aOd {a b:aP} (h:¬cmpAddr a b < 0) (hne:a≠b):fO b a=true:=by
 refine aDg hne ?_
 cases e:fO a b with
 |false=>rfl
 |true=>exact absurd ((rP a b).2 e) h
def aP3 (n k:Nat) (r:AV):Prop:=∃l:List aP,r= .sl .view 2 (l.map aO)∧l.length≤n∧∀a∈l,bG a≤k
theorem aKd [aB Tryz.prog]:OkC Tryz.prog 48 [] (fun r=>∃l:List aP,r= .sl .own 2 (l.map aO)∧l.length≤5∧∀a∈l,bG a≤9):=by
 refine kV Tryz.mix Tryz.func48 Tryz.ntmps48 ?_
 intro code i h hi hl
 simp only [aD]
 have W:=trivial
 repeat' first|refine st ?_|(refine nx ?_;refine so ?_)|(refine cx ?_;refine sc (fun hc=>?_) (fun hc=>?_)<;>try exact hc.elim)|(refine lx ?_;refine sp (fun hc=>?_) (fun hc=>?_)<;>try exact hc.elim)|refine sx ?_ ?_|refine sy ?_ ?_|fail
 refine cu (dB 6) ?_
 rintro _ i2 h2 ⟨x,rfl,x0,x1,x2⟩ hi2
 simp only [AS.drew,AS.called,aD,AS.put,aF,aC,aV,aM,aU,aK,aX,aL,List.set_cons_succ,List.set_cons_zero,List.append_nil,List.nil_append,List.cons_append]
 obtain ⟨n,rfl⟩:=Int.eq_ofNat_of_zero_le x0
 have hn:n≤5:=by omega
 have W:=trivial
 repeat' first|refine st ?_|(refine nx ?_;refine so ?_)|(refine cx ?_;refine sc (fun hc=>?_) (fun hc=>?_)<;>try exact hc.elim)|(refine lx ?_;refine sp (fun hc=>?_) (fun hc=>?_)<;>try exact hc.elim)|refine sx ?_ ?_|refine sy ?_ ?_|fail
 refine aQ (ι:={x:Nat×List aP×Nat×Int×Int // x.1≤5∧x.2.1.length+x.1≤5∧(∀a∈x.2.1,bG a≤9)∧1≤x.2.2.1∧0≤x.2.2.2.1}) (fun t o y=>⟨bB t [(3,.obj 1 y.1.2.2.1),(4,.int .i64 (y.1.1:Int))],[⟨true,true,3,2,[[.sl .view 1 (aN code),.int .i64 y.1.2.2.2.1,.int .i64 y.1.2.2.2.2]]⟩,⟨true,false,2,y.1.2.2.1,y.1.2.1.map aO⟩]⟩)
  (fun y=>y.1.1) ⟨(n,[],1,i2,h2),hn,by simp only [List.length_nil];omega,by simp,by simp,hi2⟩ (aY (by simp) (by simp)) ?_
 rintro ⟨⟨k,l,v,j,g⟩,hk,hlk,hs,hv,hj⟩ K1 hK1
 simp only at hk hlk hs hv hj
 have hK2:=hK1
 simp only [bB,List.set_cons_succ,List.set_cons_zero] at hK1⊢
 clear hK1
 by_cases h0:0 < k
 ·have hk0:(k:Int) > 0:=by omega
  have hk1:IntKind.i64.wrap ((k:Int) - 1)=((k - 1:Nat):Int):=by rw [wrap64]<;>omega
  have W:=hk0
  repeat' first|refine st ?_|(refine nx ?_;refine so ?_)|(refine cx ?_;refine sc (fun hc=>?_) (fun hc=>?_)<;>try exact hc.elim)|(refine lx ?_;refine sp (fun hc=>?_) (fun hc=>?_)<;>try exact hc.elim)|refine sx ?_ ?_|refine sy ?_ ?_|fail
  refine cu (uT) ?_
  rintro _ j2 g2 ⟨a,rfl,ha⟩ hj2
  simp only [AS.drew,AS.called,aD,AS.put,aF,aC,aV,aM,aU,aK,aX,aL,List.set_cons_succ,List.set_cons_zero,List.append_nil,List.nil_append,List.cons_append]
  obtain ⟨l1,hl1⟩:∃m,m=l++[a]:=⟨_,rfl⟩
  have hap:l.map aO++[[.str a.host,.str a.path]]=l1.map aO:=by rw [hl1];simp [aO]
  have hl2:l1.length=l.length+1:=by rw [hl1];simp
  have hs1:∀a∈l1,bG a≤9:=fun y hm=>by
   rw [hl1] at hm
   rcases List.mem_append.1 hm with h|h
   ·exact hs y h
   ·simp only [List.mem_singleton] at h;subst h;exact ha
  have hb1:(l.length+1) * 32≤140737488355328:=by omega
  have hb2:l.length+1≤9223372036854775807:=by omega
  have hb3:l.length≤9223372036854775806:=by omega
  simp only [aO]
  have W:=And.intro hk1 (And.intro hap (And.intro hb1 (And.intro hb2 hb3)))
  repeat' first|refine st ?_|(refine nx ?_;refine so ?_)|(refine cx ?_;refine sc (fun hc=>?_) (fun hc=>?_)<;>try exact hc.elim)|(refine lx ?_;refine sp (fun hc=>?_) (fun hc=>?_)<;>try exact hc.elim)|refine sx ?_ ?_|refine sy ?_ ?_|fail
  refine hK2 _ ⟨(k - 1,l1,v+1,j2,g2),by simp only;omega,by simp only;omega,hs1,by simp only;omega,hj2⟩ ?_ (by simp only;omega)
  exact aW 2 (by simp) (by simp) (by simp) (by simp)
 ·have hk0:¬(k:Int) > 0:=by omega
  have W:=hk0
  repeat' first|refine st ?_|(refine nx ?_;refine so ?_)|(refine cx ?_;refine sc (fun hc=>?_) (fun hc=>?_)<;>try exact hc.elim)|(refine lx ?_;refine sp (fun hc=>?_) (fun hc=>?_)<;>try exact hc.elim)|refine sx ?_ ?_|refine sy ?_ ?_|fail
  refine ⟨.inr rfl,eT (by simp [Tryz.results48];rfl) (by rfl) (by rfl) (by omega) (by simp) (by simp) ?_⟩
  simp only [single,res]
  exact ⟨l,by simp [eP,res,AV.isObj],by omega,hs⟩
theorem aGo [aB Tryz.prog]:OkC Tryz.prog 48 [] (aP3 5 9):=
 aKd.vwas fun r ⟨l,e,h⟩=>⟨l,by subst e;simp [rt],h⟩
end Go.Proofs.YtejigeoigebhcaaGreat
