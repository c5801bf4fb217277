/-
  Proved here: steps towards the statement of this claim, text QDR8.
  No condition beyond what each statement spells out.
-/
import Derived.Test.YtajppdidkjbmkaaGreatDoorQDR4
import Derived.Test.YtajppdidkjbmkaaGreatDoorQA0
import Derived.Test.YtajppdidkjbmkaaGreatDoorF4
set_option linter.all false
set_option maxRecDepth 4000
set_option maxHeartbeats 4000000
namespace Go.Proofs.YtajppdidkjbmkaaGreatDoor
open Go.Aw
def vO:List Str:=[[104,111,109,101],[99,100,110],[101,118,105,108]]
def aXs (r:AV):Prop:=∃l:List Str,r= .sl .own 1 (l.map aU)∧l.length≤3∧∀s∈l,s.length≤4
theorem vN [aB Tryz.prog]:OkC Tryz.prog 147 [] aXs:=by
 refine nE Tryz.mix Tryz.func147 Tryz.ntmps147 ?_
 intro code i h hi hl
 simp only [aG]
 have W:=trivial
 repeat' first|refine st ?_|(refine nx ?_;refine so ?_)|(refine cx ?_;refine sc (fun hc=>?_) (fun hc=>?_)<;>try exact hc.elim)|(refine lx ?_;refine sp (fun hc=>?_) (fun hc=>?_)<;>try exact hc.elim)|refine sx ?_ ?_|refine sy ?_ ?_|fail
 refine aJ (ι:={x:Nat×List Str×Nat×Int×Int // x.1≤3∧x.2.1.length≤x.1∧(∀s∈x.2.1,s.length≤4)∧1≤x.2.2.1∧0≤x.2.2.2.1}) (fun t o y=>⟨aS t [(3,.obj 1 y.1.2.2.1),(5,.undef),(9,.int .i64 (y.1.1:Int))],[⟨true,true,3,2,[[.sl .view 1 (aK code),.int .i64 y.1.2.2.2.1,.int .i64 y.1.2.2.2.2]]⟩,⟨true,false,1,y.1.2.2.1,y.1.2.1.map aU⟩,⟨true,false,1,1,vO.map aU⟩]⟩)
  (fun y=>3 - y.1.1) ⟨(0,[],1,i,h),by simp,by simp,by simp,by simp,hi⟩ (aD (by simp [vO]) (by simp)) ?_
 rintro ⟨⟨k,l,v,j,g⟩,hk,hlk,hs,hv,hj⟩ K1 hK1
 simp only at hk hlk hs hv hj
 have hK2:=hK1
 simp only [aS,List.set_cons_succ,List.set_cons_zero] at hK1⊢
 clear hK1
 have h3:vO.length=3:=rfl
 by_cases h0:k < 3
 ·have hk0:(k:Int) < 3:=by omega
  have hk1:IntKind.i64.wrap ((k:Int)+1)=((k+1:Nat):Int):=by rw [wrap64]<;>omega
  have hlt:k < vO.length:=by omega
  have hg:=List.getElem?_eq_getElem hlt
  have hu:=(by decide:∀s∈vO,s.length≤4) _ (List.getElem_mem hlt)
  generalize vO[k]=u at *
  generalize vO=H at *
  have W:=And.intro hk0 hg
  repeat' first|refine st ?_|(refine nx ?_;refine so ?_)|(refine cx ?_;refine sc (fun hc=>?_) (fun hc=>?_)<;>try exact hc.elim)|(refine lx ?_;refine sp (fun hc=>?_) (fun hc=>?_)<;>try exact hc.elim)|refine sx ?_ ?_|refine sy ?_ ?_|fail
  refine cu (eB 2) ?_
  rintro _ j2 g2 ⟨b,rfl⟩ hj2
  simp only [AS.drew,AS.called,aG,AS.put,aF,aC,bF,aR,bE,aN,bG,aP,List.set_cons_succ,List.set_cons_zero,List.append_nil,List.nil_append,List.cons_append]
  cases b
  ·have W:=hk1
   repeat' first|refine st ?_|(refine nx ?_;refine so ?_)|(refine cx ?_;refine sc (fun hc=>?_) (fun hc=>?_)<;>try exact hc.elim)|(refine lx ?_;refine sp (fun hc=>?_) (fun hc=>?_)<;>try exact hc.elim)|refine sx ?_ ?_|refine sy ?_ ?_|fail
   refine hK2 _ ⟨(k+1,l,v,j2,g2),by simp only;omega,by simp only;omega,hs,hv,hj2⟩ ?_ (by simp only;omega)
   exact aQ 3 (by simp) (by simp) (by simp) (by simp)
  ·obtain ⟨l1,hl1⟩:∃m,m=l++[u]:=⟨_,rfl⟩
   have hap:l.map aU++[[.str u]]=l1.map aU:=by rw [hl1];simp
   have hl2:l1.length=l.length+1:=by rw [hl1];simp
   have hs1:∀s∈l1,s.length≤4:=fun s hm=>by
    rw [hl1] at hm
    rcases List.mem_append.1 hm with h|h
    ·exact hs s h
    ·simp only [List.mem_singleton] at h;subst h;exact hu
   have hb1:(l.length+1) * 16≤140737488355328:=by omega
   have hb2:l.length+1≤9223372036854775807:=by omega
   have hb3:l.length≤9223372036854775806:=by omega
   have W:=And.intro hk1 (And.intro hap (And.intro hb1 (And.intro hb2 hb3)))
   repeat' first|refine st ?_|(refine nx ?_;refine so ?_)|(refine cx ?_;refine sc (fun hc=>?_) (fun hc=>?_)<;>try exact hc.elim)|(refine lx ?_;refine sp (fun hc=>?_) (fun hc=>?_)<;>try exact hc.elim)|refine sx ?_ ?_|refine sy ?_ ?_|fail
   refine hK2 _ ⟨(k+1,l1,v+1,j2,g2),by simp only;omega,by simp only;omega,hs1,by simp only;omega,hj2⟩ ?_ (by simp only;omega)
   exact aQ 3 (by simp) (by simp) (by simp) (by simp)
 ·have hk0:¬(k:Int) < 3:=by omega
  have W:=hk0
  repeat' first|refine st ?_|(refine nx ?_;refine so ?_)|(refine cx ?_;refine sc (fun hc=>?_) (fun hc=>?_)<;>try exact hc.elim)|(refine lx ?_;refine sp (fun hc=>?_) (fun hc=>?_)<;>try exact hc.elim)|refine sx ?_ ?_|refine sy ?_ ?_|fail
  refine ⟨.inr rfl,fE (by simp [Tryz.results147];rfl) (by rfl) (by rfl) (by omega) (by simp) (by simp) ?_⟩
  simp only [single,res]
  exact ⟨l,by simp [AV.isObj],by omega,hs⟩
theorem aD0 {l:List Str} (h:l.length≤3) (hs:∀s∈l,s.length≤4):szL dK l≤15:=by
 have key:∀l:List Str,(∀s∈l,s.length≤4)→bX dK l≤4 * l.length:=by
  intro l
  induction l with
  |nil=>intro _;simp [bX]
  |cons x l ih=>
   intro hs
   have h1:=hs x (by simp)
   have h2:=ih (fun s hm=>hs s (by simp [hm]))
   simp only [bX,dK,List.length_cons];omega
 have:=key l hs
 simp only [szL];omega
def aVe (r:AV):Prop:=∃p:bR,r= .agg (bD .own p)∧bM p≤60
theorem yQ [aB Tryz.prog]:OkC Tryz.prog 119 [] aVe:=by
 refine nE Tryz.mix Tryz.func119 Tryz.ntmps119 ?_
 intro code i h hi hl
 simp only [aG]
 have W:=trivial
 repeat' first|refine st ?_|(refine nx ?_;refine so ?_)|(refine cx ?_;refine sc (fun hc=>?_) (fun hc=>?_)<;>try exact hc.elim)|(refine lx ?_;refine sp (fun hc=>?_) (fun hc=>?_)<;>try exact hc.elim)|refine sx ?_ ?_|refine sy ?_ ?_|fail
 refine cu (eB 2) ?_
 rintro _ i2 h2 ⟨b,rfl⟩ hi2
 simp only [AS.drew,AS.called,aG,AS.put,aF,aC,bF,aR,bE,aN,bG,aP,List.set_cons_succ,List.set_cons_zero,List.append_nil,List.nil_append,List.cons_append]
 cases b
 ·have W:=trivial
  repeat' first|refine st ?_|(refine nx ?_;refine so ?_)|(refine cx ?_;refine sc (fun hc=>?_) (fun hc=>?_)<;>try exact hc.elim)|(refine lx ?_;refine sp (fun hc=>?_) (fun hc=>?_)<;>try exact hc.elim)|refine sx ?_ ?_|refine sy ?_ ?_|fail
  refine cu (vN) ?_
  rintro _ i3 h3 ⟨l1,rfl,n1,s1⟩ hi3
  simp only [AS.drew,AS.called,aG,AS.put,aF,aC,bF,aR,bE,aN,bG,aP,List.set_cons_succ,List.set_cons_zero,List.append_nil,List.nil_append,List.cons_append]
  have z1:=aD0 n1 s1
  have W:=trivial
  repeat' first|refine st ?_|(refine nx ?_;refine so ?_)|(refine cx ?_;refine sc (fun hc=>?_) (fun hc=>?_)<;>try exact hc.elim)|(refine lx ?_;refine sp (fun hc=>?_) (fun hc=>?_)<;>try exact hc.elim)|refine sx ?_ ?_|refine sy ?_ ?_|fail
  refine cu (vN) ?_
  rintro _ i4 h4 ⟨l2,rfl,n2,s2⟩ hi4
  simp only [AS.drew,AS.called,aG,AS.put,aF,aC,bF,aR,bE,aN,bG,aP,List.set_cons_succ,List.set_cons_zero,List.append_nil,List.nil_append,List.cons_append]
  have z2:=aD0 n2 s2
  have W:=trivial
  repeat' first|refine st ?_|(refine nx ?_;refine so ?_)|(refine cx ?_;refine sc (fun hc=>?_) (fun hc=>?_)<;>try exact hc.elim)|(refine lx ?_;refine sp (fun hc=>?_) (fun hc=>?_)<;>try exact hc.elim)|refine sx ?_ ?_|refine sy ?_ ?_|fail
  refine cu (vN) ?_
  rintro _ i5 h5 ⟨l3,rfl,n3,s3⟩ hi5
  simp only [AS.drew,AS.called,aG,AS.put,aF,aC,bF,aR,bE,aN,bG,aP,List.set_cons_succ,List.set_cons_zero,List.append_nil,List.nil_append,List.cons_append]
  have z3:=aD0 n3 s3
  have W:=trivial
  repeat' first|refine st ?_|(refine nx ?_;refine so ?_)|(refine cx ?_;refine sc (fun hc=>?_) (fun hc=>?_)<;>try exact hc.elim)|(refine lx ?_;refine sp (fun hc=>?_) (fun hc=>?_)<;>try exact hc.elim)|refine sx ?_ ?_|refine sy ?_ ?_|fail
  refine cu (eB 2) ?_
  rintro _ i6 h6 ⟨b,rfl⟩ hi6
  simp only [AS.drew,AS.called,aG,AS.put,aF,aC,bF,aR,bE,aN,bG,aP,List.set_cons_succ,List.set_cons_zero,List.append_nil,List.nil_append,List.cons_append]
  cases b
  ·have W:=trivial
   repeat' first|refine st ?_|(refine nx ?_;refine so ?_)|(refine cx ?_;refine sc (fun hc=>?_) (fun hc=>?_)<;>try exact hc.elim)|(refine lx ?_;refine sp (fun hc=>?_) (fun hc=>?_)<;>try exact hc.elim)|refine sx ?_ ?_|refine sy ?_ ?_|fail
   refine ⟨.inr rfl,fE (by simp [Tryz.results119];rfl) (by rfl) (by rfl) (by omega) (by simp) (by simp) ?_⟩
   simp only [single,res]
   exact ⟨⟨true,l1,l2,l3,[]⟩,by simp [gQ,res,AV.isObj],by simp only [bM,List.length_nil];omega⟩
  ·have W:=trivial
   repeat' first|refine st ?_|(refine nx ?_;refine so ?_)|(refine cx ?_;refine sc (fun hc=>?_) (fun hc=>?_)<;>try exact hc.elim)|(refine lx ?_;refine sp (fun hc=>?_) (fun hc=>?_)<;>try exact hc.elim)|refine sx ?_ ?_|refine sy ?_ ?_|fail
   refine ⟨.inr rfl,fE (by simp [Tryz.results119];rfl) (by rfl) (by rfl) (by omega) (by simp) (by simp) ?_⟩
   simp only [single,res]
   exact ⟨⟨true,l1,l2,l3,[110,55]⟩,by simp [gQ,res,AV.isObj],by simp only [bM,List.length_cons,List.length_nil];omega⟩
 ·have W:=trivial
  repeat' first|refine st ?_|(refine nx ?_;refine so ?_)|(refine cx ?_;refine sc (fun hc=>?_) (fun hc=>?_)<;>try exact hc.elim)|(refine lx ?_;refine sp (fun hc=>?_) (fun hc=>?_)<;>try exact hc.elim)|refine sx ?_ ?_|refine sy ?_ ?_|fail
  refine ⟨.inr rfl,aY1 (k:=1) (by simp [AS.rvB,AS.rvs,AS.rv,Tryz.results119];rfl) (by rfl) (by rfl) (by omega) (by simp) (by simp) (by simp) (by simp) ?_⟩
  simp only [single,res]
  exact ⟨⟨false,[],[],[],[]⟩,by simp [gQ,res,AV.isObj],by decide⟩
theorem mZ [aB Tryz.prog] (a b c:Int):Ok Tryz.prog 97 [.int .i64 a,.int .i64 b,.int .i64 c] (.bool (decide (b≤a)&&decide (a≤c))):=by
 refine ent Tryz.mix Tryz.func97 Tryz.ntmps97 ?_
 have W:=trivial
 repeat' first|refine st ?_|(refine nx ?_;refine so ?_)|(refine cx ?_;refine sc (fun hc=>?_) (fun hc=>?_)<;>try exact hc.elim)|(refine lx ?_;refine sp (fun hc=>?_) (fun hc=>?_)<;>try exact hc.elim)|refine sx ?_ ?_|refine sy ?_ ?_|fail
 all_goals (try (refine ⟨.inr rfl,?_⟩;simp [Hands,Tryz.results97]))
 all_goals (first|(simp_all;done)|(simp_all;omega))
theorem jF [aB Tryz.prog] (a b c:Int):Ok Tryz.prog 124 [.int .i64 a,.int .i64 b,.int .i64 c] (.bool (decide (b≤a)&&decide (a≤c))):=by
 refine ent Tryz.mix Tryz.func124 Tryz.ntmps124 ?_
 have W:=trivial
 repeat' first|refine st ?_|(refine nx ?_;refine so ?_)|(refine cx ?_;refine sc (fun hc=>?_) (fun hc=>?_)<;>try exact hc.elim)|(refine lx ?_;refine sp (fun hc=>?_) (fun hc=>?_)<;>try exact hc.elim)|refine sx ?_ ?_|refine sy ?_ ?_|fail
 all_goals (try (refine ⟨.inr rfl,?_⟩;simp [Hands,Tryz.results124]))
 all_goals (first|(simp_all;done)|(simp_all;omega))
theorem aOh {s:Str} {k:Nat} (h:k < s.length) (hc:lowerB s[k]=false):bV s=false:=by
 have:s.all lowerB=false:=by
  rw [List.all_eq_false]
  exact ⟨s[k],List.getElem_mem h,by simp [hc]⟩
 simp [bV,this]
theorem aN4 {s:Str} {k:Nat} (h:k < s.length) (hc:(s[k].toNat:Int) < 97):bV s=false:=aOh h (by simp [lowerB];omega)
theorem aOm {s:Str} {k:Nat} (h:k < s.length) (hc:122 < (s[k].toNat:Int)):bV s=false:=aOh h (by simp [lowerB];omega)
theorem aH7 {c:UInt8} (h:97≤(c.toNat:Int)) (hc:(c.toNat:Int)≤122):lowerB c=true:=by simp [lowerB];omega
theorem aLc {s:Str} (h:∀x∈s,lowerB x=true):bV s=(decide ((1:Int)≤s.length)&&decide ((s.length:Int)≤8)):=by
 have:s.all lowerB=true:=List.all_eq_true.2 h
 have h1:decide ((1:Int)≤s.length)=decide (1≤s.length):=by simp only [decide_eq_decide];omega
 have h2:decide ((s.length:Int)≤8)=decide (s.length≤8):=by simp only [decide_eq_decide];omega
 rw [bV,this,h1,h2,Bool.true_and]
theorem iQ [aB Tryz.prog] (s:Str) (hl:s.length≤1099511627776):Ok Tryz.prog 114 [.str s] (.bool (bV s)):=by
 have h1:=mZ s.length 1 8
 refine ent Tryz.mix Tryz.func114 Tryz.ntmps114 ?_
 have W:=trivial
 repeat' first|refine st ?_|(refine nx ?_;refine so ?_)|(refine cx ?_;refine sc (fun hc=>?_) (fun hc=>?_)<;>try exact hc.elim)|(refine lx ?_;refine sp (fun hc=>?_) (fun hc=>?_)<;>try exact hc.elim)|refine sx ?_ ?_|refine sy ?_ ?_|fail
 refine aJ (ι:={k:Nat // k≤s.length∧∀x∈s.take k,lowerB x=true}) (fun t o i=>⟨aS t [(3,.int .i64 i.1)],o⟩)
  (fun i=>s.length - i.1) ⟨0,by simp,by simp⟩ (aD (by simp) (by simp)) ?_
 rintro ⟨k,hk,hi⟩ K1 hK1
 simp only [aS,List.set_cons_succ,List.set_cons_zero] at hK1⊢
 have hk1:IntKind.i64.wrap ((k:Int)+1)=((k+1:Nat):Int):=by rw [wrap64]<;>omega
 by_cases hlt:k < s.length
 ·have hg:=List.getElem?_eq_getElem hlt
  have W:=And.intro hk1 (And.intro hg hlt)
  repeat' first|refine st ?_|(refine nx ?_;refine so ?_)|(refine cx ?_;refine sc (fun hc=>?_) (fun hc=>?_)<;>try exact hc.elim)|(refine lx ?_;refine sp (fun hc=>?_) (fun hc=>?_)<;>try exact hc.elim)|refine sx ?_ ?_|refine sy ?_ ?_|fail
  ·skip
   all_goals (try (refine ⟨.inr rfl,?_⟩;simp [Hands,Tryz.results114]))
   rw [aN4 hlt (by assumption)]
  ·skip
   all_goals (try (refine ⟨.inr rfl,?_⟩;simp [Hands,Tryz.results114]))
   rw [aOm hlt (by assumption)]
  ·skip
   exact hK1 _ ⟨k+1,by omega,dX hlt hi (aH7 (by assumption) (by assumption))⟩ (aD (by simp) (by simp)) (by simp only;omega)
 ·have W:=hk1
  repeat' first|refine st ?_|(refine nx ?_;refine so ?_)|(refine cx ?_;refine sc (fun hc=>?_) (fun hc=>?_)<;>try exact hc.elim)|(refine lx ?_;refine sp (fun hc=>?_) (fun hc=>?_)<;>try exact hc.elim)|refine sx ?_ ?_|refine sy ?_ ?_|fail
  all_goals (try (refine ⟨.inr rfl,?_⟩;simp [Hands,Tryz.results114]))
  rw [aLc (jB (by omega) hi)]
theorem nM [aB Tryz.prog] (s:Str) (hl:s.length≤1099511627776):Ok Tryz.prog 110 [.str s] (.bool (bV s)):=by
 have h1:=jF s.length 1 8
 refine ent Tryz.mix Tryz.func110 Tryz.ntmps110 ?_
 have W:=trivial
 repeat' first|refine st ?_|(refine nx ?_;refine so ?_)|(refine cx ?_;refine sc (fun hc=>?_) (fun hc=>?_)<;>try exact hc.elim)|(refine lx ?_;refine sp (fun hc=>?_) (fun hc=>?_)<;>try exact hc.elim)|refine sx ?_ ?_|refine sy ?_ ?_|fail
 refine aJ (ι:={k:Nat // k≤s.length∧∀x∈s.take k,lowerB x=true}) (fun t o i=>⟨aS t [(3,.int .i64 i.1)],o⟩)
  (fun i=>s.length - i.1) ⟨0,by simp,by simp⟩ (aD (by simp) (by simp)) ?_
 rintro ⟨k,hk,hi⟩ K1 hK1
 simp only [aS,List.set_cons_succ,List.set_cons_zero] at hK1⊢
 have hk1:IntKind.i64.wrap ((k:Int)+1)=((k+1:Nat):Int):=by rw [wrap64]<;>omega
 by_cases hlt:k < s.length
 ·have hg:=List.getElem?_eq_getElem hlt
  have W:=And.intro hk1 (And.intro hg hlt)
  repeat' first|refine st ?_|(refine nx ?_;refine so ?_)|(refine cx ?_;refine sc (fun hc=>?_) (fun hc=>?_)<;>try exact hc.elim)|(refine lx ?_;refine sp (fun hc=>?_) (fun hc=>?_)<;>try exact hc.elim)|refine sx ?_ ?_|refine sy ?_ ?_|fail
  ·skip
   all_goals (try (refine ⟨.inr rfl,?_⟩;simp [Hands,Tryz.results110]))
   rw [aN4 hlt (by assumption)]
  ·skip
   all_goals (try (refine ⟨.inr rfl,?_⟩;simp [Hands,Tryz.results110]))
   rw [aOm hlt (by assumption)]
  ·skip
   exact hK1 _ ⟨k+1,by omega,dX hlt hi (aH7 (by assumption) (by assumption))⟩ (aD (by simp) (by simp)) (by simp only;omega)
 ·have W:=hk1
  repeat' first|refine st ?_|(refine nx ?_;refine so ?_)|(refine cx ?_;refine sc (fun hc=>?_) (fun hc=>?_)<;>try exact hc.elim)|(refine lx ?_;refine sp (fun hc=>?_) (fun hc=>?_)<;>try exact hc.elim)|refine sx ?_ ?_|refine sy ?_ ?_|fail
  all_goals (try (refine ⟨.inr rfl,?_⟩;simp [Hands,Tryz.results110]))
  rw [aLc (jB (by omega) hi)]
theorem pW [aB Tryz.prog] (a:aH) (hl:aO a≤1099511627776):Ok Tryz.prog 66 [.agg (aL a)] (.bool (mR a)):=by
 simp only [aO] at hl
 have h1:=iQ a.host (by omega)
 have h2:=iQ a.path (by omega)
 refine ent Tryz.mix Tryz.func66 Tryz.ntmps66 ?_
 have W:=trivial
 repeat' first|refine st ?_|(refine nx ?_;refine so ?_)|(refine cx ?_;refine sc (fun hc=>?_) (fun hc=>?_)<;>try exact hc.elim)|(refine lx ?_;refine sp (fun hc=>?_) (fun hc=>?_)<;>try exact hc.elim)|refine sx ?_ ?_|refine sy ?_ ?_|fail
 all_goals (try (refine ⟨.inr rfl,?_⟩;simp [Hands,Tryz.results66]))
 all_goals simp_all [mR]
theorem uP [aB Tryz.prog] (a:aH) (hl:aO a≤1099511627776):Ok Tryz.prog 61 [.agg (aL a)] (.bool (mR a)):=by
 simp only [aO] at hl
 have h1:=nM a.host (by omega)
 have h2:=nM a.path (by omega)
 refine ent Tryz.mix Tryz.func61 Tryz.ntmps61 ?_
 have W:=trivial
 repeat' first|refine st ?_|(refine nx ?_;refine so ?_)|(refine cx ?_;refine sc (fun hc=>?_) (fun hc=>?_)<;>try exact hc.elim)|(refine lx ?_;refine sp (fun hc=>?_) (fun hc=>?_)<;>try exact hc.elim)|refine sx ?_ ?_|refine sy ?_ ?_|fail
 all_goals (try (refine ⟨.inr rfl,?_⟩;simp [Hands,Tryz.results61]))
 all_goals simp_all [mR]
end Go.Proofs.YtajppdidkjbmkaaGreatDoor
