/-
  Proved here: steps towards the statement of this claim, text QR7.
  No condition beyond what each statement spells out.
-/
import Derived.Test.YtkidoegojckmiaaGreatDoorAQJ1
import Derived.Test.YtkidoegojckmiaaGreatDoorAQN1
import Derived.Test.YtkidoegojckmiaaGreatDoorAQY2
import Derived.Test.YtkidoegojckmiaaGreatDoorADR3
import Derived.Test.YtkidoegojckmiaaGreatDoorAF9
import Derived.Test.YtkidoegojckmiaaGreatDoorAF6
import Derived.Test.YtkidoegojckmiaaGreatDoorAF8
set_option linter.all false
set_option maxRecDepth 4000
set_option maxHeartbeats 4000000
namespace Go.Proofs.YtkidoegojckmiaaGreatDoor
open Go.Aw
theorem aC5:∀{a b c:List UInt8},Op.bytesLess a b=true→Op.bytesLess b c=true→Op.bytesLess a c=true
 |_,[],_,h,_=>by simp [Op.bytesLess] at h
 |_,_::_,[],_,h=>by simp [Op.bytesLess] at h
 |[],_::_,_::_,_,_=>by simp [Op.bytesLess]
 |x::a,y::b,z::c,h1,h2=>by
  simp only [Op.bytesLess,Bool.or_eq_true,Bool.and_eq_true,decide_eq_true_eq,beq_iff_eq] at h1 h2⊢
  rcases h1 with h1|⟨rfl,h1⟩
  ·rcases h2 with h2|⟨rfl,h2⟩
   ·exact .inl (UInt8.lt_trans h1 h2)
   ·exact .inl h1
  ·rcases h2 with h2|⟨rfl,h2⟩
   ·exact .inl h2
   ·exact .inr ⟨rfl,aC5 h1 h2⟩
theorem aJ2:∀{a b:List UInt8},a≠b→Op.bytesLess a b=false→Op.bytesLess b a=true
 |[],[],h,_=>(h rfl).elim
 |[],_::_,_,h=>by simp [Op.bytesLess] at h
 |_::_,[],_,_=>by simp [Op.bytesLess]
 |x::a,y::b,hne,h=>by
  simp only [Op.bytesLess,Bool.or_eq_false_iff,Bool.and_eq_false_iff,decide_eq_false_iff_not,beq_eq_false_iff_ne,Bool.or_eq_true,Bool.and_eq_true,decide_eq_true_eq,beq_iff_eq] at h⊢
  by_cases e:x=y
  ·subst e
   exact .inr ⟨rfl,aJ2 (fun h=>hne (by rw [h])) (h.2.resolve_left fun h=>h rfl)⟩
  ·exact .inl (by rcases UInt8.lt_or_lt_of_ne e with h1|h1;exact (h.1 h1).elim;exact h1)
def iU (a b:bC):Bool:=Op.bytesLess a.host b.host || (a.host == b.host&&Op.bytesLess a.path b.path)
theorem aP2 (a:bC):iU a a=false:=by simp [iU,oL]
theorem aSg (a b:bC):cmpAddr a b= -1↔iU a b=true:=by
 rw [wV]
 by_cases e:a=b
 ·subst e;simp [aP2]
 ·rw [if_neg e]
  change (if iU a b=true then (-1:Int) else 1)= -1↔_
  split<;>simp_all
theorem aMl (a b:bC):cmpAddr a b < 0↔iU a b=true:=by
 rw [←aSg]
 have:=wV a b
 split at this
 ·omega
 ·split at this<;>omega
theorem aB1 {a b c:bC} (h1:iU a b=true) (h2:iU b c=true):iU a c=true:=by
 simp only [iU,Bool.or_eq_true,Bool.and_eq_true,beq_iff_eq] at h1 h2⊢
 rcases h1 with h1|⟨e1,h1⟩
 ·rcases h2 with h2|⟨e2,h2⟩
  ·exact .inl (aC5 h1 h2)
  ·exact .inl (e2▸h1)
 ·rcases h2 with h2|⟨e2,h2⟩
  ·exact .inl (e1▸h2)
  ·exact .inr ⟨e1.trans e2,aC5 h1 h2⟩
theorem aOz {a b:bC} (hne:a≠b) (h:iU a b=false):iU b a=true:=by
 simp only [iU,Bool.or_eq_false_iff,Bool.and_eq_false_iff,Bool.or_eq_true,Bool.and_eq_true,beq_iff_eq,beq_eq_false_iff_ne] at h⊢
 by_cases e:a.host=b.host
 ·refine .inr ⟨e.symm,aJ2 (fun h2=>hne ?_) (h.2.resolve_left fun h=>h e)⟩
  obtain ⟨x,y⟩:=a;obtain ⟨z,w⟩:=b;simp_all
 ·exact .inl (aJ2 e h.1)
def aIk (l:List kP):Prop:=l.Pairwise fun a b=>iU a.to b.to=true
def upA (l:List bC):Prop:=l.Pairwise fun a b=>iU a b=true
theorem aVb {l:List bC} {a:bC} {k:Nat} (h:upA l) (hk:k≤l.length) (hd:∀x∈l.drop k,iU a x=true) (ht:∀y,0 < k→l[k - 1]? =some y→iU y a=true):upA (l.take k++a::l.drop k):=by
 unfold upA at *
 have h1:∀x∈l.take k,iU x a=true:=by
  intro x hx
  obtain ⟨j,hj,rfl⟩:=List.getElem_of_mem hx
  rw [List.length_take] at hj
  rw [List.getElem_take]
  have hk0:0 < k:=by omega
  have hy:=ht l[k - 1] hk0 (List.getElem?_eq_getElem (by omega))
  rw [List.pairwise_iff_getElem] at h
  by_cases e:j=k - 1
  ·subst e;exact hy
  ·exact aB1 (h j (k - 1) (by omega) (by omega) (by omega)) hy
 rw [List.pairwise_append]
 refine ⟨h.sublist (List.take_sublist _ _),List.pairwise_cons.2 ⟨hd,h.sublist (List.drop_sublist _ _)⟩,?_⟩
 intro x hx y hy
 rcases List.mem_cons.1 hy with rfl|hy
 ·exact h1 x hx
 ·exact aB1 (h1 x hx) (hd y hy)
theorem aTs {l:List bC} {a:bC} {k:Nat} {x:bC} (hx:x∈l.take k++a::l.drop k):x∈l∨x=a:=by
 rcases List.mem_append.1 hx with h|h
 ·exact .inl (List.mem_of_mem_take h)
 ·rcases List.mem_cons.1 h with h|h
  ·exact .inr h
  ·exact .inl (List.mem_of_mem_drop h)
theorem aTk {a b:bC} (h:¬cmpAddr a b < 0) (hne:a≠b):iU b a=true:=by
 refine aOz hne ?_
 cases e:iU a b with
 |false=>rfl
 |true=>exact absurd ((aMl a b).2 e) h
def aWc (n k:Nat) (r:AV):Prop:=∃l:List bC,r= .sl .view 2 (l.map bF)∧l.length≤n∧∀a∈l,eH a≤k
theorem aQn [aB Tryz.prog]:OkC Tryz.prog 90 [] (fun r=>∃l:List bC,r= .sl .own 2 (l.map bF)∧l.length≤5∧∀a∈l,eH a≤9):=by
 refine lD Tryz.mix Tryz.func90 Tryz.ntmps90 ?_
 intro code i h hi hl
 simp only [aD]
 have W:=trivial
 repeat' first|refine st ?_|(refine nx ?_;refine so ?_)|(refine cx ?_;refine sc (fun hc=>?_) (fun hc=>?_)<;>try exact hc.elim)|(refine lx ?_;refine sp (fun hc=>?_) (fun hc=>?_)<;>try exact hc.elim)|refine sx ?_ ?_|refine sy ?_ ?_|fail
 refine cu (dF 6) ?_
 rintro _ i2 h2 ⟨x,rfl,x0,x1,x2⟩ hi2
 simp only [AS.drew,AS.called,aD,AS.put,aF,aC,aX,aP,aV,aN,aY,aQ,List.set_cons_succ,List.set_cons_zero,List.append_nil,List.nil_append,List.cons_append]
 obtain ⟨n,rfl⟩:=Int.eq_ofNat_of_zero_le x0
 have hn:n≤5:=by omega
 have W:=trivial
 repeat' first|refine st ?_|(refine nx ?_;refine so ?_)|(refine cx ?_;refine sc (fun hc=>?_) (fun hc=>?_)<;>try exact hc.elim)|(refine lx ?_;refine sp (fun hc=>?_) (fun hc=>?_)<;>try exact hc.elim)|refine sx ?_ ?_|refine sy ?_ ?_|fail
 refine aJ (ι:={x:Nat×List bC×Nat×Int×Int // x.1≤5∧x.2.1.length+x.1≤5∧(∀a∈x.2.1,eH a≤9)∧1≤x.2.2.1∧0≤x.2.2.2.1}) (fun t o y=>⟨aL t [(3,.obj 1 y.1.2.2.1),(4,.int .i64 (y.1.1:Int))],[⟨true,true,3,2,[[.sl .view 1 (aM code),.int .i64 y.1.2.2.2.1,.int .i64 y.1.2.2.2.2]]⟩,⟨true,false,2,y.1.2.2.1,y.1.2.1.map bF⟩]⟩)
  (fun y=>y.1.1) ⟨(n,[],1,i2,h2),hn,by simp only [List.length_nil];omega,by simp,by simp,hi2⟩ (aH (by simp) (by simp)) ?_
 rintro ⟨⟨k,l,v,j,g⟩,hk,hlk,hs,hv,hj⟩ K1 hK1
 simp only at hk hlk hs hv hj
 have hK2:=hK1
 simp only [aL,List.set_cons_succ,List.set_cons_zero] at hK1⊢
 clear hK1
 by_cases h0:0 < k
 ·have hk0:(k:Int) > 0:=by omega
  have hk1:IntKind.i64.wrap ((k:Int) - 1)=((k - 1:Nat):Int):=by rw [wrap64]<;>omega
  have W:=hk0
  repeat' first|refine st ?_|(refine nx ?_;refine so ?_)|(refine cx ?_;refine sc (fun hc=>?_) (fun hc=>?_)<;>try exact hc.elim)|(refine lx ?_;refine sp (fun hc=>?_) (fun hc=>?_)<;>try exact hc.elim)|refine sx ?_ ?_|refine sy ?_ ?_|fail
  refine cu (wJ) ?_
  rintro _ j2 g2 ⟨a,rfl,ha⟩ hj2
  simp only [AS.drew,AS.called,aD,AS.put,aF,aC,aX,aP,aV,aN,aY,aQ,List.set_cons_succ,List.set_cons_zero,List.append_nil,List.nil_append,List.cons_append]
  obtain ⟨l1,hl1⟩:∃m,m=l++[a]:=⟨_,rfl⟩
  have hap:l.map bF++[[.str a.host,.str a.path]]=l1.map bF:=by rw [hl1];simp [bF]
  have hl2:l1.length=l.length+1:=by rw [hl1];simp
  have hs1:∀a∈l1,eH a≤9:=fun y hm=>by
   rw [hl1] at hm
   rcases List.mem_append.1 hm with h|h
   ·exact hs y h
   ·simp only [List.mem_singleton] at h;subst h;exact ha
  have hb1:(l.length+1) * 32≤140737488355328:=by omega
  have hb2:l.length+1≤9223372036854775807:=by omega
  have hb3:l.length≤9223372036854775806:=by omega
  simp only [bF]
  have W:=And.intro hk1 (And.intro hap (And.intro hb1 (And.intro hb2 hb3)))
  repeat' first|refine st ?_|(refine nx ?_;refine so ?_)|(refine cx ?_;refine sc (fun hc=>?_) (fun hc=>?_)<;>try exact hc.elim)|(refine lx ?_;refine sp (fun hc=>?_) (fun hc=>?_)<;>try exact hc.elim)|refine sx ?_ ?_|refine sy ?_ ?_|fail
  refine hK2 _ ⟨(k - 1,l1,v+1,j2,g2),by simp only;omega,by simp only;omega,hs1,by simp only;omega,hj2⟩ ?_ (by simp only;omega)
  exact aG 2 (by simp) (by simp) (by simp) (by simp)
 ·have hk0:¬(k:Int) > 0:=by omega
  have W:=hk0
  repeat' first|refine st ?_|(refine nx ?_;refine so ?_)|(refine cx ?_;refine sc (fun hc=>?_) (fun hc=>?_)<;>try exact hc.elim)|(refine lx ?_;refine sp (fun hc=>?_) (fun hc=>?_)<;>try exact hc.elim)|refine sx ?_ ?_|refine sy ?_ ?_|fail
  refine ⟨.inr rfl,dS (by simp [Tryz.results90];rfl) (by rfl) (by rfl) (by omega) (by simp) (by simp) ?_⟩
  simp only [single,res]
  exact ⟨l,by simp [fI,res,AV.isObj],by omega,hs⟩
theorem aIt [aB Tryz.prog]:OkC Tryz.prog 90 [] (aWc 5 9):=
 aQn.vwas fun r ⟨l,e,h⟩=>⟨l,by subst e;simp [rt],h⟩
theorem aRt {l:List bC} {a:bC}:l.any (uL a)=true↔a∈l:=by simp [uL]
def aWv (L:List bC) (r:AV):Prop:=∃l:List bC,r= .sl .view 2 (l.map bF)∧upA l∧l.length≤L.length∧∀a∈l,a∈L
theorem aCm [aB Tryz.prog] (L:List bC) (hL:L.length≤1048576):OkE Tryz.prog 89 [.sl .view 2 (L.map bF)] (aWv L):=by
 refine aVl Tryz.mix Tryz.func89 Tryz.ntmps89 ?_
 have W:=trivial
 repeat' first|refine st ?_|(refine nx ?_;refine so ?_)|(refine cx ?_;refine sc (fun hc=>?_) (fun hc=>?_)<;>try exact hc.elim)|(refine lx ?_;refine sp (fun hc=>?_) (fun hc=>?_)<;>try exact hc.elim)|refine sx ?_ ?_|refine sy ?_ ?_|fail
 refine aJ (ι:={x:Nat×List bC // x.1≤L.length∧x.2.length≤x.1∧upA x.2∧∀a∈x.2,a∈L}) (fun t o y=>⟨aL t [(3,.sl .view 2 (y.1.2.map bF)),(4,.int .i64 (y.1.1:Int)),(7,.undef)],[]⟩)
  (fun y=>L.length - y.1.1) ⟨(0,[]),by simp,by simp,List.Pairwise.nil,by simp⟩ (zX 0 1 0 (by rfl) (by rfl) (by simp) (by simp [eQ,frz,fH,rtr,rtc,rt]) (by simp) (by simp)) ?_
 rintro ⟨⟨k,l⟩,hk,hlk,hup,hsub⟩ K1 hK1
 simp only at hk hlk hup hsub
 have hK2:=hK1
 simp only [aL,List.set_cons_succ,List.set_cons_zero] at hK1⊢
 clear hK1
 have hk1:IntKind.i64.wrap ((k:Int)+1)=((k+1:Nat):Int):=by rw [wrap64]<;>omega
 by_cases hlt:k < L.length
 ·have hki:(k:Int) < (L.length:Int):=by omega
  have hg:=List.getElem?_eq_getElem hlt
  have hmem:L[k]∈L:=List.getElem_mem hlt
  have ch:=aFx l L[k] (by omega)
  generalize L[k]=a at *
  cases ha:l.any (uL a) with
  |true=>
   rw [ha] at ch
   have W:=And.intro hki (And.intro hg (And.intro ch hk1))
   repeat' first|refine st ?_|(refine nx ?_;refine so ?_)|(refine cx ?_;refine sc (fun hc=>?_) (fun hc=>?_)<;>try exact hc.elim)|(refine lx ?_;refine sp (fun hc=>?_) (fun hc=>?_)<;>try exact hc.elim)|refine sx ?_ ?_|refine sy ?_ ?_|fail
   refine hK2 _ ⟨(k+1,l),by simp only;omega,by simp only;omega,hup,hsub⟩ (aG 0 (by simp) (by simp) (by simp) (by simp)) (by simp only;omega)
  |false=>
   rw [ha] at ch
   have W:=And.intro hki (And.intro hg ch)
   repeat' first|refine st ?_|(refine nx ?_;refine so ?_)|(refine cx ?_;refine sc (fun hc=>?_) (fun hc=>?_)<;>try exact hc.elim)|(refine lx ?_;refine sp (fun hc=>?_) (fun hc=>?_)<;>try exact hc.elim)|refine sx ?_ ?_|refine sy ?_ ?_|fail
   have hna:a∉l:=fun h=>by
    have:=aRt.2 h
    rw [ha] at this;cases this
   refine aJ (ι:={q:Nat // q≤l.length∧∀x∈l.drop q,iU a x=true}) (fun t o y=>⟨aL t [(5,.int .i64 (y.1:Int))],o⟩)
    (fun y=>y.1) ⟨l.length,by simp,by simp⟩ (aH (by simp) (by simp)) ?_
   rintro ⟨q,hq,hd⟩ K3 hK3
   have hK4:=hK3
   simp only [aL,List.set_cons_succ,List.set_cons_zero] at hK3⊢
   clear hK3
   have fin:(∀y,0 < q→l[q - 1]? =some y→iU y a=true)→upA (l.take q++a::l.drop q)∧(l.take q++a::l.drop q).length=l.length+1∧∀x∈l.take q++a::l.drop q,x∈L:=fun ht=>
    ⟨aVb hup hq hd ht,by simp;omega,fun x hx=>(aTs hx).elim (hsub x) (fun e=>e▸hmem)⟩
   by_cases h0:0 < q
   ·have hq0:(q:Int) > 0:=by omega
    have hq2:(0:Int) < (q:Int):=by omega
    have hq3:0 < q:=h0
    have hq1:IntKind.i64.wrap ((q:Int) - 1)=((q - 1:Nat):Int):=by rw [wrap64]<;>omega
    have hlq:q - 1 < l.length:=by omega
    have hgq:=List.getElem?_eq_getElem hlq
    have hyl:l[q - 1]∈l:=List.getElem_mem hlq
    have cc:=zI a l[q - 1]
    simp only [bF] at cc
    have hdq:l.drop (q - 1)=l[q - 1]::l.drop q:=by
     rw [List.drop_eq_getElem_cons hlq,show q - 1+1=q by omega]
    generalize l[q - 1]=y at *
    by_cases hc:cmpAddr a y < 0
    ·have W:=And.intro hq0 (And.intro hq2 (And.intro hq3 (And.intro hq1 (And.intro hgq (And.intro hg (And.intro cc hc))))))
     repeat' first|refine st ?_|(refine nx ?_;refine so ?_)|(refine cx ?_;refine sc (fun hc=>?_) (fun hc=>?_)<;>try exact hc.elim)|(refine lx ?_;refine sp (fun hc=>?_) (fun hc=>?_)<;>try exact hc.elim)|refine sx ?_ ?_|refine sy ?_ ?_|fail
     refine hK4 _ ⟨q - 1,by omega,fun x hx=> ?_⟩ (aH (by simp) (by simp)) (by simp only;omega)
     rw [hdq] at hx
     rcases List.mem_cons.1 hx with rfl|hx
     ·exact (aMl _ _).1 hc
     ·exact hd x hx
    ·obtain ⟨f1,f2,f3⟩:=fin (fun z _ hz=>by rw [hgq] at hz;obtain rfl:=Option.some.inj hz;exact aTk hc (fun e=>hna (e▸hyl)))
     have W:=And.intro hq0 (And.intro hq2 (And.intro hq3 (And.intro hq1 (And.intro hgq (And.intro hg (And.intro cc hc))))))
     repeat' first|refine st ?_|(refine nx ?_;refine so ?_)|(refine cx ?_;refine sc (fun hc=>?_) (fun hc=>?_)<;>try exact hc.elim)|(refine lx ?_;refine sp (fun hc=>?_) (fun hc=>?_)<;>try exact hc.elim)|refine sx ?_ ?_|refine sy ?_ ?_|fail
     have hrow:List.take q (List.map bF l)++[.str a.host,.str a.path]::List.drop q (List.take l.length (List.map bF l))=(l.take q++a::l.drop q).map bF:=by
      rw [show List.take l.length (List.map bF l)=List.map bF l from List.take_of_length_le (by simp)];simp [bF]
     rw [hrow]
     clear hrow
     generalize l.take q++a::l.drop q=l2 at *
     exact hK2 _ ⟨(k+1,l2),by simp only;omega,by simp only;omega,f1,f3⟩ (zX 0 4 0 (by rfl) (by rfl) (by simp) (by simp [eQ,frz]) (by simp) (by simp)) (by simp only;omega)
   ·obtain rfl:q=0:=by omega
    obtain ⟨f1,f2,f3⟩:=fin (fun z hz=>absurd hz (by omega))
    have hq0:¬((0:Nat):Int) > 0:=by omega
    have W:=And.intro hq0 hg
    repeat' first|refine st ?_|(refine nx ?_;refine so ?_)|(refine cx ?_;refine sc (fun hc=>?_) (fun hc=>?_)<;>try exact hc.elim)|(refine lx ?_;refine sp (fun hc=>?_) (fun hc=>?_)<;>try exact hc.elim)|refine sx ?_ ?_|refine sy ?_ ?_|fail
    have hrow:([.str a.host,.str a.path]:List AV)::List.take l.length (List.map bF l)=(l.take 0++a::l.drop 0).map bF:=by
     rw [show List.take l.length (List.map bF l)=List.map bF l from List.take_of_length_le (by simp)];simp [bF]
    rw [hrow]
    clear hrow
    generalize l.take 0++a::l.drop 0=l2 at *
    exact hK2 _ ⟨(k+1,l2),by simp only;omega,by simp only;omega,f1,f3⟩ (zX 0 4 0 (by rfl) (by rfl) (by simp) (by simp [eQ,frz]) (by simp) (by simp)) (by simp only;omega)
 ·have hki:¬(k:Int) < (L.length:Int):=by omega
  have W:=hki
  repeat' first|refine st ?_|(refine nx ?_;refine so ?_)|(refine cx ?_;refine sc (fun hc=>?_) (fun hc=>?_)<;>try exact hc.elim)|(refine lx ?_;refine sp (fun hc=>?_) (fun hc=>?_)<;>try exact hc.elim)|refine sx ?_ ?_|refine sy ?_ ?_|fail
  refine ⟨.inr rfl,aCt (by simp [Tryz.results89];rfl) (by simp) (by simp) ?_⟩
  simp only [single,res]
  exact ⟨l,rfl,hup,by omega,hsub⟩
end Go.Proofs.YtkidoegojckmiaaGreatDoor
