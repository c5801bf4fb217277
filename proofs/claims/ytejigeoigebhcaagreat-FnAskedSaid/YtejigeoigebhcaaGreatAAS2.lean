/-
  Proved here: steps towards the statement of this claim, text AS2.
  No condition beyond what each statement spells out.
-/
import Derived.Test.YtejigeoigebhcaaGreatAQAS1
import Derived.Test.YtejigeoigebhcaaGreatAQN1
import Derived.Test.YtejigeoigebhcaaGreatAF6
import Derived.Test.YtejigeoigebhcaaGreatAF8
set_option linter.all false
set_option maxRecDepth 4000
set_option maxHeartbeats 4000000
namespace Go.Proofs.YtejigeoigebhcaaGreat
open Go.Aw
theorem aL1 {l:List aP} {a:aP}:l.any (sU a)=true↔a∈l:=by simp [sU]
def aRk (L:List aP) (r:AV):Prop:=∃l:List aP,r= .sl .view 2 (l.map aO)∧upA l∧l.length≤L.length∧∀a∈l,a∈L
theorem aA3 [aB Tryz.prog] (L:List aP) (hL:L.length≤1048576):OkE Tryz.prog 47 [.sl .view 2 (L.map aO)] (aRk L):=by
 refine aSa Tryz.mix Tryz.func47 Tryz.ntmps47 ?_
 have W:=trivial
 repeat' first|refine st ?_|(refine nx ?_;refine so ?_)|(refine cx ?_;refine sc (fun hc=>?_) (fun hc=>?_)<;>try exact hc.elim)|(refine lx ?_;refine sp (fun hc=>?_) (fun hc=>?_)<;>try exact hc.elim)|refine sx ?_ ?_|refine sy ?_ ?_|fail
 refine aQ (ι:={x:Nat×List aP // x.1≤L.length∧x.2.length≤x.1∧upA x.2∧∀a∈x.2,a∈L}) (fun t o y=>⟨bB t [(3,.sl .view 2 (y.1.2.map aO)),(4,.int .i64 (y.1.1:Int)),(7,.undef)],[]⟩)
  (fun y=>L.length - y.1.1) ⟨(0,[]),by simp,by simp,List.Pairwise.nil,by simp⟩ (wU 0 1 0 (by rfl) (by rfl) (by simp) (by simp [dV,frz,eO,rtr,rtc,rt]) (by simp) (by simp)) ?_
 rintro ⟨⟨k,l⟩,hk,hlk,hup,hsub⟩ K1 hK1
 simp only at hk hlk hup hsub
 have hK2:=hK1
 simp only [bB,List.set_cons_succ,List.set_cons_zero] at hK1⊢
 clear hK1
 have hk1:IntKind.i64.wrap ((k:Int)+1)=((k+1:Nat):Int):=by rw [wrap64]<;>omega
 by_cases hlt:k < L.length
 ·have hki:(k:Int) < (L.length:Int):=by omega
  have hg:=List.getElem?_eq_getElem hlt
  have hmem:L[k]∈L:=List.getElem_mem hlt
  have ch:=aCa l L[k] (by omega)
  generalize L[k]=a at *
  cases ha:l.any (sU a) with
  |true=>
   rw [ha] at ch
   have W:=And.intro hki (And.intro hg (And.intro ch hk1))
   repeat' first|refine st ?_|(refine nx ?_;refine so ?_)|(refine cx ?_;refine sc (fun hc=>?_) (fun hc=>?_)<;>try exact hc.elim)|(refine lx ?_;refine sp (fun hc=>?_) (fun hc=>?_)<;>try exact hc.elim)|refine sx ?_ ?_|refine sy ?_ ?_|fail
   refine hK2 _ ⟨(k+1,l),by simp only;omega,by simp only;omega,hup,hsub⟩ (aW 0 (by simp) (by simp) (by simp) (by simp)) (by simp only;omega)
  |false=>
   rw [ha] at ch
   have W:=And.intro hki (And.intro hg ch)
   repeat' first|refine st ?_|(refine nx ?_;refine so ?_)|(refine cx ?_;refine sc (fun hc=>?_) (fun hc=>?_)<;>try exact hc.elim)|(refine lx ?_;refine sp (fun hc=>?_) (fun hc=>?_)<;>try exact hc.elim)|refine sx ?_ ?_|refine sy ?_ ?_|fail
   have hna:a∉l:=fun h=>by
    have:=aL1.2 h
    rw [ha] at this;cases this
   refine aQ (ι:={q:Nat // q≤l.length∧∀x∈l.drop q,fO a x=true}) (fun t o y=>⟨bB t [(5,.int .i64 (y.1:Int))],o⟩)
    (fun y=>y.1) ⟨l.length,by simp,by simp⟩ (aY (by simp) (by simp)) ?_
   rintro ⟨q,hq,hd⟩ K3 hK3
   have hK4:=hK3
   simp only [bB,List.set_cons_succ,List.set_cons_zero] at hK3⊢
   clear hK3
   have fin:(∀y,0 < q→l[q - 1]? =some y→fO y a=true)→upA (l.take q++a::l.drop q)∧(l.take q++a::l.drop q).length=l.length+1∧∀x∈l.take q++a::l.drop q,x∈L:=fun ht=>
    ⟨aQu hup hq hd ht,by simp;omega,fun x hx=>(aOq hx).elim (hsub x) (fun e=>e▸hmem)⟩
   by_cases h0:0 < q
   ·have hq0:(q:Int) > 0:=by omega
    have hq2:(0:Int) < (q:Int):=by omega
    have hq3:0 < q:=h0
    have hq1:IntKind.i64.wrap ((q:Int) - 1)=((q - 1:Nat):Int):=by rw [wrap64]<;>omega
    have hlq:q - 1 < l.length:=by omega
    have hgq:=List.getElem?_eq_getElem hlq
    have hyl:l[q - 1]∈l:=List.getElem_mem hlq
    have cc:=oN a l[q - 1]
    simp only [aO] at cc
    have hdq:l.drop (q - 1)=l[q - 1]::l.drop q:=by
     rw [List.drop_eq_getElem_cons hlq,show q - 1+1=q by omega]
    generalize l[q - 1]=y at *
    by_cases hc:cmpAddr a y < 0
    ·have W:=And.intro hq0 (And.intro hq2 (And.intro hq3 (And.intro hq1 (And.intro hgq (And.intro hg (And.intro cc hc))))))
     repeat' first|refine st ?_|(refine nx ?_;refine so ?_)|(refine cx ?_;refine sc (fun hc=>?_) (fun hc=>?_)<;>try exact hc.elim)|(refine lx ?_;refine sp (fun hc=>?_) (fun hc=>?_)<;>try exact hc.elim)|refine sx ?_ ?_|refine sy ?_ ?_|fail
     refine hK4 _ ⟨q - 1,by omega,fun x hx=> ?_⟩ (aY (by simp) (by simp)) (by simp only;omega)
     rw [hdq] at hx
     rcases List.mem_cons.1 hx with rfl|hx
     ·exact (rP _ _).1 hc
     ·exact hd x hx
    ·obtain ⟨f1,f2,f3⟩:=fin (fun z _ hz=>by rw [hgq] at hz;obtain rfl:=Option.some.inj hz;exact aOd hc (fun e=>hna (e▸hyl)))
     have W:=And.intro hq0 (And.intro hq2 (And.intro hq3 (And.intro hq1 (And.intro hgq (And.intro hg (And.intro cc hc))))))
     repeat' first|refine st ?_|(refine nx ?_;refine so ?_)|(refine cx ?_;refine sc (fun hc=>?_) (fun hc=>?_)<;>try exact hc.elim)|(refine lx ?_;refine sp (fun hc=>?_) (fun hc=>?_)<;>try exact hc.elim)|refine sx ?_ ?_|refine sy ?_ ?_|fail
     have hrow:List.take q (List.map aO l)++[.str a.host,.str a.path]::List.drop q (List.take l.length (List.map aO l))=(l.take q++a::l.drop q).map aO:=by
      rw [show List.take l.length (List.map aO l)=List.map aO l from List.take_of_length_le (by simp)];simp [aO]
     rw [hrow]
     clear hrow
     generalize l.take q++a::l.drop q=l2 at *
     exact hK2 _ ⟨(k+1,l2),by simp only;omega,by simp only;omega,f1,f3⟩ (wU 0 4 0 (by rfl) (by rfl) (by simp) (by simp [dV,frz]) (by simp) (by simp)) (by simp only;omega)
   ·obtain rfl:q=0:=by omega
    obtain ⟨f1,f2,f3⟩:=fin (fun z hz=>absurd hz (by omega))
    have hq0:¬((0:Nat):Int) > 0:=by omega
    have W:=And.intro hq0 hg
    repeat' first|refine st ?_|(refine nx ?_;refine so ?_)|(refine cx ?_;refine sc (fun hc=>?_) (fun hc=>?_)<;>try exact hc.elim)|(refine lx ?_;refine sp (fun hc=>?_) (fun hc=>?_)<;>try exact hc.elim)|refine sx ?_ ?_|refine sy ?_ ?_|fail
    have hrow:([.str a.host,.str a.path]:List AV)::List.take l.length (List.map aO l)=(l.take 0++a::l.drop 0).map aO:=by
     rw [show List.take l.length (List.map aO l)=List.map aO l from List.take_of_length_le (by simp)];simp [aO]
    rw [hrow]
    clear hrow
    generalize l.take 0++a::l.drop 0=l2 at *
    exact hK2 _ ⟨(k+1,l2),by simp only;omega,by simp only;omega,f1,f3⟩ (wU 0 4 0 (by rfl) (by rfl) (by simp) (by simp [dV,frz]) (by simp) (by simp)) (by simp only;omega)
 ·have hki:¬(k:Int) < (L.length:Int):=by omega
  have W:=hki
  repeat' first|refine st ?_|(refine nx ?_;refine so ?_)|(refine cx ?_;refine sc (fun hc=>?_) (fun hc=>?_)<;>try exact hc.elim)|(refine lx ?_;refine sp (fun hc=>?_) (fun hc=>?_)<;>try exact hc.elim)|refine sx ?_ ?_|refine sy ?_ ?_|fail
  refine ⟨.inr rfl,aFw (by simp [Tryz.results47];rfl) (by simp) (by simp) ?_⟩
  simp only [single,res]
  exact ⟨l,rfl,hup,by omega,hsub⟩
end Go.Proofs.YtejigeoigebhcaaGreat
