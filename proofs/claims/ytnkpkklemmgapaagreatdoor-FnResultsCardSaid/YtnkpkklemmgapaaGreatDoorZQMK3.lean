/- Proved here: steps towards the statement of this claim. No condition. -/
import Derived.Test.YtnkpkklemmgapaaGreatDoorZQMK1
import Derived.Deep.WholeRow
import Derived.Test.YtnkpkklemmgapaaGreatDoorZQA0
set_option linter.all false
set_option maxRecDepth 100000
set_option maxHeartbeats 4000000
namespace Go.Proofs.YtnkpkklemmgapaaGreatDoor
open Go.Aw Go.RowKit Go.Lib Proofs.Tryz List IntKind
end Go.Proofs.YtnkpkklemmgapaaGreatDoor
set_option maxRecDepth 4000
set_option maxHeartbeats 400000
namespace Go.Proofs.YtnkpkklemmgapaaGreatDoor
open Go.Aw Proofs.Tryz List IntKind
theorem lV{α:Type}{a b:List α}{k:Nat}(h1:a.take k=b.take k)(ha:k<a.length)(hb:k<b.length)(h:a[k]=b[k]):a.take (k+1)=b.take (k+1):=by rw[eL ha,eL hb,h1,h]
theorem mZ{α:Type}{a b:List α}{k:Nat}(hl:a.length=b.length)(hk:¬k<a.length)(h:a.take k=b.take k):a=b:=by rw[eJ (by omega),eJ (by omega)]at h;exact h
theorem Hf{α:Type}{a b:List α}{k:Nat}(ha:k<a.length)(hb:k<b.length)(h:¬a[k]=b[k]):¬a=b:=by rintro rfl;exact h rfl
theorem Jl{α:Type}{a b:List α}(h:¬a.length=b.length):¬a=b:=by rintro rfl;exact h rfl
theorem za(a b:nZ):EqA prog 88 (kM a) (kM b) (decide (a=b)):=
 jy (f:=6) (ss:=[.str,.int .i64]) (by decide) (by kernel_rfl) (by kernel_rfl) (by kernel_rfl) (by kernel_rfl) (by simp[tL,IG]) (by simp[tL,IG]) (by cases a;cases b;simp)
theorem zb(a b:nY):EqA prog 135 (uH a) (uH b) (decide (a=b)):=
 jy (f:=6) (ss:=[.str,.str]) (by decide) (by kernel_rfl) (by kernel_rfl) (by kernel_rfl) (by kernel_rfl) (by simp[tL,IG]) (by simp[tL,IG]) (by cases a;cases b;simp)
theorem Nr[aB prog](a b:List aU)(hl:a.length<=1099511627776):Ok prog 36 [.sl .view 1 (a.map dQ),.sl .view 1 (b.map dQ)] (.bool (decide (a=b))):=by
 refine dL aO func36 ntmps36 ?_;have W:=trivial;repeat' first|refine st ?_|(refine nx ?_;refine so ?_)|(refine cx ?_;refine sc (λhc=>?_) (λhc=>?_)<;>try exact hc.elim)|(refine lx ?_;refine sp (λhc=>?_) (λhc=>?_)<;>try exact hc.elim)|refine sx ?_ ?_|refine sy ?_ ?_|fail
 .all_goals try(refine aZ ?_;simp[aX,results36])
  exact Jl (by omega)
 .have hlen:=hc;refine aI (ι:={k:Nat // k<=a.length/\a.take k=b.take k}) (λt o i=>⟨bH t [(5,.int .i64 i.1)],o⟩)
   (λi=>a.length-i.1) ⟨0,by simp,by simp⟩ aG ?_
  rintro⟨k,hk,hi⟩ K1 hK1;simp only[bH,cH,cJ]at hK1⊢;have hk1:=rE (k:=k);by_cases hlt:k<a.length
  .have hg:=aE hlt;have hg2:=aE (show k<b.length by omega);have wZ:k<b.length:=by omega
   have W:=aA hk1 (aA hg (aA hg2 (aA hlt wZ)));repeat' first|refine st ?_|(refine nx ?_;refine so ?_)|(refine cx ?_;refine sc (λhc=>?_) (λhc=>?_)<;>try exact hc.elim)|(refine lx ?_;refine sp (λhc=>?_) (λhc=>?_)<;>try exact hc.elim)|refine sx ?_ ?_|refine sy ?_ ?_|fail
   .all_goals try(refine aZ ?_;simp[aX,results36])
    exact Hf hlt wZ hc
   .exact hK1 _ ⟨k+1,by omega,lV hi hlt wZ hc⟩ aG (by simp only;omega)
  .have W:=hk1;repeat' first|refine st ?_|(refine nx ?_;refine so ?_)|(refine cx ?_;refine sc (λhc=>?_) (λhc=>?_)<;>try exact hc.elim)|(refine lx ?_;refine sp (λhc=>?_) (λhc=>?_)<;>try exact hc.elim)|refine sx ?_ ?_|refine sy ?_ ?_|fail
   all_goals try(refine aZ ?_;simp[aX,results36])
   exact mZ (by omega) hlt hi
theorem ZJ[aB prog](a b:List Int)(hl:a.length<=1099511627776):Ok prog 63 [.sl .view 1 (a.map lI),.sl .view 1 (b.map lI)] (.bool (decide (a=b))):=by
 refine dL aO func63 ntmps63 ?_;have W:=trivial;repeat' first|refine st ?_|(refine nx ?_;refine so ?_)|(refine cx ?_;refine sc (λhc=>?_) (λhc=>?_)<;>try exact hc.elim)|(refine lx ?_;refine sp (λhc=>?_) (λhc=>?_)<;>try exact hc.elim)|refine sx ?_ ?_|refine sy ?_ ?_|fail
 .all_goals try(refine aZ ?_;simp[aX,results63])
  exact Jl (by omega)
 .have hlen:=hc;refine aI (ι:={k:Nat // k<=a.length/\a.take k=b.take k}) (λt o i=>⟨bH t [(5,.int .i64 i.1)],o⟩)
   (λi=>a.length-i.1) ⟨0,by simp,by simp⟩ aG ?_
  rintro⟨k,hk,hi⟩ K1 hK1;simp only[bH,cH,cJ]at hK1⊢;have hk1:=rE (k:=k);by_cases hlt:k<a.length
  .have hg:=aE hlt;have hg2:=aE (show k<b.length by omega);have wZ:k<b.length:=by omega
   have W:=aA hk1 (aA hg (aA hg2 (aA hlt wZ)));repeat' first|refine st ?_|(refine nx ?_;refine so ?_)|(refine cx ?_;refine sc (λhc=>?_) (λhc=>?_)<;>try exact hc.elim)|(refine lx ?_;refine sp (λhc=>?_) (λhc=>?_)<;>try exact hc.elim)|refine sx ?_ ?_|refine sy ?_ ?_|fail
   .all_goals try(refine aZ ?_;simp[aX,results63])
    exact Hf hlt wZ hc
   .exact hK1 _ ⟨k+1,by omega,lV hi hlt wZ hc⟩ aG (by simp only;omega)
  .have W:=hk1;repeat' first|refine st ?_|(refine nx ?_;refine so ?_)|(refine cx ?_;refine sc (λhc=>?_) (λhc=>?_)<;>try exact hc.elim)|(refine lx ?_;refine sp (λhc=>?_) (λhc=>?_)<;>try exact hc.elim)|refine sx ?_ ?_|refine sy ?_ ?_|fail
   all_goals try(refine aZ ?_;simp[aX,results63])
   exact mZ (by omega) hlt hi
theorem Ns[aB prog](a b:List aU)(hl:a.length<=1099511627776):Ok prog 30 [.sl .view 1 (a.map dQ),.sl .view 1 (b.map dQ)] (.bool (decide (a=b))):=by
 refine dL aO func30 ntmps30 ?_;have W:=trivial;repeat' first|refine st ?_|(refine nx ?_;refine so ?_)|(refine cx ?_;refine sc (λhc=>?_) (λhc=>?_)<;>try exact hc.elim)|(refine lx ?_;refine sp (λhc=>?_) (λhc=>?_)<;>try exact hc.elim)|refine sx ?_ ?_|refine sy ?_ ?_|fail
 .all_goals try(refine aZ ?_;simp[aX,results30])
  exact Jl (by omega)
 .have hlen:=hc;refine aI (ι:={k:Nat // k<=a.length/\a.take k=b.take k}) (λt o i=>⟨bH t [(13,.int .i64 i.1),(5,.undef)],o⟩)
   (λi=>a.length-i.1) ⟨0,by simp,by simp⟩ aG ?_
  rintro⟨k,hk,hi⟩ K1 hK1;simp only[bH,cH,cJ]at hK1⊢;have hk1:=rE (k:=k);by_cases hlt:k<a.length
  .have hg:=aE hlt;have hg2:=aE (show k<b.length by omega);have wZ:k<b.length:=by omega
   have W:=aA hk1 (aA hg (aA hg2 (aA hlt wZ)));repeat' first|refine st ?_|(refine nx ?_;refine so ?_)|(refine cx ?_;refine sc (λhc=>?_) (λhc=>?_)<;>try exact hc.elim)|(refine lx ?_;refine sp (λhc=>?_) (λhc=>?_)<;>try exact hc.elim)|refine sx ?_ ?_|refine sy ?_ ?_|fail
   .all_goals try(refine aZ ?_;simp[aX,results30])
    exact Hf hlt wZ hc
   .exact hK1 _ ⟨k+1,by omega,lV hi hlt wZ hc⟩ aG (by simp only;omega)
  .have W:=hk1;repeat' first|refine st ?_|(refine nx ?_;refine so ?_)|(refine cx ?_;refine sc (λhc=>?_) (λhc=>?_)<;>try exact hc.elim)|(refine lx ?_;refine sp (λhc=>?_) (λhc=>?_)<;>try exact hc.elim)|refine sx ?_ ?_|refine sy ?_ ?_|fail
   all_goals try(refine aZ ?_;simp[aX,results30])
   exact mZ (by omega) hlt hi
theorem ZK[aB prog](a b:List Int)(hl:a.length<=1099511627776):Ok prog 58 [.sl .view 1 (a.map lI),.sl .view 1 (b.map lI)] (.bool (decide (a=b))):=by
 refine dL aO func58 ntmps58 ?_;have W:=trivial;repeat' first|refine st ?_|(refine nx ?_;refine so ?_)|(refine cx ?_;refine sc (λhc=>?_) (λhc=>?_)<;>try exact hc.elim)|(refine lx ?_;refine sp (λhc=>?_) (λhc=>?_)<;>try exact hc.elim)|refine sx ?_ ?_|refine sy ?_ ?_|fail
 .all_goals try(refine aZ ?_;simp[aX,results58])
  exact Jl (by omega)
 .have hlen:=hc;refine aI (ι:={k:Nat // k<=a.length/\a.take k=b.take k}) (λt o i=>⟨bH t [(13,.int .i64 i.1),(5,.undef)],o⟩)
   (λi=>a.length-i.1) ⟨0,by simp,by simp⟩ aG ?_
  rintro⟨k,hk,hi⟩ K1 hK1;simp only[bH,cH,cJ]at hK1⊢;have hk1:=rE (k:=k);by_cases hlt:k<a.length
  .have hg:=aE hlt;have hg2:=aE (show k<b.length by omega);have wZ:k<b.length:=by omega
   have W:=aA hk1 (aA hg (aA hg2 (aA hlt wZ)));repeat' first|refine st ?_|(refine nx ?_;refine so ?_)|(refine cx ?_;refine sc (λhc=>?_) (λhc=>?_)<;>try exact hc.elim)|(refine lx ?_;refine sp (λhc=>?_) (λhc=>?_)<;>try exact hc.elim)|refine sx ?_ ?_|refine sy ?_ ?_|fail
   .all_goals try(refine aZ ?_;simp[aX,results58])
    exact Hf hlt wZ hc
   .exact hK1 _ ⟨k+1,by omega,lV hi hlt wZ hc⟩ aG (by simp only;omega)
  .have W:=hk1;repeat' first|refine st ?_|(refine nx ?_;refine so ?_)|(refine cx ?_;refine sc (λhc=>?_) (λhc=>?_)<;>try exact hc.elim)|(refine lx ?_;refine sp (λhc=>?_) (λhc=>?_)<;>try exact hc.elim)|refine sx ?_ ?_|refine sy ?_ ?_|fail
   all_goals try(refine aZ ?_;simp[aX,results58])
   exact mZ (by omega) hlt hi
theorem Wo[aB prog](a b:List nZ)(hl:a.length<=1099511627776):Ok prog 59 [.sl .view 2 (a.map kM),.sl .view 2 (b.map kM)] (.bool (decide (a=b))):=by
 refine dL aO func59 ntmps59 ?_;have W:=trivial;repeat' first|refine st ?_|(refine nx ?_;refine so ?_)|(refine cx ?_;refine sc (λhc=>?_) (λhc=>?_)<;>try exact hc.elim)|(refine lx ?_;refine sp (λhc=>?_) (λhc=>?_)<;>try exact hc.elim)|refine sx ?_ ?_|refine sy ?_ ?_|fail
 .all_goals try(refine aZ ?_;simp[aX,results59])
  exact Jl (by omega)
 .have hlen:=hc;refine aI (ι:={k:Nat // k<=a.length/\a.take k=b.take k}) (λt o i=>⟨bH t [(13,.int .i64 i.1),(5,.undef)],o⟩)
   (λi=>a.length-i.1) ⟨0,by simp,by simp⟩ aG ?_
  rintro⟨k,hk,hi⟩ K1 hK1;simp only[bH,cH,cJ]at hK1⊢;have hk1:=rE (k:=k);by_cases hlt:k<a.length
  .have hg:=aE hlt;have hg2:=aE (show k<b.length by omega);have wZ:k<b.length:=by omega
   have W:=aA hk1 (aA hg (aA hg2 (aA hlt wZ)));repeat' first|refine st ?_|(refine nx ?_;first|refine so ?_|refine sk (hc:=za a[k] (b[k]'(by omega))) (h:=?_))|(refine cx ?_;refine sc (λhc=>?_) (λhc=>?_)<;>try exact hc.elim)|(refine lx ?_;refine sp (λhc=>?_) (λhc=>?_)<;>try exact hc.elim)|refine sx ?_ ?_|refine sy ?_ ?_|fail
   .all_goals try(refine aZ ?_;simp[aX,results59])
    exact Hf hlt wZ hc
   .exact hK1 _ ⟨k+1,by omega,lV hi hlt wZ hc⟩ aG (by simp only;omega)
  .have W:=hk1;repeat' first|refine st ?_|(refine nx ?_;refine so ?_)|(refine cx ?_;refine sc (λhc=>?_) (λhc=>?_)<;>try exact hc.elim)|(refine lx ?_;refine sp (λhc=>?_) (λhc=>?_)<;>try exact hc.elim)|refine sx ?_ ?_|refine sy ?_ ?_|fail
   all_goals try(refine aZ ?_;simp[aX,results59])
   exact mZ (by omega) hlt hi
theorem Wp[aB prog](a b:List nY)(hl:a.length<=1099511627776):Ok prog 89 [.sl .view 2 (a.map uH),.sl .view 2 (b.map uH)] (.bool (decide (a=b))):=by
 refine dL aO func89 ntmps89 ?_;have W:=trivial;repeat' first|refine st ?_|(refine nx ?_;refine so ?_)|(refine cx ?_;refine sc (λhc=>?_) (λhc=>?_)<;>try exact hc.elim)|(refine lx ?_;refine sp (λhc=>?_) (λhc=>?_)<;>try exact hc.elim)|refine sx ?_ ?_|refine sy ?_ ?_|fail
 .all_goals try(refine aZ ?_;simp[aX,results89])
  exact Jl (by omega)
 .have hlen:=hc;refine aI (ι:={k:Nat // k<=a.length/\a.take k=b.take k}) (λt o i=>⟨bH t [(13,.int .i64 i.1),(5,.undef)],o⟩)
   (λi=>a.length-i.1) ⟨0,by simp,by simp⟩ aG ?_
  rintro⟨k,hk,hi⟩ K1 hK1;simp only[bH,cH,cJ]at hK1⊢;have hk1:=rE (k:=k);by_cases hlt:k<a.length
  .have hg:=aE hlt;have hg2:=aE (show k<b.length by omega);have wZ:k<b.length:=by omega
   have W:=aA hk1 (aA hg (aA hg2 (aA hlt wZ)));repeat' first|refine st ?_|(refine nx ?_;first|refine so ?_|refine sk (hc:=zb a[k] (b[k]'(by omega))) (h:=?_))|(refine cx ?_;refine sc (λhc=>?_) (λhc=>?_)<;>try exact hc.elim)|(refine lx ?_;refine sp (λhc=>?_) (λhc=>?_)<;>try exact hc.elim)|refine sx ?_ ?_|refine sy ?_ ?_|fail
   .all_goals try(refine aZ ?_;simp[aX,results89])
    exact Hf hlt wZ hc
   .exact hK1 _ ⟨k+1,by omega,lV hi hlt wZ hc⟩ aG (by simp only;omega)
  .have W:=hk1;repeat' first|refine st ?_|(refine nx ?_;refine so ?_)|(refine cx ?_;refine sc (λhc=>?_) (λhc=>?_)<;>try exact hc.elim)|(refine lx ?_;refine sp (λhc=>?_) (λhc=>?_)<;>try exact hc.elim)|refine sx ?_ ?_|refine sy ?_ ?_|fail
   all_goals try(refine aZ ?_;simp[aX,results89])
   exact mZ (by omega) hlt hi
theorem ze{a b:gV}:a=b↔a.name=b.name/\a.text=b.text/\a.parent=b.parent/\a.attrs=b.attrs:=by cases a;cases b;simp
theorem ZL[aB prog](a b:gV)(hl:a.attrs.length<=1099511627776):Ok prog 64 [.agg (fC .view a),.agg (fC .view b)] (.bool (decide (a=b))):=by
 rw[show decide (a=b)=decide (a.name=b.name/\a.text=b.text/\a.parent=b.parent/\a.attrs=b.attrs)by rw[pB];exact ze];by_cases q1:a.name=b.name
 .by_cases q2:a.text=b.text
  .by_cases q3:a.parent=b.parent
   .by_cases q4:a.attrs.length=b.attrs.length
    .rw [show decide (a.name=b.name/\a.text=b.text/\a.parent=b.parent/\a.attrs=b.attrs)=decide (a.attrs=b.attrs)by simp[q1,q2,q3]];refine dL aO func64 ntmps64 ?_;have W:=aA q1 (aA q2 (aA q3 q4));repeat' first|refine st ?_|(refine nx ?_;refine so ?_)|(refine cx ?_;refine sc (λhc=>?_) (λhc=>?_)<;>try exact hc.elim)|(refine lx ?_;refine sp (λhc=>?_) (λhc=>?_)<;>try exact hc.elim)|refine sx ?_ ?_|refine sy ?_ ?_|fail
     refine aI (ι:={k:Nat // k<=b.attrs.length/\a.attrs.take k=b.attrs.take k}) (λt o i=>⟨bH t [(5,.int .i64 i.1)],o⟩)
      (λi=>b.attrs.length-i.1) ⟨0,by simp,by simp⟩ aG ?_
     rintro⟨k,hk,hi⟩ K1 hK1;simp only[bH,cH,cJ]at hK1⊢;have hk1:=rE (k:=k);by_cases hlt:k<b.attrs.length
     .have hg:=aE hlt;have Jm:k<a.attrs.length:=by omega
      have hg2:=aE Jm;have W:=aA hk1 (aA hg (aA hg2 (aA q4 (aA hlt Jm))));repeat' first|refine st ?_|(refine nx ?_;first|refine so ?_|refine sk (hc:=zb (a.attrs[k]'(by omega)) b.attrs[k]) (h:=?_))|(refine cx ?_;refine sc (λhc=>?_) (λhc=>?_)<;>try exact hc.elim)|(refine lx ?_;refine sp (λhc=>?_) (λhc=>?_)<;>try exact hc.elim)|refine sx ?_ ?_|refine sy ?_ ?_|fail
      .all_goals try(refine aZ ?_;simp[aX,results64])
       exact Hf Jm hlt hc
      .exact hK1 _ ⟨k+1,by omega,lV hi Jm hlt hc⟩ aG (by simp only;omega)
     .have W:=aA hk1 q4;repeat' first|refine st ?_|(refine nx ?_;refine so ?_)|(refine cx ?_;refine sc (λhc=>?_) (λhc=>?_)<;>try exact hc.elim)|(refine lx ?_;refine sp (λhc=>?_) (λhc=>?_)<;>try exact hc.elim)|refine sx ?_ ?_|refine sy ?_ ?_|fail
      all_goals try(refine aZ ?_;simp[aX,results64])
      exact mZ q4 (by omega) hi
    .have q5:¬a.attrs=b.attrs:=λh=>q4 (by rw[h])
     refine dL aO func64 ntmps64 ?_;have W:=aA q1 (aA q2 (aA q3 q4));repeat' first|refine st ?_|(refine nx ?_;refine so ?_)|(refine cx ?_;refine sc (λhc=>?_) (λhc=>?_)<;>try exact hc.elim)|(refine lx ?_;refine sp (λhc=>?_) (λhc=>?_)<;>try exact hc.elim)|refine sx ?_ ?_|refine sy ?_ ?_|fail
     all_goals try(refine aZ ?_;simp[aX,results64])
     all_goals first|(simp[q5];done)|omega
   .refine dL aO func64 ntmps64 ?_;have W:=aA q1 (aA q2 q3);repeat' first|refine st ?_|(refine nx ?_;refine so ?_)|(refine cx ?_;refine sc (λhc=>?_) (λhc=>?_)<;>try exact hc.elim)|(refine lx ?_;refine sp (λhc=>?_) (λhc=>?_)<;>try exact hc.elim)|refine sx ?_ ?_|refine sy ?_ ?_|fail
    all_goals try(refine aZ ?_;simp[aX,results64])
    all_goals simp[q3]
  .refine dL aO func64 ntmps64 ?_;have W:=aA q1 q2;repeat' first|refine st ?_|(refine nx ?_;refine so ?_)|(refine cx ?_;refine sc (λhc=>?_) (λhc=>?_)<;>try exact hc.elim)|(refine lx ?_;refine sp (λhc=>?_) (λhc=>?_)<;>try exact hc.elim)|refine sx ?_ ?_|refine sy ?_ ?_|fail
   all_goals try(refine aZ ?_;simp[aX,results64])
   all_goals simp[q2]
 .refine dL aO func64 ntmps64 ?_;have W:=q1;repeat' first|refine st ?_|(refine nx ?_;refine so ?_)|(refine cx ?_;refine sc (λhc=>?_) (λhc=>?_)<;>try exact hc.elim)|(refine lx ?_;refine sp (λhc=>?_) (λhc=>?_)<;>try exact hc.elim)|refine sx ?_ ?_|refine sy ?_ ?_|fail
  all_goals try(refine aZ ?_;simp[aX,results64])
  all_goals simp[q1]
theorem SH[aB prog](a b:gV)(hl:a.attrs.length<=1099511627776):Ok prog 57 [.agg (fC .view a),.agg (fC .view b)] (.bool (decide (a=b))):=by
 have c1:=Wp a.attrs b.attrs hl;rw[show decide (a=b)=decide (a.name=b.name/\a.text=b.text/\a.parent=b.parent/\a.attrs=b.attrs)by rw[pB];exact ze];refine dL aO func57 ntmps57 ?_;have W:=trivial;repeat' first|refine st ?_|(refine nx ?_;refine so ?_)|(refine cx ?_;refine sc (λhc=>?_) (λhc=>?_)<;>try exact hc.elim)|(refine lx ?_;refine sp (λhc=>?_) (λhc=>?_)<;>try exact hc.elim)|refine sx ?_ ?_|refine sy ?_ ?_|fail
 all_goals try(refine aZ ?_;simp[aX,results57])
 all_goals simp_all
theorem LZ[aB prog](a b:List gV)(hl:bV gK a<=1099511627776):Ok prog 56 [.sl .view 4 (a.map (fC .view)),.sl .view 4 (b.map (fC .view)),.fn 57 []] (.bool (decide (a=b))):=by
 simp only[bV]at hl;refine dL aO func56 ntmps56 ?_;have W:=trivial;repeat' first|refine st ?_|(refine nx ?_;refine so ?_)|(refine cx ?_;refine sc (λhc=>?_) (λhc=>?_)<;>try exact hc.elim)|(refine lx ?_;refine sp (λhc=>?_) (λhc=>?_)<;>try exact hc.elim)|refine sx ?_ ?_|refine sy ?_ ?_|fail
 .all_goals try(refine aZ ?_;simp[aX,results56])
  exact Jl (by omega)
 .have hlen:=hc;refine aI (ι:={k:Nat // k<=a.length/\a.take k=b.take k}) (λt o i=>⟨bH t [(17,.int .i64 i.1),(7,.undef)],o⟩)
   (λi=>a.length-i.1) ⟨0,by simp,by simp⟩ aG ?_
  rintro⟨k,hk,hi⟩ K1 hK1;simp only[bH,cH,cJ]at hK1⊢;have hk1:=rE (k:=k);by_cases hlt:k<a.length
  .have hg:=aE hlt;have wZ:k<b.length:=by omega
   have hg2:=aE wZ;have hz:=dD gK a k hlt;simp only[gK,bV]at hz;have c1:=SH a[k] b[k] (by omega);simp only[fC]at c1;have W:=aA hk1 (aA hg (aA hg2 (aA hlt wZ)));repeat' first|refine st ?_|(refine nx ?_;refine so ?_)|(refine cx ?_;refine sc (λhc=>?_) (λhc=>?_)<;>try exact hc.elim)|(refine lx ?_;refine sp (λhc=>?_) (λhc=>?_)<;>try exact hc.elim)|refine sx ?_ ?_|refine sy ?_ ?_|fail
   .all_goals try(refine aZ ?_;simp[aX,results56])
    exact Hf hlt wZ (by simpa using hc)
   .exact hK1 _ ⟨k+1,by omega,lV hi hlt wZ (by simpa using hc)⟩ (aL 0) (by simp only;omega)
  .have W:=hk1;repeat' first|refine st ?_|(refine nx ?_;refine so ?_)|(refine cx ?_;refine sc (λhc=>?_) (λhc=>?_)<;>try exact hc.elim)|(refine lx ?_;refine sp (λhc=>?_) (λhc=>?_)<;>try exact hc.elim)|refine sx ?_ ?_|refine sy ?_ ?_|fail
   all_goals try(refine aZ ?_;simp[aX,results56])
   exact mZ (by omega) hlt hi
end Go.Proofs.YtnkpkklemmgapaaGreatDoor
