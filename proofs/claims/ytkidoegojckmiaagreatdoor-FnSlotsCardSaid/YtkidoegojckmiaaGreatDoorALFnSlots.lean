/-
  Proved here: steps towards the statement of this claim, text LFnSlots.
  No condition beyond what each statement spells out.
-/
import Derived.Test.YtkidoegojckmiaaGreatDoorADRS
import Derived.Test.YtkidoegojckmiaaGreatDoorAQSR
import Derived.Test.YtkidoegojckmiaaGreatDoorAQFA2
import Derived.Test.YtkidoegojckmiaaGreatDoorAQT5
import Derived.Test.YtkidoegojckmiaaGreatDoorAF8
import Derived.Test.YtkidoegojckmiaaGreatDoorAJ8
import Derived.Test.YtkidoegojckmiaaGreatDoorAJ9
set_option linter.all false
set_option maxRecDepth 8000
set_option maxHeartbeats 8000000
namespace Go.Proofs.YtkidoegojckmiaaGreatDoor
open Go.Aw
theorem aLv [aB Tryz.prog] [bV Tryz.prog] [eG Tryz.prog] [uQ Tryz.prog] (d:List UInt8) (hwd:d.length≤9223372036854775807):Ok Tryz.prog 3 [.sl .view 1 (aM d)] (.bool true):=by
 have cb:=aVs d hwd
 have cq:=qQ d
 have cdf:=aA1 d
 refine aR5 Tryz.mix [7,16] Tryz.func3 Tryz.ntmps3 ?_
 have W:=trivial
 repeat' first|refine st ?_|(refine nx ?_;refine so ?_)|(refine cx ?_;refine sc (fun hc=>?_) (fun hc=>?_)<;>try exact hc.elim)|(refine lx ?_;refine sp (fun hc=>?_) (fun hc=>?_)<;>try exact hc.elim)|refine sx ?_ ?_|refine sy ?_ ?_|fail
 ·all_goals (try (refine ⟨.inr rfl,?_⟩;simp [Hands,Tryz.results3]))
 ·refine ce (cq) ?_
  rintro _ ⟨p,k,x,rfl,hp,hx⟩
  simp only [AS.called,AS.put,aF,aC,aX,aP,aV,aN,aY,aQ,List.set_cons_succ,List.set_cons_zero,List.append_nil,List.nil_append,List.cons_append]
  have hps:=hp.sz
  have hsl:=hp.sl
  have c1:=(qO p k x (by omega) (by omega)).vwas (r':= .agg (aU .view (bR p k x))) (by simp [rt])
  have c2:=(aDw p k x (by omega) (by omega)).vwas (r':= .agg (aU .view (bR p k x))) (by simp [rt])
  have hqs:=aKf p k x
  have hff:=aQs p k x vB
  have hnf:=aEl
  have c3:=(qO (bR p k x) k vB (by omega) (by decide)).vwas (r':= .agg (aU .view (bR (bR p k x) k vB))) (by simp [rt])
  rw [hff] at c3
  have hat:=fun (n:Nat) (s:dR) (hg:p.slots[n]? =some s) (hd:s.done=false)=>aL5 (x:=x) hg hd
  have ceq:=aHi (bR p k x) (by omega)
  have hql:(bR p k x).slots.length=p.slots.length:=(aF9 p k x).1
  simp only [bA] at c1 c2 c3 hnf
  have W:=trivial
  repeat' first|refine st ?_|(refine nx ?_;refine so ?_)|(refine cx ?_;refine sc (fun hc=>?_) (fun hc=>?_)<;>try exact hc.elim)|(refine lx ?_;refine sp (fun hc=>?_) (fun hc=>?_)<;>try exact hc.elim)|refine sx ?_ ?_|refine sy ?_ ?_|fail
  refine aUn (fun s'=>eT s' ⟨[.sl .view 1 (aM d),.undef,.bool false,.undef,.undef,.undef,.undef,.undef,.undef,.undef,.undef,.undef,.undef,.undef,.undef,.undef,.undef,.undef,.undef,.undef,.undef,.undef,.undef,.undef,.undef,.undef,.undef,.undef,.undef,.undef,.undef,.undef,.undef,.undef,.undef,.undef,.undef,.undef,.undef,.undef,.undef,.undef,.undef,.undef,.undef,.undef,.undef,.undef,.undef,.undef,.undef,.undef,.undef,.undef,.undef,.undef,.undef,.undef,.undef,.undef,.undef,.undef,.undef,.undef,.undef,.undef,.undef,.undef,.undef,.undef,.undef,.undef,.undef,.undef,.undef,.undef,.undef,.undef,.undef,.undef,.undef,.undef,.undef,.undef,.undef,.undef,.undef,.undef,.undef,.undef,.undef,.undef,.undef,.undef,.undef,.undef,.undef,.undef,.undef,.undef,.undef,.undef,.undef,.undef,.undef,.undef,.undef,.undef,.undef,.undef,.undef,.undef,.undef,.undef,.undef,.undef,.undef,.undef,.undef,.undef,.undef,.undef,.undef,.undef,.undef,.undef,.undef,.undef,.undef,.undef,.undef,.undef,.undef,.undef,.undef,.undef,.undef,.undef,.undef,.undef,.undef,.undef,.undef,.undef,.undef,.undef,.undef,.undef,.undef,.undef,.undef,.undef,.undef,.undef,.undef,.undef,.undef,.undef,.undef,.undef,.undef,.undef,.undef,.undef,.undef,.undef,.undef,.undef,.undef,.undef,.undef,.undef,.undef,.undef,.undef,.undef,.undef,.undef,.undef,.undef,.undef],[]⟩) ?_ ?_
  rotate_left
  ·rw [uA]
   clear c1 c2 c3 ceq hnf
   by_cases hk:0≤k∧k < p.slots.length
   ·obtain ⟨n,rfl⟩:=Int.eq_ofNat_of_zero_le hk.1
    have hlt:n < p.slots.length:=by omega
    have hg:=List.getElem?_eq_getElem hlt
    have hn0:(0:Int)≤(n:Int):=by omega
    have hn1:(n:Int) < (p.slots.length:Int):=by omega
    generalize p.slots[n]=s at *
    cases hd:s.done
    ·have hga:=hat n s hg hd
     have em:kQ p (n:Int)=bM p s:=by simp [kQ,hg]
     have cr:=sQ p (n:Int) (by omega) (by omega) (by omega)
     rw [em] at cr
     have hrs:=aLu p hg
     have hpp:bB p.policy≤bK p:=by simp only [bK];omega
     have cc:=mH p.policy (bM p s) x (by omega) (by omega) (by omega)
     have cub:=tC p.policy (bM p s) x (by omega) (by omega) (by omega)
     simp only [filled] at hga
     generalize bM p s=rq at *
     generalize dA p.policy rq x=cv at *
     generalize gW p.policy rq x=ub at *
     generalize bR p (n:Int) x=q at *
     simp only [dI,aU,aS,bA] at cr cc cub⊢
     have W:=And.intro hn0 (And.intro hn1 (And.intro hg (And.intro hd hga)))
     repeat' first|refine st ?_|(refine nx ?_;refine so ?_)|(refine cx ?_;refine sc (fun hc=>?_) (fun hc=>?_)<;>try exact hc.elim)|(refine lx ?_;refine sp (fun hc=>?_) (fun hc=>?_)<;>try exact hc.elim)|refine sx ?_ ?_|refine sy ?_ ?_|fail
     exact ⟨rfl,aG 0 (by simp) (by simp) (by simp) (by simp)⟩
    ·have W:=And.intro hn0 (And.intro hn1 (And.intro hg hd))
     repeat' first|refine st ?_|(refine nx ?_;refine so ?_)|(refine cx ?_;refine sc (fun hc=>?_) (fun hc=>?_)<;>try exact hc.elim)|(refine lx ?_;refine sp (fun hc=>?_) (fun hc=>?_)<;>try exact hc.elim)|refine sx ?_ ?_|refine sy ?_ ?_|fail
     exact ⟨rfl,aG 0 (by simp) (by simp) (by simp) (by simp)⟩
   ·generalize bR p k x=q at *
    by_cases h0:0≤k
    ·have hk2:¬(k < (p.slots.length:Int)):=fun h=>hk ⟨h0,h⟩
     have W:=And.intro hk2 h0
     repeat' first|refine st ?_|(refine nx ?_;refine so ?_)|(refine cx ?_;refine sc (fun hc=>?_) (fun hc=>?_)<;>try exact hc.elim)|(refine lx ?_;refine sp (fun hc=>?_) (fun hc=>?_)<;>try exact hc.elim)|refine sx ?_ ?_|refine sy ?_ ?_|fail
     exact ⟨rfl,aG 0 (by simp) (by simp) (by simp) (by simp)⟩
    ·have W:=h0
     repeat' first|refine st ?_|(refine nx ?_;refine so ?_)|(refine cx ?_;refine sc (fun hc=>?_) (fun hc=>?_)<;>try exact hc.elim)|(refine lx ?_;refine sp (fun hc=>?_) (fun hc=>?_)<;>try exact hc.elim)|refine sx ?_ ?_|refine sy ?_ ?_|fail
     exact ⟨rfl,aG 0 (by simp) (by simp) (by simp) (by simp)⟩
  ·intro s' hwk
   clear hat hff hnf c1 c2 c3 ceq hql hqs
   refine aPe hwk ?_
   clear hwk
   have W:=trivial
   repeat' first|refine st ?_|(refine nx ?_;refine so ?_)|(refine cx ?_;refine sc (fun hc=>?_) (fun hc=>?_)<;>try exact hc.elim)|(refine lx ?_;refine sp (fun hc=>?_) (fun hc=>?_)<;>try exact hc.elim)|refine sx ?_ ?_|refine sy ?_ ?_|fail
   refine ce (cdf) ?_
   rintro _ ⟨u,a,y,rfl,hu,haz,hy⟩
   simp only [AS.called,AS.put,aF,aC,aX,aP,aV,aN,aY,aQ,List.set_cons_succ,List.set_cons_zero,List.append_nil,List.nil_append,List.cons_append]
   have hus:=hu.sz
   have husl:=hu.sl
   have c4:=(aFw u a y (by omega) (by omega)).vwas (r':= .agg (aU .view (pK u a y))) (by simp [rt])
   have hlen:=wK u a y
   have hat:=fun (i:Nat) (s:dR) (hg:(pK u a y).slots[i]? =some s)=>aEt hg
   have hop:=aUf u a y
   generalize pK u a y=v at *
   have W:=trivial
   repeat' first|refine st ?_|(refine nx ?_;refine so ?_)|(refine cx ?_;refine sc (fun hc=>?_) (fun hc=>?_)<;>try exact hc.elim)|(refine lx ?_;refine sp (fun hc=>?_) (fun hc=>?_)<;>try exact hc.elim)|refine sx ?_ ?_|refine sy ?_ ?_|fail
   refine aJ (ι:={i:Nat // i≤v.slots.length}) (fun t o i=>⟨[.sl .view 1 (aM d),.undef,.bool false,.undef,.undef,.undef,.undef,.undef,.undef,.ptr 0 0 0 0,.ptr 1 0 0 0,.ptr 2 0 0 0,.ptr 3 0 0 0,.int .i64 (i.1:Int),.undef,.undef,.undef,.undef,.undef,.undef,.undef,.undef,.undef,.undef,.undef,.undef,.undef,.undef,.undef,.undef,.undef,.undef,.undef,.undef,.undef,.undef,.undef,.undef,.undef,.undef,.undef,.undef,.undef,.undef,.undef,.undef,.undef,.undef,.undef,.undef,.undef,.undef,.undef,.undef,.undef,.undef,.undef,.undef,.undef,.undef,.undef,.undef,.undef,.undef,.undef,.undef,.undef,.undef,.undef,.undef,.undef,.undef,.undef,.undef,.undef,.undef,.undef,.undef,.undef,.undef,.undef,.undef,.undef,.undef,.undef,.undef,.undef,.undef,.undef,.undef,.undef,.undef,.undef,.undef,.undef,.undef,.undef,.undef,.undef,.undef,.undef,.undef,.undef,.undef,.undef,.undef,.undef,.undef,.undef,.undef,.undef,.undef,.undef,.undef,.undef,.undef,.undef,.undef,.undef,.undef,.undef,.undef,.undef,.undef,.undef,.undef,.undef,.undef,.undef,.undef,.undef,.undef,.undef,.undef,.undef,.undef,.undef,.undef,.undef,.undef,.undef,.undef,.undef,.undef,.undef,.undef,.undef,.undef,.undef,.undef,.undef,.undef,.undef,.undef,.undef,.undef,.undef,.undef,.undef,.undef,.undef,.undef,.undef,.undef,.undef,.undef,.undef,.undef,.undef,.undef,.undef,.undef,.undef,.undef,.undef,.undef,.undef,.undef,.undef,.undef,.undef],[⟨true,true,22,0,[aU .view u]⟩,⟨true,true,2,0,[bF a]⟩,⟨true,true,6,0,[bA y]⟩,⟨true,true,22,0,[aU .view v]⟩]⟩)
    (fun i=>v.slots.length - i.1) ⟨0,by simp⟩ (aG 4 (by simp) (by simp) (by simp) (by simp)) ?_
   rintro ⟨i,hi⟩ K1 hK1
   have hK2:=hK1
   simp only at hK1⊢
   clear hK1
   have hi1:IntKind.i64.wrap ((i:Int)+1)=((i+1:Nat):Int):=by rw [wrap64]<;>omega
   by_cases hlt:i < v.slots.length
   ·have hii:(i:Int) < (v.slots.length:Int):=by omega
    have hg:=List.getElem?_eq_getElem hlt
    obtain ⟨h1,h2⟩:=hat i _ hg
    generalize v.slots[i]=s at *
    have W:=hii
    repeat' first|refine st ?_|(refine nx ?_;refine so ?_)|(refine cx ?_;refine sc (fun hc=>?_) (fun hc=>?_)<;>try exact hc.elim)|(refine lx ?_;refine sp (fun hc=>?_) (fun hc=>?_)<;>try exact hc.elim)|refine sx ?_ ?_|refine sy ?_ ?_|fail
    rw [uA]
    refine nL _ _ (fun e s'=>e= .normal∧s'.ev (.tmp 159)= .bool false∧eT s' ⟨[.sl .view 1 (aM d),.undef,.bool false,.undef,.undef,.undef,.undef,.undef,.undef,.ptr 0 0 0 0,.ptr 1 0 0 0,.ptr 2 0 0 0,.ptr 3 0 0 0,.int .i64 (i:Int),.undef,.undef,.undef,.undef,.undef,.undef,.undef,.undef,.undef,.undef,.undef,.undef,.undef,.undef,.undef,.undef,.undef,.undef,.undef,.undef,.undef,.undef,.undef,.undef,.undef,.undef,.undef,.undef,.undef,.undef,.undef,.undef,.undef,.undef,.undef,.undef,.undef,.undef,.undef,.undef,.undef,.undef,.undef,.undef,.undef,.undef,.undef,.undef,.undef,.undef,.undef,.undef,.undef,.undef,.undef,.undef,.undef,.undef,.undef,.undef,.undef,.undef,.undef,.undef,.undef,.undef,.undef,.undef,.undef,.undef,.undef,.undef,.undef,.undef,.undef,.undef,.undef,.undef,.undef,.undef,.undef,.undef,.undef,.undef,.undef,.undef,.undef,.undef,.undef,.undef,.undef,.undef,.undef,.undef,.undef,.undef,.undef,.undef,.undef,.undef,.undef,.undef,.undef,.undef,.undef,.undef,.undef,.undef,.undef,.undef,.undef,.undef,.undef,.undef,.undef,.undef,.undef,.undef,.undef,.undef,.undef,.undef,.undef,.undef,.undef,.undef,.undef,.undef,.undef,.undef,.undef,.undef,.undef,.undef,.undef,.undef,.undef,.undef,.undef,.undef,.undef,.undef,.undef,.undef,.undef,.undef,.undef,.undef,.undef,.undef,.undef,.undef,.undef,.undef,.undef,.undef,.undef,.undef,.undef,.undef,.undef,.undef,.undef,.undef,.undef,.undef,.undef],[⟨true,true,22,0,[aU .view u]⟩,⟨true,true,2,0,[bF a]⟩,⟨true,true,6,0,[bA y]⟩,⟨true,true,22,0,[aU .view v]⟩]⟩) _ ?_ ?_
    ·rintro e s' ⟨rfl,hcd,hwk⟩
     simp only [gI]
     refine aV9 hcd ?_
     simp only [AIn,gI]
     refine tJ hwk ?_
     have W:=hi1
     repeat' first|refine st ?_|(refine nx ?_;refine so ?_)|(refine cx ?_;refine sc (fun hc=>?_) (fun hc=>?_)<;>try exact hc.elim)|(refine lx ?_;refine sp (fun hc=>?_) (fun hc=>?_)<;>try exact hc.elim)|refine sx ?_ ?_|refine sy ?_ ?_|fail
     exact hK2 _ ⟨i+1,by omega⟩ (aH (by simp) (by simp)) (by simp only;omega)
    ·clear hK2
     by_cases hto:s.to=a
     ·have hd:=h1 hto
      have hea:=pM a a
      rw [decide_eq_true rfl] at hea
      simp only [bF,aU] at hea⊢
      have W:=And.intro hg (And.intro hto hd)
      have c0:=hea
      repeat' first|refine st ?_|(refine nx ?_;refine so ?_)|(refine cx ?_;refine sc (fun hc=>?_) (fun hc=>?_)<;>try exact hc.elim)|(refine lx ?_;refine sp (fun hc=>?_) (fun hc=>?_)<;>try exact hc.elim)|refine sx ?_ ?_|refine sy ?_ ?_|fail
      exact ⟨rfl,by rfl,aG 4 (by simp) (by simp) (by simp) (by simp)⟩
     ·have hgu:=h2 hto
      have hea:=pM s.to a
      rw [decide_eq_false hto] at hea
      have hes:=aMx s s
      rw [decide_eq_true rfl] at hes
      simp only [bF,aU,jG] at hea hes⊢
      have W:=And.intro hg (And.intro hgu hto)
      have c0:=hea
      have c1:=hes
      repeat' first|refine st ?_|(refine nx ?_;refine so ?_)|(refine cx ?_;refine sc (fun hc=>?_) (fun hc=>?_)<;>try exact hc.elim)|(refine lx ?_;refine sp (fun hc=>?_) (fun hc=>?_)<;>try exact hc.elim)|refine sx ?_ ?_|refine sy ?_ ?_|fail
      exact ⟨rfl,by rfl,aG 4 (by simp) (by simp) (by simp) (by simp)⟩
   ·have hii:¬(i:Int) < (v.slots.length:Int):=by omega
    clear hK2
    have o1:=(uX v (by omega)).vwas (r':= .sl .view 1 ((places lF 0 v.slots).map jT)) (by simp [rt])
    have o2:=(uX u (by omega)).vwas (r':= .sl .view 1 ((places lF 0 u.slots).map jT)) (by simp [rt])
    have hle:((places lF 0 v.slots).length:Int)≤((places lF 0 u.slots).length:Int):=by omega
    have r1:=aA6 u (by omega)
    have r2:=aA7 u (by omega)
    have hsz:szL fC u.slots≤7000:=by simp only [bK] at hus;omega
    have s1:=aEf u (by omega)
    have s2:=aEm u (by omega)
    have hss:=aNx u
    generalize lY u=ss at *
    have es:=aAc ss ss (by omega)
    rw [decide_eq_true rfl] at es
    generalize places lF 0 v.slots=l1 at *
    generalize places lF 0 u.slots=l2 at *
    generalize u.slots.all nK=bb at *
    cases bb
    ·have W:=And.intro hii hle
     repeat' first|refine st ?_|(refine nx ?_;refine so ?_)|(refine cx ?_;refine sc (fun hc=>?_) (fun hc=>?_)<;>try exact hc.elim)|(refine lx ?_;refine sp (fun hc=>?_) (fun hc=>?_)<;>try exact hc.elim)|refine sx ?_ ?_|refine sy ?_ ?_|fail
     all_goals (try (refine ⟨.inr rfl,?_⟩;simp [Hands,Tryz.results3]))
    ·have W:=And.intro hii hle
     repeat' first|refine st ?_|(refine nx ?_;refine so ?_)|(refine cx ?_;refine sc (fun hc=>?_) (fun hc=>?_)<;>try exact hc.elim)|(refine lx ?_;refine sp (fun hc=>?_) (fun hc=>?_)<;>try exact hc.elim)|refine sx ?_ ?_|refine sy ?_ ?_|fail
     all_goals (try (refine ⟨.inr rfl,?_⟩;simp [Hands,Tryz.results3]))
end Go.Proofs.YtkidoegojckmiaaGreatDoor
