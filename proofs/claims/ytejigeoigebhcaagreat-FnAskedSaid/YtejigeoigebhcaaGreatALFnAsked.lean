/-
  Proved here: steps towards the statement of this claim, text LFnAsked.
  No condition beyond what each statement spells out.
-/
import Derived.Test.YtejigeoigebhcaaGreatADRE
import Derived.Test.YtejigeoigebhcaaGreatAAS0
import Derived.Test.YtejigeoigebhcaaGreatAFA2
import Derived.Test.YtejigeoigebhcaaGreatAI5
import Derived.Test.YtejigeoigebhcaaGreatAQI6
import Derived.Test.YtejigeoigebhcaaGreatAF8
set_option linter.all false
set_option maxRecDepth 8000
set_option maxHeartbeats 64000000
namespace Go.Proofs.YtejigeoigebhcaaGreat
open Go.Aw
def aK8 (r:AV):Prop:=∃(p:aS) (m:Int) (t d:Str) (n:Int),r= .tup [.agg (aR .view p),.int .i64 m,.str t,.str d,.int .i64 n]∧aJ p≤8000∧t.length≤8∧d.length≤3
theorem wN [aB Tryz.prog] (code:List UInt8):OkE Tryz.prog 5 [.sl .view 1 (aN code)] aK8:=
 (xO code).vwas fun r ⟨p,m,t,d,n,e,h⟩=>⟨p,m,t,d,n,by subst e;simp [rt,rtc],h⟩
theorem aG5 (p:aS) (mode:Int) (tx dg:Str) (nd:Int):aJ (dP p mode tx dg nd).1≤aJ p+2 * tx.length+p.addr.host.length+dg.length+2:=by
 have h1:=wE tx p.addr.host
 unfold dP
 split
 ·simp only;omega
 ·split<;>(simp only [aJ,szL,List.length_append,mF,aZ,jZ,List.length_cons,List.length_nil];omega)
theorem aFz (p:aS) (tx:Str):aJ (kQ p tx)≤aJ p+2 * (tx.length+p.addr.host.length)+2:=by
 have h1:=wE tx p.addr.host
 have h2:=aK2 p (bA tx p.addr.host).1
 have h3:=aD7 p (bA tx p.addr.host).1
 unfold kQ
 split
 ·omega
 ·generalize bJ p (bA tx p.addr.host).1=g at *
  simp only [aJ,szL,List.length_append,mF,aZ,List.length_cons,List.length_nil,←h3] at h2⊢
  omega
theorem aIh (p:aS):p.addr.host.length≤aJ p:=by simp only [aJ,bG];omega
theorem aHn [aB Tryz.prog] (d:List UInt8) (hwd:d.length≤9223372036854775807):Ok Tryz.prog 3 [.sl .view 1 (aN d)] (.bool true):=by
 have cb:=aQe d hwd
 have cp:=wN d
 have cdm:=wG d
 have cdn:=wP d
 refine aR8 Tryz.mix [8,15,17] Tryz.func3 Tryz.ntmps3 ?_
 have W:=trivial
 repeat' first|refine st ?_|(refine nx ?_;refine so ?_)|(refine cx ?_;refine sc (fun hc=>?_) (fun hc=>?_)<;>try exact hc.elim)|(refine lx ?_;refine sp (fun hc=>?_) (fun hc=>?_)<;>try exact hc.elim)|refine sx ?_ ?_|refine sy ?_ ?_|fail
 ·all_goals (try (refine ⟨.inr rfl,?_⟩;simp [Hands,Tryz.results3]))
 ·refine ce (cp) ?_
  rintro _ ⟨p,m,tx,dg,nd,rfl,hps,htx,hdg⟩
  simp only [AS.called,AS.put,aF,aC,aV,aM,aU,aK,aX,aL,List.set_cons_succ,List.set_cons_zero,List.append_nil,List.nil_append,List.cons_append]
  have hh:=aIh p
  have c1:=(aCr p m tx dg nd (by omega) (by omega) (by omega)).vwas (r':= .tup [.agg (aR .view (dP p m tx dg nd).1),.int .i64 (dP p m tx dg nd).2]) (by simp [rt,rtc])
  have c2:=(aCo p m tx dg nd (by omega) (by omega) (by omega)).vwas (r':= .tup [.agg (aR .view (dP p m tx dg nd).1),.int .i64 (dP p m tx dg nd).2]) (by simp [rt,rtc])
  have hqs:=aG5 p m tx dg nd
  have hlaw:=aHp p m tx dg nd
  generalize dP p m tx dg nd=g at *
  obtain ⟨q,kk⟩:=g
  simp only at c1 c2 hqs hlaw
  have ceq:=qR q (by omega)
  have hql:q.slots.length≤aJ q:=by simp only [aJ,szL];omega
  have hpp:bE p.policy≤aJ p:=by simp only [aJ];omega
  have W:=trivial
  repeat' first|refine st ?_|(refine nx ?_;refine so ?_)|(refine cx ?_;refine sc (fun hc=>?_) (fun hc=>?_)<;>try exact hc.elim)|(refine lx ?_;refine sp (fun hc=>?_) (fun hc=>?_)<;>try exact hc.elim)|refine sx ?_ ?_|refine sy ?_ ?_|fail
  rw [rV]
  refine mH _ _ (fun e s'=>e= .normal∧s'.ev (.tmp 90)= .bool false∧eH s' ⟨[.sl .view 1 (aN d),.undef,.bool false,.undef,.undef,.undef,.undef,.undef,.undef,.undef,.undef,.undef,.undef,.undef,.undef,.undef,.undef,.undef,.undef,.undef,.undef,.undef,.undef,.undef,.undef,.undef,.undef,.undef,.undef,.undef,.undef,.undef,.undef,.undef,.undef,.undef,.undef,.undef,.undef,.undef,.undef,.undef,.undef,.undef,.undef,.undef,.undef,.undef,.undef,.undef,.undef,.undef,.undef,.undef,.undef,.undef,.undef,.undef,.undef,.undef,.undef,.undef,.undef,.undef,.undef,.undef,.undef,.undef,.undef,.undef,.undef,.undef,.undef,.undef,.undef,.undef,.undef,.undef,.undef,.undef,.undef,.undef,.undef,.undef,.undef,.undef,.undef,.undef,.undef,.undef,.undef,.undef,.undef,.undef,.undef,.undef,.undef,.undef,.undef,.undef,.undef,.undef,.undef,.undef,.undef,.undef,.undef,.undef,.undef,.undef,.undef,.undef,.undef,.undef,.undef,.undef,.undef,.undef,.undef,.undef,.undef,.undef,.undef,.undef,.undef,.undef,.undef,.undef,.undef,.undef,.undef,.undef,.undef,.undef,.undef,.undef,.undef,.undef,.undef,.undef,.undef,.undef,.undef,.undef,.undef,.undef,.undef,.undef,.undef,.undef,.undef,.undef,.undef,.undef,.undef,.undef,.undef,.undef,.undef,.undef,.undef,.undef,.undef,.undef,.undef,.undef,.undef,.undef,.undef,.undef,.undef,.undef,.undef,.undef,.undef,.undef,.undef,.undef,.undef],[]⟩) _ ?_ ?_
  ·rintro e s' ⟨rfl,hcd,hwk⟩
   simp only [eY]
   refine aFm hcd ?_
   simp only [eY]
   refine aKo hwk ?_
   clear hcd hwk
   have W:=trivial
   repeat' first|refine st ?_|(refine nx ?_;refine so ?_)|(refine cx ?_;refine sc (fun hc=>?_) (fun hc=>?_)<;>try exact hc.elim)|(refine lx ?_;refine sp (fun hc=>?_) (fun hc=>?_)<;>try exact hc.elim)|refine sx ?_ ?_|refine sy ?_ ?_|fail
   refine ce (cdm) ?_
   rintro _ ⟨u,a,rfl,hu,ha⟩
   simp only [AS.called,AS.put,aF,aC,aV,aM,aU,aK,aX,aL,List.set_cons_succ,List.set_cons_zero,List.append_nil,List.nil_append,List.cons_append]
   have hus:=hu.sz
   have c3:=(nE u a (by omega) (by omega)).vwas (r':= .agg (aR .view (bJ u a))) (by simp [rt])
   have hvs:=aK2 u a
   have hup:=aQn a hu.up
   have hnew:=fun (m:bT) hm (ham:m.to=a)=>aMb hu.up m hm ham
   have haa:=aPc u a
   generalize bJ u a=v at *
   have W:=trivial
   repeat' first|refine st ?_|(refine nx ?_;refine so ?_)|(refine cx ?_;refine sc (fun hc=>?_) (fun hc=>?_)<;>try exact hc.elim)|(refine lx ?_;refine sp (fun hc=>?_) (fun hc=>?_)<;>try exact hc.elim)|refine sx ?_ ?_|refine sy ?_ ?_|fail
   refine aQ (ι:={i:Nat // i≤v.mods.length}) (fun t o i=>⟨[.sl .view 1 (aN d),.undef,.bool false,.undef,.undef,.undef,.undef,.undef,.undef,.undef,.undef,.undef,.ptr 0 0 0 0,.ptr 1 0 0 0,.ptr 2 0 0 0,.int .i64 (i.1:Int),.undef,.undef,.undef,.undef,.undef,.undef,.undef,.undef,.undef,.undef,.undef,.undef,.undef,.undef,.undef,.undef,.undef,.undef,.undef,.undef,.undef,.undef,.undef,.undef,.undef,.undef,.undef,.undef,.undef,.undef,.undef,.undef,.undef,.undef,.undef,.undef,.undef,.undef,.undef,.undef,.undef,.undef,.undef,.undef,.undef,.undef,.undef,.undef,.undef,.undef,.undef,.undef,.undef,.undef,.undef,.undef,.undef,.undef,.undef,.undef,.undef,.undef,.undef,.undef,.undef,.undef,.undef,.undef,.undef,.undef,.undef,.undef,.undef,.undef,.undef,.undef,.undef,.undef,.undef,.undef,.undef,.undef,.undef,.undef,.undef,.undef,.undef,.undef,.undef,.undef,.undef,.undef,.undef,.undef,.undef,.undef,.undef,.undef,.undef,.undef,.undef,.undef,.undef,.undef,.undef,.undef,.undef,.undef,.undef,.undef,.undef,.undef,.undef,.undef,.undef,.undef,.undef,.undef,.undef,.undef,.undef,.undef,.undef,.undef,.undef,.undef,.undef,.undef,.undef,.undef,.undef,.undef,.undef,.undef,.undef,.undef,.undef,.undef,.undef,.undef,.undef,.undef,.undef,.undef,.undef,.undef,.undef,.undef,.undef,.undef,.undef,.undef,.undef,.undef,.undef,.undef,.undef,.undef,.undef,.undef,.undef,.undef,.undef],[⟨true,true,22,0,[aR .view u]⟩,⟨true,true,2,0,[aO a]⟩,⟨true,true,22,0,[aR .view v]⟩]⟩)
    (fun i=>v.mods.length - i.1) ⟨0,by simp⟩ (aW 3 (by simp) (by simp) (by simp) (by simp)) ?_
   rintro ⟨i,hi⟩ K1 hK1
   have hK2:=hK1
   simp only at hK1⊢
   clear hK1
   have hvl:v.mods.length≤aJ v:=by simp only [aJ,szL];omega
   have hi1:IntKind.i64.wrap ((i:Int)+1)=((i+1:Nat):Int):=by rw [wrap64]<;>omega
   by_cases hlt:i < v.mods.length
   ·have hii:(i:Int) < (v.mods.length:Int):=by omega
    have hg:=List.getElem?_eq_getElem hlt
    have hmem:v.mods[i]∈v.mods:=List.getElem_mem hlt
    have hl1:i - 1 < v.mods.length:=by omega
    have hpw:∀h0:0 < i,cmpAddr (v.mods[i - 1]'hl1).to v.mods[i].to= -1:=fun h0=>by
     rw [aFg]
     unfold lK at hup
     rw [List.pairwise_iff_getElem] at hup
     exact hup (i - 1) i hl1 hlt (by omega)
    have W:=hii
    repeat' first|refine st ?_|(refine nx ?_;refine so ?_)|(refine cx ?_;refine sc (fun hc=>?_) (fun hc=>?_)<;>try exact hc.elim)|(refine lx ?_;refine sp (fun hc=>?_) (fun hc=>?_)<;>try exact hc.elim)|refine sx ?_ ?_|refine sy ?_ ?_|fail
    rw [rV]
    refine mH _ _ (fun e s'=>e= .normal∧s'.ev (.tmp 124)= .bool false∧eH s' ⟨[.sl .view 1 (aN d),.undef,.bool false,.undef,.undef,.undef,.undef,.undef,.undef,.undef,.undef,.undef,.ptr 0 0 0 0,.ptr 1 0 0 0,.ptr 2 0 0 0,.int .i64 (i:Int),.undef,.undef,.undef,.undef,.undef,.undef,.undef,.undef,.undef,.undef,.undef,.undef,.undef,.undef,.undef,.undef,.undef,.undef,.undef,.undef,.undef,.undef,.undef,.undef,.undef,.undef,.undef,.undef,.undef,.undef,.undef,.undef,.undef,.undef,.undef,.undef,.undef,.undef,.undef,.undef,.undef,.undef,.undef,.undef,.undef,.undef,.undef,.undef,.undef,.undef,.undef,.undef,.undef,.undef,.undef,.undef,.undef,.undef,.undef,.undef,.undef,.undef,.undef,.undef,.undef,.undef,.undef,.undef,.undef,.undef,.undef,.undef,.undef,.undef,.undef,.undef,.undef,.undef,.undef,.undef,.undef,.undef,.undef,.undef,.undef,.undef,.undef,.undef,.undef,.undef,.undef,.undef,.undef,.undef,.undef,.undef,.undef,.undef,.undef,.undef,.undef,.undef,.undef,.undef,.undef,.undef,.undef,.undef,.undef,.undef,.undef,.undef,.undef,.undef,.undef,.undef,.undef,.undef,.undef,.undef,.undef,.undef,.undef,.undef,.undef,.undef,.undef,.undef,.undef,.undef,.undef,.undef,.undef,.undef,.undef,.undef,.undef,.undef,.undef,.undef,.undef,.undef,.undef,.undef,.undef,.undef,.undef,.undef,.undef,.undef,.undef,.undef,.undef,.undef,.undef,.undef,.undef,.undef,.undef,.undef,.undef,.undef,.undef],[⟨true,true,22,0,[aR .view u]⟩,⟨true,true,2,0,[aO a]⟩,⟨true,true,22,0,[aR .view v]⟩]⟩) _ ?_ ?_
    ·rintro e s' ⟨rfl,hcd,hwk⟩
     simp only [eY]
     refine aFm hcd ?_
     simp only [eY]
     refine aJu hwk ?_
     clear hcd hwk hpw
     refine aF2 ?_
     rw [rV]
     refine mH _ _ (fun e s'=>e= .normal∧s'.ev (.tmp 159)= .bool false∧eH s' ⟨[.sl .view 1 (aN d),.undef,.bool false,.undef,.undef,.undef,.undef,.undef,.undef,.undef,.undef,.undef,.ptr 0 0 0 0,.ptr 1 0 0 0,.ptr 2 0 0 0,.int .i64 (i:Int),.undef,.undef,.undef,.undef,.undef,.undef,.undef,.undef,.undef,.undef,.undef,.undef,.undef,.undef,.undef,.undef,.undef,.undef,.undef,.undef,.undef,.undef,.undef,.undef,.undef,.undef,.undef,.undef,.undef,.undef,.undef,.undef,.undef,.undef,.undef,.undef,.undef,.undef,.undef,.undef,.undef,.undef,.undef,.undef,.undef,.undef,.undef,.undef,.undef,.undef,.undef,.undef,.undef,.undef,.undef,.undef,.undef,.undef,.undef,.undef,.undef,.undef,.undef,.undef,.undef,.undef,.undef,.undef,.undef,.undef,.undef,.undef,.undef,.undef,.undef,.undef,.undef,.undef,.undef,.undef,.undef,.undef,.undef,.undef,.undef,.undef,.undef,.undef,.undef,.undef,.undef,.undef,.undef,.undef,.undef,.undef,.undef,.undef,.undef,.undef,.undef,.undef,.undef,.undef,.undef,.undef,.undef,.undef,.undef,.undef,.undef,.undef,.undef,.undef,.undef,.undef,.undef,.undef,.undef,.undef,.undef,.undef,.undef,.undef,.undef,.undef,.undef,.undef,.undef,.undef,.undef,.undef,.undef,.undef,.undef,.undef,.undef,.undef,.undef,.undef,.undef,.undef,.undef,.undef,.undef,.undef,.undef,.undef,.undef,.undef,.undef,.undef,.undef,.undef,.undef,.undef,.undef,.undef,.undef,.undef,.undef,.undef,.undef],[⟨true,true,22,0,[aR .view u]⟩,⟨true,true,2,0,[aO a]⟩,⟨true,true,22,0,[aR .view v]⟩]⟩) _ ?_ ?_
     ·rintro e s' ⟨rfl,hcd,hwk⟩
      simp only [eY]
      refine aFm hcd ?_
      simp only [AIn,eY]
      refine rG hwk ?_
      have W:=hi1
      repeat' first|refine st ?_|(refine nx ?_;refine so ?_)|(refine cx ?_;refine sc (fun hc=>?_) (fun hc=>?_)<;>try exact hc.elim)|(refine lx ?_;refine sp (fun hc=>?_) (fun hc=>?_)<;>try exact hc.elim)|refine sx ?_ ?_|refine sy ?_ ?_|fail
      exact hK2 _ ⟨i+1,by omega⟩ (aY (by simp) (by simp)) (by simp only;omega)
     ·clear hK2
      have hn:=hnew _ hmem
      have em:oC v (i:Int)=jB v v.mods[i]:=by simp [oC,hg]
      have cr:=mK v (i:Int) (by omega) (by omega) (by omega)
      rw [em] at cr
      have hrs:=aJz v hg
      have hup1:bE u.policy≤aJ u:=by simp only [aJ];omega
      have cc:=jF u.policy (jB v v.mods[i]) (by omega) (by omega)
      generalize jB v v.mods[i]=rq at *
      generalize bR u.policy rq=cv at *
      generalize v.mods[i]=m1 at *
      simp only [dH,aR,bD,aO] at cr cc⊢
      by_cases hma:m1.to=a
      ·have hea:=lD a a
       rw [decide_eq_true rfl] at hea
       simp only [aO] at hea
       cases hdn:m1.done
       ·by_cases h1:cv=1
        ·have W:=And.intro hg (And.intro hma (And.intro hdn h1))
         have c0:=hea
         repeat' first|refine st ?_|(refine nx ?_;refine so ?_)|(refine cx ?_;refine sc (fun hc=>?_) (fun hc=>?_)<;>try exact hc.elim)|(refine lx ?_;refine sp (fun hc=>?_) (fun hc=>?_)<;>try exact hc.elim)|refine sx ?_ ?_|refine sy ?_ ?_|fail
         exact ⟨rfl,by rfl,aW 3 (by simp) (by simp) (by simp) (by simp)⟩
        ·have hle:¬(u.mods.length:Int) < (v.mods.length:Int):=by
          rcases hn hma with hd|hd|hd
          ·rw [hdn] at hd;cases hd
          ·exact absurd hd h1
          ·omega
         have W:=And.intro hg (And.intro hma (And.intro hdn (And.intro h1 hle)))
         have c0:=hea
         repeat' first|refine st ?_|(refine nx ?_;refine so ?_)|(refine cx ?_;refine sc (fun hc=>?_) (fun hc=>?_)<;>try exact hc.elim)|(refine lx ?_;refine sp (fun hc=>?_) (fun hc=>?_)<;>try exact hc.elim)|refine sx ?_ ?_|refine sy ?_ ?_|fail
         exact ⟨rfl,by rfl,aW 3 (by simp) (by simp) (by simp) (by simp)⟩
       ·have W:=And.intro hg (And.intro hma hdn)
        have c0:=hea
        repeat' first|refine st ?_|(refine nx ?_;refine so ?_)|(refine cx ?_;refine sc (fun hc=>?_) (fun hc=>?_)<;>try exact hc.elim)|(refine lx ?_;refine sp (fun hc=>?_) (fun hc=>?_)<;>try exact hc.elim)|refine sx ?_ ?_|refine sy ?_ ?_|fail
        exact ⟨rfl,by rfl,aW 3 (by simp) (by simp) (by simp) (by simp)⟩
      ·have hea:=lD m1.to a
       rw [decide_eq_false hma] at hea
       simp only [aO] at hea
       have W:=And.intro hg hma
       have c0:=hea
       repeat' first|refine st ?_|(refine nx ?_;refine so ?_)|(refine cx ?_;refine sc (fun hc=>?_) (fun hc=>?_)<;>try exact hc.elim)|(refine lx ?_;refine sp (fun hc=>?_) (fun hc=>?_)<;>try exact hc.elim)|refine sx ?_ ?_|refine sy ?_ ?_|fail
       exact ⟨rfl,by rfl,aW 3 (by simp) (by simp) (by simp) (by simp)⟩
    ·clear hK2
     by_cases h0:0 < i
     ·have h1:(i:Int) > 0:=by omega
      have h2:(0:Int) < (i:Int):=by omega
      have h3:IntKind.i64.wrap ((i:Int) - 1)=((i - 1:Nat):Int):=by rw [wrap64]<;>omega
      have hgp:=List.getElem?_eq_getElem hl1
      have cc:=oO (v.mods[i - 1]'hl1).to v.mods[i].to
      rw [hpw h0] at cc
      generalize v.mods[i - 1]'hl1=m0 at *
      generalize v.mods[i]=m1 at *
      simp only [aO,aR] at cc⊢
      have W:=And.intro h1 (And.intro h2 (And.intro h0 (And.intro h3 (And.intro hgp hg))))
      repeat' first|refine st ?_|(refine nx ?_;refine so ?_)|(refine cx ?_;refine sc (fun hc=>?_) (fun hc=>?_)<;>try exact hc.elim)|(refine lx ?_;refine sp (fun hc=>?_) (fun hc=>?_)<;>try exact hc.elim)|refine sx ?_ ?_|refine sy ?_ ?_|fail
      exact ⟨rfl,by rfl,aW 3 (by simp) (by simp) (by simp) (by simp)⟩
     ·obtain rfl:i=0:=by omega
      simp only [aR]
      have W:=trivial
      repeat' first|refine st ?_|(refine nx ?_;refine so ?_)|(refine cx ?_;refine sc (fun hc=>?_) (fun hc=>?_)<;>try exact hc.elim)|(refine lx ?_;refine sp (fun hc=>?_) (fun hc=>?_)<;>try exact hc.elim)|refine sx ?_ ?_|refine sy ?_ ?_|fail
      exact ⟨rfl,by rfl,aW 3 (by simp) (by simp) (by simp) (by simp)⟩
   ·have hii:¬(i:Int) < (v.mods.length:Int):=by omega
    clear hK2
    have c4:=(nE v a (by omega) (by omega)).vwas (r':= .agg (aR .view (bJ v a))) (by simp [rt])
    rw [haa] at c4
    have cev:=qR v (by omega)
    have W:=hii
    repeat' first|refine st ?_|(refine nx ?_;refine so ?_)|(refine cx ?_;refine sc (fun hc=>?_) (fun hc=>?_)<;>try exact hc.elim)|(refine lx ?_;refine sp (fun hc=>?_) (fun hc=>?_)<;>try exact hc.elim)|refine sx ?_ ?_|refine sy ?_ ?_|fail
    refine ce (cdn) ?_
    rintro _ ⟨w,tx2,rfl,hw,hs⟩
    simp only [AS.called,AS.put,aF,aC,aV,aM,aU,aK,aX,aL,List.set_cons_succ,List.set_cons_zero,List.append_nil,List.nil_append,List.cons_append]
    have hws:=hw.sz
    have hwh:=aIh w
    have c5:=(aBt w tx2 (by omega) (by omega)).vwas (r':= .agg (aR .view (kQ w tx2))) (by simp [rt])
    have c6:=(aBx w tx2 (by omega) (by omega)).vwas (r':= .agg (aR .view (kQ w tx2))) (by simp [rt])
    have hgs:=aFz w tx2
    generalize kQ w tx2=g at *
    have ceg:=qR g (by omega)
    have W:=trivial
    repeat' first|refine st ?_|(refine nx ?_;refine so ?_)|(refine cx ?_;refine sc (fun hc=>?_) (fun hc=>?_)<;>try exact hc.elim)|(refine lx ?_;refine sp (fun hc=>?_) (fun hc=>?_)<;>try exact hc.elim)|refine sx ?_ ?_|refine sy ?_ ?_|fail
    all_goals (try (refine ⟨.inr rfl,?_⟩;simp [Hands,Tryz.results3]))
  ·rcases hlaw with rfl|⟨s,hg,rfl,hn,hc⟩
   ·have W:=trivial
    repeat' first|refine st ?_|(refine nx ?_;refine so ?_)|(refine cx ?_;refine sc (fun hc=>?_) (fun hc=>?_)<;>try exact hc.elim)|(refine lx ?_;refine sp (fun hc=>?_) (fun hc=>?_)<;>try exact hc.elim)|refine sx ?_ ?_|refine sy ?_ ?_|fail
    exact ⟨rfl,by rfl,aW 0 (by simp) (by simp) (by simp) (by simp)⟩
   ·have e1:iM q (p.slots.length:Int)=gB q s:=by simp [iM,hg]
    have cr:=qL q (p.slots.length:Int) (by omega) (by omega) (by omega)
    rw [e1] at cr
    have hrs:=aHh q hg
    have cc:=jF p.policy (gB q s) (by omega) (by omega)
    generalize gB q s=rq at *
    generalize bR p.policy rq=cv at *
    generalize p.slots.length=n at *
    have hn0:(0:Int)≤(n:Int):=by omega
    have hn1:¬(q.slots.length:Int)≤(n:Int):=by omega
    simp only [dH,aR,bD] at cr cc
    by_cases h1:cv=1
    ·subst h1
     have W:=And.intro hn0 hn1
     repeat' first|refine st ?_|(refine nx ?_;refine so ?_)|(refine cx ?_;refine sc (fun hc=>?_) (fun hc=>?_)<;>try exact hc.elim)|(refine lx ?_;refine sp (fun hc=>?_) (fun hc=>?_)<;>try exact hc.elim)|refine sx ?_ ?_|refine sy ?_ ?_|fail
     exact ⟨rfl,by rfl,aW 0 (by simp) (by simp) (by simp) (by simp)⟩
    ·obtain ⟨hd,hcd⟩:=hc.resolve_left h1
     have W:=And.intro hn0 (And.intro hn1 (And.intro h1 (And.intro hg (And.intro hd hcd))))
     repeat' first|refine st ?_|(refine nx ?_;refine so ?_)|(refine cx ?_;refine sc (fun hc=>?_) (fun hc=>?_)<;>try exact hc.elim)|(refine lx ?_;refine sp (fun hc=>?_) (fun hc=>?_)<;>try exact hc.elim)|refine sx ?_ ?_|refine sy ?_ ?_|fail
     exact ⟨rfl,by rfl,aW 0 (by simp) (by simp) (by simp) (by simp)⟩
end Go.Proofs.YtejigeoigebhcaaGreat
