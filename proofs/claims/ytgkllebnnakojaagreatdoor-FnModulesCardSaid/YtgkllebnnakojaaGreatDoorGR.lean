/-
  Proved here: steps towards the statement of this claim, text GR.
  No condition beyond what each statement spells out.
-/
import Derived.Test.YtgkllebnnakojaaGreatDoorSV4
import Derived.Test.YtgkllebnnakojaaGreatDoorQS1
import Derived.Test.YtgkllebnnakojaaGreatDoorQAS0
import Derived.Test.YtgkllebnnakojaaGreatDoorIA
import Derived.Test.YtgkllebnnakojaaGreatDoorQN1
import Derived.Test.YtgkllebnnakojaaGreatDoorF8
set_option linter.all false
set_option maxRecDepth 4000
set_option maxHeartbeats 8000000
namespace Go.Proofs.YtgkllebnnakojaaGreatDoor
open Go.Aw
structure aDw (n : Nat) (p : aJ) : Prop where
  sz : bL p ≤ n
  good : tZ p
def aW5 (r:AV):Prop:=∃(p:aJ) (l:List bX),r= .tup [.agg (aL .view p),.sl .view 2 (l.map (aQ .view))]∧aDw 20000 p∧szL aW l≤24000
def xG:List Str:=[[117,116,105,108],[108,105,98],[99,100,110,47,108,105,98],[97,112,112]]
theorem aU9:∀s∈xG,s.length≤8:=by decide
theorem aKh (p:aJ) (tx:Str):bL (nQ p tx)≤bL p+36:=by
 have h1:=aKz tx p.addr.host
 have h2:=aP4 p (dG tx p.addr.host).1
 have h3:=aGm p (dG tx p.addr.host).1
 unfold nQ
 split
 ·omega
 ·simp only [bL,szL,aDm,List.length_append,List.length_cons,List.length_nil] at *
  rw [h3] at h2
  omega
theorem aMd (l:List bX) (a:aC):bS (lG l a)≤szL aW l+100:=by
 unfold lG
 split
 ·rename_i s hs
  split
  ·rename_i f hf
   have h1:=gI aW (List.mem_of_find?_eq_some hs)
   have h2:=gI tL (List.mem_of_find?_eq_some hf)
   simp only [szL,aW,tL] at *
   omega
  ·simp [bS,rJ];try omega
 ·simp [bS,rJ];try omega
theorem aRi {p:aJ} (h:p.mods=[]):tZ p:=⟨by rw [h];exact List.Pairwise.nil,fun m hm=>by rw [h] at hm;cases hm⟩
theorem aKg [aB Tryz.prog] [cO Tryz.prog]:OkC Tryz.prog 18 [] aW5:=by
 refine aX8 Tryz.mix [6,12] Tryz.func18 Tryz.ntmps18 ?_
 intro code i h hi hl
 simp only [aH]
 have W:=trivial
 repeat' first|refine st ?_|(refine nx ?_;refine so ?_)|(refine cx ?_;refine sc (fun hc=>?_) (fun hc=>?_)<;>try exact hc.elim)|(refine lx ?_;refine sp (fun hc=>?_) (fun hc=>?_)<;>try exact hc.elim)|refine sx ?_ ?_|refine sy ?_ ?_|fail
 refine cu (aFv) ?_
 rintro _ i1 h1 ⟨l,rfl,hzl⟩ hi1
 simp only [AS.drew,AS.called,aH,AS.put,aG,aF,bE,aU,bD,aS,bH,aV,List.set_cons_succ,List.set_cons_zero,List.append_nil,List.nil_append,List.cons_append]
 have W:=trivial
 repeat' first|refine st ?_|(refine nx ?_;refine so ?_)|(refine cx ?_;refine sc (fun hc=>?_) (fun hc=>?_)<;>try exact hc.elim)|(refine lx ?_;refine sp (fun hc=>?_) (fun hc=>?_)<;>try exact hc.elim)|refine sx ?_ ?_|refine sy ?_ ?_|fail
 refine cu (aIu) ?_
 rintro _ i2 h2 ⟨p,rfl,hp⟩ hi2
 simp only [AS.drew,AS.called,aH,AS.put,aG,aF,bE,aU,bD,aS,bH,aV,List.set_cons_succ,List.set_cons_zero,List.append_nil,List.nil_append,List.cons_append]
 simp only [aL]
 have W:=trivial
 repeat' first|refine st ?_|(refine nx ?_;refine so ?_)|(refine cx ?_;refine sc (fun hc=>?_) (fun hc=>?_)<;>try exact hc.elim)|(refine lx ?_;refine sp (fun hc=>?_) (fun hc=>?_)<;>try exact hc.elim)|refine sx ?_ ?_|refine sy ?_ ?_|fail
 refine cu (gT 2) ?_
 rintro _ i3 h3 ⟨x,rfl,x0,x1,x2⟩ hi3
 simp only [AS.drew,AS.called,aH,AS.put,aG,aF,bE,aU,bD,aS,bH,aV,List.set_cons_succ,List.set_cons_zero,List.append_nil,List.nil_append,List.cons_append]
 obtain ⟨n,rfl⟩:=Int.eq_ofNat_of_zero_le x0
 have hw1:IntKind.i64.wrap (1+(n:Int))=((n+1:Nat):Int):=by rw [wrap64]<;>omega
 have W:=hw1
 repeat' first|refine st ?_|(refine nx ?_;refine so ?_)|(refine cx ?_;refine sc (fun hc=>?_) (fun hc=>?_)<;>try exact hc.elim)|(refine lx ?_;refine sp (fun hc=>?_) (fun hc=>?_)<;>try exact hc.elim)|refine sx ?_ ?_|refine sy ?_ ?_|fail
 refine aT (ι:={y:Nat×aJ×Int×Int // y.1≤2∧aDw (1100 - 40 * y.1) y.2.1∧0≤y.2.2.1}) (fun t o y=>⟨[.ptr 0 2 0 0,.undef,.ptr 1 0 0 0,.undef,.sl .view 2 (l.map (aQ .view)),.ptr 2 0 0 0,.int .i64 (y.1.1:Int),.undef,.undef,.undef,.undef,.undef,.undef,.undef,.undef,.undef,.undef,.undef,.undef,.undef,.undef,.undef,.undef,.undef,.undef,.undef,.undef,.undef,.undef,.undef,.undef,.undef,.undef,.undef,.undef,.undef,.undef,.undef,.undef,.undef,.undef,.undef,.undef,.undef,.undef,.undef,.undef,.undef,.undef,.undef,.undef,.undef,.undef,.undef,.undef,.undef,.undef],[⟨true,true,3,2,[[.sl .view 1 (aP code),.int .i64 y.1.2.2.1,.int .i64 y.1.2.2.2]]⟩,⟨true,true,22,0,[[.str [],.str [],.bool false,.sl .own 1 [],.sl .own 1 [],.sl .own 1 [],.str [],.str [],.sl .own 4 [],.bool false,.sl .own 4 [],.sl .own 1 [],.sl .own 8 [],.sl .own 5 [],.sl .own 2 [],.int .i64 0,.int .i64 0,.int .i64 0,.int .i64 0,.sl .own 2 [],.sl .own 1 [],.bool false]]⟩,⟨true,true,22,0,[aL .view y.1.2.1]⟩]⟩)
  (fun y=>y.1.1) ⟨(n+1,p,i3,h3),by simp only;omega,⟨by have:=hp.sz;simp only;omega,aRi hp.mods⟩,hi3⟩ (aI (by simp) (by simp)) ?_
 clear hp
 rintro ⟨⟨k,p,i,h⟩,hk,hp,hi⟩ K1 hK1
 simp only at hk hp hi
 have hK2:=hK1
 clear hK1
 simp only
 by_cases hlt:0 < k
 ·have hk0:(k:Int) > 0:=by omega
  have hk1:IntKind.i64.wrap ((k:Int) - 1)=((k - 1:Nat):Int):=by rw [wrap64]<;>omega
  simp only [aL]
  have W:=hk0
  repeat' first|refine st ?_|(refine nx ?_;refine so ?_)|(refine cx ?_;refine sc (fun hc=>?_) (fun hc=>?_)<;>try exact hc.elim)|(refine lx ?_;refine sp (fun hc=>?_) (fun hc=>?_)<;>try exact hc.elim)|refine sx ?_ ?_|refine sy ?_ ?_|fail
  refine aNw (fun s'=>∃(q:aJ) (j g:Int),bL q≤bL p+36∧tZ q∧0≤j∧dV s' ⟨[.ptr 0 2 0 0,.undef,.ptr 1 0 0 0,.undef,.sl .view 2 (l.map (aQ .view)),.ptr 2 0 0 0,.int .i64 (k:Int),.undef,.undef,.undef,.undef,.undef,.undef,.undef,.undef,.undef,.undef,.undef,.undef,.undef,.undef,.undef,.undef,.undef,.undef,.undef,.undef,.undef,.undef,.undef,.undef,.undef,.undef,.undef,.undef,.undef,.undef,.undef,.undef,.undef,.undef,.undef,.undef,.undef,.undef,.undef,.undef,.undef,.undef,.undef,.undef,.undef,.undef,.undef,.undef,.undef,.undef],[⟨true,true,3,2,[[.sl .view 1 (aP code),.int .i64 j,.int .i64 g]]⟩,⟨true,true,22,0,[[.str [],.str [],.bool false,.sl .own 1 [],.sl .own 1 [],.sl .own 1 [],.str [],.str [],.sl .own 4 [],.bool false,.sl .own 4 [],.sl .own 1 [],.sl .own 8 [],.sl .own 5 [],.sl .own 2 [],.int .i64 0,.int .i64 0,.int .i64 0,.int .i64 0,.sl .own 2 [],.sl .own 1 [],.bool false]]⟩,⟨true,true,22,0,[aL .view q]⟩]⟩) (d:=[false,false,false,false,false,false]) rfl rfl ?_ ?_
  ·clear hK2
   refine aY4 1 rfl (by decide+kernel) (by decide+kernel) (by simp only [List.set_cons_succ,List.set_cons_zero];rfl) (by simp;rfl) ?_
   repeat' first
    |(refine aXr ?_;exact ⟨nQ p s,j2,g2,aKh p s,aQ6 s hp.good,hj2,aO 3 (by simp [aL]) (by simp) (by simp) (by simp)⟩)
    |refine aXv (by simp [Region.binds];rfl) ?_
    |refine aXo ?_ ?_
    |refine aX5 rfl (by simp only [List.set_cons_succ,List.set_cons_zero];rfl) ?_
    |refine rT ?_
    |(refine aIn 24 ?_;refine iI (i:=3) (ver:=1) (by rfl) (by rfl) ?_ (by simp [AS.frozen,iA,gU,frz,iJ,aA.frz,aA.kill,rtr,rtc,rt];rfl);refine cu (dN xG (by decide)) ?_;rintro _ j2 g2 ⟨s,hm,rfl⟩ hj2;have ca:=(aD8 p s (by have:=hp.sz;omega) (by have:=aU9 s hm;omega)).vwas (r':= .agg (aL .view (nQ p s))) (by simp [rt]);simp only [aL] at ca;simp only [AS.drew,AS.called,aH,AS.put,aG,aF,bE,aU,bD,aS,bH,aV,List.set_cons_succ,List.set_cons_zero,List.append_nil,List.nil_append,List.cons_append])
    |(refine aUo ?_;refine st ?_)
    |(refine nx ?_;refine so ?_)
  ·rintro s' ⟨q,j,g,hq,hgo,hj,hw⟩
   simp only [AIn,nE]
   refine aD0 hw ?_
   have W:=hk1
   repeat' first|refine st ?_|(refine nx ?_;refine so ?_)|(refine cx ?_;refine sc (fun hc=>?_) (fun hc=>?_)<;>try exact hc.elim)|(refine lx ?_;refine sp (fun hc=>?_) (fun hc=>?_)<;>try exact hc.elim)|refine sx ?_ ?_|refine sy ?_ ?_|fail
   refine hK2 _ ⟨(k - 1,q,j,g),by simp only;omega,⟨by have:=hp.sz;simp only;omega,hgo⟩,hj⟩ (aI (by simp) (by simp)) (by simp only;omega)
 ·have hk0:¬(k:Int) > 0:=by omega
  clear hK2
  simp only [aL]
  have W:=hk0
  repeat' first|refine st ?_|(refine nx ?_;refine so ?_)|(refine cx ?_;refine sc (fun hc=>?_) (fun hc=>?_)<;>try exact hc.elim)|(refine lx ?_;refine sp (fun hc=>?_) (fun hc=>?_)<;>try exact hc.elim)|refine sx ?_ ?_|refine sy ?_ ?_|fail
  refine cu (gT 8) ?_
  rintro _ i5 h5 ⟨x5,rfl,y0,y1,y2⟩ hi5
  simp only [AS.drew,AS.called,aH,AS.put,aG,aF,bE,aU,bD,aS,bH,aV,List.set_cons_succ,List.set_cons_zero,List.append_nil,List.nil_append,List.cons_append]
  obtain ⟨n5,rfl⟩:=Int.eq_ofNat_of_zero_le y0
  have W:=trivial
  repeat' first|refine st ?_|(refine nx ?_;refine so ?_)|(refine cx ?_;refine sc (fun hc=>?_) (fun hc=>?_)<;>try exact hc.elim)|(refine lx ?_;refine sp (fun hc=>?_) (fun hc=>?_)<;>try exact hc.elim)|refine sx ?_ ?_|refine sy ?_ ?_|fail
  refine aT (ι:={y:Nat×aJ×Int×Int // y.1≤7∧aDw (12000 - 1400 * y.1) y.2.1∧0≤y.2.2.1}) (fun t o y=>⟨[.ptr 0 2 0 0,.undef,.ptr 1 0 0 0,.undef,.sl .view 2 (l.map (aQ .view)),.ptr 2 0 0 0,.undef,.int .i64 (y.1.1:Int),.undef,.undef,.undef,.undef,.undef,.undef,.undef,.undef,.undef,.undef,.undef,.undef,.undef,.undef,.undef,.undef,.undef,.undef,.undef,.undef,.undef,.undef,.undef,.undef,.undef,.undef,.undef,.undef,.undef,.undef,.undef,.undef,.undef,.undef,.undef,.undef,.undef,.undef,.undef,.undef,.undef,.undef,.undef,.undef,.undef,.undef,.undef,.undef,.undef],[⟨true,true,3,2,[[.sl .view 1 (aP code),.int .i64 y.1.2.2.1,.int .i64 y.1.2.2.2]]⟩,⟨true,true,22,0,[[.str [],.str [],.bool false,.sl .own 1 [],.sl .own 1 [],.sl .own 1 [],.str [],.str [],.sl .own 4 [],.bool false,.sl .own 4 [],.sl .own 1 [],.sl .own 8 [],.sl .own 5 [],.sl .own 2 [],.int .i64 0,.int .i64 0,.int .i64 0,.int .i64 0,.sl .own 2 [],.sl .own 1 [],.bool false]]⟩,⟨true,true,22,0,[aL .view y.1.2.1]⟩]⟩)
   (fun y=>y.1.1) ⟨(n5,p,i5,h5),by simp only;omega,⟨by have:=hp.sz;simp only;omega,hp.good⟩,hi5⟩ (aI (by simp) (by simp)) ?_
  clear hp
  rintro ⟨⟨k,p,i,h⟩,hk,hp,hi⟩ K3 hK3
  simp only at hk hp hi
  have hK4:=hK3
  clear hK3
  simp only
  by_cases hlt:0 < k
  ·have hk0:(k:Int) > 0:=by omega
   have hk1:IntKind.i64.wrap ((k:Int) - 1)=((k - 1:Nat):Int):=by rw [wrap64]<;>omega
   have hps:=hp.sz
   have hml:p.mods.length≤16777216:=by simp only [bL,szL] at hps;omega
   have cm:=(aE4 p hml).vwas (r':= .sl .view 1 ((places oV 0 p.mods).map kM)) (by simp [rt])
   have hpm:=aEw oV p.mods 0
   generalize places oV 0 p.mods=pl at *
   simp only [aL] at cm⊢
   by_cases hpl:0 < pl.length
   ·have hpi:(pl.length:Int) > 0:=by omega
    have W:=And.intro hk0 hpl
    repeat' first|refine st ?_|(refine nx ?_;refine so ?_)|(refine cx ?_;refine sc (fun hc=>?_) (fun hc=>?_)<;>try exact hc.elim)|(refine lx ?_;refine sp (fun hc=>?_) (fun hc=>?_)<;>try exact hc.elim)|refine sx ?_ ?_|refine sy ?_ ?_|fail
    have hsel:∀n,n < pl.length→∃(q:Nat) (md:bQ),pl[n]? =some (q:Int)∧q < p.mods.length∧p.mods[q]? =some md:=by
     intro n hn
     have hg:=List.getElem?_eq_getElem hn
     have hm:=hpm _ (List.getElem_mem hn)
     obtain ⟨q,hq⟩:=Int.eq_ofNat_of_zero_le (show 0≤pl[n] by omega)
     exact ⟨q,p.mods[q]'(by omega),by rw [hg,hq],by omega,List.getElem?_eq_getElem (by omega)⟩
    obtain ⟨q0,md0,e1,e2,e3⟩:=hsel 0 hpl
    refine aBv (ι:={y:Nat×Nat×bQ×Int×Int // y.1 < pl.length∧pl[y.1]? =some (y.2.1:Int)∧y.2.1 < p.mods.length∧p.mods[y.2.1]? =some y.2.2.1∧0≤y.2.2.2.1}) (fun J y=>⟨[.ptr 0 2 0 0,.undef,.ptr 1 0 0 0,.undef,.sl .view 2 (l.map (aQ .view)),.ptr 2 0 0 0,.undef,.int .i64 (k:Int),.sl .view 1 (pl.map kM),dv J 12 (.ptr 3 0 0 0),.undef,.undef,.undef,.undef,.undef,.undef,.undef,.undef,.undef,.undef,.undef,.undef,.undef,.undef,.undef,.undef,.undef,.undef,.undef,.undef,.undef,.undef,.undef,.undef,.undef,.undef,.undef,dv J 0 (.ptr 2 0 0 13),dv J 1 (.sl .view 5 (p.mods.map dQ)),dv J 2 (.sl .view 1 (pl.map kM)),dv J 3 (.ptr 0 2 0 0),dv J 4 (.sl .view 1 (pl.map kM)),dv J 5 (.int .i64 (pl.length:Int)),dv J 6 (.int .i64 (y.1.1:Int)),dv J 7 (.vptr .view (kM (y.1.2.1:Int)) 0),dv J 8 (.int .i64 (y.1.2.1:Int)),dv J 9 (.vptr .view (dQ y.1.2.2.1) 0),dv J 10 (.vptr .view (dQ y.1.2.2.1) 0),dv J 11 (.agg (aD y.1.2.2.1.to)),.undef,.undef,.undef,.undef,.undef,.undef,.undef,.undef],[⟨true,true,3,2,[[.sl .view 1 (aP code),.int .i64 (cond (J 6) y.1.2.2.2.1 i),.int .i64 (cond (J 6) y.1.2.2.2.2 h)]]⟩,⟨true,true,22,0,[[.str [],.str [],.bool false,.sl .own 1 [],.sl .own 1 [],.sl .own 1 [],.str [],.str [],.sl .own 4 [],.bool false,.sl .own 4 [],.sl .own 1 [],.sl .own 8 [],.sl .own 5 [],.sl .own 2 [],.int .i64 0,.int .i64 0,.int .i64 0,.int .i64 0,.sl .own 2 [],.sl .own 1 [],.bool false]]⟩,⟨true,true,22,0,[aL .view p]⟩]++cond (J 12) [⟨true,true,2,0,[cond (J 13) (aD y.1.2.2.1.to) [.str [],.str []]]⟩] []⟩) (⟨(0,q0,md0,i,h),hpl,e1,e2,e3,hi⟩) (aI (by simp) (by simp [dv])) ?_ ?_
    ·simp only [invS,and_true]
     refine ⟨?_,?_,?_,?_,?_,?_,?_,?_,?_,?_,?_,?_,?_,?_⟩
     ·rintro J ⟨⟨n,q,md,j,g⟩,hn,hpn,hq,hmq,hj⟩ hC hJ hP
      simp [pre,Region.binds] at hP
      simp only [dv,hJ,hP,if_true,cond_true,cond_false,Bool.false_eq_true,if_false]
      have W:=trivial
      repeat' first|refine st ?_|(refine nx ?_;refine so ?_)|fail
      exact ⟨⟨⟨n,q,md,j,g⟩,hn,hpn,hq,hmq,hj⟩,aI (by simp [upd,hJ,hP]) (by simp [dv,upd,hJ,hP])⟩
     ·rintro J ⟨⟨n,q,md,j,g⟩,hn,hpn,hq,hmq,hj⟩ hC hJ hP
      simp [pre,Region.binds] at hP
      simp only [dv,hJ,hP,if_true,cond_true,cond_false,Bool.false_eq_true,if_false]
      have W:=trivial
      repeat' first|refine st ?_|(refine nx ?_;refine so ?_)|fail
      exact ⟨⟨⟨n,q,md,j,g⟩,hn,hpn,hq,hmq,hj⟩,aI (by simp [upd,hJ,hP]) (by simp [dv,upd,hJ,hP])⟩
     ·rintro J ⟨⟨n,q,md,j,g⟩,hn,hpn,hq,hmq,hj⟩ hC hJ hP
      simp [pre,Region.binds] at hP
      simp only [dv,hJ,hP,if_true,cond_true,cond_false,Bool.false_eq_true,if_false]
      have W:=trivial
      repeat' first|refine st ?_|(refine nx ?_;refine so ?_)|fail
      exact ⟨⟨⟨n,q,md,j,g⟩,hn,hpn,hq,hmq,hj⟩,aI (by simp [upd,hJ,hP]) (by simp [dv,upd,hJ,hP])⟩
     ·rintro J ⟨⟨n,q,md,j,g⟩,hn,hpn,hq,hmq,hj⟩ hC hJ hP
      simp [pre,Region.binds] at hP
      simp only [dv,hJ,hP,if_true,cond_true,cond_false,Bool.false_eq_true,if_false]
      have W:=trivial
      repeat' first|refine st ?_|(refine nx ?_;refine so ?_)|fail
      exact ⟨⟨⟨n,q,md,j,g⟩,hn,hpn,hq,hmq,hj⟩,aI (by simp [upd,hJ,hP]) (by simp [dv,upd,hJ,hP])⟩
     ·rintro J ⟨⟨n,q,md,j,g⟩,hn,hpn,hq,hmq,hj⟩ hC hJ hP
      simp [pre,Region.binds] at hP
      simp only [dv,hJ,hP,if_true,cond_true,cond_false,Bool.false_eq_true,if_false]
      have W:=trivial
      repeat' first|refine st ?_|(refine nx ?_;refine so ?_)|fail
      exact ⟨⟨⟨n,q,md,j,g⟩,hn,hpn,hq,hmq,hj⟩,aI (by simp [upd,hJ,hP]) (by simp [dv,upd,hJ,hP])⟩
     ·rintro J ⟨⟨n,q,md,j,g⟩,hn,hpn,hq,hmq,hj⟩ hC hJ hP
      simp [pre,Region.binds] at hP
      simp only [dv,hJ,hP,if_true,cond_true,cond_false,Bool.false_eq_true,if_false]
      have W:=trivial
      repeat' first|refine st ?_|(refine nx ?_;refine so ?_)|fail
      exact ⟨⟨⟨n,q,md,j,g⟩,hn,hpn,hq,hmq,hj⟩,aI (by simp [upd,hJ,hP]) (by simp [dv,upd,hJ,hP])⟩
     ·rintro J ⟨⟨n,q,md,j,g⟩,hn,hpn,hq,hmq,hj⟩ hC hJ hP
      simp [pre,Region.binds] at hP
      have hF7:J 7=false:=lD hC hJ 7 rfl (by simp [pre,Region.binds])
      have hF8:J 8=false:=lD hC hF7 8 rfl (by simp [pre,Region.binds])
      have hF9:J 9=false:=lD hC hF8 9 rfl (by simp [pre,Region.binds])
      have hF10:J 10=false:=lD hC hF9 10 rfl (by simp [pre,Region.binds])
      have hF11:J 11=false:=lD hC hF10 11 rfl (by simp [pre,Region.binds])
      have hF13:J 13=false:=lD hC hJ 13 rfl (by simp [pre,Region.binds])
      simp only [dv,hJ,hP,if_true,cond_true,cond_false,hF7,hF8,hF9,hF10,hF11,hF13,Bool.false_eq_true,if_false]
      refine aIn 43 ?_
      refine cu (gT (pl.length:Int)) ?_
      rintro _ j2 g2 ⟨x,rfl,x0,_,x2⟩ hj2
      simp only [AS.drew,AS.called,aH,AS.put,aG,aF,bE,aU,bD,aS,bH,aV,List.set_cons_succ,List.set_cons_zero,List.append_nil,List.nil_append,List.cons_append]
      obtain ⟨nx,rfl⟩:=Int.eq_ofNat_of_zero_le x0
      have hnl:(nx:Int) < (pl.length:Int):=x2 (by omega)
      obtain ⟨q2,md2,e4,e5,e6⟩:=hsel nx (by omega)
      refine rT ?_
      exact ⟨⟨(nx,q2,md2,j2,g2),by simp only;omega,e4,e5,e6,hj2⟩,aI (by simp [upd,hJ,hP,hF7,hF8,hF9,hF10,hF11,hF13]) (by simp [dv,upd,hJ,hP,hF7,hF8,hF9,hF10,hF11,hF13])⟩
     ·rintro J ⟨⟨n,q,md,j,g⟩,hn,hpn,hq,hmq,hj⟩ hC hJ hP
      simp [pre,Region.binds] at hP
      simp only at hn hpn
      have hn0:(0:Int)≤(n:Int):=by omega
      have hnl:(n:Int) < (pl.length:Int):=by omega
      have hpn':pl[n]? =some (q:Int):=hpn
      simp only [dv,hJ,hP,if_true,cond_true,cond_false,Bool.false_eq_true,if_false]
      have W:=And.intro hn0 (And.intro hnl hpn')
      repeat' first|refine st ?_|(refine nx ?_;refine so ?_)|fail
      exact ⟨⟨⟨n,q,md,j,g⟩,hn,hpn,hq,hmq,hj⟩,aI (by simp [upd,hJ,hP]) (by simp [dv,upd,hJ,hP])⟩
     ·rintro J ⟨⟨n,q,md,j,g⟩,hn,hpn,hq,hmq,hj⟩ hC hJ hP
      simp [pre,Region.binds] at hP
      simp only [dv,hJ,hP,if_true,cond_true,cond_false,Bool.false_eq_true,if_false]
      have W:=trivial
      repeat' first|refine st ?_|(refine nx ?_;refine so ?_)|fail
      exact ⟨⟨⟨n,q,md,j,g⟩,hn,hpn,hq,hmq,hj⟩,aI (by simp [upd,hJ,hP]) (by simp [dv,upd,hJ,hP])⟩
     ·rintro J ⟨⟨n,q,md,j,g⟩,hn,hpn,hq,hmq,hj⟩ hC hJ hP
      simp [pre,Region.binds] at hP
      simp only at hq hmq
      have hq0:(0:Int)≤(q:Int):=by omega
      have hql:(q:Int) < (p.mods.length:Int):=by omega
      have hmq':p.mods[q]? =some md:=hmq
      simp only [dv,hJ,hP,if_true,cond_true,cond_false,Bool.false_eq_true,if_false]
      have W:=And.intro hq0 (And.intro hql hmq')
      repeat' first|refine st ?_|(refine nx ?_;refine so ?_)|fail
      exact ⟨⟨⟨n,q,md,j,g⟩,hn,hpn,hq,hmq,hj⟩,aI (by simp [upd,hJ,hP]) (by simp [dv,upd,hJ,hP])⟩
     ·rintro J ⟨⟨n,q,md,j,g⟩,hn,hpn,hq,hmq,hj⟩ hC hJ hP
      simp [pre,Region.binds] at hP
      simp only [dv,hJ,hP,if_true,cond_true,cond_false,Bool.false_eq_true,if_false]
      have W:=trivial
      repeat' first|refine st ?_|(refine nx ?_;refine so ?_)|fail
      exact ⟨⟨⟨n,q,md,j,g⟩,hn,hpn,hq,hmq,hj⟩,aI (by simp [upd,hJ,hP]) (by simp [dv,upd,hJ,hP])⟩
     ·rintro J ⟨⟨n,q,md,j,g⟩,hn,hpn,hq,hmq,hj⟩ hC hJ hP
      simp [pre,Region.binds] at hP
      simp only [dv,hJ,hP,if_true,cond_true,cond_false,Bool.false_eq_true,if_false]
      have W:=trivial
      repeat' first|refine st ?_|(refine nx ?_;refine so ?_)|fail
      exact ⟨⟨⟨n,q,md,j,g⟩,hn,hpn,hq,hmq,hj⟩,aI (by simp [upd,hJ,hP]) (by simp [dv,upd,hJ,hP])⟩
     ·rintro J ⟨⟨n,q,md,j,g⟩,hn,hpn,hq,hmq,hj⟩ hC hJ hP
      simp [pre,Region.binds] at hP
      have hF13:J 13=false:=lD hC hJ 13 rfl (by simp [pre,Region.binds])
      simp only [dv,hJ,hP,if_true,cond_true,cond_false,hF13,Bool.false_eq_true,if_false]
      have W:=trivial
      repeat' first|refine st ?_|(refine nx ?_;refine so ?_)|fail
      exact ⟨⟨⟨n,q,md,j,g⟩,hn,hpn,hq,hmq,hj⟩,aI (by simp [upd,hJ,hP,hF13]) (by simp [dv,upd,hJ,hP,hF13])⟩
     ·rintro J ⟨⟨n,q,md,j,g⟩,hn,hpn,hq,hmq,hj⟩ hC hJ hP
      simp [pre,Region.binds] at hP
      simp only [dv,hJ,hP,if_true,cond_true,cond_false,Bool.false_eq_true,if_false]
      have W:=trivial
      repeat' first|refine st ?_|(refine nx ?_;refine so ?_)|fail
      exact ⟨⟨⟨n,q,md,j,g⟩,hn,hpn,hq,hmq,hj⟩,aI (by simp [upd,hJ,hP]) (by simp [dv,upd,hJ,hP])⟩
    ·rintro J ⟨⟨n,q,md,j,g⟩,hn,hpn,hq,hmq,hj⟩ hJ
     have hJs:J 0=true∧J 1=true∧J 2=true∧J 3=true∧J 4=true∧J 5=true∧J 6=true∧J 7=true∧J 8=true∧J 9=true∧J 10=true∧J 11=true∧J 12=true∧J 13=true:=⟨hJ 0 (by decide),hJ 1 (by decide),hJ 2 (by decide),hJ 3 (by decide),hJ 4 (by decide),hJ 5 (by decide),hJ 6 (by decide),hJ 7 (by decide),hJ 8 (by decide),hJ 9 (by decide),hJ 10 (by decide),hJ 11 (by decide),hJ 12 (by decide),hJ 13 (by decide)⟩
     simp only [dv,hJs,if_true,cond_true,cond_false,List.cons_append,List.nil_append,List.append_nil]
     clear hJs hJ J
     simp only at hmq hj
     have hmz:aK md.to≤20000:=by
      have h7:=gI bJ (List.mem_of_getElem? hmq)
      simp only [bL,szL,bJ] at hps h7;omega
     have has:=aMd l md.to
     have ca:=aEm l md.to (by omega)
     have cf:=(aCb p md.to (lG l md.to) (by omega) (by omega)).vwas (r':= .agg (aL .view (fE p md.to (lG l md.to)))) (by simp [rt])
     have hfz:=aQ4 p md.to (lG l md.to)
     have hfg:=aWk md.to (lG l md.to) hp.good
     generalize fE p md.to (lG l md.to)=q2 at *
     generalize lG l md.to=x at *
     simp only [aL,aD,bU] at ca cf⊢
     clear cm hsel hpm
     have W:=hk1
     repeat' first|refine st ?_|(refine nx ?_;refine so ?_)|(refine cx ?_;refine sc (fun hc=>?_) (fun hc=>?_)<;>try exact hc.elim)|(refine lx ?_;refine sp (fun hc=>?_) (fun hc=>?_)<;>try exact hc.elim)|refine sx ?_ ?_|refine sy ?_ ?_|fail
     refine hK4 _ ⟨(k - 1,q2,j,g),by simp only;omega,⟨by simp only;omega,hfg⟩,hj⟩ (aO 3 (by simp [aL]) (by simp) (by simp) (by simp)) (by simp only;omega)
   ·have hpi:¬(pl.length:Int) > 0:=by omega
    have W:=And.intro hk0 (And.intro hpl hk1)
    repeat' first|refine st ?_|(refine nx ?_;refine so ?_)|(refine cx ?_;refine sc (fun hc=>?_) (fun hc=>?_)<;>try exact hc.elim)|(refine lx ?_;refine sp (fun hc=>?_) (fun hc=>?_)<;>try exact hc.elim)|refine sx ?_ ?_|refine sy ?_ ?_|fail
    refine hK4 _ ⟨(k - 1,p,i,h),by simp only;omega,⟨by simp only;omega,hp.good⟩,hi⟩ (aO 3 (by simp [aL]) (by simp) (by simp) (by simp)) (by simp only;omega)
  ·have hk0:¬(k:Int) > 0:=by omega
   clear hK4
   simp only [aL]
   have W:=hk0
   repeat' first|refine st ?_|(refine nx ?_;refine so ?_)|(refine cx ?_;refine sc (fun hc=>?_) (fun hc=>?_)<;>try exact hc.elim)|(refine lx ?_;refine sp (fun hc=>?_) (fun hc=>?_)<;>try exact hc.elim)|refine sx ?_ ?_|refine sy ?_ ?_|fail
   refine ⟨.inr rfl,gD (by simp [Tryz.results18];rfl) (by rfl) (by rfl) (by omega) (by simp) (by simp) ?_⟩
   simp only [single,res]
   exact ⟨p,l,by simp [aL],⟨by have:=hp.sz;omega,hp.good⟩,hzl⟩
end Go.Proofs.YtgkllebnnakojaaGreatDoor
