/-
  Proved here: steps towards the statement of this claim, text DRB.
  No condition beyond what each statement spells out.
-/
import Derived.Test.YtkidoegojckmiaaGreatDoorADR9
import Derived.Test.YtkidoegojckmiaaGreatDoorAQJ6
import Derived.Test.YtkidoegojckmiaaGreatDoorAQY2
set_option linter.all false
set_option maxRecDepth 4000
set_option maxHeartbeats 4000000
namespace Go.Proofs.YtkidoegojckmiaaGreatDoor
open Go.Aw
def aP4:List Str:=([[],[60,112,62,104,105,60,47,112,62],[60,108,105,110,107,32,104,114,101,102,61,115,116,121,108,101,62]]:List Str)
def aEe (u:Str):List Str:=([[60,115,99,114,105,112,116,32,115,114,99,61,97,112,112,62,60,47,115,99,114,105,112,116,62],[60,115,99,114,105,112,116,62]++u++[60,47,115,99,114,105,112,116,62],[60,115,99,114,105,112,116,32,115,114,99,61,99,100,110,47,108,105,98,62,60,47,115,99,114,105,112,116,62],[60,115,99,114,105,112,116,32,115,114,99,61,117,116,105,108,32,107,105,110,100,61,109,111,100,117,108,101,62,60,47,115,99,114,105,112,116,62],[60,115,99,114,105,112,116,32,115,114,99,61,108,105,98,32,107,105,110,100,61,100,101,102,101,114,62,60,47,115,99,114,105,112,116,62],[60,105,109,103,32,115,114,99,61,108,111,103,111,62],[60,108,105,110,107,32,104,114,101,102,61,99,100,110,47,115,116,121,108,101,62],[60,112,62,120,60,47,112,62],[60,98,62],[60,115,99,114,105,112,116,32,110,111,110,99,101,61,110,55,62,115,97,121,32,110,60,47,115,99,114,105,112,116,62],[60,115,99,114,105,112,116,32,115,114,99,61,101,118,105,108,47,97,112,112,62,60,47,115,99,114,105,112,116,62],[116,101,120,116]]:List Str)
def aPh:List Str:=([[],[],[60,112,62,101,110,100,60,47,112,62],[60,112]]:List Str)
theorem aQd {u:Str} (h:u.length≤48):∀s∈aEe u,s.length≤80:=by
 simp only [aEe,List.forall_mem_cons,List.length_append,List.length_cons,List.length_nil,List.not_mem_nil,false_implies,implies_true,and_true]
 omega
theorem aHb [aB Tryz.prog] [bV Tryz.prog]:OkC Tryz.prog 118 [] (aAm 600):=by
 refine lD Tryz.mix Tryz.func118 Tryz.ntmps118 ?_
 intro code i h hi hl
 simp only [aD]
 have W:=trivial
 repeat' first|refine st ?_|(refine nx ?_;refine so ?_)|(refine cx ?_;refine sc (fun hc=>?_) (fun hc=>?_)<;>try exact hc.elim)|(refine lx ?_;refine sp (fun hc=>?_) (fun hc=>?_)<;>try exact hc.elim)|refine sx ?_ ?_|refine sy ?_ ?_|fail
 refine eD (i:=1) (ver:=1) (by rfl) (by rfl) ?_ (by simp [AS.frozen,eQ,fD,frz,fH,aA.frz,aA.kill,rtr,rtc,rt];rfl)
 refine cu (cO aP4 (by decide)) ?_
 rintro _ i1 h1 ⟨s0,hm0,rfl⟩ hi1
 simp only [AS.drew,AS.called,aD,AS.put,aF,aC,aX,aP,aV,aN,aY,aQ,List.set_cons_succ,List.set_cons_zero,List.append_nil,List.nil_append,List.cons_append]
 have hs0:=(by decide:∀s∈aP4,s.length≤17) s0 hm0
 have W:=trivial
 repeat' first|refine st ?_|(refine nx ?_;refine so ?_)|(refine cx ?_;refine sc (fun hc=>?_) (fun hc=>?_)<;>try exact hc.elim)|(refine lx ?_;refine sp (fun hc=>?_) (fun hc=>?_)<;>try exact hc.elim)|refine sx ?_ ?_|refine sy ?_ ?_|fail
 refine cu (dF 6) ?_
 rintro _ i2 h2 ⟨x,rfl,x0,x1,x2⟩ hi2
 simp only [AS.drew,AS.called,aD,AS.put,aF,aC,aX,aP,aV,aN,aY,aQ,List.set_cons_succ,List.set_cons_zero,List.append_nil,List.nil_append,List.cons_append]
 obtain ⟨n,rfl⟩:=Int.eq_ofNat_of_zero_le x0
 have hn:n≤5:=by omega
 have W:=trivial
 repeat' first|refine st ?_|(refine nx ?_;refine so ?_)|(refine cx ?_;refine sc (fun hc=>?_) (fun hc=>?_)<;>try exact hc.elim)|(refine lx ?_;refine sp (fun hc=>?_) (fun hc=>?_)<;>try exact hc.elim)|refine sx ?_ ?_|refine sy ?_ ?_|fail
 refine aJ (ι:={x:Nat×Str×Int×Int // x.1≤5∧x.2.1.length+80 * x.1≤420∧0≤x.2.2.1}) (fun t o y=>⟨aL t [(3,.str y.1.2.1),(4,.int .i64 (y.1.1:Int))],[⟨true,true,3,2,[[.sl .view 1 (aM code),.int .i64 y.1.2.2.1,.int .i64 y.1.2.2.2]]⟩]⟩)
  (fun y=>y.1.1) ⟨(n,s0,i2,h2),hn,by simp only;omega,hi2⟩ (aG 1 (by simp) (by simp) (by simp) (by simp)) ?_
 rintro ⟨⟨k,s,j,g⟩,hk,hs,hj⟩ K1 hK1
 simp only at hk hs hj
 have hK2:=hK1
 simp only [aL,List.set_cons_succ,List.set_cons_zero] at hK1⊢
 clear hK1
 by_cases h0:0 < k
 ·have hk0:(k:Int) > 0:=by omega
  have hk1:IntKind.i64.wrap ((k:Int) - 1)=((k - 1:Nat):Int):=by rw [wrap64]<;>omega
  have W:=hk0
  repeat' first|refine st ?_|(refine nx ?_;refine so ?_)|(refine cx ?_;refine sc (fun hc=>?_) (fun hc=>?_)<;>try exact hc.elim)|(refine lx ?_;refine sp (fun hc=>?_) (fun hc=>?_)<;>try exact hc.elim)|refine sx ?_ ?_|refine sy ?_ ?_|fail
  refine cu (xN 2 (by omega) (by omega)) ?_
  rintro _ j1 g1 ⟨u,rfl,hu⟩ hj1
  simp only [AS.drew,AS.called,aD,AS.put,aF,aC,aX,aP,aV,aN,aY,aQ,List.set_cons_succ,List.set_cons_zero,List.append_nil,List.nil_append,List.cons_append]
  have hb:=aQd (u:=u) (by omega)
  have hu1:u.length+8≤6200:=by omega
  have hu2:8+u.length≤6200:=by omega
  have hu3:8+u.length+9≤6200:=by omega
  have W:=And.intro hu1 (And.intro hu2 hu3)
  repeat' first|refine st ?_|(refine nx ?_;refine so ?_)|(refine cx ?_;refine sc (fun hc=>?_) (fun hc=>?_)<;>try exact hc.elim)|(refine lx ?_;refine sp (fun hc=>?_) (fun hc=>?_)<;>try exact hc.elim)|refine sx ?_ ?_|refine sy ?_ ?_|fail
  refine eD (i:=1) (ver:=1) (by rfl) (by rfl) ?_ (by simp [AS.frozen,eQ,fD,frz,fH,aA.frz,aA.kill,rtr,rtc,rt];rfl)
  refine cu (cO (aEe u) (by simp [aEe])) ?_
  rintro _ j2 g2 ⟨q,hm2,rfl⟩ hj2
  simp only [AS.drew,AS.called,aD,AS.put,aF,aC,aX,aP,aV,aN,aY,aQ,List.set_cons_succ,List.set_cons_zero,List.append_nil,List.nil_append,List.cons_append]
  have hq:=hb q hm2
  have hlq:s.length+q.length≤6200:=by omega
  have W:=And.intro hk1 hlq
  repeat' first|refine st ?_|(refine nx ?_;refine so ?_)|(refine cx ?_;refine sc (fun hc=>?_) (fun hc=>?_)<;>try exact hc.elim)|(refine lx ?_;refine sp (fun hc=>?_) (fun hc=>?_)<;>try exact hc.elim)|refine sx ?_ ?_|refine sy ?_ ?_|fail
  refine hK2 _ ⟨(k - 1,s++q,j2,g2),by simp only;omega,by simp;omega,hj2⟩ ?_ (by simp only;omega)
  exact aG 1 (by simp) (by simp) (by simp) (by simp)
 ·have hk0:¬(k:Int) > 0:=by omega
  have W:=hk0
  repeat' first|refine st ?_|(refine nx ?_;refine so ?_)|(refine cx ?_;refine sc (fun hc=>?_) (fun hc=>?_)<;>try exact hc.elim)|(refine lx ?_;refine sp (fun hc=>?_) (fun hc=>?_)<;>try exact hc.elim)|refine sx ?_ ?_|refine sy ?_ ?_|fail
  refine eD (i:=1) (ver:=1) (by rfl) (by rfl) ?_ (by simp [AS.frozen,eQ,fD,frz,fH,aA.frz,aA.kill,rtr,rtc,rt];rfl)
  refine cu (cO aPh (by decide)) ?_
  rintro _ j2 g2 ⟨q,hm2,rfl⟩ hj2
  simp only [AS.drew,AS.called,aD,AS.put,aF,aC,aX,aP,aV,aN,aY,aQ,List.set_cons_succ,List.set_cons_zero,List.append_nil,List.nil_append,List.cons_append]
  have hq:=(by decide:∀s∈aPh,s.length≤10) q hm2
  have hlq:s.length+q.length≤6200:=by omega
  have W:=hlq
  repeat' first|refine st ?_|(refine nx ?_;refine so ?_)|(refine cx ?_;refine sc (fun hc=>?_) (fun hc=>?_)<;>try exact hc.elim)|(refine lx ?_;refine sp (fun hc=>?_) (fun hc=>?_)<;>try exact hc.elim)|refine sx ?_ ?_|refine sy ?_ ?_|fail
  refine ⟨.inr rfl,dS (by simp [Tryz.results118];rfl) (by rfl) (by rfl) (by omega) (by simp) (by simp) ?_⟩
  simp only [single,res]
  exact ⟨_,rfl,by simp;omega⟩
structure aCu (n : Nat) (p : aZ) : Prop where
  sz : bK p ≤ n
  mods : p.mods = []
  slots : p.slots = []
  ents : p.entries = []
def aWq (n:Nat) (r:AV):Prop:=∃p:aZ,r= .agg (aU .view p)∧aCu n p
def aVz (n:Nat) (r:AV):Prop:=∃p:aZ,r= .agg (aU .own p)∧aCu n p
theorem aLd (a:bC) (x:aR):bK (nQ a x).1≤eH a+7 * bE x+100:=by
 unfold nQ
 have hp:bB (dC x.policy).1≤7 * x.policy.length+3:=by
  unfold dC jW
  split
  ·simp [iK,bB,szL,bD]
  ·split
   ·simp [iK,bB,szL,bD]
   ·rename_i h3
    split
    ·exact yN gB aFy h3
    ·simp [iK,bB,szL,bD]
 split
 ·simp only [bK,aDs,iQ,szL,jP,nI,qJ,bE,bD,List.length_cons,List.length_nil] at *
  omega
 ·simp only [bK,sS,iK,bB,eH,iQ,szL,jP,bD,List.length_nil]
  omega
theorem aLr (a:bC) (x:aR) (n:Nat) (h:eH a+7 * bE x+100≤n):aCu n (nQ a x).1:=by
 refine ⟨Nat.le_trans (aLd a x) h,?_,?_,?_⟩<;>(unfold nQ;split<;>rfl)
theorem aJb [aB Tryz.prog] [bV Tryz.prog]:OkC Tryz.prog 117 [] (aWq 1000):=by
 refine lD Tryz.mix Tryz.func117 Tryz.ntmps117 ?_
 intro code i h hi hl
 simp only [aD]
 have W:=trivial
 repeat' first|refine st ?_|(refine nx ?_;refine so ?_)|(refine cx ?_;refine sc (fun hc=>?_) (fun hc=>?_)<;>try exact hc.elim)|(refine lx ?_;refine sp (fun hc=>?_) (fun hc=>?_)<;>try exact hc.elim)|refine sx ?_ ?_|refine sy ?_ ?_|fail
 refine cu (xB) ?_
 rintro _ i5 h5 ⟨p,rfl,hp⟩ hi5
 simp only [AS.drew,AS.called,aD,AS.put,aF,aC,aX,aP,aV,aN,aY,aQ,List.set_cons_succ,List.set_cons_zero,List.append_nil,List.nil_append,List.cons_append]
 have hf:=mU p (by omega)
 have hfl:=aMy p
 generalize cB p=fp at *
 have c0:=aFa ⟨[104,111,109,101],[105,110,100,101,120]⟩ ⟨200,1,[],0,false,fp⟩ (by decide) (by simp only [bE,List.length_nil];omega)
 have hn:=aLr ⟨[104,111,109,101],[105,110,100,101,120]⟩ ⟨200,1,[],0,false,fp⟩ 1000 (by simp only [eH,bE,List.length_nil,List.length_cons];omega)
 generalize nQ ⟨[104,111,109,101],[105,110,100,101,120]⟩ ⟨200,1,[],0,false,fp⟩=z at *
 simp only [aS] at hf⊢
 simp only [bF,bA] at c0
 have W:=trivial
 repeat' first|refine st ?_|(refine nx ?_;refine so ?_)|(refine cx ?_;refine sc (fun hc=>?_) (fun hc=>?_)<;>try exact hc.elim)|(refine lx ?_;refine sp (fun hc=>?_) (fun hc=>?_)<;>try exact hc.elim)|refine sx ?_ ?_|refine sy ?_ ?_|fail
 refine ⟨.inr rfl,dS (by simp [Tryz.results117];rfl) (by rfl) (by rfl) (by omega) (by simp) (by simp) ?_⟩
 simp only [single,res]
 exact ⟨z.1,rfl,hn⟩
theorem aOm {p:aZ} {n:Nat} (s:Str) (m:Nat) (h:aCu n p) (hm:2 * n+2 * s.length≤m):aCu m (mD p s):=by
 refine ⟨Nat.le_trans (aO6 p s) (by have:=h.sz;omega),?_,?_,?_⟩<;>(unfold mD;split<;>first|exact h.mods|exact h.slots|exact h.ents)
theorem aTi {p:aZ} {n:Nat} (m:Nat) (h:aCu n p) (hm:n+1≤m):aCu m (qY p):=by
 refine ⟨Nat.le_trans (aTl p) (by have:=h.sz;omega),?_,?_,?_⟩<;>(unfold qY;split<;>first|exact h.mods|exact h.slots|exact h.ents)
theorem aL1 [aB Tryz.prog] [bV Tryz.prog]:OkC Tryz.prog 88 [] (aVz 4000):=by
 refine lD Tryz.mix Tryz.func88 Tryz.ntmps88 ?_
 intro code i h hi hl
 simp only [aD]
 have W:=trivial
 repeat' first|refine st ?_|(refine nx ?_;refine so ?_)|(refine cx ?_;refine sc (fun hc=>?_) (fun hc=>?_)<;>try exact hc.elim)|(refine lx ?_;refine sp (fun hc=>?_) (fun hc=>?_)<;>try exact hc.elim)|refine sx ?_ ?_|refine sy ?_ ?_|fail
 refine cu (aJb) ?_
 rintro _ i1 h1 ⟨p,rfl,hp⟩ hi1
 simp only [AS.drew,AS.called,aD,AS.put,aF,aC,aX,aP,aV,aN,aY,aQ,List.set_cons_succ,List.set_cons_zero,List.append_nil,List.nil_append,List.cons_append]
 have W:=trivial
 repeat' first|refine st ?_|(refine nx ?_;refine so ?_)|(refine cx ?_;refine sc (fun hc=>?_) (fun hc=>?_)<;>try exact hc.elim)|(refine lx ?_;refine sp (fun hc=>?_) (fun hc=>?_)<;>try exact hc.elim)|refine sx ?_ ?_|refine sy ?_ ?_|fail
 refine cu (aHb) ?_
 rintro _ i2 h2 ⟨s,rfl,hs⟩ hi2
 simp only [AS.drew,AS.called,aD,AS.put,aF,aC,aX,aP,aV,aN,aY,aQ,List.set_cons_succ,List.set_cons_zero,List.append_nil,List.nil_append,List.cons_append]
 have ca:=aBq p s (by have:=hp.sz;omega) (by omega)
 have hn:=aOm s 3200 hp (by omega)
 generalize mD p s=q at *
 have ce:=aFk q (by have:=hn.sz;omega)
 have hne:=aTi 4000 hn (by omega)
 generalize qY q=z at *
 simp only [aU] at ca ce⊢
 have W:=trivial
 repeat' first|refine st ?_|(refine nx ?_;refine so ?_)|(refine cx ?_;refine sc (fun hc=>?_) (fun hc=>?_)<;>try exact hc.elim)|(refine lx ?_;refine sp (fun hc=>?_) (fun hc=>?_)<;>try exact hc.elim)|refine sx ?_ ?_|refine sy ?_ ?_|fail
 refine cu (iD 3) ?_
 rintro _ i3 h3 ⟨b,rfl⟩ hi3
 simp only [AS.drew,AS.called,aD,AS.put,aF,aC,aX,aP,aV,aN,aY,aQ,List.set_cons_succ,List.set_cons_zero,List.append_nil,List.nil_append,List.cons_append]
 cases b
 ·have W:=trivial
  repeat' first|refine st ?_|(refine nx ?_;refine so ?_)|(refine cx ?_;refine sc (fun hc=>?_) (fun hc=>?_)<;>try exact hc.elim)|(refine lx ?_;refine sp (fun hc=>?_) (fun hc=>?_)<;>try exact hc.elim)|refine sx ?_ ?_|refine sy ?_ ?_|fail
  refine ⟨.inr rfl,dS (by simp [Tryz.results88];rfl) (by rfl) (by rfl) (by omega) (by simp) (by simp) ?_⟩
  simp only [single,res]
  exact ⟨z,rfl,hne⟩
 ·have W:=trivial
  repeat' first|refine st ?_|(refine nx ?_;refine so ?_)|(refine cx ?_;refine sc (fun hc=>?_) (fun hc=>?_)<;>try exact hc.elim)|(refine lx ?_;refine sp (fun hc=>?_) (fun hc=>?_)<;>try exact hc.elim)|refine sx ?_ ?_|refine sy ?_ ?_|fail
  refine ⟨.inr rfl,dS (by simp [Tryz.results88];rfl) (by rfl) (by rfl) (by omega) (by simp) (by simp) ?_⟩
  simp only [single,res]
  exact ⟨q,rfl,⟨Nat.le_trans hn.sz (by omega),hn.mods,hn.slots,hn.ents⟩⟩
end Go.Proofs.YtkidoegojckmiaaGreatDoor
