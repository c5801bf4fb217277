/-
  Proved here: steps towards the statement of this claim, text DRB.
  No condition beyond what each statement spells out.
-/
import Derived.Test.YtejigeoigebhcaaGreatAQDR9
import Derived.Test.YtejigeoigebhcaaGreatAQJ5
import Derived.Test.YtejigeoigebhcaaGreatAQY3
set_option linter.all false
set_option maxRecDepth 4000
set_option maxHeartbeats 4000000
namespace Go.Proofs.YtejigeoigebhcaaGreat
open Go.Aw
def aKb:List Str:=([[],[60,112,62,104,105,60,47,112,62],[60,108,105,110,107,32,104,114,101,102,61,115,116,121,108,101,62]]:List Str)
def aBv (u:Str):List Str:=([[60,115,99,114,105,112,116,32,115,114,99,61,97,112,112,62,60,47,115,99,114,105,112,116,62],[60,115,99,114,105,112,116,62]++u++[60,47,115,99,114,105,112,116,62],[60,115,99,114,105,112,116,32,115,114,99,61,99,100,110,47,108,105,98,62,60,47,115,99,114,105,112,116,62],[60,115,99,114,105,112,116,32,115,114,99,61,117,116,105,108,32,107,105,110,100,61,109,111,100,117,108,101,62,60,47,115,99,114,105,112,116,62],[60,115,99,114,105,112,116,32,115,114,99,61,108,105,98,32,107,105,110,100,61,100,101,102,101,114,62,60,47,115,99,114,105,112,116,62],[60,105,109,103,32,115,114,99,61,108,111,103,111,62],[60,108,105,110,107,32,104,114,101,102,61,99,100,110,47,115,116,121,108,101,62],[60,112,62,120,60,47,112,62],[60,98,62],[60,115,99,114,105,112,116,32,110,111,110,99,101,61,110,55,62,115,97,121,32,110,60,47,115,99,114,105,112,116,62],[60,115,99,114,105,112,116,32,115,114,99,61,101,118,105,108,47,97,112,112,62,60,47,115,99,114,105,112,116,62],[116,101,120,116]]:List Str)
def aKm:List Str:=([[],[],[60,112,62,101,110,100,60,47,112,62],[60,112]]:List Str)
theorem aLg {u:Str} (h:u.length≤48):∀s∈aBv u,s.length≤80:=by
 simp only [aBv,List.forall_mem_cons,List.length_append,List.length_cons,List.length_nil,List.not_mem_nil,false_implies,implies_true,and_true]
 omega
theorem aD9 [aB Tryz.prog]:OkC Tryz.prog 79 [] (xK 600):=by
 refine kV Tryz.mix Tryz.func79 Tryz.ntmps79 ?_
 intro code i h hi hl
 simp only [aD]
 have W:=trivial
 repeat' first|refine st ?_|(refine nx ?_;refine so ?_)|(refine cx ?_;refine sc (fun hc=>?_) (fun hc=>?_)<;>try exact hc.elim)|(refine lx ?_;refine sp (fun hc=>?_) (fun hc=>?_)<;>try exact hc.elim)|refine sx ?_ ?_|refine sy ?_ ?_|fail
 refine dQ (i:=1) (ver:=1) (by rfl) (by rfl) ?_ (by simp [AS.frozen,dV,dY,frz,eO,aA.frz,aA.kill,rtr,rtc,rt];rfl)
 refine cu (bM aKb (by decide)) ?_
 rintro _ i1 h1 ⟨s0,hm0,rfl⟩ hi1
 simp only [AS.drew,AS.called,aD,AS.put,aF,aC,aV,aM,aU,aK,aX,aL,List.set_cons_succ,List.set_cons_zero,List.append_nil,List.nil_append,List.cons_append]
 have hs0:=(by decide:∀s∈aKb,s.length≤17) s0 hm0
 have W:=trivial
 repeat' first|refine st ?_|(refine nx ?_;refine so ?_)|(refine cx ?_;refine sc (fun hc=>?_) (fun hc=>?_)<;>try exact hc.elim)|(refine lx ?_;refine sp (fun hc=>?_) (fun hc=>?_)<;>try exact hc.elim)|refine sx ?_ ?_|refine sy ?_ ?_|fail
 refine cu (dB 6) ?_
 rintro _ i2 h2 ⟨x,rfl,x0,x1,x2⟩ hi2
 simp only [AS.drew,AS.called,aD,AS.put,aF,aC,aV,aM,aU,aK,aX,aL,List.set_cons_succ,List.set_cons_zero,List.append_nil,List.nil_append,List.cons_append]
 obtain ⟨n,rfl⟩:=Int.eq_ofNat_of_zero_le x0
 have hn:n≤5:=by omega
 have W:=trivial
 repeat' first|refine st ?_|(refine nx ?_;refine so ?_)|(refine cx ?_;refine sc (fun hc=>?_) (fun hc=>?_)<;>try exact hc.elim)|(refine lx ?_;refine sp (fun hc=>?_) (fun hc=>?_)<;>try exact hc.elim)|refine sx ?_ ?_|refine sy ?_ ?_|fail
 refine aQ (ι:={x:Nat×Str×Int×Int // x.1≤5∧x.2.1.length+80 * x.1≤420∧0≤x.2.2.1}) (fun t o y=>⟨bB t [(3,.str y.1.2.1),(4,.int .i64 (y.1.1:Int))],[⟨true,true,3,2,[[.sl .view 1 (aN code),.int .i64 y.1.2.2.1,.int .i64 y.1.2.2.2]]⟩]⟩)
  (fun y=>y.1.1) ⟨(n,s0,i2,h2),hn,by simp only;omega,hi2⟩ (aW 1 (by simp) (by simp) (by simp) (by simp)) ?_
 rintro ⟨⟨k,s,j,g⟩,hk,hs,hj⟩ K1 hK1
 simp only at hk hs hj
 have hK2:=hK1
 simp only [bB,List.set_cons_succ,List.set_cons_zero] at hK1⊢
 clear hK1
 by_cases h0:0 < k
 ·have hk0:(k:Int) > 0:=by omega
  have hk1:IntKind.i64.wrap ((k:Int) - 1)=((k - 1:Nat):Int):=by rw [wrap64]<;>omega
  have W:=hk0
  repeat' first|refine st ?_|(refine nx ?_;refine so ?_)|(refine cx ?_;refine sc (fun hc=>?_) (fun hc=>?_)<;>try exact hc.elim)|(refine lx ?_;refine sp (fun hc=>?_) (fun hc=>?_)<;>try exact hc.elim)|refine sx ?_ ?_|refine sy ?_ ?_|fail
  refine cu (vJ 2 (by omega) (by omega)) ?_
  rintro _ j1 g1 ⟨u,rfl,hu⟩ hj1
  simp only [AS.drew,AS.called,aD,AS.put,aF,aC,aV,aM,aU,aK,aX,aL,List.set_cons_succ,List.set_cons_zero,List.append_nil,List.nil_append,List.cons_append]
  have hb:=aLg (u:=u) (by omega)
  have hu1:u.length+8≤6200:=by omega
  have hu2:8+u.length≤6200:=by omega
  have hu3:8+u.length+9≤6200:=by omega
  have W:=And.intro hu1 (And.intro hu2 hu3)
  repeat' first|refine st ?_|(refine nx ?_;refine so ?_)|(refine cx ?_;refine sc (fun hc=>?_) (fun hc=>?_)<;>try exact hc.elim)|(refine lx ?_;refine sp (fun hc=>?_) (fun hc=>?_)<;>try exact hc.elim)|refine sx ?_ ?_|refine sy ?_ ?_|fail
  refine dQ (i:=1) (ver:=1) (by rfl) (by rfl) ?_ (by simp [AS.frozen,dV,dY,frz,eO,aA.frz,aA.kill,rtr,rtc,rt];rfl)
  refine cu (bM (aBv u) (by simp [aBv])) ?_
  rintro _ j2 g2 ⟨q,hm2,rfl⟩ hj2
  simp only [AS.drew,AS.called,aD,AS.put,aF,aC,aV,aM,aU,aK,aX,aL,List.set_cons_succ,List.set_cons_zero,List.append_nil,List.nil_append,List.cons_append]
  have hq:=hb q hm2
  have hlq:s.length+q.length≤6200:=by omega
  have W:=And.intro hk1 hlq
  repeat' first|refine st ?_|(refine nx ?_;refine so ?_)|(refine cx ?_;refine sc (fun hc=>?_) (fun hc=>?_)<;>try exact hc.elim)|(refine lx ?_;refine sp (fun hc=>?_) (fun hc=>?_)<;>try exact hc.elim)|refine sx ?_ ?_|refine sy ?_ ?_|fail
  refine hK2 _ ⟨(k - 1,s++q,j2,g2),by simp only;omega,by simp;omega,hj2⟩ ?_ (by simp only;omega)
  exact aW 1 (by simp) (by simp) (by simp) (by simp)
 ·have hk0:¬(k:Int) > 0:=by omega
  have W:=hk0
  repeat' first|refine st ?_|(refine nx ?_;refine so ?_)|(refine cx ?_;refine sc (fun hc=>?_) (fun hc=>?_)<;>try exact hc.elim)|(refine lx ?_;refine sp (fun hc=>?_) (fun hc=>?_)<;>try exact hc.elim)|refine sx ?_ ?_|refine sy ?_ ?_|fail
  refine dQ (i:=1) (ver:=1) (by rfl) (by rfl) ?_ (by simp [AS.frozen,dV,dY,frz,eO,aA.frz,aA.kill,rtr,rtc,rt];rfl)
  refine cu (bM aKm (by decide)) ?_
  rintro _ j2 g2 ⟨q,hm2,rfl⟩ hj2
  simp only [AS.drew,AS.called,aD,AS.put,aF,aC,aV,aM,aU,aK,aX,aL,List.set_cons_succ,List.set_cons_zero,List.append_nil,List.nil_append,List.cons_append]
  have hq:=(by decide:∀s∈aKm,s.length≤10) q hm2
  have hlq:s.length+q.length≤6200:=by omega
  have W:=hlq
  repeat' first|refine st ?_|(refine nx ?_;refine so ?_)|(refine cx ?_;refine sc (fun hc=>?_) (fun hc=>?_)<;>try exact hc.elim)|(refine lx ?_;refine sp (fun hc=>?_) (fun hc=>?_)<;>try exact hc.elim)|refine sx ?_ ?_|refine sy ?_ ?_|fail
  refine ⟨.inr rfl,eT (by simp [Tryz.results79];rfl) (by rfl) (by rfl) (by omega) (by simp) (by simp) ?_⟩
  simp only [single,res]
  exact ⟨_,rfl,by simp;omega⟩
structure aAr (n : Nat) (p : aS) : Prop where
  sz : aJ p ≤ n
  mods : p.mods = []
  slots : p.slots = []
  ents : p.entries = []
def aRp (n:Nat) (r:AV):Prop:=∃p:aS,r= .agg (aR .view p)∧aAr n p
def aQb (n:Nat) (r:AV):Prop:=∃p:aS,r= .agg (aR .own p)∧aAr n p
theorem aHm (a:aP) (x:fE):aJ (mE a x).1≤bG a+7 * iR x+100:=by
 unfold mE
 have hp:bE (dU x.policy).1≤7 * x.policy.length+3:=by
  unfold dU sO
  split
  ·simp [kR,bE,szL,aZ]
  ·split
   ·simp [kR,bE,szL,aZ]
   ·rename_i h3
    split
    ·exact aBi gU aDa h3
    ·simp [kR,bE,szL,aZ]
 split
 ·simp only [aJ,aBa,iD,szL,iX,lZ,oI,iR,aZ,List.length_cons,List.length_nil] at *
  omega
 ·simp only [aJ,qG,kR,bE,bG,iD,szL,iX,aZ,List.length_nil]
  omega
theorem aHo (a:aP) (x:fE) (n:Nat) (h:bG a+7 * iR x+100≤n):aAr n (mE a x).1:=by
 refine ⟨Nat.le_trans (aHm a x) h,?_,?_,?_⟩<;>(unfold mE;split<;>rfl)
theorem aFy [aB Tryz.prog]:OkC Tryz.prog 78 [] (aRp 1000):=by
 refine kV Tryz.mix Tryz.func78 Tryz.ntmps78 ?_
 intro code i h hi hl
 simp only [aD]
 have W:=trivial
 repeat' first|refine st ?_|(refine nx ?_;refine so ?_)|(refine cx ?_;refine sc (fun hc=>?_) (fun hc=>?_)<;>try exact hc.elim)|(refine lx ?_;refine sp (fun hc=>?_) (fun hc=>?_)<;>try exact hc.elim)|refine sx ?_ ?_|refine sy ?_ ?_|fail
 refine cu (aCn) ?_
 rintro _ i5 h5 ⟨p,rfl,hp⟩ hi5
 simp only [AS.drew,AS.called,aD,AS.put,aF,aC,aV,aM,aU,aK,aX,aL,List.set_cons_succ,List.set_cons_zero,List.append_nil,List.nil_append,List.cons_append]
 have hf:=oL p (by omega)
 have hfl:=aOp p
 generalize gL p=fp at *
 have c0:=aCd ⟨[104,111,109,101],[105,110,100,101,120]⟩ ⟨200,1,[],0,false,fp⟩ (by decide) (by simp only [iR,List.length_nil];omega)
 have hn:=aHo ⟨[104,111,109,101],[105,110,100,101,120]⟩ ⟨200,1,[],0,false,fp⟩ 1000 (by simp only [bG,iR,List.length_nil,List.length_cons];omega)
 generalize mE ⟨[104,111,109,101],[105,110,100,101,120]⟩ ⟨200,1,[],0,false,fp⟩=z at *
 simp only [bD] at hf⊢
 simp only [aO,jK] at c0
 have W:=trivial
 repeat' first|refine st ?_|(refine nx ?_;refine so ?_)|(refine cx ?_;refine sc (fun hc=>?_) (fun hc=>?_)<;>try exact hc.elim)|(refine lx ?_;refine sp (fun hc=>?_) (fun hc=>?_)<;>try exact hc.elim)|refine sx ?_ ?_|refine sy ?_ ?_|fail
 refine ⟨.inr rfl,eT (by simp [Tryz.results78];rfl) (by rfl) (by rfl) (by omega) (by simp) (by simp) ?_⟩
 simp only [single,res]
 exact ⟨z.1,rfl,hn⟩
theorem aJm {p:aS} {n:Nat} (s:Str) (m:Nat) (h:aAr n p) (hm:2 * n+2 * s.length≤m):aAr m (kW p s):=by
 refine ⟨Nat.le_trans (aLn p s) (by have:=h.sz;omega),?_,?_,?_⟩<;>(unfold kW;split<;>first|exact h.mods|exact h.slots|exact h.ents)
theorem aOo {p:aS} {n:Nat} (m:Nat) (h:aAr n p) (hm:n+1≤m):aAr m (pE p):=by
 refine ⟨Nat.le_trans (aOf p) (by have:=h.sz;omega),?_,?_,?_⟩<;>(unfold pE;split<;>first|exact h.mods|exact h.slots|exact h.ents)
theorem aHt [aB Tryz.prog]:OkC Tryz.prog 46 [] (aQb 4000):=by
 refine kV Tryz.mix Tryz.func46 Tryz.ntmps46 ?_
 intro code i h hi hl
 simp only [aD]
 have W:=trivial
 repeat' first|refine st ?_|(refine nx ?_;refine so ?_)|(refine cx ?_;refine sc (fun hc=>?_) (fun hc=>?_)<;>try exact hc.elim)|(refine lx ?_;refine sp (fun hc=>?_) (fun hc=>?_)<;>try exact hc.elim)|refine sx ?_ ?_|refine sy ?_ ?_|fail
 refine cu (aFy) ?_
 rintro _ i1 h1 ⟨p,rfl,hp⟩ hi1
 simp only [AS.drew,AS.called,aD,AS.put,aF,aC,aV,aM,aU,aK,aX,aL,List.set_cons_succ,List.set_cons_zero,List.append_nil,List.nil_append,List.cons_append]
 have W:=trivial
 repeat' first|refine st ?_|(refine nx ?_;refine so ?_)|(refine cx ?_;refine sc (fun hc=>?_) (fun hc=>?_)<;>try exact hc.elim)|(refine lx ?_;refine sp (fun hc=>?_) (fun hc=>?_)<;>try exact hc.elim)|refine sx ?_ ?_|refine sy ?_ ?_|fail
 refine cu (aD9) ?_
 rintro _ i2 h2 ⟨s,rfl,hs⟩ hi2
 simp only [AS.drew,AS.called,aD,AS.put,aF,aC,aV,aM,aU,aK,aX,aL,List.set_cons_succ,List.set_cons_zero,List.append_nil,List.nil_append,List.cons_append]
 have ca:=zI p s (by have:=hp.sz;omega) (by omega)
 have hn:=aJm s 3200 hp (by omega)
 generalize kW p s=q at *
 have ce:=aCj q (by have:=hn.sz;omega)
 have hne:=aOo 4000 hn (by omega)
 generalize pE q=z at *
 simp only [aR] at ca ce⊢
 have W:=trivial
 repeat' first|refine st ?_|(refine nx ?_;refine so ?_)|(refine cx ?_;refine sc (fun hc=>?_) (fun hc=>?_)<;>try exact hc.elim)|(refine lx ?_;refine sp (fun hc=>?_) (fun hc=>?_)<;>try exact hc.elim)|refine sx ?_ ?_|refine sy ?_ ?_|fail
 refine cu (iA 3) ?_
 rintro _ i3 h3 ⟨b,rfl⟩ hi3
 simp only [AS.drew,AS.called,aD,AS.put,aF,aC,aV,aM,aU,aK,aX,aL,List.set_cons_succ,List.set_cons_zero,List.append_nil,List.nil_append,List.cons_append]
 cases b
 ·have W:=trivial
  repeat' first|refine st ?_|(refine nx ?_;refine so ?_)|(refine cx ?_;refine sc (fun hc=>?_) (fun hc=>?_)<;>try exact hc.elim)|(refine lx ?_;refine sp (fun hc=>?_) (fun hc=>?_)<;>try exact hc.elim)|refine sx ?_ ?_|refine sy ?_ ?_|fail
  refine ⟨.inr rfl,eT (by simp [Tryz.results46];rfl) (by rfl) (by rfl) (by omega) (by simp) (by simp) ?_⟩
  simp only [single,res]
  exact ⟨z,rfl,hne⟩
 ·have W:=trivial
  repeat' first|refine st ?_|(refine nx ?_;refine so ?_)|(refine cx ?_;refine sc (fun hc=>?_) (fun hc=>?_)<;>try exact hc.elim)|(refine lx ?_;refine sp (fun hc=>?_) (fun hc=>?_)<;>try exact hc.elim)|refine sx ?_ ?_|refine sy ?_ ?_|fail
  refine ⟨.inr rfl,eT (by simp [Tryz.results46];rfl) (by rfl) (by rfl) (by omega) (by simp) (by simp) ?_⟩
  simp only [single,res]
  exact ⟨q,rfl,⟨Nat.le_trans hn.sz (by omega),hn.mods,hn.slots,hn.ents⟩⟩
end Go.Proofs.YtejigeoigebhcaaGreat
