/-
  Proved here: steps towards the statement of this claim, text QDSC.
  No condition beyond what each statement spells out.
-/
import Derived.Test.YtaddkhdghlaalaaGreatDoorQN4
import Derived.Test.YtaddkhdghlaalaaGreatDoorQDR1
import Derived.Test.YtaddkhdghlaalaaGreatDoorS2
import Derived.Test.YtaddkhdghlaalaaGreatDoorQ2
import Derived.Test.YtaddkhdghlaalaaGreatDoorQR7
set_option linter.all false
set_option maxRecDepth 4000
set_option maxHeartbeats 8000000
namespace Go.Proofs.YtaddkhdghlaalaaGreatDoor
open Go.Aw
def bEk (r:AV):Prop:=∃p:aC,r= .agg (aG .view p)∧uR 30000000 8000 p
theorem aFw [aB Tryz.prog] [dB Tryz.prog] (code:List UInt8):OkE Tryz.prog 19 [.sl .view 1 (aT code)] bEk:=by
 refine bCd Tryz.mix Tryz.func19 Tryz.ntmps19 ?_
 refine bA ?_
 refine cn (aEk) ?_
 intro i h hi
 simp only [AS.newCur,aQ,AS.put,List.length_nil,List.length_cons,Nat.reduceAdd,Nat.zero_add,List.set_cons_succ,List.set_cons_zero,List.append_nil,List.nil_append,List.cons_append]
 refine bA ?_
 refine cu (aUi) ?_
 rintro _ i2 h2 ⟨p,l,rfl,hp,hz⟩ hi2
 simp only [AS.drew,AS.called,aQ,AS.put,aL,aH,bS,bC,bR,bB,bV,bD,List.set_cons_succ,List.set_cons_zero,List.append_nil,List.nil_append,List.cons_append]
 simp only [aG]
 refine bA ?_
 refine ⟨.inr rfl,vB (by simp [Tryz.results19];rfl) (by simp) (by simp) ?_⟩
 simp only [single,res]
 exact ⟨p,by simp [aG],hp⟩
theorem aEh [aB Tryz.prog] [dB Tryz.prog] (code:List UInt8):OkE Tryz.prog 5 [.sl .view 1 (aT code)] bEk:=by
 have cq:=aFw code
 refine bCd Tryz.mix Tryz.func5 Tryz.ntmps5 ?_
 refine bA ?_
 refine ce (cq) ?_
 rintro _ ⟨p,rfl,hp⟩
 simp only [AS.called,AS.put,aL,aH,bS,bC,bR,bB,bV,bD,List.set_cons_succ,List.set_cons_zero,List.append_nil,List.nil_append,List.cons_append]
 simp only [aG]
 refine bA ?_
 refine ⟨.inr rfl,vB (by simp [Tryz.results5];rfl) (by simp) (by simp) ?_⟩
 simp only [single,res]
 exact ⟨p,by simp [aG],hp⟩
def bA3:List Str:=[[104,111,109,101],[99,100,110]]
def aKe:List Str:=[[104,111,109,101],[99,100,110],[]]
theorem aY8:∀s∈bA3,s.length≤4:=by decide
theorem aZg:∀s∈aKe,s.length≤4:=by decide
def aZq (r:AV):Prop:=∃s b:Str,r= .tup [.str s,.str b]∧s.length≤600∧b.length≤4
theorem aFu [aB Tryz.prog] [dB Tryz.prog] (code:List UInt8):OkE Tryz.prog 12 [.sl .view 1 (aT code)] aZq:=by
 refine bCd Tryz.mix Tryz.func12 Tryz.ntmps12 ?_
 refine bA ?_
 refine cn (aEk) ?_
 intro i h hi
 simp only [AS.newCur,aQ,AS.put,List.length_nil,List.length_cons,Nat.reduceAdd,Nat.zero_add,List.set_cons_succ,List.set_cons_zero,List.append_nil,List.nil_append,List.cons_append]
 refine bA ?_
 refine cu (aFf) ?_
 rintro _ i2 h2 ⟨s,rfl,hs⟩ hi2
 simp only [AS.drew,AS.called,aQ,AS.put,aL,aH,bS,bC,bR,bB,bV,bD,List.set_cons_succ,List.set_cons_zero,List.append_nil,List.nil_append,List.cons_append]
 refine bA ?_
 refine jR (i:=1) (ver:=1) (by rfl) (by rfl) ?_ (by simp [AS.frozen,kG,jU,frz,kW,aA.frz,aA.kill,rtr,rtc,rt];rfl)
 refine cu (fO bA3 (by decide)) ?_
 rintro _ i3 h3 ⟨b,hb,rfl⟩ hi3
 simp only [AS.drew,AS.called,aQ,AS.put,aL,aH,bS,bC,bR,bB,bV,bD,List.set_cons_succ,List.set_cons_zero,List.append_nil,List.nil_append,List.cons_append]
 have hbl:=aY8 b hb
 refine bA ?_
 refine ⟨.inr rfl,vB (by simp [Tryz.results12];rfl) (by simp) (by simp) ?_⟩
 simp only [single,res]
 exact ⟨s,b,rfl,hs,hbl⟩
def bDg (r:AV):Prop:=∃(t:bE) (b:Str),r= .tup [.agg (bL .view t),.str b]∧bN t≤1000∧b.length≤4
theorem aEd [aB Tryz.prog] [dB Tryz.prog] (code:List UInt8):OkE Tryz.prog 14 [.sl .view 1 (aT code)] bDg:=by
 refine bEj Tryz.mix [3] Tryz.func14 Tryz.ntmps14 ?_
 refine bA ?_
 refine cn (aEk) ?_
 intro i h hi
 simp only [AS.newCur,aQ,AS.put,List.length_nil,List.length_cons,Nat.reduceAdd,Nat.zero_add,List.set_cons_succ,List.set_cons_zero,List.append_nil,List.nil_append,List.cons_append]
 refine bA ?_
 refine cu (aKo) ?_
 rintro _ i2 h2 ⟨s,rfl,hs⟩ hi2
 simp only [AS.drew,AS.called,aQ,AS.put,aL,aH,bS,bC,bR,bB,bV,bD,List.set_cons_succ,List.set_cons_zero,List.append_nil,List.nil_append,List.cons_append]
 have ct:=(aGt s (by omega)).vwas (r':= .tup [.agg (bL .view (iZ s).1),.bool (iZ s).2]) (by simp [rt,rtc])
 have htz:=aQ8 s
 generalize (iZ s).1=tk at *
 generalize (iZ s).2=ok at *
 simp only [bL] at ct⊢
 refine bA ?_
 refine bFl (ι:={y:Str×Int×Int // y.1.length≤4∧0≤y.2.1}) (fun J y=>⟨[.undef,.undef,.ptr 0 0 0 0,cond (J 5) (.str y.1.1) (.str []),.ptr 1 0 0 0,.ptr 2 0 0 0,.undef,.undef,.undef,.undef,.undef,.undef,.undef,.undef,.undef,dv J 0 (.agg (bL .view tk)),dv J 1 (.ptr 1 0 0 0),cond (J 3) .undef (dv J 2 (.obj 3 1)),dv J 3 (.str y.1.1)],[⟨true,true,4,0,[cond (J 4) (bL .view tk) [.int .i64 0,.str [],.sl .own 2 [],.str []]]⟩,⟨true,true,3,0,[[.sl .view 1 (aT code),.int .i64 (cond (J 3) y.1.2.1 i2),.int .i64 (cond (J 3) y.1.2.2 h2)]]⟩,⟨true,true,4,0,[bL .view tk]⟩]++cond (J 2) [⟨!J 3,false,1,1,aKe.map bX⟩] []⟩) (⟨([],i2,h2),by simp,hi2⟩) (aO (by simp) (by simp [dv])) ?_ ?_
 ·simp only [invS,and_true]
  refine ⟨?_,?_,?_,?_,?_,?_⟩
  ·rintro J ⟨⟨b,j,g⟩,hb,hj⟩ hC hJ hP
   simp [pre,Region.binds] at hP
   simp only [dv,hJ,hP,if_true,cond_true,cond_false,Bool.false_eq_true,if_false]
   have W:=trivial
   repeat' first|refine st ?_|(refine nx ?_;refine so ?_)|fail
   exact ⟨⟨⟨b,j,g⟩,hb,hj⟩,aO (by simp [upd,hJ,hP]) (by simp [dv,upd,hJ,hP])⟩
  ·rintro J ⟨⟨b,j,g⟩,hb,hj⟩ hC hJ hP
   simp [pre,Region.binds] at hP
   simp only [dv,hJ,hP,if_true,cond_true,cond_false,Bool.false_eq_true,if_false]
   have W:=trivial
   repeat' first|refine st ?_|(refine nx ?_;refine so ?_)|fail
   exact ⟨⟨⟨b,j,g⟩,hb,hj⟩,aO (by simp [upd,hJ,hP]) (by simp [dv,upd,hJ,hP])⟩
  ·rintro J ⟨⟨b,j,g⟩,hb,hj⟩ hC hJ hP
   simp [pre,Region.binds] at hP
   have hF3:J 3=false:=aB8 hC hJ 3 rfl (by simp [pre,Region.binds])
   simp only [dv,hJ,hP,if_true,cond_true,cond_false,hF3,Bool.false_eq_true,if_false]
   have W:=trivial
   repeat' first|refine st ?_|(refine nx ?_;refine so ?_)|fail
   exact ⟨⟨⟨b,j,g⟩,hb,hj⟩,aO (by simp [upd,hJ,hP,hF3,aKe]) (by simp [dv,upd,hJ,hP,hF3])⟩
  ·rintro J ⟨⟨b,j,g⟩,hb,hj⟩ hC hJ hP
   simp [pre,Region.binds] at hP
   have hF4:J 4=false:=aB8 hC hJ 4 rfl (by simp [pre,Region.binds])
   have hF5:J 5=false:=aB8 hC (aB8 hC hJ 4 rfl (by simp [pre,Region.binds])) 5 rfl (by simp [pre,Region.binds])
   simp only [dv,hJ,hP,if_true,cond_true,cond_false,hF4,hF5,Bool.false_eq_true,if_false]
   refine bIh 18 ?_
   refine jR (i:=3) (ver:=1) (by rfl) (by rfl) ?_ (by simp [AS.frozen,kG,jU,frz,kW,aA.frz,aA.kill,rtr,rtc,rt];rfl)
   refine cu (fO aKe (by decide)) ?_
   rintro _ j2 g2 ⟨b2,hm,rfl⟩ hj2
   have hbl:=aZg b2 hm
   simp only [AS.drew,AS.called,aQ,AS.put,aL,aH,bS,bC,bR,bB,bV,bD,List.set_cons_succ,List.set_cons_zero,List.append_nil,List.nil_append,List.cons_append]
   refine aJz ?_
   exact ⟨⟨(b2,j2,g2),hbl,hj2⟩,aO (by simp [upd,hJ,hP,hF4,hF5]) (by cases h0:J 0<;>simp [dv,upd,hJ,hP,h0,hF4,hF5])⟩
  ·rintro J ⟨⟨b,j,g⟩,hb,hj⟩ hC hJ hP
   simp [pre,Region.binds] at hP
   simp only [dv,hJ,hP,if_true,cond_true,cond_false,Bool.false_eq_true,if_false]
   have W:=trivial
   repeat' first|refine st ?_|(refine nx ?_;refine so ?_)|fail
   exact ⟨⟨⟨b,j,g⟩,hb,hj⟩,aO (by simp [upd,hJ,hP]) (by simp [dv,upd,hJ,hP])⟩
  ·rintro J ⟨⟨b,j,g⟩,hb,hj⟩ hC hJ hP
   simp [pre,Region.binds] at hP
   simp only [dv,hJ,hP,if_true,cond_true,cond_false,Bool.false_eq_true,if_false]
   have W:=trivial
   repeat' first|refine st ?_|(refine nx ?_;refine so ?_)|fail
   exact ⟨⟨⟨b,j,g⟩,hb,hj⟩,aO (by simp [upd,hJ,hP]) (by simp [dv,upd,hJ,hP])⟩
 ·rintro J ⟨⟨b,j,g⟩,hb,hj⟩ hJ
  have hJs:J 0=true∧J 1=true∧J 2=true∧J 3=true∧J 4=true∧J 5=true:=⟨hJ 0 (by decide),hJ 1 (by decide),hJ 2 (by decide),hJ 3 (by decide),hJ 4 (by decide),hJ 5 (by decide)⟩
  simp only [dv,hJs,if_true,cond_true,cond_false,List.cons_append,List.nil_append,List.append_nil]
  clear hJs hJ J
  simp only at hb hj
  simp only [bL]
  refine bA ?_
  refine ⟨.inr rfl,vB (by simp [Tryz.results14];rfl) (by simp) (by simp) ?_⟩
  simp only [single,res]
  exact ⟨tk,b,by simp [bL],by omega,hb⟩
def wO (p:aC) (out:List aD) (r:dA):Bool:=tV r&&decide (eY p.policy r=1)&& !rF p r.to&& !out.any (eG r.to)
def uT (p:aC) (out:List aD) (r:dA):List aD:=if wO p out r=true then out++[r.to] else out
def iC (p:aC):List aD:=(bZ p.queue p.addr.host).foldl (uT p) []
def gTo (p:aC) (l:List dA) (k:Nat):List aD:=(l.take k).foldl (uT p) []
theorem aJy (p:aC) (l:List dA) (k:Nat) (h:k < l.length):gTo p l (k+1)=uT p (gTo p l k) l[k]:=by
 unfold gTo
 rw [List.take_succ_eq_append_getElem h,List.foldl_append]
 rfl
theorem aY4 (p:aC) (out:List aD) (r:dA):(uT p out r).length≤out.length+1:=by
 unfold uT;split<;>simp
theorem aDs (p:aC) (l:List dA):∀k,(gTo p l k).length≤k
 |0=>by simp [gTo]
 |k+1=>by
  by_cases h:k < l.length
  ·rw [aJy p l k h]
   have h1:=aY4 p (gTo p l k) l[k]
   have h2:=aDs p l k
   omega
  ·have h2:=aDs p l k
   have:gTo p l (k+1)=gTo p l k:=by unfold gTo;rw [List.take_of_length_le (by omega),List.take_of_length_le (by omega)]
   rw [this];omega
theorem aBs (p:dU) (r:dA):eY p r=1∨eY p r=2:=by
 unfold eY;split<;>simp
theorem aJ0 [aB Tryz.prog] (p:aC) (hs:aJ p≤67108864) (hzm:p.queue.length * p.addr.host.length≤274877906944):Ok Tryz.prog 8 [.agg (aG .view p)] (.sl .own 2 ((iC p).map aF)):=by
 simp only [aJ,szL] at hs
 have c0:=aAm p.queue p.addr.host (by simp only [szL,aI] at *;omega)
 have hl:=mO p.queue p.addr.host
 have hz:=aAg p.addr.host p.queue
 generalize p.queue.length * p.addr.host.length=pr at *
 have hzq:aK bN p.queue≤67108864:=by omega
 have hg0:iC p=gTo p (bZ p.queue p.addr.host) (bZ p.queue p.addr.host).length:=by unfold gTo iC;rw [List.take_length]
 rw [hg0]
 generalize bZ p.queue p.addr.host=l at *
 refine ent Tryz.mix Tryz.func8 Tryz.ntmps8 ?_
 refine aW ?_
 refine aR (ι:={q:Nat×Nat // q.1≤l.length∧1≤q.2}) (fun t o i=>⟨aS t [(5,.int .i64 i.1.1),(3,.obj 1 i.1.2),(6,.undef)],o.take 1++[⟨true,false,2,i.1.2,(gTo p l i.1.1).map aF⟩,⟨true,false,5,1,l.map bT⟩]⟩)
  (fun i=>l.length - i.1.1) ⟨(0,1),by simp,by simp⟩ (aO (by simp [gTo]) (by simp)) ?_
 rintro ⟨⟨k,v⟩,hk,hv⟩ K1 hK1
 simp only at hk hv
 simp only [aS,List.set_cons_succ,List.set_cons_zero,List.take_succ_cons,List.take_zero,List.cons_append,List.nil_append] at hK1⊢
 have hk1:=wk1 (k:=k) (by omega)
 by_cases hlt:k < l.length
 ·have hg:=List.getElem?_eq_getElem hlt
  have hps:=aJy p l k hlt
  have hgl:=aDs p l k
  have hrz:=fM fE l k hlt
  have c1:=aLx l[k] (by omega)
  have c2:=qC p.policy l[k] (by simp only [dX,szL] at *;omega) (by omega)
  have c3:=aNn p l[k].to (by omega) (by omega)
  have c4:=uP (gTo p l k) l[k].to (by omega)
  have h12:=aBs p.policy l[k]
  simp only [bT,aF,bY] at c1 c2 c3 c4
  have no:wO p (gTo p l k) l[k]=false→gTo p l (k+1)=gTo p l k:=fun h=>by rw [hps,uT,if_neg (by rw [h];simp)]
  have yes:wO p (gTo p l k) l[k]=true→gTo p l (k+1)=gTo p l k++[l[k].to]:=fun h=>by rw [hps,uT,if_pos h]
  unfold wO at no yes
  clear hps hrz hz hg0
  cases hb1:tV l[k]
  ·rw [hb1] at c1 no
   have hn:=no (by simp)
   clear no yes hb1
   have W:=And.intro hk1 (And.intro hg hlt)
   refine we ?_
   all_goals refine hK1 _ ⟨(k+1,v),by simp only;omega,hv⟩ (aN 3 (by simp [hn])) (by simp only;omega)
  ·rw [hb1] at c1 no yes
   rcases h12 with hb2|hb2
   ·rw [hb2] at c2 no yes
    cases hb3:rF p l[k].to
    ·rw [hb3] at c3 no yes
     cases hb4:(gTo p l k).any (eG l[k].to)
     ·rw [hb4] at c4 no yes
      have hn:=yes (by simp)
      clear no yes hb1 hb2 hb3 hb4
      have W:=And.intro hk1 (And.intro hg hlt)
      refine we ?_
      all_goals refine hK1 _ ⟨(k+1,v+1),by simp only;omega,by simp only;omega⟩ (aN 3 (by simp [hn])) (by simp only;omega)
     ·rw [hb4] at c4 no yes
      have hn:=no (by simp)
      clear no yes hb1 hb2 hb3 hb4
      have W:=And.intro hk1 (And.intro hg hlt)
      refine we ?_
      all_goals refine hK1 _ ⟨(k+1,v),by simp only;omega,hv⟩ (aN 3 (by simp [hn])) (by simp only;omega)
    ·rw [hb3] at c3 no yes
     have hn:=no (by simp)
     clear no yes hb1 hb2 hb3
     have W:=And.intro hk1 (And.intro hg hlt)
     refine we ?_
     all_goals refine hK1 _ ⟨(k+1,v),by simp only;omega,hv⟩ (aN 3 (by simp [hn])) (by simp only;omega)
   ·rw [hb2] at c2 no yes
    have hn:=no (by simp)
    clear no yes hb1 hb2
    have W:=And.intro hk1 (And.intro hg hlt)
    refine we ?_
    all_goals refine hK1 _ ⟨(k+1,v),by simp only;omega,hv⟩ (aN 3 (by simp [hn])) (by simp only;omega)
 ·obtain rfl:k=l.length:=by omega
  have W:=hk1
  refine we ?_
  exact aM Tryz.results8
theorem aJx [aB Tryz.prog] (p:aC) (hs:aJ p≤67108864) (hzm:p.queue.length * p.addr.host.length≤274877906944):Ok Tryz.prog 6 [.agg (aG .view p)] (.sl .own 2 ((iC p).map aF)):=by
 simp only [aJ,szL] at hs
 have c0:=aAo p.queue p.addr.host (by simp only [szL,aI] at *;omega)
 have hl:=mO p.queue p.addr.host
 have hz:=aAg p.addr.host p.queue
 generalize p.queue.length * p.addr.host.length=pr at *
 have hzq:aK bN p.queue≤67108864:=by omega
 have hg0:iC p=gTo p (bZ p.queue p.addr.host) (bZ p.queue p.addr.host).length:=by unfold gTo iC;rw [List.take_length]
 rw [hg0]
 generalize bZ p.queue p.addr.host=l at *
 refine ent Tryz.mix Tryz.func6 Tryz.ntmps6 ?_
 refine aW ?_
 refine aR (ι:={q:Nat×Nat // q.1≤l.length∧1≤q.2}) (fun t o i=>⟨aS t [(14,.int .i64 i.1.1),(3,.obj 1 i.1.2),(5,.undef)],o.take 1++[⟨true,false,2,i.1.2,(gTo p l i.1.1).map aF⟩,⟨true,false,5,1,l.map bT⟩]⟩)
  (fun i=>l.length - i.1.1) ⟨(0,1),by simp,by simp⟩ (aO (by simp [gTo]) (by simp)) ?_
 rintro ⟨⟨k,v⟩,hk,hv⟩ K1 hK1
 simp only at hk hv
 simp only [aS,List.set_cons_succ,List.set_cons_zero,List.take_succ_cons,List.take_zero,List.cons_append,List.nil_append] at hK1⊢
 have hk1:=wk1 (k:=k) (by omega)
 by_cases hlt:k < l.length
 ·have hg:=List.getElem?_eq_getElem hlt
  have hps:=aJy p l k hlt
  have hgl:=aDs p l k
  have hrz:=fM fE l k hlt
  have c1:=aK0 l[k] (by omega)
  have c2:=aFt p.policy l[k] (by simp only [dX,szL] at *;omega) (by omega)
  have c3:=yQ p l[k].to (by omega) (by omega)
  have c4:=aM8 (gTo p l k) l[k].to (by omega)
  have h12:=aBs p.policy l[k]
  simp only [bT,aF,bY] at c1 c2 c3 c4
  have no:wO p (gTo p l k) l[k]=false→gTo p l (k+1)=gTo p l k:=fun h=>by rw [hps,uT,if_neg (by rw [h];simp)]
  have yes:wO p (gTo p l k) l[k]=true→gTo p l (k+1)=gTo p l k++[l[k].to]:=fun h=>by rw [hps,uT,if_pos h]
  unfold wO at no yes
  clear hps hrz hz hg0
  cases hb1:tV l[k]
  ·rw [hb1] at c1 no
   have hn:=no (by simp)
   clear no yes hb1
   have W:=And.intro hk1 (And.intro hg hlt)
   refine we ?_
   all_goals refine hK1 _ ⟨(k+1,v),by simp only;omega,hv⟩ (aN 3 (by simp [hn])) (by simp only;omega)
  ·rw [hb1] at c1 no yes
   rcases h12 with hb2|hb2
   ·rw [hb2] at c2 no yes
    cases hb3:rF p l[k].to
    ·rw [hb3] at c3 no yes
     cases hb4:(gTo p l k).any (eG l[k].to)
     ·rw [hb4] at c4 no yes
      have hn:=yes (by simp)
      clear no yes hb1 hb2 hb3 hb4
      have W:=And.intro hk1 (And.intro hg hlt)
      refine we ?_
      all_goals refine hK1 _ ⟨(k+1,v+1),by simp only;omega,by simp only;omega⟩ (aN 3 (by simp [hn])) (by simp only;omega)
     ·rw [hb4] at c4 no yes
      have hn:=no (by simp)
      clear no yes hb1 hb2 hb3 hb4
      have W:=And.intro hk1 (And.intro hg hlt)
      refine we ?_
      all_goals refine hK1 _ ⟨(k+1,v),by simp only;omega,hv⟩ (aN 3 (by simp [hn])) (by simp only;omega)
    ·rw [hb3] at c3 no yes
     have hn:=no (by simp)
     clear no yes hb1 hb2 hb3
     have W:=And.intro hk1 (And.intro hg hlt)
     refine we ?_
     all_goals refine hK1 _ ⟨(k+1,v),by simp only;omega,hv⟩ (aN 3 (by simp [hn])) (by simp only;omega)
   ·rw [hb2] at c2 no yes
    have hn:=no (by simp)
    clear no yes hb1 hb2
    have W:=And.intro hk1 (And.intro hg hlt)
    refine we ?_
    all_goals refine hK1 _ ⟨(k+1,v),by simp only;omega,hv⟩ (aN 3 (by simp [hn])) (by simp only;omega)
 ·obtain rfl:k=l.length:=by omega
  have W:=hk1
  refine we ?_
  exact aM Tryz.results6
end Go.Proofs.YtaddkhdghlaalaaGreatDoor
