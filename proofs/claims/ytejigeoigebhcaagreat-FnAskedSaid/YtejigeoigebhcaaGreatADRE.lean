/-
  Proved here: steps towards the statement of this claim, text DRE.
  No condition beyond what each statement spells out.
-/
import Derived.Test.YtejigeoigebhcaaGreatADRD
set_option linter.all false
set_option maxRecDepth 4000
set_option maxHeartbeats 4000000
namespace Go.Proofs.YtejigeoigebhcaaGreat
open Go.Aw
theorem xA [aB Tryz.prog]:OkC Tryz.prog 19 [] (aNl .view):=zR.vwas fun r ⟨p,e,h⟩=>⟨p,by subst e;simp [rt],h⟩
theorem zZ [aB Tryz.prog]:OkC Tryz.prog 21 [] (aLr 6):=by
 refine kV Tryz.mix Tryz.func21 Tryz.ntmps21 ?_
 intro code i h hi hl
 simp only [aD]
 have W:=trivial
 repeat' first|refine st ?_|(refine nx ?_;refine so ?_)|(refine cx ?_;refine sc (fun hc=>?_) (fun hc=>?_)<;>try exact hc.elim)|(refine lx ?_;refine sp (fun hc=>?_) (fun hc=>?_)<;>try exact hc.elim)|refine sx ?_ ?_|refine sy ?_ ?_|fail
 refine cu (dB 6) ?_
 rintro _ i2 h2 ⟨x,rfl,x0,x1,x2⟩ hi2
 simp only [AS.drew,AS.called,aD,AS.put,aF,aC,aV,aM,aU,aK,aX,aL,List.set_cons_succ,List.set_cons_zero,List.append_nil,List.nil_append,List.cons_append]
 have W:=trivial
 repeat' first|refine st ?_|(refine nx ?_;refine so ?_)|(refine cx ?_;refine sc (fun hc=>?_) (fun hc=>?_)<;>try exact hc.elim)|(refine lx ?_;refine sp (fun hc=>?_) (fun hc=>?_)<;>try exact hc.elim)|refine sx ?_ ?_|refine sy ?_ ?_|fail
 refine ⟨.inr rfl,eT (by simp [Tryz.results21];rfl) (by rfl) (by rfl) (by omega) (by simp) (by simp) ?_⟩
 simp only [single,res]
 exact ⟨_,rfl,x0,x1,x2⟩
def aFd (r:AV):Prop:=∃(p:aS) (a:aP),r= .tup [.agg (aR .view p),.agg (aO a)]∧aI0 p∧bG a≤9
theorem wG [aB Tryz.prog] (code:List UInt8):OkE Tryz.prog 11 [.sl .view 1 (aN code)] aFd:=by
 refine aJ3 Tryz.mix [3] Tryz.func11 Tryz.ntmps11 ?_
 have W:=trivial
 repeat' first|refine st ?_|(refine nx ?_;refine so ?_)|(refine cx ?_;refine sc (fun hc=>?_) (fun hc=>?_)<;>try exact hc.elim)|(refine lx ?_;refine sp (fun hc=>?_) (fun hc=>?_)<;>try exact hc.elim)|refine sx ?_ ?_|refine sy ?_ ?_|fail
 refine cn (vP) ?_
 intro i h hi
 simp only [AS.newCur,aD,AS.put,List.length_nil,List.length_cons,Nat.reduceAdd,Nat.zero_add,List.set_cons_succ,List.set_cons_zero,List.append_nil,List.nil_append,List.cons_append]
 have W:=trivial
 repeat' first|refine st ?_|(refine nx ?_;refine so ?_)|(refine cx ?_;refine sc (fun hc=>?_) (fun hc=>?_)<;>try exact hc.elim)|(refine lx ?_;refine sp (fun hc=>?_) (fun hc=>?_)<;>try exact hc.elim)|refine sx ?_ ?_|refine sy ?_ ?_|fail
 refine cu (xA) ?_
 rintro _ i2 h2 ⟨p,rfl,hp⟩ hi2
 simp only [AS.drew,AS.called,aD,AS.put,aF,aC,aV,aM,aU,aK,aX,aL,List.set_cons_succ,List.set_cons_zero,List.append_nil,List.nil_append,List.cons_append]
 have W:=trivial
 repeat' first|refine st ?_|(refine nx ?_;refine so ?_)|(refine cx ?_;refine sc (fun hc=>?_) (fun hc=>?_)<;>try exact hc.elim)|(refine lx ?_;refine sp (fun hc=>?_) (fun hc=>?_)<;>try exact hc.elim)|refine sx ?_ ?_|refine sy ?_ ?_|fail
 refine mG (fun s'=>∃r,aFd r∧(dF Tryz.prog Tryz.f11 s' r∨jH Tryz.prog Tryz.f11 s' r)) (d:=[false,false,false,false,false]) rfl rfl ?_ (by intro s' h;simp only [eY,AIn,awp];exact ⟨by simp,h⟩)
 refine lH 1 rfl (by decide+kernel) (by decide+kernel) (by simp only [List.set_cons_succ,List.set_cons_zero];rfl) (by simp;rfl) ?_
 repeat' first
  |(refine yV ?_;refine aFw (by simp [Tryz.results11];rfl) (by simp) (by simp) ?_;simp only [single,res];exact ⟨p,a,rfl,hp,ha⟩)
  |refine yQ (by simp [Region.binds];rfl) ?_
  |refine yT ?_ ?_
  |refine zF rfl (by simp only [List.set_cons_succ,List.set_cons_zero];rfl) ?_
  |refine lV ?_
  |(refine nA 12 ?_;refine cu (uT) ?_;rintro _ j2 g2 ⟨a,rfl,ha⟩ hj2;simp only [aO];simp only [AS.drew,AS.called,aD,AS.put,aF,aC,aV,aM,aU,aK,aX,aL,List.set_cons_succ,List.set_cons_zero,List.append_nil,List.nil_append,List.cons_append])
  |(refine rR ?_;refine st ?_)
  |(refine nx ?_;refine so ?_)
def aGm (r:AV):Prop:=∃(p:aS) (s:Str),r= .tup [.agg (aR .view p),.str s]∧aI0 p∧s.length≤8
def aQt:List Str:=[[117,116,105,108],[99,100,110,47,108,105,98],[],[65],[101,118,105,108,47,97,112,112]]
theorem aO7:∀s∈aQt,s.length≤8:=by decide
theorem wP [aB Tryz.prog] (code:List UInt8):OkE Tryz.prog 15 [.sl .view 1 (aN code)] aGm:=by
 refine aJ3 Tryz.mix [3] Tryz.func15 Tryz.ntmps15 ?_
 have W:=trivial
 repeat' first|refine st ?_|(refine nx ?_;refine so ?_)|(refine cx ?_;refine sc (fun hc=>?_) (fun hc=>?_)<;>try exact hc.elim)|(refine lx ?_;refine sp (fun hc=>?_) (fun hc=>?_)<;>try exact hc.elim)|refine sx ?_ ?_|refine sy ?_ ?_|fail
 refine cn (vP) ?_
 intro i h hi
 simp only [AS.newCur,aD,AS.put,List.length_nil,List.length_cons,Nat.reduceAdd,Nat.zero_add,List.set_cons_succ,List.set_cons_zero,List.append_nil,List.nil_append,List.cons_append]
 have W:=trivial
 repeat' first|refine st ?_|(refine nx ?_;refine so ?_)|(refine cx ?_;refine sc (fun hc=>?_) (fun hc=>?_)<;>try exact hc.elim)|(refine lx ?_;refine sp (fun hc=>?_) (fun hc=>?_)<;>try exact hc.elim)|refine sx ?_ ?_|refine sy ?_ ?_|fail
 refine cu (xA) ?_
 rintro _ i2 h2 ⟨p,rfl,hp⟩ hi2
 simp only [AS.drew,AS.called,aD,AS.put,aF,aC,aV,aM,aU,aK,aX,aL,List.set_cons_succ,List.set_cons_zero,List.append_nil,List.nil_append,List.cons_append]
 have W:=trivial
 repeat' first|refine st ?_|(refine nx ?_;refine so ?_)|(refine cx ?_;refine sc (fun hc=>?_) (fun hc=>?_)<;>try exact hc.elim)|(refine lx ?_;refine sp (fun hc=>?_) (fun hc=>?_)<;>try exact hc.elim)|refine sx ?_ ?_|refine sy ?_ ?_|fail
 refine mG (fun s'=>∃r,aGm r∧(dF Tryz.prog Tryz.f15 s' r∨jH Tryz.prog Tryz.f15 s' r)) (d:=[false,false,false,false,false,false]) rfl rfl ?_ (by intro s' h;simp only [eY,AIn,awp];exact ⟨by simp,h⟩)
 refine lH 1 rfl (by decide+kernel) (by decide+kernel) (by simp only [List.set_cons_succ,List.set_cons_zero];rfl) (by simp;rfl) ?_
 repeat' first
  |(refine yV ?_;refine aFw (by simp [Tryz.results15];rfl) (by simp) (by simp) ?_;simp only [single,res];exact ⟨p,s,rfl,hp,aO7 s hm⟩)
  |refine yQ (by simp [Region.binds];rfl) ?_
  |refine yT ?_ ?_
  |refine zF rfl (by simp only [List.set_cons_succ,List.set_cons_zero];rfl) ?_
  |refine lV ?_
  |(refine nA 13 ?_;refine dQ (i:=3) (ver:=1) (by rfl) (by rfl) ?_ (by simp [AS.frozen,dV,dY,frz,eO,aA.frz,aA.kill,rtr,rtc,rt];rfl);refine cu (bM aQt (by decide)) ?_;rintro _ j2 g2 ⟨s,hm,rfl⟩ hj2;simp only [AS.drew,AS.called,aD,AS.put,aF,aC,aV,aM,aU,aK,aX,aL,List.set_cons_succ,List.set_cons_zero,List.append_nil,List.nil_append,List.cons_append])
  |(refine rR ?_;refine st ?_)
  |(refine nx ?_;refine so ?_)
structure aSj (p : aS) : Prop where
  sz : aJ p ≤ 8000
def xQ (r:AV):Prop:=∃(p:aS) (m:Int) (t d:Str) (n:Int),r= .tup [.agg (aR .own p),.int .i64 m,.str t,.str d,.int .i64 n]∧aJ p≤8000∧t.length≤8∧d.length≤3
def aFr:List Str:=[[97,112,112],[99,100,110,47,108,105,98],[101,118,105,108,47,97,112,112],[],[97,47,98,47,99],[65]]
def aFn:List Str:=[[],[],[53],[97,32,98]]
theorem aC6:∀s∈aFr,s.length≤8:=by decide
theorem aDs:∀s∈aFn,s.length≤3:=by decide
theorem xO [aB Tryz.prog] (code:List UInt8):OkE Tryz.prog 5 [.sl .view 1 (aN code)] xQ:=by
 refine aJ3 Tryz.mix [9] Tryz.func5 Tryz.ntmps5 ?_
 have W:=trivial
 repeat' first|refine st ?_|(refine nx ?_;refine so ?_)|(refine cx ?_;refine sc (fun hc=>?_) (fun hc=>?_)<;>try exact hc.elim)|(refine lx ?_;refine sp (fun hc=>?_) (fun hc=>?_)<;>try exact hc.elim)|refine sx ?_ ?_|refine sy ?_ ?_|fail
 refine cn (vP) ?_
 intro i h hi
 simp only [AS.newCur,aD,AS.put,List.length_nil,List.length_cons,Nat.reduceAdd,Nat.zero_add,List.set_cons_succ,List.set_cons_zero,List.append_nil,List.nil_append,List.cons_append]
 have W:=trivial
 repeat' first|refine st ?_|(refine nx ?_;refine so ?_)|(refine cx ?_;refine sc (fun hc=>?_) (fun hc=>?_)<;>try exact hc.elim)|(refine lx ?_;refine sp (fun hc=>?_) (fun hc=>?_)<;>try exact hc.elim)|refine sx ?_ ?_|refine sy ?_ ?_|fail
 refine cu (zR) ?_
 rintro _ i2 h2 ⟨p,rfl,hp⟩ hi2
 simp only [AS.drew,AS.called,aD,AS.put,aF,aC,aV,aM,aU,aK,aX,aL,List.set_cons_succ,List.set_cons_zero,List.append_nil,List.nil_append,List.cons_append]
 obtain ⟨hp1,hp2,hp3,hp4⟩:=hp
 obtain ⟨pa,pp,pt,pq,pe,pb,ps,pm,pn,y1,y2,y3,y4,pr,pl,pd⟩:=p
 simp only at hp3 hp4
 simp only [aR]
 have W:=trivial
 repeat' first|refine st ?_|(refine nx ?_;refine so ?_)|(refine cx ?_;refine sc (fun hc=>?_) (fun hc=>?_)<;>try exact hc.elim)|(refine lx ?_;refine sp (fun hc=>?_) (fun hc=>?_)<;>try exact hc.elim)|refine sx ?_ ?_|refine sy ?_ ?_|fail
 refine cu (iA 10) ?_
 rintro _ i3 h3 ⟨b,rfl⟩ hi3
 simp only [AS.drew,AS.called,aD,AS.put,aF,aC,aV,aM,aU,aK,aX,aL,List.set_cons_succ,List.set_cons_zero,List.append_nil,List.nil_append,List.cons_append]
 cases b
 ·have W:=trivial
  repeat' first|refine st ?_|(refine nx ?_;refine so ?_)|(refine cx ?_;refine sc (fun hc=>?_) (fun hc=>?_)<;>try exact hc.elim)|(refine lx ?_;refine sp (fun hc=>?_) (fun hc=>?_)<;>try exact hc.elim)|refine sx ?_ ?_|refine sy ?_ ?_|fail
  refine cu (zZ) ?_
  rintro _ j1 g1 ⟨x,rfl,_,_,_⟩ hj1
  simp only [AS.drew,AS.called,aD,AS.put,aF,aC,aV,aM,aU,aK,aX,aL,List.set_cons_succ,List.set_cons_zero,List.append_nil,List.nil_append,List.cons_append]
  have W:=trivial
  repeat' first|refine st ?_|(refine nx ?_;refine so ?_)|(refine cx ?_;refine sc (fun hc=>?_) (fun hc=>?_)<;>try exact hc.elim)|(refine lx ?_;refine sp (fun hc=>?_) (fun hc=>?_)<;>try exact hc.elim)|refine sx ?_ ?_|refine sy ?_ ?_|fail
  refine dQ (i:=14) (ver:=1) (by rfl) (by rfl) ?_ (by simp [AS.frozen,dV,dY,frz,eO,aA.frz,aA.kill,rtr,rtc,rt];rfl)
  refine cu (bM aFr (by decide)) ?_
  rintro _ j2 g2 ⟨s1,hm1,rfl⟩ hj2
  simp only [AS.drew,AS.called,aD,AS.put,aF,aC,aV,aM,aU,aK,aX,aL,List.set_cons_succ,List.set_cons_zero,List.append_nil,List.nil_append,List.cons_append]
  have W:=trivial
  repeat' first|refine st ?_|(refine nx ?_;refine so ?_)|(refine cx ?_;refine sc (fun hc=>?_) (fun hc=>?_)<;>try exact hc.elim)|(refine lx ?_;refine sp (fun hc=>?_) (fun hc=>?_)<;>try exact hc.elim)|refine sx ?_ ?_|refine sy ?_ ?_|fail
  refine dQ (i:=15) (ver:=1) (by rfl) (by rfl) ?_ (by simp [AS.frozen,dV,dY,frz,eO,aA.frz,aA.kill,rtr,rtc,rt];rfl)
  refine cu (bM aFn (by decide)) ?_
  rintro _ j3 g3 ⟨s2,hm2,rfl⟩ hj3
  simp only [AS.drew,AS.called,aD,AS.put,aF,aC,aV,aM,aU,aK,aX,aL,List.set_cons_succ,List.set_cons_zero,List.append_nil,List.nil_append,List.cons_append]
  have W:=trivial
  repeat' first|refine st ?_|(refine nx ?_;refine so ?_)|(refine cx ?_;refine sc (fun hc=>?_) (fun hc=>?_)<;>try exact hc.elim)|(refine lx ?_;refine sp (fun hc=>?_) (fun hc=>?_)<;>try exact hc.elim)|refine sx ?_ ?_|refine sy ?_ ?_|fail
  refine mG (fun s'=>∃r,xQ r∧(dF Tryz.prog Tryz.f5 s' r∨jH Tryz.prog Tryz.f5 s' r)) (d:=[false,false,false,false,false,false,false,false,false,false,false]) rfl rfl ?_ (by intro s' h;simp only [eY,AIn,awp];exact ⟨by simp,h⟩)
  refine lH 1 rfl (by decide+kernel) (by decide+kernel) (by simp only [List.set_cons_succ,List.set_cons_zero];rfl) (by simp;rfl) ?_
  refine lH 2 rfl (by decide+kernel) (by decide+kernel) (by simp only [List.set_cons_succ,List.set_cons_zero];rfl) (by simp;rfl) ?_
  refine lH 3 rfl (by decide+kernel) (by decide+kernel) (by simp only [List.set_cons_succ,List.set_cons_zero];rfl) (by simp;rfl) ?_
  refine lH 4 rfl (by decide+kernel) (by decide+kernel) (by simp only [List.set_cons_succ,List.set_cons_zero];rfl) (by simp;rfl) ?_
  repeat' first
   |(refine yV ?_;refine aFw (by simp [Tryz.results5];rfl) (by simp) (by simp) ?_;simp only [single,res];exact ⟨⟨pa,pp,pt,pq,pe,pb,ps,pm,pn,y1,y2,y3,y4,pr,pl,pd⟩,x,s1,s2,y,by simp [eP,res,AV.isObj],by simp only [aJ,szL] at hp1⊢;omega,aC6 s1 hm1,aDs s2 hm2⟩)
   |refine yQ (by simp [Region.binds];rfl) ?_
   |refine yT ?_ ?_
   |refine zF rfl (by simp only [List.set_cons_succ,List.set_cons_zero];rfl) ?_
   |refine lV ?_
   |(refine nA 41 ?_;refine cu (dB 4) ?_;rintro _ j4 g4 ⟨y,rfl,_,_,_⟩ hj4;simp only [AS.drew,AS.called,aD,AS.put,aF,aC,aV,aM,aU,aK,aX,aL,List.set_cons_succ,List.set_cons_zero,List.append_nil,List.nil_append,List.cons_append])
   |(refine rR ?_;refine st ?_)
   |(refine nx ?_;refine so ?_)
 ·have W:=trivial
  repeat' first|refine st ?_|(refine nx ?_;refine so ?_)|(refine cx ?_;refine sc (fun hc=>?_) (fun hc=>?_)<;>try exact hc.elim)|(refine lx ?_;refine sp (fun hc=>?_) (fun hc=>?_)<;>try exact hc.elim)|refine sx ?_ ?_|refine sy ?_ ?_|fail
  refine aQ (ι:={x:List iC×Nat // x.1.length≤20∧aZ jZ x.1≤aZ jZ ps∧1≤x.2}) (fun t o y=>⟨[.sl .view 1 (aN code),.undef,.ptr 0 0 0 0,.int .i64 0,.str [],.str [],.int .i64 0,.ptr 1 0 0 0,.ptr 13 0 0 0,.undef,.undef,.undef,.undef,.undef,.undef,.undef,.undef,.undef,.undef,.undef,.undef,.undef,.undef,.undef,.undef,.undef,.undef,.undef,.undef,.undef,.undef,.undef,.undef,.undef,.undef,.undef,.undef,.undef,.undef,.undef,.undef,.undef],(o.set 8 ⟨true,false,8,y.1.2,y.1.1.map gG⟩).set 13 ⟨true,true,22,0,[[.str pa.host,.str pa.path,.bool pp.isSet,.obj 2 1,.obj 3 1,.obj 4 1,.str pp.nonce,.str pt.rest,.obj 5 1,.bool pe,.obj 6 1,.obj 7 1,.obj 8 y.1.2,.obj 9 1,.obj 10 1,.int .i64 y1,.int .i64 y2,.int .i64 y3,.int .i64 y4,.obj 11 1,.obj 12 1,.bool pd]]⟩⟩)
   (fun y=>20 - y.1.1.length) ⟨(ps,1),hp3,Nat.le_refl _,Nat.le_refl _⟩ (aY (by simp) (by simp)) ?_
  rintro ⟨⟨sl,v⟩,hsl,hsz,hv⟩ K1 hK1
  simp only at hsl hsz hv
  have hK2:=hK1
  simp only [List.set_cons_succ,List.set_cons_zero] at hK1⊢
  clear hK1
  by_cases hlt:sl.length < 20
  ·have h1:(sl.length:Int) < 20:=by omega
   obtain ⟨l1,hl1⟩:∃m,m=sl++[(⟨1,⟨[],[]⟩,[],0,true,0,[]⟩:iC)]:=⟨_,rfl⟩
   have hap:sl.map gG++[[.int .i64 1,.str [],.str [],.str [],.int .i64 0,.bool true,.int .i64 0,.str []]]=l1.map gG:=by rw [hl1];simp [gG]
   have hb1:sl.length≤20:=hsl
   have hl2:l1.length=sl.length+1:=by rw [hl1];simp
   have hz2:aZ jZ l1=aZ jZ sl:=by rw [hl1,mF];simp [aZ,jZ,bG]
   have W:=And.intro h1 (And.intro hap hb1)
   repeat' first|refine st ?_|(refine nx ?_;refine so ?_)|(refine cx ?_;refine sc (fun hc=>?_) (fun hc=>?_)<;>try exact hc.elim)|(refine lx ?_;refine sp (fun hc=>?_) (fun hc=>?_)<;>try exact hc.elim)|refine sx ?_ ?_|refine sy ?_ ?_|fail
   refine hK2 _ ⟨(l1,v+1),by simp only;omega,by simp only;omega,by simp only;omega⟩ ?_ (by simp only;omega)
   exact aW 14 (by simp) (by simp) (by simp) (by simp)
  ·have h1:¬(sl.length:Int) < 20:=by omega
   have W:=h1
   repeat' first|refine st ?_|(refine nx ?_;refine so ?_)|(refine cx ?_;refine sc (fun hc=>?_) (fun hc=>?_)<;>try exact hc.elim)|(refine lx ?_;refine sp (fun hc=>?_) (fun hc=>?_)<;>try exact hc.elim)|refine sx ?_ ?_|refine sy ?_ ?_|fail
   refine cu (zZ) ?_
   rintro _ j1 g1 ⟨x,rfl,_,_,_⟩ hj1
   simp only [AS.drew,AS.called,aD,AS.put,aF,aC,aV,aM,aU,aK,aX,aL,List.set_cons_succ,List.set_cons_zero,List.append_nil,List.nil_append,List.cons_append]
   have W:=trivial
   repeat' first|refine st ?_|(refine nx ?_;refine so ?_)|(refine cx ?_;refine sc (fun hc=>?_) (fun hc=>?_)<;>try exact hc.elim)|(refine lx ?_;refine sp (fun hc=>?_) (fun hc=>?_)<;>try exact hc.elim)|refine sx ?_ ?_|refine sy ?_ ?_|fail
   refine dQ (i:=14) (ver:=1) (by rfl) (by rfl) ?_ (by simp [AS.frozen,dV,dY,frz,eO,aA.frz,aA.kill,rtr,rtc,rt];rfl)
   refine cu (bM aFr (by decide)) ?_
   rintro _ j2 g2 ⟨s1,hm1,rfl⟩ hj2
   simp only [AS.drew,AS.called,aD,AS.put,aF,aC,aV,aM,aU,aK,aX,aL,List.set_cons_succ,List.set_cons_zero,List.append_nil,List.nil_append,List.cons_append]
   have W:=trivial
   repeat' first|refine st ?_|(refine nx ?_;refine so ?_)|(refine cx ?_;refine sc (fun hc=>?_) (fun hc=>?_)<;>try exact hc.elim)|(refine lx ?_;refine sp (fun hc=>?_) (fun hc=>?_)<;>try exact hc.elim)|refine sx ?_ ?_|refine sy ?_ ?_|fail
   refine dQ (i:=15) (ver:=1) (by rfl) (by rfl) ?_ (by simp [AS.frozen,dV,dY,frz,eO,aA.frz,aA.kill,rtr,rtc,rt];rfl)
   refine cu (bM aFn (by decide)) ?_
   rintro _ j3 g3 ⟨s2,hm2,rfl⟩ hj3
   simp only [AS.drew,AS.called,aD,AS.put,aF,aC,aV,aM,aU,aK,aX,aL,List.set_cons_succ,List.set_cons_zero,List.append_nil,List.nil_append,List.cons_append]
   have W:=trivial
   repeat' first|refine st ?_|(refine nx ?_;refine so ?_)|(refine cx ?_;refine sc (fun hc=>?_) (fun hc=>?_)<;>try exact hc.elim)|(refine lx ?_;refine sp (fun hc=>?_) (fun hc=>?_)<;>try exact hc.elim)|refine sx ?_ ?_|refine sy ?_ ?_|fail
   refine mG (fun s'=>∃r,xQ r∧(dF Tryz.prog Tryz.f5 s' r∨jH Tryz.prog Tryz.f5 s' r)) (d:=[false,false,false,false,false,false,false,false,false,false,false]) rfl rfl ?_ (by intro s' h;simp only [eY,AIn,awp];exact ⟨by simp,h⟩)
   refine lH 1 rfl (by decide+kernel) (by decide+kernel) (by simp only [List.set_cons_succ,List.set_cons_zero];rfl) (by simp;rfl) ?_
   refine lH 2 rfl (by decide+kernel) (by decide+kernel) (by simp only [List.set_cons_succ,List.set_cons_zero];rfl) (by simp;rfl) ?_
   refine lH 3 rfl (by decide+kernel) (by decide+kernel) (by simp only [List.set_cons_succ,List.set_cons_zero];rfl) (by simp;rfl) ?_
   refine lH 4 rfl (by decide+kernel) (by decide+kernel) (by simp only [List.set_cons_succ,List.set_cons_zero];rfl) (by simp;rfl) ?_
   repeat' first
    |(refine yV ?_;refine aFw (by simp [Tryz.results5];rfl) (by simp) (by simp) ?_;simp only [single,res];exact ⟨⟨pa,pp,pt,pq,pe,pb,sl,pm,pn,y1,y2,y3,y4,pr,pl,pd⟩,x,s1,s2,y,by simp [eP,res,AV.isObj],by simp only [aJ,szL] at hp1⊢;omega,aC6 s1 hm1,aDs s2 hm2⟩)
    |refine yQ (by simp [Region.binds];rfl) ?_
    |refine yT ?_ ?_
    |refine zF rfl (by simp only [List.set_cons_succ,List.set_cons_zero];rfl) ?_
    |refine lV ?_
    |(refine nA 41 ?_;refine cu (dB 4) ?_;rintro _ j4 g4 ⟨y,rfl,_,_,_⟩ hj4;simp only [AS.drew,AS.called,aD,AS.put,aF,aC,aV,aM,aU,aK,aX,aL,List.set_cons_succ,List.set_cons_zero,List.append_nil,List.nil_append,List.cons_append])
    |(refine rR ?_;refine st ?_)
    |(refine nx ?_;refine so ?_)
end Go.Proofs.YtejigeoigebhcaaGreat
