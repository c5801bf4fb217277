/-
  Proved here: steps towards the statement of this claim, text DRD.
  No condition beyond what each statement spells out.
-/
import Derived.Test.YtkidoegojckmiaaGreatDoorADRB
import Derived.Test.YtkidoegojckmiaaGreatDoorAQR7
import Derived.Test.YtkidoegojckmiaaGreatDoorAF8
set_option linter.all false
set_option maxRecDepth 4000
set_option maxHeartbeats 4000000
namespace Go.Proofs.YtkidoegojckmiaaGreatDoor
open Go.Aw
def aS9:List Str:=[[115,97,121,32,97],[112,58,55],[]]
theorem aRn:∀s∈aS9,s.length≤5:=by decide
theorem aC6 {α:Type} (f:α→Nat) (c:Nat):∀l:List α,(∀x∈l,f x≤c)→bD f l≤c * l.length
 |[],_=>by simp [bD]
 |x::l,h=>by
  have h1:=h x (by simp)
  have h2:=aC6 f c l (fun y hy=>h y (by simp [hy]))
  simp only [bD,List.length_cons,Nat.mul_succ];omega
theorem aQc {l:List kP} (h:upA (l.map (·.to))):aIk l:=by
 unfold upA at h;unfold aIk;rw [List.pairwise_map] at h;exact h
structure aHz (p : aZ) : Prop where
  sz : bK p ≤ 7000
  up : aIk p.mods
  sl : p.slots.length ≤ 20
  ml : p.mods.length ≤ 5
def aSm (o:Tg) (r:AV):Prop:=∃p:aZ,r= .agg (aU o p)∧aHz p
theorem aKj [aB Tryz.prog] [bV Tryz.prog]:OkC Tryz.prog 51 [] (aSm .own):=by
 refine aWs Tryz.mix [5,9] Tryz.func51 Tryz.ntmps51 ?_
 intro code i h hi hl
 simp only [aD]
 have W:=trivial
 repeat' first|refine st ?_|(refine nx ?_;refine so ?_)|(refine cx ?_;refine sc (fun hc=>?_) (fun hc=>?_)<;>try exact hc.elim)|(refine lx ?_;refine sp (fun hc=>?_) (fun hc=>?_)<;>try exact hc.elim)|refine sx ?_ ?_|refine sy ?_ ?_|fail
 refine cu (aL1) ?_
 rintro _ i1 h1 ⟨p,rfl,hp⟩ hi1
 simp only [AS.drew,AS.called,aD,AS.put,aF,aC,aX,aP,aV,aN,aY,aQ,List.set_cons_succ,List.set_cons_zero,List.append_nil,List.nil_append,List.cons_append]
 obtain ⟨hp1,hp2,hp3,hp4⟩:=hp
 obtain ⟨pa,pp,pt,pq,pe,pb,ps,pm,pn,y1,y2,y3,y4,pr,pl,pd⟩:=p
 simp only at hp2 hp3 hp4
 subst hp2 hp3 hp4
 simp only [aU,List.map_nil]
 have W:=trivial
 repeat' first|refine st ?_|(refine nx ?_;refine so ?_)|(refine cx ?_;refine sc (fun hc=>?_) (fun hc=>?_)<;>try exact hc.elim)|(refine lx ?_;refine sp (fun hc=>?_) (fun hc=>?_)<;>try exact hc.elim)|refine sx ?_ ?_|refine sy ?_ ?_|fail
 refine cu (dF 4) ?_
 rintro _ i2 h2 ⟨x,rfl,x0,x1,x2⟩ hi2
 simp only [AS.drew,AS.called,aD,AS.put,aF,aC,aX,aP,aV,aN,aY,aQ,List.set_cons_succ,List.set_cons_zero,List.append_nil,List.nil_append,List.cons_append]
 obtain ⟨n,rfl⟩:=Int.eq_ofNat_of_zero_le x0
 have hn:n≤3:=by omega
 have W:=trivial
 repeat' first|refine st ?_|(refine nx ?_;refine so ?_)|(refine cx ?_;refine sc (fun hc=>?_) (fun hc=>?_)<;>try exact hc.elim)|(refine lx ?_;refine sp (fun hc=>?_) (fun hc=>?_)<;>try exact hc.elim)|refine sx ?_ ?_|refine sy ?_ ?_|fail
 refine aJ (ι:={x:Nat×List dR×Nat×Int×Int // x.1≤3∧x.2.1.length+x.1≤3∧(∀s∈x.2.1,fC s≤20)∧1≤x.2.2.1∧0≤x.2.2.2.1}) (fun t o y=>⟨[.ptr 0 2 0 0,.undef,.ptr 1 0 0 0,.ptr 13 0 0 0,.int .i64 (y.1.1:Int),.undef,.undef,.undef,.undef,.undef,.undef,.undef,.undef,.undef,.undef,.undef,.undef,.undef,.undef,.undef,.undef,.undef,.undef,.undef,.undef,.undef,.undef,.undef,.undef,.undef,.undef,.undef,.undef,.undef,.undef,.undef,.undef,.undef,.undef,.undef,.undef,.undef,.undef,.undef,.undef,.undef,.undef,.undef,.undef,.undef,.undef,.undef,.undef,.undef,.undef,.undef,.undef,.undef],((o.set 0 ⟨true,true,3,2,[[.sl .view 1 (aM code),.int .i64 y.1.2.2.2.1,.int .i64 y.1.2.2.2.2]]⟩).set 8 ⟨true,false,8,y.1.2.2.1,y.1.2.1.map jG⟩).set 13 ⟨true,true,22,0,[[.str pa.host,.str pa.path,.bool pp.isSet,.obj 2 1,.obj 3 1,.obj 4 1,.str pp.nonce,.str pt.rest,.obj 5 1,.bool pe,.obj 6 1,.obj 7 1,.obj 8 y.1.2.2.1,.obj 9 1,.obj 10 1,.int .i64 y1,.int .i64 y2,.int .i64 y3,.int .i64 y4,.obj 11 1,.obj 12 1,.bool pd]]⟩⟩)
  (fun y=>y.1.1) ⟨(n,[],1,i2,h2),hn,by simp only [List.length_nil];omega,by simp,by simp,hi2⟩ (aH (by simp) (by simp)) ?_
 rintro ⟨⟨k,l,v,j,g⟩,hk,hlk,hs,hv,hj⟩ K1 hK1
 simp only at hk hlk hs hv hj
 have hK2:=hK1
 simp only [List.set_cons_succ,List.set_cons_zero] at hK1⊢
 clear hK1
 by_cases h0:0 < k
 ·have hk0:(k:Int) > 0:=by omega
  have hk1:IntKind.i64.wrap ((k:Int) - 1)=((k - 1:Nat):Int):=by rw [wrap64]<;>omega
  have W:=hk0
  repeat' first|refine st ?_|(refine nx ?_;refine so ?_)|(refine cx ?_;refine sc (fun hc=>?_) (fun hc=>?_)<;>try exact hc.elim)|(refine lx ?_;refine sp (fun hc=>?_) (fun hc=>?_)<;>try exact hc.elim)|refine sx ?_ ?_|refine sy ?_ ?_|fail
  refine tV (fun s'=>∃(s:dR) (j' g':Int),fC s≤20∧0≤j'∧eT s' ⟨[.ptr 0 2 0 0,.undef,.ptr 1 0 0 0,.ptr 13 0 0 0,.int .i64 (k:Int),.undef,.undef,.undef,.undef,.undef,.undef,.undef,.undef,.undef,.undef,.undef,.undef,.undef,.undef,.undef,.undef,.undef,.undef,.undef,.undef,.undef,.undef,.undef,.undef,.undef,.undef,.undef,.undef,.undef,.undef,.undef,.undef,.undef,.undef,.undef,.undef,.undef,.undef,.undef,.undef,.undef,.undef,.undef,.undef,.undef,.undef,.undef,.undef,.undef,.undef,.undef,.undef,.undef],[⟨true,true,3,2,[[.sl .view 1 (aM code),.int .i64 j',.int .i64 g']]⟩,⟨true,true,22,0,[[.str [],.str [],.bool false,.sl .own 1 [],.sl .own 1 [],.sl .own 1 [],.str [],.str [],.sl .own 4 [],.bool false,.sl .own 4 [],.sl .own 1 [],.sl .own 8 [],.sl .own 5 [],.sl .own 2 [],.int .i64 0,.int .i64 0,.int .i64 0,.int .i64 0,.sl .own 2 [],.sl .own 1 [],.bool false]]⟩,
   ⟨true,false,1,1,pp.scripts.map aK⟩,⟨true,false,1,1,pp.styles.map aK⟩,⟨true,false,1,1,pp.images.map aK⟩,⟨true,false,4,1,pq.map (bP .own)⟩,⟨true,false,4,1,pb.nodes.map (dE .own)⟩,⟨true,false,1,1,pb.opens.map jT⟩,⟨true,false,8,v+1,(l++[s]).map jG⟩,⟨true,false,5,1,[]⟩,⟨true,false,2,1,[]⟩,⟨true,false,2,1,pr.map bF⟩,⟨true,false,1,1,pl.map aK⟩,
   ⟨true,true,22,0,[[.str pa.host,.str pa.path,.bool pp.isSet,.obj 2 1,.obj 3 1,.obj 4 1,.str pp.nonce,.str pt.rest,.obj 5 1,.bool pe,.obj 6 1,.obj 7 1,.obj 8 (v+1),.obj 9 (1),.obj 10 1,.int .i64 y1,.int .i64 y2,.int .i64 y3,.int .i64 y4,.obj 11 1,.obj 12 1,.bool pd]]⟩]⟩) (d:=[false,false,false,false,false,false,false,false,false,false,false,false,false,false,false,false,false,false,false,false]) rfl rfl ?_ ?_
  ·clear hK2
   refine aSc 0 rfl (by decide+kernel) (by decide+kernel) (by simp only [List.set_cons_succ,List.set_cons_zero];rfl) rfl rfl (by simp;rfl) (by simp only [AS.put,List.set_cons_succ,List.set_cons_zero];rfl) ?_
   refine wR 2 rfl (by decide+kernel) (by decide+kernel) (by simp only [List.set_cons_succ,List.set_cons_zero];rfl) (by simp;rfl) ?_
   refine wR 5 rfl (by decide+kernel) (by decide+kernel) (by simp only [List.set_cons_succ,List.set_cons_zero];rfl) (by simp;rfl) ?_
   refine wR 7 rfl (by decide+kernel) (by decide+kernel) (by simp only [List.set_cons_succ,List.set_cons_zero];rfl) (by simp;rfl) ?_
   refine wR 9 rfl (by decide+kernel) (by decide+kernel) (by simp only [List.set_cons_succ,List.set_cons_zero];rfl) (by simp;rfl) ?_
   refine wR 12 rfl (by decide+kernel) (by decide+kernel) (by simp only [List.set_cons_succ,List.set_cons_zero];rfl) (by simp;rfl) ?_
   repeat' first
    |(refine aH3 ?_;exact ⟨⟨1+x1,a,[],0,b,1+x2,q⟩,j5,g5,by simp only [fC,List.length_nil];omega,hj5,aG 14 (by simp [jG]) (by simp) (by simp) (by simp)⟩)
    |refine aNv 4 rfl (by decide+kernel) (by decide+kernel) (by simp only [List.set_cons_succ,List.set_cons_zero];rfl) rfl rfl rfl (by simp only [AS.put,List.set_cons_succ,List.set_cons_zero];rfl) ?_
    |refine aNv 11 rfl (by decide+kernel) (by decide+kernel) (by simp only [List.set_cons_succ,List.set_cons_zero];rfl) rfl rfl rfl (by simp only [AS.put,List.set_cons_succ,List.set_cons_zero];rfl) ?_
    |refine aH0 (by simp [Region.binds];rfl) ?_
    |refine aH1 ?_ ?_
    |refine aHx rfl (by simp only [List.set_cons_succ,List.set_cons_zero];rfl) ?_
    |refine qZ ?_
    |(refine rU 18 ?_;refine cu (dF 4) ?_;rintro _ j1 g1 ⟨x1,rfl,x10,x11,x12⟩ hj1;simp only [AS.drew,AS.called,aD,AS.put,aF,aC,aX,aP,aV,aN,aY,aQ,List.set_cons_succ,List.set_cons_zero,List.append_nil,List.nil_append,List.cons_append])
    |(refine rU 21 ?_;refine cu wJ ?_;rintro _ j2 g2 ⟨a,rfl,ha⟩ hj2;simp only [bF];simp only [AS.drew,AS.called,aD,AS.put,aF,aC,aX,aP,aV,aN,aY,aQ,List.set_cons_succ,List.set_cons_zero,List.append_nil,List.nil_append,List.cons_append])
    |(refine rU 23 ?_;refine cu (iD 2) ?_;rintro _ j3 g3 ⟨b,rfl⟩ hj3;simp only [AS.drew,AS.called,aD,AS.put,aF,aC,aX,aP,aV,aN,aY,aQ,List.set_cons_succ,List.set_cons_zero,List.append_nil,List.nil_append,List.cons_append])
    |(refine rU 25 ?_;refine cu (dF 6) ?_;rintro _ j4 g4 ⟨x2,rfl,x20,x21,x22⟩ hj4;simp only [AS.drew,AS.called,aD,AS.put,aF,aC,aX,aP,aV,aN,aY,aQ,List.set_cons_succ,List.set_cons_zero,List.append_nil,List.nil_append,List.cons_append])
    |(refine rU 29 ?_;refine eD (i:=14) (ver:=1) (by rfl) (by rfl) ?_ (by simp [AS.frozen,eQ,fD,frz,fH,aA.frz,aA.kill,rtr,rtc,rt];rfl);refine cu (cO aS9 (by decide)) ?_;rintro _ j5 g5 ⟨q,hq,rfl⟩ hj5;have hql:=aRn q hq;simp only [AS.drew,AS.called,aD,AS.put,aF,aC,aX,aP,aV,aN,aY,aQ,List.set_cons_succ,List.set_cons_zero,List.append_nil,List.nil_append,List.cons_append])
    |(refine aBk ?_;refine st ?_)
    |(refine nx ?_;refine so ?_)
  ·rintro s' ⟨s,j',g',hs',hj',hw⟩
   simp only [AIn,gI]
   refine tJ hw ?_
   have W:=hk1
   repeat' first|refine st ?_|(refine nx ?_;refine so ?_)|(refine cx ?_;refine sc (fun hc=>?_) (fun hc=>?_)<;>try exact hc.elim)|(refine lx ?_;refine sp (fun hc=>?_) (fun hc=>?_)<;>try exact hc.elim)|refine sx ?_ ?_|refine sy ?_ ?_|fail
   refine hK2 _ ⟨(k - 1,l++[s],v+1,j',g'),by simp only;omega,by simp only [List.length_append,List.length_cons,List.length_nil];omega,fun z hz=> ?_,by simp only;omega,hj'⟩ (aH (by simp) (by simp)) (by simp only;omega)
   rcases List.mem_append.1 hz with h|h
   ·exact hs z h
   ·simp only [List.mem_singleton] at h;subst h;exact hs'
 ·have hk0:¬(k:Int) > 0:=by omega
  clear hK2
  have W:=hk0
  repeat' first|refine st ?_|(refine nx ?_;refine so ?_)|(refine cx ?_;refine sc (fun hc=>?_) (fun hc=>?_)<;>try exact hc.elim)|(refine lx ?_;refine sp (fun hc=>?_) (fun hc=>?_)<;>try exact hc.elim)|refine sx ?_ ?_|refine sy ?_ ?_|fail
  refine cu (aIt) ?_
  rintro _ i3 h3 ⟨la,rfl,hla,hla2⟩ hi3
  simp only [AS.drew,AS.called,aD,AS.put,aF,aC,aX,aP,aV,aN,aY,aQ,List.set_cons_succ,List.set_cons_zero,List.append_nil,List.nil_append,List.cons_append]
  have W:=trivial
  repeat' first|refine st ?_|(refine nx ?_;refine so ?_)|(refine cx ?_;refine sc (fun hc=>?_) (fun hc=>?_)<;>try exact hc.elim)|(refine lx ?_;refine sp (fun hc=>?_) (fun hc=>?_)<;>try exact hc.elim)|refine sx ?_ ?_|refine sy ?_ ?_|fail
  refine ce (aCm la (by omega)) ?_
  rintro _ ⟨lm,rfl,hup,hlm,hsub⟩
  simp only [AS.called,AS.put,aF,aC,aX,aP,aV,aN,aY,aQ,List.set_cons_succ,List.set_cons_zero,List.append_nil,List.nil_append,List.cons_append]
  have W:=trivial
  repeat' first|refine st ?_|(refine nx ?_;refine so ?_)|(refine cx ?_;refine sc (fun hc=>?_) (fun hc=>?_)<;>try exact hc.elim)|(refine lx ?_;refine sp (fun hc=>?_) (fun hc=>?_)<;>try exact hc.elim)|refine sx ?_ ?_|refine sy ?_ ?_|fail
  refine aJ (ι:={x:Nat×List kP×Nat×Int×Int // x.1≤lm.length∧x.2.1.map (·.to)=lm.take x.1∧(∀z∈x.2.1,uZ z≤540)∧1≤x.2.2.1∧0≤x.2.2.2.1}) (fun t o y=>⟨[.ptr 0 2 0 0,.undef,.ptr 1 0 0 0,.ptr 13 0 0 0,.undef,.undef,.undef,.undef,.undef,.undef,.undef,.undef,.undef,.undef,.undef,.undef,.undef,.undef,.undef,.undef,.undef,.undef,.undef,.undef,.undef,.undef,.undef,.undef,.undef,.undef,.undef,.undef,.undef,.undef,.undef,.undef,.sl .view 2 (lm.map bF),.int .i64 (lm.length:Int),.int .i64 (y.1.1:Int),.undef,.undef,.undef,.undef,.undef,.undef,.undef,.undef,.undef,.undef,.undef,.undef,.undef,.undef,.undef,.undef,.undef,.undef,.undef],((o.set 0 ⟨true,true,3,2,[[.sl .view 1 (aM code),.int .i64 y.1.2.2.2.1,.int .i64 y.1.2.2.2.2]]⟩).set 9 ⟨true,false,5,y.1.2.2.1,y.1.2.1.map jB⟩).set 13 ⟨true,true,22,0,[[.str pa.host,.str pa.path,.bool pp.isSet,.obj 2 1,.obj 3 1,.obj 4 1,.str pp.nonce,.str pt.rest,.obj 5 1,.bool pe,.obj 6 1,.obj 7 1,.obj 8 v,.obj 9 y.1.2.2.1,.obj 10 1,.int .i64 y1,.int .i64 y2,.int .i64 y3,.int .i64 y4,.obj 11 1,.obj 12 1,.bool pd]]⟩⟩)
   (fun y=>lm.length - y.1.1) ⟨(0,[],1,i3,h3),by simp,by simp,by simp,by simp,hi3⟩ (aH (by simp) (by simp)) ?_
  rintro ⟨⟨d,ml,w,j,g⟩,hd,hto,hms,hw,hj⟩ K3 hK3
  simp only at hd hto hms hw hj
  have hK4:=hK3
  simp only [List.set_cons_succ,List.set_cons_zero] at hK3⊢
  clear hK3
  have hml:ml.length=d:=by
   have:=congrArg List.length hto
   simp only [List.length_map,List.length_take] at this
   omega
  by_cases hlt:d < lm.length
  ·have hdi:(d:Int) < (lm.length:Int):=by omega
   have hd1:IntKind.i64.wrap ((d:Int)+1)=((d+1:Nat):Int):=by rw [wrap64]<;>omega
   have hg:=List.getElem?_eq_getElem hlt
   have hts:=List.take_succ_eq_append_getElem hlt
   have ham:eH lm[d]≤9:=hla2 _ (hsub _ (List.getElem_mem hlt))
   generalize lm[d]=a at *
   have W:=And.intro hdi hg
   repeat' first|refine st ?_|(refine nx ?_;refine so ?_)|(refine cx ?_;refine sc (fun hc=>?_) (fun hc=>?_)<;>try exact hc.elim)|(refine lx ?_;refine sp (fun hc=>?_) (fun hc=>?_)<;>try exact hc.elim)|refine sx ?_ ?_|refine sy ?_ ?_|fail
   refine tV (fun s'=>∃(m:kP) (j' g':Int),m.to=a∧uZ m≤540∧0≤j'∧eT s' ⟨[.ptr 0 2 0 0,.undef,.ptr 1 0 0 0,.ptr 13 0 0 0,.undef,.undef,.undef,.undef,.undef,.undef,.undef,.undef,.undef,.undef,.undef,.undef,.undef,.undef,.undef,.undef,.undef,.undef,.undef,.undef,.undef,.undef,.undef,.undef,.undef,.undef,.undef,.undef,.undef,.undef,.undef,.undef,.sl .view 2 (lm.map bF),.int .i64 (lm.length:Int),.int .i64 (d:Int),.undef,.undef,.undef,.undef,.undef,.undef,.undef,.undef,.undef,.undef,.undef,.undef,.undef,.undef,.undef,.undef,.undef,.undef,.undef],[⟨true,true,3,2,[[.sl .view 1 (aM code),.int .i64 j',.int .i64 g']]⟩,⟨true,true,22,0,[[.str [],.str [],.bool false,.sl .own 1 [],.sl .own 1 [],.sl .own 1 [],.str [],.str [],.sl .own 4 [],.bool false,.sl .own 4 [],.sl .own 1 [],.sl .own 8 [],.sl .own 5 [],.sl .own 2 [],.int .i64 0,.int .i64 0,.int .i64 0,.int .i64 0,.sl .own 2 [],.sl .own 1 [],.bool false]]⟩,
   ⟨true,false,1,1,pp.scripts.map aK⟩,⟨true,false,1,1,pp.styles.map aK⟩,⟨true,false,1,1,pp.images.map aK⟩,⟨true,false,4,1,pq.map (bP .own)⟩,⟨true,false,4,1,pb.nodes.map (dE .own)⟩,⟨true,false,1,1,pb.opens.map jT⟩,⟨true,false,8,v,l.map jG⟩,⟨true,false,5,w+1,(ml++[m]).map jB⟩,⟨true,false,2,1,[]⟩,⟨true,false,2,1,pr.map bF⟩,⟨true,false,1,1,pl.map aK⟩,
   ⟨true,true,22,0,[[.str pa.host,.str pa.path,.bool pp.isSet,.obj 2 1,.obj 3 1,.obj 4 1,.str pp.nonce,.str pt.rest,.obj 5 1,.bool pe,.obj 6 1,.obj 7 1,.obj 8 v,.obj 9 (w+1),.obj 10 1,.int .i64 y1,.int .i64 y2,.int .i64 y3,.int .i64 y4,.obj 11 1,.obj 12 1,.bool pd]]⟩]⟩) (d:=[false,false,false,false,false,false,false,false,false,false,false,false,false,false,false]) rfl rfl ?_ ?_
   ·clear hK4
    refine aSc 0 rfl (by decide+kernel) (by decide+kernel) (by simp only [List.set_cons_succ,List.set_cons_zero];rfl) rfl rfl (by simp;rfl) (by simp only [AS.put,List.set_cons_succ,List.set_cons_zero];rfl) ?_
    refine wR 3 rfl (by decide+kernel) (by decide+kernel) (by simp only [List.set_cons_succ,List.set_cons_zero];rfl) (by simp;rfl) ?_
    refine wR 5 rfl (by decide+kernel) (by decide+kernel) (by simp only [List.set_cons_succ,List.set_cons_zero];rfl) (by simp;rfl) ?_
    refine wR 8 rfl (by decide+kernel) (by decide+kernel) (by simp only [List.set_cons_succ,List.set_cons_zero];rfl) (by simp;rfl) ?_
    repeat' first
     |(refine aH3 ?_;exact ⟨⟨a,b,1+x1,q⟩,j3,g3,rfl,by simp only [uZ];omega,hj3,aG 14 (by simp [jB]) (by simp) (by simp) (by simp)⟩)
     |refine aNv 7 rfl (by decide+kernel) (by decide+kernel) (by simp only [List.set_cons_succ,List.set_cons_zero];rfl) rfl rfl rfl (by simp only [AS.put,List.set_cons_succ,List.set_cons_zero];rfl) ?_
     |refine aH0 (by simp [Region.binds];rfl) ?_
     |refine aH1 ?_ ?_
     |refine aHx rfl (by simp only [List.set_cons_succ,List.set_cons_zero];rfl) ?_
     |refine qZ ?_
     |(refine rU 46 ?_;refine cu (iD 2) ?_;rintro _ j1 g1 ⟨b,rfl⟩ hj1;simp only [AS.drew,AS.called,aD,AS.put,aF,aC,aX,aP,aV,aN,aY,aQ,List.set_cons_succ,List.set_cons_zero,List.append_nil,List.nil_append,List.cons_append])
     |(refine rU 48 ?_;refine cu (dF 3) ?_;rintro _ j2 g2 ⟨x1,rfl,x10,x11,x12⟩ hj2;simp only [AS.drew,AS.called,aD,AS.put,aF,aC,aX,aP,aV,aN,aY,aQ,List.set_cons_succ,List.set_cons_zero,List.append_nil,List.nil_append,List.cons_append])
     |(refine rU 51 ?_;refine cu (aB7 5) ?_;rintro _ j3 g3 ⟨q,rfl,hq⟩ hj3;simp only [AS.drew,AS.called,aD,AS.put,aF,aC,aX,aP,aV,aN,aY,aQ,List.set_cons_succ,List.set_cons_zero,List.append_nil,List.nil_append,List.cons_append])
     |(refine aBk ?_;refine st ?_)
     |(refine nx ?_;refine so ?_)
   ·rintro s' ⟨m,j',g',hmt,hs',hj',hw'⟩
    simp only [AIn,gI]
    refine tJ hw' ?_
    have W:=hd1
    repeat' first|refine st ?_|(refine nx ?_;refine so ?_)|(refine cx ?_;refine sc (fun hc=>?_) (fun hc=>?_)<;>try exact hc.elim)|(refine lx ?_;refine sp (fun hc=>?_) (fun hc=>?_)<;>try exact hc.elim)|refine sx ?_ ?_|refine sy ?_ ?_|fail
    refine hK4 _ ⟨(d+1,ml++[m],w+1,j',g'),by simp only;omega,by simp only [List.map_append,List.map_cons,List.map_nil,hto,hmt,hts],fun z hz=> ?_,by simp only;omega,hj'⟩ (aH (by simp) (by simp)) (by simp only;omega)
    rcases List.mem_append.1 hz with h|h
    ·exact hms z h
    ·simp only [List.mem_singleton] at h;subst h;exact hs'
  ·have hdi:¬(d:Int) < (lm.length:Int):=by omega
   have W:=hdi
   repeat' first|refine st ?_|(refine nx ?_;refine so ?_)|(refine cx ?_;refine sc (fun hc=>?_) (fun hc=>?_)<;>try exact hc.elim)|(refine lx ?_;refine sp (fun hc=>?_) (fun hc=>?_)<;>try exact hc.elim)|refine sx ?_ ?_|refine sy ?_ ?_|fail
   refine ⟨.inr rfl,dS (by simp [Tryz.results51];rfl) (by rfl) (by rfl) (by omega) (by simp) (by simp) ?_⟩
   simp only [single,res]
   have hdl:d=lm.length:=by omega
   subst hdl
   rw [List.take_length] at hto
   have z1:=aC6 fC 20 l hs
   have z2:=aC6 uZ 540 ml hms
   refine ⟨⟨pa,pp,pt,pq,pe,pb,l,ml,[],y1,y2,y3,y4,pr,pl,pd⟩,by simp [fI,res,AV.isObj],?_,?_,by simp only;omega,by simp only;omega⟩
   ·simp only [bK,szL,List.length_nil,bD] at hp1⊢
    omega
   ·refine aQc ?_
    rw [hto];exact hup
end Go.Proofs.YtkidoegojckmiaaGreatDoor
