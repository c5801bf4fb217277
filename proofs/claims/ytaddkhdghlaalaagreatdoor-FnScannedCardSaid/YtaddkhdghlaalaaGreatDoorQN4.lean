/-
  Proved here: steps towards the statement of this claim, text QN4.
  No condition beyond what each statement spells out.
-/
import Derived.Test.YtaddkhdghlaalaaGreatDoorQTK7
import Derived.Test.YtaddkhdghlaalaaGreatDoorQST4
import Derived.Test.YtaddkhdghlaalaaGreatDoorQSV4
import Derived.Test.YtaddkhdghlaalaaGreatDoorF8
set_option linter.all false
set_option maxRecDepth 8000
set_option maxHeartbeats 8000000
namespace Go.Proofs.YtaddkhdghlaalaaGreatDoor
open Go.Aw
def qE {α β:Type} (f:α→β) (l:List α):List β:=l.map f
@[simp] theorem bBz {α β:Type} (f:α→β):qE f []=[]:=rfl
theorem aCm {α β:Type} (f:α→β) (l:List α) (k:Nat) (h:k < l.length):qE f (l.take (k+1))=qE f (l.take k)++[f l[k]]:=by
 simp only [qE]
 rw [List.take_succ_eq_append_getElem h,List.map_append]
 rfl
theorem vH {α β:Type} (f:α→β) (l:List α):(qE f l).length=l.length:=List.length_map _
def tZ (p:aC):List dA:=qE (mQ p) (places sH 0 p.slots)++qE (tQ p) (places sM 0 p.mods)
theorem aJ1 [aB Tryz.prog] (p:aC) (hl:p.slots.length≤1048576) (hm:p.mods.length≤1048576):Ok Tryz.prog 77 [.agg (aG .view p)] (.sl .own 5 ((tZ p).map bT)):=by
 have k1:=aA8 p (by omega)
 have k2:=aB4 p (by omega)
 have m1:=aEs sH p.slots 0
 have m2:=aEs sM p.mods 0
 have n1:=oK sH p.slots 0
 have n2:=oK sM p.mods 0
 unfold tZ
 generalize places sH 0 p.slots=ps at *
 generalize places sM 0 p.mods=pm at *
 refine ent Tryz.mix Tryz.func77 Tryz.ntmps77 ?_
 refine bA ?_
 refine aR (ι:={q:Nat×Nat // q.1≤ps.length∧1≤q.2}) (fun t o i=>⟨aS t [(3,.obj 1 i.1.2),(5,.int .i64 i.1.1)],o.take 1++[⟨true,false,5,i.1.2,(qE (mQ p) (ps.take i.1.1)).map bT⟩]++[⟨true,false,1,1,ps.map jI⟩]⟩)
  (fun i=>ps.length - i.1.1) ⟨(0,1),by simp,by first|(simp;done)|(simp only;omega)⟩ aO ?_
 rintro ⟨⟨k,v⟩,hk,hv⟩ K1 hK1
 simp only at hk hv
 simp only [aS,List.set_cons_succ,List.set_cons_zero,List.take_succ_cons,List.take_zero,List.cons_append,List.nil_append] at hK1⊢
 have hk1:=wk1 (k:=k) (by omega)
 by_cases hlt:k < ps.length
 ·have hg:=List.getElem?_eq_getElem hlt
  have hps:=aCm (mQ p) ps k hlt
  have hpl:=vH (mQ p) (ps.take k)
  have htl:(ps.take k).length=k:=by simp;omega
  generalize qE (mQ p) (ps.take k)=g at *
  have hb1:(g.length+1) * 72≤140737488355328:=by omega
  have hb2:g.length+1≤9223372036854775807:=by omega
  have hb3:g.length≤9223372036854775806:=by omega
  have hz:=m1 _ (List.getElem_mem hlt)
  have c1:=tO p ps[k] (by omega) (by omega) (by omega)
  simp only [aG,bT] at c1
  have W:=And.intro hk1 (And.intro hg (And.intro hlt (And.intro hb1 (And.intro hb2 hb3))))
  refine wl ?_
  refine hK1 _ ⟨(k+1,v+1),by simp only;omega,by simp only;omega⟩ (aN 3 (by simp [hps])) (by simp only;omega)
 ·have htk:ps.take k=ps:=List.take_of_length_le (by omega)
  rw [htk]
  have hL1:=vH (mQ p) ps
  generalize hG:qE (mQ p) ps=G at *
  have W:=hk1
  refine wl ?_
  refine aR (ι:={q:Nat×Nat // q.1≤pm.length∧1≤q.2}) (fun t o i=>⟨aS t [(3,.obj 1 i.1.2),(7,.int .i64 i.1.1)],o.take 1++[⟨true,false,5,i.1.2,(G++qE (tQ p) (pm.take i.1.1)).map bT⟩]++[⟨true,false,1,1,ps.map jI⟩,⟨true,false,1,1,pm.map jI⟩]⟩)
   (fun i=>pm.length - i.1.1) ⟨(0,v),by simp,by first|(simp;done)|(simp only;omega)⟩ aO ?_
  rintro ⟨⟨k,v⟩,hk,hv⟩ K1 hK1
  simp only at hk hv
  simp only [aS,List.set_cons_succ,List.set_cons_zero,List.take_succ_cons,List.take_zero,List.cons_append,List.nil_append] at hK1⊢
  have hk1:=wk1 (k:=k) (by omega)
  by_cases hlt:k < pm.length
  ·have hg:=List.getElem?_eq_getElem hlt
   have hps:=aCm (tQ p) pm k hlt
   have hpl:=vH (tQ p) (pm.take k)
   have htl:(pm.take k).length=k:=by simp;omega
   generalize qE (tQ p) (pm.take k)=g at *
   have hb1:(G.length+g.length+1) * 72≤140737488355328:=by omega
   have hb2:G.length+g.length+1≤9223372036854775807:=by omega
   have hb3:G.length+g.length≤9223372036854775806:=by omega
   have hz:=m2 _ (List.getElem_mem hlt)
   have c1:=aAp p pm[k] (by omega) (by omega) (by omega)
   simp only [aG,bT] at c1
   have W:=And.intro hk1 (And.intro hg (And.intro hlt (And.intro hb1 (And.intro hb2 hb3))))
   refine wl ?_
   refine hK1 _ ⟨(k+1,v+1),by simp only;omega,by simp only;omega⟩ (aN 4 (by simp [hps])) (by simp only;omega)
  ·have htk:pm.take k=pm:=List.take_of_length_le (by omega)
   rw [htk]
   have W:=hk1
   refine wl ?_
   all_goals (try (refine ⟨.inr rfl,?_⟩;simp [Hands,Tryz.results77]))
   all_goals first|(rw [←List.map_append];exact aDj _)|(simp [hG];rw [←List.map_append];exact aDj _)|fail
theorem aSw (l:List dS) (a:aD):dC (sN l a)≤szL bQ l+100:=by
 unfold sN
 split
 ·rename_i s hs
  split
  ·rename_i f hf
   have h1:=dL bQ (List.mem_of_find?_eq_some hs)
   have h2:=dL aAf (List.mem_of_find?_eq_some hf)
   simp only [szL,bQ,aAf] at *
   omega
  ·simp [dC,yP];try omega
 ·simp [dC,yP];try omega
theorem bCg {p:aC} {r:dA} (h:r∈tZ p):aI r.to≤aJ p:=by
 unfold tZ at h
 rcases List.mem_append.1 h with h|h
 ·obtain ⟨x,hx,rfl⟩:=List.mem_map.1 h
  unfold mQ
  split
  ·rename_i s hs
   have h7:=dL kH (List.mem_of_getElem? hs)
   simp only [kH,iN,aJ,szL] at *;omega
  ·simp [aI,aQq]
 ·obtain ⟨x,hx,rfl⟩:=List.mem_map.1 h
  unfold tQ
  split
  ·rename_i s hs
   have h7:=dL bI (List.mem_of_getElem? hs)
   simp only [bI,iE,aJ,szL] at *;omega
  ·simp [aI,aQq]
structure uR (n e : Nat) (p : aC) : Prop where
  on : OnP n e p
  ho : p.addr.host.length ≤ 4000
theorem aW0 {p:aC} (h:aF8 4000 p):uR 21000000 680 p:=⟨bCu (by have:=h.sz;omega) h.mods h.slots h.ents,by have:=h.sz;simp only [aJ,aI] at this;omega⟩
theorem bC8 {n e:Nat} {p:aC} (h:uR n e p) (hn:n+1442000≤33000000) (he:e≤16777216):uR (n+1442000) e (advance p):=⟨aMb h.on hn he,by rw [show (advance p).addr=p.addr from aAk 2000 p];exact h.ho⟩
theorem bDq {n e:Nat} {p:aC} (a:aD) (x:aV) (h:uR n e p) (hn:n+1453000≤33000000) (he:e+1400≤16777216):uR (n+1453000) (e+1400) (qN p a x):=⟨aZd a x h.on hn he,by rw [aLs];exact h.ho⟩
theorem uR.up {n e n2 e2:Nat} {q:aC} (h:uR n e q) (h1:n≤n2) (h2:e≤e2):uR n2 e2 q:=⟨h.on.up h1 h2,h.ho⟩
def bIm (r:AV):Prop:=∃(p:aC) (l:List dS),r= .tup [.agg (aG .view p),.sl .view 2 (l.map (bJ .view))]∧uR 30000000 8000 p∧szL bQ l≤24000
theorem aUi [aB Tryz.prog] [dB Tryz.prog]:OkC Tryz.prog 47 [] bIm:=by
 refine bIi Tryz.mix [3] Tryz.func47 Tryz.ntmps47 ?_
 intro code i h hi hl
 simp only [aQ]
 refine bA ?_
 refine cu (aNp) ?_
 rintro _ i1 h1 ⟨l,rfl,hzl⟩ hi1
 simp only [AS.drew,AS.called,aQ,AS.put,aL,aH,bS,bC,bR,bB,bV,bD,List.set_cons_succ,List.set_cons_zero,List.append_nil,List.nil_append,List.cons_append]
 refine bA ?_
 refine cu (aTd) ?_
 rintro _ i2 h2 ⟨p,rfl,hp⟩ hi2
 simp only [AS.drew,AS.called,aQ,AS.put,aL,aH,bS,bC,bR,bB,bV,bD,List.set_cons_succ,List.set_cons_zero,List.append_nil,List.nil_append,List.cons_append]
 have hp1:=aW0 hp
 clear hp
 have ca:=(aCh p hp1.on (by omega) (by omega)).vwas (r':= .agg (aG .view (advance p))) (by simp [rt])
 have hpa:=bC8 hp1 (by omega) (by omega)
 generalize advance p=pa at *
 simp only [aG] at ca⊢
 refine bA ?_
 refine bEv (fun s'=>∃(q:aC) (j g:Int),uR 22442000 680 q∧0≤j∧fG s' ⟨[.ptr 0 2 0 0,.undef,.ptr 1 0 0 0,.undef,.sl .view 2 (l.map (bJ .view)),.ptr 2 0 0 0,.undef,.undef,.undef,.undef,.undef,.undef,.undef,.undef,.undef,.undef,.undef,.undef,.undef,.undef,.undef,.undef,.undef,.undef,.undef,.undef,.undef,.undef,.undef,.undef,.undef,.undef,.undef,.undef,.undef,.undef,.undef,.undef,.undef,.undef,.undef,.undef,.undef,.undef,.undef,.undef,.undef,.undef,.undef,.undef,.undef,.undef,.undef,.undef,.undef,.undef,.undef,.undef,.undef,.undef,.undef,.undef,.undef,.undef],[⟨true,true,3,2,[[.sl .view 1 (aT code),.int .i64 j,.int .i64 g]]⟩,⟨true,true,22,0,[[.str [],.str [],.bool false,.sl .own 1 [],.sl .own 1 [],.sl .own 1 [],.str [],.str [],.sl .own 4 [],.bool false,.sl .own 4 [],.sl .own 1 [],.sl .own 8 [],.sl .own 5 [],.sl .own 2 [],.int .i64 0,.int .i64 0,.int .i64 0,.int .i64 0,.sl .own 2 [],.sl .own 1 [],.bool false]]⟩,⟨true,true,22,0,[aG .view q]⟩]⟩) ?_ ?_
 rotate_left
 ·rw [rG]
  refine bA ?_
  refine cu (iF 2) ?_
  rintro _ i3 h3 ⟨b,rfl⟩ hi3
  simp only [AS.drew,AS.called,aQ,AS.put,aL,aH,bS,bC,bR,bB,bV,bD,List.set_cons_succ,List.set_cons_zero,List.append_nil,List.nil_append,List.cons_append]
  cases b
  ·refine bA ?_
   exact ⟨rfl,p,i3,h3,hp1.up (by omega) (by omega),hi3,aN 3 (by simp [aG]) (by simp) (by simp) (by simp)⟩
  ·refine bA ?_
   exact ⟨rfl,pa,i3,h3,hpa.up (by omega) (by omega),hi3,aN 3 (by simp [aG]) (by simp) (by simp) (by simp)⟩
 ·clear ca hpa hp1
  rintro s' ⟨q,j,g,hq,hj,hwk⟩
  repeat refine aTg ?_
  refine aLq hwk ?_
  clear hwk pa p
  simp only [aG]
  refine bA ?_
  refine cu (kC 6) ?_
  rintro _ i3 h3 ⟨x,rfl,x0,x1,x2⟩ hi3
  simp only [AS.drew,AS.called,aQ,AS.put,aL,aH,bS,bC,bR,bB,bV,bD,List.set_cons_succ,List.set_cons_zero,List.append_nil,List.nil_append,List.cons_append]
  obtain ⟨n,rfl⟩:=Int.eq_ofNat_of_zero_le x0
  have hn5:n≤5:=by omega
  refine bA ?_
  refine aR (ι:={y:Nat×aC×Int×Int // y.1≤5∧uR (22442000+1453000 * (5 - y.1)) (680+1400 * (5 - y.1)) y.2.1∧0≤y.2.2.1}) (fun t o y=>⟨[.ptr 0 2 0 0,.undef,.ptr 1 0 0 0,.undef,.sl .view 2 (l.map (bJ .view)),.ptr 2 0 0 0,.int .i64 (y.1.1:Int),.undef,.undef,.undef,.undef,.undef,.undef,.undef,.undef,.undef,.undef,.undef,.undef,.undef,.undef,.undef,.undef,.undef,.undef,.undef,.undef,.undef,.undef,.undef,.undef,.undef,.undef,.undef,.undef,.undef,.undef,.undef,.undef,.undef,.undef,.undef,.undef,.undef,.undef,.undef,.undef,.undef,.undef,.undef,.undef,.undef,.undef,.undef,.undef,.undef,.undef,.undef,.undef,.undef,.undef,.undef,.undef,.undef],[⟨true,true,3,2,[[.sl .view 1 (aT code),.int .i64 y.1.2.2.1,.int .i64 y.1.2.2.2]]⟩,⟨true,true,22,0,[[.str [],.str [],.bool false,.sl .own 1 [],.sl .own 1 [],.sl .own 1 [],.str [],.str [],.sl .own 4 [],.bool false,.sl .own 4 [],.sl .own 1 [],.sl .own 8 [],.sl .own 5 [],.sl .own 2 [],.int .i64 0,.int .i64 0,.int .i64 0,.int .i64 0,.sl .own 2 [],.sl .own 1 [],.bool false]]⟩,⟨true,true,22,0,[aG .view y.1.2.1]⟩]⟩)
   (fun y=>y.1.1) ⟨(n,q,i3,h3),hn5,hq.up (by simp only;omega) (by simp only;omega),hi3⟩ (aN 3 (by simp [aG])) ?_
  clear hq hj
  rintro ⟨⟨k,p,i,h⟩,hk,hp,hi⟩ K1 hK1
  simp only at hk hp hi
  have hK2:=hK1
  clear hK1
  simp only
  by_cases hlt:0 < k
  ·have hk0:(k:Int) > 0:=by omega
   have hk1:IntKind.i64.wrap ((k:Int) - 1)=((k - 1:Nat):Int):=by rw [wrap64]<;>omega
   have hsz:=hp.on.sz
   have hsl:=hp.on.sl
   have hml:p.mods.length≤16777:=by simp only [szL] at hsz;omega
   have cn:=(aJ1 p (by omega) (by omega)).vwas (r':= .sl .view 5 ((tZ p).map bT)) (by simp [rt])
   have hrz:=fun (r:dA) (hr:r∈tZ p)=>bCg hr
   generalize tZ p=rq at *
   simp only [aG] at cn⊢
   by_cases hrl:0 < rq.length
   ·have hri:(rq.length:Int) > 0:=by omega
    have W:=And.intro hk0 (And.intro hri hrl)
    refine wl ?_
    refine cu (kC (rq.length:Int)) ?_
    rintro _ i4 h4 ⟨x,rfl,z0,_,z2⟩ hi4
    simp only [AS.drew,AS.called,aQ,AS.put,aL,aH,bS,bC,bR,bB,bV,bD,List.set_cons_succ,List.set_cons_zero,List.append_nil,List.nil_append,List.cons_append]
    obtain ⟨m,rfl⟩:=Int.eq_ofNat_of_zero_le z0
    have hmi:(m:Int) < (rq.length:Int):=z2 (by omega)
    have hmn:m < rq.length:=by omega
    obtain ⟨r,hgr,hmr⟩:∃r,rq[m]? =some r∧r∈rq:=⟨_,List.getElem?_eq_getElem hmn,List.getElem_mem hmn⟩
    have hra:=hrz r hmr
    have has:=aSw l r.to
    have ct:=aL6 l r.to (by omega)
    have cf:=(aIi p r.to (sN l r.to) hp.on (by omega) (by omega) (by omega) (by omega)).vwas (r':= .agg (aG .view (qN p r.to (sN l r.to)))) (by simp [rt])
    have hpn:=bDq r.to (sN l r.to) hp (by omega) (by omega)
    clear hmn hrz hmr has
    generalize qN p r.to (sN l r.to)=q2 at *
    generalize sN l r.to=x at *
    simp only [aG,aF,cZ] at ct cf⊢
    have W:=And.intro hmi (And.intro hgr hk1)
    refine wl ?_
    refine hK2 _ ⟨(k - 1,q2,i4,h4),by simp only;omega,hpn.up (by simp only;omega) (by simp only;omega),hi4⟩ (aN 3 (by simp [aG])) (by simp only;omega)
   ·have hri:¬(rq.length:Int) > 0:=by omega
    have W:=And.intro hk0 (And.intro hri (And.intro hrl hk1))
    refine wl ?_
    refine hK2 _ ⟨(k - 1,p,i,h),by simp only;omega,hp.up (by simp only;omega) (by simp only;omega),hi⟩ (aN 3 (by simp [aG])) (by simp only;omega)
  ·have hk0:¬(k:Int) > 0:=by omega
   have hp2:uR 30000000 8000 p:=hp.up (by omega) (by omega)
   clear hK2 hp
   simp only [aG]
   have W:=hk0
   refine wl ?_
   refine cu (kC 24) ?_
   rintro _ i5 h5 ⟨x5,rfl,y0,y1,y2⟩ hi5
   simp only [AS.drew,AS.called,aQ,AS.put,aL,aH,bS,bC,bR,bB,bV,bD,List.set_cons_succ,List.set_cons_zero,List.append_nil,List.nil_append,List.cons_append]
   by_cases e0:x5=0
   ·have W:=e0
    refine wl ?_
    refine jR (i:=3) (ver:=1) (by rfl) (by rfl) ?_ (by simp [AS.frozen,kG,jU,frz,kW,aA.frz,aA.kill,rtr,rtc,rt];rfl)
    refine cu (aD7 [-1,1,9] (by decide)) ?_
    rintro _ i6 h6 ⟨z,hz,rfl⟩ hi6
    simp only [AS.drew,AS.called,aQ,AS.put,aL,aH,bS,bC,bR,bB,bV,bD,List.set_cons_succ,List.set_cons_zero,List.append_nil,List.nil_append,List.cons_append]
    refine bA ?_
    refine ⟨.inr rfl,jH (by simp [Tryz.results47];rfl) (by rfl) (by rfl) (by omega) (by simp) (by simp) ?_⟩
    simp only [single,res]
    exact ⟨{p with deferred:=z},l,by simp [aG],⟨⟨hp2.on.at_,hp2.on.ga,hp2.on.en,hp2.on.sl⟩,hp2.ho⟩,hzl⟩
   ·by_cases e1:x5=1
    ·have e0b:¬((1:Int)=0):=by decide
     subst e1
     refine bA ?_
     refine jR (i:=3) (ver:=1) (by rfl) (by rfl) ?_ (by simp [AS.frozen,kG,jU,frz,kW,aA.frz,aA.kill,rtr,rtc,rt];rfl)
     refine cu (aD7 [-1,1,9] (by decide)) ?_
     rintro _ i6 h6 ⟨z,hz,rfl⟩ hi6
     simp only [AS.drew,AS.called,aQ,AS.put,aL,aH,bS,bC,bR,bB,bV,bD,List.set_cons_succ,List.set_cons_zero,List.append_nil,List.nil_append,List.cons_append]
     refine bA ?_
     refine ⟨.inr rfl,jH (by simp [Tryz.results47];rfl) (by rfl) (by rfl) (by omega) (by simp) (by simp) ?_⟩
     simp only [single,res]
     exact ⟨{p with entered:=z},l,by simp [aG],⟨⟨hp2.on.at_,hp2.on.ga,hp2.on.en,hp2.on.sl⟩,hp2.ho⟩,hzl⟩
    ·by_cases e2:x5=2
     ·subst e2
      refine bA ?_
      refine ⟨.inr rfl,jH (by simp [Tryz.results47];rfl) (by rfl) (by rfl) (by omega) (by simp) (by simp) ?_⟩
      simp only [single,res]
      exact ⟨{p with loaded:= !p.loaded},l,by simp [aG],⟨⟨hp2.on.at_,hp2.on.ga,hp2.on.en,hp2.on.sl⟩,hp2.ho⟩,hzl⟩
     ·have W:=And.intro e0 (And.intro e1 e2)
      refine wl ?_
      refine ⟨.inr rfl,jH (by simp [Tryz.results47];rfl) (by rfl) (by rfl) (by omega) (by simp) (by simp) ?_⟩
      simp only [single,res]
      exact ⟨p,l,by simp [aG],hp2,hzl⟩
end Go.Proofs.YtaddkhdghlaalaaGreatDoor
