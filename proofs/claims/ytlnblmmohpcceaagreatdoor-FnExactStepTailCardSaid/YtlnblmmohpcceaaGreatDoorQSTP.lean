/-
  Proved here: steps towards the statement of this claim, text QSTP.
  No condition beyond what each statement spells out.
-/
import Derived.Test.YtlnblmmohpcceaaGreatDoorQZ7
import Derived.Test.YtlnblmmohpcceaaGreatDoorQN1
import Derived.Test.YtlnblmmohpcceaaGreatDoorQRCB
import Derived.Test.YtlnblmmohpcceaaGreatDoorQRC7
set_option linter.all false
set_option maxRecDepth 8000
set_option maxHeartbeats 8000000
namespace Go.Proofs.YtlnblmmohpcceaaGreatDoor
open Go.Aw
def aEe:Str:=[108,111,97,100]
def aGm (p:aJ) (s:gP):aJ×Bool:=if s.done=true∧p.slots.all jR=true then ({(if s.code=1 then jQ p s.body false else p) with deferred:=p.deferred+1},true) else (p,false)
def aGo (p:aJ) (a:aK):aJ×Bool:=if rE p a=true∧p.slots.all jR=true then ({mW p a with entered:=p.entered+1},true) else (p,false)
def aGv (p:aJ):aJ×Bool:=if (places mO 0 p.slots).length=0∧(places mI 0 p.mods).length=0 then ({p with log:=dZ p.log aEe,loaded:=true},true) else (p,false)
def rJ (p:aJ):aJ×Bool:=
 if rD p=true∧p.loaded=false∧0≤p.deferred∧0≤p.entered then
  match (places fO 0 p.slots)[p.deferred.toNat]? with
  |some d=>match p.slots[d.toNat]? with
   |some s=>aGm p s
   |none=>(p,false)
  |none=>match p.entries[p.entered.toNat]? with
   |some a=>aGo p a
   |none=>aGv p
 else (p,false)
theorem aF0 {α:Type} (f:α→Bool):∀(l:List α) (i:Nat) (d:Int),d∈places f i l→∃k:Nat,d=(k:Int)∧i≤k∧k < i+l.length
 |[],i,d,h=>by simp [places] at h
 |x::l,i,d,h=>by
  simp only [places] at h
  have hr:d∈places f (i+1) l→∃k:Nat,d=(k:Int)∧i≤k∧k < i+(x::l).length:=fun h=>by
   obtain ⟨k,h1,h2,h3⟩:=aF0 f l (i+1) d h
   exact ⟨k,h1,by omega,by simp only [List.length_cons];omega⟩
  split at h
  ·rcases List.mem_cons.1 h with h|h
   ·exact ⟨i,h,Nat.le_refl _,by simp only [List.length_cons];omega⟩
   ·exact hr h
  ·exact hr h
theorem aEp (p:aJ) (c:Str) (w:Bool):(jQ p c w).deferred=p.deferred∧(jQ p c w).entered=p.entered∧(jQ p c w).slots=p.slots∧(jQ p c w).mods=p.mods:=by
 unfold jQ lN
 split<;>exact ⟨rfl,rfl,rfl,rfl⟩
theorem aWo (q:aJ) (b:aK):(rT q b).entered=q.entered:=by
 unfold rT lN
 split<;>rfl
theorem aNw (p:aJ) (a:aK):(mW p a).entered=p.entered:=by
 unfold mW
 split
 ·rfl
 ·unfold iG
  have:∀(l:List aK) (q:aJ),(l.foldl rT q).entered=q.entered:=by
   intro l
   induction l with
   |nil=>intro q;rfl
   |cons b l ih=>intro q;rw [List.foldl_cons,ih,aWo]
  exact this _ _
def tQ:List (Nat×Nat):=[(1,18),(2,19),(3,20),(4,21),(5,22),(6,23),(7,24),(8,25),(9,26),(10,27),(11,28)]
theorem bA0 {t t':List AV} {o o':List aB} {n1 v1 n2 v2 n3 v3 n4 v4 n5 v5 n6 v6 n7 v7 n8 v8 n9 v9 n10 v10 n11 v11:Nat} {e1 e2 e3 e4 e5 e6 e7 e8 e9 e10 e11:List (List AV)} {o12 o13 o14 o15 o16 o17:aB} {q:aJ} (ho:o=[⟨true,true,22,2,[pCs 18 q]⟩,⟨false,false,n1,v1,e1⟩,⟨false,false,n2,v2,e2⟩,⟨false,false,n3,v3,e3⟩,⟨false,false,n4,v4,e4⟩,⟨false,false,n5,v5,e5⟩,⟨false,false,n6,v6,e6⟩,⟨false,false,n7,v7,e7⟩,⟨false,false,n8,v8,e8⟩,⟨false,false,n9,v9,e9⟩,⟨false,false,n10,v10,e10⟩,⟨false,false,n11,v11,e11⟩,o12,o13,o14,o15,o16,o17]++pOs q)
  (ho':o'=[⟨true,true,22,2,[pCs 1 q]⟩]++pOs q++[o12,o13]) (ht:∀z∈tQ,wk (jW z.1 z.2 t') t') (hf:∀z∈tQ,o12.rsw z.1 z.2=o12∧o13.rsw z.1 z.2=o13∧o14.rsw z.1 z.2=o14∧o15.rsw z.1 z.2=o15∧o16.rsw z.1 z.2=o16∧o17.rsw z.1 z.2=o17) (hw:wk t t') (hc:fK 14 t'=true) (hc0:dL 14 [o12,o13]=true):gF ⟨t,o⟩ ⟨t',o'⟩:=by
 subst ho;subst ho'
 have e:=fun i j (h:(i,j)∈tQ)=>hf (i,j) h
 have h:=fun i j (h:(i,j)∈tQ)=>ht (i,j) h
 simp only [pOs,pCs,List.cons_append,List.nil_append]
 refine (uN hw).trans ?_
 refine (bR 1 18 rfl rfl ⟨rfl,rfl⟩ (by simp [(e 1 18 (by decide))];rfl) (h 1 18 (by decide))).trans ?_
 refine (bR 2 19 rfl rfl ⟨rfl,rfl⟩ (by simp [(e 2 19 (by decide))];rfl) (h 2 19 (by decide))).trans ?_
 refine (bR 3 20 rfl rfl ⟨rfl,rfl⟩ (by simp [(e 3 20 (by decide))];rfl) (h 3 20 (by decide))).trans ?_
 refine (bR 4 21 rfl rfl ⟨rfl,rfl⟩ (by simp [(e 4 21 (by decide))];rfl) (h 4 21 (by decide))).trans ?_
 refine (bR 5 22 rfl rfl ⟨rfl,rfl⟩ (by simp [(e 5 22 (by decide))];rfl) (h 5 22 (by decide))).trans ?_
 refine (bR 6 23 rfl rfl ⟨rfl,rfl⟩ (by simp [(e 6 23 (by decide))];rfl) (h 6 23 (by decide))).trans ?_
 refine (bR 7 24 rfl rfl ⟨rfl,rfl⟩ (by simp [(e 7 24 (by decide))];rfl) (h 7 24 (by decide))).trans ?_
 refine (bR 8 25 rfl rfl ⟨rfl,rfl⟩ (by simp [(e 8 25 (by decide))];rfl) (h 8 25 (by decide))).trans ?_
 refine (bR 9 26 rfl rfl ⟨rfl,rfl⟩ (by simp [(e 9 26 (by decide))];rfl) (h 9 26 (by decide))).trans ?_
 refine (bR 10 27 rfl rfl ⟨rfl,rfl⟩ (by simp [(e 10 27 (by decide))];rfl) (h 10 27 (by decide))).trans ?_
 refine (bR 11 28 rfl rfl ⟨rfl,rfl⟩ (by simp [(e 11 28 (by decide))];rfl) (h 11 28 (by decide))).trans ?_
 refine aQ 14 (by simp) (iT _) hc ?_
 simpa [dL,fK,closed] using hc0
theorem aSl [aA Tryz.prog] [dY Tryz.prog] [dG Tryz.prog] [lY Tryz.prog] (p:aJ) (a:aK) (hs:aD p≤33000000) (hm:szL aZ p.mods+aR a≤16777216):
  OkG Tryz.prog 86 [.lend (aG .own p) (aG .own (mW p a)),.view (.agg (aF a))] (.tup []):=by
 have c1:=aHd p a hm
 unfold mW
 cases hfl:nM p a
 ·rw [if_neg (by simp)]
  obtain ⟨r1,r2,r3⟩:=aCi p a hm hfl
  obtain ⟨hB,_⟩:=yZ p a hm
  have c2:=xL p _ hB a (by simp)
  have hfacts:=uY p (bX p a) (by omega)
  have hsuc:=aA3 p (bX p a)
  have hz0:iG p (bX p a) 0=p:=rfl
  have hsz:∀k,k≤(bX p a).length→aD (iG p (bX p a) k)≤50331648:=fun k hk=>by
   have h1:=(hfacts k hk).1
   have h2:=(zB (iG p (bX p a) k)).1
   have h3:=(zB p).2
   have h4:=wR aR (bX p a) k
   simp only [szL,List.length_take] at h1 r2 hm
   omega
  have hmods:∀k,k≤(bX p a).length→(iG p (bX p a) k).mods=p.mods:=fun k hk=>(hfacts k hk).2.1
  have hmem:∀b∈bX p a,∃(j:Nat) (m:cZ),rM (kM b) p.mods=(j:Int)∧p.mods[j]? =some m∧j < p.mods.length∧uJ p b=m.body:=fun b hb=>by
   have h1:=r3 b hb
   rcases uZ (kM b) p.mods with ⟨hi,hf⟩|⟨j,hj,hi,hf⟩
   ·unfold iA at h1;rw [hf] at h1;cases h1
   ·exact ⟨j,p.mods[j],hi,List.getElem?_eq_getElem hj,hj,by unfold uJ;rw [hf]⟩
  have hszs:∀b∈bX p a,aR b≤16777215:=fun b hb=>by
   have:=bV aR hb
   have:=List.length_pos_of_mem hb
   simp only [szL] at r2 hm;omega
  have hbod:∀m∈p.mods,m.body.length≤16777216:=fun m hx=>by
   have:=bV aZ hx
   simp only [szL,aZ] at hm this;omega
  have hml:p.mods.length≤16777216:=by simp only [szL] at hm;omega
  clear r2 r3 hB hfacts
  generalize bX p a=L at *
  generalize iG p L=Q at *
  simp only [aG,aF] at c1 c2
  rw [hfl] at c1
  refine iE Tryz.mix Tryz.func86 Tryz.ntmps86 ?_
  have W:=trivial
  repeat' first|refine we ?_|(refine sq (fun hc=>?_) (fun hc=>?_)<;>try exact hc.elim)|fail
  refine aM (ι:={k:Nat // k≤L.length}) (fun t o i=>⟨aO t [(25,.int .i64 i.1),(5,.undef),(11,.undef),(21,.undef)],[⟨true,true,22,2,[pCs 1 (Q i.1)]⟩]++pOs (Q i.1)++[⟨true,true,2,0,[[.str a.host,.str a.path]]⟩,⟨true,false,2,1,L.map aF⟩]⟩)
   (fun i=>L.length - i.1) ⟨0,by simp⟩ (aH (by simp [pCs,pOs,hz0]) (by simp)) ?_
  rintro ⟨k,hk⟩ K1 hK1
  have hk1:IntKind.i64.wrap ((k:Int)+1)=((k+1:Nat):Int):=by rw [wrap64]<;>omega
  by_cases hlt:k < L.length
  ·have hg:=List.getElem?_eq_getElem hlt
   have hbm:=List.getElem_mem hlt
   have hnext:=hsuc k hlt
   have hq1:=hsz k hk
   have hqm:=hmods k hk
   obtain ⟨j,m,hi,hgm,hjl,hbd⟩:=hmem L[k] hbm
   have hsb:=hszs L[k] hbm
   rw [←hqm] at hi hgm hjl
   have hbq:uJ (Q k) L[k]=m.body:=by rw [←hbd];unfold uJ;rw [hqm]
   have hmb:m.body.length≤16777216:=hbod m (by rw [←hqm];exact List.mem_of_getElem? hgm)
   unfold rT at hnext
   rw [hbq] at hnext
   have hK2:=hK1
   clear hsuc hsz hmods hmem hszs hbod hbd hqm hbm c1 c2
   generalize hq':Q (k+1)=q' at *
   generalize hq:Q k=q at *
   have hrl:q.ran.length≤50331648:=by simp only [aD,szL] at hq1;omega
   have c3:=aL5 q.ran L[k] (by omega)
   simp only [aO,List.set_cons_succ,List.set_cons_zero,List.cons_append,List.nil_append,pOs,pCs] at hK1⊢
   cases hh:q.ran.any (fP L[k])
   ·rw [hh] at hnext c3
    rw [if_neg (by simp)] at hnext
    obtain ⟨rn,hrn⟩:∃rn,rn=q.ran++[L[k]]:=⟨_,rfl⟩
    have hap:q.ran.map aF++[[.str L[k].host,.str L[k].path]]=rn.map aF:=by rw [hrn];simp
    rw [←hrn] at hnext
    have hsq:aD {q with ran:=rn}≤67108864:=by
     simp only [aD,szL,hrn,List.length_append,List.length_cons,List.length_nil,gW,aC] at hq1⊢;omega
    have c4:=wD {q with ran:=rn} L[k] (by simp only;simp only [aD,szL] at hq1;omega)
    have hbh:L[k].host.length≤16777216:=by simp only [aR] at hsb;omega
    have c5:=sJ m.body L[k].host (by omega) (by omega)
    obtain ⟨l6,lx⟩:=aCa m.body L[k].host
    have c6:=aBs {q with ran:=rn} (bA m.body L[k].host).2.1 false hsq l6 lx
    rw [←hnext] at c6
    simp only [hi] at c4
    clear hnext hrn hsq l6 lx hq1
    generalize bA m.body L[k].host=g at *
    obtain ⟨im,ln,bk⟩:=g
    have hj0:¬(j:Int) < 0:=by omega
    simp only [aG,aF] at c3 c4 c5 c6
    have W:=And.intro hk1 (And.intro hg (And.intro hap (And.intro hgm (And.intro hj0 hrl))))
    have V:=And.intro hlt (And.intro hjl hj0)
    repeat' first|refine we ?_|(refine nx ?_;refine sg (hc:=c6) (h:=?_))|(refine sq (fun hc=>?_) (fun hc=>?_)<;>try exact hc.elim)|fail
    refine hK2 _ ⟨k+1,by omega⟩ ?_ (by simp only;omega)
    simp only [hq']
    exact bA0 (q:=q') rfl (by simp [pOs,pCs,hq']) (by simp [tQ]) (by simp [tQ]) (by simp) (by simp) (by simp [dL])
   ·rw [hh] at hnext c3
    rw [if_pos rfl] at hnext
    simp only [aF] at c3
    have W:=And.intro hk1 (And.intro hg hlt)
    repeat' first|refine we ?_|(refine sq (fun hc=>?_) (fun hc=>?_)<;>try exact hc.elim)|fail
    refine hK2 _ ⟨k+1,by omega⟩ ?_ (by simp only;omega)
    exact aQ 14 (by simp [pOs,pCs,hq',hnext]) (by simp) (by simp) (by simp [dL,pOs,pCs,hq',hnext])
  ·have hkl:k=L.length:=by omega
   subst hkl
   simp only [aO,List.set_cons_succ,List.set_cons_zero,List.cons_append,List.nil_append,pOs,pCs] at hK1⊢
   clear hsuc hsz hmods hmem hszs hbod hK1 c1 c2
   generalize Q L.length=q at *
   have W:=And.intro hk1 hlt
   repeat' first|refine we ?_|(refine sq (fun hc=>?_) (fun hc=>?_)<;>try exact hc.elim)|fail
   all_goals (try (refine ⟨by first|exact .inr rfl|exact .inl rfl,?_⟩;simp [dK,bQ,bN,rowOf,Tryz.results86]))
 ·rw [if_pos rfl]
  rw [hfl] at c1
  have hfm:=xU a
  have hlg:p.log.length≤33000000:=by simp only [aD,szL] at hs;omega
  have c2:=aG5 a (by omega)
  have c3:=zT p (aDe++iZ a) (by omega)
  simp only [aDe] at c3⊢
  generalize iZ a=fa at *
  simp only [aG,aF] at c1 c2 c3⊢
  refine iE Tryz.mix Tryz.func86 Tryz.ntmps86 ?_
  have W:=hfm
  repeat' first|refine we ?_|(refine nx ?_;refine sg (hc:=c3) (h:=?_))|(refine sq (fun hc=>?_) (fun hc=>?_)<;>try exact hc.elim)|fail
  all_goals (try (refine ⟨by first|exact .inr rfl|exact .inl rfl,?_⟩;simp [dK,bQ,bN,rowOf,Tryz.results86]))
theorem aK1 [aA Tryz.prog] [dY Tryz.prog] [dG Tryz.prog] [lY Tryz.prog] (p:aJ) (hs:aD p≤33000000) (hn1:p.slots.length≤16777216) (hme:szL aZ p.mods+szL aR p.entries≤16777216):Ok Tryz.prog 19 [.agg (aG .view p)] (.tup [.agg (aG .own (rJ p).1),.bool (rJ p).2]):=by
 have c1:=jZ p (by omega)
 have hn2:p.mods.length≤16777216:=by simp only [szL] at hme;omega
 have cP:=aJy p
 have cS:=yQ p (by omega)
 have cD:=aDn p hn1
 have hbd:∀s∈p.slots,s.body.length≤33000000:=fun s hm=>by
  have:=bV fG hm
  simp only [aD,szL,fG] at hs this;omega
 have hed:∀a∈p.entries,szL aZ p.mods+aR a≤16777216:=fun a hm=>by
  have h1:=bV aR hm
  have h2:aC aR p.entries≤szL aR p.entries:=by simp only [szL];omega
  omega
 have hel0:p.entries.length≤16777216:=by
  have:p.entries.length≤szL aR p.entries:=by simp only [szL];omega
  omega
 have hdl0:=kZ fO p.slots 0
 have hat:=aF0 fO p.slots 0
 unfold rJ
 by_cases hpre:rD p=true∧p.loaded=false∧0≤p.deferred∧0≤p.entered
 ·rw [if_pos hpre]
  obtain ⟨h1,h2,h3,h4⟩:=hpre
  obtain ⟨dn,hdn⟩:=Int.eq_ofNat_of_zero_le h3
  obtain ⟨en,hen⟩:=Int.eq_ofNat_of_zero_le h4
  rw [hdn,hen,Int.toNat_natCast,Int.toNat_natCast]
  rw [h1] at cP
  by_cases hdl:dn < (places fO 0 p.slots).length
  ·have hgD:=List.getElem?_eq_getElem hdl
   obtain ⟨sn,hsn,_,hsl⟩:=hat _ (List.getElem_mem hdl)
   rw [Nat.zero_add] at hsl
   rw [hsn] at hgD
   rw [hgD]
   simp only [Int.toNat_natCast]
   have hgS:=List.getElem?_eq_getElem hsl
   rw [hgS]
   simp only
   have hbody:=hbd _ (List.getElem_mem hsl)
   have hkd:IntKind.i64.wrap ((dn:Int)+1)=(dn:Int)+1:=by rw [wrap64]<;>omega
   have hdi:(dn:Int) < ((places fO 0 p.slots).length:Int):=by omega
   unfold aGm
   have c4:=xP p p.slots[sn].body false (by omega) (by omega)
   have hqd:=(aEp p p.slots[sn].body false).1.trans hdn
   clear hbd hed hat hsn hdl0
   generalize places fO 0 p.slots=D at *
   cases hd:p.slots[sn].done
   ·rw [if_neg (by simp)]
    simp only [aG,h2,hdn,hen] at c1 cP cS cD⊢
    refine ent Tryz.mix Tryz.func19 Tryz.ntmps19 ?_
    have W:=And.intro hdi (And.intro hgD (And.intro hgS hd))
    have V:=And.intro hdl hsl
    repeat' first|refine we ?_|(refine sq (fun hc=>?_) (fun hc=>?_)<;>try exact hc.elim)|fail
    all_goals (try (refine ⟨.inr rfl,?_⟩;simp [Hands,Tryz.results19]))
   ·generalize p.slots.all jR=rdy at *
    cases rdy
    ·rw [if_neg (by simp)]
     simp only [aG,h2,hdn,hen] at c1 cP cS cD⊢
     refine ent Tryz.mix Tryz.func19 Tryz.ntmps19 ?_
     have W:=And.intro hdi (And.intro hgD (And.intro hgS hd))
     have V:=And.intro hdl hsl
     repeat' first|refine we ?_|(refine sq (fun hc=>?_) (fun hc=>?_)<;>try exact hc.elim)|fail
     all_goals (try (refine ⟨.inr rfl,?_⟩;simp [Hands,Tryz.results19]))
    ·rw [if_pos ⟨rfl,rfl⟩]
     by_cases hcd:p.slots[sn].code=1
     ·rw [if_pos hcd]
      generalize jQ p p.slots[sn].body false=q at *
      simp only [aG,h2,hdn,hen,hqd] at c1 cP cS cD c4⊢
      refine ent Tryz.mix Tryz.func19 Tryz.ntmps19 ?_
      have W:=And.intro hdi (And.intro hgD (And.intro hgS (And.intro hd (And.intro hcd hkd))))
      have V:=And.intro hdl hsl
      repeat' first|refine we ?_|(refine sq (fun hc=>?_) (fun hc=>?_)<;>try exact hc.elim)|fail
      all_goals (try (refine ⟨.inr rfl,?_⟩;simp [Hands,Tryz.results19]))
     ·rw [if_neg hcd]
      simp only [aG,h2,hdn,hen] at c1 cP cS cD⊢
      refine ent Tryz.mix Tryz.func19 Tryz.ntmps19 ?_
      have W:=And.intro hdi (And.intro hgD (And.intro hgS (And.intro hd (And.intro hcd hkd))))
      have V:=And.intro hdl hsl
      repeat' first|refine we ?_|(refine sq (fun hc=>?_) (fun hc=>?_)<;>try exact hc.elim)|fail
      all_goals (try (refine ⟨.inr rfl,?_⟩;simp [Hands,Tryz.results19]))
  ·have hgD:(places fO 0 p.slots)[dn]? =none:=List.getElem?_eq_none (by omega)
   rw [hgD]
   simp only
   have hdl:¬(dn:Int) < ((places fO 0 p.slots).length:Int):=by omega
   clear hbd hat hgD
   generalize places fO 0 p.slots=D at *
   by_cases hlE:en < p.entries.length
   ·have hgE:=List.getElem?_eq_getElem hlE
    rw [hgE]
    simp only
    have hsa:=hed _ (List.getElem_mem hlE)
    have hel:(en:Int) < (p.entries.length:Int):=by omega
    have hke:IntKind.i64.wrap ((en:Int)+1)=(en:Int)+1:=by rw [wrap64]<;>omega
    have cG:=aHf p p.entries[en] hsa
    have c5:=aSl p p.entries[en] hs hsa
    have hqe:=(aNw p p.entries[en]).trans hen
    clear hed
    unfold aGo
    generalize rE p p.entries[en]=gr at *
    cases gr
    ·rw [if_neg (by simp)]
     simp only [aG,aF,h2,hdn,hen] at c1 cP cS cD cG⊢
     refine ent Tryz.mix Tryz.func19 Tryz.ntmps19 ?_
     have W:=And.intro hdl (And.intro hel (And.intro hgE hlE))
     repeat' first|refine we ?_|(refine sq (fun hc=>?_) (fun hc=>?_)<;>try exact hc.elim)|fail
     all_goals (try (refine ⟨.inr rfl,?_⟩;simp [Hands,Tryz.results19]))
    ·generalize p.slots.all jR=rdy at *
     cases rdy
     ·rw [if_neg (by simp)]
      simp only [aG,aF,h2,hdn,hen] at c1 cP cS cD cG⊢
      refine ent Tryz.mix Tryz.func19 Tryz.ntmps19 ?_
      have W:=And.intro hdl (And.intro hel (And.intro hgE hlE))
      repeat' first|refine we ?_|(refine sq (fun hc=>?_) (fun hc=>?_)<;>try exact hc.elim)|fail
      all_goals (try (refine ⟨.inr rfl,?_⟩;simp [Hands,Tryz.results19]))
     ·rw [if_pos ⟨rfl,rfl⟩]
      generalize mW p p.entries[en]=q at *
      simp only [aG,aF,h2,hdn,hen,hqe] at c1 cP cS cD cG c5⊢
      refine ent Tryz.mix Tryz.func19 Tryz.ntmps19 ?_
      have W:=And.intro hdl (And.intro hel (And.intro hke (And.intro hgE hlE)))
      repeat' first|refine we ?_|(refine nx ?_;refine sg (hc:=c5) (h:=?_))|(refine sq (fun hc=>?_) (fun hc=>?_)<;>try exact hc.elim)|fail
      all_goals (try (refine ⟨.inr rfl,?_⟩;simp [Hands,Tryz.results19]))
   ·have hgE:p.entries[en]? =none:=List.getElem?_eq_none (by omega)
    rw [hgE]
    simp only
    have hel:¬(en:Int) < (p.entries.length:Int):=by omega
    clear hed
    have cO:=aIu p hn1
    have cM:=aK0 p hn2
    have hlg:p.log.length≤33000000:=by simp only [aD,szL] at hs;omega
    have c5:=zT p aEe (by omega)
    unfold aGv
    simp only [aEe] at c5⊢
    generalize places mO 0 p.slots=O at *
    generalize places mI 0 p.mods=M at *
    by_cases ho:O.length=0
    ·obtain rfl:=List.length_eq_zero_iff.1 ho
     by_cases hm:M.length=0
     ·obtain rfl:=List.length_eq_zero_iff.1 hm
      rw [if_pos ⟨rfl,rfl⟩]
      simp only [aG,h2,hdn,hen] at c1 cP cS cD cO cM c5⊢
      refine ent Tryz.mix Tryz.func19 Tryz.ntmps19 ?_
      have W:=And.intro hdl hel
      repeat' first|refine we ?_|(refine nx ?_;refine sg (hc:=c5) (h:=?_))|(refine sq (fun hc=>?_) (fun hc=>?_)<;>try exact hc.elim)|fail
      all_goals (try (refine ⟨.inr rfl,?_⟩;simp [Hands,Tryz.results19]))
     ·rw [if_neg (by omega)]
      have hm2:¬M=[]:=fun h=>hm (by rw [h];rfl)
      have hm3:(0:Int) < (M.length:Int):=by omega
      simp only [aG,h2,hdn,hen] at c1 cP cS cD cO cM⊢
      refine ent Tryz.mix Tryz.func19 Tryz.ntmps19 ?_
      have W:=And.intro hdl (And.intro hel (And.intro hm2 hm3))
      repeat' first|refine we ?_|(refine sq (fun hc=>?_) (fun hc=>?_)<;>try exact hc.elim)|fail
      all_goals (try exact (hm2 (by assumption)).elim)
      all_goals (try (refine ⟨.inr rfl,?_⟩;simp [Hands,Tryz.results19]))
    ·rw [if_neg (by omega)]
     have ho2:¬O=[]:=fun h=>ho (by rw [h];rfl)
     have ho3:(0:Int) < (O.length:Int):=by omega
     simp only [aG,h2,hdn,hen] at c1 cP cS cD cO cM⊢
     refine ent Tryz.mix Tryz.func19 Tryz.ntmps19 ?_
     have W:=And.intro hdl (And.intro hel (And.intro ho2 ho3))
     repeat' first|refine we ?_|(refine sq (fun hc=>?_) (fun hc=>?_)<;>try exact hc.elim)|fail
     all_goals (try exact (ho2 (by assumption)).elim)
     all_goals (try (refine ⟨.inr rfl,?_⟩;simp [Hands,Tryz.results19]))
 ·rw [if_neg hpre]
  clear hbd hed hat
  cases h1:rD p
  ·rw [h1] at cP
   simp only [aG] at c1 cP cS cD⊢
   refine ent Tryz.mix Tryz.func19 Tryz.ntmps19 ?_
   have W:=trivial
   repeat' first|refine we ?_|(refine sq (fun hc=>?_) (fun hc=>?_)<;>try exact hc.elim)|fail
   all_goals (try (refine ⟨.inr rfl,?_⟩;simp [Hands,Tryz.results19]))
  ·rw [h1] at cP
   cases h2:p.loaded
   ·by_cases h3:p.deferred < 0
    ·simp only [aG,h2] at c1 cP cS cD⊢
     refine ent Tryz.mix Tryz.func19 Tryz.ntmps19 ?_
     have W:=h3
     repeat' first|refine we ?_|(refine sq (fun hc=>?_) (fun hc=>?_)<;>try exact hc.elim)|fail
     all_goals (try (refine ⟨.inr rfl,?_⟩;simp [Hands,Tryz.results19]))
    ·have h4:p.entered < 0:=by
      rw [h1,h2] at hpre
      by_cases h4:p.entered < 0
      ·exact h4
      ·exact (hpre ⟨rfl,rfl,by omega,by omega⟩).elim
     simp only [aG,h2] at c1 cP cS cD⊢
     refine ent Tryz.mix Tryz.func19 Tryz.ntmps19 ?_
     have W:=And.intro h3 h4
     repeat' first|refine we ?_|(refine sq (fun hc=>?_) (fun hc=>?_)<;>try exact hc.elim)|fail
     all_goals (try (refine ⟨.inr rfl,?_⟩;simp [Hands,Tryz.results19]))
   ·simp only [aG,h2] at c1 cP cS cD⊢
    refine ent Tryz.mix Tryz.func19 Tryz.ntmps19 ?_
    have W:=trivial
    repeat' first|refine we ?_|(refine sq (fun hc=>?_) (fun hc=>?_)<;>try exact hc.elim)|fail
    all_goals (try (refine ⟨.inr rfl,?_⟩;simp [Hands,Tryz.results19]))
def rW:List (Nat×Nat):=[(3,24),(4,25),(5,26),(6,27),(7,28),(8,29),(9,30),(10,31),(11,32),(12,33),(13,34)]
theorem bAa {t t':List AV} {o o':List aB} {l1 l2 l3 l4 l5 l6 l7 l8 l9 l10 l11:Bool} {u n1 v1 n2 v2 n3 v3 n4 v4 n5 v5 n6 v6 n7 v7 n8 v8 n9 v9 n10 v10 n11 v11:Nat} {e1 e2 e3 e4 e5 e6 e7 e8 e9 e10 e11:List (List AV)} {o0 o1 o2 m0 m1 m2 m3 m4 m5 m6 m7 m8:aB} {q:aJ} (ho:o=[o0,o1,o2,⟨l1,false,n1,v1,e1⟩,⟨l2,false,n2,v2,e2⟩,⟨l3,false,n3,v3,e3⟩,⟨l4,false,n4,v4,e4⟩,⟨l5,false,n5,v5,e5⟩,⟨l6,false,n6,v6,e6⟩,⟨l7,false,n7,v7,e7⟩,⟨l8,false,n8,v8,e8⟩,⟨l9,false,n9,v9,e9⟩,⟨l10,false,n10,v10,e10⟩,⟨l11,false,n11,v11,e11⟩,⟨true,true,22,u,[pCs 24 q]⟩,m0,m1,m2,m3,m4,m5,m6,m7,m8]++pOs q)
  (ho':o'=[o0,o1,o2]++pOs q++[⟨true,true,22,u,[pCs 3 q]⟩,m0,m1,m2,m3,m4,m5,m6,m7,m8]) (ht:∀z∈rW,wk (jW z.1 z.2 t') t') (hf:∀z∈rW,o0.rsw z.1 z.2=o0∧o1.rsw z.1 z.2=o1∧o2.rsw z.1 z.2=o2∧m0.rsw z.1 z.2=m0∧m1.rsw z.1 z.2=m1∧m2.rsw z.1 z.2=m2∧m3.rsw z.1 z.2=m3∧m4.rsw z.1 z.2=m4∧m5.rsw z.1 z.2=m5∧m6.rsw z.1 z.2=m6∧m7.rsw z.1 z.2=m7∧m8.rsw z.1 z.2=m8) (hw:wk t t') (hc:fK 24 t'=true) (hc0:dL 24 [o0,o1,o2,m0,m1,m2,m3,m4,m5,m6,m7,m8]=true):gF ⟨t,o⟩ ⟨t',o'⟩:=by
 subst ho;subst ho'
 have e:=fun i j (h:(i,j)∈rW)=>hf (i,j) h
 have h:=fun i j (h:(i,j)∈rW)=>ht (i,j) h
 simp only [pOs,pCs,List.cons_append,List.nil_append]
 refine (uN hw).trans ?_
 refine (bR 3 24 rfl rfl ⟨rfl,rfl⟩ (by simp [(e 3 24 (by decide))];rfl) (h 3 24 (by decide))).trans ?_
 refine (bR 4 25 rfl rfl ⟨rfl,rfl⟩ (by simp [(e 4 25 (by decide))];rfl) (h 4 25 (by decide))).trans ?_
 refine (bR 5 26 rfl rfl ⟨rfl,rfl⟩ (by simp [(e 5 26 (by decide))];rfl) (h 5 26 (by decide))).trans ?_
 refine (bR 6 27 rfl rfl ⟨rfl,rfl⟩ (by simp [(e 6 27 (by decide))];rfl) (h 6 27 (by decide))).trans ?_
 refine (bR 7 28 rfl rfl ⟨rfl,rfl⟩ (by simp [(e 7 28 (by decide))];rfl) (h 7 28 (by decide))).trans ?_
 refine (bR 8 29 rfl rfl ⟨rfl,rfl⟩ (by simp [(e 8 29 (by decide))];rfl) (h 8 29 (by decide))).trans ?_
 refine (bR 9 30 rfl rfl ⟨rfl,rfl⟩ (by simp [(e 9 30 (by decide))];rfl) (h 9 30 (by decide))).trans ?_
 refine (bR 10 31 rfl rfl ⟨rfl,rfl⟩ (by simp [(e 10 31 (by decide))];rfl) (h 10 31 (by decide))).trans ?_
 refine (bR 11 32 rfl rfl ⟨rfl,rfl⟩ (by simp [(e 11 32 (by decide))];rfl) (h 11 32 (by decide))).trans ?_
 refine (bR 12 33 rfl rfl ⟨rfl,rfl⟩ (by simp [(e 12 33 (by decide))];rfl) (h 12 33 (by decide))).trans ?_
 refine (bR 13 34 rfl rfl ⟨rfl,rfl⟩ (by simp [(e 13 34 (by decide))];rfl) (h 13 34 (by decide))).trans ?_
 refine aQ 24 (by simp) (iT _) hc ?_
 simpa [dL,fK,closed,and_assoc] using hc0
theorem bB2 {t t':List AV} {o o' o1 o2:List aB} {a b c d e:aB} (i1 j1 i2 j2 x:Nat) (h5:o[i1]? =some a) (h14:o[j1]? =some b) (hb:a.box=false∧b.box=false) (e1:((o.set i1 b).set j1 a).map (aB.rsw i1 j1)=o1) (h6:o1[i2]? =some c) (h15:o1[j2]? =some d) (hd:c.box=false∧d.box=false) (e2:((o1.set i2 d).set j2 c).map (aB.rsw i2 j2)=o2) (h12:o2[x]? =some e) (e3:o2.set x ⟨false,false,0,e.ver,[]⟩=o') (w1:wk (jW i1 j1 t) t') (w2:wk (jW i2 j2 t') t'):gF ⟨t,o⟩ ⟨t',o'⟩:=
 (bR i1 j1 h5 h14 hb e1 w1).trans ((bR i2 j2 h6 h15 hd e2 w2).trans (aOo x h12 e3 (iT _)))
end Go.Proofs.YtlnblmmohpcceaaGreatDoor
