/-
  Proved here: steps towards the statement of this claim, text QST4.
  No condition beyond what each statement spells out.
-/
import Derived.Test.YtaddkhdghlaalaaGreatDoorQZ7
import Derived.Test.YtaddkhdghlaalaaGreatDoorQSP2
import Derived.Test.YtaddkhdghlaalaaGreatDoorQAD1
import Derived.Test.YtaddkhdghlaalaaGreatDoorQJ9
import Derived.Test.YtaddkhdghlaalaaGreatDoorQZ4
import Derived.Test.YtaddkhdghlaalaaGreatDoorF6
import Derived.Test.YtaddkhdghlaalaaGreatDoorQMK1
set_option linter.all false
set_option maxRecDepth 8000
set_option maxHeartbeats 8000000
namespace Go.Proofs.YtaddkhdghlaalaaGreatDoor
open Go.Aw
theorem aLz [aB Tryz.prog] [dB Tryz.prog] (p:aC) (hs:aJ p≤33000000) (hn1:p.slots.length≤16777216) (hme:szL bI p.mods+szL aI p.entries≤16777216):Ok Tryz.prog 110 [.agg (aG .view p)] (.tup [.agg (aG .own (pW p).1),.bool (pW p).2]):=by
 have c1:=fH p (by omega)
 have hn2:p.mods.length≤16777216:=by simp only [szL] at hme;omega
 have cP:=aL9 p
 have cS:=aAb p (by omega)
 have cD:=aEg p hn1
 have hbd:∀s∈p.slots,s.body.length≤33000000:=fun s hm=>by
  have:=dL kH hm
  simp only [aJ,szL,kH] at hs this;omega
 have hed:∀a∈p.entries,szL bI p.mods+aI a≤16777216:=fun a hm=>by
  have h1:=dL aI hm
  have h2:aK aI p.entries≤szL aI p.entries:=by simp only [szL];omega
  omega
 have hel0:p.entries.length≤16777216:=by
  have:p.entries.length≤szL aI p.entries:=by simp only [szL];omega
  omega
 have hdl0:=oK mY p.slots 0
 have hat:=aOq mY p.slots 0
 unfold pW
 by_cases hpre:aBq p=true∧p.loaded=false∧0≤p.deferred∧0≤p.entered
 ·rw [if_pos hpre]
  obtain ⟨h1,h2,h3,h4⟩:=hpre
  obtain ⟨dn,hdn⟩:=Int.eq_ofNat_of_zero_le h3
  obtain ⟨en,hen⟩:=Int.eq_ofNat_of_zero_le h4
  rw [hdn,hen,Int.toNat_natCast,Int.toNat_natCast]
  rw [h1] at cP
  by_cases hdl:dn < (places mY 0 p.slots).length
  ·have hgD:=List.getElem?_eq_getElem hdl
   obtain ⟨sn,hsn,_,hsl⟩:=hat _ (List.getElem_mem hdl)
   rw [Nat.zero_add] at hsl
   rw [hsn] at hgD
   rw [hgD]
   simp only [Int.toNat_natCast]
   have hgS:=List.getElem?_eq_getElem hsl
   rw [hgS]
   simp only
   have hbody:=hbd _ (List.getElem_mem hsl)
   have hkd:IntKind.i64.wrap ((dn:Int)+1)=(dn:Int)+1:=by rw [wrap64]<;>omega
   have hdi:(dn:Int) < ((places mY 0 p.slots).length:Int):=by omega
   unfold aHu
   have c4:=yK p p.slots[sn].body false (by omega) (by omega)
   have hqd:=(aPe p p.slots[sn].body false).1.trans hdn
   clear hbd hed hat hsn hdl0
   generalize places mY 0 p.slots=D at *
   cases hd:p.slots[sn].done
   ·rw [if_neg (by simp)]
    simp only [aG,h2,hdn,hen] at c1 cP cS cD⊢
    refine ent Tryz.mix Tryz.func110 Tryz.ntmps110 ?_
    have W:=And.intro hdi (And.intro hgD (And.intro hgS hd))
    have V:=And.intro hdl hsl
    repeat' first|refine st ?_|(refine nx ?_;first|refine se ?_|refine so ?_)|(refine cx ?_;first|refine sT ?_|refine sF ?_)|fail
    exact aM Tryz.results110
   ·generalize p.slots.all qJ=rdy at *
    cases rdy
    ·rw [if_neg (by simp)]
     simp only [aG,h2,hdn,hen] at c1 cP cS cD⊢
     refine ent Tryz.mix Tryz.func110 Tryz.ntmps110 ?_
     have W:=And.intro hdi (And.intro hgD (And.intro hgS hd))
     have V:=And.intro hdl hsl
     repeat' first|refine st ?_|(refine nx ?_;first|refine se ?_|refine so ?_)|(refine cx ?_;first|refine sT ?_|refine sF ?_)|fail
     exact aM Tryz.results110
    ·rw [if_pos ⟨rfl,rfl⟩]
     by_cases hcd:p.slots[sn].code=1
     ·rw [if_pos hcd]
      generalize kY p p.slots[sn].body false=q at *
      simp only [aG,h2,hdn,hen,hqd] at c1 cP cS cD c4⊢
      refine ent Tryz.mix Tryz.func110 Tryz.ntmps110 ?_
      have W:=And.intro hdi (And.intro hgD (And.intro hgS (And.intro hd (And.intro hcd hkd))))
      have V:=And.intro hdl hsl
      repeat' first|refine st ?_|(refine nx ?_;first|refine se ?_|refine so ?_)|(refine cx ?_;first|refine sT ?_|refine sF ?_)|fail
      exact aM Tryz.results110
     ·rw [if_neg hcd]
      simp only [aG,h2,hdn,hen] at c1 cP cS cD⊢
      refine ent Tryz.mix Tryz.func110 Tryz.ntmps110 ?_
      have W:=And.intro hdi (And.intro hgD (And.intro hgS (And.intro hd (And.intro hcd hkd))))
      have V:=And.intro hdl hsl
      repeat' first|refine st ?_|(refine nx ?_;first|refine se ?_|refine so ?_)|(refine cx ?_;first|refine sT ?_|refine sF ?_)|fail
      exact aM Tryz.results110
  ·have hgD:(places mY 0 p.slots)[dn]? =none:=List.getElem?_eq_none (by omega)
   rw [hgD]
   simp only
   have hdl:¬(dn:Int) < ((places mY 0 p.slots).length:Int):=by omega
   clear hbd hat hgD
   generalize places mY 0 p.slots=D at *
   by_cases hlE:en < p.entries.length
   ·have hgE:=List.getElem?_eq_getElem hlE
    rw [hgE]
    simp only
    have hsa:=hed _ (List.getElem_mem hlE)
    have hel:(en:Int) < (p.entries.length:Int):=by omega
    have hke:IntKind.i64.wrap ((en:Int)+1)=(en:Int)+1:=by rw [wrap64]<;>omega
    have cG:=aIe p p.entries[en] hsa
    have c5:=aSj p p.entries[en] hs hsa
    have hqe:=(bAe p p.entries[en]).trans hen
    clear hed
    unfold aH2
    generalize aAu p p.entries[en]=gr at *
    cases gr
    ·rw [if_neg (by simp)]
     simp only [aG,aF,h2,hdn,hen] at c1 cP cS cD cG⊢
     refine ent Tryz.mix Tryz.func110 Tryz.ntmps110 ?_
     have W:=And.intro hdl (And.intro hel (And.intro hgE hlE))
     refine we ?_
     exact aM Tryz.results110
    ·generalize p.slots.all qJ=rdy at *
     cases rdy
     ·rw [if_neg (by simp)]
      simp only [aG,aF,h2,hdn,hen] at c1 cP cS cD cG⊢
      refine ent Tryz.mix Tryz.func110 Tryz.ntmps110 ?_
      have W:=And.intro hdl (And.intro hel (And.intro hgE hlE))
      refine we ?_
      exact aM Tryz.results110
     ·rw [if_pos ⟨rfl,rfl⟩]
      generalize nV p p.entries[en]=q at *
      simp only [aG,aF,h2,hdn,hen,hqe] at c1 cP cS cD cG c5⊢
      refine ent Tryz.mix Tryz.func110 Tryz.ntmps110 ?_
      have W:=And.intro hdl (And.intro hel (And.intro hke (And.intro hgE hlE)))
      refine we ?_
      exact aM Tryz.results110
   ·have hgE:p.entries[en]? =none:=List.getElem?_eq_none (by omega)
    rw [hgE]
    simp only
    have hel:¬(en:Int) < (p.entries.length:Int):=by omega
    clear hed
    have cO:=aA8 p hn1
    have cM:=aB4 p hn2
    have hlg:p.log.length≤33000000:=by simp only [aJ,szL] at hs;omega
    have c5:=aD8 p aJ6 (by omega)
    unfold aH3
    simp only [aJ6] at c5⊢
    generalize places sH 0 p.slots=O at *
    generalize places sM 0 p.mods=M at *
    by_cases ho:O.length=0
    ·obtain rfl:=List.length_eq_zero_iff.1 ho
     by_cases hm:M.length=0
     ·obtain rfl:=List.length_eq_zero_iff.1 hm
      rw [if_pos ⟨rfl,rfl⟩]
      simp only [aG,h2,hdn,hen] at c1 cP cS cD cO cM c5⊢
      refine ent Tryz.mix Tryz.func110 Tryz.ntmps110 ?_
      have W:=And.intro hdl hel
      repeat' first|refine st ?_|(refine nx ?_;first|refine se ?_|refine so ?_|refine sg (hc:=c5) (h:=?_))|(refine cx ?_;first|refine sT ?_|refine sF ?_)|fail
      exact aM Tryz.results110
     ·rw [if_neg (by omega)]
      have hm2:¬M=[]:=fun h=>hm (by rw [h];rfl)
      have hm3:(0:Int) < (M.length:Int):=by omega
      simp only [aG,h2,hdn,hen] at c1 cP cS cD cO cM⊢
      refine ent Tryz.mix Tryz.func110 Tryz.ntmps110 ?_
      have W:=And.intro hdl (And.intro hel (And.intro hm2 hm3))
      repeat' first|refine st ?_|(refine nx ?_;first|refine se ?_|refine so ?_)|(refine cx ?_;refine sc (fun hc=>?_) (fun hc=>?_)<;>try exact hc.elim)|(refine lx ?_;refine sp (fun hc=>?_) (fun hc=>?_)<;>try exact hc.elim)|refine sx ?_ ?_|refine sy ?_ ?_|fail
      all_goals (try exact (hm2 (by assumption)).elim)
      all_goals (try (refine ⟨.inr rfl,?_⟩;simp [Hands,Tryz.results110]))
    ·rw [if_neg (by omega)]
     have ho2:¬O=[]:=fun h=>ho (by rw [h];rfl)
     have ho3:(0:Int) < (O.length:Int):=by omega
     simp only [aG,h2,hdn,hen] at c1 cP cS cD cO cM⊢
     refine ent Tryz.mix Tryz.func110 Tryz.ntmps110 ?_
     have W:=And.intro hdl (And.intro hel (And.intro ho2 ho3))
     repeat' first|refine st ?_|(refine nx ?_;first|refine se ?_|refine so ?_)|(refine cx ?_;refine sc (fun hc=>?_) (fun hc=>?_)<;>try exact hc.elim)|(refine lx ?_;refine sp (fun hc=>?_) (fun hc=>?_)<;>try exact hc.elim)|refine sx ?_ ?_|refine sy ?_ ?_|fail
     all_goals (try exact (ho2 (by assumption)).elim)
     all_goals (try (refine ⟨.inr rfl,?_⟩;simp [Hands,Tryz.results110]))
 ·rw [if_neg hpre]
  clear hbd hed hat
  cases h1:aBq p
  ·rw [h1] at cP
   simp only [aG] at c1 cP cS cD⊢
   refine ent Tryz.mix Tryz.func110 Tryz.ntmps110 ?_
   refine aW ?_
   exact aM Tryz.results110
  ·rw [h1] at cP
   cases h2:p.loaded
   ·by_cases h3:p.deferred < 0
    ·simp only [aG,h2] at c1 cP cS cD⊢
     refine ent Tryz.mix Tryz.func110 Tryz.ntmps110 ?_
     have W:=h3
     refine we ?_
     exact aM Tryz.results110
    ·have h4:p.entered < 0:=by
      rw [h1,h2] at hpre
      by_cases h4:p.entered < 0
      ·exact h4
      ·exact (hpre ⟨rfl,rfl,by omega,by omega⟩).elim
     simp only [aG,h2] at c1 cP cS cD⊢
     refine ent Tryz.mix Tryz.func110 Tryz.ntmps110 ?_
     have W:=And.intro h3 h4
     refine we ?_
     exact aM Tryz.results110
   ·simp only [aG,h2] at c1 cP cS cD⊢
    refine ent Tryz.mix Tryz.func110 Tryz.ntmps110 ?_
    refine aW ?_
    exact aM Tryz.results110
theorem aCh [aB Tryz.prog] [dB Tryz.prog] {n e:Nat} (p:aC) (h0:OnP n e p) (hn:n+1442000≤33000000) (he:e≤16777216):Ok Tryz.prog 76 [.agg (aG .view p)] (.agg (aG .own (advance p))):=by
 have hs:=h0.sz.1
 have c1:=fH p (by omega)
 unfold advance
 generalize hr:oL 2000 p=r at *
 simp only [aG] at c1
 refine ent Tryz.mix Tryz.func76 Tryz.ntmps76 ?_
 refine bA ?_
 refine aR (ι:={x:Nat×aC // x.1≤2000∧OnP (n+721 * x.1) e x.2∧oL (2000 - x.1) x.2=r}) (fun t o i=>⟨aS t [(4,.int .i64 i.1.1),(5,.undef),(6,.undef),(8,.undef)],o.take 2++pOs i.1.2++[⟨true,true,22,0,[pCs 2 i.1.2]⟩]⟩)
  (fun i=>2000 - i.1.1) ⟨(0,p),by simp,h0.up (by omega) (Nat.le_refl _),hr⟩ (aO (by simp [pOs,pCs]) (by simp)) ?_
 rintro ⟨⟨k,q⟩,hk,hok,hadv⟩ K1 hK1
 simp only at hk hok hadv
 clear h0 hr hs c1
 have hk1:=wk1 (k:=k) (by omega)
 by_cases hlt:k < 2000
 ·have hki:(k:Int) < 2000:=by omega
  obtain ⟨hz,hme⟩:=hok.sz
  have c2:=aIb q (by omega)
  have c3:=aLz q (by omega) (by have:=hok.sl;omega) (by omega)
  obtain ⟨g1,g2⟩:=bHy hlt hadv
  have hnx:=(aWo hok (by omega) he).up (n2:=n+721 * (k+1)) (by omega) (Nat.le_refl _)
  unfold rR at g1 g2 hnx
  have hK2:=hK1
  simp only [aS,List.set_cons_succ,List.set_cons_zero,List.take_succ_cons,List.take_zero,List.cons_append,List.nil_append,pOs,pCs] at hK1⊢
  cases hb:(lM q).2
  ·rw [hb] at c2
   rw [if_neg (by rw [hb];simp)] at g1 g2 hnx
   generalize (lM q).1=q1 at *
   cases hb2:(pW q).2
   ·rw [hb2] at c3
    have hq:=g2 hb2
    clear g1 g2 hnx hK2 hK1 hok hadv hz hme
    generalize (pW q).1=q2 at *
    subst hq
    simp only [aG] at c2 c3⊢
    have W:=hki
    refine wl ?_
    exact aM Tryz.results76
   ·rw [hb2] at c3
    have hq:=g1 hb2
    clear g1 g2 hz hme
    generalize (pW q).1=q2 at *
    simp only [aG] at c2 c3
    have W:=And.intro hki hk1
    refine wl ?_
    refine hK2 _ ⟨(k+1,q2),by simp only;omega,hnx,hq⟩ ?_ (by simp only;omega)
    exact aZa (q:=q2) rfl (by simp [pOs,pCs]) (by simp [sV]) (by simp [sV]) (by simp) (by simp) (by simp [eO])
  ·rw [hb] at c2
   rw [if_pos hb] at g1 g2 hnx
   have hq:=g1 hb
   clear g1 g2 hz hme c3
   generalize (lM q).1=q1 at *
   simp only [aG] at c2
   have W:=And.intro hki hk1
   refine wl ?_
   refine hK2 _ ⟨(k+1,q1),by simp only;omega,hnx,hq⟩ ?_ (by simp only;omega)
   exact aZs (q:=q1) rfl (by simp [pOs,pCs]) (by simp [sU]) (by simp [sU]) (by simp) (by simp) (by simp [eO])
 ·have hki:¬(k:Int) < 2000:=by omega
  obtain rfl:k=2000:=by omega
  have hq:q=r:=by simpa [oL] using hadv
  simp only [aS,List.set_cons_succ,List.set_cons_zero,List.take_succ_cons,List.take_zero,List.cons_append,List.nil_append,pOs,pCs] at hK1⊢
  clear hK1 hok hadv
  subst hq
  simp only [aG]
  refine bA ?_
  exact aM Tryz.results76
def oD:List (Nat×Nat):=[(4,18),(5,19),(6,20),(7,21),(8,22),(9,23),(10,24),(11,25),(12,26),(13,27),(14,28)]
theorem aYd {t t':List AV} {o o':List aA} {o0 o1 o2 o3 m0 m1:aA} {q0 q:aC} (ho:o=[o0,o1,o2,o3]++lN q0++[⟨true,true,22,0,[lC 18 q]⟩,m0,m1]++lN q) (ho':o'=[o0,o1,o2,o3]++lN q++[⟨true,true,22,0,[lC 4 q]⟩,m0,m1])
  (ht:∀z∈oD,wk (lD z.1 z.2 t') t') (hf:∀z∈oD,o0.rsw z.1 z.2=o0∧o1.rsw z.1 z.2=o1∧o2.rsw z.1 z.2=o2∧o3.rsw z.1 z.2=o3∧m0.rsw z.1 z.2=m0∧m1.rsw z.1 z.2=m1) (hw:wk t t') (hc:fV 18 t'=true) (hc0:eO 18 [o0,o1,o2,o3,m0,m1]=true):fG ⟨t,o⟩ ⟨t',o'⟩:=by
 subst ho;subst ho'
 have e:=fun i j (h:(i,j)∈oD)=>hf (i,j) h
 have h:=fun i j (h:(i,j)∈oD)=>ht (i,j) h
 simp only [lN,lC,List.cons_append,List.nil_append]
 refine (vG hw).trans ?_
 refine (bH 4 18 rfl rfl ⟨rfl,rfl⟩ (by simp [(e 4 18 (by decide))];rfl) (h 4 18 (by decide))).trans ?_
 refine (bH 5 19 rfl rfl ⟨rfl,rfl⟩ (by simp [(e 5 19 (by decide))];rfl) (h 5 19 (by decide))).trans ?_
 refine (bH 6 20 rfl rfl ⟨rfl,rfl⟩ (by simp [(e 6 20 (by decide))];rfl) (h 6 20 (by decide))).trans ?_
 refine (bH 7 21 rfl rfl ⟨rfl,rfl⟩ (by simp [(e 7 21 (by decide))];rfl) (h 7 21 (by decide))).trans ?_
 refine (bH 8 22 rfl rfl ⟨rfl,rfl⟩ (by simp [(e 8 22 (by decide))];rfl) (h 8 22 (by decide))).trans ?_
 refine (bH 9 23 rfl rfl ⟨rfl,rfl⟩ (by simp [(e 9 23 (by decide))];rfl) (h 9 23 (by decide))).trans ?_
 refine (bH 10 24 rfl rfl ⟨rfl,rfl⟩ (by simp [(e 10 24 (by decide))];rfl) (h 10 24 (by decide))).trans ?_
 refine (bH 11 25 rfl rfl ⟨rfl,rfl⟩ (by simp [(e 11 25 (by decide))];rfl) (h 11 25 (by decide))).trans ?_
 refine (bH 12 26 rfl rfl ⟨rfl,rfl⟩ (by simp [(e 12 26 (by decide))];rfl) (h 12 26 (by decide))).trans ?_
 refine (bH 13 27 rfl rfl ⟨rfl,rfl⟩ (by simp [(e 13 27 (by decide))];rfl) (h 13 27 (by decide))).trans ?_
 refine (bH 14 28 rfl rfl ⟨rfl,rfl⟩ (by simp [(e 14 28 (by decide))];rfl) (h 14 28 (by decide))).trans ?_
 refine aN 18 (by simp) (kQ _) hc ?_
 simpa [eO,fV,closed] using hc0
theorem aK5 [aB Tryz.prog] [dB Tryz.prog] (p:aC) (a:aD) (hps:aJ p≤268435456) (hha:a.host.length≤1073741824):Ok Tryz.prog 152 [.agg (aG .view p),.agg (aF a)] (.tup [.sl .own 2 ((gI p a).map aF),.bool (mF p a)]):=by
 simp only [aJ,szL] at hps
 have c2:=sW p a (by omega)
 unfold gI mF
 rcases oP (gJ a) p.mods with ⟨hi,hf⟩|⟨k,hk,hi,hf⟩
 ·rw [hf]
  rw [hi] at c2
  simp only [aF,aG] at c2
  refine ent Tryz.mix Tryz.func152 Tryz.ntmps152 ?_
  refine aW ?_
  exact aM Tryz.results152
 ·rw [hf]
  rw [hi] at c2
  have hm:=List.getElem_mem hk
  have hz:=dL bI hm
  have hg:=List.getElem?_eq_getElem hk
  simp only [bI,aI] at hz
  have cp:=uL p.mods[k].body a.host (by omega) hha
  simp only [aF,aG] at c2
  simp only
  generalize bK p.mods[k].body a.host=w at *
  obtain ⟨w1,w2,w3⟩:=w
  simp only at cp
  have hk0:¬((k:Nat):Int) < 0:=by omega
  cases hd1:p.mods[k].done
  ·refine ent Tryz.mix Tryz.func152 Tryz.ntmps152 ?_
   have W:=And.intro hk0 (And.intro hg (And.intro hk hd1))
   refine we ?_
   exact aM Tryz.results152
  ·by_cases hd2:p.mods[k].code=1
   ·simp only [hd2,and_self,if_true]
    refine ent Tryz.mix Tryz.func152 Tryz.ntmps152 ?_
    have W:=And.intro hk0 (And.intro hg (And.intro hk (And.intro hd1 hd2)))
    refine we ?_
    exact aM Tryz.results152
   ·simp only [hd2,and_false,if_false]
    refine ent Tryz.mix Tryz.func152 Tryz.ntmps152 ?_
    have W:=And.intro hk0 (And.intro hg (And.intro hk (And.intro hd1 hd2)))
    refine we ?_
    exact aM Tryz.results152
theorem aIh [aB Tryz.prog] [dB Tryz.prog] (p:aC) (a:aD) (x:aV) (hs:aJ p+aI a≤67108864) (hx:dC x≤1048576):Ok Tryz.prog 115 [.agg (aG .view p),.agg (aF a),.agg (cZ x)] (.agg (aG .own (kU p a x))):=by
 have hs1:aJ p≤67108864:=by omega
 have hml:p.mods.length≤67108864:=by simp only [aJ,szL] at hs1;omega
 have hpol:dX p.policy≤274877906944:=by simp only [aJ] at hs1;omega
 have c1:=fH p (by omega)
 have c2:=sW p a (by omega)
 rcases oP (gJ a) p.mods with ⟨hi,hf⟩|⟨k,hk,hi,hf⟩
 ·rw [aEc hi]
  rw [hi] at c2
  simp only [aG,aF] at c1 c2
  refine ent Tryz.mix Tryz.func115 Tryz.ntmps115 ?_
  refine aW ?_
  exact aM Tryz.results115
 ·have hg:=List.getElem?_eq_getElem hk
  rw [hi] at c2
  have hk0:¬((k:Nat):Int) < 0:=by omega
  cases hd:p.mods[k].done
  ·rw [aHg hi hg hd]
   have cR:=aAp p k (by omega) (by omega) (by omega)
   have e:tQ p (k:Int)=iE p p.mods[k]:=by simp [tQ,hg]
   rw [e] at cR
   have hrq:fE (iE p p.mods[k])≤268435456:=by
    have hm:=dL bI (List.getElem_mem hk)
    simp only [bI] at hm
    simp only [fE,iE,List.length_nil]
    simp only [aJ,szL,aI] at hs1 hm⊢
    omega
   have c3:=rZ p.policy (iE p p.mods[k]) x hpol (by omega) hx
   have c4:=aAq p.policy (iE p p.mods[k]) x hpol (by omega) hx
   simp only [aG,bT] at cR
   simp only [bY,bT,cZ] at c3 c4
   simp only [aG,aF] at c1 c2
   clear e
   have hfi:=aIp (x:=x) hi hk hf
   have hqs:=aWl p k hk x
   have hub:=aCg p.policy (iE p p.mods[k]) x
   have hset:(p.mods.map jB).set k [.str p.mods[k].to.host,.str p.mods[k].to.path,.bool true,.int .i64 (gQ p.policy (iE p p.mods[k]) x),.str (mJ p.policy (iE p p.mods[k]) x)]=(p.mods.set k (iR p p.mods[k] x)).map jB:=by rw [List.map_set];rfl
   have hg3:(p.mods.set k (iR p p.mods[k] x))[k]? =some (iR p p.mods[k] x):=by rw [List.getElem?_set_self hk]
   unfold aHm
   have hfm:(iR p p.mods[k] x).done=true∧(iR p p.mods[k] x).code=gQ p.policy (iE p p.mods[k]) x∧(iR p p.mods[k] x).body=mJ p.policy (iE p p.mods[k]) x:=⟨rfl,rfl,rfl⟩
   have hl3:(p.mods.set k (iR p p.mods[k] x)).length=p.mods.length:=by simp
   generalize gQ p.policy (iE p p.mods[k]) x=c at *
   generalize mJ p.policy (iE p p.mods[k]) x=y at *
   generalize iE p p.mods[k]=rq at *
   generalize iR p p.mods[k] x=m3 at *
   generalize p.mods.set k m3=L3 at *
   obtain ⟨f1,f2,f3⟩:=hfm
   have hlt3:k < L3.length:=by omega
   have e3:∀h,(L3[k]'h)=m3:=fun h=>by rw [List.getElem?_eq_getElem h] at hg3;exact Option.some.inj hg3
   obtain ⟨b1,b2⟩:=aUt (q:={p with mods:=L3}) hfi (by rw [f3];exact hub)
   have cI:=aK5 {p with mods:=L3} a (by omega) (by simp only [aI] at hs;omega)
   generalize gI {p with mods:=L3} a=L at *
   generalize mF {p with mods:=L3} a=ok at *
   simp only [aG,aF] at cI
   refine ent Tryz.mix Tryz.func115 Tryz.ntmps115 ?_
   have W:=And.intro hk0 (And.intro hg (And.intro hd (And.intro hk (And.intro hset (And.intro hlt3 (And.intro e3 (And.intro f1 (And.intro f2 f3))))))))
   refine we ?_
   have hq0:aJ {p with mods:=L3}≤67109376:=by omega
   have hts:=aVc hq0 b1 b2
   have hsn:=fun i (h:i < L.length)=>show lK {p with mods:=L3} (L.take (i+1))=eU (lK {p with mods:=L3} (L.take i)) L[i] by rw [List.take_succ_eq_append_getElem h,aU9]
   have h00:lK {p with mods:=L3} (L.take 0)={p with mods:=L3}:=by simp [lK]
   have hall:L.length≤1099511627776:=by omega
   refine aR (ι:={k:Nat // k≤L.length}) (fun t o i=>⟨aS t [(12,.int .i64 i.1),(14,.undef),(33,.undef),(35,.undef),(36,.undef),(38,.undef),(45,.undef),(46,.undef),(49,.undef),(58,.undef),(59,.undef),(61,.undef)],o.take 4++lN (lK {p with mods:=L3} (L.take i.1))++[⟨true,true,22,0,[lC 4 (lK {p with mods:=L3} (L.take i.1))]⟩]++o.drop 16⟩)
    (fun i=>L.length - i.1) ⟨0,by simp⟩ (aO (by simp only [h00];simp [lN,lC]) (by simp)) ?_
   rintro ⟨i,hi2⟩ K1 hK1
   have hi1:IntKind.i64.wrap ((i:Int)+1)=((i+1:Nat):Int):=by rw [wrap64]<;>omega
   by_cases hlt:i < L.length
   ·have hgi:=List.getElem?_eq_getElem hlt
    have cA:=aBg (lK {p with mods:=L3} (L.take i)) L[i] (by have:=hts i;omega) (by have:=b2 _ (List.getElem_mem hlt);omega)
    have hnext:=hsn i hlt
    rw [←hnext] at cA
    have hK2:=hK1
    simp only [aS,List.set_cons_succ,List.set_cons_zero,List.take_succ_cons,List.take_zero,List.cons_append,List.nil_append,List.drop_succ_cons,List.drop_zero,lN,lC] at hK1⊢
    clear hsn h00 hnext hts
    generalize hq1:lK {p with mods:=L3} (L.take i)=q at *
    generalize hq2:lK {p with mods:=L3} (L.take (i+1))=q' at *
    simp only [aG,aF] at cA
    have W:=And.intro hi1 (And.intro hgi hlt)
    refine we ?_
    refine hK2 _ ⟨i+1,by omega⟩ ?_ (by simp only;omega)
    simp only [hq2]
    exact aYd (q0:=q) (q:=q') rfl (by simp [lN,lC]) (by simp [oD]) (by simp [oD]) (by simp) (by simp) (by simp)
   ·have htk:L.take i=L:=List.take_of_length_le (by omega)
    have hK2:=hK1
    simp only [aS,List.set_cons_succ,List.set_cons_zero,List.take_succ_cons,List.take_zero,List.cons_append,List.nil_append,List.drop_succ_cons,List.drop_zero,lN,lC,htk] at hK1⊢
    clear hsn h00 hts hK2 hK1
    generalize lK {p with mods:=L3} L=q at *
    have W:=And.intro hi1 hlt
    refine we ?_
    exact aM Tryz.results115
  ·rw [aE5 hi hg hd]
   simp only [aG,aF] at c1 c2
   refine ent Tryz.mix Tryz.func115 Tryz.ntmps115 ?_
   have W:=And.intro hk0 (And.intro hg (And.intro hd hk))
   refine we ?_
   exact aM Tryz.results115
theorem aIi [aB Tryz.prog] [dB Tryz.prog] {n e:Nat} (p:aC) (a:aD) (x:aV) (h:OnP n e p) (hn:n+1453000≤33000000) (he:e+1400≤16777216) (ha:aI a≤33000000) (hx:dC x≤1048576):Ok Tryz.prog 78 [.agg (aG .view p),.agg (aF a),.agg (cZ x)] (.agg (aG .own (qN p a x))):=by
 have h1:=aLv a x h
 have h2:=aSi a x h1
 have c1:=aNb p a x (by have:=h.sz.1;omega) hx
 have c2:=aIh (mD p a x) a x (by have:=h1.sz.1;omega) hx
 have c3:=aCh (kU (mD p a x) a x) h2 (by omega) he
 unfold qN
 generalize advance (kU (mD p a x) a x)=r at *
 clear h1 h2 h
 generalize kU (mD p a x) a x=q2 at *
 generalize mD p a x=q1 at *
 simp only [aG,aF,cZ] at c1 c2 c3⊢
 refine ent Tryz.mix Tryz.func78 Tryz.ntmps78 ?_
 refine bA ?_
 exact aM Tryz.results78
theorem xS (p:aC) (m:Int) (a b:Str) (n:Int):(fP p m a b n).1.addr=p.addr:=by
 unfold fP
 split
 ·rfl
 ·split<;>rfl
theorem aPl (p:aC) (tx:Str):(oI p tx).addr=p.addr:=by
 unfold oI
 split
 ·rfl
 ·exact (aV2 p _).2.1
theorem aVl (p:aC) (t:bE) (n:Int):(xQ p t n).addr=p.addr:=by
 unfold xQ
 split
 ·exact xS ..
 ·split
  ·exact xS ..
  ·rfl
theorem aMl (p:aC) (k:Nat) (l:List iJ):(rY p k l).addr=p.addr:=by
 unfold rY
 split
 ·split<;>rfl
 ·split
  ·exact xS ..
  ·split
   ·exact aPl ..
   ·exact xS ..
theorem aNj (p:aC):(lF p).1.addr=p.addr:=by
 unfold lF
 split
 ·rfl
 ·split
  ·simp only [lZ]
   split
   ·exact aMl ..
   ·split
    ·exact aVl ..
    ·rfl
  ·rfl
theorem aBt (p:aC) (c:Str) (w:Bool):(kY p c w).addr=p.addr:=by
 unfold kY
 split<;>rfl
theorem aVo (p:aC) (b:aD):(mH p b).addr=p.addr:=by
 unfold mH
 split<;>rfl
theorem aGj:∀(L:List aD) (p:aC),(L.foldl mH p).addr=p.addr
 |[],_=>rfl
 |b::L,p=>(aGj L (mH p b)).trans (aVo p b)
theorem aNe (p:aC) (a:aD):(nV p a).addr=p.addr:=by
 unfold nV
 split
 ·rfl
 ·exact aGj _ p
theorem aK2 (p:aC):(lM p).1.addr=p.addr:=by
 unfold lM
 split
 ·split
  ·exact aBt p _ true
  ·rfl
 ·split
  ·unfold stepBlock
   split
   ·split
    ·split
     ·simp only
      split
      ·exact aBt ..
      ·rfl
     ·rfl
    ·rfl
   ·rfl
  ·exact aNj p
theorem aQh (p:aC):(pW p).1.addr=p.addr:=by
 unfold pW
 split
 ·split
  ·split
   ·unfold aHu
    split
    ·simp only
     split
     ·exact aBt ..
     ·rfl
    ·rfl
   ·rfl
  ·split
   ·unfold aH2
    split
    ·exact aNe ..
    ·rfl
   ·unfold aH3
    split<;>rfl
 ·rfl
theorem aTf (p:aC):(rR p).1.addr=p.addr:=by
 unfold rR
 split
 ·exact aK2 p
 ·exact aQh p
theorem aAk:∀(n:Nat) (p:aC),(oL n p).addr=p.addr
 |0,_=>rfl
 |n+1,p=>by
  unfold oL
  split
  ·exact (aAk n _).trans (aTf p)
  ·rfl
theorem aIq (p:aC) (a:aD) (x:aV):∀k,(fQ p a x k).addr=p.addr
 |0=>rfl
 |k+1=>by
  have ih:=aIq p a x k
  simp only [fQ]
  split
  ·split
   ·exact (aN5 _ _ _).2.2.trans ih
   ·exact ih
  ·exact ih
theorem aIn:∀(l:List aD) (p:aC),(lK p l).addr=p.addr
 |[],_=>rfl
 |b::l,p=>(aIn l (eU p b)).trans (aV2 p b).2.1
theorem aXq (p:aC) (a:aD) (x:aV):(kU p a x).addr=p.addr:=by
 rcases oP (gJ a) p.mods with ⟨hi,hf⟩|⟨k,hk,hi,hf⟩
 ·rw [aEc hi]
 ·have hg:=List.getElem?_eq_getElem hk
  cases hd:p.mods[k].done
  ·rw [aHg hi hg hd]
   exact aIn _ _
  ·rw [aE5 hi hg hd]
theorem aLs (p:aC) (a:aD) (x:aV):(qN p a x).addr=p.addr:=
 (aAk 2000 _).trans ((aXq _ a x).trans (aIq p a x _))
theorem aYf [aB Tryz.prog] (l:List dS) (hs:szL bQ l≤274877906944):Ok Tryz.prog 131 [.sl .view 2 (l.map (bJ .view))] (.sl .own 2 (l.map (bJ .own))):=by
 simp only [szL] at hs
 refine ent Tryz.mix Tryz.func131 Tryz.ntmps131 ?_
 refine aW ?_
 refine aR (ι:={q:Nat×Nat // q.1≤l.length∧1≤q.2}) (fun t o i=>⟨aS t [(3,.obj 0 i.1.2),(4,.int .i64 i.1.1)],o.take 0++[⟨true,false,2,i.1.2,(l.take i.1.1).map (bJ .own)⟩]⟩)
  (fun i=>l.length - i.1.1) ⟨(0,1),by simp,by first|(simp;done)|(simp only;omega)⟩ aO ?_
 rintro ⟨⟨k,v⟩,hk,hv⟩ K1 hK1
 simp only at hk hv
 simp only [aS,List.set_cons_succ,List.set_cons_zero,List.take_succ_cons,List.take_zero,List.cons_append,List.nil_append] at hK1⊢
 have hk1:=wk1 (k:=k) (by omega)
 by_cases hlt:k < l.length
 ·have hg:=List.getElem?_eq_getElem hlt
  have hps:=aJh (bJ .own) l k hlt
  have hz:=fM bQ l k hlt
  simp only [bQ,szL] at hz
  have hgl:((l.take k).map (bJ .own)).length=k:=by simp;omega
  generalize (l.take k).map (bJ .own)=g at *
  have W:=And.intro hk1 (And.intro hg (And.intro hlt hgl))
  refine we ?_
  all_goals refine hK1 _ ⟨(k+1,v+1),by simp only;omega,by simp only;omega⟩ (aN 1 (by simp [hps])) (by simp only;omega)
 ·have htk:l.take k=l:=List.take_of_length_le (by omega)
  rw [htk]
  have W:=hk1
  refine we ?_
  exact aM Tryz.results131
end Go.Proofs.YtaddkhdghlaalaaGreatDoor
