/-
  Proved here: steps towards the statement of this claim, text QSP2.
  No condition beyond what each statement spells out.
-/
import Derived.Test.YtaddkhdghlaalaaGreatDoorQTK7
import Derived.Test.YtaddkhdghlaalaaGreatDoorTKA
import Derived.Test.YtaddkhdghlaalaaGreatDoorQP3
import Derived.Test.YtaddkhdghlaalaaGreatDoorQZ7
import Derived.Test.YtaddkhdghlaalaaGreatDoorQRLsd
import Derived.Test.YtaddkhdghlaalaaGreatDoorQR7
import Derived.Test.YtaddkhdghlaalaaGreatDoorQT5
import Derived.Test.YtaddkhdghlaalaaGreatDoorZ6
set_option linter.all false
set_option maxRecDepth 8000
set_option maxHeartbeats 8000000
namespace Go.Proofs.YtaddkhdghlaalaaGreatDoor
open Go.Aw
theorem aIb [aB Tryz.prog] [dB Tryz.prog] (p:aC) (hs:aJ p≤67108864):Ok Tryz.prog 109 [.agg (aG .view p)] (.tup [.agg (aG .own (lM p).1),.bool (lM p).2]):=by
 have c1:=fH p (by omega)
 have hsb:aU p.builder≤67108864:=by simp only [aJ] at hs;omega
 have hsl:p.slots.length≤67108864:=by simp only [aJ,szL] at hs;omega
 have c2:=aAb p (by omega)
 have hbd:∀s∈p.slots,s.body.length≤67108864:=fun s hm=>by
  have:=aR1 kH hm
  simp only [aJ,szL,kH] at hs this;omega
 unfold lM
 by_cases hin:p.inline=0
 ·rw [if_neg (by simp [hin])]
  by_cases hbk:p.block=0
  ·rw [if_neg (by simp [hbk])]
   have c3:=aJl p hs
   generalize lF p=r at *
   obtain ⟨q,b⟩:=r
   simp only [aG,hin,hbk] at c1 c2 c3⊢
   clear hbd
   refine ent Tryz.mix Tryz.func109 Tryz.ntmps109 ?_
   have W:=And.intro hin hbk
   refine we ?_
   exact aM Tryz.results109
  ·rw [if_pos hbk]
   generalize hk:IntKind.i64.wrap (p.block - 1)=k
   unfold stepBlock
   by_cases h0:0≤k
   ·rw [if_pos h0]
    obtain ⟨kn,rfl⟩:=Int.eq_ofNat_of_zero_le h0
    rw [Int.toNat_natCast]
    have hk0:¬(kn:Int) < 0:=by omega
    by_cases hlt:kn < p.slots.length
    ·have hg:=List.getElem?_eq_getElem hlt
     have hlen:¬(p.slots.length:Int)≤(kn:Int):=by omega
     rw [hg]
     simp only
     have hbody:=hbd _ (List.getElem_mem hlt)
     have hw1:IntKind.i64.wrap ((p.slots.length:Int) - 1)=(p.slots.length:Int) - 1:=by rw [wrap64]<;>omega
     have c5:=eQ (kn:Int) 0 ((p.slots.length:Int) - 1)
     rw [show (decide ((0:Int)≤(kn:Int))&&decide ((kn:Int)≤(p.slots.length:Int) - 1))=true from by simp;omega] at c5
     cases hd:p.slots[kn].done
     ·rw [if_neg (by simp)]
      simp only [aG,hin] at c1 c2⊢
      clear hbd
      refine ent Tryz.mix Tryz.func109 Tryz.ntmps109 ?_
      have W:=And.intro hin (And.intro hbk (And.intro hk (And.intro hk0 (And.intro hlen (And.intro hg (And.intro hlt (And.intro hd hw1)))))))
      refine we ?_
      exact aM Tryz.results109
     ·generalize p.slots.all qJ=rdy at *
      cases rdy
      ·rw [if_neg (by simp)]
       simp only [aG,hin] at c1 c2⊢
       clear hbd
       refine ent Tryz.mix Tryz.func109 Tryz.ntmps109 ?_
       have W:=And.intro hin (And.intro hbk (And.intro hk (And.intro hk0 (And.intro hlen (And.intro hg (And.intro hlt (And.intro hd hw1)))))))
       refine we ?_
       exact aM Tryz.results109
      ·rw [if_pos ⟨rfl,rfl⟩]
       by_cases hcd:p.slots[kn].code=1
       ·rw [if_pos hcd]
        have c4:=yK p p.slots[kn].body true hs (by omega)
        generalize kY p p.slots[kn].body true=q at *
        simp only [aG,hin] at c1 c2 c4⊢
        clear hbd
        refine ent Tryz.mix Tryz.func109 Tryz.ntmps109 ?_
        have W:=And.intro hin (And.intro hbk (And.intro hk (And.intro hk0 (And.intro hlen (And.intro hg (And.intro hlt (And.intro hd (And.intro hcd hw1))))))))
        refine we ?_
        exact aM Tryz.results109
       ·rw [if_neg hcd]
        simp only [aG,hin] at c1 c2⊢
        clear hbd
        refine ent Tryz.mix Tryz.func109 Tryz.ntmps109 ?_
        have W:=And.intro hin (And.intro hbk (And.intro hk (And.intro hk0 (And.intro hlen (And.intro hg (And.intro hlt (And.intro hd (And.intro hcd hw1))))))))
        refine we ?_
        exact aM Tryz.results109
    ·have hg:p.slots[kn]? =none:=List.getElem?_eq_none (by omega)
     have hlen:(p.slots.length:Int)≤(kn:Int):=by omega
     rw [hg]
     simp only
     have hw1:IntKind.i64.wrap ((p.slots.length:Int) - 1)=(p.slots.length:Int) - 1:=by rw [wrap64]<;>omega
     have c5:=eQ (kn:Int) 0 ((p.slots.length:Int) - 1)
     rw [show (decide ((0:Int)≤(kn:Int))&&decide ((kn:Int)≤(p.slots.length:Int) - 1))=false from by simp;omega] at c5
     simp only [aG,hin] at c1 c2⊢
     clear hbd
     refine ent Tryz.mix Tryz.func109 Tryz.ntmps109 ?_
     have W:=And.intro hin (And.intro hbk (And.intro hk (And.intro hk0 (And.intro hlen hw1))))
     refine we ?_
     exact aM Tryz.results109
   ·rw [if_neg h0]
    have hk0:k < 0:=by omega
    have hw1:IntKind.i64.wrap ((p.slots.length:Int) - 1)=(p.slots.length:Int) - 1:=by rw [wrap64]<;>omega
    have c5:=eQ k 0 ((p.slots.length:Int) - 1)
    rw [show (decide ((0:Int)≤k)&&decide (k≤(p.slots.length:Int) - 1))=false from by simp;omega] at c5
    simp only [aG,hin] at c1 c2⊢
    clear hbd
    refine ent Tryz.mix Tryz.func109 Tryz.ntmps109 ?_
    have W:=And.intro hin (And.intro hbk (And.intro hk (And.intro hk0 hw1)))
    refine we ?_
    exact aM Tryz.results109
 ·rw [if_pos hin]
  generalize p.slots.all qJ=rdy at *
  cases rdy
  ·rw [if_neg (by simp)]
   simp only [aG] at c1 c2⊢
   clear hbd
   refine ent Tryz.mix Tryz.func109 Tryz.ntmps109 ?_
   have W:=hin
   refine we ?_
   exact aM Tryz.results109
  ·rw [if_pos rfl]
   have c3:=aQl p.builder p.inline (by omega)
   have htl:=aW2 p.builder p.inline
   generalize textOf p.builder p.inline=tx at *
   have c4:=yK p tx true hs (by omega)
   generalize kY p tx true=q at *
   simp only [aG,aZ] at c1 c2 c3 c4⊢
   clear hbd
   refine ent Tryz.mix Tryz.func109 Tryz.ntmps109 ?_
   have W:=hin
   refine we ?_
   exact aM Tryz.results109
def sZ:List (Nat×Nat):=[(3,24),(4,25),(5,26),(6,27),(7,28),(8,29),(9,30),(10,31),(11,32),(12,33),(13,34)]
theorem aZe {t t':List AV} {o o':List aA} {l1 l2 l3 l4 l5 l6 l7 l8 l9 l10 l11:Bool} {u n1 v1 n2 v2 n3 v3 n4 v4 n5 v5 n6 v6 n7 v7 n8 v8 n9 v9 n10 v10 n11 v11:Nat} {e1 e2 e3 e4 e5 e6 e7 e8 e9 e10 e11:List (List AV)} {o0 o1 o2 m0 m1 m2 m3 m4 m5 m6 m7 m8:aA} {q:aC} (ho:o=[o0,o1,o2,⟨l1,false,n1,v1,e1⟩,⟨l2,false,n2,v2,e2⟩,⟨l3,false,n3,v3,e3⟩,⟨l4,false,n4,v4,e4⟩,⟨l5,false,n5,v5,e5⟩,⟨l6,false,n6,v6,e6⟩,⟨l7,false,n7,v7,e7⟩,⟨l8,false,n8,v8,e8⟩,⟨l9,false,n9,v9,e9⟩,⟨l10,false,n10,v10,e10⟩,⟨l11,false,n11,v11,e11⟩,⟨true,true,22,u,[pCs 24 q]⟩,m0,m1,m2,m3,m4,m5,m6,m7,m8]++pOs q)
  (ho':o'=[o0,o1,o2]++pOs q++[⟨true,true,22,u,[pCs 3 q]⟩,m0,m1,m2,m3,m4,m5,m6,m7,m8]) (ht:∀z∈sZ,wk (lD z.1 z.2 t') t') (hf:∀z∈sZ,o0.rsw z.1 z.2=o0∧o1.rsw z.1 z.2=o1∧o2.rsw z.1 z.2=o2∧m0.rsw z.1 z.2=m0∧m1.rsw z.1 z.2=m1∧m2.rsw z.1 z.2=m2∧m3.rsw z.1 z.2=m3∧m4.rsw z.1 z.2=m4∧m5.rsw z.1 z.2=m5∧m6.rsw z.1 z.2=m6∧m7.rsw z.1 z.2=m7∧m8.rsw z.1 z.2=m8) (hw:wk t t') (hc:fV 24 t'=true) (hc0:eO 24 [o0,o1,o2,m0,m1,m2,m3,m4,m5,m6,m7,m8]=true):fG ⟨t,o⟩ ⟨t',o'⟩:=by
 subst ho;subst ho'
 have e:=fun i j (h:(i,j)∈sZ)=>hf (i,j) h
 have h:=fun i j (h:(i,j)∈sZ)=>ht (i,j) h
 simp only [pOs,pCs,List.cons_append,List.nil_append]
 refine (vG hw).trans ?_
 refine (bH 3 24 rfl rfl ⟨rfl,rfl⟩ (by simp [(e 3 24 (by decide))];rfl) (h 3 24 (by decide))).trans ?_
 refine (bH 4 25 rfl rfl ⟨rfl,rfl⟩ (by simp [(e 4 25 (by decide))];rfl) (h 4 25 (by decide))).trans ?_
 refine (bH 5 26 rfl rfl ⟨rfl,rfl⟩ (by simp [(e 5 26 (by decide))];rfl) (h 5 26 (by decide))).trans ?_
 refine (bH 6 27 rfl rfl ⟨rfl,rfl⟩ (by simp [(e 6 27 (by decide))];rfl) (h 6 27 (by decide))).trans ?_
 refine (bH 7 28 rfl rfl ⟨rfl,rfl⟩ (by simp [(e 7 28 (by decide))];rfl) (h 7 28 (by decide))).trans ?_
 refine (bH 8 29 rfl rfl ⟨rfl,rfl⟩ (by simp [(e 8 29 (by decide))];rfl) (h 8 29 (by decide))).trans ?_
 refine (bH 9 30 rfl rfl ⟨rfl,rfl⟩ (by simp [(e 9 30 (by decide))];rfl) (h 9 30 (by decide))).trans ?_
 refine (bH 10 31 rfl rfl ⟨rfl,rfl⟩ (by simp [(e 10 31 (by decide))];rfl) (h 10 31 (by decide))).trans ?_
 refine (bH 11 32 rfl rfl ⟨rfl,rfl⟩ (by simp [(e 11 32 (by decide))];rfl) (h 11 32 (by decide))).trans ?_
 refine (bH 12 33 rfl rfl ⟨rfl,rfl⟩ (by simp [(e 12 33 (by decide))];rfl) (h 12 33 (by decide))).trans ?_
 refine (bH 13 34 rfl rfl ⟨rfl,rfl⟩ (by simp [(e 13 34 (by decide))];rfl) (h 13 34 (by decide))).trans ?_
 refine aN 24 (by simp) (kQ _) hc ?_
 simpa [eO,fV,closed,and_assoc] using hc0
theorem bDh {t t':List AV} {o o' o1 o2:List aA} {a b c d e:aA} (i1 j1 i2 j2 x:Nat) (h5:o[i1]? =some a) (h14:o[j1]? =some b) (hb:a.box=false∧b.box=false) (e1:((o.set i1 b).set j1 a).map (aA.rsw i1 j1)=o1) (h6:o1[i2]? =some c) (h15:o1[j2]? =some d) (hd:c.box=false∧d.box=false) (e2:((o1.set i2 d).set j2 c).map (aA.rsw i2 j2)=o2) (h12:o2[x]? =some e) (e3:o2.set x ⟨false,false,0,e.ver,[]⟩=o') (w1:wk (lD i1 j1 t) t') (w2:wk (lD i2 j2 t') t'):fG ⟨t,o⟩ ⟨t',o'⟩:=
 (bH i1 j1 h5 h14 hb e1 w1).trans ((bH i2 j2 h6 h15 hd e2 w2).trans (bA0 x h12 e3 (kQ _)))
def yO (rv:Nat) (q:aC):List aA:=[⟨true,false,1,1,q.policy.scripts.map bX⟩,⟨true,false,1,1,q.policy.styles.map bX⟩,⟨true,false,1,1,q.policy.images.map bX⟩,⟨true,false,4,1,q.queue.map (bL .own)⟩,⟨true,false,4,1,q.builder.nodes.map (dY .own)⟩,⟨true,false,1,1,q.builder.opens.map jI⟩,⟨true,false,8,1,q.slots.map oG⟩,⟨true,false,5,1,q.mods.map jB⟩,⟨true,false,2,1,q.entries.map aF⟩,⟨true,false,2,rv,q.ran.map aF⟩,⟨true,false,1,1,q.log.map bX⟩]
def yM (rv:Nat) (q:aC):List AV:=[.str q.addr.host,.str q.addr.path,.bool q.policy.isSet,.obj 3 1,.obj 4 1,.obj 5 1,.str q.policy.nonce,.str q.tok.rest,.obj 6 1,.bool q.ended,.obj 7 1,.obj 8 1,.obj 9 1,.obj 10 1,.obj 11 1,.int .i64 q.block,.int .i64 q.inline,.int .i64 q.deferred,.int .i64 q.entered,.obj 12 rv,.obj 13 1,.bool q.loaded]
theorem aSj [aB Tryz.prog] [dB Tryz.prog] (p:aC) (a:aD) (hs:aJ p≤33000000) (hm:szL bI p.mods+aI a≤16777216):
  Ok Tryz.prog 147 [.agg (aG .view p),.agg (aF a)] (.agg (aG .own (nV p a))):=by
 have c0:=fH p (by omega)
 have c1:=aIj p a hm
 unfold nV
 cases hfl:uM p a
 ·rw [if_neg (by simp)]
  obtain ⟨r1,r2,r3⟩:=aIt p a hm hfl
  obtain ⟨hB,_⟩:=aGe p a hm
  have c2:=yL p _ hB a (by simp)
  have hfacts:=vV p (fA p a) (by omega)
  have hsuc:=aBz p (fA p a)
  have hz0:iH p (fA p a) 0=p:=rfl
  have hsz:∀k,k≤(fA p a).length→aJ (iH p (fA p a) k)≤50331648:=fun k hk=>by
   have h1:=(hfacts k hk).1
   have h2:=(wW (iH p (fA p a) k)).1
   have h3:=(wW p).2
   have h4:=xY aI (fA p a) k
   simp only [szL,List.length_take] at h1 r2 hm
   omega
  have hmods:∀k,k≤(fA p a).length→(iH p (fA p a) k).mods=p.mods:=fun k hk=>(hfacts k hk).2.1
  have hmem:∀b∈fA p a,∃(j:Nat) (m:dR),kP (gJ b) p.mods=(j:Int)∧p.mods[j]? =some m∧j < p.mods.length∧xR p b=m.body:=fun b hb=>by
   have h1:=r3 b hb
   rcases oP (gJ b) p.mods with ⟨hi,hf⟩|⟨j,hj,hi,hf⟩
   ·unfold mF at h1;rw [hf] at h1;cases h1
   ·exact ⟨j,p.mods[j],hi,List.getElem?_eq_getElem hj,hj,by unfold xR;rw [hf]⟩
  have hszs:∀b∈fA p a,aI b≤16777215:=fun b hb=>by
   have:=dL aI hb
   have:=List.length_pos_of_mem hb
   simp only [szL] at r2 hm;omega
  have hbod:∀m∈p.mods,m.body.length≤16777216:=fun m hx=>by
   have:=dL bI hx
   simp only [szL,bI] at hm this;omega
  have hml:p.mods.length≤16777216:=by simp only [szL] at hm;omega
  clear r2 r3 hB hfacts
  generalize fA p a=L at *
  generalize iH p L=Q at *
  simp only [aG,aF] at c0 c1 c2
  rw [hfl] at c1
  refine rJ Tryz.mix [3,16] Tryz.func147 Tryz.ntmps147 ?_
  refine aW ?_
  refine aR (ι:={q:Nat×Nat // q.1≤L.length}) (fun t o i=>⟨aS t [(7,.int .i64 i.1.1),(16,.undef)],o.take 3++yO i.1.2 (Q i.1.1)++[⟨true,true,22,0,[yM i.1.2 (Q i.1.1)]⟩,⟨true,false,2,1,L.map aF⟩]⟩)
   (fun i=>L.length - i.1.1) ⟨(0,1),by simp⟩ (aO (by simp [yM,yO,hz0]) (by simp)) ?_
  rintro ⟨⟨k,v⟩,hk⟩ K1 hK1
  simp only at hk
  have hk1:=wk1 (k:=k) (by omega)
  by_cases hlt:k < L.length
  ·have hg:=List.getElem?_eq_getElem hlt
   have hbm:=List.getElem_mem hlt
   have hnext:=hsuc k hlt
   have hq1:=hsz k hk
   have hqm:=hmods k hk
   obtain ⟨j,m,hi,hgm,hjl,hbd⟩:=hmem L[k] hbm
   have hsb:=hszs L[k] hbm
   rw [←hqm] at hi hgm hjl
   have hbq:xR (Q k) L[k]=m.body:=by rw [←hbd];unfold xR;rw [hqm]
   have hmb:m.body.length≤16777216:=hbod m (by rw [←hqm];exact List.mem_of_getElem? hgm)
   unfold mH at hnext
   rw [hbq] at hnext
   have hK2:=hK1
   clear hsuc hsz hmods hmem hszs hbod hbd hqm hbm c1 c2
   generalize hq':Q (k+1)=q' at *
   generalize hq:Q k=q at *
   have hrl:q.ran.length≤50331648:=by simp only [aJ,szL] at hq1;omega
   have c3:=uP q.ran L[k] (by omega)
   simp only [aS,List.set_cons_succ,List.set_cons_zero,List.take_succ_cons,List.take_zero,List.cons_append,List.nil_append,yO,yM] at hK1⊢
   cases hh:q.ran.any (eG L[k])
   ·rw [hh] at hnext c3
    rw [if_neg (by simp)] at hnext
    obtain ⟨rn,hrn⟩:∃rn,rn=q.ran++[L[k]]:=⟨_,rfl⟩
    have hap:q.ran.map aF++[[.str L[k].host,.str L[k].path]]=rn.map aF:=by rw [hrn];simp
    rw [←hrn] at hnext
    have hsq:aJ {q with ran:=rn}≤67108864:=by
     simp only [aJ,szL,hrn,List.length_append,List.length_cons,List.length_nil,gV,aK] at hq1⊢;omega
    have c4:=sW {q with ran:=rn} L[k] (by simp only;simp only [aJ,szL] at hq1;omega)
    have hbh:L[k].host.length≤16777216:=by simp only [aI] at hsb;omega
    have c5:=uL m.body L[k].host (by omega) (by omega)
    obtain ⟨l6,lx⟩:=aC7 m.body L[k].host
    have hsl:szL kH q.slots≤1073741824:=by simp only [aJ,szL] at *;omega
    have hsb2:aU q.builder≤67108864:=by simp only [aJ] at hq1;omega
    have hlg:q.log.length≤67108864:=by simp only [aJ,szL] at hq1;omega
    have c6:=aCb {q with ran:=rn} hsl
    obtain ⟨hb1,hb2⟩:=aFo {q with ran:=rn}
    have hb1':(dM {q with ran:=rn}).length≤67108864:=by simp only [aJ,szL] at hq1 hb1;omega
    have c7:=aA9 q.builder (dM {q with ran:=rn}) (bK m.body L[k].host).2.1 (by omega) l6 (fun x hm=>by have:=lx x hm;omega) (by omega) (fun x hm=>by have:=hb2 x hm;omega) (wI _)
    obtain ⟨z1,z2,z3,z4⟩:=aBd 60 q.builder (dM {q with ran:=rn}) (bK m.body L[k].host).2.1 (by omega) l6 lx (wI _) (by omega) (bK m.body L[k].host).2.1.length (Nat.le_refl _)
    have hend:nL q.builder (dM {q with ran:=rn}) (bK m.body L[k].host).2.1 (bK m.body L[k].host).2.1.length=fC q.builder (dM {q with ran:=rn}) (bK m.body L[k].host).2.1:=by simp [nL]
    rw [hend] at z1 z2 z3 z4
    unfold jZ at hnext
    simp only [hi] at c4
    simp only [Bool.false_eq_true,if_false] at hnext
    clear hrn hsq lx hq1 hend hb1 hb2
    generalize dM {q with ran:=rn}=ss at *
    generalize bK m.body L[k].host=g at *
    obtain ⟨im,ln,bk⟩:=g
    simp only at c5 c7 z1 z2 z3 z4 l6 hnext
    generalize fC q.builder ss ln=g at *
    obtain ⟨b,wr,lg⟩:=g
    simp only at c7 z1 z2 z3 z4 hnext
    have hj0:¬(j:Int) < 0:=by omega
    simp only [aG,aF,aZ] at c3 c4 c5 c6 c7
    have W:=And.intro hk1 (And.intro hg (And.intro hap (And.intro hgm (And.intro hj0 hrl))))
    have V:=And.intro hlt (And.intro hjl hj0)
    repeat' first|refine st ?_|(refine nx ?_;first|refine se ?_|refine so ?_)|(refine cx ?_;first|refine sT ?_|refine sF ?_)|fail
    obtain ⟨P,hP⟩:∃P:Nat→aC,∀i,P i={q with ran:=rn,builder:=b,log:=jG q.log (lg.take i)}:=⟨_,fun _=>rfl⟩
    have hP0:P 0={q with ran:=rn,builder:=b}:=by rw [hP];rfl
    have hPn:P lg.length=q':=by rw [hP,hnext,List.take_length]
    have hPl:∀i,i≤lg.length→(P i).log.length≤1099511627776:=fun i hi=>by
     rw [hP];have:=aKz q.log (lg.take i);simp only [List.length_take] at this⊢;omega
    have hPs:∀i (h:i < lg.length),P (i+1)={P i with log:=iL (P i).log lg[i]}:=fun i h=>by
     rw [hP,hP,aIy _ _ _ h]
    clear c3 c4 c5 c6 c7 hP hnext
    refine aR (ι:={q:Nat×Nat // q.1≤lg.length}) (fun t o i=>⟨aS t [(14,.int .i64 i.1.1),(11,.ptr 19 1 0 0),(50,.undef),(52,.undef),(53,.undef),(59,.undef),(60,.undef),(77,.undef),(71,.undef),(74,.undef),(78,.undef),(73,.undef),(81,.undef),(42,.undef),(48,.undef),(35,.undef),(16,.undef)],o.take 3++yO i.1.2 (P i.1.1)++[⟨true,true,22,0,[yM i.1.2 (P i.1.1)]⟩,⟨true,false,2,1,L.map aF⟩,⟨false,false,2,1,[[.str L[k].host,.str L[k].path]]⟩,⟨true,false,2,1,im.map aF⟩,⟨true,false,2,1,ln.map mM⟩,⟨false,false,0,1,[]⟩,⟨true,false,1,1,ss.map (fD .own)⟩,⟨true,false,4,1,q.builder.nodes.map (dY .own)⟩,⟨true,false,1,1,q.builder.opens.map jI⟩,⟨true,false,1,1,lg.map bX⟩]⟩)
     (fun i=>lg.length - i.1.1) ⟨(0,v+1),by simp⟩ ?_ ?_
    ·simp only [hP0,yM,yO,aS,List.set_cons_succ,List.set_cons_zero,List.take_succ_cons,List.take_zero,List.cons_append,List.nil_append]
     exact bDh 7 21 8 22 19 rfl rfl ⟨rfl,rfl⟩ (by simp;rfl) rfl rfl ⟨rfl,rfl⟩ (by simp;rfl) rfl (by simp) (by simp) (by simp)
    rintro ⟨⟨i,rv⟩,hil⟩ K2 hK3
    simp only at hil
    have hk2:IntKind.i64.wrap ((i:Int)+1)=((i+1:Nat):Int):=by rw [wrap64]<;>omega
    by_cases hit:i < lg.length
    ·have hgi:=List.getElem?_eq_getElem hit
     have hnx:=hPs i hit
     have c4:=aD8 (P i) lg[i] (hPl i hil)
     rw [←hnx] at c4
     have hK4:=hK3
     clear hP0 hPn hPl hPs hnx
     generalize hp':P (i+1)=p' at *
     generalize hpi:P i=pi at *
     simp only [aS,List.set_cons_succ,List.set_cons_zero,List.take_succ_cons,List.take_zero,List.cons_append,List.nil_append,yO,yM] at hK3⊢
     simp only [aG] at c4
     have W:=And.intro hk2 (And.intro hgi hit)
     refine we ?_
     rw [rG]
     refine aBn (by simp;rfl) (by simp;rfl) (by decide+kernel) (by decide) (by first|rfl|(simp [aHh];done)) (by simp) (by simp) ?_
     iterate 5 (
      refine aDk rfl (by first|rfl|(simp;done)) (by simp [Region.binds];rfl) (by decide) (by simp [Region.binds];rfl) (by simp;rfl) ?_ ?_
      ·first|rfl|(simp [jS];done)
      refine nx ?_
      refine so ?_
      refine kN ?_
      refine aDw (by simp;done) (by simp;rfl) (by simp;rfl) ?_)
     refine aAv (s1:= ?s1) (by decide+kernel) (by simp [nC,reach,iA,Region.binds,List.range_succ];rfl) ?ha ?hk
     case ha=>
      repeat' (first|refine st ?_|(refine nx ?_;first|refine so ?_|refine sg (hc:=c4) (h:= ?_))|refine sx ?_ ?_|refine sy ?_ ?_|fail)
      all_goals rfl
     case hk=>
      have W:=hk2
      refine we ?_
      refine hK4 _ ⟨(i+1,1),by simp only;omega⟩ ?_ (by simp only;omega)
      simp only [hp']
      exact aZe (q:=p') rfl (by simp [yO,yM,pOs,pCs,hp']) (by simp [sZ]) (by simp [sZ]) (by simp) (by simp) (by simp [eO])
    ·have hie:i=lg.length:=by omega
     subst hie
     simp only [hPn,aS,List.set_cons_succ,List.set_cons_zero,List.take_succ_cons,List.take_zero,List.cons_append,List.nil_append,yO,yM] at hK3⊢
     clear hP0 hPn hPl hPs hK3
     have W:=And.intro hk1 hit
     refine we ?_
     refine hK2 _ ⟨(k+1,rv),by simp only;omega⟩ ?_ (by simp only;omega)
     exact aN 16 (by simp [yO,yM,hq']) (by simp) (by simp) (by simp [eO,yO,yM,hq'])
   ·rw [hh] at hnext c3
    rw [if_pos rfl] at hnext
    simp only [aF] at c3
    have W:=And.intro hk1 (And.intro hg hlt)
    refine we ?_
    refine hK2 _ ⟨(k+1,v),by simp only;omega⟩ ?_ (by simp only;omega)
    exact aN 16 (by simp [yO,yM,hq',hnext]) (by simp) (by simp) (by simp [eO,yO,yM,hq',hnext])
  ·have hkl:k=L.length:=by omega
   subst hkl
   simp only [aS,List.set_cons_succ,List.set_cons_zero,List.take_succ_cons,List.take_zero,List.cons_append,List.nil_append,yO,yM] at hK1⊢
   clear hsuc hsz hmods hmem hszs hbod hK1 c1 c2
   generalize Q L.length=q at *
   have W:=And.intro hk1 hlt
   refine we ?_
   exact aM Tryz.results147
 ·rw [if_pos rfl]
  rw [hfl] at c1
  have hfm:=aDh a
  have hlg:p.log.length≤33000000:=by simp only [aJ,szL] at hs;omega
  have c2:=aH9 a (by omega)
  have c3:=aD8 p (aKf++oV a) (by omega)
  simp only [aKf] at c3⊢
  generalize oV a=fa at *
  simp only [aG,aF] at c0 c1 c2 c3⊢
  refine rJ Tryz.mix [3] Tryz.func147 Tryz.ntmps147 ?_
  have W:=hfm
  refine we ?_
  rw [rG]
  refine aBn (by simp;rfl) (by simp;rfl) (by decide+kernel) (by decide) (by first|rfl|(simp [aHh];done)) (by simp) (by simp) ?_
  iterate 4 (
   refine aDk rfl (by first|rfl|(simp;done)) (by simp [Region.binds];rfl) (by decide) (by simp [Region.binds];rfl) (by simp;rfl) ?_ ?_
   ·first|rfl|(simp [jS];done)
   refine nx ?_
   refine so ?_
   refine kN ?_
   refine aDw (by simp;done) (by simp;rfl) (by simp;rfl) ?_)
  refine aAv (s1:= ?s2) (by decide+kernel) (by simp [nC,reach,iA,Region.binds,List.range_succ];rfl) ?ha2 ?hk2
  case ha2=>
   repeat' (first|refine st ?_|(refine nx ?_;first|refine so ?_|refine sg (hc:=c3) (h:= ?_))|refine sx ?_ ?_|refine sy ?_ ?_|fail)
   all_goals rfl
  case hk2=>
   refine aW ?_
   exact aM Tryz.results147
end Go.Proofs.YtaddkhdghlaalaaGreatDoor
