/-
  Proved here: steps towards the statement of this claim, text QST2.
  No condition beyond what each statement spells out.
-/
import Derived.Test.YtlnblmmohpcceaaGreatDoorQZ7
import Derived.Test.YtlnblmmohpcceaaGreatDoorQSTP
import Derived.Test.YtlnblmmohpcceaaGreatDoorQRLsc
import Derived.Test.YtlnblmmohpcceaaGreatDoorQR7
import Derived.Test.YtlnblmmohpcceaaGreatDoorQT3
import Derived.Test.YtlnblmmohpcceaaGreatDoorQZ5
set_option linter.all false
set_option maxRecDepth 8000
set_option maxHeartbeats 8000000
namespace Go.Proofs.YtlnblmmohpcceaaGreatDoor
open Go.Aw
def xZ (rv:Nat) (q:aJ):List aB:=[⟨true,false,1,1,q.policy.scripts.map bU⟩,⟨true,false,1,1,q.policy.styles.map bU⟩,⟨true,false,1,1,q.policy.images.map bU⟩,⟨true,false,4,1,q.queue.map (aU .own)⟩,⟨true,false,4,1,q.builder.nodes.map (bB .own)⟩,⟨true,false,1,1,q.builder.opens.map dV⟩,⟨true,false,8,1,q.slots.map eX⟩,⟨true,false,5,1,q.mods.map bD⟩,⟨true,false,2,1,q.entries.map aF⟩,⟨true,false,2,rv,q.ran.map aF⟩,⟨true,false,1,1,q.log.map bU⟩]
def xY (rv:Nat) (q:aJ):List AV:=[.str q.addr.host,.str q.addr.path,.bool q.policy.isSet,.obj 3 1,.obj 4 1,.obj 5 1,.str q.policy.nonce,.str q.tok.rest,.obj 6 1,.bool q.ended,.obj 7 1,.obj 8 1,.obj 9 1,.obj 10 1,.obj 11 1,.int .i64 q.block,.int .i64 q.inline,.int .i64 q.deferred,.int .i64 q.entered,.obj 12 rv,.obj 13 1,.bool q.loaded]
theorem aQa [aA Tryz.prog] [dY Tryz.prog] [dG Tryz.prog] [lY Tryz.prog] (p:aJ) (a:aK) (hs:aD p≤33000000) (hm:szL aZ p.mods+aR a≤16777216):
  Ok Tryz.prog 68 [.agg (aG .view p),.agg (aF a)] (.agg (aG .own (mW p a))):=by
 have c0:=iO p (by omega)
 have c1:=aHc p a hm
 unfold mW
 cases hfl:nM p a
 ·rw [if_neg (by simp)]
  obtain ⟨r1,r2,r3⟩:=aCi p a hm hfl
  obtain ⟨hB,_⟩:=yZ p a hm
  have c2:=xW p _ hB a (by simp)
  have hfacts:=uY p (bX p a) (by omega)
  have hsuc:=aA3 p (bX p a)
  have hz0:iG p (bX p a) 0=p:=rfl
  have hsz:∀k,k≤(bX p a).length→aD (iG p (bX p a) k)≤50331648:=fun k hk=>by
   have h1:=(hfacts k hk).1
   have h2:=(zB (iG p (bX p a) k)).1
   have h3:=(zB p).2
   have h4:=wR aR (bX p a) k
   simp only [szL,List.length_take] at h1 r2 hm
   omega
  have hmods:∀k,k≤(bX p a).length→(iG p (bX p a) k).mods=p.mods:=fun k hk=>(hfacts k hk).2.1
  have hmem:∀b∈bX p a,∃(j:Nat) (m:cZ),rM (kM b) p.mods=(j:Int)∧p.mods[j]? =some m∧j < p.mods.length∧uJ p b=m.body:=fun b hb=>by
   have h1:=r3 b hb
   rcases uZ (kM b) p.mods with ⟨hi,hf⟩|⟨j,hj,hi,hf⟩
   ·unfold iA at h1;rw [hf] at h1;cases h1
   ·exact ⟨j,p.mods[j],hi,List.getElem?_eq_getElem hj,hj,by unfold uJ;rw [hf]⟩
  have hszs:∀b∈bX p a,aR b≤16777215:=fun b hb=>by
   have:=bV aR hb
   have:=List.length_pos_of_mem hb
   simp only [szL] at r2 hm;omega
  have hbod:∀m∈p.mods,m.body.length≤16777216:=fun m hx=>by
   have:=bV aZ hx
   simp only [szL,aZ] at hm this;omega
  have hml:p.mods.length≤16777216:=by simp only [szL] at hm;omega
  clear r2 r3 hB hfacts
  generalize bX p a=L at *
  generalize iG p L=Q at *
  simp only [aG,aF] at c0 c1 c2
  rw [hfl] at c1
  refine kH Tryz.mix [3,16] Tryz.func68 Tryz.ntmps68 ?_
  have W:=trivial
  repeat' first|refine we ?_|(refine sq (fun hc=>?_) (fun hc=>?_)<;>try exact hc.elim)|fail
  refine aM (ι:={q:Nat×Nat // q.1≤L.length}) (fun t o i=>⟨aO t [(7,.int .i64 i.1.1),(16,.undef)],o.take 3++xZ i.1.2 (Q i.1.1)++[⟨true,true,22,0,[xY i.1.2 (Q i.1.1)]⟩,⟨true,false,2,1,L.map aF⟩]⟩)
   (fun i=>L.length - i.1.1) ⟨(0,1),by simp⟩ (aH (by simp [xY,xZ,hz0]) (by simp)) ?_
  rintro ⟨⟨k,v⟩,hk⟩ K1 hK1
  simp only at hk
  have hk1:IntKind.i64.wrap ((k:Int)+1)=((k+1:Nat):Int):=by rw [wrap64]<;>omega
  by_cases hlt:k < L.length
  ·have hg:=List.getElem?_eq_getElem hlt
   have hbm:=List.getElem_mem hlt
   have hnext:=hsuc k hlt
   have hq1:=hsz k hk
   have hqm:=hmods k hk
   obtain ⟨j,m,hi,hgm,hjl,hbd⟩:=hmem L[k] hbm
   have hsb:=hszs L[k] hbm
   rw [←hqm] at hi hgm hjl
   have hbq:uJ (Q k) L[k]=m.body:=by rw [←hbd];unfold uJ;rw [hqm]
   have hmb:m.body.length≤16777216:=hbod m (by rw [←hqm];exact List.mem_of_getElem? hgm)
   unfold rT at hnext
   rw [hbq] at hnext
   have hK2:=hK1
   clear hsuc hsz hmods hmem hszs hbod hbd hqm hbm c1 c2
   generalize hq':Q (k+1)=q' at *
   generalize hq:Q k=q at *
   have hrl:q.ran.length≤50331648:=by simp only [aD,szL] at hq1;omega
   have c3:=xH q.ran L[k] (by omega)
   simp only [aO,List.set_cons_succ,List.set_cons_zero,List.take_succ_cons,List.take_zero,List.cons_append,List.nil_append,xZ,xY] at hK1⊢
   cases hh:q.ran.any (fP L[k])
   ·rw [hh] at hnext c3
    rw [if_neg (by simp)] at hnext
    obtain ⟨rn,hrn⟩:∃rn,rn=q.ran++[L[k]]:=⟨_,rfl⟩
    have hap:q.ran.map aF++[[.str L[k].host,.str L[k].path]]=rn.map aF:=by rw [hrn];simp
    rw [←hrn] at hnext
    have hsq:aD {q with ran:=rn}≤67108864:=by
     simp only [aD,szL,hrn,List.length_append,List.length_cons,List.length_nil,gW,aC] at hq1⊢;omega
    have c4:=aCk {q with ran:=rn} L[k] (by simp only;simp only [aD,szL] at hq1;omega)
    have hbh:L[k].host.length≤16777216:=by simp only [aR] at hsb;omega
    have c5:=zC m.body L[k].host (by omega) (by omega)
    obtain ⟨l6,lx⟩:=aCa m.body L[k].host
    have hsl:szL fG q.slots≤1073741824:=by simp only [aD,szL] at *;omega
    have hsb2:aI q.builder≤67108864:=by simp only [aD] at hq1;omega
    have hlg:q.log.length≤67108864:=by simp only [aD,szL] at hq1;omega
    have c6:=aBn {q with ran:=rn} hsl
    obtain ⟨hb1,hb2⟩:=zJ {q with ran:=rn}
    have hb1':(bO {q with ran:=rn}).length≤67108864:=by simp only [aD,szL] at hq1 hb1;omega
    have c7:=aAl q.builder (bO {q with ran:=rn}) (bA m.body L[k].host).2.1 (by omega) l6 (fun x hm=>by have:=lx x hm;omega) (by omega) (fun x hm=>by have:=hb2 x hm;omega) (rA _)
    obtain ⟨z1,z2,z3,z4⟩:=vJ 60 q.builder (bO {q with ran:=rn}) (bA m.body L[k].host).2.1 (by omega) l6 lx (rA _) (by omega) (bA m.body L[k].host).2.1.length (Nat.le_refl _)
    have hend:kC q.builder (bO {q with ran:=rn}) (bA m.body L[k].host).2.1 (bA m.body L[k].host).2.1.length=dE q.builder (bO {q with ran:=rn}) (bA m.body L[k].host).2.1:=by simp [kC]
    rw [hend] at z1 z2 z3 z4
    unfold lN at hnext
    simp only [hi] at c4
    simp only [Bool.false_eq_true,if_false] at hnext
    clear hrn hsq lx hq1 hend hb1 hb2
    generalize bO {q with ran:=rn}=ss at *
    generalize bA m.body L[k].host=g at *
    obtain ⟨im,ln,bk⟩:=g
    simp only at c5 c7 z1 z2 z3 z4 l6 hnext
    generalize dE q.builder ss ln=g at *
    obtain ⟨b,wr,lg⟩:=g
    simp only at c7 z1 z2 z3 z4 hnext
    have hj0:¬(j:Int) < 0:=by omega
    simp only [aG,aF,aL] at c3 c4 c5 c6 c7
    have W:=And.intro hk1 (And.intro hg (And.intro hap (And.intro hgm (And.intro hj0 hrl))))
    have V:=And.intro hlt (And.intro hjl hj0)
    repeat' first|refine we ?_|(refine sq (fun hc=>?_) (fun hc=>?_)<;>try exact hc.elim)|fail
    obtain ⟨P,hP⟩:∃P:Nat→aJ,∀i,P i={q with ran:=rn,builder:=b,log:=gG q.log (lg.take i)}:=⟨_,fun _=>rfl⟩
    have hP0:P 0={q with ran:=rn,builder:=b}:=by rw [hP];rfl
    have hPn:P lg.length=q':=by rw [hP,hnext,List.take_length]
    have hPl:∀i,i≤lg.length→(P i).log.length≤1099511627776:=fun i hi=>by
     rw [hP];have:=aEc q.log (lg.take i);simp only [List.length_take] at this⊢;omega
    have hPs:∀i (h:i < lg.length),P (i+1)={P i with log:=dZ (P i).log lg[i]}:=fun i h=>by
     rw [hP,hP,aCd _ _ _ h]
    clear c3 c4 c5 c6 c7 hP hnext
    refine aM (ι:={q:Nat×Nat // q.1≤lg.length}) (fun t o i=>⟨aO t [(14,.int .i64 i.1.1),(11,.ptr 19 1 0 0),(50,.undef),(52,.undef),(53,.undef),(59,.undef),(60,.undef),(77,.undef),(71,.undef),(74,.undef),(78,.undef),(73,.undef),(81,.undef),(42,.undef),(48,.undef),(35,.undef),(16,.undef)],o.take 3++xZ i.1.2 (P i.1.1)++[⟨true,true,22,0,[xY i.1.2 (P i.1.1)]⟩,⟨true,false,2,1,L.map aF⟩,⟨false,false,2,1,[[.str L[k].host,.str L[k].path]]⟩,⟨true,false,2,1,im.map aF⟩,⟨true,false,2,1,ln.map fU⟩,⟨false,false,0,1,[]⟩,⟨true,false,1,1,ss.map (bP .own)⟩,⟨true,false,4,1,q.builder.nodes.map (bB .own)⟩,⟨true,false,1,1,q.builder.opens.map dV⟩,⟨true,false,1,1,lg.map bU⟩]⟩)
     (fun i=>lg.length - i.1.1) ⟨(0,v+1),by simp⟩ ?_ ?_
    ·simp only [hP0,xY,xZ,aO,List.set_cons_succ,List.set_cons_zero,List.take_succ_cons,List.take_zero,List.cons_append,List.nil_append]
     exact bB2 7 21 8 22 19 rfl rfl ⟨rfl,rfl⟩ (by simp;rfl) rfl rfl ⟨rfl,rfl⟩ (by simp;rfl) rfl (by simp) (by simp) (by simp)
    rintro ⟨⟨i,rv⟩,hil⟩ K2 hK3
    simp only at hil
    have hk2:IntKind.i64.wrap ((i:Int)+1)=((i+1:Nat):Int):=by rw [wrap64]<;>omega
    by_cases hit:i < lg.length
    ·have hgi:=List.getElem?_eq_getElem hit
     have hnx:=hPs i hit
     have c4:=aDl (P i) lg[i] (hPl i hil)
     rw [←hnx] at c4
     have hK4:=hK3
     clear hP0 hPn hPl hPs hnx
     generalize hp':P (i+1)=p' at *
     generalize hpi:P i=pi at *
     simp only [aO,List.set_cons_succ,List.set_cons_zero,List.take_succ_cons,List.take_zero,List.cons_append,List.nil_append,xZ,xY] at hK3⊢
     simp only [aG] at c4
     have W:=And.intro hk2 (And.intro hgi hit)
     repeat' first|refine we ?_|(refine sq (fun hc=>?_) (fun hc=>?_)<;>try exact hc.elim)|fail
     rw [qJ]
     refine aAz (by simp;rfl) (by simp;rfl) (by decide+kernel) (by decide) (by first|rfl|(simp [aGf];done)) (by simp) (by simp) ?_
     iterate 5 (
      refine aCv rfl (by first|rfl|(simp;done)) (by simp [Region.binds];rfl) (by decide) (by simp [Region.binds];rfl) (by simp;rfl) ?_ ?_
      ·first|rfl|(simp [jN];done)
      refine nx ?_
      refine so ?_
      refine kN ?_
      refine aC2 (by simp;done) (by simp;rfl) (by simp;rfl) ?_)
     refine zR (s1:= ?s1) (by decide+kernel) (by simp [lZ,reach,gT,Region.binds,List.range_succ];rfl) ?ha ?hk
     case ha=>
      repeat' (first|refine st ?_|(refine nx ?_;first|refine so ?_|refine sg (hc:=c4) (h:= ?_))|refine sx ?_ ?_|refine sy ?_ ?_|fail)
      all_goals rfl
     case hk=>
      have W:=hk2
      repeat' first|refine we ?_|(refine sq (fun hc=>?_) (fun hc=>?_)<;>try exact hc.elim)|fail
      refine hK4 _ ⟨(i+1,1),by simp only;omega⟩ ?_ (by simp only;omega)
      simp only [hp']
      exact bAa (q:=p') rfl (by simp [xZ,xY,pOs,pCs,hp']) (by simp [rW]) (by simp [rW]) (by simp) (by simp) (by simp [dL])
    ·have hie:i=lg.length:=by omega
     subst hie
     simp only [hPn,aO,List.set_cons_succ,List.set_cons_zero,List.take_succ_cons,List.take_zero,List.cons_append,List.nil_append,xZ,xY] at hK3⊢
     clear hP0 hPn hPl hPs hK3
     have W:=And.intro hk1 hit
     repeat' first|refine we ?_|(refine sq (fun hc=>?_) (fun hc=>?_)<;>try exact hc.elim)|fail
     refine hK2 _ ⟨(k+1,rv),by simp only;omega⟩ ?_ (by simp only;omega)
     exact aQ 16 (by simp [xZ,xY,hq']) (by simp) (by simp) (by simp [dL,xZ,xY,hq'])
   ·rw [hh] at hnext c3
    rw [if_pos rfl] at hnext
    simp only [aF] at c3
    have W:=And.intro hk1 (And.intro hg hlt)
    repeat' first|refine we ?_|(refine sq (fun hc=>?_) (fun hc=>?_)<;>try exact hc.elim)|fail
    refine hK2 _ ⟨(k+1,v),by simp only;omega⟩ ?_ (by simp only;omega)
    exact aQ 16 (by simp [xZ,xY,hq',hnext]) (by simp) (by simp) (by simp [dL,xZ,xY,hq',hnext])
  ·have hkl:k=L.length:=by omega
   subst hkl
   simp only [aO,List.set_cons_succ,List.set_cons_zero,List.take_succ_cons,List.take_zero,List.cons_append,List.nil_append,xZ,xY] at hK1⊢
   clear hsuc hsz hmods hmem hszs hbod hK1 c1 c2
   generalize Q L.length=q at *
   have W:=And.intro hk1 hlt
   repeat' first|refine we ?_|(refine sq (fun hc=>?_) (fun hc=>?_)<;>try exact hc.elim)|fail
   all_goals (try (refine ⟨.inr rfl,?_⟩;simp [Hands,Tryz.results68]))
 ·rw [if_pos rfl]
  rw [hfl] at c1
  have hfm:=xU a
  have hlg:p.log.length≤33000000:=by simp only [aD,szL] at hs;omega
  have c2:=aHa a (by omega)
  have c3:=aDl p (aDe++iZ a) (by omega)
  simp only [aDe] at c3⊢
  generalize iZ a=fa at *
  simp only [aG,aF] at c0 c1 c2 c3⊢
  refine kH Tryz.mix [3] Tryz.func68 Tryz.ntmps68 ?_
  have W:=hfm
  repeat' first|refine we ?_|(refine sq (fun hc=>?_) (fun hc=>?_)<;>try exact hc.elim)|fail
  rw [qJ]
  refine aAz (by simp;rfl) (by simp;rfl) (by decide+kernel) (by decide) (by first|rfl|(simp [aGf];done)) (by simp) (by simp) ?_
  iterate 4 (
   refine aCv rfl (by first|rfl|(simp;done)) (by simp [Region.binds];rfl) (by decide) (by simp [Region.binds];rfl) (by simp;rfl) ?_ ?_
   ·first|rfl|(simp [jN];done)
   refine nx ?_
   refine so ?_
   refine kN ?_
   refine aC2 (by simp;done) (by simp;rfl) (by simp;rfl) ?_)
  refine zR (s1:= ?s2) (by decide+kernel) (by simp [lZ,reach,gT,Region.binds,List.range_succ];rfl) ?ha2 ?hk2
  case ha2=>
   repeat' (first|refine st ?_|(refine nx ?_;first|refine so ?_|refine sg (hc:=c3) (h:= ?_))|refine sx ?_ ?_|refine sy ?_ ?_|fail)
   all_goals rfl
  case hk2=>
   have W:=trivial
   repeat' first|refine we ?_|(refine sq (fun hc=>?_) (fun hc=>?_)<;>try exact hc.elim)|fail
   all_goals (try (refine ⟨.inr rfl,?_⟩;simp [Hands,Tryz.results68]))
theorem aKw [aA Tryz.prog] [dY Tryz.prog] [dG Tryz.prog] [lY Tryz.prog] (p:aJ) (hs:aD p≤33000000) (hn1:p.slots.length≤16777216) (hme:szL aZ p.mods+szL aR p.entries≤16777216):Ok Tryz.prog 17 [.agg (aG .view p)] (.tup [.agg (aG .own (rJ p).1),.bool (rJ p).2]):=by
 have c1:=iO p (by omega)
 have hn2:p.mods.length≤16777216:=by simp only [szL] at hme;omega
 have cP:=aKt p
 have cS:=zF p (by omega)
 have cD:=aD8 p hn1
 have hbd:∀s∈p.slots,s.body.length≤33000000:=fun s hm=>by
  have:=bV fG hm
  simp only [aD,szL,fG] at hs this;omega
 have hed:∀a∈p.entries,szL aZ p.mods+aR a≤16777216:=fun a hm=>by
  have h1:=bV aR hm
  have h2:aC aR p.entries≤szL aR p.entries:=by simp only [szL];omega
  omega
 have hel0:p.entries.length≤16777216:=by
  have:p.entries.length≤szL aR p.entries:=by simp only [szL];omega
  omega
 have hdl0:=kZ fO p.slots 0
 have hat:=aF0 fO p.slots 0
 unfold rJ
 by_cases hpre:rD p=true∧p.loaded=false∧0≤p.deferred∧0≤p.entered
 ·rw [if_pos hpre]
  obtain ⟨h1,h2,h3,h4⟩:=hpre
  obtain ⟨dn,hdn⟩:=Int.eq_ofNat_of_zero_le h3
  obtain ⟨en,hen⟩:=Int.eq_ofNat_of_zero_le h4
  rw [hdn,hen,Int.toNat_natCast,Int.toNat_natCast]
  rw [h1] at cP
  by_cases hdl:dn < (places fO 0 p.slots).length
  ·have hgD:=List.getElem?_eq_getElem hdl
   obtain ⟨sn,hsn,_,hsl⟩:=hat _ (List.getElem_mem hdl)
   rw [Nat.zero_add] at hsl
   rw [hsn] at hgD
   rw [hgD]
   simp only [Int.toNat_natCast]
   have hgS:=List.getElem?_eq_getElem hsl
   rw [hgS]
   simp only
   have hbody:=hbd _ (List.getElem_mem hsl)
   have hkd:IntKind.i64.wrap ((dn:Int)+1)=(dn:Int)+1:=by rw [wrap64]<;>omega
   have hdi:(dn:Int) < ((places fO 0 p.slots).length:Int):=by omega
   unfold aGm
   have c4:=xS p p.slots[sn].body false (by omega) (by omega)
   have hqd:=(aEp p p.slots[sn].body false).1.trans hdn
   clear hbd hed hat hsn hdl0
   generalize places fO 0 p.slots=D at *
   cases hd:p.slots[sn].done
   ·rw [if_neg (by simp)]
    simp only [aG,h2,hdn,hen] at c1 cP cS cD⊢
    refine ent Tryz.mix Tryz.func17 Tryz.ntmps17 ?_
    have W:=And.intro hdi (And.intro hgD (And.intro hgS hd))
    have V:=And.intro hdl hsl
    repeat' first|refine we ?_|(refine sq (fun hc=>?_) (fun hc=>?_)<;>try exact hc.elim)|fail
    all_goals (try (refine ⟨.inr rfl,?_⟩;simp [Hands,Tryz.results17]))
   ·generalize p.slots.all jR=rdy at *
    cases rdy
    ·rw [if_neg (by simp)]
     simp only [aG,h2,hdn,hen] at c1 cP cS cD⊢
     refine ent Tryz.mix Tryz.func17 Tryz.ntmps17 ?_
     have W:=And.intro hdi (And.intro hgD (And.intro hgS hd))
     have V:=And.intro hdl hsl
     repeat' first|refine we ?_|(refine sq (fun hc=>?_) (fun hc=>?_)<;>try exact hc.elim)|fail
     all_goals (try (refine ⟨.inr rfl,?_⟩;simp [Hands,Tryz.results17]))
    ·rw [if_pos ⟨rfl,rfl⟩]
     by_cases hcd:p.slots[sn].code=1
     ·rw [if_pos hcd]
      generalize jQ p p.slots[sn].body false=q at *
      simp only [aG,h2,hdn,hen,hqd] at c1 cP cS cD c4⊢
      refine ent Tryz.mix Tryz.func17 Tryz.ntmps17 ?_
      have W:=And.intro hdi (And.intro hgD (And.intro hgS (And.intro hd (And.intro hcd hkd))))
      have V:=And.intro hdl hsl
      repeat' first|refine we ?_|(refine sq (fun hc=>?_) (fun hc=>?_)<;>try exact hc.elim)|fail
      all_goals (try (refine ⟨.inr rfl,?_⟩;simp [Hands,Tryz.results17]))
     ·rw [if_neg hcd]
      simp only [aG,h2,hdn,hen] at c1 cP cS cD⊢
      refine ent Tryz.mix Tryz.func17 Tryz.ntmps17 ?_
      have W:=And.intro hdi (And.intro hgD (And.intro hgS (And.intro hd (And.intro hcd hkd))))
      have V:=And.intro hdl hsl
      repeat' first|refine we ?_|(refine sq (fun hc=>?_) (fun hc=>?_)<;>try exact hc.elim)|fail
      all_goals (try (refine ⟨.inr rfl,?_⟩;simp [Hands,Tryz.results17]))
  ·have hgD:(places fO 0 p.slots)[dn]? =none:=List.getElem?_eq_none (by omega)
   rw [hgD]
   simp only
   have hdl:¬(dn:Int) < ((places fO 0 p.slots).length:Int):=by omega
   clear hbd hat hgD
   generalize places fO 0 p.slots=D at *
   by_cases hlE:en < p.entries.length
   ·have hgE:=List.getElem?_eq_getElem hlE
    rw [hgE]
    simp only
    have hsa:=hed _ (List.getElem_mem hlE)
    have hel:(en:Int) < (p.entries.length:Int):=by omega
    have hke:IntKind.i64.wrap ((en:Int)+1)=(en:Int)+1:=by rw [wrap64]<;>omega
    have cG:=aG8 p p.entries[en] hsa
    have c5:=aQa p p.entries[en] hs hsa
    have hqe:=(aNw p p.entries[en]).trans hen
    clear hed
    unfold aGo
    generalize rE p p.entries[en]=gr at *
    cases gr
    ·rw [if_neg (by simp)]
     simp only [aG,aF,h2,hdn,hen] at c1 cP cS cD cG⊢
     refine ent Tryz.mix Tryz.func17 Tryz.ntmps17 ?_
     have W:=And.intro hdl (And.intro hel (And.intro hgE hlE))
     repeat' first|refine we ?_|(refine sq (fun hc=>?_) (fun hc=>?_)<;>try exact hc.elim)|fail
     all_goals (try (refine ⟨.inr rfl,?_⟩;simp [Hands,Tryz.results17]))
    ·generalize p.slots.all jR=rdy at *
     cases rdy
     ·rw [if_neg (by simp)]
      simp only [aG,aF,h2,hdn,hen] at c1 cP cS cD cG⊢
      refine ent Tryz.mix Tryz.func17 Tryz.ntmps17 ?_
      have W:=And.intro hdl (And.intro hel (And.intro hgE hlE))
      repeat' first|refine we ?_|(refine sq (fun hc=>?_) (fun hc=>?_)<;>try exact hc.elim)|fail
      all_goals (try (refine ⟨.inr rfl,?_⟩;simp [Hands,Tryz.results17]))
     ·rw [if_pos ⟨rfl,rfl⟩]
      generalize mW p p.entries[en]=q at *
      simp only [aG,aF,h2,hdn,hen,hqe] at c1 cP cS cD cG c5⊢
      refine ent Tryz.mix Tryz.func17 Tryz.ntmps17 ?_
      have W:=And.intro hdl (And.intro hel (And.intro hke (And.intro hgE hlE)))
      repeat' first|refine we ?_|(refine sq (fun hc=>?_) (fun hc=>?_)<;>try exact hc.elim)|fail
      all_goals (try (refine ⟨.inr rfl,?_⟩;simp [Hands,Tryz.results17]))
   ·have hgE:p.entries[en]? =none:=List.getElem?_eq_none (by omega)
    rw [hgE]
    simp only
    have hel:¬(en:Int) < (p.entries.length:Int):=by omega
    clear hed
    have cO:=aIm p hn1
    have cM:=aKz p hn2
    have hlg:p.log.length≤33000000:=by simp only [aD,szL] at hs;omega
    have c5:=aDl p aEe (by omega)
    unfold aGv
    simp only [aEe] at c5⊢
    generalize places mO 0 p.slots=O at *
    generalize places mI 0 p.mods=M at *
    by_cases ho:O.length=0
    ·obtain rfl:=List.length_eq_zero_iff.1 ho
     by_cases hm:M.length=0
     ·obtain rfl:=List.length_eq_zero_iff.1 hm
      rw [if_pos ⟨rfl,rfl⟩]
      simp only [aG,h2,hdn,hen] at c1 cP cS cD cO cM c5⊢
      refine ent Tryz.mix Tryz.func17 Tryz.ntmps17 ?_
      have W:=And.intro hdl hel
      repeat' first|refine we ?_|(refine nx ?_;refine sg (hc:=c5) (h:=?_))|(refine sq (fun hc=>?_) (fun hc=>?_)<;>try exact hc.elim)|fail
      all_goals (try (refine ⟨.inr rfl,?_⟩;simp [Hands,Tryz.results17]))
     ·rw [if_neg (by omega)]
      have hm2:¬M=[]:=fun h=>hm (by rw [h];rfl)
      have hm3:(0:Int) < (M.length:Int):=by omega
      simp only [aG,h2,hdn,hen] at c1 cP cS cD cO cM⊢
      refine ent Tryz.mix Tryz.func17 Tryz.ntmps17 ?_
      have W:=And.intro hdl (And.intro hel (And.intro hm2 hm3))
      repeat' first|refine we ?_|(refine sq (fun hc=>?_) (fun hc=>?_)<;>try exact hc.elim)|fail
      all_goals (try exact (hm2 (by assumption)).elim)
      all_goals (try (refine ⟨.inr rfl,?_⟩;simp [Hands,Tryz.results17]))
    ·rw [if_neg (by omega)]
     have ho2:¬O=[]:=fun h=>ho (by rw [h];rfl)
     have ho3:(0:Int) < (O.length:Int):=by omega
     simp only [aG,h2,hdn,hen] at c1 cP cS cD cO cM⊢
     refine ent Tryz.mix Tryz.func17 Tryz.ntmps17 ?_
     have W:=And.intro hdl (And.intro hel (And.intro ho2 ho3))
     repeat' first|refine we ?_|(refine sq (fun hc=>?_) (fun hc=>?_)<;>try exact hc.elim)|fail
     all_goals (try exact (ho2 (by assumption)).elim)
     all_goals (try (refine ⟨.inr rfl,?_⟩;simp [Hands,Tryz.results17]))
 ·rw [if_neg hpre]
  clear hbd hed hat
  cases h1:rD p
  ·rw [h1] at cP
   simp only [aG] at c1 cP cS cD⊢
   refine ent Tryz.mix Tryz.func17 Tryz.ntmps17 ?_
   have W:=trivial
   repeat' first|refine we ?_|(refine sq (fun hc=>?_) (fun hc=>?_)<;>try exact hc.elim)|fail
   all_goals (try (refine ⟨.inr rfl,?_⟩;simp [Hands,Tryz.results17]))
  ·rw [h1] at cP
   cases h2:p.loaded
   ·by_cases h3:p.deferred < 0
    ·simp only [aG,h2] at c1 cP cS cD⊢
     refine ent Tryz.mix Tryz.func17 Tryz.ntmps17 ?_
     have W:=h3
     repeat' first|refine we ?_|(refine sq (fun hc=>?_) (fun hc=>?_)<;>try exact hc.elim)|fail
     all_goals (try (refine ⟨.inr rfl,?_⟩;simp [Hands,Tryz.results17]))
    ·have h4:p.entered < 0:=by
      rw [h1,h2] at hpre
      by_cases h4:p.entered < 0
      ·exact h4
      ·exact (hpre ⟨rfl,rfl,by omega,by omega⟩).elim
     simp only [aG,h2] at c1 cP cS cD⊢
     refine ent Tryz.mix Tryz.func17 Tryz.ntmps17 ?_
     have W:=And.intro h3 h4
     repeat' first|refine we ?_|(refine sq (fun hc=>?_) (fun hc=>?_)<;>try exact hc.elim)|fail
     all_goals (try (refine ⟨.inr rfl,?_⟩;simp [Hands,Tryz.results17]))
   ·simp only [aG,h2] at c1 cP cS cD⊢
    refine ent Tryz.mix Tryz.func17 Tryz.ntmps17 ?_
    have W:=trivial
    repeat' first|refine we ?_|(refine sq (fun hc=>?_) (fun hc=>?_)<;>try exact hc.elim)|fail
    all_goals (try (refine ⟨.inr rfl,?_⟩;simp [Hands,Tryz.results17]))
end Go.Proofs.YtlnblmmohpcceaaGreatDoor
