/- Proved here: steps towards the statement of this claim. No condition. -/
import Derived.Test.YtlnblmmohpcceaaGreatDoorZQSTP
set_option linter.all false
set_option maxRecDepth 8000
set_option maxHeartbeats 8000000
namespace Go.Proofs.YtlnblmmohpcceaaGreatDoor
open Go.Aw Proofs.Tryz List IntKind
def JJ (rv:Nat) (q:aP):List aG:=[⟨true,false,1,1,q.cB.jQ.map fF⟩,⟨true,false,1,1,q.cB.mO.map fF⟩,⟨true,false,1,1,q.cB.nD.map fF⟩,⟨true,false,4,1,q.queue.map (bB .own)⟩,⟨true,false,4,1,q.builder.nodes.map (bX .own)⟩,⟨true,false,1,1,q.builder.opens.map iX⟩,⟨true,false,8,1,q.aF.map iO⟩,⟨true,false,5,1,q.aX.map bO⟩,⟨true,false,2,1,q.entries.map aK⟩,⟨true,false,2,rv,q.nY.map aK⟩,⟨true,false,1,1,q.log.map fF⟩]
def JK (rv:Nat) (q:aP):List AV:=[.str q.addr.host,.str q.addr.path,.bool q.cB.isSet,.obj 3 1,.obj 4 1,.obj 5 1,.str q.cB.Gx,.str q.tok.rest,.obj 6 1,.bool q.ended,.obj 7 1,.obj 8 1,.obj 9 1,.obj 10 1,.obj 11 1,.int .i64 q.block,.int .i64 q.inline,.int .i64 q.deferred,.int .i64 q.fO,.obj 12 rv,.obj 13 1,.bool q.mP]
theorem TS [aD prog] [fV prog] [eO prog] [qF prog] (p:aP) (a:aT) (hs:aL p<=33000000) (hm:bP bE p.aX+aV a<=16777216):
  Ok prog 68 [.agg (aM .view p),.agg (aK a)] (.agg (aM .own (nJ p a))):=by
 have c0:=iD p (by omega)
 have c1:=Ie p a hm
 unfold nJ
 cases hfl:pU p a
 ·rw [if_neg (by simp)]
  obtain ⟨r1,r2,r3⟩:=DJ p a hm hfl
  obtain ⟨hB,_⟩:=DI p a hm
  have c2:=zN p _ hB a (by simp)
  have FV:=sK p (dH p a) (by omega)
  have Jo:=yF p (dH p a)
  have hz0:gY p (dH p a) 0=p:=rfl
  have hsz:∀k,k<=(dH p a).length->aL (gY p (dH p a) k)<=50331648:=fun k hk=>by
   have h1:=(FV k hk).1
   have h2:=(AL (gY p (dH p a) k)).1
   have h3:=(AL p).2
   have h4:=vP aV (dH p a) k
   simp only [bP,length_take] at h1 r2 hm
   omega
  have OD:∀k,k<=(dH p a).length->(gY p (dH p a) k).aX=p.aX:=fun k hk=>(FV k hk).2.1
  have hmem:∀b∈dH p a,∃(j:Nat) (m:dD),BN (pF b) p.aX=(j:Int)/\p.aX[j]? =some m/\j < p.aX.length/\vR p b=m.body:=fun b hb=>by
   have h1:=r3 b hb
   rcases zK (pF b) p.aX with ⟨hi,hf⟩|⟨j,hj,hi,hf⟩
   ·unfold kM at h1;rw [hf] at h1;cases h1
   ·exact ⟨j,p.aX[j],hi,getElem?_eq_getElem hj,hj,by unfold vR;rw [hf]⟩
  have IZ:∀b∈dH p a,aV b<=16777215:=fun b hb=>by
   have:=bU aV hb
   have:=length_pos_of_mem hb
   simp only [bP] at r2 hm;omega
  have YV:∀m∈p.aX,m.body.length<=16777216:=fun m hx=>by
   have:=bU bE hx
   simp only [bP,bE] at hm this;omega
  have Cz:p.aX.length<=16777216:=by simp only [bP] at hm;omega
  clear r2 r3 hB FV
  generalize dH p a=L at *
  generalize gY p L=Q at *
  simp only [aM,aK] at c0 c1 c2
  rw [hfl] at c1
  refine rU aAc [3,16] func68 ntmps68 ?_
  have W:=trivial
  repeat' first|refine we ?_|(refine sq ?_ ?_<;>intro hc<;>try exact hc.elim)|fail
  refine aJ (ι:={q:Nat×Nat // q.1<=L.length}) (fun t o i=>⟨aZ t [(7,.int .i64 i.1.1),(16,.undef)],o.take 3++JJ i.1.2 (Q i.1.1)++[⟨true,true,22,0,[JK i.1.2 (Q i.1.1)]⟩,⟨true,false,2,1,L.map aK⟩]⟩)
   (fun i=>L.length - i.1.1) ⟨(0,1),by simp⟩ (aI (by simp [JK,JJ,hz0]) (by simp)) ?_
  rintro ⟨⟨k,v⟩,hk⟩ K1 hK1
  simp only at hk
  have hk1:i64.wrap ((k:Int)+1)=((k+1:Nat):Int):=by rw [wrap64]<;>omega
  by_cases hlt:k < L.length
  ·have hg:=getElem?_eq_getElem hlt
   have hbm:=getElem_mem hlt
   have hnext:=Jo k hlt
   have hq1:=hsz k hk
   have hqm:=OD k hk
   obtain ⟨j,m,hi,hgm,hjl,hbd⟩:=hmem L[k] hbm
   have hsb:=IZ L[k] hbm
   rw [<-hqm] at hi hgm hjl
   have hbq:vR (Q k) L[k]=m.body:=by rw [<-hbd];unfold vR;rw [hqm]
   have hmb:m.body.length<=16777216:=YV m (by rw [<-hqm];exact mem_of_getElem? hgm)
   unfold rF at hnext
   rw [hbq] at hnext
   have hK2:=hK1
   clear Jo hsz OD hmem IZ YV hbd hqm hbm c1 c2
   generalize hq':Q (k+1)=q' at *
   generalize hq:Q k=q at *
   have hrl:q.nY.length<=50331648:=by simp only [aL,bP] at hq1;omega
   have c3:=zC q.nY L[k] (by omega)
   simp only [aZ,set_cons_succ,set_cons_zero,take_succ_cons,take_zero,cons_append,nil_append,JJ,JK] at hK1⊢
   cases hh:q.nY.any (gL L[k])
   ·rw [hh] at hnext c3
    rw [if_neg (by simp)] at hnext
    obtain ⟨rn,hrn⟩:∃rn,rn=q.nY++[L[k]]:=⟨_,rfl⟩
    have hap:q.nY.map aK++[[.str L[k].host,.str L[k].path]]=rn.map aK:=by rw [hrn];simp
    rw [<-hrn] at hnext
    have hsq:aL {q with nY:=rn}<=67108864:=by
     simp only [aL,bP,hrn,length_append,length_cons,length_nil,iM,aO] at hq1⊢;omega
    have c4:=Dt {q with nY:=rn} L[k] (by simp only;simp only [aL,bP] at hq1;omega)
    have hbh:L[k].host.length<=16777216:=by simp only [aV] at hsb;omega
    have c5:=zJ m.body L[k].host (by omega) (by omega)
    obtain ⟨l6,lx⟩:=Aq m.body L[k].host
    have hsl:bP gZ q.aF<=1073741824:=by simp only [aL,bP] at *;omega
    have aVy:aH q.builder<=67108864:=by simp only [aL] at hq1;omega
    have Xj:q.log.length<=67108864:=by simp only [aL,bP] at hq1;omega
    have c6:=Ct {q with nY:=rn} hsl
    obtain ⟨hb1,hb2⟩:=AA {q with nY:=rn}
    have hb1':(bY {q with nY:=rn}).length<=67108864:=by simp only [aL,bP] at hq1 hb1;omega
    have c7:=Bi q.builder (bY {q with nY:=rn}) (bA m.body L[k].host).2.1 (by omega) l6 (fun x hm=>by have:=lx x hm;omega) (by omega) (fun x hm=>by have:=hb2 x hm;omega) (tQ _)
    obtain ⟨z1,z2,z3,z4⟩:=yT 60 q.builder (bY {q with nY:=rn}) (bA m.body L[k].host).2.1 (by omega) l6 lx (tQ _) (by omega) (bA m.body L[k].host).2.1.length (Nat.le_refl _)
    have hend:oM q.builder (bY {q with nY:=rn}) (bA m.body L[k].host).2.1 (bA m.body L[k].host).2.1.length=dP q.builder (bY {q with nY:=rn}) (bA m.body L[k].host).2.1:=by simp [oM]
    rw [hend] at z1 z2 z3 z4
    unfold jP at hnext
    simp only [hi] at c4
    simp only [Bool.false_eq_true,if_false] at hnext
    clear hrn hsq lx hq1 hend hb1 hb2
    generalize bY {q with nY:=rn}=ss at *
    generalize bA m.body L[k].host=g at *
    obtain ⟨im,ln,bk⟩:=g
    simp only at c5 c7 z1 z2 z3 z4 l6 hnext
    generalize dP q.builder ss ln=g at *
    obtain ⟨b,wr,lg⟩:=g
    simp only at c7 z1 z2 z3 z4 hnext
    have hj0:¬(j:Int) < 0:=by omega
    simp only [aM,aK,aN] at c3 c4 c5 c6 c7
    have W:=aA hk1 (aA hg (aA hap (aA hgm (aA hj0 hrl))))
    have V:=aA hlt (aA hjl hj0)
    repeat' first|refine we ?_|(refine sq ?_ ?_<;>intro hc<;>try exact hc.elim)|fail
    obtain ⟨P,hP⟩:∃P:Nat->aP,∀i,P i={q with nY:=rn,builder:=b,log:=kZ q.log (lg.take i)}:=⟨_,fun _=>rfl⟩
    have hP0:P 0={q with nY:=rn,builder:=b}:=by rw [hP];rfl
    have hPn:P lg.length=q':=by rw [hP,hnext,take_length]
    have hPl:∀i,i<=lg.length->(P i).log.length<=1099511627776:=fun i hi=>by
     rw [hP];have:=FL q.log (lg.take i);simp only [length_take] at this⊢;omega
    have hPs:∀i (h:i < lg.length),P (i+1)={P i with log:=iL (P i).log lg[i]}:=fun i h=>by
     rw [hP,hP,Dn _ _ _ h]
    clear c3 c4 c5 c6 c7 hP hnext
    refine aJ (ι:={q:Nat×Nat // q.1<=lg.length}) (fun t o i=>⟨aZ t [(14,.int .i64 i.1.1),(11,.ptr 19 1 0 0),(50,.undef),(52,.undef),(53,.undef),(59,.undef),(60,.undef),(77,.undef),(71,.undef),(74,.undef),(78,.undef),(73,.undef),(81,.undef),(42,.undef),(48,.undef),(35,.undef),(16,.undef)],o.take 3++JJ i.1.2 (P i.1.1)++[⟨true,true,22,0,[JK i.1.2 (P i.1.1)]⟩,⟨true,false,2,1,L.map aK⟩,⟨false,false,2,1,[[.str L[k].host,.str L[k].path]]⟩,⟨true,false,2,1,im.map aK⟩,⟨true,false,2,1,ln.map jL⟩,⟨false,false,0,1,[]⟩,⟨true,false,1,1,ss.map (dI .own)⟩,⟨true,false,4,1,q.builder.nodes.map (bX .own)⟩,⟨true,false,1,1,q.builder.opens.map iX⟩,⟨true,false,1,1,lg.map fF⟩]⟩)
     (fun i=>lg.length - i.1.1) ⟨(0,v+1),by simp⟩ ?_ ?_
    ·simp only [hP0,JK,JJ,aZ,set_cons_succ,set_cons_zero,take_succ_cons,take_zero,cons_append,nil_append]
     exact Z0 7 21 8 22 19 rfl rfl ⟨rfl,rfl⟩ (by simp;rfl) rfl rfl ⟨rfl,rfl⟩ (by simp;rfl) rfl (by simp) (by simp) (by simp)
    rintro ⟨⟨i,rv⟩,hil⟩ K2 hK3
    simp only at hil
    have hk2:i64.wrap ((i:Int)+1)=((i+1:Nat):Int):=by rw [wrap64]<;>omega
    by_cases hit:i < lg.length
    ·have hgi:=getElem?_eq_getElem hit
     have hnx:=hPs i hit
     have c4:=FR (P i) lg[i] (hPl i hil)
     rw [<-hnx] at c4
     have hK4:=hK3
     clear hP0 hPn hPl hPs hnx
     generalize hp':P (i+1)=p' at *
     generalize hpi:P i=pi at *
     simp only [aZ,set_cons_succ,set_cons_zero,take_succ_cons,take_zero,cons_append,nil_append,JJ,JK] at hK3⊢
     simp only [aM] at c4
     have W:=aA hk2 (aA hgi hit)
     repeat' first|refine we ?_|(refine sq ?_ ?_<;>intro hc<;>try exact hc.elim)|fail
     rw [uL]
     refine go_drawn (by simp;rfl) (by simp;rfl) (by decide+kernel) (by decide) (by first|rfl|(simp [Vd];done)) (by simp) (by simp) ?_
     iterate 5 (
      refine go_draw rfl (by first|rfl|(simp;done)) (by simp [Region.binds];rfl) (by decide) (by simp [Region.binds];rfl) (by simp;rfl) ?_ ?_
      ·first|rfl|(simp [lY];done)
      refine nx ?_
      refine so ?_
      refine kN ?_
      refine go_next (by simp;done) (by simp;rfl) (by simp;rfl) ?_)
     refine BM (s1:= ?s1) (by decide+kernel) (by simp [qG,reach,lN,Region.binds,range_succ];rfl) ?ha ?hk
     case ha=>
      repeat' (first|refine st ?_|(refine nx ?_;first|refine so ?_|refine sg (hc:=c4) (h:= ?_))|refine sx ?_ ?_|refine sy ?_ ?_|fail)
      all_goals rfl
     case hk=>
      have W:=hk2
      repeat' first|refine we ?_|(refine sq ?_ ?_<;>intro hc<;>try exact hc.elim)|fail
      refine hK4 _ ⟨(i+1,1),by simp only;omega⟩ ?_ (by simp only;omega)
      simp only [hp']
      exact oz (q:=p') rfl (by simp [JJ,JK,Bq,Br,hp']) (by simp [tX]) (by simp [tX]) (by simp) (by simp) (by simp [dL])
    ·have hie:i=lg.length:=by omega
     subst hie
     simp only [hPn,aZ,set_cons_succ,set_cons_zero,take_succ_cons,take_zero,cons_append,nil_append,JJ,JK] at hK3⊢
     clear hP0 hPn hPl hPs hK3
     have W:=aA hk1 hit
     repeat' first|refine we ?_|(refine sq ?_ ?_<;>intro hc<;>try exact hc.elim)|fail
     refine hK2 _ ⟨(k+1,rv),by simp only;omega⟩ ?_ (by simp only;omega)
     exact aS 16 (by simp [JJ,JK,hq']) (by simp) (by simp) (by simp [dL,JJ,JK,hq'])
   ·rw [hh] at hnext c3
    rw [if_pos rfl] at hnext
    simp only [aK] at c3
    have W:=aA hk1 (aA hg hlt)
    repeat' first|refine we ?_|(refine sq ?_ ?_<;>intro hc<;>try exact hc.elim)|fail
    refine hK2 _ ⟨(k+1,v),by simp only;omega⟩ ?_ (by simp only;omega)
    exact aS 16 (by simp [JJ,JK,hq',hnext]) (by simp) (by simp) (by simp [dL,JJ,JK,hq',hnext])
  ·have hkl:k=L.length:=by omega
   subst hkl
   simp only [aZ,set_cons_succ,set_cons_zero,take_succ_cons,take_zero,cons_append,nil_append,JJ,JK] at hK1⊢
   clear Jo hsz OD hmem IZ YV hK1 c1 c2
   generalize Q L.length=q at *
   have W:=aA hk1 hlt
   repeat' first|refine we ?_|(refine sq ?_ ?_<;>intro hc<;>try exact hc.elim)|fail
   all_goals try(refine ⟨.inr rfl,?_⟩;simp [aB,results68])
 ·rw [if_pos rfl]
  rw [hfl] at c1
  have hfm:=zI a
  have Xj:p.log.length<=33000000:=by simp only [aL,bP] at hs;omega
  have c2:=Hu a (by omega)
  have c3:=FR p (Ol++jW a) (by omega)
  simp only [Ol] at c3⊢
  generalize jW a=fa at *
  simp only [aM,aK] at c0 c1 c2 c3⊢
  refine rU aAc [3] func68 ntmps68 ?_
  have W:=hfm
  repeat' first|refine we ?_|(refine sq ?_ ?_<;>intro hc<;>try exact hc.elim)|fail
  rw [uL]
  refine go_drawn (by simp;rfl) (by simp;rfl) (by decide+kernel) (by decide) (by first|rfl|(simp [Vd];done)) (by simp) (by simp) ?_
  iterate 4 (
   refine go_draw rfl (by first|rfl|(simp;done)) (by simp [Region.binds];rfl) (by decide) (by simp [Region.binds];rfl) (by simp;rfl) ?_ ?_
   ·first|rfl|(simp [lY];done)
   refine nx ?_
   refine so ?_
   refine kN ?_
   refine go_next (by simp;done) (by simp;rfl) (by simp;rfl) ?_)
  refine BM (s1:= ?s2) (by decide+kernel) (by simp [qG,reach,lN,Region.binds,range_succ];rfl) ?ha2 ?hk2
  case ha2=>
   repeat' (first|refine st ?_|(refine nx ?_;first|refine so ?_|refine sg (hc:=c3) (h:= ?_))|refine sx ?_ ?_|refine sy ?_ ?_|fail)
   all_goals rfl
  case hk2=>
   have W:=trivial
   repeat' first|refine we ?_|(refine sq ?_ ?_<;>intro hc<;>try exact hc.elim)|fail
   all_goals try(refine ⟨.inr rfl,?_⟩;simp [aB,results68])
theorem Lh [aD prog] [fV prog] [eO prog] [qF prog] (p:aP) (hs:aL p<=33000000) (hn1:p.aF.length<=16777216) (hme:bP bE p.aX+bP aV p.entries<=16777216):Ok prog 17 [.agg (aM .view p)] (.gV [.agg (aM .own (mW p).1),.bool (mW p).2]):=by
 have c1:=iD p (by omega)
 have hn2:p.aX.length<=16777216:=by simp only [bP] at hme;omega
 have cP:=KZ p
 have cS:=zF p (by omega)
 have cD:=Du p hn1
 have hbd:∀s∈p.aF,s.body.length<=33000000:=fun s hm=>by
  have:=bU gZ hm
  simp only [aL,bP,gZ] at hs this;omega
 have Y7:∀a∈p.entries,bP bE p.aX+aV a<=16777216:=fun a hm=>by
  have h1:=bU aV hm
  have h2:aO aV p.entries<=bP aV p.entries:=by simp only [bP];omega
  omega
 have aQu:p.entries.length<=16777216:=by
  have:p.entries.length<=bP aV p.entries:=by simp only [bP];omega
  omega
 have aHy:=lJ iF p.aF 0
 have Jl:=JE iF p.aF 0
 unfold mW
 by_cases hpre:uT p=true/\p.mP=false/\0<=p.deferred/\0<=p.fO
 ·rw [if_pos hpre]
  obtain ⟨h1,h2,h3,h4⟩:=hpre
  obtain ⟨dn,FC⟩:=Int.eq_ofNat_of_zero_le h3
  obtain ⟨en,Iu⟩:=Int.eq_ofNat_of_zero_le h4
  rw [FC,Iu,Int.toNat_natCast,Int.toNat_natCast]
  rw [h1] at cP
  by_cases hdl:dn < (places iF 0 p.aF).length
  ·have TR:=getElem?_eq_getElem hdl
   obtain ⟨sn,Yv,_,hsl⟩:=Jl _ (getElem_mem hdl)
   rw [Nat.zero_add] at hsl
   rw [Yv] at TR
   rw [TR]
   simp only [Int.toNat_natCast]
   have Y8:=getElem?_eq_getElem hsl
   rw [Y8]
   simp only
   have Y5:=hbd _ (getElem_mem hsl)
   have hkd:i64.wrap ((dn:Int)+1)=(dn:Int)+1:=by rw [wrap64]<;>omega
   have hdi:(dn:Int) < ((places iF 0 p.aF).length:Int):=by omega
   unfold LJ
   have c4:=yZ p p.aF[sn].body false (by omega) (by omega)
   have hqd:=(EL p p.aF[sn].body false).1.trans FC
   clear hbd Y7 Jl Yv aHy
   generalize places iF 0 p.aF=D at *
   cases hd:p.aF[sn].done
   ·rw [if_neg (by simp)]
    simp only [aM,h2,FC,Iu] at c1 cP cS cD⊢
    refine bR aAc func17 ntmps17 ?_
    have W:=aA hdi (aA TR (aA Y8 hd))
    have V:=aA hdl hsl
    repeat' first|refine we ?_|(refine sq ?_ ?_<;>intro hc<;>try exact hc.elim)|fail
    all_goals try(refine ⟨.inr rfl,?_⟩;simp [aB,results17])
   ·generalize p.aF.all lT=YU at *
    cases YU
    ·rw [if_neg (by simp)]
     simp only [aM,h2,FC,Iu] at c1 cP cS cD⊢
     refine bR aAc func17 ntmps17 ?_
     have W:=aA hdi (aA TR (aA Y8 hd))
     have V:=aA hdl hsl
     repeat' first|refine we ?_|(refine sq ?_ ?_<;>intro hc<;>try exact hc.elim)|fail
     all_goals try(refine ⟨.inr rfl,?_⟩;simp [aB,results17])
    ·rw [if_pos ⟨rfl,rfl⟩]
     by_cases TP:p.aF[sn].code=1
     ·rw [if_pos TP]
      generalize kP p p.aF[sn].body false=q at *
      simp only [aM,h2,FC,Iu,hqd] at c1 cP cS cD c4⊢
      refine bR aAc func17 ntmps17 ?_
      have W:=aA hdi (aA TR (aA Y8 (aA hd (aA TP hkd))))
      have V:=aA hdl hsl
      repeat' first|refine we ?_|(refine sq ?_ ?_<;>intro hc<;>try exact hc.elim)|fail
      all_goals try(refine ⟨.inr rfl,?_⟩;simp [aB,results17])
     ·rw [if_neg TP]
      simp only [aM,h2,FC,Iu] at c1 cP cS cD⊢
      refine bR aAc func17 ntmps17 ?_
      have W:=aA hdi (aA TR (aA Y8 (aA hd (aA TP hkd))))
      have V:=aA hdl hsl
      repeat' first|refine we ?_|(refine sq ?_ ?_<;>intro hc<;>try exact hc.elim)|fail
      all_goals try(refine ⟨.inr rfl,?_⟩;simp [aB,results17])
  ·have TR:(places iF 0 p.aF)[dn]? =none:=getElem?_eq_none (by omega)
   rw [TR]
   simp only
   have hdl:¬(dn:Int) < ((places iF 0 p.aF).length:Int):=by omega
   clear hbd Jl TR
   generalize places iF 0 p.aF=D at *
   by_cases Y9:en < p.entries.length
   ·have ow:=getElem?_eq_getElem Y9
    rw [ow]
    simp only
    have hsa:=Y7 _ (getElem_mem Y9)
    have Ls:(en:Int) < (p.entries.length:Int):=by omega
    have hke:i64.wrap ((en:Int)+1)=(en:Int)+1:=by rw [wrap64]<;>omega
    have cG:=Ib p p.entries[en] hsa
    have c5:=TS p p.entries[en] hs hsa
    have hqe:=(RD p p.entries[en]).trans Iu
    clear Y7
    unfold LK
    generalize tC p p.entries[en]=gr at *
    cases gr
    ·rw [if_neg (by simp)]
     simp only [aM,aK,h2,FC,Iu] at c1 cP cS cD cG⊢
     refine bR aAc func17 ntmps17 ?_
     have W:=aA hdl (aA Ls (aA ow Y9))
     repeat' first|refine we ?_|(refine sq ?_ ?_<;>intro hc<;>try exact hc.elim)|fail
     all_goals try(refine ⟨.inr rfl,?_⟩;simp [aB,results17])
    ·generalize p.aF.all lT=YU at *
     cases YU
     ·rw [if_neg (by simp)]
      simp only [aM,aK,h2,FC,Iu] at c1 cP cS cD cG⊢
      refine bR aAc func17 ntmps17 ?_
      have W:=aA hdl (aA Ls (aA ow Y9))
      repeat' first|refine we ?_|(refine sq ?_ ?_<;>intro hc<;>try exact hc.elim)|fail
      all_goals try(refine ⟨.inr rfl,?_⟩;simp [aB,results17])
     ·rw [if_pos ⟨rfl,rfl⟩]
      generalize nJ p p.entries[en]=q at *
      simp only [aM,aK,h2,FC,Iu,hqe] at c1 cP cS cD cG c5⊢
      refine bR aAc func17 ntmps17 ?_
      have W:=aA hdl (aA Ls (aA hke (aA ow Y9)))
      repeat' first|refine we ?_|(refine sq ?_ ?_<;>intro hc<;>try exact hc.elim)|fail
      all_goals try(refine ⟨.inr rfl,?_⟩;simp [aB,results17])
   ·have ow:p.entries[en]? =none:=getElem?_eq_none (by omega)
    rw [ow]
    simp only
    have Ls:¬(en:Int) < (p.entries.length:Int):=by omega
    clear Y7
    have cO:=Ju p hn1
    have cM:=KV p hn2
    have Xj:p.log.length<=33000000:=by simp only [aL,bP] at hs;omega
    have c5:=FR p Oq (by omega)
    unfold LM
    simp only [Oq] at c5⊢
    generalize places sI 0 p.aF=O at *
    generalize places sJ 0 p.aX=M at *
    by_cases ho:O.length=0
    ·obtain rfl:=length_eq_zero_iff.1 ho
     by_cases hm:M.length=0
     ·obtain rfl:=length_eq_zero_iff.1 hm
      rw [if_pos ⟨rfl,rfl⟩]
      simp only [aM,h2,FC,Iu] at c1 cP cS cD cO cM c5⊢
      refine bR aAc func17 ntmps17 ?_
      have W:=aA hdl Ls
      repeat' first|refine we ?_|(refine nx ?_;refine sg (hc:=c5) (h:=?_))|(refine sq ?_ ?_<;>intro hc<;>try exact hc.elim)|fail
      all_goals try(refine ⟨.inr rfl,?_⟩;simp [aB,results17])
     ·rw [if_neg (by omega)]
      have hm2:¬M=[]:=fun h=>hm (by rw [h];rfl)
      have hm3:(0:Int) < (M.length:Int):=by omega
      simp only [aM,h2,FC,Iu] at c1 cP cS cD cO cM⊢
      refine bR aAc func17 ntmps17 ?_
      have W:=aA hdl (aA Ls (aA hm2 hm3))
      repeat' first|refine we ?_|(refine sq ?_ ?_<;>intro hc<;>try exact hc.elim)|fail
      all_goals (try exact (hm2 (by assumption)).elim)
      all_goals try(refine ⟨.inr rfl,?_⟩;simp [aB,results17])
    ·rw [if_neg (by omega)]
     have PU:¬O=[]:=fun h=>ho (by rw [h];rfl)
     have ho3:(0:Int) < (O.length:Int):=by omega
     simp only [aM,h2,FC,Iu] at c1 cP cS cD cO cM⊢
     refine bR aAc func17 ntmps17 ?_
     have W:=aA hdl (aA Ls (aA PU ho3))
     repeat' first|refine we ?_|(refine sq ?_ ?_<;>intro hc<;>try exact hc.elim)|fail
     all_goals (try exact (PU (by assumption)).elim)
     all_goals try(refine ⟨.inr rfl,?_⟩;simp [aB,results17])
 ·rw [if_neg hpre]
  clear hbd Y7 Jl
  cases h1:uT p
  ·rw [h1] at cP
   simp only [aM] at c1 cP cS cD⊢
   refine bR aAc func17 ntmps17 ?_
   have W:=trivial
   repeat' first|refine we ?_|(refine sq ?_ ?_<;>intro hc<;>try exact hc.elim)|fail
   all_goals try(refine ⟨.inr rfl,?_⟩;simp [aB,results17])
  ·rw [h1] at cP
   cases h2:p.mP
   ·by_cases h3:p.deferred < 0
    ·simp only [aM,h2] at c1 cP cS cD⊢
     refine bR aAc func17 ntmps17 ?_
     have W:=h3
     repeat' first|refine we ?_|(refine sq ?_ ?_<;>intro hc<;>try exact hc.elim)|fail
     all_goals try(refine ⟨.inr rfl,?_⟩;simp [aB,results17])
    ·have h4:p.fO < 0:=by
      rw [h1,h2] at hpre
      by_cases h4:p.fO < 0
      ·exact h4
      ·exact (hpre ⟨rfl,rfl,by omega,by omega⟩).elim
     simp only [aM,h2] at c1 cP cS cD⊢
     refine bR aAc func17 ntmps17 ?_
     have W:=aA h3 h4
     repeat' first|refine we ?_|(refine sq ?_ ?_<;>intro hc<;>try exact hc.elim)|fail
     all_goals try(refine ⟨.inr rfl,?_⟩;simp [aB,results17])
   ·simp only [aM,h2] at c1 cP cS cD⊢
    refine bR aAc func17 ntmps17 ?_
    have W:=trivial
    repeat' first|refine we ?_|(refine sq ?_ ?_<;>intro hc<;>try exact hc.elim)|fail
    all_goals try(refine ⟨.inr rfl,?_⟩;simp [aB,results17])
end Go.Proofs.YtlnblmmohpcceaaGreatDoor
