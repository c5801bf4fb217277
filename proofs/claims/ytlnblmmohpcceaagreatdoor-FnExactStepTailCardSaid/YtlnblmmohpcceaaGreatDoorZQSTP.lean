/- Proved here: steps towards the statement of this claim. No condition. -/
import Derived.Test.YtlnblmmohpcceaaGreatDoorZQZ7
set_option linter.all false
set_option maxRecDepth 8000
set_option maxHeartbeats 8000000
namespace Go.Proofs.YtlnblmmohpcceaaGreatDoor
open Go.Aw Proofs.Tryz List IntKind
def Oq:bC:=[108,111,97,100]
def LJ (p:aP) (s:lF):aP×Bool:=if s.done=true/\p.aF.all lT=true then ({(if s.code=1 then kP p s.body false else p) with deferred:=p.deferred+1},true) else (p,false)
def LK (p:aP) (a:aT):aP×Bool:=if tC p a=true/\p.aF.all lT=true then ({nJ p a with fO:=p.fO+1},true) else (p,false)
def LM (p:aP):aP×Bool:=if (places sI 0 p.aF).length=0/\(places sJ 0 p.aX).length=0 then ({p with log:=iL p.log Oq,mP:=true},true) else (p,false)
def mW (p:aP):aP×Bool:=
 if uT p=true/\p.mP=false/\0<=p.deferred/\0<=p.fO then
  match (places iF 0 p.aF)[p.deferred.toNat]? with
  |some d=>match p.aF[d.toNat]? with
   |some s=>LJ p s
   |none=>(p,false)
  |none=>match p.entries[p.fO.toNat]? with
   |some a=>LK p a
   |none=>LM p
 else (p,false)
theorem JE {α:Type} (f:α->Bool):∀(l:List α) (i:Nat) (d:Int),d∈places f i l->∃k:Nat,d=(k:Int)/\i<=k/\k < i+l.length
 |[],i,d,h=>by simp [places] at h
 |x::l,i,d,h=>by
  simp only [places] at h
  have hr:d∈places f (i+1) l->∃k:Nat,d=(k:Int)/\i<=k/\k < i+(x::l).length:=fun h=>by
   obtain ⟨k,h1,h2,h3⟩:=JE f l (i+1) d h
   exact ⟨k,h1,by omega,by simp only [length_cons];omega⟩
  split at h
  ·rcases mem_cons.1 h with h|h
   ·exact ⟨i,h,Nat.le_refl _,by simp only [length_cons];omega⟩
   ·exact hr h
  ·exact hr h
theorem EL (p:aP) (c:bC) (w:Bool):(kP p c w).deferred=p.deferred/\(kP p c w).fO=p.fO/\(kP p c w).aF=p.aF/\(kP p c w).aX=p.aX:=by
 unfold kP jP
 split<;>exact ⟨rfl,rfl,rfl,rfl⟩
theorem YT (q:aP) (b:aT):(rF q b).fO=q.fO:=by
 unfold rF jP
 split<;>rfl
theorem RD (p:aP) (a:aT):(nJ p a).fO=p.fO:=by
 unfold nJ
 split
 ·rfl
 ·unfold gY
  have:∀(l:List aT) (q:aP),(l.foldl rF q).fO=q.fO:=by
   intro l
   induction l with
   |nil=>intro q;rfl
   |cons b l ih=>intro q;rw [foldl_cons,ih,YT]
  exact this _ _
def vS:List (Nat×Nat):=[(1,18),(2,19),(3,20),(4,21),(5,22),(6,23),(7,24),(8,25),(9,26),(10,27),(11,28)]
theorem Y6 {t t':List AV} {o o':List aG} {n1 v1 n2 v2 n3 v3 n4 v4 n5 v5 n6 v6 n7 v7 n8 v8 n9 v9 Tk v10 Tm v11:Nat} {e1 e2 e3 e4 e5 e6 e7 e8 e9 Tn Tp:List (List AV)} {U0 U6 Tq Vy jf o17:aG} {q:aP} (ho:o=[⟨true,true,22,2,[Br 18 q]⟩,⟨false,false,n1,v1,e1⟩,⟨false,false,n2,v2,e2⟩,⟨false,false,n3,v3,e3⟩,⟨false,false,n4,v4,e4⟩,⟨false,false,n5,v5,e5⟩,⟨false,false,n6,v6,e6⟩,⟨false,false,n7,v7,e7⟩,⟨false,false,n8,v8,e8⟩,⟨false,false,n9,v9,e9⟩,⟨false,false,Tk,v10,Tn⟩,⟨false,false,Tm,v11,Tp⟩,U0,U6,Tq,Vy,jf,o17]++Bq q)
  (ho':o'=[⟨true,true,22,2,[Br 1 q]⟩]++Bq q++[U0,U6]) (ht:∀z∈vS,wk (qI z.1 z.2 t') t') (hf:∀z∈vS,U0.mH z.1 z.2=U0/\U6.mH z.1 z.2=U6/\Tq.mH z.1 z.2=Tq/\Vy.mH z.1 z.2=Vy/\jf.mH z.1 z.2=jf/\o17.mH z.1 z.2=o17) (hw:wk t t') (hc:fM 14 t'=true) (hc0:dL 14 [U0,U6]=true):lS ⟨t,o⟩ ⟨t',o'⟩:=by
 subst ho;subst ho'
 have e:=fun i j (h:(i,j)∈vS)=>hf (i,j) h
 have h:=fun i j (h:(i,j)∈vS)=>ht (i,j) h
 simp only [Bq,Br,cons_append,nil_append]
 refine (wZ hw).trans ?_
 refine (bJ 1 18 rfl rfl ⟨rfl,rfl⟩ (by simp [(e 1 18 (by decide))];rfl) (h 1 18 (by decide))).trans ?_
 refine (bJ 2 19 rfl rfl ⟨rfl,rfl⟩ (by simp [(e 2 19 (by decide))];rfl) (h 2 19 (by decide))).trans ?_
 refine (bJ 3 20 rfl rfl ⟨rfl,rfl⟩ (by simp [(e 3 20 (by decide))];rfl) (h 3 20 (by decide))).trans ?_
 refine (bJ 4 21 rfl rfl ⟨rfl,rfl⟩ (by simp [(e 4 21 (by decide))];rfl) (h 4 21 (by decide))).trans ?_
 refine (bJ 5 22 rfl rfl ⟨rfl,rfl⟩ (by simp [(e 5 22 (by decide))];rfl) (h 5 22 (by decide))).trans ?_
 refine (bJ 6 23 rfl rfl ⟨rfl,rfl⟩ (by simp [(e 6 23 (by decide))];rfl) (h 6 23 (by decide))).trans ?_
 refine (bJ 7 24 rfl rfl ⟨rfl,rfl⟩ (by simp [(e 7 24 (by decide))];rfl) (h 7 24 (by decide))).trans ?_
 refine (bJ 8 25 rfl rfl ⟨rfl,rfl⟩ (by simp [(e 8 25 (by decide))];rfl) (h 8 25 (by decide))).trans ?_
 refine (bJ 9 26 rfl rfl ⟨rfl,rfl⟩ (by simp [(e 9 26 (by decide))];rfl) (h 9 26 (by decide))).trans ?_
 refine (bJ 10 27 rfl rfl ⟨rfl,rfl⟩ (by simp [(e 10 27 (by decide))];rfl) (h 10 27 (by decide))).trans ?_
 refine (bJ 11 28 rfl rfl ⟨rfl,rfl⟩ (by simp [(e 11 28 (by decide))];rfl) (h 11 28 (by decide))).trans ?_
 refine aS 14 (by simp) (kK _) hc ?_
 simpa [dL,fM,closed] using hc0
theorem TQ [aD prog] [fV prog] [eO prog] [qF prog] (p:aP) (a:aT) (hs:aL p<=33000000) (hm:bP bE p.aX+aV a<=16777216):
  IJ prog 86 [.pX (aM .own p) (aM .own (nJ p a)),.view (.agg (aK a))] (.gV []):=by
 have c1:=Ic p a hm
 unfold nJ
 cases hfl:pU p a
 ·rw [if_neg (by simp)]
  obtain ⟨r1,r2,r3⟩:=DJ p a hm hfl
  obtain ⟨hB,_⟩:=DI p a hm
  have c2:=zM p _ hB a (by simp)
  have FV:=sK p (dH p a) (by omega)
  have Jo:=yF p (dH p a)
  have hz0:gY p (dH p a) 0=p:=rfl
  have hsz:∀k,k<=(dH p a).length->aL (gY p (dH p a) k)<=50331648:=fun k hk=>by
   have h1:=(FV k hk).1
   have h2:=(AL (gY p (dH p a) k)).1
   have h3:=(AL p).2
   have h4:=vP aV (dH p a) k
   simp only [bP,length_take] at h1 r2 hm
   omega
  have OD:∀k,k<=(dH p a).length->(gY p (dH p a) k).aX=p.aX:=fun k hk=>(FV k hk).2.1
  have hmem:∀b∈dH p a,∃(j:Nat) (m:dD),BN (pF b) p.aX=(j:Int)/\p.aX[j]? =some m/\j < p.aX.length/\vR p b=m.body:=fun b hb=>by
   have h1:=r3 b hb
   rcases zK (pF b) p.aX with ⟨hi,hf⟩|⟨j,hj,hi,hf⟩
   ·unfold kM at h1;rw [hf] at h1;cases h1
   ·exact ⟨j,p.aX[j],hi,getElem?_eq_getElem hj,hj,by unfold vR;rw [hf]⟩
  have IZ:∀b∈dH p a,aV b<=16777215:=fun b hb=>by
   have:=bU aV hb
   have:=length_pos_of_mem hb
   simp only [bP] at r2 hm;omega
  have YV:∀m∈p.aX,m.body.length<=16777216:=fun m hx=>by
   have:=bU bE hx
   simp only [bP,bE] at hm this;omega
  have Cz:p.aX.length<=16777216:=by simp only [bP] at hm;omega
  clear r2 r3 hB FV
  generalize dH p a=L at *
  generalize gY p L=Q at *
  simp only [aM,aK] at c1 c2
  rw [hfl] at c1
  refine oI aAc func86 ntmps86 ?_
  have W:=trivial
  repeat' first|refine we ?_|(refine sq ?_ ?_<;>intro hc<;>try exact hc.elim)|fail
  refine aJ (ι:={k:Nat // k<=L.length}) (fun t o i=>⟨aZ t [(25,.int .i64 i.1),(5,.undef),(11,.undef),(21,.undef)],[⟨true,true,22,2,[Br 1 (Q i.1)]⟩]++Bq (Q i.1)++[⟨true,true,2,0,[[.str a.host,.str a.path]]⟩,⟨true,false,2,1,L.map aK⟩]⟩)
   (fun i=>L.length - i.1) ⟨0,by simp⟩ (aI (by simp [Br,Bq,hz0]) (by simp)) ?_
  rintro ⟨k,hk⟩ K1 hK1
  have hk1:i64.wrap ((k:Int)+1)=((k+1:Nat):Int):=by rw [wrap64]<;>omega
  by_cases hlt:k < L.length
  ·have hg:=getElem?_eq_getElem hlt
   have hbm:=getElem_mem hlt
   have hnext:=Jo k hlt
   have hq1:=hsz k hk
   have hqm:=OD k hk
   obtain ⟨j,m,hi,hgm,hjl,hbd⟩:=hmem L[k] hbm
   have hsb:=IZ L[k] hbm
   rw [<-hqm] at hi hgm hjl
   have hbq:vR (Q k) L[k]=m.body:=by rw [<-hbd];unfold vR;rw [hqm]
   have hmb:m.body.length<=16777216:=YV m (by rw [<-hqm];exact mem_of_getElem? hgm)
   unfold rF at hnext
   rw [hbq] at hnext
   have hK2:=hK1
   clear Jo hsz OD hmem IZ YV hbd hqm hbm c1 c2
   generalize hq':Q (k+1)=q' at *
   generalize hq:Q k=q at *
   have hrl:q.nY.length<=50331648:=by simp only [aL,bP] at hq1;omega
   have c3:=NY q.nY L[k] (by omega)
   simp only [aZ,set_cons_succ,set_cons_zero,cons_append,nil_append,Bq,Br] at hK1⊢
   cases hh:q.nY.any (gL L[k])
   ·rw [hh] at hnext c3
    rw [if_neg (by simp)] at hnext
    obtain ⟨rn,hrn⟩:∃rn,rn=q.nY++[L[k]]:=⟨_,rfl⟩
    have hap:q.nY.map aK++[[.str L[k].host,.str L[k].path]]=rn.map aK:=by rw [hrn];simp
    rw [<-hrn] at hnext
    have hsq:aL {q with nY:=rn}<=67108864:=by
     simp only [aL,bP,hrn,length_append,length_cons,length_nil,iM,aO] at hq1⊢;omega
    have c4:=yE {q with nY:=rn} L[k] (by simp only;simp only [aL,bP] at hq1;omega)
    have hbh:L[k].host.length<=16777216:=by simp only [aV] at hsb;omega
    have c5:=sZ m.body L[k].host (by omega) (by omega)
    obtain ⟨l6,lx⟩:=Aq m.body L[k].host
    have c6:=Cu {q with nY:=rn} (bA m.body L[k].host).2.1 false hsq l6 lx
    rw [<-hnext] at c6
    simp only [hi] at c4
    clear hnext hrn hsq l6 lx hq1
    generalize bA m.body L[k].host=g at *
    obtain ⟨im,ln,bk⟩:=g
    have hj0:¬(j:Int) < 0:=by omega
    simp only [aM,aK] at c3 c4 c5 c6
    have W:=aA hk1 (aA hg (aA hap (aA hgm (aA hj0 hrl))))
    have V:=aA hlt (aA hjl hj0)
    repeat' first|refine we ?_|(refine nx ?_;refine sg (hc:=c6) (h:=?_))|(refine sq ?_ ?_<;>intro hc<;>try exact hc.elim)|fail
    refine hK2 _ ⟨k+1,by omega⟩ ?_ (by simp only;omega)
    simp only [hq']
    exact Y6 (q:=q') rfl (by simp [Bq,Br,hq']) (by simp [vS]) (by simp [vS]) (by simp) (by simp) (by simp [dL])
   ·rw [hh] at hnext c3
    rw [if_pos rfl] at hnext
    simp only [aK] at c3
    have W:=aA hk1 (aA hg hlt)
    repeat' first|refine we ?_|(refine sq ?_ ?_<;>intro hc<;>try exact hc.elim)|fail
    refine hK2 _ ⟨k+1,by omega⟩ ?_ (by simp only;omega)
    exact aS 14 (by simp [Bq,Br,hq',hnext]) (by simp) (by simp) (by simp [dL,Bq,Br,hq',hnext])
  ·have hkl:k=L.length:=by omega
   subst hkl
   simp only [aZ,set_cons_succ,set_cons_zero,cons_append,nil_append,Bq,Br] at hK1⊢
   clear Jo hsz OD hmem IZ YV hK1 c1 c2
   generalize Q L.length=q at *
   have W:=aA hk1 hlt
   repeat' first|refine we ?_|(refine sq ?_ ?_<;>intro hc<;>try exact hc.elim)|fail
   all_goals try(refine ⟨by first|exact .inr rfl|exact .inl rfl,?_⟩;simp [eZ,cZ,bZ,rowOf,results86])
 ·rw [if_pos rfl]
  rw [hfl] at c1
  have hfm:=zI a
  have Xj:p.log.length<=33000000:=by simp only [aL,bP] at hs;omega
  have c2:=Hw a (by omega)
  have c3:=BZ p (Ol++jW a) (by omega)
  simp only [Ol] at c3⊢
  generalize jW a=fa at *
  simp only [aM,aK] at c1 c2 c3⊢
  refine oI aAc func86 ntmps86 ?_
  have W:=hfm
  repeat' first|refine we ?_|(refine nx ?_;refine sg (hc:=c3) (h:=?_))|(refine sq ?_ ?_<;>intro hc<;>try exact hc.elim)|fail
  all_goals try(refine ⟨by first|exact .inr rfl|exact .inl rfl,?_⟩;simp [eZ,cZ,bZ,rowOf,results86])
theorem Lf [aD prog] [fV prog] [eO prog] [qF prog] (p:aP) (hs:aL p<=33000000) (hn1:p.aF.length<=16777216) (hme:bP bE p.aX+bP aV p.entries<=16777216):Ok prog 19 [.agg (aM .view p)] (.gV [.agg (aM .own (mW p).1),.bool (mW p).2]):=by
 have c1:=jN p (by omega)
 have hn2:p.aX.length<=16777216:=by simp only [bP] at hme;omega
 have cP:=La p
 have cS:=zG p (by omega)
 have cD:=Dv p hn1
 have hbd:∀s∈p.aF,s.body.length<=33000000:=fun s hm=>by
  have:=bU gZ hm
  simp only [aL,bP,gZ] at hs this;omega
 have Y7:∀a∈p.entries,bP bE p.aX+aV a<=16777216:=fun a hm=>by
  have h1:=bU aV hm
  have h2:aO aV p.entries<=bP aV p.entries:=by simp only [bP];omega
  omega
 have aQu:p.entries.length<=16777216:=by
  have:p.entries.length<=bP aV p.entries:=by simp only [bP];omega
  omega
 have aHy:=lJ iF p.aF 0
 have Jl:=JE iF p.aF 0
 unfold mW
 by_cases hpre:uT p=true/\p.mP=false/\0<=p.deferred/\0<=p.fO
 ·rw [if_pos hpre]
  obtain ⟨h1,h2,h3,h4⟩:=hpre
  obtain ⟨dn,FC⟩:=Int.eq_ofNat_of_zero_le h3
  obtain ⟨en,Iu⟩:=Int.eq_ofNat_of_zero_le h4
  rw [FC,Iu,Int.toNat_natCast,Int.toNat_natCast]
  rw [h1] at cP
  by_cases hdl:dn < (places iF 0 p.aF).length
  ·have TR:=getElem?_eq_getElem hdl
   obtain ⟨sn,Yv,_,hsl⟩:=Jl _ (getElem_mem hdl)
   rw [Nat.zero_add] at hsl
   rw [Yv] at TR
   rw [TR]
   simp only [Int.toNat_natCast]
   have Y8:=getElem?_eq_getElem hsl
   rw [Y8]
   simp only
   have Y5:=hbd _ (getElem_mem hsl)
   have hkd:i64.wrap ((dn:Int)+1)=(dn:Int)+1:=by rw [wrap64]<;>omega
   have hdi:(dn:Int) < ((places iF 0 p.aF).length:Int):=by omega
   unfold LJ
   have c4:=yY p p.aF[sn].body false (by omega) (by omega)
   have hqd:=(EL p p.aF[sn].body false).1.trans FC
   clear hbd Y7 Jl Yv aHy
   generalize places iF 0 p.aF=D at *
   cases hd:p.aF[sn].done
   ·rw [if_neg (by simp)]
    simp only [aM,h2,FC,Iu] at c1 cP cS cD⊢
    refine bR aAc func19 ntmps19 ?_
    have W:=aA hdi (aA TR (aA Y8 hd))
    have V:=aA hdl hsl
    repeat' first|refine we ?_|(refine sq ?_ ?_<;>intro hc<;>try exact hc.elim)|fail
    all_goals try(refine ⟨.inr rfl,?_⟩;simp [aB,results19])
   ·generalize p.aF.all lT=YU at *
    cases YU
    ·rw [if_neg (by simp)]
     simp only [aM,h2,FC,Iu] at c1 cP cS cD⊢
     refine bR aAc func19 ntmps19 ?_
     have W:=aA hdi (aA TR (aA Y8 hd))
     have V:=aA hdl hsl
     repeat' first|refine we ?_|(refine sq ?_ ?_<;>intro hc<;>try exact hc.elim)|fail
     all_goals try(refine ⟨.inr rfl,?_⟩;simp [aB,results19])
    ·rw [if_pos ⟨rfl,rfl⟩]
     by_cases TP:p.aF[sn].code=1
     ·rw [if_pos TP]
      generalize kP p p.aF[sn].body false=q at *
      simp only [aM,h2,FC,Iu,hqd] at c1 cP cS cD c4⊢
      refine bR aAc func19 ntmps19 ?_
      have W:=aA hdi (aA TR (aA Y8 (aA hd (aA TP hkd))))
      have V:=aA hdl hsl
      repeat' first|refine we ?_|(refine sq ?_ ?_<;>intro hc<;>try exact hc.elim)|fail
      all_goals try(refine ⟨.inr rfl,?_⟩;simp [aB,results19])
     ·rw [if_neg TP]
      simp only [aM,h2,FC,Iu] at c1 cP cS cD⊢
      refine bR aAc func19 ntmps19 ?_
      have W:=aA hdi (aA TR (aA Y8 (aA hd (aA TP hkd))))
      have V:=aA hdl hsl
      repeat' first|refine we ?_|(refine sq ?_ ?_<;>intro hc<;>try exact hc.elim)|fail
      all_goals try(refine ⟨.inr rfl,?_⟩;simp [aB,results19])
  ·have TR:(places iF 0 p.aF)[dn]? =none:=getElem?_eq_none (by omega)
   rw [TR]
   simp only
   have hdl:¬(dn:Int) < ((places iF 0 p.aF).length:Int):=by omega
   clear hbd Jl TR
   generalize places iF 0 p.aF=D at *
   by_cases Y9:en < p.entries.length
   ·have ow:=getElem?_eq_getElem Y9
    rw [ow]
    simp only
    have hsa:=Y7 _ (getElem_mem Y9)
    have Ls:(en:Int) < (p.entries.length:Int):=by omega
    have hke:i64.wrap ((en:Int)+1)=(en:Int)+1:=by rw [wrap64]<;>omega
    have cG:=Ia p p.entries[en] hsa
    have c5:=TQ p p.entries[en] hs hsa
    have hqe:=(RD p p.entries[en]).trans Iu
    clear Y7
    unfold LK
    generalize tC p p.entries[en]=gr at *
    cases gr
    ·rw [if_neg (by simp)]
     simp only [aM,aK,h2,FC,Iu] at c1 cP cS cD cG⊢
     refine bR aAc func19 ntmps19 ?_
     have W:=aA hdl (aA Ls (aA ow Y9))
     repeat' first|refine we ?_|(refine sq ?_ ?_<;>intro hc<;>try exact hc.elim)|fail
     all_goals try(refine ⟨.inr rfl,?_⟩;simp [aB,results19])
    ·generalize p.aF.all lT=YU at *
     cases YU
     ·rw [if_neg (by simp)]
      simp only [aM,aK,h2,FC,Iu] at c1 cP cS cD cG⊢
      refine bR aAc func19 ntmps19 ?_
      have W:=aA hdl (aA Ls (aA ow Y9))
      repeat' first|refine we ?_|(refine sq ?_ ?_<;>intro hc<;>try exact hc.elim)|fail
      all_goals try(refine ⟨.inr rfl,?_⟩;simp [aB,results19])
     ·rw [if_pos ⟨rfl,rfl⟩]
      generalize nJ p p.entries[en]=q at *
      simp only [aM,aK,h2,FC,Iu,hqe] at c1 cP cS cD cG c5⊢
      refine bR aAc func19 ntmps19 ?_
      have W:=aA hdl (aA Ls (aA hke (aA ow Y9)))
      repeat' first|refine we ?_|(refine nx ?_;refine sg (hc:=c5) (h:=?_))|(refine sq ?_ ?_<;>intro hc<;>try exact hc.elim)|fail
      all_goals try(refine ⟨.inr rfl,?_⟩;simp [aB,results19])
   ·have ow:p.entries[en]? =none:=getElem?_eq_none (by omega)
    rw [ow]
    simp only
    have Ls:¬(en:Int) < (p.entries.length:Int):=by omega
    clear Y7
    have cO:=Jv p hn1
    have cM:=KW p hn2
    have Xj:p.log.length<=33000000:=by simp only [aL,bP] at hs;omega
    have c5:=BZ p Oq (by omega)
    unfold LM
    simp only [Oq] at c5⊢
    generalize places sI 0 p.aF=O at *
    generalize places sJ 0 p.aX=M at *
    by_cases ho:O.length=0
    ·obtain rfl:=length_eq_zero_iff.1 ho
     by_cases hm:M.length=0
     ·obtain rfl:=length_eq_zero_iff.1 hm
      rw [if_pos ⟨rfl,rfl⟩]
      simp only [aM,h2,FC,Iu] at c1 cP cS cD cO cM c5⊢
      refine bR aAc func19 ntmps19 ?_
      have W:=aA hdl Ls
      repeat' first|refine we ?_|(refine nx ?_;refine sg (hc:=c5) (h:=?_))|(refine sq ?_ ?_<;>intro hc<;>try exact hc.elim)|fail
      all_goals try(refine ⟨.inr rfl,?_⟩;simp [aB,results19])
     ·rw [if_neg (by omega)]
      have hm2:¬M=[]:=fun h=>hm (by rw [h];rfl)
      have hm3:(0:Int) < (M.length:Int):=by omega
      simp only [aM,h2,FC,Iu] at c1 cP cS cD cO cM⊢
      refine bR aAc func19 ntmps19 ?_
      have W:=aA hdl (aA Ls (aA hm2 hm3))
      repeat' first|refine we ?_|(refine sq ?_ ?_<;>intro hc<;>try exact hc.elim)|fail
      all_goals (try exact (hm2 (by assumption)).elim)
      all_goals try(refine ⟨.inr rfl,?_⟩;simp [aB,results19])
    ·rw [if_neg (by omega)]
     have PU:¬O=[]:=fun h=>ho (by rw [h];rfl)
     have ho3:(0:Int) < (O.length:Int):=by omega
     simp only [aM,h2,FC,Iu] at c1 cP cS cD cO cM⊢
     refine bR aAc func19 ntmps19 ?_
     have W:=aA hdl (aA Ls (aA PU ho3))
     repeat' first|refine we ?_|(refine sq ?_ ?_<;>intro hc<;>try exact hc.elim)|fail
     all_goals (try exact (PU (by assumption)).elim)
     all_goals try(refine ⟨.inr rfl,?_⟩;simp [aB,results19])
 ·rw [if_neg hpre]
  clear hbd Y7 Jl
  cases h1:uT p
  ·rw [h1] at cP
   simp only [aM] at c1 cP cS cD⊢
   refine bR aAc func19 ntmps19 ?_
   have W:=trivial
   repeat' first|refine we ?_|(refine sq ?_ ?_<;>intro hc<;>try exact hc.elim)|fail
   all_goals try(refine ⟨.inr rfl,?_⟩;simp [aB,results19])
  ·rw [h1] at cP
   cases h2:p.mP
   ·by_cases h3:p.deferred < 0
    ·simp only [aM,h2] at c1 cP cS cD⊢
     refine bR aAc func19 ntmps19 ?_
     have W:=h3
     repeat' first|refine we ?_|(refine sq ?_ ?_<;>intro hc<;>try exact hc.elim)|fail
     all_goals try(refine ⟨.inr rfl,?_⟩;simp [aB,results19])
    ·have h4:p.fO < 0:=by
      rw [h1,h2] at hpre
      by_cases h4:p.fO < 0
      ·exact h4
      ·exact (hpre ⟨rfl,rfl,by omega,by omega⟩).elim
     simp only [aM,h2] at c1 cP cS cD⊢
     refine bR aAc func19 ntmps19 ?_
     have W:=aA h3 h4
     repeat' first|refine we ?_|(refine sq ?_ ?_<;>intro hc<;>try exact hc.elim)|fail
     all_goals try(refine ⟨.inr rfl,?_⟩;simp [aB,results19])
   ·simp only [aM,h2] at c1 cP cS cD⊢
    refine bR aAc func19 ntmps19 ?_
    have W:=trivial
    repeat' first|refine we ?_|(refine sq ?_ ?_<;>intro hc<;>try exact hc.elim)|fail
    all_goals try(refine ⟨.inr rfl,?_⟩;simp [aB,results19])
def tX:List (Nat×Nat):=[(3,24),(4,25),(5,26),(6,27),(7,28),(8,29),(9,30),(10,31),(11,32),(12,33),(13,34)]
theorem oz {t t':List AV} {o o':List aG} {l1 l2 l3 l4 l5 l6 l7 l8 l9 l10 l11:Bool} {u n1 v1 n2 v2 n3 v3 n4 v4 n5 v5 n6 v6 n7 v7 n8 v8 n9 v9 Tk v10 Tm v11:Nat} {e1 e2 e3 e4 e5 e6 e7 e8 e9 Tn Tp:List (List AV)} {o0 o1 o2 m0 m1 m2 m3 m4 m5 m6 m7 m8:aG} {q:aP} (ho:o=[o0,o1,o2,⟨l1,false,n1,v1,e1⟩,⟨l2,false,n2,v2,e2⟩,⟨l3,false,n3,v3,e3⟩,⟨l4,false,n4,v4,e4⟩,⟨l5,false,n5,v5,e5⟩,⟨l6,false,n6,v6,e6⟩,⟨l7,false,n7,v7,e7⟩,⟨l8,false,n8,v8,e8⟩,⟨l9,false,n9,v9,e9⟩,⟨l10,false,Tk,v10,Tn⟩,⟨l11,false,Tm,v11,Tp⟩,⟨true,true,22,u,[Br 24 q]⟩,m0,m1,m2,m3,m4,m5,m6,m7,m8]++Bq q)
  (ho':o'=[o0,o1,o2]++Bq q++[⟨true,true,22,u,[Br 3 q]⟩,m0,m1,m2,m3,m4,m5,m6,m7,m8]) (ht:∀z∈tX,wk (qI z.1 z.2 t') t') (hf:∀z∈tX,o0.mH z.1 z.2=o0/\o1.mH z.1 z.2=o1/\o2.mH z.1 z.2=o2/\m0.mH z.1 z.2=m0/\m1.mH z.1 z.2=m1/\m2.mH z.1 z.2=m2/\m3.mH z.1 z.2=m3/\m4.mH z.1 z.2=m4/\m5.mH z.1 z.2=m5/\m6.mH z.1 z.2=m6/\m7.mH z.1 z.2=m7/\m8.mH z.1 z.2=m8) (hw:wk t t') (hc:fM 24 t'=true) (hc0:dL 24 [o0,o1,o2,m0,m1,m2,m3,m4,m5,m6,m7,m8]=true):lS ⟨t,o⟩ ⟨t',o'⟩:=by
 subst ho;subst ho'
 have e:=fun i j (h:(i,j)∈tX)=>hf (i,j) h
 have h:=fun i j (h:(i,j)∈tX)=>ht (i,j) h
 simp only [Bq,Br,cons_append,nil_append]
 refine (wZ hw).trans ?_
 refine (bJ 3 24 rfl rfl ⟨rfl,rfl⟩ (by simp [(e 3 24 (by decide))];rfl) (h 3 24 (by decide))).trans ?_
 refine (bJ 4 25 rfl rfl ⟨rfl,rfl⟩ (by simp [(e 4 25 (by decide))];rfl) (h 4 25 (by decide))).trans ?_
 refine (bJ 5 26 rfl rfl ⟨rfl,rfl⟩ (by simp [(e 5 26 (by decide))];rfl) (h 5 26 (by decide))).trans ?_
 refine (bJ 6 27 rfl rfl ⟨rfl,rfl⟩ (by simp [(e 6 27 (by decide))];rfl) (h 6 27 (by decide))).trans ?_
 refine (bJ 7 28 rfl rfl ⟨rfl,rfl⟩ (by simp [(e 7 28 (by decide))];rfl) (h 7 28 (by decide))).trans ?_
 refine (bJ 8 29 rfl rfl ⟨rfl,rfl⟩ (by simp [(e 8 29 (by decide))];rfl) (h 8 29 (by decide))).trans ?_
 refine (bJ 9 30 rfl rfl ⟨rfl,rfl⟩ (by simp [(e 9 30 (by decide))];rfl) (h 9 30 (by decide))).trans ?_
 refine (bJ 10 31 rfl rfl ⟨rfl,rfl⟩ (by simp [(e 10 31 (by decide))];rfl) (h 10 31 (by decide))).trans ?_
 refine (bJ 11 32 rfl rfl ⟨rfl,rfl⟩ (by simp [(e 11 32 (by decide))];rfl) (h 11 32 (by decide))).trans ?_
 refine (bJ 12 33 rfl rfl ⟨rfl,rfl⟩ (by simp [(e 12 33 (by decide))];rfl) (h 12 33 (by decide))).trans ?_
 refine (bJ 13 34 rfl rfl ⟨rfl,rfl⟩ (by simp [(e 13 34 (by decide))];rfl) (h 13 34 (by decide))).trans ?_
 refine aS 24 (by simp) (kK _) hc ?_
 simpa [dL,fM,closed,and_assoc] using hc0
theorem Z0 {t t':List AV} {o o' o1 o2:List aG} {a b c d e:aG} (i1 j1 i2 j2 x:Nat) (h5:o[i1]? =some a) (h14:o[j1]? =some b) (hb:a.box=false/\b.box=false) (e1:((o.set i1 b).set j1 a).map (aG.mH i1 j1)=o1) (h6:o1[i2]? =some c) (h15:o1[j2]? =some d) (hd:c.box=false/\d.box=false) (e2:((o1.set i2 d).set j2 c).map (aG.mH i2 j2)=o2) (ku:o2[x]? =some e) (e3:o2.set x ⟨false,false,0,e.bN,[]⟩=o') (w1:wk (qI i1 j1 t) t') (w2:wk (qI i2 j2 t') t'):lS ⟨t,o⟩ ⟨t',o'⟩:=
 (bJ i1 j1 h5 h14 hb e1 w1).trans ((bJ i2 j2 h6 h15 hd e2 w2).trans (Ru x ku e3 (kK _)))
end Go.Proofs.YtlnblmmohpcceaaGreatDoor
