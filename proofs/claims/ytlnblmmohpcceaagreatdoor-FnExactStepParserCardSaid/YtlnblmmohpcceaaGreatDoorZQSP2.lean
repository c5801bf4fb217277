/- Proved here: steps towards the statement of this claim. No condition. -/
import Derived.Test.YtlnblmmohpcceaaGreatDoorZTKA
set_option linter.all false
set_option maxRecDepth 8000
set_option maxHeartbeats 8000000
namespace Go.Proofs.YtlnblmmohpcceaaGreatDoor
open Go.Aw Proofs.Tryz List IntKind
theorem Ik [aD prog] [fV prog] [eO prog] [qF prog] (p:aP) (hs:aL p<=67108864):Ok prog 23 [.agg (aM .view p)] (.gV [.agg (aM .own (iP p).1),.bool (iP p).2]):=by
 have c1:=iD p (by omega)
 have hsb:aH p.builder<=67108864:=by simp only [aL] at hs;omega
 have hsl:p.aF.length<=67108864:=by simp only [aL,bP] at hs;omega
 have c2:=zF p (by omega)
 have hbd:∀s∈p.aF,s.body.length<=67108864:=fun s hm=>by
  have:=Od gZ hm
  simp only [aL,bP,gZ] at hs this;omega
 unfold iP
 by_cases hin:p.inline=0
 ·rw [if_neg (by simp [hin])]
  by_cases hbk:p.block=0
  ·rw [if_neg (by simp [hbk])]
   have c3:=JI p hs
   generalize gW p=r at *
   obtain ⟨q,b⟩:=r
   simp only [aM,hin,hbk] at c1 c2 c3⊢
   clear hbd
   refine bR aAc func23 ntmps23 ?_
   have W:=aA hin hbk
   repeat' first|refine we ?_|(refine sq ?_ ?_<;>intro hc<;>try exact hc.elim)|fail
   all_goals try(refine ⟨.inr rfl,?_⟩;simp [aB,results23])
  ·rw [if_pos hbk]
   generalize hk:i64.wrap (p.block - 1)=k
   unfold Bo
   by_cases h0:0<=k
   ·rw [if_pos h0]
    obtain ⟨kn,rfl⟩:=Int.eq_ofNat_of_zero_le h0
    rw [Int.toNat_natCast]
    have hk0:¬(kn:Int) < 0:=by omega
    by_cases hlt:kn < p.aF.length
    ·have hg:=getElem?_eq_getElem hlt
     have hlen:¬(p.aF.length:Int)<=(kn:Int):=by omega
     rw [hg]
     simp only
     have Y5:=hbd _ (getElem_mem hlt)
     have hw1:i64.wrap ((p.aF.length:Int) - 1)=(p.aF.length:Int) - 1:=by rw [wrap64]<;>omega
     have c5:=iA (kn:Int) 0 ((p.aF.length:Int) - 1)
     rw [show (decide ((0:Int)<=(kn:Int))&&decide ((kn:Int)<=(p.aF.length:Int) - 1))=true from by simp;omega] at c5
     cases hd:p.aF[kn].done
     ·rw [if_neg (by simp)]
      simp only [aM,hin] at c1 c2⊢
      clear hbd
      refine bR aAc func23 ntmps23 ?_
      have W:=aA hin (aA hbk (aA hk (aA hk0 (aA hlen (aA hg (aA hlt (aA hd hw1)))))))
      repeat' first|refine we ?_|(refine sq ?_ ?_<;>intro hc<;>try exact hc.elim)|fail
      all_goals try(refine ⟨.inr rfl,?_⟩;simp [aB,results23])
     ·generalize p.aF.all lT=YU at *
      cases YU
      ·rw [if_neg (by simp)]
       simp only [aM,hin] at c1 c2⊢
       clear hbd
       refine bR aAc func23 ntmps23 ?_
       have W:=aA hin (aA hbk (aA hk (aA hk0 (aA hlen (aA hg (aA hlt (aA hd hw1)))))))
       repeat' first|refine we ?_|(refine sq ?_ ?_<;>intro hc<;>try exact hc.elim)|fail
       all_goals try(refine ⟨.inr rfl,?_⟩;simp [aB,results23])
      ·rw [if_pos ⟨rfl,rfl⟩]
       by_cases TP:p.aF[kn].code=1
       ·rw [if_pos TP]
        have c4:=yZ p p.aF[kn].body true hs (by omega)
        generalize kP p p.aF[kn].body true=q at *
        simp only [aM,hin] at c1 c2 c4⊢
        clear hbd
        refine bR aAc func23 ntmps23 ?_
        have W:=aA hin (aA hbk (aA hk (aA hk0 (aA hlen (aA hg (aA hlt (aA hd (aA TP hw1))))))))
        repeat' first|refine we ?_|(refine sq ?_ ?_<;>intro hc<;>try exact hc.elim)|fail
        all_goals try(refine ⟨.inr rfl,?_⟩;simp [aB,results23])
       ·rw [if_neg TP]
        simp only [aM,hin] at c1 c2⊢
        clear hbd
        refine bR aAc func23 ntmps23 ?_
        have W:=aA hin (aA hbk (aA hk (aA hk0 (aA hlen (aA hg (aA hlt (aA hd (aA TP hw1))))))))
        repeat' first|refine we ?_|(refine sq ?_ ?_<;>intro hc<;>try exact hc.elim)|fail
        all_goals try(refine ⟨.inr rfl,?_⟩;simp [aB,results23])
    ·have hg:p.aF[kn]? =none:=getElem?_eq_none (by omega)
     have hlen:(p.aF.length:Int)<=(kn:Int):=by omega
     rw [hg]
     simp only
     have hw1:i64.wrap ((p.aF.length:Int) - 1)=(p.aF.length:Int) - 1:=by rw [wrap64]<;>omega
     have c5:=iA (kn:Int) 0 ((p.aF.length:Int) - 1)
     rw [show (decide ((0:Int)<=(kn:Int))&&decide ((kn:Int)<=(p.aF.length:Int) - 1))=false from by simp;omega] at c5
     simp only [aM,hin] at c1 c2⊢
     clear hbd
     refine bR aAc func23 ntmps23 ?_
     have W:=aA hin (aA hbk (aA hk (aA hk0 (aA hlen hw1))))
     repeat' first|refine we ?_|(refine sq ?_ ?_<;>intro hc<;>try exact hc.elim)|fail
     all_goals try(refine ⟨.inr rfl,?_⟩;simp [aB,results23])
   ·rw [if_neg h0]
    have hk0:k < 0:=by omega
    have hw1:i64.wrap ((p.aF.length:Int) - 1)=(p.aF.length:Int) - 1:=by rw [wrap64]<;>omega
    have c5:=iA k 0 ((p.aF.length:Int) - 1)
    rw [show (decide ((0:Int)<=k)&&decide (k<=(p.aF.length:Int) - 1))=false from by simp;omega] at c5
    simp only [aM,hin] at c1 c2⊢
    clear hbd
    refine bR aAc func23 ntmps23 ?_
    have W:=aA hin (aA hbk (aA hk (aA hk0 hw1)))
    repeat' first|refine we ?_|(refine sq ?_ ?_<;>intro hc<;>try exact hc.elim)|fail
    all_goals try(refine ⟨.inr rfl,?_⟩;simp [aB,results23])
 ·rw [if_pos hin]
  generalize p.aF.all lT=YU at *
  cases YU
  ·rw [if_neg (by simp)]
   simp only [aM] at c1 c2⊢
   clear hbd
   refine bR aAc func23 ntmps23 ?_
   have W:=hin
   repeat' first|refine we ?_|(refine sq ?_ ?_<;>intro hc<;>try exact hc.elim)|fail
   all_goals try(refine ⟨.inr rfl,?_⟩;simp [aB,results23])
  ·rw [if_pos rfl]
   have c3:=Qe p.builder p.inline (by omega)
   have htl:=Oc p.builder p.inline
   generalize zH p.builder p.inline=tx at *
   have c4:=yZ p tx true hs (by omega)
   generalize kP p tx true=q at *
   simp only [aM,aN] at c1 c2 c3 c4⊢
   clear hbd
   refine bR aAc func23 ntmps23 ?_
   have W:=hin
   repeat' first|refine we ?_|(refine sq ?_ ?_<;>intro hc<;>try exact hc.elim)|fail
   all_goals try(refine ⟨.inr rfl,?_⟩;simp [aB,results23])
theorem aFm (p:aP) (a:aT) (k:Nat):bP bE (vY p a k)=bP bE p.aX+1+aV a:=by
 have h1:aO bE (p.aX.take k)+aO bE (p.aX.drop k)=aO bE p.aX:=by rw [<-iM,take_append_drop]
 have h2:(p.aX.take k).length+(p.aX.drop k).length=p.aX.length:=by rw [<-length_append,take_append_drop]
 have h3:bE (Cb p a)=aV a:=by unfold Cb;split<;>simp [bE]
 simp only [vY,bP,length_append,length_cons,iM,aO,h3]
 omega
theorem aHx (p:aP) (a:aT):aL (kG p a)<=aL p+aV a+1:=by
 have h:=aFm p a (wR p.aX a)
 unfold kG
 split
 ·split
  ·omega
  ·simp only [aL,h];omega
 ·simp only [aL,h];omega
theorem aAe (p:aP) (md:Int) (tx dg:bC) (nd:Int):aL (fP p md tx dg nd).1<=2 * aL p+tx.length+dg.length+1:=by
 have h:=He tx p.addr.host
 have h2:p.addr.host.length<=aL p:=by simp only [aL,aV];omega
 unfold fP
 split
 ·simp only;omega
 ·split
  ·simp only [aL,bP,length_append,iM,aO,gZ,length_cons,length_nil] at h2⊢
   omega
  ·simp only [aL,bP,length_append,iM,aO,gZ,length_cons,length_nil] at h2⊢
   omega
theorem aH1 (p:aP) (tx:bC):aL (addEntry p tx)<=aL p+2 * (tx.length+p.addr.host.length)+2:=by
 have h1:=Wi tx p.addr.host
 have h2:=aHx p (bQ tx p.addr.host).1
 have h3:=nz p (bQ tx p.addr.host).1
 unfold addEntry
 split
 ·omega
 ·generalize kG p (bQ tx p.addr.host).1=g at *
  simp only [aL,bP,length_append,iM,aO,length_cons,length_nil,<-h3] at h2⊢
  omega
theorem aFs (p:aP) (t:bH) (n:Int):aL (AB p t n)<=2 * aL p+2 * bF t+1:=by
 have z1:=kJ t.attrs dE
 have z2:=kJ t.attrs xP
 have z3:=kJ t.attrs lX
 have zt:aO fI t.attrs<=bF t:=by simp only [bF,bP];omega
 have a2:=aAe p 2 (aQ t.attrs xP).1 (aQ t.attrs dE).1 n
 have a1:=aAe p 1 (aQ t.attrs lX).1 (aQ t.attrs dE).1 n
 unfold AB
 split
 ·omega
 ·split<;>omega
theorem aC9 (p:aP) (k:Nat) (l:List iU):aL (rQ p k l)<=3 * aL p+2 * aO fI l+2:=by
 have z1:=kJ l dE
 have z3:=kJ l lX
 have a4:=aAe p 4 (aQ l lX).1 (aQ l dE).1 ((k:Nat):Int)
 have a3:=aAe p 3 (aQ l lX).1 (aQ l dE).1 ((k:Nat):Int)
 have a5:=aH1 p (aQ l lX).1
 have h2:p.addr.host.length<=aL p:=by simp only [aL,aV];omega
 unfold rQ
 split
 ·split
  ·show aL p<=_;omega
  ·omega
 ·split
  ·omega
  ·split
   ·omega
   ·show aL (fP p 3 (aQ l lX).1 (aQ l dE).1 ((k:Nat):Int)).1<=_
    omega
theorem aDa (p:aP):aL (gW p).1<=6 * aL p+20:=by
 unfold gW
 split
 ·simp only;omega
 ·rename_i t q hq
  split
  ·have h1:=qB hq
   have ht:bF t<=aL p:=by
    have h1:=bU bF (show t∈p.queue by rw [hq];simp)
    simp only [aL,bP];omega
   simp only
   unfold iN
   split
   ·rename_i k hk
    have h2:=aC9 {p with queue:=q,builder:=(addToken p.builder t).1} k ((p.builder.nodes[k]?).elim [] (·.attrs))
    have h3:aO fI ((p.builder.nodes[k]?).elim [] (·.attrs))<=aL p:=by
     cases hg:p.builder.nodes[k]? with
     |none=>simp [aO]
     |some nd=>
      have h4:=bU fU (mem_of_getElem? hg)
      simp only [Option.elim]
      simp only [fU,bP] at h4
      simp only [aL,aH,bP]
      omega
    omega
   ·split
    ·have h2:=aFs {p with queue:=q,builder:=(addToken p.builder t).1} t (addToken p.builder t).2
     omega
    ·omega
  ·simp only;omega
end Go.Proofs.YtlnblmmohpcceaaGreatDoor
