/-
  Proved here: steps towards the statement of this claim, text QSP2.
  No condition beyond what each statement spells out.
-/
import Derived.Test.YtlnblmmohpcceaaGreatDoorQI4
import Derived.Test.YtlnblmmohpcceaaGreatDoorTKA
import Derived.Test.YtlnblmmohpcceaaGreatDoorQI1
import Derived.Test.YtlnblmmohpcceaaGreatDoorQRCB
set_option linter.all false
set_option maxRecDepth 8000
set_option maxHeartbeats 8000000
namespace Go.Proofs.YtlnblmmohpcceaaGreatDoor
open Go.Aw
theorem aG6 [aA Tryz.prog] [dY Tryz.prog] [dG Tryz.prog] [lY Tryz.prog] (p:aJ) (hs:aD p≤67108864):Ok Tryz.prog 23 [.agg (aG .view p)] (.tup [.agg (aG .own (nP p).1),.bool (nP p).2]):=by
 have c1:=iO p (by omega)
 have hsb:aI p.builder≤67108864:=by simp only [aD] at hs;omega
 have hsl:p.slots.length≤67108864:=by simp only [aD,szL] at hs;omega
 have c2:=zF p (by omega)
 have hbd:∀s∈p.slots,s.body.length≤67108864:=fun s hm=>by
  have:=aI6 fG hm
  simp only [aD,szL,fG] at hs this;omega
 unfold nP
 by_cases hin:p.inline=0
 ·rw [if_neg (by simp [hin])]
  by_cases hbk:p.block=0
  ·rw [if_neg (by simp [hbk])]
   have c3:=aIx p hs
   generalize gH p=r at *
   obtain ⟨q,b⟩:=r
   simp only [aG,hin,hbk] at c1 c2 c3⊢
   clear hbd
   refine ent Tryz.mix Tryz.func23 Tryz.ntmps23 ?_
   have W:=And.intro hin hbk
   repeat' first|refine we ?_|(refine sq (fun hc=>?_) (fun hc=>?_)<;>try exact hc.elim)|fail
   all_goals (try (refine ⟨.inr rfl,?_⟩;simp [Hands,Tryz.results23]))
  ·rw [if_pos hbk]
   generalize hk:IntKind.i64.wrap (p.block - 1)=k
   unfold stepBlock
   by_cases h0:0≤k
   ·rw [if_pos h0]
    obtain ⟨kn,rfl⟩:=Int.eq_ofNat_of_zero_le h0
    rw [Int.toNat_natCast]
    have hk0:¬(kn:Int) < 0:=by omega
    by_cases hlt:kn < p.slots.length
    ·have hg:=List.getElem?_eq_getElem hlt
     have hlen:¬(p.slots.length:Int)≤(kn:Int):=by omega
     rw [hg]
     simp only
     have hbody:=hbd _ (List.getElem_mem hlt)
     have hw1:IntKind.i64.wrap ((p.slots.length:Int) - 1)=(p.slots.length:Int) - 1:=by rw [wrap64]<;>omega
     have c5:=gM (kn:Int) 0 ((p.slots.length:Int) - 1)
     rw [show (decide ((0:Int)≤(kn:Int))&&decide ((kn:Int)≤(p.slots.length:Int) - 1))=true from by simp;omega] at c5
     cases hd:p.slots[kn].done
     ·rw [if_neg (by simp)]
      simp only [aG,hin] at c1 c2⊢
      clear hbd
      refine ent Tryz.mix Tryz.func23 Tryz.ntmps23 ?_
      have W:=And.intro hin (And.intro hbk (And.intro hk (And.intro hk0 (And.intro hlen (And.intro hg (And.intro hlt (And.intro hd hw1)))))))
      repeat' first|refine we ?_|(refine sq (fun hc=>?_) (fun hc=>?_)<;>try exact hc.elim)|fail
      all_goals (try (refine ⟨.inr rfl,?_⟩;simp [Hands,Tryz.results23]))
     ·generalize p.slots.all jR=rdy at *
      cases rdy
      ·rw [if_neg (by simp)]
       simp only [aG,hin] at c1 c2⊢
       clear hbd
       refine ent Tryz.mix Tryz.func23 Tryz.ntmps23 ?_
       have W:=And.intro hin (And.intro hbk (And.intro hk (And.intro hk0 (And.intro hlen (And.intro hg (And.intro hlt (And.intro hd hw1)))))))
       repeat' first|refine we ?_|(refine sq (fun hc=>?_) (fun hc=>?_)<;>try exact hc.elim)|fail
       all_goals (try (refine ⟨.inr rfl,?_⟩;simp [Hands,Tryz.results23]))
      ·rw [if_pos ⟨rfl,rfl⟩]
       by_cases hcd:p.slots[kn].code=1
       ·rw [if_pos hcd]
        have c4:=xS p p.slots[kn].body true hs (by omega)
        generalize jQ p p.slots[kn].body true=q at *
        simp only [aG,hin] at c1 c2 c4⊢
        clear hbd
        refine ent Tryz.mix Tryz.func23 Tryz.ntmps23 ?_
        have W:=And.intro hin (And.intro hbk (And.intro hk (And.intro hk0 (And.intro hlen (And.intro hg (And.intro hlt (And.intro hd (And.intro hcd hw1))))))))
        repeat' first|refine we ?_|(refine sq (fun hc=>?_) (fun hc=>?_)<;>try exact hc.elim)|fail
        all_goals (try (refine ⟨.inr rfl,?_⟩;simp [Hands,Tryz.results23]))
       ·rw [if_neg hcd]
        simp only [aG,hin] at c1 c2⊢
        clear hbd
        refine ent Tryz.mix Tryz.func23 Tryz.ntmps23 ?_
        have W:=And.intro hin (And.intro hbk (And.intro hk (And.intro hk0 (And.intro hlen (And.intro hg (And.intro hlt (And.intro hd (And.intro hcd hw1))))))))
        repeat' first|refine we ?_|(refine sq (fun hc=>?_) (fun hc=>?_)<;>try exact hc.elim)|fail
        all_goals (try (refine ⟨.inr rfl,?_⟩;simp [Hands,Tryz.results23]))
    ·have hg:p.slots[kn]? =none:=List.getElem?_eq_none (by omega)
     have hlen:(p.slots.length:Int)≤(kn:Int):=by omega
     rw [hg]
     simp only
     have hw1:IntKind.i64.wrap ((p.slots.length:Int) - 1)=(p.slots.length:Int) - 1:=by rw [wrap64]<;>omega
     have c5:=gM (kn:Int) 0 ((p.slots.length:Int) - 1)
     rw [show (decide ((0:Int)≤(kn:Int))&&decide ((kn:Int)≤(p.slots.length:Int) - 1))=false from by simp;omega] at c5
     simp only [aG,hin] at c1 c2⊢
     clear hbd
     refine ent Tryz.mix Tryz.func23 Tryz.ntmps23 ?_
     have W:=And.intro hin (And.intro hbk (And.intro hk (And.intro hk0 (And.intro hlen hw1))))
     repeat' first|refine we ?_|(refine sq (fun hc=>?_) (fun hc=>?_)<;>try exact hc.elim)|fail
     all_goals (try (refine ⟨.inr rfl,?_⟩;simp [Hands,Tryz.results23]))
   ·rw [if_neg h0]
    have hk0:k < 0:=by omega
    have hw1:IntKind.i64.wrap ((p.slots.length:Int) - 1)=(p.slots.length:Int) - 1:=by rw [wrap64]<;>omega
    have c5:=gM k 0 ((p.slots.length:Int) - 1)
    rw [show (decide ((0:Int)≤k)&&decide (k≤(p.slots.length:Int) - 1))=false from by simp;omega] at c5
    simp only [aG,hin] at c1 c2⊢
    clear hbd
    refine ent Tryz.mix Tryz.func23 Tryz.ntmps23 ?_
    have W:=And.intro hin (And.intro hbk (And.intro hk (And.intro hk0 hw1)))
    repeat' first|refine we ?_|(refine sq (fun hc=>?_) (fun hc=>?_)<;>try exact hc.elim)|fail
    all_goals (try (refine ⟨.inr rfl,?_⟩;simp [Hands,Tryz.results23]))
 ·rw [if_pos hin]
  generalize p.slots.all jR=rdy at *
  cases rdy
  ·rw [if_neg (by simp)]
   simp only [aG] at c1 c2⊢
   clear hbd
   refine ent Tryz.mix Tryz.func23 Tryz.ntmps23 ?_
   have W:=hin
   repeat' first|refine we ?_|(refine sq (fun hc=>?_) (fun hc=>?_)<;>try exact hc.elim)|fail
   all_goals (try (refine ⟨.inr rfl,?_⟩;simp [Hands,Tryz.results23]))
  ·rw [if_pos rfl]
   have c3:=aOy p.builder p.inline (by omega)
   have htl:=aJk p.builder p.inline
   generalize textOf p.builder p.inline=tx at *
   have c4:=xS p tx true hs (by omega)
   generalize jQ p tx true=q at *
   simp only [aG,aL] at c1 c2 c3 c4⊢
   clear hbd
   refine ent Tryz.mix Tryz.func23 Tryz.ntmps23 ?_
   have W:=hin
   repeat' first|refine we ?_|(refine sq (fun hc=>?_) (fun hc=>?_)<;>try exact hc.elim)|fail
   all_goals (try (refine ⟨.inr rfl,?_⟩;simp [Hands,Tryz.results23]))
theorem aXu (p:aJ) (a:aK) (k:Nat):szL aZ (tX p a k)=szL aZ p.mods+1+aR a:=by
 have h1:aC aZ (p.mods.take k)+aC aZ (p.mods.drop k)=aC aZ p.mods:=by rw [←gW,List.take_append_drop]
 have h2:(p.mods.take k).length+(p.mods.drop k).length=p.mods.length:=by rw [←List.length_append,List.take_append_drop]
 have h3:aZ (aA7 p a)=aR a:=by unfold aA7;split<;>simp [aZ]
 simp only [tX,szL,List.length_append,List.length_cons,gW,aC,h3]
 omega
theorem bEy (p:aJ) (a:aK):aD (iQ p a)≤aD p+aR a+1:=by
 have h:=aXu p a (oL p.mods a)
 unfold iQ
 split
 ·split
  ·omega
  ·simp only [aD,h];omega
 ·simp only [aD,h];omega
theorem zP (p:aJ) (md:Int) (tx dg:Str) (nd:Int):aD (fT p md tx dg nd).1≤2 * aD p+tx.length+dg.length+1:=by
 have h:=aAt tx p.addr.host
 have h2:p.addr.host.length≤aD p:=by simp only [aD,aR];omega
 unfold fT
 split
 ·simp only;omega
 ·split
  ·simp only [aD,szL,List.length_append,gW,aC,fG,List.length_cons,List.length_nil] at h2⊢
   omega
  ·simp only [aD,szL,List.length_append,gW,aC,fG,List.length_cons,List.length_nil] at h2⊢
   omega
theorem bE2 (p:aJ) (tx:Str):aD (rO p tx)≤aD p+2 * (tx.length+p.addr.host.length)+2:=by
 have h1:=aI7 tx p.addr.host
 have h2:=bEy p (bI tx p.addr.host).1
 have h3:=aOm p (bI tx p.addr.host).1
 unfold rO
 split
 ·omega
 ·generalize iQ p (bI tx p.addr.host).1=g at *
  simp only [aD,szL,List.length_append,gW,aC,List.length_cons,List.length_nil,←h3] at h2⊢
  omega
theorem aYm (p:aJ) (t:aW) (n:Int):aD (uL p t n)≤2 * aD p+2 * aV t+1:=by
 have z1:=gX t.attrs bW
 have z2:=gX t.attrs pO
 have z3:=gX t.attrs fV
 have zt:aC eQ t.attrs≤aV t:=by simp only [aV,szL];omega
 have a2:=zP p 2 (aN t.attrs pO).1 (aN t.attrs bW).1 n
 have a1:=zP p 1 (aN t.attrs fV).1 (aN t.attrs bW).1 n
 unfold uL
 split
 ·omega
 ·split<;>omega
theorem aSt (p:aJ) (k:Nat) (l:List fA):aD (oU p k l)≤3 * aD p+2 * aC eQ l+2:=by
 have z1:=gX l bW
 have z3:=gX l fV
 have a4:=zP p 4 (aN l fV).1 (aN l bW).1 ((k:Nat):Int)
 have a3:=zP p 3 (aN l fV).1 (aN l bW).1 ((k:Nat):Int)
 have a5:=bE2 p (aN l fV).1
 have h2:p.addr.host.length≤aD p:=by simp only [aD,aR];omega
 unfold oU
 split
 ·split
  ·show aD p≤_;omega
  ·omega
 ·split
  ·omega
  ·split
   ·omega
   ·show aD (fT p 3 (aN l fV).1 (aN l bW).1 ((k:Nat):Int)).1≤_
    omega
theorem aSq (p:aJ):aD (gH p).1≤6 * aD p+20:=by
 unfold gH
 split
 ·simp only;omega
 ·rename_i t q hq
  split
  ·have h1:=nI hq
   have ht:aV t≤aD p:=by
    have h1:=bV aV (show t∈p.queue by rw [hq];simp)
    simp only [aD,szL];omega
   simp only
   unfold gI
   split
   ·rename_i k hk
    have h2:=aSt {p with queue:=q,builder:=(bL p.builder t).1} k ((p.builder.nodes[k]?).elim [] (·.attrs))
    have h3:aC eQ ((p.builder.nodes[k]?).elim [] (·.attrs))≤aD p:=by
     cases hg:p.builder.nodes[k]? with
     |none=>simp [aC]
     |some nd=>
      have h4:=bV dW (List.mem_of_getElem? hg)
      simp only [Option.elim]
      simp only [dW,szL] at h4
      simp only [aD,aI,szL]
      omega
    omega
   ·split
    ·have h2:=aYm {p with queue:=q,builder:=(bL p.builder t).1} t (bL p.builder t).2
     omega
    ·omega
  ·simp only;omega
end Go.Proofs.YtlnblmmohpcceaaGreatDoor
