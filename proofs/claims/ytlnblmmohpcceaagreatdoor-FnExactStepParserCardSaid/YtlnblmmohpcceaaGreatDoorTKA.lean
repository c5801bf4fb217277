/-
  Proved here: steps towards the statement of this claim, text TKA.
  No condition beyond what each statement spells out.
-/
import Derived.Test.YtlnblmmohpcceaaGreatDoorQI4
import Derived.Test.YtlnblmmohpcceaaGreatDoorF8
import Derived.Test.YtlnblmmohpcceaaGreatDoorQRLsc
set_option linter.all false
set_option maxRecDepth 4000
set_option maxHeartbeats 4000000
namespace Go.Proofs.YtlnblmmohpcceaaGreatDoor
open Go.Aw
theorem aEs [aA Tryz.prog] (p:aJ) (hs:aD p≤67108864) (h:p.queue=[]∨p.block≠0∨p.inline≠0):Ok Tryz.prog 115 [.agg (aG .view p)] (.tup [.agg (aG .own p),.bool false]):=by
 have c1:=iO p (by omega)
 simp only [aG] at c1
 by_cases hl0:p.queue.length=0
 ·refine ent Tryz.mix Tryz.func115 Tryz.ntmps115 ?_
  have W:=hl0
  repeat' first|refine we ?_|(refine sq (fun hc=>?_) (fun hc=>?_)<;>try exact hc.elim)|fail
  all_goals (try (refine ⟨.inr rfl,?_⟩;simp [Hands,Tryz.results115]))
 ·have hq:p.queue≠[]:=fun h=>hl0 (by rw [h];rfl)
  by_cases hb:p.block=0
  ·have hi:¬p.inline=0:=by
    rcases h with h|h|h
    ·exact absurd h hq
    ·exact absurd hb h
    ·exact h
   rw [hb] at c1
   refine ent Tryz.mix Tryz.func115 Tryz.ntmps115 ?_
   have W:=And.intro hl0 (And.intro hb hi)
   repeat' first|refine we ?_|(refine sq (fun hc=>?_) (fun hc=>?_)<;>try exact hc.elim)|fail
   all_goals (try (refine ⟨.inr rfl,?_⟩;simp [Hands,Tryz.results115,hb]))
  ·refine ent Tryz.mix Tryz.func115 Tryz.ntmps115 ?_
   have W:=And.intro hl0 hb
   repeat' first|refine we ?_|(refine sq (fun hc=>?_) (fun hc=>?_)<;>try exact hc.elim)|fail
   all_goals (try (refine ⟨.inr rfl,?_⟩;simp [Hands,Tryz.results115]))
theorem aMz [aA Tryz.prog] (p:aJ) (t:aW) (q:List aW) (hq:p.queue=t::q) (hb:p.block=0) (hi:p.inline=0) (hs:aD p≤67108864) (hk:¬t.kind=2) (ho:p.builder.opens=[]):Ok Tryz.prog 115 [.agg (aG .view p)] (.tup [.agg (aG .own (gI p t q)),.bool true]):=by
 have hq1:=nI hq
 have hts:aV t≤67108864:=by
  have h1:=bV aV (show t∈p.queue by rw [hq];simp)
  simp only [aD,szL] at hs;omega
 have hbs:aI p.builder≤67108864:=by simp only [aD] at hs;omega
 have hbl:p.builder.nodes.length≤67108864∧p.builder.opens.length≤67108864:=by simp only [aI,szL] at hbs;omega
 have c1:=iO p (by omega)
 have c2:=nA p.builder t (by omega) (by omega)
 have c3:=aC6 {p with queue:=q,builder:=(bL p.builder t).1} t (bL p.builder t).2 (by omega) (by omega)
 unfold gI
 rw [uK (fun h=>hk h.1)]
 generalize bL p.builder t=u at *
 obtain ⟨⟨n1,o1⟩,k1⟩:=u
 simp only at c2 c3⊢
 obtain ⟨ad,pol,tok,queue,ended,bld,slots,mods,entries,block,inline,deferred,entered,ran,log,loaded⟩:=p
 obtain ⟨tk,tn,ta,tx⟩:=t
 simp only at hq hb hi hbl hk c1 c2 c3⊢
 subst hq;subst hb;subst hi
 simp only [aG,bJ,aL,bZ,aF] at c1
 simp only [aL] at c2
 have hl1:¬(q.length:Int)+1=0:=by omega
 have htq:(q.map (aU .own)).take q.length=q.map (aU .own):=List.take_of_length_le (by simp)
 simp only at ho
 have hl0:bld.opens.length=0:=by rw [ho];rfl
 clear ho
 by_cases h1:tk=1
 ·subst h1
  by_cases h0:0≤k1
  ·rw [if_pos ⟨rfl,h0⟩]
   generalize uL _ _ k1=g at *
   simp only [aG,bJ,aL,bZ,aF,aU] at c3
   refine kH Tryz.mix [4] Tryz.func115 Tryz.ntmps115 ?_
   have W:=And.intro hl1 (And.intro htq (And.intro hl0 (And.intro h0 hbl)))
   repeat' first|refine we ?_|(refine sq (fun hc=>?_) (fun hc=>?_)<;>try exact hc.elim)|fail
   refine gB 5 0 (by rfl) (by rfl) (by simp;rfl) ?_
   have W:=And.intro hl1 (And.intro htq (And.intro hl0 (And.intro h0 hbl)))
   repeat' first|refine we ?_|(refine nx ?_;refine sg (hc:=c3) (h:=?_))|(refine sq (fun hc=>?_) (fun hc=>?_)<;>try exact hc.elim)|fail
   all_goals (try (refine ⟨.inr rfl,?_⟩;simp [Hands,Tryz.results115]))
  ·rw [if_neg (fun h=>h0 h.2)]
   refine kH Tryz.mix [4] Tryz.func115 Tryz.ntmps115 ?_
   have W:=And.intro hl1 (And.intro htq (And.intro hl0 (And.intro h0 hbl)))
   repeat' first|refine we ?_|(refine sq (fun hc=>?_) (fun hc=>?_)<;>try exact hc.elim)|fail
   refine gB 5 0 (by rfl) (by rfl) (by simp;rfl) ?_
   have W:=And.intro hl1 (And.intro htq (And.intro hl0 (And.intro h0 hbl)))
   repeat' first|refine we ?_|(refine sq (fun hc=>?_) (fun hc=>?_)<;>try exact hc.elim)|fail
   all_goals (try (refine ⟨.inr rfl,?_⟩;simp [Hands,Tryz.results115]))
 ·rw [if_neg (fun h=>h1 h.1)]
  by_cases h0:0≤k1
  ·skip
   refine kH Tryz.mix [4] Tryz.func115 Tryz.ntmps115 ?_
   have W:=And.intro hl1 (And.intro htq (And.intro hl0 (And.intro h0 (And.intro hk (And.intro h1 hbl)))))
   repeat' first|refine we ?_|(refine sq (fun hc=>?_) (fun hc=>?_)<;>try exact hc.elim)|fail
   refine gB 5 0 (by rfl) (by rfl) (by simp;rfl) ?_
   have W:=And.intro hl1 (And.intro htq (And.intro hl0 (And.intro h0 (And.intro hk (And.intro h1 hbl)))))
   repeat' first|refine we ?_|(refine sq (fun hc=>?_) (fun hc=>?_)<;>try exact hc.elim)|fail
   all_goals (try (refine ⟨.inr rfl,?_⟩;simp [Hands,Tryz.results115]))
  ·skip
   refine kH Tryz.mix [4] Tryz.func115 Tryz.ntmps115 ?_
   have W:=And.intro hl1 (And.intro htq (And.intro hl0 (And.intro h0 (And.intro hk (And.intro h1 hbl)))))
   repeat' first|refine we ?_|(refine sq (fun hc=>?_) (fun hc=>?_)<;>try exact hc.elim)|fail
   refine gB 5 0 (by rfl) (by rfl) (by simp;rfl) ?_
   have W:=And.intro hl1 (And.intro htq (And.intro hl0 (And.intro h0 (And.intro hk (And.intro h1 hbl)))))
   repeat' first|refine we ?_|(refine sq (fun hc=>?_) (fun hc=>?_)<;>try exact hc.elim)|fail
   all_goals (try (refine ⟨.inr rfl,?_⟩;simp [Hands,Tryz.results115]))
theorem aLv [aA Tryz.prog] (p:aJ) (t:aW) (q:List aW) (hq:p.queue=t::q) (hb:p.block=0) (hi:p.inline=0) (hs:aD p≤67108864) (hk:¬t.kind=2) (os:List Int) (lo:Int) (ho:p.builder.opens=os++[lo]):Ok Tryz.prog 115 [.agg (aG .view p)] (.tup [.agg (aG .own (gI p t q)),.bool true]):=by
 have hq1:=nI hq
 have hts:aV t≤67108864:=by
  have h1:=bV aV (show t∈p.queue by rw [hq];simp)
  simp only [aD,szL] at hs;omega
 have hbs:aI p.builder≤67108864:=by simp only [aD] at hs;omega
 have hbl:p.builder.nodes.length≤67108864∧p.builder.opens.length≤67108864:=by simp only [aI,szL] at hbs;omega
 have c1:=iO p (by omega)
 have c2:=nA p.builder t (by omega) (by omega)
 have c3:=aC6 {p with queue:=q,builder:=(bL p.builder t).1} t (bL p.builder t).2 (by omega) (by omega)
 unfold gI
 rw [uK (fun h=>hk h.1)]
 generalize bL p.builder t=u at *
 obtain ⟨⟨n1,o1⟩,k1⟩:=u
 simp only at c2 c3⊢
 obtain ⟨ad,pol,tok,queue,ended,bld,slots,mods,entries,block,inline,deferred,entered,ran,log,loaded⟩:=p
 obtain ⟨tk,tn,ta,tx⟩:=t
 simp only at hq hb hi hbl hk c1 c2 c3⊢
 subst hq;subst hb;subst hi
 simp only [aG,bJ,aL,bZ,aF] at c1
 simp only [aL] at c2
 have hl1:¬(q.length:Int)+1=0:=by omega
 have htq:(q.map (aU .own)).take q.length=q.map (aU .own):=List.take_of_length_le (by simp)
 simp only at ho
 have hl0:(0:Int) < (bld.opens.length:Int):=by rw [ho];simp<;>omega
 have hlp:0 < bld.opens.length:=by omega
 have hlt:os.length < bld.opens.length:=by rw [ho];simp
 have hg:bld.opens[os.length]? =some lo:=by rw [ho];simp
 have hw:IntKind.i64.wrap ((bld.opens.length:Int) - 1)=((os.length:Nat):Int):=by
  have e:bld.opens.length=os.length+1:=by rw [ho];simp
  rw [wrap64]<;>omega
 clear ho
 by_cases h1:tk=1
 ·subst h1
  by_cases h0:0≤k1
  ·rw [if_pos ⟨rfl,h0⟩]
   generalize uL _ _ k1=g at *
   simp only [aG,bJ,aL,bZ,aF,aU] at c3
   refine kH Tryz.mix [4] Tryz.func115 Tryz.ntmps115 ?_
   have W:=And.intro hl1 (And.intro htq (And.intro hlp (And.intro hl0 (And.intro hw (And.intro hg (And.intro h0 hbl))))))
   have V:=hlt
   repeat' first|refine we ?_|(refine sq (fun hc=>?_) (fun hc=>?_)<;>try exact hc.elim)|fail
   refine gB 5 0 (by rfl) (by rfl) (by simp;rfl) ?_
   have W:=And.intro hl1 (And.intro htq (And.intro hlp (And.intro hl0 (And.intro hw (And.intro hg (And.intro h0 hbl))))))
   have V:=hlt
   repeat' first|refine we ?_|(refine nx ?_;refine sg (hc:=c3) (h:=?_))|(refine sq (fun hc=>?_) (fun hc=>?_)<;>try exact hc.elim)|fail
   all_goals (try (refine ⟨.inr rfl,?_⟩;simp [Hands,Tryz.results115]))
  ·rw [if_neg (fun h=>h0 h.2)]
   refine kH Tryz.mix [4] Tryz.func115 Tryz.ntmps115 ?_
   have W:=And.intro hl1 (And.intro htq (And.intro hlp (And.intro hl0 (And.intro hw (And.intro hg (And.intro h0 hbl))))))
   have V:=hlt
   repeat' first|refine we ?_|(refine sq (fun hc=>?_) (fun hc=>?_)<;>try exact hc.elim)|fail
   refine gB 5 0 (by rfl) (by rfl) (by simp;rfl) ?_
   have W:=And.intro hl1 (And.intro htq (And.intro hlp (And.intro hl0 (And.intro hw (And.intro hg (And.intro h0 hbl))))))
   have V:=hlt
   repeat' first|refine we ?_|(refine sq (fun hc=>?_) (fun hc=>?_)<;>try exact hc.elim)|fail
   all_goals (try (refine ⟨.inr rfl,?_⟩;simp [Hands,Tryz.results115]))
 ·rw [if_neg (fun h=>h1 h.1)]
  by_cases h0:0≤k1
  ·skip
   refine kH Tryz.mix [4] Tryz.func115 Tryz.ntmps115 ?_
   have W:=And.intro hl1 (And.intro htq (And.intro hlp (And.intro hl0 (And.intro hw (And.intro hg (And.intro h0 (And.intro hk (And.intro h1 hbl))))))))
   have V:=hlt
   repeat' first|refine we ?_|(refine sq (fun hc=>?_) (fun hc=>?_)<;>try exact hc.elim)|fail
   refine gB 5 0 (by rfl) (by rfl) (by simp;rfl) ?_
   have W:=And.intro hl1 (And.intro htq (And.intro hlp (And.intro hl0 (And.intro hw (And.intro hg (And.intro h0 (And.intro hk (And.intro h1 hbl))))))))
   have V:=hlt
   repeat' first|refine we ?_|(refine sq (fun hc=>?_) (fun hc=>?_)<;>try exact hc.elim)|fail
   all_goals (try (refine ⟨.inr rfl,?_⟩;simp [Hands,Tryz.results115]))
  ·skip
   refine kH Tryz.mix [4] Tryz.func115 Tryz.ntmps115 ?_
   have W:=And.intro hl1 (And.intro htq (And.intro hlp (And.intro hl0 (And.intro hw (And.intro hg (And.intro h0 (And.intro hk (And.intro h1 hbl))))))))
   have V:=hlt
   repeat' first|refine we ?_|(refine sq (fun hc=>?_) (fun hc=>?_)<;>try exact hc.elim)|fail
   refine gB 5 0 (by rfl) (by rfl) (by simp;rfl) ?_
   have W:=And.intro hl1 (And.intro htq (And.intro hlp (And.intro hl0 (And.intro hw (And.intro hg (And.intro h0 (And.intro hk (And.intro h1 hbl))))))))
   have V:=hlt
   repeat' first|refine we ?_|(refine sq (fun hc=>?_) (fun hc=>?_)<;>try exact hc.elim)|fail
   all_goals (try (refine ⟨.inr rfl,?_⟩;simp [Hands,Tryz.results115]))
theorem aO5 [aA Tryz.prog] (p:aJ) (t:aW) (q:List aW) (hq:p.queue=t::q) (hb:p.block=0) (hi:p.inline=0) (hs:aD p≤67108864) (hk:¬t.kind=2):Ok Tryz.prog 115 [.agg (aG .view p)] (.tup [.agg (aG .own (gI p t q)),.bool true]):=by
 rcases List.eq_nil_or_concat p.builder.opens with ho|⟨os,lo,ho⟩
 ·exact aMz p t q hq hb hi hs hk ho
 ·exact aLv p t q hq hb hi hs hk os lo (by simpa using ho)
theorem aL3 [aA Tryz.prog] (p:aJ) (t:aW) (q:List aW) (hq:p.queue=t::q) (hb:p.block=0) (hi:p.inline=0) (hs:aD p≤67108864) (hk:t.kind=2) (hn:¬t.name=eU):Ok Tryz.prog 115 [.agg (aG .view p)] (.tup [.agg (aG .own (gI p t q)),.bool true]):=by
 have hq1:=nI hq
 have hts:aV t≤67108864:=by
  have h1:=bV aV (show t∈p.queue by rw [hq];simp)
  simp only [aD,szL] at hs;omega
 have hbs:aI p.builder≤67108864:=by simp only [aD] at hs;omega
 have hbl:p.builder.nodes.length≤67108864∧p.builder.opens.length≤67108864:=by simp only [aI,szL] at hbs;omega
 have c1:=iO p (by omega)
 have c2:=nA p.builder t (by omega) (by omega)
 obtain ⟨hm,_⟩:=lW (b:=p.builder) hk
 unfold gI
 rw [uK (fun h=>hn h.2)]
 rw [hm] at c2⊢
 generalize (bL p.builder t).1=u at *
 obtain ⟨n1,o1⟩:=u
 simp only at c2⊢
 obtain ⟨ad,pol,tok,queue,ended,bld,slots,mods,entries,block,inline,deferred,entered,ran,log,loaded⟩:=p
 obtain ⟨tk,tn,ta,tx⟩:=t
 simp only at hq hb hi hbl hk hn c1 c2⊢
 subst hq;subst hb;subst hi
 subst hk
 have hnb:(tn == [115,99,114,105,112,116])=false:=by simpa [eU] using hn
 rw [if_neg (by rintro ⟨h,_⟩;cases h)]
 simp only [aG,bJ,aL,bZ,aF] at c1
 simp only [aL] at c2
 have hl1:¬(q.length:Int)+1=0:=by omega
 have htq:(q.map (aU .own)).take q.length=q.map (aU .own):=List.take_of_length_le (by simp)
 rcases List.eq_nil_or_concat bld.opens with ho|⟨os,lo,ho⟩
 ·have hl0:bld.opens.length=0:=by rw [ho];rfl
  refine kH Tryz.mix [4] Tryz.func115 Tryz.ntmps115 ?_
  have W:=And.intro hl1 (And.intro htq (And.intro hnb (And.intro hl0 hbl)))
  repeat' first|refine we ?_|(refine sq (fun hc=>?_) (fun hc=>?_)<;>try exact hc.elim)|fail
  refine gB 5 0 (by rfl) (by rfl) (by simp;rfl) ?_
  have W:=And.intro hl1 (And.intro htq (And.intro hnb (And.intro hl0 hbl)))
  repeat' first|refine we ?_|(refine sq (fun hc=>?_) (fun hc=>?_)<;>try exact hc.elim)|fail
  all_goals (try (refine ⟨.inr rfl,?_⟩;simp [Hands,Tryz.results115]))
 ·have hl0:(0:Int) < (bld.opens.length:Int):=by rw [ho];simp<;>omega
  have hlt:os.length < bld.opens.length:=by rw [ho];simp
  have hg:bld.opens[os.length]? =some lo:=by rw [ho];simp
  have hlp:0 < bld.opens.length:=by omega
  have hw:IntKind.i64.wrap ((bld.opens.length:Int) - 1)=((os.length:Nat):Int):=by rw [wrap64]<;>(simp [ho] at hbl⊢;try omega)
  clear ho
  refine kH Tryz.mix [4] Tryz.func115 Tryz.ntmps115 ?_
  have W:=And.intro hl1 (And.intro htq (And.intro hnb (And.intro hlp (And.intro hl0 (And.intro hw (And.intro hg hbl))))))
  have V:=hlt
  repeat' first|refine we ?_|(refine sq (fun hc=>?_) (fun hc=>?_)<;>try exact hc.elim)|fail
  refine gB 5 0 (by rfl) (by rfl) (by simp;rfl) ?_
  have W:=And.intro hl1 (And.intro htq (And.intro hnb (And.intro hlp (And.intro hl0 (And.intro hw (And.intro hg hbl))))))
  have V:=hlt
  repeat' first|refine we ?_|(refine sq (fun hc=>?_) (fun hc=>?_)<;>try exact hc.elim)|fail
  all_goals (try (refine ⟨.inr rfl,?_⟩;simp [Hands,Tryz.results115]))
theorem aPf [aA Tryz.prog] (p:aJ) (t:aW) (q:List aW) (hq:p.queue=t::q) (hb:p.block=0) (hi:p.inline=0) (hs:aD p≤67108864) (hk:t.kind=2) (hn:t.name=eU) (ho:p.builder.opens=[]):Ok Tryz.prog 115 [.agg (aG .view p)] (.tup [.agg (aG .own (gI p t q)),.bool true]):=by
 have hq1:=nI hq
 have hts:aV t≤67108864:=by
  have h1:=bV aV (show t∈p.queue by rw [hq];simp)
  simp only [aD,szL] at hs;omega
 have hbs:aI p.builder≤67108864:=by simp only [aD] at hs;omega
 have hbl:p.builder.nodes.length≤67108864∧p.builder.opens.length≤67108864:=by simp only [aI,szL] at hbs;omega
 have c1:=iO p (by omega)
 have c2:=nA p.builder t (by omega) (by omega)
 obtain ⟨hm,_⟩:=lW (b:=p.builder) hk
 unfold gI
 rw [aEz ho]
 have hl0:p.builder.opens.length=0:=by rw [ho];rfl
 rw [hm] at c2⊢
 generalize (bL p.builder t).1=u at *
 obtain ⟨n1,o1⟩:=u
 simp only at c2⊢
 obtain ⟨ad,pol,tok,queue,ended,bld,slots,mods,entries,block,inline,deferred,entered,ran,log,loaded⟩:=p
 obtain ⟨tk,tn,ta,tx⟩:=t
 simp only at hq hb hi hbl hk hn c1 c2 hl0⊢
 subst hq;subst hb;subst hi
 clear ho
 subst hk
 simp only [eU] at hn
 subst hn
 rw [if_neg (by rintro ⟨h,_⟩;cases h)]
 simp only [aG,bJ,aL,bZ,aF] at c1
 simp only [aL] at c2
 have hl1:¬(q.length:Int)+1=0:=by omega
 have htq:(q.map (aU .own)).take q.length=q.map (aU .own):=List.take_of_length_le (by simp)
 have c4:=gM (-1) 1 ((bld.nodes.length:Int) - 1)
 rw [show (decide ((1:Int)≤ -1)&&decide ((-1:Int)≤(bld.nodes.length:Int) - 1))=false from by simp] at c4
 have hw2:IntKind.i64.wrap ((bld.nodes.length:Int) - 1)=(bld.nodes.length:Int) - 1:=by rw [wrap64]<;>omega
 refine kH Tryz.mix [4] Tryz.func115 Tryz.ntmps115 ?_
 have W:=And.intro hl1 (And.intro htq (And.intro hl0 (And.intro hw2 hbl)))
 repeat' first|refine we ?_|(refine sq (fun hc=>?_) (fun hc=>?_)<;>try exact hc.elim)|fail
 refine gB 5 0 (by rfl) (by rfl) (by simp;rfl) ?_
 have W:=And.intro hl1 (And.intro htq (And.intro hl0 (And.intro hw2 hbl)))
 repeat' first|refine we ?_|(refine sq (fun hc=>?_) (fun hc=>?_)<;>try exact hc.elim)|fail
 all_goals (try (refine ⟨.inr rfl,?_⟩;simp [Hands,Tryz.results115]))
theorem aLs [aA Tryz.prog] (p:aJ) (t:aW) (q:List aW) (hq:p.queue=t::q) (hb:p.block=0) (hi:p.inline=0) (hs:aD p≤67108864) (hk:t.kind=2) (hn:t.name=eU) (os:List Int) (lo:Int) (ho:p.builder.opens=os++[lo]) (hs0:mD p.builder t=none):Ok Tryz.prog 115 [.agg (aG .view p)] (.tup [.agg (aG .own (gI p t q)),.bool true]):=by
 have hq1:=nI hq
 have hts:aV t≤67108864:=by
  have h1:=bV aV (show t∈p.queue by rw [hq];simp)
  simp only [aD,szL] at hs;omega
 have hbs:aI p.builder≤67108864:=by simp only [aD] at hs;omega
 have hbl:p.builder.nodes.length≤67108864∧p.builder.opens.length≤67108864:=by simp only [aI,szL] at hbs;omega
 have c1:=iO p (by omega)
 have c2:=nA p.builder t (by omega) (by omega)
 obtain ⟨hm,_⟩:=lW (b:=p.builder) hk
 have hyes:∀(k:Nat) (nd:dA),1≤k→p.builder.opens=os++[((k:Nat):Int)]→p.builder.nodes[k]? =some nd→nd.name=eU→False:=fun k nd h1 h2 h3 h4=>by
  have h5:=wN hk hn h2 h1 h3 h4
  rw [hs0] at h5;cases h5
 unfold gI
 rw [hs0]
 clear hs0
 have hl0:(0:Int) < (p.builder.opens.length:Int):=by rw [ho];simp<;>omega
 have hlt:os.length < p.builder.opens.length:=by rw [ho];simp
 have hg:p.builder.opens[os.length]? =some lo:=by rw [ho];simp
 have hw:IntKind.i64.wrap ((p.builder.opens.length:Int) - 1)=((os.length:Nat):Int):=by
  have e:p.builder.opens.length=os.length+1:=by rw [ho];simp
  rw [wrap64]<;>omega
 rw [hm] at c2⊢
 generalize (bL p.builder t).1=u at *
 obtain ⟨n1,o1⟩:=u
 simp only at c2⊢
 obtain ⟨ad,pol,tok,queue,ended,bld,slots,mods,entries,block,inline,deferred,entered,ran,log,loaded⟩:=p
 obtain ⟨tk,tn,ta,tx⟩:=t
 simp only at hq hb hi hbl hk hn c1 c2 hl0 hlt hg hw ho hyes⊢
 subst hq;subst hb;subst hi
 subst hk
 simp only [eU] at hn
 subst hn
 rw [if_neg (by rintro ⟨h,_⟩;cases h)]
 simp only [aG,bJ,aL,bZ,aF] at c1
 simp only [aL] at c2
 have hl1:¬(q.length:Int)+1=0:=by omega
 have htq:(q.map (aU .own)).take q.length=q.map (aU .own):=List.take_of_length_le (by simp)
 have hw2:IntKind.i64.wrap ((bld.nodes.length:Int) - 1)=(bld.nodes.length:Int) - 1:=by rw [wrap64]<;>omega
 have c4:=gM lo 1 ((bld.nodes.length:Int) - 1)
 have hlp:0 < bld.opens.length:=by omega
 by_cases h1:1≤lo
 ·by_cases h2:lo < (bld.nodes.length:Int)
  ·rw [show (decide ((1:Int)≤lo)&&decide (lo≤(bld.nodes.length:Int) - 1))=true from by simp;omega] at c4
   obtain ⟨k,rfl⟩:=Int.eq_ofNat_of_zero_le (show 0≤lo by omega)
   have hkl:k < bld.nodes.length:=by omega
   have hgk:=List.getElem?_eq_getElem hkl
   have hne:(bld.nodes[k].name == [115,99,114,105,112,116])=false:=by
    cases h:(bld.nodes[k].name == [115,99,114,105,112,116]) with
    |false=>rfl
    |true=>exact (hyes k _ (by omega) ho hgk (by simpa [eU] using h)).elim
   clear hyes ho
   refine kH Tryz.mix [4] Tryz.func115 Tryz.ntmps115 ?_
   have W:=And.intro hl1 (And.intro htq (And.intro hl0 (And.intro hw (And.intro hg (And.intro h1 (And.intro hgk (And.intro hkl (And.intro hne (And.intro hw2 (And.intro hlp hbl))))))))))
   have V:=hlt
   repeat' first|refine we ?_|(refine sq (fun hc=>?_) (fun hc=>?_)<;>try exact hc.elim)|fail
   refine gB 5 0 (by rfl) (by rfl) (by simp;rfl) ?_
   have W:=And.intro hl1 (And.intro htq (And.intro hl0 (And.intro hw (And.intro hg (And.intro h1 (And.intro hgk (And.intro hkl (And.intro hne (And.intro hw2 (And.intro hlp hbl))))))))))
   have V:=hlt
   repeat' first|refine we ?_|(refine sq (fun hc=>?_) (fun hc=>?_)<;>try exact hc.elim)|fail
   all_goals (try (refine ⟨.inr rfl,?_⟩;simp [Hands,Tryz.results115]))
  ·skip
   clear hyes ho
   rw [show (decide ((1:Int)≤lo)&&decide (lo≤(bld.nodes.length:Int) - 1))=false from by simp;omega] at c4
   refine kH Tryz.mix [4] Tryz.func115 Tryz.ntmps115 ?_
   have W:=And.intro hl1 (And.intro htq (And.intro hl0 (And.intro hw (And.intro hg (And.intro h1 (And.intro h2 (And.intro hw2 (And.intro hlp hbl))))))))
   have V:=hlt
   repeat' first|refine we ?_|(refine sq (fun hc=>?_) (fun hc=>?_)<;>try exact hc.elim)|fail
   refine gB 5 0 (by rfl) (by rfl) (by simp;rfl) ?_
   have W:=And.intro hl1 (And.intro htq (And.intro hl0 (And.intro hw (And.intro hg (And.intro h1 (And.intro h2 (And.intro hw2 (And.intro hlp hbl))))))))
   have V:=hlt
   repeat' first|refine we ?_|(refine sq (fun hc=>?_) (fun hc=>?_)<;>try exact hc.elim)|fail
   all_goals (try (refine ⟨.inr rfl,?_⟩;simp [Hands,Tryz.results115]))
 ·skip
  clear hyes ho
  rw [show (decide ((1:Int)≤lo)&&decide (lo≤(bld.nodes.length:Int) - 1))=false from by simp;omega] at c4
  refine kH Tryz.mix [4] Tryz.func115 Tryz.ntmps115 ?_
  have W:=And.intro hl1 (And.intro htq (And.intro hl0 (And.intro hw (And.intro hg (And.intro h1 (And.intro hw2 (And.intro hlp hbl)))))))
  have V:=hlt
  repeat' first|refine we ?_|(refine sq (fun hc=>?_) (fun hc=>?_)<;>try exact hc.elim)|fail
  refine gB 5 0 (by rfl) (by rfl) (by simp;rfl) ?_
  have W:=And.intro hl1 (And.intro htq (And.intro hl0 (And.intro hw (And.intro hg (And.intro h1 (And.intro hw2 (And.intro hlp hbl)))))))
  have V:=hlt
  repeat' first|refine we ?_|(refine sq (fun hc=>?_) (fun hc=>?_)<;>try exact hc.elim)|fail
  all_goals (try (refine ⟨.inr rfl,?_⟩;simp [Hands,Tryz.results115]))
theorem aLf [aA Tryz.prog] (p:aJ) (t:aW) (q:List aW) (hq:p.queue=t::q) (hb:p.block=0) (hi:p.inline=0) (hs:aD p≤67108864) (hk:t.kind=2) (hn:t.name=eU) (os:List Int) (k:Nat) (ho:p.builder.opens=os++[((k:Nat):Int)]) (nd:dA) (hk1:1≤k) (hgk:p.builder.nodes[k]? =some nd) (hns:nd.name=eU):Ok Tryz.prog 115 [.agg (aG .view p)] (.tup [.agg (aG .own (gI p t q)),.bool true]):=by
 have hq1:=nI hq
 have hts:aV t≤67108864:=by
  have h1:=bV aV (show t∈p.queue by rw [hq];simp)
  simp only [aD,szL] at hs;omega
 have hbs:aI p.builder≤67108864:=by simp only [aD] at hs;omega
 have hbl:p.builder.nodes.length≤67108864∧p.builder.opens.length≤67108864:=by simp only [aI,szL] at hbs;omega
 have c1:=iO p (by omega)
 have c2:=nA p.builder t (by omega) (by omega)
 obtain ⟨hm,hmn⟩:=lW (b:=p.builder) hk
 have hkl:k < p.builder.nodes.length:=(List.getElem?_eq_some_iff.1 hgk).1
 have c3:=aIl {p with queue:=q,builder:=(bL p.builder t).1} k nd (by simp only [hmn];exact hkl) (by simp only [hmn];exact hgk) (by omega)
 unfold gI
 rw [wN hk hn ho hk1 hgk hns]
 simp only [hgk,Option.elim]
 have hl0:(0:Int) < (p.builder.opens.length:Int):=by rw [ho];simp<;>omega
 have hlt:os.length < p.builder.opens.length:=by rw [ho];simp
 have hg:p.builder.opens[os.length]? =some ((k:Nat):Int):=by rw [ho];simp
 have hw:IntKind.i64.wrap ((p.builder.opens.length:Int) - 1)=((os.length:Nat):Int):=by
  have e:p.builder.opens.length=os.length+1:=by rw [ho];simp
  rw [wrap64]<;>omega
 have hnb:(nd.name == [115,99,114,105,112,116])=true:=by simpa [eU] using hns
 generalize oU _ k nd.attrs=g at *
 rw [hm] at c2
 generalize (bL p.builder t).1=u at *
 obtain ⟨n1,o1⟩:=u
 try simp only at c2
 try simp only at c3
 obtain ⟨ad,pol,tok,queue,ended,bld,slots,mods,entries,block,inline,deferred,entered,ran,log,loaded⟩:=p
 obtain ⟨tk,tn,ta,tx⟩:=t
 simp only at hq hb hi hbl hk hn c1 c2 c3 hl0 hlt hg hw hgk hkl
 subst hq;subst hb;subst hi
 clear ho hns hm hmn
 subst hk
 simp only [eU] at hn
 subst hn
 simp only [aG,bJ,aL,bZ,aF] at c1
 simp only [aL] at c2
 have hl1:¬(q.length:Int)+1=0:=by omega
 have htq:(q.map (aU .own)).take q.length=q.map (aU .own):=List.take_of_length_le (by simp)
 have hw2:IntKind.i64.wrap ((bld.nodes.length:Int) - 1)=(bld.nodes.length:Int) - 1:=by rw [wrap64]<;>omega
 have c4:=gM ((k:Nat):Int) 1 ((bld.nodes.length:Int) - 1)
 rw [show (decide ((1:Int)≤((k:Nat):Int))&&decide (((k:Nat):Int)≤(bld.nodes.length:Int) - 1))=true from by simp;omega] at c4
 have hk1i:(1:Int)≤((k:Nat):Int):=by omega
 simp only [aG,bJ,aL,bZ,aF] at c3
 have hnb2:(bld.nodes[k].name == [115,99,114,105,112,116])=true:=by
  rw [List.getElem?_eq_getElem hkl] at hgk
  rw [Option.some.inj hgk];exact hnb
 have hlp:0 < bld.opens.length:=by omega
 refine kH Tryz.mix [4] Tryz.func115 Tryz.ntmps115 ?_
 have W:=And.intro hl1 (And.intro htq (And.intro hlp (And.intro hl0 (And.intro hw (And.intro hg (And.intro hk1i (And.intro hkl (And.intro hgk (And.intro hnb2 (And.intro hw2 (And.intro hlp hbl)))))))))))
 have V:=hlt
 repeat' first|refine we ?_|(refine sq (fun hc=>?_) (fun hc=>?_)<;>try exact hc.elim)|fail
 refine gB 5 0 (by rfl) (by rfl) (by simp;rfl) ?_
 have W:=And.intro hl1 (And.intro htq (And.intro hlp (And.intro hl0 (And.intro hw (And.intro hg (And.intro hk1i (And.intro hkl (And.intro hgk (And.intro hnb2 (And.intro hw2 (And.intro hlp hbl)))))))))))
 have V:=hlt
 repeat' first|refine we ?_|(refine nx ?_;refine sg (hc:=c3) (h:=?_))|(refine sq (fun hc=>?_) (fun hc=>?_)<;>try exact hc.elim)|fail
 all_goals (try (refine ⟨.inr rfl,?_⟩;simp [Hands,Tryz.results115]))
theorem aIx [aA Tryz.prog] (p:aJ) (hs:aD p≤67108864):Ok Tryz.prog 115 [.agg (aG .view p)] (.tup [.agg (aG .own (gH p).1),.bool (gH p).2]):=by
 cases hq:p.queue with
 |nil=>
  have e:gH p=(p,false):=by unfold gH;rw [hq]
  rw [e];exact aEs p hs (.inl hq)
 |cons t q=>
  by_cases h:p.block=0∧p.inline=0
  ·have e:gH p=(gI p t q,true):=by unfold gH;rw [hq];simp only;rw [if_pos h]
   rw [e]
   by_cases hk:t.kind=2
   ·by_cases hn:t.name=eU
    ·rcases List.eq_nil_or_concat p.builder.opens with ho|⟨os,lo,ho⟩
     ·exact aPf p t q hq h.1 h.2 hs hk hn ho
     ·cases hsc:mD p.builder t with
      |none=>exact aLs p t q hq h.1 h.2 hs hk hn os lo (by simpa using ho) hsc
      |some k=>
       have hsc2:=hsc
       unfold mD at hsc2
       rw [if_pos ⟨hk,hn⟩,ho] at hsc2
       simp only [List.concat_eq_append,List.getLast?_concat] at hsc2
       split at hsc2
       ·rename_i h3
        obtain ⟨h3,h4⟩:=h3
        obtain rfl:=Option.some.inj hsc2
        cases hgk:p.builder.nodes[lo.toNat]? with
        |none=>rw [hgk] at h4;simp at h4
        |some nd=>
         rw [hgk] at h4
         exact aLf p t q hq h.1 h.2 hs hk hn os lo.toNat (by rw [ho];simp<;>omega) nd (by omega) hgk (by simpa using h4)
       ·cases hsc2
    ·exact aL3 p t q hq h.1 h.2 hs hk hn
   ·exact aO5 p t q hq h.1 h.2 hs hk
  ·have e:gH p=(p,false):=by unfold gH;rw [hq];simp only;rw [if_neg h]
   rw [e];exact aEs p hs (by by_cases h1:p.block=0;exact .inr (.inr fun h2=>h ⟨h1,h2⟩);exact .inr (.inl h1))
end Go.Proofs.YtlnblmmohpcceaaGreatDoor
