/-
  Proved here: steps towards the statement of this claim, text QTK9.
  No condition beyond what each statement spells out.
-/
import Derived.Test.YtlnblmmohpcceaaGreatDoorQI4
import Derived.Test.YtlnblmmohpcceaaGreatDoorF8
import Derived.Test.YtlnblmmohpcceaaGreatDoorQRLsc
set_option linter.all false
set_option maxRecDepth 8000
set_option maxHeartbeats 8000000
namespace Go.Proofs.YtlnblmmohpcceaaGreatDoor
open Go.Aw
theorem aEo [aA Tryz.prog] (p:aJ) (hs:aD p≤67108864) (h:p.queue=[]∨p.block≠0∨p.inline≠0):Ok Tryz.prog 117 [.agg (aG .view p)] (.tup [.agg (aG .own p),.bool false]):=by
 have c1:=jZ p (by omega)
 simp only [aG] at c1
 by_cases hl0:p.queue.length=0
 ·refine ent Tryz.mix Tryz.func117 Tryz.ntmps117 ?_
  have W:=hl0
  repeat' first|refine we ?_|(refine sq (fun hc=>?_) (fun hc=>?_)<;>try exact hc.elim)|fail
  all_goals (try (refine ⟨.inr rfl,?_⟩;simp [Hands,Tryz.results117]))
 ·have hq:p.queue≠[]:=fun h=>hl0 (by rw [h];rfl)
  by_cases hb:p.block=0
  ·have hi:¬p.inline=0:=by
    rcases h with h|h|h
    ·exact absurd h hq
    ·exact absurd hb h
    ·exact h
   rw [hb] at c1
   refine ent Tryz.mix Tryz.func117 Tryz.ntmps117 ?_
   have W:=And.intro hl0 (And.intro hb hi)
   repeat' first|refine we ?_|(refine sq (fun hc=>?_) (fun hc=>?_)<;>try exact hc.elim)|fail
   all_goals (try (refine ⟨.inr rfl,?_⟩;simp [Hands,Tryz.results117,hb]))
  ·refine ent Tryz.mix Tryz.func117 Tryz.ntmps117 ?_
   have W:=And.intro hl0 hb
   repeat' first|refine we ?_|(refine sq (fun hc=>?_) (fun hc=>?_)<;>try exact hc.elim)|fail
   all_goals (try (refine ⟨.inr rfl,?_⟩;simp [Hands,Tryz.results117]))
theorem aO0 [aA Tryz.prog] (p:aJ) (t:aW) (q:List aW) (hq:p.queue=t::q) (hb:p.block=0) (hi:p.inline=0) (hs:aD p≤67108864) (hk:¬t.kind=2):Ok Tryz.prog 117 [.agg (aG .view p)] (.tup [.agg (aG .own (gI p t q)),.bool true]):=by
 have hq1:=nI hq
 have hts:aV t≤67108864:=by
  have h1:=bV aV (show t∈p.queue by rw [hq];simp)
  simp only [aD,szL] at hs;omega
 have hbs:aI p.builder≤67108864:=by simp only [aD] at hs;omega
 have hbl:p.builder.nodes.length≤67108864∧p.builder.opens.length≤67108864:=by simp only [aI,szL] at hbs;omega
 have c1:=jZ p (by omega)
 have c2:=oQ p.builder t (by omega) (by omega)
 have c3:=aPx {p with queue:=q,builder:=(bL p.builder t).1} t (bL p.builder t).2 (by omega) (by omega)
 unfold gI
 rw [uK (fun h=>hk h.1)]
 generalize bL p.builder t=u at *
 obtain ⟨⟨n1,o1⟩,k1⟩:=u
 simp only at c2 c3⊢
 obtain ⟨ad,pol,tok,queue,ended,bld,slots,mods,entries,block,inline,deferred,entered,ran,log,loaded⟩:=p
 obtain ⟨tk,tn,ta,tx⟩:=t
 simp only at hq hb hi hbl hk c1 c2 c3⊢
 subst hq;subst hb;subst hi
 simp only [aG,bJ,aL,bZ,aF] at c1
 simp only [aL] at c2
 have hl1:¬(q.length:Int)+1=0:=by omega
 have htq:(q.map (aU .own)).take q.length=q.map (aU .own):=List.take_of_length_le (by simp)
 by_cases h1:tk=1
 ·subst h1
  by_cases h0:0≤k1
  ·rw [if_pos ⟨rfl,h0⟩]
   generalize uL _ _ k1=g at *
   simp only [aG,bJ,aL,bZ,aF,aU] at c3
   refine kH Tryz.mix [4] Tryz.func117 Tryz.ntmps117 ?_
   have W:=And.intro hl1 (And.intro htq (And.intro h0 hbl))
   repeat' first|refine we ?_|(refine sq (fun hc=>?_) (fun hc=>?_)<;>try exact hc.elim)|fail
   refine gB 5 0 (by rfl) (by rfl) (by simp;rfl) ?_
   have W:=And.intro hl1 (And.intro htq (And.intro h0 hbl))
   repeat' first|refine we ?_|(refine nx ?_;refine sg (hc:=c3) (h:=?_))|(refine sq (fun hc=>?_) (fun hc=>?_)<;>try exact hc.elim)|fail
   all_goals (try (refine ⟨.inr rfl,?_⟩;simp [Hands,Tryz.results117]))
  ·rw [if_neg (fun h=>h0 h.2)]
   refine kH Tryz.mix [4] Tryz.func117 Tryz.ntmps117 ?_
   have W:=And.intro hl1 (And.intro htq (And.intro h0 hbl))
   repeat' first|refine we ?_|(refine sq (fun hc=>?_) (fun hc=>?_)<;>try exact hc.elim)|fail
   refine gB 5 0 (by rfl) (by rfl) (by simp;rfl) ?_
   have W:=And.intro hl1 (And.intro htq (And.intro h0 hbl))
   repeat' first|refine we ?_|(refine sq (fun hc=>?_) (fun hc=>?_)<;>try exact hc.elim)|fail
   all_goals (try (refine ⟨.inr rfl,?_⟩;simp [Hands,Tryz.results117]))
 ·rw [if_neg (fun h=>h1 h.1)]
  by_cases h0:0≤k1
  ·skip
   refine kH Tryz.mix [4] Tryz.func117 Tryz.ntmps117 ?_
   have W:=And.intro hl1 (And.intro htq (And.intro h0 (And.intro hk (And.intro h1 hbl))))
   repeat' first|refine we ?_|(refine sq (fun hc=>?_) (fun hc=>?_)<;>try exact hc.elim)|fail
   refine gB 5 0 (by rfl) (by rfl) (by simp;rfl) ?_
   have W:=And.intro hl1 (And.intro htq (And.intro h0 (And.intro hk (And.intro h1 hbl))))
   repeat' first|refine we ?_|(refine sq (fun hc=>?_) (fun hc=>?_)<;>try exact hc.elim)|fail
   all_goals (try (refine ⟨.inr rfl,?_⟩;simp [Hands,Tryz.results117]))
  ·skip
   refine kH Tryz.mix [4] Tryz.func117 Tryz.ntmps117 ?_
   have W:=And.intro hl1 (And.intro htq (And.intro h0 (And.intro hk (And.intro h1 hbl))))
   repeat' first|refine we ?_|(refine sq (fun hc=>?_) (fun hc=>?_)<;>try exact hc.elim)|fail
   refine gB 5 0 (by rfl) (by rfl) (by simp;rfl) ?_
   have W:=And.intro hl1 (And.intro htq (And.intro h0 (And.intro hk (And.intro h1 hbl))))
   repeat' first|refine we ?_|(refine sq (fun hc=>?_) (fun hc=>?_)<;>try exact hc.elim)|fail
   all_goals (try (refine ⟨.inr rfl,?_⟩;simp [Hands,Tryz.results117]))
theorem aL6 [aA Tryz.prog] (p:aJ) (t:aW) (q:List aW) (hq:p.queue=t::q) (hb:p.block=0) (hi:p.inline=0) (hs:aD p≤67108864) (hk:t.kind=2) (hn:¬t.name=eU):Ok Tryz.prog 117 [.agg (aG .view p)] (.tup [.agg (aG .own (gI p t q)),.bool true]):=by
 have hq1:=nI hq
 have hts:aV t≤67108864:=by
  have h1:=bV aV (show t∈p.queue by rw [hq];simp)
  simp only [aD,szL] at hs;omega
 have hbs:aI p.builder≤67108864:=by simp only [aD] at hs;omega
 have hbl:p.builder.nodes.length≤67108864∧p.builder.opens.length≤67108864:=by simp only [aI,szL] at hbs;omega
 have c1:=jZ p (by omega)
 have c2:=oQ p.builder t (by omega) (by omega)
 obtain ⟨hm,_⟩:=lW (b:=p.builder) hk
 unfold gI
 rw [uK (fun h=>hn h.2)]
 rw [hm] at c2⊢
 generalize (bL p.builder t).1=u at *
 obtain ⟨n1,o1⟩:=u
 simp only at c2⊢
 obtain ⟨ad,pol,tok,queue,ended,bld,slots,mods,entries,block,inline,deferred,entered,ran,log,loaded⟩:=p
 obtain ⟨tk,tn,ta,tx⟩:=t
 simp only at hq hb hi hbl hk hn c1 c2⊢
 subst hq;subst hb;subst hi
 subst hk
 have hnb:(tn == [115,99,114,105,112,116])=false:=by simpa [eU] using hn
 rw [if_neg (by rintro ⟨h,_⟩;cases h)]
 simp only [aG,bJ,aL,bZ,aF] at c1
 simp only [aL] at c2
 have hl1:¬(q.length:Int)+1=0:=by omega
 have htq:(q.map (aU .own)).take q.length=q.map (aU .own):=List.take_of_length_le (by simp)
 refine kH Tryz.mix [4] Tryz.func117 Tryz.ntmps117 ?_
 have W:=And.intro hl1 (And.intro htq (And.intro hnb hbl))
 repeat' first|refine we ?_|(refine sq (fun hc=>?_) (fun hc=>?_)<;>try exact hc.elim)|fail
 refine gB 5 0 (by rfl) (by rfl) (by simp;rfl) ?_
 have W:=And.intro hl1 (And.intro htq (And.intro hnb hbl))
 repeat' first|refine we ?_|(refine sq (fun hc=>?_) (fun hc=>?_)<;>try exact hc.elim)|fail
 all_goals (try (refine ⟨.inr rfl,?_⟩;simp [Hands,Tryz.results117]))
theorem aPe [aA Tryz.prog] (p:aJ) (t:aW) (q:List aW) (hq:p.queue=t::q) (hb:p.block=0) (hi:p.inline=0) (hs:aD p≤67108864) (hk:t.kind=2) (hn:t.name=eU) (ho:p.builder.opens=[]):Ok Tryz.prog 117 [.agg (aG .view p)] (.tup [.agg (aG .own (gI p t q)),.bool true]):=by
 have hq1:=nI hq
 have hts:aV t≤67108864:=by
  have h1:=bV aV (show t∈p.queue by rw [hq];simp)
  simp only [aD,szL] at hs;omega
 have hbs:aI p.builder≤67108864:=by simp only [aD] at hs;omega
 have hbl:p.builder.nodes.length≤67108864∧p.builder.opens.length≤67108864:=by simp only [aI,szL] at hbs;omega
 have c1:=jZ p (by omega)
 have c2:=oQ p.builder t (by omega) (by omega)
 obtain ⟨hm,_⟩:=lW (b:=p.builder) hk
 unfold gI
 rw [aEz ho]
 have hl0:p.builder.opens.length=0:=by rw [ho];rfl
 rw [hm] at c2⊢
 generalize (bL p.builder t).1=u at *
 obtain ⟨n1,o1⟩:=u
 simp only at c2⊢
 obtain ⟨ad,pol,tok,queue,ended,bld,slots,mods,entries,block,inline,deferred,entered,ran,log,loaded⟩:=p
 obtain ⟨tk,tn,ta,tx⟩:=t
 simp only at hq hb hi hbl hk hn c1 c2 hl0⊢
 subst hq;subst hb;subst hi
 clear ho
 subst hk
 simp only [eU] at hn
 subst hn
 rw [if_neg (by rintro ⟨h,_⟩;cases h)]
 simp only [aG,bJ,aL,bZ,aF] at c1
 simp only [aL] at c2
 have hl1:¬(q.length:Int)+1=0:=by omega
 have htq:(q.map (aU .own)).take q.length=q.map (aU .own):=List.take_of_length_le (by simp)
 refine kH Tryz.mix [4] Tryz.func117 Tryz.ntmps117 ?_
 have W:=And.intro hl1 (And.intro htq (And.intro hl0 hbl))
 repeat' first|refine we ?_|(refine sq (fun hc=>?_) (fun hc=>?_)<;>try exact hc.elim)|fail
 refine gB 5 0 (by rfl) (by rfl) (by simp;rfl) ?_
 have W:=And.intro hl1 (And.intro htq (And.intro hl0 hbl))
 repeat' first|refine we ?_|(refine sq (fun hc=>?_) (fun hc=>?_)<;>try exact hc.elim)|fail
 all_goals (try (refine ⟨.inr rfl,?_⟩;simp [Hands,Tryz.results117]))
theorem aMe [aA Tryz.prog] (p:aJ) (t:aW) (q:List aW) (hq:p.queue=t::q) (hb:p.block=0) (hi:p.inline=0) (hs:aD p≤67108864) (hk:t.kind=2) (hn:t.name=eU) (os:List Int) (lo:Int) (ho:p.builder.opens=os++[lo]) (hs0:mD p.builder t=none):Ok Tryz.prog 117 [.agg (aG .view p)] (.tup [.agg (aG .own (gI p t q)),.bool true]):=by
 have hq1:=nI hq
 have hts:aV t≤67108864:=by
  have h1:=bV aV (show t∈p.queue by rw [hq];simp)
  simp only [aD,szL] at hs;omega
 have hbs:aI p.builder≤67108864:=by simp only [aD] at hs;omega
 have hbl:p.builder.nodes.length≤67108864∧p.builder.opens.length≤67108864:=by simp only [aI,szL] at hbs;omega
 have c1:=jZ p (by omega)
 have c2:=oQ p.builder t (by omega) (by omega)
 obtain ⟨hm,_⟩:=lW (b:=p.builder) hk
 have hyes:∀(k:Nat) (nd:dA),1≤k→p.builder.opens=os++[((k:Nat):Int)]→p.builder.nodes[k]? =some nd→nd.name=eU→False:=fun k nd h1 h2 h3 h4=>by
  have h5:=wN hk hn h2 h1 h3 h4
  rw [hs0] at h5;cases h5
 unfold gI
 rw [hs0]
 clear hs0
 have hl0:(0:Int) < (p.builder.opens.length:Int):=by rw [ho];simp<;>omega
 have hlt:os.length < p.builder.opens.length:=by rw [ho];simp
 have hg:p.builder.opens[os.length]? =some lo:=by rw [ho];simp
 have hw:IntKind.i64.wrap ((p.builder.opens.length:Int) - 1)=((os.length:Nat):Int):=by
  have e:p.builder.opens.length=os.length+1:=by rw [ho];simp
  rw [wrap64]<;>omega
 rw [hm] at c2⊢
 generalize (bL p.builder t).1=u at *
 obtain ⟨n1,o1⟩:=u
 simp only at c2⊢
 obtain ⟨ad,pol,tok,queue,ended,bld,slots,mods,entries,block,inline,deferred,entered,ran,log,loaded⟩:=p
 obtain ⟨tk,tn,ta,tx⟩:=t
 simp only at hq hb hi hbl hk hn c1 c2 hl0 hlt hg hw ho hyes⊢
 subst hq;subst hb;subst hi
 subst hk
 simp only [eU] at hn
 subst hn
 rw [if_neg (by rintro ⟨h,_⟩;cases h)]
 simp only [aG,bJ,aL,bZ,aF] at c1
 simp only [aL] at c2
 have hl1:¬(q.length:Int)+1=0:=by omega
 have htq:(q.map (aU .own)).take q.length=q.map (aU .own):=List.take_of_length_le (by simp)
 by_cases h1:1≤lo
 ·by_cases h2:lo < (bld.nodes.length:Int)
  ·obtain ⟨k,rfl⟩:=Int.eq_ofNat_of_zero_le (show 0≤lo by omega)
   have hkl:k < bld.nodes.length:=by omega
   have hgk:=List.getElem?_eq_getElem hkl
   have hne:(bld.nodes[k].name == [115,99,114,105,112,116])=false:=by
    cases h:(bld.nodes[k].name == [115,99,114,105,112,116]) with
    |false=>rfl
    |true=>exact (hyes k _ (by omega) ho hgk (by simpa [eU] using h)).elim
   clear hyes ho
   refine kH Tryz.mix [4] Tryz.func117 Tryz.ntmps117 ?_
   have W:=And.intro hl1 (And.intro htq (And.intro hl0 (And.intro hw (And.intro hg (And.intro h1 (And.intro hgk (And.intro hkl (And.intro hne hbl))))))))
   have V:=hlt
   repeat' first|refine we ?_|(refine sq (fun hc=>?_) (fun hc=>?_)<;>try exact hc.elim)|fail
   refine gB 5 0 (by rfl) (by rfl) (by simp;rfl) ?_
   have W:=And.intro hl1 (And.intro htq (And.intro hl0 (And.intro hw (And.intro hg (And.intro h1 (And.intro hgk (And.intro hkl (And.intro hne hbl))))))))
   have V:=hlt
   repeat' first|refine we ?_|(refine sq (fun hc=>?_) (fun hc=>?_)<;>try exact hc.elim)|fail
   all_goals (try (refine ⟨.inr rfl,?_⟩;simp [Hands,Tryz.results117]))
  ·skip
   clear hyes ho
   refine kH Tryz.mix [4] Tryz.func117 Tryz.ntmps117 ?_
   have W:=And.intro hl1 (And.intro htq (And.intro hl0 (And.intro hw (And.intro hg (And.intro h1 (And.intro h2 hbl))))))
   have V:=hlt
   repeat' first|refine we ?_|(refine sq (fun hc=>?_) (fun hc=>?_)<;>try exact hc.elim)|fail
   refine gB 5 0 (by rfl) (by rfl) (by simp;rfl) ?_
   have W:=And.intro hl1 (And.intro htq (And.intro hl0 (And.intro hw (And.intro hg (And.intro h1 (And.intro h2 hbl))))))
   have V:=hlt
   repeat' first|refine we ?_|(refine sq (fun hc=>?_) (fun hc=>?_)<;>try exact hc.elim)|fail
   all_goals (try (refine ⟨.inr rfl,?_⟩;simp [Hands,Tryz.results117]))
 ·skip
  clear hyes ho
  refine kH Tryz.mix [4] Tryz.func117 Tryz.ntmps117 ?_
  have W:=And.intro hl1 (And.intro htq (And.intro hl0 (And.intro hw (And.intro hg (And.intro h1 hbl)))))
  have V:=hlt
  repeat' first|refine we ?_|(refine sq (fun hc=>?_) (fun hc=>?_)<;>try exact hc.elim)|fail
  refine gB 5 0 (by rfl) (by rfl) (by simp;rfl) ?_
  have W:=And.intro hl1 (And.intro htq (And.intro hl0 (And.intro hw (And.intro hg (And.intro h1 hbl)))))
  have V:=hlt
  repeat' first|refine we ?_|(refine sq (fun hc=>?_) (fun hc=>?_)<;>try exact hc.elim)|fail
  all_goals (try (refine ⟨.inr rfl,?_⟩;simp [Hands,Tryz.results117]))
theorem aKj [aA Tryz.prog] (p:aJ) (t:aW) (q:List aW) (hq:p.queue=t::q) (hb:p.block=0) (hi:p.inline=0) (hs:aD p≤67108864) (hk:t.kind=2) (hn:t.name=eU) (os:List Int) (k:Nat) (ho:p.builder.opens=os++[((k:Nat):Int)]) (nd:dA) (hk1:1≤k) (hgk:p.builder.nodes[k]? =some nd) (hns:nd.name=eU):Ok Tryz.prog 117 [.agg (aG .view p)] (.tup [.agg (aG .own (gI p t q)),.bool true]):=by
 have hq1:=nI hq
 have hts:aV t≤67108864:=by
  have h1:=bV aV (show t∈p.queue by rw [hq];simp)
  simp only [aD,szL] at hs;omega
 have hbs:aI p.builder≤67108864:=by simp only [aD] at hs;omega
 have hbl:p.builder.nodes.length≤67108864∧p.builder.opens.length≤67108864:=by simp only [aI,szL] at hbs;omega
 have c1:=jZ p (by omega)
 have c2:=oQ p.builder t (by omega) (by omega)
 obtain ⟨hm,hmn⟩:=lW (b:=p.builder) hk
 have hkl:k < p.builder.nodes.length:=(List.getElem?_eq_some_iff.1 hgk).1
 have c3:=aIj {p with queue:=q,builder:=(bL p.builder t).1} k nd (by simp only [hmn];exact hkl) (by simp only [hmn];exact hgk) (by omega)
 unfold gI
 rw [wN hk hn ho hk1 hgk hns]
 simp only [hgk,Option.elim]
 have hl0:(0:Int) < (p.builder.opens.length:Int):=by rw [ho];simp<;>omega
 have hlt:os.length < p.builder.opens.length:=by rw [ho];simp
 have hg:p.builder.opens[os.length]? =some ((k:Nat):Int):=by rw [ho];simp
 have hw:IntKind.i64.wrap ((p.builder.opens.length:Int) - 1)=((os.length:Nat):Int):=by
  have e:p.builder.opens.length=os.length+1:=by rw [ho];simp
  rw [wrap64]<;>omega
 have hnb:(nd.name == [115,99,114,105,112,116])=true:=by simpa [eU] using hns
 generalize oU _ k nd.attrs=g at *
 rw [hm] at c2
 generalize (bL p.builder t).1=u at *
 obtain ⟨n1,o1⟩:=u
 try simp only at c2
 try simp only at c3
 obtain ⟨ad,pol,tok,queue,ended,bld,slots,mods,entries,block,inline,deferred,entered,ran,log,loaded⟩:=p
 obtain ⟨tk,tn,ta,tx⟩:=t
 simp only at hq hb hi hbl hk hn c1 c2 c3 hl0 hlt hg hw hgk hkl
 subst hq;subst hb;subst hi
 clear ho hns hm hmn
 subst hk
 simp only [eU] at hn
 subst hn
 simp only [aG,bJ,aL,bZ,aF] at c1
 simp only [aL] at c2
 have hl1:¬(q.length:Int)+1=0:=by omega
 have htq:(q.map (aU .own)).take q.length=q.map (aU .own):=List.take_of_length_le (by simp)
 have hk1i:(1:Int)≤((k:Nat):Int):=by omega
 simp only [aG,bJ,aL,bZ,aF] at c3
 have hnb2:(bld.nodes[k].name == [115,99,114,105,112,116])=true:=by
  rw [List.getElem?_eq_getElem hkl] at hgk
  rw [Option.some.inj hgk];exact hnb
 have hlp:0 < bld.opens.length:=by omega
 refine kH Tryz.mix [4] Tryz.func117 Tryz.ntmps117 ?_
 have W:=And.intro hl1 (And.intro htq (And.intro hlp (And.intro hl0 (And.intro hw (And.intro hg (And.intro hk1i (And.intro hkl (And.intro hgk (And.intro hnb2 hbl)))))))))
 have V:=hlt
 repeat' first|refine we ?_|(refine sq (fun hc=>?_) (fun hc=>?_)<;>try exact hc.elim)|fail
 refine gB 5 0 (by rfl) (by rfl) (by simp;rfl) ?_
 have W:=And.intro hl1 (And.intro htq (And.intro hlp (And.intro hl0 (And.intro hw (And.intro hg (And.intro hk1i (And.intro hkl (And.intro hgk (And.intro hnb2 hbl)))))))))
 have V:=hlt
 repeat' first|refine we ?_|(refine nx ?_;refine sg (hc:=c3) (h:=?_))|(refine sq (fun hc=>?_) (fun hc=>?_)<;>try exact hc.elim)|fail
 all_goals (try (refine ⟨.inr rfl,?_⟩;simp [Hands,Tryz.results117]))
theorem aIw [aA Tryz.prog] (p:aJ) (hs:aD p≤67108864):Ok Tryz.prog 117 [.agg (aG .view p)] (.tup [.agg (aG .own (gH p).1),.bool (gH p).2]):=by
 cases hq:p.queue with
 |nil=>
  have e:gH p=(p,false):=by unfold gH;rw [hq]
  rw [e];exact aEo p hs (.inl hq)
 |cons t q=>
  by_cases h:p.block=0∧p.inline=0
  ·have e:gH p=(gI p t q,true):=by unfold gH;rw [hq];simp only;rw [if_pos h]
   rw [e]
   by_cases hk:t.kind=2
   ·by_cases hn:t.name=eU
    ·rcases List.eq_nil_or_concat p.builder.opens with ho|⟨os,lo,ho⟩
     ·exact aPe p t q hq h.1 h.2 hs hk hn ho
     ·cases hsc:mD p.builder t with
      |none=>exact aMe p t q hq h.1 h.2 hs hk hn os lo (by simpa using ho) hsc
      |some k=>
       have hsc2:=hsc
       unfold mD at hsc2
       rw [if_pos ⟨hk,hn⟩,ho] at hsc2
       simp only [List.concat_eq_append,List.getLast?_concat] at hsc2
       split at hsc2
       ·rename_i h3
        obtain ⟨h3,h4⟩:=h3
        obtain rfl:=Option.some.inj hsc2
        cases hgk:p.builder.nodes[lo.toNat]? with
        |none=>rw [hgk] at h4;simp at h4
        |some nd=>
         rw [hgk] at h4
         exact aKj p t q hq h.1 h.2 hs hk hn os lo.toNat (by rw [ho];simp<;>omega) nd (by omega) hgk (by simpa using h4)
       ·cases hsc2
    ·exact aL6 p t q hq h.1 h.2 hs hk hn
   ·exact aO0 p t q hq h.1 h.2 hs hk
  ·have e:gH p=(p,false):=by unfold gH;rw [hq];simp only;rw [if_neg h]
   rw [e];exact aEo p hs (by by_cases h1:p.block=0;exact .inr (.inr fun h2=>h ⟨h1,h2⟩);exact .inr (.inl h1))
theorem aG9 [aA Tryz.prog] [dY Tryz.prog] [dG Tryz.prog] [lY Tryz.prog] (p:aJ) (hs:aD p≤67108864):Ok Tryz.prog 24 [.agg (aG .view p)] (.tup [.agg (aG .own (nP p).1),.bool (nP p).2]):=by
 have c1:=jZ p (by omega)
 have hsb:aI p.builder≤67108864:=by simp only [aD] at hs;omega
 have hsl:p.slots.length≤67108864:=by simp only [aD,szL] at hs;omega
 have c2:=yQ p (by omega)
 have hbd:∀s∈p.slots,s.body.length≤67108864:=fun s hm=>by
  have:=aI6 fG hm
  simp only [aD,szL,fG] at hs this;omega
 unfold nP
 by_cases hin:p.inline=0
 ·rw [if_neg (by simp [hin])]
  by_cases hbk:p.block=0
  ·rw [if_neg (by simp [hbk])]
   have c3:=aIw p hs
   generalize gH p=r at *
   obtain ⟨q,b⟩:=r
   simp only [aG,hin,hbk] at c1 c2 c3⊢
   clear hbd
   refine ent Tryz.mix Tryz.func24 Tryz.ntmps24 ?_
   have W:=And.intro hin hbk
   repeat' first|refine we ?_|(refine sq (fun hc=>?_) (fun hc=>?_)<;>try exact hc.elim)|fail
   all_goals (try (refine ⟨.inr rfl,?_⟩;simp [Hands,Tryz.results24]))
  ·rw [if_pos hbk]
   generalize hk:IntKind.i64.wrap (p.block - 1)=k
   unfold stepBlock
   by_cases h0:0≤k
   ·rw [if_pos h0]
    obtain ⟨kn,rfl⟩:=Int.eq_ofNat_of_zero_le h0
    rw [Int.toNat_natCast]
    have hk0:¬(kn:Int) < 0:=by omega
    by_cases hlt:kn < p.slots.length
    ·have hg:=List.getElem?_eq_getElem hlt
     have hlen:¬(p.slots.length:Int)≤(kn:Int):=by omega
     rw [hg]
     simp only
     have hbody:=hbd _ (List.getElem_mem hlt)
     cases hd:p.slots[kn].done
     ·rw [if_neg (by simp)]
      simp only [aG,hin] at c1 c2⊢
      clear hbd
      refine ent Tryz.mix Tryz.func24 Tryz.ntmps24 ?_
      have W:=And.intro hin (And.intro hbk (And.intro hk (And.intro hk0 (And.intro hlen (And.intro hg (And.intro hlt hd))))))
      repeat' first|refine we ?_|(refine sq (fun hc=>?_) (fun hc=>?_)<;>try exact hc.elim)|fail
      all_goals (try (refine ⟨.inr rfl,?_⟩;simp [Hands,Tryz.results24]))
     ·generalize p.slots.all jR=rdy at *
      cases rdy
      ·rw [if_neg (by simp)]
       simp only [aG,hin] at c1 c2⊢
       clear hbd
       refine ent Tryz.mix Tryz.func24 Tryz.ntmps24 ?_
       have W:=And.intro hin (And.intro hbk (And.intro hk (And.intro hk0 (And.intro hlen (And.intro hg (And.intro hlt hd))))))
       repeat' first|refine we ?_|(refine sq (fun hc=>?_) (fun hc=>?_)<;>try exact hc.elim)|fail
       all_goals (try (refine ⟨.inr rfl,?_⟩;simp [Hands,Tryz.results24]))
      ·rw [if_pos ⟨rfl,rfl⟩]
       by_cases hcd:p.slots[kn].code=1
       ·rw [if_pos hcd]
        have c4:=xP p p.slots[kn].body true hs (by omega)
        generalize jQ p p.slots[kn].body true=q at *
        simp only [aG,hin] at c1 c2 c4⊢
        clear hbd
        refine ent Tryz.mix Tryz.func24 Tryz.ntmps24 ?_
        have W:=And.intro hin (And.intro hbk (And.intro hk (And.intro hk0 (And.intro hlen (And.intro hg (And.intro hlt (And.intro hd hcd)))))))
        repeat' first|refine we ?_|(refine sq (fun hc=>?_) (fun hc=>?_)<;>try exact hc.elim)|fail
        all_goals (try (refine ⟨.inr rfl,?_⟩;simp [Hands,Tryz.results24]))
       ·rw [if_neg hcd]
        simp only [aG,hin] at c1 c2⊢
        clear hbd
        refine ent Tryz.mix Tryz.func24 Tryz.ntmps24 ?_
        have W:=And.intro hin (And.intro hbk (And.intro hk (And.intro hk0 (And.intro hlen (And.intro hg (And.intro hlt (And.intro hd hcd)))))))
        repeat' first|refine we ?_|(refine sq (fun hc=>?_) (fun hc=>?_)<;>try exact hc.elim)|fail
        all_goals (try (refine ⟨.inr rfl,?_⟩;simp [Hands,Tryz.results24]))
    ·have hg:p.slots[kn]? =none:=List.getElem?_eq_none (by omega)
     have hlen:(p.slots.length:Int)≤(kn:Int):=by omega
     rw [hg]
     simp only
     simp only [aG,hin] at c1 c2⊢
     clear hbd
     refine ent Tryz.mix Tryz.func24 Tryz.ntmps24 ?_
     have W:=And.intro hin (And.intro hbk (And.intro hk (And.intro hk0 hlen)))
     repeat' first|refine we ?_|(refine sq (fun hc=>?_) (fun hc=>?_)<;>try exact hc.elim)|fail
     all_goals (try (refine ⟨.inr rfl,?_⟩;simp [Hands,Tryz.results24]))
   ·rw [if_neg h0]
    have hk0:k < 0:=by omega
    simp only [aG,hin] at c1 c2⊢
    clear hbd
    refine ent Tryz.mix Tryz.func24 Tryz.ntmps24 ?_
    have W:=And.intro hin (And.intro hbk (And.intro hk hk0))
    repeat' first|refine we ?_|(refine sq (fun hc=>?_) (fun hc=>?_)<;>try exact hc.elim)|fail
    all_goals (try (refine ⟨.inr rfl,?_⟩;simp [Hands,Tryz.results24]))
 ·rw [if_pos hin]
  generalize p.slots.all jR=rdy at *
  cases rdy
  ·rw [if_neg (by simp)]
   simp only [aG] at c1 c2⊢
   clear hbd
   refine ent Tryz.mix Tryz.func24 Tryz.ntmps24 ?_
   have W:=hin
   repeat' first|refine we ?_|(refine sq (fun hc=>?_) (fun hc=>?_)<;>try exact hc.elim)|fail
   all_goals (try (refine ⟨.inr rfl,?_⟩;simp [Hands,Tryz.results24]))
  ·rw [if_pos rfl]
   have c3:=aOv p.builder p.inline (by omega)
   have htl:=aJk p.builder p.inline
   generalize textOf p.builder p.inline=tx at *
   have c4:=xP p tx true hs (by omega)
   generalize jQ p tx true=q at *
   simp only [aG,aL] at c1 c2 c3 c4⊢
   clear hbd
   refine ent Tryz.mix Tryz.func24 Tryz.ntmps24 ?_
   have W:=hin
   repeat' first|refine we ?_|(refine sq (fun hc=>?_) (fun hc=>?_)<;>try exact hc.elim)|fail
   all_goals (try (refine ⟨.inr rfl,?_⟩;simp [Hands,Tryz.results24]))
end Go.Proofs.YtlnblmmohpcceaaGreatDoor
