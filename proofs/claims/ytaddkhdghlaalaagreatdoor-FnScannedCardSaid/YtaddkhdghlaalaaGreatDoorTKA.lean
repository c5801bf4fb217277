/-
  Proved here: steps towards the statement of this claim, text TKA.
  No condition beyond what each statement spells out.
-/
import Derived.Test.YtaddkhdghlaalaaGreatDoorQTK7
import Derived.Test.YtaddkhdghlaalaaGreatDoorF8
import Derived.Test.YtaddkhdghlaalaaGreatDoorQRLsd
set_option linter.all false
set_option maxRecDepth 4000
set_option maxHeartbeats 4000000
namespace Go.Proofs.YtaddkhdghlaalaaGreatDoor
open Go.Aw
theorem aFe [aB Tryz.prog] (p:aC) (hs:aJ p≤67108864) (h:p.queue=[]∨p.block≠0∨p.inline≠0):Ok Tryz.prog 143 [.agg (aG .view p)] (.tup [.agg (aG .own p),.bool false]):=by
 have c1:=fH p (by omega)
 simp only [aG] at c1
 by_cases hl0:p.queue.length=0
 ·refine ent Tryz.mix Tryz.func143 Tryz.ntmps143 ?_
  have W:=hl0
  refine we ?_
  exact aM Tryz.results143
 ·have hq:p.queue≠[]:=fun h=>hl0 (by rw [h];rfl)
  by_cases hb:p.block=0
  ·have hi:¬p.inline=0:=by
    rcases h with h|h|h
    ·exact absurd h hq
    ·exact absurd hb h
    ·exact h
   rw [hb] at c1
   refine ent Tryz.mix Tryz.func143 Tryz.ntmps143 ?_
   have W:=And.intro hl0 (And.intro hb hi)
   refine we ?_
   all_goals (try (refine ⟨.inr rfl,?_⟩;simp [Hands,Tryz.results143,hb]))
  ·refine ent Tryz.mix Tryz.func143 Tryz.ntmps143 ?_
   have W:=And.intro hl0 hb
   refine we ?_
   exact aM Tryz.results143
theorem aM3 [aB Tryz.prog] (p:aC) (t:bE) (q:List bE) (hq:p.queue=t::q) (hb:p.block=0) (hi:p.inline=0) (hs:aJ p≤67108864) (hk:¬t.kind=2) (ho:p.builder.opens=[]):Ok Tryz.prog 143 [.agg (aG .view p)] (.tup [.agg (aG .own (lZ p t q)),.bool true]):=by
 have hq1:=vX hq
 have hts:bN t≤67108864:=by
  have h1:=dL bN (show t∈p.queue by rw [hq];simp)
  simp only [aJ,szL] at hs;omega
 have hbs:aU p.builder≤67108864:=by simp only [aJ] at hs;omega
 have hbl:p.builder.nodes.length≤67108864∧p.builder.opens.length≤67108864:=by simp only [aU,szL] at hbs;omega
 have c1:=fH p (by omega)
 have c2:=nY p.builder t (by omega) (by omega)
 have c3:=aD0 {p with queue:=q,builder:=(dD p.builder t).1} t (dD p.builder t).2 (by omega) (by omega)
 unfold lZ
 rw [aCz (fun h=>hk h.1)]
 generalize dD p.builder t=u at *
 obtain ⟨⟨n1,o1⟩,k1⟩:=u
 simp only at c2 c3⊢
 obtain ⟨ad,pol,tok,queue,ended,bld,slots,mods,entries,block,inline,deferred,entered,ran,log,loaded⟩:=p
 obtain ⟨tk,tn,ta,tx⟩:=t
 simp only at hq hb hi hbl hk c1 c2 c3⊢
 subst hq;subst hb;subst hi
 simp only [aG,bY,aZ,fI,aF] at c1
 simp only [aZ] at c2
 have hl1:¬(q.length:Int)+1=0:=by omega
 have htq:(q.map (bL .own)).take q.length=q.map (bL .own):=List.take_of_length_le (by simp)
 simp only at ho
 have hl0:bld.opens.length=0:=by rw [ho];rfl
 clear ho
 by_cases h1:tk=1
 ·subst h1
  by_cases h0:0≤k1
  ·rw [if_pos ⟨rfl,h0⟩]
   generalize xQ _ _ k1=g at *
   simp only [aG,bY,aZ,fI,aF,bL] at c3
   refine rJ Tryz.mix [4] Tryz.func143 Tryz.ntmps143 ?_
   have W:=And.intro hl1 (And.intro htq (And.intro hl0 (And.intro h0 hbl)))
   refine we ?_
   refine lT 5 0 (by rfl) (by rfl) (by simp;rfl) ?_
   have W:=And.intro hl1 (And.intro htq (And.intro hl0 (And.intro h0 hbl)))
   repeat' first|refine st ?_|(refine nx ?_;first|refine se ?_|refine so ?_|refine sg (hc:=c3) (h:=?_))|(refine cx ?_;first|refine sT ?_|refine sF ?_)|fail
   exact aM Tryz.results143
  ·rw [if_neg (fun h=>h0 h.2)]
   refine rJ Tryz.mix [4] Tryz.func143 Tryz.ntmps143 ?_
   have W:=And.intro hl1 (And.intro htq (And.intro hl0 (And.intro h0 hbl)))
   refine we ?_
   refine lT 5 0 (by rfl) (by rfl) (by simp;rfl) ?_
   have W:=And.intro hl1 (And.intro htq (And.intro hl0 (And.intro h0 hbl)))
   refine we ?_
   exact aM Tryz.results143
 ·rw [if_neg (fun h=>h1 h.1)]
  by_cases h0:0≤k1
  ·skip
   refine rJ Tryz.mix [4] Tryz.func143 Tryz.ntmps143 ?_
   have W:=And.intro hl1 (And.intro htq (And.intro hl0 (And.intro h0 (And.intro hk (And.intro h1 hbl)))))
   refine we ?_
   refine lT 5 0 (by rfl) (by rfl) (by simp;rfl) ?_
   have W:=And.intro hl1 (And.intro htq (And.intro hl0 (And.intro h0 (And.intro hk (And.intro h1 hbl)))))
   refine we ?_
   exact aM Tryz.results143
  ·skip
   refine rJ Tryz.mix [4] Tryz.func143 Tryz.ntmps143 ?_
   have W:=And.intro hl1 (And.intro htq (And.intro hl0 (And.intro h0 (And.intro hk (And.intro h1 hbl)))))
   refine we ?_
   refine lT 5 0 (by rfl) (by rfl) (by simp;rfl) ?_
   have W:=And.intro hl1 (And.intro htq (And.intro hl0 (And.intro h0 (And.intro hk (And.intro h1 hbl)))))
   refine we ?_
   exact aM Tryz.results143
theorem aM7 [aB Tryz.prog] (p:aC) (t:bE) (q:List bE) (hq:p.queue=t::q) (hb:p.block=0) (hi:p.inline=0) (hs:aJ p≤67108864) (hk:¬t.kind=2) (os:List Int) (lo:Int) (ho:p.builder.opens=os++[lo]):Ok Tryz.prog 143 [.agg (aG .view p)] (.tup [.agg (aG .own (lZ p t q)),.bool true]):=by
 have hq1:=vX hq
 have hts:bN t≤67108864:=by
  have h1:=dL bN (show t∈p.queue by rw [hq];simp)
  simp only [aJ,szL] at hs;omega
 have hbs:aU p.builder≤67108864:=by simp only [aJ] at hs;omega
 have hbl:p.builder.nodes.length≤67108864∧p.builder.opens.length≤67108864:=by simp only [aU,szL] at hbs;omega
 have c1:=fH p (by omega)
 have c2:=nY p.builder t (by omega) (by omega)
 have c3:=aD0 {p with queue:=q,builder:=(dD p.builder t).1} t (dD p.builder t).2 (by omega) (by omega)
 unfold lZ
 rw [aCz (fun h=>hk h.1)]
 generalize dD p.builder t=u at *
 obtain ⟨⟨n1,o1⟩,k1⟩:=u
 simp only at c2 c3⊢
 obtain ⟨ad,pol,tok,queue,ended,bld,slots,mods,entries,block,inline,deferred,entered,ran,log,loaded⟩:=p
 obtain ⟨tk,tn,ta,tx⟩:=t
 simp only at hq hb hi hbl hk c1 c2 c3⊢
 subst hq;subst hb;subst hi
 simp only [aG,bY,aZ,fI,aF] at c1
 simp only [aZ] at c2
 have hl1:¬(q.length:Int)+1=0:=by omega
 have htq:(q.map (bL .own)).take q.length=q.map (bL .own):=List.take_of_length_le (by simp)
 simp only at ho
 have hl0:(0:Int) < (bld.opens.length:Int):=by rw [ho];simp<;>omega
 have hlp:0 < bld.opens.length:=by omega
 have hlt:os.length < bld.opens.length:=by rw [ho];simp
 have hg:bld.opens[os.length]? =some lo:=by rw [ho];simp
 have hw:IntKind.i64.wrap ((bld.opens.length:Int) - 1)=((os.length:Nat):Int):=by
  have e:bld.opens.length=os.length+1:=by rw [ho];simp
  rw [wrap64]<;>omega
 clear ho
 by_cases h1:tk=1
 ·subst h1
  by_cases h0:0≤k1
  ·rw [if_pos ⟨rfl,h0⟩]
   generalize xQ _ _ k1=g at *
   simp only [aG,bY,aZ,fI,aF,bL] at c3
   refine rJ Tryz.mix [4] Tryz.func143 Tryz.ntmps143 ?_
   have W:=And.intro hl1 (And.intro htq (And.intro hlp (And.intro hl0 (And.intro hw (And.intro hg (And.intro h0 hbl))))))
   have V:=hlt
   repeat' first|refine st ?_|(refine nx ?_;first|refine se ?_|refine so ?_)|(refine cx ?_;first|refine sT ?_|refine sF ?_)|fail
   refine lT 5 0 (by rfl) (by rfl) (by simp;rfl) ?_
   have W:=And.intro hl1 (And.intro htq (And.intro hlp (And.intro hl0 (And.intro hw (And.intro hg (And.intro h0 hbl))))))
   have V:=hlt
   repeat' first|refine st ?_|(refine nx ?_;first|refine se ?_|refine so ?_|refine sg (hc:=c3) (h:=?_))|(refine cx ?_;first|refine sT ?_|refine sF ?_)|fail
   exact aM Tryz.results143
  ·rw [if_neg (fun h=>h0 h.2)]
   refine rJ Tryz.mix [4] Tryz.func143 Tryz.ntmps143 ?_
   have W:=And.intro hl1 (And.intro htq (And.intro hlp (And.intro hl0 (And.intro hw (And.intro hg (And.intro h0 hbl))))))
   have V:=hlt
   repeat' first|refine st ?_|(refine nx ?_;first|refine se ?_|refine so ?_)|(refine cx ?_;first|refine sT ?_|refine sF ?_)|fail
   refine lT 5 0 (by rfl) (by rfl) (by simp;rfl) ?_
   have W:=And.intro hl1 (And.intro htq (And.intro hlp (And.intro hl0 (And.intro hw (And.intro hg (And.intro h0 hbl))))))
   have V:=hlt
   repeat' first|refine st ?_|(refine nx ?_;first|refine se ?_|refine so ?_)|(refine cx ?_;first|refine sT ?_|refine sF ?_)|fail
   exact aM Tryz.results143
 ·rw [if_neg (fun h=>h1 h.1)]
  by_cases h0:0≤k1
  ·skip
   refine rJ Tryz.mix [4] Tryz.func143 Tryz.ntmps143 ?_
   have W:=And.intro hl1 (And.intro htq (And.intro hlp (And.intro hl0 (And.intro hw (And.intro hg (And.intro h0 (And.intro hk (And.intro h1 hbl))))))))
   have V:=hlt
   repeat' first|refine st ?_|(refine nx ?_;first|refine se ?_|refine so ?_)|(refine cx ?_;first|refine sT ?_|refine sF ?_)|fail
   refine lT 5 0 (by rfl) (by rfl) (by simp;rfl) ?_
   have W:=And.intro hl1 (And.intro htq (And.intro hlp (And.intro hl0 (And.intro hw (And.intro hg (And.intro h0 (And.intro hk (And.intro h1 hbl))))))))
   have V:=hlt
   repeat' first|refine st ?_|(refine nx ?_;first|refine se ?_|refine so ?_)|(refine cx ?_;first|refine sT ?_|refine sF ?_)|fail
   exact aM Tryz.results143
  ·skip
   refine rJ Tryz.mix [4] Tryz.func143 Tryz.ntmps143 ?_
   have W:=And.intro hl1 (And.intro htq (And.intro hlp (And.intro hl0 (And.intro hw (And.intro hg (And.intro h0 (And.intro hk (And.intro h1 hbl))))))))
   have V:=hlt
   repeat' first|refine st ?_|(refine nx ?_;first|refine se ?_|refine so ?_)|(refine cx ?_;first|refine sT ?_|refine sF ?_)|fail
   refine lT 5 0 (by rfl) (by rfl) (by simp;rfl) ?_
   have W:=And.intro hl1 (And.intro htq (And.intro hlp (And.intro hl0 (And.intro hw (And.intro hg (And.intro h0 (And.intro hk (And.intro h1 hbl))))))))
   have V:=hlt
   repeat' first|refine st ?_|(refine nx ?_;first|refine se ?_|refine so ?_)|(refine cx ?_;first|refine sT ?_|refine sF ?_)|fail
   exact aM Tryz.results143
theorem aO6 [aB Tryz.prog] (p:aC) (t:bE) (q:List bE) (hq:p.queue=t::q) (hb:p.block=0) (hi:p.inline=0) (hs:aJ p≤67108864) (hk:¬t.kind=2):Ok Tryz.prog 143 [.agg (aG .view p)] (.tup [.agg (aG .own (lZ p t q)),.bool true]):=by
 rcases List.eq_nil_or_concat p.builder.opens with ho|⟨os,lo,ho⟩
 ·exact aM3 p t q hq hb hi hs hk ho
 ·exact aM7 p t q hq hb hi hs hk os lo (by simpa using ho)
theorem aMn [aB Tryz.prog] (p:aC) (t:bE) (q:List bE) (hq:p.queue=t::q) (hb:p.block=0) (hi:p.inline=0) (hs:aJ p≤67108864) (hk:t.kind=2) (hn:¬t.name=jN):Ok Tryz.prog 143 [.agg (aG .view p)] (.tup [.agg (aG .own (lZ p t q)),.bool true]):=by
 have hq1:=vX hq
 have hts:bN t≤67108864:=by
  have h1:=dL bN (show t∈p.queue by rw [hq];simp)
  simp only [aJ,szL] at hs;omega
 have hbs:aU p.builder≤67108864:=by simp only [aJ] at hs;omega
 have hbl:p.builder.nodes.length≤67108864∧p.builder.opens.length≤67108864:=by simp only [aU,szL] at hbs;omega
 have c1:=fH p (by omega)
 have c2:=nY p.builder t (by omega) (by omega)
 obtain ⟨hm,_⟩:=vU (b:=p.builder) hk
 unfold lZ
 rw [aCz (fun h=>hn h.2)]
 rw [hm] at c2⊢
 generalize (dD p.builder t).1=u at *
 obtain ⟨n1,o1⟩:=u
 simp only at c2⊢
 obtain ⟨ad,pol,tok,queue,ended,bld,slots,mods,entries,block,inline,deferred,entered,ran,log,loaded⟩:=p
 obtain ⟨tk,tn,ta,tx⟩:=t
 simp only at hq hb hi hbl hk hn c1 c2⊢
 subst hq;subst hb;subst hi
 subst hk
 have hnb:(tn == [115,99,114,105,112,116])=false:=by simpa [jN] using hn
 rw [if_neg (by rintro ⟨h,_⟩;cases h)]
 simp only [aG,bY,aZ,fI,aF] at c1
 simp only [aZ] at c2
 have hl1:¬(q.length:Int)+1=0:=by omega
 have htq:(q.map (bL .own)).take q.length=q.map (bL .own):=List.take_of_length_le (by simp)
 rcases List.eq_nil_or_concat bld.opens with ho|⟨os,lo,ho⟩
 ·have hl0:bld.opens.length=0:=by rw [ho];rfl
  refine rJ Tryz.mix [4] Tryz.func143 Tryz.ntmps143 ?_
  have W:=And.intro hl1 (And.intro htq (And.intro hnb (And.intro hl0 hbl)))
  refine we ?_
  refine lT 5 0 (by rfl) (by rfl) (by simp;rfl) ?_
  have W:=And.intro hl1 (And.intro htq (And.intro hnb (And.intro hl0 hbl)))
  refine we ?_
  exact aM Tryz.results143
 ·have hl0:(0:Int) < (bld.opens.length:Int):=by rw [ho];simp<;>omega
  have hlt:os.length < bld.opens.length:=by rw [ho];simp
  have hg:bld.opens[os.length]? =some lo:=by rw [ho];simp
  have hlp:0 < bld.opens.length:=by omega
  have hw:IntKind.i64.wrap ((bld.opens.length:Int) - 1)=((os.length:Nat):Int):=by rw [wrap64]<;>(simp [ho] at hbl⊢;try omega)
  clear ho
  refine rJ Tryz.mix [4] Tryz.func143 Tryz.ntmps143 ?_
  have W:=And.intro hl1 (And.intro htq (And.intro hnb (And.intro hlp (And.intro hl0 (And.intro hw (And.intro hg hbl))))))
  have V:=hlt
  repeat' first|refine st ?_|(refine nx ?_;first|refine se ?_|refine so ?_)|(refine cx ?_;first|refine sT ?_|refine sF ?_)|fail
  refine lT 5 0 (by rfl) (by rfl) (by simp;rfl) ?_
  have W:=And.intro hl1 (And.intro htq (And.intro hnb (And.intro hlp (And.intro hl0 (And.intro hw (And.intro hg hbl))))))
  have V:=hlt
  repeat' first|refine st ?_|(refine nx ?_;first|refine se ?_|refine so ?_)|(refine cx ?_;first|refine sT ?_|refine sF ?_)|fail
  exact aM Tryz.results143
theorem aPw [aB Tryz.prog] (p:aC) (t:bE) (q:List bE) (hq:p.queue=t::q) (hb:p.block=0) (hi:p.inline=0) (hs:aJ p≤67108864) (hk:t.kind=2) (hn:t.name=jN) (ho:p.builder.opens=[]):Ok Tryz.prog 143 [.agg (aG .view p)] (.tup [.agg (aG .own (lZ p t q)),.bool true]):=by
 have hq1:=vX hq
 have hts:bN t≤67108864:=by
  have h1:=dL bN (show t∈p.queue by rw [hq];simp)
  simp only [aJ,szL] at hs;omega
 have hbs:aU p.builder≤67108864:=by simp only [aJ] at hs;omega
 have hbl:p.builder.nodes.length≤67108864∧p.builder.opens.length≤67108864:=by simp only [aU,szL] at hbs;omega
 have c1:=fH p (by omega)
 have c2:=nY p.builder t (by omega) (by omega)
 obtain ⟨hm,_⟩:=vU (b:=p.builder) hk
 unfold lZ
 rw [aSl ho]
 have hl0:p.builder.opens.length=0:=by rw [ho];rfl
 rw [hm] at c2⊢
 generalize (dD p.builder t).1=u at *
 obtain ⟨n1,o1⟩:=u
 simp only at c2⊢
 obtain ⟨ad,pol,tok,queue,ended,bld,slots,mods,entries,block,inline,deferred,entered,ran,log,loaded⟩:=p
 obtain ⟨tk,tn,ta,tx⟩:=t
 simp only at hq hb hi hbl hk hn c1 c2 hl0⊢
 subst hq;subst hb;subst hi
 clear ho
 subst hk
 simp only [jN] at hn
 subst hn
 rw [if_neg (by rintro ⟨h,_⟩;cases h)]
 simp only [aG,bY,aZ,fI,aF] at c1
 simp only [aZ] at c2
 have hl1:¬(q.length:Int)+1=0:=by omega
 have htq:(q.map (bL .own)).take q.length=q.map (bL .own):=List.take_of_length_le (by simp)
 have c4:=eQ (-1) 1 ((bld.nodes.length:Int) - 1)
 rw [show (decide ((1:Int)≤ -1)&&decide ((-1:Int)≤(bld.nodes.length:Int) - 1))=false from by simp] at c4
 have hw2:IntKind.i64.wrap ((bld.nodes.length:Int) - 1)=(bld.nodes.length:Int) - 1:=by rw [wrap64]<;>omega
 refine rJ Tryz.mix [4] Tryz.func143 Tryz.ntmps143 ?_
 have W:=And.intro hl1 (And.intro htq (And.intro hl0 (And.intro hw2 hbl)))
 refine we ?_
 refine lT 5 0 (by rfl) (by rfl) (by simp;rfl) ?_
 have W:=And.intro hl1 (And.intro htq (And.intro hl0 (And.intro hw2 hbl)))
 refine we ?_
 exact aM Tryz.results143
theorem aMt [aB Tryz.prog] (p:aC) (t:bE) (q:List bE) (hq:p.queue=t::q) (hb:p.block=0) (hi:p.inline=0) (hs:aJ p≤67108864) (hk:t.kind=2) (hn:t.name=jN) (os:List Int) (lo:Int) (ho:p.builder.opens=os++[lo]) (hs0:qX p.builder t=none):Ok Tryz.prog 143 [.agg (aG .view p)] (.tup [.agg (aG .own (lZ p t q)),.bool true]):=by
 have hq1:=vX hq
 have hts:bN t≤67108864:=by
  have h1:=dL bN (show t∈p.queue by rw [hq];simp)
  simp only [aJ,szL] at hs;omega
 have hbs:aU p.builder≤67108864:=by simp only [aJ] at hs;omega
 have hbl:p.builder.nodes.length≤67108864∧p.builder.opens.length≤67108864:=by simp only [aU,szL] at hbs;omega
 have c1:=fH p (by omega)
 have c2:=nY p.builder t (by omega) (by omega)
 obtain ⟨hm,_⟩:=vU (b:=p.builder) hk
 have hyes:∀(k:Nat) (nd:gW),1≤k→p.builder.opens=os++[((k:Nat):Int)]→p.builder.nodes[k]? =some nd→nd.name=jN→False:=fun k nd h1 h2 h3 h4=>by
  have h5:=aGf hk hn h2 h1 h3 h4
  rw [hs0] at h5;cases h5
 unfold lZ
 rw [hs0]
 clear hs0
 have hl0:(0:Int) < (p.builder.opens.length:Int):=by rw [ho];simp<;>omega
 have hlt:os.length < p.builder.opens.length:=by rw [ho];simp
 have hg:p.builder.opens[os.length]? =some lo:=by rw [ho];simp
 have hw:IntKind.i64.wrap ((p.builder.opens.length:Int) - 1)=((os.length:Nat):Int):=by
  have e:p.builder.opens.length=os.length+1:=by rw [ho];simp
  rw [wrap64]<;>omega
 rw [hm] at c2⊢
 generalize (dD p.builder t).1=u at *
 obtain ⟨n1,o1⟩:=u
 simp only at c2⊢
 obtain ⟨ad,pol,tok,queue,ended,bld,slots,mods,entries,block,inline,deferred,entered,ran,log,loaded⟩:=p
 obtain ⟨tk,tn,ta,tx⟩:=t
 simp only at hq hb hi hbl hk hn c1 c2 hl0 hlt hg hw ho hyes⊢
 subst hq;subst hb;subst hi
 subst hk
 simp only [jN] at hn
 subst hn
 rw [if_neg (by rintro ⟨h,_⟩;cases h)]
 simp only [aG,bY,aZ,fI,aF] at c1
 simp only [aZ] at c2
 have hl1:¬(q.length:Int)+1=0:=by omega
 have htq:(q.map (bL .own)).take q.length=q.map (bL .own):=List.take_of_length_le (by simp)
 have hw2:IntKind.i64.wrap ((bld.nodes.length:Int) - 1)=(bld.nodes.length:Int) - 1:=by rw [wrap64]<;>omega
 have c4:=eQ lo 1 ((bld.nodes.length:Int) - 1)
 have hlp:0 < bld.opens.length:=by omega
 by_cases h1:1≤lo
 ·by_cases h2:lo < (bld.nodes.length:Int)
  ·rw [show (decide ((1:Int)≤lo)&&decide (lo≤(bld.nodes.length:Int) - 1))=true from by simp;omega] at c4
   obtain ⟨k,rfl⟩:=Int.eq_ofNat_of_zero_le (show 0≤lo by omega)
   have hkl:k < bld.nodes.length:=by omega
   have hgk:=List.getElem?_eq_getElem hkl
   have hne:(bld.nodes[k].name == [115,99,114,105,112,116])=false:=by
    cases h:(bld.nodes[k].name == [115,99,114,105,112,116]) with
    |false=>rfl
    |true=>exact (hyes k _ (by omega) ho hgk (by simpa [jN] using h)).elim
   clear hyes ho
   refine rJ Tryz.mix [4] Tryz.func143 Tryz.ntmps143 ?_
   have W:=And.intro hl1 (And.intro htq (And.intro hl0 (And.intro hw (And.intro hg (And.intro h1 (And.intro hgk (And.intro hkl (And.intro hne (And.intro hw2 (And.intro hlp hbl))))))))))
   have V:=hlt
   repeat' first|refine st ?_|(refine nx ?_;first|refine se ?_|refine so ?_)|(refine cx ?_;first|refine sT ?_|refine sF ?_)|fail
   refine lT 5 0 (by rfl) (by rfl) (by simp;rfl) ?_
   have W:=And.intro hl1 (And.intro htq (And.intro hl0 (And.intro hw (And.intro hg (And.intro h1 (And.intro hgk (And.intro hkl (And.intro hne (And.intro hw2 (And.intro hlp hbl))))))))))
   have V:=hlt
   repeat' first|refine st ?_|(refine nx ?_;first|refine se ?_|refine so ?_)|(refine cx ?_;first|refine sT ?_|refine sF ?_)|fail
   exact aM Tryz.results143
  ·skip
   clear hyes ho
   rw [show (decide ((1:Int)≤lo)&&decide (lo≤(bld.nodes.length:Int) - 1))=false from by simp;omega] at c4
   refine rJ Tryz.mix [4] Tryz.func143 Tryz.ntmps143 ?_
   have W:=And.intro hl1 (And.intro htq (And.intro hl0 (And.intro hw (And.intro hg (And.intro h1 (And.intro h2 (And.intro hw2 (And.intro hlp hbl))))))))
   have V:=hlt
   repeat' first|refine st ?_|(refine nx ?_;first|refine se ?_|refine so ?_)|(refine cx ?_;first|refine sT ?_|refine sF ?_)|fail
   refine lT 5 0 (by rfl) (by rfl) (by simp;rfl) ?_
   have W:=And.intro hl1 (And.intro htq (And.intro hl0 (And.intro hw (And.intro hg (And.intro h1 (And.intro h2 (And.intro hw2 (And.intro hlp hbl))))))))
   have V:=hlt
   repeat' first|refine st ?_|(refine nx ?_;first|refine se ?_|refine so ?_)|(refine cx ?_;first|refine sT ?_|refine sF ?_)|fail
   exact aM Tryz.results143
 ·skip
  clear hyes ho
  rw [show (decide ((1:Int)≤lo)&&decide (lo≤(bld.nodes.length:Int) - 1))=false from by simp;omega] at c4
  refine rJ Tryz.mix [4] Tryz.func143 Tryz.ntmps143 ?_
  have W:=And.intro hl1 (And.intro htq (And.intro hl0 (And.intro hw (And.intro hg (And.intro h1 (And.intro hw2 (And.intro hlp hbl)))))))
  have V:=hlt
  repeat' first|refine st ?_|(refine nx ?_;first|refine se ?_|refine so ?_)|(refine cx ?_;first|refine sT ?_|refine sF ?_)|fail
  refine lT 5 0 (by rfl) (by rfl) (by simp;rfl) ?_
  have W:=And.intro hl1 (And.intro htq (And.intro hl0 (And.intro hw (And.intro hg (And.intro h1 (And.intro hw2 (And.intro hlp hbl)))))))
  have V:=hlt
  repeat' first|refine st ?_|(refine nx ?_;first|refine se ?_|refine so ?_)|(refine cx ?_;first|refine sT ?_|refine sF ?_)|fail
  exact aM Tryz.results143
theorem aMe [aB Tryz.prog] (p:aC) (t:bE) (q:List bE) (hq:p.queue=t::q) (hb:p.block=0) (hi:p.inline=0) (hs:aJ p≤67108864) (hk:t.kind=2) (hn:t.name=jN) (os:List Int) (k:Nat) (ho:p.builder.opens=os++[((k:Nat):Int)]) (nd:gW) (hk1:1≤k) (hgk:p.builder.nodes[k]? =some nd) (hns:nd.name=jN):Ok Tryz.prog 143 [.agg (aG .view p)] (.tup [.agg (aG .own (lZ p t q)),.bool true]):=by
 have hq1:=vX hq
 have hts:bN t≤67108864:=by
  have h1:=dL bN (show t∈p.queue by rw [hq];simp)
  simp only [aJ,szL] at hs;omega
 have hbs:aU p.builder≤67108864:=by simp only [aJ] at hs;omega
 have hbl:p.builder.nodes.length≤67108864∧p.builder.opens.length≤67108864:=by simp only [aU,szL] at hbs;omega
 have c1:=fH p (by omega)
 have c2:=nY p.builder t (by omega) (by omega)
 obtain ⟨hm,hmn⟩:=vU (b:=p.builder) hk
 have hkl:k < p.builder.nodes.length:=(List.getElem?_eq_some_iff.1 hgk).1
 have c3:=aJi {p with queue:=q,builder:=(dD p.builder t).1} k nd (by simp only [hmn];exact hkl) (by simp only [hmn];exact hgk) (by omega)
 unfold lZ
 rw [aGf hk hn ho hk1 hgk hns]
 simp only [hgk,Option.elim]
 have hl0:(0:Int) < (p.builder.opens.length:Int):=by rw [ho];simp<;>omega
 have hlt:os.length < p.builder.opens.length:=by rw [ho];simp
 have hg:p.builder.opens[os.length]? =some ((k:Nat):Int):=by rw [ho];simp
 have hw:IntKind.i64.wrap ((p.builder.opens.length:Int) - 1)=((os.length:Nat):Int):=by
  have e:p.builder.opens.length=os.length+1:=by rw [ho];simp
  rw [wrap64]<;>omega
 have hnb:(nd.name == [115,99,114,105,112,116])=true:=by simpa [jN] using hns
 generalize rY _ k nd.attrs=g at *
 rw [hm] at c2
 generalize (dD p.builder t).1=u at *
 obtain ⟨n1,o1⟩:=u
 try simp only at c2
 try simp only at c3
 obtain ⟨ad,pol,tok,queue,ended,bld,slots,mods,entries,block,inline,deferred,entered,ran,log,loaded⟩:=p
 obtain ⟨tk,tn,ta,tx⟩:=t
 simp only at hq hb hi hbl hk hn c1 c2 c3 hl0 hlt hg hw hgk hkl
 subst hq;subst hb;subst hi
 clear ho hns hm hmn
 subst hk
 simp only [jN] at hn
 subst hn
 simp only [aG,bY,aZ,fI,aF] at c1
 simp only [aZ] at c2
 have hl1:¬(q.length:Int)+1=0:=by omega
 have htq:(q.map (bL .own)).take q.length=q.map (bL .own):=List.take_of_length_le (by simp)
 have hw2:IntKind.i64.wrap ((bld.nodes.length:Int) - 1)=(bld.nodes.length:Int) - 1:=by rw [wrap64]<;>omega
 have c4:=eQ ((k:Nat):Int) 1 ((bld.nodes.length:Int) - 1)
 rw [show (decide ((1:Int)≤((k:Nat):Int))&&decide (((k:Nat):Int)≤(bld.nodes.length:Int) - 1))=true from by simp;omega] at c4
 have hk1i:(1:Int)≤((k:Nat):Int):=by omega
 simp only [aG,bY,aZ,fI,aF] at c3
 have hnb2:(bld.nodes[k].name == [115,99,114,105,112,116])=true:=by
  rw [List.getElem?_eq_getElem hkl] at hgk
  rw [Option.some.inj hgk];exact hnb
 have hlp:0 < bld.opens.length:=by omega
 refine rJ Tryz.mix [4] Tryz.func143 Tryz.ntmps143 ?_
 have W:=And.intro hl1 (And.intro htq (And.intro hlp (And.intro hl0 (And.intro hw (And.intro hg (And.intro hk1i (And.intro hkl (And.intro hgk (And.intro hnb2 (And.intro hw2 (And.intro hlp hbl)))))))))))
 have V:=hlt
 repeat' first|refine st ?_|(refine nx ?_;first|refine se ?_|refine so ?_)|(refine cx ?_;first|refine sT ?_|refine sF ?_)|fail
 refine lT 5 0 (by rfl) (by rfl) (by simp;rfl) ?_
 have W:=And.intro hl1 (And.intro htq (And.intro hlp (And.intro hl0 (And.intro hw (And.intro hg (And.intro hk1i (And.intro hkl (And.intro hgk (And.intro hnb2 (And.intro hw2 (And.intro hlp hbl)))))))))))
 have V:=hlt
 repeat' first|refine st ?_|(refine nx ?_;first|refine se ?_|refine so ?_|refine sg (hc:=c3) (h:=?_))|(refine cx ?_;first|refine sT ?_|refine sF ?_)|fail
 exact aM Tryz.results143
theorem aJl [aB Tryz.prog] (p:aC) (hs:aJ p≤67108864):Ok Tryz.prog 143 [.agg (aG .view p)] (.tup [.agg (aG .own (lF p).1),.bool (lF p).2]):=by
 cases hq:p.queue with
 |nil=>
  have e:lF p=(p,false):=by unfold lF;rw [hq]
  rw [e];exact aFe p hs (.inl hq)
 |cons t q=>
  by_cases h:p.block=0∧p.inline=0
  ·have e:lF p=(lZ p t q,true):=by unfold lF;rw [hq];simp only;rw [if_pos h]
   rw [e]
   by_cases hk:t.kind=2
   ·by_cases hn:t.name=jN
    ·rcases List.eq_nil_or_concat p.builder.opens with ho|⟨os,lo,ho⟩
     ·exact aPw p t q hq h.1 h.2 hs hk hn ho
     ·cases hsc:qX p.builder t with
      |none=>exact aMt p t q hq h.1 h.2 hs hk hn os lo (by simpa using ho) hsc
      |some k=>
       have hsc2:=hsc
       unfold qX at hsc2
       rw [if_pos ⟨hk,hn⟩,ho] at hsc2
       simp only [List.concat_eq_append,List.getLast?_concat] at hsc2
       split at hsc2
       ·rename_i h3
        obtain ⟨h3,h4⟩:=h3
        obtain rfl:=Option.some.inj hsc2
        cases hgk:p.builder.nodes[lo.toNat]? with
        |none=>rw [hgk] at h4;simp at h4
        |some nd=>
         rw [hgk] at h4
         exact aMe p t q hq h.1 h.2 hs hk hn os lo.toNat (by rw [ho];simp<;>omega) nd (by omega) hgk (by simpa using h4)
       ·cases hsc2
    ·exact aMn p t q hq h.1 h.2 hs hk hn
   ·exact aO6 p t q hq h.1 h.2 hs hk
  ·have e:lF p=(p,false):=by unfold lF;rw [hq];simp only;rw [if_neg h]
   rw [e];exact aFe p hs (by by_cases h1:p.block=0;exact .inr (.inr fun h2=>h ⟨h1,h2⟩);exact .inr (.inl h1))
end Go.Proofs.YtaddkhdghlaalaaGreatDoor
