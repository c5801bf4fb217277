/- Proved here: steps towards the statement of this claim. No condition. -/
import Derived.Test.YtlnblmmohpcceaaGreatDoorZQI4
set_option linter.all false
set_option maxRecDepth 8000
set_option maxHeartbeats 8000000
namespace Go.Proofs.YtlnblmmohpcceaaGreatDoor
open Go.Aw Proofs.Tryz List IntKind
theorem EN [aD prog] (p:aP) (hs:aL p<=67108864) (h:p.queue=[]\/p.block≠0\/p.inline≠0):Ok prog 117 [.agg (aM .view p)] (.gV [.agg (aM .own p),.bool false]):=by
 have c1:=jN p (by omega)
 simp only [aM] at c1
 by_cases hl0:p.queue.length=0
 ·refine bR aAc func117 ntmps117 ?_
  have W:=hl0
  repeat' first|refine we ?_|(refine sq ?_ ?_<;>intro hc<;>try exact hc.elim)|fail
  all_goals try(refine ⟨.inr rfl,?_⟩;simp [aB,results117])
 ·have hq:p.queue≠[]:=fun h=>hl0 (by rw [h];rfl)
  by_cases hb:p.block=0
  ·have hi:¬p.inline=0:=by
    rcases h with h|h|h
    ·exact absurd h hq
    ·exact absurd hb h
    ·exact h
   rw [hb] at c1
   refine bR aAc func117 ntmps117 ?_
   have W:=aA hl0 (aA hb hi)
   repeat' first|refine we ?_|(refine sq ?_ ?_<;>intro hc<;>try exact hc.elim)|fail
   all_goals try(refine ⟨.inr rfl,?_⟩;simp [aB,results117,hb])
  ·refine bR aAc func117 ntmps117 ?_
   have W:=aA hl0 hb
   repeat' first|refine we ?_|(refine sq ?_ ?_<;>intro hc<;>try exact hc.elim)|fail
   all_goals try(refine ⟨.inr rfl,?_⟩;simp [aB,results117])
theorem Qi [aD prog] (p:aP) (t:bH) (q:List bH) (hq:p.queue=t::q) (hb:p.block=0) (hi:p.inline=0) (hs:aL p<=67108864) (hk:¬t.kind=2):Ok prog 117 [.agg (aM .view p)] (.gV [.agg (aM .own (iN p t q)),.bool true]):=by
 have hq1:=qB hq
 have hts:bF t<=67108864:=by
  have h1:=bU bF (show t∈p.queue by rw [hq];simp)
  simp only [aL,bP] at hs;omega
 have hbs:aH p.builder<=67108864:=by simp only [aL] at hs;omega
 have hbl:p.builder.nodes.length<=67108864/\p.builder.opens.length<=67108864:=by simp only [aH,bP] at hbs;omega
 have c1:=jN p (by omega)
 have c2:=qA p.builder t (by omega) (by omega)
 have c3:=Qc {p with queue:=q,builder:=(addToken p.builder t).1} t (addToken p.builder t).2 (by omega) (by omega)
 unfold iN
 rw [wS (fun h=>hk h.1)]
 generalize addToken p.builder t=u at *
 obtain ⟨⟨n1,o1⟩,k1⟩:=u
 simp only at c2 c3⊢
 obtain ⟨ad,PO,tok,queue,ended,xH,aF,aX,entries,block,inline,deferred,fO,nY,log,mP⟩:=p
 obtain ⟨tk,tn,ta,tx⟩:=t
 simp only at hq hb hi hbl hk c1 c2 c3⊢
 subst hq;subst hb;subst hi
 simp only [aM,bV,aN,dB,aK] at c1
 simp only [aN] at c2
 have hl1:¬(q.length:Int)+1=0:=by omega
 have uA:(q.map (bB .own)).take q.length=q.map (bB .own):=take_of_length_le (by simp)
 by_cases h1:tk=1
 ·subst h1
  by_cases h0:0<=k1
  ·rw [if_pos ⟨rfl,h0⟩]
   generalize AB _ _ k1=g at *
   simp only [aM,bV,aN,dB,aK,bB] at c3
   refine rU aAc [4] func117 ntmps117 ?_
   have W:=aA hl1 (aA uA (aA h0 hbl))
   repeat' first|refine we ?_|(refine sq ?_ ?_<;>intro hc<;>try exact hc.elim)|fail
   refine go_share 5 0 (by rfl) (by rfl) (by simp;rfl) ?_
   have W:=aA hl1 (aA uA (aA h0 hbl))
   repeat' first|refine we ?_|(refine nx ?_;refine sg (hc:=c3) (h:=?_))|(refine sq ?_ ?_<;>intro hc<;>try exact hc.elim)|fail
   all_goals try(refine ⟨.inr rfl,?_⟩;simp [aB,results117])
  ·rw [if_neg (fun h=>h0 h.2)]
   refine rU aAc [4] func117 ntmps117 ?_
   have W:=aA hl1 (aA uA (aA h0 hbl))
   repeat' first|refine we ?_|(refine sq ?_ ?_<;>intro hc<;>try exact hc.elim)|fail
   refine go_share 5 0 (by rfl) (by rfl) (by simp;rfl) ?_
   have W:=aA hl1 (aA uA (aA h0 hbl))
   repeat' first|refine we ?_|(refine sq ?_ ?_<;>intro hc<;>try exact hc.elim)|fail
   all_goals try(refine ⟨.inr rfl,?_⟩;simp [aB,results117])
 ·rw [if_neg (fun h=>h1 h.1)]
  by_cases h0:0<=k1
  ·skip
   refine rU aAc [4] func117 ntmps117 ?_
   have W:=aA hl1 (aA uA (aA h0 (aA hk (aA h1 hbl))))
   repeat' first|refine we ?_|(refine sq ?_ ?_<;>intro hc<;>try exact hc.elim)|fail
   refine go_share 5 0 (by rfl) (by rfl) (by simp;rfl) ?_
   have W:=aA hl1 (aA uA (aA h0 (aA hk (aA h1 hbl))))
   repeat' first|refine we ?_|(refine sq ?_ ?_<;>intro hc<;>try exact hc.elim)|fail
   all_goals try(refine ⟨.inr rfl,?_⟩;simp [aB,results117])
  ·skip
   refine rU aAc [4] func117 ntmps117 ?_
   have W:=aA hl1 (aA uA (aA h0 (aA hk (aA h1 hbl))))
   repeat' first|refine we ?_|(refine sq ?_ ?_<;>intro hc<;>try exact hc.elim)|fail
   refine go_share 5 0 (by rfl) (by rfl) (by simp;rfl) ?_
   have W:=aA hl1 (aA uA (aA h0 (aA hk (aA h1 hbl))))
   repeat' first|refine we ?_|(refine sq ?_ ?_<;>intro hc<;>try exact hc.elim)|fail
   all_goals try(refine ⟨.inr rfl,?_⟩;simp [aB,results117])
theorem Oz [aD prog] (p:aP) (t:bH) (q:List bH) (hq:p.queue=t::q) (hb:p.block=0) (hi:p.inline=0) (hs:aL p<=67108864) (hk:t.kind=2) (hn:¬t.name=gK):Ok prog 117 [.agg (aM .view p)] (.gV [.agg (aM .own (iN p t q)),.bool true]):=by
 have hq1:=qB hq
 have hts:bF t<=67108864:=by
  have h1:=bU bF (show t∈p.queue by rw [hq];simp)
  simp only [aL,bP] at hs;omega
 have hbs:aH p.builder<=67108864:=by simp only [aL] at hs;omega
 have hbl:p.builder.nodes.length<=67108864/\p.builder.opens.length<=67108864:=by simp only [aH,bP] at hbs;omega
 have c1:=jN p (by omega)
 have c2:=qA p.builder t (by omega) (by omega)
 obtain ⟨hm,_⟩:=mD (b:=p.builder) hk
 unfold iN
 rw [wS (fun h=>hn h.2)]
 rw [hm] at c2⊢
 generalize (addToken p.builder t).1=u at *
 obtain ⟨n1,o1⟩:=u
 simp only at c2⊢
 obtain ⟨ad,PO,tok,queue,ended,xH,aF,aX,entries,block,inline,deferred,fO,nY,log,mP⟩:=p
 obtain ⟨tk,tn,ta,tx⟩:=t
 simp only at hq hb hi hbl hk hn c1 c2⊢
 subst hq;subst hb;subst hi
 subst hk
 have hnb:(tn == [115,99,114,105,112,116])=false:=by simpa [gK] using hn
 rw [if_neg (by rintro ⟨h,_⟩;cases h)]
 simp only [aM,bV,aN,dB,aK] at c1
 simp only [aN] at c2
 have hl1:¬(q.length:Int)+1=0:=by omega
 have uA:(q.map (bB .own)).take q.length=q.map (bB .own):=take_of_length_le (by simp)
 refine rU aAc [4] func117 ntmps117 ?_
 have W:=aA hl1 (aA uA (aA hnb hbl))
 repeat' first|refine we ?_|(refine sq ?_ ?_<;>intro hc<;>try exact hc.elim)|fail
 refine go_share 5 0 (by rfl) (by rfl) (by simp;rfl) ?_
 have W:=aA hl1 (aA uA (aA hnb hbl))
 repeat' first|refine we ?_|(refine sq ?_ ?_<;>intro hc<;>try exact hc.elim)|fail
 all_goals try(refine ⟨.inr rfl,?_⟩;simp [aB,results117])
theorem Qj [aD prog] (p:aP) (t:bH) (q:List bH) (hq:p.queue=t::q) (hb:p.block=0) (hi:p.inline=0) (hs:aL p<=67108864) (hk:t.kind=2) (hn:t.name=gK) (ho:p.builder.opens=[]):Ok prog 117 [.agg (aM .view p)] (.gV [.agg (aM .own (iN p t q)),.bool true]):=by
 have hq1:=qB hq
 have hts:bF t<=67108864:=by
  have h1:=bU bF (show t∈p.queue by rw [hq];simp)
  simp only [aL,bP] at hs;omega
 have hbs:aH p.builder<=67108864:=by simp only [aL] at hs;omega
 have hbl:p.builder.nodes.length<=67108864/\p.builder.opens.length<=67108864:=by simp only [aH,bP] at hbs;omega
 have c1:=jN p (by omega)
 have c2:=qA p.builder t (by omega) (by omega)
 obtain ⟨hm,_⟩:=mD (b:=p.builder) hk
 unfold iN
 rw [Hr ho]
 have hl0:p.builder.opens.length=0:=by rw [ho];rfl
 rw [hm] at c2⊢
 generalize (addToken p.builder t).1=u at *
 obtain ⟨n1,o1⟩:=u
 simp only at c2⊢
 obtain ⟨ad,PO,tok,queue,ended,xH,aF,aX,entries,block,inline,deferred,fO,nY,log,mP⟩:=p
 obtain ⟨tk,tn,ta,tx⟩:=t
 simp only at hq hb hi hbl hk hn c1 c2 hl0⊢
 subst hq;subst hb;subst hi
 clear ho
 subst hk
 simp only [gK] at hn
 subst hn
 rw [if_neg (by rintro ⟨h,_⟩;cases h)]
 simp only [aM,bV,aN,dB,aK] at c1
 simp only [aN] at c2
 have hl1:¬(q.length:Int)+1=0:=by omega
 have uA:(q.map (bB .own)).take q.length=q.map (bB .own):=take_of_length_le (by simp)
 refine rU aAc [4] func117 ntmps117 ?_
 have W:=aA hl1 (aA uA (aA hl0 hbl))
 repeat' first|refine we ?_|(refine sq ?_ ?_<;>intro hc<;>try exact hc.elim)|fail
 refine go_share 5 0 (by rfl) (by rfl) (by simp;rfl) ?_
 have W:=aA hl1 (aA uA (aA hl0 hbl))
 repeat' first|refine we ?_|(refine sq ?_ ?_<;>intro hc<;>try exact hc.elim)|fail
 all_goals try(refine ⟨.inr rfl,?_⟩;simp [aB,results117])
theorem OA [aD prog] (p:aP) (t:bH) (q:List bH) (hq:p.queue=t::q) (hb:p.block=0) (hi:p.inline=0) (hs:aL p<=67108864) (hk:t.kind=2) (hn:t.name=gK) (os:List Int) (lo:Int) (ho:p.builder.opens=os++[lo]) (hs0:oO p.builder t=none):Ok prog 117 [.agg (aM .view p)] (.gV [.agg (aM .own (iN p t q)),.bool true]):=by
 have hq1:=qB hq
 have hts:bF t<=67108864:=by
  have h1:=bU bF (show t∈p.queue by rw [hq];simp)
  simp only [aL,bP] at hs;omega
 have hbs:aH p.builder<=67108864:=by simp only [aL] at hs;omega
 have hbl:p.builder.nodes.length<=67108864/\p.builder.opens.length<=67108864:=by simp only [aH,bP] at hbs;omega
 have c1:=jN p (by omega)
 have c2:=qA p.builder t (by omega) (by omega)
 obtain ⟨hm,_⟩:=mD (b:=p.builder) hk
 have OC:∀(k:Nat) (nd:eY),1<=k->p.builder.opens=os++[((k:Nat):Int)]->p.builder.nodes[k]? =some nd->nd.name=gK->False:=fun k nd h1 h2 h3 h4=>by
  have h5:=yD hk hn h2 h1 h3 h4
  rw [hs0] at h5;cases h5
 unfold iN
 rw [hs0]
 clear hs0
 have hl0:(0:Int) < (p.builder.opens.length:Int):=by rw [ho];simp<;>omega
 have hlt:os.length < p.builder.opens.length:=by rw [ho];simp
 have hg:p.builder.opens[os.length]? =some lo:=by rw [ho];simp
 have hw:i64.wrap ((p.builder.opens.length:Int) - 1)=((os.length:Nat):Int):=by
  have e:p.builder.opens.length=os.length+1:=by rw [ho];simp
  rw [wrap64]<;>omega
 rw [hm] at c2⊢
 generalize (addToken p.builder t).1=u at *
 obtain ⟨n1,o1⟩:=u
 simp only at c2⊢
 obtain ⟨ad,PO,tok,queue,ended,xH,aF,aX,entries,block,inline,deferred,fO,nY,log,mP⟩:=p
 obtain ⟨tk,tn,ta,tx⟩:=t
 simp only at hq hb hi hbl hk hn c1 c2 hl0 hlt hg hw ho OC⊢
 subst hq;subst hb;subst hi
 subst hk
 simp only [gK] at hn
 subst hn
 rw [if_neg (by rintro ⟨h,_⟩;cases h)]
 simp only [aM,bV,aN,dB,aK] at c1
 simp only [aN] at c2
 have hl1:¬(q.length:Int)+1=0:=by omega
 have uA:(q.map (bB .own)).take q.length=q.map (bB .own):=take_of_length_le (by simp)
 by_cases h1:1<=lo
 ·by_cases h2:lo < (xH.nodes.length:Int)
  ·obtain ⟨k,rfl⟩:=Int.eq_ofNat_of_zero_le (show 0<=lo by omega)
   have hkl:k < xH.nodes.length:=by omega
   have Bn:=getElem?_eq_getElem hkl
   have hne:(xH.nodes[k].name == [115,99,114,105,112,116])=false:=by
    cases h:(xH.nodes[k].name == [115,99,114,105,112,116]) with
    |false=>rfl
    |true=>exact (OC k _ (by omega) ho Bn (by simpa [gK] using h)).elim
   clear OC ho
   refine rU aAc [4] func117 ntmps117 ?_
   have W:=aA hl1 (aA uA (aA hl0 (aA hw (aA hg (aA h1 (aA Bn (aA hkl (aA hne hbl))))))))
   have V:=hlt
   repeat' first|refine we ?_|(refine sq ?_ ?_<;>intro hc<;>try exact hc.elim)|fail
   refine go_share 5 0 (by rfl) (by rfl) (by simp;rfl) ?_
   have W:=aA hl1 (aA uA (aA hl0 (aA hw (aA hg (aA h1 (aA Bn (aA hkl (aA hne hbl))))))))
   have V:=hlt
   repeat' first|refine we ?_|(refine sq ?_ ?_<;>intro hc<;>try exact hc.elim)|fail
   all_goals try(refine ⟨.inr rfl,?_⟩;simp [aB,results117])
  ·skip
   clear OC ho
   refine rU aAc [4] func117 ntmps117 ?_
   have W:=aA hl1 (aA uA (aA hl0 (aA hw (aA hg (aA h1 (aA h2 hbl))))))
   have V:=hlt
   repeat' first|refine we ?_|(refine sq ?_ ?_<;>intro hc<;>try exact hc.elim)|fail
   refine go_share 5 0 (by rfl) (by rfl) (by simp;rfl) ?_
   have W:=aA hl1 (aA uA (aA hl0 (aA hw (aA hg (aA h1 (aA h2 hbl))))))
   have V:=hlt
   repeat' first|refine we ?_|(refine sq ?_ ?_<;>intro hc<;>try exact hc.elim)|fail
   all_goals try(refine ⟨.inr rfl,?_⟩;simp [aB,results117])
 ·skip
  clear OC ho
  refine rU aAc [4] func117 ntmps117 ?_
  have W:=aA hl1 (aA uA (aA hl0 (aA hw (aA hg (aA h1 hbl)))))
  have V:=hlt
  repeat' first|refine we ?_|(refine sq ?_ ?_<;>intro hc<;>try exact hc.elim)|fail
  refine go_share 5 0 (by rfl) (by rfl) (by simp;rfl) ?_
  have W:=aA hl1 (aA uA (aA hl0 (aA hw (aA hg (aA h1 hbl)))))
  have V:=hlt
  repeat' first|refine we ?_|(refine sq ?_ ?_<;>intro hc<;>try exact hc.elim)|fail
  all_goals try(refine ⟨.inr rfl,?_⟩;simp [aB,results117])
theorem Le [aD prog] (p:aP) (t:bH) (q:List bH) (hq:p.queue=t::q) (hb:p.block=0) (hi:p.inline=0) (hs:aL p<=67108864) (hk:t.kind=2) (hn:t.name=gK) (os:List Int) (k:Nat) (ho:p.builder.opens=os++[((k:Nat):Int)]) (nd:eY) (hk1:1<=k) (Bn:p.builder.nodes[k]? =some nd) (hns:nd.name=gK):Ok prog 117 [.agg (aM .view p)] (.gV [.agg (aM .own (iN p t q)),.bool true]):=by
 have hq1:=qB hq
 have hts:bF t<=67108864:=by
  have h1:=bU bF (show t∈p.queue by rw [hq];simp)
  simp only [aL,bP] at hs;omega
 have hbs:aH p.builder<=67108864:=by simp only [aL] at hs;omega
 have hbl:p.builder.nodes.length<=67108864/\p.builder.opens.length<=67108864:=by simp only [aH,bP] at hbs;omega
 have c1:=jN p (by omega)
 have c2:=qA p.builder t (by omega) (by omega)
 obtain ⟨hm,hmn⟩:=mD (b:=p.builder) hk
 have hkl:k < p.builder.nodes.length:=(List.getElem?_eq_some_iff.1 Bn).1
 have c3:=JA {p with queue:=q,builder:=(addToken p.builder t).1} k nd (by simp only [hmn];exact hkl) (by simp only [hmn];exact Bn) (by omega)
 unfold iN
 rw [yD hk hn ho hk1 Bn hns]
 simp only [Bn,Option.elim]
 have hl0:(0:Int) < (p.builder.opens.length:Int):=by rw [ho];simp<;>omega
 have hlt:os.length < p.builder.opens.length:=by rw [ho];simp
 have hg:p.builder.opens[os.length]? =some ((k:Nat):Int):=by rw [ho];simp
 have hw:i64.wrap ((p.builder.opens.length:Int) - 1)=((os.length:Nat):Int):=by
  have e:p.builder.opens.length=os.length+1:=by rw [ho];simp
  rw [wrap64]<;>omega
 have hnb:(nd.name == [115,99,114,105,112,116])=true:=by simpa [gK] using hns
 generalize rQ _ k nd.attrs=g at *
 rw [hm] at c2
 generalize (addToken p.builder t).1=u at *
 obtain ⟨n1,o1⟩:=u
 try simp only at c2
 try simp only at c3
 obtain ⟨ad,PO,tok,queue,ended,xH,aF,aX,entries,block,inline,deferred,fO,nY,log,mP⟩:=p
 obtain ⟨tk,tn,ta,tx⟩:=t
 simp only at hq hb hi hbl hk hn c1 c2 c3 hl0 hlt hg hw Bn hkl
 subst hq;subst hb;subst hi
 clear ho hns hm hmn
 subst hk
 simp only [gK] at hn
 subst hn
 simp only [aM,bV,aN,dB,aK] at c1
 simp only [aN] at c2
 have hl1:¬(q.length:Int)+1=0:=by omega
 have uA:(q.map (bB .own)).take q.length=q.map (bB .own):=take_of_length_le (by simp)
 have X9:(1:Int)<=((k:Nat):Int):=by omega
 simp only [aM,bV,aN,dB,aK] at c3
 have Y0:(xH.nodes[k].name == [115,99,114,105,112,116])=true:=by
  rw [getElem?_eq_getElem hkl] at Bn
  rw [Option.some.inj Bn];exact hnb
 have hlp:0 < xH.opens.length:=by omega
 refine rU aAc [4] func117 ntmps117 ?_
 have W:=aA hl1 (aA uA (aA hlp (aA hl0 (aA hw (aA hg (aA X9 (aA hkl (aA Bn (aA Y0 hbl)))))))))
 have V:=hlt
 repeat' first|refine we ?_|(refine sq ?_ ?_<;>intro hc<;>try exact hc.elim)|fail
 refine go_share 5 0 (by rfl) (by rfl) (by simp;rfl) ?_
 have W:=aA hl1 (aA uA (aA hlp (aA hl0 (aA hw (aA hg (aA X9 (aA hkl (aA Bn (aA Y0 hbl)))))))))
 have V:=hlt
 repeat' first|refine we ?_|(refine nx ?_;refine sg (hc:=c3) (h:=?_))|(refine sq ?_ ?_<;>intro hc<;>try exact hc.elim)|fail
 all_goals try(refine ⟨.inr rfl,?_⟩;simp [aB,results117])
theorem JH [aD prog] (p:aP) (hs:aL p<=67108864):Ok prog 117 [.agg (aM .view p)] (.gV [.agg (aM .own (gW p).1),.bool (gW p).2]):=by
 cases hq:p.queue with
 |nil=>
  have e:gW p=(p,false):=by unfold gW;rw [hq]
  rw [e];exact EN p hs (.inl hq)
 |cons t q=>
  by_cases h:p.block=0/\p.inline=0
  ·have e:gW p=(iN p t q,true):=by unfold gW;rw [hq];simp only;rw [if_pos h]
   rw [e]
   by_cases hk:t.kind=2
   ·by_cases hn:t.name=gK
    ·rcases eq_nil_or_concat p.builder.opens with ho|⟨os,lo,ho⟩
     ·exact Qj p t q hq h.1 h.2 hs hk hn ho
     ·cases hsc:oO p.builder t with
      |none=>exact OA p t q hq h.1 h.2 hs hk hn os lo (by simpa using ho) hsc
      |some k=>
       have hsc2:=hsc
       unfold oO at hsc2
       rw [if_pos ⟨hk,hn⟩,ho] at hsc2
       simp only [concat_eq_append,getLast?_concat] at hsc2
       split at hsc2
       ·rename_i h3
        obtain ⟨h3,h4⟩:=h3
        obtain rfl:=Option.some.inj hsc2
        cases Bn:p.builder.nodes[lo.toNat]? with
        |none=>rw [Bn] at h4;simp at h4
        |some nd=>
         rw [Bn] at h4
         exact Le p t q hq h.1 h.2 hs hk hn os lo.toNat (by rw [ho];simp<;>omega) nd (by omega) Bn (by simpa using h4)
       ·cases hsc2
    ·exact Oz p t q hq h.1 h.2 hs hk hn
   ·exact Qi p t q hq h.1 h.2 hs hk
  ·have e:gW p=(p,false):=by unfold gW;rw [hq];simp only;rw [if_neg h]
   rw [e];exact EN p hs (by by_cases h1:p.block=0;exact .inr (.inr fun h2=>h ⟨h1,h2⟩);exact .inr (.inl h1))
theorem Ij [aD prog] [fV prog] [eO prog] [qF prog] (p:aP) (hs:aL p<=67108864):Ok prog 24 [.agg (aM .view p)] (.gV [.agg (aM .own (iP p).1),.bool (iP p).2]):=by
 have c1:=jN p (by omega)
 have hsb:aH p.builder<=67108864:=by simp only [aL] at hs;omega
 have hsl:p.aF.length<=67108864:=by simp only [aL,bP] at hs;omega
 have c2:=zG p (by omega)
 have hbd:∀s∈p.aF,s.body.length<=67108864:=fun s hm=>by
  have:=Od gZ hm
  simp only [aL,bP,gZ] at hs this;omega
 unfold iP
 by_cases hin:p.inline=0
 ·rw [if_neg (by simp [hin])]
  by_cases hbk:p.block=0
  ·rw [if_neg (by simp [hbk])]
   have c3:=JH p hs
   generalize gW p=r at *
   obtain ⟨q,b⟩:=r
   simp only [aM,hin,hbk] at c1 c2 c3⊢
   clear hbd
   refine bR aAc func24 ntmps24 ?_
   have W:=aA hin hbk
   repeat' first|refine we ?_|(refine sq ?_ ?_<;>intro hc<;>try exact hc.elim)|fail
   all_goals try(refine ⟨.inr rfl,?_⟩;simp [aB,results24])
  ·rw [if_pos hbk]
   generalize hk:i64.wrap (p.block - 1)=k
   unfold Bo
   by_cases h0:0<=k
   ·rw [if_pos h0]
    obtain ⟨kn,rfl⟩:=Int.eq_ofNat_of_zero_le h0
    rw [Int.toNat_natCast]
    have hk0:¬(kn:Int) < 0:=by omega
    by_cases hlt:kn < p.aF.length
    ·have hg:=getElem?_eq_getElem hlt
     have hlen:¬(p.aF.length:Int)<=(kn:Int):=by omega
     rw [hg]
     simp only
     have Y5:=hbd _ (getElem_mem hlt)
     cases hd:p.aF[kn].done
     ·rw [if_neg (by simp)]
      simp only [aM,hin] at c1 c2⊢
      clear hbd
      refine bR aAc func24 ntmps24 ?_
      have W:=aA hin (aA hbk (aA hk (aA hk0 (aA hlen (aA hg (aA hlt hd))))))
      repeat' first|refine we ?_|(refine sq ?_ ?_<;>intro hc<;>try exact hc.elim)|fail
      all_goals try(refine ⟨.inr rfl,?_⟩;simp [aB,results24])
     ·generalize p.aF.all lT=YU at *
      cases YU
      ·rw [if_neg (by simp)]
       simp only [aM,hin] at c1 c2⊢
       clear hbd
       refine bR aAc func24 ntmps24 ?_
       have W:=aA hin (aA hbk (aA hk (aA hk0 (aA hlen (aA hg (aA hlt hd))))))
       repeat' first|refine we ?_|(refine sq ?_ ?_<;>intro hc<;>try exact hc.elim)|fail
       all_goals try(refine ⟨.inr rfl,?_⟩;simp [aB,results24])
      ·rw [if_pos ⟨rfl,rfl⟩]
       by_cases TP:p.aF[kn].code=1
       ·rw [if_pos TP]
        have c4:=yY p p.aF[kn].body true hs (by omega)
        generalize kP p p.aF[kn].body true=q at *
        simp only [aM,hin] at c1 c2 c4⊢
        clear hbd
        refine bR aAc func24 ntmps24 ?_
        have W:=aA hin (aA hbk (aA hk (aA hk0 (aA hlen (aA hg (aA hlt (aA hd TP)))))))
        repeat' first|refine we ?_|(refine sq ?_ ?_<;>intro hc<;>try exact hc.elim)|fail
        all_goals try(refine ⟨.inr rfl,?_⟩;simp [aB,results24])
       ·rw [if_neg TP]
        simp only [aM,hin] at c1 c2⊢
        clear hbd
        refine bR aAc func24 ntmps24 ?_
        have W:=aA hin (aA hbk (aA hk (aA hk0 (aA hlen (aA hg (aA hlt (aA hd TP)))))))
        repeat' first|refine we ?_|(refine sq ?_ ?_<;>intro hc<;>try exact hc.elim)|fail
        all_goals try(refine ⟨.inr rfl,?_⟩;simp [aB,results24])
    ·have hg:p.aF[kn]? =none:=getElem?_eq_none (by omega)
     have hlen:(p.aF.length:Int)<=(kn:Int):=by omega
     rw [hg]
     simp only
     simp only [aM,hin] at c1 c2⊢
     clear hbd
     refine bR aAc func24 ntmps24 ?_
     have W:=aA hin (aA hbk (aA hk (aA hk0 hlen)))
     repeat' first|refine we ?_|(refine sq ?_ ?_<;>intro hc<;>try exact hc.elim)|fail
     all_goals try(refine ⟨.inr rfl,?_⟩;simp [aB,results24])
   ·rw [if_neg h0]
    have hk0:k < 0:=by omega
    simp only [aM,hin] at c1 c2⊢
    clear hbd
    refine bR aAc func24 ntmps24 ?_
    have W:=aA hin (aA hbk (aA hk hk0))
    repeat' first|refine we ?_|(refine sq ?_ ?_<;>intro hc<;>try exact hc.elim)|fail
    all_goals try(refine ⟨.inr rfl,?_⟩;simp [aB,results24])
 ·rw [if_pos hin]
  generalize p.aF.all lT=YU at *
  cases YU
  ·rw [if_neg (by simp)]
   simp only [aM] at c1 c2⊢
   clear hbd
   refine bR aAc func24 ntmps24 ?_
   have W:=hin
   repeat' first|refine we ?_|(refine sq ?_ ?_<;>intro hc<;>try exact hc.elim)|fail
   all_goals try(refine ⟨.inr rfl,?_⟩;simp [aB,results24])
  ·rw [if_pos rfl]
   have c3:=Qd p.builder p.inline (by omega)
   have htl:=Oc p.builder p.inline
   generalize zH p.builder p.inline=tx at *
   have c4:=yY p tx true hs (by omega)
   generalize kP p tx true=q at *
   simp only [aM,aN] at c1 c2 c3 c4⊢
   clear hbd
   refine bR aAc func24 ntmps24 ?_
   have W:=hin
   repeat' first|refine we ?_|(refine sq ?_ ?_<;>intro hc<;>try exact hc.elim)|fail
   all_goals try(refine ⟨.inr rfl,?_⟩;simp [aB,results24])
end Go.Proofs.YtlnblmmohpcceaaGreatDoor
