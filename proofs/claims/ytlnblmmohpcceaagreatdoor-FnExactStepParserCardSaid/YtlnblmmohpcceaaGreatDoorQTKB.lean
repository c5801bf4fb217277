/-
  Proved here: steps towards the statement of this claim, text QTKB.
  No condition beyond what each statement spells out.
-/
import Derived.Test.YtlnblmmohpcceaaGreatDoorQQ4
import Derived.Test.YtlnblmmohpcceaaGreatDoorF8
import Derived.Test.YtlnblmmohpcceaaGreatDoorQR7
set_option linter.all false
set_option maxRecDepth 4000
set_option maxHeartbeats 4000000
namespace Go.Proofs.YtlnblmmohpcceaaGreatDoor
open Go.Aw
theorem nA [aA Tryz.prog] (b:aS) (t:aW) (hs:aI b≤274877906944) (ht:aV t≤274877906944):Ok Tryz.prog 185 [.agg (aL .view b),.agg (aU .view t)] (.tup [.agg (aL .own (bL b t).1),.int .i64 (bL b t).2]):=by
 by_cases hk2:t.kind=2
 ·have c1:=jH b hs
  have c2:=aRd b t.name hs
  rw [xO hk2]
  obtain ⟨tk,tn,ta,tx⟩:=t
  simp only at hk2 c2
  subst hk2
  simp only [aL] at c1 c2
  generalize kQ b tn (b.opens.length - 1)=oc at *
  refine ent Tryz.mix Tryz.func185 Tryz.ntmps185 ?_
  have W:=trivial
  repeat' first|refine we ?_|(refine nx ?_;refine sg (hc:=c2) (h:=?_))|(refine sq (fun hc=>?_) (fun hc=>?_)<;>try exact hc.elim)|fail
  all_goals (try (refine ⟨.inr rfl,?_⟩;simp [Hands,Tryz.results185]))
 have c1:=jH b hs
 have c2:=aPc t.name
 have c3:=aDi t.attrs (by simp only [aV,szL] at ht;omega)
 have hn:b.nodes.length≤274877906944∧b.opens.length≤274877906944:=by simp only [aI,szL] at hs;omega
 have hta:t.attrs.length≤274877906944:=by simp only [aV,szL] at ht;omega
 have other:=aC1 (b:=b) hk2
 have full:=aEg (b:=b) hk2
 have new:=aF3 (b:=b) hk2
 obtain ⟨tk,tn,ta,tx⟩:=t
 simp only at hk2 other full new c2 c3 hta
 simp only [aL] at c1
 by_cases hk:tk=1∨(tk=3∧tx≠[])
 ·by_cases h40:(40:Int)≤(b.nodes.length:Int)
  ·rw [full (.inl (by omega))]
   rcases hk with rfl|⟨rfl,hx⟩
   ·refine ent Tryz.mix Tryz.func185 Tryz.ntmps185 ?_
    have W:=h40
    repeat' first|refine we ?_|(refine sq (fun hc=>?_) (fun hc=>?_)<;>try exact hc.elim)|fail
    all_goals (try (refine ⟨.inr rfl,?_⟩;simp [Hands,Tryz.results185]))
   ·refine ent Tryz.mix Tryz.func185 Tryz.ntmps185 ?_
    have W:=And.intro h40 hx
    repeat' first|refine we ?_|(refine sq (fun hc=>?_) (fun hc=>?_)<;>try exact hc.elim)|fail
    all_goals (try (refine ⟨.inr rfl,?_⟩;simp [Hands,Tryz.results185]))
  rcases List.eq_nil_or_concat b.opens with ho|⟨os,lo,ho⟩
  ·rw [full (.inr (.inl ho))]
   have hl0z:b.opens.length=0:=by rw [ho];rfl
   rcases hk with rfl|⟨rfl,hx⟩
   ·refine ent Tryz.mix Tryz.func185 Tryz.ntmps185 ?_
    have W:=And.intro h40 hl0z
    repeat' first|refine we ?_|(refine sq (fun hc=>?_) (fun hc=>?_)<;>try exact hc.elim)|fail
    all_goals (try (refine ⟨.inr rfl,?_⟩;simp [Hands,Tryz.results185]))
   ·refine ent Tryz.mix Tryz.func185 Tryz.ntmps185 ?_
    have W:=And.intro h40 (And.intro hx hl0z)
    repeat' first|refine we ?_|(refine sq (fun hc=>?_) (fun hc=>?_)<;>try exact hc.elim)|fail
    all_goals (try (refine ⟨.inr rfl,?_⟩;simp [Hands,Tryz.results185]))
  have hne:b.opens≠[]:=by rw [ho];simp
  have hlast:b.opens.getLastD 0=lo:=by rw [ho];simp
  have hlen:b.opens.length=os.length+1:=by rw [ho];simp
  have hl0z:¬b.opens.length=0:=by omega
  have hlt:os.length < b.opens.length:=by omega
  have hg:b.opens[os.length]? =some lo:=by rw [ho];simp
  have hw:IntKind.i64.wrap ((b.opens.length:Int) - 1)=((os.length:Nat):Int):=by rw [wrap64]<;>omega
  clear ho hlen
  rcases hk with rfl|⟨rfl,hx⟩
  ·have hnw:oP b ⟨1,tn,ta,tx⟩=⟨tn,[],lo,ta⟩:=by unfold oP;rw [hlast];simp
   cases hvo:xK tn
   ·rw [hvo] at c2
    have hop:jK ⟨1,tn,ta,tx⟩=true:=by simp [jK,hvo]
    by_cases h8:(8:Int)≤(b.opens.length:Int)
    ·rw [full (.inr (.inr ⟨hop,by omega⟩))]
     refine ent Tryz.mix Tryz.func185 Tryz.ntmps185 ?_
     have W:=And.intro h40 (And.intro hl0z h8)
     repeat' first|refine we ?_|(refine sq (fun hc=>?_) (fun hc=>?_)<;>try exact hc.elim)|fail
     all_goals (try (refine ⟨.inr rfl,?_⟩;simp [Hands,Tryz.results185]))
    ·rw [new (.inl rfl) (by rintro (h|h|⟨_,h⟩);omega;exact hne h;omega),if_pos hop,hnw]
     obtain ⟨l0,hl0⟩:∃l,l=b.nodes++[(⟨tn,[],lo,ta⟩:dA)]:=⟨_,rfl⟩
     have hap:b.nodes.map (bB .own)++[[.str tn,.str [],.int .i64 lo,.sl .own 2 (ta.map dI)]]=l0.map (bB .own):=by rw [hl0];simp
     obtain ⟨o0,ho0⟩:∃l,l=b.opens++[((b.nodes.length:Nat):Int)]:=⟨_,rfl⟩
     have hao:b.opens.map dV++[[.int .i64 ((b.nodes.length:Nat):Int)]]=o0.map dV:=by rw [ho0];simp
     rw [←hl0,←ho0]
     clear hl0 ho0
     refine ent Tryz.mix Tryz.func185 Tryz.ntmps185 ?_
     have W:=And.intro h40 (And.intro hl0z (And.intro h8 (And.intro hg (And.intro hw (And.intro hn (And.intro hta (And.intro hap hao)))))))
     have V:=hlt
     repeat' first|refine we ?_|(refine sq (fun hc=>?_) (fun hc=>?_)<;>try exact hc.elim)|fail
     all_goals (try (refine ⟨.inr rfl,?_⟩;simp [Hands,Tryz.results185]))
   ·rw [hvo] at c2
    have hop:jK ⟨1,tn,ta,tx⟩=false:=by simp [jK,hvo]
    rw [new (.inl rfl) (by rintro (h|h|⟨h,_⟩);omega;exact hne h;(rw [hop] at h;cases h)),if_neg (by rw [hop];decide),hnw]
    obtain ⟨l0,hl0⟩:∃l,l=b.nodes++[(⟨tn,[],lo,ta⟩:dA)]:=⟨_,rfl⟩
    have hap:b.nodes.map (bB .own)++[[.str tn,.str [],.int .i64 lo,.sl .own 2 (ta.map dI)]]=l0.map (bB .own):=by rw [hl0];simp
    rw [←hl0]
    clear hl0
    refine ent Tryz.mix Tryz.func185 Tryz.ntmps185 ?_
    have W:=And.intro h40 (And.intro hl0z (And.intro hg (And.intro hw (And.intro hn (And.intro hta hap)))))
    have V:=hlt
    repeat' first|refine we ?_|(refine sq (fun hc=>?_) (fun hc=>?_)<;>try exact hc.elim)|fail
    all_goals (try (refine ⟨.inr rfl,?_⟩;simp [Hands,Tryz.results185]))
  ·have hnw:oP b ⟨3,tn,ta,tx⟩=⟨[],tx,lo,[]⟩:=by unfold oP;rw [hlast];simp
   have hop:jK ⟨3,tn,ta,tx⟩=false:=by simp [jK]
   rw [new (.inr ⟨rfl,hx⟩) (by rintro (h|h|⟨h,_⟩);omega;exact hne h;(rw [hop] at h;cases h)),if_neg (by rw [hop];decide),hnw]
   obtain ⟨l0,hl0⟩:∃l,l=b.nodes++[(⟨[],tx,lo,[]⟩:dA)]:=⟨_,rfl⟩
   have hap:b.nodes.map (bB .own)++[[.str [],.str tx,.int .i64 lo,.sl .own 2 []]]=l0.map (bB .own):=by rw [hl0];simp
   rw [←hl0]
   clear hl0
   have hxb:(tx != [])=true:=by simpa using hx
   refine kH Tryz.mix [15] Tryz.func185 Tryz.ntmps185 ?_
   have W:=And.intro h40 (And.intro hl0z (And.intro hxb (And.intro hg (And.intro hw (And.intro hn hap)))))
   have V:=hlt
   repeat' first|refine we ?_|(refine sq (fun hc=>?_) (fun hc=>?_)<;>try exact hc.elim)|fail
   all_goals first|(exact (hx (by assumption)).elim)|refine aRz 6 0 3 (by rfl) (by rfl) (by rfl) ?_
   have W:=And.intro h40 (And.intro hl0z (And.intro hxb (And.intro hg (And.intro hw (And.intro hn hap)))))
   have V:=hlt
   repeat' first|refine we ?_|(refine sq (fun hc=>?_) (fun hc=>?_)<;>try exact hc.elim)|fail
   all_goals (try (refine ⟨.inr rfl,?_⟩;simp [Hands,Tryz.results185]))
 ·have h1:¬tk=1:=fun h=>hk (.inl h)
  have hoth:bL b ⟨tk,tn,ta,tx⟩=(b, -1):=other h1 (fun h3=>Classical.byContradiction fun h=>hk (.inr ⟨h3,h⟩))
  rw [hoth]
  by_cases h40:(40:Int)≤(b.nodes.length:Int)
  ·refine ent Tryz.mix Tryz.func185 Tryz.ntmps185 ?_
   have W:=And.intro hk2 (And.intro h1 h40)
   repeat' first|refine we ?_|(refine sq (fun hc=>?_) (fun hc=>?_)<;>try exact hc.elim)|fail
   all_goals (try (refine ⟨.inr rfl,?_⟩;simp [Hands,Tryz.results185]))
  rcases List.eq_nil_or_concat b.opens with ho|⟨os,lo,ho⟩
  ·have hl0z:b.opens.length=0:=by rw [ho];rfl
   refine ent Tryz.mix Tryz.func185 Tryz.ntmps185 ?_
   have W:=And.intro hk2 (And.intro h1 (And.intro h40 hl0z))
   repeat' first|refine we ?_|(refine sq (fun hc=>?_) (fun hc=>?_)<;>try exact hc.elim)|fail
   all_goals (try (refine ⟨.inr rfl,?_⟩;simp [Hands,Tryz.results185]))
  have hlen:b.opens.length=os.length+1:=by rw [ho];simp
  have hl0z:¬b.opens.length=0:=by omega
  have hlt:os.length < b.opens.length:=by omega
  have hg:b.opens[os.length]? =some lo:=by rw [ho];simp
  have hw:IntKind.i64.wrap ((b.opens.length:Int) - 1)=((os.length:Nat):Int):=by rw [wrap64]<;>omega
  clear ho hlen
  by_cases h3:tk=3
  ·have hx:tx=[]:=Classical.byContradiction fun h=>hk (.inr ⟨h3,h⟩)
   subst h3;subst hx
   refine ent Tryz.mix Tryz.func185 Tryz.ntmps185 ?_
   have W:=And.intro h40 (And.intro hl0z (And.intro hg (And.intro hw hn)))
   have V:=hlt
   repeat' first|refine we ?_|(refine sq (fun hc=>?_) (fun hc=>?_)<;>try exact hc.elim)|fail
   all_goals (try (refine ⟨.inr rfl,?_⟩;simp [Hands,Tryz.results185]))
  ·refine ent Tryz.mix Tryz.func185 Tryz.ntmps185 ?_
   have W:=And.intro hk2 (And.intro h1 (And.intro h3 (And.intro h40 (And.intro hl0z (And.intro hg (And.intro hw hn))))))
   have V:=hlt
   repeat' first|refine we ?_|(refine sq (fun hc=>?_) (fun hc=>?_)<;>try exact hc.elim)|fail
   all_goals (try (refine ⟨.inr rfl,?_⟩;simp [Hands,Tryz.results185]))
def oC (p:fC) (n:Str):Bool:= !p.isSet || ((p.nonce != [])&&(p.nonce == n))
theorem aEu [aA Tryz.prog] (p:fC) (n:Str):Ok Tryz.prog 242 [.agg (bJ .view p),.str n] (.bool (oC p n)):=by
 obtain ⟨pis,psc,pst,pim,nc⟩:=p
 unfold oC
 cases pis
 ·refine ent Tryz.mix Tryz.func242 Tryz.ntmps242 ?_
  have W:=trivial
  repeat' first|refine we ?_|(refine sq (fun hc=>?_) (fun hc=>?_)<;>try exact hc.elim)|fail
  all_goals (try (refine ⟨.inr rfl,?_⟩;simp [Hands,Tryz.results242]))
 ·by_cases h:nc=[]
  ·subst h
   refine ent Tryz.mix Tryz.func242 Tryz.ntmps242 ?_
   have W:=trivial
   repeat' first|refine we ?_|(refine sq (fun hc=>?_) (fun hc=>?_)<;>try exact hc.elim)|fail
   all_goals (try (refine ⟨.inr rfl,?_⟩;simp [Hands,Tryz.results242]))
  ·have h2:(nc != [])=true:=by simpa using h
   refine ent Tryz.mix Tryz.func242 Tryz.ntmps242 ?_
   have W:=And.intro h h2
   repeat' first|refine we ?_|(refine sq (fun hc=>?_) (fun hc=>?_)<;>try exact hc.elim)|fail
   all_goals (try (refine ⟨.inr rfl,?_⟩;simp [Hands,Tryz.results242,h,h2]))
theorem aEw [aA Tryz.prog] (p:fC) (n:Str):Ok Tryz.prog 238 [.agg (bJ .view p),.str n] (.bool (oC p n)):=by
 obtain ⟨pis,psc,pst,pim,nc⟩:=p
 unfold oC
 cases pis
 ·refine ent Tryz.mix Tryz.func238 Tryz.ntmps238 ?_
  have W:=trivial
  repeat' first|refine we ?_|(refine sq (fun hc=>?_) (fun hc=>?_)<;>try exact hc.elim)|fail
  all_goals (try (refine ⟨.inr rfl,?_⟩;simp [Hands,Tryz.results238]))
 ·by_cases h:nc=[]
  ·subst h
   refine ent Tryz.mix Tryz.func238 Tryz.ntmps238 ?_
   have W:=trivial
   repeat' first|refine we ?_|(refine sq (fun hc=>?_) (fun hc=>?_)<;>try exact hc.elim)|fail
   all_goals (try (refine ⟨.inr rfl,?_⟩;simp [Hands,Tryz.results238]))
  ·have h2:(nc != [])=true:=by simpa using h
   refine ent Tryz.mix Tryz.func238 Tryz.ntmps238 ?_
   have W:=And.intro h h2
   repeat' first|refine we ?_|(refine sq (fun hc=>?_) (fun hc=>?_)<;>try exact hc.elim)|fail
   all_goals (try (refine ⟨.inr rfl,?_⟩;simp [Hands,Tryz.results238,h,h2]))
def uL (p:aJ) (t:aW) (n:Int):aJ:=
 if t.name=yF∧(aN t.attrs pO).2=true then (fT p 2 (aN t.attrs pO).1 (aN t.attrs bW).1 n).1
 else if t.name=xM∧(aN t.attrs fV).2=true then (fT p 1 (aN t.attrs fV).1 (aN t.attrs bW).1 n).1 else p
theorem aPx [aA Tryz.prog] (p:aJ) (t:aW) (n:Int) (hs:aD p≤274877906944) (ht:aV t≤274877906944):OkG Tryz.prog 189 [.give (.agg (aG .own p)),.view (.agg (aU .view t)),.view (.int .i64 n)] (.agg (aG .own (uL p t n))):=by
 obtain ⟨tk,tn,ta,tx⟩:=t
 have hta:ta.length+aC eQ ta≤274877906944:=by simp only [aV,szL] at ht;omega
 have z1:=gX ta bW
 have z2:=gX ta pO
 have z3:=gX ta fV
 have c1:=kJ ta bW (by omega)
 have c2:=kJ ta pO (by omega)
 have c3:=kJ ta fV (by omega)
 have a2:=tL p 2 (aN ta pO).1 (aN ta bW).1 n hs (by omega) (by omega)
 have a1:=tL p 1 (aN ta fV).1 (aN ta bW).1 n hs (by omega) (by omega)
 simp only [uL]
 generalize fT p 2 (aN ta pO).1 (aN ta bW).1 n=g2 at *
 generalize fT p 1 (aN ta fV).1 (aN ta bW).1 n=g1 at *
 simp only [aG] at a1 a2
 clear z1 z2 z3
 generalize aN ta bW=fd at *
 generalize aN ta pO=fh at *
 generalize aN ta fV=fs at *
 obtain ⟨dv,db⟩:=fd
 obtain ⟨hv,hb⟩:=fh
 obtain ⟨sv,sb⟩:=fs
 simp only [bW] at c1
 simp only [pO] at c2
 simp only [fV] at c3
 by_cases h1:tn=yF
 ·have h2:¬tn=xM:=by rw [h1];decide
  subst h1
  cases hb
  ·rw [if_neg (by rintro ⟨_,h⟩;cases h),if_neg (by rintro ⟨h,_⟩;exact h2 h)]
   simp only [yF]
   refine iE Tryz.mix Tryz.func189 Tryz.ntmps189 ?_
   have W:=trivial
   repeat' first|refine we ?_|(refine sq (fun hc=>?_) (fun hc=>?_)<;>try exact hc.elim)|fail
   all_goals (try (refine ⟨by first|exact .inr rfl|exact .inl rfl,?_⟩;simp [dK,bQ,bN,rowOf,Tryz.results189]))
  ·rw [if_pos ⟨rfl,rfl⟩]
   simp only [yF]
   refine iE Tryz.mix Tryz.func189 Tryz.ntmps189 ?_
   have W:=trivial
   repeat' first|refine we ?_|(refine sq (fun hc=>?_) (fun hc=>?_)<;>try exact hc.elim)|fail
   all_goals (try (refine ⟨by first|exact .inr rfl|exact .inl rfl,?_⟩;simp [dK,bQ,bN,rowOf,Tryz.results189]))
 ·rw [if_neg (by rintro ⟨h,_⟩;exact h1 h)]
  have h1b:(tn == [108,105,110,107])=false:=by simpa [yF] using h1
  by_cases h2:tn=xM
  ·subst h2
   cases sb
   ·rw [if_neg (by rintro ⟨_,h⟩;cases h)]
    simp only [xM]
    refine iE Tryz.mix Tryz.func189 Tryz.ntmps189 ?_
    have W:=trivial
    repeat' first|refine we ?_|(refine sq (fun hc=>?_) (fun hc=>?_)<;>try exact hc.elim)|fail
    all_goals (try (refine ⟨by first|exact .inr rfl|exact .inl rfl,?_⟩;simp [dK,bQ,bN,rowOf,Tryz.results189]))
   ·rw [if_pos ⟨rfl,rfl⟩]
    simp only [xM]
    refine iE Tryz.mix Tryz.func189 Tryz.ntmps189 ?_
    have W:=trivial
    repeat' first|refine we ?_|(refine sq (fun hc=>?_) (fun hc=>?_)<;>try exact hc.elim)|fail
    all_goals (try (refine ⟨by first|exact .inr rfl|exact .inl rfl,?_⟩;simp [dK,bQ,bN,rowOf,Tryz.results189]))
  ·have h2b:(tn == [105,109,103])=false:=by simpa [xM] using h2
   rw [if_neg (by rintro ⟨h,_⟩;exact h2 h)]
   refine iE Tryz.mix Tryz.func189 Tryz.ntmps189 ?_
   have W:=And.intro h1b h2b
   repeat' first|refine we ?_|(refine sq (fun hc=>?_) (fun hc=>?_)<;>try exact hc.elim)|fail
   all_goals (try (refine ⟨by first|exact .inr rfl|exact .inl rfl,?_⟩;simp [dK,bQ,bN,rowOf,Tryz.results189]))
theorem aC6 [aA Tryz.prog] (p:aJ) (t:aW) (n:Int) (hs:aD p≤274877906944) (ht:aV t≤274877906944):OkG Tryz.prog 186 [.give (.agg (aG .own p)),.view (.agg (aU .view t)),.view (.int .i64 n)] (.agg (aG .own (uL p t n))):=by
 obtain ⟨tk,tn,ta,tx⟩:=t
 have hta:ta.length+aC eQ ta≤274877906944:=by simp only [aV,szL] at ht;omega
 have z1:=gX ta bW
 have z2:=gX ta pO
 have z3:=gX ta fV
 have c1:=jO ta bW (by omega)
 have c2:=jO ta pO (by omega)
 have c3:=jO ta fV (by omega)
 have a2:=tN p 2 (aN ta pO).1 (aN ta bW).1 n hs (by omega) (by omega)
 have a1:=tN p 1 (aN ta fV).1 (aN ta bW).1 n hs (by omega) (by omega)
 simp only [uL]
 generalize fT p 2 (aN ta pO).1 (aN ta bW).1 n=g2 at *
 generalize fT p 1 (aN ta fV).1 (aN ta bW).1 n=g1 at *
 simp only [aG] at a1 a2
 clear z1 z2 z3
 generalize aN ta bW=fd at *
 generalize aN ta pO=fh at *
 generalize aN ta fV=fs at *
 obtain ⟨dv,db⟩:=fd
 obtain ⟨hv,hb⟩:=fh
 obtain ⟨sv,sb⟩:=fs
 simp only [bW] at c1
 simp only [pO] at c2
 simp only [fV] at c3
 by_cases h1:tn=yF
 ·have h2:¬tn=xM:=by rw [h1];decide
  subst h1
  cases hb
  ·rw [if_neg (by rintro ⟨_,h⟩;cases h),if_neg (by rintro ⟨h,_⟩;exact h2 h)]
   simp only [yF]
   cases sb
   ·refine iE Tryz.mix Tryz.func186 Tryz.ntmps186 ?_
    have W:=trivial
    repeat' first|refine we ?_|(refine sq (fun hc=>?_) (fun hc=>?_)<;>try exact hc.elim)|fail
    all_goals (try (refine ⟨by first|exact .inr rfl|exact .inl rfl,?_⟩;simp [dK,bQ,bN,rowOf,Tryz.results186]))
   ·refine iE Tryz.mix Tryz.func186 Tryz.ntmps186 ?_
    have W:=trivial
    repeat' first|refine we ?_|(refine sq (fun hc=>?_) (fun hc=>?_)<;>try exact hc.elim)|fail
    all_goals (try (refine ⟨by first|exact .inr rfl|exact .inl rfl,?_⟩;simp [dK,bQ,bN,rowOf,Tryz.results186]))
  ·rw [if_pos ⟨rfl,rfl⟩]
   simp only [yF]
   cases sb
   ·refine iE Tryz.mix Tryz.func186 Tryz.ntmps186 ?_
    have W:=trivial
    repeat' first|refine we ?_|(refine sq (fun hc=>?_) (fun hc=>?_)<;>try exact hc.elim)|fail
    all_goals (try (refine ⟨by first|exact .inr rfl|exact .inl rfl,?_⟩;simp [dK,bQ,bN,rowOf,Tryz.results186]))
   ·refine iE Tryz.mix Tryz.func186 Tryz.ntmps186 ?_
    have W:=trivial
    repeat' first|refine we ?_|(refine sq (fun hc=>?_) (fun hc=>?_)<;>try exact hc.elim)|fail
    all_goals (try (refine ⟨by first|exact .inr rfl|exact .inl rfl,?_⟩;simp [dK,bQ,bN,rowOf,Tryz.results186]))
 ·rw [if_neg (by rintro ⟨h,_⟩;exact h1 h)]
  have h1b:(tn == [108,105,110,107])=false:=by simpa [yF] using h1
  by_cases h2:tn=xM
  ·subst h2
   simp only [xM] at h1b
   cases sb
   ·rw [if_neg (by rintro ⟨_,h⟩;cases h)]
    simp only [xM]
    cases hb
    ·refine iE Tryz.mix Tryz.func186 Tryz.ntmps186 ?_
     have W:=trivial
     repeat' first|refine we ?_|(refine sq (fun hc=>?_) (fun hc=>?_)<;>try exact hc.elim)|fail
     all_goals (try (refine ⟨by first|exact .inr rfl|exact .inl rfl,?_⟩;simp [dK,bQ,bN,rowOf,Tryz.results186]))
    ·refine iE Tryz.mix Tryz.func186 Tryz.ntmps186 ?_
     have W:=trivial
     repeat' first|refine we ?_|(refine sq (fun hc=>?_) (fun hc=>?_)<;>try exact hc.elim)|fail
     all_goals (try (refine ⟨by first|exact .inr rfl|exact .inl rfl,?_⟩;simp [dK,bQ,bN,rowOf,Tryz.results186]))
   ·rw [if_pos ⟨rfl,rfl⟩]
    simp only [xM]
    cases hb
    ·refine iE Tryz.mix Tryz.func186 Tryz.ntmps186 ?_
     have W:=trivial
     repeat' first|refine we ?_|(refine sq (fun hc=>?_) (fun hc=>?_)<;>try exact hc.elim)|fail
     all_goals (try (refine ⟨by first|exact .inr rfl|exact .inl rfl,?_⟩;simp [dK,bQ,bN,rowOf,Tryz.results186]))
    ·refine iE Tryz.mix Tryz.func186 Tryz.ntmps186 ?_
     have W:=trivial
     repeat' first|refine we ?_|(refine sq (fun hc=>?_) (fun hc=>?_)<;>try exact hc.elim)|fail
     all_goals (try (refine ⟨by first|exact .inr rfl|exact .inl rfl,?_⟩;simp [dK,bQ,bN,rowOf,Tryz.results186]))
  ·have h2b:(tn == [105,109,103])=false:=by simpa [xM] using h2
   rw [if_neg (by rintro ⟨h,_⟩;exact h2 h)]
   cases hb<;>cases sb
   ·refine iE Tryz.mix Tryz.func186 Tryz.ntmps186 ?_
    have W:=And.intro h1b h2b
    repeat' first|refine we ?_|(refine sq (fun hc=>?_) (fun hc=>?_)<;>try exact hc.elim)|fail
    all_goals (try (refine ⟨by first|exact .inr rfl|exact .inl rfl,?_⟩;simp [dK,bQ,bN,rowOf,Tryz.results186]))
   ·refine iE Tryz.mix Tryz.func186 Tryz.ntmps186 ?_
    have W:=And.intro h1b h2b
    repeat' first|refine we ?_|(refine sq (fun hc=>?_) (fun hc=>?_)<;>try exact hc.elim)|fail
    all_goals (try (refine ⟨by first|exact .inr rfl|exact .inl rfl,?_⟩;simp [dK,bQ,bN,rowOf,Tryz.results186]))
   ·refine iE Tryz.mix Tryz.func186 Tryz.ntmps186 ?_
    have W:=And.intro h1b h2b
    repeat' first|refine we ?_|(refine sq (fun hc=>?_) (fun hc=>?_)<;>try exact hc.elim)|fail
    all_goals (try (refine ⟨by first|exact .inr rfl|exact .inl rfl,?_⟩;simp [dK,bQ,bN,rowOf,Tryz.results186]))
   ·refine iE Tryz.mix Tryz.func186 Tryz.ntmps186 ?_
    have W:=And.intro h1b h2b
    repeat' first|refine we ?_|(refine sq (fun hc=>?_) (fun hc=>?_)<;>try exact hc.elim)|fail
    all_goals (try (refine ⟨by first|exact .inr rfl|exact .inl rfl,?_⟩;simp [dK,bQ,bN,rowOf,Tryz.results186]))
end Go.Proofs.YtlnblmmohpcceaaGreatDoor
