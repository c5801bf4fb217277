/- Proved here: steps towards the statement of this claim. No condition. -/
import Derived.Test.YtlnblmmohpcceaaGreatDoorZQQ4
set_option linter.all false
set_option maxRecDepth 4000
set_option maxHeartbeats 4000000
namespace Go.Proofs.YtlnblmmohpcceaaGreatDoor
open Go.Aw Proofs.Tryz List IntKind
theorem nI [aD prog] (b:aW) (t:bH) (hs:aH b<=274877906944) (ht:bF t<=274877906944):Ok prog 185 [.agg (aN .view b),.agg (bB .view t)] (.gV [.agg (aN .own (addToken b t).1),.int .i64 (addToken b t).2]):=by
 by_cases hk2:t.kind=2
 ·have c1:=jC b hs
  have c2:=TJ b t.name hs
  rw [zD hk2]
  obtain ⟨tk,tn,ta,tx⟩:=t
  simp only at hk2 c2
  subst hk2
  simp only [aN] at c1 c2
  generalize nA b tn (b.opens.length - 1)=oc at *
  refine bR aAc func185 ntmps185 ?_
  have W:=trivial
  repeat' first|refine we ?_|(refine nx ?_;refine sg (hc:=c2) (h:=?_))|(refine sq ?_ ?_<;>intro hc<;>try exact hc.elim)|fail
  all_goals try(refine ⟨.inr rfl,?_⟩;simp [aB,results185])
 have c1:=jC b hs
 have c2:=Qb t.name
 have c3:=Fw t.attrs (by simp only [bF,bP] at ht;omega)
 have hn:b.nodes.length<=274877906944/\b.opens.length<=274877906944:=by simp only [aH,bP] at hs;omega
 have ae:t.attrs.length<=274877906944:=by simp only [bF,bP] at ht;omega
 have other:=Dx (b:=b) hk2
 have full:=EJ (b:=b) hk2
 have new:=Hm (b:=b) hk2
 obtain ⟨tk,tn,ta,tx⟩:=t
 simp only at hk2 other full new c2 c3 ae
 simp only [aN] at c1
 by_cases hk:tk=1\/(tk=3/\tx≠[])
 ·by_cases Hf:(40:Int)<=(b.nodes.length:Int)
  ·rw [full (.inl (by omega))]
   rcases hk with rfl|⟨rfl,hx⟩
   ·refine bR aAc func185 ntmps185 ?_
    have W:=Hf
    repeat' first|refine we ?_|(refine sq ?_ ?_<;>intro hc<;>try exact hc.elim)|fail
    all_goals try(refine ⟨.inr rfl,?_⟩;simp [aB,results185])
   ·refine bR aAc func185 ntmps185 ?_
    have W:=aA Hf hx
    repeat' first|refine we ?_|(refine sq ?_ ?_<;>intro hc<;>try exact hc.elim)|fail
    all_goals try(refine ⟨.inr rfl,?_⟩;simp [aB,results185])
  rcases eq_nil_or_concat b.opens with ho|⟨os,lo,ho⟩
  ·rw [full (.inr (.inl ho))]
   have hl0z:b.opens.length=0:=by rw [ho];rfl
   rcases hk with rfl|⟨rfl,hx⟩
   ·refine bR aAc func185 ntmps185 ?_
    have W:=aA Hf hl0z
    repeat' first|refine we ?_|(refine sq ?_ ?_<;>intro hc<;>try exact hc.elim)|fail
    all_goals try(refine ⟨.inr rfl,?_⟩;simp [aB,results185])
   ·refine bR aAc func185 ntmps185 ?_
    have W:=aA Hf (aA hx hl0z)
    repeat' first|refine we ?_|(refine sq ?_ ?_<;>intro hc<;>try exact hc.elim)|fail
    all_goals try(refine ⟨.inr rfl,?_⟩;simp [aB,results185])
  have hne:b.opens≠[]:=by rw [ho];simp
  have hlast:b.opens.getLastD 0=lo:=by rw [ho];simp
  have hlen:b.opens.length=os.length+1:=by rw [ho];simp
  have hl0z:¬b.opens.length=0:=by omega
  have hlt:os.length < b.opens.length:=by omega
  have hg:b.opens[os.length]? =some lo:=by rw [ho];simp
  have hw:i64.wrap ((b.opens.length:Int) - 1)=((os.length:Nat):Int):=by rw [wrap64]<;>omega
  clear ho hlen
  rcases hk with rfl|⟨rfl,hx⟩
  ·have hnw:pQ b ⟨1,tn,ta,tx⟩=⟨tn,[],lo,ta⟩:=by unfold pQ;rw [hlast];simp
   cases jh:Ca tn
   ·rw [jh] at c2
    have hop:kR ⟨1,tn,ta,tx⟩=true:=by simp [kR,jh]
    by_cases h8:(8:Int)<=(b.opens.length:Int)
    ·rw [full (.inr (.inr ⟨hop,by omega⟩))]
     refine bR aAc func185 ntmps185 ?_
     have W:=aA Hf (aA hl0z h8)
     repeat' first|refine we ?_|(refine sq ?_ ?_<;>intro hc<;>try exact hc.elim)|fail
     all_goals try(refine ⟨.inr rfl,?_⟩;simp [aB,results185])
    ·rw [new (.inl rfl) (by rintro (h|h|⟨_,h⟩);omega;exact hne h;omega),if_pos hop,hnw]
     obtain ⟨l0,hl0⟩:∃l,l=b.nodes++[(⟨tn,[],lo,ta⟩:eY)]:=⟨_,rfl⟩
     have hap:b.nodes.map (bX .own)++[[.str tn,.str [],.int .i64 lo,.sl .own 2 (ta.map fQ)]]=l0.map (bX .own):=by rw [hl0];simp
     obtain ⟨o0,ho0⟩:∃l,l=b.opens++[((b.nodes.length:Nat):Int)]:=⟨_,rfl⟩
     have hao:b.opens.map iX++[[.int .i64 ((b.nodes.length:Nat):Int)]]=o0.map iX:=by rw [ho0];simp
     rw [<-hl0,<-ho0]
     clear hl0 ho0
     refine bR aAc func185 ntmps185 ?_
     have W:=aA Hf (aA hl0z (aA h8 (aA hg (aA hw (aA hn (aA ae (aA hap hao)))))))
     have V:=hlt
     repeat' first|refine we ?_|(refine sq ?_ ?_<;>intro hc<;>try exact hc.elim)|fail
     all_goals try(refine ⟨.inr rfl,?_⟩;simp [aB,results185])
   ·rw [jh] at c2
    have hop:kR ⟨1,tn,ta,tx⟩=false:=by simp [kR,jh]
    rw [new (.inl rfl) (by rintro (h|h|⟨h,_⟩);omega;exact hne h;(rw [hop] at h;cases h)),if_neg (by rw [hop];decide),hnw]
    obtain ⟨l0,hl0⟩:∃l,l=b.nodes++[(⟨tn,[],lo,ta⟩:eY)]:=⟨_,rfl⟩
    have hap:b.nodes.map (bX .own)++[[.str tn,.str [],.int .i64 lo,.sl .own 2 (ta.map fQ)]]=l0.map (bX .own):=by rw [hl0];simp
    rw [<-hl0]
    clear hl0
    refine bR aAc func185 ntmps185 ?_
    have W:=aA Hf (aA hl0z (aA hg (aA hw (aA hn (aA ae hap)))))
    have V:=hlt
    repeat' first|refine we ?_|(refine sq ?_ ?_<;>intro hc<;>try exact hc.elim)|fail
    all_goals try(refine ⟨.inr rfl,?_⟩;simp [aB,results185])
  ·have hnw:pQ b ⟨3,tn,ta,tx⟩=⟨[],tx,lo,[]⟩:=by unfold pQ;rw [hlast];simp
   have hop:kR ⟨3,tn,ta,tx⟩=false:=by simp [kR]
   rw [new (.inr ⟨rfl,hx⟩) (by rintro (h|h|⟨h,_⟩);omega;exact hne h;(rw [hop] at h;cases h)),if_neg (by rw [hop];decide),hnw]
   obtain ⟨l0,hl0⟩:∃l,l=b.nodes++[(⟨[],tx,lo,[]⟩:eY)]:=⟨_,rfl⟩
   have hap:b.nodes.map (bX .own)++[[.str [],.str tx,.int .i64 lo,.sl .own 2 []]]=l0.map (bX .own):=by rw [hl0];simp
   rw [<-hl0]
   clear hl0
   have hxb:(tx != [])=true:=by simpa using hx
   refine rU aAc [15] func185 ntmps185 ?_
   have W:=aA Hf (aA hl0z (aA hxb (aA hg (aA hw (aA hn hap)))))
   have V:=hlt
   repeat' first|refine we ?_|(refine sq ?_ ?_<;>intro hc<;>try exact hc.elim)|fail
   all_goals first|(exact (hx (by assumption)).elim)|refine go_openB 6 0 3 (by rfl) (by rfl) (by rfl) ?_
   have W:=aA Hf (aA hl0z (aA hxb (aA hg (aA hw (aA hn hap)))))
   have V:=hlt
   repeat' first|refine we ?_|(refine sq ?_ ?_<;>intro hc<;>try exact hc.elim)|fail
   all_goals try(refine ⟨.inr rfl,?_⟩;simp [aB,results185])
 ·have h1:¬tk=1:=fun h=>hk (.inl h)
  have hoth:addToken b ⟨tk,tn,ta,tx⟩=(b, -1):=other h1 (fun h3=>Classical.byContradiction fun h=>hk (.inr ⟨h3,h⟩))
  rw [hoth]
  by_cases Hf:(40:Int)<=(b.nodes.length:Int)
  ·refine bR aAc func185 ntmps185 ?_
   have W:=aA hk2 (aA h1 Hf)
   repeat' first|refine we ?_|(refine sq ?_ ?_<;>intro hc<;>try exact hc.elim)|fail
   all_goals try(refine ⟨.inr rfl,?_⟩;simp [aB,results185])
  rcases eq_nil_or_concat b.opens with ho|⟨os,lo,ho⟩
  ·have hl0z:b.opens.length=0:=by rw [ho];rfl
   refine bR aAc func185 ntmps185 ?_
   have W:=aA hk2 (aA h1 (aA Hf hl0z))
   repeat' first|refine we ?_|(refine sq ?_ ?_<;>intro hc<;>try exact hc.elim)|fail
   all_goals try(refine ⟨.inr rfl,?_⟩;simp [aB,results185])
  have hlen:b.opens.length=os.length+1:=by rw [ho];simp
  have hl0z:¬b.opens.length=0:=by omega
  have hlt:os.length < b.opens.length:=by omega
  have hg:b.opens[os.length]? =some lo:=by rw [ho];simp
  have hw:i64.wrap ((b.opens.length:Int) - 1)=((os.length:Nat):Int):=by rw [wrap64]<;>omega
  clear ho hlen
  by_cases h3:tk=3
  ·have hx:tx=[]:=Classical.byContradiction fun h=>hk (.inr ⟨h3,h⟩)
   subst h3;subst hx
   refine bR aAc func185 ntmps185 ?_
   have W:=aA Hf (aA hl0z (aA hg (aA hw hn)))
   have V:=hlt
   repeat' first|refine we ?_|(refine sq ?_ ?_<;>intro hc<;>try exact hc.elim)|fail
   all_goals try(refine ⟨.inr rfl,?_⟩;simp [aB,results185])
  ·refine bR aAc func185 ntmps185 ?_
   have W:=aA hk2 (aA h1 (aA h3 (aA Hf (aA hl0z (aA hg (aA hw hn))))))
   have V:=hlt
   repeat' first|refine we ?_|(refine sq ?_ ?_<;>intro hc<;>try exact hc.elim)|fail
   all_goals try(refine ⟨.inr rfl,?_⟩;simp [aB,results185])
def pR (p:gN) (n:bC):Bool:= !p.isSet || ((p.Gx != [])&&(p.Gx == n))
theorem Em [aD prog] (p:gN) (n:bC):Ok prog 242 [.agg (bV .view p),.str n] (.bool (pR p n)):=by
 obtain ⟨pis,psc,pst,pim,nc⟩:=p
 unfold pR
 cases pis
 ·refine bR aAc func242 ntmps242 ?_
  have W:=trivial
  repeat' first|refine we ?_|(refine sq ?_ ?_<;>intro hc<;>try exact hc.elim)|fail
  all_goals try(refine ⟨.inr rfl,?_⟩;simp [aB,results242])
 ·by_cases h:nc=[]
  ·subst h
   refine bR aAc func242 ntmps242 ?_
   have W:=trivial
   repeat' first|refine we ?_|(refine sq ?_ ?_<;>intro hc<;>try exact hc.elim)|fail
   all_goals try(refine ⟨.inr rfl,?_⟩;simp [aB,results242])
  ·have h2:(nc != [])=true:=by simpa using h
   refine bR aAc func242 ntmps242 ?_
   have W:=aA h h2
   repeat' first|refine we ?_|(refine sq ?_ ?_<;>intro hc<;>try exact hc.elim)|fail
   all_goals try(refine ⟨.inr rfl,?_⟩;simp [aB,results242,h,h2])
theorem En [aD prog] (p:gN) (n:bC):Ok prog 238 [.agg (bV .view p),.str n] (.bool (pR p n)):=by
 obtain ⟨pis,psc,pst,pim,nc⟩:=p
 unfold pR
 cases pis
 ·refine bR aAc func238 ntmps238 ?_
  have W:=trivial
  repeat' first|refine we ?_|(refine sq ?_ ?_<;>intro hc<;>try exact hc.elim)|fail
  all_goals try(refine ⟨.inr rfl,?_⟩;simp [aB,results238])
 ·by_cases h:nc=[]
  ·subst h
   refine bR aAc func238 ntmps238 ?_
   have W:=trivial
   repeat' first|refine we ?_|(refine sq ?_ ?_<;>intro hc<;>try exact hc.elim)|fail
   all_goals try(refine ⟨.inr rfl,?_⟩;simp [aB,results238])
  ·have h2:(nc != [])=true:=by simpa using h
   refine bR aAc func238 ntmps238 ?_
   have W:=aA h h2
   repeat' first|refine we ?_|(refine sq ?_ ?_<;>intro hc<;>try exact hc.elim)|fail
   all_goals try(refine ⟨.inr rfl,?_⟩;simp [aB,results238,h,h2])
def AB (p:aP) (t:bH) (n:Int):aP:=
 if t.name=EI/\(aQ t.attrs xP).2=true then (fP p 2 (aQ t.attrs xP).1 (aQ t.attrs dE).1 n).1
 else if t.name=Jp/\(aQ t.attrs lX).2=true then (fP p 1 (aQ t.attrs lX).1 (aQ t.attrs dE).1 n).1 else p
theorem Qc [aD prog] (p:aP) (t:bH) (n:Int) (hs:aL p<=274877906944) (ht:bF t<=274877906944):IJ prog 189 [.mE (.agg (aM .own p)),.view (.agg (bB .view t)),.view (.int .i64 n)] (.agg (aM .own (AB p t n))):=by
 obtain ⟨tk,tn,ta,tx⟩:=t
 have ae:ta.length+aO fI ta<=274877906944:=by simp only [bF,bP] at ht;omega
 have z1:=kJ ta dE
 have z2:=kJ ta xP
 have z3:=kJ ta lX
 have c1:=kH ta dE (by omega)
 have c2:=kH ta xP (by omega)
 have c3:=kH ta lX (by omega)
 have a2:=uQ p 2 (aQ ta xP).1 (aQ ta dE).1 n hs (by omega) (by omega)
 have a1:=uQ p 1 (aQ ta lX).1 (aQ ta dE).1 n hs (by omega) (by omega)
 simp only [AB]
 generalize fP p 2 (aQ ta xP).1 (aQ ta dE).1 n=g2 at *
 generalize fP p 1 (aQ ta lX).1 (aQ ta dE).1 n=g1 at *
 simp only [aM] at a1 a2
 clear z1 z2 z3
 generalize aQ ta dE=fd at *
 generalize aQ ta xP=fh at *
 generalize aQ ta lX=fs at *
 obtain ⟨dv,db⟩:=fd
 obtain ⟨hv,hb⟩:=fh
 obtain ⟨sv,sb⟩:=fs
 simp only [dE] at c1
 simp only [xP] at c2
 simp only [lX] at c3
 by_cases h1:tn=EI
 ·have h2:¬tn=Jp:=by rw [h1];decide
  subst h1
  cases hb
  ·rw [if_neg (by rintro ⟨_,h⟩;cases h),if_neg (by rintro ⟨h,_⟩;exact h2 h)]
   simp only [EI]
   refine oI aAc func189 ntmps189 ?_
   have W:=trivial
   repeat' first|refine we ?_|(refine sq ?_ ?_<;>intro hc<;>try exact hc.elim)|fail
   all_goals try(refine ⟨by first|exact .inr rfl|exact .inl rfl,?_⟩;simp [eZ,cZ,bZ,rowOf,results189])
  ·rw [if_pos ⟨rfl,rfl⟩]
   simp only [EI]
   refine oI aAc func189 ntmps189 ?_
   have W:=trivial
   repeat' first|refine we ?_|(refine sq ?_ ?_<;>intro hc<;>try exact hc.elim)|fail
   all_goals try(refine ⟨by first|exact .inr rfl|exact .inl rfl,?_⟩;simp [eZ,cZ,bZ,rowOf,results189])
 ·rw [if_neg (by rintro ⟨h,_⟩;exact h1 h)]
  have VZ:(tn == [108,105,110,107])=false:=by simpa [EI] using h1
  by_cases h2:tn=Jp
  ·subst h2
   cases sb
   ·rw [if_neg (by rintro ⟨_,h⟩;cases h)]
    simp only [Jp]
    refine oI aAc func189 ntmps189 ?_
    have W:=trivial
    repeat' first|refine we ?_|(refine sq ?_ ?_<;>intro hc<;>try exact hc.elim)|fail
    all_goals try(refine ⟨by first|exact .inr rfl|exact .inl rfl,?_⟩;simp [eZ,cZ,bZ,rowOf,results189])
   ·rw [if_pos ⟨rfl,rfl⟩]
    simp only [Jp]
    refine oI aAc func189 ntmps189 ?_
    have W:=trivial
    repeat' first|refine we ?_|(refine sq ?_ ?_<;>intro hc<;>try exact hc.elim)|fail
    all_goals try(refine ⟨by first|exact .inr rfl|exact .inl rfl,?_⟩;simp [eZ,cZ,bZ,rowOf,results189])
  ·have af:(tn == [105,109,103])=false:=by simpa [Jp] using h2
   rw [if_neg (by rintro ⟨h,_⟩;exact h2 h)]
   refine oI aAc func189 ntmps189 ?_
   have W:=aA VZ af
   repeat' first|refine we ?_|(refine sq ?_ ?_<;>intro hc<;>try exact hc.elim)|fail
   all_goals try(refine ⟨by first|exact .inr rfl|exact .inl rfl,?_⟩;simp [eZ,cZ,bZ,rowOf,results189])
theorem Dy [aD prog] (p:aP) (t:bH) (n:Int) (hs:aL p<=274877906944) (ht:bF t<=274877906944):IJ prog 186 [.mE (.agg (aM .own p)),.view (.agg (bB .view t)),.view (.int .i64 n)] (.agg (aM .own (AB p t n))):=by
 obtain ⟨tk,tn,ta,tx⟩:=t
 have ae:ta.length+aO fI ta<=274877906944:=by simp only [bF,bP] at ht;omega
 have z1:=kJ ta dE
 have z2:=kJ ta xP
 have z3:=kJ ta lX
 have c1:=jE ta dE (by omega)
 have c2:=jE ta xP (by omega)
 have c3:=jE ta lX (by omega)
 have a2:=uP p 2 (aQ ta xP).1 (aQ ta dE).1 n hs (by omega) (by omega)
 have a1:=uP p 1 (aQ ta lX).1 (aQ ta dE).1 n hs (by omega) (by omega)
 simp only [AB]
 generalize fP p 2 (aQ ta xP).1 (aQ ta dE).1 n=g2 at *
 generalize fP p 1 (aQ ta lX).1 (aQ ta dE).1 n=g1 at *
 simp only [aM] at a1 a2
 clear z1 z2 z3
 generalize aQ ta dE=fd at *
 generalize aQ ta xP=fh at *
 generalize aQ ta lX=fs at *
 obtain ⟨dv,db⟩:=fd
 obtain ⟨hv,hb⟩:=fh
 obtain ⟨sv,sb⟩:=fs
 simp only [dE] at c1
 simp only [xP] at c2
 simp only [lX] at c3
 by_cases h1:tn=EI
 ·have h2:¬tn=Jp:=by rw [h1];decide
  subst h1
  cases hb
  ·rw [if_neg (by rintro ⟨_,h⟩;cases h),if_neg (by rintro ⟨h,_⟩;exact h2 h)]
   simp only [EI]
   cases sb
   ·refine oI aAc func186 ntmps186 ?_
    have W:=trivial
    repeat' first|refine we ?_|(refine sq ?_ ?_<;>intro hc<;>try exact hc.elim)|fail
    all_goals try(refine ⟨by first|exact .inr rfl|exact .inl rfl,?_⟩;simp [eZ,cZ,bZ,rowOf,results186])
   ·refine oI aAc func186 ntmps186 ?_
    have W:=trivial
    repeat' first|refine we ?_|(refine sq ?_ ?_<;>intro hc<;>try exact hc.elim)|fail
    all_goals try(refine ⟨by first|exact .inr rfl|exact .inl rfl,?_⟩;simp [eZ,cZ,bZ,rowOf,results186])
  ·rw [if_pos ⟨rfl,rfl⟩]
   simp only [EI]
   cases sb
   ·refine oI aAc func186 ntmps186 ?_
    have W:=trivial
    repeat' first|refine we ?_|(refine sq ?_ ?_<;>intro hc<;>try exact hc.elim)|fail
    all_goals try(refine ⟨by first|exact .inr rfl|exact .inl rfl,?_⟩;simp [eZ,cZ,bZ,rowOf,results186])
   ·refine oI aAc func186 ntmps186 ?_
    have W:=trivial
    repeat' first|refine we ?_|(refine sq ?_ ?_<;>intro hc<;>try exact hc.elim)|fail
    all_goals try(refine ⟨by first|exact .inr rfl|exact .inl rfl,?_⟩;simp [eZ,cZ,bZ,rowOf,results186])
 ·rw [if_neg (by rintro ⟨h,_⟩;exact h1 h)]
  have VZ:(tn == [108,105,110,107])=false:=by simpa [EI] using h1
  by_cases h2:tn=Jp
  ·subst h2
   simp only [Jp] at VZ
   cases sb
   ·rw [if_neg (by rintro ⟨_,h⟩;cases h)]
    simp only [Jp]
    cases hb
    ·refine oI aAc func186 ntmps186 ?_
     have W:=trivial
     repeat' first|refine we ?_|(refine sq ?_ ?_<;>intro hc<;>try exact hc.elim)|fail
     all_goals try(refine ⟨by first|exact .inr rfl|exact .inl rfl,?_⟩;simp [eZ,cZ,bZ,rowOf,results186])
    ·refine oI aAc func186 ntmps186 ?_
     have W:=trivial
     repeat' first|refine we ?_|(refine sq ?_ ?_<;>intro hc<;>try exact hc.elim)|fail
     all_goals try(refine ⟨by first|exact .inr rfl|exact .inl rfl,?_⟩;simp [eZ,cZ,bZ,rowOf,results186])
   ·rw [if_pos ⟨rfl,rfl⟩]
    simp only [Jp]
    cases hb
    ·refine oI aAc func186 ntmps186 ?_
     have W:=trivial
     repeat' first|refine we ?_|(refine sq ?_ ?_<;>intro hc<;>try exact hc.elim)|fail
     all_goals try(refine ⟨by first|exact .inr rfl|exact .inl rfl,?_⟩;simp [eZ,cZ,bZ,rowOf,results186])
    ·refine oI aAc func186 ntmps186 ?_
     have W:=trivial
     repeat' first|refine we ?_|(refine sq ?_ ?_<;>intro hc<;>try exact hc.elim)|fail
     all_goals try(refine ⟨by first|exact .inr rfl|exact .inl rfl,?_⟩;simp [eZ,cZ,bZ,rowOf,results186])
  ·have af:(tn == [105,109,103])=false:=by simpa [Jp] using h2
   rw [if_neg (by rintro ⟨h,_⟩;exact h2 h)]
   cases hb<;>cases sb
   ·refine oI aAc func186 ntmps186 ?_
    have W:=aA VZ af
    repeat' first|refine we ?_|(refine sq ?_ ?_<;>intro hc<;>try exact hc.elim)|fail
    all_goals try(refine ⟨by first|exact .inr rfl|exact .inl rfl,?_⟩;simp [eZ,cZ,bZ,rowOf,results186])
   ·refine oI aAc func186 ntmps186 ?_
    have W:=aA VZ af
    repeat' first|refine we ?_|(refine sq ?_ ?_<;>intro hc<;>try exact hc.elim)|fail
    all_goals try(refine ⟨by first|exact .inr rfl|exact .inl rfl,?_⟩;simp [eZ,cZ,bZ,rowOf,results186])
   ·refine oI aAc func186 ntmps186 ?_
    have W:=aA VZ af
    repeat' first|refine we ?_|(refine sq ?_ ?_<;>intro hc<;>try exact hc.elim)|fail
    all_goals try(refine ⟨by first|exact .inr rfl|exact .inl rfl,?_⟩;simp [eZ,cZ,bZ,rowOf,results186])
   ·refine oI aAc func186 ntmps186 ?_
    have W:=aA VZ af
    repeat' first|refine we ?_|(refine sq ?_ ?_<;>intro hc<;>try exact hc.elim)|fail
    all_goals try(refine ⟨by first|exact .inr rfl|exact .inl rfl,?_⟩;simp [eZ,cZ,bZ,rowOf,results186])
end Go.Proofs.YtlnblmmohpcceaaGreatDoor
