/-
  Proved here: steps towards the statement of this claim, text QTK1.
  No condition beyond what each statement spells out.
-/
import Derived.Test.YtaddkhdghlaalaaGreatDoorQMK1
import Derived.Test.YtaddkhdghlaalaaGreatDoorQR5
import Derived.Test.YtaddkhdghlaalaaGreatDoorF8
import Derived.Test.YtaddkhdghlaalaaGreatDoorF6
set_option linter.all false
set_option maxRecDepth 4000
set_option maxHeartbeats 4000000
namespace Go.Proofs.YtaddkhdghlaalaaGreatDoor
open Go.Aw
def aHt (n:Str):Bool:=decide (n=[105,109,103]) || decide (n=[108,105,110,107])
def uC (b:aX) (m:Str) (n:Int):Bool:=decide (0≤n)&&(b.nodes[n.toNat]?).any fun x=>decide (x.name=m)
def nI (b:aX) (m:Str):Nat→List Int
 |0=>b.opens
 |i+1=>if (b.opens[i+1]?).any (uC b m) then b.opens.take (i+1) else nI b m i
def oO (t:bE):Bool:=decide (t.kind=1)&& !aHt t.name
def rV (b:aX) (t:bE):gW:=if t.kind=1 then ⟨t.name,[],b.opens.getLastD 0,t.attrs⟩ else ⟨[],t.text,b.opens.getLastD 0,[]⟩
def dD (b:aX) (t:bE):aX×Int:=
 if t.kind=2 then ({b with opens:=nI b t.name (b.opens.length - 1)}, -1)
 else if¬(t.kind=1∨(t.kind=3∧t.text≠[])) then (b, -1)
 else if 40≤b.nodes.length∨b.opens=[]∨(oO t=true∧8≤b.opens.length) then (b, -1)
 else ({nodes:=b.nodes++[rV b t],opens:=if oO t=true then b.opens++[((b.nodes.length:Nat):Int)] else b.opens},((b.nodes.length:Nat):Int))
theorem aIo (b:aX) (m:Str):∀k,(nI b m k).length≤b.opens.length
 |0=>Nat.le_refl _
 |k+1=>by
  unfold nI
  split
  ·simp;omega
  ·exact aIo b m k
theorem aPm [aB Tryz.prog] (n:Str):Ok Tryz.prog 194 [.str n] (.bool (aHt n)):=by
 unfold aHt
 refine ent Tryz.mix Tryz.func194 Tryz.ntmps194 ?_
 have W:=trivial
 repeat' first|refine st ?_|(refine nx ?_;first|refine se ?_|refine so ?_)|(refine cx ?_;refine sc (fun hc=>?_) (fun hc=>?_)<;>try exact hc.elim)|(refine lx ?_;refine sp (fun hc=>?_) (fun hc=>?_)<;>try exact hc.elim)|refine sx ?_ ?_|refine sy ?_ ?_|fail
 all_goals (try (refine ⟨.inr rfl,?_⟩;simp [Hands,Tryz.results194]))
 all_goals first|(simp [hc];done)|(rw [Bool.eq_iff_iff];simp [hc])
theorem bBw {b:aX} {m:Str} {n:Int} (h:¬(0≤n∧n < (b.nodes.length:Int))):uC b m n=false:=by
 unfold uC
 by_cases h0:0≤n
 ·rw [List.getElem?_eq_none (by omega)];simp
 ·simp [h0]
theorem aVr {b:aX} {m:Str} {k:Nat} (h:k < b.nodes.length):uC b m ((k:Nat):Int)=decide (b.nodes[k].name=m):=by
 unfold uC
 simp [List.getElem?_eq_getElem h]
theorem aDq {b:aX} {t:bE} (h:t.kind=2):dD b t=({b with opens:=nI b t.name (b.opens.length - 1)}, -1):=by unfold dD;rw [if_pos h]
theorem aMq {b:aX} {t:bE} (h:¬t.kind=2) (h1:¬t.kind=1) (h3:t.kind=3→t.text=[]):dD b t=(b, -1):=by
 unfold dD
 rw [if_neg h,if_pos]
 rintro (h|⟨h,h'⟩)
 ·exact h1 h
 ·exact h' (h3 h)
theorem aQf {b:aX} {t:bE} (h:¬t.kind=2) (hf:40≤b.nodes.length∨b.opens=[]∨(oO t=true∧8≤b.opens.length)):dD b t=(b, -1):=by
 unfold dD
 rw [if_neg h]
 split<;>first|rfl|(rw [if_pos hf])
theorem aRg {b:aX} {t:bE} (h:¬t.kind=2) (hk:t.kind=1∨(t.kind=3∧t.text≠[])) (hf:¬(40≤b.nodes.length∨b.opens=[]∨(oO t=true∧8≤b.opens.length))):
  dD b t=({nodes:=b.nodes++[rV b t],opens:=if oO t=true then b.opens++[((b.nodes.length:Nat):Int)] else b.opens},((b.nodes.length:Nat):Int)):=by
 unfold dD
 rw [if_neg h,if_neg (fun hn=>hn hk),if_neg hf]
theorem aVg {b:aX} {m:Str} {k:Nat} {n:Int} (hg:b.opens[k+1]? =some n) (h:uC b m n=true):nI b m (k+1)=b.opens.take (k+1):=by
 unfold nI;rw [hg];simp [h]
theorem aRi {b:aX} {m:Str} {k:Nat} {n:Int} (hg:b.opens[k+1]? =some n) (h:uC b m n=false):nI b m (k+1)=nI b m k:=by
 conv=>lhs;unfold nI
 rw [hg];simp [h]
theorem aQv [aB Tryz.prog] (b:aX) (m:Str) (hs:aU b≤274877906944):OkG Tryz.prog 193 [.give (.agg (aZ .own b)),.view (.str m)] (.agg (aZ .own {b with opens:=nI b m (b.opens.length - 1)})):=by
 have hn:b.nodes.length≤274877906944∧b.opens.length≤274877906944:=by simp only [aU,szL] at hs;omega
 have hw0:IntKind.i64.wrap ((b.opens.length:Int) - 1)=(b.opens.length:Int) - 1:=by rw [wrap64]<;>omega
 have hw1:IntKind.i64.wrap ((b.nodes.length:Int) - 1)=(b.nodes.length:Int) - 1:=by rw [wrap64]<;>omega
 have cI:=fun n lo hi=>eQ n lo hi
 refine qD Tryz.mix Tryz.func193 Tryz.ntmps193 ?_
 have W:=hw0
 refine we ?_
 refine aR (ι:={q:Int // -1≤q∧q < (b.opens.length:Int)∧nI b m q.toNat=nI b m (b.opens.length - 1)}) (fun t o i=>⟨aS t [(5,.int .i64 i.1),(6,.undef)],o⟩) (fun i=>i.1.toNat) ⟨(b.opens.length:Int) - 1,by omega,by omega,by congr 1;omega⟩ aO ?_
 rintro ⟨q,hq1,hq2,hq3⟩ K1 hK1
 simp only [aS,List.set_cons_succ,List.set_cons_zero] at hK1⊢
 by_cases h1:(0:Int) < q
 ·obtain ⟨k,rfl⟩:∃k:Nat,q=((k+1:Nat):Int):=⟨(q - 1).toNat,by omega⟩
  have hlt:k+1 < b.opens.length:=by omega
  have hg:=List.getElem?_eq_getElem hlt
  have hm1:IntKind.i64.wrap (((k+1:Nat):Int) - 1)=((k:Nat):Int):=by rw [wrap64]<;>omega
  rw [show (((k+1:Nat):Int)).toNat=k+1 from by omega] at hq3
  generalize hnn:b.opens[k+1]=n at *
  cases hh:uC b m n
  ·rw [aRi hg hh] at hq3
   by_cases h01:0≤n∧n < (b.nodes.length:Int)
   ·obtain ⟨z,rfl⟩:=Int.eq_ofNat_of_zero_le h01.1
    have hm:z < b.nodes.length:=by omega
    rw [aVr hm] at hh
    have hgm:=List.getElem?_eq_getElem hm
    have hne:(b.nodes[z].name == m)=false:=by simpa using hh
    have c1:=cI ((z:Nat):Int) 0 ((b.nodes.length:Int) - 1)
    rw [show (decide ((0:Int)≤((z:Nat):Int))&&decide (((z:Nat):Int)≤(b.nodes.length:Int) - 1))=true from by simp;omega] at c1
    have W:=And.intro hg (And.intro hm1 (And.intro hw1 (And.intro hgm (And.intro hm (And.intro hne (And.intro h1 hn))))))
    have V:=hlt
    repeat' first|refine st ?_|(refine nx ?_;first|refine se ?_|refine so ?_)|(refine cx ?_;first|refine sT ?_|refine sF ?_)|fail
    all_goals exact hK1 _ ⟨((k:Nat):Int),by omega,by omega,by simpa using hq3⟩ aO (by first|omega|(simp only;omega)|(simp;omega))
   ·have c1:=cI n 0 ((b.nodes.length:Int) - 1)
    rw [show (decide ((0:Int)≤n)&&decide (n≤(b.nodes.length:Int) - 1))=false from by simp;omega] at c1
    have W:=And.intro hg (And.intro hm1 (And.intro hw1 (And.intro h1 hn)))
    have V:=hlt
    repeat' first|refine st ?_|(refine nx ?_;first|refine se ?_|refine so ?_)|(refine cx ?_;first|refine sT ?_|refine sF ?_)|fail
    all_goals exact hK1 _ ⟨((k:Nat):Int),by omega,by omega,by simpa using hq3⟩ aO (by first|omega|(simp only;omega)|(simp;omega))
  ·rw [aVg hg hh] at hq3
   have h01:0≤n∧n < (b.nodes.length:Int):=Classical.byContradiction fun h=>by rw [bBw h] at hh;cases hh
   obtain ⟨z,rfl⟩:=Int.eq_ofNat_of_zero_le h01.1
   have hm:z < b.nodes.length:=by omega
   rw [aVr hm] at hh
   have hgm:=List.getElem?_eq_getElem hm
   have hne:(b.nodes[z].name == m)=true:=by simpa using hh
   have c1:=cI ((z:Nat):Int) 0 ((b.nodes.length:Int) - 1)
   rw [show (decide ((0:Int)≤((z:Nat):Int))&&decide (((z:Nat):Int)≤(b.nodes.length:Int) - 1))=true from by simp;omega] at c1
   rw [←hq3]
   have W:=And.intro hg (And.intro hm1 (And.intro hw1 (And.intro hgm (And.intro hm (And.intro hne (And.intro h1 hn))))))
   have V:=hlt
   repeat' first|refine st ?_|(refine nx ?_;first|refine se ?_|refine so ?_)|(refine cx ?_;first|refine sT ?_|refine sF ?_)|fail
   all_goals (try (refine ⟨by first|exact .inr rfl|exact .inl rfl,?_⟩;simp [iM,fB,eH,rowOf,Tryz.results193,List.map_take]))
   all_goals (rw [←List.map_take];exact aX7 _)
 ·have hq4:nI b m (b.opens.length - 1)=b.opens:=by
   rw [←hq3,show q.toNat=0 by omega];rfl
  rw [hq4]
  have W:=h1
  refine we ?_
  all_goals (try (refine ⟨by first|exact .inr rfl|exact .inl rfl,?_⟩;simp [iM,fB,eH,rowOf,Tryz.results193]))
theorem nY [aB Tryz.prog] (b:aX) (t:bE) (hs:aU b≤274877906944) (ht:bN t≤274877906944):Ok Tryz.prog 174 [.agg (aZ .view b),.agg (bL .view t)] (.tup [.agg (aZ .own (dD b t).1),.int .i64 (dD b t).2]):=by
 by_cases hk2:t.kind=2
 ·have c1:=jM b hs
  have c2:=aQv b t.name hs
  rw [aDq hk2]
  obtain ⟨tk,tn,ta,tx⟩:=t
  simp only at hk2 c2
  subst hk2
  simp only [aZ] at c1 c2
  generalize nI b tn (b.opens.length - 1)=oc at *
  refine ent Tryz.mix Tryz.func174 Tryz.ntmps174 ?_
  have W:=trivial
  repeat' first|refine st ?_|(refine nx ?_;first|refine se ?_|refine so ?_|refine sg (hc:=c2) (h:=?_))|(refine cx ?_;first|refine sT ?_|refine sF ?_)|fail
  exact aM Tryz.results174
 have c1:=jM b hs
 have c2:=aPm t.name
 have c3:=aFb t.attrs (by simp only [bN,szL] at ht;omega)
 have hn:b.nodes.length≤274877906944∧b.opens.length≤274877906944:=by simp only [aU,szL] at hs;omega
 have hta:t.attrs.length≤274877906944:=by simp only [bN,szL] at ht;omega
 have other:=aMq (b:=b) hk2
 have full:=aQf (b:=b) hk2
 have new:=aRg (b:=b) hk2
 obtain ⟨tk,tn,ta,tx⟩:=t
 simp only at hk2 other full new c2 c3 hta
 simp only [aZ] at c1
 by_cases hk:tk=1∨(tk=3∧tx≠[])
 ·by_cases h40:(40:Int)≤(b.nodes.length:Int)
  ·rw [full (.inl (by omega))]
   rcases hk with rfl|⟨rfl,hx⟩
   ·refine ent Tryz.mix Tryz.func174 Tryz.ntmps174 ?_
    have W:=h40
    refine we ?_
    exact aM Tryz.results174
   ·refine ent Tryz.mix Tryz.func174 Tryz.ntmps174 ?_
    have W:=And.intro h40 hx
    refine we ?_
    exact aM Tryz.results174
  rcases List.eq_nil_or_concat b.opens with ho|⟨os,lo,ho⟩
  ·rw [full (.inr (.inl ho))]
   have hl0z:b.opens.length=0:=by rw [ho];rfl
   rcases hk with rfl|⟨rfl,hx⟩
   ·refine ent Tryz.mix Tryz.func174 Tryz.ntmps174 ?_
    have W:=And.intro h40 hl0z
    refine we ?_
    exact aM Tryz.results174
   ·refine ent Tryz.mix Tryz.func174 Tryz.ntmps174 ?_
    have W:=And.intro h40 (And.intro hx hl0z)
    refine we ?_
    exact aM Tryz.results174
  have hne:b.opens≠[]:=by rw [ho];simp
  have hlast:b.opens.getLastD 0=lo:=by rw [ho];simp
  have hlen:b.opens.length=os.length+1:=by rw [ho];simp
  have hl0z:¬b.opens.length=0:=by omega
  have hlt:os.length < b.opens.length:=by omega
  have hg:b.opens[os.length]? =some lo:=by rw [ho];simp
  have hw:IntKind.i64.wrap ((b.opens.length:Int) - 1)=((os.length:Nat):Int):=by rw [wrap64]<;>omega
  clear ho hlen
  rcases hk with rfl|⟨rfl,hx⟩
  ·have hnw:rV b ⟨1,tn,ta,tx⟩=⟨tn,[],lo,ta⟩:=by unfold rV;rw [hlast];simp
   cases hvo:aHt tn
   ·rw [hvo] at c2
    have hop:oO ⟨1,tn,ta,tx⟩=true:=by simp [oO,hvo]
    by_cases h8:(8:Int)≤(b.opens.length:Int)
    ·rw [full (.inr (.inr ⟨hop,by omega⟩))]
     refine ent Tryz.mix Tryz.func174 Tryz.ntmps174 ?_
     have W:=And.intro h40 (And.intro hl0z h8)
     refine we ?_
     exact aM Tryz.results174
    ·rw [new (.inl rfl) (by rintro (h|h|⟨_,h⟩);omega;exact hne h;omega),if_pos hop,hnw]
     obtain ⟨l0,hl0⟩:∃l,l=b.nodes++[(⟨tn,[],lo,ta⟩:gW)]:=⟨_,rfl⟩
     have hap:b.nodes.map (dY .own)++[[.str tn,.str [],.int .i64 lo,.sl .own 2 (ta.map mW)]]=l0.map (dY .own):=by rw [hl0];simp
     obtain ⟨o0,ho0⟩:∃l,l=b.opens++[((b.nodes.length:Nat):Int)]:=⟨_,rfl⟩
     have hao:b.opens.map jI++[[.int .i64 ((b.nodes.length:Nat):Int)]]=o0.map jI:=by rw [ho0];simp
     rw [←hl0,←ho0]
     clear hl0 ho0
     refine ent Tryz.mix Tryz.func174 Tryz.ntmps174 ?_
     have W:=And.intro h40 (And.intro hl0z (And.intro h8 (And.intro hg (And.intro hw (And.intro hn (And.intro hta (And.intro hap hao)))))))
     have V:=hlt
     repeat' first|refine st ?_|(refine nx ?_;first|refine se ?_|refine so ?_)|(refine cx ?_;first|refine sT ?_|refine sF ?_)|fail
     exact aM Tryz.results174
   ·rw [hvo] at c2
    have hop:oO ⟨1,tn,ta,tx⟩=false:=by simp [oO,hvo]
    rw [new (.inl rfl) (by rintro (h|h|⟨h,_⟩);omega;exact hne h;(rw [hop] at h;cases h)),if_neg (by rw [hop];decide),hnw]
    obtain ⟨l0,hl0⟩:∃l,l=b.nodes++[(⟨tn,[],lo,ta⟩:gW)]:=⟨_,rfl⟩
    have hap:b.nodes.map (dY .own)++[[.str tn,.str [],.int .i64 lo,.sl .own 2 (ta.map mW)]]=l0.map (dY .own):=by rw [hl0];simp
    rw [←hl0]
    clear hl0
    refine ent Tryz.mix Tryz.func174 Tryz.ntmps174 ?_
    have W:=And.intro h40 (And.intro hl0z (And.intro hg (And.intro hw (And.intro hn (And.intro hta hap)))))
    have V:=hlt
    repeat' first|refine st ?_|(refine nx ?_;first|refine se ?_|refine so ?_)|(refine cx ?_;first|refine sT ?_|refine sF ?_)|fail
    exact aM Tryz.results174
  ·have hnw:rV b ⟨3,tn,ta,tx⟩=⟨[],tx,lo,[]⟩:=by unfold rV;rw [hlast];simp
   have hop:oO ⟨3,tn,ta,tx⟩=false:=by simp [oO]
   rw [new (.inr ⟨rfl,hx⟩) (by rintro (h|h|⟨h,_⟩);omega;exact hne h;(rw [hop] at h;cases h)),if_neg (by rw [hop];decide),hnw]
   obtain ⟨l0,hl0⟩:∃l,l=b.nodes++[(⟨[],tx,lo,[]⟩:gW)]:=⟨_,rfl⟩
   have hap:b.nodes.map (dY .own)++[[.str [],.str tx,.int .i64 lo,.sl .own 2 []]]=l0.map (dY .own):=by rw [hl0];simp
   rw [←hl0]
   clear hl0
   have hxb:(tx != [])=true:=by simpa using hx
   refine rJ Tryz.mix [15] Tryz.func174 Tryz.ntmps174 ?_
   have W:=And.intro h40 (And.intro hl0z (And.intro hxb (And.intro hg (And.intro hw (And.intro hn hap)))))
   have V:=hlt
   repeat' first|refine st ?_|(refine nx ?_;first|refine se ?_|refine so ?_)|(refine cx ?_;refine sc (fun hc=>?_) (fun hc=>?_)<;>try exact hc.elim)|(refine lx ?_;refine sp (fun hc=>?_) (fun hc=>?_)<;>try exact hc.elim)|refine sx ?_ ?_|refine sy ?_ ?_|fail
   all_goals first|(exact (hx (by assumption)).elim)|refine bDy 6 0 3 (by rfl) (by rfl) (by rfl) ?_
   have W:=And.intro h40 (And.intro hl0z (And.intro hxb (And.intro hg (And.intro hw (And.intro hn hap)))))
   have V:=hlt
   repeat' first|refine st ?_|(refine nx ?_;first|refine se ?_|refine so ?_)|(refine cx ?_;first|refine sT ?_|refine sF ?_)|fail
   exact aM Tryz.results174
 ·have h1:¬tk=1:=fun h=>hk (.inl h)
  have hoth:dD b ⟨tk,tn,ta,tx⟩=(b, -1):=other h1 (fun h3=>Classical.byContradiction fun h=>hk (.inr ⟨h3,h⟩))
  rw [hoth]
  by_cases h40:(40:Int)≤(b.nodes.length:Int)
  ·refine ent Tryz.mix Tryz.func174 Tryz.ntmps174 ?_
   have W:=And.intro hk2 (And.intro h1 h40)
   refine we ?_
   exact aM Tryz.results174
  rcases List.eq_nil_or_concat b.opens with ho|⟨os,lo,ho⟩
  ·have hl0z:b.opens.length=0:=by rw [ho];rfl
   refine ent Tryz.mix Tryz.func174 Tryz.ntmps174 ?_
   have W:=And.intro hk2 (And.intro h1 (And.intro h40 hl0z))
   refine we ?_
   exact aM Tryz.results174
  have hlen:b.opens.length=os.length+1:=by rw [ho];simp
  have hl0z:¬b.opens.length=0:=by omega
  have hlt:os.length < b.opens.length:=by omega
  have hg:b.opens[os.length]? =some lo:=by rw [ho];simp
  have hw:IntKind.i64.wrap ((b.opens.length:Int) - 1)=((os.length:Nat):Int):=by rw [wrap64]<;>omega
  clear ho hlen
  by_cases h3:tk=3
  ·have hx:tx=[]:=Classical.byContradiction fun h=>hk (.inr ⟨h3,h⟩)
   subst h3;subst hx
   refine ent Tryz.mix Tryz.func174 Tryz.ntmps174 ?_
   have W:=And.intro h40 (And.intro hl0z (And.intro hg (And.intro hw hn)))
   have V:=hlt
   repeat' first|refine st ?_|(refine nx ?_;first|refine se ?_|refine so ?_)|(refine cx ?_;first|refine sT ?_|refine sF ?_)|fail
   exact aM Tryz.results174
  ·refine ent Tryz.mix Tryz.func174 Tryz.ntmps174 ?_
   have W:=And.intro hk2 (And.intro h1 (And.intro h3 (And.intro h40 (And.intro hl0z (And.intro hg (And.intro hw hn))))))
   have V:=hlt
   repeat' first|refine st ?_|(refine nx ?_;first|refine se ?_|refine so ?_)|(refine cx ?_;first|refine sT ?_|refine sF ?_)|fail
   exact aM Tryz.results174
end Go.Proofs.YtaddkhdghlaalaaGreatDoor
