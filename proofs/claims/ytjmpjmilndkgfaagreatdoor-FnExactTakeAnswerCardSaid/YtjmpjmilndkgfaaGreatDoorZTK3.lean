/- Proved here: steps towards the statement of this claim. No condition. -/
import Derived.Test.YtjmpjmilndkgfaaGreatDoorZQS1
set_option linter.all false
set_option maxRecDepth 4000
set_option maxHeartbeats 4000000
namespace Go.Proofs.YtjmpjmilndkgfaaGreatDoor
open Go.Aw Proofs.Tryz List IntKind
theorem sJ [aC prog] (b:bC) (t:bP) (hs:aP b<=274877906944) (ht:bO t<=274877906944):Ok prog 183 [.agg (aS .view b),.agg (bK .view t)] (.iJ [.agg (aS .own (addToken b t).1),.int .i64 (addToken b t).2]):=by
 by_cases hk2:t.kind=2
 .exact IG b t hs hk2
 have c1:=kR b hs;have c2:=TU t.name;have hn:b.nodes.length<=274877906944/\b.opens.length<=274877906944:=by simp only [aP,bV] at hs;omega
 have yz:t.attrs.length<=274877906944:=by simp only [bO,bV] at ht;omega
 have other:=FD (b:=b) hk2;have full:=Ha (b:=b) hk2;have new:=Kh (b:=b) hk2;obtain ⟨tk,tn,ta,tx⟩:=t;simp only at hk2 other full new c2 yz;simp only [aS] at c1;by_cases hk:tk=1\/(tk=3/\tx≠[])
 .by_cases Ka:(40:Int)<=(b.nodes.length:Int)
  .rw [full (.inl (by omega))];rcases hk with rfl|⟨rfl,hx⟩
   .refine bR aD func183 ntmps183 ?_;have W:=Ka;refine we ?_;exact aK results183
   .refine bR aD func183 ntmps183 ?_;have W:=aA Ka hx;repeat' first|refine wf ?_|(refine sq ?_ ?_<;>intro hc<;>try exact hc.elim)|fail
    all_goals try(refine aR ?_;simp [aG,results183])
  rcases AH b.opens with ho|⟨os,lo,ho⟩
  .rw [full (.inr (.inl ho))];have hl0z:b.opens.length=0:=by rw [ho];rfl
   rcases hk with rfl|⟨rfl,hx⟩
   .refine bR aD func183 ntmps183 ?_;have W:=aA Ka hl0z;refine we ?_;exact aK results183
   .refine bR aD func183 ntmps183 ?_;have W:=aA Ka (aA hx hl0z);repeat' first|refine wf ?_|(refine sq ?_ ?_<;>intro hc<;>try exact hc.elim)|fail
    all_goals try(refine aR ?_;simp [aG,results183])
  have hne:b.opens≠[]:=by rw [ho];simp
  have hlast:b.opens.getLastD 0=lo:=by rw [ho];simp
  have hlen:b.opens.length=os.length+1:=by rw [ho];simp
  have hl0z:¬b.opens.length=0:=by omega
  have hlt:os.length < b.opens.length:=by omega
  have hg:b.opens[os.length]? =some lo:=by rw [ho];simp
  have hw:i64.wrap ((b.opens.length:Int) - 1)=((os.length:Nat):Int):=by rw [wrap64]<;>omega
  clear ho hlen;rcases hk with rfl|⟨rfl,hx⟩
  .have hnw:rW b ⟨1,tn,ta,tx⟩=⟨tn,[],lo,ta⟩:=by unfold rW;rw [hlast];simp
   cases hvo:Ej tn
   .rw [hvo] at c2;have hop:mR ⟨1,tn,ta,tx⟩=true:=by simp [mR,hvo]
    by_cases h8:(8:Int)<=(b.opens.length:Int)
    .rw [full (.inr (.inr ⟨hop,by omega⟩))];refine bR aD func183 ntmps183 ?_;have W:=aA Ka (aA hl0z h8);refine we ?_;exact aK results183
    .rw [new (.inl rfl) (by rintro (h|h|⟨_,h⟩);omega;exact hne h;omega),eK hop,hnw];obtain ⟨l0,hl0⟩:∃l,l=b.nodes++[(⟨tn,[],lo,ta⟩:gF)]:=⟨_,rfl⟩;have hap:b.nodes.map (dE .own)++[[.str tn,.str [],.int .i64 lo,.sl .own 2 (ta.map gU)]]=l0.map (dE .own):=by rw [hl0];simp
     obtain ⟨o0,ho0⟩:∃l,l=b.opens++[((b.nodes.length:Nat):Int)]:=⟨_,rfl⟩;have hao:b.opens.map jE++[[.int .i64 ((b.nodes.length:Nat):Int)]]=o0.map jE:=by rw [ho0];simp
     rw [<-hl0,<-ho0];clear hl0 ho0;refine bR aD func183 ntmps183 ?_;have W:=aA Ka (aA hl0z (aA h8 (aA hg (aA hw (aA hn (aA yz (aA hap hao)))))));have V:=hlt;refine we ?_;exact aK results183
   .rw [hvo] at c2;have hop:mR ⟨1,tn,ta,tx⟩=false:=by simp [mR,hvo]
    rw [new (.inl rfl) (by rintro (h|h|⟨h,_⟩);omega;exact hne h;(rw [hop] at h;cases h)),cY (by rw [hop];decide),hnw];obtain ⟨l0,hl0⟩:∃l,l=b.nodes++[(⟨tn,[],lo,ta⟩:gF)]:=⟨_,rfl⟩;have hap:b.nodes.map (dE .own)++[[.str tn,.str [],.int .i64 lo,.sl .own 2 (ta.map gU)]]=l0.map (dE .own):=by rw [hl0];simp
    rw [<-hl0];clear hl0;refine bR aD func183 ntmps183 ?_;have W:=aA Ka (aA hl0z (aA hg (aA hw (aA hn (aA yz hap)))));have V:=hlt;refine we ?_;exact aK results183
  .have hnw:rW b ⟨3,tn,ta,tx⟩=⟨[],tx,lo,[]⟩:=by unfold rW;rw [hlast];simp
   have hop:mR ⟨3,tn,ta,tx⟩=false:=by simp [mR]
   rw [new (.inr ⟨rfl,hx⟩) (by rintro (h|h|⟨h,_⟩);omega;exact hne h;(rw [hop] at h;cases h)),cY (by rw [hop];decide),hnw];obtain ⟨l0,hl0⟩:∃l,l=b.nodes++[(⟨[],tx,lo,[]⟩:gF)]:=⟨_,rfl⟩;have hap:b.nodes.map (dE .own)++[[.str [],.str tx,.int .i64 lo,.sl .own 2 []]]=l0.map (dE .own):=by rw [hl0];simp
   rw [<-hl0];clear hl0;have hxb:(tx != [])=true:=by simpa using hx
   refine tX aD [21] func183 ntmps183 ?_;have W:=aA Ka (aA hl0z (aA hxb (aA hg (aA hw (aA hn hap)))));have V:=hlt;repeat' first|refine wf ?_|(refine sq ?_ ?_<;>intro hc<;>try exact hc.elim)|fail
   .exact (hx (by assumption)).elim
   refine go_openB 6 0 3 (by rfl) (by rfl) (by rfl) ?_;have W:=aA Ka (aA hl0z (aA hxb (aA hg (aA hw (aA hn hap)))));have V:=hlt;refine we ?_;exact aK results183
 .have h1:¬tk=1:=λh=>hk (.inl h)
  by_cases h3:tk=3
  .have hx:tx=[]:=tM λh=>hk (.inr ⟨h3,h⟩)
   rw [other h1 (λ_=>hx)];subst h3;subst hx;refine bR aD func183 ntmps183 ?_;refine bH ?_;exact aK results183
  .rw [other h1 (λh=>absurd h h3)]
   refine bR aD func183 ntmps183 ?_;have W:=aA hk2 (aA h1 h3);refine we ?_;exact aK results183
end Go.Proofs.YtjmpjmilndkgfaaGreatDoor
