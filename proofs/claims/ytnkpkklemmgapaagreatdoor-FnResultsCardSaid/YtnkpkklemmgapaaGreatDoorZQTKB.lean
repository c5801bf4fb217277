/- Proved here: steps towards the statement of this claim. No condition. -/
import Derived.Test.YtnkpkklemmgapaaGreatDoorZQTK2
import Derived.Test.YtnkpkklemmgapaaGreatDoorZQT1
set_option linter.all false
set_option maxRecDepth 4000
set_option maxHeartbeats 4000000
namespace Go.Proofs.YtnkpkklemmgapaaGreatDoor
open Go.Aw Proofs.Tryz List IntKind
theorem oL[aB prog](b:aY)(t:bU)(hs:aS b<=274877906944)(ht:dR t<=274877906944):Ok prog 192 [.agg (aW .view b),.agg (eG .view t)] (.iP [.agg (aW .own (addToken b t).1),.int .i64 (addToken b t).2]):=by
 by_cases hk2:t.kind=2
 .have c1:=gX b hs;have c2:=VP b t.name hs;rw[ES hk2];obtain⟨tk,tn,ta,tx⟩:=t;simp only at hk2 c2;subst hk2;simp only[aW]at c1 c2;generalize oW b tn (b.opens.length-1)=oc at*;refine dL aO func192 ntmps192 ?_;have W:=trivial;repeat' first|refine wf ?_|(refine nx ?_;refine sg (hc:=c2) (h:=?_))|(refine sq ?_ ?_<;>intro hc<;>try exact hc.elim)|fail
  exact aR results192
 have c1:=gX b hs;have c2:=Sk t.name;have c3:=Io t.attrs (by simp only[dR,bV]at ht;omega);have hn:b.nodes.length<=274877906944/\b.opens.length<=274877906944:=by simp only[aS,bV]at hs;omega
 have hta:t.attrs.length<=274877906944:=by simp only[dR,bV]at ht;omega
 have other:=Qh (b:=b) hk2;have full:=Sl (b:=b) hk2;have new:=VN (b:=b) hk2;obtain⟨tk,tn,ta,tx⟩:=t;simp only at hk2 other full new c2 c3 hta;simp only[aW]at c1;by_cases hk:tk=1\/(tk=3/\tx≠[])
 .by_cases VK:(40:Int)<=(b.nodes.length:Int)
  .rw [full (.inl (by omega))];rcases hk with rfl|⟨rfl,hx⟩
   .refine dL aO func192 ntmps192 ?_;have W:=VK;refine we ?_;exact aR results192
   .refine dL aO func192 ntmps192 ?_;have W:=aA VK hx;refine we ?_;exact aR results192
  rcases CM b.opens with ho|⟨os,lo,ho⟩
  .rw [full (.inr (.inl ho))];have hl0z:b.opens.length=0:=by rw[ho];rfl
   rcases hk with rfl|⟨rfl,hx⟩
   .refine dL aO func192 ntmps192 ?_;have W:=aA VK hl0z;refine we ?_;exact aR results192
   .refine dL aO func192 ntmps192 ?_;have W:=aA VK (aA hx hl0z);refine we ?_;exact aR results192
  have hne:b.opens≠[]:=by rw[ho];simp
  have hlast:b.opens.getLastD 0=lo:=by rw[ho];simp
  have hlen:b.opens.length=os.length+1:=by rw[ho];simp
  have hl0z:¬b.opens.length=0:=by omega
  have hlt:os.length<b.opens.length:=by omega
  have hg:b.opens[os.length]? =some lo:=by rw[ho];simp
  have hw:i64.wrap ((b.opens.length:Int)-1)=((os.length:Nat):Int):=by rw[wrap64]<;>omega
  clear ho hlen;rcases hk with rfl|⟨rfl,hx⟩
  .have hnw:vD b ⟨1,tn,ta,tx⟩=⟨tn,[],lo,ta⟩:=by unfold vD;rw[hlast];simp
   cases hvo:Ow tn
   .rw [hvo]at c2;have hop:rT ⟨1,tn,ta,tx⟩=true:=by simp[rT,hvo]
    by_cases h8:(8:Int)<=(b.opens.length:Int)
    .rw [full (.inr (.inr ⟨hop,by omega⟩))];refine dL aO func192 ntmps192 ?_;have W:=aA VK (aA hl0z h8);refine we ?_;exact aR results192
    .rw [new (.inl rfl) (by rintro(h|h|⟨_,h⟩);omega;exact hne h;omega),eW hop,hnw];obtain⟨l0,hl0⟩:∃l,l=b.nodes++[(⟨tn,[],lo,ta⟩:gV)]:=⟨_,rfl⟩;have hap:b.nodes.map (fC .own)++[[.str tn,.str [],.int .i64 lo,.sl .own 2 (ta.map uH)]]=l0.map (fC .own):=by rw[hl0];simp
     obtain⟨o0,ho0⟩:∃l,l=b.opens++[((b.nodes.length:Nat):Int)]:=⟨_,rfl⟩;have hao:b.opens.map lI++[[.int .i64 ((b.nodes.length:Nat):Int)]]=o0.map lI:=by rw[ho0];simp
     rw[<-hl0,<-ho0];clear hl0 ho0;refine dL aO func192 ntmps192 ?_;have W:=aA VK (aA hl0z (aA h8 (aA hg (aA hw (aA hn (aA hta (aA hap hao)))))));have V:=hlt;refine we ?_;exact aR results192
   .rw [hvo]at c2;have hop:rT ⟨1,tn,ta,tx⟩=false:=by simp[rT,hvo]
    rw[new (.inl rfl) (by rintro(h|h|⟨h,_⟩);omega;exact hne h;(rw[hop]at h;cases h)),eK (by rw[hop];decide),hnw];obtain⟨l0,hl0⟩:∃l,l=b.nodes++[(⟨tn,[],lo,ta⟩:gV)]:=⟨_,rfl⟩;have hap:b.nodes.map (fC .own)++[[.str tn,.str [],.int .i64 lo,.sl .own 2 (ta.map uH)]]=l0.map (fC .own):=by rw[hl0];simp
    rw[<-hl0];clear hl0;refine dL aO func192 ntmps192 ?_;have W:=aA VK (aA hl0z (aA hg (aA hw (aA hn (aA hta hap)))));have V:=hlt;refine we ?_;exact aR results192
  .have hnw:vD b ⟨3,tn,ta,tx⟩=⟨[],tx,lo,[]⟩:=by unfold vD;rw[hlast];simp
   have hop:rT ⟨3,tn,ta,tx⟩=false:=by simp[rT]
   rw[new (.inr ⟨rfl,hx⟩) (by rintro(h|h|⟨h,_⟩);omega;exact hne h;(rw[hop]at h;cases h)),eK (by rw[hop];decide),hnw];obtain⟨l0,hl0⟩:∃l,l=b.nodes++[(⟨[],tx,lo,[]⟩:gV)]:=⟨_,rfl⟩;have hap:b.nodes.map (fC .own)++[[.str [],.str tx,.int .i64 lo,.sl .own 2 []]]=l0.map (fC .own):=by rw[hl0];simp
   rw[<-hl0];clear hl0;have hxb:(tx != [])=true:=by simpa using hx
   refine BO aO [15] func192 ntmps192 ?_;have W:=aA VK (aA hl0z (aA hxb (aA hg (aA hw (aA hn hap)))));have V:=hlt;repeat' first|refine wf ?_|(refine sq ?_ ?_<;>intro hc<;>try exact hc.elim)|fail
   all_goals first|(exact(hx (by assumption)).elim)|refine go_openB 6 0 3 (by rfl) (by rfl) (by rfl) ?_
   have W:=aA VK (aA hl0z (aA hxb (aA hg (aA hw (aA hn hap)))));have V:=hlt;refine we ?_;exact aR results192
 .have h1:¬tk=1:=λh=>hk (.inl h)
  have hoth:addToken b ⟨tk,tn,ta,tx⟩=(b, -1):=other h1 (λh3=>CT λh=>hk (.inr ⟨h3,h⟩));rw[hoth];by_cases VK:(40:Int)<=(b.nodes.length:Int)
  .refine dL aO func192 ntmps192 ?_;have W:=aA hk2 (aA h1 VK);refine we ?_;exact aR results192
  rcases CM b.opens with ho|⟨os,lo,ho⟩
  .have hl0z:b.opens.length=0:=by rw[ho];rfl
   refine dL aO func192 ntmps192 ?_;have W:=aA hk2 (aA h1 (aA VK hl0z));refine we ?_;exact aR results192
  have hlen:b.opens.length=os.length+1:=by rw[ho];simp
  have hl0z:¬b.opens.length=0:=by omega
  have hlt:os.length<b.opens.length:=by omega
  have hg:b.opens[os.length]? =some lo:=by rw[ho];simp
  have hw:i64.wrap ((b.opens.length:Int)-1)=((os.length:Nat):Int):=by rw[wrap64]<;>omega
  clear ho hlen;by_cases h3:tk=3
  .have hx:tx=[]:=CT λh=>hk (.inr ⟨h3,h⟩)
   subst h3;subst hx;refine dL aO func192 ntmps192 ?_;have W:=aA VK (aA hl0z (aA hg (aA hw hn)));have V:=hlt;refine we ?_;exact aR results192
  .refine dL aO func192 ntmps192 ?_;have W:=aA hk2 (aA h1 (aA h3 (aA VK (aA hl0z (aA hg (aA hw hn))))));have V:=hlt;refine we ?_;exact aR results192
end Go.Proofs.YtnkpkklemmgapaaGreatDoor
