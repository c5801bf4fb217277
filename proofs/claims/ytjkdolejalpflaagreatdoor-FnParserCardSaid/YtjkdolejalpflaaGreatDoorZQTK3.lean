/- Proved here: steps towards the statement of this claim. No condition. -/
import Derived.Test.YtjkdolejalpflaaGreatDoorZQY3
set_option linter.all false
set_option maxRecDepth 4000
set_option maxHeartbeats 4000000
namespace Go.Proofs.YtjkdolejalpflaaGreatDoor
open Go.Aw Proofs.Tryz List IntKind
theorem pJ[aB prog](b:aV)(t:bD)(hs:aF b<=274877906944)(ht:bF t<=274877906944):Ok prog 31 [.agg (aH .view b),.agg (bE .view t)] (.fH [.agg (aH .own (addToken b t).1),.int .i64 (addToken b t).2]):=by
 by_cases hk2:t.kind=2
 .exact EP b t hs hk2
 have c1:=iP b hs;have c2:=NC t.name;have hn:b.nodes.length<=274877906944/\b.opens.length<=274877906944:=by simp only[aF,dL]at hs;omega
 have qa:t.attrs.length<=274877906944:=by simp only[bF,dL]at ht;omega
 have other:=Cq (b:=b) hk2;have full:=DV (b:=b) hk2;have new:=Gd (b:=b) hk2;obtain⟨tk,tn,ta,tx⟩:=t;simp only at hk2 other full new c2 qa;simp only[aH]at c1;by_cases hk:tk=1\/(tk=3/\tx≠[])
 .by_cases Gb:(40:Int)<=(b.nodes.length:Int)
  .rw [full (.inl (by omega))];rcases hk with rfl|⟨rfl,hx⟩
   .refine dA aJ func31 ntmps31 ?_;have W:=Gb;refine we ?_;exact aO results31
   .refine dA aJ func31 ntmps31 ?_;have W:=aA Gb hx;repeat' first|refine wf ?_|(refine sq ?_ ?_<;>intro hc<;>try exact hc.elim)|fail
    all_goals (try exact aO results31)
  rcases tP b.opens with ho|⟨os,lo,ho⟩
  .rw [full (.inr (.inl ho))];have hl0z:b.opens.length=0:=by rw[ho];rfl
   rcases hk with rfl|⟨rfl,hx⟩
   .refine dA aJ func31 ntmps31 ?_;have W:=aA Gb hl0z;refine we ?_;exact aO results31
   .refine dA aJ func31 ntmps31 ?_;have W:=aA Gb (aA hx hl0z);repeat' first|refine wf ?_|(refine sq ?_ ?_<;>intro hc<;>try exact hc.elim)|fail
    all_goals (try exact aO results31)
  have hne:b.opens≠[]:=by rw[ho];simp
  have hlast:b.opens.getLastD 0=lo:=by rw[ho];simp
  have hlen:b.opens.length=os.length+1:=by rw[ho];simp
  have hl0z:¬b.opens.length=0:=by omega
  have hlt:os.length<b.opens.length:=by omega
  have hg:b.opens[os.length]? =some lo:=by rw[ho];simp
  have hw:i64.wrap ((b.opens.length:Int)-1)=((os.length:Nat):Int):=by rw[wrap64]<;>omega
  clear ho hlen;rcases hk with rfl|⟨rfl,hx⟩
  .have hnw:oU b ⟨1,tn,ta,tx⟩=⟨tn,[],lo,ta⟩:=by unfold oU;rw[hlast];simp
   cases K4:Bg tn
   .rw [K4]at c2;have hop:jW ⟨1,tn,ta,tx⟩=true:=by simp[jW,K4]
    by_cases h8:(8:Int)<=(b.opens.length:Int)
    .rw [full (.inr (.inr ⟨hop,by omega⟩))];refine dA aJ func31 ntmps31 ?_;have W:=aA Gb (aA hl0z h8);refine we ?_;exact aO results31
    .rw [new (.inl rfl) (by rintro(h|h|⟨_,h⟩);omega;exact hne h;omega),eA hop,hnw];obtain⟨l0,hl0⟩:∃l,l=b.nodes++[(⟨tn,[],lo,ta⟩:gQ)]:=⟨_,rfl⟩;have hap:b.nodes.map (dK .own)++[[.str tn,.str [],.int .i64 lo,.sl .own 2 (ta.map oG)]]=l0.map (dK .own):=by rw[hl0];simp
     obtain⟨o0,ho0⟩:∃l,l=b.opens++[((b.nodes.length:Nat):Int)]:=⟨_,rfl⟩;have hao:b.opens.map nP++[[.int .i64 ((b.nodes.length:Nat):Int)]]=o0.map nP:=by rw[ho0];simp
     rw[<-hl0,<-ho0];clear hl0 ho0;refine dA aJ func31 ntmps31 ?_;have W:=aA Gb (aA hl0z (aA h8 (aA hg (aA hw (aA hn (aA qa (aA hap hao)))))));have V:=hlt;refine we ?_;exact aO results31
   .rw [K4]at c2;have hop:jW ⟨1,tn,ta,tx⟩=false:=by simp[jW,K4]
    rw[new (.inl rfl) (by rintro(h|h|⟨h,_⟩);omega;exact hne h;(rw[hop]at h;cases h)),cU (by rw[hop];decide),hnw];obtain⟨l0,hl0⟩:∃l,l=b.nodes++[(⟨tn,[],lo,ta⟩:gQ)]:=⟨_,rfl⟩;have hap:b.nodes.map (dK .own)++[[.str tn,.str [],.int .i64 lo,.sl .own 2 (ta.map oG)]]=l0.map (dK .own):=by rw[hl0];simp
    rw[<-hl0];clear hl0;refine dA aJ func31 ntmps31 ?_;have W:=aA Gb (aA hl0z (aA hg (aA hw (aA hn (aA qa hap)))));have V:=hlt;refine we ?_;exact aO results31
  .have hnw:oU b ⟨3,tn,ta,tx⟩=⟨[],tx,lo,[]⟩:=by unfold oU;rw[hlast];simp
   have hop:jW ⟨3,tn,ta,tx⟩=false:=by simp[jW]
   rw[new (.inr ⟨rfl,hx⟩) (by rintro(h|h|⟨h,_⟩);omega;exact hne h;(rw[hop]at h;cases h)),cU (by rw[hop];decide),hnw];obtain⟨l0,hl0⟩:∃l,l=b.nodes++[(⟨[],tx,lo,[]⟩:gQ)]:=⟨_,rfl⟩;have hap:b.nodes.map (dK .own)++[[.str [],.str tx,.int .i64 lo,.sl .own 2 []]]=l0.map (dK .own):=by rw[hl0];simp
   rw[<-hl0];clear hl0;have hxb:(tx != [])=true:=by simpa using hx
   refine rR aJ [21] func31 ntmps31 ?_;have W:=aA Gb (aA hl0z (aA hxb (aA hg (aA hw (aA hn hap)))));have V:=hlt;repeat' first|refine wf ?_|(refine sq ?_ ?_<;>intro hc<;>try exact hc.elim)|fail
   .exact (hx (by assumption)).elim
   refine go_openB 6 0 3 (by rfl) (by rfl) (by rfl) ?_;have W:=aA Gb (aA hl0z (aA hxb (aA hg (aA hw (aA hn hap)))));have V:=hlt;refine we ?_;exact aO results31
 .have h1:¬tk=1:=λh=>hk (.inl h)
  by_cases h3:tk=3
  .have hx:tx=[]:=sA λh=>hk (.inr ⟨h3,h⟩)
   rw[other h1 (λ_=>hx)];subst h3;subst hx;refine dA aJ func31 ntmps31 ?_;refine bI ?_;exact aO results31
  .rw [other h1 (λh=>absurd h h3)]
   refine dA aJ func31 ntmps31 ?_;have W:=aA hk2 (aA h1 h3);refine we ?_;exact aO results31
theorem mZ[aB prog](b:aV)(t:bD)(hs:aF b<=274877906944)(ht:bF t<=274877906944):Ok prog 51 [.agg (aH .view b),.agg (bE .view t)] (.fH [.agg (aH .own (addToken b t).1),.int .i64 (addToken b t).2]):=by
 by_cases hk2:t.kind=2
 .have c1:=iQ b hs;have c2:=QB b t.name hs;rw[xK hk2];obtain⟨tk,tn,ta,tx⟩:=t;simp only at hk2 c2;subst hk2;simp only[aH]at c1 c2;generalize mQ b tn (b.opens.length-1)=oc at*;refine dA aJ func51 ntmps51 ?_;have W:=trivial;repeat' first|refine wf ?_|(refine nx ?_;refine sg (hc:=c2) (h:=?_))|(refine sq ?_ ?_<;>intro hc<;>try exact hc.elim)|fail
  exact aO results51
 have c1:=iQ b hs;have c2:=ND t.name;have c3:=EF t.attrs (by simp only[bF,dL]at ht;omega);have hn:b.nodes.length<=274877906944/\b.opens.length<=274877906944:=by simp only[aF,dL]at hs;omega
 have qa:t.attrs.length<=274877906944:=by simp only[bF,dL]at ht;omega
 have other:=Cq (b:=b) hk2;have full:=DV (b:=b) hk2;have new:=Gd (b:=b) hk2;obtain⟨tk,tn,ta,tx⟩:=t;simp only at hk2 other full new c2 c3 qa;simp only[aH]at c1;by_cases hk:tk=1\/(tk=3/\tx≠[])
 .by_cases Gb:(40:Int)<=(b.nodes.length:Int)
  .rw [full (.inl (by omega))];rcases hk with rfl|⟨rfl,hx⟩
   .refine dA aJ func51 ntmps51 ?_;have W:=Gb;refine we ?_;exact aO results51
   .refine dA aJ func51 ntmps51 ?_;have W:=aA Gb hx;refine we ?_;exact aO results51
  rcases tP b.opens with ho|⟨os,lo,ho⟩
  .rw [full (.inr (.inl ho))];have hl0z:b.opens.length=0:=by rw[ho];rfl
   rcases hk with rfl|⟨rfl,hx⟩
   .refine dA aJ func51 ntmps51 ?_;have W:=aA Gb hl0z;refine we ?_;exact aO results51
   .refine dA aJ func51 ntmps51 ?_;have W:=aA Gb (aA hx hl0z);refine we ?_;exact aO results51
  have hne:b.opens≠[]:=by rw[ho];simp
  have hlast:b.opens.getLastD 0=lo:=by rw[ho];simp
  have hlen:b.opens.length=os.length+1:=by rw[ho];simp
  have hl0z:¬b.opens.length=0:=by omega
  have hlt:os.length<b.opens.length:=by omega
  have hg:b.opens[os.length]? =some lo:=by rw[ho];simp
  have hw:i64.wrap ((b.opens.length:Int)-1)=((os.length:Nat):Int):=by rw[wrap64]<;>omega
  clear ho hlen;rcases hk with rfl|⟨rfl,hx⟩
  .have hnw:oU b ⟨1,tn,ta,tx⟩=⟨tn,[],lo,ta⟩:=by unfold oU;rw[hlast];simp
   cases K4:Bg tn
   .rw [K4]at c2;have hop:jW ⟨1,tn,ta,tx⟩=true:=by simp[jW,K4]
    by_cases h8:(8:Int)<=(b.opens.length:Int)
    .rw [full (.inr (.inr ⟨hop,by omega⟩))];refine dA aJ func51 ntmps51 ?_;have W:=aA Gb (aA hl0z h8);refine we ?_;exact aO results51
    .rw [new (.inl rfl) (by rintro(h|h|⟨_,h⟩);omega;exact hne h;omega),eA hop,hnw];obtain⟨l0,hl0⟩:∃l,l=b.nodes++[(⟨tn,[],lo,ta⟩:gQ)]:=⟨_,rfl⟩;have hap:b.nodes.map (dK .own)++[[.str tn,.str [],.int .i64 lo,.sl .own 2 (ta.map oG)]]=l0.map (dK .own):=by rw[hl0];simp
     obtain⟨o0,ho0⟩:∃l,l=b.opens++[((b.nodes.length:Nat):Int)]:=⟨_,rfl⟩;have hao:b.opens.map nP++[[.int .i64 ((b.nodes.length:Nat):Int)]]=o0.map nP:=by rw[ho0];simp
     rw[<-hl0,<-ho0];clear hl0 ho0;refine dA aJ func51 ntmps51 ?_;have W:=aA Gb (aA hl0z (aA h8 (aA hg (aA hw (aA hn (aA qa (aA hap hao)))))));have V:=hlt;refine we ?_;exact aO results51
   .rw [K4]at c2;have hop:jW ⟨1,tn,ta,tx⟩=false:=by simp[jW,K4]
    rw[new (.inl rfl) (by rintro(h|h|⟨h,_⟩);omega;exact hne h;(rw[hop]at h;cases h)),cU (by rw[hop];decide),hnw];obtain⟨l0,hl0⟩:∃l,l=b.nodes++[(⟨tn,[],lo,ta⟩:gQ)]:=⟨_,rfl⟩;have hap:b.nodes.map (dK .own)++[[.str tn,.str [],.int .i64 lo,.sl .own 2 (ta.map oG)]]=l0.map (dK .own):=by rw[hl0];simp
    rw[<-hl0];clear hl0;refine dA aJ func51 ntmps51 ?_;have W:=aA Gb (aA hl0z (aA hg (aA hw (aA hn (aA qa hap)))));have V:=hlt;refine we ?_;exact aO results51
  .have hnw:oU b ⟨3,tn,ta,tx⟩=⟨[],tx,lo,[]⟩:=by unfold oU;rw[hlast];simp
   have hop:jW ⟨3,tn,ta,tx⟩=false:=by simp[jW]
   rw[new (.inr ⟨rfl,hx⟩) (by rintro(h|h|⟨h,_⟩);omega;exact hne h;(rw[hop]at h;cases h)),cU (by rw[hop];decide),hnw];obtain⟨l0,hl0⟩:∃l,l=b.nodes++[(⟨[],tx,lo,[]⟩:gQ)]:=⟨_,rfl⟩;have hap:b.nodes.map (dK .own)++[[.str [],.str tx,.int .i64 lo,.sl .own 2 []]]=l0.map (dK .own):=by rw[hl0];simp
   rw[<-hl0];clear hl0;have hxb:(tx != [])=true:=by simpa using hx
   refine rR aJ [15] func51 ntmps51 ?_;have W:=aA Gb (aA hl0z (aA hxb (aA hg (aA hw (aA hn hap)))));have V:=hlt;repeat' first|refine wf ?_|(refine sq ?_ ?_<;>intro hc<;>try exact hc.elim)|fail
   all_goals first|(exact(hx (by assumption)).elim)|refine go_openB 6 0 3 (by rfl) (by rfl) (by rfl) ?_
   have W:=aA Gb (aA hl0z (aA hxb (aA hg (aA hw (aA hn hap)))));have V:=hlt;refine we ?_;exact aO results51
 .have h1:¬tk=1:=λh=>hk (.inl h)
  have hoth:addToken b ⟨tk,tn,ta,tx⟩=(b, -1):=other h1 (λh3=>sA λh=>hk (.inr ⟨h3,h⟩));rw[hoth];by_cases Gb:(40:Int)<=(b.nodes.length:Int)
  .refine dA aJ func51 ntmps51 ?_;have W:=aA hk2 (aA h1 Gb);refine we ?_;exact aO results51
  rcases tP b.opens with ho|⟨os,lo,ho⟩
  .have hl0z:b.opens.length=0:=by rw[ho];rfl
   refine dA aJ func51 ntmps51 ?_;have W:=aA hk2 (aA h1 (aA Gb hl0z));refine we ?_;exact aO results51
  have hlen:b.opens.length=os.length+1:=by rw[ho];simp
  have hl0z:¬b.opens.length=0:=by omega
  have hlt:os.length<b.opens.length:=by omega
  have hg:b.opens[os.length]? =some lo:=by rw[ho];simp
  have hw:i64.wrap ((b.opens.length:Int)-1)=((os.length:Nat):Int):=by rw[wrap64]<;>omega
  clear ho hlen;by_cases h3:tk=3
  .have hx:tx=[]:=sA λh=>hk (.inr ⟨h3,h⟩)
   subst h3;subst hx;refine dA aJ func51 ntmps51 ?_;have W:=aA Gb (aA hl0z (aA hg (aA hw hn)));have V:=hlt;refine we ?_;exact aO results51
  .refine dA aJ func51 ntmps51 ?_;have W:=aA hk2 (aA h1 (aA h3 (aA Gb (aA hl0z (aA hg (aA hw hn))))));have V:=hlt;refine we ?_;exact aO results51
end Go.Proofs.YtjkdolejalpflaaGreatDoor
