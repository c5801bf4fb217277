/- Steps. No condition. -/
import Derived.Test.YtanobkmhbpjnpaaGreatDoorZTK2
set_option linter.all false
set_option maxRecDepth 4000
set_option maxHeartbeats 4000000
namespace Go.Proofs.YtanobkmhbpjnpaaGreatDoor
open Go.Aw Proofs.Tryz List IntKind
def wC[aG prog](b:bC)(t:bM)(hs:aV b<=274877906944)(ht:dU t<=274877906944):Ok prog 108 [.agg (aZ .view b),.agg (dK .view t)] (.iL [.agg (aZ .own (cZ b t).1),.int .i64 (cZ b t).2]):=by
 by_cases hk2:t.kind=2
 .exact KW b t hs hk2
 have c1:=nE b hs;have c2:=VX t.name;have hn:b.aJ.length<=274877906944/\b.bD.length<=274877906944:=by simp only[aV,dS]at hs;omega
 have hta:t.iH.length<=274877906944:=by simp only[dU,dS]at ht;omega
 have other:=Im (b:=b) hk2;have full:=JW (b:=b) hk2;have new:=MN (b:=b) hk2;obtain⟨tk,tn,ta,tx⟩:=t;simp only at hk2 other full new c2 hta;simp only[aZ]at c1;by_cases hk:tk=1\/(tk=3/\tx≠[])
 .by_cases ML:(40:Int)<=(b.aJ.length:Int)
  .rw [full (.inl (by omega))];rcases hk with rfl|⟨rfl,hx⟩
   .refine dN aK func108 ntmps108 ?_;have W:=ML;refine we ?_;exact aO results108
   .refine dN aK func108 ntmps108 ?_;have W:=aA ML hx;repeat' first|refine wf ?_|(refine sq ?_ ?_<;>intro hc<;>try exact hc.elim)|fail
    all_goals (try exact aO results108)
  rcases BE b.bD with ho|⟨os,lo,ho⟩
  .rw [full (.inr (.inl ho))];have hl0z:b.bD.length=0:=by rw[ho];rfl
   rcases hk with rfl|⟨rfl,hx⟩
   .refine dN aK func108 ntmps108 ?_;have W:=aA ML hl0z;refine we ?_;exact aO results108
   .refine dN aK func108 ntmps108 ?_;have W:=aA ML (aA hx hl0z);repeat' first|refine wf ?_|(refine sq ?_ ?_<;>intro hc<;>try exact hc.elim)|fail
    all_goals (try exact aO results108)
  have jE:b.bD≠[]:=by rw[ho];simp
  have hlast:b.bD.getLastD 0=lo:=by rw[ho];simp
  have dF:b.bD.length=os.length+1:=by rw[ho];simp
  have hl0z:¬b.bD.length=0:=by omega
  have hlt:os.length<b.bD.length:=by omega
  have hg:b.bD[os.length]? =some lo:=by rw[ho];simp
  have hw:i64.wrap ((b.bD.length:Int)-1)=((os.length:Nat):Int):=by rw[wrap64]<;>omega
  clear ho dF;rcases hk with rfl|⟨rfl,hx⟩
  .have hnw:nY b ⟨1,tn,ta,tx⟩=⟨tn,[],lo,ta⟩:=by unfold nY;rw[hlast];simp
   cases hvo:Ec tn
   .rw [hvo]at c2;have hop:mU ⟨1,tn,ta,tx⟩=true:=by simp[mU,hvo]
    by_cases h8:(8:Int)<=(b.bD.length:Int)
    .rw [full (.inr (.inr ⟨hop,by omega⟩))];refine dN aK func108 ntmps108 ?_;have W:=aA ML (aA hl0z h8);refine we ?_;exact aO results108
    .rw [new (.inl rfl) (by rintro(h|h|⟨_,h⟩);omega;exact jE h;omega),eM hop,hnw];obtain⟨l0,hl0⟩:∃l,l=b.aJ++[(⟨tn,[],lo,ta⟩:kG)]:=⟨_,rfl⟩;have hap:b.aJ.map (gU .own)++[[.str tn,.str [],.int .i64 lo,.sl .own 2 (ta.map uB)]]=l0.map (gU .own):=by rw[hl0];simp
     obtain⟨o0,ho0⟩:∃l,l=b.bD++[((b.aJ.length:Nat):Int)]:=⟨_,rfl⟩;have hao:b.bD.map nM++[[.int .i64 ((b.aJ.length:Nat):Int)]]=o0.map nM:=by rw[ho0];simp
     rw[<-hl0,<-ho0];clear hl0 ho0;refine dN aK func108 ntmps108 ?_;have W:=aA ML (aA hl0z (aA h8 (aA hg (aA hw (aA hn (aA hta (aA hap hao)))))));have V:=hlt;refine we ?_;exact aO results108
   .rw [hvo]at c2;have hop:mU ⟨1,tn,ta,tx⟩=false:=by simp[mU,hvo]
    rw[new (.inl rfl) (by rintro(h|h|⟨h,_⟩);omega;exact jE h;(rw[hop]at h;cases h)),eC (by rw[hop];decide),hnw];obtain⟨l0,hl0⟩:∃l,l=b.aJ++[(⟨tn,[],lo,ta⟩:kG)]:=⟨_,rfl⟩;have hap:b.aJ.map (gU .own)++[[.str tn,.str [],.int .i64 lo,.sl .own 2 (ta.map uB)]]=l0.map (gU .own):=by rw[hl0];simp
    rw[<-hl0];clear hl0;refine dN aK func108 ntmps108 ?_;have W:=aA ML (aA hl0z (aA hg (aA hw (aA hn (aA hta hap)))));have V:=hlt;refine we ?_;exact aO results108
  .have hnw:nY b ⟨3,tn,ta,tx⟩=⟨[],tx,lo,[]⟩:=by unfold nY;rw[hlast];simp
   have hop:mU ⟨3,tn,ta,tx⟩=false:=by simp[mU]
   rw[new (.inr ⟨rfl,hx⟩) (by rintro(h|h|⟨h,_⟩);omega;exact jE h;(rw[hop]at h;cases h)),eC (by rw[hop];decide),hnw];obtain⟨l0,hl0⟩:∃l,l=b.aJ++[(⟨[],tx,lo,[]⟩:kG)]:=⟨_,rfl⟩;have hap:b.aJ.map (gU .own)++[[.str [],.str tx,.int .i64 lo,.sl .own 2 []]]=l0.map (gU .own):=by rw[hl0];simp
   rw[<-hl0];clear hl0;have hxb:(tx != [])=true:=by simpa using hx
   refine xA aK [21] func108 ntmps108 ?_;have W:=aA ML (aA hl0z (aA hxb (aA hg (aA hw (aA hn hap)))));have V:=hlt;repeat' first|refine wf ?_|(refine sq ?_ ?_<;>intro hc<;>try exact hc.elim)|fail
   .exact (hx (by assumption)).elim
   refine go_openB 6 0 3 (by rfl) (by rfl) (by rfl) ?_;have W:=aA ML (aA hl0z (aA hxb (aA hg (aA hw (aA hn hap)))));have V:=hlt;refine we ?_;exact aO results108
 .have h1:¬tk=1:=λh=>hk (.inl h)
  by_cases h3:tk=3
  .have hx:tx=[]:=An λh=>hk (.inr ⟨h3,h⟩)
   rw[other h1 (λ_=>hx)];subst h3;subst hx;refine dN aK func108 ntmps108 ?_;refine bK ?_;exact aO results108
  .rw [other h1 (λh=>absurd h h3)]
   refine dN aK func108 ntmps108 ?_;have W:=aA hk2 (aA h1 h3);refine we ?_;exact aO results108
end Go.Proofs.YtanobkmhbpjnpaaGreatDoor
