/- Proved here: steps towards the statement of this claim. No condition. -/
import Derived.Test.YthddijamfbfibaaGreatDoorZTK2
set_option linter.all false
set_option maxRecDepth 4000
set_option maxHeartbeats 4000000
namespace Go.Proofs.YthddijamfbfibaaGreatDoor
open Go.Aw Proofs.Tryz List IntKind
theorem uQ[aB prog](b:bE)(t:bT)(hs:aU b<=274877906944)(ht:bW t<=274877906944):Ok prog 212 [.agg (aV .view b),.agg (cB .view t)] (.gM [.agg (aV .own (addToken b t).1),.int .i64 (addToken b t).2]):=by
 by_cases hk2:t.kind=2
 .exact KC b t hs hk2
 have c1:=kX b hs;have c2:=Wn t.name;have hn:b.nodes.length<=274877906944/\b.opens.length<=274877906944:=by simp only[aU,bP]at hs;omega
 have hta:t.attrs.length<=274877906944:=by simp only[bW,bP]at ht;omega
 have other:=Hr (b:=b) hk2;have full:=Jw (b:=b) hk2;have new:=Ml (b:=b) hk2;obtain⟨tk,tn,ta,tx⟩:=t;simp only at hk2 other full new c2 hta;simp only[aV]at c1;by_cases hk:tk=1\/(tk=3/\tx≠[])
 .by_cases Mi:(40:Int)<=(b.nodes.length:Int)
  .rw [full (.inl (by omega))];rcases hk with rfl|⟨rfl,hx⟩
   .refine bM aG func212 ntmps212 ?_;have W:=Mi;refine we ?_;exact aF results212
   .refine bM aG func212 ntmps212 ?_;have W:=aA Mi hx;repeat' first|refine wf ?_|(refine sq ?_ ?_<;>intro hc<;>try exact hc.elim)|fail
    all_goals (try exact aF results212)
  rcases Bk b.opens with ho|⟨os,lo,ho⟩
  .rw [full (.inr (.inl ho))];have hl0z:b.opens.length=0:=by rw[ho];rfl
   rcases hk with rfl|⟨rfl,hx⟩
   .refine bM aG func212 ntmps212 ?_;have W:=aA Mi hl0z;refine we ?_;exact aF results212
   .refine bM aG func212 ntmps212 ?_;have W:=aA Mi (aA hx hl0z);repeat' first|refine wf ?_|(refine sq ?_ ?_<;>intro hc<;>try exact hc.elim)|fail
    all_goals (try exact aF results212)
  have hne:b.opens≠[]:=by rw[ho];simp
  have hlast:b.opens.getLastD 0=lo:=by rw[ho];simp
  have hlen:b.opens.length=os.length+1:=by rw[ho];simp
  have hl0z:¬b.opens.length=0:=by omega
  have hlt:os.length<b.opens.length:=by omega
  have hg:b.opens[os.length]? =some lo:=by rw[ho];simp
  have hw:i64.wrap ((b.opens.length:Int)-1)=((os.length:Nat):Int):=by rw[wrap64]<;>omega
  clear ho hlen;rcases hk with rfl|⟨rfl,hx⟩
  .have hnw:uE b ⟨1,tn,ta,tx⟩=⟨tn,[],lo,ta⟩:=by unfold uE;rw[hlast];simp
   cases hvo:Fw tn
   .rw [hvo]at c2;have hop:nJ ⟨1,tn,ta,tx⟩=true:=by simp[nJ,hvo]
    by_cases h8:(8:Int)<=(b.opens.length:Int)
    .rw [full (.inr (.inr ⟨hop,by omega⟩))];refine bM aG func212 ntmps212 ?_;have W:=aA Mi (aA hl0z h8);refine we ?_;exact aF results212
    .rw [new (.inl rfl) (by rintro(h|h|⟨_,h⟩);omega;exact hne h;omega),eK hop,hnw];obtain⟨l0,hl0⟩:∃l,l=b.nodes++[(⟨tn,[],lo,ta⟩:jP)]:=⟨_,rfl⟩;have hap:b.nodes.map (fA .own)++[[.str tn,.str [],.int .i64 lo,.sl .own 2 (ta.map uX)]]=l0.map (fA .own):=by rw[hl0];simp
     obtain⟨o0,ho0⟩:∃l,l=b.opens++[((b.nodes.length:Nat):Int)]:=⟨_,rfl⟩;have hao:b.opens.map mM++[[.int .i64 ((b.nodes.length:Nat):Int)]]=o0.map mM:=by rw[ho0];simp
     rw[<-hl0,<-ho0];clear hl0 ho0;refine bM aG func212 ntmps212 ?_;have W:=aA Mi (aA hl0z (aA h8 (aA hg (aA hw (aA hn (aA hta (aA hap hao)))))));have V:=hlt;refine we ?_;exact aF results212
   .rw [hvo]at c2;have hop:nJ ⟨1,tn,ta,tx⟩=false:=by simp[nJ,hvo]
    rw[new (.inl rfl) (by rintro(h|h|⟨h,_⟩);omega;exact hne h;(rw[hop]at h;cases h)),cY (by rw[hop];decide),hnw];obtain⟨l0,hl0⟩:∃l,l=b.nodes++[(⟨tn,[],lo,ta⟩:jP)]:=⟨_,rfl⟩;have hap:b.nodes.map (fA .own)++[[.str tn,.str [],.int .i64 lo,.sl .own 2 (ta.map uX)]]=l0.map (fA .own):=by rw[hl0];simp
    rw[<-hl0];clear hl0;refine bM aG func212 ntmps212 ?_;have W:=aA Mi (aA hl0z (aA hg (aA hw (aA hn (aA hta hap)))));have V:=hlt;refine we ?_;exact aF results212
  .have hnw:uE b ⟨3,tn,ta,tx⟩=⟨[],tx,lo,[]⟩:=by unfold uE;rw[hlast];simp
   have hop:nJ ⟨3,tn,ta,tx⟩=false:=by simp[nJ]
   rw[new (.inr ⟨rfl,hx⟩) (by rintro(h|h|⟨h,_⟩);omega;exact hne h;(rw[hop]at h;cases h)),cY (by rw[hop];decide),hnw];obtain⟨l0,hl0⟩:∃l,l=b.nodes++[(⟨[],tx,lo,[]⟩:jP)]:=⟨_,rfl⟩;have hap:b.nodes.map (fA .own)++[[.str [],.str tx,.int .i64 lo,.sl .own 2 []]]=l0.map (fA .own):=by rw[hl0];simp
   rw[<-hl0];clear hl0;have hxb:(tx != [])=true:=by simpa using hx
   refine uP aG [21] func212 ntmps212 ?_;have W:=aA Mi (aA hl0z (aA hxb (aA hg (aA hw (aA hn hap)))));have V:=hlt;repeat' first|refine wf ?_|(refine sq ?_ ?_<;>intro hc<;>try exact hc.elim)|fail
   .exact (hx (by assumption)).elim
   refine go_openB 6 0 3 (by rfl) (by rfl) (by rfl) ?_;have W:=aA Mi (aA hl0z (aA hxb (aA hg (aA hw (aA hn hap)))));have V:=hlt;refine we ?_;exact aF results212
 .have h1:¬tk=1:=λh=>hk (.inl h)
  by_cases h3:tk=3
  .have hx:tx=[]:=sX λh=>hk (.inr ⟨h3,h⟩)
   rw[other h1 (λ_=>hx)];subst h3;subst hx;refine bM aG func212 ntmps212 ?_;refine aZ ?_;exact aF results212
  .rw [other h1 (λh=>absurd h h3)]
   refine bM aG func212 ntmps212 ?_;have W:=aA hk2 (aA h1 h3);refine we ?_;exact aF results212
end Go.Proofs.YthddijamfbfibaaGreatDoor
