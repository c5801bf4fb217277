/- Proved here: steps towards the statement of this claim. No condition. -/
import Derived.Test.YtdcpobkemdacnaaGreatDoorZQJ4
set_option linter.all false
set_option maxRecDepth 4000
set_option maxHeartbeats 4000000
namespace Go.Proofs.YtdcpobkemdacnaaGreatDoor
open Go.Aw Proofs.Tryz List IntKind
theorem uC [aC prog] (b:bF) (t:bV) (hs:aS b<=274877906944) (ht:bX t<=274877906944):Ok prog 193 [.agg (aU .view b),.agg (cB .view t)] (.gZ [.agg (aU .own (addToken b t).1),.int .i64 (addToken b t).2]):=by
 by_cases hk2:t.kind=2
 .exact Jy b t hs hk2
 have c1:=kR b hs;have c2:=Uw t.name;have hn:b.nodes.length<=274877906944/\b.opens.length<=274877906944:=by simp only [aS,bT] at hs;omega
 have zt:t.attrs.length<=274877906944:=by simp only [bX,bT] at ht;omega
 have other:=Gi (b:=b) hk2;have full:=Iu (b:=b) hk2;have new:=KX (b:=b) hk2;obtain ⟨tk,tn,ta,tx⟩:=t;simp only at hk2 other full new c2 zt;simp only [aU] at c1;by_cases hk:tk=1\/(tk=3/\tx≠[])
 .by_cases KV:(40:Int)<=(b.nodes.length:Int)
  .rw [full (.inl (by omega))];rcases hk with rfl|⟨rfl,hx⟩
   .refine bO aD func193 ntmps193 ?_;have W:=KV;refine we ?_;exact aF results193
   .refine bO aD func193 ntmps193 ?_;have W:=aA KV hx;repeat' first|refine wf ?_|(refine sq ?_ ?_<;>intro hc<;>try exact hc.elim)|fail
    all_goals try(refine aV ?_;simp [aH,results193])
  rcases AG b.opens with ho|⟨os,lo,ho⟩
  .rw [full (.inr (.inl ho))];have hl0z:b.opens.length=0:=by rw [ho];rfl
   rcases hk with rfl|⟨rfl,hx⟩
   .refine bO aD func193 ntmps193 ?_;have W:=aA KV hl0z;refine we ?_;exact aF results193
   .refine bO aD func193 ntmps193 ?_;have W:=aA KV (aA hx hl0z);repeat' first|refine wf ?_|(refine sq ?_ ?_<;>intro hc<;>try exact hc.elim)|fail
    all_goals try(refine aV ?_;simp [aH,results193])
  have hne:b.opens≠[]:=by rw [ho];simp
  have hlast:b.opens.getLastD 0=lo:=by rw [ho];simp
  have hlen:b.opens.length=os.length+1:=by rw [ho];simp
  have hl0z:¬b.opens.length=0:=by omega
  have hlt:os.length < b.opens.length:=by omega
  have hg:b.opens[os.length]? =some lo:=by rw [ho];simp
  have hw:i64.wrap ((b.opens.length:Int) - 1)=((os.length:Nat):Int):=by rw [wrap64]<;>omega
  clear ho hlen;rcases hk with rfl|⟨rfl,hx⟩
  .have hnw:tL b ⟨1,tn,ta,tx⟩=⟨tn,[],lo,ta⟩:=by unfold tL;rw [hlast];simp
   cases hvo:EC tn
   .rw [hvo] at c2;have hop:mR ⟨1,tn,ta,tx⟩=true:=by simp [mR,hvo]
    by_cases h8:(8:Int)<=(b.opens.length:Int)
    .rw [full (.inr (.inr ⟨hop,by omega⟩))];refine bO aD func193 ntmps193 ?_;have W:=aA KV (aA hl0z h8);refine we ?_;exact aF results193
    .rw [new (.inl rfl) (by rintro (h|h|⟨_,h⟩);omega;exact hne h;omega),eI hop,hnw];obtain ⟨l0,hl0⟩:∃l,l=b.nodes++[(⟨tn,[],lo,ta⟩:jL)]:=⟨_,rfl⟩;have hap:b.nodes.map (fD .own)++[[.str tn,.str [],.int .i64 lo,.sl .own 2 (ta.map uL)]]=l0.map (fD .own):=by rw [hl0];simp
     obtain ⟨o0,ho0⟩:∃l,l=b.opens++[((b.nodes.length:Nat):Int)]:=⟨_,rfl⟩;have hao:b.opens.map lW++[[.int .i64 ((b.nodes.length:Nat):Int)]]=o0.map lW:=by rw [ho0];simp
     rw [<-hl0,<-ho0];clear hl0 ho0;refine bO aD func193 ntmps193 ?_;have W:=aA KV (aA hl0z (aA h8 (aA hg (aA hw (aA hn (aA zt (aA hap hao)))))));have V:=hlt;refine we ?_;exact aF results193
   .rw [hvo] at c2;have hop:mR ⟨1,tn,ta,tx⟩=false:=by simp [mR,hvo]
    rw [new (.inl rfl) (by rintro (h|h|⟨h,_⟩);omega;exact hne h;(rw [hop] at h;cases h)),cX (by rw [hop];decide),hnw];obtain ⟨l0,hl0⟩:∃l,l=b.nodes++[(⟨tn,[],lo,ta⟩:jL)]:=⟨_,rfl⟩;have hap:b.nodes.map (fD .own)++[[.str tn,.str [],.int .i64 lo,.sl .own 2 (ta.map uL)]]=l0.map (fD .own):=by rw [hl0];simp
    rw [<-hl0];clear hl0;refine bO aD func193 ntmps193 ?_;have W:=aA KV (aA hl0z (aA hg (aA hw (aA hn (aA zt hap)))));have V:=hlt;refine we ?_;exact aF results193
  .have hnw:tL b ⟨3,tn,ta,tx⟩=⟨[],tx,lo,[]⟩:=by unfold tL;rw [hlast];simp
   have hop:mR ⟨3,tn,ta,tx⟩=false:=by simp [mR]
   rw [new (.inr ⟨rfl,hx⟩) (by rintro (h|h|⟨h,_⟩);omega;exact hne h;(rw [hop] at h;cases h)),cX (by rw [hop];decide),hnw];obtain ⟨l0,hl0⟩:∃l,l=b.nodes++[(⟨[],tx,lo,[]⟩:jL)]:=⟨_,rfl⟩;have hap:b.nodes.map (fD .own)++[[.str [],.str tx,.int .i64 lo,.sl .own 2 []]]=l0.map (fD .own):=by rw [hl0];simp
   rw [<-hl0];clear hl0;have hxb:(tx != [])=true:=by simpa using hx
   refine uB aD [21] func193 ntmps193 ?_;have W:=aA KV (aA hl0z (aA hxb (aA hg (aA hw (aA hn hap)))));have V:=hlt;repeat' first|refine wf ?_|(refine sq ?_ ?_<;>intro hc<;>try exact hc.elim)|fail
   .exact (hx (by assumption)).elim
   refine go_openB 6 0 3 (by rfl) (by rfl) (by rfl) ?_;have W:=aA KV (aA hl0z (aA hxb (aA hg (aA hw (aA hn hap)))));have V:=hlt;refine we ?_;exact aF results193
 .have h1:¬tk=1:=λh=>hk (.inl h)
  by_cases h3:tk=3
  .have hx:tx=[]:=tI λh=>hk (.inr ⟨h3,h⟩)
   rw [other h1 (λ_=>hx)];subst h3;subst hx;refine bO aD func193 ntmps193 ?_;refine aZ ?_;exact aF results193
  .rw [other h1 (λh=>absurd h h3)]
   refine bO aD func193 ntmps193 ?_;have W:=aA hk2 (aA h1 h3);refine we ?_;exact aF results193
theorem qF [aC prog] (b:bF) (t:bV) (hs:aS b<=274877906944) (ht:bX t<=274877906944):Ok prog 166 [.agg (aU .view b),.agg (cB .view t)] (.gZ [.agg (aU .own (addToken b t).1),.int .i64 (addToken b t).2]):=by
 by_cases hk2:t.kind=2
 .have c1:=kU b hs;have c2:=XM b t.name hs;rw [BG hk2];obtain ⟨tk,tn,ta,tx⟩:=t;simp only at hk2 c2;subst hk2;simp only [aU] at c1 c2;generalize pV b tn (b.opens.length - 1)=oc at *;refine bO aD func166 ntmps166 ?_;have W:=trivial;repeat' first|refine wf ?_|(refine nx ?_;refine sg (hc:=c2) (h:=?_))|(refine sq ?_ ?_<;>intro hc<;>try exact hc.elim)|fail
  exact aF results166
 have c1:=kU b hs;have c2:=Ux t.name;have c3:=Jk t.attrs (by simp only [bX,bT] at ht;omega);have hn:b.nodes.length<=274877906944/\b.opens.length<=274877906944:=by simp only [aS,bT] at hs;omega
 have zt:t.attrs.length<=274877906944:=by simp only [bX,bT] at ht;omega
 have other:=Gi (b:=b) hk2;have full:=Iu (b:=b) hk2;have new:=KX (b:=b) hk2;obtain ⟨tk,tn,ta,tx⟩:=t;simp only at hk2 other full new c2 c3 zt;simp only [aU] at c1;by_cases hk:tk=1\/(tk=3/\tx≠[])
 .by_cases KV:(40:Int)<=(b.nodes.length:Int)
  .rw [full (.inl (by omega))];rcases hk with rfl|⟨rfl,hx⟩
   .refine bO aD func166 ntmps166 ?_;have W:=KV;refine we ?_;exact aF results166
   .refine bO aD func166 ntmps166 ?_;have W:=aA KV hx;refine we ?_;exact aF results166
  rcases AG b.opens with ho|⟨os,lo,ho⟩
  .rw [full (.inr (.inl ho))];have hl0z:b.opens.length=0:=by rw [ho];rfl
   rcases hk with rfl|⟨rfl,hx⟩
   .refine bO aD func166 ntmps166 ?_;have W:=aA KV hl0z;refine we ?_;exact aF results166
   .refine bO aD func166 ntmps166 ?_;have W:=aA KV (aA hx hl0z);refine we ?_;exact aF results166
  have hne:b.opens≠[]:=by rw [ho];simp
  have hlast:b.opens.getLastD 0=lo:=by rw [ho];simp
  have hlen:b.opens.length=os.length+1:=by rw [ho];simp
  have hl0z:¬b.opens.length=0:=by omega
  have hlt:os.length < b.opens.length:=by omega
  have hg:b.opens[os.length]? =some lo:=by rw [ho];simp
  have hw:i64.wrap ((b.opens.length:Int) - 1)=((os.length:Nat):Int):=by rw [wrap64]<;>omega
  clear ho hlen;rcases hk with rfl|⟨rfl,hx⟩
  .have hnw:tL b ⟨1,tn,ta,tx⟩=⟨tn,[],lo,ta⟩:=by unfold tL;rw [hlast];simp
   cases hvo:EC tn
   .rw [hvo] at c2;have hop:mR ⟨1,tn,ta,tx⟩=true:=by simp [mR,hvo]
    by_cases h8:(8:Int)<=(b.opens.length:Int)
    .rw [full (.inr (.inr ⟨hop,by omega⟩))];refine bO aD func166 ntmps166 ?_;have W:=aA KV (aA hl0z h8);refine we ?_;exact aF results166
    .rw [new (.inl rfl) (by rintro (h|h|⟨_,h⟩);omega;exact hne h;omega),eI hop,hnw];obtain ⟨l0,hl0⟩:∃l,l=b.nodes++[(⟨tn,[],lo,ta⟩:jL)]:=⟨_,rfl⟩;have hap:b.nodes.map (fD .own)++[[.str tn,.str [],.int .i64 lo,.sl .own 2 (ta.map uL)]]=l0.map (fD .own):=by rw [hl0];simp
     obtain ⟨o0,ho0⟩:∃l,l=b.opens++[((b.nodes.length:Nat):Int)]:=⟨_,rfl⟩;have hao:b.opens.map lW++[[.int .i64 ((b.nodes.length:Nat):Int)]]=o0.map lW:=by rw [ho0];simp
     rw [<-hl0,<-ho0];clear hl0 ho0;refine bO aD func166 ntmps166 ?_;have W:=aA KV (aA hl0z (aA h8 (aA hg (aA hw (aA hn (aA zt (aA hap hao)))))));have V:=hlt;refine we ?_;exact aF results166
   .rw [hvo] at c2;have hop:mR ⟨1,tn,ta,tx⟩=false:=by simp [mR,hvo]
    rw [new (.inl rfl) (by rintro (h|h|⟨h,_⟩);omega;exact hne h;(rw [hop] at h;cases h)),cX (by rw [hop];decide),hnw];obtain ⟨l0,hl0⟩:∃l,l=b.nodes++[(⟨tn,[],lo,ta⟩:jL)]:=⟨_,rfl⟩;have hap:b.nodes.map (fD .own)++[[.str tn,.str [],.int .i64 lo,.sl .own 2 (ta.map uL)]]=l0.map (fD .own):=by rw [hl0];simp
    rw [<-hl0];clear hl0;refine bO aD func166 ntmps166 ?_;have W:=aA KV (aA hl0z (aA hg (aA hw (aA hn (aA zt hap)))));have V:=hlt;refine we ?_;exact aF results166
  .have hnw:tL b ⟨3,tn,ta,tx⟩=⟨[],tx,lo,[]⟩:=by unfold tL;rw [hlast];simp
   have hop:mR ⟨3,tn,ta,tx⟩=false:=by simp [mR]
   rw [new (.inr ⟨rfl,hx⟩) (by rintro (h|h|⟨h,_⟩);omega;exact hne h;(rw [hop] at h;cases h)),cX (by rw [hop];decide),hnw];obtain ⟨l0,hl0⟩:∃l,l=b.nodes++[(⟨[],tx,lo,[]⟩:jL)]:=⟨_,rfl⟩;have hap:b.nodes.map (fD .own)++[[.str [],.str tx,.int .i64 lo,.sl .own 2 []]]=l0.map (fD .own):=by rw [hl0];simp
   rw [<-hl0];clear hl0;have hxb:(tx != [])=true:=by simpa using hx
   refine uB aD [15] func166 ntmps166 ?_;have W:=aA KV (aA hl0z (aA hxb (aA hg (aA hw (aA hn hap)))));have V:=hlt;repeat' first|refine wf ?_|(refine sq ?_ ?_<;>intro hc<;>try exact hc.elim)|fail
   all_goals first|(exact (hx (by assumption)).elim)|refine go_openB 6 0 3 (by rfl) (by rfl) (by rfl) ?_
   have W:=aA KV (aA hl0z (aA hxb (aA hg (aA hw (aA hn hap)))));have V:=hlt;refine we ?_;exact aF results166
 .have h1:¬tk=1:=λh=>hk (.inl h)
  have hoth:addToken b ⟨tk,tn,ta,tx⟩=(b, -1):=other h1 (λh3=>tI λh=>hk (.inr ⟨h3,h⟩));rw [hoth];by_cases KV:(40:Int)<=(b.nodes.length:Int)
  .refine bO aD func166 ntmps166 ?_;have W:=aA hk2 (aA h1 KV);refine we ?_;exact aF results166
  rcases AG b.opens with ho|⟨os,lo,ho⟩
  .have hl0z:b.opens.length=0:=by rw [ho];rfl
   refine bO aD func166 ntmps166 ?_;have W:=aA hk2 (aA h1 (aA KV hl0z));refine we ?_;exact aF results166
  have hlen:b.opens.length=os.length+1:=by rw [ho];simp
  have hl0z:¬b.opens.length=0:=by omega
  have hlt:os.length < b.opens.length:=by omega
  have hg:b.opens[os.length]? =some lo:=by rw [ho];simp
  have hw:i64.wrap ((b.opens.length:Int) - 1)=((os.length:Nat):Int):=by rw [wrap64]<;>omega
  clear ho hlen;by_cases h3:tk=3
  .have hx:tx=[]:=tI λh=>hk (.inr ⟨h3,h⟩)
   subst h3;subst hx;refine bO aD func166 ntmps166 ?_;have W:=aA KV (aA hl0z (aA hg (aA hw hn)));have V:=hlt;refine we ?_;exact aF results166
  .refine bO aD func166 ntmps166 ?_;have W:=aA hk2 (aA h1 (aA h3 (aA KV (aA hl0z (aA hg (aA hw hn))))));have V:=hlt;refine we ?_;exact aF results166
end Go.Proofs.YtdcpobkemdacnaaGreatDoor
