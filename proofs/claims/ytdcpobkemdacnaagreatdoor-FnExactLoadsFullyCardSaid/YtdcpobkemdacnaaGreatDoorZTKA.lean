/- Proved here: steps towards the statement of this claim. No condition. -/
import Derived.Test.YtdcpobkemdacnaaGreatDoorZQTK5
set_option linter.all false
set_option maxRecDepth 4000
set_option maxHeartbeats 4000000
namespace Go.Proofs.YtdcpobkemdacnaaGreatDoor
open Go.Aw Proofs.Tryz List IntKind
theorem II [aC prog] (p:aG) (hs:aJ p<=536870912) (h:p.queue=[]\/p.block≠0\/p.inline≠0):Ok prog 106 [.agg (aI .view p)] (.gZ [.agg (aI .own p),.bool false]):=by
 have c1:=gP p (by omega);simp only [aI] at c1;by_cases hl0:p.queue.length=0
 .refine bO aD func106 ntmps106 ?_;have W:=hl0;refine we ?_;exact aF results106
 .have hq:p.queue≠[]:=λh=>hl0 (by rw [h];rfl)
  by_cases hb:p.block=0
  .have hi:¬p.inline=0:=by
    rcases h with h|h|h
    .exact absurd h hq
    .exact absurd hb h
    .exact h
   rw [hb] at c1;refine bO aD func106 ntmps106 ?_;have W:=aA hl0 (aA hb hi);refine we ?_;all_goals try(refine aV ?_;simp [aH,results106,hb])
  .refine bO aD func106 ntmps106 ?_;have W:=aA hl0 hb;refine we ?_;exact aF results106
theorem Ti [aC prog] (p:aG) (t:bV) (q:List bV) (hq:p.queue=t::q) (hb:p.block=0) (hi:p.inline=0) (hs:aJ p<=536870912) (hk:¬t.kind=2) (ho:p.builder.opens=[]):Ok prog 106 [.agg (aI .view p)] (.gZ [.agg (aI .own (jP p t q)),.bool true]):=by
 have hq1:=uD hq;have hts:bX t<=536870912:=by have h1:=bU bX (show t∈p.queue by rw [hq];simp);simp only [aJ,bT] at hs;omega
 have hbs:aS p.builder<=536870912:=by simp only [aJ] at hs;omega
 have hbl:p.builder.nodes.length<=536870912/\p.builder.opens.length<=536870912:=by simp only [aS,bT] at hbs;omega
 have c1:=gP p (by omega);have c2:=qF p.builder t (by omega) (by omega);have c3:=Gj {p with queue:=q,builder:=(addToken p.builder t).1} t (addToken p.builder t).2 (by omega) (by omega);unfold jP;rw [Ab (λh=>hk h.1)];generalize addToken p.builder t=u at *;obtain ⟨⟨n1,o1⟩,k1⟩:=u;simp only at c2 c3⊢;obtain ⟨ad,C9,tok,queue,ended,Al,aB,aM,entries,block,inline,deferred,iE,tH,log,lY⟩:=p;obtain ⟨tk,tn,ta,tx⟩:=t;simp only at hq hb hi hbl hk c1 c2 c3⊢;subst hq;subst hb;subst hi;simp only [aI,bP,aU,dR,aL] at c1;simp only [aU] at c2;have hl1:¬(q.length:Int)+1=0:=by omega
 have xN:(q.map (cB .own)).take q.length=q.map (cB .own):=cY (by simp);simp only at ho;have hl0:Al.opens.length=0:=by rw [ho];rfl
 clear ho;by_cases h1:tk=1
 .subst h1;by_cases h0:0<=k1
  .rw [eI ⟨rfl,h0⟩];generalize Aj _ _ k1=g at *;simp only [aI,bP,aU,dR,aL,cB] at c3;refine uB aD [4] func106 ntmps106 ?_;have W:=aA hl1 (aA xN (aA hl0 (aA h0 hbl)));refine we ?_;refine go_share 5 0 (by rfl) (by rfl) (by simp;rfl) ?_;have W:=aA hl1 (aA xN (aA hl0 (aA h0 hbl)));repeat' first|refine wf ?_|(refine nx ?_;refine sg (hc:=c3) (h:=?_))|(refine sq ?_ ?_<;>intro hc<;>try exact hc.elim)|fail
   exact aF results106
  .rw [cX (λh=>h0 h.2)]
   refine uB aD [4] func106 ntmps106 ?_;have W:=aA hl1 (aA xN (aA hl0 (aA h0 hbl)));refine we ?_;refine go_share 5 0 (by rfl) (by rfl) (by simp;rfl) ?_;have W:=aA hl1 (aA xN (aA hl0 (aA h0 hbl)));refine we ?_;exact aF results106
 .rw [cX (λh=>h1 h.1)]
  by_cases h0:0<=k1
  .skip
   refine uB aD [4] func106 ntmps106 ?_;have W:=aA hl1 (aA xN (aA hl0 (aA h0 (aA hk (aA h1 hbl)))));refine we ?_;refine go_share 5 0 (by rfl) (by rfl) (by simp;rfl) ?_;have W:=aA hl1 (aA xN (aA hl0 (aA h0 (aA hk (aA h1 hbl)))));refine we ?_;exact aF results106
  .skip
   refine uB aD [4] func106 ntmps106 ?_;have W:=aA hl1 (aA xN (aA hl0 (aA h0 (aA hk (aA h1 hbl)))));refine we ?_;refine go_share 5 0 (by rfl) (by rfl) (by simp;rfl) ?_;have W:=aA hl1 (aA xN (aA hl0 (aA h0 (aA hk (aA h1 hbl)))));refine we ?_;exact aF results106
theorem Tj [aC prog] (p:aG) (t:bV) (q:List bV) (hq:p.queue=t::q) (hb:p.block=0) (hi:p.inline=0) (hs:aJ p<=536870912) (hk:¬t.kind=2) (os:List Int) (lo:Int) (ho:p.builder.opens=os++[lo]):Ok prog 106 [.agg (aI .view p)] (.gZ [.agg (aI .own (jP p t q)),.bool true]):=by
 have hq1:=uD hq;have hts:bX t<=536870912:=by have h1:=bU bX (show t∈p.queue by rw [hq];simp);simp only [aJ,bT] at hs;omega
 have hbs:aS p.builder<=536870912:=by simp only [aJ] at hs;omega
 have hbl:p.builder.nodes.length<=536870912/\p.builder.opens.length<=536870912:=by simp only [aS,bT] at hbs;omega
 have c1:=gP p (by omega);have c2:=qF p.builder t (by omega) (by omega);have c3:=Gj {p with queue:=q,builder:=(addToken p.builder t).1} t (addToken p.builder t).2 (by omega) (by omega);unfold jP;rw [Ab (λh=>hk h.1)];generalize addToken p.builder t=u at *;obtain ⟨⟨n1,o1⟩,k1⟩:=u;simp only at c2 c3⊢;obtain ⟨ad,C9,tok,queue,ended,Al,aB,aM,entries,block,inline,deferred,iE,tH,log,lY⟩:=p;obtain ⟨tk,tn,ta,tx⟩:=t;simp only at hq hb hi hbl hk c1 c2 c3⊢;subst hq;subst hb;subst hi;simp only [aI,bP,aU,dR,aL] at c1;simp only [aU] at c2;have hl1:¬(q.length:Int)+1=0:=by omega
 have xN:(q.map (cB .own)).take q.length=q.map (cB .own):=cY (by simp);simp only at ho;have hl0:(0:Int) < (Al.opens.length:Int):=by rw [ho];simp<;>omega
 have hlp:0 < Al.opens.length:=by omega
 have hlt:os.length < Al.opens.length:=by rw [ho];simp
 have hg:Al.opens[os.length]? =some lo:=by rw [ho];simp
 have hw:i64.wrap ((Al.opens.length:Int) - 1)=((os.length:Nat):Int):=by
  have e:Al.opens.length=os.length+1:=by rw [ho];simp
  rw [wrap64]<;>omega
 clear ho;by_cases h1:tk=1
 .subst h1;by_cases h0:0<=k1
  .rw [eI ⟨rfl,h0⟩];generalize Aj _ _ k1=g at *;simp only [aI,bP,aU,dR,aL,cB] at c3;refine uB aD [4] func106 ntmps106 ?_;have W:=aA hl1 (aA xN (aA hlp (aA hl0 (aA hw (aA hg (aA h0 hbl))))));have V:=hlt;refine we ?_;refine go_share 5 0 (by rfl) (by rfl) (by simp;rfl) ?_;have W:=aA hl1 (aA xN (aA hlp (aA hl0 (aA hw (aA hg (aA h0 hbl))))));have V:=hlt;repeat' first|refine wf ?_|(refine nx ?_;refine sg (hc:=c3) (h:=?_))|(refine sq ?_ ?_<;>intro hc<;>try exact hc.elim)|fail
   exact aF results106
  .rw [cX (λh=>h0 h.2)]
   refine uB aD [4] func106 ntmps106 ?_;have W:=aA hl1 (aA xN (aA hlp (aA hl0 (aA hw (aA hg (aA h0 hbl))))));have V:=hlt;refine we ?_;refine go_share 5 0 (by rfl) (by rfl) (by simp;rfl) ?_;have W:=aA hl1 (aA xN (aA hlp (aA hl0 (aA hw (aA hg (aA h0 hbl))))));have V:=hlt;refine we ?_;exact aF results106
 .rw [cX (λh=>h1 h.1)]
  by_cases h0:0<=k1
  .skip
   refine uB aD [4] func106 ntmps106 ?_;have W:=aA hl1 (aA xN (aA hlp (aA hl0 (aA hw (aA hg (aA h0 (aA hk (aA h1 hbl))))))));have V:=hlt;refine we ?_;refine go_share 5 0 (by rfl) (by rfl) (by simp;rfl) ?_;have W:=aA hl1 (aA xN (aA hlp (aA hl0 (aA hw (aA hg (aA h0 (aA hk (aA h1 hbl))))))));have V:=hlt;refine we ?_;exact aF results106
  .skip
   refine uB aD [4] func106 ntmps106 ?_;have W:=aA hl1 (aA xN (aA hlp (aA hl0 (aA hw (aA hg (aA h0 (aA hk (aA h1 hbl))))))));have V:=hlt;refine we ?_;refine go_share 5 0 (by rfl) (by rfl) (by simp;rfl) ?_;have W:=aA hl1 (aA xN (aA hlp (aA hl0 (aA hw (aA hg (aA h0 (aA hk (aA h1 hbl))))))));have V:=hlt;refine we ?_;exact aF results106
theorem UH [aC prog] (p:aG) (t:bV) (q:List bV) (hq:p.queue=t::q) (hb:p.block=0) (hi:p.inline=0) (hs:aJ p<=536870912) (hk:¬t.kind=2):Ok prog 106 [.agg (aI .view p)] (.gZ [.agg (aI .own (jP p t q)),.bool true]):=by
 rcases AG p.builder.opens with ho|⟨os,lo,ho⟩
 .exact Ti p t q hq hb hi hs hk ho
 .exact Tj p t q hq hb hi hs hk os lo (by simpa using ho)
theorem Tk [aC prog] (p:aG) (t:bV) (q:List bV) (hq:p.queue=t::q) (hb:p.block=0) (hi:p.inline=0) (hs:aJ p<=536870912) (hk:t.kind=2) (hn:¬t.name=iT):Ok prog 106 [.agg (aI .view p)] (.gZ [.agg (aI .own (jP p t q)),.bool true]):=by
 have hq1:=uD hq;have hts:bX t<=536870912:=by have h1:=bU bX (show t∈p.queue by rw [hq];simp);simp only [aJ,bT] at hs;omega
 have hbs:aS p.builder<=536870912:=by simp only [aJ] at hs;omega
 have hbl:p.builder.nodes.length<=536870912/\p.builder.opens.length<=536870912:=by simp only [aS,bT] at hbs;omega
 have c1:=gP p (by omega);have c2:=qF p.builder t (by omega) (by omega);obtain ⟨hm,_⟩:=pF (b:=p.builder) hk;unfold jP;rw [Ab (λh=>hn h.2)];rw [hm] at c2⊢;generalize (addToken p.builder t).1=u at *;obtain ⟨n1,o1⟩:=u;simp only at c2⊢;obtain ⟨ad,C9,tok,queue,ended,Al,aB,aM,entries,block,inline,deferred,iE,tH,log,lY⟩:=p;obtain ⟨tk,tn,ta,tx⟩:=t;simp only at hq hb hi hbl hk hn c1 c2⊢;subst hq;subst hb;subst hi;subst hk;have hnb:(tn == [115,99,114,105,112,116])=false:=by simpa [iT] using hn
 rw [cX (by rintro ⟨h,_⟩;cases h)];simp only [aI,bP,aU,dR,aL] at c1;simp only [aU] at c2;have hl1:¬(q.length:Int)+1=0:=by omega
 have xN:(q.map (cB .own)).take q.length=q.map (cB .own):=cY (by simp);rcases AG Al.opens with ho|⟨os,lo,ho⟩
 .have hl0:Al.opens.length=0:=by rw [ho];rfl
  refine uB aD [4] func106 ntmps106 ?_;have W:=aA hl1 (aA xN (aA hnb (aA hl0 hbl)));refine we ?_;refine go_share 5 0 (by rfl) (by rfl) (by simp;rfl) ?_;have W:=aA hl1 (aA xN (aA hnb (aA hl0 hbl)));refine we ?_;exact aF results106
 .have hl0:(0:Int) < (Al.opens.length:Int):=by rw [ho];simp<;>omega
  have hlt:os.length < Al.opens.length:=by rw [ho];simp
  have hg:Al.opens[os.length]? =some lo:=by rw [ho];simp
  have hlp:0 < Al.opens.length:=by omega
  have hw:i64.wrap ((Al.opens.length:Int) - 1)=((os.length:Nat):Int):=by rw [wrap64]<;>(simp [ho] at hbl⊢;try omega)
  clear ho;refine uB aD [4] func106 ntmps106 ?_;have W:=aA hl1 (aA xN (aA hnb (aA hlp (aA hl0 (aA hw (aA hg hbl))))));have V:=hlt;refine we ?_;refine go_share 5 0 (by rfl) (by rfl) (by simp;rfl) ?_;have W:=aA hl1 (aA xN (aA hnb (aA hlp (aA hl0 (aA hw (aA hg hbl))))));have V:=hlt;refine we ?_;exact aF results106
theorem UI [aC prog] (p:aG) (t:bV) (q:List bV) (hq:p.queue=t::q) (hb:p.block=0) (hi:p.inline=0) (hs:aJ p<=536870912) (hk:t.kind=2) (hn:t.name=iT) (ho:p.builder.opens=[]):Ok prog 106 [.agg (aI .view p)] (.gZ [.agg (aI .own (jP p t q)),.bool true]):=by
 have hq1:=uD hq;have hts:bX t<=536870912:=by have h1:=bU bX (show t∈p.queue by rw [hq];simp);simp only [aJ,bT] at hs;omega
 have hbs:aS p.builder<=536870912:=by simp only [aJ] at hs;omega
 have hbl:p.builder.nodes.length<=536870912/\p.builder.opens.length<=536870912:=by simp only [aS,bT] at hbs;omega
 have c1:=gP p (by omega);have c2:=qF p.builder t (by omega) (by omega);obtain ⟨hm,_⟩:=pF (b:=p.builder) hk;unfold jP;rw [La ho];have hl0:p.builder.opens.length=0:=by rw [ho];rfl
 rw [hm] at c2⊢;generalize (addToken p.builder t).1=u at *;obtain ⟨n1,o1⟩:=u;simp only at c2⊢;obtain ⟨ad,C9,tok,queue,ended,Al,aB,aM,entries,block,inline,deferred,iE,tH,log,lY⟩:=p;obtain ⟨tk,tn,ta,tx⟩:=t;simp only at hq hb hi hbl hk hn c1 c2 hl0⊢;subst hq;subst hb;subst hi;clear ho;subst hk;simp only [iT] at hn;subst hn;rw [cX (by rintro ⟨h,_⟩;cases h)];simp only [aI,bP,aU,dR,aL] at c1;simp only [aU] at c2;have hl1:¬(q.length:Int)+1=0:=by omega
 have xN:(q.map (cB .own)).take q.length=q.map (cB .own):=cY (by simp);have c4:=gK (-1) 1 ((Al.nodes.length:Int) - 1);rw [show (decide ((1:Int)<= -1)&&decide ((-1:Int)<=(Al.nodes.length:Int) - 1))=false from by simp] at c4;have hw2:i64.wrap ((Al.nodes.length:Int) - 1)=(Al.nodes.length:Int) - 1:=by rw [wrap64]<;>omega
 refine uB aD [4] func106 ntmps106 ?_;have W:=aA hl1 (aA xN (aA hl0 (aA hw2 hbl)));refine we ?_;refine go_share 5 0 (by rfl) (by rfl) (by simp;rfl) ?_;have W:=aA hl1 (aA xN (aA hl0 (aA hw2 hbl)));refine we ?_;exact aF results106
theorem Tm [aC prog] (p:aG) (t:bV) (q:List bV) (hq:p.queue=t::q) (hb:p.block=0) (hi:p.inline=0) (hs:aJ p<=536870912) (hk:t.kind=2) (hn:t.name=iT) (os:List Int) (lo:Int) (ho:p.builder.opens=os++[lo]) (hs0:sJ p.builder t=none):Ok prog 106 [.agg (aI .view p)] (.gZ [.agg (aI .own (jP p t q)),.bool true]):=by
 have hq1:=uD hq;have hts:bX t<=536870912:=by have h1:=bU bX (show t∈p.queue by rw [hq];simp);simp only [aJ,bT] at hs;omega
 have hbs:aS p.builder<=536870912:=by simp only [aJ] at hs;omega
 have hbl:p.builder.nodes.length<=536870912/\p.builder.opens.length<=536870912:=by simp only [aS,bT] at hbs;omega
 have c1:=gP p (by omega);have c2:=qF p.builder t (by omega) (by omega);obtain ⟨hm,_⟩:=pF (b:=p.builder) hk;have Gv:∀(k:Nat) (nd:jL),1<=k->p.builder.opens=os++[((k:Nat):Int)]->p.builder.nodes[k]? =some nd->nd.name=iT->False:=λk nd h1 h2 h3 h4=>by have h5:=AQ hk hn h2 h1 h3 h4;rw [hs0] at h5;cases h5
 unfold jP;rw [hs0];clear hs0;have hl0:(0:Int) < (p.builder.opens.length:Int):=by rw [ho];simp<;>omega
 have hlt:os.length < p.builder.opens.length:=by rw [ho];simp
 have hg:p.builder.opens[os.length]? =some lo:=by rw [ho];simp
 have hw:i64.wrap ((p.builder.opens.length:Int) - 1)=((os.length:Nat):Int):=by
  have e:p.builder.opens.length=os.length+1:=by rw [ho];simp
  rw [wrap64]<;>omega
 rw [hm] at c2⊢;generalize (addToken p.builder t).1=u at *;obtain ⟨n1,o1⟩:=u;simp only at c2⊢;obtain ⟨ad,C9,tok,queue,ended,Al,aB,aM,entries,block,inline,deferred,iE,tH,log,lY⟩:=p;obtain ⟨tk,tn,ta,tx⟩:=t;simp only at hq hb hi hbl hk hn c1 c2 hl0 hlt hg hw ho Gv⊢;subst hq;subst hb;subst hi;subst hk;simp only [iT] at hn;subst hn;rw [cX (by rintro ⟨h,_⟩;cases h)];simp only [aI,bP,aU,dR,aL] at c1;simp only [aU] at c2;have hl1:¬(q.length:Int)+1=0:=by omega
 have xN:(q.map (cB .own)).take q.length=q.map (cB .own):=cY (by simp);have hw2:i64.wrap ((Al.nodes.length:Int) - 1)=(Al.nodes.length:Int) - 1:=by rw [wrap64]<;>omega
 have c4:=gK lo 1 ((Al.nodes.length:Int) - 1);have hlp:0 < Al.opens.length:=by omega
 by_cases h1:1<=lo
 .by_cases h2:lo < (Al.nodes.length:Int)
  .rw [show (decide ((1:Int)<=lo)&&decide (lo<=(Al.nodes.length:Int) - 1))=true from by simp;omega] at c4;obtain ⟨k,rfl⟩:=mB (show 0<=lo by omega);have hkl:k < Al.nodes.length:=by omega
   have DD:=aE hkl;have hne:(Al.nodes[k].name == [115,99,114,105,112,116])=false:=by
    cases h:(Al.nodes[k].name == [115,99,114,105,112,116]) with
    |false=>rfl
    |true=>exact (Gv k _ (by omega) ho DD (by simpa [iT] using h)).elim
   clear Gv ho;refine uB aD [4] func106 ntmps106 ?_;have W:=aA hl1 (aA xN (aA hl0 (aA hw (aA hg (aA h1 (aA DD (aA hkl (aA hne (aA hw2 (aA hlp hbl))))))))));have V:=hlt;refine we ?_;refine go_share 5 0 (by rfl) (by rfl) (by simp;rfl) ?_;have W:=aA hl1 (aA xN (aA hl0 (aA hw (aA hg (aA h1 (aA DD (aA hkl (aA hne (aA hw2 (aA hlp hbl))))))))));have V:=hlt;refine we ?_;exact aF results106
  .skip
   clear Gv ho;rw [show (decide ((1:Int)<=lo)&&decide (lo<=(Al.nodes.length:Int) - 1))=false from by simp;omega] at c4;refine uB aD [4] func106 ntmps106 ?_;have W:=aA hl1 (aA xN (aA hl0 (aA hw (aA hg (aA h1 (aA h2 (aA hw2 (aA hlp hbl))))))));have V:=hlt;refine we ?_;refine go_share 5 0 (by rfl) (by rfl) (by simp;rfl) ?_;have W:=aA hl1 (aA xN (aA hl0 (aA hw (aA hg (aA h1 (aA h2 (aA hw2 (aA hlp hbl))))))));have V:=hlt;refine we ?_;exact aF results106
 .skip
  clear Gv ho;rw [show (decide ((1:Int)<=lo)&&decide (lo<=(Al.nodes.length:Int) - 1))=false from by simp;omega] at c4;refine uB aD [4] func106 ntmps106 ?_;have W:=aA hl1 (aA xN (aA hl0 (aA hw (aA hg (aA h1 (aA hw2 (aA hlp hbl)))))));have V:=hlt;refine we ?_;refine go_share 5 0 (by rfl) (by rfl) (by simp;rfl) ?_;have W:=aA hl1 (aA xN (aA hl0 (aA hw (aA hg (aA h1 (aA hw2 (aA hlp hbl)))))));have V:=hlt;refine we ?_;exact aF results106
theorem Pv [aC prog] (p:aG) (t:bV) (q:List bV) (hq:p.queue=t::q) (hb:p.block=0) (hi:p.inline=0) (hs:aJ p<=536870912) (hk:t.kind=2) (hn:t.name=iT) (os:List Int) (k:Nat) (ho:p.builder.opens=os++[((k:Nat):Int)]) (nd:jL) (hk1:1<=k) (DD:p.builder.nodes[k]? =some nd) (hns:nd.name=iT):Ok prog 106 [.agg (aI .view p)] (.gZ [.agg (aI .own (jP p t q)),.bool true]):=by
 have hq1:=uD hq;have hts:bX t<=536870912:=by have h1:=bU bX (show t∈p.queue by rw [hq];simp);simp only [aJ,bT] at hs;omega
 have hbs:aS p.builder<=536870912:=by simp only [aJ] at hs;omega
 have hbl:p.builder.nodes.length<=536870912/\p.builder.opens.length<=536870912:=by simp only [aS,bT] at hbs;omega
 have c1:=gP p (by omega);have c2:=qF p.builder t (by omega) (by omega);obtain ⟨hm,hmn⟩:=pF (b:=p.builder) hk;have hkl:k < p.builder.nodes.length:=(cH.1 DD).1;have c3:=Nf {p with queue:=q,builder:=(addToken p.builder t).1} k nd (by simp only [hmn];exact hkl) (by simp only [hmn];exact DD) (by omega);unfold jP;rw [AQ hk hn ho hk1 DD hns];simp only [DD,Option.elim];have hl0:(0:Int) < (p.builder.opens.length:Int):=by rw [ho];simp<;>omega
 have hlt:os.length < p.builder.opens.length:=by rw [ho];simp
 have hg:p.builder.opens[os.length]? =some ((k:Nat):Int):=by rw [ho];simp
 have hw:i64.wrap ((p.builder.opens.length:Int) - 1)=((os.length:Nat):Int):=by
  have e:p.builder.opens.length=os.length+1:=by rw [ho];simp
  rw [wrap64]<;>omega
 have hnb:(nd.name == [115,99,114,105,112,116])=true:=by simpa [iT] using hns
 generalize sI _ k nd.attrs=g at *;rw [hm] at c2;generalize (addToken p.builder t).1=u at *;obtain ⟨n1,o1⟩:=u;try simp only at c2
 try simp only at c3
 obtain ⟨ad,C9,tok,queue,ended,Al,aB,aM,entries,block,inline,deferred,iE,tH,log,lY⟩:=p;obtain ⟨tk,tn,ta,tx⟩:=t;simp only at hq hb hi hbl hk hn c1 c2 c3 hl0 hlt hg hw DD hkl;subst hq;subst hb;subst hi;clear ho hns hm hmn;subst hk;simp only [iT] at hn;subst hn;simp only [aI,bP,aU,dR,aL] at c1;simp only [aU] at c2;have hl1:¬(q.length:Int)+1=0:=by omega
 have xN:(q.map (cB .own)).take q.length=q.map (cB .own):=cY (by simp);have hw2:i64.wrap ((Al.nodes.length:Int) - 1)=(Al.nodes.length:Int) - 1:=by rw [wrap64]<;>omega
 have c4:=gK ((k:Nat):Int) 1 ((Al.nodes.length:Int) - 1);rw [show (decide ((1:Int)<=((k:Nat):Int))&&decide (((k:Nat):Int)<=(Al.nodes.length:Int) - 1))=true from by simp;omega] at c4;have aEu:(1:Int)<=((k:Nat):Int):=by omega
 simp only [aI,bP,aU,dR,aL] at c3;have aEv:(Al.nodes[k].name == [115,99,114,105,112,116])=true:=by rw [aE hkl] at DD;rw [cQ DD];exact hnb
 have hlp:0 < Al.opens.length:=by omega
 refine uB aD [4] func106 ntmps106 ?_;have W:=aA hl1 (aA xN (aA hlp (aA hl0 (aA hw (aA hg (aA aEu (aA hkl (aA DD (aA aEv (aA hw2 (aA hlp hbl)))))))))));have V:=hlt;refine we ?_;refine go_share 5 0 (by rfl) (by rfl) (by simp;rfl) ?_;have W:=aA hl1 (aA xN (aA hlp (aA hl0 (aA hw (aA hg (aA aEu (aA hkl (aA DD (aA aEv (aA hw2 (aA hlp hbl)))))))))));have V:=hlt;repeat' first|refine wf ?_|(refine nx ?_;refine sg (hc:=c3) (h:=?_))|(refine sq ?_ ?_<;>intro hc<;>try exact hc.elim)|fail
 exact aF results106
theorem Nq [aC prog] (p:aG) (hs:aJ p<=536870912):Ok prog 106 [.agg (aI .view p)] (.gZ [.agg (aI .own (iN p).1),.bool (iN p).2]):=by
 cases hq:p.queue with
 |nil=>
  have e:iN p=(p,false):=by unfold iN;rw [hq]
  rw [e];exact II p hs (.inl hq)
 |cons t q=>
  by_cases h:p.block=0/\p.inline=0
  .have e:iN p=(jP p t q,true):=by unfold iN;rw [hq];simp only;rw [eI h]
   rw [e];by_cases hk:t.kind=2
   .by_cases hn:t.name=iT
    .rcases AG p.builder.opens with ho|⟨os,lo,ho⟩
     .exact UI p t q hq h.1 h.2 hs hk hn ho
     .cases hsc:sJ p.builder t with
      |none=>exact Tm p t q hq h.1 h.2 hs hk hn os lo (by simpa using ho) hsc
      |some k=>
       have hsc2:=hsc;unfold sJ at hsc2;rw [eI ⟨hk,hn⟩,ho] at hsc2;simp only [concat_eq_append,getLast?_concat] at hsc2;split at hsc2
       .rename_i h3;obtain ⟨h3,h4⟩:=h3;obtain rfl:=cQ hsc2;cases DD:p.builder.nodes[lo.toNat]? with
        |none=>rw [DD] at h4;simp at h4
        |some nd=>rw [DD] at h4;exact Pv p t q hq h.1 h.2 hs hk hn os lo.toNat (by rw [ho];simp<;>omega) nd (by omega) DD (by simpa using h4)
       .cases hsc2
    .exact Tk p t q hq h.1 h.2 hs hk hn
   .exact UH p t q hq h.1 h.2 hs hk
  .have e:iN p=(p,false):=by unfold iN;rw [hq];simp only;rw [cX h]
   rw [e];exact II p hs (by by_cases h1:p.block=0;exact .inr (.inr λh2=>h ⟨h1,h2⟩);exact .inr (.inl h1))
end Go.Proofs.YtdcpobkemdacnaaGreatDoor
