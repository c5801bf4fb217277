/- Proved here: steps towards the statement of this claim. No condition. -/
import Derived.Test.YtjmpjmilndkgfaaGreatDoorZQTK5
set_option linter.all false
set_option maxRecDepth 4000
set_option maxHeartbeats 4000000
namespace Go.Proofs.YtjmpjmilndkgfaaGreatDoor
open Go.Aw Proofs.Tryz List IntKind
theorem Hm [aC prog] (p:aI) (hs:aF p<=536870912) (h:p.queue=[]\/p.block≠0\/p.inline≠0):Ok prog 134 [.agg (aJ .view p)] (.iJ [.agg (aJ .own p),.bool false]):=by
 have c1:=jC p (by omega);simp only [aJ] at c1;by_cases hl0:p.queue.length=0
 .refine bR aD func134 ntmps134 ?_;have W:=hl0;refine we ?_;exact aK results134
 .have hq:p.queue≠[]:=λh=>hl0 (by rw [h];rfl)
  by_cases hb:p.block=0
  .have hi:¬p.inline=0:=by
    rcases h with h|h|h
    .exact absurd h hq
    .exact absurd hb h
    .exact h
   rw [hb] at c1;refine bR aD func134 ntmps134 ?_;have W:=aA hl0 (aA hb hi);refine we ?_;all_goals try(refine aR ?_;simp [aG,results134,hb])
  .refine bR aD func134 ntmps134 ?_;have W:=aA hl0 hb;refine we ?_;exact aK results134
theorem Uh [aC prog] (p:aI) (t:bP) (q:List bP) (hq:p.queue=t::q) (hb:p.block=0) (hi:p.inline=0) (hs:aF p<=536870912) (hk:¬t.kind=2):Ok prog 134 [.agg (aJ .view p)] (.iJ [.agg (aJ .own (jW p t q)),.bool true]):=by
 have hq1:=sK hq;have hts:bO t<=536870912:=by have h1:=cB bO (show t∈p.queue by rw [hq];simp);simp only [aF,bV] at hs;omega
 have hbs:aP p.builder<=536870912:=by simp only [aF] at hs;omega
 have hbl:p.builder.nodes.length<=536870912/\p.builder.opens.length<=536870912:=by simp only [aP,bV] at hbs;omega
 have c1:=jC p (by omega);have c2:=sJ p.builder t (by omega) (by omega);have c3:=TW {p with queue:=q,builder:=(addToken p.builder t).1} t (addToken p.builder t).2 (by omega) (by omega);unfold jW;rw [zR (λh=>hk h.1)];generalize addToken p.builder t=u at *;obtain ⟨⟨n1,o1⟩,k1⟩:=u;simp only at c2 c3⊢;obtain ⟨ad,pol,tok,queue,ended,Af,aB,aN,entries,block,inline,deferred,gW,oD,log,nS⟩:=p;obtain ⟨tk,tn,ta,tx⟩:=t;simp only at hq hb hi hbl hk c1 c2 c3⊢;subst hq;subst hb;subst hi;simp only [aJ,bM,aS,dO,aO] at c1;simp only [aS] at c2;have hl1:¬(q.length:Int)+1=0:=by omega
 have wP:(q.map (bK .own)).take q.length=q.map (bK .own):=cX (by simp);by_cases h1:tk=1
 .subst h1;by_cases h0:0<=k1
  .rw [eK ⟨rfl,h0⟩];generalize CF _ _ k1=g at *;simp only [aJ,bM,aS,dO,aO,bK] at c3;refine tX aD [4] func134 ntmps134 ?_;have W:=aA hl1 (aA wP (aA h0 hbl));refine we ?_;refine go_share 5 0 (by rfl) (by rfl) (by simp;rfl) ?_;have W:=aA hl1 (aA wP (aA h0 hbl));repeat' first|refine wf ?_|(refine nx ?_;refine sg (hc:=c3) (h:=?_))|(refine sq ?_ ?_<;>intro hc<;>try exact hc.elim)|fail
   exact aK results134
  .rw [cY (λh=>h0 h.2)]
   refine tX aD [4] func134 ntmps134 ?_;have W:=aA hl1 (aA wP (aA h0 hbl));refine we ?_;refine go_share 5 0 (by rfl) (by rfl) (by simp;rfl) ?_;have W:=aA hl1 (aA wP (aA h0 hbl));refine we ?_;exact aK results134
 .rw [cY (λh=>h1 h.1)]
  by_cases h0:0<=k1
  .skip
   refine tX aD [4] func134 ntmps134 ?_;have W:=aA hl1 (aA wP (aA h0 (aA hk (aA h1 hbl))));refine we ?_;refine go_share 5 0 (by rfl) (by rfl) (by simp;rfl) ?_;have W:=aA hl1 (aA wP (aA h0 (aA hk (aA h1 hbl))));refine we ?_;exact aK results134
  .skip
   refine tX aD [4] func134 ntmps134 ?_;have W:=aA hl1 (aA wP (aA h0 (aA hk (aA h1 hbl))));refine we ?_;refine go_share 5 0 (by rfl) (by rfl) (by simp;rfl) ?_;have W:=aA hl1 (aA wP (aA h0 (aA hk (aA h1 hbl))));refine we ?_;exact aK results134
theorem Sj [aC prog] (p:aI) (t:bP) (q:List bP) (hq:p.queue=t::q) (hb:p.block=0) (hi:p.inline=0) (hs:aF p<=536870912) (hk:t.kind=2) (hn:¬t.name=iR):Ok prog 134 [.agg (aJ .view p)] (.iJ [.agg (aJ .own (jW p t q)),.bool true]):=by
 have hq1:=sK hq;have hts:bO t<=536870912:=by have h1:=cB bO (show t∈p.queue by rw [hq];simp);simp only [aF,bV] at hs;omega
 have hbs:aP p.builder<=536870912:=by simp only [aF] at hs;omega
 have hbl:p.builder.nodes.length<=536870912/\p.builder.opens.length<=536870912:=by simp only [aP,bV] at hbs;omega
 have c1:=jC p (by omega);have c2:=sJ p.builder t (by omega) (by omega);obtain ⟨hm,_⟩:=nV (b:=p.builder) hk;unfold jW;rw [zR (λh=>hn h.2)];rw [hm] at c2⊢;generalize (addToken p.builder t).1=u at *;obtain ⟨n1,o1⟩:=u;simp only at c2⊢;obtain ⟨ad,pol,tok,queue,ended,Af,aB,aN,entries,block,inline,deferred,gW,oD,log,nS⟩:=p;obtain ⟨tk,tn,ta,tx⟩:=t;simp only at hq hb hi hbl hk hn c1 c2⊢;subst hq;subst hb;subst hi;subst hk;have hnb:(tn == [115,99,114,105,112,116])=false:=by simpa [iR] using hn
 rw [cY (by rintro ⟨h,_⟩;cases h)];simp only [aJ,bM,aS,dO,aO] at c1;simp only [aS] at c2;have hl1:¬(q.length:Int)+1=0:=by omega
 have wP:(q.map (bK .own)).take q.length=q.map (bK .own):=cX (by simp);refine tX aD [4] func134 ntmps134 ?_;have W:=aA hl1 (aA wP (aA hnb hbl));refine we ?_;refine go_share 5 0 (by rfl) (by rfl) (by simp;rfl) ?_;have W:=aA hl1 (aA wP (aA hnb hbl));refine we ?_;exact aK results134
theorem Ui [aC prog] (p:aI) (t:bP) (q:List bP) (hq:p.queue=t::q) (hb:p.block=0) (hi:p.inline=0) (hs:aF p<=536870912) (hk:t.kind=2) (hn:t.name=iR) (ho:p.builder.opens=[]):Ok prog 134 [.agg (aJ .view p)] (.iJ [.agg (aJ .own (jW p t q)),.bool true]):=by
 have hq1:=sK hq;have hts:bO t<=536870912:=by have h1:=cB bO (show t∈p.queue by rw [hq];simp);simp only [aF,bV] at hs;omega
 have hbs:aP p.builder<=536870912:=by simp only [aF] at hs;omega
 have hbl:p.builder.nodes.length<=536870912/\p.builder.opens.length<=536870912:=by simp only [aP,bV] at hbs;omega
 have c1:=jC p (by omega);have c2:=sJ p.builder t (by omega) (by omega);obtain ⟨hm,_⟩:=nV (b:=p.builder) hk;unfold jW;rw [Kk ho];have hl0:p.builder.opens.length=0:=by rw [ho];rfl
 rw [hm] at c2⊢;generalize (addToken p.builder t).1=u at *;obtain ⟨n1,o1⟩:=u;simp only at c2⊢;obtain ⟨ad,pol,tok,queue,ended,Af,aB,aN,entries,block,inline,deferred,gW,oD,log,nS⟩:=p;obtain ⟨tk,tn,ta,tx⟩:=t;simp only at hq hb hi hbl hk hn c1 c2 hl0⊢;subst hq;subst hb;subst hi;clear ho;subst hk;simp only [iR] at hn;subst hn;rw [cY (by rintro ⟨h,_⟩;cases h)];simp only [aJ,bM,aS,dO,aO] at c1;simp only [aS] at c2;have hl1:¬(q.length:Int)+1=0:=by omega
 have wP:(q.map (bK .own)).take q.length=q.map (bK .own):=cX (by simp);refine tX aD [4] func134 ntmps134 ?_;have W:=aA hl1 (aA wP (aA hl0 hbl));refine we ?_;refine go_share 5 0 (by rfl) (by rfl) (by simp;rfl) ?_;have W:=aA hl1 (aA wP (aA hl0 hbl));refine we ?_;exact aK results134
theorem Sk [aC prog] (p:aI) (t:bP) (q:List bP) (hq:p.queue=t::q) (hb:p.block=0) (hi:p.inline=0) (hs:aF p<=536870912) (hk:t.kind=2) (hn:t.name=iR) (os:List Int) (lo:Int) (ho:p.builder.opens=os++[lo]) (hs0:rA p.builder t=none):Ok prog 134 [.agg (aJ .view p)] (.iJ [.agg (aJ .own (jW p t q)),.bool true]):=by
 have hq1:=sK hq;have hts:bO t<=536870912:=by have h1:=cB bO (show t∈p.queue by rw [hq];simp);simp only [aF,bV] at hs;omega
 have hbs:aP p.builder<=536870912:=by simp only [aF] at hs;omega
 have hbl:p.builder.nodes.length<=536870912/\p.builder.opens.length<=536870912:=by simp only [aP,bV] at hbs;omega
 have c1:=jC p (by omega);have c2:=sJ p.builder t (by omega) (by omega);obtain ⟨hm,_⟩:=nV (b:=p.builder) hk;have Sd:∀(k:Nat) (nd:gF),1<=k->p.builder.opens=os++[((k:Nat):Int)]->p.builder.nodes[k]? =some nd->nd.name=iR->False:=λk nd h1 h2 h3 h4=>by have h5:=AJ hk hn h2 h1 h3 h4;rw [hs0] at h5;cases h5
 unfold jW;rw [hs0];clear hs0;have hl0:(0:Int) < (p.builder.opens.length:Int):=by rw [ho];simp<;>omega
 have hlt:os.length < p.builder.opens.length:=by rw [ho];simp
 have hg:p.builder.opens[os.length]? =some lo:=by rw [ho];simp
 have hw:i64.wrap ((p.builder.opens.length:Int) - 1)=((os.length:Nat):Int):=by
  have e:p.builder.opens.length=os.length+1:=by rw [ho];simp
  rw [wrap64]<;>omega
 rw [hm] at c2⊢;generalize (addToken p.builder t).1=u at *;obtain ⟨n1,o1⟩:=u;simp only at c2⊢;obtain ⟨ad,pol,tok,queue,ended,Af,aB,aN,entries,block,inline,deferred,gW,oD,log,nS⟩:=p;obtain ⟨tk,tn,ta,tx⟩:=t;simp only at hq hb hi hbl hk hn c1 c2 hl0 hlt hg hw ho Sd⊢;subst hq;subst hb;subst hi;subst hk;simp only [iR] at hn;subst hn;rw [cY (by rintro ⟨h,_⟩;cases h)];simp only [aJ,bM,aS,dO,aO] at c1;simp only [aS] at c2;have hl1:¬(q.length:Int)+1=0:=by omega
 have wP:(q.map (bK .own)).take q.length=q.map (bK .own):=cX (by simp);by_cases h1:1<=lo
 .by_cases h2:lo < (Af.nodes.length:Int)
  .obtain ⟨k,rfl⟩:=mN (show 0<=lo by omega);have hkl:k < Af.nodes.length:=by omega
   have Dl:=aE hkl;have hne:(Af.nodes[k].name == [115,99,114,105,112,116])=false:=by
    cases h:(Af.nodes[k].name == [115,99,114,105,112,116]) with
    |false=>rfl
    |true=>exact (Sd k _ (by omega) ho Dl (by simpa [iR] using h)).elim
   clear Sd ho;refine tX aD [4] func134 ntmps134 ?_;have W:=aA hl1 (aA wP (aA hl0 (aA hw (aA hg (aA h1 (aA Dl (aA hkl (aA hne hbl))))))));have V:=hlt;refine we ?_;refine go_share 5 0 (by rfl) (by rfl) (by simp;rfl) ?_;have W:=aA hl1 (aA wP (aA hl0 (aA hw (aA hg (aA h1 (aA Dl (aA hkl (aA hne hbl))))))));have V:=hlt;repeat' first|refine wf ?_|(refine sq ?_ ?_<;>intro hc<;>try exact hc.elim)|fail
   all_goals try(refine aR ?_;simp [aG,results134])
  .skip
   clear Sd ho;refine tX aD [4] func134 ntmps134 ?_;have W:=aA hl1 (aA wP (aA hl0 (aA hw (aA hg (aA h1 (aA h2 hbl))))));have V:=hlt;refine we ?_;refine go_share 5 0 (by rfl) (by rfl) (by simp;rfl) ?_;have W:=aA hl1 (aA wP (aA hl0 (aA hw (aA hg (aA h1 (aA h2 hbl))))));have V:=hlt;repeat' first|refine wf ?_|(refine sq ?_ ?_<;>intro hc<;>try exact hc.elim)|fail
   all_goals try(refine aR ?_;simp [aG,results134])
 .skip
  clear Sd ho;refine tX aD [4] func134 ntmps134 ?_;have W:=aA hl1 (aA wP (aA hl0 (aA hw (aA hg (aA h1 hbl)))));have V:=hlt;refine we ?_;refine go_share 5 0 (by rfl) (by rfl) (by simp;rfl) ?_;have W:=aA hl1 (aA wP (aA hl0 (aA hw (aA hg (aA h1 hbl)))));have V:=hlt;repeat' first|refine wf ?_|(refine sq ?_ ?_<;>intro hc<;>try exact hc.elim)|fail
  all_goals try(refine aR ?_;simp [aG,results134])
theorem Ot [aC prog] (p:aI) (t:bP) (q:List bP) (hq:p.queue=t::q) (hb:p.block=0) (hi:p.inline=0) (hs:aF p<=536870912) (hk:t.kind=2) (hn:t.name=iR) (os:List Int) (k:Nat) (ho:p.builder.opens=os++[((k:Nat):Int)]) (nd:gF) (hk1:1<=k) (Dl:p.builder.nodes[k]? =some nd) (hns:nd.name=iR):Ok prog 134 [.agg (aJ .view p)] (.iJ [.agg (aJ .own (jW p t q)),.bool true]):=by
 have hq1:=sK hq;have hts:bO t<=536870912:=by have h1:=cB bO (show t∈p.queue by rw [hq];simp);simp only [aF,bV] at hs;omega
 have hbs:aP p.builder<=536870912:=by simp only [aF] at hs;omega
 have hbl:p.builder.nodes.length<=536870912/\p.builder.opens.length<=536870912:=by simp only [aP,bV] at hbs;omega
 have c1:=jC p (by omega);have c2:=sJ p.builder t (by omega) (by omega);obtain ⟨hm,hmn⟩:=nV (b:=p.builder) hk;have hkl:k < p.builder.nodes.length:=(cH.1 Dl).1;have c3:=Mf {p with queue:=q,builder:=(addToken p.builder t).1} k nd (by simp only [hmn];exact hkl) (by simp only [hmn];exact Dl) (by omega);unfold jW;rw [AJ hk hn ho hk1 Dl hns];simp only [Dl,Option.elim];have hl0:(0:Int) < (p.builder.opens.length:Int):=by rw [ho];simp<;>omega
 have hlt:os.length < p.builder.opens.length:=by rw [ho];simp
 have hg:p.builder.opens[os.length]? =some ((k:Nat):Int):=by rw [ho];simp
 have hw:i64.wrap ((p.builder.opens.length:Int) - 1)=((os.length:Nat):Int):=by
  have e:p.builder.opens.length=os.length+1:=by rw [ho];simp
  rw [wrap64]<;>omega
 have hnb:(nd.name == [115,99,114,105,112,116])=true:=by simpa [iR] using hns
 generalize uP _ k nd.attrs=g at *;rw [hm] at c2;generalize (addToken p.builder t).1=u at *;obtain ⟨n1,o1⟩:=u;try simp only at c2
 try simp only at c3
 obtain ⟨ad,pol,tok,queue,ended,Af,aB,aN,entries,block,inline,deferred,gW,oD,log,nS⟩:=p;obtain ⟨tk,tn,ta,tx⟩:=t;simp only at hq hb hi hbl hk hn c1 c2 c3 hl0 hlt hg hw Dl hkl;subst hq;subst hb;subst hi;clear ho hns hm hmn;subst hk;simp only [iR] at hn;subst hn;simp only [aJ,bM,aS,dO,aO] at c1;simp only [aS] at c2;have hl1:¬(q.length:Int)+1=0:=by omega
 have wP:(q.map (bK .own)).take q.length=q.map (bK .own):=cX (by simp);have aEo:(1:Int)<=((k:Nat):Int):=by omega
 simp only [aJ,bM,aS,dO,aO] at c3;have aEp:(Af.nodes[k].name == [115,99,114,105,112,116])=true:=by rw [aE hkl] at Dl;rw [cQ Dl];exact hnb
 have hlp:0 < Af.opens.length:=by omega
 refine tX aD [4] func134 ntmps134 ?_;have W:=aA hl1 (aA wP (aA hlp (aA hl0 (aA hw (aA hg (aA aEo (aA hkl (aA Dl (aA aEp hbl)))))))));have V:=hlt;refine we ?_;refine go_share 5 0 (by rfl) (by rfl) (by simp;rfl) ?_;have W:=aA hl1 (aA wP (aA hlp (aA hl0 (aA hw (aA hg (aA aEo (aA hkl (aA Dl (aA aEp hbl)))))))));have V:=hlt;repeat' first|refine wf ?_|(refine nx ?_;refine sg (hc:=c3) (h:=?_))|(refine sq ?_ ?_<;>intro hc<;>try exact hc.elim)|fail
 exact aK results134
theorem Mv [aC prog] (p:aI) (hs:aF p<=536870912):Ok prog 134 [.agg (aJ .view p)] (.iJ [.agg (aJ .own (jB p).1),.bool (jB p).2]):=by
 cases hq:p.queue with
 |nil=>
  have e:jB p=(p,false):=by unfold jB;rw [hq]
  rw [e];exact Hm p hs (.inl hq)
 |cons t q=>
  by_cases h:p.block=0/\p.inline=0
  .have e:jB p=(jW p t q,true):=by unfold jB;rw [hq];simp only;rw [eK h]
   rw [e];by_cases hk:t.kind=2
   .by_cases hn:t.name=iR
    .rcases AH p.builder.opens with ho|⟨os,lo,ho⟩
     .exact Ui p t q hq h.1 h.2 hs hk hn ho
     .cases hsc:rA p.builder t with
      |none=>exact Sk p t q hq h.1 h.2 hs hk hn os lo (by simpa using ho) hsc
      |some k=>
       have hsc2:=hsc;unfold rA at hsc2;rw [eK ⟨hk,hn⟩,ho] at hsc2;simp only [concat_eq_append,getLast?_concat] at hsc2;split at hsc2
       .rename_i h3;obtain ⟨h3,h4⟩:=h3;obtain rfl:=cQ hsc2;cases Dl:p.builder.nodes[lo.toNat]? with
        |none=>rw [Dl] at h4;simp at h4
        |some nd=>rw [Dl] at h4;exact Ot p t q hq h.1 h.2 hs hk hn os lo.toNat (by rw [ho];simp<;>omega) nd (by omega) Dl (by simpa using h4)
       .cases hsc2
    .exact Sj p t q hq h.1 h.2 hs hk hn
   .exact Uh p t q hq h.1 h.2 hs hk
  .have e:jB p=(p,false):=by unfold jB;rw [hq];simp only;rw [cY h]
   rw [e];exact Hm p hs (by by_cases h1:p.block=0;exact .inr (.inr λh2=>h ⟨h1,h2⟩);exact .inr (.inl h1))
end Go.Proofs.YtjmpjmilndkgfaaGreatDoor
