/- Steps. No condition. -/
import Derived.Test.YtanobkmhbpjnpaaGreatDoorZQRCA
set_option linter.all false
set_option maxRecDepth 8000
set_option maxHeartbeats 8000000
namespace Go.Proofs.YtanobkmhbpjnpaaGreatDoor
open Go.Aw Proofs.Tryz List IntKind
def Kg[aG prog](p:aF)(hs:aM p<=536870912)(h:p.bT=[]\/p.block≠0\/p.dZ≠0):Ok prog 55 [.agg (aH .view p)] (.iL [.agg (aH .own p),.bool false]):=by
 have c1:=lM p (by omega);simp only[aH]at c1;by_cases hl0:p.bT.length=0
 .refine dN aK func55 ntmps55 ?_;have W:=hl0;refine we ?_;exact aO results55
 .have hq:p.bT≠[]:=λh=>hl0 (by rw[h];rfl)
  by_cases hb:p.block=0
  .have hi:¬p.dZ=0:=by
    rcases h with h|h|h
    .exact absurd h hq
    .exact absurd hb h
    .exact h
   rw[hb]at c1;refine dN aK func55 ntmps55 ?_;have W:=aA hl0 (aA hb hi);refine we ?_;all_goals try(refine bA ?_;simp[bB,results55,hb])
  .refine dN aK func55 ntmps55 ?_;have W:=aA hl0 hb;refine we ?_;exact aO results55
def Wx[aG prog](p:aF)(t:bM)(q:List bM)(hq:p.bT=t::q)(hb:p.block=0)(hi:p.dZ=0)(hs:aM p<=536870912)(hk:¬t.kind=2):Ok prog 55 [.agg (aH .view p)] (.iL [.agg (aH .own (iV p t q)),.bool true]):=by
 have hq1:=wD hq;have hts:dU t<=536870912:=by have h1:=dJ dU (show t∈p.bT by rw[hq];simp);simp only[aM,dS]at hs;omega
 have hbs:aV p.aC<=536870912:=by simp only[aM]at hs;omega
 have hbl:p.aC.aJ.length<=536870912/\p.aC.bD.length<=536870912:=by simp only[aV,dS]at hbs;omega
 have c1:=lM p (by omega);have c2:=wC p.aC t (by omega) (by omega);have c3:=VZ {p with bT:=q,aC:=(cZ p.aC t).1} t (cZ p.aC t).2 (by omega) (by omega);unfold iV;rw[zJ (λh=>hk h.1)];generalize cZ p.aC t=u at*;obtain⟨⟨n1,o1⟩,k1⟩:=u;simp only at c2 c3⊢;obtain⟨ad,pol,tok,bT,uM,BM,aD,aL,bJ,block,dZ,eH,fA,uN,log,dX⟩:=p;obtain⟨tk,tn,ta,tx⟩:=t;simp only at hq hb hi hbl hk c1 c2 c3⊢;subst hq;subst hb;subst hi;simp only[aH,dA,aZ,fU,aS]at c1;simp only[aZ]at c2;have hl1:¬(q.length:Int)+1=0:=by omega
 have zO:(q.map (dK .own)).take q.length=q.map (dK .own):=eN (by simp);by_cases h1:tk=1
 .subst h1;by_cases h0:0<=k1
  .rw [eM ⟨rfl,h0⟩];generalize xC _ _ k1=g at*;simp only[aH,dA,aZ,fU,aS,dK]at c3;refine xA aK [4] func55 ntmps55 ?_;have W:=aA hl1 (aA zO (aA h0 hbl));refine we ?_;refine go_share 5 0 (by rfl) (by rfl) (by simp;rfl) ?_;have W:=aA hl1 (aA zO (aA h0 hbl));repeat' first|refine wf ?_|(refine nx ?_;refine sg (hc:=c3) (h:=?_))|(refine sq ?_ ?_<;>intro hc<;>try exact hc.elim)|fail
   exact aO results55
  .rw [eC (λh=>h0 h.2)]
   refine xA aK [4] func55 ntmps55 ?_;have W:=aA hl1 (aA zO (aA h0 hbl));refine we ?_;refine go_share 5 0 (by rfl) (by rfl) (by simp;rfl) ?_;have W:=aA hl1 (aA zO (aA h0 hbl));refine we ?_;exact aO results55
 .rw [eC (λh=>h1 h.1)]
  by_cases h0:0<=k1
  .skip
   refine xA aK [4] func55 ntmps55 ?_;have W:=aA hl1 (aA zO (aA h0 (aA hk (aA h1 hbl))));refine we ?_;refine go_share 5 0 (by rfl) (by rfl) (by simp;rfl) ?_;have W:=aA hl1 (aA zO (aA h0 (aA hk (aA h1 hbl))));refine we ?_;exact aO results55
  .skip
   refine xA aK [4] func55 ntmps55 ?_;have W:=aA hl1 (aA zO (aA h0 (aA hk (aA h1 hbl))));refine we ?_;refine go_share 5 0 (by rfl) (by rfl) (by simp;rfl) ?_;have W:=aA hl1 (aA zO (aA h0 (aA hk (aA h1 hbl))));refine we ?_;exact aO results55
def Vs[aG prog](p:aF)(t:bM)(q:List bM)(hq:p.bT=t::q)(hb:p.block=0)(hi:p.dZ=0)(hs:aM p<=536870912)(hk:t.kind=2)(hn:¬t.name=dY):Ok prog 55 [.agg (aH .view p)] (.iL [.agg (aH .own (iV p t q)),.bool true]):=by
 have hq1:=wD hq;have hts:dU t<=536870912:=by have h1:=dJ dU (show t∈p.bT by rw[hq];simp);simp only[aM,dS]at hs;omega
 have hbs:aV p.aC<=536870912:=by simp only[aM]at hs;omega
 have hbl:p.aC.aJ.length<=536870912/\p.aC.bD.length<=536870912:=by simp only[aV,dS]at hbs;omega
 have c1:=lM p (by omega);have c2:=wC p.aC t (by omega) (by omega);obtain⟨hm,_⟩:=rD (b:=p.aC) hk;unfold iV;rw[zJ (λh=>hn h.2)];rw[hm]at c2⊢;generalize (cZ p.aC t).1=u at*;obtain⟨n1,o1⟩:=u;simp only at c2⊢;obtain⟨ad,pol,tok,bT,uM,BM,aD,aL,bJ,block,dZ,eH,fA,uN,log,dX⟩:=p;obtain⟨tk,tn,ta,tx⟩:=t;simp only at hq hb hi hbl hk hn c1 c2⊢;subst hq;subst hb;subst hi;subst hk;have hnb:(tn == [115,99,114,105,112,116])=false:=by simpa [dY]using hn
 rw[eC (by rintro⟨h,_⟩;cases h)];simp only[aH,dA,aZ,fU,aS]at c1;simp only[aZ]at c2;have hl1:¬(q.length:Int)+1=0:=by omega
 have zO:(q.map (dK .own)).take q.length=q.map (dK .own):=eN (by simp);refine xA aK [4] func55 ntmps55 ?_;have W:=aA hl1 (aA zO (aA hnb hbl));refine we ?_;refine go_share 5 0 (by rfl) (by rfl) (by simp;rfl) ?_;have W:=aA hl1 (aA zO (aA hnb hbl));refine we ?_;exact aO results55
def Wy[aG prog](p:aF)(t:bM)(q:List bM)(hq:p.bT=t::q)(hb:p.block=0)(hi:p.dZ=0)(hs:aM p<=536870912)(hk:t.kind=2)(hn:t.name=dY)(ho:p.aC.bD=[]):Ok prog 55 [.agg (aH .view p)] (.iL [.agg (aH .own (iV p t q)),.bool true]):=by
 have hq1:=wD hq;have hts:dU t<=536870912:=by have h1:=dJ dU (show t∈p.bT by rw[hq];simp);simp only[aM,dS]at hs;omega
 have hbs:aV p.aC<=536870912:=by simp only[aM]at hs;omega
 have hbl:p.aC.aJ.length<=536870912/\p.aC.bD.length<=536870912:=by simp only[aV,dS]at hbs;omega
 have c1:=lM p (by omega);have c2:=wC p.aC t (by omega) (by omega);obtain⟨hm,_⟩:=rD (b:=p.aC) hk;unfold iV;rw[MQ ho];have hl0:p.aC.bD.length=0:=by rw[ho];rfl
 rw[hm]at c2⊢;generalize (cZ p.aC t).1=u at*;obtain⟨n1,o1⟩:=u;simp only at c2⊢;obtain⟨ad,pol,tok,bT,uM,BM,aD,aL,bJ,block,dZ,eH,fA,uN,log,dX⟩:=p;obtain⟨tk,tn,ta,tx⟩:=t;simp only at hq hb hi hbl hk hn c1 c2 hl0⊢;subst hq;subst hb;subst hi;clear ho;subst hk;simp only[dY]at hn;subst hn;rw[eC (by rintro⟨h,_⟩;cases h)];simp only[aH,dA,aZ,fU,aS]at c1;simp only[aZ]at c2;have hl1:¬(q.length:Int)+1=0:=by omega
 have zO:(q.map (dK .own)).take q.length=q.map (dK .own):=eN (by simp);refine xA aK [4] func55 ntmps55 ?_;have W:=aA hl1 (aA zO (aA hl0 hbl));refine we ?_;refine go_share 5 0 (by rfl) (by rfl) (by simp;rfl) ?_;have W:=aA hl1 (aA zO (aA hl0 hbl));refine we ?_;exact aO results55
def Vt[aG prog](p:aF)(t:bM)(q:List bM)(hq:p.bT=t::q)(hb:p.block=0)(hi:p.dZ=0)(hs:aM p<=536870912)(hk:t.kind=2)(hn:t.name=dY)(os:List Int)(lo:Int)(ho:p.aC.bD=os++[lo])(hs0:qH p.aC t=none):Ok prog 55 [.agg (aH .view p)] (.iL [.agg (aH .own (iV p t q)),.bool true]):=by
 have hq1:=wD hq;have hts:dU t<=536870912:=by have h1:=dJ dU (show t∈p.bT by rw[hq];simp);simp only[aM,dS]at hs;omega
 have hbs:aV p.aC<=536870912:=by simp only[aM]at hs;omega
 have hbl:p.aC.aJ.length<=536870912/\p.aC.bD.length<=536870912:=by simp only[aV,dS]at hbs;omega
 have c1:=lM p (by omega);have c2:=wC p.aC t (by omega) (by omega);obtain⟨hm,_⟩:=rD (b:=p.aC) hk;have UM:∀(k:Nat) (nd:kG),1<=k->p.aC.bD=os++[((k:Nat):Int)]->p.aC.aJ[k]? =some nd->nd.name=dY->False:=λk nd h1 h2 h3 h4=>by have h5:=Cg hk hn h2 h1 h3 h4;rw[hs0]at h5;cases h5
 unfold iV;rw[hs0];clear hs0;have hl0:(0:Int)<(p.aC.bD.length:Int):=by rw[ho];simp<;>omega
 have hlt:os.length<p.aC.bD.length:=by rw[ho];simp
 have hg:p.aC.bD[os.length]? =some lo:=by rw[ho];simp
 have hw:i64.wrap ((p.aC.bD.length:Int)-1)=((os.length:Nat):Int):=by
  have e:p.aC.bD.length=os.length+1:=by rw[ho];simp
  rw[wrap64]<;>omega
 rw[hm]at c2⊢;generalize (cZ p.aC t).1=u at*;obtain⟨n1,o1⟩:=u;simp only at c2⊢;obtain⟨ad,pol,tok,bT,uM,BM,aD,aL,bJ,block,dZ,eH,fA,uN,log,dX⟩:=p;obtain⟨tk,tn,ta,tx⟩:=t;simp only at hq hb hi hbl hk hn c1 c2 hl0 hlt hg hw ho UM⊢;subst hq;subst hb;subst hi;subst hk;simp only[dY]at hn;subst hn;rw[eC (by rintro⟨h,_⟩;cases h)];simp only[aH,dA,aZ,fU,aS]at c1;simp only[aZ]at c2;have hl1:¬(q.length:Int)+1=0:=by omega
 have zO:(q.map (dK .own)).take q.length=q.map (dK .own):=eN (by simp);by_cases h1:1<=lo
 .by_cases h2:lo<(BM.aJ.length:Int)
  .obtain ⟨k,rfl⟩:=hY (show 0<=lo by omega);have hkl:k<BM.aJ.length:=by omega
   have EW:=aE hkl;have jE:(BM.aJ[k].name == [115,99,114,105,112,116])=false:=by
    cases h:(BM.aJ[k].name == [115,99,114,105,112,116])with
    |false=>rfl
    |true=>exact(UM k _ (by omega) ho EW (by simpa [dY]using h)).elim
   clear UM ho;refine xA aK [4] func55 ntmps55 ?_;have W:=aA hl1 (aA zO (aA hl0 (aA hw (aA hg (aA h1 (aA EW (aA hkl (aA jE hbl))))))));have V:=hlt;refine we ?_;refine go_share 5 0 (by rfl) (by rfl) (by simp;rfl) ?_;have W:=aA hl1 (aA zO (aA hl0 (aA hw (aA hg (aA h1 (aA EW (aA hkl (aA jE hbl))))))));have V:=hlt;repeat' first|refine wf ?_|(refine sq ?_ ?_<;>intro hc<;>try exact hc.elim)|fail
   all_goals (try exact aO results55)
  .skip
   clear UM ho;refine xA aK [4] func55 ntmps55 ?_;have W:=aA hl1 (aA zO (aA hl0 (aA hw (aA hg (aA h1 (aA h2 hbl))))));have V:=hlt;refine we ?_;refine go_share 5 0 (by rfl) (by rfl) (by simp;rfl) ?_;have W:=aA hl1 (aA zO (aA hl0 (aA hw (aA hg (aA h1 (aA h2 hbl))))));have V:=hlt;repeat' first|refine wf ?_|(refine sq ?_ ?_<;>intro hc<;>try exact hc.elim)|fail
   all_goals (try exact aO results55)
 .skip
  clear UM ho;refine xA aK [4] func55 ntmps55 ?_;have W:=aA hl1 (aA zO (aA hl0 (aA hw (aA hg (aA h1 hbl)))));have V:=hlt;refine we ?_;refine go_share 5 0 (by rfl) (by rfl) (by simp;rfl) ?_;have W:=aA hl1 (aA zO (aA hl0 (aA hw (aA hg (aA h1 hbl)))));have V:=hlt;repeat' first|refine wf ?_|(refine sq ?_ ?_<;>intro hc<;>try exact hc.elim)|fail
  all_goals (try exact aO results55)
def Rp[aG prog](p:aF)(t:bM)(q:List bM)(hq:p.bT=t::q)(hb:p.block=0)(hi:p.dZ=0)(hs:aM p<=536870912)(hk:t.kind=2)(hn:t.name=dY)(os:List Int)(k:Nat)(ho:p.aC.bD=os++[((k:Nat):Int)])(nd:kG)(hk1:1<=k)(EW:p.aC.aJ[k]? =some nd)(hns:nd.name=dY):Ok prog 55 [.agg (aH .view p)] (.iL [.agg (aH .own (iV p t q)),.bool true]):=by
 have hq1:=wD hq;have hts:dU t<=536870912:=by have h1:=dJ dU (show t∈p.bT by rw[hq];simp);simp only[aM,dS]at hs;omega
 have hbs:aV p.aC<=536870912:=by simp only[aM]at hs;omega
 have hbl:p.aC.aJ.length<=536870912/\p.aC.bD.length<=536870912:=by simp only[aV,dS]at hbs;omega
 have c1:=lM p (by omega);have c2:=wC p.aC t (by omega) (by omega);obtain⟨hm,hmn⟩:=rD (b:=p.aC) hk;have hkl:k<p.aC.aJ.length:=(cU.1 EW).1;have c3:=OL {p with bT:=q,aC:=(cZ p.aC t).1} k nd (by simp only[hmn];exact hkl) (by simp only[hmn];exact EW) (by omega);unfold iV;rw[Cg hk hn ho hk1 EW hns];simp only[EW,Option.elim];have hl0:(0:Int)<(p.aC.bD.length:Int):=by rw[ho];simp<;>omega
 have hlt:os.length<p.aC.bD.length:=by rw[ho];simp
 have hg:p.aC.bD[os.length]? =some ((k:Nat):Int):=by rw[ho];simp
 have hw:i64.wrap ((p.aC.bD.length:Int)-1)=((os.length:Nat):Int):=by
  have e:p.aC.bD.length=os.length+1:=by rw[ho];simp
  rw[wrap64]<;>omega
 have hnb:(nd.name == [115,99,114,105,112,116])=true:=by simpa [dY]using hns
 generalize pQ _ k nd.iH=g at*;rw[hm]at c2;generalize (cZ p.aC t).1=u at*;obtain⟨n1,o1⟩:=u;try simp only at c2
 try simp only at c3
 obtain⟨ad,pol,tok,bT,uM,BM,aD,aL,bJ,block,dZ,eH,fA,uN,log,dX⟩:=p;obtain⟨tk,tn,ta,tx⟩:=t;simp only at hq hb hi hbl hk hn c1 c2 c3 hl0 hlt hg hw EW hkl;subst hq;subst hb;subst hi;clear ho hns hm hmn;subst hk;simp only[dY]at hn;subst hn;simp only[aH,dA,aZ,fU,aS]at c1;simp only[aZ]at c2;have hl1:¬(q.length:Int)+1=0:=by omega
 have zO:(q.map (dK .own)).take q.length=q.map (dK .own):=eN (by simp);have aIu:(1:Int)<=((k:Nat):Int):=by omega
 simp only[aH,dA,aZ,fU,aS]at c3;have aIv:(BM.aJ[k].name == [115,99,114,105,112,116])=true:=by rw[aE hkl]at EW;rw[cX EW];exact hnb
 have hlp:0<BM.bD.length:=by omega
 refine xA aK [4] func55 ntmps55 ?_;have W:=aA hl1 (aA zO (aA hlp (aA hl0 (aA hw (aA hg (aA aIu (aA hkl (aA EW (aA aIv hbl)))))))));have V:=hlt;refine we ?_;refine go_share 5 0 (by rfl) (by rfl) (by simp;rfl) ?_;have W:=aA hl1 (aA zO (aA hlp (aA hl0 (aA hw (aA hg (aA aIu (aA hkl (aA EW (aA aIv hbl)))))))));have V:=hlt;repeat' first|refine wf ?_|(refine nx ?_;refine sg (hc:=c3) (h:=?_))|(refine sq ?_ ?_<;>intro hc<;>try exact hc.elim)|fail
 exact aO results55
def Po[aG prog](p:aF)(hs:aM p<=536870912):Ok prog 55 [.agg (aH .view p)] (.iL [.agg (aH .own (iB p).1),.bool (iB p).2]):=by
 cases hq:p.bT with
 |nil=>
  have e:iB p=(p,false):=by unfold iB;rw[hq]
  rw[e];exact Kg p hs (.inl hq)
 |cons t q=>
  by_cases h:p.block=0/\p.dZ=0
  .have e:iB p=(iV p t q,true):=by unfold iB;rw[hq];simp only;rw[eM h]
   rw[e];by_cases hk:t.kind=2
   .by_cases hn:t.name=dY
    .rcases BE p.aC.bD with ho|⟨os,lo,ho⟩
     .exact Wy p t q hq h.1 h.2 hs hk hn ho
     .cases hsc:qH p.aC t with
      |none=>exact Vt p t q hq h.1 h.2 hs hk hn os lo (by simpa using ho) hsc
      |some k=>
       have hsc2:=hsc;unfold qH at hsc2;rw[eM ⟨hk,hn⟩,ho]at hsc2;simp only[concat_eq_append,getLast?_concat]at hsc2;split at hsc2
       .rename_i h3;obtain⟨h3,h4⟩:=h3;obtain rfl:=cX hsc2;cases EW:p.aC.aJ[lo.toNat]? with
        |none=>rw[EW]at h4;simp at h4
        |some nd=>rw[EW]at h4;exact Rp p t q hq h.1 h.2 hs hk hn os lo.toNat (by rw[ho];simp<;>omega) nd (by omega) EW (by simpa using h4)
       .cases hsc2
    .exact Vs p t q hq h.1 h.2 hs hk hn
   .exact Wx p t q hq h.1 h.2 hs hk
  .have e:iB p=(p,false):=by unfold iB;rw[hq];simp only;rw[eC h]
   rw[e];exact Kg p hs (by by_cases h1:p.block=0;exact .inr (.inr λh2=>h ⟨h1,h2⟩);exact .inr (.inl h1))
def NH[aG prog][fI prog][dG prog][qR prog](p:aF)(hs:aM p<=536870912):Ok prog 19 [.agg (aH .view p)] (.iL [.agg (aH .own (iC p).1),.bool (iC p).2]):=by
 have c1:=lM p (by omega);have hsb:aV p.aC<=536870912:=by simp only[aM]at hs;omega
 have hsl:p.aD.length<=536870912:=by simp only[aM,dS]at hs;omega
 have c2:=Db p (by omega);have hbd:∀s∈p.aD,s.body.length<=536870912:=λs hm=>by have:=Ug nO hm;simp only[aM,dS,nO]at hs this;omega
 unfold iC;by_cases hin:p.dZ=0
 .rw [eC (by simp[hin])];by_cases hbk:p.block=0
  .rw [eC (by simp[hbk])];have c3:=Po p hs;generalize iB p=r at*;obtain⟨q,b⟩:=r;simp only[aH,hin,hbk]at c1 c2 c3⊢;clear hbd;refine dN aK func19 ntmps19 ?_;have W:=aA hin hbk;refine we ?_;exact aO results19
  .rw [eM hbk];generalize hk:i64.wrap (p.block-1)=k;unfold xR;by_cases h0:0<=k
   .rw [eM h0];obtain⟨kn,rfl⟩:=hY h0;rw[oB];have hk0:¬(kn:Int)<0:=by omega
    by_cases hlt:kn<p.aD.length
    .have hg:=aE hlt;have dF:¬(p.aD.length:Int)<=(kn:Int):=by omega
     rw[hg];simp only;have aIw:=hbd _ (gR hlt);cases hd:p.aD[kn].done
     .rw [eC (by simp)];simp only[aH,hin]at c1 c2⊢;clear hbd;refine dN aK func19 ntmps19 ?_;have W:=aA hin (aA hbk (aA hk (aA hk0 (aA dF (aA hg (aA hlt hd))))));refine we ?_;exact aO results19
     .generalize p.aD.all qL=V8 at*;cases V8
      .rw [eC (by simp)];simp only[aH,hin]at c1 c2⊢;clear hbd;refine dN aK func19 ntmps19 ?_;have W:=aA hin (aA hbk (aA hk (aA hk0 (aA dF (aA hg (aA hlt hd))))));refine we ?_;exact aO results19
      .rw [eM ⟨rfl,rfl⟩];by_cases RU:p.aD[kn].code=1
       .rw [eM RU];have c4:=CU p p.aD[kn].body true hs (by omega);generalize gI p p.aD[kn].body true=q at*;simp only[aH,hin]at c1 c2 c4⊢;clear hbd;refine dN aK func19 ntmps19 ?_;have W:=aA hin (aA hbk (aA hk (aA hk0 (aA dF (aA hg (aA hlt (aA hd RU)))))));refine we ?_;exact aO results19
       .rw [eC RU];simp only[aH,hin]at c1 c2⊢;clear hbd;refine dN aK func19 ntmps19 ?_;have W:=aA hin (aA hbk (aA hk (aA hk0 (aA dF (aA hg (aA hlt (aA hd RU)))))));refine we ?_;exact aO results19
    .have hg:p.aD[kn]? =none:=pT (by omega);have dF:(p.aD.length:Int)<=(kn:Int):=by omega
     rw[hg];simp only;simp only[aH,hin]at c1 c2⊢;clear hbd;refine dN aK func19 ntmps19 ?_;have W:=aA hin (aA hbk (aA hk (aA hk0 dF)));refine we ?_;exact aO results19
   .rw [eC h0];have hk0:k<0:=by omega
    simp only[aH,hin]at c1 c2⊢;clear hbd;refine dN aK func19 ntmps19 ?_;have W:=aA hin (aA hbk (aA hk hk0));refine we ?_;exact aO results19
 .rw [eM hin];generalize p.aD.all qL=V8 at*;cases V8
  .rw [eC (by simp)];simp only[aH]at c1 c2⊢;clear hbd;refine dN aK func19 ntmps19 ?_;have W:=hin;refine we ?_;exact aO results19
  .rw [eM rfl];have c3:=Wd p.aC p.dZ (by omega);have htl:=Uf p.aC p.dZ;generalize pR p.aC p.dZ=tx at*;have c4:=CU p tx true hs (by omega);generalize gI p tx true=q at*;simp only[aH,aZ]at c1 c2 c3 c4⊢;clear hbd;refine dN aK func19 ntmps19 ?_;have W:=hin;refine we ?_;exact aO results19
end Go.Proofs.YtanobkmhbpjnpaaGreatDoor
