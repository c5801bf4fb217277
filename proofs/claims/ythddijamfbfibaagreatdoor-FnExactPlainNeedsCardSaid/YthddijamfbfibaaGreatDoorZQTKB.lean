/- Proved here: steps towards the statement of this claim. No condition. -/
import Derived.Test.YthddijamfbfibaaGreatDoorZQRC6
import Derived.Test.YthddijamfbfibaaGreatDoorZTK3
set_option linter.all false
set_option maxRecDepth 4000
set_option maxHeartbeats 4000000
namespace Go.Proofs.YthddijamfbfibaaGreatDoor
open Go.Aw Proofs.Tryz List IntKind
theorem rA[aB prog](b:bE)(t:bT)(hs:aU b<=274877906944)(ht:bW t<=274877906944):Ok prog 187 [.agg (aV .view b),.agg (cB .view t)] (.gM [.agg (aV .own (addToken b t).1),.int .i64 (addToken b t).2]):=by
 by_cases hk2:t.kind=2
 .have c1:=kY b hs;have c2:=Zx b t.name hs;rw[Cq hk2];obtain⟨tk,tn,ta,tx⟩:=t;simp only at hk2 c2;subst hk2;simp only[aV]at c1 c2;generalize qM b tn (b.opens.length-1)=oc at*;refine bM aG func187 ntmps187 ?_;have W:=trivial;repeat' first|refine wf ?_|(refine nx ?_;refine sg (hc:=c2) (h:=?_))|(refine sq ?_ ?_<;>intro hc<;>try exact hc.elim)|fail
  exact aF results187
 have c1:=kY b hs;have c2:=Wo t.name;have c3:=Kl t.attrs (by simp only[bW,bP]at ht;omega);have hn:b.nodes.length<=274877906944/\b.opens.length<=274877906944:=by simp only[aU,bP]at hs;omega
 have hta:t.attrs.length<=274877906944:=by simp only[bW,bP]at ht;omega
 have other:=Hr (b:=b) hk2;have full:=Jw (b:=b) hk2;have new:=Ml (b:=b) hk2;obtain⟨tk,tn,ta,tx⟩:=t;simp only at hk2 other full new c2 c3 hta;simp only[aV]at c1;by_cases hk:tk=1\/(tk=3/\tx≠[])
 .by_cases Mi:(40:Int)<=(b.nodes.length:Int)
  .rw [full (.inl (by omega))];rcases hk with rfl|⟨rfl,hx⟩
   .refine bM aG func187 ntmps187 ?_;have W:=Mi;refine we ?_;exact aF results187
   .refine bM aG func187 ntmps187 ?_;have W:=aA Mi hx;refine we ?_;exact aF results187
  rcases Bk b.opens with ho|⟨os,lo,ho⟩
  .rw [full (.inr (.inl ho))];have hl0z:b.opens.length=0:=by rw[ho];rfl
   rcases hk with rfl|⟨rfl,hx⟩
   .refine bM aG func187 ntmps187 ?_;have W:=aA Mi hl0z;refine we ?_;exact aF results187
   .refine bM aG func187 ntmps187 ?_;have W:=aA Mi (aA hx hl0z);refine we ?_;exact aF results187
  have hne:b.opens≠[]:=by rw[ho];simp
  have hlast:b.opens.getLastD 0=lo:=by rw[ho];simp
  have hlen:b.opens.length=os.length+1:=by rw[ho];simp
  have hl0z:¬b.opens.length=0:=by omega
  have hlt:os.length<b.opens.length:=by omega
  have hg:b.opens[os.length]? =some lo:=by rw[ho];simp
  have hw:i64.wrap ((b.opens.length:Int)-1)=((os.length:Nat):Int):=by rw[wrap64]<;>omega
  clear ho hlen;rcases hk with rfl|⟨rfl,hx⟩
  .have hnw:uE b ⟨1,tn,ta,tx⟩=⟨tn,[],lo,ta⟩:=by unfold uE;rw[hlast];simp
   cases hvo:Fw tn
   .rw [hvo]at c2;have hop:nJ ⟨1,tn,ta,tx⟩=true:=by simp[nJ,hvo]
    by_cases h8:(8:Int)<=(b.opens.length:Int)
    .rw [full (.inr (.inr ⟨hop,by omega⟩))];refine bM aG func187 ntmps187 ?_;have W:=aA Mi (aA hl0z h8);refine we ?_;exact aF results187
    .rw [new (.inl rfl) (by rintro(h|h|⟨_,h⟩);omega;exact hne h;omega),eK hop,hnw];obtain⟨l0,hl0⟩:∃l,l=b.nodes++[(⟨tn,[],lo,ta⟩:jP)]:=⟨_,rfl⟩;have hap:b.nodes.map (fA .own)++[[.str tn,.str [],.int .i64 lo,.sl .own 2 (ta.map uX)]]=l0.map (fA .own):=by rw[hl0];simp
     obtain⟨o0,ho0⟩:∃l,l=b.opens++[((b.nodes.length:Nat):Int)]:=⟨_,rfl⟩;have hao:b.opens.map mM++[[.int .i64 ((b.nodes.length:Nat):Int)]]=o0.map mM:=by rw[ho0];simp
     rw[<-hl0,<-ho0];clear hl0 ho0;refine bM aG func187 ntmps187 ?_;have W:=aA Mi (aA hl0z (aA h8 (aA hg (aA hw (aA hn (aA hta (aA hap hao)))))));have V:=hlt;refine we ?_;exact aF results187
   .rw [hvo]at c2;have hop:nJ ⟨1,tn,ta,tx⟩=false:=by simp[nJ,hvo]
    rw[new (.inl rfl) (by rintro(h|h|⟨h,_⟩);omega;exact hne h;(rw[hop]at h;cases h)),cY (by rw[hop];decide),hnw];obtain⟨l0,hl0⟩:∃l,l=b.nodes++[(⟨tn,[],lo,ta⟩:jP)]:=⟨_,rfl⟩;have hap:b.nodes.map (fA .own)++[[.str tn,.str [],.int .i64 lo,.sl .own 2 (ta.map uX)]]=l0.map (fA .own):=by rw[hl0];simp
    rw[<-hl0];clear hl0;refine bM aG func187 ntmps187 ?_;have W:=aA Mi (aA hl0z (aA hg (aA hw (aA hn (aA hta hap)))));have V:=hlt;refine we ?_;exact aF results187
  .have hnw:uE b ⟨3,tn,ta,tx⟩=⟨[],tx,lo,[]⟩:=by unfold uE;rw[hlast];simp
   have hop:nJ ⟨3,tn,ta,tx⟩=false:=by simp[nJ]
   rw[new (.inr ⟨rfl,hx⟩) (by rintro(h|h|⟨h,_⟩);omega;exact hne h;(rw[hop]at h;cases h)),cY (by rw[hop];decide),hnw];obtain⟨l0,hl0⟩:∃l,l=b.nodes++[(⟨[],tx,lo,[]⟩:jP)]:=⟨_,rfl⟩;have hap:b.nodes.map (fA .own)++[[.str [],.str tx,.int .i64 lo,.sl .own 2 []]]=l0.map (fA .own):=by rw[hl0];simp
   rw[<-hl0];clear hl0;have hxb:(tx != [])=true:=by simpa using hx
   refine uP aG [15] func187 ntmps187 ?_;have W:=aA Mi (aA hl0z (aA hxb (aA hg (aA hw (aA hn hap)))));have V:=hlt;repeat' first|refine wf ?_|(refine sq ?_ ?_<;>intro hc<;>try exact hc.elim)|fail
   all_goals first|(exact(hx (by assumption)).elim)|refine go_openB 6 0 3 (by rfl) (by rfl) (by rfl) ?_
   have W:=aA Mi (aA hl0z (aA hxb (aA hg (aA hw (aA hn hap)))));have V:=hlt;refine we ?_;exact aF results187
 .have h1:¬tk=1:=λh=>hk (.inl h)
  have hoth:addToken b ⟨tk,tn,ta,tx⟩=(b, -1):=other h1 (λh3=>sX λh=>hk (.inr ⟨h3,h⟩));rw[hoth];by_cases Mi:(40:Int)<=(b.nodes.length:Int)
  .refine bM aG func187 ntmps187 ?_;have W:=aA hk2 (aA h1 Mi);refine we ?_;exact aF results187
  rcases Bk b.opens with ho|⟨os,lo,ho⟩
  .have hl0z:b.opens.length=0:=by rw[ho];rfl
   refine bM aG func187 ntmps187 ?_;have W:=aA hk2 (aA h1 (aA Mi hl0z));refine we ?_;exact aF results187
  have hlen:b.opens.length=os.length+1:=by rw[ho];simp
  have hl0z:¬b.opens.length=0:=by omega
  have hlt:os.length<b.opens.length:=by omega
  have hg:b.opens[os.length]? =some lo:=by rw[ho];simp
  have hw:i64.wrap ((b.opens.length:Int)-1)=((os.length:Nat):Int):=by rw[wrap64]<;>omega
  clear ho hlen;by_cases h3:tk=3
  .have hx:tx=[]:=sX λh=>hk (.inr ⟨h3,h⟩)
   subst h3;subst hx;refine bM aG func187 ntmps187 ?_;have W:=aA Mi (aA hl0z (aA hg (aA hw hn)));have V:=hlt;refine we ?_;exact aF results187
  .refine bM aG func187 ntmps187 ?_;have W:=aA hk2 (aA h1 (aA h3 (aA Mi (aA hl0z (aA hg (aA hw hn))))));have V:=hlt;refine we ?_;exact aF results187
def uF(p:eX)(n:bB):Bool:= !p.isSet || ((p.tQ != [])&&(p.tQ == n))
theorem IZ[aB prog](p:eX)(n:bB):Ok prog 272 [.agg (bN .view p),.str n] (.bool (uF p n)):=by
 obtain⟨pis,psc,pst,pim,nc⟩:=p;unfold uF;cases pis
 .refine bM aG func272 ntmps272 ?_;refine aZ ?_;exact aF results272
 .by_cases h:nc=[]
  .subst h;refine bM aG func272 ntmps272 ?_;refine aZ ?_;exact aF results272
  .have h2:(nc != [])=true:=by simpa using h
   refine bM aG func272 ntmps272 ?_;have W:=aA h h2;refine we ?_;all_goals try(refine aR ?_;simp[aP,results272,h,h2])
theorem Ja[aB prog](p:eX)(n:bB):Ok prog 249 [.agg (bN .view p),.str n] (.bool (uF p n)):=by
 obtain⟨pis,psc,pst,pim,nc⟩:=p;unfold uF;cases pis
 .refine bM aG func249 ntmps249 ?_;refine aZ ?_;exact aF results249
 .by_cases h:nc=[]
  .subst h;refine bM aG func249 ntmps249 ?_;refine aZ ?_;exact aF results249
  .have h2:(nc != [])=true:=by simpa using h
   refine bM aG func249 ntmps249 ?_;have W:=aA h h2;refine we ?_;all_goals try(refine aR ?_;simp[aP,results249,h,h2])
def Be(p:aI)(t:bT)(n:Int):aI:=
 if t.name=Jv/\(aW t.attrs Bp).2=true then(gQ p 2 (aW t.attrs Bp).1 (aW t.attrs dR).1 n).1
 else if t.name=Om/\(aW t.attrs oW).2=true then(gQ p 1 (aW t.attrs oW).1 (aW t.attrs dR).1 n).1 else p
theorem Wp[aB prog](p:aI)(t:bT)(n:Int)(hs:aL p<=274877906944)(ht:bW t<=274877906944):Lf prog 213 [.oN (.agg (aJ .own p)),.view (.agg (cB .view t)),.view (.int .i64 n)] (.agg (aJ .own (Be p t n))):=by
 obtain⟨tk,tn,ta,tx⟩:=t;have hta:ta.length+aY oZ ta<=274877906944:=by simp only[bW,bP]at ht;omega
 have z1:=nE ta dR;have z2:=nE ta Bp;have z3:=nE ta oW;have c1:=nD ta dR (by omega);have c2:=nD ta Bp (by omega);have c3:=nD ta oW (by omega);have a2:=yT p 2 (aW ta Bp).1 (aW ta dR).1 n hs (by omega) (by omega);have a1:=yT p 1 (aW ta oW).1 (aW ta dR).1 n hs (by omega) (by omega);simp only[Be];generalize gQ p 2 (aW ta Bp).1 (aW ta dR).1 n=g2 at*;generalize gQ p 1 (aW ta oW).1 (aW ta dR).1 n=g1 at*;simp only[aJ]at a1 a2;clear z1 z2 z3;generalize aW ta dR=fd at*;generalize aW ta Bp=fh at*;generalize aW ta oW=fs at*;obtain⟨dv,db⟩:=fd;obtain⟨hv,hb⟩:=fh;obtain⟨sv,sb⟩:=fs;simp only[dR]at c1;simp only[Bp]at c2;simp only[oW]at c3;by_cases h1:tn=Jv
 .have h2:¬tn=Om:=by rw[h1];decide
  subst h1;cases hb
  .rw [cY (by rintro⟨_,h⟩;cases h),cY (by rintro⟨h,_⟩;exact h2 h)];simp only[Jv];refine sN aG func213 ntmps213 ?_;refine aZ ?_;all_goals (try exact kP (by simp[gF,dJ,dH,rowOf,results213];done))
  .rw [eK ⟨rfl,rfl⟩];simp only[Jv];refine sN aG func213 ntmps213 ?_;refine aZ ?_;all_goals (try exact kP (by simp[gF,dJ,dH,rowOf,results213];done))
 .rw [cY (by rintro⟨h,_⟩;exact h1 h)];have KV:(tn == [108,105,110,107])=false:=by simpa [Jv]using h1
  by_cases h2:tn=Om
  .subst h2;cases sb
   .rw [cY (by rintro⟨_,h⟩;cases h)];simp only[Om];refine sN aG func213 ntmps213 ?_;refine aZ ?_;all_goals (try exact kP (by simp[gF,dJ,dH,rowOf,results213];done))
   .rw [eK ⟨rfl,rfl⟩];simp only[Om];refine sN aG func213 ntmps213 ?_;refine aZ ?_;all_goals (try exact kP (by simp[gF,dJ,dH,rowOf,results213];done))
  .have h2b:(tn == [105,109,103])=false:=by simpa [Om]using h2
   rw[cY (by rintro⟨h,_⟩;exact h2 h)];refine sN aG func213 ntmps213 ?_;have W:=aA KV h2b;refine we ?_;all_goals (try exact kP (by simp[gF,dJ,dH,rowOf,results213];done))
theorem Ht[aB prog](p:aI)(t:bT)(n:Int)(hs:aL p<=274877906944)(ht:bW t<=274877906944):Lf prog 188 [.oN (.agg (aJ .own p)),.view (.agg (cB .view t)),.view (.int .i64 n)] (.agg (aJ .own (Be p t n))):=by
 obtain⟨tk,tn,ta,tx⟩:=t;have hta:ta.length+aY oZ ta<=274877906944:=by simp only[bW,bP]at ht;omega
 have z1:=nE ta dR;have z2:=nE ta Bp;have z3:=nE ta oW;have c1:=lF ta dR (by omega);have c2:=lF ta Bp (by omega);have c3:=lF ta oW (by omega);have a2:=yS p 2 (aW ta Bp).1 (aW ta dR).1 n hs (by omega) (by omega);have a1:=yS p 1 (aW ta oW).1 (aW ta dR).1 n hs (by omega) (by omega);simp only[Be];generalize gQ p 2 (aW ta Bp).1 (aW ta dR).1 n=g2 at*;generalize gQ p 1 (aW ta oW).1 (aW ta dR).1 n=g1 at*;simp only[aJ]at a1 a2;clear z1 z2 z3;generalize aW ta dR=fd at*;generalize aW ta Bp=fh at*;generalize aW ta oW=fs at*;obtain⟨dv,db⟩:=fd;obtain⟨hv,hb⟩:=fh;obtain⟨sv,sb⟩:=fs;simp only[dR]at c1;simp only[Bp]at c2;simp only[oW]at c3;by_cases h1:tn=Jv
 .have h2:¬tn=Om:=by rw[h1];decide
  subst h1;cases hb
  .rw [cY (by rintro⟨_,h⟩;cases h),cY (by rintro⟨h,_⟩;exact h2 h)];simp only[Jv];cases sb
   .refine sN aG func188 ntmps188 ?_;refine aZ ?_;all_goals (try exact kP (by simp[gF,dJ,dH,rowOf,results188];done))
   .refine sN aG func188 ntmps188 ?_;refine aZ ?_;all_goals (try exact kP (by simp[gF,dJ,dH,rowOf,results188];done))
  .rw [eK ⟨rfl,rfl⟩];simp only[Jv];cases sb
   .refine sN aG func188 ntmps188 ?_;refine aZ ?_;all_goals (try exact kP (by simp[gF,dJ,dH,rowOf,results188];done))
   .refine sN aG func188 ntmps188 ?_;refine aZ ?_;all_goals (try exact kP (by simp[gF,dJ,dH,rowOf,results188];done))
 .rw [cY (by rintro⟨h,_⟩;exact h1 h)];have KV:(tn == [108,105,110,107])=false:=by simpa [Jv]using h1
  by_cases h2:tn=Om
  .subst h2;simp only[Om]at KV;cases sb
   .rw [cY (by rintro⟨_,h⟩;cases h)];simp only[Om];cases hb
    .refine sN aG func188 ntmps188 ?_;refine aZ ?_;all_goals (try exact kP (by simp[gF,dJ,dH,rowOf,results188];done))
    .refine sN aG func188 ntmps188 ?_;refine aZ ?_;all_goals (try exact kP (by simp[gF,dJ,dH,rowOf,results188];done))
   .rw [eK ⟨rfl,rfl⟩];simp only[Om];cases hb
    .refine sN aG func188 ntmps188 ?_;refine aZ ?_;all_goals (try exact kP (by simp[gF,dJ,dH,rowOf,results188];done))
    .refine sN aG func188 ntmps188 ?_;refine aZ ?_;all_goals (try exact kP (by simp[gF,dJ,dH,rowOf,results188];done))
  .have h2b:(tn == [105,109,103])=false:=by simpa [Om]using h2
   rw[cY (by rintro⟨h,_⟩;exact h2 h)];cases hb<;>cases sb
   .refine sN aG func188 ntmps188 ?_;have W:=aA KV h2b;refine we ?_;all_goals (try exact kP (by simp[gF,dJ,dH,rowOf,results188];done))
   .refine sN aG func188 ntmps188 ?_;have W:=aA KV h2b;refine we ?_;all_goals (try exact kP (by simp[gF,dJ,dH,rowOf,results188];done))
   .refine sN aG func188 ntmps188 ?_;have W:=aA KV h2b;refine we ?_;all_goals (try exact kP (by simp[gF,dJ,dH,rowOf,results188];done))
   .refine sN aG func188 ntmps188 ?_;have W:=aA KV h2b;refine we ?_;all_goals (try exact kP (by simp[gF,dJ,dH,rowOf,results188];done))
def KD:bB:=[100,101,102,101,114]
def Fx:bB:=[110,111,110,99,101]
def tJ(p:aI)(k:Nat)(l:List oU):aI:=
 if (aW l oW).2=false then(if uF p.bD (aW l Fx).1=true then {p with inline:=((k:Nat):Int)}else p)
 else if (aW l Mg).1=KD then(gQ p 4 (aW l oW).1 (aW l dR).1 ((k:Nat):Int)).1
 else if (aW l Mg).1=Dq then addEntry p (aW l oW).1
 else {(gQ p 3 (aW l oW).1 (aW l dR).1 ((k:Nat):Int)).1 with block:=(gQ p 3 (aW l oW).1 (aW l dR).1 ((k:Nat):Int)).2+1}
theorem Ue(p:aI)(m:Int)(a b:bB)(n:Int): -1<=(gQ p m a b n).2/\(gQ p m a b n).2<=(p.aC.length:Int):=by
 unfold gQ;split
 .simp only;omega
 .split<;>(simp only;omega)
theorem Ow[aB prog](p:aI)(k:Nat)(nd:jP)(hk:k<p.builder.nodes.length)(hg:p.builder.nodes[k]? =some nd)(hs:aL p<=536870914):Lf prog 214 [.oN (.agg (aJ .own p)),.view (.int .i64 ((k:Nat):Int))] (.agg (aJ .own (tJ p k nd.attrs))):=by
 have hns:sU nd<=536870914:=by have h1:=bS sU (nB hg);simp only[aL,aU,bP]at hs;omega
 obtain⟨nn,ntx,np,ta⟩:=nd;have hta:ta.length+aY oZ ta<=536870914:=by simp only[sU,bP]at hns;omega
 have z1:=nE ta dR;have z3:=nE ta oW;have c1:=nD ta dR (by omega);have c2:=nD ta Mg (by omega);have c3:=nD ta oW (by omega);have c4:=nD ta Fx (by omega);have c5:=IZ p.bD (aW ta Fx).1;have a4:=yT p 4 (aW ta oW).1 (aW ta dR).1 ((k:Nat):Int) (by omega) (by omega) (by omega);have a3:=yT p 3 (aW ta oW).1 (aW ta dR).1 ((k:Nat):Int) (by omega) (by omega) (by omega);have a5:=Qx p (aW ta oW).1 hs (by omega);have hrg:=Ue p 3 (aW ta oW).1 (aW ta dR).1 ((k:Nat):Int);have hsl:p.aC.length<=536870914:=by simp only[aL,bP]at hs;omega
 simp only[tJ];generalize gQ p 4 (aW ta oW).1 (aW ta dR).1 ((k:Nat):Int)=g4 at*;generalize gQ p 3 (aW ta oW).1 (aW ta dR).1 ((k:Nat):Int)=g3 at*;generalize addEntry p (aW ta oW).1=g5 at*;simp only[aJ]at a3 a4 a5;simp only[bN]at c5;clear z1 z3;generalize aW ta dR=fd at*;generalize aW ta Mg=fk at*;generalize aW ta oW=fs at*;generalize aW ta Fx=fn at*;obtain⟨dv,db⟩:=fd;obtain⟨kv,kb⟩:=fk;obtain⟨sv,sbb⟩:=fs;obtain⟨nv,nb⟩:=fn;obtain⟨g3p,g3k⟩:=g3;simp only[dR]at c1;simp only[Mg]at c2;simp only[oW]at c3;simp only[Fx]at c4;simp only at hrg c5;generalize uF p.bD nv=al at*;have hw:i64.wrap (g3k+1)=g3k+1:=by rw[wrap64]<;>omega
 cases sbb
 .rw [eK rfl];cases al
  .rw [cY (by simp)];refine sN aG func214 ntmps214 ?_;have W:=hg;have V:=hk;refine we ?_;all_goals (try exact kP (by simp[gF,dJ,dH,rowOf,results214];done))
  .rw [eK rfl];refine sN aG func214 ntmps214 ?_;have W:=hg;have V:=hk;refine we ?_;all_goals (try exact kP (by simp[gF,dJ,dH,rowOf,results214];done))
 .rw [cY (by simp)];by_cases h1:kv=KD
  .rw [eK h1];have KV:(kv == [100,101,102,101,114])=true:=by simpa [KD]using h1
   refine sN aG func214 ntmps214 ?_;have W:=aA hg KV;have V:=hk;refine we ?_;all_goals (try exact kP (by simp[gF,dJ,dH,rowOf,results214];done))
  .rw [cY h1];have KV:(kv == [100,101,102,101,114])=false:=by simpa [KD]using h1
   by_cases h2:kv=Dq
   .rw [eK h2];have h2b:(kv == [109,111,100,117,108,101])=true:=by simpa [Dq]using h2
    refine sN aG func214 ntmps214 ?_;have W:=aA hg (aA KV h2b);have V:=hk;refine we ?_;all_goals (try exact kP (by simp[gF,dJ,dH,rowOf,results214];done))
   .rw [cY h2];have h2b:(kv == [109,111,100,117,108,101])=false:=by simpa [Dq]using h2
    refine sN aG func214 ntmps214 ?_;have W:=aA hg (aA KV (aA h2b hw));have V:=hk;refine we ?_;all_goals (try exact kP (by simp[gF,dJ,dH,rowOf,results214];done))
end Go.Proofs.YthddijamfbfibaaGreatDoor
