/- Proved here: steps towards the statement of this claim. No condition. -/
import Derived.Test.YtjmpjmilndkgfaaGreatDoorZQS2
import Derived.Test.YtjmpjmilndkgfaaGreatDoorZTK3
import Derived.Test.YtjmpjmilndkgfaaGreatDoorZQT4
import Derived.Test.YtjmpjmilndkgfaaGreatDoorZQI4
set_option linter.all false
set_option maxRecDepth 4000
set_option maxHeartbeats 4000000
namespace Go.Proofs.YtjmpjmilndkgfaaGreatDoor
open Go.Aw Proofs.Tryz List IntKind
def rX (p:dL) (n:bF):Bool:= !p.isSet || ((p.rM != [])&&(p.rM == n))
theorem Gr [aC prog] (p:dL) (n:bF):Ok prog 235 [.agg (bM .view p),.str n] (.bool (rX p n)):=by
 obtain ⟨pis,psc,pst,pim,nc⟩:=p;unfold rX;cases pis
 .refine bR aD func235 ntmps235 ?_;refine bH ?_;exact aK results235
 .by_cases h:nc=[]
  .subst h;refine bR aD func235 ntmps235 ?_;refine bH ?_;exact aK results235
  .have h2:(nc != [])=true:=by simpa using h
   refine bR aD func235 ntmps235 ?_;have W:=aA h h2;refine we ?_;all_goals try(refine aR ?_;simp [aG,results235,h,h2])
theorem Gt [aC prog] (p:dL) (n:bF):Ok prog 219 [.agg (bM .view p),.str n] (.bool (rX p n)):=by
 obtain ⟨pis,psc,pst,pim,nc⟩:=p;unfold rX;cases pis
 .refine bR aD func219 ntmps219 ?_;refine bH ?_;exact aK results219
 .by_cases h:nc=[]
  .subst h;refine bR aD func219 ntmps219 ?_;refine bH ?_;exact aK results219
  .have h2:(nc != [])=true:=by simpa using h
   refine bR aD func219 ntmps219 ?_;have W:=aA h h2;refine we ?_;all_goals try(refine aR ?_;simp [aG,results219,h,h2])
def CF (p:aI) (t:bP) (n:Int):aI:=
 if t.name=GZ/\(aV t.attrs Al).2=true then (iB p 2 (aV t.attrs Al).1 (aV t.attrs dU).1 n).1
 else if t.name=LW/\(aV t.attrs nR).2=true then (iB p 1 (aV t.attrs nR).1 (aV t.attrs dU).1 n).1 else p
theorem TW [aC prog] (p:aI) (t:bP) (n:Int) (hs:aF p<=274877906944) (ht:bO t<=274877906944):Lf prog 184 [.nX (.agg (aJ .own p)),.view (.agg (bK .view t)),.view (.int .i64 n)] (.agg (aJ .own (CF p t n))):=by
 obtain ⟨tk,tn,ta,tx⟩:=t;have yz:ta.length+aQ gY ta<=274877906944:=by simp only [bO,bV] at ht;omega
 have z1:=mJ ta dU;have z2:=mJ ta Al;have z3:=mJ ta nR;have c1:=mI ta dU (by omega);have c2:=mI ta Al (by omega);have c3:=mI ta nR (by omega);have a2:=xI p 2 (aV ta Al).1 (aV ta dU).1 n hs (by omega) (by omega);have a1:=xI p 1 (aV ta nR).1 (aV ta dU).1 n hs (by omega) (by omega);simp only [CF];generalize iB p 2 (aV ta Al).1 (aV ta dU).1 n=g2 at *;generalize iB p 1 (aV ta nR).1 (aV ta dU).1 n=g1 at *;simp only [aJ] at a1 a2;clear z1 z2 z3;generalize aV ta dU=fd at *;generalize aV ta Al=fh at *;generalize aV ta nR=fs at *;obtain ⟨dv,db⟩:=fd;obtain ⟨hv,hb⟩:=fh;obtain ⟨sv,sb⟩:=fs;simp only [dU] at c1;simp only [Al] at c2;simp only [nR] at c3;by_cases h1:tn=GZ
 .have h2:¬tn=LW:=by rw [h1];decide
  subst h1;cases hb
  .rw [cY (by rintro ⟨_,h⟩;cases h),cY (by rintro ⟨h,_⟩;exact h2 h)];simp only [GZ];refine qU aD func184 ntmps184 ?_;refine bH ?_;all_goals try(refine ⟨by first|exact .inr rfl|exact .inl rfl,?_⟩;simp [gK,dN,dM,rowOf,results184])
  .rw [eK ⟨rfl,rfl⟩];simp only [GZ];refine qU aD func184 ntmps184 ?_;refine bH ?_;all_goals try(refine ⟨by first|exact .inr rfl|exact .inl rfl,?_⟩;simp [gK,dN,dM,rowOf,results184])
 .rw [cY (by rintro ⟨h,_⟩;exact h1 h)];have ZC:(tn == [108,105,110,107])=false:=by simpa [GZ] using h1
  by_cases h2:tn=LW
  .subst h2;cases sb
   .rw [cY (by rintro ⟨_,h⟩;cases h)];simp only [LW];refine qU aD func184 ntmps184 ?_;refine bH ?_;all_goals try(refine ⟨by first|exact .inr rfl|exact .inl rfl,?_⟩;simp [gK,dN,dM,rowOf,results184])
   .rw [eK ⟨rfl,rfl⟩];simp only [LW];refine qU aD func184 ntmps184 ?_;refine bH ?_;all_goals try(refine ⟨by first|exact .inr rfl|exact .inl rfl,?_⟩;simp [gK,dN,dM,rowOf,results184])
  .have za:(tn == [105,109,103])=false:=by simpa [LW] using h2
   rw [cY (by rintro ⟨h,_⟩;exact h2 h)];refine qU aD func184 ntmps184 ?_;have W:=aA ZC za;refine we ?_;all_goals try(refine ⟨by first|exact .inr rfl|exact .inl rfl,?_⟩;simp [gK,dN,dM,rowOf,results184])
theorem FE [aC prog] (p:aI) (t:bP) (n:Int) (hs:aF p<=274877906944) (ht:bO t<=274877906944):Lf prog 165 [.nX (.agg (aJ .own p)),.view (.agg (bK .view t)),.view (.int .i64 n)] (.agg (aJ .own (CF p t n))):=by
 obtain ⟨tk,tn,ta,tx⟩:=t;have yz:ta.length+aQ gY ta<=274877906944:=by simp only [bO,bV] at ht;omega
 have z1:=mJ ta dU;have z2:=mJ ta Al;have z3:=mJ ta nR;have c1:=kW ta dU (by omega);have c2:=kW ta Al (by omega);have c3:=kW ta nR (by omega);have a2:=xH p 2 (aV ta Al).1 (aV ta dU).1 n hs (by omega) (by omega);have a1:=xH p 1 (aV ta nR).1 (aV ta dU).1 n hs (by omega) (by omega);simp only [CF];generalize iB p 2 (aV ta Al).1 (aV ta dU).1 n=g2 at *;generalize iB p 1 (aV ta nR).1 (aV ta dU).1 n=g1 at *;simp only [aJ] at a1 a2;clear z1 z2 z3;generalize aV ta dU=fd at *;generalize aV ta Al=fh at *;generalize aV ta nR=fs at *;obtain ⟨dv,db⟩:=fd;obtain ⟨hv,hb⟩:=fh;obtain ⟨sv,sb⟩:=fs;simp only [dU] at c1;simp only [Al] at c2;simp only [nR] at c3;by_cases h1:tn=GZ
 .have h2:¬tn=LW:=by rw [h1];decide
  subst h1;cases hb
  .rw [cY (by rintro ⟨_,h⟩;cases h),cY (by rintro ⟨h,_⟩;exact h2 h)];simp only [GZ];cases sb
   .refine qU aD func165 ntmps165 ?_;refine bH ?_;all_goals try(refine ⟨by first|exact .inr rfl|exact .inl rfl,?_⟩;simp [gK,dN,dM,rowOf,results165])
   .refine qU aD func165 ntmps165 ?_;refine bH ?_;all_goals try(refine ⟨by first|exact .inr rfl|exact .inl rfl,?_⟩;simp [gK,dN,dM,rowOf,results165])
  .rw [eK ⟨rfl,rfl⟩];simp only [GZ];cases sb
   .refine qU aD func165 ntmps165 ?_;refine bH ?_;all_goals try(refine ⟨by first|exact .inr rfl|exact .inl rfl,?_⟩;simp [gK,dN,dM,rowOf,results165])
   .refine qU aD func165 ntmps165 ?_;refine bH ?_;all_goals try(refine ⟨by first|exact .inr rfl|exact .inl rfl,?_⟩;simp [gK,dN,dM,rowOf,results165])
 .rw [cY (by rintro ⟨h,_⟩;exact h1 h)];have ZC:(tn == [108,105,110,107])=false:=by simpa [GZ] using h1
  by_cases h2:tn=LW
  .subst h2;simp only [LW] at ZC;cases sb
   .rw [cY (by rintro ⟨_,h⟩;cases h)];simp only [LW];cases hb
    .refine qU aD func165 ntmps165 ?_;refine bH ?_;all_goals try(refine ⟨by first|exact .inr rfl|exact .inl rfl,?_⟩;simp [gK,dN,dM,rowOf,results165])
    .refine qU aD func165 ntmps165 ?_;refine bH ?_;all_goals try(refine ⟨by first|exact .inr rfl|exact .inl rfl,?_⟩;simp [gK,dN,dM,rowOf,results165])
   .rw [eK ⟨rfl,rfl⟩];simp only [LW];cases hb
    .refine qU aD func165 ntmps165 ?_;refine bH ?_;all_goals try(refine ⟨by first|exact .inr rfl|exact .inl rfl,?_⟩;simp [gK,dN,dM,rowOf,results165])
    .refine qU aD func165 ntmps165 ?_;refine bH ?_;all_goals try(refine ⟨by first|exact .inr rfl|exact .inl rfl,?_⟩;simp [gK,dN,dM,rowOf,results165])
  .have za:(tn == [105,109,103])=false:=by simpa [LW] using h2
   rw [cY (by rintro ⟨h,_⟩;exact h2 h)];cases hb<;>cases sb
   .refine qU aD func165 ntmps165 ?_;have W:=aA ZC za;refine we ?_;all_goals try(refine ⟨by first|exact .inr rfl|exact .inl rfl,?_⟩;simp [gK,dN,dM,rowOf,results165])
   .refine qU aD func165 ntmps165 ?_;have W:=aA ZC za;refine we ?_;all_goals try(refine ⟨by first|exact .inr rfl|exact .inl rfl,?_⟩;simp [gK,dN,dM,rowOf,results165])
   .refine qU aD func165 ntmps165 ?_;have W:=aA ZC za;refine we ?_;all_goals try(refine ⟨by first|exact .inr rfl|exact .inl rfl,?_⟩;simp [gK,dN,dM,rowOf,results165])
   .refine qU aD func165 ntmps165 ?_;have W:=aA ZC za;refine we ?_;all_goals try(refine ⟨by first|exact .inr rfl|exact .inl rfl,?_⟩;simp [gK,dN,dM,rowOf,results165])
theorem ZH (s b:bF):aU (bZ s b).1<=s.length+b.length:=by have h:=tL 47 s;unfold bZ addrOf;split<;>split<;>simp [aU,vS]<;>omega
def addEntry (p:aI) (tx:bF):aI:=
 if (bZ tx p.addr.host).2=false\/20<=p.entries.length then p else {gT p (bZ tx p.addr.host).1 with entries:=p.entries++[(bZ tx p.addr.host).1]}
theorem ZI (p:aI) (a:aT) (e:List aT):gT {p with entries:=e} a={gT p a with entries:=e}:=by
 unfold gT;simp only;split
 .split<;>rfl
 .rfl
theorem Q3 (p:aI) (a:aT):(gT p a).entries=p.entries:=by
 unfold gT;split
 .split<;>rfl
 .rfl
theorem NT [aC prog] (p:aI) (tx:bF) (hs:aF p<=536870914) (hto:tx.length<=536870914):Ok prog 236 [.agg (aJ .view p),.str tx] (.agg (aJ .own (addEntry p tx))):=by
 have hsl:p.addr.host.length<=536870914:=by simp only [aF,aU] at hs;omega
 have KV:p.entries.length<=536870914:=by simp only [aF,bV] at hs;omega
 have c1:=jC p (by omega);have c3:=yF tx p.addr.host (by omega);have hsz:=ZH tx p.addr.host;unfold addEntry;generalize bZ tx p.addr.host=pa at *;obtain ⟨a,ok⟩:=pa;simp only at c3 hsz⊢;have c4:=Dm {p with entries:=p.entries++[a]} a (by simp only [aF,bV,eR,jA,aQ,eL,eW] at hs⊢;omega) (by omega);rw [ZI] at c4;obtain ⟨l1,hl1⟩:∃l,l=p.entries++[a]:=⟨_,rfl⟩;have hap:p.entries.map aO++[[.str a.host,.str a.path]]=l1.map aO:=by rw [hl1];simp
 rw [<-hl1] at c4⊢;clear hl1;generalize gT p a=g at *;simp only [aJ,aO] at c1 c3 c4;cases ok
 .simp only [true_or,gE];refine bR aD func236 ntmps236 ?_;refine bH ?_;exact aK results236
 .by_cases Fg:20<=p.entries.length
  .have qj:(20:Int)<=(p.entries.length:Int):=by omega
   simp only [Fg,or_true,gE];refine bR aD func236 ntmps236 ?_;have W:=qj;refine we ?_;exact aK results236
  .have qj:¬(20:Int)<=(p.entries.length:Int):=by omega
   rw [cY (by rintro (h|h);cases h;exact Fg h)];refine bR aD func236 ntmps236 ?_;have W:=aA qj hap;refine we ?_;exact aK results236
theorem NU [aC prog] (p:aI) (tx:bF) (hs:aF p<=536870914) (hto:tx.length<=536870914):Ok prog 220 [.agg (aJ .view p),.str tx] (.agg (aJ .own (addEntry p tx))):=by
 have hsl:p.addr.host.length<=536870914:=by simp only [aF,aU] at hs;omega
 have KV:p.entries.length<=536870914:=by simp only [aF,bV] at hs;omega
 have c1:=iI p (by omega);have c3:=yE tx p.addr.host (by omega);have hsz:=ZH tx p.addr.host;unfold addEntry;generalize bZ tx p.addr.host=pa at *;obtain ⟨a,ok⟩:=pa;simp only at c3 hsz⊢;have c4:=Dn p a (by omega) (by omega);have hke:=Q3 p a;obtain ⟨l1,hl1⟩:∃l,l=p.entries++[a]:=⟨_,rfl⟩;have hap:p.entries.map aO++[[.str a.host,.str a.path]]=l1.map aO:=by rw [hl1];simp
 rw [<-hl1];clear hl1;generalize gT p a=g at *;simp only [aJ,aO] at c1 c3 c4;rw [hke] at c4;cases ok
 .simp only [true_or,gE];refine bR aD func220 ntmps220 ?_;refine bH ?_;exact aK results220
 .by_cases Fg:20<=p.entries.length
  .have qj:(20:Int)<=(p.entries.length:Int):=by omega
   simp only [Fg,or_true,gE];refine bR aD func220 ntmps220 ?_;have W:=qj;refine we ?_;exact aK results220
  .have qj:¬(20:Int)<=(p.entries.length:Int):=by omega
   rw [cY (by rintro (h|h);cases h;exact Fg h)];refine bR aD func220 ntmps220 ?_;have W:=aA qj hap;refine we ?_;exact aK results220
def II:bF:=[100,101,102,101,114]
def El:bF:=[110,111,110,99,101]
def uP (p:aI) (k:Nat) (l:List jY):aI:=
 if (aV l nR).2=false then (if rX p.bG (aV l El).1=true then {p with inline:=((k:Nat):Int)} else p)
 else if (aV l JY).1=II then (iB p 4 (aV l nR).1 (aV l dU).1 ((k:Nat):Int)).1
 else if (aV l JY).1=Cj then addEntry p (aV l nR).1
 else {(iB p 3 (aV l nR).1 (aV l dU).1 ((k:Nat):Int)).1 with block:=(iB p 3 (aV l nR).1 (aV l dU).1 ((k:Nat):Int)).2+1}
theorem Rj (p:aI) (m:Int) (a b:bF) (n:Int): -1<=(iB p m a b n).2/\(iB p m a b n).2<=(p.aB.length:Int):=by
 unfold iB;split
 .simp only;omega
 .split<;>(simp only;omega)
theorem Mf [aC prog] (p:aI) (k:Nat) (nd:gF) (hk:k < p.builder.nodes.length) (hg:p.builder.nodes[k]? =some nd) (hs:aF p<=536870914):Lf prog 185 [.nX (.agg (aJ .own p)),.view (.int .i64 ((k:Nat):Int))] (.agg (aJ .own (uP p k nd.attrs))):=by
 have hns:iF nd<=536870914:=by have h1:=cB iF (oE hg);simp only [aF,aP,bV] at hs;omega
 obtain ⟨nn,ntx,np,ta⟩:=nd;have yz:ta.length+aQ gY ta<=536870914:=by simp only [iF,bV] at hns;omega
 have z1:=mJ ta dU;have z3:=mJ ta nR;have c1:=mI ta dU (by omega);have c2:=mI ta JY (by omega);have c3:=mI ta nR (by omega);have c4:=mI ta El (by omega);have c5:=Gr p.bG (aV ta El).1;have a4:=xI p 4 (aV ta nR).1 (aV ta dU).1 ((k:Nat):Int) (by omega) (by omega) (by omega);have a3:=xI p 3 (aV ta nR).1 (aV ta dU).1 ((k:Nat):Int) (by omega) (by omega) (by omega);have a5:=NT p (aV ta nR).1 hs (by omega);have hrg:=Rj p 3 (aV ta nR).1 (aV ta dU).1 ((k:Nat):Int);have hsl:p.aB.length<=536870914:=by simp only [aF,bV] at hs;omega
 simp only [uP];generalize iB p 4 (aV ta nR).1 (aV ta dU).1 ((k:Nat):Int)=g4 at *;generalize iB p 3 (aV ta nR).1 (aV ta dU).1 ((k:Nat):Int)=g3 at *;generalize addEntry p (aV ta nR).1=g5 at *;simp only [aJ] at a3 a4 a5;simp only [bM] at c5;clear z1 z3;generalize aV ta dU=fd at *;generalize aV ta JY=fk at *;generalize aV ta nR=fs at *;generalize aV ta El=fn at *;obtain ⟨dv,db⟩:=fd;obtain ⟨kv,kb⟩:=fk;obtain ⟨sv,sbb⟩:=fs;obtain ⟨nv,nb⟩:=fn;obtain ⟨g3p,g3k⟩:=g3;simp only [dU] at c1;simp only [JY] at c2;simp only [nR] at c3;simp only [El] at c4;simp only at hrg c5;generalize rX p.bG nv=al at *;have hw:i64.wrap (g3k+1)=g3k+1:=by rw [wrap64]<;>omega
 cases sbb
 .rw [eK rfl];cases al
  .rw [cY (by simp)];refine qU aD func185 ntmps185 ?_;have W:=hg;have V:=hk;refine we ?_;all_goals try(refine ⟨by first|exact .inr rfl|exact .inl rfl,?_⟩;simp [gK,dN,dM,rowOf,results185])
  .rw [eK rfl];refine qU aD func185 ntmps185 ?_;have W:=hg;have V:=hk;refine we ?_;all_goals try(refine ⟨by first|exact .inr rfl|exact .inl rfl,?_⟩;simp [gK,dN,dM,rowOf,results185])
 .rw [cY (by simp)];by_cases h1:kv=II
  .rw [eK h1];have ZC:(kv == [100,101,102,101,114])=true:=by simpa [II] using h1
   refine qU aD func185 ntmps185 ?_;have W:=aA hg ZC;have V:=hk;refine we ?_;all_goals try(refine ⟨by first|exact .inr rfl|exact .inl rfl,?_⟩;simp [gK,dN,dM,rowOf,results185])
  .rw [cY h1];have ZC:(kv == [100,101,102,101,114])=false:=by simpa [II] using h1
   by_cases h2:kv=Cj
   .rw [eK h2];have za:(kv == [109,111,100,117,108,101])=true:=by simpa [Cj] using h2
    refine qU aD func185 ntmps185 ?_;have W:=aA hg (aA ZC za);have V:=hk;refine we ?_;all_goals try(refine ⟨by first|exact .inr rfl|exact .inl rfl,?_⟩;simp [gK,dN,dM,rowOf,results185])
   .rw [cY h2];have za:(kv == [109,111,100,117,108,101])=false:=by simpa [Cj] using h2
    refine qU aD func185 ntmps185 ?_;have W:=aA hg (aA ZC (aA za hw));have V:=hk;refine we ?_;all_goals try(refine ⟨by first|exact .inr rfl|exact .inl rfl,?_⟩;simp [gK,dN,dM,rowOf,results185])
theorem Mg [aC prog] (p:aI) (k:Nat) (nd:gF) (hk:k < p.builder.nodes.length) (hg:p.builder.nodes[k]? =some nd) (hs:aF p<=536870914):Lf prog 166 [.nX (.agg (aJ .own p)),.view (.int .i64 ((k:Nat):Int))] (.agg (aJ .own (uP p k nd.attrs))):=by
 have hns:iF nd<=536870914:=by have h1:=cB iF (oE hg);simp only [aF,aP,bV] at hs;omega
 obtain ⟨nn,ntx,np,ta⟩:=nd;have yz:ta.length+aQ gY ta<=536870914:=by simp only [iF,bV] at hns;omega
 have z1:=mJ ta dU;have z3:=mJ ta nR;have c1:=kW ta dU (by omega);have c2:=kW ta JY (by omega);have c3:=kW ta nR (by omega);have c4:=kW ta El (by omega);have c5:=Gt p.bG (aV ta El).1;have a4:=xH p 4 (aV ta nR).1 (aV ta dU).1 ((k:Nat):Int) (by omega) (by omega) (by omega);have a3:=xH p 3 (aV ta nR).1 (aV ta dU).1 ((k:Nat):Int) (by omega) (by omega) (by omega);have a5:=NU p (aV ta nR).1 hs (by omega);have hrg:=Rj p 3 (aV ta nR).1 (aV ta dU).1 ((k:Nat):Int);have hsl:p.aB.length<=536870914:=by simp only [aF,bV] at hs;omega
 simp only [uP];generalize iB p 4 (aV ta nR).1 (aV ta dU).1 ((k:Nat):Int)=g4 at *;generalize iB p 3 (aV ta nR).1 (aV ta dU).1 ((k:Nat):Int)=g3 at *;generalize addEntry p (aV ta nR).1=g5 at *;simp only [aJ] at a3 a4 a5;simp only [bM] at c5;clear z1 z3;generalize aV ta dU=fd at *;generalize aV ta JY=fk at *;generalize aV ta nR=fs at *;generalize aV ta El=fn at *;obtain ⟨dv,db⟩:=fd;obtain ⟨kv,kb⟩:=fk;obtain ⟨sv,sbb⟩:=fs;obtain ⟨nv,nb⟩:=fn;obtain ⟨g3p,g3k⟩:=g3;simp only [dU] at c1;simp only [JY] at c2;simp only [nR] at c3;simp only [El] at c4;simp only at hrg c5;generalize rX p.bG nv=al at *;have hw:i64.wrap (g3k+1)=g3k+1:=by rw [wrap64]<;>omega
 cases sbb
 .rw [eK rfl];cases al
  .rw [cY (by simp)];refine qU aD func166 ntmps166 ?_;have W:=hg;have V:=hk;refine we ?_;all_goals try(refine ⟨by first|exact .inr rfl|exact .inl rfl,?_⟩;simp [gK,dN,dM,rowOf,results166])
  .rw [eK rfl];refine qU aD func166 ntmps166 ?_;have W:=hg;have V:=hk;refine we ?_;all_goals try(refine ⟨by first|exact .inr rfl|exact .inl rfl,?_⟩;simp [gK,dN,dM,rowOf,results166])
 .rw [cY (by simp)];by_cases h1:kv=II
  .rw [eK h1];have ZC:(kv == [100,101,102,101,114])=true:=by simpa [II] using h1
   refine qU aD func166 ntmps166 ?_;have W:=aA hg ZC;have V:=hk;refine we ?_;all_goals try(refine ⟨by first|exact .inr rfl|exact .inl rfl,?_⟩;simp [gK,dN,dM,rowOf,results166])
  .rw [cY h1];have ZC:(kv == [100,101,102,101,114])=false:=by simpa [II] using h1
   by_cases h2:kv=Cj
   .rw [eK h2];have za:(kv == [109,111,100,117,108,101])=true:=by simpa [Cj] using h2
    refine qU aD func166 ntmps166 ?_;have W:=aA hg (aA ZC za);have V:=hk;refine we ?_;all_goals try(refine ⟨by first|exact .inr rfl|exact .inl rfl,?_⟩;simp [gK,dN,dM,rowOf,results166])
   .rw [cY h2];have za:(kv == [109,111,100,117,108,101])=false:=by simpa [Cj] using h2
    refine qU aD func166 ntmps166 ?_;have W:=aA hg (aA ZC (aA za hw));have V:=hk;refine we ?_;all_goals try(refine ⟨by first|exact .inr rfl|exact .inl rfl,?_⟩;simp [gK,dN,dM,rowOf,results166])
theorem Rk {α:Type} (f:α->Nat):∀a b:List α,aQ f (a++b)=aQ f a+aQ f b
 |[],b=>by simp [aQ]
 |x::xs,b=>by simp only [eI,aQ,Rk f xs b];omega
def rA (b:bC) (t:bP):Option Nat:=
 if t.kind=2/\t.name=iR then
  match b.opens.getLast? with
  |some n=>if 1<=n/\(b.nodes[n.toNat]?).any (λx=>decide (x.name=iR))=true then some n.toNat else none
  |none=>none
 else none
def jW (p:aI) (t:bP) (q:List bP):aI:=
 match rA p.builder t with
 |some k=>uP {p with queue:=q,builder:=(addToken p.builder t).1} k ((p.builder.nodes[k]?).elim [] (·.attrs))
 |none=>if t.kind=1/\0<=(addToken p.builder t).2 then CF {p with queue:=q,builder:=(addToken p.builder t).1} t (addToken p.builder t).2 else {p with queue:=q,builder:=(addToken p.builder t).1}
def jB (p:aI):aI×Bool:=match p.queue with
 |[]=>(p,false)
 |t::q=>if p.block=0/\p.inline=0 then (jW p t q,true) else (p,false)
theorem ZJ (b:bC) (t:bP):aP (addToken b t).1<=aP b+bO t+2:=by
 unfold addToken;split
 .have:=Nj b t.name (b.opens.length - 1);simp only [aP,bV] at this⊢;omega
 .split
  .simp only;omega
  .split
   .simp only;omega
   .have h1:iF (rW b t)<=bO t:=by unfold rW;split<;>simp only [iF,bO,bV,eW,aQ]<;>omega
    have h2:(if mR t=true then b.opens++[((b.nodes.length:Nat):Int)] else b.opens).length<=b.opens.length+1:=by split<;>simp
    simp only [aP,bV,eR,Rk,aQ,eL,eW] at h1 h2⊢;omega
theorem sK {p:aI} {t:bP} {q:List bP} (h:p.queue=t::q):aF {p with queue:=q,builder:=(addToken p.builder t).1}<=aF p+2:=by have h1:=ZJ p.builder t;simp only [aF,h,bV,aQ,eL] at h1⊢;omega
theorem nV {b:bC} {t:bP} (h:t.kind=2):(addToken b t).2= -1/\(addToken b t).1.nodes=b.nodes:=by rw [Bw h];exact ⟨rfl,rfl⟩
theorem zR {b:bC} {t:bP} (h:¬(t.kind=2/\t.name=iR)):rA b t=none:=by unfold rA;rw [cY h]
theorem Kk {b:bC} {t:bP} (h:b.opens=[]):rA b t=none:=by unfold rA;rw [h];split<;>rfl
theorem AJ {b:bC} {t:bP} {os:List Int} {k:Nat} (h1:t.kind=2) (h2:t.name=iR) (h:b.opens=os++[((k:Nat):Int)]) (hk:1<=k) {nd:gF} (hg:b.nodes[k]? =some nd) (hn:nd.name=iR):rA b t=some k:=by unfold rA;rw [eK ⟨h1,h2⟩,h,getLast?_concat];simp only;rw [eK ⟨by omega,by rw [mC,hg];simpa using hn⟩];simp
end Go.Proofs.YtjmpjmilndkgfaaGreatDoor
