/- Proved here: steps towards the statement of this claim. No condition. -/
import Derived.Test.YtdcpobkemdacnaaGreatDoorZQB4
import Derived.Test.YtdcpobkemdacnaaGreatDoorZQTK3
import Derived.Test.YtdcpobkemdacnaaGreatDoorZQI4
set_option linter.all false
set_option maxRecDepth 4000
set_option maxHeartbeats 4000000
namespace Go.Proofs.YtdcpobkemdacnaaGreatDoor
open Go.Aw Proofs.Tryz List IntKind
def tN (p:eY) (n:bB):Bool:= !p.isSet || ((p.sP != [])&&(p.sP == n))
theorem Hu [aC prog] (p:eY) (n:bB):Ok prog 243 [.agg (bP .view p),.str n] (.bool (tN p n)):=by
 obtain ⟨pis,psc,pst,pim,nc⟩:=p;unfold tN;cases pis
 .refine bO aD func243 ntmps243 ?_;refine aZ ?_;exact aF results243
 .by_cases h:nc=[]
  .subst h;refine bO aD func243 ntmps243 ?_;refine aZ ?_;exact aF results243
  .have h2:(nc != [])=true:=by simpa using h
   refine bO aD func243 ntmps243 ?_;have W:=aA h h2;refine we ?_;all_goals try(refine aV ?_;simp [aH,results243,h,h2])
theorem Hw [aC prog] (p:eY) (n:bB):Ok prog 219 [.agg (bP .view p),.str n] (.bool (tN p n)):=by
 obtain ⟨pis,psc,pst,pim,nc⟩:=p;unfold tN;cases pis
 .refine bO aD func219 ntmps219 ?_;refine aZ ?_;exact aF results219
 .by_cases h:nc=[]
  .subst h;refine bO aD func219 ntmps219 ?_;refine aZ ?_;exact aF results219
  .have h2:(nc != [])=true:=by simpa using h
   refine bO aD func219 ntmps219 ?_;have W:=aA h h2;refine we ?_;all_goals try(refine aV ?_;simp [aH,results219,h,h2])
def Aj (p:aG) (t:bV) (n:Int):aG:=
 if t.name=Ir/\(aW t.attrs Av).2=true then (gU p 2 (aW t.attrs Av).1 (aW t.attrs dU).1 n).1
 else if t.name=MV/\(aW t.attrs oN).2=true then (gU p 1 (aW t.attrs oN).1 (aW t.attrs dU).1 n).1 else p
theorem Uy [aC prog] (p:aG) (t:bV) (n:Int) (hs:aJ p<=274877906944) (ht:bX t<=274877906944):Ma prog 194 [.oK (.agg (aI .own p)),.view (.agg (cB .view t)),.view (.int .i64 n)] (.agg (aI .own (Aj p t n))):=by
 obtain ⟨tk,tn,ta,tx⟩:=t;have zt:ta.length+bH oO ta<=274877906944:=by simp only [bX,bT] at ht;omega
 have z1:=mK ta dU;have z2:=mK ta Av;have z3:=mK ta oN;have c1:=mJ ta dU (by omega);have c2:=mJ ta Av (by omega);have c3:=mJ ta oN (by omega);have a2:=yE p 2 (aW ta Av).1 (aW ta dU).1 n hs (by omega) (by omega);have a1:=yE p 1 (aW ta oN).1 (aW ta dU).1 n hs (by omega) (by omega);simp only [Aj];generalize gU p 2 (aW ta Av).1 (aW ta dU).1 n=g2 at *;generalize gU p 1 (aW ta oN).1 (aW ta dU).1 n=g1 at *;simp only [aI] at a1 a2;clear z1 z2 z3;generalize aW ta dU=fd at *;generalize aW ta Av=fh at *;generalize aW ta oN=fs at *;obtain ⟨dv,db⟩:=fd;obtain ⟨hv,hb⟩:=fh;obtain ⟨sv,sb⟩:=fs;simp only [dU] at c1;simp only [Av] at c2;simp only [oN] at c3;by_cases h1:tn=Ir
 .have h2:¬tn=MV:=by rw [h1];decide
  subst h1;cases hb
  .rw [cX (by rintro ⟨_,h⟩;cases h),cX (by rintro ⟨h,_⟩;exact h2 h)];simp only [Ir];refine rO aD func194 ntmps194 ?_;refine aZ ?_;all_goals try(refine ⟨by first|exact .inr rfl|exact .inl rfl,?_⟩;simp [gJ,dL,dJ,rowOf,results194])
  .rw [eI ⟨rfl,rfl⟩];simp only [Ir];refine rO aD func194 ntmps194 ?_;refine aZ ?_;all_goals try(refine ⟨by first|exact .inr rfl|exact .inl rfl,?_⟩;simp [gJ,dL,dJ,rowOf,results194])
 .rw [cX (by rintro ⟨h,_⟩;exact h1 h)];have JP:(tn == [108,105,110,107])=false:=by simpa [Ir] using h1
  by_cases h2:tn=MV
  .subst h2;cases sb
   .rw [cX (by rintro ⟨_,h⟩;cases h)];simp only [MV];refine rO aD func194 ntmps194 ?_;refine aZ ?_;all_goals try(refine ⟨by first|exact .inr rfl|exact .inl rfl,?_⟩;simp [gJ,dL,dJ,rowOf,results194])
   .rw [eI ⟨rfl,rfl⟩];simp only [MV];refine rO aD func194 ntmps194 ?_;refine aZ ?_;all_goals try(refine ⟨by first|exact .inr rfl|exact .inl rfl,?_⟩;simp [gJ,dL,dJ,rowOf,results194])
  .have zu:(tn == [105,109,103])=false:=by simpa [MV] using h2
   rw [cX (by rintro ⟨h,_⟩;exact h2 h)];refine rO aD func194 ntmps194 ?_;have W:=aA JP zu;refine we ?_;all_goals try(refine ⟨by first|exact .inr rfl|exact .inl rfl,?_⟩;simp [gJ,dL,dJ,rowOf,results194])
theorem Gj [aC prog] (p:aG) (t:bV) (n:Int) (hs:aJ p<=274877906944) (ht:bX t<=274877906944):Ma prog 167 [.oK (.agg (aI .own p)),.view (.agg (cB .view t)),.view (.int .i64 n)] (.agg (aI .own (Aj p t n))):=by
 obtain ⟨tk,tn,ta,tx⟩:=t;have zt:ta.length+bH oO ta<=274877906944:=by simp only [bX,bT] at ht;omega
 have z1:=mK ta dU;have z2:=mK ta Av;have z3:=mK ta oN;have c1:=kX ta dU (by omega);have c2:=kX ta Av (by omega);have c3:=kX ta oN (by omega);have a2:=yD p 2 (aW ta Av).1 (aW ta dU).1 n hs (by omega) (by omega);have a1:=yD p 1 (aW ta oN).1 (aW ta dU).1 n hs (by omega) (by omega);simp only [Aj];generalize gU p 2 (aW ta Av).1 (aW ta dU).1 n=g2 at *;generalize gU p 1 (aW ta oN).1 (aW ta dU).1 n=g1 at *;simp only [aI] at a1 a2;clear z1 z2 z3;generalize aW ta dU=fd at *;generalize aW ta Av=fh at *;generalize aW ta oN=fs at *;obtain ⟨dv,db⟩:=fd;obtain ⟨hv,hb⟩:=fh;obtain ⟨sv,sb⟩:=fs;simp only [dU] at c1;simp only [Av] at c2;simp only [oN] at c3;by_cases h1:tn=Ir
 .have h2:¬tn=MV:=by rw [h1];decide
  subst h1;cases hb
  .rw [cX (by rintro ⟨_,h⟩;cases h),cX (by rintro ⟨h,_⟩;exact h2 h)];simp only [Ir];cases sb
   .refine rO aD func167 ntmps167 ?_;refine aZ ?_;all_goals try(refine ⟨by first|exact .inr rfl|exact .inl rfl,?_⟩;simp [gJ,dL,dJ,rowOf,results167])
   .refine rO aD func167 ntmps167 ?_;refine aZ ?_;all_goals try(refine ⟨by first|exact .inr rfl|exact .inl rfl,?_⟩;simp [gJ,dL,dJ,rowOf,results167])
  .rw [eI ⟨rfl,rfl⟩];simp only [Ir];cases sb
   .refine rO aD func167 ntmps167 ?_;refine aZ ?_;all_goals try(refine ⟨by first|exact .inr rfl|exact .inl rfl,?_⟩;simp [gJ,dL,dJ,rowOf,results167])
   .refine rO aD func167 ntmps167 ?_;refine aZ ?_;all_goals try(refine ⟨by first|exact .inr rfl|exact .inl rfl,?_⟩;simp [gJ,dL,dJ,rowOf,results167])
 .rw [cX (by rintro ⟨h,_⟩;exact h1 h)];have JP:(tn == [108,105,110,107])=false:=by simpa [Ir] using h1
  by_cases h2:tn=MV
  .subst h2;simp only [MV] at JP;cases sb
   .rw [cX (by rintro ⟨_,h⟩;cases h)];simp only [MV];cases hb
    .refine rO aD func167 ntmps167 ?_;refine aZ ?_;all_goals try(refine ⟨by first|exact .inr rfl|exact .inl rfl,?_⟩;simp [gJ,dL,dJ,rowOf,results167])
    .refine rO aD func167 ntmps167 ?_;refine aZ ?_;all_goals try(refine ⟨by first|exact .inr rfl|exact .inl rfl,?_⟩;simp [gJ,dL,dJ,rowOf,results167])
   .rw [eI ⟨rfl,rfl⟩];simp only [MV];cases hb
    .refine rO aD func167 ntmps167 ?_;refine aZ ?_;all_goals try(refine ⟨by first|exact .inr rfl|exact .inl rfl,?_⟩;simp [gJ,dL,dJ,rowOf,results167])
    .refine rO aD func167 ntmps167 ?_;refine aZ ?_;all_goals try(refine ⟨by first|exact .inr rfl|exact .inl rfl,?_⟩;simp [gJ,dL,dJ,rowOf,results167])
  .have zu:(tn == [105,109,103])=false:=by simpa [MV] using h2
   rw [cX (by rintro ⟨h,_⟩;exact h2 h)];cases hb<;>cases sb
   .refine rO aD func167 ntmps167 ?_;have W:=aA JP zu;refine we ?_;all_goals try(refine ⟨by first|exact .inr rfl|exact .inl rfl,?_⟩;simp [gJ,dL,dJ,rowOf,results167])
   .refine rO aD func167 ntmps167 ?_;have W:=aA JP zu;refine we ?_;all_goals try(refine ⟨by first|exact .inr rfl|exact .inl rfl,?_⟩;simp [gJ,dL,dJ,rowOf,results167])
   .refine rO aD func167 ntmps167 ?_;have W:=aA JP zu;refine we ?_;all_goals try(refine ⟨by first|exact .inr rfl|exact .inl rfl,?_⟩;simp [gJ,dL,dJ,rowOf,results167])
   .refine rO aD func167 ntmps167 ?_;have W:=aA JP zu;refine we ?_;all_goals try(refine ⟨by first|exact .inr rfl|exact .inl rfl,?_⟩;simp [gJ,dL,dJ,rowOf,results167])
theorem ah (s b:bB):aQ (bY s b).1<=s.length+b.length:=by have h:=uX 47 s;unfold bY addrOf;split<;>split<;>simp [aQ,wV]<;>omega
def addEntry (p:aG) (tx:bB):aG:=
 if (bY tx p.addr.host).2=false\/20<=p.entries.length then p else {eU p (bY tx p.addr.host).1 with entries:=p.entries++[(bY tx p.addr.host).1]}
theorem ai (p:aG) (a:aK) (e:List aK):eU {p with entries:=e} a={eU p a with entries:=e}:=by
 unfold eU;simp only;split
 .split<;>rfl
 .rfl
theorem V8 (p:aG) (a:aK):(eU p a).entries=p.entries:=by
 unfold eU;split
 .split<;>rfl
 .rfl
theorem OZ [aC prog] (p:aG) (tx:bB) (hs:aJ p<=536870914) (hto:tx.length<=536870914):Ok prog 244 [.agg (aI .view p),.str tx] (.agg (aI .own (addEntry p tx))):=by
 have hsl:p.addr.host.length<=536870914:=by simp only [aJ,aQ] at hs;omega
 have Nb:p.entries.length<=536870914:=by simp only [aJ,bT] at hs;omega
 have c1:=iK p (by omega);have c3:=yX tx p.addr.host (by omega);have hsz:=ah tx p.addr.host;unfold addEntry;generalize bY tx p.addr.host=pa at *;obtain ⟨a,ok⟩:=pa;simp only at c3 hsz⊢;have c4:=DJ {p with entries:=p.entries++[a]} a (by simp only [aJ,bT,eR,jD,bH,eN,eW] at hs⊢;omega) (by omega);rw [ai] at c4;obtain ⟨l1,hl1⟩:∃l,l=p.entries++[a]:=⟨_,rfl⟩;have hap:p.entries.map aL++[[.str a.host,.str a.path]]=l1.map aL:=by rw [hl1];simp
 rw [<-hl1] at c4⊢;clear hl1;generalize eU p a=g at *;simp only [aI,aL] at c1 c3 c4;cases ok
 .simp only [true_or,gO];refine bO aD func244 ntmps244 ?_;refine aZ ?_;exact aF results244
 .by_cases Ht:20<=p.entries.length
  .have ui:(20:Int)<=(p.entries.length:Int):=by omega
   simp only [Ht,or_true,gO];refine bO aD func244 ntmps244 ?_;have W:=ui;refine we ?_;exact aF results244
  .have ui:¬(20:Int)<=(p.entries.length:Int):=by omega
   rw [cX (by rintro (h|h);cases h;exact Ht h)];refine bO aD func244 ntmps244 ?_;have W:=aA ui hap;refine we ?_;exact aF results244
theorem Pb [aC prog] (p:aG) (tx:bB) (hs:aJ p<=536870914) (hto:tx.length<=536870914):Ok prog 220 [.agg (aI .view p),.str tx] (.agg (aI .own (addEntry p tx))):=by
 have hsl:p.addr.host.length<=536870914:=by simp only [aJ,aQ] at hs;omega
 have Nb:p.entries.length<=536870914:=by simp only [aJ,bT] at hs;omega
 have c1:=gP p (by omega);have c3:=yV tx p.addr.host (by omega);have hsz:=ah tx p.addr.host;unfold addEntry;generalize bY tx p.addr.host=pa at *;obtain ⟨a,ok⟩:=pa;simp only at c3 hsz⊢;have c4:=DK p a (by omega) (by omega);have hke:=V8 p a;obtain ⟨l1,hl1⟩:∃l,l=p.entries++[a]:=⟨_,rfl⟩;have hap:p.entries.map aL++[[.str a.host,.str a.path]]=l1.map aL:=by rw [hl1];simp
 rw [<-hl1];clear hl1;generalize eU p a=g at *;simp only [aI,aL] at c1 c3 c4;rw [hke] at c4;cases ok
 .simp only [true_or,gO];refine bO aD func220 ntmps220 ?_;refine aZ ?_;exact aF results220
 .by_cases Ht:20<=p.entries.length
  .have ui:(20:Int)<=(p.entries.length:Int):=by omega
   simp only [Ht,or_true,gO];refine bO aD func220 ntmps220 ?_;have W:=ui;refine we ?_;exact aF results220
  .have ui:¬(20:Int)<=(p.entries.length:Int):=by omega
   rw [cX (by rintro (h|h);cases h;exact Ht h)];refine bO aD func220 ntmps220 ?_;have W:=aA ui hap;refine we ?_;exact aF results220
def Jz:bB:=[100,101,102,101,114]
def ED:bB:=[110,111,110,99,101]
def sI (p:aG) (k:Nat) (l:List oL):aG:=
 if (aW l oN).2=false then (if tN p.bD (aW l ED).1=true then {p with inline:=((k:Nat):Int)} else p)
 else if (aW l KT).1=Jz then (gU p 4 (aW l oN).1 (aW l dU).1 ((k:Nat):Int)).1
 else if (aW l KT).1=CE then addEntry p (aW l oN).1
 else {(gU p 3 (aW l oN).1 (aW l dU).1 ((k:Nat):Int)).1 with block:=(gU p 3 (aW l oN).1 (aW l dU).1 ((k:Nat):Int)).2+1}
theorem Sd (p:aG) (m:Int) (a b:bB) (n:Int): -1<=(gU p m a b n).2/\(gU p m a b n).2<=(p.aB.length:Int):=by
 unfold gU;split
 .simp only;omega
 .split<;>(simp only;omega)
theorem Nc [aC prog] (p:aG) (k:Nat) (nd:jL) (hk:k < p.builder.nodes.length) (hg:p.builder.nodes[k]? =some nd) (hs:aJ p<=536870914):Ma prog 195 [.oK (.agg (aI .own p)),.view (.int .i64 ((k:Nat):Int))] (.agg (aI .own (sI p k nd.attrs))):=by
 have hns:rU nd<=536870914:=by have h1:=bU rU (mS hg);simp only [aJ,aS,bT] at hs;omega
 obtain ⟨nn,ntx,np,ta⟩:=nd;have zt:ta.length+bH oO ta<=536870914:=by simp only [rU,bT] at hns;omega
 have z1:=mK ta dU;have z3:=mK ta oN;have c1:=mJ ta dU (by omega);have c2:=mJ ta KT (by omega);have c3:=mJ ta oN (by omega);have c4:=mJ ta ED (by omega);have c5:=Hu p.bD (aW ta ED).1;have a4:=yE p 4 (aW ta oN).1 (aW ta dU).1 ((k:Nat):Int) (by omega) (by omega) (by omega);have a3:=yE p 3 (aW ta oN).1 (aW ta dU).1 ((k:Nat):Int) (by omega) (by omega) (by omega);have a5:=OZ p (aW ta oN).1 hs (by omega);have hrg:=Sd p 3 (aW ta oN).1 (aW ta dU).1 ((k:Nat):Int);have hsl:p.aB.length<=536870914:=by simp only [aJ,bT] at hs;omega
 simp only [sI];generalize gU p 4 (aW ta oN).1 (aW ta dU).1 ((k:Nat):Int)=g4 at *;generalize gU p 3 (aW ta oN).1 (aW ta dU).1 ((k:Nat):Int)=g3 at *;generalize addEntry p (aW ta oN).1=g5 at *;simp only [aI] at a3 a4 a5;simp only [bP] at c5;clear z1 z3;generalize aW ta dU=fd at *;generalize aW ta KT=fk at *;generalize aW ta oN=fs at *;generalize aW ta ED=fn at *;obtain ⟨dv,db⟩:=fd;obtain ⟨kv,kb⟩:=fk;obtain ⟨sv,sbb⟩:=fs;obtain ⟨nv,nb⟩:=fn;obtain ⟨g3p,g3k⟩:=g3;simp only [dU] at c1;simp only [KT] at c2;simp only [oN] at c3;simp only [ED] at c4;simp only at hrg c5;generalize tN p.bD nv=al at *;have hw:i64.wrap (g3k+1)=g3k+1:=by rw [wrap64]<;>omega
 cases sbb
 .rw [eI rfl];cases al
  .rw [cX (by simp)];refine rO aD func195 ntmps195 ?_;have W:=hg;have V:=hk;refine we ?_;all_goals try(refine ⟨by first|exact .inr rfl|exact .inl rfl,?_⟩;simp [gJ,dL,dJ,rowOf,results195])
  .rw [eI rfl];refine rO aD func195 ntmps195 ?_;have W:=hg;have V:=hk;refine we ?_;all_goals try(refine ⟨by first|exact .inr rfl|exact .inl rfl,?_⟩;simp [gJ,dL,dJ,rowOf,results195])
 .rw [cX (by simp)];by_cases h1:kv=Jz
  .rw [eI h1];have JP:(kv == [100,101,102,101,114])=true:=by simpa [Jz] using h1
   refine rO aD func195 ntmps195 ?_;have W:=aA hg JP;have V:=hk;refine we ?_;all_goals try(refine ⟨by first|exact .inr rfl|exact .inl rfl,?_⟩;simp [gJ,dL,dJ,rowOf,results195])
  .rw [cX h1];have JP:(kv == [100,101,102,101,114])=false:=by simpa [Jz] using h1
   by_cases h2:kv=CE
   .rw [eI h2];have zu:(kv == [109,111,100,117,108,101])=true:=by simpa [CE] using h2
    refine rO aD func195 ntmps195 ?_;have W:=aA hg (aA JP zu);have V:=hk;refine we ?_;all_goals try(refine ⟨by first|exact .inr rfl|exact .inl rfl,?_⟩;simp [gJ,dL,dJ,rowOf,results195])
   .rw [cX h2];have zu:(kv == [109,111,100,117,108,101])=false:=by simpa [CE] using h2
    refine rO aD func195 ntmps195 ?_;have W:=aA hg (aA JP (aA zu hw));have V:=hk;refine we ?_;all_goals try(refine ⟨by first|exact .inr rfl|exact .inl rfl,?_⟩;simp [gJ,dL,dJ,rowOf,results195])
theorem Nf [aC prog] (p:aG) (k:Nat) (nd:jL) (hk:k < p.builder.nodes.length) (hg:p.builder.nodes[k]? =some nd) (hs:aJ p<=536870914):Ma prog 168 [.oK (.agg (aI .own p)),.view (.int .i64 ((k:Nat):Int))] (.agg (aI .own (sI p k nd.attrs))):=by
 have hns:rU nd<=536870914:=by have h1:=bU rU (mS hg);simp only [aJ,aS,bT] at hs;omega
 obtain ⟨nn,ntx,np,ta⟩:=nd;have zt:ta.length+bH oO ta<=536870914:=by simp only [rU,bT] at hns;omega
 have z1:=mK ta dU;have z3:=mK ta oN;have c1:=kX ta dU (by omega);have c2:=kX ta KT (by omega);have c3:=kX ta oN (by omega);have c4:=kX ta ED (by omega);have c5:=Hw p.bD (aW ta ED).1;have a4:=yD p 4 (aW ta oN).1 (aW ta dU).1 ((k:Nat):Int) (by omega) (by omega) (by omega);have a3:=yD p 3 (aW ta oN).1 (aW ta dU).1 ((k:Nat):Int) (by omega) (by omega) (by omega);have a5:=Pb p (aW ta oN).1 hs (by omega);have hrg:=Sd p 3 (aW ta oN).1 (aW ta dU).1 ((k:Nat):Int);have hsl:p.aB.length<=536870914:=by simp only [aJ,bT] at hs;omega
 simp only [sI];generalize gU p 4 (aW ta oN).1 (aW ta dU).1 ((k:Nat):Int)=g4 at *;generalize gU p 3 (aW ta oN).1 (aW ta dU).1 ((k:Nat):Int)=g3 at *;generalize addEntry p (aW ta oN).1=g5 at *;simp only [aI] at a3 a4 a5;simp only [bP] at c5;clear z1 z3;generalize aW ta dU=fd at *;generalize aW ta KT=fk at *;generalize aW ta oN=fs at *;generalize aW ta ED=fn at *;obtain ⟨dv,db⟩:=fd;obtain ⟨kv,kb⟩:=fk;obtain ⟨sv,sbb⟩:=fs;obtain ⟨nv,nb⟩:=fn;obtain ⟨g3p,g3k⟩:=g3;simp only [dU] at c1;simp only [KT] at c2;simp only [oN] at c3;simp only [ED] at c4;simp only at hrg c5;generalize tN p.bD nv=al at *;have hw:i64.wrap (g3k+1)=g3k+1:=by rw [wrap64]<;>omega
 cases sbb
 .rw [eI rfl];cases al
  .rw [cX (by simp)];refine rO aD func168 ntmps168 ?_;have W:=hg;have V:=hk;refine we ?_;all_goals try(refine ⟨by first|exact .inr rfl|exact .inl rfl,?_⟩;simp [gJ,dL,dJ,rowOf,results168])
  .rw [eI rfl];refine rO aD func168 ntmps168 ?_;have W:=hg;have V:=hk;refine we ?_;all_goals try(refine ⟨by first|exact .inr rfl|exact .inl rfl,?_⟩;simp [gJ,dL,dJ,rowOf,results168])
 .rw [cX (by simp)];by_cases h1:kv=Jz
  .rw [eI h1];have JP:(kv == [100,101,102,101,114])=true:=by simpa [Jz] using h1
   refine rO aD func168 ntmps168 ?_;have W:=aA hg JP;have V:=hk;refine we ?_;all_goals try(refine ⟨by first|exact .inr rfl|exact .inl rfl,?_⟩;simp [gJ,dL,dJ,rowOf,results168])
  .rw [cX h1];have JP:(kv == [100,101,102,101,114])=false:=by simpa [Jz] using h1
   by_cases h2:kv=CE
   .rw [eI h2];have zu:(kv == [109,111,100,117,108,101])=true:=by simpa [CE] using h2
    refine rO aD func168 ntmps168 ?_;have W:=aA hg (aA JP zu);have V:=hk;refine we ?_;all_goals try(refine ⟨by first|exact .inr rfl|exact .inl rfl,?_⟩;simp [gJ,dL,dJ,rowOf,results168])
   .rw [cX h2];have zu:(kv == [109,111,100,117,108,101])=false:=by simpa [CE] using h2
    refine rO aD func168 ntmps168 ?_;have W:=aA hg (aA JP (aA zu hw));have V:=hk;refine we ?_;all_goals try(refine ⟨by first|exact .inr rfl|exact .inl rfl,?_⟩;simp [gJ,dL,dJ,rowOf,results168])
theorem Sg {α:Type} (f:α->Nat):∀a b:List α,bH f (a++b)=bH f a+bH f b
 |[],b=>by simp [bH]
 |x::xs,b=>by simp only [eA,bH,Sg f xs b];omega
def sJ (b:bF) (t:bV):Option Nat:=
 if t.kind=2/\t.name=iT then
  match b.opens.getLast? with
  |some n=>if 1<=n/\(b.nodes[n.toNat]?).any (λx=>decide (x.name=iT))=true then some n.toNat else none
  |none=>none
 else none
def jP (p:aG) (t:bV) (q:List bV):aG:=
 match sJ p.builder t with
 |some k=>sI {p with queue:=q,builder:=(addToken p.builder t).1} k ((p.builder.nodes[k]?).elim [] (·.attrs))
 |none=>if t.kind=1/\0<=(addToken p.builder t).2 then Aj {p with queue:=q,builder:=(addToken p.builder t).1} t (addToken p.builder t).2 else {p with queue:=q,builder:=(addToken p.builder t).1}
def iN (p:aG):aG×Bool:=match p.queue with
 |[]=>(p,false)
 |t::q=>if p.block=0/\p.inline=0 then (jP p t q,true) else (p,false)
theorem aj (b:bF) (t:bV):aS (addToken b t).1<=aS b+bX t+2:=by
 unfold addToken;split
 .have:=Og b t.name (b.opens.length - 1);simp only [aS,bT] at this⊢;omega
 .split
  .simp only;omega
  .split
   .simp only;omega
   .have h1:rU (tL b t)<=bX t:=by unfold tL;split<;>simp only [rU,bX,bT,eW,bH]<;>omega
    have h2:(if mR t=true then b.opens++[((b.nodes.length:Nat):Int)] else b.opens).length<=b.opens.length+1:=by split<;>simp
    simp only [aS,bT,eR,Sg,bH,eN,eW] at h1 h2⊢;omega
theorem uD {p:aG} {t:bV} {q:List bV} (h:p.queue=t::q):aJ {p with queue:=q,builder:=(addToken p.builder t).1}<=aJ p+2:=by have h1:=aj p.builder t;simp only [aJ,h,bT,bH,eN] at h1⊢;omega
theorem pF {b:bF} {t:bV} (h:t.kind=2):(addToken b t).2= -1/\(addToken b t).1.nodes=b.nodes:=by rw [BG h];exact ⟨rfl,rfl⟩
theorem Ab {b:bF} {t:bV} (h:¬(t.kind=2/\t.name=iT)):sJ b t=none:=by unfold sJ;rw [cX h]
theorem La {b:bF} {t:bV} (h:b.opens=[]):sJ b t=none:=by unfold sJ;rw [h];split<;>rfl
theorem AQ {b:bF} {t:bV} {os:List Int} {k:Nat} (h1:t.kind=2) (h2:t.name=iT) (h:b.opens=os++[((k:Nat):Int)]) (hk:1<=k) {nd:jL} (hg:b.nodes[k]? =some nd) (hn:nd.name=iT):sJ b t=some k:=by unfold sJ;rw [eI ⟨h1,h2⟩,h,getLast?_concat];simp only;rw [eI ⟨by omega,by rw [lP,hg];simpa using hn⟩];simp
end Go.Proofs.YtdcpobkemdacnaaGreatDoor
