/- Proved here: steps towards the statement of this claim. No condition. -/
import Derived.Test.YtfbefblglejcaaaGreatDoorZQI4
import Derived.Test.YtfbefblglejcaaaGreatDoorZQTKB
set_option linter.all false
set_option maxRecDepth 4000
set_option maxHeartbeats 4000000
namespace Go.Proofs.YtfbefblglejcaaaGreatDoor
open Go.Aw Proofs.Tryz List IntKind
theorem jg(s b:bB):aR (bZ s b).1<=s.length+b.length:=by have h:=vD 47 s;unfold bZ addrOf;split<;>split<;>simp[aR,wZ]<;>omega
def addEntry(p:aG)(tx:bB):aG:=
 if (bZ tx p.addr.host).2=false\/20<=p.entries.length then p else {eP p (bZ tx p.addr.host).1 with entries:=p.entries++[(bZ tx p.addr.host).1]}
theorem jh(p:aG)(a:aK)(e:List aK):eP {p with entries:=e} a={eP p a with entries:=e}:=by
 unfold eP;simp only;split
 .split<;>rfl
 .rfl
theorem aBn(p:aG)(a:aK):(eP p a).entries=p.entries:=by
 unfold eP;split
 .split<;>rfl
 .rfl
theorem PZ[aC prog](p:aG)(tx:bB)(hs:aI p<=536870914)(hto:tx.length<=536870914):Ok prog 252 [.agg (aH .view p),.str tx] (.agg (aH .own (addEntry p tx))):=by
 have hsl:p.addr.host.length<=536870914:=by simp only[aI,aR]at hs;omega
 have NT:p.entries.length<=536870914:=by simp only[aI,bQ]at hs;omega
 have c1:=iG p (by omega);have c3:=zK tx p.addr.host (by omega);have hsz:=jg tx p.addr.host;unfold addEntry;generalize bZ tx p.addr.host=pa at*;obtain⟨a,ok⟩:=pa;simp only at c3 hsz⊢;have c4:=Ej {p with entries:=p.entries++[a]} a (by simp only[aI,bQ,eR,jA,bA,eN,eV]at hs⊢;omega) (by omega);rw[jh]at c4;obtain⟨l1,hl1⟩:∃l,l=p.entries++[a]:=⟨_,rfl⟩;have hap:p.entries.map aL++[[.str a.host,.str a.path]]=l1.map aL:=by rw[hl1];simp
 rw[<-hl1]at c4⊢;clear hl1;generalize eP p a=g at*;simp only[aH,aL]at c1 c3 c4;cases ok
 .simp only[true_or,gC];refine bM aF func252 ntmps252 ?_;refine aY ?_;exact aD results252
 .by_cases Iy:20<=p.entries.length
  .have zy:(20:Int)<=(p.entries.length:Int):=by omega
   simp only[Iy,or_true,gC];refine bM aF func252 ntmps252 ?_;have W:=zy;refine we ?_;exact aD results252
  .have zy:¬(20:Int)<=(p.entries.length:Int):=by omega
   rw[cX (by rintro(h|h);cases h;exact Iy h)];refine bM aF func252 ntmps252 ?_;have W:=aA zy hap;refine we ?_;exact aD results252
theorem Qa[aC prog](p:aG)(tx:bB)(hs:aI p<=536870914)(hto:tx.length<=536870914):Ok prog 228 [.agg (aH .view p),.str tx] (.agg (aH .own (addEntry p tx))):=by
 have hsl:p.addr.host.length<=536870914:=by simp only[aI,aR]at hs;omega
 have NT:p.entries.length<=536870914:=by simp only[aI,bQ]at hs;omega
 have c1:=gK p (by omega);have c3:=zJ tx p.addr.host (by omega);have hsz:=jg tx p.addr.host;unfold addEntry;generalize bZ tx p.addr.host=pa at*;obtain⟨a,ok⟩:=pa;simp only at c3 hsz⊢;have c4:=El p a (by omega) (by omega);have hke:=aBn p a;obtain⟨l1,hl1⟩:∃l,l=p.entries++[a]:=⟨_,rfl⟩;have hap:p.entries.map aL++[[.str a.host,.str a.path]]=l1.map aL:=by rw[hl1];simp
 rw[<-hl1];clear hl1;generalize eP p a=g at*;simp only[aH,aL]at c1 c3 c4;rw[hke]at c4;cases ok
 .simp only[true_or,gC];refine bM aF func228 ntmps228 ?_;refine aY ?_;exact aD results228
 .by_cases Iy:20<=p.entries.length
  .have zy:(20:Int)<=(p.entries.length:Int):=by omega
   simp only[Iy,or_true,gC];refine bM aF func228 ntmps228 ?_;have W:=zy;refine we ?_;exact aD results228
  .have zy:¬(20:Int)<=(p.entries.length:Int):=by omega
   rw[cX (by rintro(h|h);cases h;exact Iy h)];refine bM aF func228 ntmps228 ?_;have W:=aA zy hap;refine we ?_;exact aD results228
def Kj:bB:=[100,101,102,101,114]
def Fa:bB:=[110,111,110,99,101]
def sV(p:aG)(k:Nat)(l:List oN):aG:=
 if (aW l oP).2=false then(if uC p.bD (aW l Fa).1=true then {p with inline:=((k:Nat):Int)}else p)
 else if (aW l LP).1=Kj then(gP p 4 (aW l oP).1 (aW l dR).1 ((k:Nat):Int)).1
 else if (aW l LP).1=Db then addEntry p (aW l oP).1
 else {(gP p 3 (aW l oP).1 (aW l dR).1 ((k:Nat):Int)).1 with block:=(gP p 3 (aW l oP).1 (aW l dR).1 ((k:Nat):Int)).2+1}
theorem Tz(p:aG)(m:Int)(a b:bB)(n:Int): -1<=(gP p m a b n).2/\(gP p m a b n).2<=(p.aB.length:Int):=by
 unfold gP;split
 .simp only;omega
 .split<;>(simp only;omega)
theorem NU[aC prog](p:aG)(k:Nat)(nd:jK)(hk:k<p.builder.nodes.length)(hg:p.builder.nodes[k]? =some nd)(hs:aI p<=536870914):MP prog 203 [.oM (.agg (aH .own p)),.view (.int .i64 ((k:Nat):Int))] (.agg (aH .own (sV p k nd.attrs))):=by
 have hns:sM nd<=536870914:=by have h1:=bS sM (mT hg);simp only[aI,aT,bQ]at hs;omega
 obtain⟨nn,ntx,np,ta⟩:=nd;have Q6:ta.length+bA oU ta<=536870914:=by simp only[sM,bQ]at hns;omega
 have z1:=mW ta dR;have z3:=mW ta oP;have c1:=mV ta dR (by omega);have c2:=mV ta LP (by omega);have c3:=mV ta oP (by omega);have c4:=mV ta Fa (by omega);have c5:=Iz p.bD (aW ta Fa).1;have a4:=yQ p 4 (aW ta oP).1 (aW ta dR).1 ((k:Nat):Int) (by omega) (by omega) (by omega);have a3:=yQ p 3 (aW ta oP).1 (aW ta dR).1 ((k:Nat):Int) (by omega) (by omega) (by omega);have a5:=PZ p (aW ta oP).1 hs (by omega);have hrg:=Tz p 3 (aW ta oP).1 (aW ta dR).1 ((k:Nat):Int);have hsl:p.aB.length<=536870914:=by simp only[aI,bQ]at hs;omega
 simp only[sV];generalize gP p 4 (aW ta oP).1 (aW ta dR).1 ((k:Nat):Int)=g4 at*;generalize gP p 3 (aW ta oP).1 (aW ta dR).1 ((k:Nat):Int)=g3 at*;generalize addEntry p (aW ta oP).1=g5 at*;simp only[aH]at a3 a4 a5;simp only[bN]at c5;clear z1 z3;generalize aW ta dR=fd at*;generalize aW ta LP=fk at*;generalize aW ta oP=fs at*;generalize aW ta Fa=fn at*;obtain⟨dv,db⟩:=fd;obtain⟨kv,kb⟩:=fk;obtain⟨sv,sbb⟩:=fs;obtain⟨nv,nb⟩:=fn;obtain⟨g3p,g3k⟩:=g3;simp only[dR]at c1;simp only[LP]at c2;simp only[oP]at c3;simp only[Fa]at c4;simp only at hrg c5;generalize uC p.bD nv=al at*;have hw:i64.wrap (g3k+1)=g3k+1:=by rw[wrap64]<;>omega
 cases sbb
 .rw [eK rfl];cases al
  .rw [cX (by simp)];refine sG aF func203 ntmps203 ?_;have W:=hg;have V:=hk;refine we ?_;all_goals (try exact kH (by simp[gF,dI,dH,rowOf,results203];done))
  .rw [eK rfl];refine sG aF func203 ntmps203 ?_;have W:=hg;have V:=hk;refine we ?_;all_goals (try exact kH (by simp[gF,dI,dH,rowOf,results203];done))
 .rw [cX (by simp)];by_cases h1:kv=Kj
  .rw [eK h1];have KG:(kv == [100,101,102,101,114])=true:=by simpa [Kj]using h1
   refine sG aF func203 ntmps203 ?_;have W:=aA hg KG;have V:=hk;refine we ?_;all_goals (try exact kH (by simp[gF,dI,dH,rowOf,results203];done))
  .rw [cX h1];have KG:(kv == [100,101,102,101,114])=false:=by simpa [Kj]using h1
   by_cases h2:kv=Db
   .rw [eK h2];have Q7:(kv == [109,111,100,117,108,101])=true:=by simpa [Db]using h2
    refine sG aF func203 ntmps203 ?_;have W:=aA hg (aA KG Q7);have V:=hk;refine we ?_;all_goals (try exact kH (by simp[gF,dI,dH,rowOf,results203];done))
   .rw [cX h2];have Q7:(kv == [109,111,100,117,108,101])=false:=by simpa [Db]using h2
    refine sG aF func203 ntmps203 ?_;have W:=aA hg (aA KG (aA Q7 hw));have V:=hk;refine we ?_;all_goals (try exact kH (by simp[gF,dI,dH,rowOf,results203];done))
theorem NV[aC prog](p:aG)(k:Nat)(nd:jK)(hk:k<p.builder.nodes.length)(hg:p.builder.nodes[k]? =some nd)(hs:aI p<=536870914):MP prog 176 [.oM (.agg (aH .own p)),.view (.int .i64 ((k:Nat):Int))] (.agg (aH .own (sV p k nd.attrs))):=by
 have hns:sM nd<=536870914:=by have h1:=bS sM (mT hg);simp only[aI,aT,bQ]at hs;omega
 obtain⟨nn,ntx,np,ta⟩:=nd;have Q6:ta.length+bA oU ta<=536870914:=by simp only[sM,bQ]at hns;omega
 have z1:=mW ta dR;have z3:=mW ta oP;have c1:=kV ta dR (by omega);have c2:=kV ta LP (by omega);have c3:=kV ta oP (by omega);have c4:=kV ta Fa (by omega);have c5:=IB p.bD (aW ta Fa).1;have a4:=yP p 4 (aW ta oP).1 (aW ta dR).1 ((k:Nat):Int) (by omega) (by omega) (by omega);have a3:=yP p 3 (aW ta oP).1 (aW ta dR).1 ((k:Nat):Int) (by omega) (by omega) (by omega);have a5:=Qa p (aW ta oP).1 hs (by omega);have hrg:=Tz p 3 (aW ta oP).1 (aW ta dR).1 ((k:Nat):Int);have hsl:p.aB.length<=536870914:=by simp only[aI,bQ]at hs;omega
 simp only[sV];generalize gP p 4 (aW ta oP).1 (aW ta dR).1 ((k:Nat):Int)=g4 at*;generalize gP p 3 (aW ta oP).1 (aW ta dR).1 ((k:Nat):Int)=g3 at*;generalize addEntry p (aW ta oP).1=g5 at*;simp only[aH]at a3 a4 a5;simp only[bN]at c5;clear z1 z3;generalize aW ta dR=fd at*;generalize aW ta LP=fk at*;generalize aW ta oP=fs at*;generalize aW ta Fa=fn at*;obtain⟨dv,db⟩:=fd;obtain⟨kv,kb⟩:=fk;obtain⟨sv,sbb⟩:=fs;obtain⟨nv,nb⟩:=fn;obtain⟨g3p,g3k⟩:=g3;simp only[dR]at c1;simp only[LP]at c2;simp only[oP]at c3;simp only[Fa]at c4;simp only at hrg c5;generalize uC p.bD nv=al at*;have hw:i64.wrap (g3k+1)=g3k+1:=by rw[wrap64]<;>omega
 cases sbb
 .rw [eK rfl];cases al
  .rw [cX (by simp)];refine sG aF func176 ntmps176 ?_;have W:=hg;have V:=hk;refine we ?_;all_goals (try exact kH (by simp[gF,dI,dH,rowOf,results176];done))
  .rw [eK rfl];refine sG aF func176 ntmps176 ?_;have W:=hg;have V:=hk;refine we ?_;all_goals (try exact kH (by simp[gF,dI,dH,rowOf,results176];done))
 .rw [cX (by simp)];by_cases h1:kv=Kj
  .rw [eK h1];have KG:(kv == [100,101,102,101,114])=true:=by simpa [Kj]using h1
   refine sG aF func176 ntmps176 ?_;have W:=aA hg KG;have V:=hk;refine we ?_;all_goals (try exact kH (by simp[gF,dI,dH,rowOf,results176];done))
  .rw [cX h1];have KG:(kv == [100,101,102,101,114])=false:=by simpa [Kj]using h1
   by_cases h2:kv=Db
   .rw [eK h2];have Q7:(kv == [109,111,100,117,108,101])=true:=by simpa [Db]using h2
    refine sG aF func176 ntmps176 ?_;have W:=aA hg (aA KG Q7);have V:=hk;refine we ?_;all_goals (try exact kH (by simp[gF,dI,dH,rowOf,results176];done))
   .rw [cX h2];have Q7:(kv == [109,111,100,117,108,101])=false:=by simpa [Db]using h2
    refine sG aF func176 ntmps176 ?_;have W:=aA hg (aA KG (aA Q7 hw));have V:=hk;refine we ?_;all_goals (try exact kH (by simp[gF,dI,dH,rowOf,results176];done))
end Go.Proofs.YtfbefblglejcaaaGreatDoor
