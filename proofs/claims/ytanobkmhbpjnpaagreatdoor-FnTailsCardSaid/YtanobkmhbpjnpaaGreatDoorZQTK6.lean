/- Steps. No condition. -/
import Derived.Test.YtanobkmhbpjnpaaGreatDoorZQTKB
import Derived.Test.YtanobkmhbpjnpaaGreatDoorZQRC4
set_option linter.all false
set_option maxRecDepth 4000
set_option maxHeartbeats 4000000
namespace Go.Proofs.YtanobkmhbpjnpaaGreatDoor
open Go.Aw Proofs.Tryz List IntKind
def KX:bE:=[100,101,102,101,114]
def Gb:bE:=[110,111,110,99,101]
def pQ(p:aF)(k:Nat)(l:List pV):aF:=
 if (aX l qB).2=false then(if vQ p.bO (aX l Gb).1=true then {p with dZ:=((k:Nat):Int)}else p)
 else if (aX l MJ).1=KX then(gJ p 4 (aX l qB).1 (aX l fC).1 ((k:Nat):Int)).1
 else if (aX l MJ).1=DX then addEntry p (aX l qB).1
 else {(gJ p 3 (aX l qB).1 (aX l fC).1 ((k:Nat):Int)).1 with block:=(gJ p 3 (aX l qB).1 (aX l fC).1 ((k:Nat):Int)).2+1}
def Uc(p:aF)(m:Int)(a b:bE)(n:Int): -1<=(gJ p m a b n).2/\(gJ p m a b n).2<=(p.aD.length:Int):=by
 unfold gJ;split
 .simp only;omega
 .split<;>(simp only;omega)
def OL[aG prog](p:aF)(k:Nat)(nd:kG)(hk:k<p.aC.aJ.length)(hg:p.aC.aJ[k]? =some nd)(hs:aM p<=536870914):Ob prog 110 [.rF (.agg (aH .own p)),.view (.int .i64 ((k:Nat):Int))] (.agg (aH .own (pQ p k nd.iH))):=by
 have hns:qP nd<=536870914:=by have h1:=dJ qP (nB hg);simp only[aM,aV,dS]at hs;omega
 obtain⟨nn,ntx,np,ta⟩:=nd;have hta:ta.length+bU rR ta<=536870914:=by simp only[qP,dS]at hns;omega
 have z1:=oQ ta fC;have z3:=oQ ta qB;have c1:=oP ta fC (by omega);have c2:=oP ta MJ (by omega);have c3:=oP ta qB (by omega);have c4:=oP ta Gb (by omega);have c5:=Jv p.bO (aX ta Gb).1;have a4:=Ab p 4 (aX ta qB).1 (aX ta fC).1 ((k:Nat):Int) (by omega) (by omega) (by omega);have a3:=Ab p 3 (aX ta qB).1 (aX ta fC).1 ((k:Nat):Int) (by omega) (by omega) (by omega);have a5:=QP p (aX ta qB).1 hs (by omega);have hrg:=Uc p 3 (aX ta qB).1 (aX ta fC).1 ((k:Nat):Int);have hsl:p.aD.length<=536870914:=by simp only[aM,dS]at hs;omega
 simp only[pQ];generalize gJ p 4 (aX ta qB).1 (aX ta fC).1 ((k:Nat):Int)=g4 at*;generalize gJ p 3 (aX ta qB).1 (aX ta fC).1 ((k:Nat):Int)=g3 at*;generalize addEntry p (aX ta qB).1=g5 at*;simp only[aH]at a3 a4 a5;simp only[dA]at c5;clear z1 z3;generalize aX ta fC=fd at*;generalize aX ta MJ=fk at*;generalize aX ta qB=fs at*;generalize aX ta Gb=fn at*;obtain⟨dv,db⟩:=fd;obtain⟨kv,kb⟩:=fk;obtain⟨sv,sbb⟩:=fs;obtain⟨nv,nb⟩:=fn;obtain⟨g3p,g3k⟩:=g3;simp only[fC]at c1;simp only[MJ]at c2;simp only[qB]at c3;simp only[Gb]at c4;simp only at hrg c5;generalize vQ p.bO nv=al at*;have hw:i64.wrap (g3k+1)=g3k+1:=by rw[wrap64]<;>omega
 cases sbb
 .rw [eM rfl];cases al
  .rw [eC (by simp)];refine uQ aK func110 ntmps110 ?_;have W:=hg;have V:=hk;refine we ?_;all_goals (try exact nL (by simp[jF,fK,fH,rowOf,results110];done))
  .rw [eM rfl];refine uQ aK func110 ntmps110 ?_;have W:=hg;have V:=hk;refine we ?_;all_goals (try exact nL (by simp[jF,fK,fH,rowOf,results110];done))
 .rw [eC (by simp)];by_cases h1:kv=KX
  .rw [eM h1];have nu:(kv == [100,101,102,101,114])=true:=by simpa [KX]using h1
   refine uQ aK func110 ntmps110 ?_;have W:=aA hg nu;have V:=hk;refine we ?_;all_goals (try exact nL (by simp[jF,fK,fH,rowOf,results110];done))
  .rw [eC h1];have nu:(kv == [100,101,102,101,114])=false:=by simpa [KX]using h1
   by_cases h2:kv=DX
   .rw [eM h2];have h2b:(kv == [109,111,100,117,108,101])=true:=by simpa [DX]using h2
    refine uQ aK func110 ntmps110 ?_;have W:=aA hg (aA nu h2b);have V:=hk;refine we ?_;all_goals (try exact nL (by simp[jF,fK,fH,rowOf,results110];done))
   .rw [eC h2];have h2b:(kv == [109,111,100,117,108,101])=false:=by simpa [DX]using h2
    refine uQ aK func110 ntmps110 ?_;have W:=aA hg (aA nu (aA h2b hw));have V:=hk;refine we ?_;all_goals (try exact nL (by simp[jF,fK,fH,rowOf,results110];done))
def OM[aG prog](p:aF)(k:Nat)(nd:kG)(hk:k<p.aC.aJ.length)(hg:p.aC.aJ[k]? =some nd)(hs:aM p<=536870914):Ob prog 118 [.rF (.agg (aH .own p)),.view (.int .i64 ((k:Nat):Int))] (.agg (aH .own (pQ p k nd.iH))):=by
 have hns:qP nd<=536870914:=by have h1:=dJ qP (nB hg);simp only[aM,aV,dS]at hs;omega
 obtain⟨nn,ntx,np,ta⟩:=nd;have hta:ta.length+bU rR ta<=536870914:=by simp only[qP,dS]at hns;omega
 have z1:=oQ ta fC;have z3:=oQ ta qB;have c1:=nJ ta fC (by omega);have c2:=nJ ta MJ (by omega);have c3:=nJ ta qB (by omega);have c4:=nJ ta Gb (by omega);have c5:=Jw p.bO (aX ta Gb).1;have a4:=Aa p 4 (aX ta qB).1 (aX ta fC).1 ((k:Nat):Int) (by omega) (by omega) (by omega);have a3:=Aa p 3 (aX ta qB).1 (aX ta fC).1 ((k:Nat):Int) (by omega) (by omega) (by omega);have a5:=QQ p (aX ta qB).1 hs (by omega);have hrg:=Uc p 3 (aX ta qB).1 (aX ta fC).1 ((k:Nat):Int);have hsl:p.aD.length<=536870914:=by simp only[aM,dS]at hs;omega
 simp only[pQ];generalize gJ p 4 (aX ta qB).1 (aX ta fC).1 ((k:Nat):Int)=g4 at*;generalize gJ p 3 (aX ta qB).1 (aX ta fC).1 ((k:Nat):Int)=g3 at*;generalize addEntry p (aX ta qB).1=g5 at*;simp only[aH]at a3 a4 a5;simp only[dA]at c5;clear z1 z3;generalize aX ta fC=fd at*;generalize aX ta MJ=fk at*;generalize aX ta qB=fs at*;generalize aX ta Gb=fn at*;obtain⟨dv,db⟩:=fd;obtain⟨kv,kb⟩:=fk;obtain⟨sv,sbb⟩:=fs;obtain⟨nv,nb⟩:=fn;obtain⟨g3p,g3k⟩:=g3;simp only[fC]at c1;simp only[MJ]at c2;simp only[qB]at c3;simp only[Gb]at c4;simp only at hrg c5;generalize vQ p.bO nv=al at*;have hw:i64.wrap (g3k+1)=g3k+1:=by rw[wrap64]<;>omega
 cases sbb
 .rw [eM rfl];cases al
  .rw [eC (by simp)];refine uQ aK func118 ntmps118 ?_;have W:=hg;have V:=hk;refine we ?_;all_goals (try exact nL (by simp[jF,fK,fH,rowOf,results118];done))
  .rw [eM rfl];refine uQ aK func118 ntmps118 ?_;have W:=hg;have V:=hk;refine we ?_;all_goals (try exact nL (by simp[jF,fK,fH,rowOf,results118];done))
 .rw [eC (by simp)];by_cases h1:kv=KX
  .rw [eM h1];have nu:(kv == [100,101,102,101,114])=true:=by simpa [KX]using h1
   refine uQ aK func118 ntmps118 ?_;have W:=aA hg nu;have V:=hk;refine we ?_;all_goals (try exact nL (by simp[jF,fK,fH,rowOf,results118];done))
  .rw [eC h1];have nu:(kv == [100,101,102,101,114])=false:=by simpa [KX]using h1
   by_cases h2:kv=DX
   .rw [eM h2];have h2b:(kv == [109,111,100,117,108,101])=true:=by simpa [DX]using h2
    refine uQ aK func118 ntmps118 ?_;have W:=aA hg (aA nu h2b);have V:=hk;refine we ?_;all_goals (try exact nL (by simp[jF,fK,fH,rowOf,results118];done))
   .rw [eC h2];have h2b:(kv == [109,111,100,117,108,101])=false:=by simpa [DX]using h2
    refine uQ aK func118 ntmps118 ?_;have W:=aA hg (aA nu (aA h2b hw));have V:=hk;refine we ?_;all_goals (try exact nL (by simp[jF,fK,fH,rowOf,results118];done))
end Go.Proofs.YtanobkmhbpjnpaaGreatDoor
