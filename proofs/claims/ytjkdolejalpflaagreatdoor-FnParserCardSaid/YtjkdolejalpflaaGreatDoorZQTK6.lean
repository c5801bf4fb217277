/- Proved here: steps towards the statement of this claim. No condition. -/
import Derived.Test.YtjkdolejalpflaaGreatDoorZTK5
import Derived.Test.YtjkdolejalpflaaGreatDoorZQRLia
set_option linter.all false
set_option maxRecDepth 4000
set_option maxHeartbeats 4000000
namespace Go.Proofs.YtjkdolejalpflaaGreatDoor
open Go.Aw Proofs.Tryz List IntKind
def ER:aX:=[100,101,102,101,114]
def Bi:aX:=[110,111,110,99,101]
def nX(p:aW)(k:Nat)(l:List lD):aW:=
 if (aI l lL).2=false then(if oV p.bC (aI l Bi).1=true then {p with inline:=((k:Nat):Int)}else p)
 else if (aI l FZ).1=ER then(eQ p 4 (aI l lL).1 (aI l bX).1 ((k:Nat):Int)).1
 else if (aI l FZ).1=yL then addEntry p (aI l lL).1
 else {(eQ p 3 (aI l lL).1 (aI l bX).1 ((k:Nat):Int)).1 with block:=(eQ p 3 (aI l lL).1 (aI l bX).1 ((k:Nat):Int)).2+1}
theorem Ml(p:aW)(m:Int)(a b:aX)(n:Int): -1<=(eQ p m a b n).2/\(eQ p m a b n).2<=(p.aG.length:Int):=by
 unfold eQ;split
 .simp only;omega
 .split<;>(simp only;omega)
theorem HZ[aB prog](p:aW)(k:Nat)(nd:gQ)(hk:k<p.builder.nodes.length)(hg:p.builder.nodes[k]? =some nd)(hs:aK p<=536870914):UD prog 33 [.oN (.agg (aL .own p)),.view (.int .i64 ((k:Nat):Int))] (.agg (aL .own (nX p k nd.attrs))):=by
 have hns:lJ nd<=536870914:=by have h1:=eY lJ (oB hg);simp only[aK,aF,dL]at hs;omega
 obtain⟨nn,ntx,np,ta⟩:=nd;have qa:ta.length+bM mF ta<=536870914:=by simp only[lJ,dL]at hns;omega
 have z1:=jQ ta bX;have z3:=jQ ta lL;have c1:=jP ta bX (by omega);have c2:=jP ta FZ (by omega);have c3:=jP ta lL (by omega);have c4:=jP ta Bi (by omega);have c5:=Dn p.bC (aI ta Bi).1;have a4:=tY p 4 (aI ta lL).1 (aI ta bX).1 ((k:Nat):Int) (by omega) (by omega) (by omega);have a3:=tY p 3 (aI ta lL).1 (aI ta bX).1 ((k:Nat):Int) (by omega) (by omega) (by omega);have a5:=JE p (aI ta lL).1 hs (by omega);have hrg:=Ml p 3 (aI ta lL).1 (aI ta bX).1 ((k:Nat):Int);have hsl:p.aG.length<=536870914:=by simp only[aK,dL]at hs;omega
 simp only[nX];generalize eQ p 4 (aI ta lL).1 (aI ta bX).1 ((k:Nat):Int)=g4 at*;generalize eQ p 3 (aI ta lL).1 (aI ta bX).1 ((k:Nat):Int)=g3 at*;generalize addEntry p (aI ta lL).1=g5 at*;simp only[aL]at a3 a4 a5;simp only[bG]at c5;clear z1 z3;generalize aI ta bX=fd at*;generalize aI ta FZ=fk at*;generalize aI ta lL=fs at*;generalize aI ta Bi=fn at*;obtain⟨dv,db⟩:=fd;obtain⟨kv,kb⟩:=fk;obtain⟨sv,sbb⟩:=fs;obtain⟨nv,nb⟩:=fn;obtain⟨g3p,g3k⟩:=g3;simp only[bX]at c1;simp only[FZ]at c2;simp only[lL]at c3;simp only[Bi]at c4;simp only at hrg c5;generalize oV p.bC nv=al at*;have hw:i64.wrap (g3k+1)=g3k+1:=by rw[wrap64]<;>omega
 cases sbb
 .rw [eA rfl];cases al
  .rw [cU (by simp)];refine rZ aJ func33 ntmps33 ?_;have W:=hg;have V:=hk;refine we ?_;all_goals (try exact mJ (by simp[gY,dU,dQ,rowOf,results33];done))
  .rw [eA rfl];refine rZ aJ func33 ntmps33 ?_;have W:=hg;have V:=hk;refine we ?_;all_goals (try exact mJ (by simp[gY,dU,dQ,rowOf,results33];done))
 .rw [cU (by simp)];by_cases h1:kv=ER
  .rw [eA h1];have TP:(kv == [100,101,102,101,114])=true:=by simpa [ER]using h1
   refine rZ aJ func33 ntmps33 ?_;have W:=aA hg TP;have V:=hk;refine we ?_;all_goals (try exact mJ (by simp[gY,dU,dQ,rowOf,results33];done))
  .rw [cU h1];have TP:(kv == [100,101,102,101,114])=false:=by simpa [ER]using h1
   by_cases h2:kv=yL
   .rw [eA h2];have Xv:(kv == [109,111,100,117,108,101])=true:=by simpa [yL]using h2
    refine rZ aJ func33 ntmps33 ?_;have W:=aA hg (aA TP Xv);have V:=hk;refine we ?_;all_goals (try exact mJ (by simp[gY,dU,dQ,rowOf,results33];done))
   .rw [cU h2];have Xv:(kv == [109,111,100,117,108,101])=false:=by simpa [yL]using h2
    refine rZ aJ func33 ntmps33 ?_;have W:=aA hg (aA TP (aA Xv hw));have V:=hk;refine we ?_;all_goals (try exact mJ (by simp[gY,dU,dQ,rowOf,results33];done))
theorem Ia[aB prog](p:aW)(k:Nat)(nd:gQ)(hk:k<p.builder.nodes.length)(hg:p.builder.nodes[k]? =some nd)(hs:aK p<=536870914):UD prog 53 [.oN (.agg (aL .own p)),.view (.int .i64 ((k:Nat):Int))] (.agg (aL .own (nX p k nd.attrs))):=by
 have hns:lJ nd<=536870914:=by have h1:=eY lJ (oB hg);simp only[aK,aF,dL]at hs;omega
 obtain⟨nn,ntx,np,ta⟩:=nd;have qa:ta.length+bM mF ta<=536870914:=by simp only[lJ,dL]at hns;omega
 have z1:=jQ ta bX;have z3:=jQ ta lL;have c1:=iU ta bX (by omega);have c2:=iU ta FZ (by omega);have c3:=iU ta lL (by omega);have c4:=iU ta Bi (by omega);have c5:=Dp p.bC (aI ta Bi).1;have a4:=tX p 4 (aI ta lL).1 (aI ta bX).1 ((k:Nat):Int) (by omega) (by omega) (by omega);have a3:=tX p 3 (aI ta lL).1 (aI ta bX).1 ((k:Nat):Int) (by omega) (by omega) (by omega);have a5:=JF p (aI ta lL).1 hs (by omega);have hrg:=Ml p 3 (aI ta lL).1 (aI ta bX).1 ((k:Nat):Int);have hsl:p.aG.length<=536870914:=by simp only[aK,dL]at hs;omega
 simp only[nX];generalize eQ p 4 (aI ta lL).1 (aI ta bX).1 ((k:Nat):Int)=g4 at*;generalize eQ p 3 (aI ta lL).1 (aI ta bX).1 ((k:Nat):Int)=g3 at*;generalize addEntry p (aI ta lL).1=g5 at*;simp only[aL]at a3 a4 a5;simp only[bG]at c5;clear z1 z3;generalize aI ta bX=fd at*;generalize aI ta FZ=fk at*;generalize aI ta lL=fs at*;generalize aI ta Bi=fn at*;obtain⟨dv,db⟩:=fd;obtain⟨kv,kb⟩:=fk;obtain⟨sv,sbb⟩:=fs;obtain⟨nv,nb⟩:=fn;obtain⟨g3p,g3k⟩:=g3;simp only[bX]at c1;simp only[FZ]at c2;simp only[lL]at c3;simp only[Bi]at c4;simp only at hrg c5;generalize oV p.bC nv=al at*;have hw:i64.wrap (g3k+1)=g3k+1:=by rw[wrap64]<;>omega
 cases sbb
 .rw [eA rfl];cases al
  .rw [cU (by simp)];refine rZ aJ func53 ntmps53 ?_;have W:=hg;have V:=hk;refine we ?_;all_goals (try exact mJ (by simp[gY,dU,dQ,rowOf,results53];done))
  .rw [eA rfl];refine rZ aJ func53 ntmps53 ?_;have W:=hg;have V:=hk;refine we ?_;all_goals (try exact mJ (by simp[gY,dU,dQ,rowOf,results53];done))
 .rw [cU (by simp)];by_cases h1:kv=ER
  .rw [eA h1];have TP:(kv == [100,101,102,101,114])=true:=by simpa [ER]using h1
   refine rZ aJ func53 ntmps53 ?_;have W:=aA hg TP;have V:=hk;refine we ?_;all_goals (try exact mJ (by simp[gY,dU,dQ,rowOf,results53];done))
  .rw [cU h1];have TP:(kv == [100,101,102,101,114])=false:=by simpa [ER]using h1
   by_cases h2:kv=yL
   .rw [eA h2];have Xv:(kv == [109,111,100,117,108,101])=true:=by simpa [yL]using h2
    refine rZ aJ func53 ntmps53 ?_;have W:=aA hg (aA TP Xv);have V:=hk;refine we ?_;all_goals (try exact mJ (by simp[gY,dU,dQ,rowOf,results53];done))
   .rw [cU h2];have Xv:(kv == [109,111,100,117,108,101])=false:=by simpa [yL]using h2
    refine rZ aJ func53 ntmps53 ?_;have W:=aA hg (aA TP (aA Xv hw));have V:=hk;refine we ?_;all_goals (try exact mJ (by simp[gY,dU,dQ,rowOf,results53];done))
end Go.Proofs.YtjkdolejalpflaaGreatDoor
