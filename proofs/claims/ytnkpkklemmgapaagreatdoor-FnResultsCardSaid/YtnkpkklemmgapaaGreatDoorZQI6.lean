/- Proved here: steps towards the statement of this claim. No condition. -/
import Derived.Test.YtnkpkklemmgapaaGreatDoorZQI4
import Derived.Test.YtnkpkklemmgapaaGreatDoorZTK5
set_option linter.all false
set_option maxRecDepth 4000
set_option maxHeartbeats 4000000
namespace Go.Proofs.YtnkpkklemmgapaaGreatDoor
open Go.Aw Proofs.Tryz List IntKind
theorem aDo(s b:aU):aP (cB s b).1<=s.length+b.length:=by have h:=xK 47 s;unfold cB addrOf;split<;>split<;>simp[aP,Aj]<;>omega
def addEntry(p:aC)(tx:aU):aC:=
 if (cB tx p.addr.host).2=false\/20<=p.entries.length then p else {fB p (cB tx p.addr.host).1 with entries:=p.entries++[(cB tx p.addr.host).1]}
theorem L6(p:aC)(a:aK):(fB p a).entries=p.entries:=by
 unfold fB;split
 .split<;>rfl
 .rfl
theorem ND[aB prog](p:aC)(tx:aU)(hs:aM p<=536870914)(hto:tx.length<=536870914):Ok prog 230 [.agg (aQ .view p),.str tx] (.agg (aQ .own (addEntry p tx))):=by
 have hsl:p.addr.host.length<=536870914:=by simp only[aM,aP]at hs;omega
 have L8:p.entries.length<=536870914:=by simp only[aM,bV]at hs;omega
 have c1:=fQ p (by omega);have c3:=xN tx p.addr.host (by omega);have hsz:=aDo tx p.addr.host;unfold addEntry;generalize cB tx p.addr.host=pa at*;obtain⟨a,ok⟩:=pa;simp only at c3 hsz⊢;have c4:=Ct p a (by omega) (by omega);have hke:=L6 p a;obtain⟨l1,hl1⟩:∃l,l=p.entries++[a]:=⟨_,rfl⟩;have hap:p.entries.map bC++[[.str a.host,.str a.path]]=l1.map bC:=by rw[hl1];simp
 rw[<-hl1];clear hl1;generalize fB p a=g at*;simp only[aQ,bC]at c1 c3 c4;rw[hke]at c4;cases ok
 .simp only[true_or,eV];refine dL aO func230 ntmps230 ?_;refine dH ?_;exact aR results230
 .by_cases UB:20<=p.entries.length
  .have aL3:(20:Int)<=(p.entries.length:Int):=by omega
   simp only[UB,or_true,eV];refine dL aO func230 ntmps230 ?_;have W:=aL3;refine we ?_;exact aR results230
  .have aL3:¬(20:Int)<=(p.entries.length:Int):=by omega
   rw[eK (by rintro(h|h);cases h;exact UB h)];refine dL aO func230 ntmps230 ?_;have W:=aA aL3 hap;refine we ?_;exact aR results230
def VQ:aU:=[100,101,102,101,114]
def Qj:aU:=[110,111,110,99,101]
def rZ(p:aC)(k:Nat)(l:List nY):aC:=
 if (bD l uN).2=false then(if zS p.bM (bD l Qj).1=true then {p with inline:=((k:Nat):Int)}else p)
 else if (bD l Ux).1=VQ then(gN p 4 (bD l uN).1 (bD l gI).1 ((k:Nat):Int)).1
 else if (bD l Ux).1=Ke then addEntry p (bD l uN).1
 else {(gN p 3 (bD l uN).1 (bD l gI).1 ((k:Nat):Int)).1 with block:=(gN p 3 (bD l uN).1 (bD l gI).1 ((k:Nat):Int)).2+1}
theorem kg(p:aC)(m:Int)(a b:aU)(n:Int): -1<=(gN p m a b n).2/\(gN p m a b n).2<=(p.aF.length:Int):=by
 unfold gN;split
 .simp only;omega
 .split<;>(simp only;omega)
theorem LJ[aB prog](p:aC)(k:Nat)(nd:gV)(hk:k<p.builder.nodes.length)(hg:p.builder.nodes[k]? =some nd)(hs:aM p<=536870914):ax prog 194 [.rQ (.agg (aQ .own p)),.view (.int .i64 ((k:Nat):Int))] (.agg (aQ .own (rZ p k nd.attrs))):=by
 have hns:gK nd<=536870914:=by have h1:=dS gK (mB hg);simp only[aM,aS,bV]at hs;omega
 obtain⟨nn,ntx,np,ta⟩:=nd;have hta:ta.length+bB pK ta<=536870914:=by simp only[gK,bV]at hns;omega
 have z1:=tK ta gI;have z3:=tK ta uN;have c1:=jQ ta gI (by omega);have c2:=jQ ta Ux (by omega);have c3:=jQ ta uN (by omega);have c4:=jQ ta Qj (by omega);have c5:=Gp p.bM (bD ta Qj).1;have a4:=wO p 4 (bD ta uN).1 (bD ta gI).1 ((k:Nat):Int) (by omega) (by omega) (by omega);have a3:=wO p 3 (bD ta uN).1 (bD ta gI).1 ((k:Nat):Int) (by omega) (by omega) (by omega);have a5:=ND p (bD ta uN).1 hs (by omega);have hrg:=kg p 3 (bD ta uN).1 (bD ta gI).1 ((k:Nat):Int);have hsl:p.aF.length<=536870914:=by simp only[aM,bV]at hs;omega
 simp only[rZ];generalize gN p 4 (bD ta uN).1 (bD ta gI).1 ((k:Nat):Int)=g4 at*;generalize gN p 3 (bD ta uN).1 (bD ta gI).1 ((k:Nat):Int)=g3 at*;generalize addEntry p (bD ta uN).1=g5 at*;simp only[aQ]at a3 a4 a5;simp only[dK]at c5;clear z1 z3;generalize bD ta gI=fd at*;generalize bD ta Ux=fk at*;generalize bD ta uN=fs at*;generalize bD ta Qj=fn at*;obtain⟨dv,db⟩:=fd;obtain⟨kv,kb⟩:=fk;obtain⟨sv,sbb⟩:=fs;obtain⟨nv,nb⟩:=fn;obtain⟨g3p,g3k⟩:=g3;simp only[gI]at c1;simp only[Ux]at c2;simp only[uN]at c3;simp only[Qj]at c4;simp only at hrg c5;generalize zS p.bM nv=al at*;have hw:i64.wrap (g3k+1)=g3k+1:=by rw[wrap64]<;>omega
 cases sbb
 .rw [eW rfl];cases al
  .rw [eK (by simp)];refine BM aO func194 ntmps194 ?_;have W:=hg;have V:=hk;refine we ?_;all_goals (try exact uJ (by simp[lY,gQ,gL,rowOf,results194];done))
  .rw [eW rfl];refine BM aO func194 ntmps194 ?_;have W:=hg;have V:=hk;refine we ?_;all_goals (try exact uJ (by simp[lY,gQ,gL,rowOf,results194];done))
 .rw [eK (by simp)];by_cases h1:kv=VQ
  .rw [eW h1];have h1b:(kv == [100,101,102,101,114])=true:=by simpa [VQ]using h1
   refine BM aO func194 ntmps194 ?_;have W:=aA hg h1b;have V:=hk;refine we ?_;all_goals (try exact uJ (by simp[lY,gQ,gL,rowOf,results194];done))
  .rw [eK h1];have h1b:(kv == [100,101,102,101,114])=false:=by simpa [VQ]using h1
   by_cases h2:kv=Ke
   .rw [eW h2];have h2b:(kv == [109,111,100,117,108,101])=true:=by simpa [Ke]using h2
    refine BM aO func194 ntmps194 ?_;have W:=aA hg (aA h1b h2b);have V:=hk;refine we ?_;all_goals (try exact uJ (by simp[lY,gQ,gL,rowOf,results194];done))
   .rw [eK h2];have h2b:(kv == [109,111,100,117,108,101])=false:=by simpa [Ke]using h2
    refine BM aO func194 ntmps194 ?_;have W:=aA hg (aA h1b (aA h2b hw));have V:=hk;refine we ?_;all_goals (try exact uJ (by simp[lY,gQ,gL,rowOf,results194];done))
end Go.Proofs.YtnkpkklemmgapaaGreatDoor
