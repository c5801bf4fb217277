/- Proved here: steps towards the statement of this claim. No condition. -/
import Derived.Test.YthddijamfbfibaaGreatDoorZQTKB
import Derived.Test.YthddijamfbfibaaGreatDoorZQRCA
set_option linter.all false
set_option maxRecDepth 8000
set_option maxHeartbeats 8000000
namespace Go.Proofs.YthddijamfbfibaaGreatDoor
open Go.Aw Proofs.Tryz List IntKind
theorem Ox[aB prog](p:aI)(k:Nat)(nd:jP)(hk:k<p.builder.nodes.length)(hg:p.builder.nodes[k]? =some nd)(hs:aL p<=536870914):Lf prog 189 [.oN (.agg (aJ .own p)),.view (.int .i64 ((k:Nat):Int))] (.agg (aJ .own (tJ p k nd.attrs))):=by
 have hns:sU nd<=536870914:=by have h1:=bS sU (nB hg);simp only[aL,aU,bP]at hs;omega
 obtain⟨nn,ntx,np,ta⟩:=nd;have hta:ta.length+aY oZ ta<=536870914:=by simp only[sU,bP]at hns;omega
 have z1:=nE ta dR;have z3:=nE ta oW;have c1:=lF ta dR (by omega);have c2:=lF ta Mg (by omega);have c3:=lF ta oW (by omega);have c4:=lF ta Fx (by omega);have c5:=Ja p.bD (aW ta Fx).1;have a4:=yS p 4 (aW ta oW).1 (aW ta dR).1 ((k:Nat):Int) (by omega) (by omega) (by omega);have a3:=yS p 3 (aW ta oW).1 (aW ta dR).1 ((k:Nat):Int) (by omega) (by omega) (by omega);have a5:=Qy p (aW ta oW).1 hs (by omega);have hrg:=Ue p 3 (aW ta oW).1 (aW ta dR).1 ((k:Nat):Int);have hsl:p.aC.length<=536870914:=by simp only[aL,bP]at hs;omega
 simp only[tJ];generalize gQ p 4 (aW ta oW).1 (aW ta dR).1 ((k:Nat):Int)=g4 at*;generalize gQ p 3 (aW ta oW).1 (aW ta dR).1 ((k:Nat):Int)=g3 at*;generalize addEntry p (aW ta oW).1=g5 at*;simp only[aJ]at a3 a4 a5;simp only[bN]at c5;clear z1 z3;generalize aW ta dR=fd at*;generalize aW ta Mg=fk at*;generalize aW ta oW=fs at*;generalize aW ta Fx=fn at*;obtain⟨dv,db⟩:=fd;obtain⟨kv,kb⟩:=fk;obtain⟨sv,sbb⟩:=fs;obtain⟨nv,nb⟩:=fn;obtain⟨g3p,g3k⟩:=g3;simp only[dR]at c1;simp only[Mg]at c2;simp only[oW]at c3;simp only[Fx]at c4;simp only at hrg c5;generalize uF p.bD nv=al at*;have hw:i64.wrap (g3k+1)=g3k+1:=by rw[wrap64]<;>omega
 cases sbb
 .rw [eK rfl];cases al
  .rw [cY (by simp)];refine sN aG func189 ntmps189 ?_;have W:=hg;have V:=hk;refine we ?_;all_goals (try exact kP (by simp[gF,dJ,dH,rowOf,results189];done))
  .rw [eK rfl];refine sN aG func189 ntmps189 ?_;have W:=hg;have V:=hk;refine we ?_;all_goals (try exact kP (by simp[gF,dJ,dH,rowOf,results189];done))
 .rw [cY (by simp)];by_cases h1:kv=KD
  .rw [eK h1];have KV:(kv == [100,101,102,101,114])=true:=by simpa [KD]using h1
   refine sN aG func189 ntmps189 ?_;have W:=aA hg KV;have V:=hk;refine we ?_;all_goals (try exact kP (by simp[gF,dJ,dH,rowOf,results189];done))
  .rw [cY h1];have KV:(kv == [100,101,102,101,114])=false:=by simpa [KD]using h1
   by_cases h2:kv=Dq
   .rw [eK h2];have h2b:(kv == [109,111,100,117,108,101])=true:=by simpa [Dq]using h2
    refine sN aG func189 ntmps189 ?_;have W:=aA hg (aA KV h2b);have V:=hk;refine we ?_;all_goals (try exact kP (by simp[gF,dJ,dH,rowOf,results189];done))
   .rw [cY h2];have h2b:(kv == [109,111,100,117,108,101])=false:=by simpa [Dq]using h2
    refine sN aG func189 ntmps189 ?_;have W:=aA hg (aA KV (aA h2b hw));have V:=hk;refine we ?_;all_goals (try exact kP (by simp[gF,dJ,dH,rowOf,results189];done))
theorem Uf{α:Type}(f:α->Nat):∀a b:List α,aY f (a++b)=aY f a+aY f b
 |[],b=>by simp[aY]
 |x::xs,b=>by simp only[eA,aY,Uf f xs b];omega
def tK(b:bE)(t:bT):Option Nat:=
 if t.kind=2/\t.name=iR then
  match b.opens.getLast? with
  |some n=>if 1<=n/\(b.nodes[n.toNat]?).any (λx=>decide (x.name=iR))=true then some n.toNat else none
  |none=>none
 else none
def jS(p:aI)(t:bT)(q:List bT):aI:=
 match tK p.builder t with
 |some k=>tJ {p with queue:=q,builder:=(addToken p.builder t).1} k ((p.builder.nodes[k]?).elim [] (·.attrs))
 |none=>if t.kind=1/\0<=(addToken p.builder t).2 then Be {p with queue:=q,builder:=(addToken p.builder t).1} t (addToken p.builder t).2 else {p with queue:=q,builder:=(addToken p.builder t).1}
def iN(p:aI):aI×Bool:=match p.queue with
 |[]=>(p,false)
 |t::q=>if p.block=0/\p.inline=0 then(jS p t q,true)else(p,false)
theorem ql(b:bE)(t:bT):aU (addToken b t).1<=aU b+bW t+2:=by
 unfold addToken;split
 .have:=PN b t.name (b.opens.length-1);simp only[aU,bP]at this⊢;omega
 .split
  .simp only;omega
  .split
   .simp only;omega
   .have h1:sU (uE b t)<=bW t:=by unfold uE;split<;>simp only[sU,bW,bP,eV,aY]<;>omega
    have h2:(if nJ t=true then b.opens++[((b.nodes.length:Nat):Int)]else b.opens).length<=b.opens.length+1:=by split<;>simp
    simp only[aU,bP,eR,Uf,aY,eN,eV]at h1 h2⊢;omega
theorem uR{p:aI}{t:bT}{q:List bT}(h:p.queue=t::q):aL {p with queue:=q,builder:=(addToken p.builder t).1}<=aL p+2:=by have h1:=ql p.builder t;simp only[aL,h,bP,aY,eN]at h1⊢;omega
theorem pV{b:bE}{t:bT}(h:t.kind=2):(addToken b t).2= -1/\(addToken b t).1.nodes=b.nodes:=by rw[Cq h];exact⟨rfl,rfl⟩
theorem AO{b:bE}{t:bT}(h:¬(t.kind=2/\t.name=iR)):tK b t=none:=by unfold tK;rw[cY h]
theorem Mq{b:bE}{t:bT}(h:b.opens=[]):tK b t=none:=by unfold tK;rw[h];split<;>rfl
theorem BB{b:bE}{t:bT}{os:List Int}{k:Nat}(h1:t.kind=2)(h2:t.name=iR)(h:b.opens=os++[((k:Nat):Int)])(hk:1<=k){nd:jP}(hg:b.nodes[k]? =some nd)(hn:nd.name=iR):tK b t=some k:=by unfold tK;rw[eK ⟨h1,h2⟩,h,getLast?_concat];simp only;rw[eK ⟨by omega,by rw[mA,hg];simpa using hn⟩];simp
def BM(p:aI)(k:Int):aI×Bool:=
 if 0<=k then match p.aC[k.toNat]? with
  |some s=>if s.done=true/\p.aC.all oK=true then({(if s.code=1 then lZ p s.body true else p)with block:=0},true)else(p,false)
  |none=>({p with block:=0},true)
 else({p with block:=0},true)
def jH(p:aI):aI×Bool:=
 if p.inline≠0 then(if p.aC.all oK=true then({lZ p (Cu p.builder p.inline) true with inline:=0},true)else(p,false))
 else if p.block≠0 then BM p (i64.wrap (p.block-1))
 else iN p
theorem Ui{α:Type}(f:α->Nat):∀{l:List α} {x:α},x∈l->f x<=aY f l
 |y::l,x,h=>by
  rcases gS.1 h with rfl|h
  .simp only[aY];omega
  .have:=Ui f h;simp only[aY];omega
def zZ:List (Nat×Nat):=[(1,18),(2,19),(3,20),(4,21),(5,22),(6,23),(7,24),(8,25),(9,26),(10,27),(11,28)]
theorem aI3{t t':List AV}{o o':List aN}{n1 v1 n2 v2 n3 v3 n4 v4 n5 v5 n6 v6 n7 v7 n8 v8 n9 v9 n10 v10 n11 v11:Nat}{e1 e2 e3 e4 e5 e6 e7 e8 e9 xh e11:List (List AV)}{o12 o13 o14 o15 o16 o17:aN}{q:aI}(ho:o=[⟨true,true,22,2,[zK 18 q]⟩,⟨false,false,n1,v1,e1⟩,⟨false,false,n2,v2,e2⟩,⟨false,false,n3,v3,e3⟩,⟨false,false,n4,v4,e4⟩,⟨false,false,n5,v5,e5⟩,⟨false,false,n6,v6,e6⟩,⟨false,false,n7,v7,e7⟩,⟨false,false,n8,v8,e8⟩,⟨false,false,n9,v9,e9⟩,⟨false,false,n10,v10,xh⟩,⟨false,false,n11,v11,e11⟩,o12,o13,o14,o15,o16,o17]++zJ q)
  (ho':o'=[⟨true,true,22,2,[zK 1 q]⟩]++zJ q++[o12,o13]) (ht:∀z∈zZ,wk (rP z.1 z.2 t') t') (hf:∀z∈zZ,o12.lV z.1 z.2=o12/\o13.lV z.1 z.2=o13/\o14.lV z.1 z.2=o14/\o15.lV z.1 z.2=o15/\o16.lV z.1 z.2=o16/\o17.lV z.1 z.2=o17) (hw:wk t t') (hc:eP 14 t'=true) (hc0:dB 14 [o12,o13]=true):lC ⟨t,o⟩ ⟨t',o'⟩:=by
 subst ho;subst ho';have e:=λi j (h:(i,j)∈zZ)=>hf (i,j) h
 have h:=λi j (h:(i,j)∈zZ)=>ht (i,j) h
 simp only[zJ,zK,eA,eM];refine(wN hw).trans ?_;refine(aS 1 18 rfl rfl ⟨rfl,rfl⟩ (by simp[(e 1 18 (by decide))];rfl) (h 1 18 (by decide))).trans ?_;refine(aS 2 19 rfl rfl ⟨rfl,rfl⟩ (by simp[(e 2 19 (by decide))];rfl) (h 2 19 (by decide))).trans ?_;refine(aS 3 20 rfl rfl ⟨rfl,rfl⟩ (by simp[(e 3 20 (by decide))];rfl) (h 3 20 (by decide))).trans ?_;refine(aS 4 21 rfl rfl ⟨rfl,rfl⟩ (by simp[(e 4 21 (by decide))];rfl) (h 4 21 (by decide))).trans ?_;refine(aS 5 22 rfl rfl ⟨rfl,rfl⟩ (by simp[(e 5 22 (by decide))];rfl) (h 5 22 (by decide))).trans ?_;refine(aS 6 23 rfl rfl ⟨rfl,rfl⟩ (by simp[(e 6 23 (by decide))];rfl) (h 6 23 (by decide))).trans ?_;refine(aS 7 24 rfl rfl ⟨rfl,rfl⟩ (by simp[(e 7 24 (by decide))];rfl) (h 7 24 (by decide))).trans ?_;refine(aS 8 25 rfl rfl ⟨rfl,rfl⟩ (by simp[(e 8 25 (by decide))];rfl) (h 8 25 (by decide))).trans ?_;refine(aS 9 26 rfl rfl ⟨rfl,rfl⟩ (by simp[(e 9 26 (by decide))];rfl) (h 9 26 (by decide))).trans ?_;refine(aS 10 27 rfl rfl ⟨rfl,rfl⟩ (by simp[(e 10 27 (by decide))];rfl) (h 10 27 (by decide))).trans ?_;refine(aS 11 28 rfl rfl ⟨rfl,rfl⟩ (by simp[(e 11 28 (by decide))];rfl) (h 11 28 (by decide))).trans ?_;refine aT 14 (by simp) (lK _) hc ?_;simpa [dB,eP,closed]using hc0
end Go.Proofs.YthddijamfbfibaaGreatDoor
