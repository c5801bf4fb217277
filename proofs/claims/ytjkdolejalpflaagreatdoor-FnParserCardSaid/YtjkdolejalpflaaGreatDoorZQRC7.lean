/- Proved here: steps towards the statement of this claim. No condition. -/
import Derived.Test.YtjkdolejalpflaaGreatDoorZQRLib
import Derived.Test.YtjkdolejalpflaaGreatDoorZQTK6
set_option linter.all false
set_option maxRecDepth 4000
set_option maxHeartbeats 4000000
namespace Go.Proofs.YtjkdolejalpflaaGreatDoor
open Go.Aw Proofs.Tryz List IntKind
def iE(l:List aX)(s:aX):List aX:=if l.length<40 then l++[s]else l
theorem Mh[aB prog][eD prog](p:aW)(s:aX)(hs:p.log.length<=1099511627776):UD prog 39 [.sW (aL .own p) (aL .own {p with log:=iE p.log s}),.view (.str s)] (.fH []):=by
 by_cases h:p.log.length<40
 .have hi:(p.log.length:Int)<40:=by omega
  obtain⟨l1,hl1⟩:∃l,l=p.log++[s]:=⟨_,rfl⟩;have hap:p.log.map dR++[[.str s]]=l1.map dR:=by rw[hl1];simp
  have e:iE p.log s=l1:=by unfold iE;rw[eA h,hl1]
  rw[e];clear e hl1;refine rZ aJ func39 ntmps39 ?_;have W:=aA hi (aA hap hs);refine wl ?_;all_goals (try exact mJ (by simp[gY,dU,dQ,rowOf,results39];done))
 .have hi:¬(p.log.length:Int)<40:=by omega
  have e:iE p.log s=p.log:=by unfold iE;rw[cU h]
  rw[e];clear e;refine rZ aJ func39 ntmps39 ?_;have W:=hi;refine wl ?_;all_goals (try exact mJ (by simp[gY,dU,dQ,rowOf,results39];done))
theorem Mm{α:Type}(f:α->Nat):∀a b:List α,bM f (a++b)=bM f a+bM f b
 |[],b=>by simp[bM]
 |x::xs,b=>by simp only[cM,bM,Mm f xs b];omega
def nY(b:aV)(t:bD):Option Nat:=
 if t.kind=2/\t.name=fT then
  match b.opens.getLast? with
  |some n=>if 1<=n/\(b.nodes[n.toNat]?).any (λx=>decide (x.name=fT))=true then some n.toNat else none
  |none=>none
 else none
def gT(p:aW)(t:bD)(q:List bD):aW:=
 match nY p.builder t with
 |some k=>nX {p with queue:=q,builder:=(addToken p.builder t).1} k ((p.builder.nodes[k]?).elim [] (·.attrs))
 |none=>if t.kind=1/\0<=(addToken p.builder t).2 then vY {p with queue:=q,builder:=(addToken p.builder t).1} t (addToken p.builder t).2 else {p with queue:=q,builder:=(addToken p.builder t).1}
def dJ(p:aW):aW×Bool:=match p.queue with
 |[]=>(p,false)
 |t::q=>if p.block=0/\p.inline=0 then(gT p t q,true)else(p,false)
theorem TV(b:aV)(t:bD):aF (addToken b t).1<=aF b+bF t+2:=by
 unfold addToken;split
 .have:=Jg b t.name (b.opens.length-1);simp only[aF,dL]at this⊢;omega
 .split
  .simp only;omega
  .split
   .simp only;omega
   .have h1:lJ (oU b t)<=bF t:=by unfold oU;split<;>simp only[lJ,bF,dL,eR,bM]<;>omega
    have h2:(if jW t=true then b.opens++[((b.nodes.length:Nat):Int)]else b.opens).length<=b.opens.length+1:=by split<;>simp
    simp only[aF,dL,eJ,Mm,bM,eE,eR]at h1 h2⊢;omega
theorem pK{p:aW}{t:bD}{q:List bD}(h:p.queue=t::q):aK {p with queue:=q,builder:=(addToken p.builder t).1}<=aK p+2:=by have h1:=TV p.builder t;simp only[aK,h,dL,bM,eE]at h1⊢;omega
theorem lT{b:aV}{t:bD}(h:t.kind=2):(addToken b t).2= -1/\(addToken b t).1.nodes=b.nodes:=by rw[xK h];exact⟨rfl,rfl⟩
theorem vP{b:aV}{t:bD}(h:¬(t.kind=2/\t.name=fT)):nY b t=none:=by unfold nY;rw[cU h]
theorem Gh{b:aV}{t:bD}(h:b.opens=[]):nY b t=none:=by unfold nY;rw[h];split<;>rfl
theorem wM{b:aV}{t:bD}{os:List Int}{k:Nat}(h1:t.kind=2)(h2:t.name=fT)(h:b.opens=os++[((k:Nat):Int)])(hk:1<=k){nd:gQ}(hg:b.nodes[k]? =some nd)(hn:nd.name=fT):nY b t=some k:=by unfold nY;rw[eA ⟨h1,h2⟩,h,getLast?_concat];simp only;rw[eA ⟨by omega,by rw[rK,hg];simpa using hn⟩];simp
end Go.Proofs.YtjkdolejalpflaaGreatDoor
