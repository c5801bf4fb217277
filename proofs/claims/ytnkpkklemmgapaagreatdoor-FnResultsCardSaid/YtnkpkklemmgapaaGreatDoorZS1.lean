/- Proved here: steps towards the statement of this claim. No condition. -/
import Derived.Test.YtnkpkklemmgapaaGreatDoorZQMK5
import Derived.Test.YtnkpkklemmgapaaGreatDoorZQ1
set_option linter.all false
set_option maxRecDepth 4000
set_option maxHeartbeats 4000000
namespace Go.Proofs.YtnkpkklemmgapaaGreatDoor
open Go.Aw Proofs.Tryz List IntKind
theorem G9[aB prog][dY prog](s:aU)(c:UInt8)(hs:s.length<4294967281):Ok prog 83 [.str s,.str [c]] (.sl .own 1 ((dP c s).map dQ)):=aCe Tryz.laysM146 (by kernel_rfl) s c hs
def kH:bU:=⟨0,[],[],[]⟩
def xO(w:aU):aU:=w.take (kC 61 w)
def zR(w:aU):aU:=w.drop (kC 61 w+1)
def jA:List aU->List nY->Option (List nY)
 |[],acc=>some acc
 |w::ws,acc=>if (decide (kC 61 w<w.length)&&dJ (xO w)&&isValue (zR w)&& !(bD acc (xO w)).2)=true then jA ws (acc++[⟨xO w,zR w⟩])else none
def GV(w0:aU)(ws:List aU):bU×Bool:=
 if dJ w0=true/\ws.length<=4 then(match jA ws []with
  |some l=>(⟨1,w0,l,[]⟩,true)
  |none=>(kH,false))else(kH,false)
def zG(s:aU):bU×Bool:=
 if 60<s.length then(kH,false)
 else if Rx [47] s=true then(if dJ (s.drop 1)=true then(⟨2,s.drop 1,[],[]⟩,true)else(kH,false))
 else GV (s.take (kC 32 s)) (if kC 32 s<s.length then dP 32 (s.drop (kC 32 s+1))else [])
theorem vR(c:UInt8)(s:aU):dP c s=s.take (kC c s)::(if kC c s<s.length then dP c (s.drop (kC c s+1))else []):=by
 rw[Lp];have h:=xK c s;split
 .rfl
 .rw [eJ (by omega)]
theorem aC3{w0:aU}{ws:List aU}(h:¬(dJ w0=true/\ws.length<=4)):GV w0 ws=(kH,false):=by unfold GV;rw[eK h]
theorem jd{w0:aU}{ws:List aU}(h:jA ws []=none):GV w0 ws=(kH,false):=by unfold GV;rw[h];split<;>rfl
theorem je{w0:aU}{ws:List aU}{l:List nY}(h1:dJ w0=true)(h2:ws.length<=4)(h:jA ws []=some l):GV w0 ws=(⟨1,w0,l,[]⟩,true):=by unfold GV;rw[h,eW ⟨h1,h2⟩]
theorem Df:∀(ws:List aU) (acc l:List nY),jA ws acc=some l->l.length=acc.length+ws.length
 |[],acc,l,h=>by simp only[jA,eA]at h;subst h;simp
 |w::ws,acc,l,h=>by
  simp only[jA]at h;split at h
  .have:=Df ws _ l h;simp at this⊢;omega
  .cases h
theorem MG:∀(ws:List aU) (acc l:List nY),jA ws acc=some l->bV pK l<=bV pK acc+bB dI ws
 |[],acc,l,h=>by simp only[jA,eA]at h;subst h;simp[bB]
 |w::ws,acc,l,h=>by
  simp only[jA]at h;split at h
  .rename_i hc;simp only[eI,fX]at hc;have:=MG ws _ l h;have hj:∀a b:List nY,bB pK (a++b)=bB pK a+bB pK b:=by
    intro a b;induction a with
    |nil=>simp[bB]
    |cons x xs ih=>simp only[cW,bB,ih];omega
   simp only[bV,hj,bB,pK,xO,zR,eM,oY,AI,dT,eR,dI]at this⊢;omega
  .cases h
theorem Cm(c:UInt8):∀s:aU,bB dI (dP c s)<=s.length
 |[]=>by simp[dP,bB,dI]
 |x::s=>by
  have ih:=Cm c s;simp only[dP];split
  .simp only[bB,dI,eR,dT]at ih⊢;omega
  .split
   .rename_i h0;exact absurd h0 (uD c s)
   .rename_i p q h0;rw[h0]at ih;simp only[bB,dI,dT]at ih⊢;omega
theorem aC4(s:aU):dR (zG s).1<=s.length:=by
 have hn:dR kH=0:=by simp[kH,dR,bV,bB]
 unfold zG;split
 .simp only[hn];omega
 .split
  .split
   .simp [dR,bV,bB]
   .simp only[hn];omega
  .have hs:=Cm 32 s;rw[vR]at hs;simp only[bB,dI]at hs;generalize (if kC 32 s<s.length then dP 32 (s.drop (kC 32 s+1))else [])=ws at*;unfold GV;split
   .split
    .rename_i l hl;have:=MG ws [] l hl;simp only[dR,bV,bB,eR]at this⊢;omega
    .simp only[hn];omega
   .simp only[hn];omega
end Go.Proofs.YtnkpkklemmgapaaGreatDoor
