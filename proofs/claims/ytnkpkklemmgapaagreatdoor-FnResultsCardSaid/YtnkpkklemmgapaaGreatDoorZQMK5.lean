/- Proved here: steps towards the statement of this claim. No condition. -/
import Derived.Test.YtnkpkklemmgapaaGreatDoorZQMK3
import Derived.Test.YtnkpkklemmgapaaGreatDoorZF8
import Derived.Lib.Overlaps
import Derived.Lib.AppendZerosOnto
import Derived.Test.YtnkpkklemmgapaaGreatDoorZQR4
import Derived.Test.YtnkpkklemmgapaaGreatDoorZQD1
set_option linter.all false
set_option maxRecDepth 100000
set_option maxHeartbeats 4000000
namespace Go.Proofs.YtnkpkklemmgapaaGreatDoor
open Go.Aw Go.RowKit Go.Lib Proofs.Tryz List IntKind
end Go.Proofs.YtnkpkklemmgapaaGreatDoor
namespace Go.Aw
open List
theorem aCt{w:World}{O:Nat->Prop}{x:GA}{xs:List GA}:∀{vs:List Value} {tV:List (List Nat)} {iT:List Nat},CP w O (x::xs) vs tV iT->
  ∃v vs' f fs k ks,vs=v::vs'/\tV=f::fs/\iT=k::ks/\RG w O x v f k/\CP w O xs vs' fs ks
 |[],_,_,h=>by simp[CP]at h
 |_::_,[],_,h=>by simp[CP]at h
 |_::_,_::_,[],h=>by simp[CP]at h
 |v::vs,f::fs,k::ks,h=>by simp only[CP]at h;exact⟨v,vs,f,fs,k,ks,rfl,rfl,rfl,h.1,h.2⟩
theorem aHl{w:World}{O:Nat->Prop}:∀{vs:List Value} {tV:List (List Nat)} {iT:List Nat},CP w O [] vs tV iT->vs=[]/\tV=[]/\iT=[]
 |[],[],[],_=>⟨rfl,rfl,rfl⟩
 |_::_,_,_,h=>by simp[CP]at h
 |[],_::_,_,h=>by simp[CP]at h
 |[],[],_::_,h=>by simp[CP]at h
end Go.Aw
set_option maxRecDepth 100000
set_option maxHeartbeats 4000000
namespace Go.Proofs.YtnkpkklemmgapaaGreatDoor
open Go.Aw Go.RowKit Go.Lib Proofs.Tryz List IntKind
end Go.Proofs.YtnkpkklemmgapaaGreatDoor
set_option maxRecDepth 4000
set_option maxHeartbeats 4000000
namespace Go.Proofs.YtnkpkklemmgapaaGreatDoor
open Go.Aw Proofs.Tryz List IntKind
theorem G5{c:UInt8}{s:aU}{f i:Nat}(hf:f<=i)(hi:i<s.length)(hc:s[i]=c)(hn:∀x∈(s.take i).drop f,x≠c):dP c (s.drop f)=(s.take i).drop f::dP c (s.drop (i+1)):=by
 have e:s.drop f=(s.take i).drop f++c::s.drop (i+1):=by
  have h1:s=s.take i++s[i]::s.drop (i+1):=by simp
  conv=>lhs;rw[h1]
  rw[drop_append_of_le_length (by simp;omega),hc]
 rw[e,Pv c _ _ hn]
theorem G6{c:UInt8}{s:aU}{f:Nat}(hn:∀x∈(s.take s.length).drop f,x≠c):dP c (s.drop f)=[(s.take s.length).drop f]:=by rw[tW]at hn⊢;exact Ew c _ hn
theorem G7{c:UInt8}{s:aU}{f i:Nat}(hf:f<=i)(hi:i<s.length)(hc:s[i]≠c)(hn:∀x∈(s.take i).drop f,x≠c):∀x∈(s.take (i+1)).drop f,x≠c:=by
 rw[eL hi,drop_append_of_le_length (by simp;omega)];intro x hx;rcases fS.1 hx with h|h
 .exact hn x h
 .rw [nF.1 h];exact hc
theorem vI[aB prog](s:aU)(c:UInt8)(hl:s.length<=1099511627776):Ok prog 93 [.str s,.int .u8 c.toNat] (.sl .own 1 ((dP c s).map dQ)):=by
 refine dL aO func93 ntmps93 ?_;refine oU ?_;refine aI (ι:={q:Nat×Nat×List aU×Nat // q.1<=s.length+1/\q.2.1<=q.1/\q.2.2.1.length<=q.1/\1<=q.2.2.2/\(q.1<=s.length->dP c s=q.2.2.1++dP c (s.drop q.2.1)/\∀x∈(s.take q.1).drop q.2.1,x≠c)/\(q.1=s.length+1->q.2.2.1=dP c s)})
  (λt o i=>⟨bH t [(7,.int .i64 i.1.1),(6,.int .i64 i.1.2.1),(5,.obj 0 i.1.2.2.2)],[⟨true,false,1,i.1.2.2.2,i.1.2.2.1.map dQ⟩]⟩)
  (λi=>s.length+1-i.1.1) ⟨(0,0,[],1),by simp,by simp,by simp,by simp,by simp,by simp⟩ aG ?_
 rintro⟨⟨k,f,out,v⟩,hk,hf,ho,hv,hin,BX⟩ K1 hK1;simp only at hk hf ho hv hin BX;simp only[bH,cH,cJ]at hK1⊢;have hk1:=rE (k:=k);by_cases h1:k=s.length+1
 .have e:=BX h1;subst e;subst h1;have W:=hk1;refine wl ?_;exact aR results93
 .have hle:k<=s.length:=by omega
  obtain⟨g1,g2⟩:=hin hle;by_cases h2:k=s.length
  .subst h2;have e:=G6 g2;rw[e,tW]at g1;have W:=hk1;refine wl ?_;exact hK1 _ ⟨(s.length+1,s.length+1,out++[s.drop f],v+1),by simp only;omega,by simp only;omega,by simp;omega,by simp only;omega,λh=>by simp only at h;omega,λ_=>g1.symm⟩ (aL 1) (by simp only;omega)
  .have hlt:k<s.length:=by omega
   have hg:=aE hlt;have W:=aA hk1 (aA hg hlt);repeat' first|refine wg ?_|(refine sq ?_ ?_<;>intro hc<;>try exact hc.elim)|fail
   .have bg:s[k]=c:=FA.1 (by omega);rw[G5 hf hlt bg g2]at g1;exact hK1 _ ⟨(k+1,k+1,out++[(s.take k).drop f],v+1),by simp only;omega,by simp only;omega,by simp;omega,by simp only;omega,λ_=>⟨by rw[g1];simp,by simp⟩,λh=>by simp only at h;omega⟩ (aL 1) (by simp only;omega)
   .have bg:s[k]≠c:=λh=>hc (by rw[h])
    exact hK1 _ ⟨(k+1,f,out,v),by simp only;omega,by simp only;omega,by simp only;omega,by simp only;omega,λ_=>⟨g1,G7 hf hlt bg g2⟩,λh=>by simp only at h;omega⟩ (aL 1) (by simp only;omega)
theorem aLp[aB prog](a b:Int):Ok prog 233 [.int .i64 a,.int .i64 b] (.int .i64 (min a b)):=by
 by_cases h:b<a
 .have hr:min a b=b:=by omega
  rw[hr];refine dL aO func233 ntmps233 ?_;have W:=h;refine we ?_;exact aR results233
 .have hr:min a b=a:=by omega
  rw[hr];refine dL aO func233 ntmps233 ?_;have W:=h;refine we ?_;exact aR results233
theorem Ir[aB prog](s:aU)(c:UInt8)(hl:s.length<=1099511627776):Ok prog 185 [.str s,.int .u8 c.toNat] (.int .i64 (kC c s:Nat)):=by
 refine dL aO func185 ntmps185 ?_;refine dH ?_;refine aI (ι:={k:Nat // k<=s.length/\∀x∈s.take k,x≠c}) (λt o i=>⟨bH t [(5,.int .i64 i.1)],o⟩)
  (λi=>s.length-i.1) ⟨0,by simp,by simp⟩ aG ?_
 rintro⟨k,hk,hi⟩ K1 hK1;simp only[bH,cH,cJ]at hK1⊢;have hk1:=rE (k:=k);by_cases hlt:k<s.length
 .have hg:=aE hlt;have W:=aA hk1 (aA hg hlt);repeat' first|refine wf ?_|(refine sq ?_ ?_<;>intro hc<;>try exact hc.elim)|fail
  .have e:=aCa hlt (FA.1 (by omega)) hi;rw[e];all_goals (try exact aR results185)
  .exact hK1 _ ⟨k+1,by omega,gB hlt hi (λh=>hc (by rw[h]))⟩ aG (by simp only;omega)
 .have e:=Xy (qM (by omega) hi);rw[e];have W:=hk1;refine we ?_;exact aR results185
def Rx(p s:aU):Bool:=decide (p.length<=s.length)&&(s.take p.length == p)
theorem ja{p s:aU}(h:Rx p s=true):p.length<=s.length:=by simp only[Rx,eI,fX]at h;exact h.1
def mU:aU:=[115,99,114,105,112,116]
def Uw:aU:=[108,105,110,107]
def Yn:aU:=[105,109,103]
def Ux:aU:=[107,105,110,100]
def Ke:aU:=[109,111,100,117,108,101]
def uN:aU:=[115,114,99]
def GY:aU:=[104,114,101,102]
def gI:aU:=[100,105,103,101,115,116]
def LH:gG:=⟨0,Aj,[],[]⟩
def VG(k:Int)(v d b:aU):gG×Bool:=if (cB v b).2=true then(⟨k,(cB v b).1,b,d⟩,true)else(LH,false)
def Uy(t:bU)(b:aU):gG×Bool:=
 if t.kind=1 then
  if t.name=mU then
   if (bD t.attrs Ux).1=Ke then VG 5 (bD t.attrs uN).1 [] b else VG 2 (bD t.attrs uN).1 (bD t.attrs gI).1 b
  else if t.name=Uw then VG 3 (bD t.attrs GY).1 (bD t.attrs gI).1 b
  else if t.name=Yn then VG 4 (bD t.attrs uN).1 (bD t.attrs gI).1 b
  else(LH,false)
 else(LH,false)
theorem tK(l:List nY)(n:aU):(bD l n).1.length<=bB pK l:=by
 unfold bD;split
 .rename_i a h;have:=pZ h;have:=dS pK this;simp only[pK]at this⊢;omega
 .simp
end Go.Proofs.YtnkpkklemmgapaaGreatDoor
