/- Proved here: steps towards the statement of this claim. No condition. -/
import Derived.Test.YtjmpjmilndkgfaaGreatDoorZQR3
import Derived.Test.YtjmpjmilndkgfaaGreatDoorZQU4
set_option linter.all false
set_option maxRecDepth 4000
set_option maxHeartbeats 4000000
namespace Go.Proofs.YtjmpjmilndkgfaaGreatDoor
open Go.Aw Proofs.Tryz List IntKind
theorem L9 {c:UInt8} {s:bF} {f i:Nat} (hf:f<=i) (hi:i < s.length) (hc:s[i]=c) (hn:∀x∈(s.take i).drop f,x≠c):dF c (s.drop f)=(s.take i).drop f::dF c (s.drop (i+1)):=by
 have e:s.drop f=(s.take i).drop f++c::s.drop (i+1):=by
  have h1:s=s.take i++s[i]::s.drop (i+1):=by simp
  conv=>lhs;rw [h1]
  rw [drop_append_of_le_length (by simp;omega),hc]
 rw [e,CX c _ _ hn]
theorem M0 {c:UInt8} {s:bF} {f:Nat} (hn:∀x∈(s.take s.length).drop f,x≠c):dF c (s.drop f)=[(s.take s.length).drop f]:=by rw [rN] at hn⊢;exact Be c _ hn
theorem M3 {c:UInt8} {s:bF} {f i:Nat} (hf:f<=i) (hi:i < s.length) (hc:s[i]≠c) (hn:∀x∈(s.take i).drop f,x≠c):∀x∈(s.take (i+1)).drop f,x≠c:=by
 rw [eA hi,drop_append_of_le_length (by simp;omega)];intro x hx;rcases fL.1 hx with h|h
 .exact hn x h
 .rw [sA.1 h];exact hc
theorem vV [aC prog] (s:bF) (c:UInt8) (hl:s.length<=1099511627776):Ok prog 209 [.str s,.int .u8 c.toNat] (.sl .own 1 ((dF c s).map bW)):=by
 refine bR aD func209 ntmps209 ?_;refine gJ ?_;refine aL (ι:={q:Nat×Nat×List bF×Nat // q.1<=s.length+1/\q.2.1<=q.1/\q.2.2.1.length<=q.1/\1<=q.2.2.2/\(q.1<=s.length->dF c s=q.2.2.1++dF c (s.drop q.2.1)/\∀x∈(s.take q.1).drop q.2.1,x≠c)/\(q.1=s.length+1->q.2.2.1=dF c s)})
  (λt o i=>⟨bD t [(7,.int .i64 i.1.1),(6,.int .i64 i.1.2.1),(5,.obj 0 i.1.2.2.2)],[⟨true,false,1,i.1.2.2.2,i.1.2.2.1.map bW⟩]⟩)
  (λi=>s.length+1 - i.1.1) ⟨(0,0,[],1),by simp,by simp,by simp,by simp,by simp,by simp⟩ aH ?_
 rintro ⟨⟨k,f,out,v⟩,hk,hf,ho,hv,hin,Hq⟩ K1 hK1;simp only at hk hf ho hv hin Hq;simp only [bD,cW,cU] at hK1⊢;have hk1:=oW (k:=k);by_cases h1:k=s.length+1
 .have e:=Hq h1;subst e;subst h1;have W:=hk1;refine wl ?_;exact aK results209
 .have hle:k<=s.length:=by omega
  obtain ⟨g1,g2⟩:=hin hle;by_cases h2:k=s.length
  .subst h2;have e:=M0 g2;rw [e,rN] at g1;have W:=hk1;refine wl ?_;exact hK1 _ ⟨(s.length+1,s.length+1,out++[s.drop f],v+1),by simp only;omega,by simp only;omega,by simp;omega,by simp only;omega,λh=>by simp only at h;omega,λ_=>g1.symm⟩ (aW 1) (by simp only;omega)
  .have hlt:k < s.length:=by omega
   have hg:=aE hlt;have W:=aA hk1 (aA hg hlt);repeat' first|refine wg ?_|(refine sq ?_ ?_<;>intro hc<;>try exact hc.elim)|fail
   .have Ti:s[k]=c:=Cd.1 (by omega);rw [L9 hf hlt Ti g2] at g1;exact hK1 _ ⟨(k+1,k+1,out++[(s.take k).drop f],v+1),by simp only;omega,by simp only;omega,by simp;omega,by simp only;omega,λ_=>⟨by rw [g1];simp,by simp⟩,λh=>by simp only at h;omega⟩ (aW 1) (by simp only;omega)
   .have Ti:s[k]≠c:=λh=>hc (by rw [h])
    exact hK1 _ ⟨(k+1,f,out,v),by simp only;omega,by simp only;omega,by simp only;omega,by simp only;omega,λ_=>⟨g1,M3 hf hlt Ti g2⟩,λh=>by simp only at h;omega⟩ (aW 1) (by simp only;omega)
end Go.Proofs.YtjmpjmilndkgfaaGreatDoor
