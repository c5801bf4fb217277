/- Proved here: steps towards the statement of this claim. No condition. -/
import Derived.Test.YthddijamfbfibaaGreatDoorZQFI
set_option linter.all false
set_option maxRecDepth 4000
set_option maxHeartbeats 4000000
namespace Go.Proofs.YthddijamfbfibaaGreatDoor
open Go.Aw Proofs.Tryz List IntKind
theorem Cq{b:bE}{t:bT}(h:t.kind=2):addToken b t=({b with opens:=qM b t.name (b.opens.length-1)}, -1):=by unfold addToken;rw[eK h]
theorem Hr{b:bE}{t:bT}(h:¬t.kind=2)(h1:¬t.kind=1)(h3:t.kind=3->t.text=[]):addToken b t=(b, -1):=by
 unfold addToken;rw[cY h,eK];rintro(h|⟨h,h'⟩)
 .exact h1 h
 .exact h' (h3 h)
theorem Jw{b:bE}{t:bT}(h:¬t.kind=2)(hf:40<=b.nodes.length\/b.opens=[]\/(nJ t=true/\8<=b.opens.length)):addToken b t=(b, -1):=by unfold addToken;rw[cY h];split<;>first|rfl|(rw[eK hf])
theorem Ml{b:bE}{t:bT}(h:¬t.kind=2)(hk:t.kind=1\/(t.kind=3/\t.text≠[]))(hf:¬(40<=b.nodes.length\/b.opens=[]\/(nJ t=true/\8<=b.opens.length))):
  addToken b t=({nodes:=b.nodes++[uE b t],opens:=if nJ t=true then b.opens++[((b.nodes.length:Nat):Int)]else b.opens},((b.nodes.length:Nat):Int)):=by
 unfold addToken;rw[cY h,cY (λhn=>hn hk),cY hf]
theorem PO{b:bE}{m:bB}{k:Nat}{n:Int}(hg:b.opens[k+1]? =some n)(h:yU b m n=true):qM b m (k+1)=b.opens.take (k+1):=by unfold qM;rw[hg];simp[h]
theorem Mm{b:bE}{m:bB}{k:Nat}{n:Int}(hg:b.opens[k+1]? =some n)(h:yU b m n=false):qM b m (k+1)=qM b m k:=by
 conv=>lhs;unfold qM
 rw[hg];simp[h]
theorem KC[aB prog](b:bE)(t:bT)(hs:aU b<=274877906944)(hk:t.kind=2):Ok prog 212 [.agg (aV .view b),.agg (cB .view t)] (.gM [.agg (aV .own (addToken b t).1),.int .i64 (addToken b t).2]):=by
 have c1:=kX b hs;have hn:b.nodes.length<=274877906944/\b.opens.length<=274877906944:=by simp only[aU,bP]at hs;omega
 have Ta:i64.wrap ((b.opens.length:Int)-1)=(b.opens.length:Int)-1:=by rw[wrap64]<;>omega
 rw[Cq hk];obtain⟨tk,tn,ta,tx⟩:=t;simp only at hk;subst hk;simp only[aV]at c1;refine bM aG func212 ntmps212 ?_;have W:=Ta;refine we ?_;refine aM (ι:={q:Int // -1<=q/\q<(b.opens.length:Int)/\qM b tn q.toNat=qM b tn (b.opens.length-1)}) (λt o i=>⟨bC t [(7,.int .i64 i.1),(8,.undef)],o⟩) (λi=>i.1.toNat) ⟨(b.opens.length:Int)-1,by omega,by omega,by congr 1;omega⟩ aK ?_;rintro⟨q,hq1,hq2,TI⟩ K1 hK1;simp only[bC,cW,cU]at hK1⊢;by_cases h1:(1:Int)<=q
 .obtain ⟨k,rfl⟩:∃k:Nat,q=((k+1:Nat):Int):=⟨(q-1).toNat,by omega⟩;have hlt:k+1<b.opens.length:=by omega
  have hg:=aE hlt;have V3:i64.wrap (((k+1:Nat):Int)-1)=((k:Nat):Int):=by rw[wrap64]<;>omega
  rw[show(((k+1:Nat):Int)).toNat=k+1 from by omega]at TI;generalize RO:b.opens[k+1]=n at*;cases hh:yU b tn n
  .rw [Mm hg hh]at TI;by_cases h0:0<=n
   .obtain ⟨m,rfl⟩:=mS h0;by_cases hm:m<b.nodes.length
    .rw [Rm hm]at hh;have hgm:=aE hm;have hne:(b.nodes[m].name == tn)=false:=by simpa using hh
     have W:=aA hg (aA V3 (aA hgm (aA hm (aA hne (aA h1 hn)))));have V:=hlt;refine we ?_;all_goals exact hK1 _ ⟨((k:Nat):Int),by omega,by omega,by simpa using TI⟩ aK (by first|omega|(simp only;omega)|(simp;omega))
    .have hmi:¬((m:Nat):Int)<((b.nodes.length:Nat):Int):=by omega
     have W:=aA hg (aA V3 (aA hmi (aA h1 hn)));have V:=hlt;refine we ?_;all_goals exact hK1 _ ⟨((k:Nat):Int),by omega,by omega,by simpa using TI⟩ aK (by first|omega|(simp only;omega)|(simp;omega))
   .have W:=aA hg (aA V3 (aA h0 (aA h1 hn)));have V:=hlt;refine we ?_;all_goals exact hK1 _ ⟨((k:Nat):Int),by omega,by omega,by simpa using TI⟩ aK (by first|omega|(simp only;omega)|(simp;omega))
  .rw [PO hg hh]at TI;have h01:0<=n/\n<(b.nodes.length:Int):=sX λh=>by rw[qd h]at hh;cases hh
   obtain⟨m,rfl⟩:=mS h01.1;have hm:m<b.nodes.length:=by omega
   rw[Rm hm]at hh;have hgm:=aE hm;have hne:(b.nodes[m].name == tn)=true:=by simpa using hh
   rw[<-TI];have W:=aA hg (aA V3 (aA hgm (aA hm (aA hne (aA h1 hn)))));have V:=hlt;refine we ?_;all_goals try(refine aR ?_;simp[aP,results212,map_take])
   all_goals (rw[<-map_take];exact Sz _)
 .have hq4:qM b tn (b.opens.length-1)=b.opens:=by rw[<-TI,show q.toNat=0 by omega];rfl
  rw[hq4];have W:=h1;refine we ?_;all_goals try(refine aR ?_;simp[aP,results212,map_take])
end Go.Proofs.YthddijamfbfibaaGreatDoor
