/- Steps. No condition. -/
import Derived.Test.YtanobkmhbpjnpaaGreatDoorZQMK6
set_option linter.all false
set_option maxRecDepth 4000
set_option maxHeartbeats 4000000
namespace Go.Proofs.YtanobkmhbpjnpaaGreatDoor
open Go.Aw Proofs.Tryz List IntKind
def CY{b:bC}{t:bM}(h:t.kind=2):cZ b t=({b with bD:=oZ b t.name (b.bD.length-1)}, -1):=by unfold cZ;rw[eM h]
def Im{b:bC}{t:bM}(h:¬t.kind=2)(h1:¬t.kind=1)(h3:t.kind=3->t.text=[]):cZ b t=(b, -1):=by
 unfold cZ;rw[eC h,eM];rintro(h|⟨h,h'⟩)
 .exact h1 h
 .exact h' (h3 h)
def JW{b:bC}{t:bM}(h:¬t.kind=2)(hf:40<=b.aJ.length\/b.bD=[]\/(mU t=true/\8<=b.bD.length)):cZ b t=(b, -1):=by unfold cZ;rw[eC h];split<;>first|rfl|(rw[eM hf])
def MN{b:bC}{t:bM}(h:¬t.kind=2)(hk:t.kind=1\/(t.kind=3/\t.text≠[]))(hf:¬(40<=b.aJ.length\/b.bD=[]\/(mU t=true/\8<=b.bD.length))):
  cZ b t=({aJ:=b.aJ++[nY b t],bD:=if mU t=true then b.bD++[((b.aJ.length:Nat):Int)]else b.bD},((b.aJ.length:Nat):Int)):=by
 unfold cZ;rw[eC h,eC (λhn=>hn hk),eC hf]
def Qf{b:bC}{m:bE}{k:Nat}{n:Int}(hg:b.bD[k+1]? =some n)(h:xB b m n=true):oZ b m (k+1)=b.bD.take (k+1):=by unfold oZ;rw[hg];simp[h]
def MO{b:bC}{m:bE}{k:Nat}{n:Int}(hg:b.bD[k+1]? =some n)(h:xB b m n=false):oZ b m (k+1)=oZ b m k:=by
 conv=>lhs;unfold oZ
 rw[hg];simp[h]
def KW[aG prog](b:bC)(t:bM)(hs:aV b<=274877906944)(hk:t.kind=2):Ok prog 108 [.agg (aZ .view b),.agg (dK .view t)] (.iL [.agg (aZ .own (cZ b t).1),.int .i64 (cZ b t).2]):=by
 have c1:=nE b hs;have hn:b.aJ.length<=274877906944/\b.bD.length<=274877906944:=by simp only[aV,dS]at hs;omega
 have RF:i64.wrap ((b.bD.length:Int)-1)=(b.bD.length:Int)-1:=by rw[wrap64]<;>omega
 rw[CY hk];obtain⟨tk,tn,ta,tx⟩:=t;simp only at hk;subst hk;simp only[aZ]at c1;refine dN aK func108 ntmps108 ?_;have W:=RF;refine we ?_;refine aT (ι:={q:Int // -1<=q/\q<(b.bD.length:Int)/\oZ b tn q.toNat=oZ b tn (b.bD.length-1)}) (λt o i=>⟨bP t [(7,.int .i64 i.1),(8,.aB)],o⟩) (λi=>i.1.toNat) ⟨(b.bD.length:Int)-1,by omega,by omega,by congr 1;omega⟩ aP ?_;rintro⟨q,hq1,hq2,Xn⟩ K1 hK1;simp only[bP,cH,cQ]at hK1⊢;by_cases h1:(1:Int)<=q
 .obtain ⟨k,rfl⟩:∃k:Nat,q=((k+1:Nat):Int):=⟨(q-1).toNat,by omega⟩;have hlt:k+1<b.bD.length:=by omega
  have hg:=aE hlt;have ZJ:i64.wrap (((k+1:Nat):Int)-1)=((k:Nat):Int):=by rw[wrap64]<;>omega
  rw[show(((k+1:Nat):Int)).toNat=k+1 from by omega]at Xn;generalize hnn:b.bD[k+1]=n at*;cases hh:xB b tn n
  .rw [MO hg hh]at Xn;by_cases h0:0<=n
   .obtain ⟨m,rfl⟩:=hY h0;by_cases hm:m<b.aJ.length
    .rw [RN hm]at hh;have hgm:=aE hm;have jE:(b.aJ[m].name == tn)=false:=by simpa using hh
     have W:=aA hg (aA ZJ (aA hgm (aA hm (aA jE (aA h1 hn)))));have V:=hlt;refine we ?_;all_goals exact hK1 _ ⟨((k:Nat):Int),by omega,by omega,by simpa using Xn⟩ aP (by first|omega|(simp only;omega)|(simp;omega))
    .have hmi:¬((m:Nat):Int)<((b.aJ.length:Nat):Int):=by omega
     have W:=aA hg (aA ZJ (aA hmi (aA h1 hn)));have V:=hlt;refine we ?_;all_goals exact hK1 _ ⟨((k:Nat):Int),by omega,by omega,by simpa using Xn⟩ aP (by first|omega|(simp only;omega)|(simp;omega))
   .have W:=aA hg (aA ZJ (aA h0 (aA h1 hn)));have V:=hlt;refine we ?_;all_goals exact hK1 _ ⟨((k:Nat):Int),by omega,by omega,by simpa using Xn⟩ aP (by first|omega|(simp only;omega)|(simp;omega))
  .rw [Qf hg hh]at Xn;have h01:0<=n/\n<(b.aJ.length:Int):=An λh=>by rw[nk h]at hh;cases hh
   obtain⟨m,rfl⟩:=hY h01.1;have hm:m<b.aJ.length:=by omega
   rw[RN hm]at hh;have hgm:=aE hm;have jE:(b.aJ[m].name == tn)=true:=by simpa using hh
   rw[<-Xn];have W:=aA hg (aA ZJ (aA hgm (aA hm (aA jE (aA h1 hn)))));have V:=hlt;refine we ?_;all_goals try(refine bA ?_;simp[bB,results108,map_take])
   all_goals (rw[<-map_take];exact Td _)
 .have hq4:oZ b tn (b.bD.length-1)=b.bD:=by rw[<-Xn,show q.toNat=0 by omega];rfl
  rw[hq4];have W:=h1;refine we ?_;all_goals try(refine bA ?_;simp[bB,results108,map_take])
end Go.Proofs.YtanobkmhbpjnpaaGreatDoor
