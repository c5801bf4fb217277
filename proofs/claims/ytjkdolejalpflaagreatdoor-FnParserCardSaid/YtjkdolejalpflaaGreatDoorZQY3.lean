/- Proved here: steps towards the statement of this claim. No condition. -/
import Derived.Test.YtjkdolejalpflaaGreatDoorZQY2
set_option linter.all false
set_option maxRecDepth 4000
set_option maxHeartbeats 4000000
namespace Go.Proofs.YtjkdolejalpflaaGreatDoor
open Go.Aw Proofs.Tryz List IntKind
theorem kV[aB prog](a:aW)(hs:aK a<=274877906944):Ok prog 16 [.agg (aL .view a)] (.agg (aL .own a)):=by simp only[aK]at hs;have c1:=Nv a.bC (by omega);have c2:=Nt a.queue (by omega);have c3:=iP a.builder (by omega);simp only[dL]at hs;simp only[bG]at c1;simp only[aH]at c3;refine dA aJ func16 ntmps16 ?_;refine bI ?_;exact aO results16
theorem gZ[aB prog](a:aW)(hs:aK a<=274877906944):Ok prog 19 [.agg (aL .view a)] (.agg (aL .own a)):=by simp only[aK]at hs;have c1:=Nw a.bC (by omega);have c2:=Nu a.queue (by omega);have c3:=iQ a.builder (by omega);simp only[dL]at hs;simp only[bG]at c1;simp only[aH]at c3;refine dA aJ func19 ntmps19 ?_;refine bI ?_;exact aO results19
def fT:aX:=[115,99,114,105,112,116]
def DR:aX:=[108,105,110,107]
def Ht:aX:=[105,109,103]
def FZ:aX:=[107,105,110,100]
def yL:aX:=[109,111,100,117,108,101]
def lL:aX:=[115,114,99]
def wE:aX:=[104,114,101,102]
def bX:aX:=[100,105,103,101,115,116]
def Hu:fK:=⟨0,uM,[],[]⟩
def Qx(k:Int)(v d b:aX):fK×Bool:=if (bQ v b).2=true then(⟨k,(bQ v b).1,b,d⟩,true)else(Hu,false)
def Pg(t:bD)(b:aX):fK×Bool:=
 if t.kind=1 then
  if t.name=fT then
   if (aI t.attrs FZ).1=yL then Qx 5 (aI t.attrs lL).1 [] b else Qx 2 (aI t.attrs lL).1 (aI t.attrs bX).1 b
  else if t.name=DR then Qx 3 (aI t.attrs wE).1 (aI t.attrs bX).1 b
  else if t.name=Ht then Qx 4 (aI t.attrs lL).1 (aI t.attrs bX).1 b
  else(Hu,false)
 else(Hu,false)
theorem jQ(l:List lD)(n:aX):(aI l n).1.length<=bM mF l:=by
 unfold aI;split
 .rename_i a h;have:=AN h;have:=eY mF this;simp only[mF]at this⊢;omega
 .simp
theorem xK{b:aV}{t:bD}(h:t.kind=2):addToken b t=({b with opens:=mQ b t.name (b.opens.length-1)}, -1):=by unfold addToken;rw[eA h]
theorem Cq{b:aV}{t:bD}(h:¬t.kind=2)(h1:¬t.kind=1)(h3:t.kind=3->t.text=[]):addToken b t=(b, -1):=by
 unfold addToken;rw[cU h,eA];rintro(h|⟨h,h'⟩)
 .exact h1 h
 .exact h' (h3 h)
theorem DV{b:aV}{t:bD}(h:¬t.kind=2)(hf:40<=b.nodes.length\/b.opens=[]\/(jW t=true/\8<=b.opens.length)):addToken b t=(b, -1):=by unfold addToken;rw[cU h];split<;>first|rfl|(rw[eA hf])
theorem Gd{b:aV}{t:bD}(h:¬t.kind=2)(hk:t.kind=1\/(t.kind=3/\t.text≠[]))(hf:¬(40<=b.nodes.length\/b.opens=[]\/(jW t=true/\8<=b.opens.length))):
  addToken b t=({nodes:=b.nodes++[oU b t],opens:=if jW t=true then b.opens++[((b.nodes.length:Nat):Int)]else b.opens},((b.nodes.length:Nat):Int)):=by
 unfold addToken;rw[cU h,cU (λhn=>hn hk),cU hf]
theorem Jh{b:aV}{m:aX}{k:Nat}{n:Int}(hg:b.opens[k+1]? =some n)(h:tZ b m n=true):mQ b m (k+1)=b.opens.take (k+1):=by unfold mQ;rw[hg];simp[h]
theorem Gf{b:aV}{m:aX}{k:Nat}{n:Int}(hg:b.opens[k+1]? =some n)(h:tZ b m n=false):mQ b m (k+1)=mQ b m k:=by
 conv=>lhs;unfold mQ
 rw[hg];simp[h]
theorem EP[aB prog](b:aV)(t:bD)(hs:aF b<=274877906944)(hk:t.kind=2):Ok prog 31 [.agg (aH .view b),.agg (bE .view t)] (.fH [.agg (aH .own (addToken b t).1),.int .i64 (addToken b t).2]):=by
 have c1:=iP b hs;have hn:b.nodes.length<=274877906944/\b.opens.length<=274877906944:=by simp only[aF,dL]at hs;omega
 have BZ:i64.wrap ((b.opens.length:Int)-1)=(b.opens.length:Int)-1:=by rw[wrap64]<;>omega
 rw[xK hk];obtain⟨tk,tn,ta,tx⟩:=t;simp only at hk;subst hk;simp only[aH]at c1;refine dA aJ func31 ntmps31 ?_;have W:=BZ;refine we ?_;refine aY (ι:={q:Int // -1<=q/\q<(b.opens.length:Int)/\mQ b tn q.toNat=mQ b tn (b.opens.length-1)}) (λt o i=>⟨bN t [(7,.int .i64 i.1),(8,.undef)],o⟩) (λi=>i.1.toNat) ⟨(b.opens.length:Int)-1,by omega,by omega,by congr 1;omega⟩ aC ?_;rintro⟨q,hq1,hq2,OU⟩ K1 hK1;simp only[bN,cH,cG]at hK1⊢;by_cases h1:(1:Int)<=q
 .obtain ⟨k,rfl⟩:∃k:Nat,q=((k+1:Nat):Int):=⟨(q-1).toNat,by omega⟩;have hlt:k+1<b.opens.length:=by omega
  have hg:=aE hlt;have UB:i64.wrap (((k+1:Nat):Int)-1)=((k:Nat):Int):=by rw[wrap64]<;>omega
  rw[show(((k+1:Nat):Int)).toNat=k+1 from by omega]at OU;generalize hnn:b.opens[k+1]=n at*;cases hh:tZ b tn n
  .rw [Gf hg hh]at OU;by_cases h0:0<=n
   .obtain ⟨m,rfl⟩:=fX h0;by_cases hm:m<b.nodes.length
    .rw [Kj hm]at hh;have VE:=aE hm;have hne:(b.nodes[m].name == tn)=false:=by simpa using hh
     have W:=aA hg (aA UB (aA VE (aA hm (aA hne (aA h1 hn)))));have V:=hlt;refine we ?_;all_goals exact hK1 _ ⟨((k:Nat):Int),by omega,by omega,by simpa using OU⟩ aC (by first|omega|(simp only;omega)|(simp;omega))
    .have hmi:¬((m:Nat):Int)<((b.nodes.length:Nat):Int):=by omega
     have W:=aA hg (aA UB (aA hmi (aA h1 hn)));have V:=hlt;refine we ?_;all_goals exact hK1 _ ⟨((k:Nat):Int),by omega,by omega,by simpa using OU⟩ aC (by first|omega|(simp only;omega)|(simp;omega))
   .have W:=aA hg (aA UB (aA h0 (aA h1 hn)));have V:=hlt;refine we ?_;all_goals exact hK1 _ ⟨((k:Nat):Int),by omega,by omega,by simpa using OU⟩ aC (by first|omega|(simp only;omega)|(simp;omega))
  .rw [Jh hg hh]at OU;have h01:0<=n/\n<(b.nodes.length:Int):=sA λh=>by rw[TN h]at hh;cases hh
   obtain⟨m,rfl⟩:=fX h01.1;have hm:m<b.nodes.length:=by omega
   rw[Kj hm]at hh;have VE:=aE hm;have hne:(b.nodes[m].name == tn)=true:=by simpa using hh
   rw[<-OU];have W:=aA hg (aA UB (aA VE (aA hm (aA hne (aA h1 hn)))));have V:=hlt;refine we ?_;all_goals try(refine aP ?_;simp[aT,results31,map_take])
   all_goals (rw[<-map_take];exact Le _)
 .have hq4:mQ b tn (b.opens.length-1)=b.opens:=by rw[<-OU,show q.toNat=0 by omega];rfl
  rw[hq4];have W:=h1;refine we ?_;all_goals try(refine aP ?_;simp[aT,results31,map_take])
theorem QB[aB prog](b:aV)(m:aX)(hs:aF b<=274877906944):UD prog 81 [.oN (.agg (aH .own b)),.view (.str m)] (.agg (aH .own {b with opens:=mQ b m (b.opens.length-1)})):=by
 have hn:b.nodes.length<=274877906944/\b.opens.length<=274877906944:=by simp only[aF,dL]at hs;omega
 have BZ:i64.wrap ((b.opens.length:Int)-1)=(b.opens.length:Int)-1:=by rw[wrap64]<;>omega
 have hw1:i64.wrap ((b.nodes.length:Int)-1)=(b.nodes.length:Int)-1:=by rw[wrap64]<;>omega
 have cI:=λn lo hi=>eX n lo hi
 refine rZ aJ func81 ntmps81 ?_;have W:=BZ;refine we ?_;refine aY (ι:={q:Int // -1<=q/\q<(b.opens.length:Int)/\mQ b m q.toNat=mQ b m (b.opens.length-1)}) (λt o i=>⟨bN t [(5,.int .i64 i.1),(6,.undef)],o⟩) (λi=>i.1.toNat) ⟨(b.opens.length:Int)-1,by omega,by omega,by congr 1;omega⟩ aC ?_;rintro⟨q,hq1,hq2,OU⟩ K1 hK1;simp only[bN,cH,cG]at hK1⊢;by_cases h1:(0:Int)<q
 .obtain ⟨k,rfl⟩:∃k:Nat,q=((k+1:Nat):Int):=⟨(q-1).toNat,by omega⟩;have hlt:k+1<b.opens.length:=by omega
  have hg:=aE hlt;have UB:i64.wrap (((k+1:Nat):Int)-1)=((k:Nat):Int):=by rw[wrap64]<;>omega
  rw[show(((k+1:Nat):Int)).toNat=k+1 from by omega]at OU;generalize hnn:b.opens[k+1]=n at*;cases hh:tZ b m n
  .rw [Gf hg hh]at OU;by_cases h01:0<=n/\n<(b.nodes.length:Int)
   .obtain ⟨z,rfl⟩:=fX h01.1;have hm:z<b.nodes.length:=by omega
    rw[Kj hm]at hh;have VE:=aE hm;have hne:(b.nodes[z].name == m)=false:=by simpa using hh
    have c1:=cI ((z:Nat):Int) 0 ((b.nodes.length:Int)-1);rw[show(decide ((0:Int)<=((z:Nat):Int))&&decide (((z:Nat):Int)<=(b.nodes.length:Int)-1))=true from by simp;omega]at c1;have W:=aA hg (aA UB (aA hw1 (aA VE (aA hm (aA hne (aA h1 hn))))));have V:=hlt;refine we ?_;all_goals exact hK1 _ ⟨((k:Nat):Int),by omega,by omega,by simpa using OU⟩ aC (by first|omega|(simp only;omega)|(simp;omega))
   .have c1:=cI n 0 ((b.nodes.length:Int)-1);rw[show(decide ((0:Int)<=n)&&decide (n<=(b.nodes.length:Int)-1))=false from by simp;omega]at c1;have W:=aA hg (aA UB (aA hw1 (aA h1 hn)));have V:=hlt;refine we ?_;all_goals exact hK1 _ ⟨((k:Nat):Int),by omega,by omega,by simpa using OU⟩ aC (by first|omega|(simp only;omega)|(simp;omega))
  .rw [Jh hg hh]at OU;have h01:0<=n/\n<(b.nodes.length:Int):=sA λh=>by rw[TN h]at hh;cases hh
   obtain⟨z,rfl⟩:=fX h01.1;have hm:z<b.nodes.length:=by omega
   rw[Kj hm]at hh;have VE:=aE hm;have hne:(b.nodes[z].name == m)=true:=by simpa using hh
   have c1:=cI ((z:Nat):Int) 0 ((b.nodes.length:Int)-1);rw[show(decide ((0:Int)<=((z:Nat):Int))&&decide (((z:Nat):Int)<=(b.nodes.length:Int)-1))=true from by simp;omega]at c1;rw[<-OU];have W:=aA hg (aA UB (aA hw1 (aA VE (aA hm (aA hne (aA h1 hn))))));have V:=hlt;refine we ?_;all_goals try(refine⟨by first|exact .inr rfl|exact .inl rfl,?_⟩;simp[gY,dU,dQ,rowOf,results81,map_take])
   all_goals (rw[<-map_take];exact Le _)
 .have hq4:mQ b m (b.opens.length-1)=b.opens:=by rw[<-OU,show q.toNat=0 by omega];rfl
  rw[hq4];have W:=h1;refine we ?_;all_goals (try exact mJ (by simp[gY,dU,dQ,rowOf,results81];done))
end Go.Proofs.YtjkdolejalpflaaGreatDoor
