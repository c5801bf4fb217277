/- Proved here: steps towards the statement of this claim. No condition. -/
import Derived.Test.YthddijamfbfibaaGreatDoorZQT3
import Derived.Test.YthddijamfbfibaaGreatDoorZQU7
set_option linter.all false
set_option maxRecDepth 4000
set_option maxHeartbeats 4000000
namespace Go.Proofs.YthddijamfbfibaaGreatDoor
open Go.Aw Proofs.Tryz List IntKind
theorem aAk{α:Type}{f:α->Bool}{l:List α}(hn:∀x∈l,f x=false):l.find? f=none:=DP.2 λx hx=>by simp[hn x hx]
theorem jw{α:Type}{f:α->Bool}:∀l:List α,¬(∀x∈l,f x=false)->∃k,∃hk:k<l.length,f l[k]=true/\∀x∈l.take k,f x=false
 |[],h=>absurd (λx hx=>by cases hx) h
 |x::l,h=>by
  cases hx:f x with
  |true=>exact⟨0,by simp,by simpa using hx,by simp⟩
  |false=>
   obtain⟨k,hk,h1,h2⟩:=jw l (λhl=>h (λy hy=>by
    rcases gS.1 hy with rfl|hy
    .exact hx
    .exact hl y hy))
   refine⟨k+1,by simpa using hk,by simpa using h1,λy hy=> ?_⟩;simp only[eL,gS]at hy;rcases hy with rfl|hy
   .exact hx
   .exact h2 y hy
theorem aAl{α:Type}{f:α->Bool}{l:List α}{k:Nat}(h:k<l.length)(hf:f l[k]=true)(hn:∀x∈l.take k,f x=false):l.find? f=some l[k]:=by
 have e:l=l.take k++l[k]::l.drop (k+1):=by simp
 have h5:=zE (find? f) e;rw[h5,find?_append];have:(l.take k).find? f=none:=DP.2 λx hx=>by simp[hn x hx]
 rw[this];simp only[Option.none_or,find?_cons,hf]
theorem lT{α:Type}(f:α->Bool)(l:List α):(qO f l= -1/\l.find? f=none)\/∃k,∃h:k<l.length,qO f l=(k:Int)/\l.find? f=some l[k]:=by
 by_cases h:∀x∈l,f x=false
 .exact .inl ⟨nN h,aAk h⟩
 .right;obtain⟨k,hk,h1,h2⟩:=jw l h;exact⟨k,hk,uY hk h1 h2,aAl hk h1 h2⟩
end Go.Proofs.YthddijamfbfibaaGreatDoor
set_option maxRecDepth 4000
set_option maxHeartbeats 4000000
namespace Go.Proofs.YthddijamfbfibaaGreatDoor
open Go.Aw Proofs.Tryz List IntKind
def yQ:bB:=[99,111,117,110,116,32]
def Dm:bB:=[108,111,111,107,32]
def Me:bB:=[115,97,121,32]
def bV(b:bE)(ss:List gT)(x:jW):bE×bB×bB:=
 if x.op=1 then(b,x.text.map tV,[])
 else if x.op=2 then(if (1<=b.nodes.length/\b.nodes.length<=39)/\cZ x.text=true then({b with nodes:=b.nodes++[⟨x.text,[],0,[]⟩]},[],[])else(b,[],[]))
 else if x.op=3 then(b,[],yQ++x.text++[32]++Lib.itoa (aX b x.text))
 else if x.op=4 then(b,[],Dm++x.text++[32]++Lib.itoa (bJ ss x.text))
 else if x.op=5 then(b,[],Me++x.text)
 else(b,[],[])
end Go.Proofs.YthddijamfbfibaaGreatDoor
set_option maxRecDepth 4000
set_option maxHeartbeats 4000000
namespace Go.Proofs.YthddijamfbfibaaGreatDoor
open Go.Aw Proofs.Tryz List IntKind
theorem aHh[aB prog][dM prog](b:bE)(ss:List gT)(x:jW)(hs:aU b<=274877906944)(hx:x.text.length<=268435456)(hl:ss.length<=1099511627776)(hr:∀x∈ss,x.rules.length<=1099511627776)(wZ:∀n,0<=bJ ss n/\bJ ss n<=999)(hop:x.op=1):
  Ok prog 311 [.agg (aV .view b),.sl .view 1 (ss.map (dZ .view)),.agg (lS x)] (.gM [.agg (aV .own (bV b ss x).1),.str (bV b ss x).2.1,.str (bV b ss x).2.2]):=by
 have c1:=kX b hs;have hn:b.nodes.length<=274877906944:=by simp only[aU,bP]at hs;omega
 obtain⟨op,tx⟩:=x;simp only at hx hop;have c2:=qX tx (by omega);have c3:=pW b tx (by omega);have c4:=tC ss tx hl hr;have c5:=gL tx (by omega);have c6:=jR (b.nodes.length:Int) 1 39;have hcn:0<=aX b tx/\aX b tx<=(b.nodes.length:Int):=by unfold aX;have:=oB (λx:jP=>decide (x.name=tx)) b.nodes;omega
 have VD:=wZ tx;have c7:=fI (aX b tx) (by omega);have c8:=fI (bJ ss tx) (by omega);have z7:=iL (aX b tx) (by omega) (by omega);have z8:=iL (bJ ss tx) (by omega) (by omega);simp only[aV]at c1 c3;clear hr wZ;simp only[bV,yQ,Dm,Me];generalize Lib.itoa (aX b tx)=i7 at*;generalize Lib.itoa (bJ ss tx)=i8 at*;generalize aX b tx=cn at*;generalize bJ ss tx=cc at*;subst hop;rw[eK rfl];refine bM aG func311 ntmps311 ?_;refine aZ ?_;exact aF results311
end Go.Proofs.YthddijamfbfibaaGreatDoor
set_option maxRecDepth 4000
set_option maxHeartbeats 4000000
namespace Go.Proofs.YthddijamfbfibaaGreatDoor
open Go.Aw Proofs.Tryz List IntKind
theorem aHi[aB prog][dM prog](b:bE)(ss:List gT)(x:jW)(hs:aU b<=274877906944)(hx:x.text.length<=268435456)(hl:ss.length<=1099511627776)(hr:∀x∈ss,x.rules.length<=1099511627776)(wZ:∀n,0<=bJ ss n/\bJ ss n<=999)(hop:x.op=2):
  Ok prog 311 [.agg (aV .view b),.sl .view 1 (ss.map (dZ .view)),.agg (lS x)] (.gM [.agg (aV .own (bV b ss x).1),.str (bV b ss x).2.1,.str (bV b ss x).2.2]):=by
 have c1:=kX b hs;have hn:b.nodes.length<=274877906944:=by simp only[aU,bP]at hs;omega
 obtain⟨op,tx⟩:=x;simp only at hx hop;have c2:=qX tx (by omega);have c3:=pW b tx (by omega);have c4:=tC ss tx hl hr;have c5:=gL tx (by omega);have c6:=jR (b.nodes.length:Int) 1 39;have hcn:0<=aX b tx/\aX b tx<=(b.nodes.length:Int):=by unfold aX;have:=oB (λx:jP=>decide (x.name=tx)) b.nodes;omega
 have VD:=wZ tx;have c7:=fI (aX b tx) (by omega);have c8:=fI (bJ ss tx) (by omega);have z7:=iL (aX b tx) (by omega) (by omega);have z8:=iL (bJ ss tx) (by omega) (by omega);simp only[aV]at c1 c3;clear hr wZ;simp only[bV,yQ,Dm,Me];generalize Lib.itoa (aX b tx)=i7 at*;generalize Lib.itoa (bJ ss tx)=i8 at*;generalize aX b tx=cn at*;generalize bJ ss tx=cc at*;subst hop;rw[cY (by decide),eK rfl];by_cases hc:(1<=b.nodes.length/\b.nodes.length<=39)/\cZ tx=true
 .rw [eK hc];rw[show(decide ((1:Int)<=(b.nodes.length:Int))&&decide ((b.nodes.length:Int)<=39))=true from by simp;omega]at c6;rw[hc.2]at c5;obtain⟨l0,hl0⟩:∃l,l=b.nodes++[(⟨tx,[],0,[]⟩:jP)]:=⟨_,rfl⟩;have hap:b.nodes.map (fA .own)++[[.str tx,.str [],.int .i64 0,.sl .own 2 []]]=l0.map (fA .own):=by rw[hl0];simp
  rw[<-hl0];clear hl0 hc;refine bM aG func311 ntmps311 ?_;have W:=aA hap hn;refine we ?_;exact aF results311
 .rw [cY hc];by_cases hc1:1<=b.nodes.length/\b.nodes.length<=39
  .have ZX:cZ tx=false:=by
    cases h:cZ tx with
    |false=>rfl
    |true=>exact absurd ⟨hc1,h⟩ hc
   rw[show(decide ((1:Int)<=(b.nodes.length:Int))&&decide ((b.nodes.length:Int)<=39))=true from by simp;omega]at c6;rw[ZX]at c5;clear hc;refine bM aG func311 ntmps311 ?_;refine aZ ?_;exact aF results311
  .rw [show(decide ((1:Int)<=(b.nodes.length:Int))&&decide ((b.nodes.length:Int)<=39))=false from by simp;omega]at c6;clear hc;refine bM aG func311 ntmps311 ?_;refine aZ ?_;exact aF results311
theorem aHj[aB prog][dM prog](b:bE)(ss:List gT)(x:jW)(hs:aU b<=274877906944)(hx:x.text.length<=268435456)(hl:ss.length<=1099511627776)(hr:∀x∈ss,x.rules.length<=1099511627776)(wZ:∀n,0<=bJ ss n/\bJ ss n<=999)(hop:¬x.op=1/\¬x.op=2/\¬x.op=3/\¬x.op=4/\¬x.op=5):
  Ok prog 311 [.agg (aV .view b),.sl .view 1 (ss.map (dZ .view)),.agg (lS x)] (.gM [.agg (aV .own (bV b ss x).1),.str (bV b ss x).2.1,.str (bV b ss x).2.2]):=by
 have c1:=kX b hs;have hn:b.nodes.length<=274877906944:=by simp only[aU,bP]at hs;omega
 obtain⟨op,tx⟩:=x;simp only at hx hop;have c2:=qX tx (by omega);have c3:=pW b tx (by omega);have c4:=tC ss tx hl hr;have c5:=gL tx (by omega);have c6:=jR (b.nodes.length:Int) 1 39;have hcn:0<=aX b tx/\aX b tx<=(b.nodes.length:Int):=by unfold aX;have:=oB (λx:jP=>decide (x.name=tx)) b.nodes;omega
 have VD:=wZ tx;have c7:=fI (aX b tx) (by omega);have c8:=fI (bJ ss tx) (by omega);have z7:=iL (aX b tx) (by omega) (by omega);have z8:=iL (bJ ss tx) (by omega) (by omega);simp only[aV]at c1 c3;clear hr wZ;simp only[bV,yQ,Dm,Me];generalize Lib.itoa (aX b tx)=i7 at*;generalize Lib.itoa (bJ ss tx)=i8 at*;generalize aX b tx=cn at*;generalize bJ ss tx=cc at*;obtain⟨h1,h2,h3,h4,h5⟩:=hop;rw[cY h1,cY h2,cY h3,cY h4,cY h5];refine bM aG func311 ntmps311 ?_;have W:=aA h1 (aA h2 (aA h3 (aA h4 h5)));refine we ?_;exact aF results311
end Go.Proofs.YthddijamfbfibaaGreatDoor
set_option maxRecDepth 4000
set_option maxHeartbeats 4000000
namespace Go.Proofs.YthddijamfbfibaaGreatDoor
open Go.Aw Proofs.Tryz List IntKind
theorem aHk[aB prog][dM prog](b:bE)(ss:List gT)(x:jW)(hs:aU b<=274877906944)(hx:x.text.length<=268435456)(hl:ss.length<=1099511627776)(hr:∀x∈ss,x.rules.length<=1099511627776)(wZ:∀n,0<=bJ ss n/\bJ ss n<=999)(hop:x.op=3):
  Ok prog 311 [.agg (aV .view b),.sl .view 1 (ss.map (dZ .view)),.agg (lS x)] (.gM [.agg (aV .own (bV b ss x).1),.str (bV b ss x).2.1,.str (bV b ss x).2.2]):=by
 have c1:=kX b hs;have hn:b.nodes.length<=274877906944:=by simp only[aU,bP]at hs;omega
 obtain⟨op,tx⟩:=x;simp only at hx hop;have c2:=qX tx (by omega);have c3:=pW b tx (by omega);have c4:=tC ss tx hl hr;have c5:=gL tx (by omega);have c6:=jR (b.nodes.length:Int) 1 39;have hcn:0<=aX b tx/\aX b tx<=(b.nodes.length:Int):=by unfold aX;have:=oB (λx:jP=>decide (x.name=tx)) b.nodes;omega
 have VD:=wZ tx;have c7:=fI (aX b tx) (by omega);have c8:=fI (bJ ss tx) (by omega);have z7:=iL (aX b tx) (by omega) (by omega);have z8:=iL (bJ ss tx) (by omega) (by omega);simp only[aV]at c1 c3;clear hr wZ;simp only[bV,yQ,Dm,Me];generalize Lib.itoa (aX b tx)=i7 at*;generalize Lib.itoa (bJ ss tx)=i8 at*;generalize aX b tx=cn at*;generalize bJ ss tx=cc at*;subst hop;rw[cY (by decide),cY (by decide),eK rfl];clear c2 c4 c5 c6 c8 z8 VD hl;have Oi:i7.length<=40:=by omega
 refine uP aG [10] func311 ntmps311 ?_;refine aZ ?_;rw[yP];refine Lv (λJ=>⟨[.undef,.sl .view 1 (ss.map (dZ .view)),.undef,.ptr 0 0 0 0,.undef,.ptr 1 0 0 0,.ptr 2 0 0 0,dv J 12 (.str []),dv J 13 (.str ([99,111,117,110,116,32]++tx++[32]++i7)),.ptr 5 0 0 0,.undef,.undef,.undef,.undef,.undef,.undef,.undef,.undef,.undef,.undef,.undef,.undef,.undef,.undef,.undef,.undef,.undef,.undef,.undef,.undef,.undef,.undef,.undef,.undef,.undef,.undef,.undef,.undef,.undef,.undef,.undef,.undef,dv J 0 (.agg [.obj 3 1,.obj 4 1]),dv J 1 (.ptr 1 0 0 1),dv J 2 (.str tx),dv J 3 (.str ([99,111,117,110,116,32]++tx)),dv J 4 (.str ([99,111,117,110,116,32]++tx++[32])),dv J 5 (.agg [.sl .view 4 (b.nodes.map (fA .view)),.sl .view 1 (b.opens.map mM)]),dv J 6 (.ptr 1 0 0 1),dv J 7 (.str tx),dv J 8 (.int .i64 cn),dv J 9 (.str i7),dv J 10 (.str ([99,111,117,110,116,32]++tx++[32]++i7)),.undef,.undef,.undef,.undef,.undef,.undef,.undef,.undef,.undef,.undef,.undef,.undef,.undef,.undef,.undef,.undef,.undef,.undef,.undef,.undef],[⟨true,true,2,0,[[.sl .view 4 (b.nodes.map (fA .view)),.sl .view 1 (b.opens.map mM)]]⟩,⟨true,true,2,0,[[.int .i64 3,.str tx]]⟩,⟨true,true,2,0,[if J 11=true then [.obj 3 1,.obj 4 1]else [.sl .own 4 [],.sl .own 1 []]]⟩,⟨true,false,4,1,b.nodes.map (fA .own)⟩,⟨true,false,1,1,b.opens.map mM⟩,⟨true,true,2,0,[[.obj 3 1,.obj 4 1]]⟩]⟩) (aK (by simp[dv,hx,Oi]) (by simp[dv,hx,Oi])) (by decide) ?_ ?_
 .simp only[xR,sY];refine⟨⟨trivial,λJ h1 h2=>iH λK hK=> ?_⟩,⟨trivial,λJ h1 h2=>iH λK hK=> ?_⟩,⟨trivial,λJ h1 h2=>iH λK hK=> ?_⟩,⟨trivial,λJ h1 h2=>iH λK hK=> ?_⟩,⟨trivial,λJ h1 h2=>iH λK hK=> ?_⟩,⟨trivial,λJ h1 h2=>iH λK hK=> ?_⟩,⟨trivial,λJ h1 h2=>iH λK hK=> ?_⟩,⟨trivial,λJ h1 h2=>iH λK hK=> ?_⟩,⟨trivial,λJ h1 h2=>iH λK hK=> ?_⟩,⟨trivial,λJ h1 h2=>iH λK hK=> ?_⟩,⟨trivial,λJ h1 h2=>iH λK hK=> ?_⟩,⟨trivial,λJ h1 h2=>iH λK hK=> ?_⟩,⟨trivial,λJ h1 h2=>iH λK hK=> ?_⟩,⟨trivial,λJ h1 h2=>iH λK hK=> ?_⟩⟩;all_goals simp[Region.binds]at h2
  all_goals first
   |(simp[-Bool.exists_bool,sM,dv,h1,h2,hx,Oi];refine⟨_,(c3),hK _ (aK ?_ ?_)⟩<;>simp[dv,uW,h1,h2])
   |(simp[-Bool.exists_bool,sM,dv,h1,h2,hx,Oi];refine⟨_,(c7),hK _ (aK ?_ ?_)⟩<;>simp[dv,uW,h1,h2])
   |(simp[-Bool.exists_bool,sM,dv,h1,h2,hx,Oi];refine⟨?_,hK _ (aK ?_ ?_)⟩;(focus omega);all_goals simp[dv,uW,h1,h2])
   |(simp[-Bool.exists_bool,sM,dv,h1,h2,hx,Oi];refine hK _ (aK ?_ ?_)<;>simp[dv,uW,h1,h2])
 .intro J hJ;have hJs:J 0=true/\J 1=true/\J 2=true/\J 3=true/\J 4=true/\J 5=true/\J 6=true/\J 7=true/\J 8=true/\J 9=true/\J 10=true/\J 11=true/\J 12=true/\J 13=true:=⟨hJ 0 (by decide),hJ 1 (by decide),hJ 2 (by decide),hJ 3 (by decide),hJ 4 (by decide),hJ 5 (by decide),hJ 6 (by decide),hJ 7 (by decide),hJ 8 (by decide),hJ 9 (by decide),hJ 10 (by decide),hJ 11 (by decide),hJ 12 (by decide),hJ 13 (by decide)⟩;simp only[dv,hJs,gE];clear hJs hJ J;refine aZ ?_;exact aF results311
end Go.Proofs.YthddijamfbfibaaGreatDoor
set_option maxRecDepth 4000
set_option maxHeartbeats 4000000
namespace Go.Proofs.YthddijamfbfibaaGreatDoor
open Go.Aw Proofs.Tryz List IntKind
theorem aHm[aB prog][dM prog](b:bE)(ss:List gT)(x:jW)(hs:aU b<=274877906944)(hx:x.text.length<=268435456)(hl:ss.length<=1099511627776)(hr:∀x∈ss,x.rules.length<=1099511627776)(wZ:∀n,0<=bJ ss n/\bJ ss n<=999)(hop:x.op=4):
  Ok prog 311 [.agg (aV .view b),.sl .view 1 (ss.map (dZ .view)),.agg (lS x)] (.gM [.agg (aV .own (bV b ss x).1),.str (bV b ss x).2.1,.str (bV b ss x).2.2]):=by
 have c1:=kX b hs;have hn:b.nodes.length<=274877906944:=by simp only[aU,bP]at hs;omega
 obtain⟨op,tx⟩:=x;simp only at hx hop;have c2:=qX tx (by omega);have c3:=pW b tx (by omega);have c4:=tC ss tx hl hr;have c5:=gL tx (by omega);have c6:=jR (b.nodes.length:Int) 1 39;have hcn:0<=aX b tx/\aX b tx<=(b.nodes.length:Int):=by unfold aX;have:=oB (λx:jP=>decide (x.name=tx)) b.nodes;omega
 have VD:=wZ tx;have c7:=fI (aX b tx) (by omega);have c8:=fI (bJ ss tx) (by omega);have z7:=iL (aX b tx) (by omega) (by omega);have z8:=iL (bJ ss tx) (by omega) (by omega);simp only[aV]at c1 c3;clear hr wZ;simp only[bV,yQ,Dm,Me];generalize Lib.itoa (aX b tx)=i7 at*;generalize Lib.itoa (bJ ss tx)=i8 at*;generalize aX b tx=cn at*;generalize bJ ss tx=cc at*;subst hop;rw[cY (by decide),cY (by decide),cY (by decide),eK rfl];clear c2 c3 c5 c6 c7 z7 hcn;have Oi:i8.length<=40:=by omega
 refine uP aG [12] func311 ntmps311 ?_;refine aZ ?_;rw[yP];refine Lv (λJ=>⟨[.undef,.sl .view 1 (ss.map (dZ .view)),.undef,.ptr 0 0 0 0,.undef,.ptr 1 0 0 0,.ptr 2 0 0 0,dv J 12 (.str []),dv J 13 (.str ([108,111,111,107,32]++tx++[32]++i8)),.ptr 5 0 0 0,.undef,.undef,.undef,.undef,.undef,.undef,.undef,.undef,.undef,.undef,.undef,.undef,.undef,.undef,.undef,.undef,.undef,.undef,.undef,.undef,.undef,.undef,.undef,.undef,.undef,.undef,.undef,.undef,.undef,.undef,.undef,.undef,.undef,.undef,.undef,.undef,.undef,.undef,.undef,.undef,.undef,.undef,.undef,.undef,.undef,dv J 0 (.agg [.obj 3 1,.obj 4 1]),dv J 1 (.ptr 1 0 0 1),dv J 2 (.str tx),dv J 3 (.str ([108,111,111,107,32]++tx)),dv J 4 (.str ([108,111,111,107,32]++tx++[32])),dv J 5 (.sl .view 1 (ss.map (dZ .view))),dv J 6 (.ptr 1 0 0 1),dv J 7 (.str tx),dv J 8 (.int .i64 cc),dv J 9 (.str i8),dv J 10 (.str ([108,111,111,107,32]++tx++[32]++i8)),.undef,.undef,.undef,.undef,.undef,.undef,.undef],[⟨true,true,2,0,[[.sl .view 4 (b.nodes.map (fA .view)),.sl .view 1 (b.opens.map mM)]]⟩,⟨true,true,2,0,[[.int .i64 4,.str tx]]⟩,⟨true,true,2,0,[if J 11=true then [.obj 3 1,.obj 4 1]else [.sl .own 4 [],.sl .own 1 []]]⟩,⟨true,false,4,1,b.nodes.map (fA .own)⟩,⟨true,false,1,1,b.opens.map mM⟩,⟨true,true,2,0,[[.obj 3 1,.obj 4 1]]⟩]⟩) (aK (by simp[dv,hx,Oi]) (by simp[dv,hx,Oi])) (by decide) ?_ ?_
 .simp only[xR,sY];refine⟨⟨trivial,λJ h1 h2=>iH λK hK=> ?_⟩,⟨trivial,λJ h1 h2=>iH λK hK=> ?_⟩,⟨trivial,λJ h1 h2=>iH λK hK=> ?_⟩,⟨trivial,λJ h1 h2=>iH λK hK=> ?_⟩,⟨trivial,λJ h1 h2=>iH λK hK=> ?_⟩,⟨trivial,λJ h1 h2=>iH λK hK=> ?_⟩,⟨trivial,λJ h1 h2=>iH λK hK=> ?_⟩,⟨trivial,λJ h1 h2=>iH λK hK=> ?_⟩,⟨trivial,λJ h1 h2=>iH λK hK=> ?_⟩,⟨trivial,λJ h1 h2=>iH λK hK=> ?_⟩,⟨trivial,λJ h1 h2=>iH λK hK=> ?_⟩,⟨trivial,λJ h1 h2=>iH λK hK=> ?_⟩,⟨trivial,λJ h1 h2=>iH λK hK=> ?_⟩,⟨trivial,λJ h1 h2=>iH λK hK=> ?_⟩⟩;all_goals simp[Region.binds]at h2
  all_goals first
   |(simp[-Bool.exists_bool,sM,dv,h1,h2,hx,Oi];refine⟨_,(c4),hK _ (aK ?_ ?_)⟩<;>simp[dv,uW,h1,h2])
   |(simp[-Bool.exists_bool,sM,dv,h1,h2,hx,Oi];refine⟨_,(c8),hK _ (aK ?_ ?_)⟩<;>simp[dv,uW,h1,h2])
   |(simp[-Bool.exists_bool,sM,dv,h1,h2,hx,Oi];refine⟨?_,hK _ (aK ?_ ?_)⟩;(focus omega);all_goals simp[dv,uW,h1,h2])
   |(simp[-Bool.exists_bool,sM,dv,h1,h2,hx,Oi];refine hK _ (aK ?_ ?_)<;>simp[dv,uW,h1,h2])
 .intro J hJ;have hJs:J 0=true/\J 1=true/\J 2=true/\J 3=true/\J 4=true/\J 5=true/\J 6=true/\J 7=true/\J 8=true/\J 9=true/\J 10=true/\J 11=true/\J 12=true/\J 13=true:=⟨hJ 0 (by decide),hJ 1 (by decide),hJ 2 (by decide),hJ 3 (by decide),hJ 4 (by decide),hJ 5 (by decide),hJ 6 (by decide),hJ 7 (by decide),hJ 8 (by decide),hJ 9 (by decide),hJ 10 (by decide),hJ 11 (by decide),hJ 12 (by decide),hJ 13 (by decide)⟩;simp only[dv,hJs,gE];clear hJs hJ J;refine aZ ?_;exact aF results311
end Go.Proofs.YthddijamfbfibaaGreatDoor
set_option maxRecDepth 4000
set_option maxHeartbeats 4000000
namespace Go.Proofs.YthddijamfbfibaaGreatDoor
open Go.Aw Proofs.Tryz List IntKind
theorem aHn[aB prog][dM prog](b:bE)(ss:List gT)(x:jW)(hs:aU b<=274877906944)(hx:x.text.length<=268435456)(hl:ss.length<=1099511627776)(hr:∀x∈ss,x.rules.length<=1099511627776)(wZ:∀n,0<=bJ ss n/\bJ ss n<=999)(hop:x.op=5):
  Ok prog 311 [.agg (aV .view b),.sl .view 1 (ss.map (dZ .view)),.agg (lS x)] (.gM [.agg (aV .own (bV b ss x).1),.str (bV b ss x).2.1,.str (bV b ss x).2.2]):=by
 have c1:=kX b hs;have hn:b.nodes.length<=274877906944:=by simp only[aU,bP]at hs;omega
 obtain⟨op,tx⟩:=x;simp only at hx hop;have c2:=qX tx (by omega);have c3:=pW b tx (by omega);have c4:=tC ss tx hl hr;have c5:=gL tx (by omega);have c6:=jR (b.nodes.length:Int) 1 39;have hcn:0<=aX b tx/\aX b tx<=(b.nodes.length:Int):=by unfold aX;have:=oB (λx:jP=>decide (x.name=tx)) b.nodes;omega
 have VD:=wZ tx;have c7:=fI (aX b tx) (by omega);have c8:=fI (bJ ss tx) (by omega);have z7:=iL (aX b tx) (by omega) (by omega);have z8:=iL (bJ ss tx) (by omega) (by omega);simp only[aV]at c1 c3;clear hr wZ;simp only[bV,yQ,Dm,Me];generalize Lib.itoa (aX b tx)=i7 at*;generalize Lib.itoa (bJ ss tx)=i8 at*;generalize aX b tx=cn at*;generalize bJ ss tx=cc at*;subst hop;rw[cY (by decide),cY (by decide),cY (by decide),cY (by decide),eK rfl];refine bM aG func311 ntmps311 ?_;refine aZ ?_;exact aF results311
end Go.Proofs.YthddijamfbfibaaGreatDoor
set_option maxRecDepth 4000
set_option maxHeartbeats 4000000
namespace Go.Proofs.YthddijamfbfibaaGreatDoor
open Go.Aw Proofs.Tryz List IntKind
theorem aHo[aB prog][dM prog](b:bE)(ss:List gT)(x:jW)(hs:aU b<=274877906944)(hx:x.text.length<=268435456)(hl:ss.length<=1099511627776)(hr:∀x∈ss,x.rules.length<=1099511627776)(wZ:∀n,0<=bJ ss n/\bJ ss n<=999)(hop:x.op=1):
  Ok prog 244 [.agg (aV .view b),.sl .view 1 (ss.map (dZ .view)),.agg (lS x)] (.gM [.agg (aV .own (bV b ss x).1),.str (bV b ss x).2.1,.str (bV b ss x).2.2]):=by
 have c1:=kY b hs;have hn:b.nodes.length<=274877906944:=by simp only[aU,bP]at hs;omega
 obtain⟨op,tx⟩:=x;simp only at hx hop;have c2:=qY tx (by omega);have c3:=pX b tx (by omega);have c4:=tF ss tx hl hr;have c5:=fD tx (by omega);have c6:=gH (b.nodes.length:Int) 1 39;have hcn:0<=aX b tx/\aX b tx<=(b.nodes.length:Int):=by unfold aX;have:=oB (λx:jP=>decide (x.name=tx)) b.nodes;omega
 have VD:=wZ tx;have c7:=fK (aX b tx) (by omega);have c8:=fK (bJ ss tx) (by omega);have z7:=iL (aX b tx) (by omega) (by omega);have z8:=iL (bJ ss tx) (by omega) (by omega);simp only[aV]at c1 c3;clear hr wZ;simp only[bV,yQ,Dm,Me];generalize Lib.itoa (aX b tx)=i7 at*;generalize Lib.itoa (bJ ss tx)=i8 at*;generalize aX b tx=cn at*;generalize bJ ss tx=cc at*;subst hop;rw[eK rfl];refine bM aG func244 ntmps244 ?_;refine aZ ?_;exact aF results244
end Go.Proofs.YthddijamfbfibaaGreatDoor
set_option maxRecDepth 4000
set_option maxHeartbeats 4000000
namespace Go.Proofs.YthddijamfbfibaaGreatDoor
open Go.Aw Proofs.Tryz List IntKind
theorem aHp[aB prog][dM prog](b:bE)(ss:List gT)(x:jW)(hs:aU b<=274877906944)(hx:x.text.length<=268435456)(hl:ss.length<=1099511627776)(hr:∀x∈ss,x.rules.length<=1099511627776)(wZ:∀n,0<=bJ ss n/\bJ ss n<=999)(hop:x.op=2):
  Ok prog 244 [.agg (aV .view b),.sl .view 1 (ss.map (dZ .view)),.agg (lS x)] (.gM [.agg (aV .own (bV b ss x).1),.str (bV b ss x).2.1,.str (bV b ss x).2.2]):=by
 have c1:=kY b hs;have hn:b.nodes.length<=274877906944:=by simp only[aU,bP]at hs;omega
 obtain⟨op,tx⟩:=x;simp only at hx hop;have c2:=qY tx (by omega);have c3:=pX b tx (by omega);have c4:=tF ss tx hl hr;have c5:=fD tx (by omega);have c6:=gH (b.nodes.length:Int) 1 39;have hcn:0<=aX b tx/\aX b tx<=(b.nodes.length:Int):=by unfold aX;have:=oB (λx:jP=>decide (x.name=tx)) b.nodes;omega
 have VD:=wZ tx;have c7:=fK (aX b tx) (by omega);have c8:=fK (bJ ss tx) (by omega);have z7:=iL (aX b tx) (by omega) (by omega);have z8:=iL (bJ ss tx) (by omega) (by omega);simp only[aV]at c1 c3;clear hr wZ;simp only[bV,yQ,Dm,Me];generalize Lib.itoa (aX b tx)=i7 at*;generalize Lib.itoa (bJ ss tx)=i8 at*;generalize aX b tx=cn at*;generalize bJ ss tx=cc at*;subst hop;rw[cY (by decide),eK rfl];by_cases hc:(1<=b.nodes.length/\b.nodes.length<=39)/\cZ tx=true
 .rw [eK hc];rw[show(decide ((1:Int)<=(b.nodes.length:Int))&&decide ((b.nodes.length:Int)<=39))=true from by simp;omega]at c6;rw[hc.2]at c5;obtain⟨l0,hl0⟩:∃l,l=b.nodes++[(⟨tx,[],0,[]⟩:jP)]:=⟨_,rfl⟩;have hap:b.nodes.map (fA .own)++[[.str tx,.str [],.int .i64 0,.sl .own 2 []]]=l0.map (fA .own):=by rw[hl0];simp
  rw[<-hl0];clear hl0 hc;refine bM aG func244 ntmps244 ?_;have W:=aA hap hn;refine we ?_;exact aF results244
 .rw [cY hc];by_cases hc1:1<=b.nodes.length/\b.nodes.length<=39
  .have ZX:cZ tx=false:=by
    cases h:cZ tx with
    |false=>rfl
    |true=>exact absurd ⟨hc1,h⟩ hc
   rw[show(decide ((1:Int)<=(b.nodes.length:Int))&&decide ((b.nodes.length:Int)<=39))=true from by simp;omega]at c6;rw[ZX]at c5;clear hc;refine bM aG func244 ntmps244 ?_;refine aZ ?_;exact aF results244
  .rw [show(decide ((1:Int)<=(b.nodes.length:Int))&&decide ((b.nodes.length:Int)<=39))=false from by simp;omega]at c6;clear hc;refine bM aG func244 ntmps244 ?_;refine aZ ?_;exact aF results244
theorem aHq[aB prog][dM prog](b:bE)(ss:List gT)(x:jW)(hs:aU b<=274877906944)(hx:x.text.length<=268435456)(hl:ss.length<=1099511627776)(hr:∀x∈ss,x.rules.length<=1099511627776)(wZ:∀n,0<=bJ ss n/\bJ ss n<=999)(hop:¬x.op=1/\¬x.op=2/\¬x.op=3/\¬x.op=4/\¬x.op=5):
  Ok prog 244 [.agg (aV .view b),.sl .view 1 (ss.map (dZ .view)),.agg (lS x)] (.gM [.agg (aV .own (bV b ss x).1),.str (bV b ss x).2.1,.str (bV b ss x).2.2]):=by
 have c1:=kY b hs;have hn:b.nodes.length<=274877906944:=by simp only[aU,bP]at hs;omega
 obtain⟨op,tx⟩:=x;simp only at hx hop;have c2:=qY tx (by omega);have c3:=pX b tx (by omega);have c4:=tF ss tx hl hr;have c5:=fD tx (by omega);have c6:=gH (b.nodes.length:Int) 1 39;have hcn:0<=aX b tx/\aX b tx<=(b.nodes.length:Int):=by unfold aX;have:=oB (λx:jP=>decide (x.name=tx)) b.nodes;omega
 have VD:=wZ tx;have c7:=fK (aX b tx) (by omega);have c8:=fK (bJ ss tx) (by omega);have z7:=iL (aX b tx) (by omega) (by omega);have z8:=iL (bJ ss tx) (by omega) (by omega);simp only[aV]at c1 c3;clear hr wZ;simp only[bV,yQ,Dm,Me];generalize Lib.itoa (aX b tx)=i7 at*;generalize Lib.itoa (bJ ss tx)=i8 at*;generalize aX b tx=cn at*;generalize bJ ss tx=cc at*;obtain⟨h1,h2,h3,h4,h5⟩:=hop;rw[cY h1,cY h2,cY h3,cY h4,cY h5];refine bM aG func244 ntmps244 ?_;have W:=aA h1 (aA h2 (aA h3 (aA h4 h5)));refine we ?_;exact aF results244
end Go.Proofs.YthddijamfbfibaaGreatDoor
set_option maxRecDepth 4000
set_option maxHeartbeats 4000000
namespace Go.Proofs.YthddijamfbfibaaGreatDoor
open Go.Aw Proofs.Tryz List IntKind
theorem aHr[aB prog][dM prog](b:bE)(ss:List gT)(x:jW)(hs:aU b<=274877906944)(hx:x.text.length<=268435456)(hl:ss.length<=1099511627776)(hr:∀x∈ss,x.rules.length<=1099511627776)(wZ:∀n,0<=bJ ss n/\bJ ss n<=999)(hop:x.op=3):
  Ok prog 244 [.agg (aV .view b),.sl .view 1 (ss.map (dZ .view)),.agg (lS x)] (.gM [.agg (aV .own (bV b ss x).1),.str (bV b ss x).2.1,.str (bV b ss x).2.2]):=by
 have c1:=kY b hs;have hn:b.nodes.length<=274877906944:=by simp only[aU,bP]at hs;omega
 obtain⟨op,tx⟩:=x;simp only at hx hop;have c2:=qY tx (by omega);have c3:=pX b tx (by omega);have c4:=tF ss tx hl hr;have c5:=fD tx (by omega);have c6:=gH (b.nodes.length:Int) 1 39;have hcn:0<=aX b tx/\aX b tx<=(b.nodes.length:Int):=by unfold aX;have:=oB (λx:jP=>decide (x.name=tx)) b.nodes;omega
 have VD:=wZ tx;have c7:=fK (aX b tx) (by omega);have c8:=fK (bJ ss tx) (by omega);have z7:=iL (aX b tx) (by omega) (by omega);have z8:=iL (bJ ss tx) (by omega) (by omega);simp only[aV]at c1 c3;clear hr wZ;simp only[bV,yQ,Dm,Me];generalize Lib.itoa (aX b tx)=i7 at*;generalize Lib.itoa (bJ ss tx)=i8 at*;generalize aX b tx=cn at*;generalize bJ ss tx=cc at*;subst hop;rw[cY (by decide),cY (by decide),eK rfl];clear c2 c4 c5 c6 c8 z8 VD hl;have Oi:i7.length<=40:=by omega
 refine uP aG [10] func244 ntmps244 ?_;refine aZ ?_;rw[yP];refine Lv (λJ=>⟨[.undef,.sl .view 1 (ss.map (dZ .view)),.undef,.ptr 0 0 0 0,.undef,.ptr 1 0 0 0,.ptr 2 0 0 0,dv J 12 (.str []),dv J 13 (.str ([99,111,117,110,116,32]++tx++[32]++i7)),.ptr 5 0 0 0,.undef,.undef,.undef,.undef,.undef,.undef,.undef,.undef,.undef,.undef,.undef,.undef,.undef,.undef,.undef,.undef,.undef,.undef,.undef,.undef,.undef,.undef,.undef,.undef,.undef,.undef,.undef,.undef,.undef,.undef,.undef,.undef,dv J 0 (.agg [.obj 3 1,.obj 4 1]),dv J 1 (.ptr 1 0 0 1),dv J 2 (.str tx),dv J 3 (.str ([99,111,117,110,116,32]++tx)),dv J 4 (.str ([99,111,117,110,116,32]++tx++[32])),dv J 5 (.agg [.sl .view 4 (b.nodes.map (fA .view)),.sl .view 1 (b.opens.map mM)]),dv J 6 (.ptr 1 0 0 1),dv J 7 (.str tx),dv J 8 (.int .i64 cn),dv J 9 (.str i7),dv J 10 (.str ([99,111,117,110,116,32]++tx++[32]++i7)),.undef,.undef,.undef,.undef,.undef,.undef,.undef,.undef,.undef,.undef,.undef,.undef,.undef,.undef,.undef,.undef,.undef,.undef,.undef,.undef],[⟨true,true,2,0,[[.sl .view 4 (b.nodes.map (fA .view)),.sl .view 1 (b.opens.map mM)]]⟩,⟨true,true,2,0,[[.int .i64 3,.str tx]]⟩,⟨true,true,2,0,[if J 11=true then [.obj 3 1,.obj 4 1]else [.sl .own 4 [],.sl .own 1 []]]⟩,⟨true,false,4,1,b.nodes.map (fA .own)⟩,⟨true,false,1,1,b.opens.map mM⟩,⟨true,true,2,0,[[.obj 3 1,.obj 4 1]]⟩]⟩) (aK (by simp[dv,hx,Oi]) (by simp[dv,hx,Oi])) (by decide) ?_ ?_
 .simp only[xR,sY];refine⟨⟨trivial,λJ h1 h2=>iH λK hK=> ?_⟩,⟨trivial,λJ h1 h2=>iH λK hK=> ?_⟩,⟨trivial,λJ h1 h2=>iH λK hK=> ?_⟩,⟨trivial,λJ h1 h2=>iH λK hK=> ?_⟩,⟨trivial,λJ h1 h2=>iH λK hK=> ?_⟩,⟨trivial,λJ h1 h2=>iH λK hK=> ?_⟩,⟨trivial,λJ h1 h2=>iH λK hK=> ?_⟩,⟨trivial,λJ h1 h2=>iH λK hK=> ?_⟩,⟨trivial,λJ h1 h2=>iH λK hK=> ?_⟩,⟨trivial,λJ h1 h2=>iH λK hK=> ?_⟩,⟨trivial,λJ h1 h2=>iH λK hK=> ?_⟩,⟨trivial,λJ h1 h2=>iH λK hK=> ?_⟩,⟨trivial,λJ h1 h2=>iH λK hK=> ?_⟩,⟨trivial,λJ h1 h2=>iH λK hK=> ?_⟩⟩;all_goals simp[Region.binds]at h2
  all_goals first
   |(simp[-Bool.exists_bool,sM,dv,h1,h2,hx,Oi];refine⟨_,(c3),hK _ (aK ?_ ?_)⟩<;>simp[dv,uW,h1,h2])
   |(simp[-Bool.exists_bool,sM,dv,h1,h2,hx,Oi];refine⟨_,(c7),hK _ (aK ?_ ?_)⟩<;>simp[dv,uW,h1,h2])
   |(simp[-Bool.exists_bool,sM,dv,h1,h2,hx,Oi];refine⟨?_,hK _ (aK ?_ ?_)⟩;(focus omega);all_goals simp[dv,uW,h1,h2])
   |(simp[-Bool.exists_bool,sM,dv,h1,h2,hx,Oi];refine hK _ (aK ?_ ?_)<;>simp[dv,uW,h1,h2])
 .intro J hJ;have hJs:J 0=true/\J 1=true/\J 2=true/\J 3=true/\J 4=true/\J 5=true/\J 6=true/\J 7=true/\J 8=true/\J 9=true/\J 10=true/\J 11=true/\J 12=true/\J 13=true:=⟨hJ 0 (by decide),hJ 1 (by decide),hJ 2 (by decide),hJ 3 (by decide),hJ 4 (by decide),hJ 5 (by decide),hJ 6 (by decide),hJ 7 (by decide),hJ 8 (by decide),hJ 9 (by decide),hJ 10 (by decide),hJ 11 (by decide),hJ 12 (by decide),hJ 13 (by decide)⟩;simp only[dv,hJs,gE];clear hJs hJ J;refine aZ ?_;exact aF results244
end Go.Proofs.YthddijamfbfibaaGreatDoor
set_option maxRecDepth 4000
set_option maxHeartbeats 4000000
namespace Go.Proofs.YthddijamfbfibaaGreatDoor
open Go.Aw Proofs.Tryz List IntKind
theorem aHs[aB prog][dM prog](b:bE)(ss:List gT)(x:jW)(hs:aU b<=274877906944)(hx:x.text.length<=268435456)(hl:ss.length<=1099511627776)(hr:∀x∈ss,x.rules.length<=1099511627776)(wZ:∀n,0<=bJ ss n/\bJ ss n<=999)(hop:x.op=4):
  Ok prog 244 [.agg (aV .view b),.sl .view 1 (ss.map (dZ .view)),.agg (lS x)] (.gM [.agg (aV .own (bV b ss x).1),.str (bV b ss x).2.1,.str (bV b ss x).2.2]):=by
 have c1:=kY b hs;have hn:b.nodes.length<=274877906944:=by simp only[aU,bP]at hs;omega
 obtain⟨op,tx⟩:=x;simp only at hx hop;have c2:=qY tx (by omega);have c3:=pX b tx (by omega);have c4:=tF ss tx hl hr;have c5:=fD tx (by omega);have c6:=gH (b.nodes.length:Int) 1 39;have hcn:0<=aX b tx/\aX b tx<=(b.nodes.length:Int):=by unfold aX;have:=oB (λx:jP=>decide (x.name=tx)) b.nodes;omega
 have VD:=wZ tx;have c7:=fK (aX b tx) (by omega);have c8:=fK (bJ ss tx) (by omega);have z7:=iL (aX b tx) (by omega) (by omega);have z8:=iL (bJ ss tx) (by omega) (by omega);simp only[aV]at c1 c3;clear hr wZ;simp only[bV,yQ,Dm,Me];generalize Lib.itoa (aX b tx)=i7 at*;generalize Lib.itoa (bJ ss tx)=i8 at*;generalize aX b tx=cn at*;generalize bJ ss tx=cc at*;subst hop;rw[cY (by decide),cY (by decide),cY (by decide),eK rfl];clear c2 c3 c5 c6 c7 z7 hcn;have Oi:i8.length<=40:=by omega
 refine uP aG [12] func244 ntmps244 ?_;refine aZ ?_;rw[yP];refine Lv (λJ=>⟨[.undef,.sl .view 1 (ss.map (dZ .view)),.undef,.ptr 0 0 0 0,.undef,.ptr 1 0 0 0,.ptr 2 0 0 0,dv J 12 (.str []),dv J 13 (.str ([108,111,111,107,32]++tx++[32]++i8)),.ptr 5 0 0 0,.undef,.undef,.undef,.undef,.undef,.undef,.undef,.undef,.undef,.undef,.undef,.undef,.undef,.undef,.undef,.undef,.undef,.undef,.undef,.undef,.undef,.undef,.undef,.undef,.undef,.undef,.undef,.undef,.undef,.undef,.undef,.undef,.undef,.undef,.undef,.undef,.undef,.undef,.undef,.undef,.undef,.undef,.undef,.undef,.undef,dv J 0 (.agg [.obj 3 1,.obj 4 1]),dv J 1 (.ptr 1 0 0 1),dv J 2 (.str tx),dv J 3 (.str ([108,111,111,107,32]++tx)),dv J 4 (.str ([108,111,111,107,32]++tx++[32])),dv J 5 (.sl .view 1 (ss.map (dZ .view))),dv J 6 (.ptr 1 0 0 1),dv J 7 (.str tx),dv J 8 (.int .i64 cc),dv J 9 (.str i8),dv J 10 (.str ([108,111,111,107,32]++tx++[32]++i8)),.undef,.undef,.undef,.undef,.undef,.undef,.undef],[⟨true,true,2,0,[[.sl .view 4 (b.nodes.map (fA .view)),.sl .view 1 (b.opens.map mM)]]⟩,⟨true,true,2,0,[[.int .i64 4,.str tx]]⟩,⟨true,true,2,0,[if J 11=true then [.obj 3 1,.obj 4 1]else [.sl .own 4 [],.sl .own 1 []]]⟩,⟨true,false,4,1,b.nodes.map (fA .own)⟩,⟨true,false,1,1,b.opens.map mM⟩,⟨true,true,2,0,[[.obj 3 1,.obj 4 1]]⟩]⟩) (aK (by simp[dv,hx,Oi]) (by simp[dv,hx,Oi])) (by decide) ?_ ?_
 .simp only[xR,sY];refine⟨⟨trivial,λJ h1 h2=>iH λK hK=> ?_⟩,⟨trivial,λJ h1 h2=>iH λK hK=> ?_⟩,⟨trivial,λJ h1 h2=>iH λK hK=> ?_⟩,⟨trivial,λJ h1 h2=>iH λK hK=> ?_⟩,⟨trivial,λJ h1 h2=>iH λK hK=> ?_⟩,⟨trivial,λJ h1 h2=>iH λK hK=> ?_⟩,⟨trivial,λJ h1 h2=>iH λK hK=> ?_⟩,⟨trivial,λJ h1 h2=>iH λK hK=> ?_⟩,⟨trivial,λJ h1 h2=>iH λK hK=> ?_⟩,⟨trivial,λJ h1 h2=>iH λK hK=> ?_⟩,⟨trivial,λJ h1 h2=>iH λK hK=> ?_⟩,⟨trivial,λJ h1 h2=>iH λK hK=> ?_⟩,⟨trivial,λJ h1 h2=>iH λK hK=> ?_⟩,⟨trivial,λJ h1 h2=>iH λK hK=> ?_⟩⟩;all_goals simp[Region.binds]at h2
  all_goals first
   |(simp[-Bool.exists_bool,sM,dv,h1,h2,hx,Oi];refine⟨_,(c4),hK _ (aK ?_ ?_)⟩<;>simp[dv,uW,h1,h2])
   |(simp[-Bool.exists_bool,sM,dv,h1,h2,hx,Oi];refine⟨_,(c8),hK _ (aK ?_ ?_)⟩<;>simp[dv,uW,h1,h2])
   |(simp[-Bool.exists_bool,sM,dv,h1,h2,hx,Oi];refine⟨?_,hK _ (aK ?_ ?_)⟩;(focus omega);all_goals simp[dv,uW,h1,h2])
   |(simp[-Bool.exists_bool,sM,dv,h1,h2,hx,Oi];refine hK _ (aK ?_ ?_)<;>simp[dv,uW,h1,h2])
 .intro J hJ;have hJs:J 0=true/\J 1=true/\J 2=true/\J 3=true/\J 4=true/\J 5=true/\J 6=true/\J 7=true/\J 8=true/\J 9=true/\J 10=true/\J 11=true/\J 12=true/\J 13=true:=⟨hJ 0 (by decide),hJ 1 (by decide),hJ 2 (by decide),hJ 3 (by decide),hJ 4 (by decide),hJ 5 (by decide),hJ 6 (by decide),hJ 7 (by decide),hJ 8 (by decide),hJ 9 (by decide),hJ 10 (by decide),hJ 11 (by decide),hJ 12 (by decide),hJ 13 (by decide)⟩;simp only[dv,hJs,gE];clear hJs hJ J;refine aZ ?_;exact aF results244
end Go.Proofs.YthddijamfbfibaaGreatDoor
set_option maxRecDepth 4000
set_option maxHeartbeats 4000000
namespace Go.Proofs.YthddijamfbfibaaGreatDoor
open Go.Aw Proofs.Tryz List IntKind
theorem aHt[aB prog][dM prog](b:bE)(ss:List gT)(x:jW)(hs:aU b<=274877906944)(hx:x.text.length<=268435456)(hl:ss.length<=1099511627776)(hr:∀x∈ss,x.rules.length<=1099511627776)(wZ:∀n,0<=bJ ss n/\bJ ss n<=999)(hop:x.op=5):
  Ok prog 244 [.agg (aV .view b),.sl .view 1 (ss.map (dZ .view)),.agg (lS x)] (.gM [.agg (aV .own (bV b ss x).1),.str (bV b ss x).2.1,.str (bV b ss x).2.2]):=by
 have c1:=kY b hs;have hn:b.nodes.length<=274877906944:=by simp only[aU,bP]at hs;omega
 obtain⟨op,tx⟩:=x;simp only at hx hop;have c2:=qY tx (by omega);have c3:=pX b tx (by omega);have c4:=tF ss tx hl hr;have c5:=fD tx (by omega);have c6:=gH (b.nodes.length:Int) 1 39;have hcn:0<=aX b tx/\aX b tx<=(b.nodes.length:Int):=by unfold aX;have:=oB (λx:jP=>decide (x.name=tx)) b.nodes;omega
 have VD:=wZ tx;have c7:=fK (aX b tx) (by omega);have c8:=fK (bJ ss tx) (by omega);have z7:=iL (aX b tx) (by omega) (by omega);have z8:=iL (bJ ss tx) (by omega) (by omega);simp only[aV]at c1 c3;clear hr wZ;simp only[bV,yQ,Dm,Me];generalize Lib.itoa (aX b tx)=i7 at*;generalize Lib.itoa (bJ ss tx)=i8 at*;generalize aX b tx=cn at*;generalize bJ ss tx=cc at*;subst hop;rw[cY (by decide),cY (by decide),cY (by decide),cY (by decide),eK rfl];refine bM aG func244 ntmps244 ?_;refine aZ ?_;exact aF results244
end Go.Proofs.YthddijamfbfibaaGreatDoor
set_option maxRecDepth 4000
set_option maxHeartbeats 4000000
namespace Go.Proofs.YthddijamfbfibaaGreatDoor
open Go.Aw Proofs.Tryz List IntKind
theorem TY[aB prog][dM prog](b:bE)(ss:List gT)(x:jW)(hs:aU b<=274877906944)(hx:x.text.length<=268435456)(hl:ss.length<=1099511627776)(hr:∀x∈ss,x.rules.length<=1099511627776)(wZ:∀n,0<=bJ ss n/\bJ ss n<=999):
  Ok prog 311 [.agg (aV .view b),.sl .view 1 (ss.map (dZ .view)),.agg (lS x)] (.gM [.agg (aV .own (bV b ss x).1),.str (bV b ss x).2.1,.str (bV b ss x).2.2]):=by
 by_cases h1:x.op=1
 .exact aHh b ss x hs hx hl hr wZ h1
 by_cases h2:x.op=2
 .exact aHi b ss x hs hx hl hr wZ h2
 by_cases h3:x.op=3
 .exact aHk b ss x hs hx hl hr wZ h3
 by_cases h4:x.op=4
 .exact aHm b ss x hs hx hl hr wZ h4
 by_cases h5:x.op=5
 .exact aHn b ss x hs hx hl hr wZ h5
 exact aHj b ss x hs hx hl hr wZ ⟨h1,h2,h3,h4,h5⟩
theorem TZ[aB prog][dM prog](b:bE)(ss:List gT)(x:jW)(hs:aU b<=274877906944)(hx:x.text.length<=268435456)(hl:ss.length<=1099511627776)(hr:∀x∈ss,x.rules.length<=1099511627776)(wZ:∀n,0<=bJ ss n/\bJ ss n<=999):
  Ok prog 244 [.agg (aV .view b),.sl .view 1 (ss.map (dZ .view)),.agg (lS x)] (.gM [.agg (aV .own (bV b ss x).1),.str (bV b ss x).2.1,.str (bV b ss x).2.2]):=by
 by_cases h1:x.op=1
 .exact aHo b ss x hs hx hl hr wZ h1
 by_cases h2:x.op=2
 .exact aHp b ss x hs hx hl hr wZ h2
 by_cases h3:x.op=3
 .exact aHr b ss x hs hx hl hr wZ h3
 by_cases h4:x.op=4
 .exact aHs b ss x hs hx hl hr wZ h4
 by_cases h5:x.op=5
 .exact aHt b ss x hs hx hl hr wZ h5
 exact aHq b ss x hs hx hl hr wZ ⟨h1,h2,h3,h4,h5⟩
end Go.Proofs.YthddijamfbfibaaGreatDoor
set_option maxRecDepth 4000
set_option maxHeartbeats 4000000
namespace Go.Proofs.YthddijamfbfibaaGreatDoor
open Go.Aw Proofs.Tryz List IntKind
theorem qZ{α:Type}{f:α->List AV}{i j:Nat}(h:∀x,rP i j (f x)=f x):∀l:List α,qV i j (l.map f)=l.map f
 |[]=>rfl
 |x::l=>by simp only[mB,qV,h,qZ h l]
@[simp] theorem aQ8(i j:Nat)(l:List bB):qV i j (l.map dC)=l.map dC:=qZ (λ_=>rfl) l
@[simp] theorem aQ9(i j:Nat)(l:List Int):qV i j (l.map mM)=l.map mM:=qZ (λ_=>rfl) l
@[simp] theorem aPs(i j:Nat)(l:List oU):qV i j (l.map uX)=l.map uX:=qZ (λ_=>rfl) l
@[simp] theorem aPt(i j:Nat)(l:List jW):qV i j (l.map lS)=l.map lS:=qZ (λ_=>rfl) l
@[simp] theorem aPu(i j:Nat)(l:List FM):qV i j (l.map Ao)=l.map Ao:=qZ (λ_=>rfl) l
@[simp] theorem aLv(i j:Nat)(l:List gT):qV i j (l.map (dZ .view))=l.map (dZ .view):=qZ (λ_=>by simp) l
@[simp] theorem aNm(i j:Nat)(l:List jP):qV i j (l.map (fA .view))=l.map (fA .view):=qZ (λ_=>by simp) l
theorem ow{t t':List AV}{o o':List aN}{v:Nat}{n0 p0 n1 p1 lg:List (List AV)}{o0 o1 o6:aN}
  (ho:o.take 10=[o0,o1,⟨true,false,4,1,n0⟩,⟨true,false,1,1,p0⟩,⟨true,true,2,0,[[.obj 7 1,.obj 8 1]]⟩,⟨true,false,1,v,lg⟩,o6,⟨true,false,4,1,n1⟩,⟨true,false,1,1,p1⟩,⟨true,true,2,0,[[.obj 7 1,.obj 8 1]]⟩])
  (ho':o'=[o0,o1,⟨true,false,4,1,n1⟩,⟨true,false,1,1,p1⟩,⟨true,true,2,0,[[.obj 2 1,.obj 3 1]]⟩,⟨true,false,1,v,lg⟩])
  (hf:(o0.lV 2 7=o0/\o1.lV 2 7=o1/\o6.lV 2 7=o6)/\(o0.lV 3 8=o0/\o1.lV 3 8=o1/\o6.lV 3 8=o6)) (hw:wk t t') (h1:wk (rP 2 7 t') t') (h3:wk (rP 3 8 t') t') (hc:eP 6 t'=true) (hc1:eP 10 t'=true) (hc0:dB 6 [o0,o1]=true) (ZX:dB 10 [o0,o1,o6]=true):lC ⟨t,o⟩ ⟨t',o'⟩:=by
 subst ho';obtain⟨⟨a0,a1,a6⟩,b0,b1,b6⟩:=hf;refine(aT 10 ho hw hc1 (by simpa [dB,eP,closed,GF]using ZX)).trans ?_;refine(aS 2 7 rfl rfl ⟨rfl,rfl⟩ (by simp[a0,a1,a6];rfl) h1).trans ?_;refine(aS 3 8 rfl rfl ⟨rfl,rfl⟩ (by simp[b0,b1,b6];rfl) h3).trans ?_;refine aT 6 (by simp) (lK _) hc ?_;simpa [dB,eP,closed]using hc0
end Go.Proofs.YthddijamfbfibaaGreatDoor
set_option maxRecDepth 4000
set_option maxHeartbeats 4000000
namespace Go.Proofs.YthddijamfbfibaaGreatDoor
open Go.Aw Proofs.Tryz List IntKind
theorem Ju[aB prog][bQ prog](s:bB)(c:UInt8):Ok prog 167 [.str s,.int .u8 c.toNat] (.int .i64 (gy c s)):=by have h1:=Bo s c;refine bM aG func167 ntmps167 ?_;refine aZ ?_;exact aF results167
def Dn(t:bT×Bool):List bT:=if t.2=true then [t.1]else []
def jC(x:bB):Option (List bT×bB):=
 if 0<iK 60 x/\iK 60 x<x.length then some ([⟨3,[],[],x.take (iK 60 x)⟩],x.drop (iK 60 x))
 else if iK 60 x≠0\/iK 62 x=x.length then none
 else some (Dn (sI ((x.take (iK 62 x)).drop 1)),x.drop (iK 62 x+1))
theorem GZ{x:bB}{ts:List bT}{y:bB}(h:jC x=some (ts,y)):y.length<x.length/\ts.length<=1/\aY bW ts+y.length<=x.length:=by
 unfold jC at h;split at h
 .rename_i hc;simp only[eE,oX]at h;obtain⟨rfl,rfl⟩:=h;simp[aY,bW,bP];omega
 .split at h
  .cases h
  .rename_i hc;have h62:=vI 62 x;simp only[eE,oX]at h;obtain⟨rfl,rfl⟩:=h;have hz:=aHd ((x.take (iK 62 x)).drop 1);simp only[AE,oT]at hz;generalize sI ((x.take (iK 62 x)).drop 1)=tg at*;unfold Dn;split<;>simp[aY]<;>omega
def Ha:Nat->bB->List bT×bB
 |0,x=>([],x)
 |n+1,x=>match jC x with
  |none=>([],x)
  |some (ts,y)=>(ts++(Ha n y).1,(Ha n y).2)
def feed(x:bB):List bT×bB:=Ha x.length x
theorem Fq:∀(n:Nat) (x:bB),x.length<=n->Ha n x=Ha x.length x
 |0,x,h=>by rw[show x.length=0 by omega]
 |n+1,x,h=>by
  cases hs:jC x with
  |none=>
   cases hx:x.length with
   |zero=>simp[Ha,hs]
   |succ m=>simp[Ha,hs]
  |some q=>
   obtain⟨ts,y⟩:=q;have hlt:=(GZ hs).1;cases hx:x.length with
   |zero=>omega
   |succ m=>simp only[Ha,hs];rw[Fq n y (by omega),Fq m y (by omega)]
theorem Eo{x:bB}{ts:List bT}{y:bB}(h:jC x=some (ts,y)):feed x=(ts++(feed y).1,(feed y).2):=by
 have hlt:=(GZ h).1;unfold feed;cases hx:x.length with
 |zero=>omega
 |succ m=>simp only[Ha,h];rw[Fq m y (by omega)]
theorem Ep{x:bB}(h:jC x=none):feed x=([],x):=by
 unfold feed;cases hx:x.length with
 |zero=>simp[Ha]
 |succ m=>simp[Ha,h]
theorem Dp:∀(n:Nat) (x:bB),x.length<=n->(feed x).1.length+(feed x).2.length<=x.length/\aY bW (feed x).1+(feed x).2.length<=x.length
 |n,x,h=>by
  cases hs:jC x with
  |none=>rw[Ep hs];simp[aY]
  |some q=>
   obtain⟨ts,y⟩:=q;obtain⟨h1,h2,h3⟩:=GZ hs;rw[Eo hs];cases n with
   |zero=>omega
   |succ n=>
    obtain⟨i1,i2⟩:=Dp n y (by omega);have hj:∀a b:List bT,aY bW (a++b)=aY bW a+aY bW b:=by
     intro a b;induction a with
     |nil=>simp[aY]
     |cons x xs ih=>simp only[eA,aY,ih];omega
    simp only[eR,hj];omega
theorem aAr{x:bB}(h0:iK 60 x=0)(h1:iK 62 x<x.length):1<=iK 62 x:=by
 cases x with
 |nil=>simp at h1
 |cons c r=>
  rw[BS]at h0⊢;by_cases hc:c=60
  .subst hc;rw[cY (by decide)];omega
  .rw [cY hc]at h0;omega
theorem FU[aB prog][bQ prog](t:nM)(s:bB)(hl:t.rest.length+s.length<=274877906944):Ok prog 75 [.agg (dP t),.str s] (.gM [.sl .own 4 ((feed (t.rest++s)).1.map (cB .own)),.agg [.str (feed (t.rest++s)).2]]):=by
 obtain⟨rest⟩:=t;simp only at hl⊢;have hx0:(rest++s).length<=274877906944:=by simp;omega
 have hj:rest.length+s.length<=9223372036854775807:=by omega
 generalize hx:rest++s=x0 at*;generalize hF:feed x0=F at*;refine bM aG func75 ntmps75 ?_;have W:=aA hj hx;refine we ?_;refine aM (ι:={q:bB×List bT×Nat // (q.2.1.length+q.1.length<=x0.length/\1<=q.2.2)/\F=(q.2.1++(feed q.1).1,(feed q.1).2)}) (λt o i=>⟨bC t [(6,.obj 2 i.1.2.2),(7,.str i.1.1)],[⟨true,true,1,0,[[.str rest]]⟩,⟨true,true,1,0,[[.str []]]⟩,⟨true,false,4,i.1.2.2,i.1.2.1.map (cB .own)⟩]⟩)
  (λi=>i.1.1.length) ⟨(x0,[],1),by simp,by simp[hF]⟩ aK ?_
 rintro⟨⟨x,acc,v⟩,⟨hal,hv⟩,rO⟩ K1 hK1;simp only at hal hv rO;simp only[bC,cW,cU]at hK1⊢;have cK:Ok prog 130 [.str x,.int .u8 60] (.int .i64 (iK 60 x:Nat)):=Ku x 60 (by omega);have cE:Ok prog 130 [.str x,.int .u8 62] (.int .i64 (iK 62 x:Nat)):=Ku x 62 (by omega);have hkl:=vI 60 x;have hel:=vI 62 x;have h1e:=aAr (x:=x);have cT:=Zt ((x.take (iK 62 x)).drop 1) (by simp;omega);simp only[cB,drop_one]at cT;have hst:jC x=_:=rfl;unfold jC at hst;by_cases hA:0<iK 60 x/\iK 60 x<x.length
 .have ED:jC x=some ([⟨3,[],[],x.take (iK 60 x)⟩],x.drop (iK 60 x)):=by unfold jC;rw[eK hA]
  rw[Eo ED]at rO;have hA1:(0:Int)<((iK 60 x:Nat):Int):=by omega
  have hA2:((iK 60 x:Nat):Int)<(x.length:Int):=by omega
  clear hst ED cT cE h1e hel;generalize iK 60 x=k at*;have hb1:(acc.length+1)*64<=140737488355328:=by omega
  have W:=aA hA1 (aA hA2 hb1);refine we ?_;all_goals refine hK1 _ ⟨(x.drop k,acc++[⟨3,[],[],x.take k⟩],v+1),⟨by simp;omega,by simp only;omega⟩,by rw[rO];simp⟩ (aT 3) (by simp;omega)
 .by_cases hB:iK 60 x≠0\/iK 62 x=x.length
  .have ED:jC x=none:=by unfold jC;rw[cY hA,eK hB]
   rw[Ep ED]at rO;subst rO;clear hst ED cT h1e hK1;by_cases hk0:iK 60 x=0
   .have hee:iK 62 x=x.length:=by rcases hB with h|h;exact absurd hk0 h;exact h
    rw[hk0]at cK;rw[hee]at cE;clear hA hB;refine aZ ?_;exact aF results75
   .have hkk:iK 60 x=x.length:=by omega
    have hx1:¬x=[]:=by rintro rfl;simp at hkk;exact hk0 hkk
    have hx2:0<x.length:=Dg.2 hx1;rw[hkk]at cK;clear hA hB hk0;have W:=aA hx1 hx2;refine we ?_;exact aF results75
  .have ED:jC x=some (Dn (sI ((x.take (iK 62 x)).drop 1)),x.drop (iK 62 x+1)):=by unfold jC;rw[cY hA,cY hB]
   rw[Eo ED]at rO;have hk0:iK 60 x=0:=by omega
   have hE1:=h1e hk0 (by omega);have Rk:iK 62 x<x.length:=by omega
   rw[hk0]at cK;clear hst ED h1e hA hB hk0 hkl;generalize iK 62 x=e at*;rw[drop_one]at rO;generalize sI (x.take e).tail=tg at*;obtain⟨tk,ok⟩:=tg;simp only at cT;have hE3:¬((e:Int)=(x.length:Int)):=by omega
   have hE4:(1:Int)<=(e:Int):=by omega
   have hE5:(e:Int)<=(x.length:Int):=by omega
   have hw:i64.wrap ((e:Int)+1)=((e+1:Nat):Int):=by rw[wrap64]<;>omega
   have hE6:e+1<=x.length:=by omega
   have hb1:(acc.length+1)*64<=140737488355328:=by omega
   cases ok
   .simp only[Dn,eS,hM,eM]at rO;have W:=aA hE3 (aA hE4 (aA hE5 (aA hw (aA hE6 hE1))));refine we ?_;all_goals refine hK1 _ ⟨(x.drop (e+1),acc,v),⟨by simp;omega,hv⟩,rO⟩ (aT 3) (by simp;omega)
   .simp only[Dn,gE]at rO;have W:=aA hE3 (aA hE4 (aA hE5 (aA hw (aA hE6 (aA hE1 hb1)))));refine we ?_;all_goals refine hK1 _ ⟨(x.drop (e+1),acc++[tk],v+1),⟨by simp;omega,by simp only;omega⟩,by rw[rO];simp⟩ (aT 3) (by simp;omega)
theorem FV[aB prog][bQ prog](t:nM)(s:bB)(hl:t.rest.length+s.length<=274877906944):Ok prog 99 [.agg (dP t),.str s] (.gM [.sl .own 4 ((feed (t.rest++s)).1.map (cB .own)),.agg [.str (feed (t.rest++s)).2]]):=by
 obtain⟨rest⟩:=t;simp only at hl⊢;have hx0:(rest++s).length<=274877906944:=by simp;omega
 have hj:rest.length+s.length<=9223372036854775807:=by omega
 generalize hx:rest++s=x0 at*;generalize hF:feed x0=F at*;refine bM aG func99 ntmps99 ?_;have W:=aA hj hx;refine we ?_;refine aM (ι:={q:bB×List bT×Nat // (q.2.1.length+q.1.length<=x0.length/\1<=q.2.2)/\F=(q.2.1++(feed q.1).1,(feed q.1).2)}) (λt o i=>⟨bC t [(7,.obj 2 i.1.2.2),(6,.str i.1.1)],[⟨true,true,1,0,[[.str rest]]⟩,⟨true,true,1,0,[[.str []]]⟩,⟨true,false,4,i.1.2.2,i.1.2.1.map (cB .own)⟩]⟩)
  (λi=>i.1.1.length) ⟨(x0,[],1),by simp,by simp[hF]⟩ aK ?_
 rintro⟨⟨x,acc,v⟩,⟨hal,hv⟩,rO⟩ K1 hK1;simp only at hal hv rO;simp only[bC,cW,cU]at hK1⊢;cases hxc:x with
 |nil=>
  have ED:jC []=none:=by simp[jC,Y8]
  rw[hxc,Ep ED]at rO;subst rO;clear hK1;refine aZ ?_;exact aF results99
 |cons c r=>
  have hx1:¬x=[]:=by rw[hxc];simp
  have hx2:x[0]? =some c:=by rw[hxc];rfl
  rw[<-hxc];have cK:Ok prog 167 [.str x,.int .u8 60] (.int .i64 (gy 60 x)):=Ju x 60;have cE:Ok prog 167 [.str x,.int .u8 62] (.int .i64 (gy 62 x)):=Ju x 62;unfold gy at cK cE;have hkl:=vI 60 x;have hel:=vI 62 x;have h1e:=aAr (x:=x);have cT:=Zo ((x.take (iK 62 x)).drop 1) (by simp;omega);simp only[cB,drop_one]at cT;by_cases pq:c=60
  .have hk0:iK 60 x=0:=by rw[hxc,BS,eK pq]
   have hc1:(c.toNat:Int)=60:=by rw[pq];rfl
   have hA:¬(0<iK 60 x/\iK 60 x<x.length):=by omega
   by_cases hB:iK 62 x=x.length
   .have ED:jC x=none:=by unfold jC;rw[cY hA,eK (.inr hB)]
    rw[Ep ED]at rO;subst rO;rw[cY (by omega)]at cE;clear ED cT h1e hK1 hA hB hxc pq cK hk0;have W:=aA hx1 (aA hx2 hc1);repeat' first|refine wf ?_|(refine sq ?_ ?_<;>intro hc<;>try exact hc.elim)|fail
    all_goals (try exact aF results99)
   .have ED:jC x=some (Dn (sI ((x.take (iK 62 x)).drop 1)),x.drop (iK 62 x+1)):=by unfold jC;rw[cY hA,cY (by rintro(h|h);exact h hk0;exact hB h)]
    rw[Eo ED]at rO;have hE1:=h1e hk0 (by omega);have Rk:iK 62 x<x.length:=by omega
    rw[eK Rk]at cE;clear ED h1e hA hB hkl hxc pq cK hk0;generalize iK 62 x=e at*;rw[drop_one]at rO;generalize sI (x.take e).tail=tg at*;obtain⟨tk,ok⟩:=tg;simp only at cT;have hE4:(1:Int)<=(e:Int):=by omega
    have hE5:(e:Int)<=(x.length:Int):=by omega
    have hw:i64.wrap ((e:Int)+1)=((e+1:Nat):Int):=by rw[wrap64]<;>omega
    have hE6:e+1<=x.length:=by omega
    have hb1:(acc.length+1)*64<=140737488355328:=by omega
    cases ok
    .simp only[Dn,eS,hM,eM]at rO;have W:=aA hx1 (aA hx2 (aA hc1 (aA hE4 (aA hE5 (aA hw (aA hE6 hE1))))));repeat' first|refine wf ?_|(refine sq ?_ ?_<;>intro hc<;>try exact hc.elim)|fail
     all_goals first|(exact absurd hc hx1)|refine hK1 _ ⟨(x.drop (e+1),acc,v),⟨by simp;omega,hv⟩,rO⟩ (aT 3) (by simp;omega)
    .simp only[Dn,gE]at rO;have W:=aA hx1 (aA hx2 (aA hc1 (aA hE4 (aA hE5 (aA hw (aA hE6 (aA hE1 hb1)))))));repeat' first|refine wf ?_|(refine sq ?_ ?_<;>intro hc<;>try exact hc.elim)|fail
     all_goals first|(exact absurd hc hx1)|refine hK1 _ ⟨(x.drop (e+1),acc++[tk],v+1),⟨by simp;omega,by simp only;omega⟩,by rw[rO];simp⟩ (aT 3) (by simp;omega)
  .have hk0:0<iK 60 x:=by rw[hxc,BS,cY pq];omega
   have hc1:¬(c.toNat:Int)=60:=λh=>pq (CD.1 (by simp;omega))
   by_cases hB:iK 60 x<x.length
   .have ED:jC x=some ([⟨3,[],[],x.take (iK 60 x)⟩],x.drop (iK 60 x)):=by unfold jC;rw[eK ⟨hk0,hB⟩]
    rw[Eo ED]at rO;rw[eK hB]at cK;clear ED cT cE h1e hel hxc pq;generalize iK 60 x=k at*;have hA1:(0:Int)<(k:Int):=by omega
    have hA2:(k:Int)<(x.length:Int):=by omega
    have hb1:(acc.length+1)*64<=140737488355328:=by omega
    have W:=aA hx1 (aA hx2 (aA hc1 (aA hA1 (aA hA2 hb1))));repeat' first|refine wf ?_|(refine sq ?_ ?_<;>intro hc<;>try exact hc.elim)|fail
    all_goals first|(exact absurd hc hx1)|refine hK1 _ ⟨(x.drop k,acc++[⟨3,[],[],x.take k⟩],v+1),⟨by simp;omega,by simp only;omega⟩,by rw[rO];simp⟩ (aT 3) (by simp;omega)
   .have ED:jC x=none:=by unfold jC;rw[cY (by omega),eK (.inl (by omega))]
    rw[Ep ED]at rO;subst rO;rw[cY hB]at cK;clear ED cT h1e hK1 hB hxc pq cE hk0;have W:=aA hx1 (aA hx2 hc1);repeat' first|refine wf ?_|(refine sq ?_ ?_<;>intro hc<;>try exact hc.elim)|fail
    all_goals (try exact aF results99)
end Go.Proofs.YthddijamfbfibaaGreatDoor
set_option maxRecDepth 4000
set_option maxHeartbeats 4000000
namespace Go.Proofs.YthddijamfbfibaaGreatDoor
open Go.Aw Proofs.Tryz List IntKind
def vS(s:bB):List bT:=(feed s).1++kM ⟨(feed s).2⟩
theorem Hd(t:nM):aY bW (kM t)<=t.rest.length/\(kM t).length<=1:=by
 unfold kM;split
 .simp [aY]
 .simp [aY,bW,bP]
theorem He(s:bB):(vS s).length<=s.length+1/\aY bW (vS s)<=s.length:=by
 obtain⟨h1,h2⟩:=Dp s.length s (eC _);obtain⟨h3,h4⟩:=Hd ⟨(feed s).2⟩;have hj:∀a b:List bT,aY bW (a++b)=aY bW a+aY bW b:=by
  intro a b;induction a with
  |nil=>simp[aY]
  |cons x xs ih=>simp only[eA,aY,ih];omega
 simp only[vS,eR,hj]at*;omega
theorem Qu[aB prog][bQ prog](s:bB)(hl:s.length<=1048576):Ok prog 186 [.str s] (.sl .own 4 ((vS s).map (cB .own))):=by
 have c1:=FU ⟨[]⟩ s (by simp;omega);obtain⟨h1,h2⟩:=Dp s.length s (eC _);simp only[eM,dP]at c1;unfold vS;generalize feed s=f at*;obtain⟨l,x⟩:=f;simp only at c1 h1 h2⊢;have c2:=GY ⟨x⟩ (by simp only;omega);have h4:=(Hd ⟨x⟩).2;simp only[dP]at c2;generalize kM ⟨x⟩=g at*;have hb1:(l.length+g.length)*64<=140737488355328:=by omega
 refine bM aG func186 ntmps186 ?_;have W:=hb1;refine we ?_;all_goals try(refine aR ?_;simp[aP,results186])
 all_goals (first|(rw[<-oY];exact mO _)|simp)
theorem Qv[aB prog][bQ prog](s:bB)(hl:s.length<=1048576):Ok prog 269 [.str s] (.sl .own 4 ((vS s).map (cB .own))):=by
 have c1:=FV ⟨[]⟩ s (by simp;omega);obtain⟨h1,h2⟩:=Dp s.length s (eC _);simp only[eM,dP]at c1;unfold vS;generalize feed s=f at*;obtain⟨l,x⟩:=f;simp only at c1 h1 h2⊢;have c2:=GX ⟨x⟩ (by simp only;omega);have h4:=(Hd ⟨x⟩).2;simp only[dP]at c2;generalize kM ⟨x⟩=g at*;have hb1:(l.length+g.length)*64<=140737488355328:=by omega
 refine bM aG func269 ntmps269 ?_;have W:=hb1;refine we ?_;all_goals try(refine aR ?_;simp[aP,results269])
 all_goals (first|(rw[<-oY];exact mO _)|simp)
end Go.Proofs.YthddijamfbfibaaGreatDoor
set_option maxRecDepth 4000
set_option maxHeartbeats 4000000
namespace Go.Proofs.YthddijamfbfibaaGreatDoor
open Go.Aw Proofs.Tryz List IntKind
def Fw(n:bB):Bool:=decide (n=[105,109,103]) || decide (n=[108,105,110,107])
def yU(b:bE)(m:bB)(n:Int):Bool:=decide (0<=n)&&(b.nodes[n.toNat]?).any λx=>decide (x.name=m)
def qM(b:bE)(m:bB):Nat->List Int
 |0=>b.opens
 |i+1=>if (b.opens[i+1]?).any (yU b m)then b.opens.take (i+1)else qM b m i
def nJ(t:bT):Bool:=decide (t.kind=1)&& !Fw t.name
def uE(b:bE)(t:bT):jP:=if t.kind=1 then⟨t.name,[],b.opens.getLastD 0,t.attrs⟩else⟨[],t.text,b.opens.getLastD 0,[]⟩
def addToken(b:bE)(t:bT):bE×Int:=
 if t.kind=2 then({b with opens:=qM b t.name (b.opens.length-1)}, -1)
 else if¬(t.kind=1\/(t.kind=3/\t.text≠[]))then(b, -1)
 else if 40<=b.nodes.length\/b.opens=[]\/(nJ t=true/\8<=b.opens.length)then(b, -1)
 else({nodes:=b.nodes++[uE b t],opens:=if nJ t=true then b.opens++[((b.nodes.length:Nat):Int)]else b.opens},((b.nodes.length:Nat):Int))
theorem PN(b:bE)(m:bB):∀k,(qM b m k).length<=b.opens.length
 |0=>eC _
 |k+1=>by
  unfold qM;split
  .simp;omega
  .exact PN b m k
theorem Wn[aB prog](n:bB):Ok prog 270 [.str n] (.bool (Fw n)):=by
 unfold Fw;refine bM aG func270 ntmps270 ?_;have W:=trivial;repeat' first|refine wf ?_|(refine sq ?_ ?_<;>intro hc<;>try exact hc.elim)|fail
 all_goals try(refine aR ?_;simp[aP,results270])
 all_goals first|(simp[hc];done)|(rw[Bool.eq_iff_iff];simp[hc])
theorem Wo[aB prog](n:bB):Ok prog 247 [.str n] (.bool (Fw n)):=by
 unfold Fw;refine bM aG func247 ntmps247 ?_;have W:=trivial;repeat' first|refine wf ?_|(refine sq ?_ ?_<;>intro hc<;>try exact hc.elim)|fail
 all_goals try(refine aR ?_;simp[aP,results247])
 all_goals first|(simp[hc];done)|(rw[Bool.eq_iff_iff];simp[hc])
theorem qd{b:bE}{m:bB}{n:Int}(h:¬(0<=n/\n<(b.nodes.length:Int))):yU b m n=false:=by
 unfold yU;by_cases h0:0<=n
 .rw [pC (by omega)];simp
 .simp [h0]
theorem Rm{b:bE}{m:bB}{k:Nat}(h:k<b.nodes.length):yU b m ((k:Nat):Int)=decide (b.nodes[k].name=m):=by unfold yU;simp[aE h]
end Go.Proofs.YthddijamfbfibaaGreatDoor
set_option maxRecDepth 4000
set_option maxHeartbeats 4000000
namespace Go.Proofs.YthddijamfbfibaaGreatDoor
open Go.Aw Proofs.Tryz List IntKind
theorem O6(p:aI)(a:aD)(k:Nat):bP bL (wJ p a k)=bP bL p.aO+1+aQ a:=by
 have h1:aY bL (p.aO.take k)+aY bL (p.aO.drop k)=aY bL p.aO:=by rw[<-jE,oA]
 have h2:(p.aO.take k).length+(p.aO.drop k).length=p.aO.length:=by rw[<-eR,oA]
 have h3:bL (Cr p a)=aQ a:=by unfold Cr;split<;>simp[bL]
 simp only[wJ,bP,eR,eN,jE,aY,h3];omega
theorem aP5(p:aI)(a:aD):aL (eT p a)<=aL p+aQ a+1:=by
 have h:=O6 p a (wU p.aO a);unfold eT;split
 .split
  .omega
  .simp only[aL,h];omega
 .simp only[aL,h];omega
end Go.Proofs.YthddijamfbfibaaGreatDoor
set_option maxRecDepth 4000
set_option maxHeartbeats 4000000
namespace Go.Proofs.YthddijamfbfibaaGreatDoor
open Go.Aw Go.Sort Go.Lib Proofs.Tryz List IntKind
theorem aIj:∀{r s:List aD},upA r->upA s->(∀a,a∈r↔a∈s)->r=s
 |[],[],_,_,_=>rfl
 |[],b::s,_,_,h=>by have:=(h b).2 (by simp);simp at this
 |a::r,[],_,_,h=>by have:=(h a).1 (by simp);simp at this
 |a::r,b::s,hr,hs,h=>by
  unfold upA at hr hs;rw[pairwise_cons]at hr hs;have e:a=b:=by
   rcases gS.1 ((h a).1 (by simp))with e|h1
   .exact e
   .rcases gS.1 ((h b).2 (by simp))with e|h2
    .exact e.symm
    .have:=vY (hs.1 a h1) (hr.1 b h2);rw[BN]at this;cases this
  subst e;refine zE (a:: ·) (aIj hr.2 hs.2 λx=>⟨λhx=> ?_,λhx=> ?_⟩)
  .rcases gS.1 ((h x).1 (by simp[hx]))with e|h1
   .have:=hr.1 x hx;rw[e,BN]at this;cases this
   .exact h1
  .rcases gS.1 ((h x).2 (by simp[hx]))with e|h1
   .have:=hs.1 x hx;rw[e,BN]at this;cases this
   .exact h1
theorem Qg(zs:List aD):∀i,i<zs.length->zs.toArray[i]!∈Lib.compact zs
 |i,hi=>by
  by_cases hk:keeps zs.toArray i=true
  .unfold Lib.compact compactUpTo;exact AG.2 ⟨i,BT.2 ⟨mem_range.2 hi,hk⟩,rfl⟩
  .have h1:¬(i=0\/zs.toArray[i]!≠zs.toArray[i-1]!):=by simpa [keeps]using hk
   have h2:zs.toArray[i]! =zs.toArray[i-1]!:=sX λh=>h1 (.inr h)
   rw[h2];exact Qg zs (i-1) (by omega)
termination_by i => i
decreasing_by omega
theorem vz(zs:List aD)(x:aD):x∈Lib.compact zs↔x∈zs:=by
 constructor
 .intro h;unfold Lib.compact compactUpTo at h;obtain⟨i,hi,rfl⟩:=AG.1 h;have hi:=mem_range.1 (BT.1 hi).1;rw[DH zs.toArray i (by simpa using hi)];simp
 .intro h;obtain⟨i,hi,rfl⟩:=FG h;have:=Qg zs i hi;rw[DH zs.toArray i (by simpa using hi)]at this;simpa using this
theorem Q8(zs:List aD)(hs:∀i j,i<j->j<zs.length->uS zs.toArray[j]! zs.toArray[i]! =false):upA (Lib.compact zs):=by
 unfold upA Lib.compact compactUpTo;rw[pairwise_map];have h:=Pairwise.filter (keeps zs.toArray) (pairwise_lt_range (n:=zs.length));refine h.imp_of_mem ?_;intro i j hi hj hij;obtain⟨hj1,hj2⟩:=BT.1 hj;have hj1:=mem_range.1 hj1;have hne:zs.toArray[j]!≠zs.toArray[j-1]!:=by
  have:j=0\/zs.toArray[j]!≠zs.toArray[j-1]!:=by simpa [keeps]using hj2
  rcases this with e|h
  .omega
  .exact h
 have h1:=EB hne (hs (j-1) j (by omega) hj1);by_cases e:i=j-1
 .rw [e];exact h1
 .by_cases e2:zs.toArray[i]! =zs.toArray[j-1]!
  .rw [e2];exact h1
  .have h2:=hs i (j-1) (by omega) (by omega);exact vY (EB (λe=>e2 e.symm) h2) h1
theorem ZH(l:List aD)(i j:Nat)(hij:i<j)(hj:j<(Ga l).length):uS (Ga l).toArray[j]! (Ga l).toArray[i]! =false:=by have hlen:=EC l;have h:=(pdq_sorts (ltOf kG) aQd l.toArray 0 l.toArray.size (Lib.bitLen l.toArray.size) true true (Fo _) (eC _) (Or.inl rfl)).2;have h2:=h i j (Fo _) hij (by simp only[DB];omega);rw[Rs]at h2;unfold Ga;simpa using h2
def CG(l:List aD):List aD:=Lib.compact (Ga l)
theorem aC8(l:List aD)(a:aD):a∈CG l↔a∈l:=by unfold CG;rw[vz];exact(KS l).mem_iff
theorem aIk(l:List aD):upA (CG l):=Q8 _ (ZH l)
theorem OL(l:List aD):(CG l).length<=l.length:=by rw[<-EC l];unfold CG Lib.compact compactUpTo;rw[mL];exact lB (oB _ _) (by simp)
theorem wh(zs:List aD):(Lib.compact zs).Sublist zs:=by
 have h:((range zs.length).map (zs.toArray[·]!))=zs:=by have:=range_map_get zs.toArray;simpa using this
 unfold Lib.compact compactUpTo;rw[show zs.length=zs.toArray.size by simp]at*;have h2:=(filter_sublist (p:=keeps zs.toArray) (l:=range zs.toArray.size)).map (zs.toArray[·]!);rw[h]at h2;exact h2
theorem aC9{α:Type}(f:α->Nat){a b:List α}(h:a.Perm b):aY f a=aY f b:=by
 induction h with
 |nil=>rfl
 |cons x _ ih=>simp only[aY,ih]
 |swap x y l=>simp only[aY];omega
 |trans _ _ h1 h2=>exact h1.trans h2
theorem aIl{α:Type}(f:α->Nat){a b:List α}(h:a.Sublist b):aY f a<=aY f b:=by
 induction h with
 |slnil=>exact eC _
 |cons x _ ih=>simp only[aY];omega
 |cons_cons x _ ih=>simp only[aY];omega
theorem aIm(l:List aD):bP aQ (CG l)<=bP aQ l:=by have h1:=aIl aQ (wh (Ga l));have h2:=aC9 aQ (KS l);have h3:=OL l;simp only[bP,CG]at*;omega
theorem aIn{l r:List aD}(hu:upA r)(hm:∀a,a∈r↔a∈l):r=CG l:=aIj hu (aIk l) λa=>by rw[hm,aC8]
end Go.Proofs.YthddijamfbfibaaGreatDoor
set_option maxRecDepth 8000
set_option maxHeartbeats 4000000
namespace Go.Proofs.YthddijamfbfibaaGreatDoor
open Go.Aw Proofs.Tryz List IntKind
theorem ZM[aB prog](l:List aD)(hl:l.length<=1099511627776):Ok prog 54 [.sl .view 2 (l.map aH)] (.sl .own 2 ((CG l).map aH)):=by
 have cS:=aIi l (by omega);have cK:=wu (Ga l) (by rw[EC];exact hl) (by have:=OL l;rw[EC];exact this);unfold CG;refine bM aG func54 ntmps54 ?_;have W:=trivial;repeat' first|refine wf ?_|(refine nx ?_;first|refine sm (hc:=cS) (h:=?_)|refine sg (hc:=cK) (h:=?_))|(refine sq ?_ ?_<;>intro hc<;>try exact hc.elim)|fail
 exact aF results54
end Go.Proofs.YthddijamfbfibaaGreatDoor
set_option maxRecDepth 4000
set_option maxHeartbeats 4000000
namespace Go.Proofs.YthddijamfbfibaaGreatDoor
open Go.Aw Proofs.Tryz List IntKind
@[simp] theorem aDz(u:List Nat)(b:Bool)(l:List fU):mX (iU u) b (l.map (bX .view))=l.map (bX .view):=bO (by intro x;simp) l
theorem U9(x:fU):pK x<=7*(eZ x+1):=by unfold pK;rw[Cn];simp only[eZ,bP];omega
theorem aDe(n:kU)(h:kV n<=549755813888):aDd n<=10995116277760/\n.gD.length<=4611686018427387904/\∀x∈n.gD,x.files.length<=4611686018427387904:=by
 have h1:=Ya 7 U9 n.gD;simp only[kV,nS,bP]at h;refine⟨?_,by omega,λx hx=> ?_⟩
 .simp only[aDd,KU,Cn];omega
 .have h2:=bS eZ hx;simp only[eZ,bP]at h2;omega
end Go.Proofs.YthddijamfbfibaaGreatDoor
