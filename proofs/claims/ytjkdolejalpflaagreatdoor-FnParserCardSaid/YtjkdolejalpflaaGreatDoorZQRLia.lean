/- Proved here: steps towards the statement of this claim. No condition. -/
import Derived.Test.YtjkdolejalpflaaGreatDoorZQT4
import Derived.Test.YtjkdolejalpflaaGreatDoorZI5
set_option linter.all false
set_option maxRecDepth 4000
set_option maxHeartbeats 4000000
namespace Go.Proofs.YtjkdolejalpflaaGreatDoor
open Go.Aw Proofs.Tryz List IntKind
theorem lu[aB prog][eD prog](b:aV)(ss:List eT)(x:iA)(hs:aF b<=274877906944)(hx:x.text.length<=268435456)(hl:ss.length<=1099511627776)(hr:∀x∈ss,x.rules.length<=1099511627776)(rU:∀n,0<=aZ ss n/\aZ ss n<=999)(hop:x.op=1):
  Ok prog 107 [.agg (aH .view b),.sl .view 1 (ss.map (cZ .view)),.agg (jO x)] (.fH [.agg (aH .own (bH b ss x).1),.str (bH b ss x).2.1,.str (bH b ss x).2.2]):=by
 have c1:=iP b hs;have hn:b.nodes.length<=274877906944:=by simp only[aF,dL]at hs;omega
 obtain⟨op,tx⟩:=x;simp only at hx hop;have c2:=mX tx (by omega);have c3:=lV b tx (by omega);have c4:=nT ss tx hl hr;have c5:=fQ tx (by omega);have c6:=kC (b.nodes.length:Int) 1 39;have hcn:0<=aN b tx/\aN b tx<=(b.nodes.length:Int):=by unfold aN;have:=lP (λx:gQ=>decide (x.name=tx)) b.nodes;omega
 have MX:=rU tx;have c7:=eH (aN b tx) (by omega);have c8:=eH (aZ ss tx) (by omega);have z7:=fM (aN b tx) (by omega) (by omega);have z8:=fM (aZ ss tx) (by omega) (by omega);simp only[aH]at c1 c3;clear hr rU;simp only[bH,tN,yJ,FX];generalize Lib.itoa (aN b tx)=i7 at*;generalize Lib.itoa (aZ ss tx)=i8 at*;generalize aN b tx=cn at*;generalize aZ ss tx=cc at*;subst hop;rw[eA rfl];refine dA aJ func107 ntmps107 ?_;refine bI ?_;exact aO results107
theorem mh[aB prog][eD prog](b:aV)(ss:List eT)(x:iA)(hs:aF b<=274877906944)(hx:x.text.length<=268435456)(hl:ss.length<=1099511627776)(hr:∀x∈ss,x.rules.length<=1099511627776)(rU:∀n,0<=aZ ss n/\aZ ss n<=999)(hop:x.op=4):
  Ok prog 107 [.agg (aH .view b),.sl .view 1 (ss.map (cZ .view)),.agg (jO x)] (.fH [.agg (aH .own (bH b ss x).1),.str (bH b ss x).2.1,.str (bH b ss x).2.2]):=by
 have c1:=iP b hs;have hn:b.nodes.length<=274877906944:=by simp only[aF,dL]at hs;omega
 obtain⟨op,tx⟩:=x;simp only at hx hop;have c2:=mX tx (by omega);have c3:=lV b tx (by omega);have c4:=nT ss tx hl hr;have c5:=fQ tx (by omega);have c6:=kC (b.nodes.length:Int) 1 39;have hcn:0<=aN b tx/\aN b tx<=(b.nodes.length:Int):=by unfold aN;have:=lP (λx:gQ=>decide (x.name=tx)) b.nodes;omega
 have MX:=rU tx;have c7:=eH (aN b tx) (by omega);have c8:=eH (aZ ss tx) (by omega);have z7:=fM (aN b tx) (by omega) (by omega);have z8:=fM (aZ ss tx) (by omega) (by omega);simp only[aH]at c1 c3;clear hr rU;simp only[bH,tN,yJ,FX];generalize Lib.itoa (aN b tx)=i7 at*;generalize Lib.itoa (aZ ss tx)=i8 at*;generalize aN b tx=cn at*;generalize aZ ss tx=cc at*;subst hop;rw[cU (by decide),cU (by decide),cU (by decide),eA rfl];clear c2 c3 c5 c6 c7 z7 hcn;have Ho:i8.length<=40:=by omega
 refine rR aJ [12] func107 ntmps107 ?_;refine bI ?_;rw[qU];refine FI (λJ=>⟨[.undef,.sl .view 1 (ss.map (cZ .view)),.undef,.ptr 0 0 0 0,.undef,.ptr 1 0 0 0,.ptr 2 0 0 0,dv J 12 (.str []),dv J 13 (.str ([108,111,111,107,32]++tx++[32]++i8)),.ptr 5 0 0 0,.undef,.undef,.undef,.undef,.undef,.undef,.undef,.undef,.undef,.undef,.undef,.undef,.undef,.undef,.undef,.undef,.undef,.undef,.undef,.undef,.undef,.undef,.undef,.undef,.undef,.undef,.undef,.undef,.undef,.undef,.undef,.undef,.undef,.undef,.undef,.undef,.undef,.undef,.undef,.undef,.undef,.undef,.undef,.undef,.undef,dv J 0 (.agg [.obj 3 1,.obj 4 1]),dv J 1 (.ptr 1 0 0 1),dv J 2 (.str tx),dv J 3 (.str ([108,111,111,107,32]++tx)),dv J 4 (.str ([108,111,111,107,32]++tx++[32])),dv J 5 (.sl .view 1 (ss.map (cZ .view))),dv J 6 (.ptr 1 0 0 1),dv J 7 (.str tx),dv J 8 (.int .i64 cc),dv J 9 (.str i8),dv J 10 (.str ([108,111,111,107,32]++tx++[32]++i8)),.undef,.undef,.undef,.undef,.undef,.undef,.undef],[⟨true,true,2,0,[[.sl .view 4 (b.nodes.map (dK .view)),.sl .view 1 (b.opens.map nP)]]⟩,⟨true,true,2,0,[[.int .i64 4,.str tx]]⟩,⟨true,true,2,0,[if J 11=true then [.obj 3 1,.obj 4 1]else [.sl .own 4 [],.sl .own 1 []]]⟩,⟨true,false,4,1,b.nodes.map (dK .own)⟩,⟨true,false,1,1,b.opens.map nP⟩,⟨true,true,2,0,[[.obj 3 1,.obj 4 1]]⟩]⟩) (aC (by simp[dv,hx,Ho]) (by simp[dv,hx,Ho])) (by decide) ?_ ?_
 .simp only[sN,mN];refine⟨⟨trivial,λJ h1 h2=>fG λK hK=> ?_⟩,⟨trivial,λJ h1 h2=>fG λK hK=> ?_⟩,⟨trivial,λJ h1 h2=>fG λK hK=> ?_⟩,⟨trivial,λJ h1 h2=>fG λK hK=> ?_⟩,⟨trivial,λJ h1 h2=>fG λK hK=> ?_⟩,⟨trivial,λJ h1 h2=>fG λK hK=> ?_⟩,⟨trivial,λJ h1 h2=>fG λK hK=> ?_⟩,⟨trivial,λJ h1 h2=>fG λK hK=> ?_⟩,⟨trivial,λJ h1 h2=>fG λK hK=> ?_⟩,⟨trivial,λJ h1 h2=>fG λK hK=> ?_⟩,⟨trivial,λJ h1 h2=>fG λK hK=> ?_⟩,⟨trivial,λJ h1 h2=>fG λK hK=> ?_⟩,⟨trivial,λJ h1 h2=>fG λK hK=> ?_⟩,⟨trivial,λJ h1 h2=>fG λK hK=> ?_⟩⟩;all_goals simp[Region.binds]at h2
  all_goals first
   |(simp[-Bool.exists_bool,nL,dv,h1,h2,hx,Ho];refine⟨_,(c4),hK _ (aC ?_ ?_)⟩<;>simp[dv,dW,h1,h2])
   |(simp[-Bool.exists_bool,nL,dv,h1,h2,hx,Ho];refine⟨_,(c8),hK _ (aC ?_ ?_)⟩<;>simp[dv,dW,h1,h2])
   |(simp[-Bool.exists_bool,nL,dv,h1,h2,hx,Ho];refine⟨?_,hK _ (aC ?_ ?_)⟩;(focus omega);all_goals simp[dv,dW,h1,h2])
   |(simp[-Bool.exists_bool,nL,dv,h1,h2,hx,Ho];refine hK _ (aC ?_ ?_)<;>simp[dv,dW,h1,h2])
 .intro J hJ;have hJs:J 0=true/\J 1=true/\J 2=true/\J 3=true/\J 4=true/\J 5=true/\J 6=true/\J 7=true/\J 8=true/\J 9=true/\J 10=true/\J 11=true/\J 12=true/\J 13=true:=⟨hJ 0 (by decide),hJ 1 (by decide),hJ 2 (by decide),hJ 3 (by decide),hJ 4 (by decide),hJ 5 (by decide),hJ 6 (by decide),hJ 7 (by decide),hJ 8 (by decide),hJ 9 (by decide),hJ 10 (by decide),hJ 11 (by decide),hJ 12 (by decide),hJ 13 (by decide)⟩;simp only[dv,hJs,eI];clear hJs hJ J;refine bI ?_;exact aO results107
theorem mi[aB prog][eD prog](b:aV)(ss:List eT)(x:iA)(hs:aF b<=274877906944)(hx:x.text.length<=268435456)(hl:ss.length<=1099511627776)(hr:∀x∈ss,x.rules.length<=1099511627776)(rU:∀n,0<=aZ ss n/\aZ ss n<=999)(hop:x.op=5):
  Ok prog 107 [.agg (aH .view b),.sl .view 1 (ss.map (cZ .view)),.agg (jO x)] (.fH [.agg (aH .own (bH b ss x).1),.str (bH b ss x).2.1,.str (bH b ss x).2.2]):=by
 have c1:=iP b hs;have hn:b.nodes.length<=274877906944:=by simp only[aF,dL]at hs;omega
 obtain⟨op,tx⟩:=x;simp only at hx hop;have c2:=mX tx (by omega);have c3:=lV b tx (by omega);have c4:=nT ss tx hl hr;have c5:=fQ tx (by omega);have c6:=kC (b.nodes.length:Int) 1 39;have hcn:0<=aN b tx/\aN b tx<=(b.nodes.length:Int):=by unfold aN;have:=lP (λx:gQ=>decide (x.name=tx)) b.nodes;omega
 have MX:=rU tx;have c7:=eH (aN b tx) (by omega);have c8:=eH (aZ ss tx) (by omega);have z7:=fM (aN b tx) (by omega) (by omega);have z8:=fM (aZ ss tx) (by omega) (by omega);simp only[aH]at c1 c3;clear hr rU;simp only[bH,tN,yJ,FX];generalize Lib.itoa (aN b tx)=i7 at*;generalize Lib.itoa (aZ ss tx)=i8 at*;generalize aN b tx=cn at*;generalize aZ ss tx=cc at*;subst hop;rw[cU (by decide),cU (by decide),cU (by decide),cU (by decide),eA rfl];refine dA aJ func107 ntmps107 ?_;refine bI ?_;exact aO results107
theorem mq[aB prog][eD prog](b:aV)(ss:List eT)(x:iA)(hs:aF b<=274877906944)(hx:x.text.length<=268435456)(hl:ss.length<=1099511627776)(hr:∀x∈ss,x.rules.length<=1099511627776)(rU:∀n,0<=aZ ss n/\aZ ss n<=999)(hop:x.op=2):
  Ok prog 75 [.agg (aH .view b),.sl .view 1 (ss.map (cZ .view)),.agg (jO x)] (.fH [.agg (aH .own (bH b ss x).1),.str (bH b ss x).2.1,.str (bH b ss x).2.2]):=by
 have c1:=iQ b hs;have hn:b.nodes.length<=274877906944:=by simp only[aF,dL]at hs;omega
 obtain⟨op,tx⟩:=x;simp only at hx hop;have c2:=mY tx (by omega);have c3:=lW b tx (by omega);have c4:=nU ss tx hl hr;have c5:=dX tx (by omega);have c6:=eX (b.nodes.length:Int) 1 39;have hcn:0<=aN b tx/\aN b tx<=(b.nodes.length:Int):=by unfold aN;have:=lP (λx:gQ=>decide (x.name=tx)) b.nodes;omega
 have MX:=rU tx;have c7:=dV (aN b tx) (by omega);have c8:=dV (aZ ss tx) (by omega);have z7:=fM (aN b tx) (by omega) (by omega);have z8:=fM (aZ ss tx) (by omega) (by omega);simp only[aH]at c1 c3;clear hr rU;simp only[bH,tN,yJ,FX];generalize Lib.itoa (aN b tx)=i7 at*;generalize Lib.itoa (aZ ss tx)=i8 at*;generalize aN b tx=cn at*;generalize aZ ss tx=cc at*;subst hop;rw[cU (by decide),eA rfl];by_cases hc:(1<=b.nodes.length/\b.nodes.length<=39)/\bP tx=true
 .rw [eA hc];rw[show(decide ((1:Int)<=(b.nodes.length:Int))&&decide ((b.nodes.length:Int)<=39))=true from by simp;omega]at c6;rw[hc.2]at c5;obtain⟨l0,hl0⟩:∃l,l=b.nodes++[(⟨tx,[],0,[]⟩:gQ)]:=⟨_,rfl⟩;have hap:b.nodes.map (dK .own)++[[.str tx,.str [],.int .i64 0,.sl .own 2 []]]=l0.map (dK .own):=by rw[hl0];simp
  rw[<-hl0];clear hl0 hc;refine dA aJ func75 ntmps75 ?_;have W:=aA hap hn;refine we ?_;exact aO results75
 .rw [cU hc];by_cases hc1:1<=b.nodes.length/\b.nodes.length<=39
  .have Rq:bP tx=false:=by
    cases h:bP tx with
    |false=>rfl
    |true=>exact absurd ⟨hc1,h⟩ hc
   rw[show(decide ((1:Int)<=(b.nodes.length:Int))&&decide ((b.nodes.length:Int)<=39))=true from by simp;omega]at c6;rw[Rq]at c5;clear hc;refine dA aJ func75 ntmps75 ?_;refine bI ?_;exact aO results75
  .rw [show(decide ((1:Int)<=(b.nodes.length:Int))&&decide ((b.nodes.length:Int)<=39))=false from by simp;omega]at c6;clear hc;refine dA aJ func75 ntmps75 ?_;refine bI ?_;exact aO results75
theorem mr[aB prog][eD prog](b:aV)(ss:List eT)(x:iA)(hs:aF b<=274877906944)(hx:x.text.length<=268435456)(hl:ss.length<=1099511627776)(hr:∀x∈ss,x.rules.length<=1099511627776)(rU:∀n,0<=aZ ss n/\aZ ss n<=999)(hop:¬x.op=1/\¬x.op=2/\¬x.op=3/\¬x.op=4/\¬x.op=5):
  Ok prog 75 [.agg (aH .view b),.sl .view 1 (ss.map (cZ .view)),.agg (jO x)] (.fH [.agg (aH .own (bH b ss x).1),.str (bH b ss x).2.1,.str (bH b ss x).2.2]):=by
 have c1:=iQ b hs;have hn:b.nodes.length<=274877906944:=by simp only[aF,dL]at hs;omega
 obtain⟨op,tx⟩:=x;simp only at hx hop;have c2:=mY tx (by omega);have c3:=lW b tx (by omega);have c4:=nU ss tx hl hr;have c5:=dX tx (by omega);have c6:=eX (b.nodes.length:Int) 1 39;have hcn:0<=aN b tx/\aN b tx<=(b.nodes.length:Int):=by unfold aN;have:=lP (λx:gQ=>decide (x.name=tx)) b.nodes;omega
 have MX:=rU tx;have c7:=dV (aN b tx) (by omega);have c8:=dV (aZ ss tx) (by omega);have z7:=fM (aN b tx) (by omega) (by omega);have z8:=fM (aZ ss tx) (by omega) (by omega);simp only[aH]at c1 c3;clear hr rU;simp only[bH,tN,yJ,FX];generalize Lib.itoa (aN b tx)=i7 at*;generalize Lib.itoa (aZ ss tx)=i8 at*;generalize aN b tx=cn at*;generalize aZ ss tx=cc at*;obtain⟨h1,h2,h3,h4,h5⟩:=hop;rw[cU h1,cU h2,cU h3,cU h4,cU h5];refine dA aJ func75 ntmps75 ?_;have W:=aA h1 (aA h2 (aA h3 (aA h4 h5)));refine we ?_;exact aO results75
theorem ni[aB prog][eD prog](b:aV)(ss:List eT)(x:iA)(hs:aF b<=274877906944)(hx:x.text.length<=268435456)(hl:ss.length<=1099511627776)(hr:∀x∈ss,x.rules.length<=1099511627776)(rU:∀n,0<=aZ ss n/\aZ ss n<=999)(hop:x.op=4):
  Ok prog 75 [.agg (aH .view b),.sl .view 1 (ss.map (cZ .view)),.agg (jO x)] (.fH [.agg (aH .own (bH b ss x).1),.str (bH b ss x).2.1,.str (bH b ss x).2.2]):=by
 have c1:=iQ b hs;have hn:b.nodes.length<=274877906944:=by simp only[aF,dL]at hs;omega
 obtain⟨op,tx⟩:=x;simp only at hx hop;have c2:=mY tx (by omega);have c3:=lW b tx (by omega);have c4:=nU ss tx hl hr;have c5:=dX tx (by omega);have c6:=eX (b.nodes.length:Int) 1 39;have hcn:0<=aN b tx/\aN b tx<=(b.nodes.length:Int):=by unfold aN;have:=lP (λx:gQ=>decide (x.name=tx)) b.nodes;omega
 have MX:=rU tx;have c7:=dV (aN b tx) (by omega);have c8:=dV (aZ ss tx) (by omega);have z7:=fM (aN b tx) (by omega) (by omega);have z8:=fM (aZ ss tx) (by omega) (by omega);simp only[aH]at c1 c3;clear hr rU;simp only[bH,tN,yJ,FX];generalize Lib.itoa (aN b tx)=i7 at*;generalize Lib.itoa (aZ ss tx)=i8 at*;generalize aN b tx=cn at*;generalize aZ ss tx=cc at*;subst hop;rw[cU (by decide),cU (by decide),cU (by decide),eA rfl];clear c2 c3 c5 c6 c7 z7 hcn;have Ho:i8.length<=40:=by omega
 refine rR aJ [12] func75 ntmps75 ?_;refine bI ?_;rw[qU];refine FI (λJ=>⟨[.undef,.sl .view 1 (ss.map (cZ .view)),.undef,.ptr 0 0 0 0,.undef,.ptr 1 0 0 0,.ptr 2 0 0 0,dv J 12 (.str []),dv J 13 (.str ([108,111,111,107,32]++tx++[32]++i8)),.ptr 5 0 0 0,.undef,.undef,.undef,.undef,.undef,.undef,.undef,.undef,.undef,.undef,.undef,.undef,.undef,.undef,.undef,.undef,.undef,.undef,.undef,.undef,.undef,.undef,.undef,.undef,.undef,.undef,.undef,.undef,.undef,.undef,.undef,.undef,.undef,.undef,.undef,.undef,.undef,.undef,.undef,.undef,.undef,.undef,.undef,.undef,.undef,dv J 0 (.agg [.obj 3 1,.obj 4 1]),dv J 1 (.ptr 1 0 0 1),dv J 2 (.str tx),dv J 3 (.str ([108,111,111,107,32]++tx)),dv J 4 (.str ([108,111,111,107,32]++tx++[32])),dv J 5 (.sl .view 1 (ss.map (cZ .view))),dv J 6 (.ptr 1 0 0 1),dv J 7 (.str tx),dv J 8 (.int .i64 cc),dv J 9 (.str i8),dv J 10 (.str ([108,111,111,107,32]++tx++[32]++i8)),.undef,.undef,.undef,.undef,.undef,.undef,.undef],[⟨true,true,2,0,[[.sl .view 4 (b.nodes.map (dK .view)),.sl .view 1 (b.opens.map nP)]]⟩,⟨true,true,2,0,[[.int .i64 4,.str tx]]⟩,⟨true,true,2,0,[if J 11=true then [.obj 3 1,.obj 4 1]else [.sl .own 4 [],.sl .own 1 []]]⟩,⟨true,false,4,1,b.nodes.map (dK .own)⟩,⟨true,false,1,1,b.opens.map nP⟩,⟨true,true,2,0,[[.obj 3 1,.obj 4 1]]⟩]⟩) (aC (by simp[dv,hx,Ho]) (by simp[dv,hx,Ho])) (by decide) ?_ ?_
 .simp only[sN,mN];refine⟨⟨trivial,λJ h1 h2=>fG λK hK=> ?_⟩,⟨trivial,λJ h1 h2=>fG λK hK=> ?_⟩,⟨trivial,λJ h1 h2=>fG λK hK=> ?_⟩,⟨trivial,λJ h1 h2=>fG λK hK=> ?_⟩,⟨trivial,λJ h1 h2=>fG λK hK=> ?_⟩,⟨trivial,λJ h1 h2=>fG λK hK=> ?_⟩,⟨trivial,λJ h1 h2=>fG λK hK=> ?_⟩,⟨trivial,λJ h1 h2=>fG λK hK=> ?_⟩,⟨trivial,λJ h1 h2=>fG λK hK=> ?_⟩,⟨trivial,λJ h1 h2=>fG λK hK=> ?_⟩,⟨trivial,λJ h1 h2=>fG λK hK=> ?_⟩,⟨trivial,λJ h1 h2=>fG λK hK=> ?_⟩,⟨trivial,λJ h1 h2=>fG λK hK=> ?_⟩,⟨trivial,λJ h1 h2=>fG λK hK=> ?_⟩⟩;all_goals simp[Region.binds]at h2
  all_goals first
   |(simp[-Bool.exists_bool,nL,dv,h1,h2,hx,Ho];refine⟨_,(c4),hK _ (aC ?_ ?_)⟩<;>simp[dv,dW,h1,h2])
   |(simp[-Bool.exists_bool,nL,dv,h1,h2,hx,Ho];refine⟨_,(c8),hK _ (aC ?_ ?_)⟩<;>simp[dv,dW,h1,h2])
   |(simp[-Bool.exists_bool,nL,dv,h1,h2,hx,Ho];refine⟨?_,hK _ (aC ?_ ?_)⟩;(focus omega);all_goals simp[dv,dW,h1,h2])
   |(simp[-Bool.exists_bool,nL,dv,h1,h2,hx,Ho];refine hK _ (aC ?_ ?_)<;>simp[dv,dW,h1,h2])
 .intro J hJ;have hJs:J 0=true/\J 1=true/\J 2=true/\J 3=true/\J 4=true/\J 5=true/\J 6=true/\J 7=true/\J 8=true/\J 9=true/\J 10=true/\J 11=true/\J 12=true/\J 13=true:=⟨hJ 0 (by decide),hJ 1 (by decide),hJ 2 (by decide),hJ 3 (by decide),hJ 4 (by decide),hJ 5 (by decide),hJ 6 (by decide),hJ 7 (by decide),hJ 8 (by decide),hJ 9 (by decide),hJ 10 (by decide),hJ 11 (by decide),hJ 12 (by decide),hJ 13 (by decide)⟩;simp only[dv,hJs,eI];clear hJs hJ J;refine bI ?_;exact aO results75
theorem nk[aB prog][eD prog](b:aV)(ss:List eT)(x:iA)(hs:aF b<=274877906944)(hx:x.text.length<=268435456)(hl:ss.length<=1099511627776)(hr:∀x∈ss,x.rules.length<=1099511627776)(rU:∀n,0<=aZ ss n/\aZ ss n<=999)(hop:x.op=5):
  Ok prog 75 [.agg (aH .view b),.sl .view 1 (ss.map (cZ .view)),.agg (jO x)] (.fH [.agg (aH .own (bH b ss x).1),.str (bH b ss x).2.1,.str (bH b ss x).2.2]):=by
 have c1:=iQ b hs;have hn:b.nodes.length<=274877906944:=by simp only[aF,dL]at hs;omega
 obtain⟨op,tx⟩:=x;simp only at hx hop;have c2:=mY tx (by omega);have c3:=lW b tx (by omega);have c4:=nU ss tx hl hr;have c5:=dX tx (by omega);have c6:=eX (b.nodes.length:Int) 1 39;have hcn:0<=aN b tx/\aN b tx<=(b.nodes.length:Int):=by unfold aN;have:=lP (λx:gQ=>decide (x.name=tx)) b.nodes;omega
 have MX:=rU tx;have c7:=dV (aN b tx) (by omega);have c8:=dV (aZ ss tx) (by omega);have z7:=fM (aN b tx) (by omega) (by omega);have z8:=fM (aZ ss tx) (by omega) (by omega);simp only[aH]at c1 c3;clear hr rU;simp only[bH,tN,yJ,FX];generalize Lib.itoa (aN b tx)=i7 at*;generalize Lib.itoa (aZ ss tx)=i8 at*;generalize aN b tx=cn at*;generalize aZ ss tx=cc at*;subst hop;rw[cU (by decide),cU (by decide),cU (by decide),cU (by decide),eA rfl];refine dA aJ func75 ntmps75 ?_;refine bI ?_;exact aO results75
theorem TT(s b:aX):eB (bQ s b).1<=s.length+b.length:=by have h:=uL 47 s;unfold bQ addrOf;split<;>split<;>simp[eB,uM]<;>omega
def addEntry(p:aW)(tx:aX):aW:=
 if (bQ tx p.addr.host).2=false\/20<=p.entries.length then p else {jN p (bQ tx p.addr.host).1 with entries:=p.entries++[(bQ tx p.addr.host).1]}
theorem TU(p:aW)(a:gH)(e:List gH):jN {p with entries:=e} a={jN p a with entries:=e}:=by
 unfold jN;simp only;split
 .split<;>rfl
 .rfl
theorem YA(p:aW)(a:gH):(jN p a).entries=p.entries:=by
 unfold jN;split
 .split<;>rfl
 .rfl
theorem JE[aB prog](p:aW)(tx:aX)(hs:aK p<=536870914)(hto:tx.length<=536870914):Ok prog 62 [.agg (aL .view p),.str tx] (.agg (aL .own (addEntry p tx))):=by
 have hsl:p.addr.host.length<=536870914:=by simp only[aK,eB]at hs;omega
 have hen:p.entries.length<=536870914:=by simp only[aK,dL]at hs;omega
 have c1:=kV p (by omega);have c3:=zZ tx p.addr.host (by omega);have hsz:=TT tx p.addr.host;unfold addEntry;generalize bQ tx p.addr.host=pa at*;obtain⟨a,ok⟩:=pa;simp only at c3 hsz⊢;have c4:=HV {p with entries:=p.entries++[a]} a (by simp only[aK,dL,eJ,jM,bM,eE,eR]at hs⊢;omega) (by omega);rw[TU]at c4;obtain⟨l1,hl1⟩:∃l,l=p.entries++[a]:=⟨_,rfl⟩;have hap:p.entries.map dI++[[.str a.host,.str a.path]]=l1.map dI:=by rw[hl1];simp
 rw[<-hl1]at c4⊢;clear hl1;generalize jN p a=g at*;simp only[aL,dI]at c1 c3 c4;cases ok
 .simp only[true_or,eI];refine dA aJ func62 ntmps62 ?_;refine bI ?_;exact aO results62
 .by_cases TM:20<=p.entries.length
  .have VU:(20:Int)<=(p.entries.length:Int):=by omega
   simp only[TM,or_true,eI];refine dA aJ func62 ntmps62 ?_;have W:=VU;refine we ?_;exact aO results62
  .have VU:¬(20:Int)<=(p.entries.length:Int):=by omega
   rw[cU (by rintro(h|h);cases h;exact TM h)];refine dA aJ func62 ntmps62 ?_;have W:=aA VU hap;refine we ?_;exact aO results62
theorem JF[aB prog](p:aW)(tx:aX)(hs:aK p<=536870914)(hto:tx.length<=536870914):Ok prog 86 [.agg (aL .view p),.str tx] (.agg (aL .own (addEntry p tx))):=by
 have hsl:p.addr.host.length<=536870914:=by simp only[aK,eB]at hs;omega
 have hen:p.entries.length<=536870914:=by simp only[aK,dL]at hs;omega
 have c1:=gZ p (by omega);have c3:=zY tx p.addr.host (by omega);have hsz:=TT tx p.addr.host;unfold addEntry;generalize bQ tx p.addr.host=pa at*;obtain⟨a,ok⟩:=pa;simp only at c3 hsz⊢;have c4:=HY p a (by omega) (by omega);have hke:=YA p a;obtain⟨l1,hl1⟩:∃l,l=p.entries++[a]:=⟨_,rfl⟩;have hap:p.entries.map dI++[[.str a.host,.str a.path]]=l1.map dI:=by rw[hl1];simp
 rw[<-hl1];clear hl1;generalize jN p a=g at*;simp only[aL,dI]at c1 c3 c4;rw[hke]at c4;cases ok
 .simp only[true_or,eI];refine dA aJ func86 ntmps86 ?_;refine bI ?_;exact aO results86
 .by_cases TM:20<=p.entries.length
  .have VU:(20:Int)<=(p.entries.length:Int):=by omega
   simp only[TM,or_true,eI];refine dA aJ func86 ntmps86 ?_;have W:=VU;refine we ?_;exact aO results86
  .have VU:¬(20:Int)<=(p.entries.length:Int):=by omega
   rw[cU (by rintro(h|h);cases h;exact TM h)];refine dA aJ func86 ntmps86 ?_;have W:=aA VU hap;refine we ?_;exact aO results86
end Go.Proofs.YtjkdolejalpflaaGreatDoor
