/- Proved here: steps towards the statement of this claim. No condition. -/
import Derived.Test.YtjkdolejalpflaaGreatDoorZQRLia
set_option linter.all false
set_option maxRecDepth 8000
set_option maxHeartbeats 8000000
namespace Go.Proofs.YtjkdolejalpflaaGreatDoor
open Go.Aw Proofs.Tryz List IntKind
theorem ma[aB prog][eD prog](b:aV)(ss:List eT)(x:iA)(hs:aF b<=274877906944)(hx:x.text.length<=268435456)(hl:ss.length<=1099511627776)(hr:∀x∈ss,x.rules.length<=1099511627776)(rU:∀n,0<=aZ ss n/\aZ ss n<=999)(hop:x.op=2):
  Ok prog 107 [.agg (aH .view b),.sl .view 1 (ss.map (cZ .view)),.agg (jO x)] (.fH [.agg (aH .own (bH b ss x).1),.str (bH b ss x).2.1,.str (bH b ss x).2.2]):=by
 have c1:=iP b hs;have hn:b.nodes.length<=274877906944:=by simp only[aF,dL]at hs;omega
 obtain⟨op,tx⟩:=x;simp only at hx hop;have c2:=mX tx (by omega);have c3:=lV b tx (by omega);have c4:=nT ss tx hl hr;have c5:=fQ tx (by omega);have c6:=kC (b.nodes.length:Int) 1 39;have hcn:0<=aN b tx/\aN b tx<=(b.nodes.length:Int):=by unfold aN;have:=lP (λx:gQ=>decide (x.name=tx)) b.nodes;omega
 have MX:=rU tx;have c7:=eH (aN b tx) (by omega);have c8:=eH (aZ ss tx) (by omega);have z7:=fM (aN b tx) (by omega) (by omega);have z8:=fM (aZ ss tx) (by omega) (by omega);simp only[aH]at c1 c3;clear hr rU;simp only[bH,tN,yJ,FX];generalize Lib.itoa (aN b tx)=i7 at*;generalize Lib.itoa (aZ ss tx)=i8 at*;generalize aN b tx=cn at*;generalize aZ ss tx=cc at*;subst hop;rw[cU (by decide),eA rfl];by_cases hc:(1<=b.nodes.length/\b.nodes.length<=39)/\bP tx=true
 .rw [eA hc];rw[show(decide ((1:Int)<=(b.nodes.length:Int))&&decide ((b.nodes.length:Int)<=39))=true from by simp;omega]at c6;rw[hc.2]at c5;obtain⟨l0,hl0⟩:∃l,l=b.nodes++[(⟨tx,[],0,[]⟩:gQ)]:=⟨_,rfl⟩;have hap:b.nodes.map (dK .own)++[[.str tx,.str [],.int .i64 0,.sl .own 2 []]]=l0.map (dK .own):=by rw[hl0];simp
  rw[<-hl0];clear hl0 hc;refine dA aJ func107 ntmps107 ?_;have W:=aA hap hn;refine we ?_;exact aO results107
 .rw [cU hc];by_cases hc1:1<=b.nodes.length/\b.nodes.length<=39
  .have Rq:bP tx=false:=by
    cases h:bP tx with
    |false=>rfl
    |true=>exact absurd ⟨hc1,h⟩ hc
   rw[show(decide ((1:Int)<=(b.nodes.length:Int))&&decide ((b.nodes.length:Int)<=39))=true from by simp;omega]at c6;rw[Rq]at c5;clear hc;refine dA aJ func107 ntmps107 ?_;refine bI ?_;exact aO results107
  .rw [show(decide ((1:Int)<=(b.nodes.length:Int))&&decide ((b.nodes.length:Int)<=39))=false from by simp;omega]at c6;clear hc;refine dA aJ func107 ntmps107 ?_;refine bI ?_;exact aO results107
theorem mf[aB prog][eD prog](b:aV)(ss:List eT)(x:iA)(hs:aF b<=274877906944)(hx:x.text.length<=268435456)(hl:ss.length<=1099511627776)(hr:∀x∈ss,x.rules.length<=1099511627776)(rU:∀n,0<=aZ ss n/\aZ ss n<=999)(hop:¬x.op=1/\¬x.op=2/\¬x.op=3/\¬x.op=4/\¬x.op=5):
  Ok prog 107 [.agg (aH .view b),.sl .view 1 (ss.map (cZ .view)),.agg (jO x)] (.fH [.agg (aH .own (bH b ss x).1),.str (bH b ss x).2.1,.str (bH b ss x).2.2]):=by
 have c1:=iP b hs;have hn:b.nodes.length<=274877906944:=by simp only[aF,dL]at hs;omega
 obtain⟨op,tx⟩:=x;simp only at hx hop;have c2:=mX tx (by omega);have c3:=lV b tx (by omega);have c4:=nT ss tx hl hr;have c5:=fQ tx (by omega);have c6:=kC (b.nodes.length:Int) 1 39;have hcn:0<=aN b tx/\aN b tx<=(b.nodes.length:Int):=by unfold aN;have:=lP (λx:gQ=>decide (x.name=tx)) b.nodes;omega
 have MX:=rU tx;have c7:=eH (aN b tx) (by omega);have c8:=eH (aZ ss tx) (by omega);have z7:=fM (aN b tx) (by omega) (by omega);have z8:=fM (aZ ss tx) (by omega) (by omega);simp only[aH]at c1 c3;clear hr rU;simp only[bH,tN,yJ,FX];generalize Lib.itoa (aN b tx)=i7 at*;generalize Lib.itoa (aZ ss tx)=i8 at*;generalize aN b tx=cn at*;generalize aZ ss tx=cc at*;obtain⟨h1,h2,h3,h4,h5⟩:=hop;rw[cU h1,cU h2,cU h3,cU h4,cU h5];refine dA aJ func107 ntmps107 ?_;have W:=aA h1 (aA h2 (aA h3 (aA h4 h5)));refine we ?_;exact aO results107
theorem mg[aB prog][eD prog](b:aV)(ss:List eT)(x:iA)(hs:aF b<=274877906944)(hx:x.text.length<=268435456)(hl:ss.length<=1099511627776)(hr:∀x∈ss,x.rules.length<=1099511627776)(rU:∀n,0<=aZ ss n/\aZ ss n<=999)(hop:x.op=3):
  Ok prog 107 [.agg (aH .view b),.sl .view 1 (ss.map (cZ .view)),.agg (jO x)] (.fH [.agg (aH .own (bH b ss x).1),.str (bH b ss x).2.1,.str (bH b ss x).2.2]):=by
 have c1:=iP b hs;have hn:b.nodes.length<=274877906944:=by simp only[aF,dL]at hs;omega
 obtain⟨op,tx⟩:=x;simp only at hx hop;have c2:=mX tx (by omega);have c3:=lV b tx (by omega);have c4:=nT ss tx hl hr;have c5:=fQ tx (by omega);have c6:=kC (b.nodes.length:Int) 1 39;have hcn:0<=aN b tx/\aN b tx<=(b.nodes.length:Int):=by unfold aN;have:=lP (λx:gQ=>decide (x.name=tx)) b.nodes;omega
 have MX:=rU tx;have c7:=eH (aN b tx) (by omega);have c8:=eH (aZ ss tx) (by omega);have z7:=fM (aN b tx) (by omega) (by omega);have z8:=fM (aZ ss tx) (by omega) (by omega);simp only[aH]at c1 c3;clear hr rU;simp only[bH,tN,yJ,FX];generalize Lib.itoa (aN b tx)=i7 at*;generalize Lib.itoa (aZ ss tx)=i8 at*;generalize aN b tx=cn at*;generalize aZ ss tx=cc at*;subst hop;rw[cU (by decide),cU (by decide),eA rfl];clear c2 c4 c5 c6 c8 z8 MX hl;have Ho:i7.length<=40:=by omega
 refine rR aJ [10] func107 ntmps107 ?_;refine bI ?_;rw[qU];refine FI (λJ=>⟨[.undef,.sl .view 1 (ss.map (cZ .view)),.undef,.ptr 0 0 0 0,.undef,.ptr 1 0 0 0,.ptr 2 0 0 0,dv J 12 (.str []),dv J 13 (.str ([99,111,117,110,116,32]++tx++[32]++i7)),.ptr 5 0 0 0,.undef,.undef,.undef,.undef,.undef,.undef,.undef,.undef,.undef,.undef,.undef,.undef,.undef,.undef,.undef,.undef,.undef,.undef,.undef,.undef,.undef,.undef,.undef,.undef,.undef,.undef,.undef,.undef,.undef,.undef,.undef,.undef,dv J 0 (.agg [.obj 3 1,.obj 4 1]),dv J 1 (.ptr 1 0 0 1),dv J 2 (.str tx),dv J 3 (.str ([99,111,117,110,116,32]++tx)),dv J 4 (.str ([99,111,117,110,116,32]++tx++[32])),dv J 5 (.agg [.sl .view 4 (b.nodes.map (dK .view)),.sl .view 1 (b.opens.map nP)]),dv J 6 (.ptr 1 0 0 1),dv J 7 (.str tx),dv J 8 (.int .i64 cn),dv J 9 (.str i7),dv J 10 (.str ([99,111,117,110,116,32]++tx++[32]++i7)),.undef,.undef,.undef,.undef,.undef,.undef,.undef,.undef,.undef,.undef,.undef,.undef,.undef,.undef,.undef,.undef,.undef,.undef,.undef,.undef],[⟨true,true,2,0,[[.sl .view 4 (b.nodes.map (dK .view)),.sl .view 1 (b.opens.map nP)]]⟩,⟨true,true,2,0,[[.int .i64 3,.str tx]]⟩,⟨true,true,2,0,[if J 11=true then [.obj 3 1,.obj 4 1]else [.sl .own 4 [],.sl .own 1 []]]⟩,⟨true,false,4,1,b.nodes.map (dK .own)⟩,⟨true,false,1,1,b.opens.map nP⟩,⟨true,true,2,0,[[.obj 3 1,.obj 4 1]]⟩]⟩) (aC (by simp[dv,hx,Ho]) (by simp[dv,hx,Ho])) (by decide) ?_ ?_
 .simp only[sN,mN];refine⟨⟨trivial,λJ h1 h2=>fG λK hK=> ?_⟩,⟨trivial,λJ h1 h2=>fG λK hK=> ?_⟩,⟨trivial,λJ h1 h2=>fG λK hK=> ?_⟩,⟨trivial,λJ h1 h2=>fG λK hK=> ?_⟩,⟨trivial,λJ h1 h2=>fG λK hK=> ?_⟩,⟨trivial,λJ h1 h2=>fG λK hK=> ?_⟩,⟨trivial,λJ h1 h2=>fG λK hK=> ?_⟩,⟨trivial,λJ h1 h2=>fG λK hK=> ?_⟩,⟨trivial,λJ h1 h2=>fG λK hK=> ?_⟩,⟨trivial,λJ h1 h2=>fG λK hK=> ?_⟩,⟨trivial,λJ h1 h2=>fG λK hK=> ?_⟩,⟨trivial,λJ h1 h2=>fG λK hK=> ?_⟩,⟨trivial,λJ h1 h2=>fG λK hK=> ?_⟩,⟨trivial,λJ h1 h2=>fG λK hK=> ?_⟩⟩;all_goals simp[Region.binds]at h2
  all_goals first
   |(simp[-Bool.exists_bool,nL,dv,h1,h2,hx,Ho];refine⟨_,(c3),hK _ (aC ?_ ?_)⟩<;>simp[dv,dW,h1,h2])
   |(simp[-Bool.exists_bool,nL,dv,h1,h2,hx,Ho];refine⟨_,(c7),hK _ (aC ?_ ?_)⟩<;>simp[dv,dW,h1,h2])
   |(simp[-Bool.exists_bool,nL,dv,h1,h2,hx,Ho];refine⟨?_,hK _ (aC ?_ ?_)⟩;(focus omega);all_goals simp[dv,dW,h1,h2])
   |(simp[-Bool.exists_bool,nL,dv,h1,h2,hx,Ho];refine hK _ (aC ?_ ?_)<;>simp[dv,dW,h1,h2])
 .intro J hJ;have hJs:J 0=true/\J 1=true/\J 2=true/\J 3=true/\J 4=true/\J 5=true/\J 6=true/\J 7=true/\J 8=true/\J 9=true/\J 10=true/\J 11=true/\J 12=true/\J 13=true:=⟨hJ 0 (by decide),hJ 1 (by decide),hJ 2 (by decide),hJ 3 (by decide),hJ 4 (by decide),hJ 5 (by decide),hJ 6 (by decide),hJ 7 (by decide),hJ 8 (by decide),hJ 9 (by decide),hJ 10 (by decide),hJ 11 (by decide),hJ 12 (by decide),hJ 13 (by decide)⟩;simp only[dv,hJs,eI];clear hJs hJ J;refine bI ?_;exact aO results107
theorem mo[aB prog][eD prog](b:aV)(ss:List eT)(x:iA)(hs:aF b<=274877906944)(hx:x.text.length<=268435456)(hl:ss.length<=1099511627776)(hr:∀x∈ss,x.rules.length<=1099511627776)(rU:∀n,0<=aZ ss n/\aZ ss n<=999)(hop:x.op=1):
  Ok prog 75 [.agg (aH .view b),.sl .view 1 (ss.map (cZ .view)),.agg (jO x)] (.fH [.agg (aH .own (bH b ss x).1),.str (bH b ss x).2.1,.str (bH b ss x).2.2]):=by
 have c1:=iQ b hs;have hn:b.nodes.length<=274877906944:=by simp only[aF,dL]at hs;omega
 obtain⟨op,tx⟩:=x;simp only at hx hop;have c2:=mY tx (by omega);have c3:=lW b tx (by omega);have c4:=nU ss tx hl hr;have c5:=dX tx (by omega);have c6:=eX (b.nodes.length:Int) 1 39;have hcn:0<=aN b tx/\aN b tx<=(b.nodes.length:Int):=by unfold aN;have:=lP (λx:gQ=>decide (x.name=tx)) b.nodes;omega
 have MX:=rU tx;have c7:=dV (aN b tx) (by omega);have c8:=dV (aZ ss tx) (by omega);have z7:=fM (aN b tx) (by omega) (by omega);have z8:=fM (aZ ss tx) (by omega) (by omega);simp only[aH]at c1 c3;clear hr rU;simp only[bH,tN,yJ,FX];generalize Lib.itoa (aN b tx)=i7 at*;generalize Lib.itoa (aZ ss tx)=i8 at*;generalize aN b tx=cn at*;generalize aZ ss tx=cc at*;subst hop;rw[eA rfl];refine dA aJ func75 ntmps75 ?_;refine bI ?_;exact aO results75
theorem ng[aB prog][eD prog](b:aV)(ss:List eT)(x:iA)(hs:aF b<=274877906944)(hx:x.text.length<=268435456)(hl:ss.length<=1099511627776)(hr:∀x∈ss,x.rules.length<=1099511627776)(rU:∀n,0<=aZ ss n/\aZ ss n<=999)(hop:x.op=3):
  Ok prog 75 [.agg (aH .view b),.sl .view 1 (ss.map (cZ .view)),.agg (jO x)] (.fH [.agg (aH .own (bH b ss x).1),.str (bH b ss x).2.1,.str (bH b ss x).2.2]):=by
 have c1:=iQ b hs;have hn:b.nodes.length<=274877906944:=by simp only[aF,dL]at hs;omega
 obtain⟨op,tx⟩:=x;simp only at hx hop;have c2:=mY tx (by omega);have c3:=lW b tx (by omega);have c4:=nU ss tx hl hr;have c5:=dX tx (by omega);have c6:=eX (b.nodes.length:Int) 1 39;have hcn:0<=aN b tx/\aN b tx<=(b.nodes.length:Int):=by unfold aN;have:=lP (λx:gQ=>decide (x.name=tx)) b.nodes;omega
 have MX:=rU tx;have c7:=dV (aN b tx) (by omega);have c8:=dV (aZ ss tx) (by omega);have z7:=fM (aN b tx) (by omega) (by omega);have z8:=fM (aZ ss tx) (by omega) (by omega);simp only[aH]at c1 c3;clear hr rU;simp only[bH,tN,yJ,FX];generalize Lib.itoa (aN b tx)=i7 at*;generalize Lib.itoa (aZ ss tx)=i8 at*;generalize aN b tx=cn at*;generalize aZ ss tx=cc at*;subst hop;rw[cU (by decide),cU (by decide),eA rfl];clear c2 c4 c5 c6 c8 z8 MX hl;have Ho:i7.length<=40:=by omega
 refine rR aJ [10] func75 ntmps75 ?_;refine bI ?_;rw[qU];refine FI (λJ=>⟨[.undef,.sl .view 1 (ss.map (cZ .view)),.undef,.ptr 0 0 0 0,.undef,.ptr 1 0 0 0,.ptr 2 0 0 0,dv J 12 (.str []),dv J 13 (.str ([99,111,117,110,116,32]++tx++[32]++i7)),.ptr 5 0 0 0,.undef,.undef,.undef,.undef,.undef,.undef,.undef,.undef,.undef,.undef,.undef,.undef,.undef,.undef,.undef,.undef,.undef,.undef,.undef,.undef,.undef,.undef,.undef,.undef,.undef,.undef,.undef,.undef,.undef,.undef,.undef,.undef,dv J 0 (.agg [.obj 3 1,.obj 4 1]),dv J 1 (.ptr 1 0 0 1),dv J 2 (.str tx),dv J 3 (.str ([99,111,117,110,116,32]++tx)),dv J 4 (.str ([99,111,117,110,116,32]++tx++[32])),dv J 5 (.agg [.sl .view 4 (b.nodes.map (dK .view)),.sl .view 1 (b.opens.map nP)]),dv J 6 (.ptr 1 0 0 1),dv J 7 (.str tx),dv J 8 (.int .i64 cn),dv J 9 (.str i7),dv J 10 (.str ([99,111,117,110,116,32]++tx++[32]++i7)),.undef,.undef,.undef,.undef,.undef,.undef,.undef,.undef,.undef,.undef,.undef,.undef,.undef,.undef,.undef,.undef,.undef,.undef,.undef,.undef],[⟨true,true,2,0,[[.sl .view 4 (b.nodes.map (dK .view)),.sl .view 1 (b.opens.map nP)]]⟩,⟨true,true,2,0,[[.int .i64 3,.str tx]]⟩,⟨true,true,2,0,[if J 11=true then [.obj 3 1,.obj 4 1]else [.sl .own 4 [],.sl .own 1 []]]⟩,⟨true,false,4,1,b.nodes.map (dK .own)⟩,⟨true,false,1,1,b.opens.map nP⟩,⟨true,true,2,0,[[.obj 3 1,.obj 4 1]]⟩]⟩) (aC (by simp[dv,hx,Ho]) (by simp[dv,hx,Ho])) (by decide) ?_ ?_
 .simp only[sN,mN];refine⟨⟨trivial,λJ h1 h2=>fG λK hK=> ?_⟩,⟨trivial,λJ h1 h2=>fG λK hK=> ?_⟩,⟨trivial,λJ h1 h2=>fG λK hK=> ?_⟩,⟨trivial,λJ h1 h2=>fG λK hK=> ?_⟩,⟨trivial,λJ h1 h2=>fG λK hK=> ?_⟩,⟨trivial,λJ h1 h2=>fG λK hK=> ?_⟩,⟨trivial,λJ h1 h2=>fG λK hK=> ?_⟩,⟨trivial,λJ h1 h2=>fG λK hK=> ?_⟩,⟨trivial,λJ h1 h2=>fG λK hK=> ?_⟩,⟨trivial,λJ h1 h2=>fG λK hK=> ?_⟩,⟨trivial,λJ h1 h2=>fG λK hK=> ?_⟩,⟨trivial,λJ h1 h2=>fG λK hK=> ?_⟩,⟨trivial,λJ h1 h2=>fG λK hK=> ?_⟩,⟨trivial,λJ h1 h2=>fG λK hK=> ?_⟩⟩;all_goals simp[Region.binds]at h2
  all_goals first
   |(simp[-Bool.exists_bool,nL,dv,h1,h2,hx,Ho];refine⟨_,(c3),hK _ (aC ?_ ?_)⟩<;>simp[dv,dW,h1,h2])
   |(simp[-Bool.exists_bool,nL,dv,h1,h2,hx,Ho];refine⟨_,(c7),hK _ (aC ?_ ?_)⟩<;>simp[dv,dW,h1,h2])
   |(simp[-Bool.exists_bool,nL,dv,h1,h2,hx,Ho];refine⟨?_,hK _ (aC ?_ ?_)⟩;(focus omega);all_goals simp[dv,dW,h1,h2])
   |(simp[-Bool.exists_bool,nL,dv,h1,h2,hx,Ho];refine hK _ (aC ?_ ?_)<;>simp[dv,dW,h1,h2])
 .intro J hJ;have hJs:J 0=true/\J 1=true/\J 2=true/\J 3=true/\J 4=true/\J 5=true/\J 6=true/\J 7=true/\J 8=true/\J 9=true/\J 10=true/\J 11=true/\J 12=true/\J 13=true:=⟨hJ 0 (by decide),hJ 1 (by decide),hJ 2 (by decide),hJ 3 (by decide),hJ 4 (by decide),hJ 5 (by decide),hJ 6 (by decide),hJ 7 (by decide),hJ 8 (by decide),hJ 9 (by decide),hJ 10 (by decide),hJ 11 (by decide),hJ 12 (by decide),hJ 13 (by decide)⟩;simp only[dv,hJs,eI];clear hJs hJ J;refine bI ?_;exact aO results75
theorem Mc[aB prog][eD prog](b:aV)(ss:List eT)(x:iA)(hs:aF b<=274877906944)(hx:x.text.length<=268435456)(hl:ss.length<=1099511627776)(hr:∀x∈ss,x.rules.length<=1099511627776)(rU:∀n,0<=aZ ss n/\aZ ss n<=999):
  Ok prog 107 [.agg (aH .view b),.sl .view 1 (ss.map (cZ .view)),.agg (jO x)] (.fH [.agg (aH .own (bH b ss x).1),.str (bH b ss x).2.1,.str (bH b ss x).2.2]):=by
 by_cases h1:x.op=1
 .exact lu b ss x hs hx hl hr rU h1
 by_cases h2:x.op=2
 .exact ma b ss x hs hx hl hr rU h2
 by_cases h3:x.op=3
 .exact mg b ss x hs hx hl hr rU h3
 by_cases h4:x.op=4
 .exact mh b ss x hs hx hl hr rU h4
 by_cases h5:x.op=5
 .exact mi b ss x hs hx hl hr rU h5
 exact mf b ss x hs hx hl hr rU ⟨h1,h2,h3,h4,h5⟩
theorem Md[aB prog][eD prog](b:aV)(ss:List eT)(x:iA)(hs:aF b<=274877906944)(hx:x.text.length<=268435456)(hl:ss.length<=1099511627776)(hr:∀x∈ss,x.rules.length<=1099511627776)(rU:∀n,0<=aZ ss n/\aZ ss n<=999):
  Ok prog 75 [.agg (aH .view b),.sl .view 1 (ss.map (cZ .view)),.agg (jO x)] (.fH [.agg (aH .own (bH b ss x).1),.str (bH b ss x).2.1,.str (bH b ss x).2.2]):=by
 by_cases h1:x.op=1
 .exact mo b ss x hs hx hl hr rU h1
 by_cases h2:x.op=2
 .exact mq b ss x hs hx hl hr rU h2
 by_cases h3:x.op=3
 .exact ng b ss x hs hx hl hr rU h3
 by_cases h4:x.op=4
 .exact ni b ss x hs hx hl hr rU h4
 by_cases h5:x.op=5
 .exact nk b ss x hs hx hl hr rU h5
 exact mr b ss x hs hx hl hr rU ⟨h1,h2,h3,h4,h5⟩
theorem qV{α:Type}{f:α->List AV}{i j:Nat}(h:∀x,xX i j (f x)=f x):∀l:List α,rT i j (l.map f)=l.map f
 |[]=>rfl
 |x::l=>by simp only[mS,rT,h,qV h l]
@[simp] theorem aCs(i j:Nat)(l:List aX):rT i j (l.map dR)=l.map dR:=qV (λ_=>rfl) l
@[simp] theorem aCt(i j:Nat)(l:List Int):rT i j (l.map nP)=l.map nP:=qV (λ_=>rfl) l
@[simp] theorem aBi(i j:Nat)(l:List lD):rT i j (l.map oG)=l.map oG:=qV (λ_=>rfl) l
@[simp] theorem aBj(i j:Nat)(l:List iA):rT i j (l.map jO)=l.map jO:=qV (λ_=>rfl) l
@[simp] theorem aBk(i j:Nat)(l:List Bt):rT i j (l.map vL)=l.map vL:=qV (λ_=>rfl) l
@[simp] theorem H5(i j:Nat)(l:List eT):rT i j (l.map (cZ .view))=l.map (cZ .view):=qV (λ_=>by simp) l
@[simp] theorem W9(i j:Nat)(l:List gQ):rT i j (l.map (dK .view))=l.map (dK .view):=qV (λ_=>by simp) l
theorem TD{t t':List AV}{o o':List aD}{v:Nat}{n0 p0 n1 p1 lg:List (List AV)}{o0 o1 o6:aD}
  (ho:o.take 10=[o0,o1,⟨true,false,4,1,n0⟩,⟨true,false,1,1,p0⟩,⟨true,true,2,0,[[.obj 7 1,.obj 8 1]]⟩,⟨true,false,1,v,lg⟩,o6,⟨true,false,4,1,n1⟩,⟨true,false,1,1,p1⟩,⟨true,true,2,0,[[.obj 7 1,.obj 8 1]]⟩])
  (ho':o'=[o0,o1,⟨true,false,4,1,n1⟩,⟨true,false,1,1,p1⟩,⟨true,true,2,0,[[.obj 2 1,.obj 3 1]]⟩,⟨true,false,1,v,lg⟩])
  (hf:(o0.vM 2 7=o0/\o1.vM 2 7=o1/\o6.vM 2 7=o6)/\(o0.vM 3 8=o0/\o1.vM 3 8=o1/\o6.vM 3 8=o6)) (hw:wk t t') (h1:wk (xX 2 7 t') t') (h3:wk (xX 3 8 t') t') (hc:jT 6 t'=true) (hc1:jT 10 t'=true) (hc0:fP 6 [o0,o1]=true) (Rq:fP 10 [o0,o1,o6]=true):kR ⟨t,o⟩ ⟨t',o'⟩:=by
 subst ho';obtain⟨⟨a0,a1,a6⟩,b0,b1,b6⟩:=hf;refine(aS 10 ho hw hc1 (by simpa [fP,jT,closed,Ds]using Rq)).trans ?_;refine(fE 2 7 rfl rfl ⟨rfl,rfl⟩ (by simp[a0,a1,a6];rfl) h1).trans ?_;refine(fE 3 8 rfl rfl ⟨rfl,rfl⟩ (by simp[b0,b1,b6];rfl) h3).trans ?_;refine aS 6 (by simp) (uN _) hc ?_;simpa [fP,jT,closed]using hc0
def oQ(ss:List eT)(s:aV×aX×List aX)(x:iA):aV×aX×List aX:=
 ((bH s.1 ss x).1,s.2.1++(bH s.1 ss x).2.1,if (bH s.1 ss x).2.2=[]then s.2.2 else s.2.2++[(bH s.1 ss x).2.2])
def cO(b:aV)(ss:List eT)(l:List iA):aV×aX×List aX:=l.foldl (oQ ss) (b,[],[])
theorem EJ{α:Type}(f:α->Nat):∀a b:List α,bM f (a++b)=bM f a+bM f b
 |[],b=>by simp[bM]
 |x::xs,b=>by simp only[cM,bM,EJ f xs b];omega
theorem Me(b:aV)(ss:List eT)(x:iA)(hx:x.text.length<=268435456)(rU:∀n,0<=aZ ss n/\aZ ss n<=999)(hn:b.nodes.length<=274877906944):
  aF (bH b ss x).1<=aF b+x.text.length+1/\(bH b ss x).2.1.length<=x.text.length/\(bH b ss x).2.2.length<=x.text.length+30:=by
 have z7:=fM (aN b x.text) (by unfold aN;omega) (by
  unfold aN;have:=lP (λy:gQ=>decide (y.name=x.text)) b.nodes;omega)
 have hc:=rU x.text;have z8:=fM (aZ ss x.text) (by omega) (by omega);unfold bH;split
 .refine ⟨by simp only;omega,by simp,by simp⟩
 .split
  .split
   .refine ⟨?_,by simp,by simp⟩;simp only[aF,dL,eJ,EJ,bM,lJ,eE,eR];omega
   .simp only[eR];omega
  .split
   .refine ⟨by simp only;omega,by simp,?_⟩;simp only[eJ,tN,eE,eR];omega
   .split
    .refine ⟨by simp only;omega,by simp,?_⟩;simp only[eJ,yJ,eE,eR];omega
    .split
     .refine ⟨by simp only;omega,by simp,?_⟩;simp only[eJ,FX,eE,eR];omega
     .simp only[eR];omega
def nV(b:aV)(ss:List eT)(l:List iA)(k:Nat):aV×aX×List aX:=cO b ss (l.take k)
theorem EK(b:aV)(ss:List eT)(l:List iA)(k:Nat)(h:k<l.length):nV b ss l (k+1)=oQ ss (nV b ss l k) l[k]:=by unfold nV cO;rw[eN h,foldl_append];rfl
theorem xE(N:Nat)(b:aV)(ss:List eT)(l:List iA)(hN:N<=268435456)(hl:l.length<=6)(hx:∀x∈l,x.text.length<=N)(rU:∀n,0<=aZ ss n/\aZ ss n<=999)(hb:aF b<=68719476736):
  ∀k,k<=l.length->aF (nV b ss l k).1<=aF b+k*(N+1)/\(nV b ss l k).2.1.length<=k*N/\(nV b ss l k).2.2.length<=k/\bM dG (nV b ss l k).2.2<=k*(N+30)
 |0,_=>by simp[nV,cO,bM]
 |k+1,h=>by
  obtain⟨h1,h2,h3,h4⟩:=xE N b ss l hN hl hx rU hb k (by omega);rw[EK b ss l k (by omega)];have hxk:=hx _ (mL (show k<l.length by omega));have hkN:k*(N+1)<=6*(268435456+1):=Nat.mul_le_mul (by omega) (by omega);have hn:(nV b ss l k).1.nodes.length<=274877906944:=by simp only[aF,dL]at h1 hb;omega
  obtain⟨z1,z2,z3⟩:=Me (nV b ss l k).1 ss l[k] (by omega) rU hn;generalize nV b ss l k=g at*;have e1:(k+1)*(N+1)=k*(N+1)+(N+1):=by rw[oE];omega
  have e2:(k+1)*N=k*N+N:=by rw[oE];omega
  have e3:(k+1)*(N+30)=k*(N+30)+(N+30):=by rw[oE];omega
  rw[e1,e2,e3];refine⟨?_,?_,?_,?_⟩
  .simp only[oQ];omega
  .simp only[oQ,eJ];omega
  .simp only[oQ];split
   .omega
   .simp only[eJ,eE,eR];omega
  .simp only[oQ];split
   .omega
   .simp only[EJ,bM,dG];omega
theorem Pf{t t':List AV}{o o':List aD}{v u:Nat}{n0 p0 n1 p1 lg:List (List AV)}{o0 o1:aD}
  (ho:o.take 9=[o0,o1,⟨true,false,4,1,n0⟩,⟨true,false,1,1,p0⟩,⟨true,true,2,0,[[.obj 7 1,.obj 8 1]]⟩,⟨true,false,1,v,lg⟩,⟨true,true,2,u,[[.obj 7 1,.obj 8 1]]⟩,⟨true,false,4,1,n1⟩,⟨true,false,1,1,p1⟩])
  (ho':o'=[o0,o1,⟨true,false,4,1,n1⟩,⟨true,false,1,1,p1⟩,⟨true,true,2,0,[[.obj 2 1,.obj 3 1]]⟩,⟨true,false,1,v,lg⟩])
  (hf:(o0.vM 2 7=o0/\o1.vM 2 7=o1)/\(o0.vM 3 8=o0/\o1.vM 3 8=o1)) (hw:wk t t') (h1:wk (xX 2 7 t') t') (h3:wk (xX 3 8 t') t') (hc:jT 6 t'=true) (hc1:jT 9 t'=true) (hc0:fP 6 [o0,o1]=true) (Rq:fP 9 [o0,o1]=true):kR ⟨t,o⟩ ⟨t',o'⟩:=by
 subst ho';obtain⟨⟨a0,a1⟩,b0,b1⟩:=hf;refine(aS 9 ho hw hc1 (by simpa [fP,jT,closed,Ds]using Rq)).trans ?_;refine(fE 2 7 rfl rfl ⟨rfl,rfl⟩ (by simp[a0,a1];rfl) h1).trans ?_;refine(fE 3 8 rfl rfl ⟨rfl,rfl⟩ (by simp[b0,b1];rfl) h3).trans ?_;refine aS 6 (by simp) (uN _) hc ?_;simpa [fP,jT,closed]using hc0
theorem Hq[aB prog][eD prog](b:aV)(ss:List eT)(l:List iA)(hb:aF b<=68719476736)(h6:l.length<=6)(hx:∀x∈l,x.text.length<=268435456)(hl:ss.length<=1099511627776)(hr:∀x∈ss,x.rules.length<=1099511627776)(rU:∀n,0<=aZ ss n/\aZ ss n<=999):
  Ok prog 70 [.agg (aH .view b),.sl .view 1 (ss.map (cZ .view)),.sl .view 2 (l.map jO)] (.fH [.agg (aH .own (cO b ss l).1),.str (cO b ss l).2.1,.sl .own 1 ((cO b ss l).2.2.map dR)]):=by
 have c0:=iP b (by omega);have hsz:=xE 268435456 b ss l (by omega) h6 hx rU hb;have nu:=EK b ss l;have zJ:nV b ss l l.length=cO b ss l:=by simp[nV]
 have hz0:nV b ss l 0=(b,[],[]):=rfl;rw[<-zJ];clear zJ;have cR:=λ(b:aV) (x:iA) (h1:aF b<=274877906944) (h2:x.text.length<=268435456)=>Mc b ss x h1 h2 hl hr rU
 clear hr rU;generalize nV b ss l=G at*;simp only[aH]at c0;refine dA aJ func70 ntmps70 ?_;refine nG ?_;refine aY (ι:={q:Nat×Nat // q.1<=l.length/\1<=q.2}) (λt o i=>⟨bN t [(22,.int .i64 i.1.1),(10,.str (G i.1.1).2.1),(11,.obj 5 i.1.2),(13,.undef),(14,.undef),(15,.undef),(16,.undef),(18,.undef)],o.take 2++[⟨true,false,4,1,(G i.1.1).1.nodes.map (dK .own)⟩,⟨true,false,1,1,(G i.1.1).1.opens.map nP⟩,⟨true,true,2,0,[[.obj 2 1,.obj 3 1]]⟩,⟨true,false,1,i.1.2,(G i.1.1).2.2.map dR⟩]⟩)
  (λi=>l.length-i.1.1) ⟨(0,1),by simp,by simp⟩ (aC (by simp[hz0]) (by simp[hz0])) ?_
 rintro⟨⟨k,v⟩,hk,hv⟩ K1 hK1;simp only at hk hv;simp only[bN,cH,cG,kO,sC,cM,cW]at hK1⊢;have hk1:=vJ (k:=k);by_cases hlt:k<l.length
 .have hg:=aE hlt;have hxk:=hx _ (mL hlt);obtain⟨s1,s2,s3,_⟩:=hsz k hk;have hk6:k*(268435456+1)<=6*(268435456+1):=hH _ (by omega);have hk7:k*268435456<=6*268435456:=hH _ (by omega);have hnext:=nu k hlt;have cL:=cR (G k).1 l[k] (by omega) hxk;have H6:=(hsz (k+1) (by omega)).2.1;obtain⟨n1,p1,mw,ms,hR⟩:∃n1 p1 mw ms,bH (G k).1 ss l[k]=(⟨n1,p1⟩,mw,ms):=⟨_,_,_,_,rfl⟩;rw[hR]at cL;simp only[oQ,hR]at hnext;rw[hnext]at H6;clear hR cR hsz nu hx;generalize hGk:G k=g at*;obtain⟨⟨n0,p0⟩,w0,lg0⟩:=g;simp only at s1 s2 s3 H6 hnext cL;have hwl:w0.length+mw.length<=1610612736:=by rw[eJ]at H6;have:(k+1)*268435456<=6*268435456:=hH _ (by omega);omega
  have Xq:lg0.length<=6:=by omega
  clear s1 s2 s3 H6;simp only[aH,jO]at cL;by_cases ny:ms=[]
  .rw [eA ny]at hnext;subst ny;have W:=aA hk1 (aA hg hwl);have V:=hlt;refine wl ?_;all_goals refine hK1 _ ⟨(k+1,v),by simp only;omega,by simp only;omega⟩ ?_ (by simp only;omega)
   all_goals exact TD rfl (by simp[hnext]) (by simp) (by simp[hnext]) (by simp) (by simp) (by simp) (by simp) (by simp[fP]) (by simp[fP])
  .rw [cU ny]at hnext;have hmb:ms.isEmpty=false:=by cases ms with|nil=>exact absurd rfl ny|cons _ _=>rfl
   have W:=aA hk1 (aA hg (aA hwl (aA ny (aA hmb Xq))));have V:=hlt;refine wl ?_;all_goals refine hK1 _ ⟨(k+1,v+1),by simp only;omega,by simp only;omega⟩ ?_ (by simp only;omega)
   all_goals exact TD rfl (by simp[hnext]) (by simp) (by simp[hnext]) (by simp) (by simp) (by simp) (by simp) (by simp[fP]) (by simp[fP])
 .have hkl:k=l.length:=by omega
  subst hkl;have W:=hk1;refine wl ?_;exact aO results70
theorem Hr[aB prog][eD prog](b:aV)(ss:List eT)(l:List iA)(hb:aF b<=68719476736)(h6:l.length<=6)(hx:∀x∈l,x.text.length<=268435456)(hl:ss.length<=1099511627776)(hr:∀x∈ss,x.rules.length<=1099511627776)(rU:∀n,0<=aZ ss n/\aZ ss n<=999):
  Ok prog 42 [.agg (aH .view b),.sl .view 1 (ss.map (cZ .view)),.sl .view 2 (l.map jO)] (.fH [.agg (aH .own (cO b ss l).1),.str (cO b ss l).2.1,.sl .own 1 ((cO b ss l).2.2.map dR)]):=by
 have c0:=iQ b (by omega);have hsz:=xE 268435456 b ss l (by omega) h6 hx rU hb;have nu:=EK b ss l;have zJ:nV b ss l l.length=cO b ss l:=by simp[nV]
 have hz0:nV b ss l 0=(b,[],[]):=rfl;rw[<-zJ];clear zJ;have cR:=λ(b:aV) (x:iA) (h1:aF b<=274877906944) (h2:x.text.length<=268435456)=>Md b ss x h1 h2 hl hr rU
 clear hr rU;generalize nV b ss l=G at*;simp only[aH]at c0;refine dA aJ func42 ntmps42 ?_;refine nG ?_;refine aY (ι:={q:Nat×Nat // q.1<=l.length/\1<=q.2}) (λt o i=>⟨bN t [(12,.int .i64 i.1.1),(10,.str (G i.1.1).2.1),(11,.obj 5 i.1.2),(13,.undef),(13,.undef),(14,.undef),(15,.undef),(17,.undef)],o.take 2++[⟨true,false,4,1,(G i.1.1).1.nodes.map (dK .own)⟩,⟨true,false,1,1,(G i.1.1).1.opens.map nP⟩,⟨true,true,2,0,[[.obj 2 1,.obj 3 1]]⟩,⟨true,false,1,i.1.2,(G i.1.1).2.2.map dR⟩]⟩)
  (λi=>l.length-i.1.1) ⟨(0,1),by simp,by simp⟩ (aC (by simp[hz0]) (by simp[hz0])) ?_
 rintro⟨⟨k,v⟩,hk,hv⟩ K1 hK1;simp only at hk hv;simp only[bN,cH,cG,kO,sC,cM,cW]at hK1⊢;have hk1:=vJ (k:=k);by_cases hlt:k<l.length
 .have hg:=aE hlt;have hxk:=hx _ (mL hlt);obtain⟨s1,s2,s3,_⟩:=hsz k hk;have hk6:k*(268435456+1)<=6*(268435456+1):=hH _ (by omega);have hk7:k*268435456<=6*268435456:=hH _ (by omega);have hnext:=nu k hlt;have cL:=cR (G k).1 l[k] (by omega) hxk;have H6:=(hsz (k+1) (by omega)).2.1;obtain⟨n1,p1,mw,ms,hR⟩:∃n1 p1 mw ms,bH (G k).1 ss l[k]=(⟨n1,p1⟩,mw,ms):=⟨_,_,_,_,rfl⟩;rw[hR]at cL;simp only[oQ,hR]at hnext;rw[hnext]at H6;clear hR cR hsz nu hx;generalize hGk:G k=g at*;obtain⟨⟨n0,p0⟩,w0,lg0⟩:=g;simp only at s1 s2 s3 H6 hnext cL;have hwl:w0.length+mw.length<=1610612736:=by rw[eJ]at H6;have:(k+1)*268435456<=6*268435456:=hH _ (by omega);omega
  have Xq:lg0.length<=6:=by omega
  clear s1 s2 s3 H6;simp only[aH,jO]at cL;by_cases ny:ms=[]
  .rw [eA ny]at hnext;subst ny;have W:=aA hk1 (aA hg hwl);have V:=hlt;refine wl ?_;all_goals refine hK1 _ ⟨(k+1,v),by simp only;omega,by simp only;omega⟩ ?_ (by simp only;omega)
   all_goals exact Pf rfl (by simp[hnext]) (by simp) (by simp[hnext]) (by simp) (by simp) (by simp) (by simp) (by simp[fP]) (by simp[fP])
  .rw [cU ny]at hnext;have hmb:ms.isEmpty=false:=by cases ms with|nil=>exact absurd rfl ny|cons _ _=>rfl
   have W:=aA hk1 (aA hg (aA hwl (aA ny (aA hmb Xq))));have V:=hlt;refine wl ?_;all_goals refine hK1 _ ⟨(k+1,v+1),by simp only;omega,by simp only;omega⟩ ?_ (by simp only;omega)
   all_goals exact Pf rfl (by simp[hnext]) (by simp) (by simp[hnext]) (by simp) (by simp) (by simp) (by simp) (by simp[fP]) (by simp[fP])
 .have hkl:k=l.length:=by omega
  subst hkl;have W:=hk1;refine wl ?_;exact aO results42
theorem DN[aB prog][eZ prog](s:aX)(c:UInt8):Ok prog 146 [.str s,.int .u8 c.toNat] (.int .i64 (Sy c s)):=by have h1:=wC s c;refine dA aJ func146 ntmps146 ?_;refine bI ?_;exact aO results146
def yK(t:bD×Bool):List bD:=if t.2=true then [t.1]else []
def gI(x:aX):Option (List bD×aX):=
 if 0<gD 60 x/\gD 60 x<x.length then some ([⟨3,[],[],x.take (gD 60 x)⟩],x.drop (gD 60 x))
 else if gD 60 x≠0\/gD 62 x=x.length then none
 else some (yK (nN ((x.take (gD 62 x)).drop 1)),x.drop (gD 62 x+1))
theorem Ci{x:aX}{ts:List bD}{y:aX}(h:gI x=some (ts,y)):y.length<x.length/\ts.length<=1/\bM bF ts+y.length<=x.length:=by
 unfold gI at h;split at h
 .rename_i hc;simp only[cQ,oX]at h;obtain⟨rfl,rfl⟩:=h;simp[bM,bF,dL];omega
 .split at h
  .cases h
  .rename_i hc;have h62:=uL 62 x;simp only[cQ,oX]at h;obtain⟨rfl,rfl⟩:=h;have hz:=ku ((x.take (gD 62 x)).drop 1);simp only[tG,pN]at hz;generalize nN ((x.take (gD 62 x)).drop 1)=tg at*;unfold yK;split<;>simp[bM]<;>omega
def Cj:Nat->aX->List bD×aX
 |0,x=>([],x)
 |n+1,x=>match gI x with
  |none=>([],x)
  |some (ts,y)=>(ts++(Cj n y).1,(Cj n y).2)
def feed(x:aX):List bD×aX:=Cj x.length x
theorem Bc:∀(n:Nat) (x:aX),x.length<=n->Cj n x=Cj x.length x
 |0,x,h=>by rw[show x.length=0 by omega]
 |n+1,x,h=>by
  cases hs:gI x with
  |none=>
   cases hx:x.length with
   |zero=>simp[Cj,hs]
   |succ m=>simp[Cj,hs]
  |some q=>
   obtain⟨ts,y⟩:=q;have hlt:=(Ci hs).1;cases hx:x.length with
   |zero=>omega
   |succ m=>simp only[Cj,hs];rw[Bc n y (by omega),Bc m y (by omega)]
theorem Ad{x:aX}{ts:List bD}{y:aX}(h:gI x=some (ts,y)):feed x=(ts++(feed y).1,(feed y).2):=by
 have hlt:=(Ci h).1;unfold feed;cases hx:x.length with
 |zero=>omega
 |succ m=>simp only[Cj,h];rw[Bc m y (by omega)]
theorem Ae{x:aX}(h:gI x=none):feed x=([],x):=by
 unfold feed;cases hx:x.length with
 |zero=>simp[Cj]
 |succ m=>simp[Cj,h]
theorem De:∀(n:Nat) (x:aX),x.length<=n->(feed x).1.length+(feed x).2.length<=x.length/\bM bF (feed x).1+(feed x).2.length<=x.length
 |n,x,h=>by
  cases hs:gI x with
  |none=>rw[Ae hs];simp[bM]
  |some q=>
   obtain⟨ts,y⟩:=q;obtain⟨h1,h2,h3⟩:=Ci hs;rw[Ad hs];cases n with
   |zero=>omega
   |succ n=>
    obtain⟨i1,i2⟩:=De n y (by omega);have hj:∀a b:List bD,bM bF (a++b)=bM bF a+bM bF b:=by
     intro a b;induction a with
     |nil=>simp[bM]
     |cons x xs ih=>simp only[cM,bM,ih];omega
    simp only[eJ,hj];omega
theorem Xr{x:aX}(h0:gD 60 x=0)(h1:gD 62 x<x.length):1<=gD 62 x:=by
 cases x with
 |nil=>simp at h1
 |cons c r=>
  rw[xB]at h0⊢;by_cases hc:c=60
  .subst hc;rw[cU (by decide)];omega
  .rw [cU hc]at h0;omega
theorem BA[aB prog][eZ prog](t:jH)(s:aX)(hl:t.rest.length+s.length<=274877906944):Ok prog 77 [.agg (bW t),.str s] (.fH [.sl .own 4 ((feed (t.rest++s)).1.map (bE .own)),.agg [.str (feed (t.rest++s)).2]]):=by
 obtain⟨rest⟩:=t;simp only at hl⊢;have hx0:(rest++s).length<=274877906944:=by simp;omega
 have hj:rest.length+s.length<=9223372036854775807:=by omega
 generalize hx:rest++s=x0 at*;generalize hF:feed x0=F at*;refine dA aJ func77 ntmps77 ?_;have W:=aA hj hx;refine we ?_;refine aY (ι:={q:aX×List bD×Nat // (q.2.1.length+q.1.length<=x0.length/\1<=q.2.2)/\F=(q.2.1++(feed q.1).1,(feed q.1).2)}) (λt o i=>⟨bN t [(6,.obj 2 i.1.2.2),(7,.str i.1.1)],[⟨true,true,1,0,[[.str rest]]⟩,⟨true,true,1,0,[[.str []]]⟩,⟨true,false,4,i.1.2.2,i.1.2.1.map (bE .own)⟩]⟩)
  (λi=>i.1.1.length) ⟨(x0,[],1),by simp,by simp[hF]⟩ aC ?_
 rintro⟨⟨x,acc,v⟩,⟨lq,hv⟩,sO⟩ K1 hK1;simp only at lq hv sO;simp only[bN,cH,cG]at hK1⊢;have cK:Ok prog 118 [.str x,.int .u8 60] (.int .i64 (gD 60 x:Nat)):=LG x 60 (by omega);have cE:Ok prog 118 [.str x,.int .u8 62] (.int .i64 (gD 62 x:Nat)):=LG x 62 (by omega);have hkl:=uL 60 x;have YT:=uL 62 x;have xw:=Xr (x:=x);have cT:=Qw ((x.take (gD 62 x)).drop 1) (by simp;omega);simp only[bE,drop_one]at cT;have hst:gI x=_:=rfl;unfold gI at hst;by_cases hA:0<gD 60 x/\gD 60 x<x.length
 .have Kb:gI x=some ([⟨3,[],[],x.take (gD 60 x)⟩],x.drop (gD 60 x)):=by unfold gI;rw[eA hA]
  rw[Ad Kb]at sO;have hA1:(0:Int)<((gD 60 x:Nat):Int):=by omega
  have hA2:((gD 60 x:Nat):Int)<(x.length:Int):=by omega
  clear hst Kb cT cE xw YT;generalize gD 60 x=k at*;have hb1:(acc.length+1)*64<=140737488355328:=by omega
  have W:=aA hA1 (aA hA2 hb1);refine we ?_;all_goals refine hK1 _ ⟨(x.drop k,acc++[⟨3,[],[],x.take k⟩],v+1),⟨by simp;omega,by simp only;omega⟩,by rw[sO];simp⟩ (aS 3) (by simp;omega)
 .by_cases hB:gD 60 x≠0\/gD 62 x=x.length
  .have Kb:gI x=none:=by unfold gI;rw[cU hA,eA hB]
   rw[Ae Kb]at sO;subst sO;clear hst Kb cT xw hK1;by_cases hk0:gD 60 x=0
   .have hee:gD 62 x=x.length:=by rcases hB with h|h;exact absurd hk0 h;exact h
    rw[hk0]at cK;rw[hee]at cE;clear hA hB;refine bI ?_;exact aO results77
   .have Z5:gD 60 x=x.length:=by omega
    have hx1:¬x=[]:=by rintro rfl;simp at Z5;exact hk0 Z5
    have hx2:0<x.length:=zE.2 hx1;rw[Z5]at cK;clear hA hB hk0;have W:=aA hx1 hx2;refine we ?_;exact aO results77
  .have Kb:gI x=some (yK (nN ((x.take (gD 62 x)).drop 1)),x.drop (gD 62 x+1)):=by unfold gI;rw[cU hA,cU hB]
   rw[Ad Kb]at sO;have hk0:gD 60 x=0:=by omega
   have hE1:=xw hk0 (by omega);have Kh:gD 62 x<x.length:=by omega
   rw[hk0]at cK;clear hst Kb xw hA hB hk0 hkl;generalize gD 62 x=e at*;rw[drop_one]at sO;generalize nN (x.take e).tail=tg at*;obtain⟨tk,ok⟩:=tg;simp only at cT;have hE3:¬((e:Int)=(x.length:Int)):=by omega
   have hE4:(1:Int)<=(e:Int):=by omega
   have hE5:(e:Int)<=(x.length:Int):=by omega
   have hw:i64.wrap ((e:Int)+1)=((e+1:Nat):Int):=by rw[wrap64]<;>omega
   have hE6:e+1<=x.length:=by omega
   have hb1:(acc.length+1)*64<=140737488355328:=by omega
   cases ok
   .simp only[yK,cJ,eK,cW]at sO;have W:=aA hE3 (aA hE4 (aA hE5 (aA hw (aA hE6 hE1))));refine we ?_;all_goals refine hK1 _ ⟨(x.drop (e+1),acc,v),⟨by simp;omega,hv⟩,sO⟩ (aS 3) (by simp;omega)
   .simp only[yK,eI]at sO;have W:=aA hE3 (aA hE4 (aA hE5 (aA hw (aA hE6 (aA hE1 hb1)))));refine we ?_;all_goals refine hK1 _ ⟨(x.drop (e+1),acc++[tk],v+1),⟨by simp;omega,by simp only;omega⟩,by rw[sO];simp⟩ (aS 3) (by simp;omega)
theorem Jz[aB prog][eZ prog](t:jH)(s:aX)(hl:t.rest.length+s.length<=274877906944):Ok prog 109 [.agg (bW t),.str s] (.fH [.sl .own 4 ((feed (t.rest++s)).1.map (bE .own)),.agg [.str (feed (t.rest++s)).2]]):=by
 obtain⟨rest⟩:=t;simp only at hl⊢;have hx0:(rest++s).length<=274877906944:=by simp;omega
 have hj:rest.length+s.length<=9223372036854775807:=by omega
 generalize hx:rest++s=x0 at*;generalize hF:feed x0=F at*;refine dA aJ func109 ntmps109 ?_;have W:=aA hj hx;refine we ?_;refine aY (ι:={q:aX×List bD×Nat // (q.2.1.length+q.1.length<=x0.length/\1<=q.2.2)/\F=(q.2.1++(feed q.1).1,(feed q.1).2)}) (λt o i=>⟨bN t [(7,.obj 2 i.1.2.2),(6,.str i.1.1)],[⟨true,true,1,0,[[.str rest]]⟩,⟨true,true,1,0,[[.str []]]⟩,⟨true,false,4,i.1.2.2,i.1.2.1.map (bE .own)⟩]⟩)
  (λi=>i.1.1.length) ⟨(x0,[],1),by simp,by simp[hF]⟩ aC ?_
 rintro⟨⟨x,acc,v⟩,⟨lq,hv⟩,sO⟩ K1 hK1;simp only at lq hv sO;simp only[bN,cH,cG]at hK1⊢;cases xx:x with
 |nil=>
  have Kb:gI []=none:=by simp[gI,Xb]
  rw[xx,Ae Kb]at sO;subst sO;clear hK1;refine bI ?_;exact aO results109
 |cons c r=>
  have hx1:¬x=[]:=by rw[xx];simp
  have hx2:x[0]? =some c:=by rw[xx];rfl
  rw[<-xx];have cK:Ok prog 146 [.str x,.int .u8 60] (.int .i64 (Sy 60 x)):=DN x 60;have cE:Ok prog 146 [.str x,.int .u8 62] (.int .i64 (Sy 62 x)):=DN x 62;unfold Sy at cK cE;have hkl:=uL 60 x;have YT:=uL 62 x;have xw:=Xr (x:=x);have cT:=Qr ((x.take (gD 62 x)).drop 1) (by simp;omega);simp only[bE,drop_one]at cT;by_cases TG:c=60
  .have hk0:gD 60 x=0:=by rw[xx,xB,eA TG]
   have hc1:(c.toNat:Int)=60:=by rw[TG];rfl
   have hA:¬(0<gD 60 x/\gD 60 x<x.length):=by omega
   by_cases hB:gD 62 x=x.length
   .have Kb:gI x=none:=by unfold gI;rw[cU hA,eA (.inr hB)]
    rw[Ae Kb]at sO;subst sO;rw[cU (by omega)]at cE;clear Kb cT xw hK1 hA hB xx TG cK hk0;have W:=aA hx1 (aA hx2 hc1);repeat' first|refine wf ?_|(refine sq ?_ ?_<;>intro hc<;>try exact hc.elim)|fail
    all_goals (try exact aO results109)
   .have Kb:gI x=some (yK (nN ((x.take (gD 62 x)).drop 1)),x.drop (gD 62 x+1)):=by unfold gI;rw[cU hA,cU (by rintro(h|h);exact h hk0;exact hB h)]
    rw[Ad Kb]at sO;have hE1:=xw hk0 (by omega);have Kh:gD 62 x<x.length:=by omega
    rw[eA Kh]at cE;clear Kb xw hA hB hkl xx TG cK hk0;generalize gD 62 x=e at*;rw[drop_one]at sO;generalize nN (x.take e).tail=tg at*;obtain⟨tk,ok⟩:=tg;simp only at cT;have hE4:(1:Int)<=(e:Int):=by omega
    have hE5:(e:Int)<=(x.length:Int):=by omega
    have hw:i64.wrap ((e:Int)+1)=((e+1:Nat):Int):=by rw[wrap64]<;>omega
    have hE6:e+1<=x.length:=by omega
    have hb1:(acc.length+1)*64<=140737488355328:=by omega
    cases ok
    .simp only[yK,cJ,eK,cW]at sO;have W:=aA hx1 (aA hx2 (aA hc1 (aA hE4 (aA hE5 (aA hw (aA hE6 hE1))))));repeat' first|refine wf ?_|(refine sq ?_ ?_<;>intro hc<;>try exact hc.elim)|fail
     all_goals first|(exact absurd hc hx1)|refine hK1 _ ⟨(x.drop (e+1),acc,v),⟨by simp;omega,hv⟩,sO⟩ (aS 3) (by simp;omega)
    .simp only[yK,eI]at sO;have W:=aA hx1 (aA hx2 (aA hc1 (aA hE4 (aA hE5 (aA hw (aA hE6 (aA hE1 hb1)))))));repeat' first|refine wf ?_|(refine sq ?_ ?_<;>intro hc<;>try exact hc.elim)|fail
     all_goals first|(exact absurd hc hx1)|refine hK1 _ ⟨(x.drop (e+1),acc++[tk],v+1),⟨by simp;omega,by simp only;omega⟩,by rw[sO];simp⟩ (aS 3) (by simp;omega)
  .have hk0:0<gD 60 x:=by rw[xx,xB,cU TG];omega
   have hc1:¬(c.toNat:Int)=60:=λh=>TG (AG.1 (by simp;omega))
   by_cases hB:gD 60 x<x.length
   .have Kb:gI x=some ([⟨3,[],[],x.take (gD 60 x)⟩],x.drop (gD 60 x)):=by unfold gI;rw[eA ⟨hk0,hB⟩]
    rw[Ad Kb]at sO;rw[eA hB]at cK;clear Kb cT cE xw YT xx TG;generalize gD 60 x=k at*;have hA1:(0:Int)<(k:Int):=by omega
    have hA2:(k:Int)<(x.length:Int):=by omega
    have hb1:(acc.length+1)*64<=140737488355328:=by omega
    have W:=aA hx1 (aA hx2 (aA hc1 (aA hA1 (aA hA2 hb1))));repeat' first|refine wf ?_|(refine sq ?_ ?_<;>intro hc<;>try exact hc.elim)|fail
    all_goals first|(exact absurd hc hx1)|refine hK1 _ ⟨(x.drop k,acc++[⟨3,[],[],x.take k⟩],v+1),⟨by simp;omega,by simp only;omega⟩,by rw[sO];simp⟩ (aS 3) (by simp;omega)
   .have Kb:gI x=none:=by unfold gI;rw[cU (by omega),eA (.inl (by omega))]
    rw[Ae Kb]at sO;subst sO;rw[cU hB]at cK;clear Kb cT xw hK1 hB xx TG cE hk0;have W:=aA hx1 (aA hx2 hc1);repeat' first|refine wf ?_|(refine sq ?_ ?_<;>intro hc<;>try exact hc.elim)|fail
    all_goals (try exact aO results109)
def pI(s:aX):List bD:=(feed s).1++jA ⟨(feed s).2⟩
theorem Ck(t:jH):bM bF (jA t)<=t.rest.length/\(jA t).length<=1:=by
 unfold jA;split
 .simp [bM]
 .simp [bM,bF,dL]
theorem yM(s:aX):(pI s).length<=s.length+1/\bM bF (pI s)<=s.length:=by
 obtain⟨h1,h2⟩:=De s.length s (cX _);obtain⟨h3,h4⟩:=Ck ⟨(feed s).2⟩;have hj:∀a b:List bD,bM bF (a++b)=bM bF a+bM bF b:=by
  intro a b;induction a with
  |nil=>simp[bM]
  |cons x xs ih=>simp only[cM,bM,ih];omega
 simp only[pI,eJ,hj]at*;omega
theorem JA[aB prog][eZ prog](s:aX)(hl:s.length<=1048576):Ok prog 44 [.str s] (.sl .own 4 ((pI s).map (bE .own))):=by
 have c1:=BA ⟨[]⟩ s (by simp;omega);obtain⟨h1,h2⟩:=De s.length s (cX _);simp only[cW,bW]at c1;unfold pI;generalize feed s=f at*;obtain⟨l,x⟩:=f;simp only at c1 h1 h2⊢;have c2:=Ch ⟨x⟩ (by simp only;omega);have h4:=(Ck ⟨x⟩).2;simp only[bW]at c2;generalize jA ⟨x⟩=g at*;have hb1:(l.length+g.length)*64<=140737488355328:=by omega
 refine dA aJ func44 ntmps44 ?_;have W:=hb1;refine we ?_;all_goals try(refine aP ?_;simp[aT,results44])
 all_goals (first|(rw[<-oT];exact nD _)|simp)
theorem JB[aB prog][eZ prog](s:aX)(hl:s.length<=1048576):Ok prog 72 [.str s] (.sl .own 4 ((pI s).map (bE .own))):=by
 have c1:=Jz ⟨[]⟩ s (by simp;omega);obtain⟨h1,h2⟩:=De s.length s (cX _);simp only[cW,bW]at c1;unfold pI;generalize feed s=f at*;obtain⟨l,x⟩:=f;simp only at c1 h1 h2⊢;have c2:=Mf ⟨x⟩ (by simp only;omega);have h4:=(Ck ⟨x⟩).2;simp only[bW]at c2;generalize jA ⟨x⟩=g at*;have hb1:(l.length+g.length)*64<=140737488355328:=by omega
 refine dA aJ func72 ntmps72 ?_;have W:=hb1;refine we ?_;all_goals try(refine aP ?_;simp[aT,results72])
 all_goals (first|(rw[<-oT];exact nD _)|simp)
theorem aB3[aB prog](d:List UInt8)(hd:d.length<=9223372036854775807):Ok prog 4 [.sl .view 1 (aR d)] (.bool (decide (1048576<(d.length:Int)))):=by
 refine dA aJ func4 ntmps4 ?_;have hb:(aR d).length=d.length:=by simp[aR]
 have W:=hb;repeat' first|refine st ?_|(refine nx ?_;refine so ?_)|(refine cx ?_;refine sc (λhc=>?_) (λhc=>?_)<;>try exact hc.elim)|(refine lx ?_;refine sp (λhc=>?_) (λhc=>?_)<;>try exact hc.elim)|refine sx ?_ ?_|refine sy ?_ ?_|fail
 all_goals (try exact aO results4)
theorem Wz{x:AV}(hx:mR [.sl 1 [.int .u8]] [x]):∃d:List UInt8,x= .sl .view 1 (aR d)/\d.length<=9223372036854775807:=by
 obtain⟨l,rfl,⟨h,_⟩,_⟩:=VA (e:=λc:UInt8=>[.int .u8 c.toNat]) (p:=λ_=>True) (q:=λ_=>True) (λr h=>by
  obtain⟨n,r',rfl,hn,h⟩:=fits_int h;obtain rfl:=au h;have hn1:0<=n/\n<=255:=hn;refine⟨UInt8.ofNat n.toNat,?_,trivial,trivial⟩;have e:(((UInt8.ofNat n.toNat).toNat:Nat):Int)=n:=by rw[UInt8.toNat_ofNat'];omega
  rw[e]) hx
 exact⟨l,rfl,h⟩
end Go.Proofs.YtjkdolejalpflaaGreatDoor
