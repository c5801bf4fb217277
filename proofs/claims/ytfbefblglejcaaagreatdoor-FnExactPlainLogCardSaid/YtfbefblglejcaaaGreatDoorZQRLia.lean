/- Proved here: steps towards the statement of this claim. No condition. -/
import Derived.Test.YtfbefblglejcaaaGreatDoorZQT3
import Derived.Test.YtfbefblglejcaaaGreatDoorZW3
set_option linter.all false
set_option maxRecDepth 4000
set_option maxHeartbeats 4000000
namespace Go.Proofs.YtfbefblglejcaaaGreatDoor
open Go.Aw Proofs.Tryz List IntKind
theorem aFw[aC prog][dL prog](b:bE)(ss:List gQ)(x:jT)(hs:aT b<=274877906944)(hx:x.text.length<=268435456)(hl:ss.length<=1099511627776)(hr:∀x∈ss,x.rules.length<=1099511627776)(wU:∀n,0<=bJ ss n/\bJ ss n<=999)(hop:x.op=1):
  Ok prog 285 [.agg (aU .view b),.sl .view 1 (ss.map (dZ .view)),.agg (lI x)] (.gT [.agg (aU .own (bU b ss x).1),.str (bU b ss x).2.1,.str (bU b ss x).2.2]):=by
 have c1:=kP b hs;have hn:b.nodes.length<=274877906944:=by simp only[aT,bQ]at hs;omega
 obtain⟨op,tx⟩:=x;simp only at hx hop;have c2:=qM tx (by omega);have c3:=pO b tx (by omega);have c4:=sQ ss tx hl hr;have c5:=gL tx (by omega);have c6:=jM (b.nodes.length:Int) 1 39;have hcn:0<=aX b tx/\aX b tx<=(b.nodes.length:Int):=by unfold aX;have:=oB (λx:jK=>decide (x.name=tx)) b.nodes;omega
 have Ux:=wU tx;have c7:=fI (aX b tx) (by omega);have c8:=fI (bJ ss tx) (by omega);have z7:=iI (aX b tx) (by omega) (by omega);have z8:=iI (bJ ss tx) (by omega) (by omega);simp only[aU]at c1 c3;clear hr wU;simp only[bU,yN,CY,LK];generalize Lib.itoa (aX b tx)=i7 at*;generalize Lib.itoa (bJ ss tx)=i8 at*;generalize aX b tx=cn at*;generalize bJ ss tx=cc at*;subst hop;rw[eK rfl];refine bM aF func285 ntmps285 ?_;refine aY ?_;exact aD results285
theorem aFx[aC prog][dL prog](b:bE)(ss:List gQ)(x:jT)(hs:aT b<=274877906944)(hx:x.text.length<=268435456)(hl:ss.length<=1099511627776)(hr:∀x∈ss,x.rules.length<=1099511627776)(wU:∀n,0<=bJ ss n/\bJ ss n<=999)(hop:x.op=2):
  Ok prog 285 [.agg (aU .view b),.sl .view 1 (ss.map (dZ .view)),.agg (lI x)] (.gT [.agg (aU .own (bU b ss x).1),.str (bU b ss x).2.1,.str (bU b ss x).2.2]):=by
 have c1:=kP b hs;have hn:b.nodes.length<=274877906944:=by simp only[aT,bQ]at hs;omega
 obtain⟨op,tx⟩:=x;simp only at hx hop;have c2:=qM tx (by omega);have c3:=pO b tx (by omega);have c4:=sQ ss tx hl hr;have c5:=gL tx (by omega);have c6:=jM (b.nodes.length:Int) 1 39;have hcn:0<=aX b tx/\aX b tx<=(b.nodes.length:Int):=by unfold aX;have:=oB (λx:jK=>decide (x.name=tx)) b.nodes;omega
 have Ux:=wU tx;have c7:=fI (aX b tx) (by omega);have c8:=fI (bJ ss tx) (by omega);have z7:=iI (aX b tx) (by omega) (by omega);have z8:=iI (bJ ss tx) (by omega) (by omega);simp only[aU]at c1 c3;clear hr wU;simp only[bU,yN,CY,LK];generalize Lib.itoa (aX b tx)=i7 at*;generalize Lib.itoa (bJ ss tx)=i8 at*;generalize aX b tx=cn at*;generalize bJ ss tx=cc at*;subst hop;rw[cX (by decide),eK rfl];by_cases hc:(1<=b.nodes.length/\b.nodes.length<=39)/\dA tx=true
 .rw [eK hc];rw[show(decide ((1:Int)<=(b.nodes.length:Int))&&decide ((b.nodes.length:Int)<=39))=true from by simp;omega]at c6;rw[hc.2]at c5;obtain⟨l0,hl0⟩:∃l,l=b.nodes++[(⟨tx,[],0,[]⟩:jK)]:=⟨_,rfl⟩;have hap:b.nodes.map (fA .own)++[[.str tx,.str [],.int .i64 0,.sl .own 2 []]]=l0.map (fA .own):=by rw[hl0];simp
  rw[<-hl0];clear hl0 hc;refine bM aF func285 ntmps285 ?_;have W:=aA hap hn;refine we ?_;exact aD results285
 .rw [cX hc];by_cases hc1:1<=b.nodes.length/\b.nodes.length<=39
  .have YW:dA tx=false:=by
    cases h:dA tx with
    |false=>rfl
    |true=>exact absurd ⟨hc1,h⟩ hc
   rw[show(decide ((1:Int)<=(b.nodes.length:Int))&&decide ((b.nodes.length:Int)<=39))=true from by simp;omega]at c6;rw[YW]at c5;clear hc;refine bM aF func285 ntmps285 ?_;refine aY ?_;exact aD results285
  .rw [show(decide ((1:Int)<=(b.nodes.length:Int))&&decide ((b.nodes.length:Int)<=39))=false from by simp;omega]at c6;clear hc;refine bM aF func285 ntmps285 ?_;refine aY ?_;exact aD results285
theorem aFy[aC prog][dL prog](b:bE)(ss:List gQ)(x:jT)(hs:aT b<=274877906944)(hx:x.text.length<=268435456)(hl:ss.length<=1099511627776)(hr:∀x∈ss,x.rules.length<=1099511627776)(wU:∀n,0<=bJ ss n/\bJ ss n<=999)(hop:¬x.op=1/\¬x.op=2/\¬x.op=3/\¬x.op=4/\¬x.op=5):
  Ok prog 285 [.agg (aU .view b),.sl .view 1 (ss.map (dZ .view)),.agg (lI x)] (.gT [.agg (aU .own (bU b ss x).1),.str (bU b ss x).2.1,.str (bU b ss x).2.2]):=by
 have c1:=kP b hs;have hn:b.nodes.length<=274877906944:=by simp only[aT,bQ]at hs;omega
 obtain⟨op,tx⟩:=x;simp only at hx hop;have c2:=qM tx (by omega);have c3:=pO b tx (by omega);have c4:=sQ ss tx hl hr;have c5:=gL tx (by omega);have c6:=jM (b.nodes.length:Int) 1 39;have hcn:0<=aX b tx/\aX b tx<=(b.nodes.length:Int):=by unfold aX;have:=oB (λx:jK=>decide (x.name=tx)) b.nodes;omega
 have Ux:=wU tx;have c7:=fI (aX b tx) (by omega);have c8:=fI (bJ ss tx) (by omega);have z7:=iI (aX b tx) (by omega) (by omega);have z8:=iI (bJ ss tx) (by omega) (by omega);simp only[aU]at c1 c3;clear hr wU;simp only[bU,yN,CY,LK];generalize Lib.itoa (aX b tx)=i7 at*;generalize Lib.itoa (bJ ss tx)=i8 at*;generalize aX b tx=cn at*;generalize bJ ss tx=cc at*;obtain⟨h1,h2,h3,h4,h5⟩:=hop;rw[cX h1,cX h2,cX h3,cX h4,cX h5];refine bM aF func285 ntmps285 ?_;have W:=aA h1 (aA h2 (aA h3 (aA h4 h5)));refine we ?_;exact aD results285
theorem aFz[aC prog][dL prog](b:bE)(ss:List gQ)(x:jT)(hs:aT b<=274877906944)(hx:x.text.length<=268435456)(hl:ss.length<=1099511627776)(hr:∀x∈ss,x.rules.length<=1099511627776)(wU:∀n,0<=bJ ss n/\bJ ss n<=999)(hop:x.op=3):
  Ok prog 285 [.agg (aU .view b),.sl .view 1 (ss.map (dZ .view)),.agg (lI x)] (.gT [.agg (aU .own (bU b ss x).1),.str (bU b ss x).2.1,.str (bU b ss x).2.2]):=by
 have c1:=kP b hs;have hn:b.nodes.length<=274877906944:=by simp only[aT,bQ]at hs;omega
 obtain⟨op,tx⟩:=x;simp only at hx hop;have c2:=qM tx (by omega);have c3:=pO b tx (by omega);have c4:=sQ ss tx hl hr;have c5:=gL tx (by omega);have c6:=jM (b.nodes.length:Int) 1 39;have hcn:0<=aX b tx/\aX b tx<=(b.nodes.length:Int):=by unfold aX;have:=oB (λx:jK=>decide (x.name=tx)) b.nodes;omega
 have Ux:=wU tx;have c7:=fI (aX b tx) (by omega);have c8:=fI (bJ ss tx) (by omega);have z7:=iI (aX b tx) (by omega) (by omega);have z8:=iI (bJ ss tx) (by omega) (by omega);simp only[aU]at c1 c3;clear hr wU;simp only[bU,yN,CY,LK];generalize Lib.itoa (aX b tx)=i7 at*;generalize Lib.itoa (bJ ss tx)=i8 at*;generalize aX b tx=cn at*;generalize bJ ss tx=cc at*;subst hop;rw[cX (by decide),cX (by decide),eK rfl];clear c2 c4 c5 c6 c8 z8 Ux hl;have NK:i7.length<=40:=by omega
 refine uK aF [10] func285 ntmps285 ?_;refine aY ?_;rw[yL];refine Ld (λJ=>⟨[.undef,.sl .view 1 (ss.map (dZ .view)),.undef,.ptr 0 0 0 0,.undef,.ptr 1 0 0 0,.ptr 2 0 0 0,dv J 12 (.str []),dv J 13 (.str ([99,111,117,110,116,32]++tx++[32]++i7)),.ptr 5 0 0 0,.undef,.undef,.undef,.undef,.undef,.undef,.undef,.undef,.undef,.undef,.undef,.undef,.undef,.undef,.undef,.undef,.undef,.undef,.undef,.undef,.undef,.undef,.undef,.undef,.undef,.undef,.undef,.undef,.undef,.undef,.undef,.undef,dv J 0 (.agg [.obj 3 1,.obj 4 1]),dv J 1 (.ptr 1 0 0 1),dv J 2 (.str tx),dv J 3 (.str ([99,111,117,110,116,32]++tx)),dv J 4 (.str ([99,111,117,110,116,32]++tx++[32])),dv J 5 (.agg [.sl .view 4 (b.nodes.map (fA .view)),.sl .view 1 (b.opens.map mG)]),dv J 6 (.ptr 1 0 0 1),dv J 7 (.str tx),dv J 8 (.int .i64 cn),dv J 9 (.str i7),dv J 10 (.str ([99,111,117,110,116,32]++tx++[32]++i7)),.undef,.undef,.undef,.undef,.undef,.undef,.undef,.undef,.undef,.undef,.undef,.undef,.undef,.undef,.undef,.undef,.undef,.undef,.undef,.undef],[⟨true,true,2,0,[[.sl .view 4 (b.nodes.map (fA .view)),.sl .view 1 (b.opens.map mG)]]⟩,⟨true,true,2,0,[[.int .i64 3,.str tx]]⟩,⟨true,true,2,0,[if J 11=true then [.obj 3 1,.obj 4 1]else [.sl .own 4 [],.sl .own 1 []]]⟩,⟨true,false,4,1,b.nodes.map (fA .own)⟩,⟨true,false,1,1,b.opens.map mG⟩,⟨true,true,2,0,[[.obj 3 1,.obj 4 1]]⟩]⟩) (aJ (by simp[dv,hx,NK]) (by simp[dv,hx,NK])) (by decide) ?_ ?_
 .simp only[xL,sA];refine⟨⟨trivial,λJ h1 h2=>iE λK hK=> ?_⟩,⟨trivial,λJ h1 h2=>iE λK hK=> ?_⟩,⟨trivial,λJ h1 h2=>iE λK hK=> ?_⟩,⟨trivial,λJ h1 h2=>iE λK hK=> ?_⟩,⟨trivial,λJ h1 h2=>iE λK hK=> ?_⟩,⟨trivial,λJ h1 h2=>iE λK hK=> ?_⟩,⟨trivial,λJ h1 h2=>iE λK hK=> ?_⟩,⟨trivial,λJ h1 h2=>iE λK hK=> ?_⟩,⟨trivial,λJ h1 h2=>iE λK hK=> ?_⟩,⟨trivial,λJ h1 h2=>iE λK hK=> ?_⟩,⟨trivial,λJ h1 h2=>iE λK hK=> ?_⟩,⟨trivial,λJ h1 h2=>iE λK hK=> ?_⟩,⟨trivial,λJ h1 h2=>iE λK hK=> ?_⟩,⟨trivial,λJ h1 h2=>iE λK hK=> ?_⟩⟩;all_goals simp[Region.binds]at h2
  all_goals first
   |(simp[-Bool.exists_bool,sD,dv,h1,h2,hx,NK];refine⟨_,(c3),hK _ (aJ ?_ ?_)⟩<;>simp[dv,uQ,h1,h2])
   |(simp[-Bool.exists_bool,sD,dv,h1,h2,hx,NK];refine⟨_,(c7),hK _ (aJ ?_ ?_)⟩<;>simp[dv,uQ,h1,h2])
   |(simp[-Bool.exists_bool,sD,dv,h1,h2,hx,NK];refine⟨?_,hK _ (aJ ?_ ?_)⟩;(focus omega);all_goals simp[dv,uQ,h1,h2])
   |(simp[-Bool.exists_bool,sD,dv,h1,h2,hx,NK];refine hK _ (aJ ?_ ?_)<;>simp[dv,uQ,h1,h2])
 .intro J hJ;have hJs:J 0=true/\J 1=true/\J 2=true/\J 3=true/\J 4=true/\J 5=true/\J 6=true/\J 7=true/\J 8=true/\J 9=true/\J 10=true/\J 11=true/\J 12=true/\J 13=true:=⟨hJ 0 (by decide),hJ 1 (by decide),hJ 2 (by decide),hJ 3 (by decide),hJ 4 (by decide),hJ 5 (by decide),hJ 6 (by decide),hJ 7 (by decide),hJ 8 (by decide),hJ 9 (by decide),hJ 10 (by decide),hJ 11 (by decide),hJ 12 (by decide),hJ 13 (by decide)⟩;simp only[dv,hJs,gC];clear hJs hJ J;refine aY ?_;exact aD results285
theorem aF1[aC prog][dL prog](b:bE)(ss:List gQ)(x:jT)(hs:aT b<=274877906944)(hx:x.text.length<=268435456)(hl:ss.length<=1099511627776)(hr:∀x∈ss,x.rules.length<=1099511627776)(wU:∀n,0<=bJ ss n/\bJ ss n<=999)(hop:x.op=4):
  Ok prog 285 [.agg (aU .view b),.sl .view 1 (ss.map (dZ .view)),.agg (lI x)] (.gT [.agg (aU .own (bU b ss x).1),.str (bU b ss x).2.1,.str (bU b ss x).2.2]):=by
 have c1:=kP b hs;have hn:b.nodes.length<=274877906944:=by simp only[aT,bQ]at hs;omega
 obtain⟨op,tx⟩:=x;simp only at hx hop;have c2:=qM tx (by omega);have c3:=pO b tx (by omega);have c4:=sQ ss tx hl hr;have c5:=gL tx (by omega);have c6:=jM (b.nodes.length:Int) 1 39;have hcn:0<=aX b tx/\aX b tx<=(b.nodes.length:Int):=by unfold aX;have:=oB (λx:jK=>decide (x.name=tx)) b.nodes;omega
 have Ux:=wU tx;have c7:=fI (aX b tx) (by omega);have c8:=fI (bJ ss tx) (by omega);have z7:=iI (aX b tx) (by omega) (by omega);have z8:=iI (bJ ss tx) (by omega) (by omega);simp only[aU]at c1 c3;clear hr wU;simp only[bU,yN,CY,LK];generalize Lib.itoa (aX b tx)=i7 at*;generalize Lib.itoa (bJ ss tx)=i8 at*;generalize aX b tx=cn at*;generalize bJ ss tx=cc at*;subst hop;rw[cX (by decide),cX (by decide),cX (by decide),eK rfl];clear c2 c3 c5 c6 c7 z7 hcn;have NK:i8.length<=40:=by omega
 refine uK aF [12] func285 ntmps285 ?_;refine aY ?_;rw[yL];refine Ld (λJ=>⟨[.undef,.sl .view 1 (ss.map (dZ .view)),.undef,.ptr 0 0 0 0,.undef,.ptr 1 0 0 0,.ptr 2 0 0 0,dv J 12 (.str []),dv J 13 (.str ([108,111,111,107,32]++tx++[32]++i8)),.ptr 5 0 0 0,.undef,.undef,.undef,.undef,.undef,.undef,.undef,.undef,.undef,.undef,.undef,.undef,.undef,.undef,.undef,.undef,.undef,.undef,.undef,.undef,.undef,.undef,.undef,.undef,.undef,.undef,.undef,.undef,.undef,.undef,.undef,.undef,.undef,.undef,.undef,.undef,.undef,.undef,.undef,.undef,.undef,.undef,.undef,.undef,.undef,dv J 0 (.agg [.obj 3 1,.obj 4 1]),dv J 1 (.ptr 1 0 0 1),dv J 2 (.str tx),dv J 3 (.str ([108,111,111,107,32]++tx)),dv J 4 (.str ([108,111,111,107,32]++tx++[32])),dv J 5 (.sl .view 1 (ss.map (dZ .view))),dv J 6 (.ptr 1 0 0 1),dv J 7 (.str tx),dv J 8 (.int .i64 cc),dv J 9 (.str i8),dv J 10 (.str ([108,111,111,107,32]++tx++[32]++i8)),.undef,.undef,.undef,.undef,.undef,.undef,.undef],[⟨true,true,2,0,[[.sl .view 4 (b.nodes.map (fA .view)),.sl .view 1 (b.opens.map mG)]]⟩,⟨true,true,2,0,[[.int .i64 4,.str tx]]⟩,⟨true,true,2,0,[if J 11=true then [.obj 3 1,.obj 4 1]else [.sl .own 4 [],.sl .own 1 []]]⟩,⟨true,false,4,1,b.nodes.map (fA .own)⟩,⟨true,false,1,1,b.opens.map mG⟩,⟨true,true,2,0,[[.obj 3 1,.obj 4 1]]⟩]⟩) (aJ (by simp[dv,hx,NK]) (by simp[dv,hx,NK])) (by decide) ?_ ?_
 .simp only[xL,sA];refine⟨⟨trivial,λJ h1 h2=>iE λK hK=> ?_⟩,⟨trivial,λJ h1 h2=>iE λK hK=> ?_⟩,⟨trivial,λJ h1 h2=>iE λK hK=> ?_⟩,⟨trivial,λJ h1 h2=>iE λK hK=> ?_⟩,⟨trivial,λJ h1 h2=>iE λK hK=> ?_⟩,⟨trivial,λJ h1 h2=>iE λK hK=> ?_⟩,⟨trivial,λJ h1 h2=>iE λK hK=> ?_⟩,⟨trivial,λJ h1 h2=>iE λK hK=> ?_⟩,⟨trivial,λJ h1 h2=>iE λK hK=> ?_⟩,⟨trivial,λJ h1 h2=>iE λK hK=> ?_⟩,⟨trivial,λJ h1 h2=>iE λK hK=> ?_⟩,⟨trivial,λJ h1 h2=>iE λK hK=> ?_⟩,⟨trivial,λJ h1 h2=>iE λK hK=> ?_⟩,⟨trivial,λJ h1 h2=>iE λK hK=> ?_⟩⟩;all_goals simp[Region.binds]at h2
  all_goals first
   |(simp[-Bool.exists_bool,sD,dv,h1,h2,hx,NK];refine⟨_,(c4),hK _ (aJ ?_ ?_)⟩<;>simp[dv,uQ,h1,h2])
   |(simp[-Bool.exists_bool,sD,dv,h1,h2,hx,NK];refine⟨_,(c8),hK _ (aJ ?_ ?_)⟩<;>simp[dv,uQ,h1,h2])
   |(simp[-Bool.exists_bool,sD,dv,h1,h2,hx,NK];refine⟨?_,hK _ (aJ ?_ ?_)⟩;(focus omega);all_goals simp[dv,uQ,h1,h2])
   |(simp[-Bool.exists_bool,sD,dv,h1,h2,hx,NK];refine hK _ (aJ ?_ ?_)<;>simp[dv,uQ,h1,h2])
 .intro J hJ;have hJs:J 0=true/\J 1=true/\J 2=true/\J 3=true/\J 4=true/\J 5=true/\J 6=true/\J 7=true/\J 8=true/\J 9=true/\J 10=true/\J 11=true/\J 12=true/\J 13=true:=⟨hJ 0 (by decide),hJ 1 (by decide),hJ 2 (by decide),hJ 3 (by decide),hJ 4 (by decide),hJ 5 (by decide),hJ 6 (by decide),hJ 7 (by decide),hJ 8 (by decide),hJ 9 (by decide),hJ 10 (by decide),hJ 11 (by decide),hJ 12 (by decide),hJ 13 (by decide)⟩;simp only[dv,hJs,gC];clear hJs hJ J;refine aY ?_;exact aD results285
theorem aF2[aC prog][dL prog](b:bE)(ss:List gQ)(x:jT)(hs:aT b<=274877906944)(hx:x.text.length<=268435456)(hl:ss.length<=1099511627776)(hr:∀x∈ss,x.rules.length<=1099511627776)(wU:∀n,0<=bJ ss n/\bJ ss n<=999)(hop:x.op=5):
  Ok prog 285 [.agg (aU .view b),.sl .view 1 (ss.map (dZ .view)),.agg (lI x)] (.gT [.agg (aU .own (bU b ss x).1),.str (bU b ss x).2.1,.str (bU b ss x).2.2]):=by
 have c1:=kP b hs;have hn:b.nodes.length<=274877906944:=by simp only[aT,bQ]at hs;omega
 obtain⟨op,tx⟩:=x;simp only at hx hop;have c2:=qM tx (by omega);have c3:=pO b tx (by omega);have c4:=sQ ss tx hl hr;have c5:=gL tx (by omega);have c6:=jM (b.nodes.length:Int) 1 39;have hcn:0<=aX b tx/\aX b tx<=(b.nodes.length:Int):=by unfold aX;have:=oB (λx:jK=>decide (x.name=tx)) b.nodes;omega
 have Ux:=wU tx;have c7:=fI (aX b tx) (by omega);have c8:=fI (bJ ss tx) (by omega);have z7:=iI (aX b tx) (by omega) (by omega);have z8:=iI (bJ ss tx) (by omega) (by omega);simp only[aU]at c1 c3;clear hr wU;simp only[bU,yN,CY,LK];generalize Lib.itoa (aX b tx)=i7 at*;generalize Lib.itoa (bJ ss tx)=i8 at*;generalize aX b tx=cn at*;generalize bJ ss tx=cc at*;subst hop;rw[cX (by decide),cX (by decide),cX (by decide),cX (by decide),eK rfl];refine bM aF func285 ntmps285 ?_;refine aY ?_;exact aD results285
theorem aF3[aC prog][dL prog](b:bE)(ss:List gQ)(x:jT)(hs:aT b<=274877906944)(hx:x.text.length<=268435456)(hl:ss.length<=1099511627776)(hr:∀x∈ss,x.rules.length<=1099511627776)(wU:∀n,0<=bJ ss n/\bJ ss n<=999)(hop:x.op=1):
  Ok prog 222 [.agg (aU .view b),.sl .view 1 (ss.map (dZ .view)),.agg (lI x)] (.gT [.agg (aU .own (bU b ss x).1),.str (bU b ss x).2.1,.str (bU b ss x).2.2]):=by
 have c1:=kQ b hs;have hn:b.nodes.length<=274877906944:=by simp only[aT,bQ]at hs;omega
 obtain⟨op,tx⟩:=x;simp only at hx hop;have c2:=qN tx (by omega);have c3:=pQ b tx (by omega);have c4:=sS ss tx hl hr;have c5:=fD tx (by omega);have c6:=gI (b.nodes.length:Int) 1 39;have hcn:0<=aX b tx/\aX b tx<=(b.nodes.length:Int):=by unfold aX;have:=oB (λx:jK=>decide (x.name=tx)) b.nodes;omega
 have Ux:=wU tx;have c7:=fK (aX b tx) (by omega);have c8:=fK (bJ ss tx) (by omega);have z7:=iI (aX b tx) (by omega) (by omega);have z8:=iI (bJ ss tx) (by omega) (by omega);simp only[aU]at c1 c3;clear hr wU;simp only[bU,yN,CY,LK];generalize Lib.itoa (aX b tx)=i7 at*;generalize Lib.itoa (bJ ss tx)=i8 at*;generalize aX b tx=cn at*;generalize bJ ss tx=cc at*;subst hop;rw[eK rfl];refine bM aF func222 ntmps222 ?_;refine aY ?_;exact aD results222
theorem aF4[aC prog][dL prog](b:bE)(ss:List gQ)(x:jT)(hs:aT b<=274877906944)(hx:x.text.length<=268435456)(hl:ss.length<=1099511627776)(hr:∀x∈ss,x.rules.length<=1099511627776)(wU:∀n,0<=bJ ss n/\bJ ss n<=999)(hop:x.op=2):
  Ok prog 222 [.agg (aU .view b),.sl .view 1 (ss.map (dZ .view)),.agg (lI x)] (.gT [.agg (aU .own (bU b ss x).1),.str (bU b ss x).2.1,.str (bU b ss x).2.2]):=by
 have c1:=kQ b hs;have hn:b.nodes.length<=274877906944:=by simp only[aT,bQ]at hs;omega
 obtain⟨op,tx⟩:=x;simp only at hx hop;have c2:=qN tx (by omega);have c3:=pQ b tx (by omega);have c4:=sS ss tx hl hr;have c5:=fD tx (by omega);have c6:=gI (b.nodes.length:Int) 1 39;have hcn:0<=aX b tx/\aX b tx<=(b.nodes.length:Int):=by unfold aX;have:=oB (λx:jK=>decide (x.name=tx)) b.nodes;omega
 have Ux:=wU tx;have c7:=fK (aX b tx) (by omega);have c8:=fK (bJ ss tx) (by omega);have z7:=iI (aX b tx) (by omega) (by omega);have z8:=iI (bJ ss tx) (by omega) (by omega);simp only[aU]at c1 c3;clear hr wU;simp only[bU,yN,CY,LK];generalize Lib.itoa (aX b tx)=i7 at*;generalize Lib.itoa (bJ ss tx)=i8 at*;generalize aX b tx=cn at*;generalize bJ ss tx=cc at*;subst hop;rw[cX (by decide),eK rfl];by_cases hc:(1<=b.nodes.length/\b.nodes.length<=39)/\dA tx=true
 .rw [eK hc];rw[show(decide ((1:Int)<=(b.nodes.length:Int))&&decide ((b.nodes.length:Int)<=39))=true from by simp;omega]at c6;rw[hc.2]at c5;obtain⟨l0,hl0⟩:∃l,l=b.nodes++[(⟨tx,[],0,[]⟩:jK)]:=⟨_,rfl⟩;have hap:b.nodes.map (fA .own)++[[.str tx,.str [],.int .i64 0,.sl .own 2 []]]=l0.map (fA .own):=by rw[hl0];simp
  rw[<-hl0];clear hl0 hc;refine bM aF func222 ntmps222 ?_;have W:=aA hap hn;refine we ?_;exact aD results222
 .rw [cX hc];by_cases hc1:1<=b.nodes.length/\b.nodes.length<=39
  .have YW:dA tx=false:=by
    cases h:dA tx with
    |false=>rfl
    |true=>exact absurd ⟨hc1,h⟩ hc
   rw[show(decide ((1:Int)<=(b.nodes.length:Int))&&decide ((b.nodes.length:Int)<=39))=true from by simp;omega]at c6;rw[YW]at c5;clear hc;refine bM aF func222 ntmps222 ?_;refine aY ?_;exact aD results222
  .rw [show(decide ((1:Int)<=(b.nodes.length:Int))&&decide ((b.nodes.length:Int)<=39))=false from by simp;omega]at c6;clear hc;refine bM aF func222 ntmps222 ?_;refine aY ?_;exact aD results222
theorem aF5[aC prog][dL prog](b:bE)(ss:List gQ)(x:jT)(hs:aT b<=274877906944)(hx:x.text.length<=268435456)(hl:ss.length<=1099511627776)(hr:∀x∈ss,x.rules.length<=1099511627776)(wU:∀n,0<=bJ ss n/\bJ ss n<=999)(hop:¬x.op=1/\¬x.op=2/\¬x.op=3/\¬x.op=4/\¬x.op=5):
  Ok prog 222 [.agg (aU .view b),.sl .view 1 (ss.map (dZ .view)),.agg (lI x)] (.gT [.agg (aU .own (bU b ss x).1),.str (bU b ss x).2.1,.str (bU b ss x).2.2]):=by
 have c1:=kQ b hs;have hn:b.nodes.length<=274877906944:=by simp only[aT,bQ]at hs;omega
 obtain⟨op,tx⟩:=x;simp only at hx hop;have c2:=qN tx (by omega);have c3:=pQ b tx (by omega);have c4:=sS ss tx hl hr;have c5:=fD tx (by omega);have c6:=gI (b.nodes.length:Int) 1 39;have hcn:0<=aX b tx/\aX b tx<=(b.nodes.length:Int):=by unfold aX;have:=oB (λx:jK=>decide (x.name=tx)) b.nodes;omega
 have Ux:=wU tx;have c7:=fK (aX b tx) (by omega);have c8:=fK (bJ ss tx) (by omega);have z7:=iI (aX b tx) (by omega) (by omega);have z8:=iI (bJ ss tx) (by omega) (by omega);simp only[aU]at c1 c3;clear hr wU;simp only[bU,yN,CY,LK];generalize Lib.itoa (aX b tx)=i7 at*;generalize Lib.itoa (bJ ss tx)=i8 at*;generalize aX b tx=cn at*;generalize bJ ss tx=cc at*;obtain⟨h1,h2,h3,h4,h5⟩:=hop;rw[cX h1,cX h2,cX h3,cX h4,cX h5];refine bM aF func222 ntmps222 ?_;have W:=aA h1 (aA h2 (aA h3 (aA h4 h5)));refine we ?_;exact aD results222
theorem aF6[aC prog][dL prog](b:bE)(ss:List gQ)(x:jT)(hs:aT b<=274877906944)(hx:x.text.length<=268435456)(hl:ss.length<=1099511627776)(hr:∀x∈ss,x.rules.length<=1099511627776)(wU:∀n,0<=bJ ss n/\bJ ss n<=999)(hop:x.op=3):
  Ok prog 222 [.agg (aU .view b),.sl .view 1 (ss.map (dZ .view)),.agg (lI x)] (.gT [.agg (aU .own (bU b ss x).1),.str (bU b ss x).2.1,.str (bU b ss x).2.2]):=by
 have c1:=kQ b hs;have hn:b.nodes.length<=274877906944:=by simp only[aT,bQ]at hs;omega
 obtain⟨op,tx⟩:=x;simp only at hx hop;have c2:=qN tx (by omega);have c3:=pQ b tx (by omega);have c4:=sS ss tx hl hr;have c5:=fD tx (by omega);have c6:=gI (b.nodes.length:Int) 1 39;have hcn:0<=aX b tx/\aX b tx<=(b.nodes.length:Int):=by unfold aX;have:=oB (λx:jK=>decide (x.name=tx)) b.nodes;omega
 have Ux:=wU tx;have c7:=fK (aX b tx) (by omega);have c8:=fK (bJ ss tx) (by omega);have z7:=iI (aX b tx) (by omega) (by omega);have z8:=iI (bJ ss tx) (by omega) (by omega);simp only[aU]at c1 c3;clear hr wU;simp only[bU,yN,CY,LK];generalize Lib.itoa (aX b tx)=i7 at*;generalize Lib.itoa (bJ ss tx)=i8 at*;generalize aX b tx=cn at*;generalize bJ ss tx=cc at*;subst hop;rw[cX (by decide),cX (by decide),eK rfl];clear c2 c4 c5 c6 c8 z8 Ux hl;have NK:i7.length<=40:=by omega
 refine uK aF [10] func222 ntmps222 ?_;refine aY ?_;rw[yL];refine Ld (λJ=>⟨[.undef,.sl .view 1 (ss.map (dZ .view)),.undef,.ptr 0 0 0 0,.undef,.ptr 1 0 0 0,.ptr 2 0 0 0,dv J 12 (.str []),dv J 13 (.str ([99,111,117,110,116,32]++tx++[32]++i7)),.ptr 5 0 0 0,.undef,.undef,.undef,.undef,.undef,.undef,.undef,.undef,.undef,.undef,.undef,.undef,.undef,.undef,.undef,.undef,.undef,.undef,.undef,.undef,.undef,.undef,.undef,.undef,.undef,.undef,.undef,.undef,.undef,.undef,.undef,.undef,dv J 0 (.agg [.obj 3 1,.obj 4 1]),dv J 1 (.ptr 1 0 0 1),dv J 2 (.str tx),dv J 3 (.str ([99,111,117,110,116,32]++tx)),dv J 4 (.str ([99,111,117,110,116,32]++tx++[32])),dv J 5 (.agg [.sl .view 4 (b.nodes.map (fA .view)),.sl .view 1 (b.opens.map mG)]),dv J 6 (.ptr 1 0 0 1),dv J 7 (.str tx),dv J 8 (.int .i64 cn),dv J 9 (.str i7),dv J 10 (.str ([99,111,117,110,116,32]++tx++[32]++i7)),.undef,.undef,.undef,.undef,.undef,.undef,.undef,.undef,.undef,.undef,.undef,.undef,.undef,.undef,.undef,.undef,.undef,.undef,.undef,.undef],[⟨true,true,2,0,[[.sl .view 4 (b.nodes.map (fA .view)),.sl .view 1 (b.opens.map mG)]]⟩,⟨true,true,2,0,[[.int .i64 3,.str tx]]⟩,⟨true,true,2,0,[if J 11=true then [.obj 3 1,.obj 4 1]else [.sl .own 4 [],.sl .own 1 []]]⟩,⟨true,false,4,1,b.nodes.map (fA .own)⟩,⟨true,false,1,1,b.opens.map mG⟩,⟨true,true,2,0,[[.obj 3 1,.obj 4 1]]⟩]⟩) (aJ (by simp[dv,hx,NK]) (by simp[dv,hx,NK])) (by decide) ?_ ?_
 .simp only[xL,sA];refine⟨⟨trivial,λJ h1 h2=>iE λK hK=> ?_⟩,⟨trivial,λJ h1 h2=>iE λK hK=> ?_⟩,⟨trivial,λJ h1 h2=>iE λK hK=> ?_⟩,⟨trivial,λJ h1 h2=>iE λK hK=> ?_⟩,⟨trivial,λJ h1 h2=>iE λK hK=> ?_⟩,⟨trivial,λJ h1 h2=>iE λK hK=> ?_⟩,⟨trivial,λJ h1 h2=>iE λK hK=> ?_⟩,⟨trivial,λJ h1 h2=>iE λK hK=> ?_⟩,⟨trivial,λJ h1 h2=>iE λK hK=> ?_⟩,⟨trivial,λJ h1 h2=>iE λK hK=> ?_⟩,⟨trivial,λJ h1 h2=>iE λK hK=> ?_⟩,⟨trivial,λJ h1 h2=>iE λK hK=> ?_⟩,⟨trivial,λJ h1 h2=>iE λK hK=> ?_⟩,⟨trivial,λJ h1 h2=>iE λK hK=> ?_⟩⟩;all_goals simp[Region.binds]at h2
  all_goals first
   |(simp[-Bool.exists_bool,sD,dv,h1,h2,hx,NK];refine⟨_,(c3),hK _ (aJ ?_ ?_)⟩<;>simp[dv,uQ,h1,h2])
   |(simp[-Bool.exists_bool,sD,dv,h1,h2,hx,NK];refine⟨_,(c7),hK _ (aJ ?_ ?_)⟩<;>simp[dv,uQ,h1,h2])
   |(simp[-Bool.exists_bool,sD,dv,h1,h2,hx,NK];refine⟨?_,hK _ (aJ ?_ ?_)⟩;(focus omega);all_goals simp[dv,uQ,h1,h2])
   |(simp[-Bool.exists_bool,sD,dv,h1,h2,hx,NK];refine hK _ (aJ ?_ ?_)<;>simp[dv,uQ,h1,h2])
 .intro J hJ;have hJs:J 0=true/\J 1=true/\J 2=true/\J 3=true/\J 4=true/\J 5=true/\J 6=true/\J 7=true/\J 8=true/\J 9=true/\J 10=true/\J 11=true/\J 12=true/\J 13=true:=⟨hJ 0 (by decide),hJ 1 (by decide),hJ 2 (by decide),hJ 3 (by decide),hJ 4 (by decide),hJ 5 (by decide),hJ 6 (by decide),hJ 7 (by decide),hJ 8 (by decide),hJ 9 (by decide),hJ 10 (by decide),hJ 11 (by decide),hJ 12 (by decide),hJ 13 (by decide)⟩;simp only[dv,hJs,gC];clear hJs hJ J;refine aY ?_;exact aD results222
theorem aF7[aC prog][dL prog](b:bE)(ss:List gQ)(x:jT)(hs:aT b<=274877906944)(hx:x.text.length<=268435456)(hl:ss.length<=1099511627776)(hr:∀x∈ss,x.rules.length<=1099511627776)(wU:∀n,0<=bJ ss n/\bJ ss n<=999)(hop:x.op=4):
  Ok prog 222 [.agg (aU .view b),.sl .view 1 (ss.map (dZ .view)),.agg (lI x)] (.gT [.agg (aU .own (bU b ss x).1),.str (bU b ss x).2.1,.str (bU b ss x).2.2]):=by
 have c1:=kQ b hs;have hn:b.nodes.length<=274877906944:=by simp only[aT,bQ]at hs;omega
 obtain⟨op,tx⟩:=x;simp only at hx hop;have c2:=qN tx (by omega);have c3:=pQ b tx (by omega);have c4:=sS ss tx hl hr;have c5:=fD tx (by omega);have c6:=gI (b.nodes.length:Int) 1 39;have hcn:0<=aX b tx/\aX b tx<=(b.nodes.length:Int):=by unfold aX;have:=oB (λx:jK=>decide (x.name=tx)) b.nodes;omega
 have Ux:=wU tx;have c7:=fK (aX b tx) (by omega);have c8:=fK (bJ ss tx) (by omega);have z7:=iI (aX b tx) (by omega) (by omega);have z8:=iI (bJ ss tx) (by omega) (by omega);simp only[aU]at c1 c3;clear hr wU;simp only[bU,yN,CY,LK];generalize Lib.itoa (aX b tx)=i7 at*;generalize Lib.itoa (bJ ss tx)=i8 at*;generalize aX b tx=cn at*;generalize bJ ss tx=cc at*;subst hop;rw[cX (by decide),cX (by decide),cX (by decide),eK rfl];clear c2 c3 c5 c6 c7 z7 hcn;have NK:i8.length<=40:=by omega
 refine uK aF [12] func222 ntmps222 ?_;refine aY ?_;rw[yL];refine Ld (λJ=>⟨[.undef,.sl .view 1 (ss.map (dZ .view)),.undef,.ptr 0 0 0 0,.undef,.ptr 1 0 0 0,.ptr 2 0 0 0,dv J 12 (.str []),dv J 13 (.str ([108,111,111,107,32]++tx++[32]++i8)),.ptr 5 0 0 0,.undef,.undef,.undef,.undef,.undef,.undef,.undef,.undef,.undef,.undef,.undef,.undef,.undef,.undef,.undef,.undef,.undef,.undef,.undef,.undef,.undef,.undef,.undef,.undef,.undef,.undef,.undef,.undef,.undef,.undef,.undef,.undef,.undef,.undef,.undef,.undef,.undef,.undef,.undef,.undef,.undef,.undef,.undef,.undef,.undef,dv J 0 (.agg [.obj 3 1,.obj 4 1]),dv J 1 (.ptr 1 0 0 1),dv J 2 (.str tx),dv J 3 (.str ([108,111,111,107,32]++tx)),dv J 4 (.str ([108,111,111,107,32]++tx++[32])),dv J 5 (.sl .view 1 (ss.map (dZ .view))),dv J 6 (.ptr 1 0 0 1),dv J 7 (.str tx),dv J 8 (.int .i64 cc),dv J 9 (.str i8),dv J 10 (.str ([108,111,111,107,32]++tx++[32]++i8)),.undef,.undef,.undef,.undef,.undef,.undef,.undef],[⟨true,true,2,0,[[.sl .view 4 (b.nodes.map (fA .view)),.sl .view 1 (b.opens.map mG)]]⟩,⟨true,true,2,0,[[.int .i64 4,.str tx]]⟩,⟨true,true,2,0,[if J 11=true then [.obj 3 1,.obj 4 1]else [.sl .own 4 [],.sl .own 1 []]]⟩,⟨true,false,4,1,b.nodes.map (fA .own)⟩,⟨true,false,1,1,b.opens.map mG⟩,⟨true,true,2,0,[[.obj 3 1,.obj 4 1]]⟩]⟩) (aJ (by simp[dv,hx,NK]) (by simp[dv,hx,NK])) (by decide) ?_ ?_
 .simp only[xL,sA];refine⟨⟨trivial,λJ h1 h2=>iE λK hK=> ?_⟩,⟨trivial,λJ h1 h2=>iE λK hK=> ?_⟩,⟨trivial,λJ h1 h2=>iE λK hK=> ?_⟩,⟨trivial,λJ h1 h2=>iE λK hK=> ?_⟩,⟨trivial,λJ h1 h2=>iE λK hK=> ?_⟩,⟨trivial,λJ h1 h2=>iE λK hK=> ?_⟩,⟨trivial,λJ h1 h2=>iE λK hK=> ?_⟩,⟨trivial,λJ h1 h2=>iE λK hK=> ?_⟩,⟨trivial,λJ h1 h2=>iE λK hK=> ?_⟩,⟨trivial,λJ h1 h2=>iE λK hK=> ?_⟩,⟨trivial,λJ h1 h2=>iE λK hK=> ?_⟩,⟨trivial,λJ h1 h2=>iE λK hK=> ?_⟩,⟨trivial,λJ h1 h2=>iE λK hK=> ?_⟩,⟨trivial,λJ h1 h2=>iE λK hK=> ?_⟩⟩;all_goals simp[Region.binds]at h2
  all_goals first
   |(simp[-Bool.exists_bool,sD,dv,h1,h2,hx,NK];refine⟨_,(c4),hK _ (aJ ?_ ?_)⟩<;>simp[dv,uQ,h1,h2])
   |(simp[-Bool.exists_bool,sD,dv,h1,h2,hx,NK];refine⟨_,(c8),hK _ (aJ ?_ ?_)⟩<;>simp[dv,uQ,h1,h2])
   |(simp[-Bool.exists_bool,sD,dv,h1,h2,hx,NK];refine⟨?_,hK _ (aJ ?_ ?_)⟩;(focus omega);all_goals simp[dv,uQ,h1,h2])
   |(simp[-Bool.exists_bool,sD,dv,h1,h2,hx,NK];refine hK _ (aJ ?_ ?_)<;>simp[dv,uQ,h1,h2])
 .intro J hJ;have hJs:J 0=true/\J 1=true/\J 2=true/\J 3=true/\J 4=true/\J 5=true/\J 6=true/\J 7=true/\J 8=true/\J 9=true/\J 10=true/\J 11=true/\J 12=true/\J 13=true:=⟨hJ 0 (by decide),hJ 1 (by decide),hJ 2 (by decide),hJ 3 (by decide),hJ 4 (by decide),hJ 5 (by decide),hJ 6 (by decide),hJ 7 (by decide),hJ 8 (by decide),hJ 9 (by decide),hJ 10 (by decide),hJ 11 (by decide),hJ 12 (by decide),hJ 13 (by decide)⟩;simp only[dv,hJs,gC];clear hJs hJ J;refine aY ?_;exact aD results222
theorem aF8[aC prog][dL prog](b:bE)(ss:List gQ)(x:jT)(hs:aT b<=274877906944)(hx:x.text.length<=268435456)(hl:ss.length<=1099511627776)(hr:∀x∈ss,x.rules.length<=1099511627776)(wU:∀n,0<=bJ ss n/\bJ ss n<=999)(hop:x.op=5):
  Ok prog 222 [.agg (aU .view b),.sl .view 1 (ss.map (dZ .view)),.agg (lI x)] (.gT [.agg (aU .own (bU b ss x).1),.str (bU b ss x).2.1,.str (bU b ss x).2.2]):=by
 have c1:=kQ b hs;have hn:b.nodes.length<=274877906944:=by simp only[aT,bQ]at hs;omega
 obtain⟨op,tx⟩:=x;simp only at hx hop;have c2:=qN tx (by omega);have c3:=pQ b tx (by omega);have c4:=sS ss tx hl hr;have c5:=fD tx (by omega);have c6:=gI (b.nodes.length:Int) 1 39;have hcn:0<=aX b tx/\aX b tx<=(b.nodes.length:Int):=by unfold aX;have:=oB (λx:jK=>decide (x.name=tx)) b.nodes;omega
 have Ux:=wU tx;have c7:=fK (aX b tx) (by omega);have c8:=fK (bJ ss tx) (by omega);have z7:=iI (aX b tx) (by omega) (by omega);have z8:=iI (bJ ss tx) (by omega) (by omega);simp only[aU]at c1 c3;clear hr wU;simp only[bU,yN,CY,LK];generalize Lib.itoa (aX b tx)=i7 at*;generalize Lib.itoa (bJ ss tx)=i8 at*;generalize aX b tx=cn at*;generalize bJ ss tx=cc at*;subst hop;rw[cX (by decide),cX (by decide),cX (by decide),cX (by decide),eK rfl];refine bM aF func222 ntmps222 ?_;refine aY ?_;exact aD results222
theorem Jg[aC prog][bP prog](s:bB)(c:UInt8):Ok prog 157 [.str s,.int .u8 c.toNat] (.int .i64 (ZK c s)):=by have h1:=Bc s c;refine bM aF func157 ntmps157 ?_;refine aY ?_;exact aD results157
def CZ(t:bT×Bool):List bT:=if t.2=true then [t.1]else []
def iY(x:bB):Option (List bT×bB):=
 if 0<iH 60 x/\iH 60 x<x.length then some ([⟨3,[],[],x.take (iH 60 x)⟩],x.drop (iH 60 x))
 else if iH 60 x≠0\/iH 62 x=x.length then none
 else some (CZ (rX ((x.take (iH 62 x)).drop 1)),x.drop (iH 62 x+1))
theorem Gz{x:bB}{ts:List bT}{y:bB}(h:iY x=some (ts,y)):y.length<x.length/\ts.length<=1/\bA bX ts+y.length<=x.length:=by
 unfold iY at h;split at h
 .rename_i hc;simp only[eC,oR]at h;obtain⟨rfl,rfl⟩:=h;simp[bA,bX,bQ];omega
 .split at h
  .cases h
  .rename_i hc;have h62:=vD 62 x;simp only[eC,oR]at h;obtain⟨rfl,rfl⟩:=h;have hz:=aFs ((x.take (iH 62 x)).drop 1);simp only[An,oS]at hz;generalize rX ((x.take (iH 62 x)).drop 1)=tg at*;unfold CZ;split<;>simp[bA]<;>omega
def GD:Nat->bB->List bT×bB
 |0,x=>([],x)
 |n+1,x=>match iY x with
  |none=>([],x)
  |some (ts,y)=>(ts++(GD n y).1,(GD n y).2)
def feed(x:bB):List bT×bB:=GD x.length x
theorem EU:∀(n:Nat) (x:bB),x.length<=n->GD n x=GD x.length x
 |0,x,h=>by rw[show x.length=0 by omega]
 |n+1,x,h=>by
  cases hs:iY x with
  |none=>
   cases hx:x.length with
   |zero=>simp[GD,hs]
   |succ m=>simp[GD,hs]
  |some q=>
   obtain⟨ts,y⟩:=q;have hlt:=(Gz hs).1;cases hx:x.length with
   |zero=>omega
   |succ m=>simp only[GD,hs];rw[EU n y (by omega),EU m y (by omega)]
theorem Ec{x:bB}{ts:List bT}{y:bB}(h:iY x=some (ts,y)):feed x=(ts++(feed y).1,(feed y).2):=by
 have hlt:=(Gz h).1;unfold feed;cases hx:x.length with
 |zero=>omega
 |succ m=>simp only[GD,h];rw[EU m y (by omega)]
theorem Ed{x:bB}(h:iY x=none):feed x=([],x):=by
 unfold feed;cases hx:x.length with
 |zero=>simp[GD]
 |succ m=>simp[GD,h]
theorem Da:∀(n:Nat) (x:bB),x.length<=n->(feed x).1.length+(feed x).2.length<=x.length/\bA bX (feed x).1+(feed x).2.length<=x.length
 |n,x,h=>by
  cases hs:iY x with
  |none=>rw[Ed hs];simp[bA]
  |some q=>
   obtain⟨ts,y⟩:=q;obtain⟨h1,h2,h3⟩:=Gz hs;rw[Ec hs];cases n with
   |zero=>omega
   |succ n=>
    obtain⟨i1,i2⟩:=Da n y (by omega);have hj:∀a b:List bT,bA bX (a++b)=bA bX a+bA bX b:=by
     intro a b;induction a with
     |nil=>simp[bA]
     |cons x xs ih=>simp only[eA,bA,ih];omega
    simp only[eR,hj];omega
theorem O9{x:bB}(h0:iH 60 x=0)(h1:iH 62 x<x.length):1<=iH 62 x:=by
 cases x with
 |nil=>simp at h1
 |cons c r=>
  rw[BG]at h0⊢;by_cases hc:c=60
  .subst hc;rw[cX (by decide)];omega
  .rw [cX hc]at h0;omega
theorem FD[aC prog][bP prog](t:nI)(s:bB)(hl:t.rest.length+s.length<=274877906944):Ok prog 69 [.agg (dO t),.str s] (.gT [.sl .own 4 ((feed (t.rest++s)).1.map (cZ .own)),.agg [.str (feed (t.rest++s)).2]]):=by
 obtain⟨rest⟩:=t;simp only at hl⊢;have hx0:(rest++s).length<=274877906944:=by simp;omega
 have hj:rest.length+s.length<=9223372036854775807:=by omega
 generalize hx:rest++s=x0 at*;generalize hF:feed x0=F at*;refine bM aF func69 ntmps69 ?_;have W:=aA hj hx;refine we ?_;refine aO (ι:={q:bB×List bT×Nat // (q.2.1.length+q.1.length<=x0.length/\1<=q.2.2)/\F=(q.2.1++(feed q.1).1,(feed q.1).2)}) (λt o i=>⟨bC t [(6,.obj 2 i.1.2.2),(7,.str i.1.1)],[⟨true,true,1,0,[[.str rest]]⟩,⟨true,true,1,0,[[.str []]]⟩,⟨true,false,4,i.1.2.2,i.1.2.1.map (cZ .own)⟩]⟩)
  (λi=>i.1.1.length) ⟨(x0,[],1),by simp,by simp[hF]⟩ aJ ?_
 rintro⟨⟨x,acc,v⟩,⟨hal,hv⟩,rC⟩ K1 hK1;simp only at hal hv rC;simp only[bC,cW,cU]at hK1⊢;have cK:Ok prog 120 [.str x,.int .u8 60] (.int .i64 (iH 60 x:Nat)):=JZ x 60 (by omega);have cE:Ok prog 120 [.str x,.int .u8 62] (.int .i64 (iH 62 x:Nat)):=JZ x 62 (by omega);have hkl:=vD 60 x;have hel:=vD 62 x;have h1e:=O9 (x:=x);have cT:=Yg ((x.take (iH 62 x)).drop 1) (by simp;omega);simp only[cZ,drop_one]at cT;have hst:iY x=_:=rfl;unfold iY at hst;by_cases hA:0<iH 60 x/\iH 60 x<x.length
 .have Ep:iY x=some ([⟨3,[],[],x.take (iH 60 x)⟩],x.drop (iH 60 x)):=by unfold iY;rw[eK hA]
  rw[Ec Ep]at rC;have hA1:(0:Int)<((iH 60 x:Nat):Int):=by omega
  have hA2:((iH 60 x:Nat):Int)<(x.length:Int):=by omega
  clear hst Ep cT cE h1e hel;generalize iH 60 x=k at*;have hb1:(acc.length+1)*64<=140737488355328:=by omega
  have W:=aA hA1 (aA hA2 hb1);refine we ?_;all_goals refine hK1 _ ⟨(x.drop k,acc++[⟨3,[],[],x.take k⟩],v+1),⟨by simp;omega,by simp only;omega⟩,by rw[rC];simp⟩ (aV 3) (by simp;omega)
 .by_cases hB:iH 60 x≠0\/iH 62 x=x.length
  .have Ep:iY x=none:=by unfold iY;rw[cX hA,eK hB]
   rw[Ed Ep]at rC;subst rC;clear hst Ep cT h1e hK1;by_cases hk0:iH 60 x=0
   .have hee:iH 62 x=x.length:=by rcases hB with h|h;exact absurd hk0 h;exact h
    rw[hk0]at cK;rw[hee]at cE;clear hA hB;refine aY ?_;exact aD results69
   .have hkk:iH 60 x=x.length:=by omega
    have hx1:¬x=[]:=by rintro rfl;simp at hkk;exact hk0 hkk
    have hx2:0<x.length:=CH.2 hx1;rw[hkk]at cK;clear hA hB hk0;have W:=aA hx1 hx2;refine we ?_;exact aD results69
  .have Ep:iY x=some (CZ (rX ((x.take (iH 62 x)).drop 1)),x.drop (iH 62 x+1)):=by unfold iY;rw[cX hA,cX hB]
   rw[Ec Ep]at rC;have hk0:iH 60 x=0:=by omega
   have hE1:=h1e hk0 (by omega);have QK:iH 62 x<x.length:=by omega
   rw[hk0]at cK;clear hst Ep h1e hA hB hk0 hkl;generalize iH 62 x=e at*;rw[drop_one]at rC;generalize rX (x.take e).tail=tg at*;obtain⟨tk,ok⟩:=tg;simp only at cT;have hE3:¬((e:Int)=(x.length:Int)):=by omega
   have hE4:(1:Int)<=(e:Int):=by omega
   have hE5:(e:Int)<=(x.length:Int):=by omega
   have hw:i64.wrap ((e:Int)+1)=((e+1:Nat):Int):=by rw[wrap64]<;>omega
   have hE6:e+1<=x.length:=by omega
   have hb1:(acc.length+1)*64<=140737488355328:=by omega
   cases ok
   .simp only[CZ,eS,gS,eM]at rC;have W:=aA hE3 (aA hE4 (aA hE5 (aA hw (aA hE6 hE1))));refine we ?_;all_goals refine hK1 _ ⟨(x.drop (e+1),acc,v),⟨by simp;omega,hv⟩,rC⟩ (aV 3) (by simp;omega)
   .simp only[CZ,gC]at rC;have W:=aA hE3 (aA hE4 (aA hE5 (aA hw (aA hE6 (aA hE1 hb1)))));refine we ?_;all_goals refine hK1 _ ⟨(x.drop (e+1),acc++[tk],v+1),⟨by simp;omega,by simp only;omega⟩,by rw[rC];simp⟩ (aV 3) (by simp;omega)
theorem FE[aC prog][bP prog](t:nI)(s:bB)(hl:t.rest.length+s.length<=274877906944):Ok prog 91 [.agg (dO t),.str s] (.gT [.sl .own 4 ((feed (t.rest++s)).1.map (cZ .own)),.agg [.str (feed (t.rest++s)).2]]):=by
 obtain⟨rest⟩:=t;simp only at hl⊢;have hx0:(rest++s).length<=274877906944:=by simp;omega
 have hj:rest.length+s.length<=9223372036854775807:=by omega
 generalize hx:rest++s=x0 at*;generalize hF:feed x0=F at*;refine bM aF func91 ntmps91 ?_;have W:=aA hj hx;refine we ?_;refine aO (ι:={q:bB×List bT×Nat // (q.2.1.length+q.1.length<=x0.length/\1<=q.2.2)/\F=(q.2.1++(feed q.1).1,(feed q.1).2)}) (λt o i=>⟨bC t [(7,.obj 2 i.1.2.2),(6,.str i.1.1)],[⟨true,true,1,0,[[.str rest]]⟩,⟨true,true,1,0,[[.str []]]⟩,⟨true,false,4,i.1.2.2,i.1.2.1.map (cZ .own)⟩]⟩)
  (λi=>i.1.1.length) ⟨(x0,[],1),by simp,by simp[hF]⟩ aJ ?_
 rintro⟨⟨x,acc,v⟩,⟨hal,hv⟩,rC⟩ K1 hK1;simp only at hal hv rC;simp only[bC,cW,cU]at hK1⊢;cases hxc:x with
 |nil=>
  have Ep:iY []=none:=by simp[iY,L6]
  rw[hxc,Ed Ep]at rC;subst rC;clear hK1;refine aY ?_;exact aD results91
 |cons c r=>
  have hx1:¬x=[]:=by rw[hxc];simp
  have hx2:x[0]? =some c:=by rw[hxc];rfl
  rw[<-hxc];have cK:Ok prog 157 [.str x,.int .u8 60] (.int .i64 (ZK 60 x)):=Jg x 60;have cE:Ok prog 157 [.str x,.int .u8 62] (.int .i64 (ZK 62 x)):=Jg x 62;unfold ZK at cK cE;have hkl:=vD 60 x;have hel:=vD 62 x;have h1e:=O9 (x:=x);have cT:=Yc ((x.take (iH 62 x)).drop 1) (by simp;omega);simp only[cZ,drop_one]at cT;by_cases iq:c=60
  .have hk0:iH 60 x=0:=by rw[hxc,BG,eK iq]
   have hc1:(c.toNat:Int)=60:=by rw[iq];rfl
   have hA:¬(0<iH 60 x/\iH 60 x<x.length):=by omega
   by_cases hB:iH 62 x=x.length
   .have Ep:iY x=none:=by unfold iY;rw[cX hA,eK (.inr hB)]
    rw[Ed Ep]at rC;subst rC;rw[cX (by omega)]at cE;clear Ep cT h1e hK1 hA hB hxc iq cK hk0;have W:=aA hx1 (aA hx2 hc1);repeat' first|refine wf ?_|(refine sq ?_ ?_<;>intro hc<;>try exact hc.elim)|fail
    all_goals (try exact aD results91)
   .have Ep:iY x=some (CZ (rX ((x.take (iH 62 x)).drop 1)),x.drop (iH 62 x+1)):=by unfold iY;rw[cX hA,cX (by rintro(h|h);exact h hk0;exact hB h)]
    rw[Ec Ep]at rC;have hE1:=h1e hk0 (by omega);have QK:iH 62 x<x.length:=by omega
    rw[eK QK]at cE;clear Ep h1e hA hB hkl hxc iq cK hk0;generalize iH 62 x=e at*;rw[drop_one]at rC;generalize rX (x.take e).tail=tg at*;obtain⟨tk,ok⟩:=tg;simp only at cT;have hE4:(1:Int)<=(e:Int):=by omega
    have hE5:(e:Int)<=(x.length:Int):=by omega
    have hw:i64.wrap ((e:Int)+1)=((e+1:Nat):Int):=by rw[wrap64]<;>omega
    have hE6:e+1<=x.length:=by omega
    have hb1:(acc.length+1)*64<=140737488355328:=by omega
    cases ok
    .simp only[CZ,eS,gS,eM]at rC;have W:=aA hx1 (aA hx2 (aA hc1 (aA hE4 (aA hE5 (aA hw (aA hE6 hE1))))));repeat' first|refine wf ?_|(refine sq ?_ ?_<;>intro hc<;>try exact hc.elim)|fail
     all_goals first|(exact absurd hc hx1)|refine hK1 _ ⟨(x.drop (e+1),acc,v),⟨by simp;omega,hv⟩,rC⟩ (aV 3) (by simp;omega)
    .simp only[CZ,gC]at rC;have W:=aA hx1 (aA hx2 (aA hc1 (aA hE4 (aA hE5 (aA hw (aA hE6 (aA hE1 hb1)))))));repeat' first|refine wf ?_|(refine sq ?_ ?_<;>intro hc<;>try exact hc.elim)|fail
     all_goals first|(exact absurd hc hx1)|refine hK1 _ ⟨(x.drop (e+1),acc++[tk],v+1),⟨by simp;omega,by simp only;omega⟩,by rw[rC];simp⟩ (aV 3) (by simp;omega)
  .have hk0:0<iH 60 x:=by rw[hxc,BG,cX iq];omega
   have hc1:¬(c.toNat:Int)=60:=λh=>iq (Cl.1 (by simp;omega))
   by_cases hB:iH 60 x<x.length
   .have Ep:iY x=some ([⟨3,[],[],x.take (iH 60 x)⟩],x.drop (iH 60 x)):=by unfold iY;rw[eK ⟨hk0,hB⟩]
    rw[Ec Ep]at rC;rw[eK hB]at cK;clear Ep cT cE h1e hel hxc iq;generalize iH 60 x=k at*;have hA1:(0:Int)<(k:Int):=by omega
    have hA2:(k:Int)<(x.length:Int):=by omega
    have hb1:(acc.length+1)*64<=140737488355328:=by omega
    have W:=aA hx1 (aA hx2 (aA hc1 (aA hA1 (aA hA2 hb1))));repeat' first|refine wf ?_|(refine sq ?_ ?_<;>intro hc<;>try exact hc.elim)|fail
    all_goals first|(exact absurd hc hx1)|refine hK1 _ ⟨(x.drop k,acc++[⟨3,[],[],x.take k⟩],v+1),⟨by simp;omega,by simp only;omega⟩,by rw[rC];simp⟩ (aV 3) (by simp;omega)
   .have Ep:iY x=none:=by unfold iY;rw[cX (by omega),eK (.inl (by omega))]
    rw[Ed Ep]at rC;subst rC;rw[cX hB]at cK;clear Ep cT h1e hK1 hB hxc iq cE hk0;have W:=aA hx1 (aA hx2 hc1);repeat' first|refine wf ?_|(refine sq ?_ ?_<;>intro hc<;>try exact hc.elim)|fail
    all_goals (try exact aD results91)
def pG(x:fU):Nat:=1+bA (λ_=>7) x.files
def Au(k:Int)(x:fU):fU:={host:=Be k,files:=Pb Tx (λ_=>7) (k+1) x.files}
def KC(a:oV):Nat:=bA (λ_=>10) a.entries
def QQ(k:Int)(a:oV):oV:=⟨Pb LV (λ_=>10) k a.entries⟩
def aBv(a:lW):Nat:=bA pG a.gD+KC a.cache+bA (λ_=>4) a.log
def aLs(k:Int)(a:lW):lW:={a with gD:=Pb Au pG k a.gD,cache:=QQ (k+(bA pG a.gD:Nat)) a.cache,log:=Pb Ty (λ_=>4) (k+(bA pG a.gD:Nat)+(KC a.cache:Nat)) a.log}
theorem PG(l:List fU):((l.map (bY .own)).all λr=>r.all AV.Gu)=true:=by simp[AV.Gu]
theorem Xd(l:List fU):((l.map (bY .own)).all λr=>r.all AV.nd)=true:=by simp[AV.nd]
theorem Us[aC prog](l:List fU)(k:Int)(h0:0<=k)(hl:k+(bA pG l:Nat)<=4611686018427387000)(hll:l.length<=4611686018427387904)(hla:∀x∈l,x.files.length<=4611686018427387904):
  OkM prog 26 (.sl .own 2 (l.map (bY .own))) (.sl .own 2 ((Pb Au pG k l).map (bY .own))) [.int .i64 k] (.int .i64 (k+(bA pG l:Nat))):=by
 have hpR:=PG l;have hpL:=PG (Pb Au pG k l);have hnR:=Xd l;have hnL:=Xd (Pb Au pG k l);have hcl:iV ((Pb Au pG k l).map (bY .own))=true:=by simp
 generalize hu:(Pb Au pG k l).map (bY .own)=l' at*;generalize hR:l.map (bY .own)=R at*;have hRl:R.length=l.length:=by rw[<-hR];simp
 have Iw:l'.length=R.length:=by rw[<-hu,hRl];simp[uA]
 let OB:Nat->List aM:=λj=>if h:j<l.length then [⟨true,true,2,0,(yO R l' j).set j [.str l[j].host,.obj 1 1]⟩,⟨true,false,7,1,l[j].files.map mI⟩]else [⟨true,false,2,0,l'⟩]
 have aG6:∀(t t':List AV) (j:Nat),j<=l.length->wk (xR (iP [0]) true t) t'->wk t t'->lY ⟨t,[⟨true,false,2,0,yO R l' j⟩]⟩ ⟨t',OB j⟩:=by
  intro t t' j hj h1 h2;by_cases h:j<l.length
  .have e1:OB j=[⟨true,true,2,0,(yO R l' j).set j [.str l[j].host,.obj 1 1]⟩,⟨true,false,7,1,l[j].files.map mI⟩]:=dif_pos h;rw[e1];have hg:=GK R l' j (by omega) (by omega);have hRj:R[j]'(by omega)=bY .own l[j]:=by subst hR;simp
   rw[hRj]at hg;exact aA9 0 j 1 rfl rfl rfl hg rfl rfl h1
  .have e1:OB j=[⟨true,false,2,0,l'⟩]:=dif_neg h;rw[e1,Ef R l' j Iw (by omega)];exact wF h2
 refine wo aF func26 ntmps26 ?_;refine iF ?_;refine aO (ι:={j:Nat // j<=l.length}) (λt o i=>⟨bC t [(1,.int .i64 (k+(bA pG (l.take i.1):Nat))),(5,.int .i64 i.1)],OB i.1⟩)
  (λi=>l.length-i.1) ⟨0,by simp⟩ (by rw[<-Eg R l'];exact aG6 _ _ 0 (by omega) (by simp[bA]) (by simp[bA])) ?_
 rintro⟨j,hj⟩ K1 hK1;simp only[bC,cW,cU]at hK1⊢;have hj1:i64.wrap ((j:Int)+1)=((j+1:Nat):Int):=by rw[wrap64]<;>omega
 have MQ:(yO R l' j).length=l.length:=by rw[Ap _ _ _ Iw,hRl]
 have hle:=jV pG l (j+1);by_cases hlt:j<l.length
 .have hts:=iX pG l j hlt;have Gw:=GJ R l' j (by omega) (by omega);have he:l'[j]'(by omega)=bY .own (Au (k+(bA pG (l.take j):Nat)) l[j]):=by subst hu;rw[AH,EY]
  rw[he]at Gw;have hnm:Dn (yO R l' j)=true:=Q3 (p:=λr:List AV=>r.all AV.nd) hnR hnL;have hpm:((yO R l' j).all λr=>r.all AV.Gu)=true:=Q3 (p:=λr:List AV=>r.all AV.Gu) hpR hpL;have hOB:OB j=[⟨true,true,2,0,(yO R l' j).set j [.str l[j].host,.obj 1 1]⟩,⟨true,false,7,1,l[j].files.map mI⟩]:=dif_pos hlt;rw[hOB]
  clear_value OB
  have hcx:pG l[j]=1+bA (λ_=>7) l[j].files:=rfl;have hax:=hla _ (fS hlt);have aRy:=aG6;generalize hq:k+(bA pG (l.take j):Nat)=q at*;simp only[bY,Au]at Gw;have W:=aA MQ (aA hj1 hnm);have V:=aA MQ (aA hj1 (aA hlt hnm));repeat' first|refine wg ?_|(refine nx ?_;first|refine sk (hc:=xQ _ (by omega)) (h:=?_)|refine sm (hc:=Yy l[j].files _ (by omega) (by omega) (by omega)) (h:=?_))|(refine sq ?_ ?_<;>intro hc<;>try exact hc.elim)|fail
  refine hK1 _ ⟨j+1,by omega⟩ (lY.trans (ze 0 1 j 1 rfl rfl (by decide) rfl rfl rfl (by rw[mB (by omega)]) rfl rfl (by rw[set_set];exact aJ4 (p:=λr:List AV=>r.all AV.Gu) hpm (by simp[AV.Gu])) rfl rfl (lC _)) (lY.trans (aV 1 (o':=[⟨true,false,2,0,yO R l' (j+1)⟩]) ?go ?gw ?gc ?gb) (aRy _ _ (j+1) (by omega) ?gr (lC _)))) (by simp only;omega);case go=>simp[set_set,Gw]
  case gw=>(simp;omega)
  case gc=>simp
  case gb=>simp
  case gr=>simp
 .have hjl:j=l.length:=by omega
  have hma:=Ef R l' j Iw (by omega);have htk:l.take j=l:=cY (by omega);rw[htk]at*;have hOB:OB j=[⟨true,false,2,0,l'⟩]:=dif_neg hlt;rw[hOB]
  clear_value OB
  have aVl:l'.length=l.length:=by omega
  have W:=aA aVl hj1;refine wl ?_;all_goals try(refine aQ ?_;simp[EI,results26,hcl])
theorem Yz[aC prog](a:oV)(k:Int)(h0:0<=k)(hl:k+(KC a:Nat)<=4611686018427387000):OkM prog 27 (.agg (gU .own a)) (.agg (gU .own (QQ k a))) [.int .i64 k] (.int .i64 (k+(KC a:Nat))):=by
 simp only[KC]at hl;have l2:=BZ 10 a.entries;refine wo aF func27 ntmps27 ?_;have W:=trivial;repeat' first|refine wg ?_|(refine nx ?_;refine sm (hc:=Vu a.entries _ (by omega) (by omega) (by omega)) (h:=?_))|(refine sq ?_ ?_<;>intro hc<;>try exact hc.elim)|fail
 all_goals try(refine aQ ?_;simp[EI,results27,QQ,KC])
 all_goals (try omega)
theorem F8[aC prog](a:lW)(k:Int)(h0:0<=k)(hl:k+(aBv a:Nat)<=4611686018427387000)(hs:a.gD.length<=4611686018427387904)(hsf:∀x∈a.gD,x.files.length<=4611686018427387904):
  OkM prog 12 (.agg (mY .own a)) (.agg (mY .own (aLs k a))) [.int .i64 k] (.int .i64 (k+(aBv a:Nat))):=by
 simp only[aBv]at hl;have l1:=BZ 4 a.log;refine wo aF func12 ntmps12 ?_;have W:=trivial;repeat' first|refine wg ?_|(refine nx ?_;first|refine sm (hc:=Us a.gD _ (by omega) (by omega) hs hsf) (h:=?_)|refine sm (hc:=Yz a.cache _ (by omega) (by omega)) (h:=?_)|refine sm (hc:=Yx a.log _ (by omega) (by omega) (by omega)) (h:=?_))|(refine sq ?_ ?_<;>intro hc<;>try exact hc.elim)|fail
 all_goals try(refine aQ ?_;simp[EI,results12,aLs,aBv,QQ])
 all_goals (try omega)
end Go.Proofs.YtfbefblglejcaaaGreatDoor
