/- Proved here: steps towards the statement of this claim. No condition. -/
import Derived.Test.YtlnblmmohpcceaaGreatDoorZQT4
set_option linter.all false
set_option maxRecDepth 4000
set_option maxHeartbeats 4000000
namespace Go.Proofs.YtlnblmmohpcceaaGreatDoor
open Go.Aw Proofs.Tryz List IntKind
theorem O3 [aD prog] [fV prog] (b:aW) (ss:List fE) (x:iG) (hs:aH b<=274877906944) (hx:x.text.length<=268435456) (hl:ss.length<=1099511627776) (hr:∀x∈ss,x.rules.length<=1099511627776) (sN:∀n,0<=aY ss n/\aY ss n<=999) (hop:x.op=2):
  Ok prog 269 [.agg (aN .view b),.sl .view 1 (ss.map (dI .view)),.agg (jL x)] (.gV [.agg (aN .own (bM b ss x).1),.str (bM b ss x).2.1,.str (bM b ss x).2.2]):=by
 have c1:=jB b hs
 have hn:b.nodes.length<=274877906944:=by simp only [aH,bP] at hs;omega
 obtain ⟨op,tx⟩:=x
 simp only at hx hop
 have c2:=nG tx (by omega)
 have c3:=mF b tx (by omega)
 have c4:=oK ss tx hl hr
 have c5:=gJ tx (by omega)
 have c6:=kX (b.nodes.length:Int) 1 39
 have hcn:0<=aR b tx/\aR b tx<=(b.nodes.length:Int):=by
  unfold aR
  have:=length_filter_le (fun x:eY=>decide (x.name=tx)) b.nodes
  omega
 have OZ:=sN tx
 have c7:=eQ (aR b tx) (by omega)
 have c8:=eQ (aY ss tx) (by omega)
 have z7:=gH (aR b tx) (by omega) (by omega)
 have z8:=gH (aY ss tx) (by omega) (by omega)
 simp only [aN] at c1 c3
 clear hr sN
 simp only [bM,uK,Af,GX]
 generalize Lib.itoa (aR b tx)=i7 at *
 generalize Lib.itoa (aY ss tx)=i8 at *
 generalize aR b tx=cn at *
 generalize aY ss tx=cc at *
 subst hop
 rw [if_neg (by decide),if_pos rfl]
 by_cases hc:(1<=b.nodes.length/\b.nodes.length<=39)/\dJ tx=true
 ·rw [if_pos hc]
  rw [show (decide ((1:Int)<=(b.nodes.length:Int))&&decide ((b.nodes.length:Int)<=39))=true from by simp;omega] at c6
  rw [hc.2] at c5
  obtain ⟨l0,hl0⟩:∃l,l=b.nodes++[(⟨tx,[],0,[]⟩:eY)]:=⟨_,rfl⟩
  have hap:b.nodes.map (bX .own)++[[.str tx,.str [],.int .i64 0,.sl .own 2 []]]=l0.map (bX .own):=by rw [hl0];simp
  rw [<-hl0]
  clear hl0 hc
  refine bR aAc func269 ntmps269 ?_
  have W:=aA hap hn
  repeat' first|refine we ?_|(refine sq ?_ ?_<;>intro hc<;>try exact hc.elim)|fail
  all_goals try(refine ⟨.inr rfl,?_⟩;simp [aB,results269])
 ·rw [if_neg hc]
  by_cases hc1:1<=b.nodes.length/\b.nodes.length<=39
  ·have TZ:dJ tx=false:=by
    cases h:dJ tx with
    |false=>rfl
    |true=>exact absurd ⟨hc1,h⟩ hc
   rw [show (decide ((1:Int)<=(b.nodes.length:Int))&&decide ((b.nodes.length:Int)<=39))=true from by simp;omega] at c6
   rw [TZ] at c5
   clear hc
   refine bR aAc func269 ntmps269 ?_
   have W:=trivial
   repeat' first|refine we ?_|(refine sq ?_ ?_<;>intro hc<;>try exact hc.elim)|fail
   all_goals try(refine ⟨.inr rfl,?_⟩;simp [aB,results269])
  ·rw [show (decide ((1:Int)<=(b.nodes.length:Int))&&decide ((b.nodes.length:Int)<=39))=false from by simp;omega] at c6
   clear hc
   refine bR aAc func269 ntmps269 ?_
   have W:=trivial
   repeat' first|refine we ?_|(refine sq ?_ ?_<;>intro hc<;>try exact hc.elim)|fail
   all_goals try(refine ⟨.inr rfl,?_⟩;simp [aB,results269])
theorem O4 [aD prog] [fV prog] (b:aW) (ss:List fE) (x:iG) (hs:aH b<=274877906944) (hx:x.text.length<=268435456) (hl:ss.length<=1099511627776) (hr:∀x∈ss,x.rules.length<=1099511627776) (sN:∀n,0<=aY ss n/\aY ss n<=999) (hop:¬x.op=1/\¬x.op=2/\¬x.op=3/\¬x.op=4/\¬x.op=5):
  Ok prog 269 [.agg (aN .view b),.sl .view 1 (ss.map (dI .view)),.agg (jL x)] (.gV [.agg (aN .own (bM b ss x).1),.str (bM b ss x).2.1,.str (bM b ss x).2.2]):=by
 have c1:=jB b hs
 have hn:b.nodes.length<=274877906944:=by simp only [aH,bP] at hs;omega
 obtain ⟨op,tx⟩:=x
 simp only at hx hop
 have c2:=nG tx (by omega)
 have c3:=mF b tx (by omega)
 have c4:=oK ss tx hl hr
 have c5:=gJ tx (by omega)
 have c6:=kX (b.nodes.length:Int) 1 39
 have hcn:0<=aR b tx/\aR b tx<=(b.nodes.length:Int):=by
  unfold aR
  have:=length_filter_le (fun x:eY=>decide (x.name=tx)) b.nodes
  omega
 have OZ:=sN tx
 have c7:=eQ (aR b tx) (by omega)
 have c8:=eQ (aY ss tx) (by omega)
 have z7:=gH (aR b tx) (by omega) (by omega)
 have z8:=gH (aY ss tx) (by omega) (by omega)
 simp only [aN] at c1 c3
 clear hr sN
 simp only [bM,uK,Af,GX]
 generalize Lib.itoa (aR b tx)=i7 at *
 generalize Lib.itoa (aY ss tx)=i8 at *
 generalize aR b tx=cn at *
 generalize aY ss tx=cc at *
 obtain ⟨h1,h2,h3,h4,h5⟩:=hop
 rw [if_neg h1,if_neg h2,if_neg h3,if_neg h4,if_neg h5]
 refine bR aAc func269 ntmps269 ?_
 have W:=aA h1 (aA h2 (aA h3 (aA h4 h5)))
 repeat' first|refine we ?_|(refine sq ?_ ?_<;>intro hc<;>try exact hc.elim)|fail
 all_goals try(refine ⟨.inr rfl,?_⟩;simp [aB,results269])
theorem O5 [aD prog] [fV prog] (b:aW) (ss:List fE) (x:iG) (hs:aH b<=274877906944) (hx:x.text.length<=268435456) (hl:ss.length<=1099511627776) (hr:∀x∈ss,x.rules.length<=1099511627776) (sN:∀n,0<=aY ss n/\aY ss n<=999) (hop:x.op=3):
  Ok prog 269 [.agg (aN .view b),.sl .view 1 (ss.map (dI .view)),.agg (jL x)] (.gV [.agg (aN .own (bM b ss x).1),.str (bM b ss x).2.1,.str (bM b ss x).2.2]):=by
 have c1:=jB b hs
 have hn:b.nodes.length<=274877906944:=by simp only [aH,bP] at hs;omega
 obtain ⟨op,tx⟩:=x
 simp only at hx hop
 have c2:=nG tx (by omega)
 have c3:=mF b tx (by omega)
 have c4:=oK ss tx hl hr
 have c5:=gJ tx (by omega)
 have c6:=kX (b.nodes.length:Int) 1 39
 have hcn:0<=aR b tx/\aR b tx<=(b.nodes.length:Int):=by
  unfold aR
  have:=length_filter_le (fun x:eY=>decide (x.name=tx)) b.nodes
  omega
 have OZ:=sN tx
 have c7:=eQ (aR b tx) (by omega)
 have c8:=eQ (aY ss tx) (by omega)
 have z7:=gH (aR b tx) (by omega) (by omega)
 have z8:=gH (aY ss tx) (by omega) (by omega)
 simp only [aN] at c1 c3
 clear hr sN
 simp only [bM,uK,Af,GX]
 generalize Lib.itoa (aR b tx)=i7 at *
 generalize Lib.itoa (aY ss tx)=i8 at *
 generalize aR b tx=cn at *
 generalize aY ss tx=cc at *
 subst hop
 rw [if_neg (by decide),if_neg (by decide),if_pos rfl]
 clear c2 c4 c5 c6 c8 z8 OZ hl
 have Jm:i7.length<=40:=by omega
 refine rU aAc [10] func269 ntmps269 ?_
 have W:=trivial
 repeat' first|refine we ?_|(refine sq ?_ ?_<;>intro hc<;>try exact hc.elim)|fail
 rw [uL]
 refine Gv (fun J=>⟨[.undef,.sl .view 1 (ss.map (dI .view)),.undef,.ptr 0 0 0 0,.undef,.ptr 1 0 0 0,.ptr 2 0 0 0,dv J 12 (.str []),dv J 13 (.str ([99,111,117,110,116,32]++tx++[32]++i7)),.ptr 5 0 0 0,.undef,.undef,.undef,.undef,.undef,.undef,.undef,.undef,.undef,.undef,.undef,.undef,.undef,.undef,.undef,.undef,.undef,.undef,.undef,.undef,.undef,.undef,.undef,.undef,.undef,.undef,.undef,.undef,.undef,.undef,.undef,.undef,dv J 0 (.agg [.obj 3 1,.obj 4 1]),dv J 1 (.ptr 1 0 0 1),dv J 2 (.str tx),dv J 3 (.str ([99,111,117,110,116,32]++tx)),dv J 4 (.str ([99,111,117,110,116,32]++tx++[32])),dv J 5 (.agg [.sl .view 4 (b.nodes.map (bX .view)),.sl .view 1 (b.opens.map iX)]),dv J 6 (.ptr 1 0 0 1),dv J 7 (.str tx),dv J 8 (.int .i64 cn),dv J 9 (.str i7),dv J 10 (.str ([99,111,117,110,116,32]++tx++[32]++i7)),.undef,.undef,.undef,.undef,.undef,.undef,.undef,.undef,.undef,.undef,.undef,.undef,.undef,.undef,.undef,.undef,.undef,.undef,.undef,.undef],[⟨true,true,2,0,[[.sl .view 4 (b.nodes.map (bX .view)),.sl .view 1 (b.opens.map iX)]]⟩,⟨true,true,2,0,[[.int .i64 3,.str tx]]⟩,⟨true,true,2,0,[if J 11=true then [.obj 3 1,.obj 4 1] else [.sl .own 4 [],.sl .own 1 []]]⟩,⟨true,false,4,1,b.nodes.map (bX .own)⟩,⟨true,false,1,1,b.opens.map iX⟩,⟨true,true,2,0,[[.obj 3 1,.obj 4 1]]⟩]⟩) (aI (by simp [dv,hx,Jm]) (by simp [dv,hx,Jm])) (by decide) ?_ ?_
 ·simp only [tN,and_true]
  refine ⟨⟨trivial,fun J h1 h2=>gB fun K hK=> ?_⟩,⟨trivial,fun J h1 h2=>gB fun K hK=> ?_⟩,⟨trivial,fun J h1 h2=>gB fun K hK=> ?_⟩,⟨trivial,fun J h1 h2=>gB fun K hK=> ?_⟩,⟨trivial,fun J h1 h2=>gB fun K hK=> ?_⟩,⟨trivial,fun J h1 h2=>gB fun K hK=> ?_⟩,⟨trivial,fun J h1 h2=>gB fun K hK=> ?_⟩,⟨trivial,fun J h1 h2=>gB fun K hK=> ?_⟩,⟨trivial,fun J h1 h2=>gB fun K hK=> ?_⟩,⟨trivial,fun J h1 h2=>gB fun K hK=> ?_⟩,⟨trivial,fun J h1 h2=>gB fun K hK=> ?_⟩,⟨trivial,fun J h1 h2=>gB fun K hK=> ?_⟩,⟨trivial,fun J h1 h2=>gB fun K hK=> ?_⟩,⟨trivial,fun J h1 h2=>gB fun K hK=> ?_⟩⟩
  all_goals simp [Region.binds] at h2
  all_goals first
   |(simp [-Bool.exists_bool,nZ,dv,h1,h2,hx,Jm];refine ⟨_,(c3),hK _ (aI ?_ ?_)⟩<;>simp [dv,qL,h1,h2])
   |(simp [-Bool.exists_bool,nZ,dv,h1,h2,hx,Jm];refine ⟨_,(c7),hK _ (aI ?_ ?_)⟩<;>simp [dv,qL,h1,h2])
   |(simp [-Bool.exists_bool,nZ,dv,h1,h2,hx,Jm];refine ⟨?_,hK _ (aI ?_ ?_)⟩;(focus omega);all_goals simp [dv,qL,h1,h2])
   |(simp [-Bool.exists_bool,nZ,dv,h1,h2,hx,Jm];refine hK _ (aI ?_ ?_)<;>simp [dv,qL,h1,h2])
 ·intro J hJ
  have O6:J 0=true/\J 1=true/\J 2=true/\J 3=true/\J 4=true/\J 5=true/\J 6=true/\J 7=true/\J 8=true/\J 9=true/\J 10=true/\J 11=true/\J 12=true/\J 13=true:=⟨hJ 0 (by decide),hJ 1 (by decide),hJ 2 (by decide),hJ 3 (by decide),hJ 4 (by decide),hJ 5 (by decide),hJ 6 (by decide),hJ 7 (by decide),hJ 8 (by decide),hJ 9 (by decide),hJ 10 (by decide),hJ 11 (by decide),hJ 12 (by decide),hJ 13 (by decide)⟩
  simp only [dv,O6,if_true]
  clear O6 hJ J
  have W:=trivial
  repeat' first|refine we ?_|(refine sq ?_ ?_<;>intro hc<;>try exact hc.elim)|fail
  all_goals try(refine ⟨.inr rfl,?_⟩;simp [aB,results269])
theorem O7 [aD prog] [fV prog] (b:aW) (ss:List fE) (x:iG) (hs:aH b<=274877906944) (hx:x.text.length<=268435456) (hl:ss.length<=1099511627776) (hr:∀x∈ss,x.rules.length<=1099511627776) (sN:∀n,0<=aY ss n/\aY ss n<=999) (hop:x.op=4):
  Ok prog 269 [.agg (aN .view b),.sl .view 1 (ss.map (dI .view)),.agg (jL x)] (.gV [.agg (aN .own (bM b ss x).1),.str (bM b ss x).2.1,.str (bM b ss x).2.2]):=by
 have c1:=jB b hs
 have hn:b.nodes.length<=274877906944:=by simp only [aH,bP] at hs;omega
 obtain ⟨op,tx⟩:=x
 simp only at hx hop
 have c2:=nG tx (by omega)
 have c3:=mF b tx (by omega)
 have c4:=oK ss tx hl hr
 have c5:=gJ tx (by omega)
 have c6:=kX (b.nodes.length:Int) 1 39
 have hcn:0<=aR b tx/\aR b tx<=(b.nodes.length:Int):=by
  unfold aR
  have:=length_filter_le (fun x:eY=>decide (x.name=tx)) b.nodes
  omega
 have OZ:=sN tx
 have c7:=eQ (aR b tx) (by omega)
 have c8:=eQ (aY ss tx) (by omega)
 have z7:=gH (aR b tx) (by omega) (by omega)
 have z8:=gH (aY ss tx) (by omega) (by omega)
 simp only [aN] at c1 c3
 clear hr sN
 simp only [bM,uK,Af,GX]
 generalize Lib.itoa (aR b tx)=i7 at *
 generalize Lib.itoa (aY ss tx)=i8 at *
 generalize aR b tx=cn at *
 generalize aY ss tx=cc at *
 subst hop
 rw [if_neg (by decide),if_neg (by decide),if_neg (by decide),if_pos rfl]
 clear c2 c3 c5 c6 c7 z7 hcn
 have Jm:i8.length<=40:=by omega
 refine rU aAc [12] func269 ntmps269 ?_
 have W:=trivial
 repeat' first|refine we ?_|(refine sq ?_ ?_<;>intro hc<;>try exact hc.elim)|fail
 rw [uL]
 refine Gv (fun J=>⟨[.undef,.sl .view 1 (ss.map (dI .view)),.undef,.ptr 0 0 0 0,.undef,.ptr 1 0 0 0,.ptr 2 0 0 0,dv J 12 (.str []),dv J 13 (.str ([108,111,111,107,32]++tx++[32]++i8)),.ptr 5 0 0 0,.undef,.undef,.undef,.undef,.undef,.undef,.undef,.undef,.undef,.undef,.undef,.undef,.undef,.undef,.undef,.undef,.undef,.undef,.undef,.undef,.undef,.undef,.undef,.undef,.undef,.undef,.undef,.undef,.undef,.undef,.undef,.undef,.undef,.undef,.undef,.undef,.undef,.undef,.undef,.undef,.undef,.undef,.undef,.undef,.undef,dv J 0 (.agg [.obj 3 1,.obj 4 1]),dv J 1 (.ptr 1 0 0 1),dv J 2 (.str tx),dv J 3 (.str ([108,111,111,107,32]++tx)),dv J 4 (.str ([108,111,111,107,32]++tx++[32])),dv J 5 (.sl .view 1 (ss.map (dI .view))),dv J 6 (.ptr 1 0 0 1),dv J 7 (.str tx),dv J 8 (.int .i64 cc),dv J 9 (.str i8),dv J 10 (.str ([108,111,111,107,32]++tx++[32]++i8)),.undef,.undef,.undef,.undef,.undef,.undef,.undef],[⟨true,true,2,0,[[.sl .view 4 (b.nodes.map (bX .view)),.sl .view 1 (b.opens.map iX)]]⟩,⟨true,true,2,0,[[.int .i64 4,.str tx]]⟩,⟨true,true,2,0,[if J 11=true then [.obj 3 1,.obj 4 1] else [.sl .own 4 [],.sl .own 1 []]]⟩,⟨true,false,4,1,b.nodes.map (bX .own)⟩,⟨true,false,1,1,b.opens.map iX⟩,⟨true,true,2,0,[[.obj 3 1,.obj 4 1]]⟩]⟩) (aI (by simp [dv,hx,Jm]) (by simp [dv,hx,Jm])) (by decide) ?_ ?_
 ·simp only [tN,and_true]
  refine ⟨⟨trivial,fun J h1 h2=>gB fun K hK=> ?_⟩,⟨trivial,fun J h1 h2=>gB fun K hK=> ?_⟩,⟨trivial,fun J h1 h2=>gB fun K hK=> ?_⟩,⟨trivial,fun J h1 h2=>gB fun K hK=> ?_⟩,⟨trivial,fun J h1 h2=>gB fun K hK=> ?_⟩,⟨trivial,fun J h1 h2=>gB fun K hK=> ?_⟩,⟨trivial,fun J h1 h2=>gB fun K hK=> ?_⟩,⟨trivial,fun J h1 h2=>gB fun K hK=> ?_⟩,⟨trivial,fun J h1 h2=>gB fun K hK=> ?_⟩,⟨trivial,fun J h1 h2=>gB fun K hK=> ?_⟩,⟨trivial,fun J h1 h2=>gB fun K hK=> ?_⟩,⟨trivial,fun J h1 h2=>gB fun K hK=> ?_⟩,⟨trivial,fun J h1 h2=>gB fun K hK=> ?_⟩,⟨trivial,fun J h1 h2=>gB fun K hK=> ?_⟩⟩
  all_goals simp [Region.binds] at h2
  all_goals first
   |(simp [-Bool.exists_bool,nZ,dv,h1,h2,hx,Jm];refine ⟨_,(c4),hK _ (aI ?_ ?_)⟩<;>simp [dv,qL,h1,h2])
   |(simp [-Bool.exists_bool,nZ,dv,h1,h2,hx,Jm];refine ⟨_,(c8),hK _ (aI ?_ ?_)⟩<;>simp [dv,qL,h1,h2])
   |(simp [-Bool.exists_bool,nZ,dv,h1,h2,hx,Jm];refine ⟨?_,hK _ (aI ?_ ?_)⟩;(focus omega);all_goals simp [dv,qL,h1,h2])
   |(simp [-Bool.exists_bool,nZ,dv,h1,h2,hx,Jm];refine hK _ (aI ?_ ?_)<;>simp [dv,qL,h1,h2])
 ·intro J hJ
  have O6:J 0=true/\J 1=true/\J 2=true/\J 3=true/\J 4=true/\J 5=true/\J 6=true/\J 7=true/\J 8=true/\J 9=true/\J 10=true/\J 11=true/\J 12=true/\J 13=true:=⟨hJ 0 (by decide),hJ 1 (by decide),hJ 2 (by decide),hJ 3 (by decide),hJ 4 (by decide),hJ 5 (by decide),hJ 6 (by decide),hJ 7 (by decide),hJ 8 (by decide),hJ 9 (by decide),hJ 10 (by decide),hJ 11 (by decide),hJ 12 (by decide),hJ 13 (by decide)⟩
  simp only [dv,O6,if_true]
  clear O6 hJ J
  have W:=trivial
  repeat' first|refine we ?_|(refine sq ?_ ?_<;>intro hc<;>try exact hc.elim)|fail
  all_goals try(refine ⟨.inr rfl,?_⟩;simp [aB,results269])
theorem O8 [aD prog] [fV prog] (b:aW) (ss:List fE) (x:iG) (hs:aH b<=274877906944) (hx:x.text.length<=268435456) (hl:ss.length<=1099511627776) (hr:∀x∈ss,x.rules.length<=1099511627776) (sN:∀n,0<=aY ss n/\aY ss n<=999) (hop:x.op=5):
  Ok prog 269 [.agg (aN .view b),.sl .view 1 (ss.map (dI .view)),.agg (jL x)] (.gV [.agg (aN .own (bM b ss x).1),.str (bM b ss x).2.1,.str (bM b ss x).2.2]):=by
 have c1:=jB b hs
 have hn:b.nodes.length<=274877906944:=by simp only [aH,bP] at hs;omega
 obtain ⟨op,tx⟩:=x
 simp only at hx hop
 have c2:=nG tx (by omega)
 have c3:=mF b tx (by omega)
 have c4:=oK ss tx hl hr
 have c5:=gJ tx (by omega)
 have c6:=kX (b.nodes.length:Int) 1 39
 have hcn:0<=aR b tx/\aR b tx<=(b.nodes.length:Int):=by
  unfold aR
  have:=length_filter_le (fun x:eY=>decide (x.name=tx)) b.nodes
  omega
 have OZ:=sN tx
 have c7:=eQ (aR b tx) (by omega)
 have c8:=eQ (aY ss tx) (by omega)
 have z7:=gH (aR b tx) (by omega) (by omega)
 have z8:=gH (aY ss tx) (by omega) (by omega)
 simp only [aN] at c1 c3
 clear hr sN
 simp only [bM,uK,Af,GX]
 generalize Lib.itoa (aR b tx)=i7 at *
 generalize Lib.itoa (aY ss tx)=i8 at *
 generalize aR b tx=cn at *
 generalize aY ss tx=cc at *
 subst hop
 rw [if_neg (by decide),if_neg (by decide),if_neg (by decide),if_neg (by decide),if_pos rfl]
 refine bR aAc func269 ntmps269 ?_
 have W:=trivial
 repeat' first|refine we ?_|(refine sq ?_ ?_<;>intro hc<;>try exact hc.elim)|fail
 all_goals try(refine ⟨.inr rfl,?_⟩;simp [aB,results269])
theorem O9 [aD prog] [fV prog] (b:aW) (ss:List fE) (x:iG) (hs:aH b<=274877906944) (hx:x.text.length<=268435456) (hl:ss.length<=1099511627776) (hr:∀x∈ss,x.rules.length<=1099511627776) (sN:∀n,0<=aY ss n/\aY ss n<=999) (hop:x.op=1):
  Ok prog 212 [.agg (aN .view b),.sl .view 1 (ss.map (dI .view)),.agg (jL x)] (.gV [.agg (aN .own (bM b ss x).1),.str (bM b ss x).2.1,.str (bM b ss x).2.2]):=by
 have c1:=jC b hs
 have hn:b.nodes.length<=274877906944:=by simp only [aH,bP] at hs;omega
 obtain ⟨op,tx⟩:=x
 simp only at hx hop
 have c2:=nH tx (by omega)
 have c3:=mG b tx (by omega)
 have c4:=oL ss tx hl hr
 have c5:=eP tx (by omega)
 have c6:=iA (b.nodes.length:Int) 1 39
 have hcn:0<=aR b tx/\aR b tx<=(b.nodes.length:Int):=by
  unfold aR
  have:=length_filter_le (fun x:eY=>decide (x.name=tx)) b.nodes
  omega
 have OZ:=sN tx
 have c7:=eT (aR b tx) (by omega)
 have c8:=eT (aY ss tx) (by omega)
 have z7:=gH (aR b tx) (by omega) (by omega)
 have z8:=gH (aY ss tx) (by omega) (by omega)
 simp only [aN] at c1 c3
 clear hr sN
 simp only [bM,uK,Af,GX]
 generalize Lib.itoa (aR b tx)=i7 at *
 generalize Lib.itoa (aY ss tx)=i8 at *
 generalize aR b tx=cn at *
 generalize aY ss tx=cc at *
 subst hop
 rw [if_pos rfl]
 refine bR aAc func212 ntmps212 ?_
 have W:=trivial
 repeat' first|refine we ?_|(refine sq ?_ ?_<;>intro hc<;>try exact hc.elim)|fail
 all_goals try(refine ⟨.inr rfl,?_⟩;simp [aB,results212])
theorem Q0 [aD prog] [fV prog] (b:aW) (ss:List fE) (x:iG) (hs:aH b<=274877906944) (hx:x.text.length<=268435456) (hl:ss.length<=1099511627776) (hr:∀x∈ss,x.rules.length<=1099511627776) (sN:∀n,0<=aY ss n/\aY ss n<=999) (hop:x.op=2):
  Ok prog 212 [.agg (aN .view b),.sl .view 1 (ss.map (dI .view)),.agg (jL x)] (.gV [.agg (aN .own (bM b ss x).1),.str (bM b ss x).2.1,.str (bM b ss x).2.2]):=by
 have c1:=jC b hs
 have hn:b.nodes.length<=274877906944:=by simp only [aH,bP] at hs;omega
 obtain ⟨op,tx⟩:=x
 simp only at hx hop
 have c2:=nH tx (by omega)
 have c3:=mG b tx (by omega)
 have c4:=oL ss tx hl hr
 have c5:=eP tx (by omega)
 have c6:=iA (b.nodes.length:Int) 1 39
 have hcn:0<=aR b tx/\aR b tx<=(b.nodes.length:Int):=by
  unfold aR
  have:=length_filter_le (fun x:eY=>decide (x.name=tx)) b.nodes
  omega
 have OZ:=sN tx
 have c7:=eT (aR b tx) (by omega)
 have c8:=eT (aY ss tx) (by omega)
 have z7:=gH (aR b tx) (by omega) (by omega)
 have z8:=gH (aY ss tx) (by omega) (by omega)
 simp only [aN] at c1 c3
 clear hr sN
 simp only [bM,uK,Af,GX]
 generalize Lib.itoa (aR b tx)=i7 at *
 generalize Lib.itoa (aY ss tx)=i8 at *
 generalize aR b tx=cn at *
 generalize aY ss tx=cc at *
 subst hop
 rw [if_neg (by decide),if_pos rfl]
 by_cases hc:(1<=b.nodes.length/\b.nodes.length<=39)/\dJ tx=true
 ·rw [if_pos hc]
  rw [show (decide ((1:Int)<=(b.nodes.length:Int))&&decide ((b.nodes.length:Int)<=39))=true from by simp;omega] at c6
  rw [hc.2] at c5
  obtain ⟨l0,hl0⟩:∃l,l=b.nodes++[(⟨tx,[],0,[]⟩:eY)]:=⟨_,rfl⟩
  have hap:b.nodes.map (bX .own)++[[.str tx,.str [],.int .i64 0,.sl .own 2 []]]=l0.map (bX .own):=by rw [hl0];simp
  rw [<-hl0]
  clear hl0 hc
  refine bR aAc func212 ntmps212 ?_
  have W:=aA hap hn
  repeat' first|refine we ?_|(refine sq ?_ ?_<;>intro hc<;>try exact hc.elim)|fail
  all_goals try(refine ⟨.inr rfl,?_⟩;simp [aB,results212])
 ·rw [if_neg hc]
  by_cases hc1:1<=b.nodes.length/\b.nodes.length<=39
  ·have TZ:dJ tx=false:=by
    cases h:dJ tx with
    |false=>rfl
    |true=>exact absurd ⟨hc1,h⟩ hc
   rw [show (decide ((1:Int)<=(b.nodes.length:Int))&&decide ((b.nodes.length:Int)<=39))=true from by simp;omega] at c6
   rw [TZ] at c5
   clear hc
   refine bR aAc func212 ntmps212 ?_
   have W:=trivial
   repeat' first|refine we ?_|(refine sq ?_ ?_<;>intro hc<;>try exact hc.elim)|fail
   all_goals try(refine ⟨.inr rfl,?_⟩;simp [aB,results212])
  ·rw [show (decide ((1:Int)<=(b.nodes.length:Int))&&decide ((b.nodes.length:Int)<=39))=false from by simp;omega] at c6
   clear hc
   refine bR aAc func212 ntmps212 ?_
   have W:=trivial
   repeat' first|refine we ?_|(refine sq ?_ ?_<;>intro hc<;>try exact hc.elim)|fail
   all_goals try(refine ⟨.inr rfl,?_⟩;simp [aB,results212])
theorem Q3 [aD prog] [fV prog] (b:aW) (ss:List fE) (x:iG) (hs:aH b<=274877906944) (hx:x.text.length<=268435456) (hl:ss.length<=1099511627776) (hr:∀x∈ss,x.rules.length<=1099511627776) (sN:∀n,0<=aY ss n/\aY ss n<=999) (hop:¬x.op=1/\¬x.op=2/\¬x.op=3/\¬x.op=4/\¬x.op=5):
  Ok prog 212 [.agg (aN .view b),.sl .view 1 (ss.map (dI .view)),.agg (jL x)] (.gV [.agg (aN .own (bM b ss x).1),.str (bM b ss x).2.1,.str (bM b ss x).2.2]):=by
 have c1:=jC b hs
 have hn:b.nodes.length<=274877906944:=by simp only [aH,bP] at hs;omega
 obtain ⟨op,tx⟩:=x
 simp only at hx hop
 have c2:=nH tx (by omega)
 have c3:=mG b tx (by omega)
 have c4:=oL ss tx hl hr
 have c5:=eP tx (by omega)
 have c6:=iA (b.nodes.length:Int) 1 39
 have hcn:0<=aR b tx/\aR b tx<=(b.nodes.length:Int):=by
  unfold aR
  have:=length_filter_le (fun x:eY=>decide (x.name=tx)) b.nodes
  omega
 have OZ:=sN tx
 have c7:=eT (aR b tx) (by omega)
 have c8:=eT (aY ss tx) (by omega)
 have z7:=gH (aR b tx) (by omega) (by omega)
 have z8:=gH (aY ss tx) (by omega) (by omega)
 simp only [aN] at c1 c3
 clear hr sN
 simp only [bM,uK,Af,GX]
 generalize Lib.itoa (aR b tx)=i7 at *
 generalize Lib.itoa (aY ss tx)=i8 at *
 generalize aR b tx=cn at *
 generalize aY ss tx=cc at *
 obtain ⟨h1,h2,h3,h4,h5⟩:=hop
 rw [if_neg h1,if_neg h2,if_neg h3,if_neg h4,if_neg h5]
 refine bR aAc func212 ntmps212 ?_
 have W:=aA h1 (aA h2 (aA h3 (aA h4 h5)))
 repeat' first|refine we ?_|(refine sq ?_ ?_<;>intro hc<;>try exact hc.elim)|fail
 all_goals try(refine ⟨.inr rfl,?_⟩;simp [aB,results212])
end Go.Proofs.YtlnblmmohpcceaaGreatDoor
