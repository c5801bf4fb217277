/-
  Proved here: steps towards the statement of this claim, text QRLib.
  No condition beyond what each statement spells out.
-/
import Derived.Test.YtlnblmmohpcceaaGreatDoorQC1
import Derived.Test.YtlnblmmohpcceaaGreatDoorF8
set_option linter.all false
set_option maxRecDepth 4000
set_option maxHeartbeats 4000000
namespace Go.Proofs.YtlnblmmohpcceaaGreatDoor
open Go.Aw
theorem bB8 [aA Tryz.prog] [dY Tryz.prog] (b:aS) (ss:List dU) (x:fI) (hs:aI b≤274877906944) (hx:x.text.length≤268435456) (hl:ss.length≤1099511627776) (hr:∀x∈ss,x.rules.length≤1099511627776) (hco:∀n,0≤aT ss n∧aT ss n≤999) (hop:x.op=2):
  Ok Tryz.prog 269 [.agg (aL .view b),.sl .view 1 (ss.map (bP .view)),.agg (fU x)] (.tup [.agg (aL .own (bE b ss x).1),.str (bE b ss x).2.1,.str (bE b ss x).2.2]):=by
 have c1:=jG b hs
 have hn:b.nodes.length≤274877906944:=by simp only [aI,szL] at hs;omega
 obtain ⟨op,tx⟩:=x
 simp only at hx hop
 have c2:=nC tx (by omega)
 have c3:=mG b tx (by omega)
 have c4:=nX ss tx hl hr
 have c5:=gJ tx (by omega)
 have c6:=jT (b.nodes.length:Int) 1 39
 have hcn:0≤aP b tx∧aP b tx≤(b.nodes.length:Int):=by
  unfold aP
  have:=List.length_filter_le (fun x:dA=>decide (x.name=tx)) b.nodes
  omega
 have hcc:=hco tx
 have c7:=fE (aP b tx) (by omega)
 have c8:=fE (aT ss tx) (by omega)
 have z7:=fF (aP b tx) (by omega) (by omega)
 have z8:=fF (aT ss tx) (by omega) (by omega)
 simp only [aL] at c1 c3
 clear hr hco
 simp only [bE,pJ,rZ,wT]
 generalize Lib.itoa (aP b tx)=i7 at *
 generalize Lib.itoa (aT ss tx)=i8 at *
 generalize aP b tx=cn at *
 generalize aT ss tx=cc at *
 subst hop
 rw [if_neg (by decide),if_pos rfl]
 by_cases hc:(1≤b.nodes.length∧b.nodes.length≤39)∧bS tx=true
 ·rw [if_pos hc]
  rw [show (decide ((1:Int)≤(b.nodes.length:Int))&&decide ((b.nodes.length:Int)≤39))=true from by simp;omega] at c6
  rw [hc.2] at c5
  obtain ⟨l0,hl0⟩:∃l,l=b.nodes++[(⟨tx,[],0,[]⟩:dA)]:=⟨_,rfl⟩
  have hap:b.nodes.map (bB .own)++[[.str tx,.str [],.int .i64 0,.sl .own 2 []]]=l0.map (bB .own):=by rw [hl0];simp
  rw [←hl0]
  clear hl0 hc
  refine ent Tryz.mix Tryz.func269 Tryz.ntmps269 ?_
  have W:=And.intro hap hn
  repeat' first|refine we ?_|(refine sq (fun hc=>?_) (fun hc=>?_)<;>try exact hc.elim)|fail
  all_goals (try (refine ⟨.inr rfl,?_⟩;simp [Hands,Tryz.results269]))
 ·rw [if_neg hc]
  by_cases hc1:1≤b.nodes.length∧b.nodes.length≤39
  ·have hc2:bS tx=false:=by
    cases h:bS tx with
    |false=>rfl
    |true=>exact absurd ⟨hc1,h⟩ hc
   rw [show (decide ((1:Int)≤(b.nodes.length:Int))&&decide ((b.nodes.length:Int)≤39))=true from by simp;omega] at c6
   rw [hc2] at c5
   clear hc
   refine ent Tryz.mix Tryz.func269 Tryz.ntmps269 ?_
   have W:=trivial
   repeat' first|refine we ?_|(refine sq (fun hc=>?_) (fun hc=>?_)<;>try exact hc.elim)|fail
   all_goals (try (refine ⟨.inr rfl,?_⟩;simp [Hands,Tryz.results269]))
  ·rw [show (decide ((1:Int)≤(b.nodes.length:Int))&&decide ((b.nodes.length:Int)≤39))=false from by simp;omega] at c6
   clear hc
   refine ent Tryz.mix Tryz.func269 Tryz.ntmps269 ?_
   have W:=trivial
   repeat' first|refine we ?_|(refine sq (fun hc=>?_) (fun hc=>?_)<;>try exact hc.elim)|fail
   all_goals (try (refine ⟨.inr rfl,?_⟩;simp [Hands,Tryz.results269]))
theorem bBh [aA Tryz.prog] [dY Tryz.prog] (b:aS) (ss:List dU) (x:fI) (hs:aI b≤274877906944) (hx:x.text.length≤268435456) (hl:ss.length≤1099511627776) (hr:∀x∈ss,x.rules.length≤1099511627776) (hco:∀n,0≤aT ss n∧aT ss n≤999) (hop:¬x.op=1∧¬x.op=2∧¬x.op=3∧¬x.op=4∧¬x.op=5):
  Ok Tryz.prog 269 [.agg (aL .view b),.sl .view 1 (ss.map (bP .view)),.agg (fU x)] (.tup [.agg (aL .own (bE b ss x).1),.str (bE b ss x).2.1,.str (bE b ss x).2.2]):=by
 have c1:=jG b hs
 have hn:b.nodes.length≤274877906944:=by simp only [aI,szL] at hs;omega
 obtain ⟨op,tx⟩:=x
 simp only at hx hop
 have c2:=nC tx (by omega)
 have c3:=mG b tx (by omega)
 have c4:=nX ss tx hl hr
 have c5:=gJ tx (by omega)
 have c6:=jT (b.nodes.length:Int) 1 39
 have hcn:0≤aP b tx∧aP b tx≤(b.nodes.length:Int):=by
  unfold aP
  have:=List.length_filter_le (fun x:dA=>decide (x.name=tx)) b.nodes
  omega
 have hcc:=hco tx
 have c7:=fE (aP b tx) (by omega)
 have c8:=fE (aT ss tx) (by omega)
 have z7:=fF (aP b tx) (by omega) (by omega)
 have z8:=fF (aT ss tx) (by omega) (by omega)
 simp only [aL] at c1 c3
 clear hr hco
 simp only [bE,pJ,rZ,wT]
 generalize Lib.itoa (aP b tx)=i7 at *
 generalize Lib.itoa (aT ss tx)=i8 at *
 generalize aP b tx=cn at *
 generalize aT ss tx=cc at *
 obtain ⟨h1,h2,h3,h4,h5⟩:=hop
 rw [if_neg h1,if_neg h2,if_neg h3,if_neg h4,if_neg h5]
 refine ent Tryz.mix Tryz.func269 Tryz.ntmps269 ?_
 have W:=And.intro h1 (And.intro h2 (And.intro h3 (And.intro h4 h5)))
 repeat' first|refine we ?_|(refine sq (fun hc=>?_) (fun hc=>?_)<;>try exact hc.elim)|fail
 all_goals (try (refine ⟨.inr rfl,?_⟩;simp [Hands,Tryz.results269]))
theorem bB0 [aA Tryz.prog] [dY Tryz.prog] (b:aS) (ss:List dU) (x:fI) (hs:aI b≤274877906944) (hx:x.text.length≤268435456) (hl:ss.length≤1099511627776) (hr:∀x∈ss,x.rules.length≤1099511627776) (hco:∀n,0≤aT ss n∧aT ss n≤999) (hop:x.op=3):
  Ok Tryz.prog 269 [.agg (aL .view b),.sl .view 1 (ss.map (bP .view)),.agg (fU x)] (.tup [.agg (aL .own (bE b ss x).1),.str (bE b ss x).2.1,.str (bE b ss x).2.2]):=by
 have c1:=jG b hs
 have hn:b.nodes.length≤274877906944:=by simp only [aI,szL] at hs;omega
 obtain ⟨op,tx⟩:=x
 simp only at hx hop
 have c2:=nC tx (by omega)
 have c3:=mG b tx (by omega)
 have c4:=nX ss tx hl hr
 have c5:=gJ tx (by omega)
 have c6:=jT (b.nodes.length:Int) 1 39
 have hcn:0≤aP b tx∧aP b tx≤(b.nodes.length:Int):=by
  unfold aP
  have:=List.length_filter_le (fun x:dA=>decide (x.name=tx)) b.nodes
  omega
 have hcc:=hco tx
 have c7:=fE (aP b tx) (by omega)
 have c8:=fE (aT ss tx) (by omega)
 have z7:=fF (aP b tx) (by omega) (by omega)
 have z8:=fF (aT ss tx) (by omega) (by omega)
 simp only [aL] at c1 c3
 clear hr hco
 simp only [bE,pJ,rZ,wT]
 generalize Lib.itoa (aP b tx)=i7 at *
 generalize Lib.itoa (aT ss tx)=i8 at *
 generalize aP b tx=cn at *
 generalize aT ss tx=cc at *
 subst hop
 rw [if_neg (by decide),if_neg (by decide),if_pos rfl]
 clear c2 c4 c5 c6 c8 z8 hcc hl
 have z7l:i7.length≤40:=by omega
 refine kH Tryz.mix [10] Tryz.func269 Tryz.ntmps269 ?_
 have W:=trivial
 repeat' first|refine we ?_|(refine sq (fun hc=>?_) (fun hc=>?_)<;>try exact hc.elim)|fail
 rw [qJ]
 refine aDf (fun J=>⟨[.undef,.sl .view 1 (ss.map (bP .view)),.undef,.ptr 0 0 0 0,.undef,.ptr 1 0 0 0,.ptr 2 0 0 0,dv J 12 (.str []),dv J 13 (.str ([99,111,117,110,116,32]++tx++[32]++i7)),.ptr 5 0 0 0,.undef,.undef,.undef,.undef,.undef,.undef,.undef,.undef,.undef,.undef,.undef,.undef,.undef,.undef,.undef,.undef,.undef,.undef,.undef,.undef,.undef,.undef,.undef,.undef,.undef,.undef,.undef,.undef,.undef,.undef,.undef,.undef,dv J 0 (.agg [.obj 3 1,.obj 4 1]),dv J 1 (.ptr 1 0 0 1),dv J 2 (.str tx),dv J 3 (.str ([99,111,117,110,116,32]++tx)),dv J 4 (.str ([99,111,117,110,116,32]++tx++[32])),dv J 5 (.agg [.sl .view 4 (b.nodes.map (bB .view)),.sl .view 1 (b.opens.map dV)]),dv J 6 (.ptr 1 0 0 1),dv J 7 (.str tx),dv J 8 (.int .i64 cn),dv J 9 (.str i7),dv J 10 (.str ([99,111,117,110,116,32]++tx++[32]++i7)),.undef,.undef,.undef,.undef,.undef,.undef,.undef,.undef,.undef,.undef,.undef,.undef,.undef,.undef,.undef,.undef,.undef,.undef,.undef,.undef],[⟨true,true,2,0,[[.sl .view 4 (b.nodes.map (bB .view)),.sl .view 1 (b.opens.map dV)]]⟩,⟨true,true,2,0,[[.int .i64 3,.str tx]]⟩,⟨true,true,2,0,[if J 11=true then [.obj 3 1,.obj 4 1] else [.sl .own 4 [],.sl .own 1 []]]⟩,⟨true,false,4,1,b.nodes.map (bB .own)⟩,⟨true,false,1,1,b.opens.map dV⟩,⟨true,true,2,0,[[.obj 3 1,.obj 4 1]]⟩]⟩) (aH (by simp [dv,hx,z7l]) (by simp [dv,hx,z7l])) (by decide) ?_ ?_
 ·simp only [qY,and_true]
  refine ⟨⟨trivial,fun J h1 h2=>dM fun K hK=> ?_⟩,⟨trivial,fun J h1 h2=>dM fun K hK=> ?_⟩,⟨trivial,fun J h1 h2=>dM fun K hK=> ?_⟩,⟨trivial,fun J h1 h2=>dM fun K hK=> ?_⟩,⟨trivial,fun J h1 h2=>dM fun K hK=> ?_⟩,⟨trivial,fun J h1 h2=>dM fun K hK=> ?_⟩,⟨trivial,fun J h1 h2=>dM fun K hK=> ?_⟩,⟨trivial,fun J h1 h2=>dM fun K hK=> ?_⟩,⟨trivial,fun J h1 h2=>dM fun K hK=> ?_⟩,⟨trivial,fun J h1 h2=>dM fun K hK=> ?_⟩,⟨trivial,fun J h1 h2=>dM fun K hK=> ?_⟩,⟨trivial,fun J h1 h2=>dM fun K hK=> ?_⟩,⟨trivial,fun J h1 h2=>dM fun K hK=> ?_⟩,⟨trivial,fun J h1 h2=>dM fun K hK=> ?_⟩⟩
  all_goals simp [Region.binds] at h2
  all_goals first
   |(simp [-Bool.exists_bool,aop,dv,h1,h2,hx,z7l];refine ⟨_,(c3),hK _ (aH ?_ ?_)⟩<;>simp [dv,upd,h1,h2])
   |(simp [-Bool.exists_bool,aop,dv,h1,h2,hx,z7l];refine ⟨_,(c7),hK _ (aH ?_ ?_)⟩<;>simp [dv,upd,h1,h2])
   |(simp [-Bool.exists_bool,aop,dv,h1,h2,hx,z7l];refine ⟨?_,hK _ (aH ?_ ?_)⟩;(focus omega);all_goals simp [dv,upd,h1,h2])
   |(simp [-Bool.exists_bool,aop,dv,h1,h2,hx,z7l];refine hK _ (aH ?_ ?_)<;>simp [dv,upd,h1,h2])
 ·intro J hJ
  have hJs:J 0=true∧J 1=true∧J 2=true∧J 3=true∧J 4=true∧J 5=true∧J 6=true∧J 7=true∧J 8=true∧J 9=true∧J 10=true∧J 11=true∧J 12=true∧J 13=true:=⟨hJ 0 (by decide),hJ 1 (by decide),hJ 2 (by decide),hJ 3 (by decide),hJ 4 (by decide),hJ 5 (by decide),hJ 6 (by decide),hJ 7 (by decide),hJ 8 (by decide),hJ 9 (by decide),hJ 10 (by decide),hJ 11 (by decide),hJ 12 (by decide),hJ 13 (by decide)⟩
  simp only [dv,hJs,if_true]
  clear hJs hJ J
  have W:=trivial
  repeat' first|refine we ?_|(refine sq (fun hc=>?_) (fun hc=>?_)<;>try exact hc.elim)|fail
  all_goals (try (refine ⟨.inr rfl,?_⟩;simp [Hands,Tryz.results269]))
theorem bBk [aA Tryz.prog] [dY Tryz.prog] (b:aS) (ss:List dU) (x:fI) (hs:aI b≤274877906944) (hx:x.text.length≤268435456) (hl:ss.length≤1099511627776) (hr:∀x∈ss,x.rules.length≤1099511627776) (hco:∀n,0≤aT ss n∧aT ss n≤999) (hop:x.op=4):
  Ok Tryz.prog 269 [.agg (aL .view b),.sl .view 1 (ss.map (bP .view)),.agg (fU x)] (.tup [.agg (aL .own (bE b ss x).1),.str (bE b ss x).2.1,.str (bE b ss x).2.2]):=by
 have c1:=jG b hs
 have hn:b.nodes.length≤274877906944:=by simp only [aI,szL] at hs;omega
 obtain ⟨op,tx⟩:=x
 simp only at hx hop
 have c2:=nC tx (by omega)
 have c3:=mG b tx (by omega)
 have c4:=nX ss tx hl hr
 have c5:=gJ tx (by omega)
 have c6:=jT (b.nodes.length:Int) 1 39
 have hcn:0≤aP b tx∧aP b tx≤(b.nodes.length:Int):=by
  unfold aP
  have:=List.length_filter_le (fun x:dA=>decide (x.name=tx)) b.nodes
  omega
 have hcc:=hco tx
 have c7:=fE (aP b tx) (by omega)
 have c8:=fE (aT ss tx) (by omega)
 have z7:=fF (aP b tx) (by omega) (by omega)
 have z8:=fF (aT ss tx) (by omega) (by omega)
 simp only [aL] at c1 c3
 clear hr hco
 simp only [bE,pJ,rZ,wT]
 generalize Lib.itoa (aP b tx)=i7 at *
 generalize Lib.itoa (aT ss tx)=i8 at *
 generalize aP b tx=cn at *
 generalize aT ss tx=cc at *
 subst hop
 rw [if_neg (by decide),if_neg (by decide),if_neg (by decide),if_pos rfl]
 clear c2 c3 c5 c6 c7 z7 hcn
 have z7l:i8.length≤40:=by omega
 refine kH Tryz.mix [12] Tryz.func269 Tryz.ntmps269 ?_
 have W:=trivial
 repeat' first|refine we ?_|(refine sq (fun hc=>?_) (fun hc=>?_)<;>try exact hc.elim)|fail
 rw [qJ]
 refine aDf (fun J=>⟨[.undef,.sl .view 1 (ss.map (bP .view)),.undef,.ptr 0 0 0 0,.undef,.ptr 1 0 0 0,.ptr 2 0 0 0,dv J 12 (.str []),dv J 13 (.str ([108,111,111,107,32]++tx++[32]++i8)),.ptr 5 0 0 0,.undef,.undef,.undef,.undef,.undef,.undef,.undef,.undef,.undef,.undef,.undef,.undef,.undef,.undef,.undef,.undef,.undef,.undef,.undef,.undef,.undef,.undef,.undef,.undef,.undef,.undef,.undef,.undef,.undef,.undef,.undef,.undef,.undef,.undef,.undef,.undef,.undef,.undef,.undef,.undef,.undef,.undef,.undef,.undef,.undef,dv J 0 (.agg [.obj 3 1,.obj 4 1]),dv J 1 (.ptr 1 0 0 1),dv J 2 (.str tx),dv J 3 (.str ([108,111,111,107,32]++tx)),dv J 4 (.str ([108,111,111,107,32]++tx++[32])),dv J 5 (.sl .view 1 (ss.map (bP .view))),dv J 6 (.ptr 1 0 0 1),dv J 7 (.str tx),dv J 8 (.int .i64 cc),dv J 9 (.str i8),dv J 10 (.str ([108,111,111,107,32]++tx++[32]++i8)),.undef,.undef,.undef,.undef,.undef,.undef,.undef],[⟨true,true,2,0,[[.sl .view 4 (b.nodes.map (bB .view)),.sl .view 1 (b.opens.map dV)]]⟩,⟨true,true,2,0,[[.int .i64 4,.str tx]]⟩,⟨true,true,2,0,[if J 11=true then [.obj 3 1,.obj 4 1] else [.sl .own 4 [],.sl .own 1 []]]⟩,⟨true,false,4,1,b.nodes.map (bB .own)⟩,⟨true,false,1,1,b.opens.map dV⟩,⟨true,true,2,0,[[.obj 3 1,.obj 4 1]]⟩]⟩) (aH (by simp [dv,hx,z7l]) (by simp [dv,hx,z7l])) (by decide) ?_ ?_
 ·simp only [qY,and_true]
  refine ⟨⟨trivial,fun J h1 h2=>dM fun K hK=> ?_⟩,⟨trivial,fun J h1 h2=>dM fun K hK=> ?_⟩,⟨trivial,fun J h1 h2=>dM fun K hK=> ?_⟩,⟨trivial,fun J h1 h2=>dM fun K hK=> ?_⟩,⟨trivial,fun J h1 h2=>dM fun K hK=> ?_⟩,⟨trivial,fun J h1 h2=>dM fun K hK=> ?_⟩,⟨trivial,fun J h1 h2=>dM fun K hK=> ?_⟩,⟨trivial,fun J h1 h2=>dM fun K hK=> ?_⟩,⟨trivial,fun J h1 h2=>dM fun K hK=> ?_⟩,⟨trivial,fun J h1 h2=>dM fun K hK=> ?_⟩,⟨trivial,fun J h1 h2=>dM fun K hK=> ?_⟩,⟨trivial,fun J h1 h2=>dM fun K hK=> ?_⟩,⟨trivial,fun J h1 h2=>dM fun K hK=> ?_⟩,⟨trivial,fun J h1 h2=>dM fun K hK=> ?_⟩⟩
  all_goals simp [Region.binds] at h2
  all_goals first
   |(simp [-Bool.exists_bool,aop,dv,h1,h2,hx,z7l];refine ⟨_,(c4),hK _ (aH ?_ ?_)⟩<;>simp [dv,upd,h1,h2])
   |(simp [-Bool.exists_bool,aop,dv,h1,h2,hx,z7l];refine ⟨_,(c8),hK _ (aH ?_ ?_)⟩<;>simp [dv,upd,h1,h2])
   |(simp [-Bool.exists_bool,aop,dv,h1,h2,hx,z7l];refine ⟨?_,hK _ (aH ?_ ?_)⟩;(focus omega);all_goals simp [dv,upd,h1,h2])
   |(simp [-Bool.exists_bool,aop,dv,h1,h2,hx,z7l];refine hK _ (aH ?_ ?_)<;>simp [dv,upd,h1,h2])
 ·intro J hJ
  have hJs:J 0=true∧J 1=true∧J 2=true∧J 3=true∧J 4=true∧J 5=true∧J 6=true∧J 7=true∧J 8=true∧J 9=true∧J 10=true∧J 11=true∧J 12=true∧J 13=true:=⟨hJ 0 (by decide),hJ 1 (by decide),hJ 2 (by decide),hJ 3 (by decide),hJ 4 (by decide),hJ 5 (by decide),hJ 6 (by decide),hJ 7 (by decide),hJ 8 (by decide),hJ 9 (by decide),hJ 10 (by decide),hJ 11 (by decide),hJ 12 (by decide),hJ 13 (by decide)⟩
  simp only [dv,hJs,if_true]
  clear hJs hJ J
  have W:=trivial
  repeat' first|refine we ?_|(refine sq (fun hc=>?_) (fun hc=>?_)<;>try exact hc.elim)|fail
  all_goals (try (refine ⟨.inr rfl,?_⟩;simp [Hands,Tryz.results269]))
theorem bBe [aA Tryz.prog] [dY Tryz.prog] (b:aS) (ss:List dU) (x:fI) (hs:aI b≤274877906944) (hx:x.text.length≤268435456) (hl:ss.length≤1099511627776) (hr:∀x∈ss,x.rules.length≤1099511627776) (hco:∀n,0≤aT ss n∧aT ss n≤999) (hop:x.op=5):
  Ok Tryz.prog 269 [.agg (aL .view b),.sl .view 1 (ss.map (bP .view)),.agg (fU x)] (.tup [.agg (aL .own (bE b ss x).1),.str (bE b ss x).2.1,.str (bE b ss x).2.2]):=by
 have c1:=jG b hs
 have hn:b.nodes.length≤274877906944:=by simp only [aI,szL] at hs;omega
 obtain ⟨op,tx⟩:=x
 simp only at hx hop
 have c2:=nC tx (by omega)
 have c3:=mG b tx (by omega)
 have c4:=nX ss tx hl hr
 have c5:=gJ tx (by omega)
 have c6:=jT (b.nodes.length:Int) 1 39
 have hcn:0≤aP b tx∧aP b tx≤(b.nodes.length:Int):=by
  unfold aP
  have:=List.length_filter_le (fun x:dA=>decide (x.name=tx)) b.nodes
  omega
 have hcc:=hco tx
 have c7:=fE (aP b tx) (by omega)
 have c8:=fE (aT ss tx) (by omega)
 have z7:=fF (aP b tx) (by omega) (by omega)
 have z8:=fF (aT ss tx) (by omega) (by omega)
 simp only [aL] at c1 c3
 clear hr hco
 simp only [bE,pJ,rZ,wT]
 generalize Lib.itoa (aP b tx)=i7 at *
 generalize Lib.itoa (aT ss tx)=i8 at *
 generalize aP b tx=cn at *
 generalize aT ss tx=cc at *
 subst hop
 rw [if_neg (by decide),if_neg (by decide),if_neg (by decide),if_neg (by decide),if_pos rfl]
 refine ent Tryz.mix Tryz.func269 Tryz.ntmps269 ?_
 have W:=trivial
 repeat' first|refine we ?_|(refine sq (fun hc=>?_) (fun hc=>?_)<;>try exact hc.elim)|fail
 all_goals (try (refine ⟨.inr rfl,?_⟩;simp [Hands,Tryz.results269]))
theorem bA3 [aA Tryz.prog] [dY Tryz.prog] (b:aS) (ss:List dU) (x:fI) (hs:aI b≤274877906944) (hx:x.text.length≤268435456) (hl:ss.length≤1099511627776) (hr:∀x∈ss,x.rules.length≤1099511627776) (hco:∀n,0≤aT ss n∧aT ss n≤999) (hop:x.op=1):
  Ok Tryz.prog 212 [.agg (aL .view b),.sl .view 1 (ss.map (bP .view)),.agg (fU x)] (.tup [.agg (aL .own (bE b ss x).1),.str (bE b ss x).2.1,.str (bE b ss x).2.2]):=by
 have c1:=jH b hs
 have hn:b.nodes.length≤274877906944:=by simp only [aI,szL] at hs;omega
 obtain ⟨op,tx⟩:=x
 simp only at hx hop
 have c2:=mZ tx (by omega)
 have c3:=mE b tx (by omega)
 have c4:=nZ ss tx hl hr
 have c5:=eP tx (by omega)
 have c6:=gM (b.nodes.length:Int) 1 39
 have hcn:0≤aP b tx∧aP b tx≤(b.nodes.length:Int):=by
  unfold aP
  have:=List.length_filter_le (fun x:dA=>decide (x.name=tx)) b.nodes
  omega
 have hcc:=hco tx
 have c7:=fB (aP b tx) (by omega)
 have c8:=fB (aT ss tx) (by omega)
 have z7:=fF (aP b tx) (by omega) (by omega)
 have z8:=fF (aT ss tx) (by omega) (by omega)
 simp only [aL] at c1 c3
 clear hr hco
 simp only [bE,pJ,rZ,wT]
 generalize Lib.itoa (aP b tx)=i7 at *
 generalize Lib.itoa (aT ss tx)=i8 at *
 generalize aP b tx=cn at *
 generalize aT ss tx=cc at *
 subst hop
 rw [if_pos rfl]
 refine ent Tryz.mix Tryz.func212 Tryz.ntmps212 ?_
 have W:=trivial
 repeat' first|refine we ?_|(refine sq (fun hc=>?_) (fun hc=>?_)<;>try exact hc.elim)|fail
 all_goals (try (refine ⟨.inr rfl,?_⟩;simp [Hands,Tryz.results212]))
theorem bAj [aA Tryz.prog] [dY Tryz.prog] (b:aS) (ss:List dU) (x:fI) (hs:aI b≤274877906944) (hx:x.text.length≤268435456) (hl:ss.length≤1099511627776) (hr:∀x∈ss,x.rules.length≤1099511627776) (hco:∀n,0≤aT ss n∧aT ss n≤999) (hop:x.op=2):
  Ok Tryz.prog 212 [.agg (aL .view b),.sl .view 1 (ss.map (bP .view)),.agg (fU x)] (.tup [.agg (aL .own (bE b ss x).1),.str (bE b ss x).2.1,.str (bE b ss x).2.2]):=by
 have c1:=jH b hs
 have hn:b.nodes.length≤274877906944:=by simp only [aI,szL] at hs;omega
 obtain ⟨op,tx⟩:=x
 simp only at hx hop
 have c2:=mZ tx (by omega)
 have c3:=mE b tx (by omega)
 have c4:=nZ ss tx hl hr
 have c5:=eP tx (by omega)
 have c6:=gM (b.nodes.length:Int) 1 39
 have hcn:0≤aP b tx∧aP b tx≤(b.nodes.length:Int):=by
  unfold aP
  have:=List.length_filter_le (fun x:dA=>decide (x.name=tx)) b.nodes
  omega
 have hcc:=hco tx
 have c7:=fB (aP b tx) (by omega)
 have c8:=fB (aT ss tx) (by omega)
 have z7:=fF (aP b tx) (by omega) (by omega)
 have z8:=fF (aT ss tx) (by omega) (by omega)
 simp only [aL] at c1 c3
 clear hr hco
 simp only [bE,pJ,rZ,wT]
 generalize Lib.itoa (aP b tx)=i7 at *
 generalize Lib.itoa (aT ss tx)=i8 at *
 generalize aP b tx=cn at *
 generalize aT ss tx=cc at *
 subst hop
 rw [if_neg (by decide),if_pos rfl]
 by_cases hc:(1≤b.nodes.length∧b.nodes.length≤39)∧bS tx=true
 ·rw [if_pos hc]
  rw [show (decide ((1:Int)≤(b.nodes.length:Int))&&decide ((b.nodes.length:Int)≤39))=true from by simp;omega] at c6
  rw [hc.2] at c5
  obtain ⟨l0,hl0⟩:∃l,l=b.nodes++[(⟨tx,[],0,[]⟩:dA)]:=⟨_,rfl⟩
  have hap:b.nodes.map (bB .own)++[[.str tx,.str [],.int .i64 0,.sl .own 2 []]]=l0.map (bB .own):=by rw [hl0];simp
  rw [←hl0]
  clear hl0 hc
  refine ent Tryz.mix Tryz.func212 Tryz.ntmps212 ?_
  have W:=And.intro hap hn
  repeat' first|refine we ?_|(refine sq (fun hc=>?_) (fun hc=>?_)<;>try exact hc.elim)|fail
  all_goals (try (refine ⟨.inr rfl,?_⟩;simp [Hands,Tryz.results212]))
 ·rw [if_neg hc]
  by_cases hc1:1≤b.nodes.length∧b.nodes.length≤39
  ·have hc2:bS tx=false:=by
    cases h:bS tx with
    |false=>rfl
    |true=>exact absurd ⟨hc1,h⟩ hc
   rw [show (decide ((1:Int)≤(b.nodes.length:Int))&&decide ((b.nodes.length:Int)≤39))=true from by simp;omega] at c6
   rw [hc2] at c5
   clear hc
   refine ent Tryz.mix Tryz.func212 Tryz.ntmps212 ?_
   have W:=trivial
   repeat' first|refine we ?_|(refine sq (fun hc=>?_) (fun hc=>?_)<;>try exact hc.elim)|fail
   all_goals (try (refine ⟨.inr rfl,?_⟩;simp [Hands,Tryz.results212]))
  ·rw [show (decide ((1:Int)≤(b.nodes.length:Int))&&decide ((b.nodes.length:Int)≤39))=false from by simp;omega] at c6
   clear hc
   refine ent Tryz.mix Tryz.func212 Tryz.ntmps212 ?_
   have W:=trivial
   repeat' first|refine we ?_|(refine sq (fun hc=>?_) (fun hc=>?_)<;>try exact hc.elim)|fail
   all_goals (try (refine ⟨.inr rfl,?_⟩;simp [Hands,Tryz.results212]))
theorem bA9 [aA Tryz.prog] [dY Tryz.prog] (b:aS) (ss:List dU) (x:fI) (hs:aI b≤274877906944) (hx:x.text.length≤268435456) (hl:ss.length≤1099511627776) (hr:∀x∈ss,x.rules.length≤1099511627776) (hco:∀n,0≤aT ss n∧aT ss n≤999) (hop:¬x.op=1∧¬x.op=2∧¬x.op=3∧¬x.op=4∧¬x.op=5):
  Ok Tryz.prog 212 [.agg (aL .view b),.sl .view 1 (ss.map (bP .view)),.agg (fU x)] (.tup [.agg (aL .own (bE b ss x).1),.str (bE b ss x).2.1,.str (bE b ss x).2.2]):=by
 have c1:=jH b hs
 have hn:b.nodes.length≤274877906944:=by simp only [aI,szL] at hs;omega
 obtain ⟨op,tx⟩:=x
 simp only at hx hop
 have c2:=mZ tx (by omega)
 have c3:=mE b tx (by omega)
 have c4:=nZ ss tx hl hr
 have c5:=eP tx (by omega)
 have c6:=gM (b.nodes.length:Int) 1 39
 have hcn:0≤aP b tx∧aP b tx≤(b.nodes.length:Int):=by
  unfold aP
  have:=List.length_filter_le (fun x:dA=>decide (x.name=tx)) b.nodes
  omega
 have hcc:=hco tx
 have c7:=fB (aP b tx) (by omega)
 have c8:=fB (aT ss tx) (by omega)
 have z7:=fF (aP b tx) (by omega) (by omega)
 have z8:=fF (aT ss tx) (by omega) (by omega)
 simp only [aL] at c1 c3
 clear hr hco
 simp only [bE,pJ,rZ,wT]
 generalize Lib.itoa (aP b tx)=i7 at *
 generalize Lib.itoa (aT ss tx)=i8 at *
 generalize aP b tx=cn at *
 generalize aT ss tx=cc at *
 obtain ⟨h1,h2,h3,h4,h5⟩:=hop
 rw [if_neg h1,if_neg h2,if_neg h3,if_neg h4,if_neg h5]
 refine ent Tryz.mix Tryz.func212 Tryz.ntmps212 ?_
 have W:=And.intro h1 (And.intro h2 (And.intro h3 (And.intro h4 h5)))
 repeat' first|refine we ?_|(refine sq (fun hc=>?_) (fun hc=>?_)<;>try exact hc.elim)|fail
 all_goals (try (refine ⟨.inr rfl,?_⟩;simp [Hands,Tryz.results212]))
end Go.Proofs.YtlnblmmohpcceaaGreatDoor
