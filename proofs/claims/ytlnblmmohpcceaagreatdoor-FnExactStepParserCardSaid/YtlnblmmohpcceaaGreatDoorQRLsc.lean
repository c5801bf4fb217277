/-
  Proved here: steps towards the statement of this claim, text QRLsc.
  No condition beyond what each statement spells out.
-/
import Derived.Test.YtlnblmmohpcceaaGreatDoorQC1
import Derived.Test.YtlnblmmohpcceaaGreatDoorF8
import Derived.Test.YtlnblmmohpcceaaGreatDoorQRLib
import Derived.Test.YtlnblmmohpcceaaGreatDoorQU5
set_option linter.all false
set_option maxRecDepth 4000
set_option maxHeartbeats 4000000
namespace Go.Proofs.YtlnblmmohpcceaaGreatDoor
open Go.Aw
theorem bB1 [aA Tryz.prog] [dY Tryz.prog] (b:aS) (ss:List dU) (x:fI) (hs:aI b≤274877906944) (hx:x.text.length≤268435456) (hl:ss.length≤1099511627776) (hr:∀x∈ss,x.rules.length≤1099511627776) (hco:∀n,0≤aT ss n∧aT ss n≤999) (hop:x.op=3):
  Ok Tryz.prog 212 [.agg (aL .view b),.sl .view 1 (ss.map (bP .view)),.agg (fU x)] (.tup [.agg (aL .own (bE b ss x).1),.str (bE b ss x).2.1,.str (bE b ss x).2.2]):=by
 have c1:=jH b hs
 have hn:b.nodes.length≤274877906944:=by simp only [aI,szL] at hs;omega
 obtain ⟨op,tx⟩:=x
 simp only at hx hop
 have c2:=mZ tx (by omega)
 have c3:=mE b tx (by omega)
 have c4:=nZ ss tx hl hr
 have c5:=eP tx (by omega)
 have c6:=gM (b.nodes.length:Int) 1 39
 have hcn:0≤aP b tx∧aP b tx≤(b.nodes.length:Int):=by
  unfold aP
  have:=List.length_filter_le (fun x:dA=>decide (x.name=tx)) b.nodes
  omega
 have hcc:=hco tx
 have c7:=fB (aP b tx) (by omega)
 have c8:=fB (aT ss tx) (by omega)
 have z7:=fF (aP b tx) (by omega) (by omega)
 have z8:=fF (aT ss tx) (by omega) (by omega)
 simp only [aL] at c1 c3
 clear hr hco
 simp only [bE,pJ,rZ,wT]
 generalize Lib.itoa (aP b tx)=i7 at *
 generalize Lib.itoa (aT ss tx)=i8 at *
 generalize aP b tx=cn at *
 generalize aT ss tx=cc at *
 subst hop
 rw [if_neg (by decide),if_neg (by decide),if_pos rfl]
 clear c2 c4 c5 c6 c8 z8 hcc hl
 have z7l:i7.length≤40:=by omega
 refine kH Tryz.mix [10] Tryz.func212 Tryz.ntmps212 ?_
 have W:=trivial
 repeat' first|refine we ?_|(refine sq (fun hc=>?_) (fun hc=>?_)<;>try exact hc.elim)|fail
 rw [qJ]
 refine aDf (fun J=>⟨[.undef,.sl .view 1 (ss.map (bP .view)),.undef,.ptr 0 0 0 0,.undef,.ptr 1 0 0 0,.ptr 2 0 0 0,dv J 12 (.str []),dv J 13 (.str ([99,111,117,110,116,32]++tx++[32]++i7)),.ptr 5 0 0 0,.undef,.undef,.undef,.undef,.undef,.undef,.undef,.undef,.undef,.undef,.undef,.undef,.undef,.undef,.undef,.undef,.undef,.undef,.undef,.undef,.undef,.undef,.undef,.undef,.undef,.undef,.undef,.undef,.undef,.undef,.undef,.undef,dv J 0 (.agg [.obj 3 1,.obj 4 1]),dv J 1 (.ptr 1 0 0 1),dv J 2 (.str tx),dv J 3 (.str ([99,111,117,110,116,32]++tx)),dv J 4 (.str ([99,111,117,110,116,32]++tx++[32])),dv J 5 (.agg [.sl .view 4 (b.nodes.map (bB .view)),.sl .view 1 (b.opens.map dV)]),dv J 6 (.ptr 1 0 0 1),dv J 7 (.str tx),dv J 8 (.int .i64 cn),dv J 9 (.str i7),dv J 10 (.str ([99,111,117,110,116,32]++tx++[32]++i7)),.undef,.undef,.undef,.undef,.undef,.undef,.undef,.undef,.undef,.undef,.undef,.undef,.undef,.undef,.undef,.undef,.undef,.undef,.undef,.undef],[⟨true,true,2,0,[[.sl .view 4 (b.nodes.map (bB .view)),.sl .view 1 (b.opens.map dV)]]⟩,⟨true,true,2,0,[[.int .i64 3,.str tx]]⟩,⟨true,true,2,0,[if J 11=true then [.obj 3 1,.obj 4 1] else [.sl .own 4 [],.sl .own 1 []]]⟩,⟨true,false,4,1,b.nodes.map (bB .own)⟩,⟨true,false,1,1,b.opens.map dV⟩,⟨true,true,2,0,[[.obj 3 1,.obj 4 1]]⟩]⟩) (aH (by simp [dv,hx,z7l]) (by simp [dv,hx,z7l])) (by decide) ?_ ?_
 ·simp only [qY,and_true]
  refine ⟨⟨trivial,fun J h1 h2=>dM fun K hK=> ?_⟩,⟨trivial,fun J h1 h2=>dM fun K hK=> ?_⟩,⟨trivial,fun J h1 h2=>dM fun K hK=> ?_⟩,⟨trivial,fun J h1 h2=>dM fun K hK=> ?_⟩,⟨trivial,fun J h1 h2=>dM fun K hK=> ?_⟩,⟨trivial,fun J h1 h2=>dM fun K hK=> ?_⟩,⟨trivial,fun J h1 h2=>dM fun K hK=> ?_⟩,⟨trivial,fun J h1 h2=>dM fun K hK=> ?_⟩,⟨trivial,fun J h1 h2=>dM fun K hK=> ?_⟩,⟨trivial,fun J h1 h2=>dM fun K hK=> ?_⟩,⟨trivial,fun J h1 h2=>dM fun K hK=> ?_⟩,⟨trivial,fun J h1 h2=>dM fun K hK=> ?_⟩,⟨trivial,fun J h1 h2=>dM fun K hK=> ?_⟩,⟨trivial,fun J h1 h2=>dM fun K hK=> ?_⟩⟩
  all_goals simp [Region.binds] at h2
  all_goals first
   |(simp [-Bool.exists_bool,aop,dv,h1,h2,hx,z7l];refine ⟨_,(c3),hK _ (aH ?_ ?_)⟩<;>simp [dv,upd,h1,h2])
   |(simp [-Bool.exists_bool,aop,dv,h1,h2,hx,z7l];refine ⟨_,(c7),hK _ (aH ?_ ?_)⟩<;>simp [dv,upd,h1,h2])
   |(simp [-Bool.exists_bool,aop,dv,h1,h2,hx,z7l];refine ⟨?_,hK _ (aH ?_ ?_)⟩;(focus omega);all_goals simp [dv,upd,h1,h2])
   |(simp [-Bool.exists_bool,aop,dv,h1,h2,hx,z7l];refine hK _ (aH ?_ ?_)<;>simp [dv,upd,h1,h2])
 ·intro J hJ
  have hJs:J 0=true∧J 1=true∧J 2=true∧J 3=true∧J 4=true∧J 5=true∧J 6=true∧J 7=true∧J 8=true∧J 9=true∧J 10=true∧J 11=true∧J 12=true∧J 13=true:=⟨hJ 0 (by decide),hJ 1 (by decide),hJ 2 (by decide),hJ 3 (by decide),hJ 4 (by decide),hJ 5 (by decide),hJ 6 (by decide),hJ 7 (by decide),hJ 8 (by decide),hJ 9 (by decide),hJ 10 (by decide),hJ 11 (by decide),hJ 12 (by decide),hJ 13 (by decide)⟩
  simp only [dv,hJs,if_true]
  clear hJs hJ J
  have W:=trivial
  repeat' first|refine we ?_|(refine sq (fun hc=>?_) (fun hc=>?_)<;>try exact hc.elim)|fail
  all_goals (try (refine ⟨.inr rfl,?_⟩;simp [Hands,Tryz.results212]))
theorem bBo [aA Tryz.prog] [dY Tryz.prog] (b:aS) (ss:List dU) (x:fI) (hs:aI b≤274877906944) (hx:x.text.length≤268435456) (hl:ss.length≤1099511627776) (hr:∀x∈ss,x.rules.length≤1099511627776) (hco:∀n,0≤aT ss n∧aT ss n≤999) (hop:x.op=4):
  Ok Tryz.prog 212 [.agg (aL .view b),.sl .view 1 (ss.map (bP .view)),.agg (fU x)] (.tup [.agg (aL .own (bE b ss x).1),.str (bE b ss x).2.1,.str (bE b ss x).2.2]):=by
 have c1:=jH b hs
 have hn:b.nodes.length≤274877906944:=by simp only [aI,szL] at hs;omega
 obtain ⟨op,tx⟩:=x
 simp only at hx hop
 have c2:=mZ tx (by omega)
 have c3:=mE b tx (by omega)
 have c4:=nZ ss tx hl hr
 have c5:=eP tx (by omega)
 have c6:=gM (b.nodes.length:Int) 1 39
 have hcn:0≤aP b tx∧aP b tx≤(b.nodes.length:Int):=by
  unfold aP
  have:=List.length_filter_le (fun x:dA=>decide (x.name=tx)) b.nodes
  omega
 have hcc:=hco tx
 have c7:=fB (aP b tx) (by omega)
 have c8:=fB (aT ss tx) (by omega)
 have z7:=fF (aP b tx) (by omega) (by omega)
 have z8:=fF (aT ss tx) (by omega) (by omega)
 simp only [aL] at c1 c3
 clear hr hco
 simp only [bE,pJ,rZ,wT]
 generalize Lib.itoa (aP b tx)=i7 at *
 generalize Lib.itoa (aT ss tx)=i8 at *
 generalize aP b tx=cn at *
 generalize aT ss tx=cc at *
 subst hop
 rw [if_neg (by decide),if_neg (by decide),if_neg (by decide),if_pos rfl]
 clear c2 c3 c5 c6 c7 z7 hcn
 have z7l:i8.length≤40:=by omega
 refine kH Tryz.mix [12] Tryz.func212 Tryz.ntmps212 ?_
 have W:=trivial
 repeat' first|refine we ?_|(refine sq (fun hc=>?_) (fun hc=>?_)<;>try exact hc.elim)|fail
 rw [qJ]
 refine aDf (fun J=>⟨[.undef,.sl .view 1 (ss.map (bP .view)),.undef,.ptr 0 0 0 0,.undef,.ptr 1 0 0 0,.ptr 2 0 0 0,dv J 12 (.str []),dv J 13 (.str ([108,111,111,107,32]++tx++[32]++i8)),.ptr 5 0 0 0,.undef,.undef,.undef,.undef,.undef,.undef,.undef,.undef,.undef,.undef,.undef,.undef,.undef,.undef,.undef,.undef,.undef,.undef,.undef,.undef,.undef,.undef,.undef,.undef,.undef,.undef,.undef,.undef,.undef,.undef,.undef,.undef,.undef,.undef,.undef,.undef,.undef,.undef,.undef,.undef,.undef,.undef,.undef,.undef,.undef,dv J 0 (.agg [.obj 3 1,.obj 4 1]),dv J 1 (.ptr 1 0 0 1),dv J 2 (.str tx),dv J 3 (.str ([108,111,111,107,32]++tx)),dv J 4 (.str ([108,111,111,107,32]++tx++[32])),dv J 5 (.sl .view 1 (ss.map (bP .view))),dv J 6 (.ptr 1 0 0 1),dv J 7 (.str tx),dv J 8 (.int .i64 cc),dv J 9 (.str i8),dv J 10 (.str ([108,111,111,107,32]++tx++[32]++i8)),.undef,.undef,.undef,.undef,.undef,.undef,.undef],[⟨true,true,2,0,[[.sl .view 4 (b.nodes.map (bB .view)),.sl .view 1 (b.opens.map dV)]]⟩,⟨true,true,2,0,[[.int .i64 4,.str tx]]⟩,⟨true,true,2,0,[if J 11=true then [.obj 3 1,.obj 4 1] else [.sl .own 4 [],.sl .own 1 []]]⟩,⟨true,false,4,1,b.nodes.map (bB .own)⟩,⟨true,false,1,1,b.opens.map dV⟩,⟨true,true,2,0,[[.obj 3 1,.obj 4 1]]⟩]⟩) (aH (by simp [dv,hx,z7l]) (by simp [dv,hx,z7l])) (by decide) ?_ ?_
 ·simp only [qY,and_true]
  refine ⟨⟨trivial,fun J h1 h2=>dM fun K hK=> ?_⟩,⟨trivial,fun J h1 h2=>dM fun K hK=> ?_⟩,⟨trivial,fun J h1 h2=>dM fun K hK=> ?_⟩,⟨trivial,fun J h1 h2=>dM fun K hK=> ?_⟩,⟨trivial,fun J h1 h2=>dM fun K hK=> ?_⟩,⟨trivial,fun J h1 h2=>dM fun K hK=> ?_⟩,⟨trivial,fun J h1 h2=>dM fun K hK=> ?_⟩,⟨trivial,fun J h1 h2=>dM fun K hK=> ?_⟩,⟨trivial,fun J h1 h2=>dM fun K hK=> ?_⟩,⟨trivial,fun J h1 h2=>dM fun K hK=> ?_⟩,⟨trivial,fun J h1 h2=>dM fun K hK=> ?_⟩,⟨trivial,fun J h1 h2=>dM fun K hK=> ?_⟩,⟨trivial,fun J h1 h2=>dM fun K hK=> ?_⟩,⟨trivial,fun J h1 h2=>dM fun K hK=> ?_⟩⟩
  all_goals simp [Region.binds] at h2
  all_goals first
   |(simp [-Bool.exists_bool,aop,dv,h1,h2,hx,z7l];refine ⟨_,(c4),hK _ (aH ?_ ?_)⟩<;>simp [dv,upd,h1,h2])
   |(simp [-Bool.exists_bool,aop,dv,h1,h2,hx,z7l];refine ⟨_,(c8),hK _ (aH ?_ ?_)⟩<;>simp [dv,upd,h1,h2])
   |(simp [-Bool.exists_bool,aop,dv,h1,h2,hx,z7l];refine ⟨?_,hK _ (aH ?_ ?_)⟩;(focus omega);all_goals simp [dv,upd,h1,h2])
   |(simp [-Bool.exists_bool,aop,dv,h1,h2,hx,z7l];refine hK _ (aH ?_ ?_)<;>simp [dv,upd,h1,h2])
 ·intro J hJ
  have hJs:J 0=true∧J 1=true∧J 2=true∧J 3=true∧J 4=true∧J 5=true∧J 6=true∧J 7=true∧J 8=true∧J 9=true∧J 10=true∧J 11=true∧J 12=true∧J 13=true:=⟨hJ 0 (by decide),hJ 1 (by decide),hJ 2 (by decide),hJ 3 (by decide),hJ 4 (by decide),hJ 5 (by decide),hJ 6 (by decide),hJ 7 (by decide),hJ 8 (by decide),hJ 9 (by decide),hJ 10 (by decide),hJ 11 (by decide),hJ 12 (by decide),hJ 13 (by decide)⟩
  simp only [dv,hJs,if_true]
  clear hJs hJ J
  have W:=trivial
  repeat' first|refine we ?_|(refine sq (fun hc=>?_) (fun hc=>?_)<;>try exact hc.elim)|fail
  all_goals (try (refine ⟨.inr rfl,?_⟩;simp [Hands,Tryz.results212]))
theorem bBz [aA Tryz.prog] [dY Tryz.prog] (b:aS) (ss:List dU) (x:fI) (hs:aI b≤274877906944) (hx:x.text.length≤268435456) (hl:ss.length≤1099511627776) (hr:∀x∈ss,x.rules.length≤1099511627776) (hco:∀n,0≤aT ss n∧aT ss n≤999) (hop:x.op=5):
  Ok Tryz.prog 212 [.agg (aL .view b),.sl .view 1 (ss.map (bP .view)),.agg (fU x)] (.tup [.agg (aL .own (bE b ss x).1),.str (bE b ss x).2.1,.str (bE b ss x).2.2]):=by
 have c1:=jH b hs
 have hn:b.nodes.length≤274877906944:=by simp only [aI,szL] at hs;omega
 obtain ⟨op,tx⟩:=x
 simp only at hx hop
 have c2:=mZ tx (by omega)
 have c3:=mE b tx (by omega)
 have c4:=nZ ss tx hl hr
 have c5:=eP tx (by omega)
 have c6:=gM (b.nodes.length:Int) 1 39
 have hcn:0≤aP b tx∧aP b tx≤(b.nodes.length:Int):=by
  unfold aP
  have:=List.length_filter_le (fun x:dA=>decide (x.name=tx)) b.nodes
  omega
 have hcc:=hco tx
 have c7:=fB (aP b tx) (by omega)
 have c8:=fB (aT ss tx) (by omega)
 have z7:=fF (aP b tx) (by omega) (by omega)
 have z8:=fF (aT ss tx) (by omega) (by omega)
 simp only [aL] at c1 c3
 clear hr hco
 simp only [bE,pJ,rZ,wT]
 generalize Lib.itoa (aP b tx)=i7 at *
 generalize Lib.itoa (aT ss tx)=i8 at *
 generalize aP b tx=cn at *
 generalize aT ss tx=cc at *
 subst hop
 rw [if_neg (by decide),if_neg (by decide),if_neg (by decide),if_neg (by decide),if_pos rfl]
 refine ent Tryz.mix Tryz.func212 Tryz.ntmps212 ?_
 have W:=trivial
 repeat' first|refine we ?_|(refine sq (fun hc=>?_) (fun hc=>?_)<;>try exact hc.elim)|fail
 all_goals (try (refine ⟨.inr rfl,?_⟩;simp [Hands,Tryz.results212]))
theorem aM6 [aA Tryz.prog] [dY Tryz.prog] (b:aS) (ss:List dU) (x:fI) (hs:aI b≤274877906944) (hx:x.text.length≤268435456) (hl:ss.length≤1099511627776) (hr:∀x∈ss,x.rules.length≤1099511627776) (hco:∀n,0≤aT ss n∧aT ss n≤999):
  Ok Tryz.prog 269 [.agg (aL .view b),.sl .view 1 (ss.map (bP .view)),.agg (fU x)] (.tup [.agg (aL .own (bE b ss x).1),.str (bE b ss x).2.1,.str (bE b ss x).2.2]):=by
 by_cases h1:x.op=1
 ·exact bBr b ss x hs hx hl hr hco h1
 by_cases h2:x.op=2
 ·exact bB8 b ss x hs hx hl hr hco h2
 by_cases h3:x.op=3
 ·exact bB0 b ss x hs hx hl hr hco h3
 by_cases h4:x.op=4
 ·exact bBk b ss x hs hx hl hr hco h4
 by_cases h5:x.op=5
 ·exact bBe b ss x hs hx hl hr hco h5
 exact bBh b ss x hs hx hl hr hco ⟨h1,h2,h3,h4,h5⟩
theorem aL4 [aA Tryz.prog] [dY Tryz.prog] (b:aS) (ss:List dU) (x:fI) (hs:aI b≤274877906944) (hx:x.text.length≤268435456) (hl:ss.length≤1099511627776) (hr:∀x∈ss,x.rules.length≤1099511627776) (hco:∀n,0≤aT ss n∧aT ss n≤999):
  Ok Tryz.prog 212 [.agg (aL .view b),.sl .view 1 (ss.map (bP .view)),.agg (fU x)] (.tup [.agg (aL .own (bE b ss x).1),.str (bE b ss x).2.1,.str (bE b ss x).2.2]):=by
 by_cases h1:x.op=1
 ·exact bA3 b ss x hs hx hl hr hco h1
 by_cases h2:x.op=2
 ·exact bAj b ss x hs hx hl hr hco h2
 by_cases h3:x.op=3
 ·exact bB1 b ss x hs hx hl hr hco h3
 by_cases h4:x.op=4
 ·exact bBo b ss x hs hx hl hr hco h4
 by_cases h5:x.op=5
 ·exact bBz b ss x hs hx hl hr hco h5
 exact bA9 b ss x hs hx hl hr hco ⟨h1,h2,h3,h4,h5⟩
theorem qV {α:Type} {f:α→List AV} {i j:Nat} (h:∀x,jW i j (f x)=f x):∀l:List α,lD i j (l.map f)=l.map f
 |[]=>rfl
 |x::l=>by simp only [List.map_cons,lD,h,qV h l]
@[simp] theorem bG1 (i j:Nat) (l:List Str):lD i j (l.map bU)=l.map bU:=qV (fun _=>rfl) l
@[simp] theorem bGs (i j:Nat) (l:List Int):lD i j (l.map dV)=l.map dV:=qV (fun _=>rfl) l
@[simp] theorem bGe (i j:Nat) (l:List fA):lD i j (l.map dI)=l.map dI:=qV (fun _=>rfl) l
@[simp] theorem bGi (i j:Nat) (l:List fI):lD i j (l.map fU)=l.map fU:=qV (fun _=>rfl) l
@[simp] theorem bGp (i j:Nat) (l:List uU):lD i j (l.map oW)=l.map oW:=qV (fun _=>rfl) l
@[simp] theorem bFu (i j:Nat) (l:List dU):lD i j (l.map (bP .view))=l.map (bP .view):=qV (fun _=>by simp) l
@[simp] theorem bF7 (i j:Nat) (l:List dA):lD i j (l.map (bB .view))=l.map (bB .view):=qV (fun _=>by simp) l
theorem aQ0 {t t':List AV} {o o':List aB} {v:Nat} {n0 p0 n1 p1 lg:List (List AV)} {o0 o1 o6:aB}
  (ho:o.take 10=[o0,o1,⟨true,false,4,1,n0⟩,⟨true,false,1,1,p0⟩,⟨true,true,2,0,[[.obj 7 1,.obj 8 1]]⟩,⟨true,false,1,v,lg⟩,o6,⟨true,false,4,1,n1⟩,⟨true,false,1,1,p1⟩,⟨true,true,2,0,[[.obj 7 1,.obj 8 1]]⟩])
  (ho':o'=[o0,o1,⟨true,false,4,1,n1⟩,⟨true,false,1,1,p1⟩,⟨true,true,2,0,[[.obj 2 1,.obj 3 1]]⟩,⟨true,false,1,v,lg⟩])
  (hf:(o0.rsw 2 7=o0∧o1.rsw 2 7=o1∧o6.rsw 2 7=o6)∧(o0.rsw 3 8=o0∧o1.rsw 3 8=o1∧o6.rsw 3 8=o6)) (hw:wk t t') (h1:wk (jW 2 7 t') t') (h3:wk (jW 3 8 t') t') (hc:fK 6 t'=true) (hc1:fK 10 t'=true) (hc0:dL 6 [o0,o1]=true) (hc2:dL 10 [o0,o1,o6]=true):gF ⟨t,o⟩ ⟨t',o'⟩:=by
 subst ho'
 obtain ⟨⟨a0,a1,a6⟩,b0,b1,b6⟩:=hf
 refine (aQ 10 ho hw hc1 (by simpa [dL,fK,closed,and_assoc] using hc2)).trans ?_
 refine (bR 2 7 rfl rfl ⟨rfl,rfl⟩ (by simp [a0,a1,a6];rfl) h1).trans ?_
 refine (bR 3 8 rfl rfl ⟨rfl,rfl⟩ (by simp [b0,b1,b6];rfl) h3).trans ?_
 refine aQ 6 (by simp) (iT _) hc ?_
 simpa [dL,fK,closed] using hc0
def nW (ss:List dU) (s:aS×Str×List Str) (x:fI):aS×Str×List Str:=
 ((bE s.1 ss x).1,s.2.1++(bE s.1 ss x).2.1,if (bE s.1 ss x).2.2=[] then s.2.2 else s.2.2++[(bE s.1 ss x).2.2])
def dE (b:aS) (ss:List dU) (l:List fI):aS×Str×List Str:=l.foldl (nW ss) (b,[],[])
theorem aDk {α:Type} (f:α→Nat):∀a b:List α,aC f (a++b)=aC f a+aC f b
 |[],b=>by simp [aC]
 |x::xs,b=>by simp only [List.cons_append,aC,aDk f xs b];omega
theorem aKl (b:aS) (ss:List dU) (x:fI) (hx:x.text.length≤268435456) (hco:∀n,0≤aT ss n∧aT ss n≤999) (hn:b.nodes.length≤274877906944):
  aI (bE b ss x).1≤aI b+x.text.length+1∧(bE b ss x).2.1.length≤x.text.length∧(bE b ss x).2.2.length≤x.text.length+30:=by
 have z7:=fF (aP b x.text) (by unfold aP;omega) (by
  unfold aP
  have:=List.length_filter_le (fun y:dA=>decide (y.name=x.text)) b.nodes
  omega)
 have hc:=hco x.text
 have z8:=fF (aT ss x.text) (by omega) (by omega)
 unfold bE
 split
 ·refine ⟨by simp only;omega,by simp,by simp⟩
 ·split
  ·split
   ·refine ⟨?_,by simp,by simp⟩
    simp only [aI,szL,List.length_append,aDk,aC,dW,List.length_cons,List.length_nil]
    omega
   ·simp only [List.length_nil];omega
  ·split
   ·refine ⟨by simp only;omega,by simp,?_⟩
    simp only [List.length_append,pJ,List.length_cons,List.length_nil];omega
   ·split
    ·refine ⟨by simp only;omega,by simp,?_⟩
     simp only [List.length_append,rZ,List.length_cons,List.length_nil];omega
    ·split
     ·refine ⟨by simp only;omega,by simp,?_⟩
      simp only [List.length_append,wT,List.length_cons,List.length_nil];omega
     ·simp only [List.length_nil];omega
def kC (b:aS) (ss:List dU) (l:List fI) (k:Nat):aS×Str×List Str:=dE b ss (l.take k)
theorem aDu (b:aS) (ss:List dU) (l:List fI) (k:Nat) (h:k < l.length):kC b ss l (k+1)=nW ss (kC b ss l k) l[k]:=by
 unfold kC dE
 rw [List.take_succ_eq_append_getElem h,List.foldl_append]
 rfl
theorem vJ (N:Nat) (b:aS) (ss:List dU) (l:List fI) (hN:N≤268435456) (hl:l.length≤6) (hx:∀x∈l,x.text.length≤N) (hco:∀n,0≤aT ss n∧aT ss n≤999) (hb:aI b≤68719476736):
  ∀k,k≤l.length→aI (kC b ss l k).1≤aI b+k * (N+1)∧(kC b ss l k).2.1.length≤k * N∧(kC b ss l k).2.2.length≤k∧aC cB (kC b ss l k).2.2≤k * (N+30)
 |0,_=>by simp [kC,dE,aC]
 |k+1,h=>by
  obtain ⟨h1,h2,h3,h4⟩:=vJ N b ss l hN hl hx hco hb k (by omega)
  rw [aDu b ss l k (by omega)]
  have hxk:=hx _ (List.getElem_mem (show k < l.length by omega))
  have hkN:k * (N+1)≤6 * (268435456+1):=Nat.mul_le_mul (by omega) (by omega)
  have hn:(kC b ss l k).1.nodes.length≤274877906944:=by simp only [aI,szL] at h1 hb;omega
  obtain ⟨z1,z2,z3⟩:=aKl (kC b ss l k).1 ss l[k] (by omega) hco hn
  generalize kC b ss l k=g at *
  have e1:(k+1) * (N+1)=k * (N+1)+(N+1):=by rw [Nat.add_mul];omega
  have e2:(k+1) * N=k * N+N:=by rw [Nat.add_mul];omega
  have e3:(k+1) * (N+30)=k * (N+30)+(N+30):=by rw [Nat.add_mul];omega
  rw [e1,e2,e3]
  refine ⟨?_,?_,?_,?_⟩
  ·simp only [nW];omega
  ·simp only [nW,List.length_append];omega
  ·simp only [nW]
   split
   ·omega
   ·simp only [List.length_append,List.length_cons,List.length_nil];omega
  ·simp only [nW]
   split
   ·omega
   ·simp only [aDk,aC,cB];omega
theorem aNj {t t':List AV} {o o':List aB} {v u:Nat} {n0 p0 n1 p1 lg:List (List AV)} {o0 o1:aB}
  (ho:o.take 9=[o0,o1,⟨true,false,4,1,n0⟩,⟨true,false,1,1,p0⟩,⟨true,true,2,0,[[.obj 7 1,.obj 8 1]]⟩,⟨true,false,1,v,lg⟩,⟨true,true,2,u,[[.obj 7 1,.obj 8 1]]⟩,⟨true,false,4,1,n1⟩,⟨true,false,1,1,p1⟩])
  (ho':o'=[o0,o1,⟨true,false,4,1,n1⟩,⟨true,false,1,1,p1⟩,⟨true,true,2,0,[[.obj 2 1,.obj 3 1]]⟩,⟨true,false,1,v,lg⟩])
  (hf:(o0.rsw 2 7=o0∧o1.rsw 2 7=o1)∧(o0.rsw 3 8=o0∧o1.rsw 3 8=o1)) (hw:wk t t') (h1:wk (jW 2 7 t') t') (h3:wk (jW 3 8 t') t') (hc:fK 6 t'=true) (hc1:fK 9 t'=true) (hc0:dL 6 [o0,o1]=true) (hc2:dL 9 [o0,o1]=true):gF ⟨t,o⟩ ⟨t',o'⟩:=by
 subst ho'
 obtain ⟨⟨a0,a1⟩,b0,b1⟩:=hf
 refine (aQ 9 ho hw hc1 (by simpa [dL,fK,closed,and_assoc] using hc2)).trans ?_
 refine (bR 2 7 rfl rfl ⟨rfl,rfl⟩ (by simp [a0,a1];rfl) h1).trans ?_
 refine (bR 3 8 rfl rfl ⟨rfl,rfl⟩ (by simp [b0,b1];rfl) h3).trans ?_
 refine aQ 6 (by simp) (iT _) hc ?_
 simpa [dL,fK,closed] using hc0
theorem aIr [aA Tryz.prog] [dY Tryz.prog] (b:aS) (ss:List dU) (l:List fI) (hb:aI b≤68719476736) (h6:l.length≤6) (hx:∀x∈l,x.text.length≤268435456) (hl:ss.length≤1099511627776) (hr:∀x∈ss,x.rules.length≤1099511627776) (hco:∀n,0≤aT ss n∧aT ss n≤999):
  Ok Tryz.prog 224 [.agg (aL .view b),.sl .view 1 (ss.map (bP .view)),.sl .view 2 (l.map fU)] (.tup [.agg (aL .own (dE b ss l).1),.str (dE b ss l).2.1,.sl .own 1 ((dE b ss l).2.2.map bU)]):=by
 have c0:=jG b (by omega)
 have hsz:=vJ 268435456 b ss l (by omega) h6 hx hco hb
 have hsuc:=aDu b ss l
 have hend:kC b ss l l.length=dE b ss l:=by simp [kC]
 have hz0:kC b ss l 0=(b,[],[]):=rfl
 rw [←hend]
 clear hend
 have cR:=fun (b:aS) (x:fI) (h1:aI b≤274877906944) (h2:x.text.length≤268435456)=>aM6 b ss x h1 h2 hl hr hco
 clear hr hco
 generalize kC b ss l=G at *
 simp only [aL] at c0
 refine ent Tryz.mix Tryz.func224 Tryz.ntmps224 ?_
 have W:=trivial
 repeat' first|refine wl ?_|(refine sq (fun hc=>?_) (fun hc=>?_)<;>try exact hc.elim)|fail
 refine aM (ι:={q:Nat×Nat // q.1≤l.length∧1≤q.2}) (fun t o i=>⟨aO t [(22,.int .i64 i.1.1),(10,.str (G i.1.1).2.1),(11,.obj 5 i.1.2),(13,.undef),(14,.undef),(15,.undef),(16,.undef),(18,.undef)],o.take 2++[⟨true,false,4,1,(G i.1.1).1.nodes.map (bB .own)⟩,⟨true,false,1,1,(G i.1.1).1.opens.map dV⟩,⟨true,true,2,0,[[.obj 2 1,.obj 3 1]]⟩,⟨true,false,1,i.1.2,(G i.1.1).2.2.map bU⟩]⟩)
  (fun i=>l.length - i.1.1) ⟨(0,1),by simp,by simp⟩ (aH (by simp [hz0]) (by simp [hz0])) ?_
 rintro ⟨⟨k,v⟩,hk,hv⟩ K1 hK1
 simp only at hk hv
 simp only [aO,List.set_cons_succ,List.set_cons_zero,List.take_succ_cons,List.take_zero,List.cons_append,List.nil_append] at hK1⊢
 have hk1:IntKind.i64.wrap ((k:Int)+1)=((k+1:Nat):Int):=by rw [wrap64]<;>omega
 by_cases hlt:k < l.length
 ·have hg:=List.getElem?_eq_getElem hlt
  have hxk:=hx _ (List.getElem_mem hlt)
  obtain ⟨s1,s2,s3,_⟩:=hsz k hk
  have hk6:k * (268435456+1)≤6 * (268435456+1):=Nat.mul_le_mul_right _ (by omega)
  have hk7:k * 268435456≤6 * 268435456:=Nat.mul_le_mul_right _ (by omega)
  have hnext:=hsuc k hlt
  have cL:=cR (G k).1 l[k] (by omega) hxk
  have ht1:=(hsz (k+1) (by omega)).2.1
  obtain ⟨n1,p1,mw,ms,hR⟩:∃n1 p1 mw ms,bE (G k).1 ss l[k]=(⟨n1,p1⟩,mw,ms):=⟨_,_,_,_,rfl⟩
  rw [hR] at cL
  simp only [nW,hR] at hnext
  rw [hnext] at ht1
  clear hR cR hsz hsuc hx
  generalize hGk:G k=g at *
  obtain ⟨⟨n0,p0⟩,w0,lg0⟩:=g
  simp only at s1 s2 s3 ht1 hnext cL
  have hwl:w0.length+mw.length≤1610612736:=by
   rw [List.length_append] at ht1
   have:(k+1) * 268435456≤6 * 268435456:=Nat.mul_le_mul_right _ (by omega)
   omega
  have hlg:lg0.length≤6:=by omega
  clear s1 s2 s3 ht1
  simp only [aL,fU] at cL
  by_cases hms:ms=[]
  ·rw [if_pos hms] at hnext
   subst hms
   have W:=And.intro hk1 (And.intro hg hwl)
   have V:=hlt
   repeat' first|refine wl ?_|(refine sq (fun hc=>?_) (fun hc=>?_)<;>try exact hc.elim)|fail
   all_goals refine hK1 _ ⟨(k+1,v),by simp only;omega,by simp only;omega⟩ ?_ (by simp only;omega)
   all_goals exact aQ0 rfl (by simp [hnext]) (by simp) (by simp [hnext]) (by simp) (by simp) (by simp) (by simp) (by simp [dL]) (by simp [dL])
  ·rw [if_neg hms] at hnext
   have hmb:ms.isEmpty=false:=by cases ms with|nil=>exact absurd rfl hms|cons _ _=>rfl
   have W:=And.intro hk1 (And.intro hg (And.intro hwl (And.intro hms (And.intro hmb hlg))))
   have V:=hlt
   repeat' first|refine wl ?_|(refine sq (fun hc=>?_) (fun hc=>?_)<;>try exact hc.elim)|fail
   all_goals refine hK1 _ ⟨(k+1,v+1),by simp only;omega,by simp only;omega⟩ ?_ (by simp only;omega)
   all_goals exact aQ0 rfl (by simp [hnext]) (by simp) (by simp [hnext]) (by simp) (by simp) (by simp) (by simp) (by simp [dL]) (by simp [dL])
 ·have hkl:k=l.length:=by omega
  subst hkl
  have W:=hk1
  repeat' first|refine wl ?_|(refine sq (fun hc=>?_) (fun hc=>?_)<;>try exact hc.elim)|fail
  all_goals (try (refine ⟨.inr rfl,?_⟩;simp [Hands,Tryz.results224]))
theorem aAl [aA Tryz.prog] [dY Tryz.prog] (b:aS) (ss:List dU) (l:List fI) (hb:aI b≤68719476736) (h6:l.length≤6) (hx:∀x∈l,x.text.length≤268435456) (hl:ss.length≤1099511627776) (hr:∀x∈ss,x.rules.length≤1099511627776) (hco:∀n,0≤aT ss n∧aT ss n≤999):
  Ok Tryz.prog 151 [.agg (aL .view b),.sl .view 1 (ss.map (bP .view)),.sl .view 2 (l.map fU)] (.tup [.agg (aL .own (dE b ss l).1),.str (dE b ss l).2.1,.sl .own 1 ((dE b ss l).2.2.map bU)]):=by
 have c0:=jH b (by omega)
 have hsz:=vJ 268435456 b ss l (by omega) h6 hx hco hb
 have hsuc:=aDu b ss l
 have hend:kC b ss l l.length=dE b ss l:=by simp [kC]
 have hz0:kC b ss l 0=(b,[],[]):=rfl
 rw [←hend]
 clear hend
 have cR:=fun (b:aS) (x:fI) (h1:aI b≤274877906944) (h2:x.text.length≤268435456)=>aL4 b ss x h1 h2 hl hr hco
 clear hr hco
 generalize kC b ss l=G at *
 simp only [aL] at c0
 refine ent Tryz.mix Tryz.func151 Tryz.ntmps151 ?_
 have W:=trivial
 repeat' first|refine wl ?_|(refine sq (fun hc=>?_) (fun hc=>?_)<;>try exact hc.elim)|fail
 refine aM (ι:={q:Nat×Nat // q.1≤l.length∧1≤q.2}) (fun t o i=>⟨aO t [(12,.int .i64 i.1.1),(10,.str (G i.1.1).2.1),(11,.obj 5 i.1.2),(13,.undef),(13,.undef),(14,.undef),(15,.undef),(17,.undef)],o.take 2++[⟨true,false,4,1,(G i.1.1).1.nodes.map (bB .own)⟩,⟨true,false,1,1,(G i.1.1).1.opens.map dV⟩,⟨true,true,2,0,[[.obj 2 1,.obj 3 1]]⟩,⟨true,false,1,i.1.2,(G i.1.1).2.2.map bU⟩]⟩)
  (fun i=>l.length - i.1.1) ⟨(0,1),by simp,by simp⟩ (aH (by simp [hz0]) (by simp [hz0])) ?_
 rintro ⟨⟨k,v⟩,hk,hv⟩ K1 hK1
 simp only at hk hv
 simp only [aO,List.set_cons_succ,List.set_cons_zero,List.take_succ_cons,List.take_zero,List.cons_append,List.nil_append] at hK1⊢
 have hk1:IntKind.i64.wrap ((k:Int)+1)=((k+1:Nat):Int):=by rw [wrap64]<;>omega
 by_cases hlt:k < l.length
 ·have hg:=List.getElem?_eq_getElem hlt
  have hxk:=hx _ (List.getElem_mem hlt)
  obtain ⟨s1,s2,s3,_⟩:=hsz k hk
  have hk6:k * (268435456+1)≤6 * (268435456+1):=Nat.mul_le_mul_right _ (by omega)
  have hk7:k * 268435456≤6 * 268435456:=Nat.mul_le_mul_right _ (by omega)
  have hnext:=hsuc k hlt
  have cL:=cR (G k).1 l[k] (by omega) hxk
  have ht1:=(hsz (k+1) (by omega)).2.1
  obtain ⟨n1,p1,mw,ms,hR⟩:∃n1 p1 mw ms,bE (G k).1 ss l[k]=(⟨n1,p1⟩,mw,ms):=⟨_,_,_,_,rfl⟩
  rw [hR] at cL
  simp only [nW,hR] at hnext
  rw [hnext] at ht1
  clear hR cR hsz hsuc hx
  generalize hGk:G k=g at *
  obtain ⟨⟨n0,p0⟩,w0,lg0⟩:=g
  simp only at s1 s2 s3 ht1 hnext cL
  have hwl:w0.length+mw.length≤1610612736:=by
   rw [List.length_append] at ht1
   have:(k+1) * 268435456≤6 * 268435456:=Nat.mul_le_mul_right _ (by omega)
   omega
  have hlg:lg0.length≤6:=by omega
  clear s1 s2 s3 ht1
  simp only [aL,fU] at cL
  by_cases hms:ms=[]
  ·rw [if_pos hms] at hnext
   subst hms
   have W:=And.intro hk1 (And.intro hg hwl)
   have V:=hlt
   repeat' first|refine wl ?_|(refine sq (fun hc=>?_) (fun hc=>?_)<;>try exact hc.elim)|fail
   all_goals refine hK1 _ ⟨(k+1,v),by simp only;omega,by simp only;omega⟩ ?_ (by simp only;omega)
   all_goals exact aNj rfl (by simp [hnext]) (by simp) (by simp [hnext]) (by simp) (by simp) (by simp) (by simp) (by simp [dL]) (by simp [dL])
  ·rw [if_neg hms] at hnext
   have hmb:ms.isEmpty=false:=by cases ms with|nil=>exact absurd rfl hms|cons _ _=>rfl
   have W:=And.intro hk1 (And.intro hg (And.intro hwl (And.intro hms (And.intro hmb hlg))))
   have V:=hlt
   repeat' first|refine wl ?_|(refine sq (fun hc=>?_) (fun hc=>?_)<;>try exact hc.elim)|fail
   all_goals refine hK1 _ ⟨(k+1,v+1),by simp only;omega,by simp only;omega⟩ ?_ (by simp only;omega)
   all_goals exact aNj rfl (by simp [hnext]) (by simp) (by simp [hnext]) (by simp) (by simp) (by simp) (by simp) (by simp [dL]) (by simp [dL])
 ·have hkl:k=l.length:=by omega
  subst hkl
  have W:=hk1
  repeat' first|refine wl ?_|(refine sq (fun hc=>?_) (fun hc=>?_)<;>try exact hc.elim)|fail
  all_goals (try (refine ⟨.inr rfl,?_⟩;simp [Hands,Tryz.results151]))
theorem jZ [aA Tryz.prog] (a:aJ) (hs:aD a≤274877906944):Ok Tryz.prog 34 [.agg (aG .view a)] (.agg (aG .own a)):=by
 simp only [aD] at hs
 have c1:=aOq a.policy (by omega)
 have c2:=aPb a.queue (by omega)
 have c3:=jG a.builder (by omega)
 simp only [szL] at hs
 simp only [bJ] at c1
 simp only [aL] at c3
 refine ent Tryz.mix Tryz.func34 Tryz.ntmps34 ?_
 have W:=trivial
 repeat' first|refine we ?_|(refine sq (fun hc=>?_) (fun hc=>?_)<;>try exact hc.elim)|fail
 all_goals (try (refine ⟨.inr rfl,?_⟩;simp [Hands,Tryz.results34]))
theorem iO [aA Tryz.prog] (a:aJ) (hs:aD a≤274877906944):Ok Tryz.prog 62 [.agg (aG .view a)] (.agg (aG .own a)):=by
 simp only [aD] at hs
 have c1:=aPm a.policy (by omega)
 have c2:=aOp a.queue (by omega)
 have c3:=jH a.builder (by omega)
 simp only [szL] at hs
 simp only [bJ] at c1
 simp only [aL] at c3
 refine ent Tryz.mix Tryz.func62 Tryz.ntmps62 ?_
 have W:=trivial
 repeat' first|refine we ?_|(refine sq (fun hc=>?_) (fun hc=>?_)<;>try exact hc.elim)|fail
 all_goals (try (refine ⟨.inr rfl,?_⟩;simp [Hands,Tryz.results62]))
end Go.Proofs.YtlnblmmohpcceaaGreatDoor
