/- Proved here: steps towards the statement of this claim. No condition. -/
import Derived.Test.YtlnblmmohpcceaaGreatDoorZQRLib
set_option linter.all false
set_option maxRecDepth 4000
set_option maxHeartbeats 4000000
namespace Go.Proofs.YtlnblmmohpcceaaGreatDoor
open Go.Aw Proofs.Tryz List IntKind
theorem Q5 [aD prog] [fV prog] (b:aW) (ss:List fE) (x:iG) (hs:aH b<=274877906944) (hx:x.text.length<=268435456) (hl:ss.length<=1099511627776) (hr:∀x∈ss,x.rules.length<=1099511627776) (sN:∀n,0<=aY ss n/\aY ss n<=999) (hop:x.op=3):
  Ok prog 212 [.agg (aN .view b),.sl .view 1 (ss.map (dI .view)),.agg (jL x)] (.gV [.agg (aN .own (bM b ss x).1),.str (bM b ss x).2.1,.str (bM b ss x).2.2]):=by
 have c1:=jC b hs
 have hn:b.nodes.length<=274877906944:=by simp only [aH,bP] at hs;omega
 obtain ⟨op,tx⟩:=x
 simp only at hx hop
 have c2:=nH tx (by omega)
 have c3:=mG b tx (by omega)
 have c4:=oL ss tx hl hr
 have c5:=eP tx (by omega)
 have c6:=iA (b.nodes.length:Int) 1 39
 have hcn:0<=aR b tx/\aR b tx<=(b.nodes.length:Int):=by
  unfold aR
  have:=length_filter_le (fun x:eY=>decide (x.name=tx)) b.nodes
  omega
 have OZ:=sN tx
 have c7:=eT (aR b tx) (by omega)
 have c8:=eT (aY ss tx) (by omega)
 have z7:=gH (aR b tx) (by omega) (by omega)
 have z8:=gH (aY ss tx) (by omega) (by omega)
 simp only [aN] at c1 c3
 clear hr sN
 simp only [bM,uK,Af,GX]
 generalize Lib.itoa (aR b tx)=i7 at *
 generalize Lib.itoa (aY ss tx)=i8 at *
 generalize aR b tx=cn at *
 generalize aY ss tx=cc at *
 subst hop
 rw [if_neg (by decide),if_neg (by decide),if_pos rfl]
 clear c2 c4 c5 c6 c8 z8 OZ hl
 have Jm:i7.length<=40:=by omega
 refine rU aAc [10] func212 ntmps212 ?_
 have W:=trivial
 repeat' first|refine we ?_|(refine sq ?_ ?_<;>intro hc<;>try exact hc.elim)|fail
 rw [uL]
 refine Gv (fun J=>⟨[.undef,.sl .view 1 (ss.map (dI .view)),.undef,.ptr 0 0 0 0,.undef,.ptr 1 0 0 0,.ptr 2 0 0 0,dv J 12 (.str []),dv J 13 (.str ([99,111,117,110,116,32]++tx++[32]++i7)),.ptr 5 0 0 0,.undef,.undef,.undef,.undef,.undef,.undef,.undef,.undef,.undef,.undef,.undef,.undef,.undef,.undef,.undef,.undef,.undef,.undef,.undef,.undef,.undef,.undef,.undef,.undef,.undef,.undef,.undef,.undef,.undef,.undef,.undef,.undef,dv J 0 (.agg [.obj 3 1,.obj 4 1]),dv J 1 (.ptr 1 0 0 1),dv J 2 (.str tx),dv J 3 (.str ([99,111,117,110,116,32]++tx)),dv J 4 (.str ([99,111,117,110,116,32]++tx++[32])),dv J 5 (.agg [.sl .view 4 (b.nodes.map (bX .view)),.sl .view 1 (b.opens.map iX)]),dv J 6 (.ptr 1 0 0 1),dv J 7 (.str tx),dv J 8 (.int .i64 cn),dv J 9 (.str i7),dv J 10 (.str ([99,111,117,110,116,32]++tx++[32]++i7)),.undef,.undef,.undef,.undef,.undef,.undef,.undef,.undef,.undef,.undef,.undef,.undef,.undef,.undef,.undef,.undef,.undef,.undef,.undef,.undef],[⟨true,true,2,0,[[.sl .view 4 (b.nodes.map (bX .view)),.sl .view 1 (b.opens.map iX)]]⟩,⟨true,true,2,0,[[.int .i64 3,.str tx]]⟩,⟨true,true,2,0,[if J 11=true then [.obj 3 1,.obj 4 1] else [.sl .own 4 [],.sl .own 1 []]]⟩,⟨true,false,4,1,b.nodes.map (bX .own)⟩,⟨true,false,1,1,b.opens.map iX⟩,⟨true,true,2,0,[[.obj 3 1,.obj 4 1]]⟩]⟩) (aI (by simp [dv,hx,Jm]) (by simp [dv,hx,Jm])) (by decide) ?_ ?_
 ·simp only [tN,and_true]
  refine ⟨⟨trivial,fun J h1 h2=>gB fun K hK=> ?_⟩,⟨trivial,fun J h1 h2=>gB fun K hK=> ?_⟩,⟨trivial,fun J h1 h2=>gB fun K hK=> ?_⟩,⟨trivial,fun J h1 h2=>gB fun K hK=> ?_⟩,⟨trivial,fun J h1 h2=>gB fun K hK=> ?_⟩,⟨trivial,fun J h1 h2=>gB fun K hK=> ?_⟩,⟨trivial,fun J h1 h2=>gB fun K hK=> ?_⟩,⟨trivial,fun J h1 h2=>gB fun K hK=> ?_⟩,⟨trivial,fun J h1 h2=>gB fun K hK=> ?_⟩,⟨trivial,fun J h1 h2=>gB fun K hK=> ?_⟩,⟨trivial,fun J h1 h2=>gB fun K hK=> ?_⟩,⟨trivial,fun J h1 h2=>gB fun K hK=> ?_⟩,⟨trivial,fun J h1 h2=>gB fun K hK=> ?_⟩,⟨trivial,fun J h1 h2=>gB fun K hK=> ?_⟩⟩
  all_goals simp [Region.binds] at h2
  all_goals first
   |(simp [-Bool.exists_bool,nZ,dv,h1,h2,hx,Jm];refine ⟨_,(c3),hK _ (aI ?_ ?_)⟩<;>simp [dv,qL,h1,h2])
   |(simp [-Bool.exists_bool,nZ,dv,h1,h2,hx,Jm];refine ⟨_,(c7),hK _ (aI ?_ ?_)⟩<;>simp [dv,qL,h1,h2])
   |(simp [-Bool.exists_bool,nZ,dv,h1,h2,hx,Jm];refine ⟨?_,hK _ (aI ?_ ?_)⟩;(focus omega);all_goals simp [dv,qL,h1,h2])
   |(simp [-Bool.exists_bool,nZ,dv,h1,h2,hx,Jm];refine hK _ (aI ?_ ?_)<;>simp [dv,qL,h1,h2])
 ·intro J hJ
  have O6:J 0=true/\J 1=true/\J 2=true/\J 3=true/\J 4=true/\J 5=true/\J 6=true/\J 7=true/\J 8=true/\J 9=true/\J 10=true/\J 11=true/\J 12=true/\J 13=true:=⟨hJ 0 (by decide),hJ 1 (by decide),hJ 2 (by decide),hJ 3 (by decide),hJ 4 (by decide),hJ 5 (by decide),hJ 6 (by decide),hJ 7 (by decide),hJ 8 (by decide),hJ 9 (by decide),hJ 10 (by decide),hJ 11 (by decide),hJ 12 (by decide),hJ 13 (by decide)⟩
  simp only [dv,O6,if_true]
  clear O6 hJ J
  have W:=trivial
  repeat' first|refine we ?_|(refine sq ?_ ?_<;>intro hc<;>try exact hc.elim)|fail
  all_goals try(refine ⟨.inr rfl,?_⟩;simp [aB,results212])
theorem Q6 [aD prog] [fV prog] (b:aW) (ss:List fE) (x:iG) (hs:aH b<=274877906944) (hx:x.text.length<=268435456) (hl:ss.length<=1099511627776) (hr:∀x∈ss,x.rules.length<=1099511627776) (sN:∀n,0<=aY ss n/\aY ss n<=999) (hop:x.op=4):
  Ok prog 212 [.agg (aN .view b),.sl .view 1 (ss.map (dI .view)),.agg (jL x)] (.gV [.agg (aN .own (bM b ss x).1),.str (bM b ss x).2.1,.str (bM b ss x).2.2]):=by
 have c1:=jC b hs
 have hn:b.nodes.length<=274877906944:=by simp only [aH,bP] at hs;omega
 obtain ⟨op,tx⟩:=x
 simp only at hx hop
 have c2:=nH tx (by omega)
 have c3:=mG b tx (by omega)
 have c4:=oL ss tx hl hr
 have c5:=eP tx (by omega)
 have c6:=iA (b.nodes.length:Int) 1 39
 have hcn:0<=aR b tx/\aR b tx<=(b.nodes.length:Int):=by
  unfold aR
  have:=length_filter_le (fun x:eY=>decide (x.name=tx)) b.nodes
  omega
 have OZ:=sN tx
 have c7:=eT (aR b tx) (by omega)
 have c8:=eT (aY ss tx) (by omega)
 have z7:=gH (aR b tx) (by omega) (by omega)
 have z8:=gH (aY ss tx) (by omega) (by omega)
 simp only [aN] at c1 c3
 clear hr sN
 simp only [bM,uK,Af,GX]
 generalize Lib.itoa (aR b tx)=i7 at *
 generalize Lib.itoa (aY ss tx)=i8 at *
 generalize aR b tx=cn at *
 generalize aY ss tx=cc at *
 subst hop
 rw [if_neg (by decide),if_neg (by decide),if_neg (by decide),if_pos rfl]
 clear c2 c3 c5 c6 c7 z7 hcn
 have Jm:i8.length<=40:=by omega
 refine rU aAc [12] func212 ntmps212 ?_
 have W:=trivial
 repeat' first|refine we ?_|(refine sq ?_ ?_<;>intro hc<;>try exact hc.elim)|fail
 rw [uL]
 refine Gv (fun J=>⟨[.undef,.sl .view 1 (ss.map (dI .view)),.undef,.ptr 0 0 0 0,.undef,.ptr 1 0 0 0,.ptr 2 0 0 0,dv J 12 (.str []),dv J 13 (.str ([108,111,111,107,32]++tx++[32]++i8)),.ptr 5 0 0 0,.undef,.undef,.undef,.undef,.undef,.undef,.undef,.undef,.undef,.undef,.undef,.undef,.undef,.undef,.undef,.undef,.undef,.undef,.undef,.undef,.undef,.undef,.undef,.undef,.undef,.undef,.undef,.undef,.undef,.undef,.undef,.undef,.undef,.undef,.undef,.undef,.undef,.undef,.undef,.undef,.undef,.undef,.undef,.undef,.undef,dv J 0 (.agg [.obj 3 1,.obj 4 1]),dv J 1 (.ptr 1 0 0 1),dv J 2 (.str tx),dv J 3 (.str ([108,111,111,107,32]++tx)),dv J 4 (.str ([108,111,111,107,32]++tx++[32])),dv J 5 (.sl .view 1 (ss.map (dI .view))),dv J 6 (.ptr 1 0 0 1),dv J 7 (.str tx),dv J 8 (.int .i64 cc),dv J 9 (.str i8),dv J 10 (.str ([108,111,111,107,32]++tx++[32]++i8)),.undef,.undef,.undef,.undef,.undef,.undef,.undef],[⟨true,true,2,0,[[.sl .view 4 (b.nodes.map (bX .view)),.sl .view 1 (b.opens.map iX)]]⟩,⟨true,true,2,0,[[.int .i64 4,.str tx]]⟩,⟨true,true,2,0,[if J 11=true then [.obj 3 1,.obj 4 1] else [.sl .own 4 [],.sl .own 1 []]]⟩,⟨true,false,4,1,b.nodes.map (bX .own)⟩,⟨true,false,1,1,b.opens.map iX⟩,⟨true,true,2,0,[[.obj 3 1,.obj 4 1]]⟩]⟩) (aI (by simp [dv,hx,Jm]) (by simp [dv,hx,Jm])) (by decide) ?_ ?_
 ·simp only [tN,and_true]
  refine ⟨⟨trivial,fun J h1 h2=>gB fun K hK=> ?_⟩,⟨trivial,fun J h1 h2=>gB fun K hK=> ?_⟩,⟨trivial,fun J h1 h2=>gB fun K hK=> ?_⟩,⟨trivial,fun J h1 h2=>gB fun K hK=> ?_⟩,⟨trivial,fun J h1 h2=>gB fun K hK=> ?_⟩,⟨trivial,fun J h1 h2=>gB fun K hK=> ?_⟩,⟨trivial,fun J h1 h2=>gB fun K hK=> ?_⟩,⟨trivial,fun J h1 h2=>gB fun K hK=> ?_⟩,⟨trivial,fun J h1 h2=>gB fun K hK=> ?_⟩,⟨trivial,fun J h1 h2=>gB fun K hK=> ?_⟩,⟨trivial,fun J h1 h2=>gB fun K hK=> ?_⟩,⟨trivial,fun J h1 h2=>gB fun K hK=> ?_⟩,⟨trivial,fun J h1 h2=>gB fun K hK=> ?_⟩,⟨trivial,fun J h1 h2=>gB fun K hK=> ?_⟩⟩
  all_goals simp [Region.binds] at h2
  all_goals first
   |(simp [-Bool.exists_bool,nZ,dv,h1,h2,hx,Jm];refine ⟨_,(c4),hK _ (aI ?_ ?_)⟩<;>simp [dv,qL,h1,h2])
   |(simp [-Bool.exists_bool,nZ,dv,h1,h2,hx,Jm];refine ⟨_,(c8),hK _ (aI ?_ ?_)⟩<;>simp [dv,qL,h1,h2])
   |(simp [-Bool.exists_bool,nZ,dv,h1,h2,hx,Jm];refine ⟨?_,hK _ (aI ?_ ?_)⟩;(focus omega);all_goals simp [dv,qL,h1,h2])
   |(simp [-Bool.exists_bool,nZ,dv,h1,h2,hx,Jm];refine hK _ (aI ?_ ?_)<;>simp [dv,qL,h1,h2])
 ·intro J hJ
  have O6:J 0=true/\J 1=true/\J 2=true/\J 3=true/\J 4=true/\J 5=true/\J 6=true/\J 7=true/\J 8=true/\J 9=true/\J 10=true/\J 11=true/\J 12=true/\J 13=true:=⟨hJ 0 (by decide),hJ 1 (by decide),hJ 2 (by decide),hJ 3 (by decide),hJ 4 (by decide),hJ 5 (by decide),hJ 6 (by decide),hJ 7 (by decide),hJ 8 (by decide),hJ 9 (by decide),hJ 10 (by decide),hJ 11 (by decide),hJ 12 (by decide),hJ 13 (by decide)⟩
  simp only [dv,O6,if_true]
  clear O6 hJ J
  have W:=trivial
  repeat' first|refine we ?_|(refine sq ?_ ?_<;>intro hc<;>try exact hc.elim)|fail
  all_goals try(refine ⟨.inr rfl,?_⟩;simp [aB,results212])
theorem Q7 [aD prog] [fV prog] (b:aW) (ss:List fE) (x:iG) (hs:aH b<=274877906944) (hx:x.text.length<=268435456) (hl:ss.length<=1099511627776) (hr:∀x∈ss,x.rules.length<=1099511627776) (sN:∀n,0<=aY ss n/\aY ss n<=999) (hop:x.op=5):
  Ok prog 212 [.agg (aN .view b),.sl .view 1 (ss.map (dI .view)),.agg (jL x)] (.gV [.agg (aN .own (bM b ss x).1),.str (bM b ss x).2.1,.str (bM b ss x).2.2]):=by
 have c1:=jC b hs
 have hn:b.nodes.length<=274877906944:=by simp only [aH,bP] at hs;omega
 obtain ⟨op,tx⟩:=x
 simp only at hx hop
 have c2:=nH tx (by omega)
 have c3:=mG b tx (by omega)
 have c4:=oL ss tx hl hr
 have c5:=eP tx (by omega)
 have c6:=iA (b.nodes.length:Int) 1 39
 have hcn:0<=aR b tx/\aR b tx<=(b.nodes.length:Int):=by
  unfold aR
  have:=length_filter_le (fun x:eY=>decide (x.name=tx)) b.nodes
  omega
 have OZ:=sN tx
 have c7:=eT (aR b tx) (by omega)
 have c8:=eT (aY ss tx) (by omega)
 have z7:=gH (aR b tx) (by omega) (by omega)
 have z8:=gH (aY ss tx) (by omega) (by omega)
 simp only [aN] at c1 c3
 clear hr sN
 simp only [bM,uK,Af,GX]
 generalize Lib.itoa (aR b tx)=i7 at *
 generalize Lib.itoa (aY ss tx)=i8 at *
 generalize aR b tx=cn at *
 generalize aY ss tx=cc at *
 subst hop
 rw [if_neg (by decide),if_neg (by decide),if_neg (by decide),if_neg (by decide),if_pos rfl]
 refine bR aAc func212 ntmps212 ?_
 have W:=trivial
 repeat' first|refine we ?_|(refine sq ?_ ?_<;>intro hc<;>try exact hc.elim)|fail
 all_goals try(refine ⟨.inr rfl,?_⟩;simp [aB,results212])
theorem NP [aD prog] [fV prog] (b:aW) (ss:List fE) (x:iG) (hs:aH b<=274877906944) (hx:x.text.length<=268435456) (hl:ss.length<=1099511627776) (hr:∀x∈ss,x.rules.length<=1099511627776) (sN:∀n,0<=aY ss n/\aY ss n<=999):
  Ok prog 269 [.agg (aN .view b),.sl .view 1 (ss.map (dI .view)),.agg (jL x)] (.gV [.agg (aN .own (bM b ss x).1),.str (bM b ss x).2.1,.str (bM b ss x).2.2]):=by
 by_cases h1:x.op=1
 ·exact O1 b ss x hs hx hl hr sN h1
 by_cases h2:x.op=2
 ·exact O3 b ss x hs hx hl hr sN h2
 by_cases h3:x.op=3
 ·exact O5 b ss x hs hx hl hr sN h3
 by_cases h4:x.op=4
 ·exact O7 b ss x hs hx hl hr sN h4
 by_cases h5:x.op=5
 ·exact O8 b ss x hs hx hl hr sN h5
 exact O4 b ss x hs hx hl hr sN ⟨h1,h2,h3,h4,h5⟩
theorem NQ [aD prog] [fV prog] (b:aW) (ss:List fE) (x:iG) (hs:aH b<=274877906944) (hx:x.text.length<=268435456) (hl:ss.length<=1099511627776) (hr:∀x∈ss,x.rules.length<=1099511627776) (sN:∀n,0<=aY ss n/\aY ss n<=999):
  Ok prog 212 [.agg (aN .view b),.sl .view 1 (ss.map (dI .view)),.agg (jL x)] (.gV [.agg (aN .own (bM b ss x).1),.str (bM b ss x).2.1,.str (bM b ss x).2.2]):=by
 by_cases h1:x.op=1
 ·exact O9 b ss x hs hx hl hr sN h1
 by_cases h2:x.op=2
 ·exact Q0 b ss x hs hx hl hr sN h2
 by_cases h3:x.op=3
 ·exact Q5 b ss x hs hx hl hr sN h3
 by_cases h4:x.op=4
 ·exact Q6 b ss x hs hx hl hr sN h4
 by_cases h5:x.op=5
 ·exact Q7 b ss x hs hx hl hr sN h5
 exact Q3 b ss x hs hx hl hr sN ⟨h1,h2,h3,h4,h5⟩
theorem tO {α:Type} {f:α->List AV} {i j:Nat} (h:∀x,qI i j (f x)=f x):∀l:List α,sW i j (l.map f)=l.map f
 |[]=>rfl
 |x::l=>by simp only [map_cons,sW,h,tO h l]
@[simp] theorem aI4 (i j:Nat) (l:List bC):sW i j (l.map fF)=l.map fF:=tO (fun _=>rfl) l
@[simp] theorem aI5 (i j:Nat) (l:List Int):sW i j (l.map iX)=l.map iX:=tO (fun _=>rfl) l
@[simp] theorem aHg (i j:Nat) (l:List iU):sW i j (l.map fQ)=l.map fQ:=tO (fun _=>rfl) l
@[simp] theorem aHh (i j:Nat) (l:List iG):sW i j (l.map jL)=l.map jL:=tO (fun _=>rfl) l
@[simp] theorem aHi (i j:Nat) (l:List Cm):sW i j (l.map wI)=l.map wI:=tO (fun _=>rfl) l
@[simp] theorem aDy (i j:Nat) (l:List fE):sW i j (l.map (dI .view))=l.map (dI .view):=tO (fun _=>by simp) l
@[simp] theorem aFi (i j:Nat) (l:List eY):sW i j (l.map (bX .view))=l.map (bX .view):=tO (fun _=>by simp) l
theorem VP {t t':List AV} {o o':List aG} {v:Nat} {n0 p0 n1 p1 lg:List (List AV)} {o0 o1 o6:aG}
  (ho:o.take 10=[o0,o1,⟨true,false,4,1,n0⟩,⟨true,false,1,1,p0⟩,⟨true,true,2,0,[[.obj 7 1,.obj 8 1]]⟩,⟨true,false,1,v,lg⟩,o6,⟨true,false,4,1,n1⟩,⟨true,false,1,1,p1⟩,⟨true,true,2,0,[[.obj 7 1,.obj 8 1]]⟩])
  (ho':o'=[o0,o1,⟨true,false,4,1,n1⟩,⟨true,false,1,1,p1⟩,⟨true,true,2,0,[[.obj 2 1,.obj 3 1]]⟩,⟨true,false,1,v,lg⟩])
  (hf:(o0.mH 2 7=o0/\o1.mH 2 7=o1/\o6.mH 2 7=o6)/\(o0.mH 3 8=o0/\o1.mH 3 8=o1/\o6.mH 3 8=o6)) (hw:wk t t') (h1:wk (qI 2 7 t') t') (h3:wk (qI 3 8 t') t') (hc:fM 6 t'=true) (hc1:fM 10 t'=true) (hc0:dL 6 [o0,o1]=true) (TZ:dL 10 [o0,o1,o6]=true):lS ⟨t,o⟩ ⟨t',o'⟩:=by
 subst ho'
 obtain ⟨⟨a0,a1,a6⟩,b0,b1,b6⟩:=hf
 refine (aS 10 ho hw hc1 (by simpa [dL,fM,closed,and_assoc] using TZ)).trans ?_
 refine (bJ 2 7 rfl rfl ⟨rfl,rfl⟩ (by simp [a0,a1,a6];rfl) h1).trans ?_
 refine (bJ 3 8 rfl rfl ⟨rfl,rfl⟩ (by simp [b0,b1,b6];rfl) h3).trans ?_
 refine aS 6 (by simp) (kK _) hc ?_
 simpa [dL,fM,closed] using hc0
def pO (ss:List fE) (s:aW×bC×List bC) (x:iG):aW×bC×List bC:=
 ((bM s.1 ss x).1,s.2.1++(bM s.1 ss x).2.1,if (bM s.1 ss x).2.2=[] then s.2.2 else s.2.2++[(bM s.1 ss x).2.2])
def dP (b:aW) (ss:List fE) (l:List iG):aW×bC×List bC:=l.foldl (pO ss) (b,[],[])
theorem FJ {α:Type} (f:α->Nat):∀a b:List α,aO f (a++b)=aO f a+aO f b
 |[],b=>by simp [aO]
 |x::xs,b=>by simp only [cons_append,aO,FJ f xs b];omega
theorem NR (b:aW) (ss:List fE) (x:iG) (hx:x.text.length<=268435456) (sN:∀n,0<=aY ss n/\aY ss n<=999) (hn:b.nodes.length<=274877906944):
  aH (bM b ss x).1<=aH b+x.text.length+1/\(bM b ss x).2.1.length<=x.text.length/\(bM b ss x).2.2.length<=x.text.length+30:=by
 have z7:=gH (aR b x.text) (by unfold aR;omega) (by
  unfold aR
  have:=length_filter_le (fun y:eY=>decide (y.name=x.text)) b.nodes
  omega)
 have hc:=sN x.text
 have z8:=gH (aY ss x.text) (by omega) (by omega)
 unfold bM
 split
 ·refine ⟨by simp only;omega,by simp,by simp⟩
 ·split
  ·split
   ·refine ⟨?_,by simp,by simp⟩
    simp only [aH,bP,length_append,FJ,aO,fU,length_cons,length_nil]
    omega
   ·simp only [length_nil];omega
  ·split
   ·refine ⟨by simp only;omega,by simp,?_⟩
    simp only [length_append,uK,length_cons,length_nil];omega
   ·split
    ·refine ⟨by simp only;omega,by simp,?_⟩
     simp only [length_append,Af,length_cons,length_nil];omega
    ·split
     ·refine ⟨by simp only;omega,by simp,?_⟩
      simp only [length_append,GX,length_cons,length_nil];omega
     ·simp only [length_nil];omega
def oM (b:aW) (ss:List fE) (l:List iG) (k:Nat):aW×bC×List bC:=dP b ss (l.take k)
theorem FK (b:aW) (ss:List fE) (l:List iG) (k:Nat) (h:k < l.length):oM b ss l (k+1)=pO ss (oM b ss l k) l[k]:=by
 unfold oM dP
 rw [take_succ_eq_append_getElem h,foldl_append]
 rfl
theorem yT (N:Nat) (b:aW) (ss:List fE) (l:List iG) (hN:N<=268435456) (hl:l.length<=6) (hx:∀x∈l,x.text.length<=N) (sN:∀n,0<=aY ss n/\aY ss n<=999) (hb:aH b<=68719476736):
  ∀k,k<=l.length->aH (oM b ss l k).1<=aH b+k * (N+1)/\(oM b ss l k).2.1.length<=k * N/\(oM b ss l k).2.2.length<=k/\aO gT (oM b ss l k).2.2<=k * (N+30)
 |0,_=>by simp [oM,dP,aO]
 |k+1,h=>by
  obtain ⟨h1,h2,h3,h4⟩:=yT N b ss l hN hl hx sN hb k (by omega)
  rw [FK b ss l k (by omega)]
  have hxk:=hx _ (getElem_mem (show k < l.length by omega))
  have hkN:k * (N+1)<=6 * (268435456+1):=Nat.mul_le_mul (by omega) (by omega)
  have hn:(oM b ss l k).1.nodes.length<=274877906944:=by simp only [aH,bP] at h1 hb;omega
  obtain ⟨z1,z2,z3⟩:=NR (oM b ss l k).1 ss l[k] (by omega) sN hn
  generalize oM b ss l k=g at *
  have e1:(k+1) * (N+1)=k * (N+1)+(N+1):=by rw [Nat.add_mul];omega
  have e2:(k+1) * N=k * N+N:=by rw [Nat.add_mul];omega
  have e3:(k+1) * (N+30)=k * (N+30)+(N+30):=by rw [Nat.add_mul];omega
  rw [e1,e2,e3]
  refine ⟨?_,?_,?_,?_⟩
  ·simp only [pO];omega
  ·simp only [pO,length_append];omega
  ·simp only [pO]
   split
   ·omega
   ·simp only [length_append,length_cons,length_nil];omega
  ·simp only [pO]
   split
   ·omega
   ·simp only [FJ,aO,gT];omega
theorem Rq {t t':List AV} {o o':List aG} {v u:Nat} {n0 p0 n1 p1 lg:List (List AV)} {o0 o1:aG}
  (ho:o.take 9=[o0,o1,⟨true,false,4,1,n0⟩,⟨true,false,1,1,p0⟩,⟨true,true,2,0,[[.obj 7 1,.obj 8 1]]⟩,⟨true,false,1,v,lg⟩,⟨true,true,2,u,[[.obj 7 1,.obj 8 1]]⟩,⟨true,false,4,1,n1⟩,⟨true,false,1,1,p1⟩])
  (ho':o'=[o0,o1,⟨true,false,4,1,n1⟩,⟨true,false,1,1,p1⟩,⟨true,true,2,0,[[.obj 2 1,.obj 3 1]]⟩,⟨true,false,1,v,lg⟩])
  (hf:(o0.mH 2 7=o0/\o1.mH 2 7=o1)/\(o0.mH 3 8=o0/\o1.mH 3 8=o1)) (hw:wk t t') (h1:wk (qI 2 7 t') t') (h3:wk (qI 3 8 t') t') (hc:fM 6 t'=true) (hc1:fM 9 t'=true) (hc0:dL 6 [o0,o1]=true) (TZ:dL 9 [o0,o1]=true):lS ⟨t,o⟩ ⟨t',o'⟩:=by
 subst ho'
 obtain ⟨⟨a0,a1⟩,b0,b1⟩:=hf
 refine (aS 9 ho hw hc1 (by simpa [dL,fM,closed,and_assoc] using TZ)).trans ?_
 refine (bJ 2 7 rfl rfl ⟨rfl,rfl⟩ (by simp [a0,a1];rfl) h1).trans ?_
 refine (bJ 3 8 rfl rfl ⟨rfl,rfl⟩ (by simp [b0,b1];rfl) h3).trans ?_
 refine aS 6 (by simp) (kK _) hc ?_
 simpa [dL,fM,closed] using hc0
theorem Jn [aD prog] [fV prog] (b:aW) (ss:List fE) (l:List iG) (hb:aH b<=68719476736) (h6:l.length<=6) (hx:∀x∈l,x.text.length<=268435456) (hl:ss.length<=1099511627776) (hr:∀x∈ss,x.rules.length<=1099511627776) (sN:∀n,0<=aY ss n/\aY ss n<=999):
  Ok prog 224 [.agg (aN .view b),.sl .view 1 (ss.map (dI .view)),.sl .view 2 (l.map jL)] (.gV [.agg (aN .own (dP b ss l).1),.str (dP b ss l).2.1,.sl .own 1 ((dP b ss l).2.2.map fF)]):=by
 have c0:=jB b (by omega)
 have hsz:=yT 268435456 b ss l (by omega) h6 hx sN hb
 have Jo:=FK b ss l
 have hend:oM b ss l l.length=dP b ss l:=by simp [oM]
 have hz0:oM b ss l 0=(b,[],[]):=rfl
 rw [<-hend]
 clear hend
 have cR:=fun (b:aW) (x:iG) (h1:aH b<=274877906944) (h2:x.text.length<=268435456)=>NP b ss x h1 h2 hl hr sN
 clear hr sN
 generalize oM b ss l=G at *
 simp only [aN] at c0
 refine bR aAc func224 ntmps224 ?_
 have W:=trivial
 repeat' first|refine wl ?_|(refine sq ?_ ?_<;>intro hc<;>try exact hc.elim)|fail
 refine aJ (ι:={q:Nat×Nat // q.1<=l.length/\1<=q.2}) (fun t o i=>⟨aZ t [(22,.int .i64 i.1.1),(10,.str (G i.1.1).2.1),(11,.obj 5 i.1.2),(13,.undef),(14,.undef),(15,.undef),(16,.undef),(18,.undef)],o.take 2++[⟨true,false,4,1,(G i.1.1).1.nodes.map (bX .own)⟩,⟨true,false,1,1,(G i.1.1).1.opens.map iX⟩,⟨true,true,2,0,[[.obj 2 1,.obj 3 1]]⟩,⟨true,false,1,i.1.2,(G i.1.1).2.2.map fF⟩]⟩)
  (fun i=>l.length - i.1.1) ⟨(0,1),by simp,by simp⟩ (aI (by simp [hz0]) (by simp [hz0])) ?_
 rintro ⟨⟨k,v⟩,hk,hv⟩ K1 hK1
 simp only at hk hv
 simp only [aZ,set_cons_succ,set_cons_zero,take_succ_cons,take_zero,cons_append,nil_append] at hK1⊢
 have hk1:i64.wrap ((k:Int)+1)=((k+1:Nat):Int):=by rw [wrap64]<;>omega
 by_cases hlt:k < l.length
 ·have hg:=getElem?_eq_getElem hlt
  have hxk:=hx _ (getElem_mem hlt)
  obtain ⟨s1,s2,s3,_⟩:=hsz k hk
  have hk6:k * (268435456+1)<=6 * (268435456+1):=Nat.mul_le_mul_right _ (by omega)
  have hk7:k * 268435456<=6 * 268435456:=Nat.mul_le_mul_right _ (by omega)
  have hnext:=Jo k hlt
  have cL:=cR (G k).1 l[k] (by omega) hxk
  have ht1:=(hsz (k+1) (by omega)).2.1
  obtain ⟨n1,p1,mw,ms,hR⟩:∃n1 p1 mw ms,bM (G k).1 ss l[k]=(⟨n1,p1⟩,mw,ms):=⟨_,_,_,_,rfl⟩
  rw [hR] at cL
  simp only [pO,hR] at hnext
  rw [hnext] at ht1
  clear hR cR hsz Jo hx
  generalize hGk:G k=g at *
  obtain ⟨⟨n0,p0⟩,w0,lg0⟩:=g
  simp only at s1 s2 s3 ht1 hnext cL
  have hwl:w0.length+mw.length<=1610612736:=by
   rw [length_append] at ht1
   have:(k+1) * 268435456<=6 * 268435456:=Nat.mul_le_mul_right _ (by omega)
   omega
  have Xj:lg0.length<=6:=by omega
  clear s1 s2 s3 ht1
  simp only [aN,jL] at cL
  by_cases yA:ms=[]
  ·rw [if_pos yA] at hnext
   subst yA
   have W:=aA hk1 (aA hg hwl)
   have V:=hlt
   repeat' first|refine wl ?_|(refine sq ?_ ?_<;>intro hc<;>try exact hc.elim)|fail
   all_goals refine hK1 _ ⟨(k+1,v),by simp only;omega,by simp only;omega⟩ ?_ (by simp only;omega)
   all_goals exact VP rfl (by simp [hnext]) (by simp) (by simp [hnext]) (by simp) (by simp) (by simp) (by simp) (by simp [dL]) (by simp [dL])
  ·rw [if_neg yA] at hnext
   have hmb:ms.isEmpty=false:=by cases ms with|nil=>exact absurd rfl yA|cons _ _=>rfl
   have W:=aA hk1 (aA hg (aA hwl (aA yA (aA hmb Xj))))
   have V:=hlt
   repeat' first|refine wl ?_|(refine sq ?_ ?_<;>intro hc<;>try exact hc.elim)|fail
   all_goals refine hK1 _ ⟨(k+1,v+1),by simp only;omega,by simp only;omega⟩ ?_ (by simp only;omega)
   all_goals exact VP rfl (by simp [hnext]) (by simp) (by simp [hnext]) (by simp) (by simp) (by simp) (by simp) (by simp [dL]) (by simp [dL])
 ·have hkl:k=l.length:=by omega
  subst hkl
  have W:=hk1
  repeat' first|refine wl ?_|(refine sq ?_ ?_<;>intro hc<;>try exact hc.elim)|fail
  all_goals try(refine ⟨.inr rfl,?_⟩;simp [aB,results224])
theorem Bi [aD prog] [fV prog] (b:aW) (ss:List fE) (l:List iG) (hb:aH b<=68719476736) (h6:l.length<=6) (hx:∀x∈l,x.text.length<=268435456) (hl:ss.length<=1099511627776) (hr:∀x∈ss,x.rules.length<=1099511627776) (sN:∀n,0<=aY ss n/\aY ss n<=999):
  Ok prog 151 [.agg (aN .view b),.sl .view 1 (ss.map (dI .view)),.sl .view 2 (l.map jL)] (.gV [.agg (aN .own (dP b ss l).1),.str (dP b ss l).2.1,.sl .own 1 ((dP b ss l).2.2.map fF)]):=by
 have c0:=jC b (by omega)
 have hsz:=yT 268435456 b ss l (by omega) h6 hx sN hb
 have Jo:=FK b ss l
 have hend:oM b ss l l.length=dP b ss l:=by simp [oM]
 have hz0:oM b ss l 0=(b,[],[]):=rfl
 rw [<-hend]
 clear hend
 have cR:=fun (b:aW) (x:iG) (h1:aH b<=274877906944) (h2:x.text.length<=268435456)=>NQ b ss x h1 h2 hl hr sN
 clear hr sN
 generalize oM b ss l=G at *
 simp only [aN] at c0
 refine bR aAc func151 ntmps151 ?_
 have W:=trivial
 repeat' first|refine wl ?_|(refine sq ?_ ?_<;>intro hc<;>try exact hc.elim)|fail
 refine aJ (ι:={q:Nat×Nat // q.1<=l.length/\1<=q.2}) (fun t o i=>⟨aZ t [(12,.int .i64 i.1.1),(10,.str (G i.1.1).2.1),(11,.obj 5 i.1.2),(13,.undef),(13,.undef),(14,.undef),(15,.undef),(17,.undef)],o.take 2++[⟨true,false,4,1,(G i.1.1).1.nodes.map (bX .own)⟩,⟨true,false,1,1,(G i.1.1).1.opens.map iX⟩,⟨true,true,2,0,[[.obj 2 1,.obj 3 1]]⟩,⟨true,false,1,i.1.2,(G i.1.1).2.2.map fF⟩]⟩)
  (fun i=>l.length - i.1.1) ⟨(0,1),by simp,by simp⟩ (aI (by simp [hz0]) (by simp [hz0])) ?_
 rintro ⟨⟨k,v⟩,hk,hv⟩ K1 hK1
 simp only at hk hv
 simp only [aZ,set_cons_succ,set_cons_zero,take_succ_cons,take_zero,cons_append,nil_append] at hK1⊢
 have hk1:i64.wrap ((k:Int)+1)=((k+1:Nat):Int):=by rw [wrap64]<;>omega
 by_cases hlt:k < l.length
 ·have hg:=getElem?_eq_getElem hlt
  have hxk:=hx _ (getElem_mem hlt)
  obtain ⟨s1,s2,s3,_⟩:=hsz k hk
  have hk6:k * (268435456+1)<=6 * (268435456+1):=Nat.mul_le_mul_right _ (by omega)
  have hk7:k * 268435456<=6 * 268435456:=Nat.mul_le_mul_right _ (by omega)
  have hnext:=Jo k hlt
  have cL:=cR (G k).1 l[k] (by omega) hxk
  have ht1:=(hsz (k+1) (by omega)).2.1
  obtain ⟨n1,p1,mw,ms,hR⟩:∃n1 p1 mw ms,bM (G k).1 ss l[k]=(⟨n1,p1⟩,mw,ms):=⟨_,_,_,_,rfl⟩
  rw [hR] at cL
  simp only [pO,hR] at hnext
  rw [hnext] at ht1
  clear hR cR hsz Jo hx
  generalize hGk:G k=g at *
  obtain ⟨⟨n0,p0⟩,w0,lg0⟩:=g
  simp only at s1 s2 s3 ht1 hnext cL
  have hwl:w0.length+mw.length<=1610612736:=by
   rw [length_append] at ht1
   have:(k+1) * 268435456<=6 * 268435456:=Nat.mul_le_mul_right _ (by omega)
   omega
  have Xj:lg0.length<=6:=by omega
  clear s1 s2 s3 ht1
  simp only [aN,jL] at cL
  by_cases yA:ms=[]
  ·rw [if_pos yA] at hnext
   subst yA
   have W:=aA hk1 (aA hg hwl)
   have V:=hlt
   repeat' first|refine wl ?_|(refine sq ?_ ?_<;>intro hc<;>try exact hc.elim)|fail
   all_goals refine hK1 _ ⟨(k+1,v),by simp only;omega,by simp only;omega⟩ ?_ (by simp only;omega)
   all_goals exact Rq rfl (by simp [hnext]) (by simp) (by simp [hnext]) (by simp) (by simp) (by simp) (by simp) (by simp [dL]) (by simp [dL])
  ·rw [if_neg yA] at hnext
   have hmb:ms.isEmpty=false:=by cases ms with|nil=>exact absurd rfl yA|cons _ _=>rfl
   have W:=aA hk1 (aA hg (aA hwl (aA yA (aA hmb Xj))))
   have V:=hlt
   repeat' first|refine wl ?_|(refine sq ?_ ?_<;>intro hc<;>try exact hc.elim)|fail
   all_goals refine hK1 _ ⟨(k+1,v+1),by simp only;omega,by simp only;omega⟩ ?_ (by simp only;omega)
   all_goals exact Rq rfl (by simp [hnext]) (by simp) (by simp [hnext]) (by simp) (by simp) (by simp) (by simp) (by simp [dL]) (by simp [dL])
 ·have hkl:k=l.length:=by omega
  subst hkl
  have W:=hk1
  repeat' first|refine wl ?_|(refine sq ?_ ?_<;>intro hc<;>try exact hc.elim)|fail
  all_goals try(refine ⟨.inr rfl,?_⟩;simp [aB,results151])
theorem jN [aD prog] (a:aP) (hs:aL a<=274877906944):Ok prog 34 [.agg (aM .view a)] (.agg (aM .own a)):=by
 simp only [aL] at hs
 have c1:=PG a.cB (by omega)
 have c2:=PD a.queue (by omega)
 have c3:=jB a.builder (by omega)
 simp only [bP] at hs
 simp only [bV] at c1
 simp only [aN] at c3
 refine bR aAc func34 ntmps34 ?_
 have W:=trivial
 repeat' first|refine we ?_|(refine sq ?_ ?_<;>intro hc<;>try exact hc.elim)|fail
 all_goals try(refine ⟨.inr rfl,?_⟩;simp [aB,results34])
theorem iD [aD prog] (a:aP) (hs:aL a<=274877906944):Ok prog 62 [.agg (aM .view a)] (.agg (aM .own a)):=by
 simp only [aL] at hs
 have c1:=PH a.cB (by omega)
 have c2:=PE a.queue (by omega)
 have c3:=jC a.builder (by omega)
 simp only [bP] at hs
 simp only [bV] at c1
 simp only [aN] at c3
 refine bR aAc func62 ntmps62 ?_
 have W:=trivial
 repeat' first|refine we ?_|(refine sq ?_ ?_<;>intro hc<;>try exact hc.elim)|fail
 all_goals try(refine ⟨.inr rfl,?_⟩;simp [aB,results62])
end Go.Proofs.YtlnblmmohpcceaaGreatDoor
