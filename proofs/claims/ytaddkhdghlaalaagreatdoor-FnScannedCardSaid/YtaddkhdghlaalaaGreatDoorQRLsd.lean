/-
  Proved here: steps towards the statement of this claim, text QRLsd.
  No condition beyond what each statement spells out.
-/
import Derived.Test.YtaddkhdghlaalaaGreatDoorQT5
import Derived.Test.YtaddkhdghlaalaaGreatDoorF8
import Derived.Test.YtaddkhdghlaalaaGreatDoorQMK1
set_option linter.all false
set_option maxRecDepth 4000
set_option maxHeartbeats 4000000
namespace Go.Proofs.YtaddkhdghlaalaaGreatDoor
open Go.Aw
theorem bDf [aB Tryz.prog] (b:aX) (ss:List fT) (x:iG) (hs:aU b≤274877906944) (hx:x.text.length≤268435456) (hl:ss.length≤1099511627776) (hr:∀x∈ss,x.rules.length≤1099511627776) (hco:∀n,0≤cB ss n∧cB ss n≤999) (hop:x.op=4):
  Ok Tryz.prog 191 [.agg (aZ .view b),.sl .view 1 (ss.map (fD .view)),.agg (mM x)] (.tup [.agg (aZ .own (dO b ss x).1),.str (dO b ss x).2.1,.str (dO b ss x).2.2]):=by
 have c1:=jM b hs
 have hn:b.nodes.length≤274877906944:=by simp only [aU,szL] at hs;omega
 obtain ⟨op,tx⟩:=x
 simp only at hx hop
 have c2:=nZ tx (by omega)
 have c3:=nH b tx (by omega)
 have c4:=pO ss tx hl hr
 have c5:=dW tx (by omega)
 have c6:=eQ (b.nodes.length:Int) 1 39
 have hcn:0≤bM b tx∧bM b tx≤(b.nodes.length:Int):=by
  unfold bM
  have:=List.length_filter_le (fun x:gW=>decide (x.name=tx)) b.nodes
  omega
 have hcc:=hco tx
 have c7:=eX (bM b tx) (by omega)
 have c8:=eX (cB ss tx) (by omega)
 have z7:=lS (bM b tx) (by omega) (by omega)
 have z8:=lS (cB ss tx) (by omega) (by omega)
 simp only [aZ] at c1 c3
 clear hr hco
 simp only [dO,zU,aB7,aG9]
 generalize Lib.itoa (bM b tx)=i7 at *
 generalize Lib.itoa (cB ss tx)=i8 at *
 generalize bM b tx=cn at *
 generalize cB ss tx=cc at *
 subst hop
 rw [if_neg (by decide),if_neg (by decide),if_neg (by decide),if_pos rfl]
 clear c2 c3 c5 c6 c7 z7 hcn
 have z7l:i8.length≤40:=by omega
 refine rJ Tryz.mix [12] Tryz.func191 Tryz.ntmps191 ?_
 refine aW ?_
 rw [rG]
 refine aQx (fun J=>⟨[.undef,.sl .view 1 (ss.map (fD .view)),.undef,.ptr 0 0 0 0,.undef,.ptr 1 0 0 0,.ptr 2 0 0 0,dv J 12 (.str []),dv J 13 (.str ([108,111,111,107,32]++tx++[32]++i8)),.ptr 5 0 0 0,.undef,.undef,.undef,.undef,.undef,.undef,.undef,.undef,.undef,.undef,.undef,.undef,.undef,.undef,.undef,.undef,.undef,.undef,.undef,.undef,.undef,.undef,.undef,.undef,.undef,.undef,.undef,.undef,.undef,.undef,.undef,.undef,.undef,.undef,.undef,.undef,.undef,.undef,.undef,.undef,.undef,.undef,.undef,.undef,.undef,dv J 0 (.agg [.obj 3 1,.obj 4 1]),dv J 1 (.ptr 1 0 0 1),dv J 2 (.str tx),dv J 3 (.str ([108,111,111,107,32]++tx)),dv J 4 (.str ([108,111,111,107,32]++tx++[32])),dv J 5 (.sl .view 1 (ss.map (fD .view))),dv J 6 (.ptr 1 0 0 1),dv J 7 (.str tx),dv J 8 (.int .i64 cc),dv J 9 (.str i8),dv J 10 (.str ([108,111,111,107,32]++tx++[32]++i8)),.undef,.undef,.undef,.undef,.undef,.undef,.undef],[⟨true,true,2,0,[[.sl .view 4 (b.nodes.map (dY .view)),.sl .view 1 (b.opens.map jI)]]⟩,⟨true,true,2,0,[[.int .i64 4,.str tx]]⟩,⟨true,true,2,0,[if J 11=true then [.obj 3 1,.obj 4 1] else [.sl .own 4 [],.sl .own 1 []]]⟩,⟨true,false,4,1,b.nodes.map (dY .own)⟩,⟨true,false,1,1,b.opens.map jI⟩,⟨true,true,2,0,[[.obj 3 1,.obj 4 1]]⟩]⟩) (aO (by simp [dv,hx,z7l]) (by simp [dv,hx,z7l])) (by decide) ?_ ?_
 ·simp only [wQ,and_true]
  refine ⟨⟨trivial,fun J h1 h2=>jV fun K hK=> ?_⟩,⟨trivial,fun J h1 h2=>jV fun K hK=> ?_⟩,⟨trivial,fun J h1 h2=>jV fun K hK=> ?_⟩,⟨trivial,fun J h1 h2=>jV fun K hK=> ?_⟩,⟨trivial,fun J h1 h2=>jV fun K hK=> ?_⟩,⟨trivial,fun J h1 h2=>jV fun K hK=> ?_⟩,⟨trivial,fun J h1 h2=>jV fun K hK=> ?_⟩,⟨trivial,fun J h1 h2=>jV fun K hK=> ?_⟩,⟨trivial,fun J h1 h2=>jV fun K hK=> ?_⟩,⟨trivial,fun J h1 h2=>jV fun K hK=> ?_⟩,⟨trivial,fun J h1 h2=>jV fun K hK=> ?_⟩,⟨trivial,fun J h1 h2=>jV fun K hK=> ?_⟩,⟨trivial,fun J h1 h2=>jV fun K hK=> ?_⟩,⟨trivial,fun J h1 h2=>jV fun K hK=> ?_⟩⟩
  all_goals simp [Region.binds] at h2
  all_goals first
   |(simp [-Bool.exists_bool,aop,dv,h1,h2,hx,z7l];refine ⟨_,(c4),hK _ (aO ?_ ?_)⟩<;>simp [dv,upd,h1,h2])
   |(simp [-Bool.exists_bool,aop,dv,h1,h2,hx,z7l];refine ⟨_,(c8),hK _ (aO ?_ ?_)⟩<;>simp [dv,upd,h1,h2])
   |(simp [-Bool.exists_bool,aop,dv,h1,h2,hx,z7l];refine ⟨?_,hK _ (aO ?_ ?_)⟩;(focus omega);all_goals simp [dv,upd,h1,h2])
   |(simp [-Bool.exists_bool,aop,dv,h1,h2,hx,z7l];refine hK _ (aO ?_ ?_)<;>simp [dv,upd,h1,h2])
 ·intro J hJ
  have hJs:J 0=true∧J 1=true∧J 2=true∧J 3=true∧J 4=true∧J 5=true∧J 6=true∧J 7=true∧J 8=true∧J 9=true∧J 10=true∧J 11=true∧J 12=true∧J 13=true:=⟨hJ 0 (by decide),hJ 1 (by decide),hJ 2 (by decide),hJ 3 (by decide),hJ 4 (by decide),hJ 5 (by decide),hJ 6 (by decide),hJ 7 (by decide),hJ 8 (by decide),hJ 9 (by decide),hJ 10 (by decide),hJ 11 (by decide),hJ 12 (by decide),hJ 13 (by decide)⟩
  simp only [dv,hJs,if_true]
  clear hJs hJ J
  refine aW ?_
  exact aM Tryz.results191
theorem bDs [aB Tryz.prog] (b:aX) (ss:List fT) (x:iG) (hs:aU b≤274877906944) (hx:x.text.length≤268435456) (hl:ss.length≤1099511627776) (hr:∀x∈ss,x.rules.length≤1099511627776) (hco:∀n,0≤cB ss n∧cB ss n≤999) (hop:x.op=5):
  Ok Tryz.prog 191 [.agg (aZ .view b),.sl .view 1 (ss.map (fD .view)),.agg (mM x)] (.tup [.agg (aZ .own (dO b ss x).1),.str (dO b ss x).2.1,.str (dO b ss x).2.2]):=by
 have c1:=jM b hs
 have hn:b.nodes.length≤274877906944:=by simp only [aU,szL] at hs;omega
 obtain ⟨op,tx⟩:=x
 simp only at hx hop
 have c2:=nZ tx (by omega)
 have c3:=nH b tx (by omega)
 have c4:=pO ss tx hl hr
 have c5:=dW tx (by omega)
 have c6:=eQ (b.nodes.length:Int) 1 39
 have hcn:0≤bM b tx∧bM b tx≤(b.nodes.length:Int):=by
  unfold bM
  have:=List.length_filter_le (fun x:gW=>decide (x.name=tx)) b.nodes
  omega
 have hcc:=hco tx
 have c7:=eX (bM b tx) (by omega)
 have c8:=eX (cB ss tx) (by omega)
 have z7:=lS (bM b tx) (by omega) (by omega)
 have z8:=lS (cB ss tx) (by omega) (by omega)
 simp only [aZ] at c1 c3
 clear hr hco
 simp only [dO,zU,aB7,aG9]
 generalize Lib.itoa (bM b tx)=i7 at *
 generalize Lib.itoa (cB ss tx)=i8 at *
 generalize bM b tx=cn at *
 generalize cB ss tx=cc at *
 subst hop
 rw [if_neg (by decide),if_neg (by decide),if_neg (by decide),if_neg (by decide),if_pos rfl]
 refine ent Tryz.mix Tryz.func191 Tryz.ntmps191 ?_
 refine aW ?_
 exact aM Tryz.results191
theorem aMo [aB Tryz.prog] (b:aX) (ss:List fT) (x:iG) (hs:aU b≤274877906944) (hx:x.text.length≤268435456) (hl:ss.length≤1099511627776) (hr:∀x∈ss,x.rules.length≤1099511627776) (hco:∀n,0≤cB ss n∧cB ss n≤999):
  Ok Tryz.prog 191 [.agg (aZ .view b),.sl .view 1 (ss.map (fD .view)),.agg (mM x)] (.tup [.agg (aZ .own (dO b ss x).1),.str (dO b ss x).2.1,.str (dO b ss x).2.2]):=by
 by_cases h1:x.op=1
 ·exact bCx b ss x hs hx hl hr hco h1
 by_cases h2:x.op=2
 ·exact bDu b ss x hs hx hl hr hco h2
 by_cases h3:x.op=3
 ·exact bCi b ss x hs hx hl hr hco h3
 by_cases h4:x.op=4
 ·exact bDf b ss x hs hx hl hr hco h4
 by_cases h5:x.op=5
 ·exact bDs b ss x hs hx hl hr hco h5
 exact bBr b ss x hs hx hl hr hco ⟨h1,h2,h3,h4,h5⟩
theorem rW {α:Type} {f:α→List AV} {i j:Nat} (h:∀x,lD i j (f x)=f x):∀l:List α,iU i j (l.map f)=l.map f
 |[]=>rfl
 |x::l=>by simp only [List.map_cons,iU,h,rW h l]
@[simp] theorem bJg (i j:Nat) (l:List Str):iU i j (l.map bX)=l.map bX:=rW (fun _=>rfl) l
@[simp] theorem bJf (i j:Nat) (l:List Int):iU i j (l.map jI)=l.map jI:=rW (fun _=>rfl) l
@[simp] theorem bIy (i j:Nat) (l:List iJ):iU i j (l.map mW)=l.map mW:=rW (fun _=>rfl) l
@[simp] theorem bIj (i j:Nat) (l:List iG):iU i j (l.map mM)=l.map mM:=rW (fun _=>rfl) l
@[simp] theorem bI4 (i j:Nat) (l:List xE):iU i j (l.map vQ)=l.map vQ:=rW (fun _=>rfl) l
@[simp] theorem bHr (i j:Nat) (l:List fT):iU i j (l.map (fD .view))=l.map (fD .view):=rW (fun _=>by simp) l
@[simp] theorem bH2 (i j:Nat) (l:List gW):iU i j (l.map (dY .view))=l.map (dY .view):=rW (fun _=>by simp) l
def oF (ss:List fT) (s:aX×Str×List Str) (x:iG):aX×Str×List Str:=
 ((dO s.1 ss x).1,s.2.1++(dO s.1 ss x).2.1,if (dO s.1 ss x).2.2=[] then s.2.2 else s.2.2++[(dO s.1 ss x).2.2])
def fC (b:aX) (ss:List fT) (l:List iG):aX×Str×List Str:=l.foldl (oF ss) (b,[],[])
theorem aEe {α:Type} (f:α→Nat):∀a b:List α,aK f (a++b)=aK f a+aK f b
 |[],b=>by simp [aK]
 |x::xs,b=>by simp only [List.cons_append,aK,aEe f xs b];omega
theorem aK9 (b:aX) (ss:List fT) (x:iG) (hx:x.text.length≤268435456) (hco:∀n,0≤cB ss n∧cB ss n≤999) (hn:b.nodes.length≤274877906944):
  aU (dO b ss x).1≤aU b+x.text.length+1∧(dO b ss x).2.1.length≤x.text.length∧(dO b ss x).2.2.length≤x.text.length+30:=by
 have z7:=lS (bM b x.text) (by unfold bM;omega) (by
  unfold bM
  have:=List.length_filter_le (fun y:gW=>decide (y.name=x.text)) b.nodes
  omega)
 have hc:=hco x.text
 have z8:=lS (cB ss x.text) (by omega) (by omega)
 unfold dO
 split
 ·refine ⟨by simp only;omega,by simp,by simp⟩
 ·split
  ·split
   ·refine ⟨?_,by simp,by simp⟩
    simp only [aU,szL,List.length_append,aEe,aK,nU,List.length_cons,List.length_nil]
    omega
   ·simp only [List.length_nil];omega
  ·split
   ·refine ⟨by simp only;omega,by simp,?_⟩
    simp only [List.length_append,zU,List.length_cons,List.length_nil];omega
   ·split
    ·refine ⟨by simp only;omega,by simp,?_⟩
     simp only [List.length_append,aB7,List.length_cons,List.length_nil];omega
    ·split
     ·refine ⟨by simp only;omega,by simp,?_⟩
      simp only [List.length_append,aG9,List.length_cons,List.length_nil];omega
     ·simp only [List.length_nil];omega
def nL (b:aX) (ss:List fT) (l:List iG) (k:Nat):aX×Str×List Str:=fC b ss (l.take k)
theorem aL3 (b:aX) (ss:List fT) (l:List iG) (k:Nat) (h:k < l.length):nL b ss l (k+1)=oF ss (nL b ss l k) l[k]:=by
 unfold nL fC
 rw [List.take_succ_eq_append_getElem h,List.foldl_append]
 rfl
theorem aBd (N:Nat) (b:aX) (ss:List fT) (l:List iG) (hN:N≤268435456) (hl:l.length≤6) (hx:∀x∈l,x.text.length≤N) (hco:∀n,0≤cB ss n∧cB ss n≤999) (hb:aU b≤68719476736):
  ∀k,k≤l.length→aU (nL b ss l k).1≤aU b+k * (N+1)∧(nL b ss l k).2.1.length≤k * N∧(nL b ss l k).2.2.length≤k∧aK dH (nL b ss l k).2.2≤k * (N+30)
 |0,_=>by simp [nL,fC,aK]
 |k+1,h=>by
  obtain ⟨h1,h2,h3,h4⟩:=aBd N b ss l hN hl hx hco hb k (by omega)
  rw [aL3 b ss l k (by omega)]
  have hxk:=hx _ (List.getElem_mem (show k < l.length by omega))
  have hkN:k * (N+1)≤6 * (268435456+1):=Nat.mul_le_mul (by omega) (by omega)
  have hn:(nL b ss l k).1.nodes.length≤274877906944:=by simp only [aU,szL] at h1 hb;omega
  obtain ⟨z1,z2,z3⟩:=aK9 (nL b ss l k).1 ss l[k] (by omega) hco hn
  generalize nL b ss l k=g at *
  have e1:(k+1) * (N+1)=k * (N+1)+(N+1):=by rw [Nat.add_mul];omega
  have e2:(k+1) * N=k * N+N:=by rw [Nat.add_mul];omega
  have e3:(k+1) * (N+30)=k * (N+30)+(N+30):=by rw [Nat.add_mul];omega
  rw [e1,e2,e3]
  refine ⟨?_,?_,?_,?_⟩
  ·simp only [oF];omega
  ·simp only [oF,List.length_append];omega
  ·simp only [oF]
   split
   ·omega
   ·simp only [List.length_append,List.length_cons,List.length_nil];omega
  ·simp only [oF]
   split
   ·omega
   ·simp only [aEe,aK,dH];omega
theorem aN7 {t t':List AV} {o o':List aA} {v u:Nat} {n0 p0 n1 p1 lg:List (List AV)} {o0 o1:aA}
  (ho:o.take 9=[o0,o1,⟨true,false,4,1,n0⟩,⟨true,false,1,1,p0⟩,⟨true,true,2,0,[[.obj 7 1,.obj 8 1]]⟩,⟨true,false,1,v,lg⟩,⟨true,true,2,u,[[.obj 7 1,.obj 8 1]]⟩,⟨true,false,4,1,n1⟩,⟨true,false,1,1,p1⟩])
  (ho':o'=[o0,o1,⟨true,false,4,1,n1⟩,⟨true,false,1,1,p1⟩,⟨true,true,2,0,[[.obj 2 1,.obj 3 1]]⟩,⟨true,false,1,v,lg⟩])
  (hf:(o0.rsw 2 7=o0∧o1.rsw 2 7=o1)∧(o0.rsw 3 8=o0∧o1.rsw 3 8=o1)) (hw:wk t t') (h1:wk (lD 2 7 t') t') (h3:wk (lD 3 8 t') t') (hc:fV 6 t'=true) (hc1:fV 9 t'=true) (hc0:eO 6 [o0,o1]=true) (hc2:eO 9 [o0,o1]=true):fG ⟨t,o⟩ ⟨t',o'⟩:=by
 subst ho'
 obtain ⟨⟨a0,a1⟩,b0,b1⟩:=hf
 refine (aN 9 ho hw hc1 (by simpa [eO,fV,closed,and_assoc] using hc2)).trans ?_
 refine (bH 2 7 rfl rfl ⟨rfl,rfl⟩ (by simp [a0,a1];rfl) h1).trans ?_
 refine (bH 3 8 rfl rfl ⟨rfl,rfl⟩ (by simp [b0,b1];rfl) h3).trans ?_
 refine aN 6 (by simp) (kQ _) hc ?_
 simpa [eO,fV,closed] using hc0
theorem aA9 [aB Tryz.prog] (b:aX) (ss:List fT) (l:List iG) (hb:aU b≤68719476736) (h6:l.length≤6) (hx:∀x∈l,x.text.length≤268435456) (hl:ss.length≤1099511627776) (hr:∀x∈ss,x.rules.length≤1099511627776) (hco:∀n,0≤cB ss n∧cB ss n≤999):
  Ok Tryz.prog 172 [.agg (aZ .view b),.sl .view 1 (ss.map (fD .view)),.sl .view 2 (l.map mM)] (.tup [.agg (aZ .own (fC b ss l).1),.str (fC b ss l).2.1,.sl .own 1 ((fC b ss l).2.2.map bX)]):=by
 have c0:=jM b (by omega)
 have hsz:=aBd 268435456 b ss l (by omega) h6 hx hco hb
 have hsuc:=aL3 b ss l
 have hend:nL b ss l l.length=fC b ss l:=by simp [nL]
 have hz0:nL b ss l 0=(b,[],[]):=rfl
 rw [←hend]
 clear hend
 have cR:=fun (b:aX) (x:iG) (h1:aU b≤274877906944) (h2:x.text.length≤268435456)=>aMo b ss x h1 h2 hl hr hco
 clear hr hco
 generalize nL b ss l=G at *
 simp only [aZ] at c0
 refine ent Tryz.mix Tryz.func172 Tryz.ntmps172 ?_
 refine bA ?_
 refine aR (ι:={q:Nat×Nat // q.1≤l.length∧1≤q.2}) (fun t o i=>⟨aS t [(12,.int .i64 i.1.1),(10,.str (G i.1.1).2.1),(11,.obj 5 i.1.2),(13,.undef),(13,.undef),(14,.undef),(15,.undef),(17,.undef)],o.take 2++[⟨true,false,4,1,(G i.1.1).1.nodes.map (dY .own)⟩,⟨true,false,1,1,(G i.1.1).1.opens.map jI⟩,⟨true,true,2,0,[[.obj 2 1,.obj 3 1]]⟩,⟨true,false,1,i.1.2,(G i.1.1).2.2.map bX⟩]⟩)
  (fun i=>l.length - i.1.1) ⟨(0,1),by simp,by simp⟩ (aO (by simp [hz0]) (by simp [hz0])) ?_
 rintro ⟨⟨k,v⟩,hk,hv⟩ K1 hK1
 simp only at hk hv
 simp only [aS,List.set_cons_succ,List.set_cons_zero,List.take_succ_cons,List.take_zero,List.cons_append,List.nil_append] at hK1⊢
 have hk1:=wk1 (k:=k) (by omega)
 by_cases hlt:k < l.length
 ·have hg:=List.getElem?_eq_getElem hlt
  have hxk:=hx _ (List.getElem_mem hlt)
  obtain ⟨s1,s2,s3,_⟩:=hsz k hk
  have hk6:k * (268435456+1)≤6 * (268435456+1):=Nat.mul_le_mul_right _ (by omega)
  have hk7:k * 268435456≤6 * 268435456:=Nat.mul_le_mul_right _ (by omega)
  have hnext:=hsuc k hlt
  have cL:=cR (G k).1 l[k] (by omega) hxk
  have ht1:=(hsz (k+1) (by omega)).2.1
  obtain ⟨n1,p1,mw,ms,hR⟩:∃n1 p1 mw ms,dO (G k).1 ss l[k]=(⟨n1,p1⟩,mw,ms):=⟨_,_,_,_,rfl⟩
  rw [hR] at cL
  simp only [oF,hR] at hnext
  rw [hnext] at ht1
  clear hR cR hsz hsuc hx
  generalize hGk:G k=g at *
  obtain ⟨⟨n0,p0⟩,w0,lg0⟩:=g
  simp only at s1 s2 s3 ht1 hnext cL
  have hwl:w0.length+mw.length≤1610612736:=by
   rw [List.length_append] at ht1
   have:(k+1) * 268435456≤6 * 268435456:=Nat.mul_le_mul_right _ (by omega)
   omega
  have hlg:lg0.length≤6:=by omega
  clear s1 s2 s3 ht1
  simp only [aZ,mM] at cL
  by_cases hms:ms=[]
  ·rw [if_pos hms] at hnext
   subst hms
   have W:=And.intro hk1 (And.intro hg hwl)
   have V:=hlt
   repeat' first|refine st ?_|(refine nx ?_;refine so ?_)|(refine cx ?_;first|refine sT ?_|refine sF ?_)|fail
   all_goals refine hK1 _ ⟨(k+1,v),by simp only;omega,by simp only;omega⟩ ?_ (by simp only;omega)
   all_goals exact aN7 rfl (by simp [hnext]) (by simp) (by simp [hnext]) (by simp) (by simp) (by simp) (by simp) (by simp [eO]) (by simp [eO])
  ·rw [if_neg hms] at hnext
   have hmb:ms.isEmpty=false:=by cases ms with|nil=>exact absurd rfl hms|cons _ _=>rfl
   have W:=And.intro hk1 (And.intro hg (And.intro hwl (And.intro hms (And.intro hmb hlg))))
   have V:=hlt
   repeat' first|refine st ?_|(refine nx ?_;refine so ?_)|(refine cx ?_;first|refine sT ?_|refine sF ?_)|fail
   all_goals refine hK1 _ ⟨(k+1,v+1),by simp only;omega,by simp only;omega⟩ ?_ (by simp only;omega)
   all_goals exact aN7 rfl (by simp [hnext]) (by simp) (by simp [hnext]) (by simp) (by simp) (by simp) (by simp) (by simp [eO]) (by simp [eO])
 ·have hkl:k=l.length:=by omega
  subst hkl
  have W:=hk1
  refine wl ?_
  exact aM Tryz.results172
theorem fH [aB Tryz.prog] (a:aC) (hs:aJ a≤274877906944):Ok Tryz.prog 108 [.agg (aG .view a)] (.agg (aG .own a)):=by
 simp only [aJ] at hs
 have c1:=aP8 a.policy (by omega)
 have c2:=aQd a.queue (by omega)
 have c3:=jM a.builder (by omega)
 simp only [szL] at hs
 simp only [bY] at c1
 simp only [aZ] at c3
 refine ent Tryz.mix Tryz.func108 Tryz.ntmps108 ?_
 refine aW ?_
 exact aM Tryz.results108
end Go.Proofs.YtaddkhdghlaalaaGreatDoor
