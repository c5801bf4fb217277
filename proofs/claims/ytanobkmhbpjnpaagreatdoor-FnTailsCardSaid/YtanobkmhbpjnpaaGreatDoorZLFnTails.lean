/- Steps. No condition. -/
import Derived.Test.YtanobkmhbpjnpaaGreatDoorZQD19
import Derived.Test.YtanobkmhbpjnpaaGreatDoorZQADIB
set_option linter.all false
set_option maxRecDepth 8000
set_option maxHeartbeats 8000000
namespace Go.Proofs.YtanobkmhbpjnpaaGreatDoor
open Go.Aw Proofs.Tryz List IntKind
def NJ[aG prog][dG prog][fI prog][qR prog](p:aF):Ok prog 12 [.agg (aH .view p)] (.bool p.dX):=by refine dN aK func12 ntmps12 ?_;refine bZ ?_;exact aO results12
def aEa{x:aF}(h:aNj x):qW x=true/\((nX x).length:Int)=0/\¬x.eH<((dO jY 0 x.aD).length:Int)/\¬x.fA<(x.bJ.length:Int)/\x.dX=true:=by refine⟨h.ps,?_,by have:=h.de;omega,by have:=h.en;omega,h.ld⟩;unfold nX zU;rw[h.os,h.om];rfl
def xn[aG prog][dG prog][fI prog][qR prog](d:List UInt8)(hwd:d.length<=9223372036854775807):Ok prog 3 [.sl .view 1 (bL d)] (.bool true):=by
 have cb:=aR5 d hwd;have cq:=LG d;have cr:=GR d;refine xA aK [5,7,12] func3 ntmps3 ?_;have W:=trivial;repeat' first|refine wg ?_|(refine sq ?_ ?_<;>intro hc<;>try exact hc.elim)|fail
 .all_goals (try exact aO results3)
 .refine ce (cq) ?_;rintro _ ⟨p,rfl,hp⟩;simp only[AS.bW,AS.put,aU,aN,gT,dM,gN,dI,gW,dL,cH,cQ,eE,eA,cW];have hx:=xh hp (by omega) (by omega);obtain⟨z1,z2⟩:=hx.on.sz;have z3:=hx.on.sl;have zm:(fD p).aL.length<=8000:=by simp only[dS]at z2;omega
  obtain⟨_,d2,d3,d4⟩:=aNo hp.bd (by decide);have c1:=(BO p hp.on (by omega) (by omega) (by decide) (by decide)).Dk (r':= .agg (aH .view (fD p))) (by simp[rt]);have c2:=(BN p hp.on (by omega) (by omega) (by decide) (by decide)).Dk (r':= .agg (aH .view (fD p))) (by simp[rt]);have c3:=(BO (fD p) hx.on (by omega) (by omega) (by decide) (by decide)).Dk (r':= .agg (aH .view (fD (fD p)))) (by simp[rt]);rw[d2]at c3;have hst:iJ (fD p)=(fD p,false):=Prod.ext d4 d3;have cs:=(GN (fD p) (by omega) (by omega) (by omega)).Dk (r':= .iL [.agg (aH .view (iJ (fD p)).1),.bool (iJ (fD p)).2]) (by simp[rt]);rw[hst]at cs;simp only at cs;have e1:=Ke (fD p) (by omega);have ci:=GK (fD p);have cc:=NJ (fD p);have cn:=(Pj (fD p) (by omega) (by omega)).Dk (r':= .sl .view 5 ((nX (fD p)).map eG)) (by simp[rt]);have cd:=(BB (fD p) (by omega)).Dk (r':= .sl .view 1 ((dO jY 0 (fD p).aD).map nM)) (by simp[rt]);obtain⟨A,hA⟩:∃A,A=((fD p).dX&& !p.dX):=⟨_,rfl⟩;have hend:A=true->qW (fD p)=true/\((nX (fD p)).length:Int)=0/\¬(fD p).eH<((dO jY 0 (fD p).aD).length:Int)/\¬(fD p).fA<((fD p).bJ.length:Int)/\(fD p).dX=true:=λh=>by rw[hA]at h;simp only[eK,AW]at h;exact aEa (Qw 2000 h.2 h.1)
  have k1:=λh=>(hend h).1
  have k2:=λh=>(hend h).2.1
  have k3:=λh=>(hend h).2.2.1
  have k4:=λh=>(hend h).2.2.2.1
  have k5:=λh=>(hend h).2.2.2.2
  have zd:(dO jY 0 (fD p).aD).length<=20:=iS (jT _ _ _) z3;clear hend hst d2 d3 d4 hx hp zm z1 z2 z3;generalize nX (fD p)=nn at*;generalize dO jY 0 (fD p).aD=dl at*;generalize qW (fD p)=ip at*;generalize fD p=x at*;simp only[aH]at c1 c2 c3 cs e1 ci cc cn cd⊢;refine bZ ?_;refine RV (ι:=Unit) (λJ y=>⟨[.sl .view 1 (bL d),.aB,.bool false,.ptr 0 0 0 0,.ptr 1 0 0 0]++un 12 ([dv J 0 (.agg (aH .view x)),dv J 1 (.agg (aH .view p)),dv J 2 (.agg (aH .view x)),dv J 3 (.bool true),dv J 4 (.bool false),dv J 5 (.bool false),dv J 6 (.agg (aH .view x)),dv J 7 (.agg (aH .view x)),dv J 8 (.agg (aH .view x)),dv J 9 (.bool true),dv J 10 (.bool false),dv J 11 (.bool false)]++un 69 []),[⟨true,true,22,0,[aH .view p]⟩,⟨true,true,22,0,[aH .view x]⟩]⟩) (()) (aP (by simp[un]) (by simp[dv,un])) ?_ ?_
  .simp only[wz,pS,un,cW,eA];exact⟨iv,iv,iv,iv,iv,iv,iv,iv,iv,iv,iv,iv⟩
  .rintro J y hJ;have hJs:∀i,i<12->J i=true:=hJ;simp only[dv,hJs,Nat.reduceLT,eS,gE,fS,cW,eA,eE,un];clear hJs hJ J;refine bZ ?_
   refine RV (ι:=Unit) (λJ y=>⟨[.sl .view 1 (bL d),.aB,.bool false,.ptr 0 0 0 0,.ptr 1 0 0 0]++un 24 ([dv J 0 (.ptr 1 0 0 21),dv J 1 (.bool x.dX),dv J 2 (.bool x.dX),dv J 3 (bif x.dX then .ptr 0 0 0 21 else .iL []),dv J 4 (bif x.dX then .bool p.dX else .iL []),dv J 5 (bif x.dX then .bool (!p.dX)else .iL []),dv J 6 (.bool A),dv J 7 (.bool A),dv J 8 (bif A then .agg (aH .view x)else .iL []),dv J 9 (bif A then .bool true else .iL []),dv J 10 (bif A then .bool false else .iL []),dv J 11 (bif A then .bool false else .iL []),dv J 12 (bif A then .agg (aH .view x)else .iL []),dv J 13 (bif A then .sl .view 5 (nn.map eG)else .iL []),dv J 14 (bif A then .int .i64 (nn.length:Int)else .iL []),dv J 15 (bif A then .bool false else .iL []),dv J 16 (bif A then .bool false else .iL []),dv J 17 (bif A then .bool false else .iL []),dv J 18 (bif A then .agg (aH .view x)else .iL []),dv J 19 (bif A then .sl .view 1 (dl.map nM)else .iL []),dv J 20 (bif A then .int .i64 (dl.length:Int)else .iL []),dv J 21 (bif A then .ptr 1 0 0 17 else .iL []),dv J 22 (bif A then .int .i64 x.eH else .iL []),dv J 23 (bif A then .bool false else .iL []),dv J 24 (bif A then .bool false else .iL []),dv J 25 (bif A then .bool false else .iL []),dv J 26 (bif A then .ptr 1 0 0 14 else .iL []),dv J 27 (bif A then .sl .view 2 (x.bJ.map aS)else .iL []),dv J 28 (bif A then .int .i64 (x.bJ.length:Int)else .iL []),dv J 29 (bif A then .ptr 1 0 0 18 else .iL []),dv J 30 (bif A then .int .i64 x.fA else .iL []),dv J 31 (bif A then .bool false else .iL []),dv J 32 (bif A then .bool false else .iL []),dv J 33 (bif A then .bool false else .iL []),dv J 34 (bif A then .agg (aH .view x)else .iL []),dv J 35 (bif A then .bool true else .iL []),dv J 36 (bif A then .bool false else .iL []),dv J 37 (bif A then .bool false else .iL []),dv J 38 (.bool false)]++un 30 []),[⟨true,true,22,0,[aH .view p]⟩,⟨true,true,22,0,[aH .view x]⟩]⟩) (()) (aP (by simp[un]) (by simp[dv,un])) ?_ ?_
   .simp only[wz,pS,un,cW,eA];refine⟨iv,iv,iv,?_,?_,?_,?_,iv,QA,?_,QA,QA,QA,QA,QA,?_,QA,QA,QA,QA,QA,QA,QA,?_,QA,QA,QA,QA,QA,QA,QA,?_,QA,QA,QA,?_,QA,QA,QA⟩
    .rintro J y hC hJ hP;simp[pre,Region.binds]at hP;cases hE:x.dX;all_goals (simp only[dv,hJ,hP,eS,gE,fS,hE,cY,eW];have W:=trivial)
     all_goals (repeat' first|refine st ?_|(refine nx ?_;refine so ?_)|fail)
     all_goals exact⟨y,aP (by simp[qX,hJ,hP,hE]) (by simp[dv,qX,hJ,hP,hE])⟩
    .rintro J y hC hJ hP;simp[pre,Region.binds]at hP;cases hE:x.dX;all_goals (simp only[dv,hJ,hP,eS,gE,fS,hE,cY,eW];have W:=trivial)
     all_goals (repeat' first|refine st ?_|(refine nx ?_;refine so ?_)|fail)
     all_goals exact⟨y,aP (by simp[qX,hJ,hP,hE]) (by simp[dv,qX,hJ,hP,hE])⟩
    .rintro J y hC hJ hP;simp[pre,Region.binds]at hP;cases hE:x.dX;all_goals (simp only[dv,hJ,hP,eS,gE,fS,hE,cY,eW];have W:=trivial)
     all_goals (repeat' first|refine st ?_|(refine nx ?_;refine so ?_)|fail)
     all_goals exact⟨y,aP (by simp[qX,hJ,hP,hE]) (by simp[dv,qX,hJ,hP,hE])⟩
    .rintro J y hC hJ hP;simp[pre,Region.binds]at hP;have Vu:A=(x.dX&& !p.dX):=hA;cases hE:x.dX;all_goals (simp only[dv,hJ,hP,eS,gE,fS,Vu,hE,cY,eW];have W:=trivial)
     all_goals (repeat' first|refine st ?_|(refine nx ?_;refine so ?_)|fail)
     all_goals exact⟨y,aP (by simp[qX,hJ,hP,Vu,hE]) (by simp[dv,qX,hJ,hP,Vu,hE])⟩
    .rintro J y hC hJ hP;simp[pre,Region.binds]at hP;have Vu:A=true->ip=true:=k1;cases A;all_goals (simp only[dv,hJ,hP,eS,gE,fS,Vu,cY,eW];have W:=trivial)
     all_goals (repeat' first|refine st ?_|(refine nx ?_;refine so ?_)|fail)
     all_goals exact⟨y,aP (by simp[qX,hJ,hP,Vu]) (by simp[dv,qX,hJ,hP,Vu])⟩
    .rintro J y hC hJ hP;simp[pre,Region.binds]at hP;have Vu:A=true->(nn.length:Int)=0:=k2;cases A;all_goals (simp only[dv,hJ,hP,eS,gE,fS,Vu,cY,eW];have W:=trivial)
     all_goals (repeat' first|refine st ?_|(refine nx ?_;refine so ?_)|fail)
     all_goals exact⟨y,aP (by simp[qX,hJ,hP,Vu]) (by simp[dv,qX,hJ,hP,Vu])⟩
    .rintro J y hC hJ hP;simp[pre,Region.binds]at hP;have Vu:A=true->¬x.eH<(dl.length:Int):=k3;cases A;all_goals (simp only[dv,hJ,hP,eS,gE,fS,Vu,cY,eW];have W:=trivial)
     all_goals (repeat' first|refine st ?_|(refine nx ?_;refine so ?_)|fail)
     all_goals exact⟨y,aP (by simp[qX,hJ,hP,Vu]) (by simp[dv,qX,hJ,hP,Vu])⟩
    .rintro J y hC hJ hP;simp[pre,Region.binds]at hP;have Vu:A=true->¬x.fA<(x.bJ.length:Int):=k4;cases A;all_goals (simp only[dv,hJ,hP,eS,gE,fS,Vu,cY,eW];have W:=trivial)
     all_goals (repeat' first|refine st ?_|(refine nx ?_;refine so ?_)|fail)
     all_goals exact⟨y,aP (by simp[qX,hJ,hP,Vu]) (by simp[dv,qX,hJ,hP,Vu])⟩
    .rintro J y hC hJ hP;simp[pre,Region.binds]at hP;have Vu:A=true->x.dX=true:=k5;cases A;all_goals (simp only[dv,hJ,hP,eS,gE,fS,Vu,cY,eW];have W:=trivial)
     all_goals (repeat' first|refine st ?_|(refine nx ?_;refine so ?_)|fail)
     all_goals exact⟨y,aP (by simp[qX,hJ,hP,Vu]) (by simp[dv,qX,hJ,hP,Vu])⟩
   .rintro J y hJ;have hJs:∀i,i<39->J i=true:=hJ;simp only[dv,hJs,Nat.reduceLT,eS,gE,fS,cW,eA,eE,un];clear hJs hJ J;clear c1 c2 c3 ci cc cn cd k1 k2 k3 k4 k5;refine bZ ?_;refine ce (cr) ?_;rintro _ ⟨u,a,r,rfl,hu,ha,hr⟩;simp only[AS.bW,AS.put,aU,aN,gT,dM,gN,dI,gW,dL,cH,cQ,eE,eA,cW];have ct1:=(NI u a r hu.on (by omega) (by omega) (by decide) (by decide) (by omega) (by omega)).Dk (r':= .agg (aH .view (lS u a r))) (by simp[rt]);have ct2:=(En u a r hu.on (by omega) (by omega) (by decide) (by decide) (by omega) (by omega)).Dk (r':= .agg (aH .view (lS u a r))) (by simp[rt]);have hv:=(XU a r hu.on (by omega) (by omega) (by decide)).sz.1;have e2:=Ke (lS u a r) (by omega);clear hv hu;generalize lS u a r=v at*;simp only[aH,aS,bR]at ct1 ct2 e2⊢;refine bZ ?_
    refine RV (ι:=Unit) (λJ y=>⟨[.sl .view 1 (bL d),.aB,dv J 15 (.bool true),.ptr 0 0 0 0,.ptr 1 0 0 0,.ptr 2 0 0 0,.bool false,.ptr 3 0 0 0,.ptr 4 0 0 0,.ptr 5 0 0 0,.ptr 6 0 0 0]++un 72 ([dv J 0 (.bool false),dv J 1 (.bool true),dv J 2 (.bool true),dv J 3 (.agg (aH .view x)),dv J 4 (.agg (aH .view x)),dv J 5 (.bool true),dv J 6 (.bool true),dv J 7 (.bool true),dv J 8 (.agg (aH .view v)),dv J 9 (.agg (aH .view u)),dv J 10 (.agg (aS a)),dv J 11 (.agg (bR r)),dv J 12 (.agg (aH .view v)),dv J 13 (.bool true),dv J 14 (.bool true)]),[⟨true,true,22,0,[aH .view p]⟩,⟨true,true,22,0,[aH .view x]⟩,⟨true,true,22,0,[aH .view x]⟩,⟨true,true,22,0,[aH .view u]⟩,⟨true,true,2,0,[aS a]⟩,⟨true,true,6,0,[bR r]⟩,⟨true,true,22,0,[aH .view v]⟩]⟩) (()) (aP (by simp[un]) (by simp[dv,un])) ?_ ?_
    .simp only[wz,pS,un,cW,eA];exact⟨iv,iv,iv,iv,iv,iv,iv,iv,iv,iv,iv,iv,iv,iv,iv,iv⟩
    .rintro J y hJ;have hJs:∀i,i<16->J i=true:=hJ;simp only[dv,hJs,Nat.reduceLT,eS,gE,fS,cW,eA,eE,un];clear hJs hJ J;refine bZ ?_;exact aO results3
end Go.Proofs.YtanobkmhbpjnpaaGreatDoor
