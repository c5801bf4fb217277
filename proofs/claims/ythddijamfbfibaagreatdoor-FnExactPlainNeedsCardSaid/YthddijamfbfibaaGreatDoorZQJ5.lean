/- Proved here: steps towards the statement of this claim. No condition. -/
import Derived.Test.YthddijamfbfibaaGreatDoorZQU8
import Derived.Test.YthddijamfbfibaaGreatDoorZJ4
set_option linter.all false
set_option maxRecDepth 4000
set_option maxHeartbeats 4000000
namespace Go.Proofs.YthddijamfbfibaaGreatDoor
open Go.Aw Proofs.Tryz List IntKind
theorem IB[aB prog][bQ prog](s:bB)(c:UInt8)(hs:s.length<4294967281):Ok prog 150 [.str s,.str [c]] (.sl .own 1 ((dE c s).map dC)):=SE Tryz.laysM146 (by kernel_rfl) s c hs
theorem Ty[aB prog][bQ prog](s p:bB)(hl:s.length<=1099511627776)(hp:p.length<=1099511627776):Ok prog 206 [.str s,.str p] (.str (if CJ p s=true then s.drop p.length else s)):=by
 have c1:=LP s p hl hp;have h1:= @Tx p s;generalize CJ p s=b at*;cases b
 .refine bM aG func206 ntmps206 ?_;refine aZ ?_;exact aF results206
 .have h2:=h1 rfl;refine bM aG func206 ntmps206 ?_;have W:=h2;refine we ?_;exact aF results206
theorem G9(x:bB):rY x=if CJ pI x=true then x.drop pI.length else x:=by
 unfold rY;have e:pI.isPrefixOf x=CJ pI x:=by
  have h1:pI.isPrefixOf x=true↔CJ pI x=true:=by
   rw[isPrefixOf_iff_prefix,prefix_iff_eq_take];simp only[CJ,eI,fN,tP];constructor
   .intro h;refine⟨?_,h.symm⟩;have:=zE length h;rw[oT]at this;omega
   .intro h;exact h.2.symm
  cases h2:CJ pI x<;>cases h3:pI.isPrefixOf x<;>simp_all
 rw[e];rfl
theorem aCk(x:bB):(rY x).length<=x.length:=by unfold rY;split<;>simp
theorem Zh[aB prog][bQ prog](x:bB)(hl:x.length<=1099511627776):Ok prog 151 [.str x,.str [110,111,110,99,101,32]] (.str (rY x)):=by have c1:Ok prog 206 [.str x,.str [110,111,110,99,101,32]] (.str (if CJ pI x=true then x.drop pI.length else x)):=Ty x pI hl (by decide);rw[<-G9]at c1;generalize rY x=n at*;refine bM aG func151 ntmps151 ?_;refine aZ ?_;exact aF results151
def jN(k:Nat):List AV:=[if 0<k then .obj 3 2 else .sl .own 1 [],if 1<k then .obj 4 2 else .sl .own 1 [],if 2<k then .obj 5 2 else .sl .own 1 []]
def pU(a b c:List (List AV)):List aN:=[⟨true,false,1,2,a⟩,⟨true,false,1,2,b⟩,⟨true,false,1,2,c⟩]
theorem IW[aB prog][bQ prog](s:bB)(hl:s.length<=1073741824):Ok prog 93 [.str s] (.gM [.agg (bN .own (vJ rY s).1),.bool (vJ rY s).2]):=by
 have c0:Ok prog 150 [.str s,.str [59]] (.sl .own 1 ((dE 59 s).map dC)):=IB s 59 (by omega);unfold vJ;by_cases h0:s=[]
 .rw [eK h0];subst h0;refine xZ aG func93 ntmps93 ?_;refine aZ ?_;all_goals (try first|(refine aR (.inl ?_);simp[aP,results93,oV];done)|(refine aR (.inr (dN ?_));simp[AS.yO,AS.wY,AS.rv,results93,oV]))
 rw[cY h0];by_cases h3:(dE 59 s).length<3
 .rw [eK h3];have h3':((dE 59 s).length:Int)<3:=by omega
  generalize dE 59 s=L at*;refine xZ aG func93 ntmps93 ?_;have W:=aA h0 (aA h3' h3);have V:=h0;repeat' first|refine wf ?_|(refine sq ?_ ?_<;>intro hc<;>try exact hc.elim)|fail
  all_goals try(first|(refine⟨.inr rfl,.inl ?_⟩;simp[aP,results93,oV];done)|(refine⟨.inr rfl,.inr (dN ?_)⟩;simp[AS.yO,AS.wY,AS.rv,results93,oV];done)|(refine⟨.inr rfl,.inl ?_⟩;simp[aP,results93,oV]))
  all_goals first|exact absurd (by assumption) h0|omega
 rw[cY h3];have hz:=Kt rY aCk h3;have cf:=IV (sH rY s) (by omega);have cc:=Jp (sH rY s) (by omega);obtain⟨x0,x1,x2,r,hs⟩:∃x0 x1 x2 r,dE 59 s=x0::x1::x2::r:=by
  match hs:dE 59 s with
  |[]=>rw[hs]at h3;simp at h3
  |[_]=>rw[hs]at h3;simp at h3
  |[_,_]=>rw[hs]at h3;simp at h3
  |x0::x1::x2::r=>exact⟨x0,x1,x2,r,rfl⟩
 have m0:=sZ (c:=59) (s:=s) (x:=x0) (by rw[hs];simp);have m1:=sZ (c:=59) (s:=s) (x:=x1) (by rw[hs];simp);have m2:=sZ (c:=59) (s:=s) (x:=x2) (by rw[hs];simp);have m3:∀x∈r,x.length<=s.length:=λx hx=>sZ (c:=59) (s:=s) (x:=x) (by rw[hs];simp[hx])
 have hrl:r.length<=s.length:=by have:=iV 59 s;have h3:=pP (a:=(59:UInt8)) (l:=s);rw[hs]at this;simp at this;omega
 rw[hs]at c0;have e:=GM rY hs;have c1:Ok prog 150 [.str x0,.str [32]] (.sl .own 1 ((dE 32 x0).map dC)):=IB x0 32 (by omega);have c2:Ok prog 150 [.str x1,.str [32]] (.sl .own 1 ((dE 32 x1).map dC)):=IB x1 32 (by omega);have c3:Ok prog 150 [.str x2,.str [32]] (.sl .own 1 ((dE 32 x2).map dC)):=IB x2 32 (by omega);obtain⟨y0,t0,e0⟩:=An (rH 32 x0);obtain⟨y1,t1,e1⟩:=An (rH 32 x1);obtain⟨y2,t2,e2⟩:=An (rH 32 x2);rw[e0]at c1;rw[e1]at c2;rw[e2]at c3;rw[e0,e1,e2]at e;simp only[tail_cons]at e;clear hs m0 m1 m2 e0 e1 e2 h3 hz;have tk:∀(t:List bB),(t.map dC).take t.length=t.map dC:=λt=>cX (by simp)
 have jK:∀n,sH rY s=⟨true,t0,t1,t2,n⟩->Ok prog 152 [.agg [.bool true,.sl .view 1 (t0.map dC),.sl .view 1 (t1.map dC),.sl .view 1 (t2.map dC),.str n]] (.str (iX (sH rY s)))->
   Ok prog 153 [.agg [.bool true,.sl .view 1 (t0.map dC),.sl .view 1 (t1.map dC),.sl .view 1 (t2.map dC),.str n]] (.agg [.bool true,.sl .own 1 (t0.map dC),.sl .own 1 (t1.map dC),.sl .own 1 (t2.map dC),.str n])->
   Ok prog 93 [.str s] (if iX (sH rY s)=s then .gM [.agg [.bool true,.sl .own 1 (t0.map dC),.sl .own 1 (t1.map dC),.sl .own 1 (t2.map dC),.str n],.bool true]else .gM [.agg [.bool false,.sl .own 1 [],.sl .own 1 [],.sl .own 1 [],.str []],.bool false]):=by
  intro n hn cF cC;rw[e]at hn;simp only[eX.mk.injEq,true_and]at hn;clear cf cc;generalize iX (sH rY s)=F at*;clear e;subst hn;cases r with
  |nil=>
   simp only[getElem?_nil]at cF cC⊢;by_cases hF:F=s
   .rw [eK hF];refine xZ aG func93 ntmps93 ?_;have W:=aA h0 tk;have V:=aA h0 tk;repeat' first|refine wf ?_|(refine sq ?_ ?_<;>intro hc<;>try exact hc.elim)|fail
    all_goals first|exact absurd (by assumption) h0|(exfalso;omega)|skip
    refine aM (ι:={k:Nat // k<=3}) (λt o i=>⟨bC t [(18,.int .i64 i.1)],o.take 2++[⟨true,true,3,0,[jN i.1]⟩]++(pU (t0.map dC) (t1.map dC) (t2.map dC)).take i.1⟩)
     (λi=>3-i.1) ⟨0,by omega⟩ (aK (by simp[jN]) (by simp)) ?_
    rintro⟨k,hk⟩ K1 hK1;have hk4:k=0\/k=1\/k=2\/k=3:=by omega
    rcases hk4 with rfl|rfl|rfl|rfl
    .simp only[bC,cW,cU,eL,fW,eA,eM,jN,pU,fX,pZ,hM,gE,Nat.reduceLT]at hK1⊢;have W:=aA h0 tk;have V:=aA h0 tk;refine we ?_;exact hK1 _ ⟨1,by omega⟩ (aK (by simp[jN,pU]) (by simp)) (by simp only;omega)
    .simp only[bC,cW,cU,eL,fW,eA,eM,jN,pU,fX,pZ,hM,gE,Nat.reduceLT]at hK1⊢;have W:=aA h0 tk;have V:=aA h0 tk;refine we ?_;exact hK1 _ ⟨2,by omega⟩ (aK (by simp[jN,pU]) (by simp)) (by simp only;omega)
    .simp only[bC,cW,cU,eL,fW,eA,eM,jN,pU,fX,pZ,hM,gE,Nat.reduceLT]at hK1⊢;have W:=aA h0 tk;have V:=aA h0 tk;refine we ?_;exact hK1 _ ⟨3,by omega⟩ (aK (by simp[jN,pU]) (by simp)) (by simp only;omega)
    .simp only[bC,cW,cU,eL,fW,eA,eM,jN,pU,fX,pZ,hM,gE,Nat.reduceLT]at hK1⊢;have W:=aA h0 (aA tk hF);have V:=aA h0 tk;refine we ?_;all_goals try(first|(refine⟨.inr rfl,.inl ?_⟩;simp[aP,results93,hF];done)|(refine⟨.inr rfl,.inr (dN ?_)⟩;simp[AS.yO,AS.wY,AS.rv,results93,hF];done)|(refine⟨.inr rfl,.inl ?_⟩;simp[aP,results93,hF]))
     all_goals first|exact absurd (by assumption) h0|(exfalso;omega)|simp_all
   .rw [cY hF];refine xZ aG func93 ntmps93 ?_;have W:=aA h0 tk;have V:=aA h0 tk;repeat' first|refine wf ?_|(refine sq ?_ ?_<;>intro hc<;>try exact hc.elim)|fail
    all_goals first|exact absurd (by assumption) h0|(exfalso;omega)|skip
    refine aM (ι:={k:Nat // k<=3}) (λt o i=>⟨bC t [(18,.int .i64 i.1)],o.take 2++[⟨true,true,3,0,[jN i.1]⟩]++(pU (t0.map dC) (t1.map dC) (t2.map dC)).take i.1⟩)
     (λi=>3-i.1) ⟨0,by omega⟩ (aK (by simp[jN]) (by simp)) ?_
    rintro⟨k,hk⟩ K1 hK1;have hk4:k=0\/k=1\/k=2\/k=3:=by omega
    rcases hk4 with rfl|rfl|rfl|rfl
    .simp only[bC,cW,cU,eL,fW,eA,eM,jN,pU,fX,pZ,hM,gE,Nat.reduceLT]at hK1⊢;have W:=aA h0 tk;have V:=aA h0 tk;refine we ?_;exact hK1 _ ⟨1,by omega⟩ (aK (by simp[jN,pU]) (by simp)) (by simp only;omega)
    .simp only[bC,cW,cU,eL,fW,eA,eM,jN,pU,fX,pZ,hM,gE,Nat.reduceLT]at hK1⊢;have W:=aA h0 tk;have V:=aA h0 tk;refine we ?_;exact hK1 _ ⟨2,by omega⟩ (aK (by simp[jN,pU]) (by simp)) (by simp only;omega)
    .simp only[bC,cW,cU,eL,fW,eA,eM,jN,pU,fX,pZ,hM,gE,Nat.reduceLT]at hK1⊢;have W:=aA h0 tk;have V:=aA h0 tk;refine we ?_;exact hK1 _ ⟨3,by omega⟩ (aK (by simp[jN,pU]) (by simp)) (by simp only;omega)
    .simp only[bC,cW,cU,eL,fW,eA,eM,jN,pU,fX,pZ,hM,gE,Nat.reduceLT]at hK1⊢;have W:=aA h0 (aA tk hF);have V:=aA h0 tk;repeat' first|refine wf ?_|(refine sq ?_ ?_<;>intro hc<;>try exact hc.elim)|fail
     all_goals try(first|(refine⟨.inr rfl,.inl ?_⟩;simp[aP,results93,hF];done)|(refine⟨.inr rfl,.inr (dN ?_)⟩;simp[AS.yO,AS.wY,AS.rv,results93,hF];done)|(refine⟨.inr rfl,.inl ?_⟩;simp[aP,results93,hF]))
     all_goals first|exact absurd (by assumption) h0|(exfalso;omega)|simp_all
  |cons x r=>
   simp only[tE]at cF cC⊢;have c4:=Zh x (by have:=m3 x (by simp);omega);by_cases hF:F=s
   .rw [eK hF];refine xZ aG func93 ntmps93 ?_;have W:=aA h0 tk;have V:=aA h0 tk;repeat' first|refine wf ?_|(refine sq ?_ ?_<;>intro hc<;>try exact hc.elim)|fail
    all_goals first|exact absurd (by assumption) h0|(exfalso;omega)|skip
    refine aM (ι:={k:Nat // k<=3}) (λt o i=>⟨bC t [(18,.int .i64 i.1)],o.take 2++[⟨true,true,3,0,[jN i.1]⟩]++(pU (t0.map dC) (t1.map dC) (t2.map dC)).take i.1⟩)
     (λi=>3-i.1) ⟨0,by omega⟩ (aK (by simp[jN]) (by simp)) ?_
    rintro⟨k,hk⟩ K1 hK1;have hk4:k=0\/k=1\/k=2\/k=3:=by omega
    rcases hk4 with rfl|rfl|rfl|rfl
    .simp only[bC,cW,cU,eL,fW,eA,eM,jN,pU,fX,pZ,hM,gE,Nat.reduceLT]at hK1⊢;have W:=aA h0 tk;have V:=aA h0 tk;refine we ?_;exact hK1 _ ⟨1,by omega⟩ (aK (by simp[jN,pU]) (by simp)) (by simp only;omega)
    .simp only[bC,cW,cU,eL,fW,eA,eM,jN,pU,fX,pZ,hM,gE,Nat.reduceLT]at hK1⊢;have W:=aA h0 tk;have V:=aA h0 tk;refine we ?_;exact hK1 _ ⟨2,by omega⟩ (aK (by simp[jN,pU]) (by simp)) (by simp only;omega)
    .simp only[bC,cW,cU,eL,fW,eA,eM,jN,pU,fX,pZ,hM,gE,Nat.reduceLT]at hK1⊢;have W:=aA h0 tk;have V:=aA h0 tk;refine we ?_;exact hK1 _ ⟨3,by omega⟩ (aK (by simp[jN,pU]) (by simp)) (by simp only;omega)
    .simp only[bC,cW,cU,eL,fW,eA,eM,jN,pU,fX,pZ,hM,gE,Nat.reduceLT]at hK1⊢;have W:=aA h0 (aA tk hF);have V:=aA h0 tk;refine we ?_;all_goals try(first|(refine⟨.inr rfl,.inl ?_⟩;simp[aP,results93,hF];done)|(refine⟨.inr rfl,.inr (dN ?_)⟩;simp[AS.yO,AS.wY,AS.rv,results93,hF];done)|(refine⟨.inr rfl,.inl ?_⟩;simp[aP,results93,hF]))
     all_goals first|exact absurd (by assumption) h0|(exfalso;omega)|simp_all
   .rw [cY hF];refine xZ aG func93 ntmps93 ?_;have W:=aA h0 tk;have V:=aA h0 tk;repeat' first|refine wf ?_|(refine sq ?_ ?_<;>intro hc<;>try exact hc.elim)|fail
    all_goals first|exact absurd (by assumption) h0|(exfalso;omega)|skip
    refine aM (ι:={k:Nat // k<=3}) (λt o i=>⟨bC t [(18,.int .i64 i.1)],o.take 2++[⟨true,true,3,0,[jN i.1]⟩]++(pU (t0.map dC) (t1.map dC) (t2.map dC)).take i.1⟩)
     (λi=>3-i.1) ⟨0,by omega⟩ (aK (by simp[jN]) (by simp)) ?_
    rintro⟨k,hk⟩ K1 hK1;have hk4:k=0\/k=1\/k=2\/k=3:=by omega
    rcases hk4 with rfl|rfl|rfl|rfl
    .simp only[bC,cW,cU,eL,fW,eA,eM,jN,pU,fX,pZ,hM,gE,Nat.reduceLT]at hK1⊢;have W:=aA h0 tk;have V:=aA h0 tk;refine we ?_;exact hK1 _ ⟨1,by omega⟩ (aK (by simp[jN,pU]) (by simp)) (by simp only;omega)
    .simp only[bC,cW,cU,eL,fW,eA,eM,jN,pU,fX,pZ,hM,gE,Nat.reduceLT]at hK1⊢;have W:=aA h0 tk;have V:=aA h0 tk;refine we ?_;exact hK1 _ ⟨2,by omega⟩ (aK (by simp[jN,pU]) (by simp)) (by simp only;omega)
    .simp only[bC,cW,cU,eL,fW,eA,eM,jN,pU,fX,pZ,hM,gE,Nat.reduceLT]at hK1⊢;have W:=aA h0 tk;have V:=aA h0 tk;refine we ?_;exact hK1 _ ⟨3,by omega⟩ (aK (by simp[jN,pU]) (by simp)) (by simp only;omega)
    .simp only[bC,cW,cU,eL,fW,eA,eM,jN,pU,fX,pZ,hM,gE,Nat.reduceLT]at hK1⊢;have W:=aA h0 (aA tk hF);have V:=aA h0 tk;repeat' first|refine wf ?_|(refine sq ?_ ?_<;>intro hc<;>try exact hc.elim)|fail
     all_goals try(first|(refine⟨.inr rfl,.inl ?_⟩;simp[aP,results93,hF];done)|(refine⟨.inr rfl,.inr (dN ?_)⟩;simp[AS.yO,AS.wY,AS.rv,results93,hF];done)|(refine⟨.inr rfl,.inl ?_⟩;simp[aP,results93,hF]))
     all_goals first|exact absurd (by assumption) h0|(exfalso;omega)|simp_all
 have hcp:=jK _ e (by rw[e]at cf⊢;simpa only[bN]using cf) (by rw[e]at cc;simpa only[bN]using cc);by_cases hF:iX (sH rY s)=s
 .rw [eK hF]at hcp⊢;rw[e];simpa only[bN]using hcp
 .rw [cY hF]at hcp⊢;simpa only[bN,oV,DG]using hcp
def fQ(x:bA):Bool:=
 (decide (100<=x.status)&&decide (x.status<=599))&&(decide (1<=x.kind)&&decide (x.kind<=5))&&decide (x.body.length<=400)&&(decide (0<=x.Gw)&&decide (x.Gw<=1000))&&(fT x.bD).2
theorem Ca[aB prog][bQ prog](s:bB)(hl:s.length<=1073741824):Ok prog 93 [.str s] (.gM [.agg (bN .own (fT s).1),.bool (fT s).2]):=by have h:=IW s hl;rw[F3 s]at h;exact h
theorem rM[aB prog][bQ prog](x:bA)(hl:bG x<=1073741824):Ok prog 69 [.agg (bF x)] (.bool (fQ x)):=by
 simp only[bG]at hl;have c0:Ok prog 68 [.str x.bD] (.gM [.agg (bN .view (fT x.bD).1),.bool (fT x.bD).2]):=BZ x.bD (by omega);have c1:=gH x.status 100 599;have c2:=gH x.kind 1 5;have c3:=gH x.Gw 0 1000;have e:decide (x.body.length<=400)=decide ((x.body.length:Int)<=400):=by simp only[sR];omega
 unfold fQ;rw[e];generalize (decide (100<=x.status)&&decide (x.status<=599))=b1 at*;generalize (decide (1<=x.kind)&&decide (x.kind<=5))=b2 at*;generalize (decide (0<=x.Gw)&&decide (x.Gw<=1000))=b3 at*;generalize (fT x.bD).1=q at*;generalize (fT x.bD).2=b4 at*;simp only[bN]at c0;refine bM aG func69 ntmps69 ?_;have W:=trivial;repeat' first|refine wf ?_|(refine sq ?_ ?_<;>intro hc<;>try exact hc.elim)|fail
 all_goals try(refine aR ?_;simp[aP,results69])
 all_goals first|(simp_all;done)|(simp_all;omega)|(simp_all;intros;omega)
theorem uZ[aB prog][bQ prog](x:bA)(hl:bG x<=1073741824):Ok prog 92 [.agg (bF x)] (.bool (fQ x)):=by
 simp only[bG]at hl;have c0:=Ca x.bD (by omega);have c1:=jR x.status 100 599;have c2:=jR x.kind 1 5;have c3:=jR x.Gw 0 1000;have e:decide (x.body.length<=400)=decide ((x.body.length:Int)<=400):=by simp only[sR];omega
 unfold fQ;rw[e];generalize (decide (100<=x.status)&&decide (x.status<=599))=b1 at*;generalize (decide (1<=x.kind)&&decide (x.kind<=5))=b2 at*;generalize (decide (0<=x.Gw)&&decide (x.Gw<=1000))=b3 at*;generalize (fT x.bD).1=q at*;generalize (fT x.bD).2=b4 at*;simp only[bN]at c0;refine bM aG func92 ntmps92 ?_;have W:=trivial;repeat' first|refine wf ?_|(refine sq ?_ ?_<;>intro hc<;>try exact hc.elim)|fail
 all_goals try(refine aR ?_;simp[aP,results92])
 all_goals first|(simp_all;done)|(simp_all;omega)|(simp_all;intros;omega)
def mR:bE:=⟨[⟨[112,97,103,101],[], -1,[]⟩],[0]⟩
theorem LQ[aB prog][bQ prog]:Ok prog 94 [] (.agg (aV .own mR)):=by
 refine bM aG func94 ntmps94 ?_;have W:=trivial;repeat' first|refine st ?_|(refine nx ?_;first|refine se ?_|refine so ?_)|(refine cx ?_;refine sc (λhc=>?_) (λhc=>?_)<;>try exact hc.elim)|(refine lx ?_;refine sp (λhc=>?_) (λhc=>?_)<;>try exact hc.elim)|refine sx ?_ ?_|refine sy ?_ ?_|fail
 all_goals try(refine aR ?_;simp[aP,results94,mR])
theorem LU[aB prog][bQ prog]:Ok prog 70 [] (.agg (aV .own mR)):=by
 refine bM aG func70 ntmps70 ?_;have W:=trivial;repeat' first|refine st ?_|(refine nx ?_;first|refine se ?_|refine so ?_)|(refine cx ?_;refine sc (λhc=>?_) (λhc=>?_)<;>try exact hc.elim)|(refine lx ?_;refine sp (λhc=>?_) (λhc=>?_)<;>try exact hc.elim)|refine sx ?_ ?_|refine sy ?_ ?_|fail
 all_goals try(refine aR ?_;simp[aP,results70,mR])
def qR:aI:=⟨⟨[],[]⟩,oV,⟨[]⟩,[],false,⟨[],[]⟩,[],[],[],0,0,0,0,[],[],false⟩
def Cb(a:aD)(p:eX):aI:=⟨a,p,⟨[]⟩,[],false,mR,[],[],[],0,0,0,0,[],[],false⟩
def dQ(a:aD)(x:bA):aI×Bool:=
 if pG a=true/\fQ x=true/\x.status=200/\x.kind=1 then(Cb a (fT x.bD).1,true)else(qR,false)
theorem Tz(a:aD)(x:bA):dQ a x=if (!pG a || !fQ x || !decide (x.status=200) || !decide (x.kind=1))=true then(qR,false)else(Cb a (fT x.bD).1,true):=by unfold dQ;cases pG a<;>cases fQ x<;>by_cases h1:x.status=200<;>by_cases h2:x.kind=1<;>simp[h1,h2]
theorem TA[aB prog][bQ prog](a:aD)(x:bA)(ha:aQ a<=1073741824)(hl:bG x<=1073741824):Ok prog 49 [.agg (aH a),.agg (bF x)] (.gM [.agg (aJ .own (dQ a x).1),.bool (dQ a x).2]):=by
 have c1:=rX a (by omega);simp only[aQ]at ha;have c2:=uZ x hl;have c4:=LQ;simp only[bG]at hl;have c3:=Ca x.bD (by omega);simp only[aH]at c1;simp only[bF]at c2;simp only[bN]at c3;simp only[aV,mR,mB,DG,fA,mM]at c4;rw[Tz];generalize pG a=b1 at*;generalize fQ x=b2 at*;generalize (fT x.bD).1=q at*;generalize (fT x.bD).2=b4 at*;by_cases h1:x.status=200<;>by_cases h2:x.kind=1<;>cases b1<;>cases b2;all_goals simp only[h1,h2,CT,decide_false,DQ,Ge,Bool.or_true,Bool.or_false,Bool.true_or,Bool.false_or,eS,gE,hM]
 all_goals (
  (try rw[h1]at c2)
  (try rw[h2]at c2)
  refine xZ aG func49 ntmps49 ?_;have W:=aA h1 h2;repeat' first|refine st ?_|(refine nx ?_;first|refine se ?_|refine so ?_)|(refine cx ?_;refine sc (λhc=>?_) (λhc=>?_)<;>try exact hc.elim)|(refine lx ?_;refine sp (λhc=>?_) (λhc=>?_)<;>try exact hc.elim)|refine sx ?_ ?_|refine sy ?_ ?_|fail
  all_goals try(first|(refine⟨.inr rfl,.inl ?_⟩;simp[aP,results49,qR,oV,Cb,mR,h1,h2];done)|(refine⟨.inr rfl,.inr (dN ?_)⟩;simp[AS.yO,AS.wY,AS.rv,results49,qR,oV,Cb,mR,h1,h2];done)|(refine⟨.inr rfl,.inl ?_⟩;simp[aP,results49,qR,oV,Cb,mR,h1,h2]))
  skip)
theorem TB[aB prog][bQ prog](a:aD)(x:bA)(ha:aQ a <= 1073741824)(hl:bG x <= 1073741824): Ok prog 38 [.agg (aH a), .agg (bF x)] (.gM [.agg (aJ .view (dQ a x).1), .bool (dQ a x).2]) := by
  have c1 := rW a (by omega);simp only[aQ]at ha;have c2 := rM x hl;have c4 := LU;have hb:fQ x = true -> (fT x.bD).2 = true := by
    intro h;simp only[fQ, eI]at h;exact h.2
  simp only[bG]at hl;have c3:Ok prog 68 [.str x.bD] (.gM [.agg (bN .view (fT x.bD).1), .bool (fT x.bD).2]) := BZ x.bD (by omega);simp only[aH]at c1;simp only[bF]at c2;simp only[bN]at c3;simp only[aV, mR, mB, DG, fA, mM]at c4;rw[Tz];generalize pG a = b1 at*;generalize fQ x = b2 at*;generalize (fT x.bD).1 = q at*;generalize (fT x.bD).2 = b4 at*;have bad:(b1 = false \/ b2 = false \/ x.status ≠ 200 \/ x.kind ≠ 1) -> Ok prog 38 [.agg (aH a), .agg (bF x)] (.gM [.agg (aJ .own qR), .bool false]) := by
    intro h;by_cases h1:x.status = 200 <;> by_cases h2:x.kind = 1 <;> cases b1 <;> cases b2 <;> cases b4;all_goals first
      | exact(Bool.false_ne_true (hb rfl)).elim
      | (exfalso; simp_all; done)
      | ((try rw[h1]at c2)
         (try rw[h2]at c2)
         refine Wh aG func38 ntmps38 ?_;have W := aA h1 h2;repeat' first|refine st ?_|(refine nx ?_;first|refine se ?_|refine so ?_)|(refine cx ?_;refine sc (λhc=>?_) (λhc=>?_)<;>try exact hc.elim)|(refine lx ?_;refine sp (λhc=>?_) (λhc=>?_)<;>try exact hc.elim)|refine sx ?_ ?_|refine sy ?_ ?_|fail
         all_goals try(first | (refine⟨.inr rfl, .inl ?_⟩; simp[qQ, results38, qR, oV, h1, h2]; done) | (refine⟨.inr rfl, .inr (rZ ?_)⟩; simp[AS.yO, AS.wY, AS.rv, results38, qR, oV, h1, h2]; done) | (refine⟨.inr rfl, .inl ?_⟩; simp[qQ, results38, qR, oV, h1, h2]))
         done)
  have yC:b1 = true -> b2 = true -> x.status = 200 -> x.kind = 1 -> Ok prog 38 [.agg (aH a), .agg (bF x)] (.gM [.agg [.str a.host, .str a.path, .bool q.isSet, .sl .view 1 (q.fC.map dC), .sl .view 1 (q.gY.map dC), .sl .view 1 (q.gZ.map dC), .str q.tQ, .str [], .sl .own 4 [], .bool false, .sl .own 4 [[.str [112, 97, 103, 101], .str [], .int .i64 (-1), .sl .own 2 []]], .sl .own 1 [[.int .i64 0]], .sl .own 8 [], .sl .own 5 [], .sl .own 2 [], .int .i64 0, .int .i64 0, .int .i64 0, .int .i64 0, .sl .own 2 [], .sl .own 1 [], .bool false], .bool true]) := by
    intro h1 h2 h3 h4;have hb' := hb h2;subst h1; subst h2; subst hb';rw[h3, h4]at c2;refine Wh aG func38 ntmps38 ?_;have W := aA h3 h4;repeat' first|refine st ?_|(refine nx ?_;first|refine se ?_|refine so ?_)|(refine cx ?_;refine sc (λhc=>?_) (λhc=>?_)<;>try exact hc.elim)|(refine lx ?_;refine sp (λhc=>?_) (λhc=>?_)<;>try exact hc.elim)|refine sx ?_ ?_|refine sy ?_ ?_|fail
    all_goals try(first | (refine⟨.inr rfl, .inl ?_⟩; simp[qQ, results38, h3, h4]; done) | (refine⟨.inr rfl, .inr (rZ ?_)⟩; simp[AS.yO, AS.wY, AS.rv, results38, h3, h4]; done) | (refine⟨.inr rfl, .inl ?_⟩; simp[qQ, results38, h3, h4]))
  by_cases hc:(!b1 || !b2 || !decide (x.status = 200) || !decide (x.kind = 1)) = true
  · rw[eK hc]
    refine(bad ?_).EY (by simp[rt, xO, mX, qR, oV]);simp only[rL, FF, pA]at hc;rcases hc with((h | h) | h) | h
    · exact .inl h
    · exact .inr (.inl h)
    · exact .inr (.inr (.inl h))
    · exact .inr (.inr (.inr h))
  · rw[cY hc]
    simp only[rL, FF, pA, not_or, Bool.not_eq_false, Decidable.not_not]at hc;exact(yC hc.1.1.1 hc.1.1.2 hc.1.2 hc.2).EY (by simp[rt, xO, mX, Cb, mR])
end Go.Proofs.YthddijamfbfibaaGreatDoor
