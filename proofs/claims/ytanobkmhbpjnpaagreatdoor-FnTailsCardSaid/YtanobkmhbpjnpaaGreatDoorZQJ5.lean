/- Steps. No condition. -/
import Derived.Test.YtanobkmhbpjnpaaGreatDoorZQJ2
import Derived.Test.YtanobkmhbpjnpaaGreatDoorZQMK6
set_option linter.all false
set_option maxRecDepth 4000
set_option maxHeartbeats 4000000
namespace Go.Proofs.YtanobkmhbpjnpaaGreatDoor
open Go.Aw Proofs.Tryz List IntKind
def Jn[aG prog][dG prog](s:bE)(c:UInt8)(hs:s.length<4294967281):Ok prog 124 [.str s,.str [c]] (.sl .own 1 ((dQ c s).map eD)):=Tj Tryz.laysM146 (by kernel_rfl) s c hs
def Uy[aG prog][dG prog](s p:bE)(hl:s.length<=1099511627776)(hp:p.length<=1099511627776):Ok prog 265 [.str s,.str p] (.str (if Dt p s=true then s.drop p.length else s)):=by
 have c1:=Mt s p hl hp;have h1:= @TD p s;generalize Dt p s=b at*;cases b
 .refine dN aK func265 ntmps265 ?_;refine bK ?_;exact aO results265
 .have h2:=h1 rfl;refine dN aK func265 ntmps265 ?_;have W:=h2;refine we ?_;exact aO results265
def U6(x:bE):tY x=if Dt qV x=true then x.drop qV.length else x:=by
 unfold tY;have e:qV.isPrefixOf x=Dt qV x:=by
  have h1:qV.isPrefixOf x=true↔Dt qV x=true:=by
   rw[isPrefixOf_iff_prefix,prefix_iff_eq_take];simp only[Dt,eK,fY,Ds];constructor
   .intro h;refine⟨?_,h.symm⟩;have:=As length h;rw[pL]at this;omega
   .intro h;exact h.2.symm
  cases h2:Dt qV x<;>cases h3:qV.isPrefixOf x<;>simp_all
 rw[e];rfl
def aDk(x:bE):(tY x).length<=x.length:=by unfold tY;split<;>simp
def Zh[aG prog][dG prog](x:bE)(hl:x.length<=1099511627776):Ok prog 244 [.str x,.str [110,111,110,99,101,32]] (.str (tY x)):=by have c1:Ok prog 265 [.str x,.str [110,111,110,99,101,32]] (.str (if Dt qV x=true then x.drop qV.length else x)):=Uy x qV hl (by decide);rw[<-U6]at c1;generalize tY x=n at*;refine dN aK func244 ntmps244 ?_;refine bK ?_;exact aO results244
def lY(k:Nat):List AV:=[if 0<k then .obj 3 2 else .sl .own 1 [],if 1<k then .obj 4 2 else .sl .own 1 [],if 2<k then .obj 5 2 else .sl .own 1 []]
def rE(a b c:List (List AV)):List aI:=[⟨true,false,1,2,a⟩,⟨true,false,1,2,b⟩,⟨true,false,1,2,c⟩]
def JB[aG prog][dG prog](s:bE)(hl:s.length<=1073741824):Ok prog 204 [.str s] (.iL [.agg (dA .own (xD tY s).1),.bool (xD tY s).2]):=by
 have c0:Ok prog 124 [.str s,.str [59]] (.sl .own 1 ((dQ 59 s).map eD)):=Jn s 59 (by omega);unfold xD;by_cases h0:s=[]
 .rw [eM h0];subst h0;refine Ia aK func204 ntmps204 ?_;refine bK ?_;all_goals (try first|(refine bA (.inl ?_);simp[bB,results204,yL];done)|(refine bA (.inr (iZ ?_));simp[AS.Cc,AS.Az,AS.rv,results204,yL]))
 rw[eC h0];by_cases h3:(dQ 59 s).length<3
 .rw [eM h3];have h3':((dQ 59 s).length:Int)<3:=by omega
  generalize dQ 59 s=L at*;refine Ia aK func204 ntmps204 ?_;have W:=aA h0 (aA h3' h3);have V:=h0;repeat' first|refine wf ?_|(refine sq ?_ ?_<;>intro hc<;>try exact hc.elim)|fail
  all_goals try(first|(refine⟨.inr rfl,.inl ?_⟩;simp[bB,results204,yL];done)|(refine⟨.inr rfl,.inr (iZ ?_)⟩;simp[AS.Cc,AS.Az,AS.rv,results204,yL];done)|(refine⟨.inr rfl,.inl ?_⟩;simp[bB,results204,yL]))
  all_goals first|exact absurd (by assumption) h0|omega
 rw[eC h3];have hz:=Lg tY aDk h3;have cf:=JA (uE tY s) (by omega);have cc:=JQ (uE tY s) (by omega);obtain⟨x0,x1,x2,r,hs⟩:∃x0 x1 x2 r,dQ 59 s=x0::x1::x2::r:=by
  match hs:dQ 59 s with
  |[]=>rw[hs]at h3;simp at h3
  |[_]=>rw[hs]at h3;simp at h3
  |[_,_]=>rw[hs]at h3;simp at h3
  |x0::x1::x2::r=>exact⟨x0,x1,x2,r,rfl⟩
 have m0:=uY (c:=59) (s:=s) (x:=x0) (by rw[hs];simp);have m1:=uY (c:=59) (s:=s) (x:=x1) (by rw[hs];simp);have m2:=uY (c:=59) (s:=s) (x:=x2) (by rw[hs];simp);have m3:∀x∈r,x.length<=s.length:=λx hx=>uY (c:=59) (s:=s) (x:=x) (by rw[hs];simp[hx])
 have hrl:r.length<=s.length:=by have:=kW 59 s;have h3:=qS (a:=(59:UInt8)) (l:=s);rw[hs]at this;simp at this;omega
 rw[hs]at c0;have e:=IB tY hs;have c1:Ok prog 124 [.str x0,.str [32]] (.sl .own 1 ((dQ 32 x0).map eD)):=Jn x0 32 (by omega);have c2:Ok prog 124 [.str x1,.str [32]] (.sl .own 1 ((dQ 32 x1).map eD)):=Jn x1 32 (by omega);have c3:Ok prog 124 [.str x2,.str [32]] (.sl .own 1 ((dQ 32 x2).map eD)):=Jn x2 32 (by omega);obtain⟨y0,t0,e0⟩:=Ax (sD 32 x0);obtain⟨y1,t1,e1⟩:=Ax (sD 32 x1);obtain⟨y2,t2,e2⟩:=Ax (sD 32 x2);rw[e0]at c1;rw[e1]at c2;rw[e2]at c3;rw[e0,e1,e2]at e;simp only[tail_cons]at e;clear hs m0 m1 m2 e0 e1 e2 h3 hz;have tk:∀(t:List bE),(t.map eD).take t.length=t.map eD:=λt=>eN (by simp)
 have lI:∀n,uE tY s=⟨true,t0,t1,t2,n⟩->Ok prog 245 [.agg [.bool true,.sl .view 1 (t0.map eD),.sl .view 1 (t1.map eD),.sl .view 1 (t2.map eD),.str n]] (.str (jI (uE tY s)))->
   Ok prog 51 [.agg [.bool true,.sl .view 1 (t0.map eD),.sl .view 1 (t1.map eD),.sl .view 1 (t2.map eD),.str n]] (.agg [.bool true,.sl .own 1 (t0.map eD),.sl .own 1 (t1.map eD),.sl .own 1 (t2.map eD),.str n])->
   Ok prog 204 [.str s] (if jI (uE tY s)=s then .iL [.agg [.bool true,.sl .own 1 (t0.map eD),.sl .own 1 (t1.map eD),.sl .own 1 (t2.map eD),.str n],.bool true]else .iL [.agg [.bool false,.sl .own 1 [],.sl .own 1 [],.sl .own 1 [],.str []],.bool false]):=by
  intro n hn cF cC;rw[e]at hn;simp only[gG.mk.injEq,true_and]at hn;clear cf cc;generalize jI (uE tY s)=F at*;clear e;subst hn;cases r with
  |nil=>
   simp only[getElem?_nil]at cF cC⊢;by_cases hF:F=s
   .rw [eM hF];refine Ia aK func204 ntmps204 ?_;have W:=aA h0 tk;have V:=aA h0 tk;repeat' first|refine wf ?_|(refine sq ?_ ?_<;>intro hc<;>try exact hc.elim)|fail
    all_goals first|exact absurd (by assumption) h0|(exfalso;omega)|skip
    refine aT (ι:={k:Nat // k<=3}) (λt o i=>⟨bP t [(18,.int .i64 i.1)],o.take 2++[⟨true,true,3,0,[lY i.1]⟩]++(rE (t0.map eD) (t1.map eD) (t2.map eD)).take i.1⟩)
     (λi=>3-i.1) ⟨0,by omega⟩ (aP (by simp[lY]) (by simp)) ?_
    rintro⟨k,hk⟩ K1 hK1;have hk4:k=0\/k=1\/k=2\/k=3:=by omega
    rcases hk4 with rfl|rfl|rfl|rfl
    .simp only[bP,cH,cQ,eV,gS,cW,eA,lY,rE,eE,rI,eW,eS,Nat.reduceLT]at hK1⊢;have W:=aA h0 tk;have V:=aA h0 tk;refine we ?_;exact hK1 _ ⟨1,by omega⟩ (aP (by simp[lY,rE]) (by simp)) (by simp only;omega)
    .simp only[bP,cH,cQ,eV,gS,cW,eA,lY,rE,eE,rI,eW,eS,Nat.reduceLT]at hK1⊢;have W:=aA h0 tk;have V:=aA h0 tk;refine we ?_;exact hK1 _ ⟨2,by omega⟩ (aP (by simp[lY,rE]) (by simp)) (by simp only;omega)
    .simp only[bP,cH,cQ,eV,gS,cW,eA,lY,rE,eE,rI,eW,eS,Nat.reduceLT]at hK1⊢;have W:=aA h0 tk;have V:=aA h0 tk;refine we ?_;exact hK1 _ ⟨3,by omega⟩ (aP (by simp[lY,rE]) (by simp)) (by simp only;omega)
    .simp only[bP,cH,cQ,eV,gS,cW,eA,lY,rE,eE,rI,eW,eS,Nat.reduceLT]at hK1⊢;have W:=aA h0 (aA tk hF);have V:=aA h0 tk;refine we ?_;all_goals try(first|(refine⟨.inr rfl,.inl ?_⟩;simp[bB,results204,hF];done)|(refine⟨.inr rfl,.inr (iZ ?_)⟩;simp[AS.Cc,AS.Az,AS.rv,results204,hF];done)|(refine⟨.inr rfl,.inl ?_⟩;simp[bB,results204,hF]))
     all_goals first|exact absurd (by assumption) h0|(exfalso;omega)|simp_all
   .rw [eC hF];refine Ia aK func204 ntmps204 ?_;have W:=aA h0 tk;have V:=aA h0 tk;repeat' first|refine wf ?_|(refine sq ?_ ?_<;>intro hc<;>try exact hc.elim)|fail
    all_goals first|exact absurd (by assumption) h0|(exfalso;omega)|skip
    refine aT (ι:={k:Nat // k<=3}) (λt o i=>⟨bP t [(18,.int .i64 i.1)],o.take 2++[⟨true,true,3,0,[lY i.1]⟩]++(rE (t0.map eD) (t1.map eD) (t2.map eD)).take i.1⟩)
     (λi=>3-i.1) ⟨0,by omega⟩ (aP (by simp[lY]) (by simp)) ?_
    rintro⟨k,hk⟩ K1 hK1;have hk4:k=0\/k=1\/k=2\/k=3:=by omega
    rcases hk4 with rfl|rfl|rfl|rfl
    .simp only[bP,cH,cQ,eV,gS,cW,eA,lY,rE,eE,rI,eW,eS,Nat.reduceLT]at hK1⊢;have W:=aA h0 tk;have V:=aA h0 tk;refine we ?_;exact hK1 _ ⟨1,by omega⟩ (aP (by simp[lY,rE]) (by simp)) (by simp only;omega)
    .simp only[bP,cH,cQ,eV,gS,cW,eA,lY,rE,eE,rI,eW,eS,Nat.reduceLT]at hK1⊢;have W:=aA h0 tk;have V:=aA h0 tk;refine we ?_;exact hK1 _ ⟨2,by omega⟩ (aP (by simp[lY,rE]) (by simp)) (by simp only;omega)
    .simp only[bP,cH,cQ,eV,gS,cW,eA,lY,rE,eE,rI,eW,eS,Nat.reduceLT]at hK1⊢;have W:=aA h0 tk;have V:=aA h0 tk;refine we ?_;exact hK1 _ ⟨3,by omega⟩ (aP (by simp[lY,rE]) (by simp)) (by simp only;omega)
    .simp only[bP,cH,cQ,eV,gS,cW,eA,lY,rE,eE,rI,eW,eS,Nat.reduceLT]at hK1⊢;have W:=aA h0 (aA tk hF);have V:=aA h0 tk;repeat' first|refine wf ?_|(refine sq ?_ ?_<;>intro hc<;>try exact hc.elim)|fail
     all_goals try(first|(refine⟨.inr rfl,.inl ?_⟩;simp[bB,results204,hF];done)|(refine⟨.inr rfl,.inr (iZ ?_)⟩;simp[AS.Cc,AS.Az,AS.rv,results204,hF];done)|(refine⟨.inr rfl,.inl ?_⟩;simp[bB,results204,hF]))
     all_goals first|exact absurd (by assumption) h0|(exfalso;omega)|simp_all
  |cons x r=>
   simp only[sR]at cF cC⊢;have c4:=Zh x (by have:=m3 x (by simp);omega);by_cases hF:F=s
   .rw [eM hF];refine Ia aK func204 ntmps204 ?_;have W:=aA h0 tk;have V:=aA h0 tk;repeat' first|refine wf ?_|(refine sq ?_ ?_<;>intro hc<;>try exact hc.elim)|fail
    all_goals first|exact absurd (by assumption) h0|(exfalso;omega)|skip
    refine aT (ι:={k:Nat // k<=3}) (λt o i=>⟨bP t [(18,.int .i64 i.1)],o.take 2++[⟨true,true,3,0,[lY i.1]⟩]++(rE (t0.map eD) (t1.map eD) (t2.map eD)).take i.1⟩)
     (λi=>3-i.1) ⟨0,by omega⟩ (aP (by simp[lY]) (by simp)) ?_
    rintro⟨k,hk⟩ K1 hK1;have hk4:k=0\/k=1\/k=2\/k=3:=by omega
    rcases hk4 with rfl|rfl|rfl|rfl
    .simp only[bP,cH,cQ,eV,gS,cW,eA,lY,rE,eE,rI,eW,eS,Nat.reduceLT]at hK1⊢;have W:=aA h0 tk;have V:=aA h0 tk;refine we ?_;exact hK1 _ ⟨1,by omega⟩ (aP (by simp[lY,rE]) (by simp)) (by simp only;omega)
    .simp only[bP,cH,cQ,eV,gS,cW,eA,lY,rE,eE,rI,eW,eS,Nat.reduceLT]at hK1⊢;have W:=aA h0 tk;have V:=aA h0 tk;refine we ?_;exact hK1 _ ⟨2,by omega⟩ (aP (by simp[lY,rE]) (by simp)) (by simp only;omega)
    .simp only[bP,cH,cQ,eV,gS,cW,eA,lY,rE,eE,rI,eW,eS,Nat.reduceLT]at hK1⊢;have W:=aA h0 tk;have V:=aA h0 tk;refine we ?_;exact hK1 _ ⟨3,by omega⟩ (aP (by simp[lY,rE]) (by simp)) (by simp only;omega)
    .simp only[bP,cH,cQ,eV,gS,cW,eA,lY,rE,eE,rI,eW,eS,Nat.reduceLT]at hK1⊢;have W:=aA h0 (aA tk hF);have V:=aA h0 tk;refine we ?_;all_goals try(first|(refine⟨.inr rfl,.inl ?_⟩;simp[bB,results204,hF];done)|(refine⟨.inr rfl,.inr (iZ ?_)⟩;simp[AS.Cc,AS.Az,AS.rv,results204,hF];done)|(refine⟨.inr rfl,.inl ?_⟩;simp[bB,results204,hF]))
     all_goals first|exact absurd (by assumption) h0|(exfalso;omega)|simp_all
   .rw [eC hF];refine Ia aK func204 ntmps204 ?_;have W:=aA h0 tk;have V:=aA h0 tk;repeat' first|refine wf ?_|(refine sq ?_ ?_<;>intro hc<;>try exact hc.elim)|fail
    all_goals first|exact absurd (by assumption) h0|(exfalso;omega)|skip
    refine aT (ι:={k:Nat // k<=3}) (λt o i=>⟨bP t [(18,.int .i64 i.1)],o.take 2++[⟨true,true,3,0,[lY i.1]⟩]++(rE (t0.map eD) (t1.map eD) (t2.map eD)).take i.1⟩)
     (λi=>3-i.1) ⟨0,by omega⟩ (aP (by simp[lY]) (by simp)) ?_
    rintro⟨k,hk⟩ K1 hK1;have hk4:k=0\/k=1\/k=2\/k=3:=by omega
    rcases hk4 with rfl|rfl|rfl|rfl
    .simp only[bP,cH,cQ,eV,gS,cW,eA,lY,rE,eE,rI,eW,eS,Nat.reduceLT]at hK1⊢;have W:=aA h0 tk;have V:=aA h0 tk;refine we ?_;exact hK1 _ ⟨1,by omega⟩ (aP (by simp[lY,rE]) (by simp)) (by simp only;omega)
    .simp only[bP,cH,cQ,eV,gS,cW,eA,lY,rE,eE,rI,eW,eS,Nat.reduceLT]at hK1⊢;have W:=aA h0 tk;have V:=aA h0 tk;refine we ?_;exact hK1 _ ⟨2,by omega⟩ (aP (by simp[lY,rE]) (by simp)) (by simp only;omega)
    .simp only[bP,cH,cQ,eV,gS,cW,eA,lY,rE,eE,rI,eW,eS,Nat.reduceLT]at hK1⊢;have W:=aA h0 tk;have V:=aA h0 tk;refine we ?_;exact hK1 _ ⟨3,by omega⟩ (aP (by simp[lY,rE]) (by simp)) (by simp only;omega)
    .simp only[bP,cH,cQ,eV,gS,cW,eA,lY,rE,eE,rI,eW,eS,Nat.reduceLT]at hK1⊢;have W:=aA h0 (aA tk hF);have V:=aA h0 tk;repeat' first|refine wf ?_|(refine sq ?_ ?_<;>intro hc<;>try exact hc.elim)|fail
     all_goals try(first|(refine⟨.inr rfl,.inl ?_⟩;simp[bB,results204,hF];done)|(refine⟨.inr rfl,.inr (iZ ?_)⟩;simp[AS.Cc,AS.Az,AS.rv,results204,hF];done)|(refine⟨.inr rfl,.inl ?_⟩;simp[bB,results204,hF]))
     all_goals first|exact absurd (by assumption) h0|(exfalso;omega)|simp_all
 have hcp:=lI _ e (by rw[e]at cf⊢;simpa only[dA]using cf) (by rw[e]at cc;simpa only[dA]using cc);by_cases hF:jI (uE tY s)=s
 .rw [eM hF]at hcp⊢;rw[e];simpa only[dA]using hcp
 .rw [eC hF]at hcp⊢;simpa only[dA,yL,GC]using hcp
def lF(x:bG):Bool:=
 (decide (100<=x.qQ)&&decide (x.qQ<=599))&&(decide (1<=x.kind)&&decide (x.kind<=5))&&decide (x.body.length<=400)&&(decide (0<=x.dm)&&decide (x.dm<=1000))&&(kC x.bO).2
def Lh[aG prog][dG prog](s:bE)(hl:s.length<=1073741824):Ok prog 204 [.str s] (.iL [.agg (dA .own (kC s).1),.bool (kC s).2]):=by have h:=JB s hl;rw[S9 s]at h;exact h
def Ah[aG prog][dG prog](x:bG)(hl:dC x<=1073741824):Ok prog 154 [.agg (bR x)] (.bool (lF x)):=by
 simp only[dC]at hl;have c0:Ok prog 213 [.str x.bO] (.iL [.agg (dA .view (kC x.bO).1),.bool (kC x.bO).2]):=Dl x.bO (by omega);have c1:=jG x.qQ 100 599;have c2:=jG x.kind 1 5;have c3:=jG x.dm 0 1000;have e:decide (x.body.length<=400)=decide ((x.body.length:Int)<=400):=by simp only[sC];omega
 unfold lF;rw[e];generalize (decide (100<=x.qQ)&&decide (x.qQ<=599))=b1 at*;generalize (decide (1<=x.kind)&&decide (x.kind<=5))=b2 at*;generalize (decide (0<=x.dm)&&decide (x.dm<=1000))=b3 at*;generalize (kC x.bO).1=q at*;generalize (kC x.bO).2=b4 at*;simp only[dA]at c0;refine dN aK func154 ntmps154 ?_;have W:=trivial;repeat' first|refine wf ?_|(refine sq ?_ ?_<;>intro hc<;>try exact hc.elim)|fail
 all_goals try(refine bA ?_;simp[bB,results154])
 all_goals first|(simp_all;done)|(simp_all;omega)|(simp_all;intros;omega)
def Nl[aG prog][dG prog](x:bG)(hl:dC x<=1073741824):Ok prog 148 [.agg (bR x)] (.bool (lF x)):=by
 simp only[dC]at hl;have c0:=Lh x.bO (by omega);have c1:=mM x.qQ 100 599;have c2:=mM x.kind 1 5;have c3:=mM x.dm 0 1000;have e:decide (x.body.length<=400)=decide ((x.body.length:Int)<=400):=by simp only[sC];omega
 unfold lF;rw[e];generalize (decide (100<=x.qQ)&&decide (x.qQ<=599))=b1 at*;generalize (decide (1<=x.kind)&&decide (x.kind<=5))=b2 at*;generalize (decide (0<=x.dm)&&decide (x.dm<=1000))=b3 at*;generalize (kC x.bO).1=q at*;generalize (kC x.bO).2=b4 at*;simp only[dA]at c0;refine dN aK func148 ntmps148 ?_;have W:=trivial;repeat' first|refine wf ?_|(refine sq ?_ ?_<;>intro hc<;>try exact hc.elim)|fail
 all_goals try(refine bA ?_;simp[bB,results148])
 all_goals first|(simp_all;done)|(simp_all;omega)|(simp_all;intros;omega)
def pU:bC:=⟨[⟨[112,97,103,101],[], -1,[]⟩],[0]⟩
def Nn[aG prog][dG prog]:Ok prog 238 [] (.agg (aZ .own pU)):=by
 refine dN aK func238 ntmps238 ?_;have W:=trivial;repeat' first|refine st ?_|(refine nx ?_;first|refine se ?_|refine so ?_)|(refine cx ?_;refine sc (λhc=>?_) (λhc=>?_)<;>try exact hc.elim)|(refine lx ?_;refine sp (λhc=>?_) (λhc=>?_)<;>try exact hc.elim)|refine sx ?_ ?_|refine sy ?_ ?_|fail
 all_goals try(refine bA ?_;simp[bB,results238,pU])
def Ai:aF:=⟨⟨[],[]⟩,yL,⟨[]⟩,[],false,⟨[],[]⟩,[],[],[],0,0,0,0,[],[],false⟩
def EB(a:aR)(p:gG):aF:=⟨a,p,⟨[]⟩,[],false,pU,[],[],[],0,0,0,0,[],[],false⟩
def sG(a:aR)(x:bG):aF×Bool:=
 if xV a=true/\lF x=true/\x.qQ=200/\x.kind=1 then(EB a (kC x.bO).1,true)else(Ai,false)
def U9(a:aR)(x:bG):sG a x=if (!xV a || !lF x || !decide (x.qQ=200) || !decide (x.kind=1))=true then(Ai,false)else(EB a (kC x.bO).1,true):=by unfold sG;cases xV a<;>cases lF x<;>by_cases h1:x.qQ=200<;>by_cases h2:x.kind=1<;>simp[h1,h2]
def Uz[aG prog][dG prog](a:aR)(x:bG)(ha:aW a <= 1073741824)(hl:dC x <= 1073741824): Ok prog 195 [.agg (aS a), .agg (bR x)] (.iL [.agg (aH .view (sG a x).1), .bool (sG a x).2]) := by
  have c1 := yF a (by omega);simp only[aW]at ha;have c2 := Ah x hl;have c4 := Nn;have hb:lF x = true -> (kC x.bO).2 = true := by
    intro h;simp only[lF, eK]at h;exact h.2
  simp only[dC]at hl;have c3:Ok prog 213 [.str x.bO] (.iL [.agg (dA .view (kC x.bO).1), .bool (kC x.bO).2]) := Dl x.bO (by omega);simp only[aS]at c1;simp only[bR]at c2;simp only[dA]at c3;simp only[aZ, pU, oE, GC, gU, nM]at c4;rw[U9];generalize xV a = b1 at*;generalize lF x = b2 at*;generalize (kC x.bO).1 = q at*;generalize (kC x.bO).2 = b4 at*;have bad:(b1 = false \/ b2 = false \/ x.qQ ≠ 200 \/ x.kind ≠ 1) -> Ok prog 195 [.agg (aS a), .agg (bR x)] (.iL [.agg (aH .own Ai), .bool false]) := by
    intro h;by_cases h1:x.qQ = 200 <;> by_cases h2:x.kind = 1 <;> cases b1 <;> cases b2 <;> cases b4;all_goals first
      | exact(Bool.false_ne_true (hb rfl)).elim
      | (exfalso; simp_all; done)
      | ((try rw[h1]at c2)
         (try rw[h2]at c2)
         refine Wl aK func195 ntmps195 ?_;have W := aA h1 h2;repeat' first|refine st ?_|(refine nx ?_;first|refine se ?_|refine so ?_)|(refine cx ?_;refine sc (λhc=>?_) (λhc=>?_)<;>try exact hc.elim)|(refine lx ?_;refine sp (λhc=>?_) (λhc=>?_)<;>try exact hc.elim)|refine sx ?_ ?_|refine sy ?_ ?_|fail
         all_goals try(first | (refine⟨.inr rfl, .inl ?_⟩; simp[qK, results195, Ai, yL, h1, h2]; done) | (refine⟨.inr rfl, .inr (tZ ?_)⟩; simp[AS.Cc, AS.Az, AS.rv, results195, Ai, yL, h1, h2]; done) | (refine⟨.inr rfl, .inl ?_⟩; simp[qK, results195, Ai, yL, h1, h2]))
         done)
  have Bn:b1 = true -> b2 = true -> x.qQ = 200 -> x.kind = 1 -> Ok prog 195 [.agg (aS a), .agg (bR x)] (.iL [.agg [.str a.bN, .str a.iD, .bool q.zD, .sl .view 1 (q.iN.map eD), .sl .view 1 (q.kH.map eD), .sl .view 1 (q.kJ.map eD), .str q.uC, .str [], .sl .own 4 [], .bool false, .sl .own 4 [[.str [112, 97, 103, 101], .str [], .int .i64 (-1), .sl .own 2 []]], .sl .own 1 [[.int .i64 0]], .sl .own 8 [], .sl .own 5 [], .sl .own 2 [], .int .i64 0, .int .i64 0, .int .i64 0, .int .i64 0, .sl .own 2 [], .sl .own 1 [], .bool false], .bool true]) := by
    intro h1 h2 h3 h4;have hb' := hb h2;subst h1; subst h2; subst hb';rw[h3, h4]at c2;refine Wl aK func195 ntmps195 ?_;have W := aA h3 h4;repeat' first|refine st ?_|(refine nx ?_;first|refine se ?_|refine so ?_)|(refine cx ?_;refine sc (λhc=>?_) (λhc=>?_)<;>try exact hc.elim)|(refine lx ?_;refine sp (λhc=>?_) (λhc=>?_)<;>try exact hc.elim)|refine sx ?_ ?_|refine sy ?_ ?_|fail
    all_goals try(first | (refine⟨.inr rfl, .inl ?_⟩; simp[qK, results195, h3, h4]; done) | (refine⟨.inr rfl, .inr (tZ ?_)⟩; simp[AS.Cc, AS.Az, AS.rv, results195, h3, h4]; done) | (refine⟨.inr rfl, .inl ?_⟩; simp[qK, results195, h3, h4]))
  by_cases hc:(!b1 || !b2 || !decide (x.qQ = 200) || !decide (x.kind = 1)) = true
  · rw[eM hc]
    refine(bad ?_).Dk (by simp[rt, tJ, lW, Ai, yL]);simp only[sA, AW, sL]at hc;rcases hc with((h | h) | h) | h
    · exact .inl h
    · exact .inr (.inl h)
    · exact .inr (.inr (.inl h))
    · exact .inr (.inr (.inr h))
  · rw[eC hc]
    simp only[sA, AW, sL, not_or, Bool.not_eq_false, Decidable.not_not]at hc;exact(Bn hc.1.1.1 hc.1.1.2 hc.1.2 hc.2).Dk (by simp[rt, tJ, lW, EB, pU])
end Go.Proofs.YtanobkmhbpjnpaaGreatDoor
