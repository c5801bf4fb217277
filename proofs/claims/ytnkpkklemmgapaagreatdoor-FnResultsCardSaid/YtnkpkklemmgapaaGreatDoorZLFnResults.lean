/-
  Proved here: steps towards the statement of this claim, text LFnResults.
  No condition beyond what each statement spells out.
-/
import Derived.Test.YtnkpkklemmgapaaGreatDoorZQADSB
set_option linter.all false
set_option maxRecDepth 8000
set_option maxHeartbeats 8000000
namespace Go.Proofs.YtnkpkklemmgapaaGreatDoor
open Go.Aw Proofs.Tryz List IntKind
theorem SK[aB prog][dY prog][eO prog][pM prog](d:List UInt8)(hwd:d.length<=9223372036854775807):Ok prog 3 [.sl .view 1 (bA d)] (.bool true):=by
 have cb:=aMs d hwd;have cq:=Gu d;have cde:=LY d;refine BO aO [12] func3 ntmps3 ?_;have W:=trivial;repeat' first|refine st ?_|(refine nx ?_;refine so ?_)|(refine cx ?_;refine sc (λhc=>?_) (λhc=>?_)<;>try exact hc.elim)|(refine lx ?_;refine sp (λhc=>?_) (λhc=>?_)<;>try exact hc.elim)|refine sx ?_ ?_|refine sy ?_ ?_|fail
 .all_goals (try exact aR results3)
 .refine ce (cq) ?_;rintro _ ⟨p,rfl,hp⟩;simp only[AS.called,AS.put,aJ,aH,eU,bS,eQ,bQ,eZ,bR,cH,cJ,eC,cY,cW];obtain⟨z1,z2,z3⟩:=AR hp;obtain⟨j1,j2,j3,j4,_⟩:=Jh p;have c1:=(Oa p (by omega) (by omega) (λx hx=>by have:=j1 x hx;omega) (by omega)).Dt (r':= .agg (dC .view (bZ p))) (by simp[rt]);have c2:=(DZ p (by omega) (by omega) (λx hx=>by have:=j1 x hx;omega) (by omega)).Dt (r':= .agg (dC .view (bZ p))) (by simp[rt]);obtain⟨y1,_,_,_,_⟩:=Ji p z1 (by omega);have e1:=zI (bZ p) (bZ p) y1;rw[Bm rfl]at e1;have hsz:bV iU p.aF<=30000000/\bV gK p.builder.nodes<=30000000:=by simp only[aM,aS]at z1;omega
  have hbl:=hp.bo.len;have cc:=(Ob p (by omega) (by omega)).Dt (r':= .sl .view 1 ((AQ p).map lI)) (by simp[rt]);have f1:=BG p.builder (by omega) hp.bo.rg.1;have f2:=BF p.builder (by omega) hp.bo.rg.1;have hv:(bZ p).dV.length=p.aF.length+p.aN.length:=(Nn p).2;have Ea:(AQ p).length=p.builder.nodes.length:=KN _ _ _;have hcg:=λ(i:Nat) (h:i<p.builder.nodes.length)=>qo p i h
  have ca:=λ(a:Int)=>Rm [fZ (bF p)] p.builder a (by simp) (λx hx=>by simp only[nF]at hx;subst hx;omega) (by omega)
  simp only[KO]at ca;have U0:(bZ p).sN=fZ (bF p):=rfl;rw[<-U0]at ca;clear U0 j1 j2 j3 j4 y1;generalize bZ p=R at*;generalize hC:AQ p=C at*;generalize bF p=S at*;simp only[aQ]at c1 c2 cc⊢;have W:=trivial;repeat' first|refine st ?_|(refine nx ?_;refine so ?_)|(refine cx ?_;refine sc (λhc=>?_) (λhc=>?_)<;>try exact hc.elim)|(refine lx ?_;refine sp (λhc=>?_) (λhc=>?_)<;>try exact hc.elim)|refine sx ?_ ?_|refine sy ?_ ?_|fail
  refine ce (cde) ?_;rintro _ ⟨pa,pb,rfl,ha,hb⟩;simp only[AS.called,AS.put,aJ,aH,eU,bS,eQ,bQ,eZ,bR,cH,cJ,eC,cY,cW];obtain⟨a1,a2,a3⟩:=AR ha;obtain⟨b1,b2,b3⟩:=AR hb;obtain⟨ya,_,_,_,_⟩:=Ji pa a1 (by omega);obtain⟨yb,_,_,_,_⟩:=Ji pb b1 (by omega);have ra:EE (bZ pa):=⟨ha.bo.rg,yx pa λn=>by have:=vU pa n;unfold Sd;omega⟩;have rb:EE (bZ pb):=⟨hb.bo.rg,yx pb λn=>by have:=vU pb n;unfold Sd;omega⟩;have q1:=zI (bZ pa) (bZ pb) ya;have q2:=Gw (bZ pa) (bZ pb) ya;have g1:=zH (bZ pa) ya ra;have g2:=zH (bZ pb) yb rb;have g3:=Gv (bZ pa) ya ra;have hde:decide (bZ pa=bZ pb)=true->pG (bZ pa)=pG (bZ pb):=λh=>by rw[EV h]
  clear ya yb ra rb a1 a2 a3 b1 b2 b3 ha hb;generalize decide (bZ pa=bZ pb)=eb at*;generalize pG (bZ pa)=dA at*;generalize pG (bZ pb)=dB at*;generalize bZ pa=A at*;generalize bZ pb=B at*;simp only[dC];have W:=trivial;repeat' first|refine st ?_|(refine nx ?_;refine so ?_)|(refine cx ?_;refine sc (λhc=>?_) (λhc=>?_)<;>try exact hc.elim)|(refine lx ?_;refine sp (λhc=>?_) (λhc=>?_)<;>try exact hc.elim)|refine sx ?_ ?_|refine sy ?_ ?_|fail
  refine aI (ι:={i:Nat // i<=C.length}) (λt o i=>⟨[.sl .view 1 (bA d),.undef,.bool false,.ptr 0 0 0 0,.ptr 1 0 0 0,.ptr 2 0 0 0,.ptr 3 0 0 0,.sl .view 1 (C.map lI),.int .i64 (i.1:Int),.undef,.undef,.undef,.undef,.undef,.undef,.undef,.undef,.undef,.undef,.undef,.undef,.undef,.undef,.undef,.undef,.undef,.undef,.undef,.undef,.undef,.undef,.undef,.undef,.undef,.undef,.undef,.undef,.undef,.undef,.undef,.undef,.undef,.undef,.undef,.undef,.undef,.undef,.undef,.undef,.undef,.undef,.undef,.undef,.undef,.undef,.undef,.undef,.undef,.undef,.undef,.undef,.undef,.undef,.undef,.undef,.undef,.undef,.undef,.undef,.undef,.undef,.undef,.undef,.undef,.undef,.undef,.undef,.undef,.undef,.undef,.undef,.undef,.undef,.undef,.undef,.undef,.undef,.undef,.undef,.undef,.undef,.undef,.undef,.undef,.undef,.undef,.undef,.undef,.undef,.undef,.undef,.undef,.undef,.undef],[⟨true,true,22,0,[aQ .view p]⟩,⟨true,true,6,0,[dC .view R]⟩,⟨true,true,6,0,[dC .view A]⟩,⟨true,true,6,0,[dC .view B]⟩]⟩)
   (λi=>C.length-i.1) ⟨0,by simp⟩ (aL 4 (by simp[aQ])) ?_
  rintro⟨i,hi⟩ K1 hK1;have hK2:=hK1;simp only at hK1⊢;clear hK1;have hi1:i64.wrap ((i:Int)+1)=((i+1:Nat):Int):=by rw[wrap64]<;>omega
  by_cases hlt:i<C.length
  .have hii:(i:Int)<(C.length:Int):=by omega
   have hg:=hcg i (by omega);have ci:=ca (i:Int);generalize jS S p.builder.nodes 40 (i:Int)=v at*;clear ca hcg q1 q2 g1 g2 g3 hde f1 f2 e1 c2 cc;simp only[aQ,dC,aW,lA,Ds,bX]at ci⊢;have W:=aA hii hg;repeat' first|refine st ?_|(refine nx ?_;refine so ?_)|(refine cx ?_;refine sc (λhc=>?_) (λhc=>?_)<;>try exact hc.elim)|(refine lx ?_;refine sp (λhc=>?_) (λhc=>?_)<;>try exact hc.elim)|refine sx ?_ ?_|refine sy ?_ ?_|fail
   refine hK2 _ ⟨i+1,by omega⟩ (aL 4 (by simp[aQ])) (by simp only;omega)
  .have hii:¬(i:Int)<(C.length:Int):=by omega
   clear hK2 ca hcg;have hw:i64.wrap ((p.aF.length:Int)+(p.aN.length:Int))=(R.dV.length:Int):=by rw[hv,wrap64]<;>omega
   clear c1 cc cb cq cde hv;have W:=hii;repeat' first|refine st ?_|(refine nx ?_;refine so ?_)|(refine cx ?_;refine sc (λhc=>?_) (λhc=>?_)<;>try exact hc.elim)|(refine lx ?_;refine sp (λhc=>?_) (λhc=>?_)<;>try exact hc.elim)|refine sx ?_ ?_|refine sy ?_ ?_|fail
   refine yw (ι:=Unit) (λJ y=>⟨[.sl .view 1 (bA d),.undef,dv J 64 (.bool true),.ptr 0 0 0 0,.ptr 1 0 0 0,.ptr 2 0 0 0,.ptr 3 0 0 0,.sl .view 1 (C.map lI),.undef,.undef,.undef,.undef,.undef,.undef,.undef,.undef,.undef,.undef,.undef,.undef,.undef,.undef,.undef,.undef,.undef,.undef,.undef,.undef,.undef,.undef,.undef,.undef,.undef,.undef,.undef,.undef,.undef,.undef,.undef,.undef,dv J 0 (.agg (dC .view R)),dv J 1 (.agg (aQ .view p)),dv J 2 (.agg (dC .view R)),dv J 3 (.bool true),dv J 4 (.bool true),dv J 5 (.ptr 1 0 0 3),dv J 6 (.sl .view 1 (R.dV.map dQ)),dv J 7 (.int .i64 (R.dV.length:Int)),dv J 8 (.ptr 0 0 0 12),dv J 9 (.sl .view 8 (p.aF.map xC)),dv J 10 (.int .i64 (p.aF.length:Int)),dv J 11 (.ptr 0 0 0 13),dv J 12 (.sl .view 5 (p.aN.map lT)),dv J 13 (.int .i64 (p.aN.length:Int)),dv J 14 (.int .i64 (R.dV.length:Int)),dv J 15 (.bool true),dv J 16 (.bool true),dv J 17 (.bool true),dv J 18 (.sl .view 1 (C.map lI)),dv J 19 (.int .i64 (C.length:Int)),dv J 20 (.ptr 0 0 0 10),dv J 21 (.ptr 0 0 0 10),dv J 22 (.sl .view 4 (p.builder.nodes.map (fC .view))),dv J 23 (.int .i64 (p.builder.nodes.length:Int)),dv J 24 (.bool true),dv J 25 (.bool true),dv J 26 (.bool true),dv J 27 (.agg (dC .view A)),dv J 28 (.agg (dC .view B)),dv J 29 (.bool eb),dv J 30 (.agg (dC .view A)),dv J 31 (.agg (dC .view B)),dv J 32 (.bool eb),dv J 33 (.bool true),dv J 34 (.bool true),dv J 35 (.bool true),dv J 36 (.agg (dC .view A)),dv J 37 (.agg (dC .view B)),dv J 38 (.bool eb),dv J 39 (.bool (!eb)),dv J 40 (.bool (!eb)),dv J 41 (bif eb then .agg (dC .view A)else .iP []),dv J 42 (bif eb then .int .i64 dA else .iP []),dv J 43 (bif eb then .agg (dC .view B)else .iP []),dv J 44 (bif eb then .int .i64 dB else .iP []),dv J 45 (bif eb then .bool true else .iP []),dv J 46 (.bool true),dv J 47 (.bool true),dv J 48 (.bool true),dv J 49 (.agg (dC .view A)),dv J 50 (.int .i64 dA),dv J 51 (.agg (dC .view A)),dv J 52 (.int .i64 dA),dv J 53 (.bool true),dv J 54 (.bool true),dv J 55 (.bool true),dv J 56 (.ptr 0 0 0 10),dv J 57 (.agg (aW .view p.builder)),dv J 58 (.str (jE p.builder)),dv J 59 (.ptr 0 0 0 10),dv J 60 (.agg (aW .view p.builder)),dv J 61 (.str (jE p.builder)),dv J 62 (.bool true),dv J 63 (.bool true)],[⟨true,true,22,0,[aQ .view p]⟩,⟨true,true,6,0,[dC .view R]⟩,⟨true,true,6,0,[dC .view A]⟩,⟨true,true,6,0,[dC .view B]⟩]⟩) (()) (aG (by simp) (by simp[dv])) ?_ ?_
   .simp only[Q5,qT];refine⟨?_,?_,?_,?_,?_,?_,?_,?_,?_,?_,?_,?_,?_,?_,?_,?_,?_,?_,?_,?_,?_,?_,?_,?_,?_,?_,?_,?_,?_,?_,?_,?_,?_,?_,?_,?_,?_,?_,?_,?_,?_,?_,?_,?_,?_,?_,?_,?_,?_,?_,?_,?_,?_,?_,?_,?_,?_,?_,?_,?_,?_,?_,?_,?_,?_⟩
    .rintro J y hC hJ hP;simp[pre,Region.binds]at hP;simp only[dv,hJ,hP,eV,fY,fN,cX,eS];have W:=trivial;repeat' first|refine st ?_|(refine nx ?_;refine so ?_)|fail
     exact⟨y,aG (by simp[eT,hJ,hP]) (by simp[dv,eT,hJ,hP])⟩
    .rintro J y hC hJ hP;simp[pre,Region.binds]at hP;simp only[dv,hJ,hP,eV,fY,fN,cX,eS];have W:=trivial;repeat' first|refine st ?_|(refine nx ?_;refine so ?_)|fail
     exact⟨y,aG (by simp[eT,hJ,hP]) (by simp[dv,eT,hJ,hP])⟩
    .rintro J y hC hJ hP;simp[pre,Region.binds]at hP;simp only[dv,hJ,hP,eV,fY,fN,cX,eS];have W:=trivial;repeat' first|refine st ?_|(refine nx ?_;refine so ?_)|fail
     exact⟨y,aG (by simp[eT,hJ,hP]) (by simp[dv,eT,hJ,hP])⟩
    .rintro J y hC hJ hP;simp[pre,Region.binds]at hP;simp only[dv,hJ,hP,eV,fY,fN,cX,eS];have W:=trivial;repeat' first|refine st ?_|(refine nx ?_;refine so ?_)|fail
     exact⟨y,aG (by simp[eT,hJ,hP]) (by simp[dv,eT,hJ,hP])⟩
    .rintro J y hC hJ hP;simp[pre,Region.binds]at hP;simp only[dv,hJ,hP,eV,fY,fN,cX,eS];have W:=trivial;repeat' first|refine st ?_|(refine nx ?_;refine so ?_)|fail
     exact⟨y,aG (by simp[eT,hJ,hP]) (by simp[dv,eT,hJ,hP])⟩
    .rintro J y hC hJ hP;simp[pre,Region.binds]at hP;simp only[dv,hJ,hP,eV,fY,fN,cX,eS];have W:=trivial;repeat' first|refine st ?_|(refine nx ?_;refine so ?_)|fail
     exact⟨y,aG (by simp[eT,hJ,hP]) (by simp[dv,eT,hJ,hP])⟩
    .rintro J y hC hJ hP;simp[pre,Region.binds]at hP;simp only[dv,hJ,hP,eV,fY,fN,cX,eS];have W:=trivial;repeat' first|refine st ?_|(refine nx ?_;refine so ?_)|fail
     exact⟨y,aG (by simp[eT,hJ,hP]) (by simp[dv,eT,hJ,hP])⟩
    .rintro J y hC hJ hP;simp[pre,Region.binds]at hP;simp only[dv,hJ,hP,eV,fY,fN,cX,eS];have W:=trivial;repeat' first|refine st ?_|(refine nx ?_;refine so ?_)|fail
     exact⟨y,aG (by simp[eT,hJ,hP]) (by simp[dv,eT,hJ,hP])⟩
    .rintro J y hC hJ hP;simp[pre,Region.binds]at hP;simp only[dv,hJ,hP,eV,fY,fN,cX,eS];have W:=trivial;repeat' first|refine st ?_|(refine nx ?_;refine so ?_)|fail
     exact⟨y,aG (by simp[eT,hJ,hP]) (by simp[dv,eT,hJ,hP])⟩
    .rintro J y hC hJ hP;simp[pre,Region.binds]at hP;simp only[dv,hJ,hP,eV,fY,fN,cX,eS];have W:=trivial;repeat' first|refine st ?_|(refine nx ?_;refine so ?_)|fail
     exact⟨y,aG (by simp[eT,hJ,hP]) (by simp[dv,eT,hJ,hP])⟩
    .rintro J y hC hJ hP;simp[pre,Region.binds]at hP;simp only[dv,hJ,hP,eV,fY,fN,cX,eS];have W:=trivial;repeat' first|refine st ?_|(refine nx ?_;refine so ?_)|fail
     exact⟨y,aG (by simp[eT,hJ,hP]) (by simp[dv,eT,hJ,hP])⟩
    .rintro J y hC hJ hP;simp[pre,Region.binds]at hP;simp only[dv,hJ,hP,eV,fY,fN,cX,eS];have W:=trivial;repeat' first|refine st ?_|(refine nx ?_;refine so ?_)|fail
     exact⟨y,aG (by simp[eT,hJ,hP]) (by simp[dv,eT,hJ,hP])⟩
    .rintro J y hC hJ hP;simp[pre,Region.binds]at hP;simp only[dv,hJ,hP,eV,fY,fN,cX,eS];have W:=trivial;repeat' first|refine st ?_|(refine nx ?_;refine so ?_)|fail
     exact⟨y,aG (by simp[eT,hJ,hP]) (by simp[dv,eT,hJ,hP])⟩
    .rintro J y hC hJ hP;simp[pre,Region.binds]at hP;simp only[dv,hJ,hP,eV,fY,fN,cX,eS];have W:=trivial;repeat' first|refine st ?_|(refine nx ?_;refine so ?_)|fail
     exact⟨y,aG (by simp[eT,hJ,hP]) (by simp[dv,eT,hJ,hP])⟩
    .rintro J y hC hJ hP;simp[pre,Region.binds]at hP;simp only[dv,hJ,hP,eV,fY,fN,cX,eS];have W:=hw;repeat' first|refine st ?_|(refine nx ?_;refine so ?_)|fail
     exact⟨y,aG (by simp[eT,hJ,hP]) (by simp[dv,eT,hJ,hP])⟩
    .rintro J y hC hJ hP;simp[pre,Region.binds]at hP;simp only[dv,hJ,hP,eV,fY,fN,cX,eS];have W:=trivial;repeat' first|refine st ?_|(refine nx ?_;refine so ?_)|fail
     exact⟨y,aG (by simp[eT,hJ,hP]) (by simp[dv,eT,hJ,hP])⟩
    .rintro J y hC hJ hP;simp[pre,Region.binds]at hP;simp only[dv,hJ,hP,eV,fY,fN,cX,eS];have W:=trivial;repeat' first|refine st ?_|(refine nx ?_;refine so ?_)|fail
     exact⟨y,aG (by simp[eT,hJ,hP]) (by simp[dv,eT,hJ,hP])⟩
    .rintro J y hC hJ hP;simp[pre,Region.binds]at hP;simp only[dv,hJ,hP,eV,fY,fN,cX,eS];have W:=trivial;repeat' first|refine st ?_|(refine nx ?_;refine so ?_)|fail
     exact⟨y,aG (by simp[eT,hJ,hP]) (by simp[dv,eT,hJ,hP])⟩
    .rintro J y hC hJ hP;simp[pre,Region.binds]at hP;simp only[dv,hJ,hP,eV,fY,fN,cX,eS];have W:=trivial;repeat' first|refine st ?_|(refine nx ?_;refine so ?_)|fail
     exact⟨y,aG (by simp[eT,hJ,hP]) (by simp[dv,eT,hJ,hP])⟩
    .rintro J y hC hJ hP;simp[pre,Region.binds]at hP;simp only[dv,hJ,hP,eV,fY,fN,cX,eS];have W:=trivial;repeat' first|refine st ?_|(refine nx ?_;refine so ?_)|fail
     exact⟨y,aG (by simp[eT,hJ,hP]) (by simp[dv,eT,hJ,hP])⟩
    .rintro J y hC hJ hP;simp[pre,Region.binds]at hP;simp only[dv,hJ,hP,eV,fY,fN,cX,eS];have W:=trivial;repeat' first|refine st ?_|(refine nx ?_;refine so ?_)|fail
     exact⟨y,aG (by simp[eT,hJ,hP]) (by simp[dv,eT,hJ,hP])⟩
    .rintro J y hC hJ hP;simp[pre,Region.binds]at hP;simp only[dv,hJ,hP,eV,fY,fN,cX,eS];have W:=trivial;repeat' first|refine st ?_|(refine nx ?_;refine so ?_)|fail
     exact⟨y,aG (by simp[eT,hJ,hP]) (by simp[dv,eT,hJ,hP])⟩
    .rintro J y hC hJ hP;simp[pre,Region.binds]at hP;simp only[dv,hJ,hP,eV,fY,fN,cX,eS];have W:=trivial;repeat' first|refine st ?_|(refine nx ?_;refine so ?_)|fail
     exact⟨y,aG (by simp[eT,hJ,hP]) (by simp[dv,eT,hJ,hP])⟩
    .rintro J y hC hJ hP;simp[pre,Region.binds]at hP;simp only[dv,hJ,hP,eV,fY,fN,cX,eS];have W:=trivial;repeat' first|refine st ?_|(refine nx ?_;refine so ?_)|fail
     exact⟨y,aG (by simp[eT,hJ,hP]) (by simp[dv,eT,hJ,hP])⟩
    .rintro J y hC hJ hP;simp[pre,Region.binds]at hP;have hQ1:C.length=p.builder.nodes.length:=Ea;simp only[dv,hJ,hP,eV,fY,fN,hQ1,cX,eS];have W:=trivial;repeat' first|refine st ?_|(refine nx ?_;refine so ?_)|fail
     exact⟨y,aG (by simp[eT,hJ,hP,hQ1]) (by simp[dv,eT,hJ,hP,hQ1])⟩
    .rintro J y hC hJ hP;simp[pre,Region.binds]at hP;simp only[dv,hJ,hP,eV,fY,fN,cX,eS];have W:=trivial;repeat' first|refine st ?_|(refine nx ?_;refine so ?_)|fail
     exact⟨y,aG (by simp[eT,hJ,hP]) (by simp[dv,eT,hJ,hP])⟩
    .rintro J y hC hJ hP;simp[pre,Region.binds]at hP;simp only[dv,hJ,hP,eV,fY,fN,cX,eS];have W:=trivial;repeat' first|refine st ?_|(refine nx ?_;refine so ?_)|fail
     exact⟨y,aG (by simp[eT,hJ,hP]) (by simp[dv,eT,hJ,hP])⟩
    .rintro J y hC hJ hP;simp[pre,Region.binds]at hP;simp only[dv,hJ,hP,eV,fY,fN,cX,eS];have W:=trivial;repeat' first|refine st ?_|(refine nx ?_;refine so ?_)|fail
     exact⟨y,aG (by simp[eT,hJ,hP]) (by simp[dv,eT,hJ,hP])⟩
    .rintro J y hC hJ hP;simp[pre,Region.binds]at hP;simp only[dv,hJ,hP,eV,fY,fN,cX,eS];have W:=trivial;repeat' first|refine st ?_|(refine nx ?_;refine so ?_)|fail
     exact⟨y,aG (by simp[eT,hJ,hP]) (by simp[dv,eT,hJ,hP])⟩
    .rintro J y hC hJ hP;simp[pre,Region.binds]at hP;simp only[dv,hJ,hP,eV,fY,fN,cX,eS];have W:=trivial;repeat' first|refine st ?_|(refine nx ?_;refine so ?_)|fail
     exact⟨y,aG (by simp[eT,hJ,hP]) (by simp[dv,eT,hJ,hP])⟩
    .rintro J y hC hJ hP;simp[pre,Region.binds]at hP;simp only[dv,hJ,hP,eV,fY,fN,cX,eS];have W:=trivial;repeat' first|refine st ?_|(refine nx ?_;refine so ?_)|fail
     exact⟨y,aG (by simp[eT,hJ,hP]) (by simp[dv,eT,hJ,hP])⟩
    .rintro J y hC hJ hP;simp[pre,Region.binds]at hP;simp only[dv,hJ,hP,eV,fY,fN,cX,eS];have W:=trivial;repeat' first|refine st ?_|(refine nx ?_;refine so ?_)|fail
     exact⟨y,aG (by simp[eT,hJ,hP]) (by simp[dv,eT,hJ,hP])⟩
    .rintro J y hC hJ hP;simp[pre,Region.binds]at hP;simp only[dv,hJ,hP,eV,fY,fN,cX,eS];have W:=trivial;repeat' first|refine st ?_|(refine nx ?_;refine so ?_)|fail
     exact⟨y,aG (by simp[eT,hJ,hP]) (by simp[dv,eT,hJ,hP])⟩
    .rintro J y hC hJ hP;simp[pre,Region.binds]at hP;simp only[dv,hJ,hP,eV,fY,fN,cX,eS];have W:=trivial;repeat' first|refine st ?_|(refine nx ?_;refine so ?_)|fail
     exact⟨y,aG (by simp[eT,hJ,hP]) (by simp[dv,eT,hJ,hP])⟩
    .rintro J y hC hJ hP;simp[pre,Region.binds]at hP;simp only[dv,hJ,hP,eV,fY,fN,cX,eS];have W:=trivial;repeat' first|refine st ?_|(refine nx ?_;refine so ?_)|fail
     exact⟨y,aG (by simp[eT,hJ,hP]) (by simp[dv,eT,hJ,hP])⟩
    .rintro J y hC hJ hP;simp[pre,Region.binds]at hP;simp only[dv,hJ,hP,eV,fY,fN,cX,eS];have W:=trivial;repeat' first|refine st ?_|(refine nx ?_;refine so ?_)|fail
     exact⟨y,aG (by simp[eT,hJ,hP]) (by simp[dv,eT,hJ,hP])⟩
    .rintro J y hC hJ hP;simp[pre,Region.binds]at hP;simp only[dv,hJ,hP,eV,fY,fN,cX,eS];have W:=trivial;repeat' first|refine st ?_|(refine nx ?_;refine so ?_)|fail
     exact⟨y,aG (by simp[eT,hJ,hP]) (by simp[dv,eT,hJ,hP])⟩
    .rintro J y hC hJ hP;simp[pre,Region.binds]at hP;simp only[dv,hJ,hP,eV,fY,fN,cX,eS];have W:=trivial;repeat' first|refine st ?_|(refine nx ?_;refine so ?_)|fail
     exact⟨y,aG (by simp[eT,hJ,hP]) (by simp[dv,eT,hJ,hP])⟩
    .rintro J y hC hJ hP;simp[pre,Region.binds]at hP;simp only[dv,hJ,hP,eV,fY,fN,cX,eS];have W:=trivial;repeat' first|refine st ?_|(refine nx ?_;refine so ?_)|fail
     exact⟨y,aG (by simp[eT,hJ,hP]) (by simp[dv,eT,hJ,hP])⟩
    .rintro J y hC hJ hP;simp[pre,Region.binds]at hP;simp only[dv,hJ,hP,eV,fY,fN,cX,eS];have W:=trivial;repeat' first|refine st ?_|(refine nx ?_;refine so ?_)|fail
     exact⟨y,aG (by simp[eT,hJ,hP]) (by simp[dv,eT,hJ,hP])⟩
    .rintro J y hC hJ hP;simp[pre,Region.binds]at hP;simp only[dv,hJ,hP,eV,fY,fN,cX,eS];have W:=trivial;repeat' first|refine st ?_|(refine nx ?_;refine so ?_)|fail
     exact⟨y,aG (by simp[eT,hJ,hP]) (by simp[dv,eT,hJ,hP])⟩
    .rintro J y hC hJ hP;simp[pre,Region.binds]at hP;cases eb;all_goals (simp only[dv,hJ,hP,eV,fY,fN,cX,eS];have W:=trivial)
     all_goals (repeat' first|refine st ?_|(refine nx ?_;refine so ?_)|fail)
     all_goals exact⟨y,aG (by simp[eT,hJ,hP]) (by simp[dv,eT,hJ,hP])⟩
    .rintro J y hC hJ hP;simp[pre,Region.binds]at hP;cases eb;all_goals (simp only[dv,hJ,hP,eV,fY,fN,cX,eS];have W:=trivial)
     all_goals (repeat' first|refine st ?_|(refine nx ?_;refine so ?_)|fail)
     all_goals exact⟨y,aG (by simp[eT,hJ,hP]) (by simp[dv,eT,hJ,hP])⟩
    .rintro J y hC hJ hP;simp[pre,Region.binds]at hP;cases eb;all_goals (simp only[dv,hJ,hP,eV,fY,fN,cX,eS];have W:=trivial)
     all_goals (repeat' first|refine st ?_|(refine nx ?_;refine so ?_)|fail)
     all_goals exact⟨y,aG (by simp[eT,hJ,hP]) (by simp[dv,eT,hJ,hP])⟩
    .rintro J y hC hJ hP;simp[pre,Region.binds]at hP;cases eb;all_goals (simp only[dv,hJ,hP,eV,fY,fN,cX,eS];have W:=trivial)
     all_goals (repeat' first|refine st ?_|(refine nx ?_;refine so ?_)|fail)
     all_goals exact⟨y,aG (by simp[eT,hJ,hP]) (by simp[dv,eT,hJ,hP])⟩
    .rintro J y hC hJ hP;simp[pre,Region.binds]at hP;have hQ1:eb=true->dA=dB:=hde;cases eb;all_goals (simp only[dv,hJ,hP,eV,fY,fN,hQ1,cX,eS];have W:=trivial)
     all_goals (repeat' first|refine st ?_|(refine nx ?_;refine so ?_)|fail)
     all_goals exact⟨y,aG (by simp[eT,hJ,hP,hQ1]) (by simp[dv,eT,hJ,hP,hQ1])⟩
    .rintro J y hC hJ hP;simp[pre,Region.binds]at hP;cases eb;all_goals (simp only[dv,hJ,hP,eV,fY,fN,cX,eS];have W:=trivial)
     all_goals (repeat' first|refine st ?_|(refine nx ?_;refine so ?_)|fail)
     all_goals exact⟨y,aG (by simp[eT,hJ,hP]) (by simp[dv,eT,hJ,hP])⟩
    .rintro J y hC hJ hP;simp[pre,Region.binds]at hP;simp only[dv,hJ,hP,eV,fY,fN,cX,eS];have W:=trivial;repeat' first|refine st ?_|(refine nx ?_;refine so ?_)|fail
     exact⟨y,aG (by simp[eT,hJ,hP]) (by simp[dv,eT,hJ,hP])⟩
    .rintro J y hC hJ hP;simp[pre,Region.binds]at hP;simp only[dv,hJ,hP,eV,fY,fN,cX,eS];have W:=trivial;repeat' first|refine st ?_|(refine nx ?_;refine so ?_)|fail
     exact⟨y,aG (by simp[eT,hJ,hP]) (by simp[dv,eT,hJ,hP])⟩
    .rintro J y hC hJ hP;simp[pre,Region.binds]at hP;simp only[dv,hJ,hP,eV,fY,fN,cX,eS];have W:=trivial;repeat' first|refine st ?_|(refine nx ?_;refine so ?_)|fail
     exact⟨y,aG (by simp[eT,hJ,hP]) (by simp[dv,eT,hJ,hP])⟩
    .rintro J y hC hJ hP;simp[pre,Region.binds]at hP;simp only[dv,hJ,hP,eV,fY,fN,cX,eS];have W:=trivial;repeat' first|refine st ?_|(refine nx ?_;refine so ?_)|fail
     exact⟨y,aG (by simp[eT,hJ,hP]) (by simp[dv,eT,hJ,hP])⟩
    .rintro J y hC hJ hP;simp[pre,Region.binds]at hP;simp only[dv,hJ,hP,eV,fY,fN,cX,eS];have W:=trivial;repeat' first|refine st ?_|(refine nx ?_;refine so ?_)|fail
     exact⟨y,aG (by simp[eT,hJ,hP]) (by simp[dv,eT,hJ,hP])⟩
    .rintro J y hC hJ hP;simp[pre,Region.binds]at hP;simp only[dv,hJ,hP,eV,fY,fN,cX,eS];have W:=trivial;repeat' first|refine st ?_|(refine nx ?_;refine so ?_)|fail
     exact⟨y,aG (by simp[eT,hJ,hP]) (by simp[dv,eT,hJ,hP])⟩
    .rintro J y hC hJ hP;simp[pre,Region.binds]at hP;simp only[dv,hJ,hP,eV,fY,fN,cX,eS];have W:=trivial;repeat' first|refine st ?_|(refine nx ?_;refine so ?_)|fail
     exact⟨y,aG (by simp[eT,hJ,hP]) (by simp[dv,eT,hJ,hP])⟩
    .rintro J y hC hJ hP;simp[pre,Region.binds]at hP;simp only[dv,hJ,hP,eV,fY,fN,cX,eS];have W:=trivial;repeat' first|refine st ?_|(refine nx ?_;refine so ?_)|fail
     exact⟨y,aG (by simp[eT,hJ,hP]) (by simp[dv,eT,hJ,hP])⟩
    .rintro J y hC hJ hP;simp[pre,Region.binds]at hP;simp only[dv,hJ,hP,eV,fY,fN,cX,eS];have W:=trivial;repeat' first|refine st ?_|(refine nx ?_;refine so ?_)|fail
     exact⟨y,aG (by simp[eT,hJ,hP]) (by simp[dv,eT,hJ,hP])⟩
    .rintro J y hC hJ hP;simp[pre,Region.binds]at hP;simp only[dv,hJ,hP,eV,fY,fN,cX,eS];have W:=trivial;repeat' first|refine st ?_|(refine nx ?_;refine so ?_)|fail
     exact⟨y,aG (by simp[eT,hJ,hP]) (by simp[dv,eT,hJ,hP])⟩
    .rintro J y hC hJ hP;simp[pre,Region.binds]at hP;simp only[dv,hJ,hP,eV,fY,fN,cX,eS];have W:=trivial;repeat' first|refine st ?_|(refine nx ?_;refine so ?_)|fail
     exact⟨y,aG (by simp[eT,hJ,hP]) (by simp[dv,eT,hJ,hP])⟩
    .rintro J y hC hJ hP;simp[pre,Region.binds]at hP;simp only[dv,hJ,hP,eV,fY,fN,cX,eS];have W:=trivial;repeat' first|refine st ?_|(refine nx ?_;refine so ?_)|fail
     exact⟨y,aG (by simp[eT,hJ,hP]) (by simp[dv,eT,hJ,hP])⟩
    .rintro J y hC hJ hP;simp[pre,Region.binds]at hP;simp only[dv,hJ,hP,eV,fY,fN,cX,eS];have W:=trivial;repeat' first|refine st ?_|(refine nx ?_;refine so ?_)|fail
     exact⟨y,aG (by simp[eT,hJ,hP]) (by simp[dv,eT,hJ,hP])⟩
    .rintro J y hC hJ hP;simp[pre,Region.binds]at hP;simp only[dv,hJ,hP,eV,fY,fN,cX,eS];have W:=trivial;repeat' first|refine st ?_|(refine nx ?_;refine so ?_)|fail
     exact⟨y,aG (by simp[eT,hJ,hP]) (by simp[dv,eT,hJ,hP])⟩
    .rintro J y hC hJ hP;simp[pre,Region.binds]at hP;simp only[dv,hJ,hP,eV,fY,fN,cX,eS];have W:=trivial;repeat' first|refine st ?_|(refine nx ?_;refine so ?_)|fail
     exact⟨y,aG (by simp[eT,hJ,hP]) (by simp[dv,eT,hJ,hP])⟩
    .rintro J y hC hJ hP;simp[pre,Region.binds]at hP;simp only[dv,hJ,hP,eV,fY,fN,cX,eS];have W:=trivial;repeat' first|refine st ?_|(refine nx ?_;refine so ?_)|fail
     exact⟨y,aG (by simp[eT,hJ,hP]) (by simp[dv,eT,hJ,hP])⟩
    .rintro J y hC hJ hP;simp[pre,Region.binds]at hP;simp only[dv,hJ,hP,eV,fY,fN,cX,eS];have W:=trivial;repeat' first|refine st ?_|(refine nx ?_;refine so ?_)|fail
     exact⟨y,aG (by simp[eT,hJ,hP]) (by simp[dv,eT,hJ,hP])⟩
    .rintro J y hC hJ hP;simp[pre,Region.binds]at hP;simp only[dv,hJ,hP,eV,fY,fN,cX,eS];have W:=trivial;repeat' first|refine st ?_|(refine nx ?_;refine so ?_)|fail
     exact⟨y,aG (by simp[eT,hJ,hP]) (by simp[dv,eT,hJ,hP])⟩
   .rintro J y hJ
    have hJs:J 0=true/\J 1=true/\J 2=true/\J 3=true/\J 4=true/\J 5=true/\J 6=true/\J 7=true/\J 8=true/\J 9=true/\J 10=true/\J 11=true/\J 12=true/\J 13=true/\J 14=true/\J 15=true/\J 16=true/\J 17=true/\J 18=true/\J 19=true/\J 20=true/\J 21=true/\J 22=true/\J 23=true/\J 24=true/\J 25=true/\J 26=true/\J 27=true/\J 28=true/\J 29=true/\J 30=true/\J 31=true/\J 32=true/\J 33=true/\J 34=true/\J 35=true/\J 36=true/\J 37=true/\J 38=true/\J 39=true/\J 40=true/\J 41=true/\J 42=true/\J 43=true/\J 44=true/\J 45=true/\J 46=true/\J 47=true/\J 48=true/\J 49=true/\J 50=true/\J 51=true/\J 52=true/\J 53=true/\J 54=true/\J 55=true/\J 56=true/\J 57=true/\J 58=true/\J 59=true/\J 60=true/\J 61=true/\J 62=true/\J 63=true/\J 64=true:=⟨hJ 0 (by decide),hJ 1 (by decide),hJ 2 (by decide),hJ 3 (by decide),hJ 4 (by decide),hJ 5 (by decide),hJ 6 (by decide),hJ 7 (by decide),hJ 8 (by decide),hJ 9 (by decide),hJ 10 (by decide),hJ 11 (by decide),hJ 12 (by decide),hJ 13 (by decide),hJ 14 (by decide),hJ 15 (by decide),hJ 16 (by decide),hJ 17 (by decide),hJ 18 (by decide),hJ 19 (by decide),hJ 20 (by decide),hJ 21 (by decide),hJ 22 (by decide),hJ 23 (by decide),hJ 24 (by decide),hJ 25 (by decide),hJ 26 (by decide),hJ 27 (by decide),hJ 28 (by decide),hJ 29 (by decide),hJ 30 (by decide),hJ 31 (by decide),hJ 32 (by decide),hJ 33 (by decide),hJ 34 (by decide),hJ 35 (by decide),hJ 36 (by decide),hJ 37 (by decide),hJ 38 (by decide),hJ 39 (by decide),hJ 40 (by decide),hJ 41 (by decide),hJ 42 (by decide),hJ 43 (by decide),hJ 44 (by decide),hJ 45 (by decide),hJ 46 (by decide),hJ 47 (by decide),hJ 48 (by decide),hJ 49 (by decide),hJ 50 (by decide),hJ 51 (by decide),hJ 52 (by decide),hJ 53 (by decide),hJ 54 (by decide),hJ 55 (by decide),hJ 56 (by decide),hJ 57 (by decide),hJ 58 (by decide),hJ 59 (by decide),hJ 60 (by decide),hJ 61 (by decide),hJ 62 (by decide),hJ 63 (by decide),hJ 64 (by decide)⟩
    simp only[dv,hJs,eV,fY,fN,cW,cY,eC];clear hJs hJ J;have W:=trivial;repeat' first|refine st ?_|(refine nx ?_;refine so ?_)|(refine cx ?_;refine sc (λhc=>?_) (λhc=>?_)<;>try exact hc.elim)|(refine lx ?_;refine sp (λhc=>?_) (λhc=>?_)<;>try exact hc.elim)|refine sx ?_ ?_|refine sy ?_ ?_|fail
    all_goals (try exact aR results3)
end Go.Proofs.YtnkpkklemmgapaaGreatDoor
