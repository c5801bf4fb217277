/- Proved here: steps towards the statement of this claim. No condition. -/
import Derived.Test.YtjkdolejalpflaaGreatDoorZQ1
import Derived.Test.YtjkdolejalpflaaGreatDoorZQMK5
set_option linter.all false
set_option maxRecDepth 4000
set_option maxHeartbeats 4000000
namespace Go.Proofs.YtjkdolejalpflaaGreatDoor
open Go.Aw Proofs.Tryz List IntKind
def nZ(l:List aX):Bool:=l.all bP&&decide (l.length<=4)
def Ah(p:dS):Bool:=
 if p.isSet=true then nZ p.iC&&nZ p.jY&&nZ p.jZ&&(p.pX == [] || isValue p.pX)
 else p.iC == []&&p.jY == []&&p.jZ == []&&p.pX == []
def yS:aX:=[115,99,114,105,112,116]
def Cu:aX:=[115,116,121,108,101]
def Ua:aX:=[105,109,103]
def VX:aX:=[110,111,110,99,101,32]
def words(w:aX)(l:List aX):aX:=Lib.join (w::l) [32]
def QF(n:aX):aX:=if n=[]then []else 59::(VX++n)
def lX(p:dS):aX:=
 if Ah p=true/\p.isSet=true then words yS p.iC++59::(words Cu p.jY++59::(words Ua p.jZ++QF p.pX))else []
def xQ:dS:=⟨false,[],[],[],[]⟩
def yT(f:aX->aX)(s:aX):dS:=
 ⟨true,(dP 32 ((dP 59 s).getD 0 [])).tail,(dP 32 ((dP 59 s).getD 1 [])).tail,(dP 32 ((dP 59 s).getD 2 [])).tail,match (dP 59 s)[3]? with|some x=>f x|none=>[]⟩
def Cw(f:aX->aX)(s:aX):dS×Bool:=
 if s=[]then(xQ,true)else if (dP 59 s).length<3 then(xQ,false)else if lX (yT f s)=s then(yT f s,true)else(xQ,false)
def pR(x:aX):aX:=if 6<x.length then x.drop 6 else []
def iJ(s:aX):dS×Bool:=Cw pR s
theorem qh{l:List aX}{k:Nat}(h:k<l.length)(hc:bP l[k]=false):nZ l=false:=by
 have:l.all bP=false:=by rw[all_eq_false];exact⟨l[k],mL h,by simp[hc]⟩
 simp[nZ,this]
theorem YD{l:List aX}(h:∀x∈l,bP x=true):nZ l=decide ((l.length:Int)<=4):=by
 have:l.all bP=true:=gR.2 h;have h1:decide ((l.length:Int)<=4)=decide (l.length<=4):=by simp only[pZ];omega
 rw[nZ,this,h1,AH]
theorem Bl[aB prog](l:List aX)(hs:dL dG l<=1099511627776):Ok prog 184 [.sl .view 1 (l.map dR)] (.bool (nZ l)):=by
 simp only[dL]at hs;refine dA aJ func184 ntmps184 ?_;refine bI ?_;refine aY (ι:={k:Nat // k<=l.length/\∀x∈l.take k,bP x=true}) (λt o i=>⟨bN t [(3,.int .i64 i.1)],o⟩)
  (λi=>l.length-i.1) ⟨0,by simp,by simp⟩ aC ?_
 rintro⟨k,hk,hi⟩ K1 hK1;simp only[bN,cH,cG]at hK1⊢;have hk1:=vJ (k:=k);by_cases hlt:k<l.length
 .have hg:=aE hlt;have YT:=gM dG l k hlt;simp only[dG]at YT;have c1:=dX l[k] (by omega);generalize hb:bP l[k]=b at*;cases b
  .have W:=aA hk1 (aA hg hlt);refine we ?_;rw[qh hlt hb];all_goals (try exact aO results184)
  .have W:=aA hk1 (aA hg hlt);refine we ?_;exact hK1 _ ⟨k+1,by omega,gL hlt hi hb⟩ aC (by simp only;omega)
 .have W:=hk1;refine we ?_;rw[YD (nS (by omega) hi)];all_goals (try exact aO results184)
theorem JK[aB prog](p:dS)(hs:dD p<=1099511627776):Ok prog 163 [.agg (bG .view p)] (.bool (Ah p)):=by
 simp only[dD]at hs;have c1:=Bl p.iC (by omega);have c2:=Bl p.jY (by omega);have c3:=Bl p.jZ (by omega);have c4:=tJ p.pX (by omega);have l1:(p.iC == [])=decide ((p.iC.length:Int)=0):=by cases p.iC<;>simp<;>omega
 have l2:(p.jY == [])=decide ((p.jY.length:Int)=0):=by cases p.jY<;>simp<;>omega
 have l3:(p.jZ == [])=decide ((p.jZ.length:Int)=0):=by cases p.jZ<;>simp<;>omega
 unfold Ah;rw[l1,l2,l3];generalize nZ p.iC=b1 at*;generalize nZ p.jY=b2 at*;generalize nZ p.jZ=b3 at*;generalize isValue p.pX=b4 at*;generalize hb:p.isSet=b at*;cases b
 .refine dA aJ func163 ntmps163 ?_;have W:=hb;repeat' first|refine wf ?_|(refine sq ?_ ?_<;>intro hc<;>try exact hc.elim)|fail
  all_goals try(refine aP ?_;simp[aT,results163,hb])
  all_goals simp_all
 .refine dA aJ func163 ntmps163 ?_;have W:=hb;repeat' first|refine wf ?_|(refine sq ?_ ?_<;>intro hc<;>try exact hc.elim)|fail
  all_goals try(refine aP ?_;simp[aT,results163,hb])
  all_goals simp_all
theorem VZ(w:aX)(l:List aX)(x:aX):words w (l++[x])=words w l++32::x:=by unfold words;rw[Lib.join_cons,Lib.join_cons];simp[Lib.joinTail]
theorem YE(w:aX):words w []=w:=by simp[words,Lib.join_one]
theorem Dh(w:aX)(l:List aX):(words w l).length=w.length+l.length+bM dG l:=by
 unfold words;rw[Lib.join_cons];unfold Lib.joinTail;have:∀l:List aX,((l.map (([32]:aX)++ ·)).flatten).length=l.length+bM dG l:=by
  intro l;induction l with
  |nil=>simp[bM]
  |cons x l ih=>simp only[mS,oY,eJ,ih,bM,dG,eE,eR];omega
 rw[eJ,this];omega
theorem ET[aB prog](w:aX)(l:List aX)(hs:w.length+dL dG l<=1099511627776):Ok prog 164 [.str w,.sl .view 1 (l.map dR)] (.str (words w l)):=by
 simp only[dL]at hs;refine dA aJ func164 ntmps164 ?_;refine bI ?_;refine aY (ι:={k:Nat // k<=l.length}) (λt o i=>⟨bN t [(5,.int .i64 i.1),(0,.str (words w (l.take i.1)))],o⟩)
  (λi=>l.length-i.1) ⟨0,by simp⟩ (aC (by simp) (by simp[YE])) ?_
 rintro⟨k,hk⟩ K1 hK1;simp only[bN,cH,cG]at hK1⊢;have hk1:=vJ (k:=k);by_cases hlt:k<l.length
 .have hg:=aE hlt;have YT:=gM dG l k hlt;simp only[dG]at YT;have hw:=Dh w (l.take k);have hts:=AL dG l k;have htl:(l.take k).length<=l.length:=by simp;omega
  have e:l.take (k+1)=l.take k++[l[k]]:=by rw[take_add_one,hg];rfl
  have e2:=VZ w (l.take k) l[k];rw[<-e]at e2;generalize words w (l.take k)=q at*;have W:=aA hk1 (aA hg hlt);refine we ?_;exact hK1 _ ⟨k+1,by omega⟩ (aC (by simp) (by simp[e2])) (by simp only;omega)
 .have Dm:l.take k=l:=eL (by omega);rw[Dm];have W:=hk1;refine we ?_;exact aO results164
theorem Ic{l:List aX}(h:nZ l=true):l.length<=4/\bM dG l<=32:=by
 simp only[nZ,eC,gS,gR]at h;have key:∀l:List aX,(∀x∈l,bP x=true)->bM dG l<=8*l.length:=by
  intro l;induction l with
  |nil=>intro _;simp[bM]
  |cons x l ih=>
   intro hl;have h1:=hl x (by simp);simp only[bP,eC,gS]at h1;have:=ih λy hy=>hl y (by simp[hy])
   simp only[bM,dG,eE];omega
 have:=key l h.1;exact⟨h.2,by omega⟩
theorem YF{s:aX}(h:(s == [])=true\/isValue s=true):s.length<=20:=by
 rcases h with h|h
 .simp only[beq_iff_eq]at h;simp[h]
 .simp only[isValue,eC,gS]at h;exact h.2.2
theorem Wd{p:dS}(h:Ah p=true)(hs:p.isSet=true):(words yS p.iC).length<=42/\(words Cu p.jY).length<=41/\(words Ua p.jZ).length<=39/\p.pX.length<=20:=by simp only[Ah,hs,eI,eC,tW]at h;obtain⟨⟨⟨h1,h2⟩,h3⟩,h4⟩:=h;have k1:=Ic h1;have k2:=Ic h2;have k3:=Ic h3;refine⟨by rw[Dh];simp[yS];omega,by rw[Dh];simp[Cu];omega,by rw[Dh];simp[Ua];omega,YF h4⟩
theorem rD[aB prog](p:dS)(hs:dD p<=274877906944):Ok prog 133 [.agg (bG .view p)] (.str (lX p)):=by
 have c0:=JK p (by omega);simp only[bG]at c0;have hq:= @Wd p;simp only[dD]at hs;have c1:Ok prog 164 [.str [115,99,114,105,112,116],.sl .view 1 (p.iC.map dR)] (.str (words yS p.iC)):=ET yS p.iC (by simp[yS];omega);have c2:Ok prog 164 [.str [115,116,121,108,101],.sl .view 1 (p.jY.map dR)] (.str (words Cu p.jY)):=ET Cu p.jY (by simp[Cu];omega);have c3:Ok prog 164 [.str [105,109,103],.sl .view 1 (p.jZ.map dR)] (.str (words Ua p.jZ)):=ET Ua p.jZ (by simp[Ua];omega);unfold lX;by_cases h1:Ah p=true
 .by_cases h2:p.isSet=true
  .obtain ⟨k1,k2,k3,k4⟩:=hq h1 h2;rw[eA ⟨h1,h2⟩];unfold QF;rw[h1,h2]at c0;generalize words yS p.iC=q1 at*;generalize words Cu p.jY=q2 at*;generalize words Ua p.jZ=q3 at*;by_cases hn:p.pX=[]
   .rw [eA hn];rw[hn]at c0;refine dA aJ func133 ntmps133 ?_;have W:=aA h2 hn;have V:=aA h2 hn;refine we ?_;all_goals try(refine aP ?_;simp[aT,results133,h2,hn])
   .rw [cU hn];refine dA aJ func133 ntmps133 ?_;have W:=aA h2 hn;have V:=aA h2 hn;repeat' first|refine wf ?_|(refine sq ?_ ?_<;>intro hc<;>try exact hc.elim)|fail
    all_goals try(refine aP ?_;simp[aT,results133,h2,hn,VX])
    all_goals (exact absurd (by assumption) hn)
  .rw [cU (λh=>h2 h.2)]
   simp only[Bool.not_eq_true]at h2;rw[h1,h2]at c0;refine dA aJ func133 ntmps133 ?_;have W:=h2;have V:=h2;refine we ?_;exact aO results133
 .rw [cU (λh=>h1 h.1)]
  simp only[Bool.not_eq_true]at h1;rw[h1]at c0;refine dA aJ func133 ntmps133 ?_;refine bI ?_;exact aO results133
end Go.Proofs.YtjkdolejalpflaaGreatDoor
