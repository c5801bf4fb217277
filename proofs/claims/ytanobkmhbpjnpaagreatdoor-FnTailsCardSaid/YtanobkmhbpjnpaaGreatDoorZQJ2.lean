/- Steps. No condition. -/
import Derived.Test.YtanobkmhbpjnpaaGreatDoorZQU4
set_option linter.all false
set_option maxRecDepth 4000
set_option maxHeartbeats 4000000
namespace Go.Proofs.YtanobkmhbpjnpaaGreatDoor
open Go.Aw Proofs.Tryz List IntKind
def aIl{l:List bE}{k:Nat}(h:k<l.length)(hc:dW l[k]=false):nV l=false:=by
 have:l.all dW=false:=by rw[all_eq_false];exact⟨l[k],gR h,by simp[hc]⟩
 simp[nV,this]
def aDh{l:List bE}(h:∀x∈l,dW x=true):nV l=decide ((l.length:Int)<=4):=by
 have:l.all dW=true:=fW.2 h;have h1:decide ((l.length:Int)<=4)=decide (l.length<=4):=by simp only[sC];omega
 rw[nV,this,h1,AK]
def Gf[aG prog](l:List bE)(hs:dS iM l<=1099511627776):Ok prog 240 [.sl .view 1 (l.map eD)] (.bool (nV l)):=by
 simp only[dS]at hs;refine dN aK func240 ntmps240 ?_;refine bK ?_;refine aT (ι:={k:Nat // k<=l.length/\∀x∈l.take k,dW x=true}) (λt o i=>⟨bP t [(3,.int .i64 i.1)],o⟩)
  (λi=>l.length-i.1) ⟨0,by simp,by simp⟩ aP ?_
 rintro⟨k,hk,hi⟩ K1 hK1;simp only[bP,cH,cQ]at hK1⊢;have hk1:=tQ (k:=k);by_cases hlt:k<l.length
 .have hg:=aE hlt;have hel:=iU iM l k hlt;simp only[iM]at hel;have c1:=gY l[k] (by omega);generalize hb:dW l[k]=b at*;cases b
  .have W:=aA hk1 (aA hg hlt);refine we ?_;rw[aIl hlt hb];all_goals (try exact aO results240)
  .have W:=aA hk1 (aA hg hlt);refine we ?_;exact hK1 _ ⟨k+1,by omega,fB hlt hi hb⟩ aP (by simp only;omega)
 .have W:=hk1;refine we ?_;rw[aDh (nS (by omega) hi)];all_goals (try exact aO results240)
def QW[aG prog](p:gG)(hs:eT p<=1099511627776):Ok prog 199 [.agg (dA .view p)] (.bool (qJ p)):=by
 simp only[eT]at hs;have c1:=Gf p.iN (by omega);have c2:=Gf p.kH (by omega);have c3:=Gf p.kJ (by omega);have c4:=zX p.uC (by omega);have l1:(p.iN == [])=decide ((p.iN.length:Int)=0):=by cases p.iN<;>simp<;>omega
 have l2:(p.kH == [])=decide ((p.kH.length:Int)=0):=by cases p.kH<;>simp<;>omega
 have l3:(p.kJ == [])=decide ((p.kJ.length:Int)=0):=by cases p.kJ<;>simp<;>omega
 unfold qJ;rw[l1,l2,l3];generalize nV p.iN=b1 at*;generalize nV p.kH=b2 at*;generalize nV p.kJ=b3 at*;generalize kP p.uC=b4 at*;generalize hb:p.zD=b at*;cases b
 .refine dN aK func199 ntmps199 ?_;have W:=hb;repeat' first|refine wf ?_|(refine sq ?_ ?_<;>intro hc<;>try exact hc.elim)|fail
  all_goals try(refine bA ?_;simp[bB,results199,hb])
  all_goals simp_all
 .refine dN aK func199 ntmps199 ?_;have W:=hb;repeat' first|refine wf ?_|(refine sq ?_ ?_<;>intro hc<;>try exact hc.elim)|fail
  all_goals try(refine bA ?_;simp[bB,results199,hb])
  all_goals simp_all
def U0(w:bE)(l:List bE)(x:bE):words w (l++[x])=words w l++32::x:=by unfold words;rw[Lib.join_cons,Lib.join_cons];simp[Lib.joinTail]
def aDi(w:bE):words w []=w:=by simp[words,Lib.join_one]
def Jm(w:bE)(l:List bE):(words w l).length=w.length+l.length+bU iM l:=by
 unfold words;rw[Lib.join_cons];unfold Lib.joinTail;have:∀l:List bE,((l.map (([32]:bE)++ ·)).flatten).length=l.length+bU iM l:=by
  intro l;induction l with
  |nil=>simp[bU]
  |cons x l ih=>simp only[oE,pZ,eR,ih,bU,iM,eL,fL];omega
 rw[eR,this];omega
def Le[aG prog](w:bE)(l:List bE)(hs:w.length+dS iM l<=1099511627776):Ok prog 200 [.str w,.sl .view 1 (l.map eD)] (.str (words w l)):=by
 simp only[dS]at hs;refine dN aK func200 ntmps200 ?_;refine bK ?_;refine aT (ι:={k:Nat // k<=l.length}) (λt o i=>⟨bP t [(5,.int .i64 i.1),(0,.str (words w (l.take i.1)))],o⟩)
  (λi=>l.length-i.1) ⟨0,by simp⟩ (aP (by simp) (by simp[aDi])) ?_
 rintro⟨k,hk⟩ K1 hK1;simp only[bP,cH,cQ]at hK1⊢;have hk1:=tQ (k:=k);by_cases hlt:k<l.length
 .have hg:=aE hlt;have hel:=iU iM l k hlt;simp only[iM]at hel;have hw:=Jm w (l.take k);have hts:=FH iM l k;have htl:(l.take k).length<=l.length:=by simp;omega
  have e:l.take (k+1)=l.take k++[l[k]]:=by rw[take_add_one,hg];rfl
  have e2:=U0 w (l.take k) l[k];rw[<-e]at e2;generalize words w (l.take k)=q at*;have W:=aA hk1 (aA hg hlt);refine we ?_;exact hK1 _ ⟨k+1,by omega⟩ (aP (by simp) (by simp[e2])) (by simp only;omega)
 .have htk:l.take k=l:=eN (by omega);rw[htk];have W:=hk1;refine we ?_;exact aO results200
def Cw{l:List bE}(h:nV l=true):l.length<=4/\bU iM l<=32:=by
 simp only[nV,eK,fY,fW]at h;have key:∀l:List bE,(∀x∈l,dW x=true)->bU iM l<=8*l.length:=by
  intro l;induction l with
  |nil=>intro _;simp[bU]
  |cons x l ih=>
   intro hl;have h1:=hl x (by simp);simp only[dW,eK,fY]at h1;have:=ih λy hy=>hl y (by simp[hy])
   simp only[bU,iM,eL];omega
 have:=key l h.1;exact⟨h.2,by omega⟩
def aDj{s:bE}(h:(s == [])=true\/kP s=true):s.length<=20:=by
 rcases h with h|h
 .simp only[Ds]at h;simp[h]
 .simp only[kP,eK,fY]at h;exact h.2.2
def Uw{p:gG}(h:qJ p=true)(hs:p.zD=true):(words wQ p.iN).length<=42/\(words Ag p.kH).length<=41/\(words Ld p.kJ).length<=39/\p.uC.length<=20:=by simp only[qJ,hs,eS,eK,sA]at h;obtain⟨⟨⟨h1,h2⟩,h3⟩,h4⟩:=h;have k1:=Cw h1;have k2:=Cw h2;have k3:=Cw h3;refine⟨by rw[Jm];simp[wQ];omega,by rw[Jm];simp[Ag];omega,by rw[Jm];simp[Ld];omega,aDj h4⟩
def xZ[aG prog](p:gG)(hs:eT p<=274877906944):Ok prog 145 [.agg (dA .view p)] (.str (jI p)):=by
 have c0:=QW p (by omega);simp only[dA]at c0;have hq:= @Uw p;simp only[eT]at hs;have c1:Ok prog 200 [.str [115,99,114,105,112,116],.sl .view 1 (p.iN.map eD)] (.str (words wQ p.iN)):=Le wQ p.iN (by simp[wQ];omega);have c2:Ok prog 200 [.str [115,116,121,108,101],.sl .view 1 (p.kH.map eD)] (.str (words Ag p.kH)):=Le Ag p.kH (by simp[Ag];omega);have c3:Ok prog 200 [.str [105,109,103],.sl .view 1 (p.kJ.map eD)] (.str (words Ld p.kJ)):=Le Ld p.kJ (by simp[Ld];omega);unfold jI;by_cases h1:qJ p=true
 .by_cases h2:p.zD=true
  .obtain ⟨k1,k2,k3,k4⟩:=hq h1 h2;rw[eM ⟨h1,h2⟩];unfold OU;rw[h1,h2]at c0;generalize words wQ p.iN=q1 at*;generalize words Ag p.kH=q2 at*;generalize words Ld p.kJ=q3 at*;by_cases hn:p.uC=[]
   .rw [eM hn];rw[hn]at c0;refine dN aK func145 ntmps145 ?_;have W:=aA h2 hn;have V:=aA h2 hn;refine we ?_;all_goals try(refine bA ?_;simp[bB,results145,h2,hn])
   .rw [eC hn];refine dN aK func145 ntmps145 ?_;have W:=aA h2 hn;have V:=aA h2 hn;repeat' first|refine wf ?_|(refine sq ?_ ?_<;>intro hc<;>try exact hc.elim)|fail
    all_goals try(refine bA ?_;simp[bB,results145,h2,hn,qV])
    all_goals (exact absurd (by assumption) hn)
  .rw [eC (λh=>h2 h.2)]
   simp only[AG]at h2;rw[h1,h2]at c0;refine dN aK func145 ntmps145 ?_;have W:=h2;have V:=h2;refine we ?_;exact aO results145
 .rw [eC (λh=>h1 h.1)]
  simp only[AG]at h1;rw[h1]at c0;refine dN aK func145 ntmps145 ?_;refine bK ?_;exact aO results145
def Ux[aG prog](l:List bE)(sep:bE)(hl:l.length<=140737488355328)(hs:(Lib.join l sep).length<=140737488355328):
  Ok prog 136 [.sl .view 1 (l.map eD),.str sep] (.str (Lib.join l sep)):=aAz Tryz.lays156 Tryz.Builder_Extra_156 l sep hl hs
def Ei(s:bE):Bool:= !dW s
def Zg[aG prog](s:bE)(hl:s.length<=1099511627776):Ok prog 293 [.str s] (.bool (Ei s)):=by have c1:=jS s hl;unfold Ei;generalize dW s=b at*;refine dN aK func293 ntmps293 ?_;refine bK ?_;exact aO results293
def Wm[aG prog](l:List bE)(hs:dS iM l<=1099511627776):Ok prog 307 [.sl .view 1 (l.map eD),.fn 293 []] (.int .i64 (wR Ei l)):=by
 simp only[dS]at hs;refine dN aK func307 ntmps307 ?_;refine bK ?_;refine aT (ι:={k:Nat // k<=l.length/\∀x∈l.take k,Ei x=false}) (λt o i=>⟨bP t [(8,.int .i64 i.1),(5,.aB)],o⟩)
  (λi=>l.length-i.1) ⟨0,by simp⟩ aP ?_
 rintro⟨k,hk,hpre⟩ K1 hK1;simp only[bP,cH,cQ]at hK1⊢;have hk1:=tQ (k:=k);by_cases hlt:k<l.length
 .have hg:=aE hlt;have hel:=iU iM l k hlt;simp only[iM]at hel;have c1:=Zg l[k] (by omega);generalize hb:Ei l[k]=b at*;have W:=aA hk1 (aA hg hlt);repeat' first|refine wf ?_|(refine sq ?_ ?_<;>intro hc<;>try exact hc.elim)|fail
  .all_goals try(refine bA ?_;simp[bB,results307])
   rw[Cb hlt (by simpa [hb]using hc) hpre]
  .exact hK1 _ ⟨k+1,by omega,fB hlt hpre (by simpa [hb]using hc)⟩ aP (by simp only;omega)
 .have W:=hk1;refine we ?_;all_goals try(refine bA ?_;simp[bB,results307])
  rw[wI (nS (by omega) hpre)]
def OV[aG prog](l:List bE)(hs:dS iM l<=1099511627776):Ok prog 292 [.sl .view 1 (l.map eD),.fn 293 []] (.bool (l.any Ei)):=by
 have c1:=Wm l hs;refine dN aK func292 ntmps292 ?_;refine bK ?_;all_goals try(refine bA ?_;simp[bB,results292])
 exact Hz _ _
def Iz[aG prog](l:List bE)(hs:dS iM l<=1099511627776):Ok prog 281 [.sl .view 1 (l.map eD)] (.bool (nV l)):=by
 have c1:=OV l hs;simp only[dS]at hs;have e:l.any Ei= !l.all dW:=by rw[any_eq_not_all_not];simp[Ei]
 have e2:decide (l.length<=4)=decide ((l.length:Int)<=4):=by simp only[sC];omega
 rw[e]at c1;unfold nV;rw[e2];generalize l.all dW=b at*;refine dN aK func281 ntmps281 ?_;have W:=trivial;repeat' first|refine wf ?_|(refine sq ?_ ?_<;>intro hc<;>try exact hc.elim)|fail
 all_goals try(refine bA ?_;simp[bB,results281])
 all_goals simp_all
def QX[aG prog](p:gG)(hs:eT p<=1099511627776):Ok prog 266 [.agg (dA .view p)] (.bool (qJ p)):=by
 simp only[eT]at hs;have c1:=Iz p.iN (by omega);have c2:=Iz p.kH (by omega);have c3:=Iz p.kJ (by omega);have c4:=CJ p.uC (by omega);have l1:(p.iN == [])=decide ((p.iN.length:Int)=0):=by cases p.iN<;>simp<;>omega
 have l2:(p.kH == [])=decide ((p.kH.length:Int)=0):=by cases p.kH<;>simp<;>omega
 have l3:(p.kJ == [])=decide ((p.kJ.length:Int)=0):=by cases p.kJ<;>simp<;>omega
 unfold qJ;rw[l1,l2,l3];generalize nV p.iN=b1 at*;generalize nV p.kH=b2 at*;generalize nV p.kJ=b3 at*;generalize kP p.uC=b4 at*;generalize hb:p.zD=b at*;cases b
 .refine dN aK func266 ntmps266 ?_;have W:=hb;repeat' first|refine wf ?_|(refine sq ?_ ?_<;>intro hc<;>try exact hc.elim)|fail
  all_goals try(refine bA ?_;simp[bB,results266,hb])
  all_goals simp_all
 .refine dN aK func266 ntmps266 ?_;have W:=hb;repeat' first|refine wf ?_|(refine sq ?_ ?_<;>intro hc<;>try exact hc.elim)|fail
  all_goals try(refine bA ?_;simp[bB,results266,hb])
  all_goals simp_all
def JA[aG prog](p:gG)(hs:eT p<=274877906944):Ok prog 245 [.agg (dA .view p)] (.str (jI p)):=by
 have c0:=QX p (by omega);simp only[dA]at c0;have hq:= @Uw p;have hn':qJ p=true->p.zD=true->p.iN.length<=4/\p.kH.length<=4/\p.kJ.length<=4:=by intro h hs;simp only[qJ,hs,eS,eK]at h;exact⟨(Cw h.1.1.1).1,(Cw h.1.1.2).1,(Cw h.1.2).1⟩
 have hs0:=hs;simp only[eT,dS]at hs;unfold jI;by_cases h1:qJ p=true
 .by_cases h2:p.zD=true
  .obtain ⟨k1,k2,k3,k4⟩:=hq h1 h2;obtain⟨n1,n2,n3⟩:=hn' h1 h2;have j1:Ok prog 136 [.sl .view 1 ([.str [115,99,114,105,112,116]]::p.iN.map eD),.str [32]] (.str (words wQ p.iN)):=Ux (wQ::p.iN) [32] (by simp;omega) (by change (words wQ p.iN).length<=_;omega);have j2:Ok prog 136 [.sl .view 1 ([.str [115,116,121,108,101]]::p.kH.map eD),.str [32]] (.str (words Ag p.kH)):=Ux (Ag::p.kH) [32] (by simp;omega) (by change (words Ag p.kH).length<=_;omega);have j3:Ok prog 136 [.sl .view 1 ([.str [105,109,103]]::p.kJ.map eD),.str [32]] (.str (words Ld p.kJ)):=Ux (Ld::p.kJ) [32] (by simp;omega) (by change (words Ld p.kJ).length<=_;omega);rw[eM ⟨h1,h2⟩];unfold OU;rw[h1,h2]at c0;generalize words wQ p.iN=q1 at*;generalize words Ag p.kH=q2 at*;generalize words Ld p.kJ=q3 at*;refine xA aK [3] func245 ntmps245 ?_;have W:=h2;have V:=h2;refine we ?_;refine go_drawn3 [⟨1,1,[(3,⟨true,false,1,2,[.str [115,99,114,105,112,116]]::p.iN.map eD⟩),(0,⟨true,false,1,1,[[.str [115,99,114,105,112,116]]]⟩)]⟩,⟨2,1,[(9,⟨true,false,1,2,[.str [115,116,121,108,101]]::p.kH.map eD⟩),(6,⟨true,false,1,1,[[.str [115,116,121,108,101]]]⟩)]⟩,⟨3,1,[(16,⟨true,false,1,2,[.str [105,109,103]]::p.kJ.map eD⟩),(13,⟨true,false,1,1,[[.str [105,109,103]]]⟩)]⟩] (by simp;rfl) (by decide+kernel) (by decide+kernel) (by simp[pW,pre,Region.binds]) (by simp) ?_
   repeat' first|refine M4 (by simp;rfl) (by simp;rfl) ?_|(refine YQ ?_ (by simp;rfl) ?_;(focus (simp;done)))|(refine wM (j:=3) (v:= .obj 1 2) ⟨1,1,[(3,⟨true,false,1,2,[.str [115,99,114,105,112,116]]::p.iN.map eD⟩),(0,⟨true,false,1,1,[[.str [115,99,114,105,112,116]]]⟩)]⟩ [] [(0,⟨true,false,1,1,[[.str [115,99,114,105,112,116]]]⟩)] rfl (by simp) rfl (by simp[Region.binds];rfl) (by decide) (by simp[Region.binds];rfl) (by simp;rfl) rfl ?_ ?_;(focus (refine KR (by first|(simp;rfl)|(simp;done)|rfl) rfl (by first|(simp;rfl)|(simp;done)|rfl) (by first|(simp;rfl)|(simp;done)|rfl) (by first|(simp;rfl)|(simp;done)|rfl) (by simp;exact⟨rfl,rfl⟩) (by simp) (by simp) (by simp;omega) (by simp;omega))))|(refine wM (j:=0) (v:= .obj 1 1) ⟨1,1,[(3,⟨true,false,1,2,[.str [115,99,114,105,112,116]]::p.iN.map eD⟩),(0,⟨true,false,1,1,[[.str [115,99,114,105,112,116]]]⟩)]⟩ [(3,⟨true,false,1,2,[.str [115,99,114,105,112,116]]::p.iN.map eD⟩)] [] rfl (by simp) rfl (by simp[Region.binds];rfl) (by decide) (by simp[Region.binds];rfl) (by simp;rfl) rfl ?_ ?_;(focus (refine MG (by simp;exact⟨rfl,rfl⟩) (by simp) rfl rfl (by decide) (by decide) (by first|(simp;rfl)|rfl) (by simp[AV.lC]) (by simp[AV.Bn,AV.cells]) (by simp) (by simp[AV.cells]))))|(refine wM (j:=9) (v:= .obj 2 2) ⟨2,1,[(9,⟨true,false,1,2,[.str [115,116,121,108,101]]::p.kH.map eD⟩),(6,⟨true,false,1,1,[[.str [115,116,121,108,101]]]⟩)]⟩ [] [(6,⟨true,false,1,1,[[.str [115,116,121,108,101]]]⟩)] rfl (by simp) rfl (by simp[Region.binds];rfl) (by decide) (by simp[Region.binds];rfl) (by simp;rfl) rfl ?_ ?_;(focus (refine KR (by first|(simp;rfl)|(simp;done)|rfl) rfl (by first|(simp;rfl)|(simp;done)|rfl) (by first|(simp;rfl)|(simp;done)|rfl) (by first|(simp;rfl)|(simp;done)|rfl) (by simp;exact⟨rfl,rfl⟩) (by simp) (by simp) (by simp;omega) (by simp;omega))))|(refine wM (j:=6) (v:= .obj 2 1) ⟨2,1,[(9,⟨true,false,1,2,[.str [115,116,121,108,101]]::p.kH.map eD⟩),(6,⟨true,false,1,1,[[.str [115,116,121,108,101]]]⟩)]⟩ [(9,⟨true,false,1,2,[.str [115,116,121,108,101]]::p.kH.map eD⟩)] [] rfl (by simp) rfl (by simp[Region.binds];rfl) (by decide) (by simp[Region.binds];rfl) (by simp;rfl) rfl ?_ ?_;(focus (refine MG (by simp;exact⟨rfl,rfl⟩) (by simp) rfl rfl (by decide) (by decide) (by first|(simp;rfl)|rfl) (by simp[AV.lC]) (by simp[AV.Bn,AV.cells]) (by simp) (by simp[AV.cells]))))|(refine wM (j:=16) (v:= .obj 3 2) ⟨3,1,[(16,⟨true,false,1,2,[.str [105,109,103]]::p.kJ.map eD⟩),(13,⟨true,false,1,1,[[.str [105,109,103]]]⟩)]⟩ [] [(13,⟨true,false,1,1,[[.str [105,109,103]]]⟩)] rfl (by simp) rfl (by simp[Region.binds];rfl) (by decide) (by simp[Region.binds];rfl) (by simp;rfl) rfl ?_ ?_;(focus (refine KR (by first|(simp;rfl)|(simp;done)|rfl) rfl (by first|(simp;rfl)|(simp;done)|rfl) (by first|(simp;rfl)|(simp;done)|rfl) (by first|(simp;rfl)|(simp;done)|rfl) (by simp;exact⟨rfl,rfl⟩) (by simp) (by simp) (by simp;omega) (by simp;omega))))|(refine wM (j:=13) (v:= .obj 3 1) ⟨3,1,[(16,⟨true,false,1,2,[.str [105,109,103]]::p.kJ.map eD⟩),(13,⟨true,false,1,1,[[.str [105,109,103]]]⟩)]⟩ [(16,⟨true,false,1,2,[.str [105,109,103]]::p.kJ.map eD⟩)] [] rfl (by simp) rfl (by simp[Region.binds];rfl) (by decide) (by simp[Region.binds];rfl) (by simp;rfl) rfl ?_ ?_;(focus (refine MG (by simp;exact⟨rfl,rfl⟩) (by simp) rfl rfl (by decide) (by decide) (by first|(simp;rfl)|rfl) (by simp[AV.lC]) (by simp[AV.Bn,AV.cells]) (by simp) (by simp[AV.cells]))))|(refine YR rfl ?_ (by simp[Region.binds];rfl) (by decide) (by simp[Region.binds];rfl) (by simp;rfl) ?_ rfl (by first|rfl|(simp;done)) ?_;(focus (first|rfl|(simp;done)));(focus (first|rfl|(simp[qO];done))))|(refine nx ?_;refine so ?_)|fail
   by_cases hn:p.uC=[]
   .rw [eM hn];have W:=aA h2 hn;have V:=aA h2 hn;refine we ?_;all_goals try(refine bA ?_;simp[bB,results245,h2,hn])
   .rw [eC hn];have W:=aA h2 hn;have V:=aA h2 hn;repeat' first|refine wf ?_|(refine sq ?_ ?_<;>intro hc<;>try exact hc.elim)|fail
    all_goals try(refine bA ?_;simp[bB,results245,h2,hn,qV])
    all_goals (exact absurd (by assumption) hn)
  .rw [eC (λh=>h2 h.2)]
   simp only[AG]at h2;rw[h1,h2]at c0;refine dN aK func245 ntmps245 ?_;have W:=h2;have V:=h2;refine we ?_;exact aO results245
 .rw [eC (λh=>h1 h.1)]
  simp only[AG]at h1;rw[h1]at c0;refine dN aK func245 ntmps245 ?_;refine bK ?_;exact aO results245
def OW(c:UInt8):∀s:bE,bU iM (dQ c s)<=s.length
 |[]=>by simp[dQ,bU,iM]
 |x::s=>by
  have ih:=OW c s;simp only[dQ];split
  .simp only[bU,iM,fL,eL]at ih⊢;omega
  .split
   .rename_i h0;exact absurd h0 (sD c s)
   .rename_i p q h0;rw[h0]at ih;simp only[bU,iM,eL]at ih⊢;omega
def aIm(c:UInt8)(s:bE):dS iM (dQ c s)<=2*s.length+1:=by have h1:=OW c s;have h2:=kW c s;have h3:=qS (a:=c) (l:=s);simp only[dS];omega
def Lf(c:UInt8)(s:bE):dS iM (dQ c s).tail<=2*s.length+1:=by
 have h:=aIm c s;cases hs:dQ c s with
 |nil=>exact absurd hs (sD c s)
 |cons x l=>rw[hs]at h;simp only[dS,bU,eL,tail_cons]at h⊢;omega
def uY{c:UInt8}{s x:bE}(h:x∈dQ c s):x.length<=s.length:=by have h1:=OW c s;have h2:=dJ iM h;simp only[iM]at h2;omega
def IB(f:bE->bE){s x0 x1 x2:bE}{r:List bE}(h:dQ 59 s=x0::x1::x2::r):uE f s=⟨true,(dQ 32 x0).tail,(dQ 32 x1).tail,(dQ 32 x2).tail,match r[0]? with|some x=>f x|none=>[]⟩:=by unfold uE;rw[h];rfl
def Lg(f:bE->bE)(hf:∀x,(f x).length<=x.length){s:bE}(h:¬(dQ 59 s).length<3):eT (uE f s)<=7*s.length+3:=by
 match hs:dQ 59 s with
 |[]=>rw[hs]at h;simp at h
 |[_]=>rw[hs]at h;simp at h
 |[_,_]=>rw[hs]at h;simp at h
 |x0::x1::x2::r=>
  rw[IB f hs];have h0:=uY (c:=59) (s:=s) (x:=x0) (by rw[hs];simp);have h1:=uY (c:=59) (s:=s) (x:=x1) (by rw[hs];simp);have h2:=uY (c:=59) (s:=s) (x:=x2) (by rw[hs];simp);have k0:=Lf 32 x0;have k1:=Lf 32 x1;have k2:=Lf 32 x2;simp only[eT];cases r with
  |nil=>simp;omega
  |cons x r=>have h3:=uY (c:=59) (s:=s) (x:=x) (by rw[hs];simp);have:=hf x;simp only[sR];omega
def XQ(x:bE):(sK x).length<=x.length:=by unfold sK;split<;>simp
def Ej[aG prog](s:bE)(c:UInt8)(hl:s.length<=1099511627776):Ok prog 163 [.str s,.int .u8 c.toNat] (.sl .view 1 ((dQ c s).map eD)):=(yS s c hl).Dk (by simp[rt])
def Dl[aG prog](s:bE)(hl:s.length<=1073741824):Ok prog 213 [.str s] (.iL [.agg (dA .view (xD sK s).1),.bool (xD sK s).2]):=by
 have z1:Ok prog 213 [.str []] (.iL [.agg [.bool false,.sl .own 1 [],.sl .own 1 [],.sl .own 1 [],.str []],.bool true]):=by refine Wl aK func213 ntmps213 ?_;refine bK ?_;all_goals try(first|(refine⟨.inr rfl,.inl ?_⟩;simp[qK,results213];done)|(refine⟨.inr rfl,.inr (tZ ?_)⟩;simp[AS.Cc,AS.Az,AS.rv,results213];done)|(refine⟨.inr rfl,.inl ?_⟩;simp[qK,results213]))
 have c0:Ok prog 163 [.str s,.int .u8 59] (.sl .view 1 ((dQ 59 s).map eD)):=Ej s 59 (by omega);unfold xD;by_cases h0:s=[]
 .rw [eM h0];subst h0;exact z1.Dk (by simp[rt,tJ,yL])
 rw[eC h0];by_cases h3:(dQ 59 s).length<3
 .rw [eM h3];have z2:Ok prog 213 [.str s] (.iL [.agg [.bool false,.sl .own 1 [],.sl .own 1 [],.sl .own 1 [],.str []],.bool false]):=by
   have h3':((dQ 59 s).length:Int)<3:=by omega
   generalize dQ 59 s=L at*;refine Wl aK func213 ntmps213 ?_;have W:=aA h0 (aA h3' h3);have V:=h0;repeat' first|refine wf ?_|(refine sq ?_ ?_<;>intro hc<;>try exact hc.elim)|fail
   all_goals try(first|(refine⟨.inr rfl,.inl ?_⟩;simp[qK,results213];done)|(refine⟨.inr rfl,.inr (tZ ?_)⟩;simp[AS.Cc,AS.Az,AS.rv,results213];done)|(refine⟨.inr rfl,.inl ?_⟩;simp[qK,results213]))
   all_goals exact absurd (by assumption) h0
  exact z2.Dk (by simp[rt,tJ,yL])
 rw[eC h3];have hz:=Lg sK XQ h3;have cf:=xZ (uE sK s) (by omega);obtain⟨x0,x1,x2,r,hs⟩:∃x0 x1 x2 r,dQ 59 s=x0::x1::x2::r:=by
  match hs:dQ 59 s with
  |[]=>rw[hs]at h3;simp at h3
  |[_]=>rw[hs]at h3;simp at h3
  |[_,_]=>rw[hs]at h3;simp at h3
  |x0::x1::x2::r=>exact⟨x0,x1,x2,r,rfl⟩
 have m0:=uY (c:=59) (s:=s) (x:=x0) (by rw[hs];simp);have m1:=uY (c:=59) (s:=s) (x:=x1) (by rw[hs];simp);have m2:=uY (c:=59) (s:=s) (x:=x2) (by rw[hs];simp);have hrl:r.length<=s.length:=by have:=kW 59 s;have h3:=qS (a:=(59:UInt8)) (l:=s);rw[hs]at this;simp at this;omega
 rw[hs]at c0;have e:=IB sK hs;have c1:Ok prog 163 [.str x0,.int .u8 32] (.sl .view 1 ((dQ 32 x0).map eD)):=Ej x0 32 (by omega);have c2:Ok prog 163 [.str x1,.int .u8 32] (.sl .view 1 ((dQ 32 x1).map eD)):=Ej x1 32 (by omega);have c3:Ok prog 163 [.str x2,.int .u8 32] (.sl .view 1 ((dQ 32 x2).map eD)):=Ej x2 32 (by omega);obtain⟨y0,t0,e0⟩:=Ax (sD 32 x0);obtain⟨y1,t1,e1⟩:=Ax (sD 32 x1);obtain⟨y2,t2,e2⟩:=Ax (sD 32 x2);rw[e0]at c1;rw[e1]at c2;rw[e2]at c3;rw[e0,e1,e2]at e;simp only[tail_cons]at e;clear hs m0 m1 m2 e0 e1 e2 h3 hz;have tk:∀(t:List bE),(t.map eD).take t.length=t.map eD:=λt=>eN (by simp)
 have key:∀(n:bE),uE sK s=⟨true,t0,t1,t2,n⟩->∀b,decide (jI (uE sK s)=s)=b->Ok prog 145 [.agg [.bool true,.sl .view 1 (t0.map eD),.sl .view 1 (t1.map eD),.sl .view 1 (t2.map eD),.str n]] (.str (jI (uE sK s))):=by intro n hn b _;rw[hn]at cf⊢;simpa only[dA]using cf
 have lI:∀n,uE sK s=⟨true,t0,t1,t2,n⟩->(Ok prog 145 [.agg [.bool true,.sl .view 1 (t0.map eD),.sl .view 1 (t1.map eD),.sl .view 1 (t2.map eD),.str n]] (.str (jI (uE sK s))))->
   Ok prog 213 [.str s] (if jI (uE sK s)=s then .iL [.agg [.bool true,.sl .view 1 (t0.map eD),.sl .view 1 (t1.map eD),.sl .view 1 (t2.map eD),.str n],.bool true]else .iL [.agg [.bool false,.sl .own 1 [],.sl .own 1 [],.sl .own 1 [],.str []],.bool false]):=by
  intro n hn cF;rw[e]at hn;simp only[gG.mk.injEq,true_and]at hn;subst hn;generalize jI (uE sK s)=F at*;cases r with
  |nil=>
   simp only[getElem?_nil]at cF⊢;by_cases hF:F=s
   .rw [eM hF];refine Wl aK func213 ntmps213 ?_;have W:=aA h0 (aA hF tk);have V:=aA h0 tk;repeat' first|refine wf ?_|(refine sq ?_ ?_<;>intro hc<;>try exact hc.elim)|fail
    all_goals try(first|(refine⟨.inr rfl,.inl ?_⟩;simp[qK,results213];done)|(refine⟨.inr rfl,.inr (tZ ?_)⟩;simp[AS.Cc,AS.Az,AS.rv,results213];done)|(refine⟨.inr rfl,.inl ?_⟩;simp[qK,results213]))
    all_goals first|exact absurd (by assumption) h0|omega|simp_all
   .rw [eC hF];refine Wl aK func213 ntmps213 ?_;have W:=aA h0 (aA hF tk);have V:=aA h0 tk;repeat' first|refine wf ?_|(refine sq ?_ ?_<;>intro hc<;>try exact hc.elim)|fail
    all_goals try(first|(refine⟨.inr rfl,.inl ?_⟩;simp[qK,results213];done)|(refine⟨.inr rfl,.inr (tZ ?_)⟩;simp[AS.Cc,AS.Az,AS.rv,results213];done)|(refine⟨.inr rfl,.inl ?_⟩;simp[qK,results213]))
    all_goals first|exact absurd (by assumption) h0|omega|simp_all
  |cons x r=>
   simp only[sR]at cF⊢;unfold sK at cF⊢;by_cases hx:6<x.length
   .rw [eM hx]at cF⊢;by_cases hF:F=s
    .rw [eM hF];refine Wl aK func213 ntmps213 ?_;have W:=aA h0 (aA hF (aA hx tk));have V:=aA h0 tk;repeat' first|refine wf ?_|(refine sq ?_ ?_<;>intro hc<;>try exact hc.elim)|fail
     all_goals try(first|(refine⟨.inr rfl,.inl ?_⟩;simp[qK,results213];done)|(refine⟨.inr rfl,.inr (tZ ?_)⟩;simp[AS.Cc,AS.Az,AS.rv,results213];done)|(refine⟨.inr rfl,.inl ?_⟩;simp[qK,results213]))
     all_goals first|exact absurd (by assumption) h0|omega|simp_all
    .rw [eC hF];refine Wl aK func213 ntmps213 ?_;have W:=aA h0 (aA hF (aA hx tk));have V:=aA h0 tk;repeat' first|refine wf ?_|(refine sq ?_ ?_<;>intro hc<;>try exact hc.elim)|fail
     all_goals try(first|(refine⟨.inr rfl,.inl ?_⟩;simp[qK,results213];done)|(refine⟨.inr rfl,.inr (tZ ?_)⟩;simp[AS.Cc,AS.Az,AS.rv,results213];done)|(refine⟨.inr rfl,.inl ?_⟩;simp[qK,results213]))
     all_goals first|exact absurd (by assumption) h0|omega|simp_all
   .rw [eC hx]at cF⊢;by_cases hF:F=s
    .rw [eM hF];refine Wl aK func213 ntmps213 ?_;have W:=aA h0 (aA hF (aA hx tk));have V:=aA h0 tk;repeat' first|refine wf ?_|(refine sq ?_ ?_<;>intro hc<;>try exact hc.elim)|fail
     all_goals try(first|(refine⟨.inr rfl,.inl ?_⟩;simp[qK,results213];done)|(refine⟨.inr rfl,.inr (tZ ?_)⟩;simp[AS.Cc,AS.Az,AS.rv,results213];done)|(refine⟨.inr rfl,.inl ?_⟩;simp[qK,results213]))
     all_goals first|exact absurd (by assumption) h0|omega|simp_all
    .rw [eC hF];refine Wl aK func213 ntmps213 ?_;have W:=aA h0 (aA hF (aA hx tk));have V:=aA h0 tk;repeat' first|refine wf ?_|(refine sq ?_ ?_<;>intro hc<;>try exact hc.elim)|fail
     all_goals try(first|(refine⟨.inr rfl,.inl ?_⟩;simp[qK,results213];done)|(refine⟨.inr rfl,.inr (tZ ?_)⟩;simp[AS.Cc,AS.Az,AS.rv,results213];done)|(refine⟨.inr rfl,.inl ?_⟩;simp[qK,results213]))
     all_goals first|exact absurd (by assumption) h0|omega|simp_all
 have:=lI _ e (key _ e _ rfl);by_cases hF:jI (uE sK s)=s
 .rw [eM hF]at this⊢;rw[e];exact this.Dk (by simp[rt,tJ])
 .rw [eC hF]at this⊢;exact this.Dk (by simp[rt,tJ,yL])
end Go.Proofs.YtanobkmhbpjnpaaGreatDoor
