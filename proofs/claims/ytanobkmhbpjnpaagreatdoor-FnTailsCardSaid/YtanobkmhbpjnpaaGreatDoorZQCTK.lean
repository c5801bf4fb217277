/- Steps. No condition. -/
import Derived.Test.YtanobkmhbpjnpaaGreatDoorZQJ5
import Derived.Test.YtanobkmhbpjnpaaGreatDoorZQST0
set_option linter.all false
set_option maxRecDepth 8000
set_option maxHeartbeats 8000000
namespace Go.Proofs.YtanobkmhbpjnpaaGreatDoor
open Go.Aw Proofs.Tryz List IntKind
@[simp] def aIn(f:Tg->Option Tg)(b:Bool)(l:bE):lW f b (bL l)=bL l:=by
 induction l with
 |nil=>rfl
 |cons x l ih=>simp only[bL,oE,lW,tJ,rt]at ih⊢;rw[ih]
def xG(s:bE):Int:=xE (151::oN s)
def rz(s:bE)(h:s.length<=60000000):∀y∈(151::oN s),K6 y:=by
 intro y hy;unfold K6;rcases mC.1 hy with rfl|hy
 .omega
 rcases mC.1 hy with rfl|hy
 .omega
 .simp only[toInts,Aw.zU,zE]at hy;obtain⟨c,_,rfl⟩:=hy;have:c.toNat<256:=DG c;omega
def Jo(s:bE):(oN s).length=s.length+1:=by simp[oN,toInts,Aw.zU]
def si(l:List Int):0<=xE l/\xE l<=2147483647:=by
 unfold xE;have:∀(l:List Int) (a:Int),0<=a/\a<=2147483647->0<=l.foldl BC a/\l.foldl BC a<=2147483647:=by
  intro l;induction l with
  |nil=>intro a h;exact h
  |cons x l ih=>intro a _;refine ih _ ?_;unfold BC;omega
 exact this l 11 (by omega)
def QY[aG prog][dG prog][fI prog](s:bE)(hl:s.length<=1048576):Ok prog 215 [.str s] (.int .i64 (xG s)):=by
 have c3:=Li s (by omega);have c4:=rf (151::oN s) (by simp only[eL,Jo];omega) (rz _ (by omega));have hil:=Jo s;have hq:(oN s).length<=1048577:=by omega
 simp only[oE]at c4;unfold xG;generalize oN s=q at*;refine dN aK func215 ntmps215 ?_;have W:=trivial;repeat' first|refine wf ?_|(refine nx ?_;refine sb ?_)|(refine sq ?_ ?_<;>intro hc<;>try exact hc.elim)|fail
 exact aO results215
def QZ[aG prog][dG prog][fI prog](s:bE)(hl:s.length<=1048576):Ok prog 207 [.str s] (.int .i64 (xG s)):=by
 have c3:=Lj s (by omega);have c4:=ry (151::oN s) (by simp only[eL,Jo];omega) (rz _ (by omega));have hil:=Jo s;have hq:(oN s).length<=1048577:=by omega
 simp only[oE]at c4;unfold xG;generalize oN s=q at*;refine dN aK func207 ntmps207 ?_;have W:=trivial;repeat' first|refine wf ?_|(refine nx ?_;refine sb ?_)|(refine sq ?_ ?_<;>intro hc<;>try exact hc.elim)|fail
 exact aO results207
def xH(body v:bE):Bool:=v == [] || v == Lib.itoa (xG body)
def Ll[aG prog][dG prog][fI prog](s v:bE)(hl:s.length<=1048576):Ok prog 156 [.str s,.str v] (.bool (xH s v)):=by
 have c1:=QY s hl;have hr:=si (151::oN s);have c2:=iQ (xG s) (by unfold xG;omega);unfold xH;generalize xG s=d at*;generalize Lib.itoa d=t at*;refine dN aK func156 ntmps156 ?_;have W:=trivial;repeat' first|refine wf ?_|(refine nx ?_;refine sb ?_)|(refine sq ?_ ?_<;>intro hc<;>try exact hc.elim)|fail
 all_goals try(refine bA ?_;simp[bB,results156])
 all_goals simp_all
def Lm[aG prog][dG prog][fI prog](s v:bE)(hl:s.length<=1048576):Ok prog 150 [.str s,.str v] (.bool (xH s v)):=by
 have c1:=QZ s hl;have hr:=si (151::oN s);have c2:=iP (xG s) (by unfold xG;omega);unfold xH;generalize xG s=d at*;generalize Lib.itoa d=t at*;refine dN aK func150 ntmps150 ?_;have W:=trivial;repeat' first|refine wf ?_|(refine nx ?_;refine sb ?_)|(refine sq ?_ ?_<;>intro hc<;>try exact hc.elim)|fail
 all_goals try(refine bA ?_;simp[bB,results150])
 all_goals simp_all
def BD(x:bG)(k:Int):Bool:=decide (x.kind=k) || (decide (k=5)&&decide (x.kind=2))
def Ra[aG prog][dG prog][fI prog](x:bG)(k:Int):Ok prog 155 [.agg (bR x),.int .i64 k] (.bool (BD x k)):=by
 unfold BD;refine dN aK func155 ntmps155 ?_;have W:=trivial;repeat' first|refine wf ?_|(refine nx ?_;refine sb ?_)|(refine sq ?_ ?_<;>intro hc<;>try exact hc.elim)|fail
 all_goals try(refine bA ?_;simp[bB,results155])
 all_goals first|(simp_all;done)|(by_cases hk2:x.kind=2<;>simp_all)
def Rb[aG prog][dG prog][fI prog](x:bG)(k:Int):Ok prog 149 [.agg (bR x),.int .i64 k] (.bool (BD x k)):=by
 unfold BD;refine dN aK func149 ntmps149 ?_;have W:=trivial;repeat' first|refine wf ?_|(refine nx ?_;refine sb ?_)|(refine sq ?_ ?_<;>intro hc<;>try exact hc.elim)|fail
 all_goals try(refine bA ?_;simp[bB,results149])
 all_goals first|(simp_all;done)|(by_cases hk2:x.kind=2<;>simp_all)
def UB(r:iO)(x:bG):Bool:=decide (r.frm≠r.to.bN)&& !x.shares&&(decide (r.kind=5) || decide (r.eZ≠[]))
def fE(p:gG)(r:iO)(x:bG):Int:=
 if iF p r≠1 then 2 else if lF x=false\/x.qQ≠200 then 3 else if BD x r.kind=false then 4 else if UB r x=true then 5 else if xH x.body r.eZ=false then 6 else 1
def xI[aG prog][dG prog][fI prog](p:gG)(r:iO)(x:bG)(hp:eT p<=274877906944)(hr:lZ r<=274877906944)(hx:dC x<=1048576):Ok prog 102 [.agg (dA .view p),.agg (eG r),.agg (bR x)] (.int .i64 (fE p r x)):=by
 have c1:=xX p r (by omega) (by omega);have c2:=Ah x (by omega);have c3:=Ra x r.kind;have c4:=Ll x.body r.eZ (by simp only[dC]at hx;omega);simp only[dA,eG]at c1;simp only[bR]at c2 c3;unfold fE UB;generalize iF p r=n at*;generalize lF x=b2 at*;generalize BD x r.kind=b3 at*;generalize xH x.body r.eZ=b4 at*;by_cases h1:n=1
 .subst h1;refine dN aK func102 ntmps102 ?_;have W:=trivial;repeat' first|refine wf ?_|(refine nx ?_;refine sb ?_)|(refine sq ?_ ?_<;>intro hc<;>try exact hc.elim)|fail
  all_goals try(refine bA ?_;simp[bB,results102])
  all_goals simp_all
 .refine dN aK func102 ntmps102 ?_;have W:=h1;repeat' first|refine wf ?_|(refine nx ?_;refine sb ?_)|(refine sq ?_ ?_<;>intro hc<;>try exact hc.elim)|fail
  all_goals try(refine bA ?_;simp[bB,results102,h1])
  all_goals simp_all
def xJ[aG prog][dG prog][fI prog](p:gG)(r:iO)(x:bG)(hp:eT p<=274877906944)(hr:lZ r<=274877906944)(hx:dC x<=1048576):Ok prog 97 [.agg (dA .view p),.agg (eG r),.agg (bR x)] (.int .i64 (fE p r x)):=by
 have c1:=xY p r (by omega) (by omega);have h12:iF p r=1\/iF p r=2:=by unfold iF;split<;>simp
 have c2:=Nl x (by omega);have c3:=Rb x r.kind;have c4:=Lm x.body r.eZ (by simp only[dC]at hx;omega);simp only[dA,eG]at c1;simp only[bR]at c2 c3;unfold fE UB;generalize iF p r=n at*;generalize lF x=b2 at*;generalize BD x r.kind=b3 at*;generalize xH x.body r.eZ=b4 at*;rcases h12 with h1|h1
 .subst h1;refine dN aK func97 ntmps97 ?_;have W:=trivial;repeat' first|refine wf ?_|(refine nx ?_;refine sb ?_)|(refine sq ?_ ?_<;>intro hc<;>try exact hc.elim)|fail
  all_goals try(refine bA ?_;simp[bB,results97])
  all_goals simp_all
 .subst h1;refine dN aK func97 ntmps97 ?_;have W:=trivial;repeat' first|refine wf ?_|(refine nx ?_;refine sb ?_)|(refine sq ?_ ?_<;>intro hc<;>try exact hc.elim)|fail
  exact aO results97
def lG(p:gG)(r:iO)(x:bG):bE:=if fE p r x=1 then x.body else []
def El[aG prog][dG prog][fI prog](p:gG)(r:iO)(x:bG)(hp:eT p<=274877906944)(hr:lZ r<=274877906944)(hx:dC x<=1048576):Ok prog 103 [.agg (dA .view p),.agg (eG r),.agg (bR x)] (.iL [.str (lG p r x),.bool (decide (fE p r x=1))]):=by
 have c1:=xI p r x hp hr hx;simp only[dA,eG,bR]at c1;unfold lG;generalize fE p r x=n at*;by_cases h1:n=1
 .subst h1;refine dN aK func103 ntmps103 ?_;have W:=trivial;repeat' first|refine wf ?_|(refine nx ?_;refine sb ?_)|(refine sq ?_ ?_<;>intro hc<;>try exact hc.elim)|fail
  exact aO results103
 .refine dN aK func103 ntmps103 ?_;have W:=h1;repeat' first|refine wf ?_|(refine nx ?_;refine sb ?_)|(refine sq ?_ ?_<;>intro hc<;>try exact hc.elim)|fail
  all_goals try(refine bA ?_;simp[bB,results103,h1])
def Em[aG prog][dG prog][fI prog](p:gG)(r:iO)(x:bG)(hp:eT p<=274877906944)(hr:lZ r<=274877906944)(hx:dC x<=1048576):Ok prog 98 [.agg (dA .view p),.agg (eG r),.agg (bR x)] (.iL [.str (lG p r x),.bool (decide (fE p r x=1))]):=by
 have c1:=xJ p r x hp hr hx;simp only[dA,eG,bR]at c1;unfold lG;generalize fE p r x=n at*;by_cases h1:n=1
 .subst h1;refine dN aK func98 ntmps98 ?_;have W:=trivial;repeat' first|refine wf ?_|(refine nx ?_;refine sb ?_)|(refine sq ?_ ?_<;>intro hc<;>try exact hc.elim)|fail
  exact aO results98
 .refine dN aK func98 ntmps98 ?_;have W:=h1;repeat' first|refine wf ?_|(refine nx ?_;refine sb ?_)|(refine sq ?_ ?_<;>intro hc<;>try exact hc.elim)|fail
  all_goals try(refine bA ?_;simp[bB,results98,h1])
def filled(p:aF)(s:qF)(x:bG):qF:={s with done:=true,code:=fE p.bO (iG p s) x,body:=lG p.bO (iG p s) x}
def jO(p:aF)(k:Int)(x:bG):aF:=
 if 0<=k then match p.aD[k.toNat]? with
  |some s=>if s.done=true then p else {p with aD:=p.aD.set k.toNat (filled p s x)}
  |none=>p
 else p
def RS{p:aF}{k:Int}{x:bG}(h:¬(0<=k/\k<p.aD.length)):jO p k x=p:=by
 unfold jO;split
 .have:p.aD[k.toNat]? =none:=by rw[tD];omega
  rw[this]
 .rfl
def OX{p:aF}{k:Int}{x:bG}{s:qF}(hg:p.aD[k.toNat]? =some s)(hd:s.done=true):jO p k x=p:=by unfold jO;rw[hg];simp[hd]
def sj{p:aF}{k:Int}{x:bG}{s:qF}(h0:0<=k)(hg:p.aD[k.toNat]? =some s)(hd:s.done=false):jO p k x={p with aD:=p.aD.set k.toNat (filled p s x)}:=by unfold jO;rw[eM h0,hg];simp[hd]
def Qo(p:aF){s:qF}{k:Nat}(hg:p.aD[k]? =some s):lZ (iG p s)<=aM p:=by have hm:=dJ nO (nB hg);simp only[nO]at hm;simp only[lZ,iG,aM,aW,dS]at*;omega
def Re[aG prog][dG prog][fI prog](p:aF)(k:Int)(x:bG)(hs:aM p<=137438953472)(hx:dC x<=1048576):Ok prog 100 [.agg (aH .view p),.int .i64 k,.agg (bR x)] (.agg (aH .own (jO p k x))):=by
 have c1:=lM p (by omega);have Oz:p.aD.length<=274877906944:=by simp only[aM,dS]at hs;omega
 have Il:eT p.bO<=274877906944:=by simp only[aM]at hs;omega
 by_cases hk0:k<0
 .rw [RS (by omega)];simp only[aH]at c1;refine dN aK func100 ntmps100 ?_;have W:=hk0;refine we ?_;exact aO results100
 by_cases hk1:(p.aD.length:Int)<=k
 .rw [RS (by omega)];simp only[aH]at c1;refine dN aK func100 ntmps100 ?_;have W:=aA hk0 hk1;refine we ?_;exact aO results100
 have h0:0<=k:=by omega
 have hlt:k.toNat<p.aD.length:=by omega
 have hg:p.aD[k.toNat]? =some p.aD[k.toNat]:=aE hlt;cases hd:p.aD[k.toNat].done
 .rw [sj h0 hg hd];have c2:=yV p k h0 (by omega) (by omega);have hr:=Qo p hg;have e:lK p k=iG p p.aD[k.toNat]:=by simp[lK,hg]
  rw[e]at c2;have c3:=xJ p.bO (iG p p.aD[k.toNat]) x Il (by omega) hx;have c4:=Em p.bO (iG p p.aD[k.toNat]) x Il (by omega) hx;have hset:∀(c:Int) (b:bE),(p.aD.map uL).set k.toNat [.int .i64 p.aD[k.toNat].nI,.str p.aD[k.toNat].to.bN,.str p.aD[k.toNat].to.iD,.str p.aD[k.toNat].eZ,.int .i64 p.aD[k.toNat].node,.bool true,.int .i64 c,.str b]=(p.aD.set k.toNat {p.aD[k.toNat]with done:=true,code:=c,body:=b}).map uL:=by intro c b;rw[map_set];rfl
  have hset:=hset (fE p.bO (iG p p.aD[k.toNat]) x) (lG p.bO (iG p p.aD[k.toNat]) x);unfold filled;generalize fE p.bO (iG p p.aD[k.toNat]) x=c at*;generalize lG p.bO (iG p p.aD[k.toNat]) x=b at*;generalize iG p p.aD[k.toNat]=q at*;generalize p.aD.set k.toNat {p.aD[k.toNat]with done:=true,code:=c,body:=b}=l3 at*;simp only[aH,eG]at c2;simp only[dA,eG,bR]at c3 c4;simp only[aH]at c1;simp only[aH];clear e;refine dN aK func100 ntmps100 ?_;have W:=aA hk0 (aA hk1 (aA h0 (aA hg (aA hd hlt))));refine we ?_;all_goals try(refine bA ?_;simp[bB,results100])
  all_goals exact hset
 .rw [OX hg hd];simp only[aH]at c1;refine dN aK func100 ntmps100 ?_;have W:=aA hk0 (aA hk1 (aA h0 (aA hg (aA hd hlt))));refine we ?_;exact aO results100
def Rf[aG prog][dG prog][fI prog](p:aF)(k:Int)(x:bG)(hs:aM p<=137438953472)(hx:dC x<=1048576):Ok prog 106 [.agg (aH .view p),.int .i64 k,.agg (bR x)] (.agg (aH .own (jO p k x))):=by
 have c1:=jH p (by omega);have Oz:p.aD.length<=274877906944:=by simp only[aM,dS]at hs;omega
 have Il:eT p.bO<=274877906944:=by simp only[aM]at hs;omega
 have ci:=jG k 0 ((p.aD.length:Int)-1);by_cases hk0:k<0
 .rw [RS (by omega)];rw[show(decide (0<=k)&&decide (k<=(p.aD.length:Int)-1))=false by simp;omega]at ci;simp only[aH]at c1;refine dN aK func106 ntmps106 ?_;have W:=hk0;refine we ?_;exact aO results106
 by_cases hk1:(p.aD.length:Int)<=k
 .rw [RS (by omega)];rw[show(decide (0<=k)&&decide (k<=(p.aD.length:Int)-1))=false by simp;omega]at ci;simp only[aH]at c1;refine dN aK func106 ntmps106 ?_;have W:=aA hk0 hk1;refine we ?_;exact aO results106
 have h0:0<=k:=by omega
 rw[show(decide (0<=k)&&decide (k<=(p.aD.length:Int)-1))=true by simp;omega]at ci;have hlt:k.toNat<p.aD.length:=by omega
 have hg:p.aD[k.toNat]? =some p.aD[k.toNat]:=aE hlt;cases hd:p.aD[k.toNat].done
 .rw [sj h0 hg hd];have c2:=yU p k h0 (by omega) (by omega);have hr:=Qo p hg;have e:lK p k=iG p p.aD[k.toNat]:=by simp[lK,hg]
  rw[e]at c2;have c3:=xI p.bO (iG p p.aD[k.toNat]) x Il (by omega) hx;have c4:=El p.bO (iG p p.aD[k.toNat]) x Il (by omega) hx;have hset:∀(c:Int) (b:bE),(p.aD.map uL).set k.toNat [.int .i64 p.aD[k.toNat].nI,.str p.aD[k.toNat].to.bN,.str p.aD[k.toNat].to.iD,.str p.aD[k.toNat].eZ,.int .i64 p.aD[k.toNat].node,.bool true,.int .i64 c,.str b]=(p.aD.set k.toNat {p.aD[k.toNat]with done:=true,code:=c,body:=b}).map uL:=by intro c b;rw[map_set];rfl
  have hset:=hset (fE p.bO (iG p p.aD[k.toNat]) x) (lG p.bO (iG p p.aD[k.toNat]) x);unfold filled;generalize fE p.bO (iG p p.aD[k.toNat]) x=c at*;generalize lG p.bO (iG p p.aD[k.toNat]) x=b at*;generalize iG p p.aD[k.toNat]=q at*;generalize p.aD.set k.toNat {p.aD[k.toNat]with done:=true,code:=c,body:=b}=l3 at*;simp only[aH,eG]at c2;simp only[dA,eG,bR]at c3 c4;simp only[aH]at c1;simp only[aH];clear e;refine dN aK func106 ntmps106 ?_;have W:=aA hk0 (aA hk1 (aA h0 (aA hg (aA hd hlt))));refine we ?_;all_goals try(refine bA ?_;simp[bB,results106])
  all_goals exact hset
 .rw [OX hg hd];simp only[aH]at c1;refine dN aK func106 ntmps106 ?_;have W:=aA hk0 (aA hk1 (aA h0 (aA hg (aA hd hlt))));refine we ?_;exact aO results106
def jJ(p:aF)(a:aR)(x:bG):Nat->aF
 |0=>p
 |k+1=>match p.aD[k]? with
  |some s=>if s.to=a then jO (jJ p a x k) k x else jJ p a x k
  |none=>jJ p a x k
def nK(p:aF)(a:aR)(x:bG):aF:=jJ p a x p.aD.length
def XR(p:aF)(k:Int)(x:bG):(jO p k x).aD.length=p.aD.length/\(jO p k x).bO=p.bO/\(jO p k x).gZ=p.gZ:=by
 unfold jO;split
 .split
  .split
   .exact ⟨rfl,rfl,rfl⟩
   .simp
  .exact ⟨rfl,rfl,rfl⟩
 .exact ⟨rfl,rfl,rfl⟩
def aM9(p:aF)(k:Int)(x:bG)(j:Nat)(h:(j:Int)≠k):(jO p k x).aD[j]? =p.aD[j]?:=by
 unfold jO;split
 .split
  .split
   .rfl
   .simp only;rw[lB (by omega)]
  .rfl
 .rfl
def Ff(p:gG)(r:iO)(x:bG):(lG p r x).length<=400:=by
 unfold lG;split
 .rename_i h;unfold fE at h;split at h
  .omega
  .split at h
   .omega
   .rename_i h2;have h3:lF x=true:=by
     cases h4:lF x with
     |true=>rfl
     |false=>exact absurd (.inl h4) h2
    simp only[lF,eK,fY]at h3;exact h3.1.1.2
 .simp
def aIo(p:aF)(k:Int)(x:bG):aM (jO p k x)<=aM p+400:=by
 unfold jO;split
 .split
  .rename_i s hg;split
   .omega
   .have hb:=Ff p.bO (iG p s) x;have h1:bU nO (p.aD.set k.toNat (filled p s x))<=bU nO p.aD+400:=by
     have:∀(l:List qF) (i:Nat) (s s':qF),l[i]? =some s->nO s'<=nO s+400->bU nO (l.set i s')<=bU nO l+400:=by
      intro l;induction l with
      |nil=>intro i s s' h;simp at h
      |cons y l ih=>
       intro i s s' h hs;cases i with
       |zero=>simp at h;subst h;simp only[cQ,bU];omega
       |succ i=>have:=ih i s s' (by simpa using h) hs;simp only[cH,bU];omega
     refine this _ _ s _ hg ?_;simp only[nO,filled];omega
    simp only[aM,dS,DE]at*;omega
  .omega
 .omega
def Aj(p:aF)(a:aR)(x:bG):∀k,(jJ p a x k).aD.length=p.aD.length/\(∀j,k<=j->(jJ p a x k).aD[j]? =p.aD[j]?)/\aM (jJ p a x k)<=aM p+k*400
 |0=>⟨rfl,λ_ _=>rfl,by simp[jJ]⟩
 |k+1=>by
  obtain⟨h1,h2,h3⟩:=Aj p a x k;simp only[jJ];split
  .split
   .refine ⟨by rw[(XR _ _ _).1];exact h1,λj hj=>by rw[aM9 _ _ _ _ (by omega)];exact h2 j (by omega),?_⟩
    have:=aIo (jJ p a x k) k x;omega
   .exact ⟨h1,λj hj=>h2 j (by omega),by omega⟩
  .exact ⟨h1,λj hj=>h2 j (by omega),by omega⟩
def Qp{p:aF}{a:aR}{x:bG}{k:Nat}(h:k<p.aD.length):jJ p a x (k+1)=if p.aD[k].to=a then jO (jJ p a x k) k x else jJ p a x k:=by simp only[jJ];rw[aE h]
def nW(q:aF):List aI:=[⟨true,false,1,1,q.bO.iN.map eD⟩,⟨true,false,1,1,q.bO.kH.map eD⟩,⟨true,false,1,1,q.bO.kJ.map eD⟩,⟨true,false,4,1,q.bT.map (dK .own)⟩,⟨true,false,4,1,q.aC.aJ.map (gU .own)⟩,⟨true,false,1,1,q.aC.bD.map nM⟩,⟨true,false,8,1,q.aD.map uL⟩,⟨true,false,5,1,q.aL.map gH⟩,⟨true,false,2,1,q.bJ.map aS⟩,⟨true,false,2,1,q.uN.map aS⟩,⟨true,false,1,1,q.log.map eD⟩]
def lQ(b:Nat)(q:aF):List AV:=[.str q.gZ.bN,.str q.gZ.iD,.bool q.bO.zD,.obj b 1,.obj (b+1) 1,.obj (b+2) 1,.str q.bO.uC,.str q.tok.rest,.obj (b+3) 1,.bool q.uM,.obj (b+4) 1,.obj (b+5) 1,.obj (b+6) 1,.obj (b+7) 1,.obj (b+8) 1,.int .i64 q.block,.int .i64 q.dZ,.int .i64 q.eH,.int .i64 q.fA,.obj (b+9) 1,.obj (b+10) 1,.bool q.dX]
def EC:List (Nat×Nat):=[(4,16),(5,17),(6,18),(7,19),(8,20),(9,21),(10,22),(11,23),(12,24),(13,25),(14,26)]
def V5{t t':List AV}{o0 o1 o2 o3:aI}(q0 q:aF)(ht:∀z∈EC,wk (uG z.1 z.2 t') t')(hf:∀z∈EC,o0.oM z.1 z.2=o0/\o1.oM z.1 z.2=o1/\o2.oM z.1 z.2=o2/\o3.oM z.1 z.2=o3)(hw:wk t t')(hc:iK 16 t'=true)(hc0:eU 16 [o0,o1,o2,o3]=true):
  mZ ⟨t,[o0,o1,o2,o3]++nW q0++[⟨true,true,22,0,[lQ 16 q]⟩]++nW q⟩ ⟨t',[o0,o1,o2,o3]++nW q++[⟨true,true,22,0,[lQ 4 q]⟩]⟩:=by
 have e:=λi j (h:(i,j)∈EC)=>hf (i,j) h
 have h:=λi j (h:(i,j)∈EC)=>ht (i,j) h
 simp only[nW,lQ,cW,eA];refine(zS hw).trans ?_;refine(bI 4 16 rfl rfl ⟨rfl,rfl⟩ (by simp[(e 4 16 (by decide))];rfl) (h 4 16 (by decide))).trans ?_;refine(bI 5 17 rfl rfl ⟨rfl,rfl⟩ (by simp[(e 5 17 (by decide))];rfl) (h 5 17 (by decide))).trans ?_;refine(bI 6 18 rfl rfl ⟨rfl,rfl⟩ (by simp[(e 6 18 (by decide))];rfl) (h 6 18 (by decide))).trans ?_;refine(bI 7 19 rfl rfl ⟨rfl,rfl⟩ (by simp[(e 7 19 (by decide))];rfl) (h 7 19 (by decide))).trans ?_;refine(bI 8 20 rfl rfl ⟨rfl,rfl⟩ (by simp[(e 8 20 (by decide))];rfl) (h 8 20 (by decide))).trans ?_;refine(bI 9 21 rfl rfl ⟨rfl,rfl⟩ (by simp[(e 9 21 (by decide))];rfl) (h 9 21 (by decide))).trans ?_;refine(bI 10 22 rfl rfl ⟨rfl,rfl⟩ (by simp[(e 10 22 (by decide))];rfl) (h 10 22 (by decide))).trans ?_;refine(bI 11 23 rfl rfl ⟨rfl,rfl⟩ (by simp[(e 11 23 (by decide))];rfl) (h 11 23 (by decide))).trans ?_;refine(bI 12 24 rfl rfl ⟨rfl,rfl⟩ (by simp[(e 12 24 (by decide))];rfl) (h 12 24 (by decide))).trans ?_;refine(bI 13 25 rfl rfl ⟨rfl,rfl⟩ (by simp[(e 13 25 (by decide))];rfl) (h 13 25 (by decide))).trans ?_;refine(bI 14 26 rfl rfl ⟨rfl,rfl⟩ (by simp[(e 14 26 (by decide))];rfl) (h 14 26 (by decide))).trans ?_;refine aQ 16 (by simp) (oH _) hc ?_;simpa [eU,iK,closed]using hc0
def Ak{α:Type}{f:α->List AV}{i j:Nat}(h:∀x,uG i j (f x)=f x):∀l:List α,uT i j (l.map f)=l.map f
 |[]=>rfl
 |x::l=>by simp only[oE,uT,h,Ak h l]
@[simp] def aS5(i j:Nat)(l:List bE):uT i j (l.map eD)=l.map eD:=Ak (λ_=>rfl) l
@[simp] def aS6(i j:Nat)(l:List Int):uT i j (l.map nM)=l.map nM:=Ak (λ_=>rfl) l
@[simp] def aRg(i j:Nat)(l:List aR):uT i j (l.map aS)=l.map aS:=Ak (λ_=>rfl) l
@[simp] def aRh(i j:Nat)(l:List pV):uT i j (l.map uB)=l.map uB:=Ak (λ_=>rfl) l
@[simp] def aRi(i j:Nat)(l:List qF):uT i j (l.map uL)=l.map uL:=Ak (λ_=>rfl) l
@[simp] def aNa(i j:Nat)(l:List fO):uT i j (l.map gH)=l.map gH:=Ak (λ_=>rfl) l
@[simp] def aNb(i j:Nat)(l:List bM):uT i j (l.map (dK .view))=l.map (dK .view):=Ak (λ_=>by simp) l
@[simp] def aO3(i j:Nat)(l:List kG):uT i j (l.map (gU .view))=l.map (gU .view):=Ak (λ_=>by simp) l
def UC{t t':List AV}{o o':List aI}{o0 o1 o2 o3:aI}{q0 q:aF}(ho:o=[o0,o1,o2,o3]++nW q0++[⟨true,true,22,0,[lQ 16 q]⟩]++nW q)(ho':o'=[o0,o1,o2,o3]++nW q++[⟨true,true,22,0,[lQ 4 q]⟩])
  (ht:∀z∈EC,wk (uG z.1 z.2 t') t') (hf:∀z∈EC,o0.oM z.1 z.2=o0/\o1.oM z.1 z.2=o1/\o2.oM z.1 z.2=o2/\o3.oM z.1 z.2=o3) (hw:wk t t') (hc:iK 16 t'=true) (hc0:eU 16 [o0,o1,o2,o3]=true):mZ ⟨t,o⟩ ⟨t',o'⟩:=by
 subst ho;subst ho';exact V5 q0 q ht hf hw hc hc0
def UD[aG prog][dG prog][fI prog](p:aF)(a:aR)(x:bG)(hs:aM p+400*p.aD.length<=137438953472)(hx:dC x<=1048576):Ok prog 48 [.agg (aH .view p),.agg (aS a),.agg (bR x)] (.agg (aH .own (nK p a x))):=by
 have c1:=lM p (by omega);have Oz:p.aD.length<=343597383:=by omega
 simp only[aH]at c1;unfold nK;refine dN aK func48 ntmps48 ?_;refine bK ?_;refine aT (ι:={k:Nat // k<=p.aD.length}) (λt o i=>⟨bP t [(14,.int .i64 i.1),(10,.aB)],o.take 4++nW (jJ p a x i.1)++[⟨true,true,22,0,[lQ 4 (jJ p a x i.1)]⟩]⟩)
  (λi=>p.aD.length-i.1) ⟨0,by simp⟩ (aP (by simp[nW,lQ,jJ]) (by simp)) ?_
 rintro⟨k,hk⟩ K1 hK1;have hf:=Aj p a x k;obtain⟨f1,f2,f3⟩:=hf;have c2:=Re (jJ p a x k) k x (by omega) hx;have Lp:= @Qp p a x k;have hk1:=tQ (k:=k);by_cases hlt:k<p.aD.length
 .have hg:=aE hlt;have hnext:=Lp hlt;clear Lp;by_cases hto:p.aD[k].to=a
  .rw [eM hto]at hnext;generalize hq':jO (jJ p a x k) k x=q' at*;have hK2:=hK1;simp only[bP,cH,cQ,eV,gS,cW,eA,nW,lQ]at hK1⊢;clear hq' f2;generalize hqq:jJ p a x k=q at*;simp only[aH,bR]at c2;have W:=aA hk1 (aA hg (aA hlt hto));have c0:=vP a a;refine we ?_;refine hK2 _ ⟨k+1,by omega⟩ ?_ (by simp only;omega);simp only[hnext];exact UC (q0:=q) (q:=q') rfl (by simp[nW,lQ,hnext]) (by simp[EC]) (by simp[EC]) (by simp) (by simp) (by simp)
  .rw [eC hto]at hnext;have hK2:=hK1;simp only[bP,cH,cQ,eV,gS,cW,eA,nW,lQ]at hK1⊢;clear f2 c2;generalize hqq:jJ p a x k=q at*;have W:=aA hk1 (aA hg (aA hlt hto));have c0:=vP p.aD[k].to a;repeat' first|refine wf ?_|(refine sq ?_ ?_<;>intro hc<;>try exact hc.elim)|fail
   all_goals first
    |exact absurd (by assumption) hto
    |exact hK2 _ ⟨k+1,by omega⟩ (by simp only[hnext];exact aP (by simp[nW,lQ,hnext]) (by simp)) (by simp only;omega)
 .have htk:k=p.aD.length:=by omega
  subst htk;simp only[bP,cH,cQ,eV,gS,cW,eA,nW,lQ]at hK1⊢;generalize jJ p a x p.aD.length=q at*;clear Lp f2 c2 hK1;have W:=hk1;refine we ?_;exact aO results48
def UE[aG prog][dG prog][fI prog](p:aF)(a:aR)(x:bG)(hs:aM p+400*p.aD.length<=137438953472)(hx:dC x<=1048576):Ok prog 50 [.agg (aH .view p),.agg (aS a),.agg (bR x)] (.agg (aH .own (nK p a x))):=by
 have c1:=jH p (by omega);have Oz:p.aD.length<=343597383:=by omega
 simp only[aH]at c1;unfold nK;refine dN aK func50 ntmps50 ?_;refine bK ?_;refine aT (ι:={k:Nat // k<=p.aD.length}) (λt o i=>⟨bP t [(8,.int .i64 i.1),(10,.aB)],o.take 4++nW (jJ p a x i.1)++[⟨true,true,22,0,[lQ 4 (jJ p a x i.1)]⟩]⟩)
  (λi=>p.aD.length-i.1) ⟨0,by simp⟩ (aP (by simp[nW,lQ,jJ]) (by simp)) ?_
 rintro⟨k,hk⟩ K1 hK1;have hf:=Aj p a x k;obtain⟨f1,f2,f3⟩:=hf;have c2:=Rf (jJ p a x k) k x (by omega) hx;have Lp:= @Qp p a x k;have hk1:=tQ (k:=k);by_cases hlt:k<p.aD.length
 .have hg:=aE hlt;have hnext:=Lp hlt;clear Lp;by_cases GQ:p.aD[k].done=true
  .have mI:jJ p a x (k+1)=jJ p a x k:=by
    rw[hnext];split
    .exact OX (s:=p.aD[k]) (by rw[oB,f2 k (eJ k)];exact hg) GQ
    .rfl
   have hK2:=hK1;simp only[bP,cH,cQ,eV,gS,cW,eA,nW,lQ]at hK1⊢;clear f2 c2 hnext;generalize hqq:jJ p a x k=q at*;have W:=aA hk1 (aA hg (aA hlt GQ));refine we ?_;refine hK2 _ ⟨k+1,by omega⟩ ?_ (by simp only;omega);simp only[mI];exact aP (by simp[nW,lQ,mI]) (by simp)
  .simp only[AG]at GQ;by_cases hto:p.aD[k].to=a
   .rw [eM hto]at hnext;generalize hq':jO (jJ p a x k) k x=q' at*;have hK2:=hK1;simp only[bP,cH,cQ,eV,gS,cW,eA,nW,lQ]at hK1⊢;clear hq' f2;generalize hqq:jJ p a x k=q at*;simp only[aH,bR]at c2;have W:=aA hk1 (aA hg (aA hlt (aA GQ hto)));have c0:=vP a a;refine we ?_;refine hK2 _ ⟨k+1,by omega⟩ ?_ (by simp only;omega);simp only[hnext];exact UC (q0:=q) (q:=q') rfl (by simp[nW,lQ,hnext]) (by simp[EC]) (by simp[EC]) (by simp) (by simp) (by simp)
   .rw [eC hto]at hnext;have hK2:=hK1;simp only[bP,cH,cQ,eV,gS,cW,eA,nW,lQ]at hK1⊢;clear f2 c2;generalize hqq:jJ p a x k=q at*;have W:=aA hk1 (aA hg (aA hlt (aA GQ hto)));have c0:=vP p.aD[k].to a;refine we ?_;all_goals first
     |exact absurd (by assumption) hto
     |exact hK2 _ ⟨k+1,by omega⟩ (by simp only[hnext];exact aP (by simp[nW,lQ,hnext]) (by simp)) (by simp only;omega)
 .have htk:k=p.aD.length:=by omega
  subst htk;simp only[bP,cH,cQ,eV,gS,cW,eA,nW,lQ]at hK1⊢;generalize jJ p a x p.aD.length=q at*;clear Lp f2 c2 hK1;have W:=hk1;refine we ?_;exact aO results50
def su(p:aF)(a:aR)(x:bG):(nK p a x).aD.length=p.aD.length:=(Aj p a x _).1
def V6(p:aF)(a:aR)(x:bG):aM (nK p a x)<=aM p+p.aD.length*400:=(Aj p a x _).2.2
def jP(p:aF)(m:fO)(x:bG):fO:={m with done:=true,code:=fE p.bO (gV p m) x,body:=lG p.bO (gV p m) x}
def lH(q:aF)(l:List aR):aF:=l.foldl fF q
def Gg(p:aF)(a:aR)(x:bG)(k:Nat)(m:fO):aF:=lH {p with aL:=p.aL.set k (jP p m x)} (jU {p with aL:=p.aL.set k (jP p m x)} a)
def kM(p:aF)(a:aR)(x:bG):aF:=
 if wR (mR a) p.aL<0 then p else match p.aL[(wR (mR a) p.aL).toNat]? with
 |some m=>if m.done=true then p else Gg p a x (wR (mR a) p.aL).toNat m
 |none=>p
def Ba{p:aF}{a:aR}{x:bG}(h:wR (mR a) p.aL= -1):kM p a x=p:=by unfold kM;rw[h];rfl
def Bb{p:aF}{a:aR}{x:bG}{k:Nat}{m:fO}(h:wR (mR a) p.aL=(k:Int))(hg:p.aL[k]? =some m)(hd:m.done=true):kM p a x=p:=by unfold kM;rw[h,eC (by omega),oB,hg];simp[hd]
def Cx{p:aF}{a:aR}{x:bG}{k:Nat}{m:fO}(h:wR (mR a) p.aL=(k:Int))(hg:p.aL[k]? =some m)(hd:m.done=false):kM p a x=Gg p a x k m:=by unfold kM;rw[h,eC (by omega),oB,hg];simp[hd]
def tq{α:Type}(f:α->Bool)(y:α):∀(l:List α) (k:Nat) (h:k<l.length),f y=true->l.find? f=some l[k]->(∀j (hj:j<k),f (l[j]'(Nat.lt_trans hj h))=false)->(l.set k y).find? f=some y
 |[],k,h,_,_,_=>by simp at h
 |z::l,0,h,hy,_,_=>by simp[hy]
 |z::l,k+1,h,hy,hf,hn=>by have hz:f z=false:=hn 0 (by omega);rw[cH,find?_cons,hz];rw[find?_cons,hz]at hf;exact tq f y l k (by simpa using h) hy (by simpa using hf) (λj hj=>by have:=hn (j+1) (by omega);simpa using this)
def aRj{α:Type}{f:α->Bool}{l:List α}{k:Nat}(h:wR f l=(k:Int))(hk:k<l.length):f l[k]=true/\∀j (hj:j<k),f (l[j]'(Nat.lt_trans hj hk))=false:=by
 unfold wR at h;split at h
 .rename_i ha;have hk2:l.findIdx f=k:=by omega
  rw[findIdx_eq hk]at hk2;exact hk2
 .omega
def IC{p:aF}{a:aR}{x:bG}{k:Nat}(h:wR (mR a) p.aL=(k:Int))(hk:k<p.aL.length)(hf:p.aL.find? (mR a)=some p.aL[k]):(p.aL.set k (jP p p.aL[k] x)).find? (mR a)=some (jP p p.aL[k] x):=by obtain⟨h1,h2⟩:=aRj h hk;exact tq _ _ _ _ hk (by simp only[mR]at h1⊢;exact h1) hf h2
def aBo{α:Type}(f:α->Nat)(c:Nat):∀(l:List α) (i:Nat) (y:α) (h:i<l.length),f y<=f l[i]+c->bU f (l.set i y)<=bU f l+c
 |[],i,y,h,_=>by simp at h
 |z::l,0,y,h,hs=>by simp only[cQ,bU,getElem_cons_zero]at hs⊢;omega
 |z::l,i+1,y,h,hs=>by have:=aBo f c l i y (by simpa using h) (by simpa using hs);simp only[cH,bU];omega
def Zi(p:aF)(k:Nat)(hk:k<p.aL.length)(x:bG):aM {p with aL:=p.aL.set k (jP p p.aL[k] x)}<=aM p+400:=by have hb:=Ff p.bO (gV p p.aL[k]) x;have h:=aBo cB 400 p.aL k (jP p p.aL[k] x) hk (by simp only[cB,jP];omega);simp only[aM,dS,DE];omega
def UF(N:Nat):∀(l:List aR) (q:aF),(∀x∈l,aW x<=N)->aM (lH q l)<=aM q+l.length*(N+1)
 |[],q,_=>by simp[lH]
 |b::l,q,h=>by have h1:=UF N l (fF q b) (λx hx=>h x (by simp[hx]));have h2:=aRd q b;have h3:=h b (by simp);simp only[lH,foldl_cons,eL,Bx]at h1⊢;omega
def Qq(q:aF)(l:List aR)(b:aR):lH q (l++[b])=fF (lH q l) b:=by simp[lH]
def aIp(s b:bE):aW (dR s b).1<=16:=by
 unfold dR;split
 .rename_i h;simp only[xV,dW,eK,fY]at h;simp only[aW];omega
 .simp [aW,yR]
def uf(base:bE):∀(ps:List bE) (l:List aR) (r:List bE),qU base ps=some (l,r)->∀b∈l,aW b<=16
 |[],l,r,h=>by simp only[qU,eI,oT]at h;obtain⟨rfl,_⟩:=h;simp
 |p::ps,l,r,h=>by
  simp only[qU]at h;split at h
  .split at h
   .cases hq:qU base ps with
    |none=>rw[hq]at h;simp at h
    |some q=>
     rw[hq]at h;simp only[oR,eI,oT]at h;obtain⟨rfl,_⟩:=h;intro b hb;rcases mC.1 hb with rfl|hb
     .exact aIp _ _
     .exact uf base ps q.1 q.2 (by rw[hq]) b hb
   .cases h
  .simp only[eI,oT]at h;obtain⟨rfl,_⟩:=h;simp
def aIq(s b:bE):∀a∈(bQ s b).1,aW a<=16:=by
 unfold bQ;split
 .simp
 .rename_i l r h;split
  .exact uf b _ l r h
  .simp
def aIr(q:aF)(a:aR):∀b∈jU q a,aW b<=16:=by
 unfold jU;split
 .split
  .exact aIq _ _
  .simp
 .simp
structure IG(b:bC): Prop where
  len:b.aJ.length <= 40
  rg:aCw b
def aNd{n:Nat}(h:n<=40):K6 ((n:Nat):Int):=by unfold K6;omega
def UU:K6 0:=by unfold K6;omega
def aI2:K6 (-1):=by unfold K6;omega
def aDo:IG ⟨[],[]⟩:=⟨by simp,by simp,by simp⟩
def aNe:IG pU:=by
 refine⟨by simp[pU],?_,?_⟩
 .intro y hy;simp only[pU,mS]at hy;subst hy;exact aI2
 .intro y hy;simp only[pU,mS]at hy;subst hy;exact UU
def aI3(a:aR)(x:bG):IG (sG a x).1.aC:=by
 unfold sG;split
 .exact aNe
 .exact aDo
def aDq(x:jV):bE:=if x.op=1 then x.text.map uO else []
def Qx(c:bE):bE:=((gM c).1.map aDq).flatten
def NW(c:bE):Prop:=(gM c).2=true->(pF (Qx c)).length<=9/\∀t∈pF (Qx c),t.name≠dY
inductive QB:List bM -> Prop
  | nil:QB []
  | tok {t:bM} {q:List bM} : t.name ≠ dY -> QB q -> QB (t :: q)
  | cls {t:bM} {q:List bM} : t.kind = 2 -> QB q -> QB (t :: q)
  | scr {a c:bM} {q:List bM} : a.kind = 1 -> a.name = dY -> c.kind = 2 -> c.name = dY -> QB q -> QB (a :: c :: q)
  | txt {a c:bM} {u:bE} {q:List bM} : a.kind = 1 -> a.name = dY -> c.kind = 2 -> c.name = dY -> NW u -> QB q -> QB (a :: ⟨3, [], [], u⟩ :: c :: q)
def opB(t:bM):Bool:=decide (t.kind=1)&&decide (t.name=dY)
def mq:List bM->Nat
 |[]=>0
 |t::q=>(if opB t=true then 13 else 1)+mq q
def QB.app{a b:List bM}(h:QB a)(k:QB b):QB (a++b):=by
 induction h with
 |nil=>exact k
 |tok h _ ih=>exact .tok h ih
 |cls h _ ih=>exact .cls h ih
 |scr h1 h2 h3 h4 _ ih=>exact .scr h1 h2 h3 h4 ih
 |txt h1 h2 h3 h4 h5 _ ih=>exact .txt h1 h2 h3 h4 h5 ih
def aBs:∀{l:List bM},(∀t∈l,t.name≠dY)->QB l
 |[],_=> .nil
 |t::l,h=> .tok (h t (by simp)) (aBs λx hx=>h x (by simp[hx]))
def Zo(a b:List bM):mq (a++b)=mq a+mq b:=by
 induction a with
 |nil=>simp[mq]
 |cons t a ih=>simp only[cW,mq,ih];omega
def aRn{t:bM}(h:t.name≠dY):opB t=false:=by unfold opB;simp[h]
def aNk{t:bM}(h:t.kind=2):opB t=false:=by unfold opB;simp[h]
def aBt:∀{l:List bM},(∀t∈l,t.name≠dY)->mq l=l.length
 |[],_=>rfl
 |t::l,h=>by rw[mq,aBt λx hx=>h x (by simp[hx]),aRn (h t (by simp))];simp;omega
def Dn(x:bG):Prop:=x.kind=2->NW x.body
def NA{c:UInt8}:∀{x t:bE},jQ c x<x.length->jQ c (x++t)=jQ c x
 |[],t,h=>by simp at h
 |a::x,t,h=>by
  rw[cW,yD,yD]at*;split
  .rfl
  .rename_i hac;rw[eC hac]at h;rw[NA (by simpa using h)]
def Wu{x t:bE}{ts:List bM}{y:bE}(h:jC x=some (ts,y)):jC (x++t)=some (ts,y++t):=by
 unfold jC at h⊢;split at h
 .rename_i hc;simp only[eI,oT]at h;obtain⟨rfl,rfl⟩:=h;rw[NA hc.2,eM ⟨hc.1,by simp only[eR];omega⟩];rw[tM (by omega),CM (by omega)]
 .rename_i hc;split at h
  .cases h
  .rename_i hd;have h60:jQ 60 x=0:=by
    by_cases h0:jQ 60 x=0
    .exact h0
    .exact (hd (.inl h0)).elim
   have h62:jQ 62 x≠x.length:=λe=>hd (.inr e)
   have bC0:=vL 62 x;have hlt:jQ 62 x<x.length:=by omega
   have aZw:jQ 60 x<x.length:=by omega
   simp only[eI,oT]at h;obtain⟨rfl,rfl⟩:=h;rw[NA aZw,NA hlt,h60];rw[eC (by omega),eC (by simp only[eR];omega)];rw[tM (by omega),CM (by omega)]
def Pf:∀(n:Nat) (x t:bE),x.length<=n->lJ (x++t)=((lJ x).1++(lJ ((lJ x).2++t)).1,(lJ ((lJ x).2++t)).2)
 |n,x,t,hn=>by
  cases hs:jC x with
  |none=>have e:=AQ hs;rw[e];simp
  |some q=>
   obtain⟨ts,y⟩:=q;have hlt:=(DW hs).1;cases n with
   |zero=>omega
   |succ n=>have ih:=Pf n y t (by omega);rw[zG hs,zG (Wu (t:=t) hs),ih];simp[rL]
def c8:List bE:=[[115,97,121,32,104,105],[99,111,117,110,116,32,112],[99,111,117,110,116,32,115,99,114,105,112,116],[108,111,111,107,32,112],[108,111,111,107,32,98],[97,100,100,32,98],[97,100,100,32,112],[119,114,105,116,101,32,91,112,93,120,91,47,112,93],[119,114,105,116,101,32,91,105,109,103,32,115,114,99,61,108,111,103,111,93],[119,114,105,116,101,32,91,108,105,110,107,32,104,114,101,102,61,115,116,121,108,101,93],[119,114,105,116,101,32,91,98,93]]
def vg(l:List bE):bE:=(l.map λu=>aDq (dV u).1).flatten
structure Vl(m:Nat)(s:bE): Prop where
  ne:s ≠ []
  lt:(60:UInt8) ∉ s
  len:(dQ 59 s).length = m
  ok:∀ u ∈ dQ 59 s, (dV u).2 = true
  rest:(lJ (vg (dQ 59 s))).2 = []
  few:(lJ (vg (dQ 59 s))).1.length <= 3*m
  no:∀ t ∈ (lJ (vg (dQ 59 s))).1, t.name ≠ dY
def vk(c:UInt8):∀(s u:bE),dQ c (s++c::u)=dQ c s++dQ c u
 |[],u=>by simp[dQ]
 |x::s,u=>by
  have ih:=vk c s u;have jE:=sD c s;rw[cW,dQ,dQ,ih];split
  .simp
  .cases hs:dQ c s with
   |nil=>exact(jE hs).elim
   |cons a b=>simp
def aNr(a b:List bE):vg (a++b)=vg a++vg b:=by unfold vg;simp
def vo{x t:bE}(h:(lJ x).2=[]):lJ (x++t)=((lJ x).1++(lJ t).1,(lJ t).2):=by have:=Pf x.length x t (eJ _);rw[h]at this;simpa using this
def Yd:∀u∈c8,Vl 1 u:=by
 have h1:∀u∈c8,u≠[]/\(60:UInt8)∉u/\(dQ 59 u).length=1:=by decide+kernel
 have h2:∀u∈c8,∀w∈dQ 59 u,(dV w).2=true:=by decide+kernel
 have h3:∀u∈c8,(lJ (vg (dQ 59 u))).2=[]/\(lJ (vg (dQ 59 u))).1.length<=3:=by decide+kernel
 have h4:∀u∈c8,∀t∈(lJ (vg (dQ 59 u))).1,t.name≠dY:=by decide+kernel
 exact λu hu=>⟨(h1 u hu).1,(h1 u hu).2.1,(h1 u hu).2.2,h2 u hu,(h3 u hu).1,(h3 u hu).2,h4 u hu⟩
def j6{m:Nat}{s u:bE}(h:Vl m s)(hu:u∈c8):Vl (m+1) (s++[59]++u):=by
 have k:=Yd u hu;have e:dQ 59 (s++[59]++u)=dQ 59 s++dQ 59 u:=by rw[rL];exact vk 59 s u
 have ef:lJ (vg (dQ 59 s++dQ 59 u))=((lJ (vg (dQ 59 s))).1++(lJ (vg (dQ 59 u))).1,(lJ (vg (dQ 59 u))).2):=by rw[aNr];exact vo h.rest
 refine⟨by simp,?_,?_,?_,?_,?_,?_⟩
 .simp only[fR,mS,not_or];exact⟨⟨h.lt,by decide⟩,k.lt⟩
 .rw [e,eR,h.len,k.len]
 .intro w hw;rw[e]at hw;exact(fR.1 hw).elim (h.ok w) (k.ok w)
 .rw [e,ef];exact k.rest
 .rw [e,ef];have:=h.few;have:=k.few;simp only[eR];omega
 .intro t ht;rw[e,ef]at ht;exact(fR.1 ht).elim (h.no t) (k.no t)
def vz{m:Nat}{s:bE}(h:Vl m s)(hm:m<=3):NW s:=by
 intro _;have e:Qx s=vg (dQ 59 s):=by unfold Qx gM;rw[eC h.ne,eM ⟨fW.2 λu hu=>h.ok u hu,by rw[h.len];omega⟩];simp[vg,map_map];rfl
 have e2:pF (Qx s)=(lJ (vg (dQ 59 s))).1:=by rw[e];unfold pF lD;rw[h.rest];simp
 rw[e2];have:=h.few;exact⟨by omega,h.no⟩
def LD{α:Type}(f:α->Nat):∀a b:List α,bU f (a++b)=bU f a+bU f b
 |[],b=>by simp[bU]
 |x::xs,b=>by simp only[cW,bU,LD f xs b];omega
def aNu(t:nN):dS dU (lD t)<=1+sV t:=by
 unfold lD;split
 .simp [dS,bU]
 .simp [dS,bU,dU,sV]
def aNv(p:aF):aM (Ao p)<=aM p+1:=by
 unfold Ao;split
 .omega
 .have h:=aNu p.tok;simp only[aM,dS,sV,eR,LD,fL]at h⊢;omega
def aD3(p:aF)(s:bE):aM (rX p s)<=2*aM p+2*s.length:=by
 unfold rX;split
 .omega
 .obtain ⟨h1,h2⟩:=Jk (p.tok.rest++s).length (p.tok.rest++s) (eJ _);simp only[eR]at h1 h2;simp only[aM,dS,sV,eR,LD]at*;omega
def nX(p:aF):List iO:=zU (lK p) (dO sZ 0 p.aD)++zU (qY p) (dO tC 0 p.aL)
def Fg[aG prog](p:aF)(hl:p.aD.length<=1048576)(hm:p.aL.length<=1048576):Ok prog 43 [.agg (aH .view p)] (.sl .own 5 ((nX p).map eG)):=by
 have k1:=EX p (by omega);have k2:=GG p (by omega);have m1:=CX sZ p.aD 0;have m2:=CX tC p.aL 0;have n1:=jT sZ p.aD 0;have n2:=jT tC p.aL 0;unfold nX;generalize dO sZ 0 p.aD=ps at*;generalize dO tC 0 p.aL=pm at*;refine dN aK func43 ntmps43 ?_;refine bZ ?_;refine aT (ι:={q:Nat×Nat // q.1<=ps.length/\1<=q.2}) (λt o i=>⟨bP t [(3,.obj 1 i.1.2),(5,.int .i64 i.1.1)],o.take 1++[⟨true,false,5,i.1.2,(zU (lK p) (ps.take i.1.1)).map eG⟩]++[⟨true,false,1,1,ps.map nM⟩]⟩)
  (λi=>ps.length-i.1.1) ⟨(0,1),by simp,by first|(simp;done)|(simp only;omega)⟩ aP ?_
 rintro⟨⟨k,v⟩,hk,hv⟩ K1 hK1;simp only at hk hv;simp only[bP,cH,cQ,eV,gS,cW,eA]at hK1⊢;have hk1:=tQ (k:=k);by_cases hlt:k<ps.length
 .have hg:=aE hlt;have hps:=AJ (lK p) ps k hlt;have hpl:=sW (lK p) (ps.take k);have htl:(ps.take k).length=k:=by simp;omega
  generalize zU (lK p) (ps.take k)=g at*;have hb1:(g.length+1)*72<=140737488355328:=by omega
  have hb2:g.length+1<=9223372036854775807:=by omega
  have hb3:g.length<=9223372036854775806:=by omega
  have hz:=m1 _ (gR hlt);have c1:=yU p ps[k] (by omega) (by omega) (by omega);simp only[aH,eG]at c1;have W:=aA hk1 (aA hg (aA hlt (aA hb1 (aA hb2 hb3))));refine wl ?_;refine hK1 _ ⟨(k+1,v+1),by simp only;omega,by simp only;omega⟩ (aQ 3 (by simp[hps])) (by simp only;omega)
 .have htk:ps.take k=ps:=eN (by omega);rw[htk];have oo:=sW (lK p) ps;generalize hG:zU (lK p) ps=G at*;have W:=hk1;refine wl ?_;refine aT (ι:={q:Nat×Nat // q.1<=pm.length/\1<=q.2}) (λt o i=>⟨bP t [(3,.obj 1 i.1.2),(7,.int .i64 i.1.1)],o.take 1++[⟨true,false,5,i.1.2,(G++zU (qY p) (pm.take i.1.1)).map eG⟩]++[⟨true,false,1,1,ps.map nM⟩,⟨true,false,1,1,pm.map nM⟩]⟩)
   (λi=>pm.length-i.1.1) ⟨(0,v),by simp,by first|(simp;done)|(simp only;omega)⟩ aP ?_
  rintro⟨⟨k,v⟩,hk,hv⟩ K1 hK1;simp only at hk hv;simp only[bP,cH,cQ,eV,gS,cW,eA]at hK1⊢;have hk1:=tQ (k:=k);by_cases hlt:k<pm.length
  .have hg:=aE hlt;have hps:=AJ (qY p) pm k hlt;have hpl:=sW (qY p) (pm.take k);have htl:(pm.take k).length=k:=by simp;omega
   generalize zU (qY p) (pm.take k)=g at*;have hb1:(G.length+g.length+1)*72<=140737488355328:=by omega
   have hb2:G.length+g.length+1<=9223372036854775807:=by omega
   have hb3:G.length+g.length<=9223372036854775806:=by omega
   have hz:=m2 _ (gR hlt);have c1:=Eb p pm[k] (by omega) (by omega) (by omega);simp only[aH,eG]at c1;have W:=aA hk1 (aA hg (aA hlt (aA hb1 (aA hb2 hb3))));refine wl ?_;refine hK1 _ ⟨(k+1,v+1),by simp only;omega,by simp only;omega⟩ (aQ 4 (by simp[hps])) (by simp only;omega)
  .have htk:pm.take k=pm:=eN (by omega);rw[htk];have W:=hk1;refine wl ?_;all_goals try(refine bA ?_;simp[bB,results43])
   all_goals first|(rw[<-pP];exact zT _)|(simp[hG];rw[<-pP];exact zT _)|fail
def Pj[aG prog](p:aF)(hl:p.aD.length<=1048576)(hm:p.aL.length<=1048576):Ok prog 10 [.agg (aH .view p)] (.sl .own 5 ((nX p).map eG)):=by
 have k1:=EY p (by omega);have k2:=GH p (by omega);have m1:=CX sZ p.aD 0;have m2:=CX tC p.aL 0;have n1:=jT sZ p.aD 0;have n2:=jT tC p.aL 0;unfold nX;generalize dO sZ 0 p.aD=ps at*;generalize dO tC 0 p.aL=pm at*;refine dN aK func10 ntmps10 ?_;refine bZ ?_;refine aT (ι:={q:Nat×Nat // q.1<=ps.length/\1<=q.2}) (λt o i=>⟨bP t [(3,.obj 1 i.1.2),(12,.int .i64 i.1.1)],o.take 1++[⟨true,false,5,i.1.2,(zU (lK p) (ps.take i.1.1)).map eG⟩]++[⟨true,false,1,1,ps.map nM⟩]⟩)
  (λi=>ps.length-i.1.1) ⟨(0,1),by simp,by first|(simp;done)|(simp only;omega)⟩ aP ?_
 rintro⟨⟨k,v⟩,hk,hv⟩ K1 hK1;simp only at hk hv;simp only[bP,cH,cQ,eV,gS,cW,eA]at hK1⊢;have hk1:=tQ (k:=k);by_cases hlt:k<ps.length
 .have hg:=aE hlt;have hps:=AJ (lK p) ps k hlt;have hpl:=sW (lK p) (ps.take k);have htl:(ps.take k).length=k:=by simp;omega
  generalize zU (lK p) (ps.take k)=g at*;have hb1:(g.length+1)*72<=140737488355328:=by omega
  have hb2:g.length+1<=9223372036854775807:=by omega
  have hb3:g.length<=9223372036854775806:=by omega
  have hz:=m1 _ (gR hlt);have c1:=yV p ps[k] (by omega) (by omega) (by omega);simp only[aH,eG]at c1;have W:=aA hk1 (aA hg (aA hlt (aA hb1 (aA hb2 hb3))));refine wl ?_;refine hK1 _ ⟨(k+1,v+1),by simp only;omega,by simp only;omega⟩ (aQ 3 (by simp[hps])) (by simp only;omega)
 .have htk:ps.take k=ps:=eN (by omega);rw[htk];have oo:=sW (lK p) ps;generalize hG:zU (lK p) ps=G at*;have W:=hk1;refine wl ?_;refine aT (ι:={q:Nat×Nat // q.1<=pm.length/\1<=q.2}) (λt o i=>⟨bP t [(3,.obj 1 i.1.2),(26,.int .i64 i.1.1)],o.take 1++[⟨true,false,5,i.1.2,(G++zU (qY p) (pm.take i.1.1)).map eG⟩]++[⟨true,false,1,1,ps.map nM⟩,⟨true,false,1,1,pm.map nM⟩]⟩)
   (λi=>pm.length-i.1.1) ⟨(0,v),by simp,by first|(simp;done)|(simp only;omega)⟩ aP ?_
  rintro⟨⟨k,v⟩,hk,hv⟩ K1 hK1;simp only at hk hv;simp only[bP,cH,cQ,eV,gS,cW,eA]at hK1⊢;have hk1:=tQ (k:=k);by_cases hlt:k<pm.length
  .have hg:=aE hlt;have hps:=AJ (qY p) pm k hlt;have hpl:=sW (qY p) (pm.take k);have htl:(pm.take k).length=k:=by simp;omega
   generalize zU (qY p) (pm.take k)=g at*;have hb1:(G.length+g.length+1)*72<=140737488355328:=by omega
   have hb2:G.length+g.length+1<=9223372036854775807:=by omega
   have hb3:G.length+g.length<=9223372036854775806:=by omega
   have hz:=m2 _ (gR hlt);have c1:=wN p pm[k] (by omega) (by omega) (by omega);simp only[aH,eG]at c1;have W:=aA hk1 (aA hg (aA hlt (aA hb1 (aA hb2 hb3))));refine wl ?_;refine hK1 _ ⟨(k+1,v+1),by simp only;omega,by simp only;omega⟩ (aQ 4 (by simp[hps])) (by simp only;omega)
  .have htk:pm.take k=pm:=eN (by omega);rw[htk];have W:=hk1;refine wl ?_;all_goals try(refine bA ?_;simp[bB,results10])
   all_goals first|(rw[<-pP];exact zT _)|(simp[hG];rw[<-pP];exact zT _)|fail
end Go.Proofs.YtanobkmhbpjnpaaGreatDoor
