/- Proved here: steps towards the statement of this claim. No condition. -/
import Derived.Test.YtnkpkklemmgapaaGreatDoorZQJ5
import Derived.Test.YtnkpkklemmgapaaGreatDoorZQRLie
set_option linter.all false
set_option maxRecDepth 4000
set_option maxHeartbeats 4000000
namespace Go.Proofs.YtnkpkklemmgapaaGreatDoor
open Go.Aw Proofs.Tryz List IntKind
@[simp] theorem aDw(f:Tg->Option Tg)(b:Bool)(l:aU):iI f b (bA l)=bA l:=by
 induction l with
 |nil=>rfl
 |cons x l ih=>simp only[bA,lA,iI,qD,rt]at ih⊢;rw[ih]
def Cw(s:aU):Int:=qY (151::gD s)
theorem aDx(s:aU)(h:s.length<=60000000):∀y∈(151::gD s),Sd y:=by
 intro y hy;unfold Sd;rcases gE.1 hy with rfl|hy
 .omega
 rcases gE.1 hy with rfl|hy
 .omega
 .simp only[toInts,iO,qS]at hy;obtain⟨c,_,rfl⟩:=hy;have:c.toNat<256:=Ge c;omega
theorem UJ(s:aU):(gD s).length=s.length+1:=by simp[gD,toInts,iO]
theorem aDy(l:List Int):0<=qY l/\qY l<=2147483647:=by
 unfold qY;have:∀(l:List Int) (a:Int),0<=a/\a<=2147483647->0<=l.foldl yS a/\l.foldl yS a<=2147483647:=by
  intro l;induction l with
  |nil=>intro a h;exact h
  |cons x l ih=>intro a _;refine ih _ ?_;unfold yS;omega
 exact this l 11 (by omega)
theorem NQ[aB prog][dY prog][eO prog](s:aU)(hl:s.length<=1048576):Ok prog 236 [.str s] (.int .i64 (Cw s)):=by
 have c3:=AP s (by omega);have c4:=MX (151::gD s) (by simp only[dT,UJ];omega) (aDx _ (by omega));have hil:=UJ s;have hq:(gD s).length<=1048577:=by omega
 simp only[lA]at c4;unfold Cw;generalize gD s=q at*;refine dL aO func236 ntmps236 ?_;have W:=trivial;repeat' first|refine wf ?_|(refine nx ?_;refine sb ?_)|(refine sq ?_ ?_<;>intro hc<;>try exact hc.elim)|fail
 exact aR results236
def BB(body v:aU):Bool:=v == [] || v == Lib.itoa (Cw body)
theorem IZ[aB prog][dY prog][eO prog](s v:aU)(hl:s.length<=1048576):Ok prog 201 [.str s,.str v] (.bool (BB s v)):=by
 have c1:=NQ s hl;have hr:=aDy (151::gD s);have c2:=dW (Cw s) (by unfold Cw;omega);unfold BB;generalize Cw s=d at*;generalize Lib.itoa d=t at*;refine dL aO func201 ntmps201 ?_;have W:=trivial;repeat' first|refine wf ?_|(refine nx ?_;refine sb ?_)|(refine sq ?_ ?_<;>intro hc<;>try exact hc.elim)|fail
 all_goals try(refine aZ ?_;simp[aX,results201])
 all_goals simp_all
def Ky(x:bE)(k:Int):Bool:=decide (x.kind=k) || (decide (k=5)&&decide (x.kind=2))
theorem NR[aB prog][dY prog][eO prog](x:bE)(k:Int):Ok prog 200 [.agg (cZ x),.int .i64 k] (.bool (Ky x k)):=by
 unfold Ky;refine dL aO func200 ntmps200 ?_;have W:=trivial;repeat' first|refine wf ?_|(refine nx ?_;refine sb ?_)|(refine sq ?_ ?_<;>intro hc<;>try exact hc.elim)|fail
 all_goals try(refine aZ ?_;simp[aX,results200])
 all_goals first|(simp_all;done)|(by_cases hk2:x.kind=2<;>simp_all)
def YV(r:gG)(x:bE):Bool:=decide (r.frm≠r.to.host)&& !x.shares&&(decide (r.kind=5) || decide (r.digest≠[]))
def gZ(p:fU)(r:gG)(x:bE):Int:=
 if iW p r≠1 then 2 else if jD x=false\/x.status≠200 then 3 else if Ky x r.kind=false then 4 else if YV r x=true then 5 else if BB x.body r.digest=false then 6 else 1
theorem tO[aB prog][dY prog][eO prog](p:fU)(r:gG)(x:bE)(hp:gF p<=274877906944)(hr:qK r<=274877906944)(hx:dE x<=1048576):Ok prog 158 [.agg (dK .view p),.agg (gW r),.agg (cZ x)] (.int .i64 (gZ p r x)):=by
 have c1:=uM p r (by omega) (by omega);have c2:=wT x (by omega);have c3:=NR x r.kind;have c4:=IZ x.body r.digest (by simp only[dE]at hx;omega);simp only[dK,gW]at c1;simp only[cZ]at c2 c3;unfold gZ YV;generalize iW p r=n at*;generalize jD x=b2 at*;generalize Ky x r.kind=b3 at*;generalize BB x.body r.digest=b4 at*;by_cases h1:n=1
 .subst h1;refine dL aO func158 ntmps158 ?_;have W:=trivial;repeat' first|refine wf ?_|(refine nx ?_;refine sb ?_)|(refine sq ?_ ?_<;>intro hc<;>try exact hc.elim)|fail
  all_goals try(refine aZ ?_;simp[aX,results158])
  all_goals simp_all
 .refine dL aO func158 ntmps158 ?_;have W:=h1;repeat' first|refine wf ?_|(refine nx ?_;refine sb ?_)|(refine sq ?_ ?_<;>intro hc<;>try exact hc.elim)|fail
  all_goals try(refine aZ ?_;simp[aX,results158,h1])
  all_goals simp_all
def nQ(p:fU)(r:gG)(x:bE):aU:=if gZ p r x=1 then x.body else []
theorem BC[aB prog][dY prog][eO prog](p:fU)(r:gG)(x:bE)(hp:gF p<=274877906944)(hr:qK r<=274877906944)(hx:dE x<=1048576):Ok prog 159 [.agg (dK .view p),.agg (gW r),.agg (cZ x)] (.iP [.str (nQ p r x),.bool (decide (gZ p r x=1))]):=by
 have c1:=tO p r x hp hr hx;simp only[dK,gW,cZ]at c1;unfold nQ;generalize gZ p r x=n at*;by_cases h1:n=1
 .subst h1;refine dL aO func159 ntmps159 ?_;have W:=trivial;repeat' first|refine wf ?_|(refine nx ?_;refine sb ?_)|(refine sq ?_ ?_<;>intro hc<;>try exact hc.elim)|fail
  exact aR results159
 .refine dL aO func159 ntmps159 ?_;have W:=h1;repeat' first|refine wf ?_|(refine nx ?_;refine sb ?_)|(refine sq ?_ ?_<;>intro hc<;>try exact hc.elim)|fail
  all_goals try(refine aZ ?_;simp[aX,results159,h1])
def filled(p:aC)(s:nK)(x:bE):nK:={s with done:=true,code:=gZ p.bM (jJ p s) x,body:=nQ p.bM (jJ p s) x}
def gY(p:aC)(k:Int)(x:bE):aC:=
 if 0<=k then match p.aF[k.toNat]? with
  |some s=>if s.done=true then p else {p with aF:=p.aF.set k.toNat (filled p s x)}
  |none=>p
 else p
theorem yg{p:aC}{k:Int}{x:bE}(h:¬(0<=k/\k<p.aF.length)):gY p k x=p:=by
 unfold gY;split
 .have:p.aF[k.toNat]? =none:=by rw[tI];omega
  rw[this]
 .rfl
theorem UK{p:aC}{k:Int}{x:bE}{s:nK}(hg:p.aF[k.toNat]? =some s)(hd:s.done=true):gY p k x=p:=by unfold gY;rw[hg];simp[hd]
theorem aDz{p:aC}{k:Int}{x:bE}{s:nK}(h0:0<=k)(hg:p.aF[k.toNat]? =some s)(hd:s.done=false):gY p k x={p with aF:=p.aF.set k.toNat (filled p s x)}:=by unfold gY;rw[eW h0,hg];simp[hd]
theorem YW(p:aC){s:nK}{k:Nat}(hg:p.aF[k]? =some s):qK (jJ p s)<=aM p:=by have hm:=dS iU (mB hg);simp only[iU]at hm;simp only[qK,jJ,aM,aP,bV]at*;omega
theorem NS[aB prog][dY prog][eO prog](p:aC)(k:Int)(x:bE)(hs:aM p<=137438953472)(hx:dE x<=1048576):Ok prog 162 [.agg (aQ .view p),.int .i64 k,.agg (cZ x)] (.agg (aQ .own (gY p k x))):=by
 have c1:=fQ p (by omega);have ZO:p.aF.length<=274877906944:=by simp only[aM,bV]at hs;omega
 have Yt:gF p.bM<=274877906944:=by simp only[aM]at hs;omega
 have ci:=eX k 0 ((p.aF.length:Int)-1);by_cases hk0:k<0
 .rw [yg (by omega)];rw[show(decide (0<=k)&&decide (k<=(p.aF.length:Int)-1))=false by simp;omega]at ci;simp only[aQ]at c1;refine dL aO func162 ntmps162 ?_;have W:=hk0;refine we ?_;exact aR results162
 by_cases hk1:(p.aF.length:Int)<=k
 .rw [yg (by omega)];rw[show(decide (0<=k)&&decide (k<=(p.aF.length:Int)-1))=false by simp;omega]at ci;simp only[aQ]at c1;refine dL aO func162 ntmps162 ?_;have W:=aA hk0 hk1;refine we ?_;exact aR results162
 have h0:0<=k:=by omega
 rw[show(decide (0<=k)&&decide (k<=(p.aF.length:Int)-1))=true by simp;omega]at ci;have hlt:k.toNat<p.aF.length:=by omega
 have hg:p.aF[k.toNat]? =some p.aF[k.toNat]:=aE hlt;cases hd:p.aF[k.toNat].done
 .rw [aDz h0 hg hd];have c2:=vJ p k h0 (by omega) (by omega);have hr:=YW p hg;have e:qG p k=jJ p p.aF[k.toNat]:=by simp[qG,hg]
  rw[e]at c2;have c3:=tO p.bM (jJ p p.aF[k.toNat]) x Yt (by omega) hx;have c4:=BC p.bM (jJ p p.aF[k.toNat]) x Yt (by omega) hx;have hset:∀(c:Int) (b:aU),(p.aF.map xC).set k.toNat [.int .i64 p.aF[k.toNat].mode,.str p.aF[k.toNat].to.host,.str p.aF[k.toNat].to.path,.str p.aF[k.toNat].digest,.int .i64 p.aF[k.toNat].node,.bool true,.int .i64 c,.str b]=(p.aF.set k.toNat {p.aF[k.toNat]with done:=true,code:=c,body:=b}).map xC:=by intro c b;rw[map_set];rfl
  have hset:=hset (gZ p.bM (jJ p p.aF[k.toNat]) x) (nQ p.bM (jJ p p.aF[k.toNat]) x);unfold filled;generalize gZ p.bM (jJ p p.aF[k.toNat]) x=c at*;generalize nQ p.bM (jJ p p.aF[k.toNat]) x=b at*;generalize jJ p p.aF[k.toNat]=q at*;generalize p.aF.set k.toNat {p.aF[k.toNat]with done:=true,code:=c,body:=b}=l3 at*;simp only[aQ,gW]at c2;simp only[dK,gW,cZ]at c3 c4;simp only[aQ]at c1;simp only[aQ];clear e;refine dL aO func162 ntmps162 ?_;have W:=aA hk0 (aA hk1 (aA h0 (aA hg (aA hd hlt))));refine we ?_;all_goals try(refine aZ ?_;simp[aX,results162])
  all_goals exact hset
 .rw [UK hg hd];simp only[aQ]at c1;refine dL aO func162 ntmps162 ?_;have W:=aA hk0 (aA hk1 (aA h0 (aA hg (aA hd hlt))));refine we ?_;exact aR results162
end Go.Proofs.YtnkpkklemmgapaaGreatDoor
namespace Go.Aw
open List
def Env.noL(E:Env)(i:Nat):Env:={E with L:=λj ver idx off v=>j≠i/\E.L j ver idx off v}
mutual
def nop(i:Nat):AV->Bool
 | .ptr j _ _ _=>decide (j≠i)
 | .agg c=>Jb i c
 | .iP c=>Jb i c
 | .fn _ c=>Jb i c
 |_=>true
def Jb(i:Nat):List AV->Bool
 |[]=>true
 |x::xs=>nop i x&&Jb i xs
end
attribute [simp] nop Jb
mutual
theorem aJ5{w:World}{E:Env}{i:Nat}:∀(x:AV) (v:Value) (fp:List Nat),nop i x=true->R w E x v fp->R w (E.noL i) x v fp
 | .int _ _,_,_,_,h=>by simpa [R]using h
 | .bool _,_,_,_,h=>by simpa [R]using h
 | .str _,_,_,_,h=>by simpa [R]using h
 | .sl g _ _,_,_,_,h=>by simp only[R]at h⊢;cases g<;>exact h
 | .fH g _ _,_,_,_,h=>by simp only[R]at h⊢;cases g<;>exact h
 | .obj _ _,_,_,_,h=>by simp only[R]at h⊢;exact h
 | .ptr j _ _ _,_,_,hc,h=>by simp only[R]at h⊢;exact⟨h.1,by simpa using hc,h.2⟩
 | .agg c,v,fp,hc,h=>by simp only[R]at h⊢;obtain⟨cs,h1,h2,h3⟩:=h;exact⟨cs,h1,h2,QS c cs fp (by simpa using hc) h3⟩
 | .iP c,v,fp,hc,h=>by simp only[R]at h⊢;obtain⟨cs,h1,h3⟩:=h;exact⟨cs,h1,QS c cs fp (by simpa using hc) h3⟩
 | .fn f c,v,fp,hc,h=>by simp only[R]at h⊢;obtain⟨h0,cs,h1,h3⟩:=h;exact⟨h0,cs,h1,QS c cs [] (by simpa using hc) h3⟩
 | .undef,_,_,_,h=>by simpa [R]using h
theorem QS{w:World}{E:Env}{i:Nat}:∀(c:List AV) (cs:List Value) (fp:List Nat),Jb i c=true->Rc w E c cs fp->Rc w (E.noL i) c cs fp
 |[],[],_,_,h=>by simpa [Rc]using h
 |[],_::_,_,_,h=>by simp[Rc]at h
 |_::_,[],_,_,h=>by simp[Rc]at h
 |x::xs,c::cs,fp,hc,h=>by simp only[Rc]at h⊢;simp only[Jb,eI]at hc;obtain⟨f1,f2,h1,h2,h3⟩:=h;exact⟨f1,f2,aJ5 x c f1 hc.1 h1,QS xs cs f2 hc.2 h2,h3⟩
end
theorem aEj{w:World}{E:Env}{i:Nat}:∀(l:List (List AV)) (b off n:Nat) (fp:List Nat),(l.all λc=>Jb i c)=true->Rr w E l b off n fp->Rr w (E.noL i) l b off n fp
 |[],_,_,_,_,_,h=>by simpa [Rr]using h
 |e::es,b,off,n,fp,hc,h=>by simp only[Rr]at h⊢;simp only[BY,eI]at hc;obtain⟨cs,f1,f2,h1,h2,h3,h4,h5,h6⟩:=h;exact⟨cs,f1,f2,h1,h2,h3,QS e cs f1 hc.1 h4,aEj es b _ n f2 hc.2 h5,h6⟩
def bmp(i v:Nat):List AV->List AV
 |[]=>[]
 | .obj j u::xs=>(if j=i/\u=v then .obj i (v+3)else .obj j u)::bmp i v xs
 |x::xs=>x::bmp i v xs
attribute [simp] bmp
theorem aEk{w:World}{E E':Env}{i v:Nat}(k:dF w (E.noL i) w E')(hv:∀x,E.H i v x->E'.H i (v+3) x):∀(t:List AV) (vs:List Value),Jb i t=true->Rc w E t vs []->Rc w E' (bmp i v t) vs []
 |[],[],_,h=>by simpa [Rc]using h
 |[],_::_,_,h=>by simp[Rc]at h
 |_::_,[],_,h=>by simp[Rc]at h
 |x::xs,c::cs,hc,h=>by
  simp only[Rc]at h;simp only[Jb,eI]at hc;obtain⟨f1,f2,h1,h2,h3⟩:=h;obtain⟨rfl,rfl⟩:=append_eq_nil_iff.1 h3.symm;have ih:=aEk k hv xs cs hc.2 h2;have h4:=lF k x c [] (by simp) (aJ5 x c [] hc.1 h1);have key:∀y,R w E' y c []->Rc w E' (y::bmp i v xs) (c::cs) []:=λy hy=>by simp only[Rc];exact⟨[],[],hy,ih,rfl⟩
  cases x with
  |obj j u=>
   simp only[bmp];split
   .rename_i e;obtain⟨rfl,rfl⟩:=e;refine key _ ?_;simp only[R]at h1⊢;exact⟨trivial,hv _ h1.2⟩
   .exact key _ h4
  |_=>exact key _ h4
theorem aEl{t:List AV}{o o':List aD}(i:Nat){ob:aD}(ho:o[i]? =some ob)(hl:ob.live=true)(hb:ob.box=false)(ho':o.set i {ob with box:=true,ver:=ob.ver+3}=o')(ht:Jb i t=true)(hall:(o.all λx=> !x.box || x.dM.all λc=>Jb i c)=true):kY ⟨t,o⟩ ⟨bmp i ob.ver t,o'⟩:=by
 subst ho';rintro P _ B a w ⟨G,r⟩;obtain⟨g,hlk⟩:=r.look ho;have hG:G.set i g=G:=by
  apply AK;intro j;rw[DO];split
  .rename_i e;subst e;rw[hlk.2];simp[(cQ.1 hlk.2).1]
  .rfl
 generalize qC:({ob with box:=true,ver:=ob.ver+3}:aD)=ob';have e1:ob'.live=ob.live:=by rw[<-qC]
 have e2:ob'.n=ob.n:=by rw[<-qC]
 have e3:ob'.ver=ob.ver+3:=by rw[<-qC]
 have e4:ob'.dM=ob.dM:=by rw[<-qC]
 have e5:ob'.box=true:=by rw[<-qC]
 have back:∀{j x y},look (o.set i ob') G j x y->(j=i/\x=ob'/\y=g)\/(j≠i/\look o G j x y):=λh=>by rw[<-hG]at h;exact yG h
 have fi:look (o.set i ob') G i ob' g:=by
  have:=pI (ob':=ob') (g':=g) hlk
  rwa[hG]at this
 have fo:∀{j x y},j≠i->look o G j x y->look (o.set i ob') G j x y:=λhj h=>by
  have:=Ba (ob':=ob') (g':=g) h hj
  rwa[hG]at this
 have k:dF w ((env B o G w).noL i) w (env B (o.set i ob') G w):=by
  refine⟨λx hx=>⟨⟨hx.1,λj y z hlj hjl hf=> ?_⟩,rfl⟩,λj h x hx=> ?_,λj x hV h=>⟨?_,rfl⟩,λj ver x h=> ?_,λj ver p q x h=> ?_⟩
  .rcases back hlj with⟨rfl,rfl,rfl⟩|⟨_,h⟩
   .exact hx.2 _ _ _ hlk (e1▸hjl) hf
   .exact hx.2 _ _ _ h hjl hf
  .obtain ⟨y,hy⟩:=r.look hx;by_cases hj:j=i
   .subst hj;obtain⟨rfl,rfl⟩:=iD hlk hy;have:=h ob' fi.1
    rwa[e1]at this
   .exact h x (fo hj hy).1
  .obtain ⟨x',y,hlj,hjl,hf,hne⟩:=h;by_cases hj:j=i
   .subst hj;obtain⟨rfl,rfl⟩:=iD hlk hlj;exact⟨ob',g,fi,by rw[e1];exact hjl,hf,hne⟩
   .exact ⟨x',y,fo hj hlj,hjl,hf,hne⟩
  .obtain ⟨x',y,hlj,wW,hh,hz⟩:=h;by_cases hj:j=i
   .subst hj;obtain⟨rfl,rfl⟩:=iD hlk hlj;exact⟨ob',g,fi,by omega,λ_ e=>by omega,hz⟩
   .exact ⟨x',y,fo hj hlj,wW,hh,hz⟩
  .obtain ⟨hj,x',y,hlj,wW,hh,hz⟩:=h;exact⟨x',y,fo hj hlj,wW,hh,hz⟩
 have hbv:∀x,(env B o G w).H i ob.ver x->(env B (o.set i ob') G w).H i (ob.ver+3) x:=by rintro x ⟨x',y,hlj,wW,hh,hz⟩;obtain⟨rfl,rfl⟩:=iD hlk hlj;exact⟨ob',g,fi,by omega,λ_ _=>by rw[e4];exact hh hl rfl,λh=>by omega⟩
 refine⟨G,{len:=by simp[r.len],defs:=r.defs,ok:= ?_,apart:= ?_,fresh:= ?_,tmps:=aEk k hbv _ _ ht r.tmps,size:=r.size,frame:=r.frame,base:=r.base,same:=r.same}⟩
 .intro j x y hlj hjl;rcases back hlj with⟨rfl,rfl,rfl⟩|⟨hj,h⟩
  .obtain ⟨fp,q1,q2,q3⟩:=r.ok _ _ _ hlk (e1▸hjl);refine⟨fp,?_,q2,q3⟩;simp only[hb,Env.of,cX,eS]at q1;simp only[e5,Env.of,eV,e2,e4];exact q1.keeps (k.plain.trans (Md w _)) (λ_ _=>rfl)
  .obtain ⟨fp,q1,q2,q3⟩:=r.ok j x y h hjl;refine⟨fp,?_,q2,q3⟩;cases hx:x.box with
   |false=>simp only[hx,Env.of,cX,eS]at q1⊢;exact q1.keeps k.plain (λ_ _=>rfl)
   |true=>
    simp only[hx,Env.of,eV]at q1⊢;have hn:=fW.1 hall _ (mB h.1);simp only[hx,Cl,Fo]at hn;obtain⟨hl,q1|⟨b,off,C,e,fz,nU,k1,k2,k3,k4,k5,k6,k7,k8⟩⟩:=q1
    .exact ⟨hl,.inl q1⟩
    .exact qH.keeps (E:=(env B o G w).noL i) ⟨hl,.inr ⟨b,off,C,e,fz,nU,k1,k2,k3,k4,k5,k6,k7,aEj _ _ _ _ _ hn k8⟩⟩ k (λ_ _=>rfl)
 .intro j1 j2 x1 x2 y1 y2 z hl1 hl2 v1 v2 hf1 hf2;rcases back hl1 with⟨rfl,rfl,rfl⟩|⟨hj1,h1⟩<;>rcases back hl2 with⟨rfl,rfl,rfl⟩|⟨hj2,h2⟩
  .rfl
  .exact r.apart _ _ _ _ _ _ z hlk h2 (e1▸v1) v2 hf1 hf2
  .exact r.apart _ _ _ _ _ _ z h1 hlk v1 (e1▸v2) hf1 hf2
  .exact r.apart _ _ _ _ _ _ z h1 h2 v1 v2 hf1 hf2
 .intro j x y z hlj hjl hf;rcases back hlj with⟨rfl,rfl,rfl⟩|⟨_,h⟩
  .exact r.fresh _ _ _ z hlk (e1▸hjl) hf
  .exact r.fresh _ _ _ z h hjl hf
def UN(i:Nat):List AV->List AV
 |[]=>[]
 |x::xs=>(if nop i x then x else .undef)::UN i xs
attribute [simp] UN
theorem Zj(i:Nat):∀t:List AV,wk t (UN i t)
 |[]=>trivial
 |x::xs=>⟨by split;exact .inl rfl;exact .inr rfl,Zj i xs⟩
theorem UO(i:Nat):∀t:List AV,Jb i (UN i t)=true
 |[]=>rfl
 |x::xs=>by
  simp only[UN,Jb,UO i xs,Bool.and_true];split
  .assumption
  .rfl
theorem go_boxB{P:Program}[aB P](i k c:Nat){id:Nat}{L:List Oper}{Q:Exit->AS->Prop}{t t':List AV}{o o':List aD}{ob:aD}{e:List AV}{m:Nat}{rows:List (List AV)}(ho:o[i]? =some ob)(he:ob.dM[k]? =some e)(hc:e[c]? =some (.sl .own m rows))
  (h:jL P (.region id L.toArray false) ⟨t',o'⟩ Q) (hl:ob.live=true:=by rfl) (hb:ob.box=false:=by rfl) (hall:(o.all λx=> !x.box || x.dM.all λc=>Jb i c&&pQ i c)=true:=by simp)
  (hrow:(ob.dM.all λc=>pQ i c)=true:=by simp) (ho':o.set i {ob with box:=true,ver:=ob.ver+3,dM:=ob.dM.set k (e.set c (.obj o.length 1))}++[⟨true,false,m,1,rows⟩]=o':=by simp;rfl) (hw:qD (gU [i]) true (bmp i ob.ver (UN i t))=t':=by simp;rfl):
  jL P (Qa (.region id L.toArray false)) ⟨t,o⟩ Q:=by
 have hlt:=(cQ.1 ho).1;refine go_weak (kY.trans (Ag (Zj i t)) (kY.trans (aEl i ho hl hb rfl (UO i t) ?_) (pR i k c (ob:={ob with box:=true,ver:=ob.ver+3}) (by simp[hlt]) hl rfl ?_ he hc (by simpa using ho') (hw▸mR _)))) h
 .rw [fW]at hall⊢;intro x hx;have:=hall x hx;simp only[sE,xF,fW,eI]at this⊢;exact this.imp (λh=>h) λh r hr=>(h r hr).1
 .rw [fW]at hall⊢;intro x hx;rcases tU hx with hx|rfl
  .have:=hall x hx;simp only[sE,xF,fW,eI]at this⊢;exact this.imp (λh=>h) λh r hr=>(h r hr).2
  .simp only[Cl,Fo];exact hrow
theorem go_close{P:Program}[aB P](i J k c:Nat)(R:List (List AV)){id:Nat}{L:List Oper}{Q:Exit->AS->Prop}{t:List AV}{o o':List aD}{ob oj:aD}{e:List AV}{ver:Nat}(ho:o[i]? =some ob)(hj:o[J]? =some oj)
  (he:ob.dM[k]? =some e) (hc:e[c]? =some (.obj J ver)) (hR:ob.dM.set k (e.set c (.sl .own oj.n oj.dM))=R) (hp:((ob.dM.set k (e.set c (.int .i64 0))).all λr=>r.all AV.xD)=true)
  (h:jL P (.region id L.toArray false) ⟨t,o'⟩ Q) (hij:i≠J:=by decide) (hl:ob.live=true:=by rfl) (hlj:oj.live=true:=by rfl) (hbj:oj.box=false:=by rfl) (wW:oj.ver=ver:=by rfl) (hbx:ob.box=true:=by rfl)
  (ho':(o.set J oj.kill).set i {ob with box:=false,dM:=R}=o':=by simp[aD.kill];rfl):jL P (Qa (.region id L.toArray false)) ⟨t,o⟩ Q:=
 go_weak (ik i J k c ho hj hij hl hlj hbj he hc wW hp hbx (by rw[hR];exact ho') (mR _)) h
end Go.Aw
set_option maxRecDepth 4000
set_option maxHeartbeats 4000000
namespace Go.Proofs.YtnkpkklemmgapaaGreatDoor
open Go.Aw Proofs.Tryz List IntKind
def Jc(s:fE)(i:Nat):Bool:=match s.files[i]? with
 |some f=>dJ f.path&&(jD f.response&&(s.files.take i).all λg=> !(g.path == f.path))
 |none=>true
def tQ(s:fE):Bool:=(range s.files.length).all (Jc s)&&(dJ s.host&&decide ((s.files.length:Int)<=10))
theorem Fu{s:fE}{k:Nat}(hk:k<s.files.length)(h:Jc s k=false):tQ s=false:=by unfold tQ;rw[rN];left;rw[all_eq_false];exact⟨k,by simpa using hk,by simp[h]⟩
theorem VX{s:fE}(h:∀i,i<s.files.length->Jc s i=true):tQ s=(dJ s.host&&decide ((s.files.length:Int)<=10)):=by unfold tQ;rw[fW.2 λi hi=>h i (by simpa using hi),tR]
theorem vF[aB prog][dY prog](s:fE)(hs:bT s<=16777216):Ok prog 137 [.agg (bN .view s)] (.bool (tQ s)):=by
 simp only[bT,bV]at hs;have hsl:s.files.length<=16777216:=by omega
 refine dL aO func137 ntmps137 ?_;have W:=trivial;repeat' first|refine st ?_|(refine nx ?_;first|refine se ?_|refine so ?_)|(refine cx ?_;refine sc (λhc=>?_) (λhc=>?_)<;>try exact hc.elim)|(refine lx ?_;refine sp (λhc=>?_) (λhc=>?_)<;>try exact hc.elim)|refine sx ?_ ?_|refine sy ?_ ?_|fail
 refine aI (ι:={k:Nat // k<=s.files.length/\∀i,i<k->Jc s i=true}) (λt o i=>⟨bH t [(3,.int .i64 i.1)],o⟩)
  (λi=>s.files.length-i.1) ⟨0,by simp,by simp⟩ aG ?_
 rintro⟨k,hk,hi⟩ K1 hK1;simp only[bH,cH,cJ]at hK1⊢;have hk1:=rE (k:=k);by_cases hlt:k<s.files.length
 .have hg:=aE hlt;have hz:=dD Eu s.files k hlt;simp only[Eu]at hz;have c1:=dZ s.files[k].path (by omega);have c2:=wT s.files[k].response (by omega);simp only[cZ]at c2;have qE:Jc s k=(dJ s.files[k].path&&(jD s.files[k].response&&(s.files.take k).all λg=> !(g.path == s.files[k].path))):=by unfold Jc;rw[hg]
  generalize dJ s.files[k].path=b1 at*;generalize jD s.files[k].response=b2 at*;cases b1
  .rw [Fu hlt (by rw[qE];rfl)];clear hi qE;have W:=aA hk1 (aA hg hlt);repeat' first|refine st ?_|(refine nx ?_;first|refine se ?_|refine so ?_)|(refine cx ?_;refine sc (λhc=>?_) (λhc=>?_)<;>try exact hc.elim)|(refine lx ?_;refine sp (λhc=>?_) (λhc=>?_)<;>try exact hc.elim)|refine sx ?_ ?_|refine sy ?_ ?_|fail
   all_goals (try exact aR results137)
  .cases b2
   .rw [Fu hlt (by rw[qE];rfl)];clear hi qE;have W:=aA hk1 (aA hg hlt);repeat' first|refine st ?_|(refine nx ?_;first|refine se ?_|refine so ?_)|(refine cx ?_;refine sc (λhc=>?_) (λhc=>?_)<;>try exact hc.elim)|(refine lx ?_;refine sp (λhc=>?_) (λhc=>?_)<;>try exact hc.elim)|refine sx ?_ ?_|refine sy ?_ ?_|fail
    all_goals (try exact aR results137)
   .rw [tR,tR]at qE;have hnext:(∀g∈s.files.take k,(g.path == s.files[k].path)=false)->∀i,i<k+1->Jc s i=true:=λh i h1=>by
     rcases Nat.lt_succ_iff_lt_or_eq.1 h1 with h2|rfl
     .exact hi i h2
     .rw [qE,fW];intro g hgm;simp[h g hgm]
    have pU:∀j,(hj:j<k)->(s.files[j].path == s.files[k].path)=true->tQ s=false:=λj hj he=>Fu hlt (by
     rw[qE,all_eq_false];exact⟨s.files[j],mem_take_iff_getElem.2 ⟨j,by omega,rfl⟩,by simp[he]⟩)
    clear hi qE;generalize hW:tQ s=w at*;have W:=aA hk1 (aA hg hlt);repeat' first|refine st ?_|(refine nx ?_;first|refine se ?_|refine so ?_)|(refine cx ?_;refine sc (λhc=>?_) (λhc=>?_)<;>try exact hc.elim)|(refine lx ?_;refine sp (λhc=>?_) (λhc=>?_)<;>try exact hc.elim)|refine sx ?_ ?_|refine sy ?_ ?_|fail
    have hK2:=hK1;clear hK1;refine aI (ι:={j:Nat // j<=k/\∀g∈s.files.take j,(g.path == s.files[k].path)=false}) (λt o j=>⟨bH t [(4,.int .i64 (j.1:Int))],o⟩) (λj=>k-j.1) ⟨0,by simp⟩ aG ?_;rintro⟨j,hj,hpj⟩ K3 hK3;simp only[bH,cH,cJ]at hK3⊢;have hK4:=hK3;clear hK3;have hj1:i64.wrap ((j:Int)+1)=((j+1:Nat):Int):=by rw[wrap64]<;>omega
    by_cases hjk:j<k
    .have hji:(j:Int)<(k:Int):=by omega
     have hjl:j<s.files.length:=by omega
     have hg2:=aE hjl;have hb2:=pU j hjk;have hpn:(s.files[j].path == s.files[k].path)=false->∀g∈s.files.take (j+1),(g.path == s.files[k].path)=false:=λhe g hgm=>by
      rw[eL hjl,fS]at hgm;rcases hgm with hgm|hgm
      .exact hpj g hgm
      .simp only[nF]at hgm;subst hgm;exact he
     clear hpj pU hnext;cases he:s.files[j].path == s.files[k].path
     .have aT3:=hpn he;clear hpn hb2;have W:=aA hji (aA hg (aA hlt (aA hg2 (aA hjl (aA he hj1)))));repeat' first|refine st ?_|(refine nx ?_;first|refine se ?_|refine so ?_)|(refine cx ?_;refine sc (λhc=>?_) (λhc=>?_)<;>try exact hc.elim)|(refine lx ?_;refine sp (λhc=>?_) (λhc=>?_)<;>try exact hc.elim)|refine sx ?_ ?_|refine sy ?_ ?_|fail
      exact hK4 _ ⟨j+1,by omega,aT3⟩ aG (by simp only;omega)
     .have hw:=hb2 he;subst hw;clear hb2 hpn hK4;have W:=aA hji (aA hg (aA hlt (aA hg2 (aA hjl he))));repeat' first|refine st ?_|(refine nx ?_;first|refine se ?_|refine so ?_)|(refine cx ?_;refine sc (λhc=>?_) (λhc=>?_)<;>try exact hc.elim)|(refine lx ?_;refine sp (λhc=>?_) (λhc=>?_)<;>try exact hc.elim)|refine sx ?_ ?_|refine sy ?_ ?_|fail
      all_goals (try exact aR results137)
    .have hji:¬(j:Int)<(k:Int):=by omega
     obtain rfl:j=k:=by omega
     have hn2:=hnext hpj;clear hK4 hpj hnext pU;have W:=aA hji hk1;repeat' first|refine st ?_|(refine nx ?_;first|refine se ?_|refine so ?_)|(refine cx ?_;refine sc (λhc=>?_) (λhc=>?_)<;>try exact hc.elim)|(refine lx ?_;refine sp (λhc=>?_) (λhc=>?_)<;>try exact hc.elim)|refine sx ?_ ?_|refine sy ?_ ?_|fail
     exact hK2 _ ⟨j+1,by omega,hn2⟩ aG (by simp only;omega)
 .have c3:=dZ s.host (by omega);rw[VX λi h=>hi i (by omega)];clear hi;generalize dJ s.host=b3 at*;cases b3
  .have W:=hk1;repeat' first|refine st ?_|(refine nx ?_;first|refine se ?_|refine so ?_)|(refine cx ?_;refine sc (λhc=>?_) (λhc=>?_)<;>try exact hc.elim)|(refine lx ?_;refine sp (λhc=>?_) (λhc=>?_)<;>try exact hc.elim)|refine sx ?_ ?_|refine sy ?_ ?_|fail
   all_goals (try exact aR results137)
  .have W:=hk1;repeat' first|refine st ?_|(refine nx ?_;first|refine se ?_|refine so ?_)|(refine cx ?_;refine sc (λhc=>?_) (λhc=>?_)<;>try exact hc.elim)|(refine lx ?_;refine sp (λhc=>?_) (λhc=>?_)<;>try exact hc.elim)|refine sx ?_ ?_|refine sy ?_ ?_|fail
   all_goals (try exact aR results137)
def aT4(n:Nat)(r:AV):Prop:=∃(l':List fE) (b:Bool),r= .iP [.sl .own 2 (l'.map (bN .own)),.bool b]/\bV bT l'<=n
def pE(s:fE)(a:aK)(x:bE):fE:=
 if zO (Bt a.path) s.files<0 then {s with files:=s.files++[⟨a.path,x⟩]}else {s with files:=s.files.set (zO (Bt a.path) s.files).toNat ⟨((s.files[(zO (Bt a.path) s.files).toNat]?).getD ⟨[],x⟩).path,x⟩}
theorem QT{α:Type}(f:α->Nat)(c:Nat):∀(l:List α) (k:Nat) (h:k<l.length) (x:α),f x<=f l[k]+c->bB f (l.set k x)<=bB f l+c
 |[],k,h,_,_=>by simp at h
 |y::l,0,_,x,hx=>by simp only[getElem_cons_zero]at hx;simp only[cJ,bB];omega
 |y::l,k+1,h,x,hx=>by have:=QT f c l k (by simpa using h) x (by simpa using hx);simp only[cH,bB];omega
theorem Zk{α:Type}(f:α->Nat)(l:List α)(x:α):bB f (l++[x])=bB f l+f x:=by
 induction l with
 |nil=>simp[bB]
 |cons y l ih=>simp only[cW,bB,ih];omega
theorem KF(s:fE)(a:aK)(x:bE):bT (pE s a x)<=bT s+(aP a+dE x+4):=by
 unfold pE;split
 .simp only[bT,bV,Zk,eM,dT,eR,Eu,aP];omega
 .by_cases h:(zO (Bt a.path) s.files).toNat<s.files.length
  .have h2:=QT Eu (dE x) s.files _ h ⟨((s.files[(zO (Bt a.path) s.files).toNat]?).getD ⟨[],x⟩).path,x⟩ (by rw[aE h];simp only[pA,Eu];omega);simp only[bT,bV,CC]at h2⊢;omega
  .rw [zE (by omega)];show bT s<=_;omega
theorem aMk(l:List fE)(n:Nat)(s:fE)(a:aK)(x:bE)(hn:n<l.length)(hg:l[n]=s):bV bT (l.set n (pE s a x))<=bV bT l+(aP a+dE x+4):=by subst hg;have h:=QT bT (aP a+dE x+4) l n hn _ (KF l[n] a x);simp only[bV,CC];omega
@[simp] theorem aRh(u:List Nat)(b:Bool)(l:List fE):iI (gU u) b (l.map (bN .view))=l.map (bN .view):=by
 induction l with
 |nil=>rfl
 |cons x l ih=>rw[lA,iI,ih];simp[qD,rt,bN,gU]
theorem QU[aB prog][dY prog](l:List fE)(a:aK)(x:bE)(hs:bV bT l+aP a+dE x<=1048576):ug prog 99 [.sl .view 2 (l.map (bN .view)),.agg (bC a),.agg (cZ x)] (aT4 (bV bT l+(2*aP a+dE x+5))):=by
 have hl:l.length<=1048576:=by simp only[bV]at hs;omega
 have c1:=pg l (by omega);have c2:=Kl l a.host (by omega);simp only[bC,cZ]at*;refine aJ7 aO [7,10] func99 ntmps99 ?_;have hx5:dE x<=1048576:=by omega
 have hN:∀(l1:List fE) (n:Nat) (s:fE),l1[n]? =some s->bV bT l1<=bV bT l+aP a+1->bV bT (l1.set n (pE s a x))<=bV bT l+(2*aP a+dE x+5):=λl1 n s hg hz=>by obtain⟨hn,hg⟩:=cQ.1 hg;have:=aMk l1 n s a x hn hg;omega
 rcases qP (MQ a.host) l with⟨h1,_⟩|⟨n,hn,h1,_⟩
 .rw [h1]at c2;obtain⟨s,hs1⟩:∃s:fE,s=⟨a.host,[]⟩:=⟨_,rfl⟩;obtain⟨l1,hl1⟩:∃m,m=l++[s]:=⟨_,rfl⟩;have hap:l.map (bN .own)++[[.str a.host,.sl .own 7 []]]=l1.map (bN .own):=by rw[hl1,hs1];simp
  have aEn:=hap;have hg:l1[l.length]? =some s:=by rw[hl1];simp
  have hlt:l.length<l1.length:=by rw[hl1];simp
  have hz1:bV bT l1<=bV bT l+aP a+1:=by rw[hl1,hs1];simp only[bV,Zk,bT,eM,dT,eR,bB,aP];omega
  clear hl1;have hM:=hN _ _ _ hg hz1;have hsz:bT s<=bV bT l1:=by obtain⟨h3,h4⟩:=cQ.1 hg;have:=dD bT l1 _ h3;rw[h4]at this;simp only[bV];omega
  have hsf:s.files.length<=bT s:=by simp only[bT,bV];omega
  have c3:=IP s a.path (by omega);simp only[bN]at c3;have hnd:((l1.map (bN .own)).all λc=>pQ 2 c)=true:=by simp[pQ,Bj]
  have Og:((l.length:Nat):Int)<(l1.length:Int):=by omega
  have hset:∀r,((l1.map (bN .own)).set l.length r)[l.length]? =some r:=λr=>by simp[hlt]
  rcases qP (Bt a.path) s.files with⟨h3,_⟩|⟨j,hj,h3,_⟩
  .rw [h3]at c3;have eP:pE s a x=⟨s.host,s.files++[⟨a.path,x⟩]⟩:=by unfold pE;rw[h3,eW (by omega)]
   have Fv:(pE s a x).host=s.host:=by rw[eP]
   clear hN;obtain⟨l2,hl2⟩:∃m,m=l1.set l.length (pE s a x):=⟨_,rfl⟩;rw[<-hl2]at hM;have aEo:l2.length=l1.length:=by rw[hl2,CC]
   have hg2:l2[l.length]? =some (pE s a x):=by rw[hl2];simp[hlt]
   have hsz2:bT (pE s a x)<=16777216:=by have:=KF s a x;omega
   have hR:∀v,((l1.map (bN .own)).set l.length [.str s.host,v]).set l.length (([.str s.host,v]:List AV).set 1 (.sl .own 7 ((pE s a x).files.map zD)))=l2.map (bN .own):=λv=>by rw[hl2,set_set,map_set];simp[Fv]
   have hp:∀v,((((l1.map (bN .own)).set l.length [.str s.host,v]).set l.length (([.str s.host,v]:List AV).set 1 (.int .i64 0))).all λr=>r.all AV.xD)=true:=λv=>by
    rw[set_set,fW];intro r hr;rcases tU hr with hr|rfl
    .obtain ⟨z,_,rfl⟩:=qS.1 hr;simp[AV.xD]
    .simp [AV.xD]
   have c4:=vF (pE s a x) hsz2;have hpf:=(show(pE s a x).files=s.files++[⟨a.path,x⟩]by rw[eP]);clear hlt;clear eP;have QV:((l.length:Nat):Int)<(l2.length:Int):=by omega
   have W:=aA hap (aA hl (aA hg Og));repeat' first|refine st ?_|(refine nx ?_;first|refine se ?_|refine so ?_)|(refine cx ?_;refine sc (λhc=>?_) (λhc=>?_)<;>try exact hc.elim)|(refine lx ?_;refine sp (λhc=>?_) (λhc=>?_)<;>try exact hc.elim)|refine sx ?_ ?_|refine sy ?_ ?_|fail
   refine go_boxB 2 l.length 1 (by rfl) (e:=[.str s.host,.sl .own 7 (s.files.map zD)]) (by simp[hg]) (by rfl) ?_ (hrow:=hnd);have W:=aA hg (aA Og hset);repeat' first|refine st ?_|(refine nx ?_;first|refine se ?_|refine so ?_)|(refine cx ?_;refine sc (λhc=>?_) (λhc=>?_)<;>try exact hc.elim)|(refine lx ?_;refine sp (λhc=>?_) (λhc=>?_)<;>try exact hc.elim)|refine sx ?_ ?_|refine sy ?_ ?_|fail
   refine go_close 2 4 l.length 1 (l2.map (bN .own)) (by rfl) (by rfl) (hset _) (by rfl) (by rw[<-hR (.obj 4 2),hpf];simp[zD]) (by exact hp _) ?_;generalize pE s a x=s2 at*;clear hset hnd aEn hR hp hpf Fv hg;by_cases h4:(4:Int)<(l2.length:Int)
   .have W:=h4;repeat' first|refine st ?_|(refine nx ?_;first|refine se ?_|refine so ?_)|(refine cx ?_;refine sc (λhc=>?_) (λhc=>?_)<;>try exact hc.elim)|(refine lx ?_;refine sp (λhc=>?_) (λhc=>?_)<;>try exact hc.elim)|refine sx ?_ ?_|refine sy ?_ ?_|fail
    refine⟨.inr rfl,Gr (by simp[results99];rfl) (by simp) (by simp) ?_⟩;simp only[single,res];exact⟨l,_,rfl,by omega⟩
   .simp only[bN]at c4;generalize tQ s2=b at*;cases b
    .have W:=aA h4 (aA hg2 QV);repeat' first|refine st ?_|(refine nx ?_;first|refine se ?_|refine so ?_)|(refine cx ?_;refine sc (λhc=>?_) (λhc=>?_)<;>try exact hc.elim)|(refine lx ?_;refine sp (λhc=>?_) (λhc=>?_)<;>try exact hc.elim)|refine sx ?_ ?_|refine sy ?_ ?_|fail
     refine⟨.inr rfl,Gr (by simp[results99];rfl) (by simp) (by simp) ?_⟩;simp only[single,res];exact⟨l,_,rfl,by omega⟩
    .have W:=aA h4 (aA hg2 QV);repeat' first|refine st ?_|(refine nx ?_;first|refine se ?_|refine so ?_)|(refine cx ?_;refine sc (λhc=>?_) (λhc=>?_)<;>try exact hc.elim)|(refine lx ?_;refine sp (λhc=>?_) (λhc=>?_)<;>try exact hc.elim)|refine sx ?_ ?_|refine sy ?_ ?_|fail
     refine⟨.inr rfl,Gr (by simp[results99];rfl) (by simp) (by simp) ?_⟩;simp only[single,res];exact⟨l2,_,rfl,by omega⟩
  .rw [h3]at c3;have hj0:(0:Int)<=(j:Int):=by omega
   have eP:pE s a x=⟨s.host,s.files.set j ⟨s.files[j].path,x⟩⟩:=by unfold pE;rw[h3,eK (by omega)];simp[hj]
   have Fv:(pE s a x).host=s.host:=by rw[eP]
   clear hN;obtain⟨l2,hl2⟩:∃m,m=l1.set l.length (pE s a x):=⟨_,rfl⟩;rw[<-hl2]at hM;have aEo:l2.length=l1.length:=by rw[hl2,CC]
   have hg2:l2[l.length]? =some (pE s a x):=by rw[hl2];simp[hlt]
   have hsz2:bT (pE s a x)<=16777216:=by have:=KF s a x;omega
   have hR:∀v,((l1.map (bN .own)).set l.length [.str s.host,v]).set l.length (([.str s.host,v]:List AV).set 1 (.sl .own 7 ((pE s a x).files.map zD)))=l2.map (bN .own):=λv=>by rw[hl2,set_set,map_set];simp[Fv]
   have hp:∀v,((((l1.map (bN .own)).set l.length [.str s.host,v]).set l.length (([.str s.host,v]:List AV).set 1 (.int .i64 0))).all λr=>r.all AV.xD)=true:=λv=>by
    rw[set_set,fW];intro r hr;rcases tU hr with hr|rfl
    .obtain ⟨z,_,rfl⟩:=qS.1 hr;simp[AV.xD]
    .simp [AV.xD]
   have c4:=vF (pE s a x) hsz2;have hpf:=(show(pE s a x).files=s.files.set j ⟨s.files[j].path,x⟩by rw[eP]);clear hlt;clear eP;have QV:((l.length:Nat):Int)<(l2.length:Int):=by omega
   have W:=aA hap (aA hl (aA hg (aA Og hj0)));repeat' first|refine st ?_|(refine nx ?_;first|refine se ?_|refine so ?_)|(refine cx ?_;refine sc (λhc=>?_) (λhc=>?_)<;>try exact hc.elim)|(refine lx ?_;refine sp (λhc=>?_) (λhc=>?_)<;>try exact hc.elim)|refine sx ?_ ?_|refine sy ?_ ?_|fail
   refine go_boxB 2 l.length 1 (by rfl) (e:=[.str s.host,.sl .own 7 (s.files.map zD)]) (by simp[hg]) (by rfl) ?_ (hrow:=hnd);have W:=aA hg (aA Og (aA hset (aA hj0 hj)));repeat' first|refine st ?_|(refine nx ?_;first|refine se ?_|refine so ?_)|(refine cx ?_;refine sc (λhc=>?_) (λhc=>?_)<;>try exact hc.elim)|(refine lx ?_;refine sp (λhc=>?_) (λhc=>?_)<;>try exact hc.elim)|refine sx ?_ ?_|refine sy ?_ ?_|fail
   refine go_close 2 4 l.length 1 (l2.map (bN .own)) (by rfl) (by rfl) (hset _) (by rfl) (by rw[<-hR (.obj 4 1),hpf];simp[zD]) (by exact hp _) ?_;generalize pE s a x=s2 at*;clear hset hnd aEn hR hp hpf Fv hg;by_cases h4:(4:Int)<(l2.length:Int)
   .have W:=h4;repeat' first|refine st ?_|(refine nx ?_;first|refine se ?_|refine so ?_)|(refine cx ?_;refine sc (λhc=>?_) (λhc=>?_)<;>try exact hc.elim)|(refine lx ?_;refine sp (λhc=>?_) (λhc=>?_)<;>try exact hc.elim)|refine sx ?_ ?_|refine sy ?_ ?_|fail
    refine⟨.inr rfl,Gr (by simp[results99];rfl) (by simp) (by simp) ?_⟩;simp only[single,res];exact⟨l,_,rfl,by omega⟩
   .simp only[bN]at c4;generalize tQ s2=b at*;cases b
    .have W:=aA h4 (aA hg2 QV);repeat' first|refine st ?_|(refine nx ?_;first|refine se ?_|refine so ?_)|(refine cx ?_;refine sc (λhc=>?_) (λhc=>?_)<;>try exact hc.elim)|(refine lx ?_;refine sp (λhc=>?_) (λhc=>?_)<;>try exact hc.elim)|refine sx ?_ ?_|refine sy ?_ ?_|fail
     refine⟨.inr rfl,Gr (by simp[results99];rfl) (by simp) (by simp) ?_⟩;simp only[single,res];exact⟨l,_,rfl,by omega⟩
    .have W:=aA h4 (aA hg2 QV);repeat' first|refine st ?_|(refine nx ?_;first|refine se ?_|refine so ?_)|(refine cx ?_;refine sc (λhc=>?_) (λhc=>?_)<;>try exact hc.elim)|(refine lx ?_;refine sp (λhc=>?_) (λhc=>?_)<;>try exact hc.elim)|refine sx ?_ ?_|refine sy ?_ ?_|fail
     refine⟨.inr rfl,Gr (by simp[results99];rfl) (by simp) (by simp) ?_⟩;simp only[single,res];exact⟨l2,_,rfl,by omega⟩
 .rw [h1]at c2;obtain⟨l1,hl1⟩:∃l1,l1=l:=⟨_,rfl⟩;obtain⟨s,hg⟩:∃s,l1[n]? =some s:=⟨_,by rw[hl1];exact aE hn⟩;have aEn:=hl1;have hlt:n<l1.length:=by rw[hl1];exact hn
  have hz1:bV bT l1<=bV bT l+aP a+1:=by rw[hl1];omega
  rw[show l.map (bN .own)=l1.map (bN .own)by rw[hl1]]at c1;have hn0:(0:Int)<=(n:Int):=by omega
  clear hl1;have hM:=hN _ _ _ hg hz1;have hsz:bT s<=bV bT l1:=by obtain⟨h3,h4⟩:=cQ.1 hg;have:=dD bT l1 _ h3;rw[h4]at this;simp only[bV];omega
  have hsf:s.files.length<=bT s:=by simp only[bT,bV];omega
  have c3:=IP s a.path (by omega);simp only[bN]at c3;have hnd:((l1.map (bN .own)).all λc=>pQ 2 c)=true:=by simp[pQ,Bj]
  have Og:((n:Nat):Int)<(l1.length:Int):=by omega
  have hset:∀r,((l1.map (bN .own)).set n r)[n]? =some r:=λr=>by simp[hlt]
  rcases qP (Bt a.path) s.files with⟨h3,_⟩|⟨j,hj,h3,_⟩
  .rw [h3]at c3;have eP:pE s a x=⟨s.host,s.files++[⟨a.path,x⟩]⟩:=by unfold pE;rw[h3,eW (by omega)]
   have Fv:(pE s a x).host=s.host:=by rw[eP]
   clear hN;obtain⟨l2,hl2⟩:∃m,m=l1.set n (pE s a x):=⟨_,rfl⟩;rw[<-hl2]at hM;have aEo:l2.length=l1.length:=by rw[hl2,CC]
   have hg2:l2[n]? =some (pE s a x):=by rw[hl2];simp[hlt]
   have hsz2:bT (pE s a x)<=16777216:=by have:=KF s a x;omega
   have hR:∀v,((l1.map (bN .own)).set n [.str s.host,v]).set n (([.str s.host,v]:List AV).set 1 (.sl .own 7 ((pE s a x).files.map zD)))=l2.map (bN .own):=λv=>by rw[hl2,set_set,map_set];simp[Fv]
   have hp:∀v,((((l1.map (bN .own)).set n [.str s.host,v]).set n (([.str s.host,v]:List AV).set 1 (.int .i64 0))).all λr=>r.all AV.xD)=true:=λv=>by
    rw[set_set,fW];intro r hr;rcases tU hr with hr|rfl
    .obtain ⟨z,_,rfl⟩:=qS.1 hr;simp[AV.xD]
    .simp [AV.xD]
   have c4:=vF (pE s a x) hsz2;have hpf:=(show(pE s a x).files=s.files++[⟨a.path,x⟩]by rw[eP]);clear hlt;clear eP;have QV:((n:Nat):Int)<(l2.length:Int):=by omega
   have W:=aA hn0 (aA hl (aA hg Og));repeat' first|refine st ?_|(refine nx ?_;first|refine se ?_|refine so ?_)|(refine cx ?_;refine sc (λhc=>?_) (λhc=>?_)<;>try exact hc.elim)|(refine lx ?_;refine sp (λhc=>?_) (λhc=>?_)<;>try exact hc.elim)|refine sx ?_ ?_|refine sy ?_ ?_|fail
   refine go_boxB 2 n 1 (by rfl) (e:=[.str s.host,.sl .own 7 (s.files.map zD)]) (by simp[hg]) (by rfl) ?_ (hrow:=hnd);have W:=aA hg (aA Og hset);repeat' first|refine st ?_|(refine nx ?_;first|refine se ?_|refine so ?_)|(refine cx ?_;refine sc (λhc=>?_) (λhc=>?_)<;>try exact hc.elim)|(refine lx ?_;refine sp (λhc=>?_) (λhc=>?_)<;>try exact hc.elim)|refine sx ?_ ?_|refine sy ?_ ?_|fail
   refine go_close 2 3 n 1 (l2.map (bN .own)) (by rfl) (by rfl) (hset _) (by rfl) (by rw[<-hR (.obj 3 2),hpf];simp[zD]) (by exact hp _) ?_;generalize pE s a x=s2 at*;clear hset hnd aEn hR hp hpf Fv hg;by_cases h4:(4:Int)<(l2.length:Int)
   .have W:=h4;repeat' first|refine st ?_|(refine nx ?_;first|refine se ?_|refine so ?_)|(refine cx ?_;refine sc (λhc=>?_) (λhc=>?_)<;>try exact hc.elim)|(refine lx ?_;refine sp (λhc=>?_) (λhc=>?_)<;>try exact hc.elim)|refine sx ?_ ?_|refine sy ?_ ?_|fail
    refine⟨.inr rfl,Gr (by simp[results99];rfl) (by simp) (by simp) ?_⟩;simp only[single,res];exact⟨l1,_,rfl,by omega⟩
   .simp only[bN]at c4;generalize tQ s2=b at*;cases b
    .have W:=aA h4 (aA hg2 QV);repeat' first|refine st ?_|(refine nx ?_;first|refine se ?_|refine so ?_)|(refine cx ?_;refine sc (λhc=>?_) (λhc=>?_)<;>try exact hc.elim)|(refine lx ?_;refine sp (λhc=>?_) (λhc=>?_)<;>try exact hc.elim)|refine sx ?_ ?_|refine sy ?_ ?_|fail
     refine⟨.inr rfl,Gr (by simp[results99];rfl) (by simp) (by simp) ?_⟩;simp only[single,res];exact⟨l1,_,rfl,by omega⟩
    .have W:=aA h4 (aA hg2 QV);repeat' first|refine st ?_|(refine nx ?_;first|refine se ?_|refine so ?_)|(refine cx ?_;refine sc (λhc=>?_) (λhc=>?_)<;>try exact hc.elim)|(refine lx ?_;refine sp (λhc=>?_) (λhc=>?_)<;>try exact hc.elim)|refine sx ?_ ?_|refine sy ?_ ?_|fail
     refine⟨.inr rfl,Gr (by simp[results99];rfl) (by simp) (by simp) ?_⟩;simp only[single,res];exact⟨l2,_,rfl,by omega⟩
  .rw [h3]at c3;have hj0:(0:Int)<=(j:Int):=by omega
   have eP:pE s a x=⟨s.host,s.files.set j ⟨s.files[j].path,x⟩⟩:=by unfold pE;rw[h3,eK (by omega)];simp[hj]
   have Fv:(pE s a x).host=s.host:=by rw[eP]
   clear hN;obtain⟨l2,hl2⟩:∃m,m=l1.set n (pE s a x):=⟨_,rfl⟩;rw[<-hl2]at hM;have aEo:l2.length=l1.length:=by rw[hl2,CC]
   have hg2:l2[n]? =some (pE s a x):=by rw[hl2];simp[hlt]
   have hsz2:bT (pE s a x)<=16777216:=by have:=KF s a x;omega
   have hR:∀v,((l1.map (bN .own)).set n [.str s.host,v]).set n (([.str s.host,v]:List AV).set 1 (.sl .own 7 ((pE s a x).files.map zD)))=l2.map (bN .own):=λv=>by rw[hl2,set_set,map_set];simp[Fv]
   have hp:∀v,((((l1.map (bN .own)).set n [.str s.host,v]).set n (([.str s.host,v]:List AV).set 1 (.int .i64 0))).all λr=>r.all AV.xD)=true:=λv=>by
    rw[set_set,fW];intro r hr;rcases tU hr with hr|rfl
    .obtain ⟨z,_,rfl⟩:=qS.1 hr;simp[AV.xD]
    .simp [AV.xD]
   have c4:=vF (pE s a x) hsz2;have hpf:=(show(pE s a x).files=s.files.set j ⟨s.files[j].path,x⟩by rw[eP]);clear hlt;clear eP;have QV:((n:Nat):Int)<(l2.length:Int):=by omega
   have W:=aA hn0 (aA hl (aA hg (aA Og hj0)));repeat' first|refine st ?_|(refine nx ?_;first|refine se ?_|refine so ?_)|(refine cx ?_;refine sc (λhc=>?_) (λhc=>?_)<;>try exact hc.elim)|(refine lx ?_;refine sp (λhc=>?_) (λhc=>?_)<;>try exact hc.elim)|refine sx ?_ ?_|refine sy ?_ ?_|fail
   refine go_boxB 2 n 1 (by rfl) (e:=[.str s.host,.sl .own 7 (s.files.map zD)]) (by simp[hg]) (by rfl) ?_ (hrow:=hnd);have W:=aA hg (aA Og (aA hset (aA hj0 hj)));repeat' first|refine st ?_|(refine nx ?_;first|refine se ?_|refine so ?_)|(refine cx ?_;refine sc (λhc=>?_) (λhc=>?_)<;>try exact hc.elim)|(refine lx ?_;refine sp (λhc=>?_) (λhc=>?_)<;>try exact hc.elim)|refine sx ?_ ?_|refine sy ?_ ?_|fail
   refine go_close 2 3 n 1 (l2.map (bN .own)) (by rfl) (by rfl) (hset _) (by rfl) (by rw[<-hR (.obj 3 1),hpf];simp[zD]) (by exact hp _) ?_;generalize pE s a x=s2 at*;clear hset hnd aEn hR hp hpf Fv hg;by_cases h4:(4:Int)<(l2.length:Int)
   .have W:=h4;repeat' first|refine st ?_|(refine nx ?_;first|refine se ?_|refine so ?_)|(refine cx ?_;refine sc (λhc=>?_) (λhc=>?_)<;>try exact hc.elim)|(refine lx ?_;refine sp (λhc=>?_) (λhc=>?_)<;>try exact hc.elim)|refine sx ?_ ?_|refine sy ?_ ?_|fail
    refine⟨.inr rfl,Gr (by simp[results99];rfl) (by simp) (by simp) ?_⟩;simp only[single,res];exact⟨l1,_,rfl,by omega⟩
   .simp only[bN]at c4;generalize tQ s2=b at*;cases b
    .have W:=aA h4 (aA hg2 QV);repeat' first|refine st ?_|(refine nx ?_;first|refine se ?_|refine so ?_)|(refine cx ?_;refine sc (λhc=>?_) (λhc=>?_)<;>try exact hc.elim)|(refine lx ?_;refine sp (λhc=>?_) (λhc=>?_)<;>try exact hc.elim)|refine sx ?_ ?_|refine sy ?_ ?_|fail
     refine⟨.inr rfl,Gr (by simp[results99];rfl) (by simp) (by simp) ?_⟩;simp only[single,res];exact⟨l1,_,rfl,by omega⟩
    .have W:=aA h4 (aA hg2 QV);repeat' first|refine st ?_|(refine nx ?_;first|refine se ?_|refine so ?_)|(refine cx ?_;refine sc (λhc=>?_) (λhc=>?_)<;>try exact hc.elim)|(refine lx ?_;refine sp (λhc=>?_) (λhc=>?_)<;>try exact hc.elim)|refine sx ?_ ?_|refine sy ?_ ?_|fail
     refine⟨.inr rfl,Gr (by simp[results99];rfl) (by simp) (by simp) ?_⟩;simp only[single,res];exact⟨l2,_,rfl,by omega⟩
end Go.Proofs.YtnkpkklemmgapaaGreatDoor
