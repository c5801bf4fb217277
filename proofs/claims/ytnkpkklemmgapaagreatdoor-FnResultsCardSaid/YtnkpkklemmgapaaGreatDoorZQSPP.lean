/- Proved here: steps towards the statement of this claim. No condition. -/
import Derived.Test.YtnkpkklemmgapaaGreatDoorZQRC9
import Derived.Test.YtnkpkklemmgapaaGreatDoorZQZ8
import Derived.Test.YtnkpkklemmgapaaGreatDoorZQJ5
set_option linter.all false
set_option maxRecDepth 8000
set_option maxHeartbeats 8000000
namespace Go.Proofs.YtnkpkklemmgapaaGreatDoor
open Go.Aw Proofs.Tryz List IntKind
def Aa(p:aC)(k:Int):aC×Bool:=
 if 0<=k then match p.aF[k.toNat]? with
  |some s=>if s.done=true/\p.aF.all vE=true then({(if s.code=1 then lU p s.body true else p)with block:=0},true)else(p,false)
  |none=>({p with block:=0},true)
 else({p with block:=0},true)
def kR(p:aC):aC×Bool:=
 if p.inline≠0 then(if p.aF.all vE=true then({lU p (IJ p.builder p.inline) true with inline:=0},true)else(p,false))
 else if p.block≠0 then Aa p (i64.wrap (p.block-1))
 else kX p
theorem Yy{α:Type}(f:α->Nat):∀{l:List α} {x:α},x∈l->f x<=bB f l
 |y::l,x,h=>by
  rcases gE.1 h with rfl|h
  .simp only[bB];omega
  .have:=Yy f h;simp only[bB];omega
theorem IK[aB prog](p:aC)(s:aU)(hs:p.log.length<=1099511627776):ax prog 156 [.rQ (.agg (aQ .own p)),.view (.str s)] (.agg (aQ .own {p with log:=lD p.log s})):=by
 by_cases h:p.log.length<40
 .have hi:(p.log.length:Int)<40:=by omega
  obtain⟨l1,hl1⟩:∃l,l=p.log++[s]:=⟨_,rfl⟩;have hap:p.log.map dQ++[[.str s]]=l1.map dQ:=by rw[hl1];simp
  have e:lD p.log s=l1:=by unfold lD;rw[eW h,hl1]
  rw[e];clear e hl1;refine BM aO func156 ntmps156 ?_;have W:=aA hi (aA hap hs);refine we ?_;all_goals (try exact uJ (by simp[lY,gQ,gL,rowOf,results156];done))
 .have hi:¬(p.log.length:Int)<40:=by omega
  have e:lD p.log s=p.log:=by unfold lD;rw[eK h]
  rw[e];clear e;refine BM aO func156 ntmps156 ?_;have W:=hi;refine we ?_;all_goals (try exact uJ (by simp[lY,gQ,gL,rowOf,results156];done))
def Fa(p:aC):Bool:=p.ended&&decide (p.queue.length=0)&&decide (p.block=0)&&decide (p.inline=0)
theorem NK[aB prog](p:aC):Ok prog 152 [.agg (aQ .view p)] (.bool (Fa p)):=by
 refine dL aO func152 ntmps152 ?_;have W:=trivial;repeat' first|refine wf ?_|(refine sq ?_ ?_<;>intro hc<;>try exact hc.elim)|fail
 all_goals try(refine aZ ?_;simp[aX,results152])
 all_goals (simp_all[Fa]<;>rfl)
def Dp(p:aC)(b:aK):aU:=match p.aN.find? (mP b)with
 |some m=>m.body
 |none=>[]
def nP(q:aC)(b:aK):aC:=if q.uI.any (kG b)=true then q else lJ {q with uI:=q.uI++[b]} (bL (Dp q b) b.host).2.1 false
def jR(p:aC)(L:List aK)(k:Nat):aC:=(L.take k).foldl nP p
theorem Dq(p:aC)(L:List aK)(k:Nat)(h:k<L.length):jR p L (k+1)=nP (jR p L k) L[k]:=by unfold jR;rw[eL h,CI];rfl
def YK:aU:=[102,97,105,108,32]
def oM(p:aC)(a:aK):aC:=if xQ p a=true then {p with log:=lD p.log (YK++dG a)}else jR p (gJ p a) (gJ p a).length
theorem Fb(body base:aU):(bL body base).2.1.length<=6/\∀x∈(bL body base).2.1,x.text.length<=60:=by
 unfold bL;split
 .simp
 .rename_i l r _;obtain⟨b1,b2⟩:=BP (Lib.join r [59]);split
  .exact ⟨b1,b2⟩
  .simp
def IU(q:aC):Nat:=aM q+91*(40-q.log.length)+62*(40-q.builder.nodes.length)
theorem Qq(l ss:List aU)(h:∀s∈ss,s.length<=90):bV dI (mM l ss)+91*(40-(mM l ss).length)<=bV dI l+91*(40-l.length):=by
 induction ss generalizing l with
 |nil=>exact eE _
 |cons s ss ih=>
  have e:mM l (s::ss)=mM (lD l s) ss:=rfl;rw[e];refine kO (ih (lD l s) (λx hx=>h x (by simp[hx]))) ?_;have hs:=h s (by simp);unfold lD;split
  .simp only[bV,eM,dT,eR,iX,bB,dI];omega
  .exact eE _
theorem YL(b:aY)(ss:List bW)(x:kZ)(hx:x.text.length<=60):aS (eH b ss x).1+62*(40-(eH b ss x).1.nodes.length)<=aS b+62*(40-b.nodes.length):=by
 unfold eH;split
 .exact eE _
 .split
  .split
   .simp only[aS,bV,eM,iX,bB,gK,dT,eR];omega
   .exact eE _
  .split
   .exact eE _
   .split
    .exact eE _
    .split<;>exact eE _
theorem Sr(b:aY)(ss:List bW)(l:List kZ)(hx:∀x∈l,x.text.length<=60)(EJ:∀n,0<=bG ss n/\bG ss n<=999)(hb:aS b+62*40<=68719476736):
  aS (fP b ss l).1+62*(40-(fP b ss l).1.nodes.length)<=aS b+62*(40-b.nodes.length)/\∀s∈(fP b ss l).2.2,s.length<=90:=by
 have key:∀(l:List kZ) (Y7:aY×aU×List aU),(∀x∈l,x.text.length<=60)->aS Y7.1+62*(40-Y7.1.nodes.length)<=aS b+62*(40-b.nodes.length)->(∀s∈Y7.2.2,s.length<=90)->
   aS (l.foldl (qF ss) Y7).1+62*(40-(l.foldl (qF ss) Y7).1.nodes.length)<=aS b+62*(40-b.nodes.length)/\∀s∈(l.foldl (qF ss) Y7).2.2,s.length<=90:=by
  intro l;induction l with
  |nil=>intro Y7 _ h1 h2;exact⟨h1,h2⟩
  |cons x l ih=>
   intro Y7 hx h1 h2;have hxl:=hx x (by simp);have hn:Y7.1.nodes.length<=274877906944:=by simp only[aS,bV]at h1 hb;omega
   obtain⟨z1,z2,z3⟩:=Qc Y7.1 ss x (by omega) EJ hn;refine ih (qF ss Y7 x) (λy hy=>hx y (by simp[hy])) ?_ ?_
   .exact kO (YL Y7.1 ss x hxl) h1
   .intro s hs;simp only[qF]at hs;split at hs
    .exact h2 s hs
    .rcases fS.1 hs with hs|hs
     .exact h2 s hs
     .simp only[nF]at hs;subst hs;omega
 exact key l (b,[],[]) hx (eE _) (by simp)
theorem Kq(q:aC)(l:List kZ)(hs:aM q<=536870912)(hx:∀x∈l,x.text.length<=60):IU (lJ q l false)<=IU q:=by
 have hsb:aS q.builder<=536870912:=by simp only[aM]at hs;omega
 obtain⟨z1,z2⟩:=Sr q.builder (bF q) l hx (vU q) (by omega);have z3:=Qq q.log (fP q.builder (bF q) l).2.2 z2;unfold lJ;generalize fP q.builder (bF q) l=g at*;obtain⟨b,w,lg⟩:=g;simp only[cX,eS]at*;generalize mM q.log lg=lg2 at*;simp only[IU,aM]at*;omega
theorem YM(q:aC)(b:aK):(nP q b).aN=q.aN/\(nP q b).aF=q.aF:=by unfold nP lJ;split<;>exact⟨rfl,rfl⟩
theorem lu(q:aC)(b:aK)(hs:aM q+1+aP b<=536870912):IU (nP q b)<=IU q+1+aP b:=by
 unfold nP;split
 .omega
 .have h1:aM {q with uI:=q.uI++[b]}=aM q+1+aP b:=by simp only[aM,bV,eM,dT,eR,iX,bB];omega
  have h2:=Kq {q with uI:=q.uI++[b]} (bL (Dp q b) b.host).2.1 (by omega) (Fb _ _).2;refine kO h2 ?_;simp only[IU]at*;omega
theorem Dr(q:aC):aM q<=IU q/\IU q<=aM q+6120:=by unfold IU;omega
theorem yD(p:aC)(L:List aK)(hL:aM p+6120+bV aP L<=536870912):∀k,k<=L.length->IU (jR p L k)<=IU p+bV aP (L.take k)/\(jR p L k).aN=p.aN/\(jR p L k).aF=p.aF
 |0,_=>⟨by simp[jR,bV,bB],rfl,rfl⟩
 |k+1,h=>by
  obtain⟨h1,h2,h3⟩:=yD p L hL k (by omega);have hp:=(Dr p).2;have hq:=(Dr (jR p L k)).1;have e1:bV aP (L.take (k+1))=bV aP (L.take k)+1+aP L[k]:=by rw[eL (show k<L.length by omega)];simp only[bV,eM,dT,eR,iX,bB];omega
  have e2:bV aP (L.take (k+1))<=bV aP L:=by have:=AA aP L (k+1);simp only[bV,oY];omega
  rw[Dq p L k (by omega)];have h4:=lu (jR p L k) L[k] (by omega);obtain⟨h5,h6⟩:=YM (jR p L k) L[k];exact⟨by omega,h5.trans h2,h6.trans h3⟩
theorem Qr{p:aC}{x:aK}(h:qR p x=true):x∈p.aN.map (·.to):=by
 unfold qR at h;split at h
 .rename_i m hm;have h1:=pZ hm;have h2:=Fl hm;simp only[mP,fX]at h2;exact qS.2 ⟨m,h1,h2⟩
 .cases h
theorem aL8(l:List fO):bV aP (l.map (·.to))<=bV bI l:=by
 induction l with
 |nil=>exact eE _
 |cons m l ih=>simp only[bV,lA,dT,bB,bI]at*;omega
theorem MU(p:aC)(a:aK)(h:bV bI p.aN+aP a<=16777216)(hf:xQ p a=false):(gJ p a).length<=16777216/\bV aP (gJ p a)<=bV bI p.aN/\∀x∈gJ p a,qR p x=true:=by
 have hall:∀x∈gJ p a,qR p x=true:=by
  unfold xQ at hf;have:(gJ p a).all (qR p)=true:=by simpa using hf
  exact fW.1 this
 obtain⟨hb,h1,h2⟩:=Qp p a h;have hs:=(Dl hb.im (vL p []+1) a ([],[]) (by simp) ⟨by simp,by simp,by simp,by simp⟩).1;obtain⟨h3,h4⟩:=Cu aP (gJ p a) (p.aN.map (·.to)) hs.ond (λx hx=>Qr (hall x hx));have h5:=aL8 p.aN;rw[oT]at h4;refine⟨?_,?_,hall⟩
 .simp only[bV]at h;omega
 .simp only[bV,oT]at h5⊢;omega
def YN:aU:=[108,111,97,100]
def Kr(p:aC)(s:nK):aC×Bool:=if s.done=true/\p.aF.all vE=true then({(if s.code=1 then lU p s.body false else p)with deferred:=p.deferred+1},true)else(p,false)
def Kt(p:aC)(a:aK):aC×Bool:=if Dn p a=true/\p.aF.all vE=true then({oM p a with iV:=p.iV+1},true)else(p,false)
def Ku(p:aC):aC×Bool:=if (places Aq 0 p.aF).length=0/\(places Ar 0 p.aN).length=0 then({p with log:=lD p.log YN,jZ:=true},true)else(p,false)
def qU(p:aC):aC×Bool:=
 if Fa p=true/\p.jZ=false/\0<=p.deferred/\0<=p.iV then
  match (places sI 0 p.aF)[p.deferred.toNat]? with
  |some d=>match p.aF[d.toNat]? with
   |some s=>Kr p s
   |none=>(p,false)
  |none=>match p.entries[p.iV.toNat]? with
   |some a=>Kt p a
   |none=>Ku p
 else(p,false)
theorem UE{α:Type}(f:α->Bool):∀(l:List α) (i:Nat) (d:Int),d∈places f i l->∃k:Nat,d=(k:Int)/\i<=k/\k<i+l.length
 |[],i,d,h=>by simp[places]at h
 |x::l,i,d,h=>by
  simp only[places]at h;have hr:d∈places f (i+1) l->∃k:Nat,d=(k:Int)/\i<=k/\k<i+(x::l).length:=λh=>by obtain⟨k,h1,h2,h3⟩:=UE f l (i+1) d h;exact⟨k,h1,by omega,by simp only[dT];omega⟩
  split at h
  .rcases gE.1 h with h|h
   .exact ⟨i,h,eE _,by simp only[dT];omega⟩
   .exact hr h
  .exact hr h
theorem Su(p:aC)(c:aU)(w:Bool):(lU p c w).deferred=p.deferred/\(lU p c w).iV=p.iV/\(lU p c w).aF=p.aF/\(lU p c w).aN=p.aN:=by unfold lU lJ;split<;>exact⟨rfl,rfl,rfl,rfl⟩
theorem ma(q:aC)(b:aK):(nP q b).iV=q.iV:=by unfold nP lJ;split<;>rfl
theorem M4(p:aC)(a:aK):(oM p a).iV=p.iV:=by
 unfold oM;split
 .rfl
 .unfold jR;have:∀(l:List aK) (q:aC),(l.foldl nP q).iV=q.iV:=by
   intro l;induction l with
   |nil=>intro q;rfl
   |cons b l ih=>intro q;rw[Fi,ih,ma]
  exact this _ _
def uF(p:aC):aC×Bool:=if (kR p).2=true then kR p else qU p
def oZ:Nat->aC->aC
 |0,p=>p
 |n+1,p=>if (uF p).2=true then oZ n (uF p).1 else p
def advance(p:aC):aC:=oZ 2000 p
theorem yf(s b:aU):aP (cB s b).1<=16:=by
 unfold cB;split
 .rename_i h;simp only[vG,dJ,eI,fX]at h;simp only[aP];omega
 .simp [aP,Aj]
def jG(p:aC):Prop:=(∀nd∈p.builder.nodes,bB pK nd.attrs<=1048576)/\∀t∈p.queue,bB pK t.attrs<=1048576
def qV(r:List aK)(m:fO):Nat:=if r.any (kG m.to)=true then 0 else 1+aP m.to
def rH(p:aC):Nat:=bB (qV p.uI) p.aN
def mF(p:aC):Nat:=IU p+rH p+1048593*(20-p.aF.length)+51*(20-p.entries.length)
def wY(p:aC):Nat:=bV bI p.aN+bV aP p.entries+34*(20-p.entries.length)
def keeps(p q:aC):Prop:=jG q/\mF q<=mF p/\wY q<=wY p/\q.aF.length<=max p.aF.length 20
def Bu(p q:aC):Prop:=jG q/\mF q<=mF p+721/\wY q<=wY p/\q.aF.length<=max p.aF.length 20
theorem UF{p:aC}(h:jG p):keeps p p:=⟨h,eE _,eE _,by omega⟩
theorem nE{p:aC}(h:jG p):Bu p p:=⟨h,by omega,by omega,by omega⟩
theorem yE(p:aC)(md:Int)(tx dg:aU)(nd:Int)(hd:dg.length<=1048576):mF (gN p md tx dg nd).1<=mF p/\wY (gN p md tx dg nd).1=wY p/\(gN p md tx dg nd).1.aF.length<=max p.aF.length 20/\(gN p md tx dg nd).1.builder=p.builder/\(gN p md tx dg nd).1.queue=p.queue:=by
 have h16:=yf tx p.addr.host;unfold gN;split
 .exact ⟨eE _,rfl,by simp only;omega,rfl,rfl⟩
 .rename_i h;have hn:p.aF.length<20:=by
   by_cases h2:20<=p.aF.length
   .exact (h (.inl h2)).elim
   .omega
  split
  .refine ⟨?_,rfl,by simp only[eM,dT,eR];omega,rfl,rfl⟩;simp only[mF,IU,rH,aM,bV,eM,iX,bB,iU,dT,eR];omega
  .refine ⟨?_,rfl,by simp only[eM,dT,eR];omega,rfl,rfl⟩;simp only[mF,IU,rH,aM,bV,eM,iX,bB,iU,dT,eR];omega
theorem M5(p:aC)(a:aK):(Dj p a).to=a/\bI (Dj p a)=aP a:=by unfold Dj;split<;>exact⟨rfl,by simp[bI]⟩
theorem Qs(p:aC)(a:aK):∃X,fB p a={p with aN:=X}/\bV bI X<=bV bI p.aN+1+aP a/\bB (qV p.uI) X<=bB (qV p.uI) p.aN+1+aP a:=by
 obtain⟨h1,h2⟩:=M5 p a;have h3:qV p.uI (Dj p a)<=1+aP a:=by unfold qV;rw[h1];split<;>omega
 have key:∀k,bV bI (wP p a k)<=bV bI p.aN+1+aP a/\bB (qV p.uI) (wP p a k)<=bB (qV p.uI) p.aN+1+aP a:=by
  intro k;have e1:bB bI (p.aN.take k)+bB bI (p.aN.drop k)=bB bI p.aN:=by rw[<-iX,mN]
  have e2:bB (qV p.uI) (p.aN.take k)+bB (qV p.uI) (p.aN.drop k)=bB (qV p.uI) p.aN:=by rw[<-iX,mN]
  have e3:(p.aN.take k).length+(p.aN.drop k).length=p.aN.length:=by rw[<-eM,mN]
  unfold wP;simp only[bV,eM,dT,iX,bB];omega
 unfold fB;split
 .split
  .exact ⟨p.aN,rfl,by omega,by omega⟩
  .exact ⟨_,rfl,(key _).1,(key _).2⟩
 .exact ⟨_,rfl,(key _).1,(key _).2⟩
theorem Fe(p:aC)(tx:aU):mF (addEntry p tx)<=mF p/\wY (addEntry p tx)<=wY p/\(addEntry p tx).aF=p.aF/\(addEntry p tx).builder=p.builder/\(addEntry p tx).queue=p.queue:=by
 have h16:=yf tx p.addr.host;obtain⟨X,hX,x1,x2⟩:=Qs p (cB tx p.addr.host).1;unfold addEntry;split
 .exact ⟨eE _,eE _,rfl,rfl,rfl⟩
 .rename_i h;have hn:p.entries.length<20:=by
   by_cases h2:20<=p.entries.length
   .exact (h (.inr h2)).elim
   .omega
  rw[hX];generalize (cB tx p.addr.host).1=a at*;refine⟨?_,?_,rfl,rfl,rfl⟩
  .simp only[bV]at x1;simp only[mF,IU,rH,aM,bV,eM,iX,bB,dT,eR];omega
  .simp only[bV]at x1;simp only[wY,bV,eM,iX,bB,dT,eR];omega
theorem xR{p q:aC}(h:jG p)(h1:q.builder=p.builder)(h2:q.queue=p.queue):jG q:=by unfold jG at*;rw[h1,h2];exact h
theorem YO(p:aC)(t:bU)(n:Int)(h:jG p)(ht:bB pK t.attrs<=1048576):keeps p (Av p t n):=by
 have z1:=tK t.attrs gI;obtain⟨a1,a2,a3,a4,a5⟩:=yE p 2 (bD t.attrs GY).1 (bD t.attrs gI).1 n (by omega);obtain⟨b1,b2,b3,b4,b5⟩:=yE p 1 (bD t.attrs uN).1 (bD t.attrs gI).1 n (by omega);unfold Av;split
 .exact ⟨xR h a4 a5,by omega,by omega,a3⟩
 .split
  .exact ⟨xR h b4 b5,by omega,by omega,b3⟩
  .exact UF h
theorem Qt(p:aC)(k:Nat)(l:List nY)(h:jG p)(hl:bB pK l<=1048576):keeps p (rZ p k l):=by
 have z1:=tK l gI;obtain⟨a1,a2,a3,a4,a5⟩:=yE p 4 (bD l uN).1 (bD l gI).1 ((k:Nat):Int) (by omega);obtain⟨b1,b2,b3,b4,b5⟩:=yE p 3 (bD l uN).1 (bD l gI).1 ((k:Nat):Int) (by omega);obtain⟨e1,e2,e3,e4,e5⟩:=Fe p (bD l uN).1;unfold rZ;split
 .split
  .exact ⟨h,by show mF p<=_;omega,by show wY p<=_;omega,by show p.aF.length<=_;omega⟩
  .exact UF h
 .split
  .exact ⟨xR h a4 a5,by omega,by omega,a3⟩
  .split
   .exact ⟨xR h e4 e5,by omega,e2,by rw[e3];omega⟩
   .refine ⟨xR h b4 b5,?_,?_,b3⟩
    .show mF (gN p 3 (bD l uN).1 (bD l gI).1 ((k:Nat):Int)).1<=_;omega
    .show wY (gN p 3 (bD l uN).1 (bD l gI).1 ((k:Nat):Int)).1<=_;omega
theorem Qu(b:aY)(t:bU):(addToken b t).1.nodes=b.nodes\/(addToken b t).1.nodes=b.nodes++[vD b t]:=by
 unfold addToken;split
 .exact .inl rfl
 .split
  .exact .inl rfl
  .split
   .exact .inl rfl
   .exact .inr rfl
theorem YP{p:aC}{t:bU}{q:List bU}(hq:p.queue=t::q)(h:jG p):Bu p {p with queue:=q,builder:=(addToken p.builder t).1}/\mF {p with queue:=q,builder:=(addToken p.builder t).1}<=mF p+2:=by
 have h1:=Ay hq;have ht:bB pK t.attrs<=1048576:=h.2 t (by rw[hq];simp);have hn:=Qu p.builder t;have hg:mF {p with queue:=q,builder:=(addToken p.builder t).1}<=mF p+2:=by
  have hl:p.builder.nodes.length<=(addToken p.builder t).1.nodes.length:=by
   rcases hn with hn|hn<;>rw[hn]
   .exact eE _
   .simp
  simp only[mF,IU,rH]at*;omega
 refine⟨⟨⟨?_,λx hx=>h.2 x (by rw[hq];simp[show x∈q from hx])⟩,by omega,eE _,by simp only;omega⟩,hg⟩;intro nd hnd;rcases hn with hn|hn
 .exact h.1 nd (by rw[<-hn];exact hnd)
 .have Vh:nd∈p.builder.nodes++[vD p.builder t]:=by rw[<-hn];exact hnd
  rcases fS.1 Vh with h2|h2
  .exact h.1 nd h2
  .simp only[nF]at h2;subst h2;unfold vD;split
   .exact ht
   .simp [bB]
theorem Qv{p q r:aC}(h1:mF q<=mF p+2/\wY q<=wY p/\q.aF.length<=max p.aF.length 20)(hr:jG r)(h2:mF r<=mF q)(h3:wY r<=wY q)(h4:r.aF.length<=max q.aF.length 20):Bu p r:=⟨hr,by omega,by omega,by omega⟩
theorem NL(p:aC)(h:jG p):Bu p (kX p).1:=by
 unfold kX;split
 .exact nE h
 .rename_i t q hq;split
  .obtain ⟨⟨g1,g2,g3,g4⟩,g5⟩:=YP hq h;have ht:bB pK t.attrs<=1048576:=h.2 t (by rw[hq];simp);simp only;unfold mW;generalize hp1:({p with queue:=q,builder:=(addToken p.builder t).1}:aC)=p1 at*;split
   .rename_i k hk;have hl:bB pK ((p.builder.nodes[k]?).elim [] (·.attrs))<=1048576:=by
     cases hg:p.builder.nodes[k]? with
     |none=>simp[bB]
     |some nd=>exact h.1 nd (mB hg)
    obtain⟨e1,e2,e3,e4⟩:=Qt p1 k ((p.builder.nodes[k]?).elim [] (·.attrs)) g1 hl;exact Qv ⟨g5,g3,g4⟩ e1 e2 e3 e4
   .split
    .obtain ⟨e1,e2,e3,e4⟩:=YO p1 t (addToken p.builder t).2 g1 ht;exact Qv ⟨g5,g3,g4⟩ e1 e2 e3 e4
    .exact ⟨g1,g2,g3,g4⟩
  .exact nE h
theorem NM(b:aY)(ss:List bW)(l:List kZ):∀nd∈(fP b ss l).1.nodes,nd∈b.nodes\/nd.attrs=[]:=by
 have one:∀(c:aY) (x:kZ),∀nd∈(eH c ss x).1.nodes,nd∈c.nodes\/nd.attrs=[]:=by
  intro c x nd h;unfold eH at h;split at h
  .exact .inl h
  .split at h
   .split at h
    .rcases fS.1 h with h|h
     .exact .inl h
     .simp only[nF]at h;subst h;exact .inr rfl
    .exact .inl h
   .split at h
    .exact .inl h
    .split at h
     .exact .inl h
     .split at h<;>exact .inl h
 have key:∀(l:List kZ) (s:aY×aU×List aU),(∀nd∈s.1.nodes,nd∈b.nodes\/nd.attrs=[])->∀nd∈(l.foldl (qF ss) s).1.nodes,nd∈b.nodes\/nd.attrs=[]:=by
  intro l;induction l with
  |nil=>intro s h;exact h
  |cons x l ih=>
   intro s h;refine ih (qF ss s x) (λnd hn=> ?_);rcases one s.1 x nd hn with h2|h2
   .exact h nd h2
   .exact .inr h2
 exact key l (b,[],[]) (λnd h=> .inl h)
theorem Ha(p:aC)(l:List kZ)(wr:Bool)(hs:aM p<=536870912)(h6:l.length<=6)(hx:∀x∈l,x.text.length<=60)(h:jG p):jG (lJ p l wr)/\IU (lJ p l wr)<=IU p+(if wr=true then 721 else 0):=by
 have hsb:aS p.builder<=536870912:=by simp only[aM]at hs;omega
 obtain⟨z1,z2,z3,z4⟩:=EK 60 p.builder (bF p) l (by omega) h6 hx (vU p) (by omega) l.length (eE _);have hend:uY p.builder (bF p) l l.length=fP p.builder (bF p) l:=by simp[uY]
 rw[hend]at z2;have hnd:=NM p.builder (bF p) l;obtain⟨y1,y2⟩:=MK (fP p.builder (bF p) l).2.1;have hp:=Kq p l hs hx;unfold lJ at hp⊢;generalize fP p.builder (bF p) l=g at*;obtain⟨b,w,lg⟩:=g;simp only[cX,eS]at*;generalize hk:yN w=tk at*;refine⟨⟨?_,?_⟩,?_⟩
 .intro nd hn;rcases hnd nd hn with h2|h2
  .exact h.1 nd h2
  .rw [h2];simp[bB]
 .intro t ht;simp only at ht;have h1:t∈tk\/t∈p.queue:=by
   split at ht
   .exact fS.1 ht
   .exact .inr ht
  rcases h1 with h1|h1
  .have h2:=dS dR h1;have h3:bB pK t.attrs<=dR t:=by simp only[dR,bV];omega
   omega
  .exact h.2 t h1
 .cases wr
  .simpa using hp
  .simp only[IU,aM,bV,eV,eM,iX]at hp⊢;omega
theorem IV(l:List aU)(s:aU)(h:s.length<=90):bV dI (lD l s)+91*(40-(lD l s).length)<=bV dI l+91*(40-l.length):=Qq l [s] (by simpa using h)
theorem BR(p:aC)(c:aU)(wr:Bool)(hs:aM p<=536870912)(h:jG p):Bu p (lU p c wr):=by
 obtain⟨b1,b2⟩:=BP c;unfold lU;split
 .obtain ⟨h1,h2⟩:=Ha p (iE c).1 wr hs b1 b2 h;refine⟨h1,?_,eE _,by show p.aF.length<=_;omega⟩;have e:rH (lJ p (iE c).1 wr)=rH p:=rfl;have e2:(lJ p (iE c).1 wr).aF=p.aF:=rfl;have e3:(lJ p (iE c).1 wr).entries=p.entries:=rfl;have h3:(if wr=true then 721 else 0)<=721:=by split<;>omega
  simp only[mF,e,e2,e3];omega
 .have h1:=IV p.log VJ (by simp[VJ]);refine⟨h,?_,eE _,by show p.aF.length<=_;omega⟩;simp only[mF,IU,rH,aM]at*;omega
theorem YQ(r:List aK)(b:aK)(m:fO):qV (r++[b]) m<=qV r m:=by unfold qV;rw[any_append];cases r.any (kG m.to)<;>simp;split<;>omega
theorem UG(r:List aK)(b:aK):∀l:List fO,bB (qV (r++[b])) l<=bB (qV r) l
 |[]=>eE _
 |m::l=>by have:=YQ r b m;have:=UG r b l;simp only[bB];omega
theorem UH(r:List aK)(b:aK)(hr:r.any (kG b)=false):∀l:List fO,b∈l.map (·.to)->bB (qV (r++[b])) l+1+aP b<=bB (qV r) l
 |[],h=>by simp at h
 |m::l,h=>by
  simp only[lA,gE]at h;by_cases hb:b=m.to
  .have h1:=UG r b l;have e1:qV r m=1+aP b:=by unfold qV;rw[<-hb,hr];simp
   have e2:qV (r++[b]) m=0:=by unfold qV;rw[<-hb,any_append];simp[kG]
   simp only[bB];omega
  .have h1:=UH r b hr l (by rcases h with h|h;exact(hb h).elim;exact h);have h2:=YQ r b m;simp only[bB];omega
theorem YR(q:aC)(b:aK)(hs:aM q+1+aP b<=536870912)(hm:b∈q.aN.map (·.to))(h:jG q):jG (nP q b)/\IU (nP q b)+rH (nP q b)<=IU q+rH q:=by
 unfold nP;split
 .exact ⟨h,eE _⟩
 .rename_i hr;obtain⟨b1,b2⟩:=Fb (Dp q b) b.host;have hr2:q.uI.any (kG b)=false:=by simpa using hr
  have h3:=UH q.uI b hr2 q.aN hm;have hz:aM {q with uI:=q.uI++[b]}=aM q+1+aP b:=by simp only[aM,bV,eM,iX,bB,dT,eR];omega
  obtain⟨k1,k2⟩:=Ha {q with uI:=q.uI++[b]} (bL (Dp q b) b.host).2.1 false (by omega) b1 b2 h;refine⟨k1,?_⟩;have e:rH (lJ {q with uI:=q.uI++[b]} (bL (Dp q b) b.host).2.1 false)=bB (qV (q.uI++[b])) q.aN:=rfl;have e2:IU {q with uI:=q.uI++[b]}=IU q+1+aP b:=by simp only[IU,hz];omega
  have e3:rH q=bB (qV q.uI) q.aN:=rfl;rw[e,e3];rw[e2]at k2;simp only[cX,eS]at k2;omega
theorem Kv(p:aC)(L:List aK)(hL:aM p+6120+bV aP L<=536870912)(hm:∀b∈L,b∈p.aN.map (·.to))(h:jG p):∀k,k<=L.length->jG (jR p L k)/\IU (jR p L k)+rH (jR p L k)<=IU p+rH p/\(jR p L k).entries=p.entries
 |0,_=>⟨h,eE _,rfl⟩
 |k+1,hk=>by
  obtain⟨h1,h2,h3⟩:=Kv p L hL hm h k (by omega);obtain⟨f1,f2,f3⟩:=yD p L hL k (by omega);have hp:=(Dr p).2;have hq:=(Dr (jR p L k)).1;have hb:=hm L[k] (hI (by omega));have e1:bV aP (L.take (k+1))=bV aP (L.take k)+1+aP L[k]:=by rw[eL (show k<L.length by omega)];simp only[bV,eM,dT,eR,iX,bB];omega
  have e2:bV aP (L.take (k+1))<=bV aP L:=by have:=AA aP L (k+1);simp only[bV,oY];omega
  obtain⟨k1,k2⟩:=YR (jR p L k) L[k] (by omega) (by rw[f2];exact hb) h1;rw[Dq p L k (by omega)];refine⟨k1,by omega,?_⟩;rw[<-h3];unfold nP lJ;split<;>rfl
theorem YS(p:aC)(a:aK)(hs:aM p<=500000000)(hm:bV bI p.aN+aP a<=16777216)(h:jG p):keeps p (oM p a):=by
 unfold oM;split
 .have hf:=tN a;have h1:=IV p.log (YK++dG a) (by simp only[YK,eM,dT,eR];omega);refine⟨h,?_,eE _,by show p.aF.length<=_;omega⟩;simp only[mF,IU,rH,aM]at*;omega
 .rename_i hf;obtain⟨r1,r2,r3⟩:=MU p a hm (by simpa using hf);obtain⟨k1,k2,k3⟩:=Kv p (gJ p a) (by omega) (λb hb=>Qr (r3 b hb)) h _ (eE _);obtain⟨f1,f2,f3⟩:=yD p (gJ p a) (by omega) _ (eE _);generalize jR p (gJ p a) (gJ p a).length=q at*;refine⟨k1,?_,?_,by rw[f3];omega⟩
  .simp only[mF,f3,k3];omega
  .simp only[wY,f2,k3];omega
theorem NN(p:aC)(k:Int)(hs:aM p<=536870912)(h:jG p):Bu p (Aa p k).1:=by
 have hb:∀q:aC,Bu p q->Bu p {q with block:=0}:=λq hq=>hq
 unfold Aa;split
 .split
  .rename_i s _;split
   .simp only;split
    .exact hb _ (BR p s.body true hs h)
    .exact hb _ (nE h)
   .exact nE h
  .exact hb _ (nE h)
 .exact hb _ (nE h)
theorem LM(p:aC)(hs:aM p<=536870912)(h:jG p):Bu p (kR p).1:=by
 unfold kR;split
 .split
  .exact (show Bu p {lU p (IJ p.builder p.inline) true with inline:=0}from BR p _ true hs h)
  .exact nE h
 .split
  .exact NN p _ hs h
  .exact NL p h
theorem Qw(p:aC)(hs:aM p<=500000000)(hme:bV bI p.aN+bV aP p.entries<=16777216)(h:jG p):Bu p (qU p).1:=by
 unfold qU;split
 .split
  .split
   .rename_i s _;unfold Kr;split
    .simp only;split
     .exact (show Bu p {lU p s.body false with deferred:=p.deferred+1}from BR p s.body false (by omega) h)
     .exact (show Bu p {p with deferred:=p.deferred+1}from nE h)
    .exact nE h
   .exact nE h
  .split
   .rename_i a hg;have h1:=dS aP (mB hg);have h2:bB aP p.entries<=bV aP p.entries:=by simp only[bV];omega
    obtain⟨k1,k2,k3,k4⟩:=YS p a hs (by omega) h;unfold Kt;split
    .refine ⟨k1,?_,k3,k4⟩;show mF (oM p a)<=_;omega
    .exact nE h
   .unfold Ku;split
    .have h1:=IV p.log YN (by simp[YN]);refine⟨h,?_,eE _,by show p.aF.length<=_;omega⟩;simp only[mF,IU,rH,aM]at*;omega
    .exact nE h
 .exact nE h
structure aJ2(k:Nat)(q:aC): Prop where
  at_:jG q
  ga:mF q <= 25000000+721*k
  en:wY q <= 2000000
  sl:q.aF.length <= 1048576
theorem aJ2.sz{k:Nat}{q:aC}(h:aJ2 k q)(hk:k<=2000):aM q<=27000000/\bV bI q.aN+bV aP q.entries<=16777216:=by have h1:=h.ga;have h2:=h.en;have h3:=(Dr q).1;simp only[mF,wY]at h1 h2;omega
theorem aMa{k:Nat}{q:aC}{r:aC}(hk:k<2000)(h:oZ (2000-k) q=r):((uF q).2=true->oZ (2000-(k+1)) (uF q).1=r)/\((uF q).2=false->q=r):=by
 obtain⟨n,hn⟩:∃n,2000-k=n+1:=⟨1999-k,by omega⟩;rw[hn]at h;have e:2000-(k+1)=n:=by omega
 rw[e];unfold oZ at h;constructor
 .intro h2;rw[eW h2]at h;exact h
 .intro h2;rw[h2]at h;simpa using h
def LV(rv:Nat)(q:aC):List aD:=[⟨true,false,1,1,q.bM.lG.map dQ⟩,⟨true,false,1,1,q.bM.oC.map dQ⟩,⟨true,false,1,1,q.bM.oD.map dQ⟩,⟨true,false,4,1,q.queue.map (eG .own)⟩,⟨true,false,4,1,q.builder.nodes.map (fC .own)⟩,⟨true,false,1,1,q.builder.opens.map lI⟩,⟨true,false,8,1,q.aF.map xC⟩,⟨true,false,5,1,q.aN.map lT⟩,⟨true,false,2,1,q.entries.map bC⟩,⟨true,false,2,rv,q.uI.map bC⟩,⟨true,false,1,1,q.log.map dQ⟩]
def LW(rv:Nat)(q:aC):List AV:=[.str q.addr.host,.str q.addr.path,.bool q.bM.isSet,.obj 3 1,.obj 4 1,.obj 5 1,.str q.bM.vQ,.str q.tok.rest,.obj 6 1,.bool q.ended,.obj 7 1,.obj 8 1,.obj 9 1,.obj 10 1,.obj 11 1,.int .i64 q.block,.int .i64 q.inline,.int .i64 q.deferred,.int .i64 q.iV,.obj 12 rv,.obj 13 1,.bool q.jZ]
theorem VV[aB prog][eO prog][dY prog][pM prog](p:aC)(a:aK)(hs:aM p<=500000000)(hm:bV bI p.aN+aP a<=16777216):
  Ok prog 155 [.agg (aQ .view p),.agg (bC a)] (.agg (aQ .own (oM p a))):=by
 have c0:=fQ p (by omega);have c1:=Ko p a hm;unfold oM;cases hfl:xQ p a
 .rw [eK (by simp)];obtain⟨r1,r2,r3⟩:=MU p a hm hfl;obtain⟨hB,_⟩:=Qp p a hm;have c2:=AB p _ hB a (by simp);have nz:=yD p (gJ p a) (by omega);have H9:=Dq p (gJ p a);have hz0:jR p (gJ p a) 0=p:=rfl;have hsz:∀k,k<=(gJ p a).length->aM (jR p (gJ p a) k)<=520000000:=λk hk=>by
   have h1:=(nz k hk).1;have h2:=(Dr (jR p (gJ p a) k)).1;have h3:=(Dr p).2;have h4:=AA aP (gJ p a) k;simp only[bV,oY]at h1 r2 hm;omega
  have aD7:∀k,k<=(gJ p a).length->(jR p (gJ p a) k).aN=p.aN:=λk hk=>(nz k hk).2.1
  have hmem:∀b∈gJ p a,∃(j:Nat) (m:fO),zO (mP b) p.aN=(j:Int)/\p.aN[j]? =some m/\j<p.aN.length/\Dp p b=m.body:=λb hb=>by
   have h1:=r3 b hb;rcases qP (mP b) p.aN with⟨hi,hf⟩|⟨j,hj,hi,hf⟩
   .unfold qR at h1;rw[hf]at h1;cases h1
   .exact ⟨j,p.aN[j],hi,aE hj,hj,by unfold Dp;rw[hf]⟩
  have aMh:∀b∈gJ p a,aP b<=16777215:=λb hb=>by have:=dS aP hb;have:=length_pos_of_mem hb;simp only[bV]at r2 hm;omega
  have aMi:∀m∈p.aN,m.body.length<=16777216:=λm hx=>by have:=dS bI hx;simp only[bV,bI]at hm this;omega
  have hml:p.aN.length<=16777216:=by simp only[bV]at hm;omega
  clear r2 r3 hB nz;generalize gJ p a=L at*;generalize jR p L=Q at*;simp only[aQ,bC]at c0 c1 c2;rw[hfl]at c1;refine BO aO [3,16] func155 ntmps155 ?_;refine dH ?_;refine aI (ι:={q:Nat×Nat // q.1<=L.length}) (λt o i=>⟨bH t [(7,.int .i64 i.1.1),(16,.undef)],o.take 3++LV i.1.2 (Q i.1.1)++[⟨true,true,22,0,[LW i.1.2 (Q i.1.1)]⟩,⟨true,false,2,1,L.map bC⟩]⟩)
   (λi=>L.length-i.1.1) ⟨(0,1),by simp⟩ (aG (by simp[LW,LV,hz0]) (by simp)) ?_
  rintro⟨⟨k,v⟩,hk⟩ K1 hK1;simp only at hk;have hk1:=rE (k:=k);by_cases hlt:k<L.length
  .have hg:=aE hlt;have hbm:=hI hlt;have hnext:=H9 k hlt;have hq1:=hsz k hk;have hqm:=aD7 k hk;obtain⟨j,m,hi,hgm,hjl,hbd⟩:=hmem L[k] hbm;have hsb:=aMh L[k] hbm;rw[<-hqm]at hi hgm hjl;have hbq:Dp (Q k) L[k]=m.body:=by rw[<-hbd];unfold Dp;rw[hqm]
   have hmb:m.body.length<=16777216:=aMi m (by rw[<-hqm];exact mB hgm);unfold nP at hnext;rw[hbq]at hnext;have hK2:=hK1;clear H9 hsz aD7 hmem aMh aMi hbd hqm hbm c1 c2;generalize hq':Q (k+1)=q' at*;generalize hq:Q k=q at*;have hrl:q.uI.length<=520000000:=by simp only[aM,bV]at hq1;omega
   have c3:=Ap q.uI L[k] (by omega);simp only[bH,cH,cJ,fL,lE,cW,cY,LV,LW]at hK1⊢;cases hh:q.uI.any (kG L[k])
   .rw [hh]at hnext c3;rw[eK (by simp)]at hnext;obtain⟨rn,hrn⟩:∃rn,rn=q.uI++[L[k]]:=⟨_,rfl⟩;have hap:q.uI.map bC++[[.str L[k].host,.str L[k].path]]=rn.map bC:=by rw[hrn];simp
    rw[<-hrn]at hnext;have hsq:aM {q with uI:=rn}<=536870912:=by simp only[aM,bV,hrn,eM,dT,eR,iX,bB]at hq1⊢;omega
    have c4:=yO {q with uI:=rn} L[k] (by simp only;simp only[aM,bV]at hq1;omega);have hbh:L[k].host.length<=16777216:=by simp only[aP]at hsb;omega
    have c5:=vK m.body L[k].host (by omega) (by omega);obtain⟨l6,lx⟩:=Fb m.body L[k].host;have hsl:bV iU q.aF<=1073741824:=by simp only[aM,bV]at*;omega
    have aX0:aS q.builder<=536870912:=by simp only[aM]at hq1;omega
    have hlg:q.log.length<=536870912:=by simp only[aM,bV]at hq1;omega
    have c6:=yY {q with uI:=rn} hsl;obtain⟨hb1,hb2⟩:=GZ {q with uI:=rn};have hb1':(bF {q with uI:=rn}).length<=536870912:=by simp only[aM,bV]at hq1 hb1;omega
    have c7:=Cr q.builder (bF {q with uI:=rn}) (bL m.body L[k].host).2.1 (by omega) l6 (λx hm=>by have:=lx x hm;omega) (by omega) (λx hm=>by have:=hb2 x hm;omega) (vU _);obtain⟨z1,z2,z3,z4⟩:=EK 60 q.builder (bF {q with uI:=rn}) (bL m.body L[k].host).2.1 (by omega) l6 lx (vU _) (by omega) (bL m.body L[k].host).2.1.length (eE _);have hend:uY q.builder (bF {q with uI:=rn}) (bL m.body L[k].host).2.1 (bL m.body L[k].host).2.1.length=fP q.builder (bF {q with uI:=rn}) (bL m.body L[k].host).2.1:=by simp[uY]
    rw[hend]at z1 z2 z3 z4;unfold lJ at hnext;simp only[hi]at c4;simp only[cX,eS]at hnext;clear hrn hsq lx hq1 hend hb1 hb2;generalize bF {q with uI:=rn}=ss at*;generalize bL m.body L[k].host=g at*;obtain⟨im,ln,bk⟩:=g;simp only at c5 c7 z1 z2 z3 z4 l6 hnext;generalize fP q.builder ss ln=g at*;obtain⟨b,wr,lg⟩:=g;simp only at c7 z1 z2 z3 z4 hnext;have hj0:¬(j:Int)<0:=by omega
    simp only[aQ,bC,aW]at c3 c4 c5 c6 c7;have W:=aA hk1 (aA hg (aA hap (aA hgm (aA hj0 hrl))));have V:=aA hlt (aA hjl hj0);refine we ?_;obtain⟨P,hP⟩:∃P:Nat->aC,∀i,P i={q with uI:=rn,builder:=b,log:=mM q.log (lg.take i)}:=⟨_,λ_=>rfl⟩;have hP0:P 0={q with uI:=rn,builder:=b}:=by rw[hP];rfl
    have hPn:P lg.length=q':=by rw[hP,hnext,tW]
    have hPl:∀i,i<=lg.length->(P i).log.length<=1099511627776:=λi hi=>by rw[hP];have:=Qg q.log (lg.take i);simp only[oY]at this⊢;omega
    have hPs:∀i (h:i<lg.length),P (i+1)={P i with log:=lD (P i).log lg[i]}:=λi h=>by rw[hP,hP,ML _ _ _ h]
    clear c3 c4 c5 c6 c7 hP hnext;refine aI (ι:={q:Nat×Nat // q.1<=lg.length}) (λt o i=>⟨bH t [(14,.int .i64 i.1.1),(11,.ptr 19 1 0 0),(50,.undef),(52,.undef),(53,.undef),(59,.undef),(60,.undef),(77,.undef),(71,.undef),(74,.undef),(78,.undef),(73,.undef),(81,.undef),(42,.undef),(48,.undef),(35,.undef),(16,.undef)],o.take 3++LV i.1.2 (P i.1.1)++[⟨true,true,22,0,[LW i.1.2 (P i.1.1)]⟩,⟨true,false,2,1,L.map bC⟩,⟨false,false,2,1,[[.str L[k].host,.str L[k].path]]⟩,⟨true,false,2,1,im.map bC⟩,⟨true,false,2,1,ln.map tC⟩,⟨false,false,0,1,[]⟩,⟨true,false,1,1,ss.map (bX .own)⟩,⟨true,false,4,1,q.builder.nodes.map (fC .own)⟩,⟨true,false,1,1,q.builder.opens.map lI⟩,⟨true,false,1,1,lg.map dQ⟩]⟩)
     (λi=>lg.length-i.1.1) ⟨(0,v+1),by simp⟩ ?_ ?_
    .simp only[hP0,LW,LV,bH,cH,cJ,fL,lE,cW,cY];exact aD6 7 21 8 22 19 rfl rfl ⟨rfl,rfl⟩ (by simp;rfl) rfl rfl ⟨rfl,rfl⟩ (by simp;rfl) rfl (by simp) (by simp) (by simp)
    rintro⟨⟨i,rv⟩,hil⟩ K2 hK3;simp only at hil;have hk2:i64.wrap ((i:Int)+1)=((i+1:Nat):Int):=by rw[wrap64]<;>omega
    by_cases hit:i<lg.length
    .have hgi:=aE hit;have hnx:=hPs i hit;have c4:=IK (P i) lg[i] (hPl i hil);rw[<-hnx]at c4;have hK4:=hK3;clear hP0 hPn hPl hPs hnx;generalize hp':P (i+1)=p' at*;generalize hpi:P i=pi at*;simp only[bH,cH,cJ,fL,lE,cW,cY,LV,LW]at hK3⊢;simp only[aQ]at c4;have W:=aA hk2 (aA hgi hit);refine we ?_;rw[wL];refine go_drawn (by simp;rfl) (by simp;rfl) (by decide+kernel) (by decide) (by first|rfl|(simp[XN];done)) (by simp) (by simp) ?_;iterate 5 (
      refine go_draw rfl (by first|rfl|(simp;done)) (by simp[Region.binds];rfl) (by decide) (by simp[Region.binds];rfl) (by simp;rfl) ?_ ?_
      .first|rfl|(simp[mQ];done)
      refine nx ?_;refine so ?_;refine kN ?_;refine go_next (by simp;done) (by simp;rfl) (by simp;rfl) ?_)
     refine Dc (s1:= ?s1) (by decide+kernel) (by simp[sH,reach,lZ,Region.binds,CD];rfl) ?ha ?hk;case ha=>
      repeat' (first|refine st ?_|(refine nx ?_;first|refine so ?_|refine sg (hc:=c4) (h:= ?_))|refine sx ?_ ?_|refine sy ?_ ?_|fail)
      all_goals rfl
     case hk=>
      have W:=hk2;refine we ?_;refine hK4 _ ⟨(i+1,1),by simp only;omega⟩ ?_ (by simp only;omega);simp only[hp'];exact N9 (q:=p') rfl (by simp[LV,LW,ZP,ZQ,hp']) (by simp[vX]) (by simp[vX]) (by simp) (by simp) (by simp[fI])
    .have hie:i=lg.length:=by omega
     subst hie;simp only[hPn,bH,cH,cJ,fL,lE,cW,cY,LV,LW]at hK3⊢;clear hP0 hPn hPl hPs hK3;have W:=aA hk1 hit;refine we ?_;refine hK2 _ ⟨(k+1,rv),by simp only;omega⟩ ?_ (by simp only;omega);exact aL 16 (by simp[LV,LW,hq']) (by simp) (by simp) (by simp[fI,LV,LW,hq'])
   .rw [hh]at hnext c3;rw[eW rfl]at hnext;simp only[bC]at c3;have W:=aA hk1 (aA hg hlt);refine we ?_;refine hK2 _ ⟨(k+1,v),by simp only;omega⟩ ?_ (by simp only;omega);exact aL 16 (by simp[LV,LW,hq',hnext]) (by simp) (by simp) (by simp[fI,LV,LW,hq',hnext])
  .have hkl:k=L.length:=by omega
   subst hkl;simp only[bH,cH,cJ,fL,lE,cW,cY,LV,LW]at hK1⊢;clear H9 hsz aD7 hmem aMh aMi hK1 c1 c2;generalize Q L.length=q at*;have W:=aA hk1 hlt;refine we ?_;exact aR results155
 .rw [eW rfl];rw[hfl]at c1;have hfm:=tN a;have hlg:p.log.length<=500000000:=by simp only[aM,bV]at hs;omega
  have c2:=Br a (by omega);have c3:=IK p (YK++dG a) (by omega);simp only[YK]at c3⊢;generalize dG a=fa at*;simp only[aQ,bC]at c0 c1 c2 c3⊢;refine BO aO [3] func155 ntmps155 ?_;have W:=hfm;refine we ?_;rw[wL];refine go_drawn (by simp;rfl) (by simp;rfl) (by decide+kernel) (by decide) (by first|rfl|(simp[XN];done)) (by simp) (by simp) ?_;iterate 4 (
   refine go_draw rfl (by first|rfl|(simp;done)) (by simp[Region.binds];rfl) (by decide) (by simp[Region.binds];rfl) (by simp;rfl) ?_ ?_
   .first|rfl|(simp[mQ];done)
   refine nx ?_;refine so ?_;refine kN ?_;refine go_next (by simp;done) (by simp;rfl) (by simp;rfl) ?_)
  refine Dc (s1:= ?s2) (by decide+kernel) (by simp[sH,reach,lZ,Region.binds,CD];rfl) ?ha2 ?hk2;case ha2=>
   repeat' (first|refine st ?_|(refine nx ?_;first|refine so ?_|refine sg (hc:=c3) (h:= ?_))|refine sx ?_ ?_|refine sy ?_ ?_|fail)
   all_goals rfl
  case hk2=>
   refine dH ?_;exact aR results155
structure Fs(b:aY): Prop where
  len:b.nodes.length <= 40
  rg:Um b
theorem aIg{n:Nat}(h:n<=40):Sd ((n:Nat):Int):=by unfold Sd;omega
theorem QM:Sd 0:=by unfold Sd;omega
theorem aD9:Sd (-1):=by unfold Sd;omega
theorem O1:Fs ⟨[],[]⟩:=⟨by simp,by simp,by simp⟩
theorem aIh:Fs pY:=by
 refine⟨by simp[pY],?_,?_⟩
 .intro y hy;simp only[pY,nF]at hy;subst hy;exact aD9
 .intro y hy;simp only[pY,nF]at hy;subst hy;exact QM
theorem aEa(a:aK)(x:bE):Fs (wU a x).1.builder:=by
 unfold wU;split
 .exact aIh
 .exact O1
def vN(p:aC)(s:aU):aC:=if p.ended=true then p else {p with queue:=p.queue++(feed (p.tok.rest++s)).1,tok:=⟨(feed (p.tok.rest++s)).2⟩}
theorem KG[aB prog][dY prog](a:aC)(s:aU)(hs:aM a<=274877906)(hl:s.length<=274877906):Ok prog 101 [.agg (aQ .view a),.str s] (.agg (aQ .own (vN a s))):=by
 have c1:=fQ a (by omega);simp only[aM,bV,oQ]at hs;have c2:=DT a.tok s (by omega);obtain⟨h1,h2⟩:=Kb (a.tok.rest++s).length (a.tok.rest++s) (eE _);simp only[iB]at c2;simp only[aQ]at c1;unfold vN;simp only[eM]at h1 h2;generalize feed (a.tok.rest++s)=g at*;obtain⟨l,x⟩:=g;simp only at c2 h1 h2⊢;have hb1:(a.queue.length+l.length)*64<=140737488355328:=by omega
 by_cases he:a.ended=true
 .rw [eW he];simp only[he]at c1;refine dL aO func101 ntmps101 ?_;have W:=he;repeat' first|refine st ?_|(refine nx ?_;first|refine se ?_|refine so ?_)|(refine cx ?_;refine sc (λhc=>?_) (λhc=>?_)<;>try exact hc.elim)|(refine lx ?_;refine sp (λhc=>?_) (λhc=>?_)<;>try exact hc.elim)|refine sx ?_ ?_|refine sy ?_ ?_|fail
  all_goals try(refine aZ ?_;simp[aX,results101])
  all_goals exact he
 .rw [eK he];replace he:a.ended=false:=by simpa using he
  simp only[he]at c1;refine dL aO func101 ntmps101 ?_;have W:=aA he hb1;repeat' first|refine st ?_|(refine nx ?_;first|refine se ?_|refine so ?_)|(refine cx ?_;refine sc (λhc=>?_) (λhc=>?_)<;>try exact hc.elim)|(refine lx ?_;refine sp (λhc=>?_) (λhc=>?_)<;>try exact hc.elim)|refine sx ?_ ?_|refine sy ?_ ?_|fail
  all_goals try(refine aZ ?_;simp[aX,results101])
  all_goals (rw[<-oX];first|exact uC _|exact⟨he,uC _⟩)
theorem Jf{α:Type}(f:α->Nat):∀a b:List α,bB f (a++b)=bB f a+bB f b
 |[],b=>by simp[bB]
 |x::xs,b=>by simp only[cW,bB,Jf f xs b];omega
theorem aIq(t:nJ):bV dR (oV t)<=1+oQ t:=by
 unfold oV;split
 .simp [bV,bB]
 .simp [bV,bB,dR,oQ]
theorem aIr(p:aC):aM (Dz p)<=aM p+1:=by
 unfold Dz;split
 .omega
 .have h:=aIq p.tok;simp only[aM,bV,oQ,eM,Jf,eR]at h⊢;omega
theorem O9(p:aC)(s:aU):aM (vN p s)<=2*aM p+2*s.length:=by
 unfold vN;split
 .omega
 .obtain ⟨h1,h2⟩:=Kb (p.tok.rest++s).length (p.tok.rest++s) (eE _);simp only[eM]at h1 h2;simp only[aM,bV,oQ,eM,Jf]at*;omega
theorem BG[aB prog][eO prog](b:aY)(hl:bV gK b.nodes<=33554432)(hr:∀y∈b.nodes,ED y):Ok prog 15 [.agg (aW .view b)] (.str (jE b)):=by
 have hj:=vz (iO jX b.nodes) [32] (by rw[fG];simp only[bV]at hl;omega) (by have:=AU b hr;unfold jE at this;simp only[bV]at hl;omega);simp only[bV]at hl;refine dL aO func15 ntmps15 ?_;have W:=trivial;repeat' first|refine st ?_|(refine nx ?_;refine so ?_)|(refine cx ?_;refine sc (λhc=>?_) (λhc=>?_)<;>try exact hc.elim)|(refine lx ?_;refine sp (λhc=>?_) (λhc=>?_)<;>try exact hc.elim)|refine sx ?_ ?_|refine sy ?_ ?_|fail
 refine aI (ι:={q:Nat×Nat // q.1<=b.nodes.length/\1<=q.2}) (λt o i=>⟨bH t [(3,.obj 1 i.1.2),(10,.int .i64 i.1.1),(5,.undef)],o.take 1++[⟨true,false,1,i.1.2,(iO jX (b.nodes.take i.1.1)).map dQ⟩]⟩)
  (λi=>b.nodes.length-i.1.1) ⟨(0,1),by simp,by first|(simp;done)|(simp only;omega)⟩ aG ?_
 rintro⟨⟨k,v⟩,hk,hv⟩ K1 hK1;simp only at hk hv;simp only[bH,cH,cJ,fL,lE,cW,cY]at hK1⊢;have hk1:=rE (k:=k);by_cases hlt:k<b.nodes.length
 .have hg:=aE hlt;have hps:=nC jX b.nodes k hlt;have hpl:=fG jX (b.nodes.take k);have htl:(b.nodes.take k).length=k:=by simp;omega
  have WH:=hr b.nodes[k] (hI hlt);have hz:=dD gK b.nodes k hlt;simp only[gK]at hz;have c1:=xM b.nodes[k].parent WH;have hil:=jM b.nodes[k].parent WH.1 WH.2;have Xq:jX b.nodes[k]=Lib.itoa b.nodes[k].parent++(58::(if b.nodes[k].name=[]then 39::b.nodes[k].text else b.nodes[k].name)):=rfl;rw[Xq]at hps;clear Xq;generalize Lib.itoa b.nodes[k].parent=q at*;generalize iO jX (b.nodes.take k)=g at*;by_cases hn:b.nodes[k].name=[]
  .rw [eW hn]at hps;have W:=aA hk1 (aA hg (aA hlt hn));repeat' first|refine st ?_|(refine nx ?_;refine so ?_)|(refine cx ?_;refine sc (λhc=>?_) (λhc=>?_)<;>try exact hc.elim)|(refine lx ?_;refine sp (λhc=>?_) (λhc=>?_)<;>try exact hc.elim)|refine sx ?_ ?_|refine sy ?_ ?_|fail
   all_goals first|exact absurd hc hn|refine hK1 _ ⟨(k+1,v+1),by simp only;omega,by simp only;omega⟩ (aL 2 (by simp[hps])) (by simp only;omega)
  .rw [eK hn]at hps;have W:=aA hk1 (aA hg (aA hlt hn));repeat' first|refine st ?_|(refine nx ?_;refine so ?_)|(refine cx ?_;refine sc (λhc=>?_) (λhc=>?_)<;>try exact hc.elim)|(refine lx ?_;refine sp (λhc=>?_) (λhc=>?_)<;>try exact hc.elim)|refine sx ?_ ?_|refine sy ?_ ?_|fail
   all_goals first|exact absurd hc hn|refine hK1 _ ⟨(k+1,v+1),by simp only;omega,by simp only;omega⟩ (aL 2 (by simp[hps])) (by simp only;omega)
 .have htk:b.nodes.take k=b.nodes:=eJ (by omega);rw[htk];have W:=hk1;have c0:=hj;repeat' first|refine st ?_|(refine nx ?_;refine so ?_)|(refine cx ?_;refine sc (λhc=>?_) (λhc=>?_)<;>try exact hc.elim)|(refine lx ?_;refine sp (λhc=>?_) (λhc=>?_)<;>try exact hc.elim)|refine sx ?_ ?_|refine sy ?_ ?_|fail
  all_goals try(refine aZ ?_;simp[aX,results15,jE])
end Go.Proofs.YtnkpkklemmgapaaGreatDoor
