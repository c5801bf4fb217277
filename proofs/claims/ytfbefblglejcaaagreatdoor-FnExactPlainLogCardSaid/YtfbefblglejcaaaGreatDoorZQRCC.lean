/- Proved here: steps towards the statement of this claim. No condition. -/
import Derived.Test.YtfbefblglejcaaaGreatDoorZQRC8
import Derived.Test.YtfbefblglejcaaaGreatDoorZQI6
import Derived.Test.YtfbefblglejcaaaGreatDoorZQZ6
set_option linter.all false
set_option maxRecDepth 8000
set_option maxHeartbeats 8000000
namespace Go.Proofs.YtfbefblglejcaaaGreatDoor
open Go.Aw Proofs.Tryz List IntKind
theorem TA{α:Type}(f:α->Nat):∀a b:List α,bA f (a++b)=bA f a+bA f b
 |[],b=>by simp[bA]
 |x::xs,b=>by simp only[eA,bA,TA f xs b];omega
def sW(b:bE)(t:bT):Option Nat:=
 if t.kind=2/\t.name=iN then
  match b.opens.getLast? with
  |some n=>if 1<=n/\(b.nodes[n.toNat]?).any (λx=>decide (x.name=iN))=true then some n.toNat else none
  |none=>none
 else none
def jP(p:aG)(t:bT)(q:List bT):aG:=
 match sW p.builder t with
 |some k=>sV {p with queue:=q,builder:=(addToken p.builder t).1} k ((p.builder.nodes[k]?).elim [] (·.attrs))
 |none=>if t.kind=1/\0<=(addToken p.builder t).2 then AQ {p with queue:=q,builder:=(addToken p.builder t).1} t (addToken p.builder t).2 else {p with queue:=q,builder:=(addToken p.builder t).1}
def iJ(p:aG):aG×Bool:=match p.queue with
 |[]=>(p,false)
 |t::q=>if p.block=0/\p.inline=0 then(jP p t q,true)else(p,false)
theorem ji(b:bE)(t:bT):aT (addToken b t).1<=aT b+bX t+2:=by
 unfold addToken;split
 .have:=Pg b t.name (b.opens.length-1);simp only[aT,bQ]at this⊢;omega
 .split
  .simp only;omega
  .split
   .simp only;omega
   .have h1:sM (uB b t)<=bX t:=by unfold uB;split<;>simp only[sM,bX,bQ,eV,bA]<;>omega
    have h2:(if nD t=true then b.opens++[((b.nodes.length:Nat):Int)]else b.opens).length<=b.opens.length+1:=by split<;>simp
    simp only[aT,bQ,eR,TA,bA,eN,eV]at h1 h2⊢;omega
theorem uM{p:aG}{t:bT}{q:List bT}(h:p.queue=t::q):aI {p with queue:=q,builder:=(addToken p.builder t).1}<=aI p+2:=by have h1:=ji p.builder t;simp only[aI,h,bQ,bA,eN]at h1⊢;omega
theorem pM{b:bE}{t:bT}(h:t.kind=2):(addToken b t).2= -1/\(addToken b t).1.nodes=b.nodes:=by rw[Cb h];exact⟨rfl,rfl⟩
theorem Aq{b:bE}{t:bT}(h:¬(t.kind=2/\t.name=iN)):sW b t=none:=by unfold sW;rw[cX h]
theorem Ma{b:bE}{t:bT}(h:b.opens=[]):sW b t=none:=by unfold sW;rw[h];split<;>rfl
theorem Bo{b:bE}{t:bT}{os:List Int}{k:Nat}(h1:t.kind=2)(h2:t.name=iN)(h:b.opens=os++[((k:Nat):Int)])(hk:1<=k){nd:jK}(hg:b.nodes[k]? =some nd)(hn:nd.name=iN):sW b t=some k:=by unfold sW;rw[eK ⟨h1,h2⟩,h,getLast?_concat];simp only;rw[eK ⟨by omega,by rw[mA,hg];simpa using hn⟩];simp
def BB(p:aG)(k:Int):aG×Bool:=
 if 0<=k then match p.aB[k.toNat]? with
  |some s=>if s.done=true/\p.aB.all oG=true then({(if s.code=1 then lT p s.body true else p)with block:=0},true)else(p,false)
  |none=>({p with block:=0},true)
 else({p with block:=0},true)
def jE(p:aG):aG×Bool:=
 if p.inline≠0 then(if p.aB.all oG=true then({lT p (Cg p.builder p.inline) true with inline:=0},true)else(p,false))
 else if p.block≠0 then BB p (i64.wrap (p.block-1))
 else iJ p
theorem TD{α:Type}(f:α->Nat):∀{l:List α} {x:α},x∈l->f x<=bA f l
 |y::l,x,h=>by
  rcases lB.1 h with rfl|h
  .simp only[bA];omega
  .have:=TD f h;simp only[bA];omega
def yV(p:aG):Bool:=p.ended&&decide (p.queue.length=0)&&decide (p.block=0)&&decide (p.inline=0)
theorem Qb[aC prog](p:aG):Ok prog 115 [.agg (aH .view p)] (.bool (yV p)):=by
 refine bM aF func115 ntmps115 ?_;have W:=trivial;repeat' first|refine wf ?_|(refine sq ?_ ?_<;>intro hc<;>try exact hc.elim)|fail
 all_goals try(refine aQ ?_;simp[aP,results115])
 all_goals (simp_all[yV]<;>rfl)
theorem Qc[aC prog](p:aG):Ok prog 150 [.agg (aH .view p)] (.bool (yV p)):=by
 refine bM aF func150 ntmps150 ?_;have W:=trivial;repeat' first|refine wf ?_|(refine sq ?_ ?_<;>intro hc<;>try exact hc.elim)|fail
 all_goals try(refine aQ ?_;simp[aP,results150])
 all_goals (simp_all[yV]<;>rfl)
def zQ(p:aG)(b:aK):bB:=match p.aN.find? (kM b)with
 |some m=>m.body
 |none=>[]
def rV(q:aG)(b:aK):aG:=if q.tX.any (iO b)=true then q else lN {q with tX:=q.tX++[b]} (bH (zQ q b) b.host).2.1 false
def jH(p:aG)(L:List aK)(k:Nat):aG:=(L.take k).foldl rV p
theorem Bp(p:aG)(L:List aK)(k:Nat)(h:k<L.length):jH p L (k+1)=rV (jH p L k) L[k]:=by unfold jH;rw[eI h,Fk];rfl
def TJ:bB:=[102,97,105,108,32]
def oH(p:aG)(a:aK):aG:=if uE p a=true then {p with log:=jY p.log (TJ++mK a)}else jH p (dY p a) (dY p a).length
theorem Di(body base:bB):(bH body base).2.1.length<=6/\∀x∈(bH body base).2.1,x.text.length<=60:=by
 unfold bH;split
 .simp
 .rename_i l r _;obtain⟨b1,b2⟩:=zX (Lib.join r [59]);split
  .exact ⟨b1,b2⟩
  .simp
def Km(q:aG):Nat:=aI q+91*(40-q.log.length)+62*(40-q.builder.nodes.length)
theorem TK(l ss:List bB)(h:∀s∈ss,s.length<=90):bQ gG (nL l ss)+91*(40-(nL l ss).length)<=bQ gG l+91*(40-l.length):=by
 induction ss generalizing l with
 |nil=>exact eE _
 |cons s ss ih=>
  have e:nL l (s::ss)=nL (jY l s) ss:=rfl;rw[e];refine kO (ih (jY l s) (λx hx=>h x (by simp[hx]))) ?_;have hs:=h s (by simp);unfold jY;split
  .simp only[bQ,eR,eN,eV,jA,bA,gG];omega
  .exact eE _
theorem jy(b:bE)(ss:List gQ)(x:jT)(hx:x.text.length<=60):aT (bU b ss x).1+62*(40-(bU b ss x).1.nodes.length)<=aT b+62*(40-b.nodes.length):=by
 unfold bU;split
 .exact eE _
 .split
  .split
   .simp only[aT,bQ,eR,jA,bA,sM,eN,eV];omega
   .exact eE _
  .split
   .exact eE _
   .split
    .exact eE _
    .split<;>exact eE _
theorem Vm(b:bE)(ss:List gQ)(l:List jT)(hx:∀x∈l,x.text.length<=60)(wU:∀n,0<=bJ ss n/\bJ ss n<=999)(hb:aT b+62*40<=68719476736):
  aT (eF b ss l).1+62*(40-(eF b ss l).1.nodes.length)<=aT b+62*(40-b.nodes.length)/\∀s∈(eF b ss l).2.2,s.length<=90:=by
 have key:∀(l:List jT) (st0:bE×bB×List bB),(∀x∈l,x.text.length<=60)->aT st0.1+62*(40-st0.1.nodes.length)<=aT b+62*(40-b.nodes.length)->(∀s∈st0.2.2,s.length<=90)->
   aT (l.foldl (tZ ss) st0).1+62*(40-(l.foldl (tZ ss) st0).1.nodes.length)<=aT b+62*(40-b.nodes.length)/\∀s∈(l.foldl (tZ ss) st0).2.2,s.length<=90:=by
  intro l;induction l with
  |nil=>intro st0 _ h1 h2;exact⟨h1,h2⟩
  |cons x l ih=>
   intro st0 hx h1 h2;have hxl:=hx x (by simp);have hn:st0.1.nodes.length<=274877906944:=by simp only[aT,bQ]at h1 hb;omega
   obtain⟨z1,z2,z3⟩:=Tv st0.1 ss x (by omega) wU hn;refine ih (tZ ss st0 x) (λy hy=>hx y (by simp[hy])) ?_ ?_
   .exact kO (jy st0.1 ss x hxl) h1
   .intro s hs;simp only[tZ]at hs;split at hs
    .exact h2 s hs
    .rcases fL.1 hs with hs|hs
     .exact h2 s hs
     .simp only[rI]at hs;subst hs;omega
 exact key l (b,[],[]) hx (eE _) (by simp)
theorem Mq(q:aG)(l:List jT)(hs:aI q<=536870912)(hx:∀x∈l,x.text.length<=60):Km (lN q l false)<=Km q:=by
 have hsb:aT q.builder<=536870912:=by simp only[aI]at hs;omega
 obtain⟨z1,z2⟩:=Vm q.builder (dG q) l hx (xN q) (by omega);have z3:=TK q.log (eF q.builder (dG q) l).2.2 z2;unfold lN;generalize eF q.builder (dG q) l=g at*;obtain⟨b,w,lg⟩:=g;simp only[eS,gS]at*;generalize nL q.log lg=lg2 at*;simp only[Km,aI]at*;omega
theorem kg(q:aG)(b:aK):(rV q b).aN=q.aN/\(rV q b).aB=q.aB:=by unfold rV lN;split<;>exact⟨rfl,rfl⟩
theorem C9(q:aG)(b:aK)(hs:aI q+1+aR b<=536870912):Km (rV q b)<=Km q+1+aR b:=by
 unfold rV;split
 .omega
 .have h1:aI {q with tX:=q.tX++[b]}=aI q+1+aR b:=by simp only[aI,bQ,eR,eN,eV,jA,bA];omega
  have h2:=Mq {q with tX:=q.tX++[b]} (bH (zQ q b) b.host).2.1 (by omega) (Di _ _).2;refine kO h2 ?_;simp only[Km]at*;omega
theorem Cm(q:aG):aI q<=Km q/\Km q<=aI q+6120:=by unfold Km;omega
theorem wQ(p:aG)(L:List aK)(hL:aI p+6120+bQ aR L<=536870912):∀k,k<=L.length->Km (jH p L k)<=Km p+bQ aR (L.take k)/\(jH p L k).aN=p.aN/\(jH p L k).aB=p.aB
 |0,_=>⟨by simp[jH,bQ,bA],rfl,rfl⟩
 |k+1,h=>by
  obtain⟨h1,h2,h3⟩:=wQ p L hL k (by omega);have hp:=(Cm p).2;have hq:=(Cm (jH p L k)).1;have e1:bQ aR (L.take (k+1))=bQ aR (L.take k)+1+aR L[k]:=by rw[eI (show k<L.length by omega)];simp only[bQ,eR,eN,eV,jA,bA];omega
  have e2:bQ aR (L.take (k+1))<=bQ aR L:=by have:=zO aR L (k+1);simp only[bQ,oS];omega
  rw[Bp p L k (by omega)];have h4:=C9 (jH p L k) L[k] (by omega);obtain⟨h5,h6⟩:=kg (jH p L k) L[k];exact⟨by omega,h5.trans h2,h6.trans h3⟩
theorem TL{p:aG}{x:aK}(h:lD p x=true):x∈p.aN.map (·.to):=by
 unfold lD at h;split at h
 .rename_i m hm;have h1:=pA hm;have h2:=DP hm;simp only[kM,fR]at h2;exact AM.2 ⟨m,h1,h2⟩
 .cases h
theorem aN6(l:List dX):bQ aR (l.map (·.to))<=bQ bK l:=by
 induction l with
 |nil=>exact eE _
 |cons m l ih=>simp only[bQ,mC,eN,bA,bK]at*;omega
theorem GZ(p:aG)(a:aK)(h:bQ bK p.aN+aR a<=16777216)(hf:uE p a=false):(dY p a).length<=16777216/\bQ aR (dY p a)<=bQ bK p.aN/\∀x∈dY p a,lD p x=true:=by
 have hall:∀x∈dY p a,lD p x=true:=by
  unfold uE at hf;have:(dY p a).all (lD p)=true:=by simpa using hf
  exact fN.1 this
 obtain⟨hb,h1,h2⟩:=GY p a h;have hs:=(Fe hb.im (rU p []+1) a ([],[]) (by simp) ⟨by simp,by simp,by simp,by simp⟩).1;obtain⟨h3,h4⟩:=Em aR (dY p a) (p.aN.map (·.to)) hs.ond (λx hx=>TL (hall x hx));have h5:=aN6 p.aN;rw[oY]at h4;refine⟨?_,?_,hall⟩
 .simp only[bQ]at h;omega
 .simp only[bQ,oY]at h5⊢;omega
def xP:List (Nat×Nat):=[(3,24),(4,25),(5,26),(6,27),(7,28),(8,29),(9,30),(10,31),(11,32),(12,33),(13,34)]
theorem aBt{t t':List AV}{o o':List aM}{l1 l2 l3 l4 l5 l6 l7 l8 l9 l10 l11:Bool}{u n1 v1 n2 v2 n3 v3 n4 v4 n5 v5 n6 v6 n7 v7 n8 v8 n9 v9 n10 v10 n11 v11:Nat}{e1 e2 e3 e4 e5 e6 e7 e8 e9 qg e11:List (List AV)}{o0 o1 o2 m0 m1 m2 m3 m4 m5 m6 m7 m8:aM}{q:aG}(ho:o=[o0,o1,o2,⟨l1,false,n1,v1,e1⟩,⟨l2,false,n2,v2,e2⟩,⟨l3,false,n3,v3,e3⟩,⟨l4,false,n4,v4,e4⟩,⟨l5,false,n5,v5,e5⟩,⟨l6,false,n6,v6,e6⟩,⟨l7,false,n7,v7,e7⟩,⟨l8,false,n8,v8,e8⟩,⟨l9,false,n9,v9,e9⟩,⟨l10,false,n10,v10,qg⟩,⟨l11,false,n11,v11,e11⟩,⟨true,true,22,u,[zF 24 q]⟩,m0,m1,m2,m3,m4,m5,m6,m7,m8]++zD q)
  (ho':o'=[o0,o1,o2]++zD q++[⟨true,true,22,u,[zF 3 q]⟩,m0,m1,m2,m3,m4,m5,m6,m7,m8]) (ht:∀z∈xP,wk (rD z.1 z.2 t') t') (hf:∀z∈xP,o0.lL z.1 z.2=o0/\o1.lL z.1 z.2=o1/\o2.lL z.1 z.2=o2/\m0.lL z.1 z.2=m0/\m1.lL z.1 z.2=m1/\m2.lL z.1 z.2=m2/\m3.lL z.1 z.2=m3/\m4.lL z.1 z.2=m4/\m5.lL z.1 z.2=m5/\m6.lL z.1 z.2=m6/\m7.lL z.1 z.2=m7/\m8.lL z.1 z.2=m8) (hw:wk t t') (hc:eT 24 t'=true) (hc0:dC 24 [o0,o1,o2,m0,m1,m2,m3,m4,m5,m6,m7,m8]=true):lY ⟨t,o⟩ ⟨t',o'⟩:=by
 subst ho;subst ho';have e:=λi j (h:(i,j)∈xP)=>hf (i,j) h
 have h:=λi j (h:(i,j)∈xP)=>ht (i,j) h
 simp only[zD,zF,eA,eM];refine(wF hw).trans ?_;refine(aS 3 24 rfl rfl ⟨rfl,rfl⟩ (by simp[(e 3 24 (by decide))];rfl) (h 3 24 (by decide))).trans ?_;refine(aS 4 25 rfl rfl ⟨rfl,rfl⟩ (by simp[(e 4 25 (by decide))];rfl) (h 4 25 (by decide))).trans ?_;refine(aS 5 26 rfl rfl ⟨rfl,rfl⟩ (by simp[(e 5 26 (by decide))];rfl) (h 5 26 (by decide))).trans ?_;refine(aS 6 27 rfl rfl ⟨rfl,rfl⟩ (by simp[(e 6 27 (by decide))];rfl) (h 6 27 (by decide))).trans ?_;refine(aS 7 28 rfl rfl ⟨rfl,rfl⟩ (by simp[(e 7 28 (by decide))];rfl) (h 7 28 (by decide))).trans ?_;refine(aS 8 29 rfl rfl ⟨rfl,rfl⟩ (by simp[(e 8 29 (by decide))];rfl) (h 8 29 (by decide))).trans ?_;refine(aS 9 30 rfl rfl ⟨rfl,rfl⟩ (by simp[(e 9 30 (by decide))];rfl) (h 9 30 (by decide))).trans ?_;refine(aS 10 31 rfl rfl ⟨rfl,rfl⟩ (by simp[(e 10 31 (by decide))];rfl) (h 10 31 (by decide))).trans ?_;refine(aS 11 32 rfl rfl ⟨rfl,rfl⟩ (by simp[(e 11 32 (by decide))];rfl) (h 11 32 (by decide))).trans ?_;refine(aS 12 33 rfl rfl ⟨rfl,rfl⟩ (by simp[(e 12 33 (by decide))];rfl) (h 12 33 (by decide))).trans ?_;refine(aS 13 34 rfl rfl ⟨rfl,rfl⟩ (by simp[(e 13 34 (by decide))];rfl) (h 13 34 (by decide))).trans ?_;refine aV 24 (by simp) (lC _) hc ?_;simpa [dC,eT,closed,Fm]using hc0
theorem aGy{t t':List AV}{o o' o1 o2:List aM}{a b c d e:aM}(i1 j1 i2 j2 x:Nat)(h5:o[i1]? =some a)(h14:o[j1]? =some b)(hb:a.box=false/\b.box=false)(e1:((o.set i1 b).set j1 a).map (aM.lL i1 j1)=o1)(h6:o1[i2]? =some c)(h15:o1[j2]? =some d)(hd:c.box=false/\d.box=false)(e2:((o1.set i2 d).set j2 c).map (aM.lL i2 j2)=o2)(h12:o2[x]? =some e)(e3:o2.set x ⟨false,false,0,e.bV,[]⟩=o')(w1:wk (rD i1 j1 t) t')(w2:wk (rD i2 j2 t') t'):lY ⟨t,o⟩ ⟨t',o'⟩:=
 (aS i1 j1 h5 h14 hb e1 w1).trans ((aS i2 j2 h6 h15 hd e2 w2).trans (WM x h12 e3 (lC _)))
def zU:List (Nat×Nat):=[(1,18),(2,19),(3,20),(4,21),(5,22),(6,23),(7,24),(8,25),(9,26),(10,27),(11,28)]
theorem aG5{t t':List AV}{o o':List aM}{n1 v1 n2 v2 n3 v3 n4 v4 n5 v5 n6 v6 n7 v7 n8 v8 n9 v9 n10 v10 n11 v11:Nat}{e1 e2 e3 e4 e5 e6 e7 e8 e9 qg e11:List (List AV)}{o12 o13 o14 o15 o16 o17:aM}{q:aG}(ho:o=[⟨true,true,22,2,[zF 18 q]⟩,⟨false,false,n1,v1,e1⟩,⟨false,false,n2,v2,e2⟩,⟨false,false,n3,v3,e3⟩,⟨false,false,n4,v4,e4⟩,⟨false,false,n5,v5,e5⟩,⟨false,false,n6,v6,e6⟩,⟨false,false,n7,v7,e7⟩,⟨false,false,n8,v8,e8⟩,⟨false,false,n9,v9,e9⟩,⟨false,false,n10,v10,qg⟩,⟨false,false,n11,v11,e11⟩,o12,o13,o14,o15,o16,o17]++zD q)
  (ho':o'=[⟨true,true,22,2,[zF 1 q]⟩]++zD q++[o12,o13]) (ht:∀z∈zU,wk (rD z.1 z.2 t') t') (hf:∀z∈zU,o12.lL z.1 z.2=o12/\o13.lL z.1 z.2=o13/\o14.lL z.1 z.2=o14/\o15.lL z.1 z.2=o15/\o16.lL z.1 z.2=o16/\o17.lL z.1 z.2=o17) (hw:wk t t') (hc:eT 14 t'=true) (hc0:dC 14 [o12,o13]=true):lY ⟨t,o⟩ ⟨t',o'⟩:=by
 subst ho;subst ho';have e:=λi j (h:(i,j)∈zU)=>hf (i,j) h
 have h:=λi j (h:(i,j)∈zU)=>ht (i,j) h
 simp only[zD,zF,eA,eM];refine(wF hw).trans ?_;refine(aS 1 18 rfl rfl ⟨rfl,rfl⟩ (by simp[(e 1 18 (by decide))];rfl) (h 1 18 (by decide))).trans ?_;refine(aS 2 19 rfl rfl ⟨rfl,rfl⟩ (by simp[(e 2 19 (by decide))];rfl) (h 2 19 (by decide))).trans ?_;refine(aS 3 20 rfl rfl ⟨rfl,rfl⟩ (by simp[(e 3 20 (by decide))];rfl) (h 3 20 (by decide))).trans ?_;refine(aS 4 21 rfl rfl ⟨rfl,rfl⟩ (by simp[(e 4 21 (by decide))];rfl) (h 4 21 (by decide))).trans ?_;refine(aS 5 22 rfl rfl ⟨rfl,rfl⟩ (by simp[(e 5 22 (by decide))];rfl) (h 5 22 (by decide))).trans ?_;refine(aS 6 23 rfl rfl ⟨rfl,rfl⟩ (by simp[(e 6 23 (by decide))];rfl) (h 6 23 (by decide))).trans ?_;refine(aS 7 24 rfl rfl ⟨rfl,rfl⟩ (by simp[(e 7 24 (by decide))];rfl) (h 7 24 (by decide))).trans ?_;refine(aS 8 25 rfl rfl ⟨rfl,rfl⟩ (by simp[(e 8 25 (by decide))];rfl) (h 8 25 (by decide))).trans ?_;refine(aS 9 26 rfl rfl ⟨rfl,rfl⟩ (by simp[(e 9 26 (by decide))];rfl) (h 9 26 (by decide))).trans ?_;refine(aS 10 27 rfl rfl ⟨rfl,rfl⟩ (by simp[(e 10 27 (by decide))];rfl) (h 10 27 (by decide))).trans ?_;refine(aS 11 28 rfl rfl ⟨rfl,rfl⟩ (by simp[(e 11 28 (by decide))];rfl) (h 11 28 (by decide))).trans ?_;refine aV 14 (by simp) (lC _) hc ?_;simpa [dC,eT,closed]using hc0
end Go.Proofs.YtfbefblglejcaaaGreatDoor
