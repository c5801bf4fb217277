/- Proved here: steps towards the statement of this claim. No condition. -/
import Derived.Test.YtfbefblglejcaaaGreatDoorZQB4
import Derived.Test.YtfbefblglejcaaaGreatDoorZZ5
set_option linter.all false
set_option maxRecDepth 8000
set_option maxHeartbeats 8000000
namespace Go.Proofs.YtfbefblglejcaaaGreatDoor
open Go.Aw Proofs.Tryz List IntKind
def nL(l ss:List bB):List bB:=ss.foldl jY l
theorem GI(l ss:List bB)(k:Nat)(h:k<ss.length):nL l (ss.take (k+1))=jY (nL l (ss.take k)) ss[k]:=by unfold nL;rw[eI h,Fk];rfl
theorem Kh(l:List bB):∀ss:List bB,(nL l ss).length<=l.length+ss.length:=by
 intro ss;induction ss generalizing l with
 |nil=>simp[nL]
 |cons s ss ih=>
  have h1:(jY l s).length<=l.length+1:=by unfold jY;split<;>simp
  have h2:=ih (jY l s);have e:nL l (s::ss)=nL (jY l s) ss:=rfl;rw[e];simp only[eN];omega
def lN(p:aG)(l:List jT)(w:Bool):aG:=
 {p with builder:=(eF p.builder (dG p) l).1,log:=nL p.log (eF p.builder (dG p) l).2.2,queue:=if w=true then vN (eF p.builder (dG p) l).2.1++p.queue else p.queue}
theorem WN{α:Type}{f:α->Option Int}{l:List α}{k:Nat}{v:Int}(h:look f l k=some v):∃x∈l,f x=some v:=by unfold look at h;obtain⟨x,hx,hv⟩:=exists_of_findSome?_eq_some h;exact⟨x,sC (mem_reverse.1 hx),hv⟩
theorem zt{q:bB}{r:Fv}(h:vL q=some r):1<=r.color/\r.color<=999:=by
 unfold vL at h;split at h
 .split at h
  .rename_i hc;obtain rfl:=cQ h;exact hc.2
  .cases h
 .cases h
theorem xN(p:aG)(n:bB):0<=bJ (dG p) n/\bJ (dG p) n<=999:=by
 unfold bJ;cases h:look (zM n) (dG p) (dG p).length with
 |none=>simp
 |some v=>
  obtain⟨s,hs,hv⟩:=WN h;unfold zM at hv;obtain⟨r,hr,Ou⟩:=WN hv;unfold Jf at Ou;split at Ou
  .obtain rfl:=cQ Ou;unfold dG nW at hs;obtain⟨y,_,rfl⟩:=AM.1 hs;have h1:=sC hr;obtain⟨q,_,hq⟩:=mem_filterMap.1 h1;have:=zt hq;simp only[rL];omega
  .cases Ou
theorem Dr(p:aG):(dG p).length<=p.aB.length/\∀x∈dG p,x.rules.length<=8:=by refine⟨ET _,?_⟩;intro x hx;unfold dG nW at hx;obtain⟨y,_,rfl⟩:=AM.1 hx;exact ib (dE 59 y.body)
theorem aGf{s:bB}(h:dA s=true):s.length<=8:=by simp only[dA,eJ,fR]at h;omega
theorem BU{s:bB}{op:Nat}{v:jT×Bool}(h:lM s op=some v)(hb:v.2=true):v.1.text.length<=60:=by
 unfold lM at h;split at h
 .obtain rfl:=cQ h;simp only at hb⊢;unfold iD at hb;split at hb
  .simpa using hb
  .have:=aGf hb;omega
 .cases h
theorem Yj{α:Type}{a b:Option α}{v:α}(h:a.or b=some v):a=some v\/b=some v:=by
 cases a with
 |none=>exact .inr (by simpa using h)
 |some x=>exact .inl (by simpa using h)
theorem Ve(p:bB)(h:(dB p).2=true):(dB p).1.text.length<=60:=by
 unfold dB at h⊢;cases hv:((((lM p 1).or (lM p 2)).or (lM p 3)).or (lM p 4)).or (lM p 5)with
 |none=>simp
 |some v=>
  rw[hv]at h;simp only[rL]at h⊢;rcases Yj hv with hv|hv
  .rcases Yj hv with hv|hv
   .rcases Yj hv with hv|hv
    .rcases Yj hv with hv|hv
     .exact BU hv h
     .exact BU hv h
    .exact BU hv h
   .exact BU hv h
  .exact BU hv h
theorem zX(s:bB):(fZ s).1.length<=6/\∀x∈(fZ s).1,x.text.length<=60:=by
 unfold fZ;split
 .simp
 .split
  .rename_i h;refine⟨by simpa using h.2,?_⟩;intro x hx;obtain⟨p,hp,rfl⟩:=AM.1 hx;exact Ve p (fN.1 h.1 p hp)
  .simp
theorem Kk[aC prog](p:aG)(s:bB)(hs:p.log.length<=1099511627776):MP prog 119 [.oM (.agg (aH .own p)),.view (.str s)] (.agg (aH .own {p with log:=jY p.log s})):=by
 by_cases h:p.log.length<40
 .have hi:(p.log.length:Int)<40:=by omega
  obtain⟨l1,hl1⟩:∃l,l=p.log++[s]:=⟨_,rfl⟩;have hap:p.log.map bW++[[.str s]]=l1.map bW:=by rw[hl1];simp
  have e:jY p.log s=l1:=by unfold jY;rw[eK h,hl1]
  rw[e];clear e hl1;refine sG aF func119 ntmps119 ?_;have W:=aA hi (aA hap hs);refine we ?_;all_goals (try exact kH (by simp[gF,dI,dH,rowOf,results119];done))
 .have hi:¬(p.log.length:Int)<40:=by omega
  have e:jY p.log s=p.log:=by unfold jY;rw[cX h]
  rw[e];clear e;refine sG aF func119 ntmps119 ?_;have W:=hi;refine we ?_;all_goals (try exact kH (by simp[gF,dI,dH,rowOf,results119];done))
theorem jv(c:UInt8):∀s:bB,bA gG (dE c s)<=s.length
 |[]=>by simp[dE,bA,gG]
 |x::s=>by
  have ih:=jv c s;simp only[dE];split
  .simp only[bA,gG,eV,eN]at ih⊢;omega
  .split
   .rename_i h0;exact absurd h0 (qY c s)
   .rename_i p q h0;rw[h0]at ih;simp only[bA,gG,eN]at ih⊢;omega
theorem aKb(s b:bB):aR (bZ s b).1<=s.length+b.length:=by have h:=vD 47 s;unfold bZ addrOf;split<;>split<;>simp[aR,wZ]<;>omega
theorem Q9(base:bB):∀(l:List bB) (acc:List aK) (q:List bB),oL base l=some (acc,q)->7*acc.length<=bA gG l/\bA aR acc<=bA gG l+acc.length*base.length/\∀x∈acc,aR x<=bA gG l+base.length
 |[],acc,q,h=>by simp only[oL,eC,oR]at h;obtain⟨rfl,rfl⟩:=h;simp[bA]
 |p::ps,acc,q,h=>by
  simp only[oL]at h;split at h
  .rename_i hp;split at h
   .obtain ⟨⟨a1,q1⟩,h1,h2⟩:=tD.1 h;simp only[oR]at h2;obtain⟨rfl,rfl⟩:=h2;obtain⟨i1,i2,i3⟩:=Q9 base ps a1 q1 h1;have h7:=SE hp;have ha:=aKb (p.drop 7) base;simp only[show AR.length=7 from rfl]at h7;simp only[An]at ha;simp only[bA,gG,eN,AG]at i1 i2 i3⊢;refine⟨by omega,by omega,?_⟩;intro x hx;rcases lB.1 hx with rfl|hx
    .omega
    .have:=i3 x hx;omega
   .cases h
  .simp only[eC,oR]at h;obtain⟨rfl,rfl⟩:=h;simp[bA]
theorem yU(s b:bB):7*(bH s b).1.length<=s.length/\bA aR (bH s b).1<=s.length+(bH s b).1.length*b.length/\∀x∈(bH s b).1,aR x<=s.length+b.length:=by
 have hs:=jv 59 s;unfold bH;split
 .simp [bA]
 .rename_i l q h;obtain⟨i1,i2,i3⟩:=Q9 b _ _ _ h;split
  .exact ⟨by simp only;omega,by simp only;omega,λx hx=>by have:=i3 x hx;omega⟩
  .simp [bA]
theorem S9(N:Nat):∀l:List dX,(∀m∈l,bK m<=N)->7*(l.flatMap λm=>(bH m.body m.to.host).1).length<=bA bK l/\bA aR (l.flatMap λm=>(bH m.body m.to.host).1)<=bA bK l+(l.flatMap λm=>(bH m.body m.to.host).1).length*N
 |[],_=>by simp[bA]
 |m::l,h=>by obtain⟨i1,i2⟩:=S9 N l (λx hx=>h x (by simp[hx]));obtain⟨j1,j2,_⟩:=yU m.body m.to.host;have hm:=h m (by simp);simp only[bK,aR]at hm;have h3:=Nat.mul_le_mul_left (bH m.body m.to.host).1.length (show m.to.host.length<=N by omega);simp only[flatMap_cons,eR,bA,jA,pZ,bK,aR]at i1 i2⊢;exact⟨by omega,by omega⟩
theorem GY(p:aG)(a:aK)(h:bQ bK p.aN+aR a<=16777216):Bnd p (a::uW p)/\(a::uW p).length<=2396746/\bA aR (a::uW p)<=50000000000000:=by
 have hm:∀m∈p.aN,bK m<=16777216:=λm hm=>by have:=bS bK hm;simp only[aI,bQ]at h;omega
 obtain⟨f1,f2⟩:=S9 16777216 p.aN hm;have hs:bA bK p.aN<=16777216:=by simp only[aI,bQ]at h;omega
 have hl:(uW p).length<=2396745:=by unfold uW;omega
 have h4:=lA 16777216 hl;have h5:bA aR (uW p)<=16777216+(uW p).length*16777216:=by unfold uW;omega
 refine⟨⟨by omega,λx hx=>AT _ hx,by simp only[eN];omega,?_,?_⟩,by simp only[eN];omega,by simp only[bA];omega⟩
 .intro x hx;rcases lB.1 hx with rfl|hx
  .simp only[aR]at h;omega
  .obtain ⟨m,h1,h2⟩:=FA.1 hx;have h6:=(yU m.body m.to.host).2.2 x h2;have h7:=hm m h1;simp only[bK,aR]at h6 h7;omega
 .intro m h1;have h6:=(yU m.body m.to.host).1;have h7:=hm m h1;simp only[bK]at h7;omega
theorem Mj(p:aG)(a:aK)(h:bQ bK p.aN+aR a<=16777216):(dY p a).length<=2396746/\bA aR (dY p a)<=50000000000000/\∀x∈dY p a,x∈a::uW p:=by obtain⟨hb,h1,h2⟩:=GY p a h;have hs:=(Fe hb.im (rU p []+1) a ([],[]) (by simp) ⟨by simp,by simp,by simp,by simp⟩).1;obtain⟨h3,h4⟩:=Em aR _ (a::uW p) hs.ond (λx hx=>hs.sub x (hs.jk x hx));exact⟨kO h4 h1,kO h3 h2,λx hx=>hs.sub x (hs.jk x hx)⟩
end Go.Proofs.YtfbefblglejcaaaGreatDoor
