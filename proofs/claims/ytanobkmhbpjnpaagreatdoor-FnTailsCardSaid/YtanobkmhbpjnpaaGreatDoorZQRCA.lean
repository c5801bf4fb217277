/- Steps. No condition. -/
import Derived.Test.YtanobkmhbpjnpaaGreatDoorZRC8
import Derived.Test.YtanobkmhbpjnpaaGreatDoorZQTK6
import Derived.Test.YtanobkmhbpjnpaaGreatDoorZQSR
set_option linter.all false
set_option maxRecDepth 8000
set_option maxHeartbeats 8000000
namespace Go.Proofs.YtanobkmhbpjnpaaGreatDoor
open Go.Aw Proofs.Tryz List IntKind
def OH:bE:=[101,114,114,111,114]
def gI(p:aF)(code:bE)(w:Bool):aF:=
 if (gM code).2=true then jN p (gM code).1 w else {p with log:=mO p.log OH}
def CU[aG prog][fI prog][dG prog][qR prog](p:aF)(code:bE)(w:Bool)(hs:aM p<=536870912)(hc:code.length<=1073741824):Ok prog 36 [.agg (aH .view p),.str code,.bool w] (.agg (aH .own (gI p code w))):=by
 have c1:=lM p (by omega);have c2:=CR code hc;have zh:p.log.length<=536870912:=by simp only[aM,dS]at hs;omega
 obtain⟨b1,b2⟩:=Bi code;have c3:=FZ p OH (by omega);have c4:=Gz p (gM code).1 w hs b1 b2;unfold gI;generalize gM code=g at*;obtain⟨l,ok⟩:=g;simp only at c2 c4⊢;generalize jN p l w=r at*;simp only[aH,OH]at c1 c3 c4⊢;cases ok
 .rw [eC (by simp)];refine dN aK func36 ntmps36 ?_;have W:=trivial;repeat' first|refine wg ?_|(refine nx ?_;refine sg (hc:=c3) (h:=?_))|(refine sq ?_ ?_<;>intro hc<;>try exact hc.elim)|fail
  exact aO results36
 .rw [eM rfl];refine dN aK func36 ntmps36 ?_;have W:=trivial;repeat' first|refine wg ?_|(refine nx ?_;refine sg (hc:=c4) (h:=?_))|(refine sq ?_ ?_<;>intro hc<;>try exact hc.elim)|fail
  exact aO results36
def Qa(l:List bE)(h:¬l.length<40):∀ss:List bE,pO l ss=l
 |[]=>rfl
 |s::ss=>by
  show pO (mO l s) ss=l;have:mO l s=l:=by unfold mO;rw[eC h]
  rw[this];exact Qa l h ss
def ng(l ss:List bE)(k:Nat)(h:¬(pO l (ss.take k)).length<40):pO l (ss.take k)=pO l ss:=by
 have e:pO l ss=pO (pO l (ss.take k)) (ss.drop k):=by unfold pO;rw[<-DQ,pC]
 rw[e,Qa _ h]
def CV[aG prog][fI prog][dG prog][qR prog](p:aF)(code:bE)(w:Bool)(hs:aM p<=536870912)(hc:code.length<=1073741824):Ok prog 64 [.agg (aH .view p),.str code,.bool w] (.agg (aH .own (gI p code w))):=by
 have c1:=jH p (by omega);have c2:=CQ code hc;have zh:p.log.length<=536870912:=by simp only[aM,dS]at hs;omega
 obtain⟨b1,b2⟩:=Bi code;unfold gI;generalize gM code=g at*;obtain⟨l,ok⟩:=g;simp only at c2 b1 b2⊢;cases ok
 .rw [eC (by simp)];simp only[aH,OH]at c1⊢;clear b1 b2;by_cases h:p.log.length<40
  .have hi:(p.log.length:Int)<40:=by omega
   obtain⟨l1,hl1⟩:∃l1,l1=p.log++[[101,114,114,111,114]]:=⟨_,rfl⟩;have hap:p.log.map eD++[[.str [101,114,114,111,114]]]=l1.map eD:=by rw[hl1];simp
   have e:mO p.log [101,114,114,111,114]=l1:=by unfold mO;rw[eM h,hl1]
   rw[e];clear e hl1;refine dN aK func64 ntmps64 ?_;have W:=aA hi (aA hap zh);refine wl ?_;exact aO results64
  .have hi:¬(p.log.length:Int)<40:=by omega
   have e:mO p.log [101,114,114,111,114]=p.log:=by unfold mO;rw[eC h]
   rw[e];clear e;refine dN aK func64 ntmps64 ?_;have W:=hi;refine wl ?_;exact aO results64
 rw[eM rfl];have hsl:dS nO p.aD<=1073741824:=by simp only[aM,dS]at*;omega
 have hsb:aV p.aC<=536870912:=by simp only[aM]at hs;omega
 have hqu:p.bT.length<=536870912:=by simp only[aM,dS]at hs;omega
 have c3:=Gw p hsl;obtain⟨hb1,hb2⟩:=Ey p;have hb1':(eX p).length<=536870912:=by simp only[aM,dS]at hs;omega
 have c4:=EU p.aC (eX p) l (by omega) b1 (λx hm=>by have:=b2 x hm;omega) (by omega) (λx hm=>by have:=hb2 x hm;omega) (zH p);obtain⟨z1,z2,z3,z4⟩:=CP 60 p.aC (eX p) l (by omega) b1 b2 (zH p) (by omega) l.length (eJ _);have hend:uU p.aC (eX p) l l.length=fQ p.aC (eX p) l:=by simp[uU]
 rw[hend]at z1 z2 z3 z4;have c5:=QM (fQ p.aC (eX p) l).2.1 (by omega);obtain⟨y1,y2⟩:=Ih (fQ p.aC (eX p) l).2.1;unfold jN;clear hb2 b2 hend;generalize eX p=ss at*;generalize fQ p.aC ss l=g at*;obtain⟨b,wr,lg⟩:=g;simp only at c4 c5 z1 z2 z3 z4 y1 y2⊢;generalize pF wr=tk at*;simp only[aH,aZ]at c1 c3 c4;refine dN aK func64 ntmps64 ?_;refine bZ ?_;obtain⟨Q,hQ⟩:∃Q:Nat->List bE,∀k,Q k=pO p.log (lg.take k):=⟨_,λ_=>rfl⟩;have hQ0:Q 0=p.log:=by rw[hQ];rfl
 have hQn:∀k,(¬k<lg.length\/¬(Q k).length<40)->pO p.log lg=Q k:=λk h=>by
  rw[hQ]at h⊢;rcases h with h|h
  .rw [eN (by omega)]
  .rw [ng _ _ _ h]
 have hQl:∀k,(Q k).length<=536870918:=λk=>by rw[hQ];have:=KV p.log (lg.take k);simp only[pL]at this⊢;omega
 have hQs:∀k (h:k<lg.length),(Q k).length<40->Q (k+1)=Q k++[lg[k]]:=λk h h4=>by rw[hQ,Ii _ _ _ h,<-hQ];unfold mO;rw[eM h4]
 refine aT (ι:={q:Nat×Nat // q.1<=lg.length/\1<=q.2}) (λt o i=>⟨bP t [(13,.int .i64 i.1.1),(15,.aB)],o.take 12++[⟨true,false,1,i.1.2,(Q i.1.1).map eD⟩,⟨true,true,22,0,[[.str p.gZ.bN,.str p.gZ.iD,.bool p.bO.zD,.obj 2 1,.obj 3 1,.obj 4 1,.str p.bO.uC,.str p.tok.rest,.obj 5 1,.bool p.uM,.obj 17 1,.obj 18 1,.obj 8 1,.obj 9 1,.obj 10 1,.int .i64 p.block,.int .i64 p.dZ,.int .i64 p.eH,.int .i64 p.fA,.obj 11 1,.obj 12 i.1.2,.bool p.dX]]⟩]++o.drop 14⟩)
  (λi=>lg.length-i.1.1) ⟨(0,1),by simp,by simp⟩ (aP (by simp[hQ0]) (by simp)) ?_
 rintro⟨⟨k,v⟩,hk,hv⟩ K1 hK1;simp only at hk hv;simp only[bP,cH,cQ,eV,gS,sX,DP,cW,eA]at hK1⊢;have hk1:=tQ (k:=k);have hl1:=hQl k;have aIa:=hQn k;have cz:=hQs k;clear hQn hQl hQs hQ0 hQ;by_cases wB:k<lg.length/\(Q k).length<40
 .obtain ⟨hlt,ML⟩:=wB;have hg:=aE hlt;have hnext:=cz hlt ML;have aY6:((Q k).length:Int)<40:=by omega
  clear cz aIa;generalize hqk:Q k=q at*;have W:=aA hk1 (aA hg (aA hlt (aA aY6 hl1)));refine wl ?_;all_goals refine hK1 _ ⟨(k+1,v+1),by simp only;omega,by simp only;omega⟩ (aQ 20 ?_ (by simp) (by simp) (by simp[eU])) (by simp only;omega)
  all_goals simp[hnext]
 .have hfin:=aIa (by omega);have hcase:¬k<lg.length\/(k<lg.length/\¬((Q k).length:Int)<40):=by omega
  rw[hfin];clear cz aIa hK1 wB hfin;generalize Q k=q at*;have hbq:(tk.length+p.bT.length)*64<=140737488355328:=by omega
  rcases hcase with hlt|⟨hlt,ML⟩
  .cases w
   .have W:=aA hk1 hlt;refine wl ?_;exact aO results64
   .rw [eM rfl];have W:=aA hk1 (aA hbq hlt);refine wl ?_;all_goals try(refine bA ?_;simp[bB,results64])
    all_goals (rw[<-pP];exact sU _)
  .cases w
   .have W:=aA hk1 (aA hlt ML);refine wl ?_;exact aO results64
   .rw [eM rfl];have W:=aA hk1 (aA hbq (aA hlt ML));refine wl ?_;all_goals try(refine bA ?_;simp[bB,results64])
    all_goals (rw[<-pP];exact sU _)
def Ud{α:Type}(f:α->Nat):∀a b:List α,bU f (a++b)=bU f a+bU f b
 |[],b=>by simp[bU]
 |x::xs,b=>by simp only[cW,bU,Ud f xs b];omega
def qH(b:bC)(t:bM):Option Nat:=
 if t.kind=2/\t.name=dY then
  match b.bD.getLast? with
  |some n=>if 1<=n/\(b.aJ[n.toNat]?).any (λx=>decide (x.name=dY))=true then some n.toNat else none
  |none=>none
 else none
def iV(p:aF)(t:bM)(q:List bM):aF:=
 match qH p.aC t with
 |some k=>pQ {p with bT:=q,aC:=(cZ p.aC t).1} k ((p.aC.aJ[k]?).elim [] (·.iH))
 |none=>if t.kind=1/\0<=(cZ p.aC t).2 then xC {p with bT:=q,aC:=(cZ p.aC t).1} t (cZ p.aC t).2 else {p with bT:=q,aC:=(cZ p.aC t).1}
def iB(p:aF):aF×Bool:=match p.bT with
 |[]=>(p,false)
 |t::q=>if p.block=0/\p.dZ=0 then(iV p t q,true)else(p,false)
def oz(b:bC)(t:bM):aV (cZ b t).1<=aV b+dU t+2:=by
 unfold cZ;split
 .have:=Qe b t.name (b.bD.length-1);simp only[aV,dS]at this⊢;omega
 .split
  .simp only;omega
  .split
   .simp only;omega
   .have h1:qP (nY b t)<=dU t:=by unfold nY;split<;>simp only[qP,dU,dS,fL,bU]<;>omega
    have h2:(if mU t=true then b.bD++[((b.aJ.length:Nat):Int)]else b.bD).length<=b.bD.length+1:=by split<;>simp
    simp only[aV,dS,eR,Ud,bU,eL,fL]at h1 h2⊢;omega
def wD{p:aF}{t:bM}{q:List bM}(h:p.bT=t::q):aM {p with bT:=q,aC:=(cZ p.aC t).1}<=aM p+2:=by have h1:=oz p.aC t;simp only[aM,h,dS,bU,eL]at h1⊢;omega
def rD{b:bC}{t:bM}(h:t.kind=2):(cZ b t).2= -1/\(cZ b t).1.aJ=b.aJ:=by rw[CY h];exact⟨rfl,rfl⟩
def zJ{b:bC}{t:bM}(h:¬(t.kind=2/\t.name=dY)):qH b t=none:=by unfold qH;rw[eC h]
def MQ{b:bC}{t:bM}(h:b.bD=[]):qH b t=none:=by unfold qH;rw[h];split<;>rfl
def Cg{b:bC}{t:bM}{os:List Int}{k:Nat}(h1:t.kind=2)(h2:t.name=dY)(h:b.bD=os++[((k:Nat):Int)])(hk:1<=k){nd:kG}(hg:b.aJ[k]? =some nd)(hn:nd.name=dY):qH b t=some k:=by unfold qH;rw[eM ⟨h1,h2⟩,h,getLast?_concat];simp only;rw[eM ⟨by omega,by rw[oB,hg];simpa using hn⟩];simp
def xR(p:aF)(k:Int):aF×Bool:=
 if 0<=k then match p.aD[k.toNat]? with
  |some s=>if s.done=true/\p.aD.all qL=true then({(if s.code=1 then gI p s.body true else p)with block:=0},true)else(p,false)
  |none=>({p with block:=0},true)
 else({p with block:=0},true)
def iC(p:aF):aF×Bool:=
 if p.dZ≠0 then(if p.aD.all qL=true then({gI p (pR p.aC p.dZ) true with dZ:=0},true)else(p,false))
 else if p.block≠0 then xR p (i64.wrap (p.block-1))
 else iB p
def Ug{α:Type}(f:α->Nat):∀{l:List α} {x:α},x∈l->f x<=bU f l
 |y::l,x,h=>by
  rcases mC.1 h with rfl|h
  .simp only[bU];omega
  .have:=Ug f h;simp only[bU];omega
def MS[aG prog](a:aR)(hl:aW a<=1099511627776):Ok prog 121 [.agg (aS a)] (.str (oG a)):=by
 have c1:=yF a (by omega);simp only[aW]at hl;have f1:a.bN.length<=9223372036854775806:=by omega
 have f2:a.bN.length+1<=9223372036854775807:=by omega
 have f3:a.bN.length+1+a.iD.length<=9223372036854775807:=by omega
 have f4:a.bN.length+(a.iD.length+1)<=9223372036854775807:=by omega
 refine dN aK func121 ntmps121 ?_;have W:=aA f1 (aA f2 (aA f3 f4));repeat' first|refine wg ?_|(refine sq ?_ ?_<;>intro hc<;>try exact hc.elim)|fail
 all_goals try(refine bA ?_;simp[bB,results121,oG])
 all_goals simp_all[oG]
def Dc(a:aR):(oG a).length<=17:=by
 unfold oG;split
 .rename_i h;simp[xV,dW]at h;simp;omega
 .simp
def MU[aG prog](a:aR)(hl:aW a<=1099511627776):Ok prog 81 [.agg (aS a)] (.str (oG a)):=by
 have c1:=Bg a (by omega);simp only[aW]at hl;have f1:a.bN.length<=9223372036854775806:=by omega
 have f2:a.bN.length+1<=9223372036854775807:=by omega
 have f3:a.bN.length+1+a.iD.length<=9223372036854775807:=by omega
 have f4:a.bN.length+(a.iD.length+1)<=9223372036854775807:=by omega
 refine dN aK func81 ntmps81 ?_;have W:=aA f1 (aA f2 (aA f3 f4));repeat' first|refine wg ?_|(refine sq ?_ ?_<;>intro hc<;>try exact hc.elim)|fail
 all_goals try(refine bA ?_;simp[bB,results81,oG])
 all_goals simp_all[oG]
def Be:List (Nat×Nat):=[(1,18),(2,19),(3,20),(4,21),(5,22),(6,23),(7,24),(8,25),(9,26),(10,27),(11,28)]
def aJu{t t':List AV}{o o':List aI}{n1 v1 n2 v2 n3 v3 n4 v4 n5 v5 n6 v6 n7 v7 n8 v8 n9 v9 n10 v10 n11 v11:Nat}{e1 e2 e3 e4 e5 e6 e7 e8 e9 e10 e11:List (List AV)}{o12 o13 o14 o15 o16 o17:aI}{q:aF}(ho:o=[⟨true,true,22,2,[Fj 18 q]⟩,⟨false,false,n1,v1,e1⟩,⟨false,false,n2,v2,e2⟩,⟨false,false,n3,v3,e3⟩,⟨false,false,n4,v4,e4⟩,⟨false,false,n5,v5,e5⟩,⟨false,false,n6,v6,e6⟩,⟨false,false,n7,v7,e7⟩,⟨false,false,n8,v8,e8⟩,⟨false,false,n9,v9,e9⟩,⟨false,false,n10,v10,e10⟩,⟨false,false,n11,v11,e11⟩,o12,o13,o14,o15,o16,o17]++Fh q)
  (ho':o'=[⟨true,true,22,2,[Fj 1 q]⟩]++Fh q++[o12,o13]) (ht:∀z∈Be,wk (uG z.1 z.2 t') t') (hf:∀z∈Be,o12.oM z.1 z.2=o12/\o13.oM z.1 z.2=o13/\o14.oM z.1 z.2=o14/\o15.oM z.1 z.2=o15/\o16.oM z.1 z.2=o16/\o17.oM z.1 z.2=o17) (hw:wk t t') (hc:iK 14 t'=true) (hc0:eU 14 [o12,o13]=true):mZ ⟨t,o⟩ ⟨t',o'⟩:=by
 subst ho;subst ho';have e:=λi j (h:(i,j)∈Be)=>hf (i,j) h
 have h:=λi j (h:(i,j)∈Be)=>ht (i,j) h
 simp only[Fh,Fj,cW,eA];refine(zS hw).trans ?_;refine(bI 1 18 rfl rfl ⟨rfl,rfl⟩ (by simp[(e 1 18 (by decide))];rfl) (h 1 18 (by decide))).trans ?_;refine(bI 2 19 rfl rfl ⟨rfl,rfl⟩ (by simp[(e 2 19 (by decide))];rfl) (h 2 19 (by decide))).trans ?_;refine(bI 3 20 rfl rfl ⟨rfl,rfl⟩ (by simp[(e 3 20 (by decide))];rfl) (h 3 20 (by decide))).trans ?_;refine(bI 4 21 rfl rfl ⟨rfl,rfl⟩ (by simp[(e 4 21 (by decide))];rfl) (h 4 21 (by decide))).trans ?_;refine(bI 5 22 rfl rfl ⟨rfl,rfl⟩ (by simp[(e 5 22 (by decide))];rfl) (h 5 22 (by decide))).trans ?_;refine(bI 6 23 rfl rfl ⟨rfl,rfl⟩ (by simp[(e 6 23 (by decide))];rfl) (h 6 23 (by decide))).trans ?_;refine(bI 7 24 rfl rfl ⟨rfl,rfl⟩ (by simp[(e 7 24 (by decide))];rfl) (h 7 24 (by decide))).trans ?_;refine(bI 8 25 rfl rfl ⟨rfl,rfl⟩ (by simp[(e 8 25 (by decide))];rfl) (h 8 25 (by decide))).trans ?_;refine(bI 9 26 rfl rfl ⟨rfl,rfl⟩ (by simp[(e 9 26 (by decide))];rfl) (h 9 26 (by decide))).trans ?_;refine(bI 10 27 rfl rfl ⟨rfl,rfl⟩ (by simp[(e 10 27 (by decide))];rfl) (h 10 27 (by decide))).trans ?_;refine(bI 11 28 rfl rfl ⟨rfl,rfl⟩ (by simp[(e 11 28 (by decide))];rfl) (h 11 28 (by decide))).trans ?_;refine aQ 14 (by simp) (oH _) hc ?_;simpa [eU,iK,closed]using hc0
end Go.Proofs.YtanobkmhbpjnpaaGreatDoor
