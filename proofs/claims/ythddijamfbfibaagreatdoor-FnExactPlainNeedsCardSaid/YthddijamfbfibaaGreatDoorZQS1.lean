/- Proved here: steps towards the statement of this claim. No condition. -/
import Derived.Test.YthddijamfbfibaaGreatDoorZQR4
import Derived.Test.YthddijamfbfibaaGreatDoorZQ1
import Derived.Test.YthddijamfbfibaaGreatDoorZQY1
import Derived.Lib.SlicesCompact
import Derived.Sort.WalkB12
set_option linter.all false
set_option maxRecDepth 4000
set_option maxHeartbeats 4000000
namespace Go.Proofs.YthddijamfbfibaaGreatDoor
open Go.Aw Proofs.Tryz List IntKind
theorem XT[aB prog][bQ prog](s:bB)(c:UInt8)(hs:s.length<4294967281):Ok prog 150 [.str s,.str [c]] (.sl .own 1 ((dE c s).map dC)):=SE Tryz.laysM146 (by kernel_rfl) s c hs
def gW:bT:=⟨0,[],[],[]⟩
def uB(w:bB):bB:=w.take (iK 61 w)
def wT(w:bB):bB:=w.drop (iK 61 w+1)
def iE:List bB->List oU->Option (List oU)
 |[],acc=>some acc
 |w::ws,acc=>if (decide (iK 61 w<w.length)&&cZ (uB w)&&isValue (wT w)&& !(aW acc (uB w)).2)=true then iE ws (acc++[⟨uB w,wT w⟩])else none
def FR(w0:bB)(ws:List bB):bT×Bool:=
 if cZ w0=true/\ws.length<=4 then(match iE ws []with
  |some l=>(⟨1,w0,l,[]⟩,true)
  |none=>(gW,false))else(gW,false)
def sI(s:bB):bT×Bool:=
 if 60<s.length then(gW,false)
 else if CJ [47] s=true then(if cZ (s.drop 1)=true then(⟨2,s.drop 1,[],[]⟩,true)else(gW,false))
 else FR (s.take (iK 32 s)) (if iK 32 s<s.length then dE 32 (s.drop (iK 32 s+1))else [])
theorem vP(c:UInt8)(s:bB):dE c s=s.take (iK c s)::(if iK c s<s.length then dE c (s.drop (iK c s+1))else []):=by
 rw[NJ];have h:=vI c s;split
 .rfl
 .rw [cX (by omega)]
theorem TM{w0:bB}{ws:List bB}(h:¬(cZ w0=true/\ws.length<=4)):FR w0 ws=(gW,false):=by unfold FR;rw[cY h]
theorem TN{w0:bB}{ws:List bB}(h:iE ws []=none):FR w0 ws=(gW,false):=by unfold FR;rw[h];split<;>rfl
theorem TP{w0:bB}{ws:List bB}{l:List oU}(h1:cZ w0=true)(h2:ws.length<=4)(h:iE ws []=some l):FR w0 ws=(⟨1,w0,l,[]⟩,true):=by unfold FR;rw[h,eK ⟨h1,h2⟩]
theorem Fj:∀(ws:List bB) (acc l:List oU),iE ws acc=some l->l.length=acc.length+ws.length
 |[],acc,l,h=>by simp only[iE,eE]at h;subst h;simp
 |w::ws,acc,l,h=>by
  simp only[iE]at h;split at h
  .have:=Fj ws _ l h;simp at this⊢;omega
  .cases h
theorem Py:∀(ws:List bB) (acc l:List oU),iE ws acc=some l->bP oZ l<=bP oZ acc+aY gJ ws
 |[],acc,l,h=>by simp only[iE,eE]at h;subst h;simp[aY]
 |w::ws,acc,l,h=>by
  simp only[iE]at h;split at h
  .rename_i hc;simp only[eI,fN]at hc;have:=Py ws _ l h;have hj:∀a b:List oU,aY oZ (a++b)=aY oZ a+aY oZ b:=by
    intro a b;induction a with
    |nil=>simp[aY]
    |cons x xs ih=>simp only[eA,aY,ih];omega
   simp only[bP,hj,aY,oZ,uB,wT,eR,oT,AE,eN,eV,gJ]at this⊢;omega
  .cases h
theorem BK(c:UInt8):∀s:bB,aY gJ (dE c s)<=s.length
 |[]=>by simp[dE,aY,gJ]
 |x::s=>by
  have ih:=BK c s;simp only[dE];split
  .simp only[aY,gJ,eV,eN]at ih⊢;omega
  .split
   .rename_i h0;exact absurd h0 (rH c s)
   .rename_i p q h0;rw[h0]at ih;simp only[aY,gJ,eN]at ih⊢;omega
theorem aHd(s:bB):bW (sI s).1<=s.length:=by
 have hn:bW gW=0:=by simp[gW,bW,bP,aY]
 unfold sI;split
 .simp only[hn];omega
 .split
  .split
   .simp [bW,bP,aY]
   .simp only[hn];omega
  .have hs:=BK 32 s;rw[vP]at hs;simp only[aY,gJ]at hs;generalize (if iK 32 s<s.length then dE 32 (s.drop (iK 32 s+1))else [])=ws at*;unfold FR;split
   .split
    .rename_i l hl;have:=Py ws [] l hl;simp only[bW,bP,aY,eV]at this⊢;omega
    .simp only[hn];omega
   .simp only[hn];omega
theorem Zo[aB prog][bQ prog](s:bB)(hl:s.length<=1099511627776):Ok prog 168 [.str s] (.gM [.agg (cB .own (sI s).1),.bool (sI s).2]):=by
 by_cases h60:(60:Int)<(s.length:Int)
 .have hr:sI s=(gW,false):=by unfold sI;rw[eK (by omega)]
  rw[hr];refine xZ aG func168 ntmps168 ?_;have W:=h60;refine we ?_;all_goals (try first|(refine aR (.inl ?_);simp[aP,results168,gW];done)|(refine aR (.inr (dN ?_));simp[AS.yO,AS.wY,AS.rv,results168,gW]))
 have c0:=Fb s [47] hl (by simp);cases hp:CJ [47] s;case true=>
  rw[hp]at c0;simp only[gE]at c0;have c1:=gL (s.drop 1) (by simp;omega);simp only[eN,eV,hY,Nat.reduceAdd]at c0;generalize hs1:s.drop 1=s1 at*;cases hn:cZ s1
  .have hr:sI s=(gW,false):=by unfold sI;rw[cY (by omega),eK hp,hs1,hn];rfl
   rw[hr];rw[hn]at c1;refine xZ aG func168 ntmps168 ?_;have W:=h60;refine we ?_;all_goals (try first|(refine aR (.inl ?_);simp[aP,results168,gW];done)|(refine aR (.inr (dN ?_));simp[AS.yO,AS.wY,AS.rv,results168,gW]))
  .have hr:sI s=(⟨2,s1,[],[]⟩,true):=by unfold sI;rw[cY (by omega),eK hp,hs1,hn];rfl
   rw[hr];rw[hn]at c1;refine xZ aG func168 ntmps168 ?_;have W:=h60;refine we ?_;all_goals (try exact GJ results168)
 case false=>
  rw[hp]at c0;simp only[eS,hM]at c0;have hr:sI s=FR (s.take (iK 32 s)) (if iK 32 s<s.length then dE 32 (s.drop (iK 32 s+1))else []):=by unfold sI;rw[cY (by omega),cY (by rw[hp];simp)]
  have c2:=XT s 32 (by omega);have hsl:=iV 32 s;have hcn:s.count 32<=s.length:=pP;have hsm:=BK 32 s;rw[vP]at c2 hsl hsm;rw[hr];have c1:=gL (s.take (iK 32 s)) (by simp;omega);generalize (if iK 32 s<s.length then dE 32 (s.drop (iK 32 s+1))else [])=ws at*;generalize s.take (iK 32 s)=w0 at*;simp only[aY,gJ,eN]at hsl hsm;simp only[mB]at c2;clear hr hp;have hw1:i64.wrap ((ws.length:Int)+1-1)=(ws.length:Int):=by rw[wrap64]<;>omega
  have htk:List.take ws.length (ws.map dC)=ws.map dC:=cX (by simp);cases hn:cZ w0
  .rw [TM (by rw[hn];simp)];rw[hn]at c1;refine xZ aG func168 ntmps168 ?_;have W:=aA h60 hw1;refine we ?_;all_goals (try first|(refine aR (.inl ?_);simp[aP,results168,gW];done)|(refine aR (.inr (dN ?_));simp[AS.yO,AS.wY,AS.rv,results168,gW]))
  rw[hn]at c1;by_cases h4:(4:Int)<(ws.length:Int)
  .rw [TM (by omega)];refine xZ aG func168 ntmps168 ?_;have W:=aA h60 (aA hw1 h4);refine we ?_;all_goals (try first|(refine aR (.inl ?_);simp[aP,results168,gW];done)|(refine aR (.inr (dN ?_));simp[AS.yO,AS.wY,AS.rv,results168,gW]))
  have Cf:=λh=>TN (w0:=w0) (ws:=ws) h
  have LZ:=λl=>TP (w0:=w0) (ws:=ws) (l:=l) hn (by omega)
  generalize FR w0 ws=res at*;refine xZ aG func168 ntmps168 ?_;have W:=aA h60 (aA hw1 (aA h4 htk));refine we ?_;refine aM (ι:={q:Nat×Nat×List oU // (q.1<=ws.length/\1<=q.2.1)/\q.2.2.length=q.1/\iE ws []=iE (ws.drop q.1) q.2.2}) (λt o i=>⟨bC t [(52,.int .i64 i.1.1),(48,.undef)],[⟨true,true,4,0,[[.int .i64 0,.str [],.sl .own 2 [],.str []]]⟩,⟨true,false,1,2,ws.map dC⟩,⟨true,true,4,0,[[.int .i64 1,.str w0,.obj 3 i.1.2.1,.str []]]⟩,⟨true,false,2,i.1.2.1,i.1.2.2.map uX⟩]⟩)
   (λi=>ws.length-i.1.1) ⟨(0,1,[]),by simp,by simp,by simp⟩ (vN 2 0 2 (ob:=⟨true,true,4,0,[[.int .i64 1,.str w0,.sl .own 2 [],.str []]]⟩) (by rfl) (by rfl) (by rfl) (by simp) (by rfl) (by rfl) (by simp) (by simp[xO,rt,iU])) ?_
  rintro⟨⟨k,v,acc⟩,⟨hk,hv⟩,xJ,rO⟩ K1 hK1;simp only at hk hv xJ rO;simp only[bC,cW,cU]at hK1⊢;have hk1:=oQ (k:=k);by_cases hlt:k<ws.length
  .have hg:=aE hlt;have hwz:=dI gJ ws k hlt;rw[mC hlt]at rO;simp only[gJ]at hwz;have cC:=Ab ws[k] 61 (by omega);have cN:=gL (uB ws[k]) (by simp[uB];omega);have cV:=BV (wT ws[k]) (by simp[wT];omega);have cF:=nD acc (uB ws[k]) (by omega);have jZ:(decide (iK 61 ws[k]<ws[k].length)&&cZ (uB ws[k])&&isValue (wT ws[k])&& !(aW acc (uB ws[k])).2)=false->res=(gW,false):=λh=>Cf (by rw[rO];simp only[iE];rw[h];rfl)
   have hnext:(decide (iK 61 ws[k]<ws[k].length)&&cZ (uB ws[k])&&isValue (wT ws[k])&& !(aW acc (uB ws[k])).2)=true->iE ws []=iE (ws.drop (k+1)) (acc++[⟨uB ws[k],wT ws[k]⟩]):=λh=>by rw[rO];simp only[iE];rw[eK h]
   change Ok _ _ _ (.gM [.str (uB ws[k]),.str (wT ws[k]),.bool (decide (iK 61 ws[k]<ws[k].length))])at cC;clear rO Cf LZ;generalize decide (iK 61 ws[k]<ws[k].length)=b1 at*;generalize cZ (uB ws[k])=b2 at*;generalize isValue (wT ws[k])=b3 at*;generalize aW acc (uB ws[k])=fa at*;obtain⟨fv,b4⟩:=fa;generalize uB ws[k]=ky at*;generalize wT ws[k]=vl at*;simp only at cF jZ hnext;cases b1
   .rw [jZ (by simp)];clear jZ hnext hK1;have W:=aA hk1 (aA hg hlt);refine we ?_;all_goals (try first|(refine aR (.inl ?_);simp[aP,results168,gW];done)|(refine aR (.inr (dN ?_));simp[AS.yO,AS.wY,AS.rv,results168,gW]))
   cases b2
   .rw [jZ (by simp)];clear jZ hnext hK1;have W:=aA hk1 (aA hg hlt);refine we ?_;all_goals (try first|(refine aR (.inl ?_);simp[aP,results168,gW];done)|(refine aR (.inr (dN ?_));simp[AS.yO,AS.wY,AS.rv,results168,gW]))
   cases b3
   .rw [jZ (by simp)];clear jZ hnext hK1;have W:=aA hk1 (aA hg hlt);refine we ?_;all_goals (try first|(refine aR (.inl ?_);simp[aP,results168,gW];done)|(refine aR (.inr (dN ?_));simp[AS.yO,AS.wY,AS.rv,results168,gW]))
   cases b4
   .have hn2:=hnext (by simp);clear jZ hnext;have W:=aA hk1 (aA hg hlt);refine we ?_;all_goals refine hK1 _ ⟨(k+1,v+1,acc++[⟨ky,vl⟩]),⟨by simp only;omega,by simp only;omega⟩,by simp;omega,hn2⟩ (aT 4) (by simp only;omega)
   .rw [jZ (by simp)];clear jZ hnext hK1;have W:=aA hk1 (aA hg hlt);refine we ?_;all_goals (try first|(refine aR (.inl ?_);simp[aP,results168,gW];done)|(refine aR (.inr (dN ?_));simp[AS.yO,AS.wY,AS.rv,results168,gW]))
  .have Gf:ws.drop k=[]:=AH (by omega);rw[Gf]at rO;rw[LZ acc (by rw[rO];rfl)];clear hK1;have W:=hk1;refine we ?_;all_goals (try exact GJ results168)
end Go.Proofs.YthddijamfbfibaaGreatDoor
set_option maxRecDepth 4000
set_option maxHeartbeats 4000000
namespace Go.Proofs.YthddijamfbfibaaGreatDoor
open Go.Aw Proofs.Tryz List IntKind
theorem oz{w:bB}(h:(dE 61 w).length=2):iK 61 w<w.length/\dE 61 w=[uB w,wT w]:=by
 rw[vP]at h⊢;by_cases hi:iK 61 w<w.length
 .rw [eK hi]at h⊢;refine⟨hi,?_⟩;rw[vP]at h⊢;by_cases h2:iK 61 (w.drop (iK 61 w+1))<(w.drop (iK 61 w+1)).length
  .rw [eK h2]at h;have:=rH 61 ((w.drop (iK 61 w+1)).drop (iK 61 (w.drop (iK 61 w+1))+1));have hl:=Dg.2 this;simp only[eN]at h;omega
  .rw [cY h2];have hle:=vI 61 (w.drop (iK 61 w+1));rw[cX (l:=w.drop (iK 61 w+1)) (by omega)];rfl
 .rw [cY hi]at h;simp at h
theorem pg{w:bB}(h:iK 61 w<w.length)(hv:isValue (wT w)=true):(dE 61 w).length=2:=by
 have DT:∀x∈wT w,x≠61:=by intro x hx;simp only[isValue,eI]at hv;have:=fR.1 hv.1 x hx;rintro rfl;simp[xC]at this
 rw[vP,eK h];have:=BU 61 (wT w) DT;unfold wT at this;rw[this];rfl
theorem Zt[aB prog][bQ prog](s:bB)(hl:s.length<=1099511627776):Ok prog 131 [.str s] (.gM [.agg (cB .own (sI s).1),.bool (sI s).2]):=by
 by_cases h60:(60:Int)<(s.length:Int)
 .have hr:sI s=(gW,false):=by unfold sI;rw[eK (by omega)]
  rw[hr];refine xZ aG func131 ntmps131 ?_;have W:=h60;refine we ?_;all_goals (try first|(refine aR (.inl ?_);simp[aP,results131,gW];done)|(refine aR (.inr (dN ?_));simp[AS.yO,AS.wY,AS.rv,results131,gW]))
 cases hp:CJ [47] s;case true=>
  have c1:=fD (s.drop 1) (by simp;omega);have hlen:=Tx hp;simp only[eN,eV,hY]at hlen;cases s with
  |nil=>simp at hlen
  |cons x s1=>
   obtain rfl:x=47:=by simpa [CJ]using hp
   have h61:¬(60:Int)<(s1.length:Int)+1:=by simp only[eN]at h60;omega
   simp only[pL,AW]at c1;cases hn:cZ s1
   .have hr:sI (47::s1)=(gW,false):=by unfold sI;rw[cY (by omega),eK hp];simp[hn]
    rw[hr];rw[hn]at c1;clear hp;refine xZ aG func131 ntmps131 ?_;have W:=h61;refine we ?_;all_goals (try first|(refine aR (.inl ?_);simp[aP,results131,gW];done)|(refine aR (.inr (dN ?_));simp[AS.yO,AS.wY,AS.rv,results131,gW]))
   .have hr:sI (47::s1)=(⟨2,s1,[],[]⟩,true):=by unfold sI;rw[cY (by omega),eK hp];simp[hn]
    rw[hr];rw[hn]at c1;clear hp;refine xZ aG func131 ntmps131 ?_;have W:=h61;refine we ?_;all_goals (try exact GJ results131)
 case false=>
  have hr:sI s=FR (s.take (iK 32 s)) (if iK 32 s<s.length then dE 32 (s.drop (iK 32 s+1))else []):=by unfold sI;rw[cY (by omega),cY (by rw[hp];simp)]
  have c2:Ok prog 115 [.str s,.int .u8 32] (.sl .own 1 ((dE 32 s).map dC)):=xG s 32 (by omega);have hsl:=iV 32 s;have hcn:s.count 32<=s.length:=pP;have hsm:=BK 32 s;rw[hr];have c1:=fD (s.take (iK 32 s)) (by simp;omega);have hLc:=vP 32 s;generalize (if iK 32 s<s.length then dE 32 (s.drop (iK 32 s+1))else [])=ws at*;generalize s.take (iK 32 s)=w0 at*;generalize dE 32 s=L at*;have hL0:L[0]? =some w0:=by rw[hLc];rfl
  have hLd:L.drop 1=ws:=by rw[hLc];rfl
  have hLl:L.length=ws.length+1:=by rw[hLc];rfl
  have Cf:=λh=>TN (w0:=w0) (ws:=ws) h
  have LZ:=λl=>TP (w0:=w0) (ws:=ws) (l:=l)
  have DT:=TM (w0:=w0) (ws:=ws);generalize FR w0 ws=res at*;clear hr hLc;have aPv:s=[]\/∃x r,s=x::r/\¬((x.toNat:Int)=47):=by
   cases s with
   |nil=>exact .inl rfl
   |cons x r=>refine .inr ⟨x,r,rfl,λh=> ?_⟩;have:x=47:=CD.1 (by simp;omega);subst this;simp[CJ]at hp
  clear hp;rcases aPv with rfl|⟨x,r,rfl,hx⟩
  .refine xZ aG func131 ntmps131 ?_;have W:=aA h60 hL0;refine we ?_;refine aM (ι:={q:Nat×Nat×List oU // (q.1<=L.length/\1<=q.2.1)/\q.2.2.length+1=q.1/\iE ws []=iE (L.drop q.1) q.2.2}) (λt o i=>⟨bC t [(6,.int .i64 i.1.1),(35,.undef)],[⟨true,true,4,0,[[.int .i64 0,.str [],.sl .own 2 [],.str []]]⟩,⟨true,false,1,1,L.map dC⟩,⟨true,true,4,0,[[.int .i64 1,.str w0,.obj 3 i.1.2.1,.str []]]⟩,⟨true,false,2,i.1.2.1,i.1.2.2.map uX⟩]⟩)
    (λi=>L.length-i.1.1) ⟨(1,1,[]),by simp only;omega,by simp,by rw[hLd]⟩ (vN 2 0 2 (ob:=⟨true,true,4,0,[[.int .i64 1,.str w0,.sl .own 2 [],.str []]]⟩) (by rfl) (by rfl) (by rfl) (by simp) (by rfl) (by rfl) (by simp) (by simp[xO,rt,iU])) ?_
   rintro⟨⟨k,v,acc⟩,⟨hk,hv⟩,xJ,rO⟩ K1 hK1;simp only at hk hv xJ rO;simp only[bC,cW,cU]at hK1⊢;have hk1:=oQ (k:=k);by_cases hlt:k<L.length
   .have hg:=aE hlt;have hwz:=dI gJ L k hlt;rw[mC hlt]at rO;simp only[gJ]at hwz;have cS:Ok prog 115 [.str L[k],.int .u8 61] (.sl .own 1 ((dE 61 L[k]).map dC)):=xG L[k] 61 (by omega);have cN:=fD (uB L[k]) (by simp[uB];omega);have cV:=yK (wT L[k]) (by simp[wT];omega);have cF:=lF acc (uB L[k]) (by omega);have jZ:(decide (iK 61 L[k]<L[k].length)&&cZ (uB L[k])&&isValue (wT L[k])&& !(aW acc (uB L[k])).2)=false->res=(gW,false):=λh=>Cf (by rw[rO];simp only[iE];rw[h];rfl)
    have hnext:(decide (iK 61 L[k]<L[k].length)&&cZ (uB L[k])&&isValue (wT L[k])&& !(aW acc (uB L[k])).2)=true->iE ws []=iE (L.drop (k+1)) (acc++[⟨uB L[k],wT L[k]⟩]):=λh=>by rw[rO];simp only[iE];rw[eK h]
    have K8:=oz (w:=L[k]);have hback:=pg (w:=L[k]);have Oa:=iV 61 L[k];have hsc:L[k].count 61<=L[k].length:=pP;clear rO Cf LZ DT;by_cases h2:(dE 61 L[k]).length=2
    .obtain ⟨hi,hsg⟩:=K8 h2;rw[hsg]at cS;simp only[mB,DG,dC]at cS;rw[tA hi]at jZ hnext;clear K8 hback h2 hsg Oa hsc hi;generalize cZ (uB L[k])=b2 at*;generalize isValue (wT L[k])=b3 at*;generalize aW acc (uB L[k])=fa at*;obtain⟨fv,b4⟩:=fa;generalize uB L[k]=ky at*;generalize wT L[k]=vl at*;simp only at cF jZ hnext;cases b2
     .rw [jZ (by simp)];clear jZ hnext hK1;have W:=aA hk1 (aA hg hlt);refine we ?_;all_goals (try first|(refine aR (.inl ?_);simp[aP,results131,gW];done)|(refine aR (.inr (dN ?_));simp[AS.yO,AS.wY,AS.rv,results131,gW]))
     cases b3
     .rw [jZ (by simp)];clear jZ hnext hK1;have W:=aA hk1 (aA hg hlt);refine we ?_;all_goals (try first|(refine aR (.inl ?_);simp[aP,results131,gW];done)|(refine aR (.inr (dN ?_));simp[AS.yO,AS.wY,AS.rv,results131,gW]))
     cases b4
     .have hn2:=hnext (by simp);clear jZ hnext;have W:=aA hk1 (aA hg hlt);refine we ?_;all_goals refine hK1 _ ⟨(k+1,v+1,acc++[⟨ky,vl⟩]),⟨by simp only;omega,by simp only;omega⟩,by simp;omega,hn2⟩ (aT 4) (by simp only;omega)
     .rw [jZ (by simp)];clear jZ hnext hK1;have W:=aA hk1 (aA hg hlt);refine we ?_;all_goals (try first|(refine aR (.inl ?_);simp[aP,results131,gW];done)|(refine aR (.inr (dN ?_));simp[AS.yO,AS.wY,AS.rv,results131,gW]))
    .have jK:res=(gW,false):=jZ (by
      cases hi:decide (iK 61 L[k]<L[k].length)
      .simp
      .cases hv2:isValue (wT L[k])
       .simp
       .exact absurd (hback (of_decide_eq_true hi) hv2) h2)
     rw[jK];have h2':¬(((dE 61 L[k]).length:Int)=2):=by omega
     clear jZ hnext hK1 K8 hback jK h2;generalize dE 61 L[k]=sg at*;have W:=aA hk1 (aA hg (aA hlt h2'));refine we ?_;all_goals (try first|(refine aR (.inl ?_);simp[aP,results131,gW];done)|(refine aR (.inr (dN ?_));simp[AS.yO,AS.wY,AS.rv,results131,gW]))
   .have Gf:L.drop k=[]:=AH (by omega);rw[Gf]at rO;have hal:=Fj ws [] acc (by rw[rO];rfl);have hs2:=λh1 h2=>LZ acc h1 h2 (by rw[rO];rfl)
    clear hK1 rO LZ Cf;cases hn:cZ w0
    .rw [DT (by rw[hn];simp)];rw[hn]at c1;have W:=hk1;refine we ?_;all_goals (try first|(refine aR (.inl ?_);simp[aP,results131,gW];done)|(refine aR (.inr (dN ?_));simp[AS.yO,AS.wY,AS.rv,results131,gW]))
    .rw [hn]at c1;by_cases h4:(4:Int)<(acc.length:Int)
     .exfalso;simp only[eV,count_nil]at hal hsl;omega
     .rw [hs2 hn (by simp only[eV]at hal;omega)];have W:=aA hk1 h4;refine we ?_;all_goals (try exact GJ results131)
  .have h61:¬(60:Int)<(r.length:Int)+1:=by simp only[eN]at h60;omega
   refine xZ aG func131 ntmps131 ?_;have W:=aA h61 (aA hx hL0);refine we ?_;refine aM (ι:={q:Nat×Nat×List oU // (q.1<=L.length/\1<=q.2.1)/\q.2.2.length+1=q.1/\iE ws []=iE (L.drop q.1) q.2.2}) (λt o i=>⟨bC t [(6,.int .i64 i.1.1),(35,.undef)],[⟨true,true,4,0,[[.int .i64 0,.str [],.sl .own 2 [],.str []]]⟩,⟨true,false,1,1,L.map dC⟩,⟨true,true,4,0,[[.int .i64 1,.str w0,.obj 3 i.1.2.1,.str []]]⟩,⟨true,false,2,i.1.2.1,i.1.2.2.map uX⟩]⟩)
    (λi=>L.length-i.1.1) ⟨(1,1,[]),by simp only;omega,by simp,by rw[hLd]⟩ (vN 2 0 2 (ob:=⟨true,true,4,0,[[.int .i64 1,.str w0,.sl .own 2 [],.str []]]⟩) (by rfl) (by rfl) (by rfl) (by simp) (by rfl) (by rfl) (by simp) (by simp[xO,rt,iU])) ?_
   rintro⟨⟨k,v,acc⟩,⟨hk,hv⟩,xJ,rO⟩ K1 hK1;simp only at hk hv xJ rO;simp only[bC,cW,cU]at hK1⊢;have hk1:=oQ (k:=k);by_cases hlt:k<L.length
   .have hg:=aE hlt;have hwz:=dI gJ L k hlt;rw[mC hlt]at rO;simp only[gJ]at hwz;have cS:Ok prog 115 [.str L[k],.int .u8 61] (.sl .own 1 ((dE 61 L[k]).map dC)):=xG L[k] 61 (by omega);have cN:=fD (uB L[k]) (by simp[uB];omega);have cV:=yK (wT L[k]) (by simp[wT];omega);have cF:=lF acc (uB L[k]) (by omega);have jZ:(decide (iK 61 L[k]<L[k].length)&&cZ (uB L[k])&&isValue (wT L[k])&& !(aW acc (uB L[k])).2)=false->res=(gW,false):=λh=>Cf (by rw[rO];simp only[iE];rw[h];rfl)
    have hnext:(decide (iK 61 L[k]<L[k].length)&&cZ (uB L[k])&&isValue (wT L[k])&& !(aW acc (uB L[k])).2)=true->iE ws []=iE (L.drop (k+1)) (acc++[⟨uB L[k],wT L[k]⟩]):=λh=>by rw[rO];simp only[iE];rw[eK h]
    have K8:=oz (w:=L[k]);have hback:=pg (w:=L[k]);have Oa:=iV 61 L[k];have hsc:L[k].count 61<=L[k].length:=pP;clear rO Cf LZ DT;by_cases h2:(dE 61 L[k]).length=2
    .obtain ⟨hi,hsg⟩:=K8 h2;rw[hsg]at cS;simp only[mB,DG,dC]at cS;rw[tA hi]at jZ hnext;clear K8 hback h2 hsg Oa hsc hi;generalize cZ (uB L[k])=b2 at*;generalize isValue (wT L[k])=b3 at*;generalize aW acc (uB L[k])=fa at*;obtain⟨fv,b4⟩:=fa;generalize uB L[k]=ky at*;generalize wT L[k]=vl at*;simp only at cF jZ hnext;cases b2
     .rw [jZ (by simp)];clear jZ hnext hK1;have W:=aA hk1 (aA hg hlt);refine we ?_;all_goals (try first|(refine aR (.inl ?_);simp[aP,results131,gW];done)|(refine aR (.inr (dN ?_));simp[AS.yO,AS.wY,AS.rv,results131,gW]))
     cases b3
     .rw [jZ (by simp)];clear jZ hnext hK1;have W:=aA hk1 (aA hg hlt);refine we ?_;all_goals (try first|(refine aR (.inl ?_);simp[aP,results131,gW];done)|(refine aR (.inr (dN ?_));simp[AS.yO,AS.wY,AS.rv,results131,gW]))
     cases b4
     .have hn2:=hnext (by simp);clear jZ hnext;have W:=aA hk1 (aA hg hlt);refine we ?_;all_goals refine hK1 _ ⟨(k+1,v+1,acc++[⟨ky,vl⟩]),⟨by simp only;omega,by simp only;omega⟩,by simp;omega,hn2⟩ (aT 4) (by simp only;omega)
     .rw [jZ (by simp)];clear jZ hnext hK1;have W:=aA hk1 (aA hg hlt);refine we ?_;all_goals (try first|(refine aR (.inl ?_);simp[aP,results131,gW];done)|(refine aR (.inr (dN ?_));simp[AS.yO,AS.wY,AS.rv,results131,gW]))
    .have jK:res=(gW,false):=jZ (by
      cases hi:decide (iK 61 L[k]<L[k].length)
      .simp
      .cases hv2:isValue (wT L[k])
       .simp
       .exact absurd (hback (of_decide_eq_true hi) hv2) h2)
     rw[jK];have h2':¬(((dE 61 L[k]).length:Int)=2):=by omega
     clear jZ hnext hK1 K8 hback jK h2;generalize dE 61 L[k]=sg at*;have W:=aA hk1 (aA hg (aA hlt h2'));refine we ?_;all_goals (try first|(refine aR (.inl ?_);simp[aP,results131,gW];done)|(refine aR (.inr (dN ?_));simp[AS.yO,AS.wY,AS.rv,results131,gW]))
   .have Gf:L.drop k=[]:=AH (by omega);rw[Gf]at rO;have hal:=Fj ws [] acc (by rw[rO];rfl);have hs2:=λh1 h2=>LZ acc h1 h2 (by rw[rO];rfl)
    clear hK1 rO LZ Cf;cases hn:cZ w0
    .rw [DT (by rw[hn];simp)];rw[hn]at c1;have W:=hk1;refine we ?_;all_goals (try first|(refine aR (.inl ?_);simp[aP,results131,gW];done)|(refine aR (.inr (dN ?_));simp[AS.yO,AS.wY,AS.rv,results131,gW]))
    .rw [hn]at c1;by_cases h4:(4:Int)<(acc.length:Int)
     .rw [DT (by simp only[eV]at hal;omega)];have W:=aA hk1 h4;refine we ?_;all_goals (try first|(refine aR (.inl ?_);simp[aP,results131,gW];done)|(refine aR (.inr (dN ?_));simp[AS.yO,AS.wY,AS.rv,results131,gW]))
     .rw [hs2 hn (by simp only[eV]at hal;omega)];have W:=aA hk1 h4;refine we ?_;all_goals (try exact GJ results131)
end Go.Proofs.YthddijamfbfibaaGreatDoor
set_option maxRecDepth 100000
set_option maxHeartbeats 4000000
namespace Go.Proofs.YthddijamfbfibaaGreatDoor
open Go.Aw Go.Shelf Go.RowKit Go.Lib Go.Sort Proofs.Tryz List IntKind
theorem wo(d:Array aD)(i:Nat)(x:aD)(hi:i<d.size):setMany (flatK iJ 2 d) (i*2) (iJ x)=flatK iJ 2 (d.setIfInBounds i x):=by
 refine ext_get! (by simp) λt ht=> ?_
 have ht':t<d.size*2:=by simpa using ht
 rw[get_setMany _ _ _ t (by simpa using ht'),get_flatK _ _ _ t ht',get_flatK _ _ _ t (by simpa using ht')];have m:∀q,t/2=q->t-q*2=t%2:=λq h=>by subst h;rw[Nat.mod_eq_sub_div_mul]
 have hlen:(iJ x).length=2:=rfl;rw[hlen];by_cases b:t/2=i
 .rw [eK ((blk_iff 2 i t (by omega)).2 b),m i b,b];simp[hi]
 .rw [cY (λh=>b ((blk_iff 2 i t (by omega)).1 h))]
  have:(d.setIfInBounds i x)[t/2]! =d[t/2]!:=by
   have h2:t/2<d.size:=by omega
   rw[DH (d.setIfInBounds i x) (t/2) (by simpa using h2),DH d (t/2) h2];exact Array.getElem_setIfInBounds_ne h2 (wA b)
  rw[this]
theorem Yo(w:World)(Ak off:Nat)(d:Array aD)(i:Nat)(x:aD)(hi:i<d.size):(putRowK iJ 2 w Ak off d).setCells Ak (off+i*2) (iJ x)=putRowK iJ 2 w Ak off (d.setIfInBounds i x):=by unfold putRowK;rw[setCells_putRow _ _ _ _ _ _ (by simp[iJ];omega),wo d i x hi]
theorem aIr{w wr:World}{n Ak off:Nat}{dk:Array aD}{i:Nat}(hi:i<dk.size)(hwr:wr=putRowK iJ 2 (Sort.ahead w n) Ak off dk)(x:aD):(wr.setCells Ak (off+i*2) (iJ x)).drew=putRowK iJ 2 (Sort.ahead w (n+1)) Ak off (dk.setIfInBounds i x):=by subst hwr;rw[Yo _ _ _ _ _ _ hi];exact putRowK_drewN iJ 2 w n 1 Ak off _
theorem ZJ(w:World)(b:Nat):∀(xs ys:List Value) (o:Nat),w.setCells b o (xs++ys)=(w.setCells b o xs).setCells b (o+xs.length) ys:=by
 intro xs;induction xs generalizing w with
 |nil=>intro ys o;rfl
 |cons x xs ih=>intro ys o;simp only[eA,World.setCells,eN];rw[ih,show o+1+xs.length=o+(xs.length+1)by omega]
theorem aT1(w:World)(Ak off:Nat):∀(xs:List aD) (d:Array aD) (k:Nat),k+xs.length<=d.size->(putRowK iJ 2 w Ak off d).setCells Ak (off+k*2) (xs.flatMap iJ)=putRowK iJ 2 w Ak off (lay d k xs)
 |[],d,k,_=>rfl
 |x::xs,d,k,h=>by
  simp only[eN]at h;rw[DE,ZJ,Yo _ _ _ _ _ _ (by omega)];have e:off+k*2+(iJ x).length=off+(k+1)*2:=by simp[iJ];omega
  rw[e,aT1 w Ak off xs _ (k+1) (by simp;omega)];rfl
theorem aMm(n:Nat):(Builtin.zeroCells (iJ ⟨[],[]⟩).toArray n).toList=(replicate n (⟨[],[]⟩:aD)).flatMap iJ:=by
 induction n with
 |zero=>simp[Builtin.zeroCells]
 |succ n ih=>rw[replicate_succ',flatMap_append,<-ih];simp only[Builtin.zeroCells,iJ,DB,eN,eV,Cl,Array.toList_range];rw[show(n+1)*(0+1+1)=n*(0+1+1)+1+1 by omega,Dd,Dd];simp[show(n*2+1)%2=1 by omega];rfl
theorem aQf{P:Program}(w:World)(t e ty:TypeId)(z:Value)(ht:P.underlying t=some (.slice e))(hv:∀w,(zeroValue e).run P w= .ok z w)(hz:z.cells=(iJ ⟨[],[]⟩).toArray)(b o n c:Nat)
  (hc:∀j,j<n*2->(w.cell? ⟨b,o+j,none⟩).isSome=true) (hf:∀j,j<n*2->w.frozen? ⟨b,o+j,none⟩=false):
  (Builtin.clear_ #[t] ty #[.slice (some ⟨b,o,none⟩) n c]).run P w= .ok (.tuple #[]) (w.setCells b o ((replicate n (⟨[],[]⟩:aD)).flatMap iJ)):=by
 have hl:((replicate n (⟨[],[]⟩:aD)).flatMap iJ).length=n*2:=by
  induction n with
  |zero=>rfl
  |succ n ih=>simp[pD,iJ];simp[iJ]at ih;omega
 have hst:=run_storeCells_cells (P:=P) b o ((replicate n (⟨[],[]⟩:aD)).flatMap iJ) 0 w (by rw[hl];simpa using hc) (by rw[hl];simpa using hf) (by intro v hv';obtain⟨x,hx,hv'⟩:=Fm.1 hv';simp only[iJ,gS,Bs,Gk]at hv';rcases hv' with rfl|rfl<;>rfl);simp only[sA]at hst;cases n with
 |zero=>simp[Builtin.clear_,gC ht,World.setCells]
 |succ m=>simp[Builtin.clear_,gC ht,hv,hz];rw[aMm,hst];simp
theorem UU{w:World}{Ak off:Nat}{d:Array aD}(h:HoldsK iJ 2 w Ak off d){i:Nat}(hi:i<d.size):
  w.cell? ⟨Ak,off+i*2,none⟩=some (.string ⟨d[i]!.host.toArray⟩)/\w.cell? ⟨Ak,off+i*2+1,none⟩=some (.string ⟨d[i]!.path.toArray⟩):=
 ⟨(h.cell (c:=0) hi (by omega)).1,(h.cell (c:=1) hi (by omega)).1⟩
theorem aT2{w:World}{Ak off:Nat}{d:Array aD}(h:HoldsK iJ 2 w Ak off d){i:Nat}(hi:i<d.size):
  w.frozen? ⟨Ak,off+i*2,none⟩=false/\w.frozen? ⟨Ak,off+i*2+1,none⟩=false:=
 ⟨(h.cell (c:=0) hi (by omega)).2,(h.cell (c:=1) hi (by omega)).2⟩
abbrev zA:aD:=⟨[],[]⟩
theorem ZK(Ak off cap:Nat)(d:Array aD)(w:World)(hH:HoldsK iJ 2 w Ak off d)(hsz:d.size<=1099511627776)(hcap:d.size<=cap):
  Calls prog 104 #[.slice (some ⟨Ak,off,none⟩) d.size cap] w λe w'=>e= .returned (.slice (some ⟨Ak,off,none⟩) (compactUpTo d d.size).length cap)/\∃q,w'=putRowK iJ 2 (Sort.ahead w q) Ak off (compactUpTo d d.size++replicate (d.size-(compactUpTo d d.size).length) zA).toArray:=by
 have mixed:prog.follows .mixedOrders=true:=by kernel_rfl
 have same:∀q,(∀j,j<d.size->keeps d j=true)->(compactUpTo d d.size).length=d.size/\w.drewN q=putRowK iJ 2 (Sort.ahead w q) Ak off (compactUpTo d d.size++replicate (d.size-(compactUpTo d d.size).length) zA).toArray:=by
  intro q hall;have e:compactUpTo d d.size=d.toList:=by rw[compactUpTo_all d _ hall,range_map_get]
  rw[e];refine⟨by simp,?_⟩;simp only[Array.length_toList,tR,Bm,fX,Array.toArray_toList];exact(putRowK_self iJ 2 (Sort.ahead w q) Ak off d (holdsK_ahead iJ 2 w q Ak off d hH)).symm
 have HS:Aside (∀q,(∀j,j<d.size->keeps d j=true)->(compactUpTo d d.size).length=d.size/\w.drewN q=putRowK iJ 2 (Sort.ahead w q) Ak off (compactUpTo d d.size++replicate (d.size-(compactUpTo d d.size).length) zA).toArray):=same;clear same;by_cases h2:d.size<2
 .have HH:Aside (HoldsK iJ 2 w Ak off d):=hH;clear hH
  go_enter func104,ntmps104
  go_wp2
  go_ret
  obtain⟨e1,e2⟩:=HS.out 0 (λj hj=>keeps_lt_one d j (by omega));exact⟨by rw[e1];rfl,0,e2⟩
 .go_enter func104,ntmps104
  go_wp2
  go_loopg [3] d.size (λg s3 wr=>∃k q:Nat,1<=k/\k<=d.size/\d.size-k<=g/\s3= .int .i64 k/\wr=w.drewN q/\∀j,j<k->keeps d j=true)
  case atStart=>exact⟨1,0,eC _,by omega,by omega,rfl,rfl,keeps_lt_one d⟩
  case round=>
   obtain⟨k,q,hk1,hk,hg,rfl,rfl,hall⟩:=hrel;by_cases hlt:k<d.size
   .obtain ⟨c1,c2⟩:=UU hH hlt;obtain⟨c3,c4⟩:=UU hH (i:=k-1) (by omega);have A:Aside (∀j,j<k->keeps d j=true):=hall;have HH:Aside (HoldsK iJ 2 w Ak off d):=hH;clear hall hH;generalize hx:d[k]! =x at c1 c2;generalize hy:d[k-1]! =y at c3 c4;have B:Aside (d[k]! =x/\d[k-1]! =y):=⟨hx,hy⟩;clear hx hy;by_cases hdup:x=y
    .subst hdup
     go_wp2_with fail
     go_region_o
     go_wp2
     clear c1 c2 c3 c4
     go_loopg [3,5] d.size (λg s3 s5 wr=>∃(kk k2 q2:Nat) (dk:Array aD),s3= .int .i64 kk/\s5= .int .i64 k2/\1<=k2/\k+k2<=d.size/\d.size-(k+k2)<=g/\wr=putRowK iJ 2 (Sort.ahead w q2) Ak off dk/\CompInv d (k+k2) kk dk)
     case atStart=>exact⟨k,1,q+1,d,rfl,rfl,eC _,by omega,by omega,(putRowK_self iJ 2 (Sort.ahead w (q+1)) Ak off d (holdsK_ahead iJ 2 w (q+1) Ak off d HH.out)).symm,CompInv.start A.out (keeps_neg (by omega) (by rw[B.out.1,B.out.2]))⟩
     case round=>
      obtain⟨kk,k2,q2,dk,rfl,rfl,h1,hle,hg2,hwr,hI⟩:=hrel;have hkk:=hI.lt;have hds:=hI.size;have hHk:HoldsK iJ 2 wr Ak off dk:=by rw[hwr];exact holdsK_putRowK iJ 2 _ Ak off d dk (holdsK_ahead iJ 2 w q2 Ak off d HH.out) hds
      have W2:Aside (wr=putRowK iJ 2 (Sort.ahead w q2) Ak off dk):=hwr;have I2:Aside (CompInv d (k+k2) kk dk):=hI;clear hwr;by_cases hlt2:k+k2<d.size
      .obtain ⟨c1,c2⟩:=UU hHk (i:=k+k2) (by omega);obtain⟨c3,c4⟩:=UU hHk (i:=k+k2-1) (by omega);obtain⟨c5,c6⟩:=UU hHk (i:=kk) (by omega);obtain⟨f1,f2⟩:=aT2 hHk (i:=kk) (by omega);rw[hI.high (k+k2) (by omega),show off+(k+k2)*2=off+k*2+k2*2 by omega]at c1 c2;rw[hI.high (k+k2-1) (by omega),show off+(k+k2-1)*2=off+k*2+(k2-1)*2 by omega]at c3 c4;clear hHk hI;generalize hu:d[k+k2]! =u at c1 c2;generalize hv:d[k+k2-1]! =v at c3 c4;generalize dk[kk]! =old at c5 c6;have C:Aside (d[k+k2]! =u/\d[k+k2-1]! =v):=⟨hu,hv⟩;clear hu hv;by_cases huv:u=v
       .subst huv
        go_wp2_with fail
        go_region_o
        go_wp2
        go_roundg (d.size-(k+(k2+1)))
        case measure=>omega
        case rel=>exact⟨kk,k2+1,q2+1,dk,rfl,by go_num,by omega,by omega,eC _,by rw[W2.out];rfl,I2.out.skip (keeps_neg (by omega) (by rw[C.out.1,C.out.2]))⟩
       .obtain ⟨uh,up⟩:=u;obtain⟨vh,vp⟩:=v;simp only at c1 c2 c3 c4;by_cases hh:uh=vh
        .subst hh;have hp:up≠vp:=λe=>huv (by rw[e])
         have hne:(up == vp)=false:=rK.2 hp
         go_wp2_with fail
         go_region_o
         go_wp2
         go_roundg (d.size-(k+(k2+1)))
         case measure=>omega
         case rel=>exact⟨kk+1,k2+1,q2+1,dk.setIfInBounds kk ⟨uh,up⟩,by go_num,by go_num,by omega,by omega,eC _,aIr (by omega) W2.out ⟨uh,up⟩,by have:=I2.out.keep hlt2 (keeps_pos (by rw[C.out.1,C.out.2];exact huv));rwa[C.out.1]at this⟩
        .have hne:(uh == vh)=false:=rK.2 hh
         go_wp2_with fail
         go_region_o
         go_wp2
         go_roundg (d.size-(k+(k2+1)))
         case measure=>omega
         case rel=>exact⟨kk+1,k2+1,q2+1,dk.setIfInBounds kk ⟨uh,up⟩,by go_num,by go_num,by omega,by omega,eC _,aIr (by omega) W2.out ⟨uh,up⟩,by have:=I2.out.keep hlt2 (keeps_pos (by rw[C.out.1,C.out.2];exact huv));rwa[C.out.1]at this⟩
      .have hend:k+k2=d.size:=by omega
       have hfl:∀j,j<(d.size-kk)*2->wr.cell? ⟨Ak,off+kk*2+j,none⟩=some (flatK iJ 2 dk)[kk*2+j]!/\wr.frozen? ⟨Ak,off+kk*2+j,none⟩=false:=λj hj=>by have:=hHk (kk*2+j) (by rw[size_flatK];omega);rw[<-oR]at this;exact this
       have hcl:∀ty,(Builtin.clear_ #[33] ty #[.slice (some ⟨Ak,off+kk*2,none⟩) (d.size-kk) (cap-kk)]).run prog wr= .ok (.tuple #[]) (wr.setCells Ak (off+kk*2) ((replicate (d.size-kk) zA).flatMap iJ)):=
        λty=>aQf wr _ 43 ty _ Tryz.underlying33 Tryz.zeroValue43 rfl Ak (off+kk*2) _ _ (λj hj=>by rw[(hfl j hj).1];rfl) (λj hj=>(hfl j hj).2)
       clear hfl;clear hHk hI
       go_wp2
       go_ret
       have hI:=I2.out;rw[hend]at hI;refine⟨by rw[hI.len];rfl,q2,?_⟩;rw[hI.len,<-hI.done zA,<-aT1 _ Ak off _ dk kk (by simp;omega),<-W2.out]
    .obtain ⟨uh,up⟩:=x;obtain⟨vh,vp⟩:=y;simp only at c1 c2 c3 c4;have fin:∃k' q':Nat,1<=k'/\k'<=d.size/\d.size-k'<=d.size-(k+1)/\Value.int .i64 ((k:Int)+1)= .int .i64 k'/\w.drewN (q+1)=w.drewN q'/\∀j,j<k'->keeps d j=true:=by
      refine⟨k+1,q+1,by omega,by omega,eC _,by go_num,rfl,λj hj=> ?_⟩;by_cases e:j=k
      .subst e;exact keeps_pos (by rw[B.out.1,B.out.2];exact hdup)
      .exact A.out j (by omega)
     have F:Aside (∃k' q':Nat,1<=k'/\k'<=d.size/\d.size-k'<=d.size-(k+1)/\Value.int .i64 ((k:Int)+1)= .int .i64 k'/\w.drewN (q+1)=w.drewN q'/\∀j,j<k'->keeps d j=true):=fin;clear fin;by_cases hh:uh=vh
     .subst hh;have hp:up≠vp:=λe=>hdup (by rw[e])
      have hne:(up == vp)=false:=rK.2 hp
      go_wp2_with fail
      go_region_o
      go_wp2
      go_roundg (d.size-(k+1))
      case measure=>omega
      case rel=>exact F.out
     .have hne:(uh == vh)=false:=rK.2 hh
      go_wp2_with fail
      go_region_o
      go_wp2
      go_roundg (d.size-(k+1))
      case measure=>omega
      case rel=>exact F.out
   .have:k=d.size:=by omega
    subst this;have HH:Aside (HoldsK iJ 2 w Ak off d):=hH;clear hH
    go_wp2
    go_ret
    obtain⟨e1,e2⟩:=HS.out q hall;exact⟨by rw[e1];rfl,q,e2⟩
theorem ZL(b off cap:Nat)(zs:List aD)(w:World)(hH:HoldsK iJ 2 w b off zs.toArray)(hsz:zs.length<=1099511627776)(hcap:zs.length<=cap):
  Calls prog 104 #[.slice (some ⟨b,off,none⟩) zs.length cap] w λe w'=>e= .returned (.slice (some ⟨b,off,none⟩) (Lib.compact zs).length cap)/\∃q,w'=putRowK iJ 2 (Sort.ahead w q) b off (Lib.compact zs++replicate (zs.length-(Lib.compact zs).length) zA).toArray:=by
 have h:=ZK b off cap zs.toArray w hH (by simpa using hsz) (by simpa using hcap);simpa [Lib.compact]using h
theorem Wz(a:Option Go.Addr)(cap:Nat)(w:World):Calls prog 104 #[.slice a 0 cap] w λe w'=>e= .returned (.slice a 0 cap)/\w'=w:=by
 have mixed:prog.follows .mixedOrders=true:=by kernel_rfl
 go_enter func104,ntmps104
 go_wp2
 go_ret
 exact⟨rfl,rfl⟩
theorem wu[aB prog](l:List aD)(hl:l.length<=1099511627776)(hcl:(Lib.compact l).length<=l.length):Lf prog 104 [.oN (.sl .own 2 (l.map aH))] (.sl .own 2 ((Lib.compact l).map aH)):=by
 intro w vs uK jA hh hlow hnd hr;obtain⟨v1,vs,f1,uK,k1,jA,rfl,rfl,rfl,h1,hr⟩:=Ce hr;obtain⟨rfl,rfl,rfl⟩:=Zk hr;simp only[RG]at h1;obtain⟨a,cap,rfl,hlm,ho⟩:=pM.1 h1;rcases ho with⟨h0,h4,rfl⟩|⟨b,off,C,e,fz,qN,rfl,hb,hz,hfit,hlc,hmax,rfl,hrr⟩
 .have hl0:l=[]:=by simpa using h0
  subst hl0;refine(Wz a cap w).mono λed w' h=> ?_
  obtain⟨rfl,rfl⟩:=h;have hce:(Lib.compact ([]:List aD))=[]:=hS (by simpa using hcl);exact⟨_,[],[[]],rfl,pM.2 ⟨a,cap,by simp[hce],by simp[hce,maxLen],.inl ⟨by simp[hce],h4,rfl⟩⟩,by simp[QY,RP],by simp,by simp,eC _,λ_ _ _=>rfl,mI.rfl⟩
 .obtain ⟨olds,hv,hcs⟩:=qD.1 hrr;obtain⟨rfl,rfl⟩:=UQ hv;simp only[mL]at hlm hlc;have hblt:b<w.heap.size:=(pH.1 hb).1;have hz0:fz.2=0:=by rcases hz with⟨_,h⟩|h;exact absurd h (by decide);exact h
  have hfl:off+(l.flatMap iJ).length<=C.size:=by rw[zD];omega
  have hH:HoldsK iJ 2 w b off l.toArray:=by unfold HoldsK;rw[MS];exact UR hb hz0 hcs hfl
  simp only[mL];refine(ZL b off cap l w hH hl hlc).mono λed w' h=> ?_
  obtain⟨rfl,q,hw'⟩:=h;unfold putRowK at hw';rw[MS,<-grow_empty (putRow id _ b off _)]at hw';subst hw';obtain⟨m1,m2,m3,m4⟩:=Ym (n:=q) (os:=#[]) (d:=((Lib.compact l++replicate (l.length-(Lib.compact l).length) zA).flatMap iJ).toArray) (off:=off) hb;have hsz:(putCells id off ((Lib.compact l++replicate (l.length-(Lib.compact l).length) zA).flatMap iJ).toArray C).size=C.size:=by simp[putCells]
  have aW6:((Lib.compact l++replicate (l.length-(Lib.compact l).length) zA).flatMap iJ).length=l.length*2:=by rw[zD];simp;omega
  have hcells:=UO m1 (by rw[aW6,<-zD];exact hfl);have hc1:∀W,bK W b off ((Lib.compact l++replicate (l.length-(Lib.compact l).length) zA).flatMap iJ)->bK W b off ((Lib.compact l).flatMap iJ):=λW h=>by rw[flatMap_append,bK.append]at h;exact h.1
  refine⟨_,[b],[[]],rfl,pM.2 ⟨some ⟨b,off,none⟩,cap,by simp,by simp;omega,.inr ⟨b,off,_,e,fz,[],rfl,m1,by rw[hsz];exact hz,by rw[hsz];exact hfit,by simp;omega,hmax,rfl,qD.2 ⟨_,OJ _,hc1 _ hcells⟩⟩⟩,by simp[QY,RP],by simp,?_,m3,?_,m4⟩
  .intro x hx;obtain rfl:x=b:=by simpa using hx
   exact⟨.inl (by simp),nF hblt m3⟩
  .intro x hx hne;exact m2 x hx λh=>hne (by simp[h])
end Go.Proofs.YthddijamfbfibaaGreatDoor
