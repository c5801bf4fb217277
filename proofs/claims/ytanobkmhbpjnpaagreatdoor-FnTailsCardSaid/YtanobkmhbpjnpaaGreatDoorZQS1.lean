/- Steps. No condition. -/
import Derived.Test.YtanobkmhbpjnpaaGreatDoorZQMK3
import Derived.Test.YtanobkmhbpjnpaaGreatDoorZQU4
set_option linter.all false
set_option maxRecDepth 4000
set_option maxHeartbeats 4000000
namespace Go.Proofs.YtanobkmhbpjnpaaGreatDoor
open Go.Aw Proofs.Tryz List IntKind
def Xv[aG prog][dG prog](s:bE)(c:UInt8)(hs:s.length<4294967281):Ok prog 124 [.str s,.str [c]] (.sl .own 1 ((dQ c s).map eD)):=Tj Tryz.laysM146 (by kernel_rfl) s c hs
def jM:bM:=⟨0,[],[],[]⟩
def vN(w:bE):bE:=w.take (jQ 61 w)
def yG(w:bE):bE:=w.drop (jQ 61 w+1)
def jW:List bE->List pV->Option (List pV)
 |[],acc=>some acc
 |w::ws,acc=>if (decide (jQ 61 w<w.length)&&dW (vN w)&&kP (yG w)&& !(aX acc (vN w)).2)=true then jW ws (acc++[⟨vN w,yG w⟩])else none
def Gv(w0:bE)(ws:List bE):bM×Bool:=
 if dW w0=true/\ws.length<=4 then(match jW ws []with
  |some l=>(⟨1,w0,l,[]⟩,true)
  |none=>(jM,false))else(jM,false)
def uD(s:bE):bM×Bool:=
 if 60<s.length then(jM,false)
 else if Dt [47] s=true then(if dW (s.drop 1)=true then(⟨2,s.drop 1,[],[]⟩,true)else(jM,false))
 else Gv (s.take (jQ 32 s)) (if jQ 32 s<s.length then dQ 32 (s.drop (jQ 32 s+1))else [])
def wX(c:UInt8)(s:bE):dQ c s=s.take (jQ c s)::(if jQ c s<s.length then dQ c (s.drop (jQ c s+1))else []):=by
 rw[Oi];have h:=vL c s;split
 .rfl
 .rw [eN (by omega)]
def TG{w0:bE}{ws:List bE}(h:¬(dW w0=true/\ws.length<=4)):Gv w0 ws=(jM,false):=by unfold Gv;rw[eC h]
def TH{w0:bE}{ws:List bE}(h:jW ws []=none):Gv w0 ws=(jM,false):=by unfold Gv;rw[h];split<;>rfl
def TI{w0:bE}{ws:List bE}{l:List pV}(h1:dW w0=true)(h2:ws.length<=4)(h:jW ws []=some l):Gv w0 ws=(⟨1,w0,l,[]⟩,true):=by unfold Gv;rw[h,eM ⟨h1,h2⟩]
def FU:∀(ws:List bE) (acc l:List pV),jW ws acc=some l->l.length=acc.length+ws.length
 |[],acc,l,h=>by simp only[jW,eI]at h;subst h;simp
 |w::ws,acc,l,h=>by
  simp only[jW]at h;split at h
  .have:=FU ws _ l h;simp at this⊢;omega
  .cases h
def PW:∀(ws:List bE) (acc l:List pV),jW ws acc=some l->dS rR l<=dS rR acc+bU iM ws
 |[],acc,l,h=>by simp only[jW,eI]at h;subst h;simp[bU]
 |w::ws,acc,l,h=>by
  simp only[jW]at h;split at h
  .rename_i hc;simp only[eK,fY]at hc;have:=PW ws _ l h;have hj:∀a b:List pV,bU rR (a++b)=bU rR a+bU rR b:=by
    intro a b;induction a with
    |nil=>simp[bU]
    |cons x xs ih=>simp only[cW,bU,ih];omega
   simp only[dS,hj,bU,rR,vN,yG,eR,pL,AN,eL,fL,iM]at this⊢;omega
  .cases h
def Ct(c:UInt8):∀s:bE,bU iM (dQ c s)<=s.length
 |[]=>by simp[dQ,bU,iM]
 |x::s=>by
  have ih:=Ct c s;simp only[dQ];split
  .simp only[bU,iM,fL,eL]at ih⊢;omega
  .split
   .rename_i h0;exact absurd h0 (sD c s)
   .rename_i p q h0;rw[h0]at ih;simp only[bU,iM,eL]at ih⊢;omega
def aHl(s:bE):dU (uD s).1<=s.length:=by
 have hn:dU jM=0:=by simp[jM,dU,dS,bU]
 unfold uD;split
 .simp only[hn];omega
 .split
  .split
   .simp [dU,dS,bU]
   .simp only[hn];omega
  .have hs:=Ct 32 s;rw[wX]at hs;simp only[bU,iM]at hs;generalize (if jQ 32 s<s.length then dQ 32 (s.drop (jQ 32 s+1))else [])=ws at*;unfold Gv;split
   .split
    .rename_i l hl;have:=PW ws [] l hl;simp only[dU,dS,bU,fL]at this⊢;omega
    .simp only[hn];omega
   .simp only[hn];omega
def YO[aG prog][dG prog](s:bE)(hl:s.length<=1099511627776):Ok prog 234 [.str s] (.iL [.agg (dK .own (uD s).1),.bool (uD s).2]):=by
 by_cases h60:(60:Int)<(s.length:Int)
 .have hr:uD s=(jM,false):=by unfold uD;rw[eM (by omega)]
  rw[hr];refine Ia aK func234 ntmps234 ?_;have W:=h60;refine we ?_;all_goals (try first|(refine bA (.inl ?_);simp[bB,results234,jM];done)|(refine bA (.inr (iZ ?_));simp[AS.Cc,AS.Az,AS.rv,results234,jM]))
 have c0:=FT s [47] hl (by simp);cases hp:Dt [47] s;case true=>
  rw[hp]at c0;simp only[eS]at c0;have c1:=jS (s.drop 1) (by simp;omega);simp only[eL,fL,lR,Nat.reduceAdd]at c0;generalize hs1:s.drop 1=s1 at*;cases hn:dW s1
  .have hr:uD s=(jM,false):=by unfold uD;rw[eC (by omega),eM hp,hs1,hn];rfl
   rw[hr];rw[hn]at c1;refine Ia aK func234 ntmps234 ?_;have W:=h60;refine we ?_;all_goals (try first|(refine bA (.inl ?_);simp[bB,results234,jM];done)|(refine bA (.inr (iZ ?_));simp[AS.Cc,AS.Az,AS.rv,results234,jM]))
  .have hr:uD s=(⟨2,s1,[],[]⟩,true):=by unfold uD;rw[eC (by omega),eM hp,hs1,hn];rfl
   rw[hr];rw[hn]at c1;refine Ia aK func234 ntmps234 ?_;have W:=h60;refine we ?_;all_goals (try exact ku results234)
 case false=>
  rw[hp]at c0;simp only[cY,eW]at c0;have hr:uD s=Gv (s.take (jQ 32 s)) (if jQ 32 s<s.length then dQ 32 (s.drop (jQ 32 s+1))else []):=by unfold uD;rw[eC (by omega),eC (by rw[hp];simp)]
  have c2:=Xv s 32 (by omega);have hsl:=kW 32 s;have hcn:s.count 32<=s.length:=qS;have hsm:=Ct 32 s;rw[wX]at c2 hsl hsm;rw[hr];have c1:=jS (s.take (jQ 32 s)) (by simp;omega);generalize (if jQ 32 s<s.length then dQ 32 (s.drop (jQ 32 s+1))else [])=ws at*;generalize s.take (jQ 32 s)=w0 at*;simp only[bU,iM,eL]at hsl hsm;simp only[oE]at c2;clear hr hp;have hw1:i64.wrap ((ws.length:Int)+1-1)=(ws.length:Int):=by rw[wrap64]<;>omega
  have htk:List.take ws.length (ws.map eD)=ws.map eD:=eN (by simp);cases hn:dW w0
  .rw [TG (by rw[hn];simp)];rw[hn]at c1;refine Ia aK func234 ntmps234 ?_;have W:=aA h60 hw1;refine we ?_;all_goals (try first|(refine bA (.inl ?_);simp[bB,results234,jM];done)|(refine bA (.inr (iZ ?_));simp[AS.Cc,AS.Az,AS.rv,results234,jM]))
  rw[hn]at c1;by_cases h4:(4:Int)<(ws.length:Int)
  .rw [TG (by omega)];refine Ia aK func234 ntmps234 ?_;have W:=aA h60 (aA hw1 h4);refine we ?_;all_goals (try first|(refine bA (.inl ?_);simp[bB,results234,jM];done)|(refine bA (.inr (iZ ?_));simp[AS.Cc,AS.Az,AS.rv,results234,jM]))
  have CL:=λh=>TH (w0:=w0) (ws:=ws) h
  have Mv:=λl=>TI (w0:=w0) (ws:=ws) (l:=l) hn (by omega)
  generalize Gv w0 ws=res at*;refine Ia aK func234 ntmps234 ?_;have W:=aA h60 (aA hw1 (aA h4 htk));refine we ?_;refine aT (ι:={q:Nat×Nat×List pV // (q.1<=ws.length/\1<=q.2.1)/\q.2.2.length=q.1/\jW ws []=jW (ws.drop q.1) q.2.2}) (λt o i=>⟨bP t [(52,.int .i64 i.1.1),(48,.aB)],[⟨true,true,4,0,[[.int .i64 0,.str [],.sl .own 2 [],.str []]]⟩,⟨true,false,1,2,ws.map eD⟩,⟨true,true,4,0,[[.int .i64 1,.str w0,.obj 3 i.1.2.1,.str []]]⟩,⟨true,false,2,i.1.2.1,i.1.2.2.map uB⟩]⟩)
   (λi=>ws.length-i.1.1) ⟨(0,1,[]),by simp,by simp,by simp⟩ (vM 2 0 2 (ob:=⟨true,true,4,0,[[.int .i64 1,.str w0,.sl .own 2 [],.str []]]⟩) (by rfl) (by rfl) (by rfl) (by simp) (by rfl) (by rfl) (by simp) (by simp[tJ,rt,lV])) ?_
  rintro⟨⟨k,v,acc⟩,⟨hk,hv⟩,yT,wB⟩ K1 hK1;simp only at hk hv yT wB;simp only[bP,cH,cQ]at hK1⊢;have hk1:=tQ (k:=k);by_cases hlt:k<ws.length
  .have hg:=aE hlt;have hwz:=iU iM ws k hlt;rw[oY hlt]at wB;simp only[iM]at hwz;have cC:=Bh ws[k] 61 (by omega);have cN:=jS (vN ws[k]) (by simp[vN];omega);have cV:=CJ (yG ws[k]) (by simp[yG];omega);have cF:=oP acc (vN ws[k]) (by omega);have lX:(decide (jQ 61 ws[k]<ws[k].length)&&dW (vN ws[k])&&kP (yG ws[k])&& !(aX acc (vN ws[k])).2)=false->res=(jM,false):=λh=>CL (by rw[wB];simp only[jW];rw[h];rfl)
   have hnext:(decide (jQ 61 ws[k]<ws[k].length)&&dW (vN ws[k])&&kP (yG ws[k])&& !(aX acc (vN ws[k])).2)=true->jW ws []=jW (ws.drop (k+1)) (acc++[⟨vN ws[k],yG ws[k]⟩]):=λh=>by rw[wB];simp only[jW];rw[eM h]
   change Ok _ _ _ (.iL [.str (vN ws[k]),.str (yG ws[k]),.bool (decide (jQ 61 ws[k]<ws[k].length))])at cC;clear wB CL Mv;generalize decide (jQ 61 ws[k]<ws[k].length)=b1 at*;generalize dW (vN ws[k])=b2 at*;generalize kP (yG ws[k])=b3 at*;generalize aX acc (vN ws[k])=fa at*;obtain⟨fv,b4⟩:=fa;generalize vN ws[k]=ky at*;generalize yG ws[k]=vl at*;simp only at cF lX hnext;cases b1
   .rw [lX (by simp)];clear lX hnext hK1;have W:=aA hk1 (aA hg hlt);refine we ?_;all_goals (try first|(refine bA (.inl ?_);simp[bB,results234,jM];done)|(refine bA (.inr (iZ ?_));simp[AS.Cc,AS.Az,AS.rv,results234,jM]))
   cases b2
   .rw [lX (by simp)];clear lX hnext hK1;have W:=aA hk1 (aA hg hlt);refine we ?_;all_goals (try first|(refine bA (.inl ?_);simp[bB,results234,jM];done)|(refine bA (.inr (iZ ?_));simp[AS.Cc,AS.Az,AS.rv,results234,jM]))
   cases b3
   .rw [lX (by simp)];clear lX hnext hK1;have W:=aA hk1 (aA hg hlt);refine we ?_;all_goals (try first|(refine bA (.inl ?_);simp[bB,results234,jM];done)|(refine bA (.inr (iZ ?_));simp[AS.Cc,AS.Az,AS.rv,results234,jM]))
   cases b4
   .have hn2:=hnext (by simp);clear lX hnext;have W:=aA hk1 (aA hg hlt);refine we ?_;all_goals refine hK1 _ ⟨(k+1,v+1,acc++[⟨ky,vl⟩]),⟨by simp only;omega,by simp only;omega⟩,by simp;omega,hn2⟩ (aQ 4) (by simp only;omega)
   .rw [lX (by simp)];clear lX hnext hK1;have W:=aA hk1 (aA hg hlt);refine we ?_;all_goals (try first|(refine bA (.inl ?_);simp[bB,results234,jM];done)|(refine bA (.inr (iZ ?_));simp[AS.Cc,AS.Az,AS.rv,results234,jM]))
  .have GQ:ws.drop k=[]:=Cp (by omega);rw[GQ]at wB;rw[Mv acc (by rw[wB];rfl)];clear hK1;have W:=hk1;refine we ?_;all_goals (try exact ku results234)
def mg{w:bE}(h:(dQ 61 w).length=2):jQ 61 w<w.length/\dQ 61 w=[vN w,yG w]:=by
 rw[wX]at h⊢;by_cases hi:jQ 61 w<w.length
 .rw [eM hi]at h⊢;refine⟨hi,?_⟩;rw[wX]at h⊢;by_cases h2:jQ 61 (w.drop (jQ 61 w+1))<(w.drop (jQ 61 w+1)).length
  .rw [eM h2]at h;have:=sD 61 ((w.drop (jQ 61 w+1)).drop (jQ 61 (w.drop (jQ 61 w+1))+1));have hl:=AT.2 this;simp only[eL]at h;omega
  .rw [eC h2];have hle:=vL 61 (w.drop (jQ 61 w+1));rw[eN (l:=w.drop (jQ 61 w+1)) (by omega)];rfl
 .rw [eC hi]at h;simp at h
def mh{w:bE}(h:jQ 61 w<w.length)(hv:kP (yG w)=true):(dQ 61 w).length=2:=by
 have NM:∀x∈yG w,x≠61:=by intro x hx;simp only[kP,eK]at hv;have:=fW.1 hv.1 x hx;rintro rfl;simp[yQ]at this
 rw[wX,eM h];have:=CG 61 (yG w) NM;unfold yG at this;rw[this];rfl
def YV[aG prog][dG prog](s:bE)(hl:s.length<=1099511627776):Ok prog 224 [.str s] (.iL [.agg (dK .own (uD s).1),.bool (uD s).2]):=by
 by_cases h60:(60:Int)<(s.length:Int)
 .have hr:uD s=(jM,false):=by unfold uD;rw[eM (by omega)]
  rw[hr];refine Ia aK func224 ntmps224 ?_;have W:=h60;refine we ?_;all_goals (try first|(refine bA (.inl ?_);simp[bB,results224,jM];done)|(refine bA (.inr (iZ ?_));simp[AS.Cc,AS.Az,AS.rv,results224,jM]))
 cases hp:Dt [47] s;case true=>
  have c1:=gY (s.drop 1) (by simp;omega);have dF:=TD hp;simp only[eL,fL,lR]at dF;cases s with
  |nil=>simp at dF
  |cons x s1=>
   obtain rfl:x=47:=by simpa [Dt]using hp
   have h61:¬(60:Int)<(s1.length:Int)+1:=by simp only[eL]at h60;omega
   simp only[sX,DP]at c1;cases hn:dW s1
   .have hr:uD (47::s1)=(jM,false):=by unfold uD;rw[eC (by omega),eM hp];simp[hn]
    rw[hr];rw[hn]at c1;clear hp;refine Ia aK func224 ntmps224 ?_;have W:=h61;refine we ?_;all_goals (try first|(refine bA (.inl ?_);simp[bB,results224,jM];done)|(refine bA (.inr (iZ ?_));simp[AS.Cc,AS.Az,AS.rv,results224,jM]))
   .have hr:uD (47::s1)=(⟨2,s1,[],[]⟩,true):=by unfold uD;rw[eC (by omega),eM hp];simp[hn]
    rw[hr];rw[hn]at c1;clear hp;refine Ia aK func224 ntmps224 ?_;have W:=h61;refine we ?_;all_goals (try exact ku results224)
 case false=>
  have hr:uD s=Gv (s.take (jQ 32 s)) (if jQ 32 s<s.length then dQ 32 (s.drop (jQ 32 s+1))else []):=by unfold uD;rw[eC (by omega),eC (by rw[hp];simp)]
  have c2:Ok prog 163 [.str s,.int .u8 32] (.sl .own 1 ((dQ 32 s).map eD)):=yS s 32 (by omega);have hsl:=kW 32 s;have hcn:s.count 32<=s.length:=qS;have hsm:=Ct 32 s;rw[hr];have c1:=gY (s.take (jQ 32 s)) (by simp;omega);have hLc:=wX 32 s;generalize (if jQ 32 s<s.length then dQ 32 (s.drop (jQ 32 s+1))else [])=ws at*;generalize s.take (jQ 32 s)=w0 at*;generalize dQ 32 s=L at*;have hL0:L[0]? =some w0:=by rw[hLc];rfl
  have hLd:L.drop 1=ws:=by rw[hLc];rfl
  have hLl:L.length=ws.length+1:=by rw[hLc];rfl
  have CL:=λh=>TH (w0:=w0) (ws:=ws) h
  have Mv:=λl=>TI (w0:=w0) (ws:=ws) (l:=l)
  have NM:=TG (w0:=w0) (ws:=ws);generalize Gv w0 ws=res at*;clear hr hLc;have aQ1:s=[]\/∃x r,s=x::r/\¬((x.toNat:Int)=47):=by
   cases s with
   |nil=>exact .inl rfl
   |cons x r=>refine .inr ⟨x,r,rfl,λh=> ?_⟩;have:x=47:=DA.1 (by simp;omega);subst this;simp[Dt]at hp
  clear hp;rcases aQ1 with rfl|⟨x,r,rfl,hx⟩
  .refine Ia aK func224 ntmps224 ?_;have W:=aA h60 hL0;refine we ?_;refine aT (ι:={q:Nat×Nat×List pV // (q.1<=L.length/\1<=q.2.1)/\q.2.2.length+1=q.1/\jW ws []=jW (L.drop q.1) q.2.2}) (λt o i=>⟨bP t [(6,.int .i64 i.1.1),(35,.aB)],[⟨true,true,4,0,[[.int .i64 0,.str [],.sl .own 2 [],.str []]]⟩,⟨true,false,1,1,L.map eD⟩,⟨true,true,4,0,[[.int .i64 1,.str w0,.obj 3 i.1.2.1,.str []]]⟩,⟨true,false,2,i.1.2.1,i.1.2.2.map uB⟩]⟩)
    (λi=>L.length-i.1.1) ⟨(1,1,[]),by simp only;omega,by simp,by rw[hLd]⟩ (vM 2 0 2 (ob:=⟨true,true,4,0,[[.int .i64 1,.str w0,.sl .own 2 [],.str []]]⟩) (by rfl) (by rfl) (by rfl) (by simp) (by rfl) (by rfl) (by simp) (by simp[tJ,rt,lV])) ?_
   rintro⟨⟨k,v,acc⟩,⟨hk,hv⟩,yT,wB⟩ K1 hK1;simp only at hk hv yT wB;simp only[bP,cH,cQ]at hK1⊢;have hk1:=tQ (k:=k);by_cases hlt:k<L.length
   .have hg:=aE hlt;have hwz:=iU iM L k hlt;rw[oY hlt]at wB;simp only[iM]at hwz;have cS:Ok prog 163 [.str L[k],.int .u8 61] (.sl .own 1 ((dQ 61 L[k]).map eD)):=yS L[k] 61 (by omega);have cN:=gY (vN L[k]) (by simp[vN];omega);have cV:=zX (yG L[k]) (by simp[yG];omega);have cF:=nJ acc (vN L[k]) (by omega);have lX:(decide (jQ 61 L[k]<L[k].length)&&dW (vN L[k])&&kP (yG L[k])&& !(aX acc (vN L[k])).2)=false->res=(jM,false):=λh=>CL (by rw[wB];simp only[jW];rw[h];rfl)
    have hnext:(decide (jQ 61 L[k]<L[k].length)&&dW (vN L[k])&&kP (yG L[k])&& !(aX acc (vN L[k])).2)=true->jW ws []=jW (L.drop (k+1)) (acc++[⟨vN L[k],yG L[k]⟩]):=λh=>by rw[wB];simp only[jW];rw[eM h]
    have M5:=mg (w:=L[k]);have hback:=mh (w:=L[k]);have Oz:=kW 61 L[k];have hsc:L[k].count 61<=L[k].length:=qS;clear wB CL Mv NM;by_cases h2:(dQ 61 L[k]).length=2
    .obtain ⟨hi,hsg⟩:=M5 h2;rw[hsg]at cS;simp only[oE,GC,eD]at cS;rw[tI hi]at lX hnext;clear M5 hback h2 hsg Oz hsc hi;generalize dW (vN L[k])=b2 at*;generalize kP (yG L[k])=b3 at*;generalize aX acc (vN L[k])=fa at*;obtain⟨fv,b4⟩:=fa;generalize vN L[k]=ky at*;generalize yG L[k]=vl at*;simp only at cF lX hnext;cases b2
     .rw [lX (by simp)];clear lX hnext hK1;have W:=aA hk1 (aA hg hlt);refine we ?_;all_goals (try first|(refine bA (.inl ?_);simp[bB,results224,jM];done)|(refine bA (.inr (iZ ?_));simp[AS.Cc,AS.Az,AS.rv,results224,jM]))
     cases b3
     .rw [lX (by simp)];clear lX hnext hK1;have W:=aA hk1 (aA hg hlt);refine we ?_;all_goals (try first|(refine bA (.inl ?_);simp[bB,results224,jM];done)|(refine bA (.inr (iZ ?_));simp[AS.Cc,AS.Az,AS.rv,results224,jM]))
     cases b4
     .have hn2:=hnext (by simp);clear lX hnext;have W:=aA hk1 (aA hg hlt);refine we ?_;all_goals refine hK1 _ ⟨(k+1,v+1,acc++[⟨ky,vl⟩]),⟨by simp only;omega,by simp only;omega⟩,by simp;omega,hn2⟩ (aQ 4) (by simp only;omega)
     .rw [lX (by simp)];clear lX hnext hK1;have W:=aA hk1 (aA hg hlt);refine we ?_;all_goals (try first|(refine bA (.inl ?_);simp[bB,results224,jM];done)|(refine bA (.inr (iZ ?_));simp[AS.Cc,AS.Az,AS.rv,results224,jM]))
    .have lI:res=(jM,false):=lX (by
      cases hi:decide (jQ 61 L[k]<L[k].length)
      .simp
      .cases hv2:kP (yG L[k])
       .simp
       .exact absurd (hback (of_decide_eq_true hi) hv2) h2)
     rw[lI];have h2':¬(((dQ 61 L[k]).length:Int)=2):=by omega
     clear lX hnext hK1 M5 hback lI h2;generalize dQ 61 L[k]=sg at*;have W:=aA hk1 (aA hg (aA hlt h2'));refine we ?_;all_goals (try first|(refine bA (.inl ?_);simp[bB,results224,jM];done)|(refine bA (.inr (iZ ?_));simp[AS.Cc,AS.Az,AS.rv,results224,jM]))
   .have GQ:L.drop k=[]:=Cp (by omega);rw[GQ]at wB;have hal:=FU ws [] acc (by rw[wB];rfl);have hs2:=λh1 h2=>Mv acc h1 h2 (by rw[wB];rfl)
    clear hK1 wB Mv CL;cases hn:dW w0
    .rw [NM (by rw[hn];simp)];rw[hn]at c1;have W:=hk1;refine we ?_;all_goals (try first|(refine bA (.inl ?_);simp[bB,results224,jM];done)|(refine bA (.inr (iZ ?_));simp[AS.Cc,AS.Az,AS.rv,results224,jM]))
    .rw [hn]at c1;by_cases h4:(4:Int)<(acc.length:Int)
     .exfalso;simp only[fL,count_nil]at hal hsl;omega
     .rw [hs2 hn (by simp only[fL]at hal;omega)];have W:=aA hk1 h4;refine we ?_;all_goals (try exact ku results224)
  .have h61:¬(60:Int)<(r.length:Int)+1:=by simp only[eL]at h60;omega
   refine Ia aK func224 ntmps224 ?_;have W:=aA h61 (aA hx hL0);refine we ?_;refine aT (ι:={q:Nat×Nat×List pV // (q.1<=L.length/\1<=q.2.1)/\q.2.2.length+1=q.1/\jW ws []=jW (L.drop q.1) q.2.2}) (λt o i=>⟨bP t [(6,.int .i64 i.1.1),(35,.aB)],[⟨true,true,4,0,[[.int .i64 0,.str [],.sl .own 2 [],.str []]]⟩,⟨true,false,1,1,L.map eD⟩,⟨true,true,4,0,[[.int .i64 1,.str w0,.obj 3 i.1.2.1,.str []]]⟩,⟨true,false,2,i.1.2.1,i.1.2.2.map uB⟩]⟩)
    (λi=>L.length-i.1.1) ⟨(1,1,[]),by simp only;omega,by simp,by rw[hLd]⟩ (vM 2 0 2 (ob:=⟨true,true,4,0,[[.int .i64 1,.str w0,.sl .own 2 [],.str []]]⟩) (by rfl) (by rfl) (by rfl) (by simp) (by rfl) (by rfl) (by simp) (by simp[tJ,rt,lV])) ?_
   rintro⟨⟨k,v,acc⟩,⟨hk,hv⟩,yT,wB⟩ K1 hK1;simp only at hk hv yT wB;simp only[bP,cH,cQ]at hK1⊢;have hk1:=tQ (k:=k);by_cases hlt:k<L.length
   .have hg:=aE hlt;have hwz:=iU iM L k hlt;rw[oY hlt]at wB;simp only[iM]at hwz;have cS:Ok prog 163 [.str L[k],.int .u8 61] (.sl .own 1 ((dQ 61 L[k]).map eD)):=yS L[k] 61 (by omega);have cN:=gY (vN L[k]) (by simp[vN];omega);have cV:=zX (yG L[k]) (by simp[yG];omega);have cF:=nJ acc (vN L[k]) (by omega);have lX:(decide (jQ 61 L[k]<L[k].length)&&dW (vN L[k])&&kP (yG L[k])&& !(aX acc (vN L[k])).2)=false->res=(jM,false):=λh=>CL (by rw[wB];simp only[jW];rw[h];rfl)
    have hnext:(decide (jQ 61 L[k]<L[k].length)&&dW (vN L[k])&&kP (yG L[k])&& !(aX acc (vN L[k])).2)=true->jW ws []=jW (L.drop (k+1)) (acc++[⟨vN L[k],yG L[k]⟩]):=λh=>by rw[wB];simp only[jW];rw[eM h]
    have M5:=mg (w:=L[k]);have hback:=mh (w:=L[k]);have Oz:=kW 61 L[k];have hsc:L[k].count 61<=L[k].length:=qS;clear wB CL Mv NM;by_cases h2:(dQ 61 L[k]).length=2
    .obtain ⟨hi,hsg⟩:=M5 h2;rw[hsg]at cS;simp only[oE,GC,eD]at cS;rw[tI hi]at lX hnext;clear M5 hback h2 hsg Oz hsc hi;generalize dW (vN L[k])=b2 at*;generalize kP (yG L[k])=b3 at*;generalize aX acc (vN L[k])=fa at*;obtain⟨fv,b4⟩:=fa;generalize vN L[k]=ky at*;generalize yG L[k]=vl at*;simp only at cF lX hnext;cases b2
     .rw [lX (by simp)];clear lX hnext hK1;have W:=aA hk1 (aA hg hlt);refine we ?_;all_goals (try first|(refine bA (.inl ?_);simp[bB,results224,jM];done)|(refine bA (.inr (iZ ?_));simp[AS.Cc,AS.Az,AS.rv,results224,jM]))
     cases b3
     .rw [lX (by simp)];clear lX hnext hK1;have W:=aA hk1 (aA hg hlt);refine we ?_;all_goals (try first|(refine bA (.inl ?_);simp[bB,results224,jM];done)|(refine bA (.inr (iZ ?_));simp[AS.Cc,AS.Az,AS.rv,results224,jM]))
     cases b4
     .have hn2:=hnext (by simp);clear lX hnext;have W:=aA hk1 (aA hg hlt);refine we ?_;all_goals refine hK1 _ ⟨(k+1,v+1,acc++[⟨ky,vl⟩]),⟨by simp only;omega,by simp only;omega⟩,by simp;omega,hn2⟩ (aQ 4) (by simp only;omega)
     .rw [lX (by simp)];clear lX hnext hK1;have W:=aA hk1 (aA hg hlt);refine we ?_;all_goals (try first|(refine bA (.inl ?_);simp[bB,results224,jM];done)|(refine bA (.inr (iZ ?_));simp[AS.Cc,AS.Az,AS.rv,results224,jM]))
    .have lI:res=(jM,false):=lX (by
      cases hi:decide (jQ 61 L[k]<L[k].length)
      .simp
      .cases hv2:kP (yG L[k])
       .simp
       .exact absurd (hback (of_decide_eq_true hi) hv2) h2)
     rw[lI];have h2':¬(((dQ 61 L[k]).length:Int)=2):=by omega
     clear lX hnext hK1 M5 hback lI h2;generalize dQ 61 L[k]=sg at*;have W:=aA hk1 (aA hg (aA hlt h2'));refine we ?_;all_goals (try first|(refine bA (.inl ?_);simp[bB,results224,jM];done)|(refine bA (.inr (iZ ?_));simp[AS.Cc,AS.Az,AS.rv,results224,jM]))
   .have GQ:L.drop k=[]:=Cp (by omega);rw[GQ]at wB;have hal:=FU ws [] acc (by rw[wB];rfl);have hs2:=λh1 h2=>Mv acc h1 h2 (by rw[wB];rfl)
    clear hK1 wB Mv CL;cases hn:dW w0
    .rw [NM (by rw[hn];simp)];rw[hn]at c1;have W:=hk1;refine we ?_;all_goals (try first|(refine bA (.inl ?_);simp[bB,results224,jM];done)|(refine bA (.inr (iZ ?_));simp[AS.Cc,AS.Az,AS.rv,results224,jM]))
    .rw [hn]at c1;by_cases h4:(4:Int)<(acc.length:Int)
     .rw [NM (by simp only[fL]at hal;omega)];have W:=aA hk1 h4;refine we ?_;all_goals (try first|(refine bA (.inl ?_);simp[bB,results224,jM];done)|(refine bA (.inr (iZ ?_));simp[AS.Cc,AS.Az,AS.rv,results224,jM]))
     .rw [hs2 hn (by simp only[fL]at hal;omega)];have W:=aA hk1 h4;refine we ?_;all_goals (try exact ku results224)
end Go.Proofs.YtanobkmhbpjnpaaGreatDoor
