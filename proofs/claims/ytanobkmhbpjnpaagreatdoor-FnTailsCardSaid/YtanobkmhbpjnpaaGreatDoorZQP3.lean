/- Steps. No condition. -/
import Derived.Test.YtanobkmhbpjnpaaGreatDoorZP2
import Derived.Test.YtanobkmhbpjnpaaGreatDoorZQMK6
import Derived.Test.YtanobkmhbpjnpaaGreatDoorZQS1
set_option linter.all false
set_option maxRecDepth 4000
set_option maxHeartbeats 4000000
namespace Go.Proofs.YtanobkmhbpjnpaaGreatDoor
open Go.Aw Proofs.Tryz List IntKind
def M8[aG prog]:Ok prog 182 [.int .i64 1] (.str [119,114,105,116,101]):=by have c0:=mM 1 1 5;simp only[Int.reduceLE,Dg,Hb]at c0;refine dN aK func182 ntmps182 ?_;refine bK ?_;exact aO results182
def M9[aG prog]:Ok prog 182 [.int .i64 2] (.str [97,100,100]):=by have c0:=mM 2 1 5;simp only[Int.reduceLE,Dg,Hb]at c0;refine dN aK func182 ntmps182 ?_;refine bK ?_;exact aO results182
def N7[aG prog]:Ok prog 182 [.int .i64 3] (.str [99,111,117,110,116]):=by have c0:=mM 3 1 5;simp only[Int.reduceLE,Dg,Hb]at c0;refine dN aK func182 ntmps182 ?_;refine bK ?_;exact aO results182
def N8[aG prog]:Ok prog 182 [.int .i64 4] (.str [108,111,111,107]):=by have c0:=mM 4 1 5;simp only[Int.reduceLE,Dg,Hb]at c0;refine dN aK func182 ntmps182 ?_;refine bK ?_;exact aO results182
def N9[aG prog]:Ok prog 182 [.int .i64 5] (.str [115,97,121]):=by have c0:=mM 5 1 5;simp only[Int.reduceLE,Dg,Hb]at c0;refine dN aK func182 ntmps182 ?_;refine bK ?_;exact aO results182
def aU2(op:Nat):∀x∈wd op,x≠32:=by
 have h:(wd op).all (λx=>decide (x≠32))=true:=by unfold wd;split<;>decide
 intro x hx;simpa using fW.1 h x hx
def aMn{s:bE}{op:Nat}(hk:jQ 32 s<s.length)(hw:s.take (jQ 32 s)=wd op):nT s op=some (⟨op,s.drop (jQ 32 s+1)⟩,jX op (s.drop (jQ 32 s+1))):=by
 have hL:(wd op).length=jQ 32 s:=by rw[<-hw];simp;omega
 have h2:s.take ((wd op).length+1)=wd op++[32]:=by rw[hL,fN hk,hw,aAy hk]
 rw[AR (by omega) h2,hL]
def aMo{s:bE}{op:Nat}(h:¬(jQ 32 s<s.length/\s.take (jQ 32 s)=wd op)):nT s op=none:=by
 refine rV λ⟨h1,h2⟩=>h ?_
 have hlt:(wd op).length<s.length:=by omega
 have ht:s.take (wd op).length=wd op:=by have:=As (List.take (wd op).length) h2;simpa [take_take]using this
 have hg:s[(wd op).length]=32:=by have:=As (λl=>l[(wd op).length]?) h2;simp only[lO (eJ _),tU,sR]at this;rw[CC,eM (by omega),aE hlt]at this;exact cX this
 have hi:jQ 32 s=(wd op).length:=F6 hlt hg (by rw[ht];exact aU2 op);rw[hi];exact⟨hlt,ht⟩
def Cu{s:bE}(h:∀j,1<=j->j<6->nT s j=none):dV s=(⟨0,[]⟩,false):=by simp[dV,h 1 (by omega) (by omega),h 2 (by omega) (by omega),h 3 (by omega) (by omega),h 4 (by omega) (by omega),h 5 (by omega) (by omega)]
def oK(p:jV×Bool):jV:=if p.2=true then p.1 else⟨0,[]⟩
def YX[aG prog](s:bE)(hl:s.length<=1099511627776):Ok prog 125 [.str s] (.iL [.agg (nR (oK (dV s))),.bool (dV s).2]):=by
 have hC:=Bh s 32 (by omega);have hle:=vL 32 s;have c1:=M8;have c2:=M9;have c3:=N7;have c4:=N8;have c5:=N9;have cN:=jS (s.drop (jQ 32 s+1)) (by simp;omega);have ht:∀op,jQ 32 s<s.length->s.take (jQ 32 s)=wd op->nT s op=some (⟨op,s.drop (jQ 32 s+1)⟩,jX op (s.drop (jQ 32 s+1))):=λop=>aMn
 have hf:∀op,¬(jQ 32 s<s.length/\s.take (jQ 32 s)=wd op)->nT s op=none:=λop=>aMo
 generalize jQ 32 s=p at*;generalize bAx:s.take p=word at*;generalize aU3:s.drop (p+1)=text at*;have htl:text.length<=s.length:=by rw[<-aU3];simp
 refine dN aK func125 ntmps125 ?_;refine bK ?_;refine aT (ι:={i:Nat // (1<=i/\i<=6)/\∀j,1<=j->j<i->nT s j=none}) (λt o i=>⟨bP t [(7,.int .i64 i.1),(8,.aB)],o⟩) (λi=>6-i.1) ⟨1,by simp,λj h1 h2=>by omega⟩ aP ?_;rintro⟨k,⟨hk,hk6⟩,hn⟩ K1 hK1;try simp only at hk hk6 hn
 simp only[bP,cH,cQ]at hK1⊢;obtain rfl|rfl|rfl|rfl|rfl|rfl:k=1\/k=2\/k=3\/k=4\/k=5\/k=6:=by omega
 .by_cases hw:word=[119,114,105,116,101]
  .by_cases hp:p<s.length
   .have hr:dV s=(⟨1,text⟩,jX 1 text):=by simp[dV,ht 1 hp hw]
    rw[hr];rw[tI hp]at hC;clear hr hf ht hn;subst hw;by_cases h3:(text.length:Int)<=60
    .have hg:jX 1 text=true:=by simp[jX,FY];omega
     have h4:¬(60:Int)<(text.length:Int):=by omega
     rw[hg];have W:=aA hp (aA h3 h4);refine we ?_;all_goals try(refine bA ?_;simp[bB,results125,oK])
    .have hg:jX 1 text=false:=by simp[jX,FY];omega
     have h4:(60:Int)<(text.length:Int):=by omega
     rw[hg];have W:=aA hp (aA h3 h4);refine we ?_;all_goals try(refine bA ?_;simp[bB,results125,oK])
   .have hr:dV s=(⟨0,[]⟩,false):=Cu λj _ _=>hf j λh=>hp h.1
    rw[hr];rw[Bm hp]at hC;clear hr hf ht hn;subst hw;have hp2:s.length<=p:=by omega
    have W:=aA hp hp2;refine we ?_;all_goals try(refine bA ?_;simp[bB,results125,oK])
  .have hx:=hf 1 λh=>hw h.2
   have hb:(([119,114,105,116,101]:bE) == word)=false:=by simpa using λh=>hw h.symm
   have hw2:¬[119,114,105,116,101]=word:=λh=>hw h.symm
   clear hf ht;have W:=aA hw (aA hw2 hb);refine we ?_;exact hK1 _ ⟨2,by omega,pM hn hx⟩ aP (by simp only;omega)
 .by_cases hw:word=[97,100,100]
  .by_cases hp:p<s.length
   .have hr:dV s=(⟨2,text⟩,jX 2 text):=by simp[dV,hn 1 (by omega) (by omega),ht 2 hp hw]
    rw[hr];rw[tI hp]at hC;clear hr hf ht hn;subst hw;have hg:jX 2 text=dW text:=rfl;rw[hg];generalize dW text=b at*;cases b
    .have W:=hp;refine we ?_;all_goals try(refine bA ?_;simp[bB,results125,oK])
    .have W:=hp;refine we ?_;all_goals try(refine bA ?_;simp[bB,results125,oK])
   .have hr:dV s=(⟨0,[]⟩,false):=Cu λj _ _=>hf j λh=>hp h.1
    rw[hr];rw[Bm hp]at hC;clear hr hf ht hn;subst hw;have hp2:s.length<=p:=by omega
    have W:=aA hp hp2;refine we ?_;all_goals try(refine bA ?_;simp[bB,results125,oK])
  .have hx:=hf 2 λh=>hw h.2
   have hb:(([97,100,100]:bE) == word)=false:=by simpa using λh=>hw h.symm
   have hw2:¬[97,100,100]=word:=λh=>hw h.symm
   clear hf ht;have W:=aA hw (aA hw2 hb);refine we ?_;exact hK1 _ ⟨3,by omega,pM hn hx⟩ aP (by simp only;omega)
 .by_cases hw:word=[99,111,117,110,116]
  .by_cases hp:p<s.length
   .have hr:dV s=(⟨3,text⟩,jX 3 text):=by simp[dV,hn 1 (by omega) (by omega),hn 2 (by omega) (by omega),ht 3 hp hw]
    rw[hr];rw[tI hp]at hC;clear hr hf ht hn;subst hw;have hg:jX 3 text=dW text:=rfl;rw[hg];generalize dW text=b at*;cases b
    .have W:=hp;refine we ?_;all_goals try(refine bA ?_;simp[bB,results125,oK])
    .have W:=hp;refine we ?_;all_goals try(refine bA ?_;simp[bB,results125,oK])
   .have hr:dV s=(⟨0,[]⟩,false):=Cu λj _ _=>hf j λh=>hp h.1
    rw[hr];rw[Bm hp]at hC;clear hr hf ht hn;subst hw;have hp2:s.length<=p:=by omega
    have W:=aA hp hp2;refine we ?_;all_goals try(refine bA ?_;simp[bB,results125,oK])
  .have hx:=hf 3 λh=>hw h.2
   have hb:(([99,111,117,110,116]:bE) == word)=false:=by simpa using λh=>hw h.symm
   have hw2:¬[99,111,117,110,116]=word:=λh=>hw h.symm
   clear hf ht;have W:=aA hw (aA hw2 hb);refine we ?_;exact hK1 _ ⟨4,by omega,pM hn hx⟩ aP (by simp only;omega)
 .by_cases hw:word=[108,111,111,107]
  .by_cases hp:p<s.length
   .have hr:dV s=(⟨4,text⟩,jX 4 text):=by simp[dV,hn 1 (by omega) (by omega),hn 2 (by omega) (by omega),hn 3 (by omega) (by omega),ht 4 hp hw]
    rw[hr];rw[tI hp]at hC;clear hr hf ht hn;subst hw;have hg:jX 4 text=dW text:=rfl;rw[hg];generalize dW text=b at*;cases b
    .have W:=hp;refine we ?_;all_goals try(refine bA ?_;simp[bB,results125,oK])
    .have W:=hp;refine we ?_;all_goals try(refine bA ?_;simp[bB,results125,oK])
   .have hr:dV s=(⟨0,[]⟩,false):=Cu λj _ _=>hf j λh=>hp h.1
    rw[hr];rw[Bm hp]at hC;clear hr hf ht hn;subst hw;have hp2:s.length<=p:=by omega
    have W:=aA hp hp2;refine we ?_;all_goals try(refine bA ?_;simp[bB,results125,oK])
  .have hx:=hf 4 λh=>hw h.2
   have hb:(([108,111,111,107]:bE) == word)=false:=by simpa using λh=>hw h.symm
   have hw2:¬[108,111,111,107]=word:=λh=>hw h.symm
   clear hf ht;have W:=aA hw (aA hw2 hb);refine we ?_;exact hK1 _ ⟨5,by omega,pM hn hx⟩ aP (by simp only;omega)
 .by_cases hw:word=[115,97,121]
  .by_cases hp:p<s.length
   .have hr:dV s=(⟨5,text⟩,jX 5 text):=by simp[dV,hn 1 (by omega) (by omega),hn 2 (by omega) (by omega),hn 3 (by omega) (by omega),hn 4 (by omega) (by omega),ht 5 hp hw]
    rw[hr];rw[tI hp]at hC;clear hr hf ht hn;subst hw;by_cases h3:(text.length:Int)<=60
    .have hg:jX 5 text=true:=by simp[jX,FY];omega
     have h4:¬(60:Int)<(text.length:Int):=by omega
     rw[hg];have W:=aA hp (aA h3 h4);refine we ?_;all_goals try(refine bA ?_;simp[bB,results125,oK])
    .have hg:jX 5 text=false:=by simp[jX,FY];omega
     have h4:(60:Int)<(text.length:Int):=by omega
     rw[hg];have W:=aA hp (aA h3 h4);refine we ?_;all_goals try(refine bA ?_;simp[bB,results125,oK])
   .have hr:dV s=(⟨0,[]⟩,false):=Cu λj _ _=>hf j λh=>hp h.1
    rw[hr];rw[Bm hp]at hC;clear hr hf ht hn;subst hw;have hp2:s.length<=p:=by omega
    have W:=aA hp hp2;refine we ?_;all_goals try(refine bA ?_;simp[bB,results125,oK])
  .have hx:=hf 5 λh=>hw h.2
   have hb:(([115,97,121]:bE) == word)=false:=by simpa using λh=>hw h.symm
   have hw2:¬[115,97,121]=word:=λh=>hw h.symm
   clear hf ht;have W:=aA hw (aA hw2 hb);refine we ?_;exact hK1 _ ⟨6,by omega,pM hn hx⟩ aP (by simp only;omega)
 .have hr:dV s=(⟨0,[]⟩,false):=Cu λj h1 h2=>hn j h1 h2
  rw[hr];clear hr hf ht hn;refine bK ?_;all_goals try(refine bA ?_;simp[bB,results125,oK])
def RL(c:UInt8):∀s:bE,∀p∈dQ c s,p.length<=s.length
 |[],p,h=>by simp only[dQ,mS]at h;subst h;simp
 |x::s,p,h=>by
  have ih:=RL c s;simp only[dQ]at h;split at h
  .rcases mC.1 h with rfl|h
   .simp
   .have:=ih p h;simp;omega
  .split at h
   .rename_i h0;exact absurd h0 (sD c s)
   .rename_i q r h0;rw[h0]at ih;rcases mC.1 h with rfl|h
    .have:=ih q (by simp);simp;omega
    .have:=ih p (by simp[h]);simp;omega
def gM(s:bE):List jV×Bool:=
 if s=[]then([],true)else if ((dQ 59 s).all λp=>(dV p).2)=true/\(dQ 59 s).length<=6 then((dQ 59 s).map λp=>(dV p).1,true)else([],false)
def TZ{s:bE}{k:Nat}(h0:s≠[])(hk:k<(dQ 59 s).length)(h:(dV (dQ 59 s)[k]).2=false):gM s=([],false):=by unfold gM;rw[eC h0,eC];rintro⟨h1,_⟩;have:=fW.1 h1 _ (gR hk);rw[h]at this;cases this
def PY{s:bE}(h0:s≠[])(h:6<(dQ 59 s).length):gM s=([],false):=by unfold gM;rw[eC h0,eC];rintro⟨_,h1⟩;omega
def PZ{s:bE}(h0:s≠[])(h1:∀p∈dQ 59 s,(dV p).2=true)(h2:(dQ 59 s).length<=6):gM s=((dQ 59 s).map λp=>(dV p).1,true):=by unfold gM;rw[eC h0,eM ⟨fW.2 h1,h2⟩]
def XC{l:List bE}{k:Nat}(hk:k<l.length)(h:∀p∈l.take k,(dV p).2=true)(h1:(dV l[k]).2=true):∀p∈l.take (k+1),(dV p).2=true:=by
 intro p hp;rw[fN hk]at hp;rcases fR.1 hp with hp|hp
 .exact h p hp
 .rw [mS.1 hp];exact h1
def mo{α β:Type}(f:α->β)(l:List α)(k:Nat)(h:k<l.length):(l.take (k+1)).map f=(l.take k).map f++[f l[k]]:=by rw[fN h,pP];rfl
def eSp(p:bE):List AV:=nR (dV p).1
def aBf(l:List bE):(l.map λp=>(dV p).1).map nR=l.map eSp:=by rw[map_map];rfl
def CQ[aG prog][dG prog](s:bE)(hl:s.length<=1073741824):Ok prog 112 [.str s] (.iL [.sl .own 2 ((gM s).1.map nR),.bool (gM s).2]):=by
 by_cases h0:s=[]
 .subst h0;have hr:gM []=([],true):=rfl;rw[hr];refine dN aK func112 ntmps112 ?_;refine bK ?_;exact aO results112
 .have cS:Ok prog 163 [.str s,.int .u8 59] (.sl .own 1 ((dQ 59 s).map eD)):=yS s 59 (by omega);have hb0:(s == ([]:bE))=false:=by simp[h0]
  have hle:=RL 59 s;have hn:=kW 59 s;have hcn:s.count 59<=s.length:=qS;have hb:=λk hk=>TZ (k:=k) h0 hk
  have zh:=PY h0;have hgd:=PZ h0;have jE:=sD 59 s;generalize dQ 59 s=l at*;have hll:l.length<=1073741825:=by omega
  have hl0:0<l.length:=AT.2 jE;generalize gM s=g at*;refine dN aK func112 ntmps112 ?_;have W:=aA h0 hb0;refine we ?_;refine aT (ι:={q:Nat×Nat // (q.1<=l.length/\1<=q.2)/\(∀p∈l.take q.1,(dV p).2=true)/\(0<q.1->l.length<=6)}) (λt o i=>⟨bP t [(6,.int .i64 i.1.1),(4,.obj 0 i.1.2),(7,.aB),(8,.aB)],[⟨true,false,2,i.1.2,(l.take i.1.1).map eSp⟩]++o.drop 1⟩)
   (λi=>l.length-i.1.1) ⟨(0,1),by simp,by simp,by simp⟩ aP ?_
  rintro⟨⟨k,v⟩,⟨hk,hv⟩,hgood,aMp⟩ K1 hK1;simp only at hk hv hgood aMp;simp only[bP,cH,cQ,sX,DP,cW,eA]at hK1⊢;have hk1:=tQ (k:=k);by_cases hlt:k<l.length
  .have hg:=aE hlt;have c1:=aC7 l[k] (by have:=hle _ (gR hlt);omega);have hps:=mo eSp l k hlt;have hx:eSp l[k]=nR (dV l[k]).1:=rfl;have hgl:((l.take k).map eSp).length=k:=by simp;omega
   have hbk:=hb k hlt;have EW:=XC hlt hgood;simp only[nR]at c1;generalize (l.take k).map eSp=rows at*;generalize dV l[k]=x at*;obtain⟨x,ok⟩:=x;simp only[nR]at c1 hbk EW hps hx;rw[hx]at hps;cases ok with
   |false=>have hr:=hbk rfl;subst hr;have W:=aA hk1 (aA hg hlt);refine we ?_;exact aO results112
   |true=>
    by_cases h6:6<l.length
    .have hr:=zh h6;subst hr;have h6i:(6:Int)<(l.length:Int):=by omega
     have W:=aA hk1 (aA hg (aA hlt h6i));refine we ?_;exact aO results112
    .have h6i:¬(6:Int)<(l.length:Int):=by omega
     have W:=aA hk1 (aA hg (aA hlt (aA hgl h6i)));refine we ?_;all_goals exact hK1 _ ⟨(k+1,v+1),⟨by simp only;omega,by simp only;omega⟩,EW rfl,λ_=>by omega⟩ (aQ 2 (by simp[hps])) (by simp only;omega)
  .have htk:l.take k=l:=eN (by omega);rw[htk]at hgood⊢;have hr:=hgd hgood (aMp (by omega));subst hr;simp only[aBf];have W:=hk1;refine we ?_;all_goals try(refine bA ?_;simp[bB,results112])
   all_goals exact gX _ (by intro x;rfl) l
def mr[aG prog][dG prog](s:bE)(c:UInt8)(hs:s.length<4294967281):Ok prog 124 [.str s,.str [c]] (.sl .own 1 ((dQ c s).map eD)):=Tj Tryz.laysM146 (by kernel_rfl) s c hs
def CR[aG prog][dG prog](s:bE)(hl:s.length<=1073741824):Ok prog 76 [.str s] (.iL [.sl .own 2 ((gM s).1.map nR),.bool (gM s).2]):=by
 by_cases h0:s=[]
 .subst h0;have hr:gM []=([],true):=rfl;rw[hr];refine dN aK func76 ntmps76 ?_;refine bK ?_;exact aO results76
 .have cS:=mr s 59 (by omega);have hb0:(s == ([]:bE))=false:=by simp[h0]
  have hle:=RL 59 s;have hn:=kW 59 s;have hcn:s.count 59<=s.length:=qS;have hb:=λk hk=>TZ (k:=k) h0 hk
  have zh:=PY h0;have hgd:=PZ h0;have jE:=sD 59 s;generalize dQ 59 s=l at*;have hll:l.length<=1073741825:=by omega
  have hl0:0<l.length:=AT.2 jE;generalize gM s=g at*;refine dN aK func76 ntmps76 ?_;have W:=aA h0 hb0;refine we ?_;refine aT (ι:={q:Nat×Nat // (q.1<=l.length/\1<=q.2)/\(∀p∈l.take q.1,(dV p).2=true)/\q.1<=6}) (λt o i=>⟨bP t [(16,.int .i64 i.1.1),(4,.obj 0 i.1.2),(6,.aB),(7,.aB),(8,.aB)],[⟨true,false,2,i.1.2,(l.take i.1.1).map eSp⟩]++o.drop 1⟩)
   (λi=>l.length-i.1.1) ⟨(0,1),by simp,by simp,by simp⟩ aP ?_
  rintro⟨⟨k,v⟩,⟨hk,hv⟩,hgood,aMp⟩ K1 hK1;simp only at hk hv hgood aMp;simp only[bP,cH,cQ,sX,DP,cW,eA]at hK1⊢;have hk1:=tQ (k:=k);by_cases hlt:k<l.length
  .have hg:=aE hlt;have c1:=YX l[k] (by have:=hle _ (gR hlt);omega);have hps:=mo eSp l k hlt;have hx:eSp l[k]=nR (dV l[k]).1:=rfl;have hgl:((l.take k).map eSp).length=k:=by simp;omega
   have hbk:=hb k hlt;have EW:=XC hlt hgood;simp only[nR]at c1;generalize (l.take k).map eSp=rows at*;generalize dV l[k]=x at*;obtain⟨x,ok⟩:=x;simp only[nR]at hbk EW hps hx;rw[hx]at hps;cases ok with
   |false=>have hr:=hbk rfl;subst hr;simp only[oK,nR,cY,eW]at c1;have W:=aA hk1 (aA hg hlt);refine we ?_;exact aO results76
   |true=>
    simp only[oK,nR,eS]at c1;by_cases h6:k=6
    .have hr:=zh (by omega);subst hr;have h6b:((k:Int) == 6)=true:=by simp;omega
     clear h6;have W:=aA hk1 (aA hg (aA hlt (aA hgl h6b)));refine we ?_;exact aO results76
    .have h6i:¬(k:Int)=6:=by omega
     have h6b:((k:Int) == 6)=false:=by simpa using h6i
     have W:=aA hk1 (aA hg (aA hlt (aA hgl (aA h6i h6b))));refine we ?_;all_goals exact hK1 _ ⟨(k+1,v+1),⟨by simp only;omega,by simp only;omega⟩,EW rfl,by simp only;omega⟩ (aQ 2 (by simp[hps])) (by simp only;omega)
  .have htk:l.take k=l:=eN (by omega);rw[htk]at hgood⊢;have hr:=hgd hgood (by omega);subst hr;simp only[aBf];have W:=hk1;refine we ?_;all_goals try(refine bA ?_;simp[bB,results76])
   all_goals exact gX _ (by intro x;rfl) l
def BL:bE:=[105,109,112,111,114,116,32]
def qU(base:bE):List bE->Option (List aR×List bE)
 |[]=>some ([],[])
 |p::ps=>if Dt BL p=true then(if (dR (p.drop 7) base).2=true then(qU base ps).map (λq=>((dR (p.drop 7) base).1::q.1,q.2))else none)else some ([],p::ps)
def bQ(body base:bE):List aR×List jV×Bool:=
 match qU base (dQ 59 body)with
 |none=>([],[],false)
 |some (l,r)=>if (gM (Lib.join r [59])).2=true then(l,(gM (Lib.join r [59])).1,true)else([],[],false)
def AX(base:bE)(l:List bE)(acc:List aR)(r:List bE):Prop:=qU base l=(qU base r).map λq=>(acc++q.1,q.2)
def MV(base:bE)(l:List bE):AX base l [] l:=by unfold AX;cases qU base l<;>simp
def Uh{base:bE}{l:List bE}{acc:List aR}{p:bE}{ps:List bE}(h:AX base l acc (p::ps))(h1:Dt BL p=true)(h2:(dR (p.drop 7) base).2=false):qU base l=none:=by unfold AX at h;rw[h];simp[qU,h1,h2]
def Qg{base:bE}{l:List bE}{acc:List aR}{p:bE}{ps:List bE}(h:AX base l acc (p::ps))(h1:Dt BL p=true)(h2:(dR (p.drop 7) base).2=true):AX base l (acc++[(dR (p.drop 7) base).1]) ps:=by unfold AX at h⊢;rw[h];simp only[qU,h1,h2,eS];cases qU base ps<;>simp
def Ui{base:bE}{l:List bE}{acc:List aR}(h:AX base l acc []):qU base l=some (acc,[]):=by unfold AX at h;rw[h];simp[qU]
def Qh{base:bE}{l:List bE}{acc:List aR}{p:bE}{ps:List bE}(h:AX base l acc (p::ps))(h1:Dt BL p=false):qU base l=some (acc,p::ps):=by unfold AX at h;rw[h];simp[qU,h1]
def OO(c:UInt8):∀s:bE,Lib.join (dQ c s) [c]=s
 |[]=>by simp[dQ,Lib.join_one]
 |x::s=>by
  have ih:=OO c s;simp only[dQ];split
  .rename_i h;subst h;cases hs:dQ x s with
   |nil=>exact absurd hs (sD x s)
   |cons p r=>rw[hs]at ih;simp only[Lib.join,intercalate]at ih⊢;simp only[intersperse,pZ,eA,singleton_append]at ih⊢;rw[ih]
  .split
   .rename_i h0;exact absurd h0 (sD c s)
   .rename_i p r h0;rw[h0]at ih;simp only[Lib.join,intercalate]at ih⊢;cases r with
    |nil=>simp only[intersperse,pZ,flatten_nil,eE]at ih⊢;rw[ih]
    |cons q r=>simp only[intersperse,pZ,cW]at ih⊢;rw[ih]
def aIf[aG prog][dG prog](l:List bE)(sep:bE)(hl:l.length<=140737488355328)(hs:(Lib.join l sep).length<=140737488355328):
  Ok prog 136 [.sl .view 1 (l.map eD),.str sep] (.str (Lib.join l sep)):=aAz Tryz.lays156 Tryz.Builder_Extra_156 l sep hl hs
def Zd(x:bE)(xs:List bE)(c:UInt8):(Lib.join xs [c]).length<=(Lib.join (x::xs) [c]).length:=by
 cases xs with
 |nil=>simp[Lib.join_nil]
 |cons y ys=>simp only[Lib.join,intercalate,intersperse,pZ,eR];omega
def MW(c:UInt8):∀(k:Nat) (l:List bE),(Lib.join (l.drop k) [c]).length<=(Lib.join l [c]).length
 |0,l=>by simp
 |_+1,[]=>by simp
 |k+1,x::xs=>by rw[sX];exact iS (MW c k xs) (Zd x xs c)
def aDe[aG prog][dG prog]{s:bE}(hl:s.length<=1099511627776)(h:Dt BL s=false):Ok prog 134 [.str s,.str [105,109,112,111,114,116,32]] (.iL [.str s,.bool false]):=by have c:=FT s BL hl (by simp[BL]);rw[h]at c;exact c
def O8[aG prog][dG prog]{s:bE}(hl:s.length<=1099511627776)(h:Dt BL s=true):Ok prog 134 [.str s,.str [105,109,112,111,114,116,32]] (.iL [.str (s.drop 7),.bool true]):=by have c:=FT s BL hl (by simp[BL]);rw[h]at c;exact c
def vR[aG prog][dG prog](body base:bE)(hl:body.length<=1073741824)(hb:base.length<=1073741824):Ok prog 83 [.str body,.str base] (.iL [.sl .own 2 ((bQ body base).1.map aS),.sl .own 2 ((bQ body base).2.1.map nR),.bool (bQ body base).2.2]):=by
 have cS:=mr body 59 (by omega);have hle:=RL 59 body;have hst:=MV base (dQ 59 body);have hn:=kW 59 body;have hcn:body.count 59<=body.length:=qS;have hll:(dQ 59 body).length<=1073741825:=by omega
 have lI:∀acc r,qU base (dQ 59 body)=some (acc,r)->∀ls ok,gM (Lib.join r [59])=(ls,ok)->bQ body base=if ok=true then(acc,ls,true)else([],[],false):=by intro acc r h1 ls ok h2;unfold bQ;rw[h1];simp only[h2]
 have CL:qU base (dQ 59 body)=none->bQ body base=([],[],false):=by intro h1;unfold bQ;rw[h1]
 generalize bQ body base=g at*;have hjl:(Lib.join (dQ 59 body) [59]).length<=1073741824:=by rw[OO];exact hl
 generalize dQ 59 body=l at*;refine dN aK func83 ntmps83 ?_;refine bK ?_;refine aT (ι:={q:Nat×List aR×Nat // (q.1<=l.length/\1<=q.2.2)/\q.2.1.length=q.1/\AX base l q.2.1 (l.drop q.1)}) (λt o i=>⟨bP t [(7,.obj 0 (i.1.1+1)),(8,.obj 1 i.1.2.2),(9,.aB),(10,.aB),(11,.aB),(12,.aB)],[⟨true,false,1,i.1.1+1,(l.drop i.1.1).map eD⟩,⟨true,false,2,i.1.2.2,i.1.2.1.map aS⟩]⟩)
  (λi=>l.length-i.1.1) ⟨(0,[],1),by simp,by simp,by simpa using hst⟩ aP ?_
 rintro⟨⟨k,acc,v⟩,⟨hk,hv⟩,yT,wB⟩ K1 hK1;simp only at hk hv yT wB;simp only[bP,cH,cQ]at hK1⊢;have hjd:=MW 59 k l;have hdl:(l.drop k).length<=1073741825:=by simp;omega
 have cJ:=aIf (l.drop k) [59] (by omega) (by omega);have cP:=CR (Lib.join (l.drop k) [59]) (by omega);by_cases hlt:k<l.length
 .have hd:l.drop k=l[k]::l.drop (k+1):=oY hlt;have hpl:=hle _ (gR hlt);have c2:=AO (l[k].drop 7) base (by simp;omega);simp only[aS]at c2;rw[hd]at wB cJ cP hdl⊢;generalize hps:l.drop (k+1)=ps at*;generalize l[k]=p at*;simp only[eL]at hdl;cases hp:Dt BL p with
  |false=>
   have hs:=Qh wB hp;have c1:=aDe (by omega) hp;have hr:=lI _ _ hs;clear hp hs wB hst hK1;have hdp:(0:Int)<(ps.length:Int)+1:=by omega
   generalize Lib.join (p::ps) [59]=J2 at*;generalize gM J2=q at*;obtain⟨ls,ok⟩:=q;have hr:=hr ls ok rfl;subst hr;simp only at cP;cases ok
   .simp only[cY,eW];have W:=hdp;refine we ?_;exact aO results83
   .simp only[eS];have W:=hdp;refine we ?_;exact aO results83
  |true=>
   have lX:=Uh wB hp;have hnext:=Qg wB hp;have c1:=O8 (by omega) hp;clear hp;have hdp:(0:Int)<(ps.length:Int)+1:=by omega
   generalize dR (p.drop 7) base=pa at*;obtain⟨a,ok⟩:=pa;simp only at c2 lX hnext;have htk:List.take ps.length (ps.map eD)=ps.map eD:=eN (by simp);cases ok with
   |false=>have hr:=CL (lX rfl);subst hr;have W:=hdp;refine we ?_;exact aO results83
   |true=>have W:=hdp;refine we ?_;all_goals exact hK1 _ ⟨(k+1,acc++[a],v+1),⟨by simp only;omega,by simp only;omega⟩,by simp;omega,by simp only[hps];exact hnext rfl⟩ (aQ 2 (by simp[hps,htk])) (by simp only;omega)
 .have hd:l.drop k=[]:=Cp (by omega);rw[hd]at wB cJ cP⊢;have hr:=lI _ _ (Ui wB) [] true rfl;subst hr;have hq:gM []=([],true):=rfl;simp only[Lib.join_nil,hq,GC,eS]at cJ cP⊢;refine bK ?_;exact aO results83
def Uj(c:UInt8)(s:bE):dQ c s=s.take (jQ c s)::(if jQ c s<s.length then dQ c (s.drop (jQ c s+1))else []):=by
 rw[Oi];have h:=vL c s;split
 .rfl
 .rw [eN (by omega)]
def aIg{p s:bE}{k:Nat}(h:Dt p (s.take k)=true):Dt p s=true:=by simp only[Dt,eK,fY,Ds,take_take,pL]at h⊢;obtain⟨h1,h2⟩:=h;rw[Fo (by omega)]at h2;exact⟨by omega,h2⟩
def aIh{s:bE}(h:Dt BL s=true):7<=jQ 59 s:=by
 simp only[Dt,eK,fY,Ds]at h;obtain⟨h1,h2⟩:=h;have h3:s=BL++s.drop 7:=by have:=pC 7 s;rw[show BL.length=7 from rfl]at h2;rw[h2]at this;exact this.symm
 rw[h3,Hq 59 BL _ (by decide)];simp[BL]
def aDf{s:bE}(h:Dt BL s=true):Dt BL (s.take (jQ 59 s))=true:=by have h7:=aIh h;have hle:=vL 59 s;simp only[Dt,eK,fY,Ds,take_take,pL,show BL.length=7 from rfl]at h⊢;rw[Fo h7];exact⟨by omega,h.2⟩
def yX[aG prog][dG prog](body base:bE)(hl:body.length<=1073741824)(hb:base.length<=1073741824):Ok prog 123 [.str body,.str base] (.iL [.sl .own 2 ((bQ body base).1.map aS),.sl .own 2 ((bQ body base).2.1.map nR),.bool (bQ body base).2.2]):=by
 have hst:=MV base (dQ 59 body);have hn:=kW 59 body;have hcn:body.count 59<=body.length:=qS;have hll:(dQ 59 body).length<=1073741825:=by omega
 have lI:∀acc r,qU base (dQ 59 body)=some (acc,r)->∀ls ok,gM (Lib.join r [59])=(ls,ok)->bQ body base=if ok=true then(acc,ls,true)else([],[],false):=by intro acc r h1 ls ok h2;unfold bQ;rw[h1];simp only[h2]
 have CL:qU base (dQ 59 body)=none->bQ body base=([],[],false):=by intro h1;unfold bQ;rw[h1]
 generalize bQ body base=g at*;have hi0:dQ 59 body=dQ 59 body\/(dQ 59 body=[]/\body=[]):= .inl rfl;generalize hL:dQ 59 body=l at hst hn hll lI CL hi0;refine dN aK func123 ntmps123 ?_;refine bK ?_;refine aT (ι:={q:bE×List bE×List aR×Nat // (q.1.length<=body.length/\1<=q.2.2.2)/\(q.2.1=dQ 59 q.1\/(q.2.1=[]/\q.1=[]))/\q.2.2.1.length+q.2.1.length<=l.length/\AX base l q.2.2.1 q.2.1}) (λt o i=>⟨bP t [(8,.str i.1.1),(7,.obj 0 i.1.2.2.2),(9,.aB),(10,.aB),(11,.aB)],[⟨true,false,2,i.1.2.2.2,i.1.2.2.1.map aS⟩]⟩)
  (λi=>i.1.2.1.length) ⟨(body,l,[],1),by simp,.inl hL.symm,by simp,hst⟩ aP ?_
 rintro⟨⟨rest,parts,acc,v⟩,⟨hrl,hv⟩,BH,hac,wB⟩ K1 hK1;simp only at hrl hv BH hac wB;simp only[bP,cH,cQ]at hK1⊢;have aVe:Lib.join parts [59]=rest:=by
  rcases BH with rfl|⟨rfl,rfl⟩
  .exact OO 59 rest
  .rfl
 cases hp:Dt BL rest with
 |false=>
  have hs:qU base l=some (acc,parts):=by
   rcases BH with rfl|⟨rfl,rfl⟩
   .rw [Uj]at wB⊢;refine Qh wB ?_;cases h:Dt BL (rest.take (jQ 59 rest))with
    |false=>rfl
    |true=>rw[aIg h]at hp;cases hp
   .exact Ui wB
  have hr:=lI _ _ hs;rw[aVe]at hr;have cP:=CQ rest (by omega);generalize gM rest=q at*;obtain⟨ls,ok⟩:=q;have hr:=hr ls ok rfl;subst hr;simp only at cP;clear hK1 hs lI CL wB;by_cases h7:(7:Int)<=(rest.length:Int)
  .have he:(rest.take 7 == ([105,109,112,111,114,116,32]:bE))=false:=by
    simp only[Dt,show BL.length=7 from rfl,At,sL]at hp;rcases hp with hp|hp
    .omega
    .exact hp
   clear hp;cases ok
   .simp only[cY,eW];have W:=aA h7 he;refine we ?_;exact aO results123
   .simp only[eS];have W:=aA h7 he;refine we ?_;exact aO results123
  .clear hp;cases ok
   .simp only[cY,eW];have W:=h7;refine we ?_;exact aO results123
   .simp only[eS];have W:=h7;refine we ?_;exact aO results123
 |true=>
  have h7n:=TD hp;have h7:(7:Int)<=(rest.length:Int):=by simp only[show BL.length=7 from rfl]at h7n;omega
  have he:(rest.take 7 == ([105,109,112,111,114,116,32]:bE))=true:=by simp only[Dt,show BL.length=7 from rfl,eK]at hp;exact hp.2
  have hpt:=aDf hp;have hix:=aIh hp;have hxl:=vL 59 rest;have hsg:parts=dQ 59 rest:=by
   rcases BH with h|⟨_,h⟩
   .exact h
   .subst h;simp at h7
  rw[Uj]at hsg;have cI:Ok prog 177 [.str rest,.int .u8 59] (.int .i64 (jQ 59 rest:Nat)):=KM rest 59 (by omega);generalize jQ 59 rest=k at*;subst hsg;have c2:=AL ((rest.take k).drop 7) base (by simp;omega);simp only[aS]at c2;have lX:=Uh wB hpt;have hnext:=Qg wB hpt;have cM:=aQt (rest.length:Int) ((k:Int)+1);have hk7:(7:Int)<=(k:Int):=by omega
  have hkl:(k:Int)<=(rest.length:Int):=by omega
  generalize dR ((rest.take k).drop 7) base=pa at*;obtain⟨a,ok⟩:=pa;simp only at c2 lX hnext;clear hp hpt;cases ok with
  |false=>have hr:=CL (lX rfl);subst hr;clear hK1;have W:=aA h7 (aA he (aA hk7 hkl));refine we ?_;exact aO results123
  |true=>
   by_cases hkk:k<rest.length
   .have hm:min (rest.length:Int) ((k:Int)+1)=((k+1:Nat):Int):=by omega
    rw[hm]at cM;have hk1:=tQ (k:=k);rw[eM hkk]at hnext hac;have W:=aA h7 (aA he (aA hk7 (aA hkl hk1)));refine we ?_;all_goals exact hK1 _ ⟨(rest.drop (k+1),dQ 59 (rest.drop (k+1)),acc++[a],v+1),⟨by simp;omega,by simp only;omega⟩,.inl rfl,by simp at hac⊢;omega,hnext rfl⟩ (aQ 1) (by simp[eM hkk])
   .have hm:min (rest.length:Int) ((k:Int)+1)=(rest.length:Int):=by omega
    rw[hm]at cM;rw[eC hkk]at hnext hac;have W:=aA h7 (aA he (aA hk7 hkl));refine we ?_;all_goals exact hK1 _ ⟨([],[],acc++[a],v+1),⟨by simp,by simp only;omega⟩,.inr ⟨rfl,rfl⟩,by simp at hac⊢;omega,hnext rfl⟩ (aQ 1) (by simp)
def jU(p:aF)(a:aR):List aR:=
 match p.aL.find? (mR a)with
 |some m=>if m.done=true/\m.code=1 then(bQ m.body a.bN).1 else []
 |none=>[]
def wP(p:aF):List aR:=p.aL.flatMap λm=>(bQ m.body m.to.bN).1
def jD(p:aF):Nat->aR->List aR->List aR->List aR×List aR
 |0,_,seen,out=>(seen,out)
 |n+1,a,seen,out=>if seen.any (kR a)=true then(seen,out)else
   (((jU p a).foldl (λs b=>jD p n b s.1 s.2) (seen++[a],out)).1,((jU p a).foldl (λs b=>jD p n b s.1 s.2) (seen++[a],out)).2++[a])
def tX(p:aF)(seen:List aR):Nat:=(p.aL.filter λm=> !seen.any (kR m.to)).length
def gF(p:aF)(n:Nat)(l:List aR)(s:List aR×List aR):List aR×List aR:=l.foldl (λs b=>jD p n b s.1 s.2) s
def Iq(p:aF)(n:Nat)(l:List aR)(b:aR)(s:List aR×List aR):gF p n (l++[b]) s=jD p n b (gF p n l s).1 (gF p n l s).2:=by simp[gF]
def Ad{l:List aR}{a:aR}:l.any (kR a)=true↔a∈l:=by simp[kR]
def KZ(p:aF)(a:aR):∀b∈jU p a,b∈wP p:=by
 intro b hb;unfold jU at hb;split at hb
 .rename_i m hm;split at hb
  .have h1:=FA hm;have h2:=pN hm;simp only[mR,fY]at h1;subst h1;exact Hc.2 ⟨m,h2,hb⟩
  .cases hb
 .cases hb
def O9{p:aF}{a:aR}(h:jU p a≠[]):∃m∈p.aL,m.to=a:=by
 unfold jU at h;split at h
 .rename_i m hm;have h1:=FA hm;simp only[mR,fY]at h1;exact⟨m,pN hm,h1⟩
 .exact absurd rfl h
structure Seen(U:List aR)(s:List aR × List aR): Prop where
  nd:s.1.Nodup
  sub:∀ x ∈ s.1, x ∈ U
  ond:s.2.Nodup
  pg:∀ x ∈ s.2, x ∈ s.1
def Qi{p:aF}{s s':List aR}(h:∀x∈s,x∈s'):tX p s'<=tX p s:=by
 unfold tX;have:∀l:List fO,(l.filter λm=> !s'.any (kR m.to)).length<=(l.filter λm=> !s.any (kR m.to)).length:=by
  intro l;induction l with
  |nil=>simp
  |cons m l ih=>
   simp only[filter_cons];by_cases h1:s.any (kR m.to)=true
   .have h2:s'.any (kR m.to)=true:=Ad.2 (h _ (Ad.1 h1));simp[h1,h2,ih]
   .simp only[AG]at h1;simp only[h1];split<;>simp<;>omega
 exact this p.aL
def XI{p:aF}{s:List aR}{a:aR}(h:¬s.any (kR a)=true)(hm:∃m∈p.aL,m.to=a):tX p (s++[a])<tX p s:=by
 obtain⟨m,hm,rfl⟩:=hm;unfold tX;have key:∀l:List fO,(l.filter λx=> !(s++[m.to]).any (kR x.to)).length<=(l.filter λx=> !s.any (kR x.to)).length/\(m∈l->(l.filter λx=> !(s++[m.to]).any (kR x.to)).length<(l.filter λx=> !s.any (kR x.to)).length):=by
  intro l;induction l with
  |nil=>simp
  |cons x l ih=>
   simp only[filter_cons];by_cases h1:s.any (kR x.to)=true
   .have h2:(s++[m.to]).any (kR x.to)=true:=Ad.2 (pA _ (Ad.1 h1));simp only[h1,h2,DB,cY,eW];refine⟨ih.1,λhmem=> ?_⟩;rcases mC.1 hmem with rfl|hmem
    .exact absurd h1 h
    .exact ih.2 hmem
   .by_cases h2:(s++[m.to]).any (kR x.to)=true
    .simp only[AG]at h1;simp only[h1,h2,DB,cY,eW,Hk,eS,eL];exact⟨by omega,λ_=>by omega⟩
    .have h2':=h2;simp only[AG]at h1 h2;simp only[h1,h2,Hk,eS,eL];refine⟨by omega,λhmem=> ?_⟩;rcases mC.1 hmem with rfl|hmem
     .exact absurd (Ad.2 (by simp)) h2'
     .have:=ih.2 hmem;omega
 exact(key p.aL).2 hm
def Gc{p:aF}{U:List aR}(hU:∀x∈wP p,x∈U):∀(n:Nat) (a:aR) (s:List aR×List aR),a∈U->Seen U s->Seen U (jD p n a s.1 s.2)/\(∀x∈s.1,x∈(jD p n a s.1 s.2).1)
 |0,a,s,_,hs=>by simp only[jD];exact⟨hs,λ_ h=>h⟩
 |n+1,a,s,ha,hs=>by
  simp only[jD];split
  .exact ⟨hs,λ_ h=>h⟩
  .rename_i hn;have hna:a∉s.1:=λh=>hn (Ad.2 h)
   have key:∀(l:List aR) (q:List aR×List aR),(∀x∈l,x∈U)->Seen U q->(a∈q.1/\a∉q.2)->Seen U (l.foldl (λs b=>jD p n b s.1 s.2) q)/\(∀x∈q.1,x∈(l.foldl (λs b=>jD p n b s.1 s.2) q).1)/\a∉(l.foldl (λs b=>jD p n b s.1 s.2) q).2:=by
    intro l;induction l with
    |nil=>intro q _ hq ha;exact⟨hq,λ_ h=>h,ha.2⟩
    |cons b l ih=>intro q hl hq haq;obtain⟨h1,h2⟩:=Gc hU n b q (hl b (by simp)) hq;have h3:a∉(jD p n b q.1 q.2).2:=XJ n b q haq.1 haq.2;obtain⟨h4,h5,h6⟩:=ih (jD p n b q.1 q.2) (λx hx=>hl x (by simp[hx])) h1 ⟨h2 a haq.1,h3⟩;exact⟨h4,λx hx=>h5 x (h2 x hx),h6⟩
   have hs1:Seen U (s.1++[a],s.2):=⟨lE.2 ⟨hs.nd,by simp,λx hx y hy e=>hna (by simp at hy;subst hy;subst e;exact hx)⟩,λx hx=>by
    rcases fR.1 hx with h|h
    .exact hs.sub x h
    .simp at h;subst h;exact ha,hs.ond,λx hx=>pA _ (hs.pg x hx)⟩
   obtain⟨h1,h2,h3⟩:=key (jU p a) (s.1++[a],s.2) (λx hx=>hU x (KZ p a x hx)) hs1 ⟨by simp,λh=>hna (hs.pg a h)⟩;refine⟨⟨h1.nd,h1.sub,?_,?_⟩,λx hx=>h2 x (pA _ hx)⟩
   .exact lE.2 ⟨h1.ond,by simp,λx hx y hy e=>h3 (by simp at hy;subst hy;subst e;exact hx)⟩
   .intro x hx;rcases fR.1 hx with h|h
    .exact h1.pg x h
    .simp at h;subst h;exact h2 x (by simp)
where
 XJ {p:aF} {a:aR}:∀(n:Nat) (b:aR) (q:List aR×List aR),a∈q.1->a∉q.2->a∉(jD p n b q.1 q.2).2
  |0,b,q,h1,h2=>by simpa only[jD]using h2
  |n+1,b,q,h1,h2=>by
   simp only[jD];split
   .exact h2
   .rename_i hn;have jE:a≠b:=λe=>hn (Ad.2 (e▸h1))
    have key:∀(l:List aR) (q:List aR×List aR),a∈q.1->a∉q.2->a∉(l.foldl (λs b=>jD p n b s.1 s.2) q).2:=by
     intro l;induction l with
     |nil=>intro q _ h;exact h
     |cons c l ih=>intro q h1 h2;exact ih _ (pq n c q h1) (XJ n c q h1 h2)
    intro hm;rcases fR.1 hm with h|h
    .exact key (jU p b) (q.1++[b],q.2) (pA _ h1) h2 h
    .simp at h;exact jE h
 pq {p:aF} {a:aR}:∀(n:Nat) (b:aR) (q:List aR×List aR),a∈q.1->a∈(jD p n b q.1 q.2).1
  |0,b,q,h1=>by simpa only[jD]using h1
  |n+1,b,q,h1=>by
   simp only[jD];split
   .exact h1
   .have key:∀(l:List aR) (q:List aR×List aR),a∈q.1->a∈(l.foldl (λs b=>jD p n b s.1 s.2) q).1:=by
     intro l;induction l with
     |nil=>intro q h;exact h
     |cons c l ih=>intro q h1;exact ih _ (pq n c q h1)
    exact key (jU p b) (q.1++[b],q.2) (pA _ h1)
def Fb{α:Type}(f:α->Nat):∀(l U:List α),l.Nodup->(∀x∈l,x∈U)->bU f l<=bU f U/\l.length<=U.length
 |[],U,_,_=>by simp[bU]
 |x::l,U,hn,hs=>by
  simp only[nF]at hn;obtain⟨U1,U2,rfl⟩:=append_of_mem (hs x (by simp));have ih:=Fb f l (U1++U2) hn.2 (λy hy=>by
   have:=hs y (by simp[hy]);simp only[fR,mC]at this⊢;rcases this with h|h|h
   .exact .inl h
   .subst h;exact absurd hy hn.1
   .exact .inr h)
  have e:∀(A B:List α),bU f (A++B)=bU f A+bU f B:=by
   intro A B;induction A with
   |nil=>simp[bU]
   |cons a A ih=>simp only[cW,bU,ih];omega
  simp only[e,bU,eR,eL]at ih⊢;omega
end Go.Proofs.YtanobkmhbpjnpaaGreatDoor
