/- Proved here: steps towards the statement of this claim. No condition. -/
import Derived.Test.YtnkpkklemmgapaaGreatDoorZQRL0
import Derived.Test.YtnkpkklemmgapaaGreatDoorZQS2
import Derived.Test.YtnkpkklemmgapaaGreatDoorZP2
set_option linter.all false
set_option maxRecDepth 100000
set_option maxHeartbeats 8000000
namespace Go.Proofs.YtnkpkklemmgapaaGreatDoor
open Go.Aw Proofs.Tryz List IntKind
theorem aDa[aB prog][eO prog](b:aY)(ss:List bW)(x:kZ)(hs:aS b<=274877906944)(hx:x.text.length<=268435456)(hl:ss.length<=1099511627776)(hr:∀x∈ss,x.rules.length<=1099511627776)(EJ:∀n,0<=bG ss n/\bG ss n<=999)(hop:x.op=1):
  Ok prog 225 [.agg (aW .view b),.sl .view 1 (ss.map (bX .view)),.agg (tC x)] (.iP [.agg (aW .own (eH b ss x).1),.str (eH b ss x).2.1,.str (eH b ss x).2.2]):=by
 have c1:=gX b hs;have hn:b.nodes.length<=274877906944:=by simp only[aS,bV]at hs;omega
 obtain⟨op,tx⟩:=x;simp only at hx hop;have c2:=oK tx (by omega);have c3:=nD b tx (by omega);have c4:=mD ss tx hl hr;have c5:=dZ tx (by omega);have c6:=eX (b.nodes.length:Int) 1 39;have hcn:0<=bO b tx/\bO b tx<=(b.nodes.length:Int):=by unfold bO;have:=sL (λx:gV=>decide (x.name=tx)) b.nodes;omega
 have bg:=EJ tx;have c7:=dW (bO b tx) (by omega);have c8:=dW (bG ss tx) (by omega);have z7:=jM (bO b tx) (by omega) (by omega);have z8:=jM (bG ss tx) (by omega) (by omega);simp only[aW]at c1 c3;clear hr EJ;simp only[eH,EH,MI,Yh];generalize Lib.itoa (bO b tx)=i7 at*;generalize Lib.itoa (bG ss tx)=i8 at*;generalize bO b tx=cn at*;generalize bG ss tx=cc at*;subst hop;rw[eW rfl];refine dL aO func225 ntmps225 ?_;refine dH ?_;exact aR results225
theorem aDe[aB prog][eO prog](b:aY)(ss:List bW)(x:kZ)(hs:aS b<=274877906944)(hx:x.text.length<=268435456)(hl:ss.length<=1099511627776)(hr:∀x∈ss,x.rules.length<=1099511627776)(EJ:∀n,0<=bG ss n/\bG ss n<=999)(hop:x.op=4):
  Ok prog 225 [.agg (aW .view b),.sl .view 1 (ss.map (bX .view)),.agg (tC x)] (.iP [.agg (aW .own (eH b ss x).1),.str (eH b ss x).2.1,.str (eH b ss x).2.2]):=by
 have c1:=gX b hs;have hn:b.nodes.length<=274877906944:=by simp only[aS,bV]at hs;omega
 obtain⟨op,tx⟩:=x;simp only at hx hop;have c2:=oK tx (by omega);have c3:=nD b tx (by omega);have c4:=mD ss tx hl hr;have c5:=dZ tx (by omega);have c6:=eX (b.nodes.length:Int) 1 39;have hcn:0<=bO b tx/\bO b tx<=(b.nodes.length:Int):=by unfold bO;have:=sL (λx:gV=>decide (x.name=tx)) b.nodes;omega
 have bg:=EJ tx;have c7:=dW (bO b tx) (by omega);have c8:=dW (bG ss tx) (by omega);have z7:=jM (bO b tx) (by omega) (by omega);have z8:=jM (bG ss tx) (by omega) (by omega);simp only[aW]at c1 c3;clear hr EJ;simp only[eH,EH,MI,Yh];generalize Lib.itoa (bO b tx)=i7 at*;generalize Lib.itoa (bG ss tx)=i8 at*;generalize bO b tx=cn at*;generalize bG ss tx=cc at*;subst hop;rw[eK (by decide),eK (by decide),eK (by decide),eW rfl];clear c2 c3 c5 c6 c7 z7 hcn;have H7:i8.length<=40:=by omega
 refine BO aO [12] func225 ntmps225 ?_;refine dH ?_;rw[wL];refine Xt (λJ=>⟨[.undef,.sl .view 1 (ss.map (bX .view)),.undef,.ptr 0 0 0 0,.undef,.ptr 1 0 0 0,.ptr 2 0 0 0,dv J 12 (.str []),dv J 13 (.str ([108,111,111,107,32]++tx++[32]++i8)),.ptr 5 0 0 0,.undef,.undef,.undef,.undef,.undef,.undef,.undef,.undef,.undef,.undef,.undef,.undef,.undef,.undef,.undef,.undef,.undef,.undef,.undef,.undef,.undef,.undef,.undef,.undef,.undef,.undef,.undef,.undef,.undef,.undef,.undef,.undef,.undef,.undef,.undef,.undef,.undef,.undef,.undef,.undef,.undef,.undef,.undef,.undef,.undef,dv J 0 (.agg [.obj 3 1,.obj 4 1]),dv J 1 (.ptr 1 0 0 1),dv J 2 (.str tx),dv J 3 (.str ([108,111,111,107,32]++tx)),dv J 4 (.str ([108,111,111,107,32]++tx++[32])),dv J 5 (.sl .view 1 (ss.map (bX .view))),dv J 6 (.ptr 1 0 0 1),dv J 7 (.str tx),dv J 8 (.int .i64 cc),dv J 9 (.str i8),dv J 10 (.str ([108,111,111,107,32]++tx++[32]++i8)),.undef,.undef,.undef,.undef,.undef,.undef,.undef],[⟨true,true,2,0,[[.sl .view 4 (b.nodes.map (fC .view)),.sl .view 1 (b.opens.map lI)]]⟩,⟨true,true,2,0,[[.int .i64 4,.str tx]]⟩,⟨true,true,2,0,[if J 11=true then [.obj 3 1,.obj 4 1]else [.sl .own 4 [],.sl .own 1 []]]⟩,⟨true,false,4,1,b.nodes.map (fC .own)⟩,⟨true,false,1,1,b.opens.map lI⟩,⟨true,true,2,0,[[.obj 3 1,.obj 4 1]]⟩]⟩) (aG (by simp[dv,hx,H7]) (by simp[dv,hx,H7])) (by decide) ?_ ?_
 .simp only[zY,qT];refine⟨⟨trivial,λJ h1 h2=>qB λK hK=> ?_⟩,⟨trivial,λJ h1 h2=>qB λK hK=> ?_⟩,⟨trivial,λJ h1 h2=>qB λK hK=> ?_⟩,⟨trivial,λJ h1 h2=>qB λK hK=> ?_⟩,⟨trivial,λJ h1 h2=>qB λK hK=> ?_⟩,⟨trivial,λJ h1 h2=>qB λK hK=> ?_⟩,⟨trivial,λJ h1 h2=>qB λK hK=> ?_⟩,⟨trivial,λJ h1 h2=>qB λK hK=> ?_⟩,⟨trivial,λJ h1 h2=>qB λK hK=> ?_⟩,⟨trivial,λJ h1 h2=>qB λK hK=> ?_⟩,⟨trivial,λJ h1 h2=>qB λK hK=> ?_⟩,⟨trivial,λJ h1 h2=>qB λK hK=> ?_⟩,⟨trivial,λJ h1 h2=>qB λK hK=> ?_⟩,⟨trivial,λJ h1 h2=>qB λK hK=> ?_⟩⟩;all_goals simp[Region.binds]at h2
  all_goals first
   |(simp[-Bool.exists_bool,rM,dv,h1,h2,hx,H7];refine⟨_,(c4),hK _ (aG ?_ ?_)⟩<;>simp[dv,eT,h1,h2])
   |(simp[-Bool.exists_bool,rM,dv,h1,h2,hx,H7];refine⟨_,(c8),hK _ (aG ?_ ?_)⟩<;>simp[dv,eT,h1,h2])
   |(simp[-Bool.exists_bool,rM,dv,h1,h2,hx,H7];refine⟨?_,hK _ (aG ?_ ?_)⟩;(focus omega);all_goals simp[dv,eT,h1,h2])
   |(simp[-Bool.exists_bool,rM,dv,h1,h2,hx,H7];refine hK _ (aG ?_ ?_)<;>simp[dv,eT,h1,h2])
 .intro J hJ;have hJs:J 0=true/\J 1=true/\J 2=true/\J 3=true/\J 4=true/\J 5=true/\J 6=true/\J 7=true/\J 8=true/\J 9=true/\J 10=true/\J 11=true/\J 12=true/\J 13=true:=⟨hJ 0 (by decide),hJ 1 (by decide),hJ 2 (by decide),hJ 3 (by decide),hJ 4 (by decide),hJ 5 (by decide),hJ 6 (by decide),hJ 7 (by decide),hJ 8 (by decide),hJ 9 (by decide),hJ 10 (by decide),hJ 11 (by decide),hJ 12 (by decide),hJ 13 (by decide)⟩;simp only[dv,hJs,eV];clear hJs hJ J;refine dH ?_;exact aR results225
theorem aDf[aB prog][eO prog](b:aY)(ss:List bW)(x:kZ)(hs:aS b<=274877906944)(hx:x.text.length<=268435456)(hl:ss.length<=1099511627776)(hr:∀x∈ss,x.rules.length<=1099511627776)(EJ:∀n,0<=bG ss n/\bG ss n<=999)(hop:x.op=5):
  Ok prog 225 [.agg (aW .view b),.sl .view 1 (ss.map (bX .view)),.agg (tC x)] (.iP [.agg (aW .own (eH b ss x).1),.str (eH b ss x).2.1,.str (eH b ss x).2.2]):=by
 have c1:=gX b hs;have hn:b.nodes.length<=274877906944:=by simp only[aS,bV]at hs;omega
 obtain⟨op,tx⟩:=x;simp only at hx hop;have c2:=oK tx (by omega);have c3:=nD b tx (by omega);have c4:=mD ss tx hl hr;have c5:=dZ tx (by omega);have c6:=eX (b.nodes.length:Int) 1 39;have hcn:0<=bO b tx/\bO b tx<=(b.nodes.length:Int):=by unfold bO;have:=sL (λx:gV=>decide (x.name=tx)) b.nodes;omega
 have bg:=EJ tx;have c7:=dW (bO b tx) (by omega);have c8:=dW (bG ss tx) (by omega);have z7:=jM (bO b tx) (by omega) (by omega);have z8:=jM (bG ss tx) (by omega) (by omega);simp only[aW]at c1 c3;clear hr EJ;simp only[eH,EH,MI,Yh];generalize Lib.itoa (bO b tx)=i7 at*;generalize Lib.itoa (bG ss tx)=i8 at*;generalize bO b tx=cn at*;generalize bG ss tx=cc at*;subst hop;rw[eK (by decide),eK (by decide),eK (by decide),eK (by decide),eW rfl];refine dL aO func225 ntmps225 ?_;refine dH ?_;exact aR results225
def Ka(t:bU×Bool):List bU:=if t.2=true then [t.1]else []
def nN(x:aU):Option (List bU×aU):=
 if 0<kC 60 x/\kC 60 x<x.length then some ([⟨3,[],[],x.take (kC 60 x)⟩],x.drop (kC 60 x))
 else if kC 60 x≠0\/kC 62 x=x.length then none
 else some (Ka (zG ((x.take (kC 62 x)).drop 1)),x.drop (kC 62 x+1))
theorem EM{x:aU}{ts:List bU}{y:aU}(h:nN x=some (ts,y)):y.length<x.length/\ts.length<=1/\bB dR ts+y.length<=x.length:=by
 unfold nN at h;split at h
 .rename_i hc;simp only[eA,oR]at h;obtain⟨rfl,rfl⟩:=h;simp[bB,dR,bV];omega
 .split at h
  .cases h
  .rename_i hc;have h62:=xK 62 x;simp only[eA,oR]at h;obtain⟨rfl,rfl⟩:=h;have hz:=aC4 ((x.take (kC 62 x)).drop 1);simp only[AI,oY]at hz;generalize zG ((x.take (kC 62 x)).drop 1)=tg at*;unfold Ka;split<;>simp[bB]<;>omega
def EN:Nat->aU->List bU×aU
 |0,x=>([],x)
 |n+1,x=>match nN x with
  |none=>([],x)
  |some (ts,y)=>(ts++(EN n y).1,(EN n y).2)
def feed(x:aU):List bU×aU:=EN x.length x
theorem Dh:∀(n:Nat) (x:aU),x.length<=n->EN n x=EN x.length x
 |0,x,h=>by rw[show x.length=0 by omega]
 |n+1,x,h=>by
  cases hs:nN x with
  |none=>
   cases hx:x.length with
   |zero=>simp[EN,hs]
   |succ m=>simp[EN,hs]
  |some q=>
   obtain⟨ts,y⟩:=q;have hlt:=(EM hs).1;cases hx:x.length with
   |zero=>omega
   |succ m=>simp only[EN,hs];rw[Dh n y (by omega),Dh m y (by omega)]
theorem LG{x:aU}{ts:List bU}{y:aU}(h:nN x=some (ts,y)):feed x=(ts++(feed y).1,(feed y).2):=by
 have hlt:=(EM h).1;unfold feed;cases hx:x.length with
 |zero=>omega
 |succ m=>simp only[EN,h];rw[Dh m y (by omega)]
theorem Uv{x:aU}(h:nN x=none):feed x=([],x):=by
 unfold feed;cases hx:x.length with
 |zero=>simp[EN]
 |succ m=>simp[EN,h]
theorem Kb:∀(n:Nat) (x:aU),x.length<=n->(feed x).1.length+(feed x).2.length<=x.length/\bB dR (feed x).1+(feed x).2.length<=x.length
 |n,x,h=>by
  cases hs:nN x with
  |none=>rw[Uv hs];simp[bB]
  |some q=>
   obtain⟨ts,y⟩:=q;obtain⟨h1,h2,h3⟩:=EM hs;rw[LG hs];cases n with
   |zero=>omega
   |succ n=>
    obtain⟨i1,i2⟩:=Kb n y (by omega);have hj:∀a b:List bU,bB dR (a++b)=bB dR a+bB dR b:=by
     intro a b;induction a with
     |nil=>simp[bB]
     |cons x xs ih=>simp only[cW,bB,ih];omega
    simp only[eM,hj];omega
theorem aH0{x:aU}(h0:kC 60 x=0)(h1:kC 62 x<x.length):1<=kC 62 x:=by
 cases x with
 |nil=>simp at h1
 |cons c r=>
  rw[Ev]at h0⊢;by_cases hc:c=60
  .subst hc;rw[eK (by decide)];omega
  .rw [eK hc]at h0;omega
theorem DT[aB prog][dY prog](t:nJ)(s:aU)(hl:t.rest.length+s.length<=274877906944):Ok prog 141 [.agg (iB t),.str s] (.iP [.sl .own 4 ((feed (t.rest++s)).1.map (eG .own)),.agg [.str (feed (t.rest++s)).2]]):=by
 obtain⟨rest⟩:=t;simp only at hl⊢;have hx0:(rest++s).length<=274877906944:=by simp;omega
 have hj:rest.length+s.length<=9223372036854775807:=by omega
 generalize hx:rest++s=x0 at*;generalize hF:feed x0=F at*;refine dL aO func141 ntmps141 ?_;have W:=aA hj hx;refine we ?_;refine aI (ι:={q:aU×List bU×Nat // (q.2.1.length+q.1.length<=x0.length/\1<=q.2.2)/\F=(q.2.1++(feed q.1).1,(feed q.1).2)}) (λt o i=>⟨bH t [(6,.obj 2 i.1.2.2),(7,.str i.1.1)],[⟨true,true,1,0,[[.str rest]]⟩,⟨true,true,1,0,[[.str []]]⟩,⟨true,false,4,i.1.2.2,i.1.2.1.map (eG .own)⟩]⟩)
  (λi=>i.1.1.length) ⟨(x0,[],1),by simp,by simp[hF]⟩ aG ?_
 rintro⟨⟨x,acc,v⟩,⟨hal,hv⟩,Bo⟩ K1 hK1;simp only at hal hv Bo;simp only[bH,cH,cJ]at hK1⊢;have cK:Ok prog 185 [.str x,.int .u8 60] (.int .i64 (kC 60 x:Nat)):=Ir x 60 (by omega);have cE:Ok prog 185 [.str x,.int .u8 62] (.int .i64 (kC 62 x:Nat)):=Ir x 62 (by omega);have hkl:=xK 60 x;have WC:=xK 62 x;have h1e:=aH0 (x:=x);have cT:=VF ((x.take (kC 62 x)).drop 1) (by simp;omega);simp only[eG,drop_one]at cT;have hst:nN x=_:=rfl;unfold nN at hst;by_cases hA:0<kC 60 x/\kC 60 x<x.length
 .have U9:nN x=some ([⟨3,[],[],x.take (kC 60 x)⟩],x.drop (kC 60 x)):=by unfold nN;rw[eW hA]
  rw[LG U9]at Bo;have hA1:(0:Int)<((kC 60 x:Nat):Int):=by omega
  have hA2:((kC 60 x:Nat):Int)<(x.length:Int):=by omega
  clear hst U9 cT cE h1e WC;generalize kC 60 x=k at*;have hb1:(acc.length+1)*64<=140737488355328:=by omega
  have W:=aA hA1 (aA hA2 hb1);refine we ?_;all_goals refine hK1 _ ⟨(x.drop k,acc++[⟨3,[],[],x.take k⟩],v+1),⟨by simp;omega,by simp only;omega⟩,by rw[Bo];simp⟩ (aL 3) (by simp;omega)
 .by_cases hB:kC 60 x≠0\/kC 62 x=x.length
  .have U9:nN x=none:=by unfold nN;rw[eK hA,eW hB]
   rw[Uv U9]at Bo;subst Bo;clear hst U9 cT h1e hK1;by_cases hk0:kC 60 x=0
   .have hee:kC 62 x=x.length:=by rcases hB with h|h;exact absurd hk0 h;exact h
    rw[hk0]at cK;rw[hee]at cE;clear hA hB;refine dH ?_;exact aR results141
   .have hkk:kC 60 x=x.length:=by omega
    have rf:¬x=[]:=by rintro rfl;simp at hkk;exact hk0 hkk
    have hx2:0<x.length:=CH.2 rf;rw[hkk]at cK;clear hA hB hk0;have W:=aA rf hx2;refine we ?_;exact aR results141
  .have U9:nN x=some (Ka (zG ((x.take (kC 62 x)).drop 1)),x.drop (kC 62 x+1)):=by unfold nN;rw[eK hA,eK hB]
   rw[LG U9]at Bo;have hk0:kC 60 x=0:=by omega
   have hE1:=h1e hk0 (by omega);have Ry:kC 62 x<x.length:=by omega
   rw[hk0]at cK;clear hst U9 h1e hA hB hk0 hkl;generalize kC 62 x=e at*;rw[drop_one]at Bo;generalize zG (x.take e).tail=tg at*;obtain⟨tk,ok⟩:=tg;simp only at cT;have hE3:¬((e:Int)=(x.length:Int)):=by omega
   have hE4:(1:Int)<=(e:Int):=by omega
   have hE5:(e:Int)<=(x.length:Int):=by omega
   have hw:i64.wrap ((e:Int)+1)=((e+1:Nat):Int):=by rw[wrap64]<;>omega
   have hE6:e+1<=x.length:=by omega
   have hb1:(acc.length+1)*64<=140737488355328:=by omega
   cases ok
   .simp only[Ka,cX,eS,cY]at Bo;have W:=aA hE3 (aA hE4 (aA hE5 (aA hw (aA hE6 hE1))));refine we ?_;all_goals refine hK1 _ ⟨(x.drop (e+1),acc,v),⟨by simp;omega,hv⟩,Bo⟩ (aL 3) (by simp;omega)
   .simp only[Ka,eV]at Bo;have W:=aA hE3 (aA hE4 (aA hE5 (aA hw (aA hE6 (aA hE1 hb1)))));refine we ?_;all_goals refine hK1 _ ⟨(x.drop (e+1),acc++[tk],v+1),⟨by simp;omega,by simp only;omega⟩,by rw[Bo];simp⟩ (aL 3) (by simp;omega)
def yN(s:aU):List bU:=(feed s).1++oV ⟨(feed s).2⟩
theorem MJ(t:nJ):bB dR (oV t)<=t.rest.length/\(oV t).length<=1:=by
 unfold oV;split
 .simp [bB]
 .simp [bB,dR,bV]
theorem MK(s:aU):(yN s).length<=s.length+1/\bB dR (yN s)<=s.length:=by
 obtain⟨h1,h2⟩:=Kb s.length s (eE _);obtain⟨h3,h4⟩:=MJ ⟨(feed s).2⟩;have hj:∀a b:List bU,bB dR (a++b)=bB dR a+bB dR b:=by
  intro a b;induction a with
  |nil=>simp[bB]
  |cons x xs ih=>simp only[cW,bB,ih];omega
 simp only[yN,eM,hj]at*;omega
theorem NB[aB prog][dY prog](s:aU)(hl:s.length<=1048576):Ok prog 191 [.str s] (.sl .own 4 ((yN s).map (eG .own))):=by
 have c1:=DT ⟨[]⟩ s (by simp;omega);obtain⟨h1,h2⟩:=Kb s.length s (eE _);simp only[cY,iB]at c1;unfold yN;generalize feed s=f at*;obtain⟨l,x⟩:=f;simp only at c1 h1 h2⊢;have c2:=EL ⟨x⟩ (by simp only;omega);have h4:=(MJ ⟨x⟩).2;simp only[iB]at c2;generalize oV ⟨x⟩=g at*;have hb1:(l.length+g.length)*64<=140737488355328:=by omega
 refine dL aO func191 ntmps191 ?_;have W:=hb1;refine we ?_;all_goals try(refine aZ ?_;simp[aX,results191])
 all_goals (first|(rw[<-oX];exact uC _)|simp)
theorem xm(c:UInt8):∀s:aU,∀p∈dP c s,p.length<=s.length
 |[],p,h=>by simp only[dP,nF]at h;subst h;simp
 |x::s,p,h=>by
  have ih:=xm c s;simp only[dP]at h;split at h
  .rcases gE.1 h with rfl|h
   .simp
   .have:=ih p h;simp;omega
  .split at h
   .rename_i h0;exact absurd h0 (uD c s)
   .rename_i q r h0;rw[h0]at ih;rcases gE.1 h with rfl|h
    .have:=ih q (by simp);simp;omega
    .have:=ih p (by simp[h]);simp;omega
def iE(s:aU):List kZ×Bool:=
 if s=[]then([],true)else if ((dP 59 s).all λp=>(fT p).2)=true/\(dP 59 s).length<=6 then((dP 59 s).map λp=>(fT p).1,true)else([],false)
theorem jq{s:aU}{k:Nat}(h0:s≠[])(hk:k<(dP 59 s).length)(h:(fT (dP 59 s)[k]).2=false):iE s=([],false):=by unfold iE;rw[eK h0,eK];rintro⟨h1,_⟩;have:=fW.1 h1 _ (hI hk);rw[h]at this;cases this
theorem Yo{s:aU}(h0:s≠[])(h:6<(dP 59 s).length):iE s=([],false):=by unfold iE;rw[eK h0,eK];rintro⟨_,h1⟩;omega
theorem Yp{s:aU}(h0:s≠[])(h1:∀p∈dP 59 s,(fT p).2=true)(h2:(dP 59 s).length<=6):iE s=((dP 59 s).map λp=>(fT p).1,true):=by unfold iE;rw[eK h0,eW ⟨fW.2 h1,h2⟩]
theorem K6{l:List aU}{k:Nat}(hk:k<l.length)(h:∀p∈l.take k,(fT p).2=true)(h1:(fT l[k]).2=true):∀p∈l.take (k+1),(fT p).2=true:=by
 intro p hp;rw[eL hk]at hp;rcases fS.1 hp with hp|hp
 .exact h p hp
 .rw [nF.1 hp];exact h1
theorem aDi{α β:Type}(f:α->β)(l:List α)(k:Nat)(h:k<l.length):(l.take (k+1)).map f=(l.take k).map f++[f l[k]]:=by rw[eL h,oX];rfl
def eSp(p:aU):List AV:=tC (fT p).1
theorem aH1(l:List aU):(l.map λp=>(fT p).1).map tC=l.map eSp:=by rw[map_map];rfl
theorem Al[aB prog][dY prog](s:aU)(hl:s.length<=1073741824):Ok prog 189 [.str s] (.iP [.sl .own 2 ((iE s).1.map tC),.bool (iE s).2]):=by
 by_cases h0:s=[]
 .subst h0;have hr:iE []=([],true):=rfl;rw[hr];refine dL aO func189 ntmps189 ?_;refine dH ?_;exact aR results189
 .have cS:Ok prog 93 [.str s,.int .u8 59] (.sl .own 1 ((dP 59 s).map dQ)):=vI s 59 (by omega);have hb0:(s == ([]:aU))=false:=by simp[h0]
  have hle:=xm 59 s;have hn:=jU 59 s;have hcn:s.count 59<=s.length:=tB;have hb:=λk hk=>jq (k:=k) h0 hk
  have hlg:=Yo h0;have hgd:=Yp h0;have hne:=uD 59 s;generalize dP 59 s=l at*;have hll:l.length<=1073741825:=by omega
  have hl0:0<l.length:=CH.2 hne;generalize iE s=g at*;refine dL aO func189 ntmps189 ?_;have W:=aA h0 hb0;refine we ?_;refine aI (ι:={q:Nat×Nat // (q.1<=l.length/\1<=q.2)/\(∀p∈l.take q.1,(fT p).2=true)/\(0<q.1->l.length<=6)}) (λt o i=>⟨bH t [(6,.int .i64 i.1.1),(4,.obj 0 i.1.2),(7,.undef),(8,.undef)],[⟨true,false,2,i.1.2,(l.take i.1.1).map eSp⟩]++o.drop 1⟩)
   (λi=>l.length-i.1.1) ⟨(0,1),by simp,by simp,by simp⟩ aG ?_
  rintro⟨⟨k,v⟩,⟨hk,hv⟩,hgood,aPd⟩ K1 hK1;simp only at hk hv hgood aPd;simp only[bH,cH,cJ,vA,DH,cW,cY]at hK1⊢;have hk1:=rE (k:=k);by_cases hlt:k<l.length
  .have hg:=aE hlt;have c1:=K5 l[k] (by have:=hle _ (hI hlt);omega);have hps:=aDi eSp l k hlt;have hx:eSp l[k]=tC (fT l[k]).1:=rfl;have Lr:((l.take k).map eSp).length=k:=by simp;omega
   have hbk:=hb k hlt;have Uz:=K6 hlt hgood;simp only[tC]at c1;generalize (l.take k).map eSp=rows at*;generalize fT l[k]=x at*;obtain⟨x,ok⟩:=x;simp only[tC]at c1 hbk Uz hps hx;rw[hx]at hps;cases ok with
   |false=>have hr:=hbk rfl;subst hr;have W:=aA hk1 (aA hg hlt);refine we ?_;exact aR results189
   |true=>
    by_cases h6:6<l.length
    .have hr:=hlg h6;subst hr;have h6i:(6:Int)<(l.length:Int):=by omega
     have W:=aA hk1 (aA hg (aA hlt h6i));refine we ?_;exact aR results189
    .have h6i:¬(6:Int)<(l.length:Int):=by omega
     have W:=aA hk1 (aA hg (aA hlt (aA Lr h6i)));refine we ?_;all_goals exact hK1 _ ⟨(k+1,v+1),⟨by simp only;omega,by simp only;omega⟩,Uz rfl,λ_=>by omega⟩ (aL 2 (by simp[hps])) (by simp only;omega)
  .have htk:l.take k=l:=eJ (by omega);rw[htk]at hgood⊢;have hr:=hgd hgood (aPd (by omega));subst hr;simp only[aH1];have W:=hk1;refine we ?_;all_goals try(refine aZ ?_;simp[aX,results189])
   all_goals exact eD _ (by intro x;rfl) l
def vE(s:nK):Bool:= !(decide (s.mode=2)&& !s.done)
theorem Az[aB prog](p:aC)(hl:p.aF.length<=1099511627776):Ok prog 148 [.agg (aQ .view p)] (.bool (p.aF.all vE)):=by
 refine dL aO func148 ntmps148 ?_;refine oU ?_;refine aI (ι:={k:Nat // k<=p.aF.length/\∀x∈p.aF.take k,vE x=true}) (λt o i=>⟨bH t [(3,.int .i64 i.1)],o⟩)
  (λi=>p.aF.length-i.1) ⟨0,by simp⟩ aG ?_
 rintro⟨k,hk,hpre⟩ K1 hK1;simp only[bH,cH,cJ]at hK1⊢;have hk1:=rE (k:=k);by_cases hlt:k<p.aF.length
 .have hg:=aE hlt;have W:=aA hk1 (aA hg hlt);repeat' first|refine wg ?_|(refine sq ?_ ?_<;>intro hc<;>try exact hc.elim)|fail
  all_goals first
   |(refine hK1 _ ⟨k+1,by omega,gB hlt hpre (by simp_all[vE])⟩ aG (by simp only;omega);done)
   |skip
  all_goals try(refine aZ ?_;simp[aX,results148])
  exact⟨_,hI hlt,by simp_all[vE]⟩
 .have W:=hk1;refine wl ?_;all_goals try(refine aZ ?_;simp[aX,results148])
  exact qM (by omega) hpre
def EW(n:Int)(s:aU)(x:gV):aU:=if x.parent=n/\x.name=[]then s++x.text else s
def IJ(b:aY)(n:Int):aU:=b.nodes.foldl (EW n) []
def Sm(b:aY)(n:Int)(k:Nat):aU:=(b.nodes.take k).foldl (EW n) []
theorem L9(b:aY)(n:Int)(k:Nat)(h:k<b.nodes.length):Sm b n (k+1)=EW n (Sm b n k) b.nodes[k]:=by unfold Sm;rw[eL h,CI];rfl
theorem ko(n:Int)(s:aU)(x:gV):(EW n s x).length<=s.length+gK x:=by
 unfold EW gK;split
 .simp only[eM];omega
 .omega
theorem aDp(n:Int):∀(l:List gV) (s:aU),(l.foldl (EW n) s).length<=s.length+bB gK l
 |[],s=>by simp[bB]
 |x::l,s=>by have h1:=aDp n l (EW n s x);have h2:=ko n s x;simp only[Fi,bB];omega
theorem AA{α:Type}(f:α->Nat):∀(l:List α) (k:Nat),bB f (l.take k)<=bB f l
 |[],k=>by simp[bB]
 |x::l,0=>by simp[bB]
 |x::l,k+1=>by have:=AA f l k;simp only[fL,bB];omega
theorem Yx(b:aY)(n:Int)(k:Nat):(Sm b n k).length<=aS b:=by have h1:=aDp n (b.nodes.take k) [];have h2:=AA gK b.nodes k;unfold Sm;simp only[aS,bV,eR]at*;omega
theorem kr(b:aY)(n:Int):(IJ b n).length<=aS b:=by
 have:=Yx b n b.nodes.length;unfold Sm at this
 rwa[tW]at this
theorem Sn[aB prog](b:aY)(n:Int)(hs:aS b<=1099511627776):Ok prog 150 [.agg (aW .view b),.int .i64 n] (.str (IJ b n)):=by
 have hN:b.nodes.length<=1099511627776:=by simp only[aS,bV]at hs;omega
 have hend:Sm b n b.nodes.length=IJ b n:=by unfold Sm IJ;rw[tW]
 rw[<-hend];have hz:Sm b n 0=[]:=rfl;have hln:=λk=>Yx b n k
 have hsu:=L9 b n;generalize Sm b n=T at*;clear hend;refine dL aO func150 ntmps150 ?_;refine oU ?_;refine aI (ι:={k:Nat // k<=b.nodes.length}) (λt o i=>⟨bH t [(6,.int .i64 i.1),(5,.str (T i.1))],o⟩)
  (λi=>b.nodes.length-i.1) ⟨0,by simp⟩ (aG (by simp) (by simp[hz])) ?_
 rintro⟨k,hk⟩ K1 hK1;simp only[bH,cH,cJ]at hK1⊢;have hk1:=rE (k:=k);by_cases hlt:k<b.nodes.length
 .have hg:=aE hlt;have hnext:=hsu k hlt;have hl1:=hln (k+1);have hl0:=hln k;rw[hnext]at hl1;unfold EW at hnext hl1;clear hsu hln hz;generalize hT:T k=s at*;by_cases hp:b.nodes[k].parent=n
  .by_cases hn:b.nodes[k].name=[]
   .rw [eW ⟨hp,hn⟩]at hnext hl1;rw[eM]at hl1;have aL4:s.length+b.nodes[k].text.length<=1099511627776:=by omega
    have W:=aA hk1 (aA hg (aA hlt (aA hp (aA hn aL4))));refine wl ?_;all_goals refine hK1 _ ⟨k+1,by omega⟩ (aG (by simp) (by simp[hnext])) (by simp only;omega)
   .rw [eK (by simp[hn])]at hnext hl1;have hne:b.nodes[k].name.isEmpty=false:=by cases hc:b.nodes[k].name with|nil=>exact absurd hc hn|cons _ _=>rfl
    have W:=aA hk1 (aA hg (aA hlt (aA hp (aA hn hne))));refine wl ?_;all_goals refine hK1 _ ⟨k+1,by omega⟩ (aG (by simp) (by simp[hnext])) (by simp only;omega)
  .rw [eK (by simp[hp])]at hnext hl1;have W:=aA hk1 (aA hg (aA hlt hp));refine wl ?_;all_goals refine hK1 _ ⟨k+1,by omega⟩ (aG (by simp) (by simp[hnext])) (by simp only;omega)
 .have hkl:k=b.nodes.length:=by omega
  subst hkl;have W:=hk1;refine wl ?_;exact aR results150
def Eb:aU:=[105,109,112,111,114,116,32]
def nO(base:aU):List aU->Option (List aK×List aU)
 |[]=>some ([],[])
 |p::ps=>if Rx Eb p=true then(if (cB (p.drop 7) base).2=true then(nO base ps).map (λq=>((cB (p.drop 7) base).1::q.1,q.2))else none)else some ([],p::ps)
def bL(body base:aU):List aK×List kZ×Bool:=
 match nO base (dP 59 body)with
 |none=>([],[],false)
 |some (l,r)=>if (iE (Lib.join r [59])).2=true then(l,(iE (Lib.join r [59])).1,true)else([],[],false)
def zA(base:aU)(l:List aU)(acc:List aK)(r:List aU):Prop:=nO base l=(nO base r).map λq=>(acc++q.1,q.2)
theorem VS(base:aU)(l:List aU):zA base l [] l:=by unfold zA;cases nO base l<;>simp
theorem ku{base:aU}{l:List aU}{acc:List aK}{p:aU}{ps:List aU}(h:zA base l acc (p::ps))(h1:Rx Eb p=true)(h2:(cB (p.drop 7) base).2=false):nO base l=none:=by unfold zA at h;rw[h];simp[nO,h1,h2]
theorem Yz{base:aU}{l:List aU}{acc:List aK}{p:aU}{ps:List aU}(h:zA base l acc (p::ps))(h1:Rx Eb p=true)(h2:(cB (p.drop 7) base).2=true):zA base l (acc++[(cB (p.drop 7) base).1]) ps:=by unfold zA at h⊢;rw[h];simp only[nO,h1,h2,eV];cases nO base ps<;>simp
theorem kz{base:aU}{l:List aU}{acc:List aK}(h:zA base l acc []):nO base l=some (acc,[]):=by unfold zA at h;rw[h];simp[nO]
theorem YA{base:aU}{l:List aU}{acc:List aK}{p:aU}{ps:List aU}(h:zA base l acc (p::ps))(h1:Rx Eb p=false):nO base l=some (acc,p::ps):=by unfold zA at h;rw[h];simp[nO,h1]
theorem UC(c:UInt8):∀s:aU,Lib.join (dP c s) [c]=s
 |[]=>by simp[dP,Lib.join_one]
 |x::s=>by
  have ih:=UC c s;simp only[dP];split
  .rename_i h;subst h;cases hs:dP x s with
   |nil=>exact absurd hs (uD x s)
   |cons p r=>rw[hs]at ih;simp only[Lib.join,intercalate]at ih⊢;simp only[intersperse,pH,cY,singleton_append]at ih⊢;rw[ih]
  .split
   .rename_i h0;exact absurd h0 (uD c s)
   .rename_i p r h0;rw[h0]at ih;simp only[Lib.join,intercalate]at ih⊢;cases r with
    |nil=>simp only[intersperse,pH,flatten_nil,eC]at ih⊢;rw[ih]
    |cons q r=>simp only[intersperse,pH,cW]at ih⊢;rw[ih]
theorem mf(p:aC)(a:aK)(k:Nat):bV bI (wP p a k)=bV bI p.aN+1+aP a:=by
 have h1:bB bI (p.aN.take k)+bB bI (p.aN.drop k)=bB bI p.aN:=by rw[<-iX,mN]
 have h2:(p.aN.take k).length+(p.aN.drop k).length=p.aN.length:=by rw[<-eM,mN]
 have h3:bI (Dj p a)=aP a:=by unfold Dj;split<;>simp[bI]
 simp only[wP,bV,eM,dT,iX,bB,h3];omega
theorem aL9(p:aC)(a:aK):aM (fB p a)<=aM p+aP a+1:=by
 have h:=mf p a (yQ p.aN a);unfold fB;split
 .split
  .omega
  .simp only[aM,h];omega
 .simp only[aM,h];omega
theorem ask_cases(p:aC)(a:aK):(fB p a=p/\∃m,p.aN[yQ p.aN a]? =some m/\m.to=a)\/(fB p a={p with aN:=wP p a (yQ p.aN a)}/\∀m,p.aN[yQ p.aN a]? =some m->m.to≠a):=by
 unfold fB;split
 .rename_i m hm;split
  .rename_i e;exact .inl ⟨rfl,m,hm,e⟩
  .rename_i e;refine .inr ⟨rfl,λx hx=> ?_⟩;rw[hm]at hx;exact cU hx▸e
 .rename_i hm;refine .inr ⟨rfl,λx hx=> ?_⟩;rw[hm]at hx;cases hx
def bZ(p:aC):mI:=⟨p.builder,p.log,nR p,fZ (bF p),p.jZ⟩
theorem Oa[aB prog][dY prog][eO prog][pM prog](p:aC)(hs:aM p<=33554432)(h1:(bF p).length<=1099511627776)(h2:∀x∈bF p,x.rules.length<=1099511627776)(h3:(eY (bF p)).length<=1099511627776):Ok prog 6 [.agg (aQ .view p)] (.agg (dC .own (bZ p))):=by
 have hB:aS p.builder<=274877906944:=by simp only[aM]at hs;omega
 have hlg:p.log.length<=33554432:=by simp only[aM,bV]at hs;omega
 have c1:=PO p.builder hB;have c2:=KI p (by simp only[aM,bV]at hs;omega) (by simp only[aM,bV]at hs;omega);have c3:=DR p (by simp only[aM,bV]at hs⊢;omega);have c4:=KJ (bF p) h1 h2 h3;unfold bZ;generalize nR p=V at*;generalize bF p=S at*;generalize fZ S=J at*;simp only[aQ,aW]at c1 c2 c3;simp only[bX]at c4;refine dL aO func6 ntmps6 ?_;have W:=trivial;repeat' first|refine st ?_|(refine nx ?_;first|refine se ?_|refine so ?_)|(refine cx ?_;refine sc (λhc=>?_) (λhc=>?_)<;>try exact hc.elim)|(refine lx ?_;refine sp (λhc=>?_) (λhc=>?_)<;>try exact hc.elim)|refine sx ?_ ?_|refine sy ?_ ?_|fail
 all_goals (try exact aR results6)
theorem DZ[aB prog][dY prog][eO prog](p:aC)(hs:aM p<=33554432)(h1:(bF p).length<=1099511627776)(h2:∀x∈bF p,x.rules.length<=1099511627776)(h3:(eY (bF p)).length<=1099511627776):Ok prog 11 [.agg (aQ .view p)] (.agg (dC .own (bZ p))):=by
 have hB:aS p.builder<=274877906944:=by simp only[aM]at hs;omega
 have hlg:p.log.length<=33554432:=by simp only[aM,bV]at hs;omega
 have c1:=gX p.builder hB;have c2:=KH p (by simp only[aM,bV]at hs;omega) (by simp only[aM,bV]at hs;omega);have c3:=yY p (by simp only[aM,bV]at hs⊢;omega);have c4:=KL (bF p) h1 h2 h3;unfold bZ;generalize nR p=V at*;generalize bF p=S at*;generalize fZ S=J at*;simp only[aQ,aW]at c1 c2 c3;simp only[bX]at c4;refine dL aO func11 ntmps11 ?_;have W:=trivial;repeat' first|refine st ?_|(refine nx ?_;first|refine se ?_|refine so ?_)|(refine cx ?_;refine sc (λhc=>?_) (λhc=>?_)<;>try exact hc.elim)|(refine lx ?_;refine sp (λhc=>?_) (λhc=>?_)<;>try exact hc.elim)|refine sx ?_ ?_|refine sy ?_ ?_|fail
 all_goals (try exact aR results11)
theorem ZC{α:Type}(f:α->Nat)(c:Nat):∀l:List α,(∀x∈l,f x<=c)->bB f l<=c*l.length
 |[],_=>by simp[bB]
 |x::xs,h=>by have h1:=h x (by simp);have h2:=ZC f c xs (λy hy=>h y (by simp[hy]));simp only[bB,dT,Nat.mul_add,Nat.mul_one];omega
theorem aIx{p:aU}{r:nZ}(h:rF p=some r):sG r<=8:=by
 unfold rF at h;split at h
 .split at h
  .rename_i hc;have hn:=hc.1;simp only[eA]at h;subst h;simp only[dJ,eI,fX]at hn;simp only[sG];omega
  .cases h
 .cases h
theorem Nk{p:aC}{x:bW}(hx:x∈bF p):x.rules.length<=8/\∀r∈x.rules,r.name.length<=8:=by unfold bF kQ at hx;obtain⟨y,_,rfl⟩:=qS.1 hx;refine⟨JS (dP 59 y.body),?_⟩;intro r hr;have h1:=pC hr;obtain⟨q,_,hq⟩:=mem_filterMap.1 h1;exact aIx hq
theorem Nl:∀l:List bW,(∀x∈l,x.rules.length<=8)->(eY l).length<=8*l.length
 |[],_=>by simp[eY]
 |x::xs,h=>by have h1:=h x (by simp);have h2:=Nl xs (λy hy=>h y (by simp[hy]));simp only[eY,DP,eM,oT,dT]at h2⊢;omega
theorem ZE{acc:List aU}{n x:aU}(h:x∈iK acc n):x∈acc\/x=n:=by
 unfold iK at h;split at h
 .exact .inl h
 .simp only[fS,gE]at h;rcases h with h|h|h
  .exact .inl (pC h)
  .exact .inr h
  .exact .inl (AG h)
theorem ZF(acc:List aU)(n:aU):(iK acc n).length<=acc.length+1:=by
 unfold iK;split
 .omega
 .simp only[eM,dT,oY,AI];omega
theorem KM:∀(ns acc:List aU),(∀x∈acc,x.length<=8)->(∀x∈ns,x.length<=8)->(ns.foldl iK acc).length<=acc.length+ns.length/\∀x∈ns.foldl iK acc,x.length<=8
 |[],acc,ha,_=>by simpa using ha
 |n::ns,acc,ha,hn=>by
  obtain⟨h1,h2⟩:=KM ns (iK acc n) (by
   intro x hx;rcases ZE hx with h|h
   .exact ha x h
   .subst h;exact hn _ (by simp)) (λx hx=>hn x (by simp[hx]))
  refine⟨?_,h2⟩;have:=ZF acc n;simp only[Fi,dT];omega
theorem Jh(p:aC):(∀x∈bF p,x.rules.length<=8)/\(bF p).length<=p.aF.length/\(eY (bF p)).length<=8*p.aF.length/\(fZ (bF p)).rules.length<=8*p.aF.length/\xZ (fZ (bF p))<=72*p.aF.length:=by
 have h1:∀x∈bF p,x.rules.length<=8:=λx hx=>(Nk hx).1
 have h2:(bF p).length<=p.aF.length:=wK _;have h3:=Nl _ h1;have h4:∀x∈eY (bF p),x.length<=8:=by intro x hx;unfold eY at hx;obtain⟨s,hs,hx⟩:=Bx.1 hx;obtain⟨r,hr,rfl⟩:=qS.1 hx;exact(Nk hs).2 r hr
 obtain⟨h5,h6⟩:=KM (eY (bF p)) [] (by simp) h4;have h7:(fZ (bF p)).rules.length<=8*p.aF.length:=by simp only[fZ,vY,oT,eR]at h5⊢;omega
 refine⟨h1,h2,by omega,h7,?_⟩;have h8:=ZC sG 8 (fZ (bF p)).rules (by
  intro r hr;simp only[fZ,vY]at hr;obtain⟨n,hn,rfl⟩:=qS.1 hr;exact h6 n hn)
 simp only[xZ,bV];omega
theorem aE4{α:Type}{f:α->aU}(h:∀x,(f x).length<=40):∀l:List α,bB dI (iO f l)<=40*l.length
 |[]=>by simp[iO,bB]
 |x::l=>by have h1:=h x;have ih:=aE4 h l;simp only[iO,lA,bB,dI,dT]at ih⊢;omega
theorem Nn(p:aC):bB dI (nR p)<=40*(p.aF.length+p.aN.length)/\(nR p).length=p.aF.length+p.aN.length:=by
 have h1:=aE4 (f:=vS) (λs=>DW _ _ _ _) p.aF;have h2:=aE4 (f:=vM) (λs=>DW _ _ _ _) p.aN;have h3:∀a b:List aU,bB dI (a++b)=bB dI a+bB dI b:=by
  intro a b;induction a with
  |nil=>simp[bB]
  |cons x xs ih=>simp only[cW,bB,ih];omega
 refine⟨?_,by simp[nR,fG]⟩;simp only[nR,h3];omega
theorem qm{α:Type}{f:α->Option Int}{l:List α}{c:Int}(h:look f l l.length=some c):∃x∈l,f x=some c:=by unfold look at h;rw[tW]at h;obtain⟨x,hx,h⟩:=exists_of_findSome?_eq_some h;exact⟨x,by simpa using hx,h⟩
theorem Rn{α:Type}{f:α->Option Int}{l:List α}(h:∀x∈l,f x=none):look f l l.length=none:=by unfold look;rw[tW,findSome?_eq_none_iff];exact λx hx=>h x (by simpa using hx)
theorem Wm{α:Type}{f:α->Option Int}{l:List α}(h:look f l l.length=none):∀x∈l,f x=none:=by unfold look at h;rw[tW,findSome?_eq_none_iff]at h;exact λx hx=>h x (by simpa using hx)
theorem Wn(ss:List bW)(n:aU):bG [fZ ss] n=bG ss n:=by
 have hm:=(DC (eY ss) [] Pairwise.nil).2;have e1:bG [fZ ss] n=(tJ n (fZ ss)).getD 0:=by unfold bG look;simp only[As,fL,lE,reverse_singleton,findSome?_cons,findSome?_nil];cases tJ n (fZ ss)<;>rfl
 rw[e1];cases h:tJ n (fZ ss)with
 |some c=>
  obtain⟨r,hr,hc⟩:=qm h;simp only[fZ,vY]at hr;obtain⟨m,_,rfl⟩:=qS.1 hr;unfold Co at hc;split at hc
  .rename_i hn;simp only at hn hc;subst hn;simpa using(cU hc).symm
  .cases hc
 |none=>
  have h1:=Wm h;have hn:n∉eY ss:=by intro hn;have h2:n∈(eY ss).foldl iK []:=(hm n).2 (.inr hn);have:=h1 ⟨n,bG ss n⟩ (by simp only[fZ,vY];exact qS.2 ⟨n,h2,rfl⟩);unfold Co at this;rw[eW rfl]at this;cases this
  have h2:look (tJ n) ss ss.length=none:=by
   refine Rn λs hs=>Rn λr hr=> ?_
   unfold Co;rw[eK];intro e;exact hn (by unfold eY;exact Bx.2 ⟨s,hs,qS.2 ⟨r,hr,e⟩⟩)
  unfold bG;rw[h2]
theorem KO(ss:List bW)(l:List gV):∀(f:Nat) (a:Int),jS [fZ ss] l f a=jS ss l f a
 |0,_=>rfl
 |f+1,a=>by
  simp only[jS,Wn];split
  .split
   .rw [KO ss l f]
   .rfl
  .rfl
theorem qo(p:aC)(i:Nat)(h:i<p.builder.nodes.length):(AQ p)[i]? =some (jS (bF p) p.builder.nodes 40 (i:Int)):=by unfold AQ pF;rw[sA,getElem?_range h];rfl
theorem yx(p:aC)(h:∀n,Sd (bG (bF p) n)):wy (fZ (bF p)):=by intro r hr;simp only[fZ,vY]at hr;obtain⟨n,_,rfl⟩:=qS.1 hr;exact h n
theorem Ji(p:aC)(hs:aM p<=30000000)(hm:p.aF.length+p.aN.length<=16384):mO (bZ p)<=33554432/\(bZ p).builder=p.builder/\(bZ p).log=p.log/\(bZ p).dV.length<=16384/\(bZ p).sN.rules.length<=131072:=by
 obtain⟨h1,h2,h3,h4,h5⟩:=Jh p;obtain⟨v1,v2⟩:=Nn p;have hb:aS p.builder+bV dI p.log<=30000000:=by simp only[aM]at hs;omega
 refine⟨?_,rfl,rfl,?_,?_⟩
 .simp only[bZ,mO]at h5⊢;simp only[bV]at hb⊢;omega
 .simp only[bZ];omega
 .simp only[bZ];omega
theorem aMs[aB prog](d:List UInt8)(hd:d.length<=9223372036854775807):Ok prog 4 [.sl .view 1 (bA d)] (.bool (decide (1048576<(d.length:Int)))):=by
 refine dL aO func4 ntmps4 ?_;have hb:(bA d).length=d.length:=by simp[bA]
 have W:=hb;repeat' first|refine st ?_|(refine nx ?_;refine so ?_)|(refine cx ?_;refine sc (λhc=>?_) (λhc=>?_)<;>try exact hc.elim)|(refine lx ?_;refine sp (λhc=>?_) (λhc=>?_)<;>try exact hc.elim)|refine sx ?_ ?_|refine sy ?_ ?_|fail
 all_goals (try exact aR results4)
theorem qz{x:AV}(hx:nX [.sl 1 [.int .u8]] [x]):∃d:List UInt8,x= .sl .view 1 (bA d)/\d.length<=9223372036854775807:=by
 obtain⟨l,rfl,⟨h,_⟩,_⟩:=iq (e:=λc:UInt8=>[.int .u8 c.toNat]) (p:=λ_=>True) (q:=λ_=>True) (λr h=>by
  obtain⟨n,r',rfl,hn,h⟩:=fits_int h;obtain rfl:=aBi h;have hn1:0<=n/\n<=255:=hn;refine⟨UInt8.ofNat n.toNat,?_,trivial,trivial⟩;have e:(((UInt8.ofNat n.toNat).toNat:Nat):Int)=n:=by rw[UInt8.toNat_ofNat'];omega
  rw[e]) hx
 exact⟨l,rfl,h⟩
end Go.Proofs.YtnkpkklemmgapaaGreatDoor
