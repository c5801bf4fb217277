/- Proved here: steps towards the statement of this claim. No condition. -/
import Derived.Test.YtjmpjmilndkgfaaGreatDoorZQS4
import Derived.Test.YtjmpjmilndkgfaaGreatDoorZJ5
import Derived.Test.YtjmpjmilndkgfaaGreatDoorZQSR
set_option linter.all false
set_option maxRecDepth 8000
set_option maxHeartbeats 8000000
namespace Go.Proofs.YtjmpjmilndkgfaaGreatDoor
open Go.Aw Proofs.Tryz List IntKind
theorem Nf (l:List bF) (h:¬l.length < 40):∀ss:List bF,mZ l ss=l
 |[]=>rfl
 |s::ss=>by
  show mZ (jV l s) ss=l;have:jV l s=l:=by unfold jV;rw [cY h]
  rw [this];exact Nf l h ss
theorem Zx (l ss:List bF) (k:Nat) (h:¬(mZ l (ss.take k)).length < 40):mZ l (ss.take k)=mZ l ss:=by
 have e:mZ l ss=mZ (mZ l (ss.take k)) (ss.drop k):=by unfold mZ;rw [<-DQ,oA]
 rw [e,Nf _ h]
theorem Bp [aC prog] [eH prog] [dD prog] [qQ prog] (p:aI) (code:bF) (w:Bool) (hs:aF p<=536870912) (hc:code.length<=1073741824):Ok prog 108 [.agg (aJ .view p),.str code,.bool w] (.agg (aJ .own (mM p code w))):=by
 have c1:=iI p (by omega);have c2:=Bj code hc;have bu:p.log.length<=536870912:=by simp only [aF,bV] at hs;omega
 obtain ⟨b1,b2⟩:=yU code;unfold mM;generalize fZ code=g at *;obtain ⟨l,ok⟩:=g;simp only at c2 b1 b2⊢;cases ok
 .rw [cY (by simp)];simp only [aJ,LZ] at c1⊢;clear b1 b2;by_cases h:p.log.length < 40
  .have hi:(p.log.length:Int) < 40:=by omega
   obtain ⟨l1,hl1⟩:∃l1,l1=p.log++[[101,114,114,111,114]]:=⟨_,rfl⟩;have hap:p.log.map bW++[[.str [101,114,114,111,114]]]=l1.map bW:=by rw [hl1];simp
   have e:jV p.log [101,114,114,111,114]=l1:=by unfold jV;rw [eK h,hl1]
   rw [e];clear e hl1;refine bR aD func108 ntmps108 ?_;have W:=aA hi (aA hap bu);refine wl ?_;exact aK results108
  .have hi:¬(p.log.length:Int) < 40:=by omega
   have e:jV p.log [101,114,114,111,114]=p.log:=by unfold jV;rw [cY h]
   rw [e];clear e;refine bR aD func108 ntmps108 ?_;have W:=hi;refine wl ?_;exact aK results108
 rw [eK rfl];have hsl:bV gQ p.aB<=1073741824:=by simp only [aF,bV] at *;omega
 have hsb:aP p.builder<=536870912:=by simp only [aF] at hs;omega
 have hqu:p.queue.length<=536870912:=by simp only [aF,bV] at hs;omega
 have c3:=EB p hsl;obtain ⟨hb1,hb2⟩:=CE p;have hb1':(dI p).length<=536870912:=by simp only [aF,bV] at hs;omega
 have c4:=Di p.builder (dI p) l (by omega) b1 (λx hm=>by have:=b2 x hm;omega) (by omega) (λx hm=>by have:=hb2 x hm;omega) (wK p);obtain ⟨z1,z2,z3,z4⟩:=Bi 60 p.builder (dI p) l (by omega) b1 b2 (wK p) (by omega) l.length (eE _);have hend:qY p.builder (dI p) l l.length=eU p.builder (dI p) l:=by simp [qY]
 rw [hend] at z1 z2 z3 z4;have c5:=NN (eU p.builder (dI p) l).2.1 (by omega);obtain ⟨y1,y2⟩:=Fu (eU p.builder (dI p) l).2.1;unfold lL;clear hb2 b2 hend;generalize dI p=ss at *;generalize eU p.builder ss l=g at *;obtain ⟨b,wr,lg⟩:=g;simp only at c4 c5 z1 z2 z3 z4 y1 y2⊢;generalize tY wr=tk at *;simp only [aJ,aS] at c1 c3 c4;refine bR aD func108 ntmps108 ?_;refine gJ ?_;obtain ⟨Q,hQ⟩:∃Q:Nat->List bF,∀k,Q k=mZ p.log (lg.take k):=⟨_,λ_=>rfl⟩;have hQ0:Q 0=p.log:=by rw [hQ];rfl
 have hQn:∀k,(¬k < lg.length\/¬(Q k).length < 40)->mZ p.log lg=Q k:=λk h=>by
  rw [hQ] at h⊢;rcases h with h|h
  .rw [cX (by omega)]
  .rw [Zx _ _ _ h]
 have hQl:∀k,(Q k).length<=536870918:=λk=>by rw [hQ];have:=IE p.log (lg.take k);simp only [oT] at this⊢;omega
 have hQs:∀k (h:k < lg.length),(Q k).length < 40->Q (k+1)=Q k++[lg[k]]:=λk h h4=>by rw [hQ,Fv _ _ _ h,<-hQ];unfold jV;rw [eK h4]
 refine aL (ι:={q:Nat×Nat // q.1<=lg.length/\1<=q.2}) (λt o i=>⟨bD t [(13,.int .i64 i.1.1),(15,.undef)],o.take 12++[⟨true,false,1,i.1.2,(Q i.1.1).map bW⟩,⟨true,true,22,0,[[.str p.addr.host,.str p.addr.path,.bool p.bG.isSet,.obj 2 1,.obj 3 1,.obj 4 1,.str p.bG.rM,.str p.tok.rest,.obj 5 1,.bool p.ended,.obj 17 1,.obj 18 1,.obj 8 1,.obj 9 1,.obj 10 1,.int .i64 p.block,.int .i64 p.inline,.int .i64 p.deferred,.int .i64 p.gW,.obj 11 1,.obj 12 i.1.2,.bool p.nS]]⟩]++o.drop 14⟩)
  (λi=>lg.length - i.1.1) ⟨(0,1),by simp,by simp⟩ (aH (by simp [hQ0]) (by simp)) ?_
 rintro ⟨⟨k,v⟩,hk,hv⟩ K1 hK1;simp only at hk hv;simp only [bD,cW,cU,eM,gR,rI,CM,eI,eN] at hK1⊢;have hk1:=oW (k:=k);have hl1:=hQl k;have aD2:=hQn k;have Yk:=hQs k;clear hQn hQl hQs hQ0 hQ;by_cases sO:k < lg.length/\(Q k).length < 40
 .obtain ⟨hlt,Ka⟩:=sO;have hg:=aE hlt;have hnext:=Yk hlt Ka;have aSh:((Q k).length:Int) < 40:=by omega
  clear Yk aD2;generalize hqk:Q k=q at *;have W:=aA hk1 (aA hg (aA hlt (aA aSh hl1)));refine wl ?_;all_goals refine hK1 _ ⟨(k+1,v+1),by simp only;omega,by simp only;omega⟩ (aW 20 ?_ (by simp) (by simp) (by simp [dJ])) (by simp only;omega)
  all_goals simp [hnext]
 .have hfin:=aD2 (by omega);have hcase:¬k < lg.length\/(k < lg.length/\¬((Q k).length:Int) < 40):=by omega
  rw [hfin];clear Yk aD2 hK1 sO hfin;generalize Q k=q at *;have hbq:(tk.length+p.queue.length) * 64<=140737488355328:=by omega
  rcases hcase with hlt|⟨hlt,Ka⟩
  .cases w
   .have W:=aA hk1 hlt;refine wl ?_;exact aK results108
   .rw [eK rfl];have W:=aA hk1 (aA hbq hlt);refine wl ?_;all_goals try(refine aR ?_;simp [aG,results108])
    all_goals (rw [<-rB];exact wV _)
  .cases w
   .have W:=aA hk1 (aA hlt Ka);refine wl ?_;exact aK results108
   .rw [eK rfl];have W:=aA hk1 (aA hbq (aA hlt Ka));refine wl ?_;all_goals try(refine aR ?_;simp [aG,results108])
    all_goals (rw [<-rB];exact wV _)
def qG (x:bL):Bool:=
 (decide (100<=x.status)&&decide (x.status<=599))&&(decide (1<=x.kind)&&decide (x.kind<=5))&&decide (x.body.length<=400)&&(decide (0<=x.F4)&&decide (x.F4<=1000))&&(pW x.bG).2
theorem IV [aC prog] [dD prog] (s:bF) (hl:s.length<=1073741824):Ok prog 192 [.str s] (.iJ [.agg (bM .own (pW s).1),.bool (pW s).2]):=by have h:=Gy s hl;rw [si s] at h;exact h
theorem KF [aC prog] [dD prog] (x:bL) (hl:fK x<=1073741824):Ok prog 120 [.agg (dQ x)] (.bool (qG x)):=by
 simp only [fK] at hl;have c0:Ok prog 173 [.str x.bG] (.iJ [.agg (bM .view (pW x.bG).1),.bool (pW x.bG).2]):=IU x.bG (by omega);have c1:=gM x.status 100 599;have c2:=gM x.kind 1 5;have c3:=gM x.F4 0 1000;have e:decide (x.body.length<=400)=decide ((x.body.length:Int)<=400):=by simp only [vA];omega
 unfold qG;rw [e];generalize (decide (100<=x.status)&&decide (x.status<=599))=b1 at *;generalize (decide (1<=x.kind)&&decide (x.kind<=5))=b2 at *;generalize (decide (0<=x.F4)&&decide (x.F4<=1000))=b3 at *;generalize (pW x.bG).1=q at *;generalize (pW x.bG).2=b4 at *;simp only [bM] at c0;refine bR aD func120 ntmps120 ?_;have W:=trivial;repeat' first|refine wf ?_|(refine sq ?_ ?_<;>intro hc<;>try exact hc.elim)|fail
 all_goals try(refine aR ?_;simp [aG,results120])
 all_goals first|(simp_all;done)|(simp_all;omega)|(simp_all;intros;omega)
theorem KG [aC prog] [dD prog] (x:bL) (hl:fK x<=1073741824):Ok prog 145 [.agg (dQ x)] (.bool (qG x)):=by
 simp only [fK] at hl;have c0:=IV x.bG (by omega);have c1:=jT x.status 100 599;have c2:=jT x.kind 1 5;have c3:=jT x.F4 0 1000;have e:decide (x.body.length<=400)=decide ((x.body.length:Int)<=400):=by simp only [vA];omega
 unfold qG;rw [e];generalize (decide (100<=x.status)&&decide (x.status<=599))=b1 at *;generalize (decide (1<=x.kind)&&decide (x.kind<=5))=b2 at *;generalize (decide (0<=x.F4)&&decide (x.F4<=1000))=b3 at *;generalize (pW x.bG).1=q at *;generalize (pW x.bG).2=b4 at *;simp only [bM] at c0;refine bR aD func145 ntmps145 ?_;have W:=trivial;repeat' first|refine wf ?_|(refine sq ?_ ?_<;>intro hc<;>try exact hc.elim)|fail
 all_goals try(refine aR ?_;simp [aG,results145])
 all_goals first|(simp_all;done)|(simp_all;omega)|(simp_all;intros;omega)
@[simp] theorem aEj (f:Tg->Option Tg) (b:Bool) (l:bF):mU f b (dP l)=dP l:=by
 induction l with
 |nil=>rfl
 |cons x l ih=>simp only [dP,mT,mU,xS,rt] at ih⊢;rw [ih]
def uE (s:bF):Int:=uD (151::mH s)
theorem ai (s:bF) (h:s.length<=60000000):∀y∈(151::mH s),TN y:=by
 intro y hy;unfold TN;rcases lB.1 hy with rfl|hy
 .omega
 rcases lB.1 hy with rfl|hy
 .omega
 .simp only [toInts,TF,Bx] at hy;obtain ⟨c,_,rfl⟩:=hy;have:c.toNat < 256:=CA c;omega
theorem Gn (s:bF):(mH s).length=s.length+1:=by simp [mH,toInts,TF]
theorem aj (l:List Int):0<=uD l/\uD l<=2147483647:=by
 unfold uD;have:∀(l:List Int) (a:Int),0<=a/\a<=2147483647->0<=l.foldl zS a/\l.foldl zS a<=2147483647:=by
  intro l;induction l with
  |nil=>intro a h;exact h
  |cons x l ih=>intro a _;refine ih _ ?_;unfold zS;omega
 exact this l 11 (by omega)
theorem Od [aC prog] [dD prog] [eH prog] (s:bF) (hl:s.length<=1048576):Ok prog 175 [.str s] (.int .i64 (uE s)):=by
 have c3:=IW s (by omega);have c4:=ag (151::mH s) (by simp only [eL,Gn];omega) (ai _ (by omega));have hil:=Gn s;have hq:(mH s).length<=1048577:=by omega
 simp only [mT] at c4;unfold uE;generalize mH s=q at *;refine bR aD func175 ntmps175 ?_;have W:=trivial;repeat' first|refine wf ?_|(refine nx ?_;refine sb ?_)|(refine sq ?_ ?_<;>intro hc<;>try exact hc.elim)|fail
 exact aK results175
theorem Oe [aC prog] [dD prog] [eH prog] (s:bF) (hl:s.length<=1048576):Ok prog 195 [.str s] (.int .i64 (uE s)):=by
 have c3:=IX s (by omega);have c4:=ah (151::mH s) (by simp only [eL,Gn];omega) (ai _ (by omega));have hil:=Gn s;have hq:(mH s).length<=1048577:=by omega
 simp only [mT] at c4;unfold uE;generalize mH s=q at *;refine bR aD func195 ntmps195 ?_;have W:=trivial;repeat' first|refine wf ?_|(refine nx ?_;refine sb ?_)|(refine sq ?_ ?_<;>intro hc<;>try exact hc.elim)|fail
 exact aK results195
def uF (body v:bF):Bool:=v == [] || v == Lib.itoa (uE body)
theorem IY [aC prog] [dD prog] [eH prog] (s v:bF) (hl:s.length<=1048576):Ok prog 122 [.str s,.str v] (.bool (uF s v)):=by
 have c1:=Od s hl;have hr:=aj (151::mH s);have c2:=fT (uE s) (by unfold uE;omega);unfold uF;generalize uE s=d at *;generalize Lib.itoa d=t at *;refine bR aD func122 ntmps122 ?_;have W:=trivial;repeat' first|refine wf ?_|(refine nx ?_;refine sb ?_)|(refine sq ?_ ?_<;>intro hc<;>try exact hc.elim)|fail
 all_goals try(refine aR ?_;simp [aG,results122])
 all_goals simp_all
theorem IZ [aC prog] [dD prog] [eH prog] (s v:bF) (hl:s.length<=1048576):Ok prog 147 [.str s,.str v] (.bool (uF s v)):=by
 have c1:=Oe s hl;have hr:=aj (151::mH s);have c2:=fQ (uE s) (by unfold uE;omega);unfold uF;generalize uE s=d at *;generalize Lib.itoa d=t at *;refine bR aD func147 ntmps147 ?_;have W:=trivial;repeat' first|refine wf ?_|(refine nx ?_;refine sb ?_)|(refine sq ?_ ?_<;>intro hc<;>try exact hc.elim)|fail
 all_goals try(refine aR ?_;simp [aG,results147])
 all_goals simp_all
def BK (x:bL) (k:Int):Bool:=decide (x.kind=k) || (decide (k=5)&&decide (x.kind=2))
theorem Og [aC prog] [dD prog] [eH prog] (x:bL) (k:Int):Ok prog 121 [.agg (dQ x),.int .i64 k] (.bool (BK x k)):=by
 unfold BK;refine bR aD func121 ntmps121 ?_;have W:=trivial;repeat' first|refine wf ?_|(refine nx ?_;refine sb ?_)|(refine sq ?_ ?_<;>intro hc<;>try exact hc.elim)|fail
 all_goals try(refine aR ?_;simp [aG,results121])
 all_goals first|(simp_all;done)|(by_cases hk2:x.kind=2<;>simp_all)
theorem Oh [aC prog] [dD prog] [eH prog] (x:bL) (k:Int):Ok prog 146 [.agg (dQ x),.int .i64 k] (.bool (BK x k)):=by
 unfold BK;refine bR aD func146 ntmps146 ?_;have W:=trivial;repeat' first|refine wf ?_|(refine nx ?_;refine sb ?_)|(refine sq ?_ ?_<;>intro hc<;>try exact hc.elim)|fail
 all_goals try(refine aR ?_;simp [aG,results146])
 all_goals first|(simp_all;done)|(by_cases hk2:x.kind=2<;>simp_all)
def RQ (r:gV) (x:bL):Bool:=decide (r.frm≠r.to.host)&& !x.shares&&(decide (r.kind=5) || decide (r.digest≠[]))
def dW (p:dL) (r:gV) (x:bL):Int:=
 if fH p r≠1 then 2 else if qG x=false\/x.status≠200 then 3 else if BK x r.kind=false then 4 else if RQ r x=true then 5 else if uF x.body r.digest=false then 6 else 1
theorem uG [aC prog] [dD prog] [eH prog] (p:dL) (r:gV) (x:bL) (hp:eB p<=274877906944) (hr:jJ r<=274877906944) (hx:fK x<=1048576):Ok prog 70 [.agg (bM .view p),.agg (fE r),.agg (dQ x)] (.int .i64 (dW p r x)):=by
 have c1:=uU p r (by omega) (by omega);have c2:=KF x (by omega);have c3:=Og x r.kind;have c4:=IY x.body r.digest (by simp only [fK] at hx;omega);simp only [bM,fE] at c1;simp only [dQ] at c2 c3;unfold dW RQ;generalize fH p r=n at *;generalize qG x=b2 at *;generalize BK x r.kind=b3 at *;generalize uF x.body r.digest=b4 at *;by_cases h1:n=1
 .subst h1;refine bR aD func70 ntmps70 ?_;have W:=trivial;repeat' first|refine wf ?_|(refine nx ?_;refine sb ?_)|(refine sq ?_ ?_<;>intro hc<;>try exact hc.elim)|fail
  all_goals try(refine aR ?_;simp [aG,results70])
  all_goals simp_all
 .refine bR aD func70 ntmps70 ?_;have W:=h1;repeat' first|refine wf ?_|(refine nx ?_;refine sb ?_)|(refine sq ?_ ?_<;>intro hc<;>try exact hc.elim)|fail
  all_goals try(refine aR ?_;simp [aG,results70,h1])
  all_goals simp_all
theorem uH [aC prog] [dD prog] [eH prog] (p:dL) (r:gV) (x:bL) (hp:eB p<=274877906944) (hr:jJ r<=274877906944) (hx:fK x<=1048576):Ok prog 85 [.agg (bM .view p),.agg (fE r),.agg (dQ x)] (.int .i64 (dW p r x)):=by
 have c1:=uV p r (by omega) (by omega);have mi:fH p r=1\/fH p r=2:=by unfold fH;split<;>simp
 have c2:=KG x (by omega);have c3:=Oh x r.kind;have c4:=IZ x.body r.digest (by simp only [fK] at hx;omega);simp only [bM,fE] at c1;simp only [dQ] at c2 c3;unfold dW RQ;generalize fH p r=n at *;generalize qG x=b2 at *;generalize BK x r.kind=b3 at *;generalize uF x.body r.digest=b4 at *;rcases mi with h1|h1
 .subst h1;refine bR aD func85 ntmps85 ?_;have W:=trivial;repeat' first|refine wf ?_|(refine nx ?_;refine sb ?_)|(refine sq ?_ ?_<;>intro hc<;>try exact hc.elim)|fail
  all_goals try(refine aR ?_;simp [aG,results85])
  all_goals simp_all
 .subst h1;refine bR aD func85 ntmps85 ?_;have W:=trivial;repeat' first|refine wf ?_|(refine nx ?_;refine sb ?_)|(refine sq ?_ ?_<;>intro hc<;>try exact hc.elim)|fail
  exact aK results85
def jF (p:dL) (r:gV) (x:bL):bF:=if dW p r x=1 then x.body else []
theorem Cu [aC prog] [dD prog] [eH prog] (p:dL) (r:gV) (x:bL) (hp:eB p<=274877906944) (hr:jJ r<=274877906944) (hx:fK x<=1048576):Ok prog 71 [.agg (bM .view p),.agg (fE r),.agg (dQ x)] (.iJ [.str (jF p r x),.bool (decide (dW p r x=1))]):=by
 have c1:=uG p r x hp hr hx;simp only [bM,fE,dQ] at c1;unfold jF;generalize dW p r x=n at *;by_cases h1:n=1
 .subst h1;refine bR aD func71 ntmps71 ?_;have W:=trivial;repeat' first|refine wf ?_|(refine nx ?_;refine sb ?_)|(refine sq ?_ ?_<;>intro hc<;>try exact hc.elim)|fail
  exact aK results71
 .refine bR aD func71 ntmps71 ?_;have W:=h1;repeat' first|refine wf ?_|(refine nx ?_;refine sb ?_)|(refine sq ?_ ?_<;>intro hc<;>try exact hc.elim)|fail
  all_goals try(refine aR ?_;simp [aG,results71,h1])
theorem Cw [aC prog] [dD prog] [eH prog] (p:dL) (r:gV) (x:bL) (hp:eB p<=274877906944) (hr:jJ r<=274877906944) (hx:fK x<=1048576):Ok prog 86 [.agg (bM .view p),.agg (fE r),.agg (dQ x)] (.iJ [.str (jF p r x),.bool (decide (dW p r x=1))]):=by
 have c1:=uH p r x hp hr hx;simp only [bM,fE,dQ] at c1;unfold jF;generalize dW p r x=n at *;by_cases h1:n=1
 .subst h1;refine bR aD func86 ntmps86 ?_;have W:=trivial;repeat' first|refine wf ?_|(refine nx ?_;refine sb ?_)|(refine sq ?_ ?_<;>intro hc<;>try exact hc.elim)|fail
  exact aK results86
 .refine bR aD func86 ntmps86 ?_;have W:=h1;repeat' first|refine wf ?_|(refine nx ?_;refine sb ?_)|(refine sq ?_ ?_<;>intro hc<;>try exact hc.elim)|fail
  all_goals try(refine aR ?_;simp [aG,results86,h1])
def filled (p:aI) (s:kJ) (x:bL):kJ:={s with done:=true,code:=dW p.bG (gB p s) x,body:=jF p.bG (gB p s) x}
def iO (p:aI) (k:Int) (x:bL):aI:=
 if 0<=k then match p.aB[k.toNat]? with
  |some s=>if s.done=true then p else {p with aB:=p.aB.set k.toNat (filled p s x)}
  |none=>p
 else p
theorem Pb {p:aI} {k:Int} {x:bL} (h:¬(0<=k/\k < p.aB.length)):iO p k x=p:=by
 unfold iO;split
 .have:p.aB[k.toNat]? =none:=by rw [tI];omega
  rw [this]
 .rfl
theorem Mo {p:aI} {k:Int} {x:bL} {s:kJ} (hg:p.aB[k.toNat]? =some s) (hd:s.done=true):iO p k x=p:=by unfold iO;rw [hg];simp [hd]
theorem ak {p:aI} {k:Int} {x:bL} {s:kJ} (h0:0<=k) (hg:p.aB[k.toNat]? =some s) (hd:s.done=false):iO p k x={p with aB:=p.aB.set k.toNat (filled p s x)}:=by unfold iO;rw [eK h0,hg];simp [hd]
theorem Nt (p:aI) {s:kJ} {k:Nat} (hg:p.aB[k]? =some s):jJ (gB p s)<=aF p:=by have hm:=cB gQ (oE hg);simp only [gQ] at hm;simp only [jJ,gB,aF,aU,bV] at *;omega
theorem Oi [aC prog] [dD prog] [eH prog] (p:aI) (k:Int) (x:bL) (hs:aF p<=137438953472) (hx:fK x<=1048576):Ok prog 89 [.agg (aJ .view p),.int .i64 k,.agg (dQ x)] (.agg (aJ .own (iO p k x))):=by
 have c1:=jC p (by omega);have LM:p.aB.length<=274877906944:=by simp only [aF,bV] at hs;omega
 have FC:eB p.bG<=274877906944:=by simp only [aF] at hs;omega
 by_cases hk0:k < 0
 .rw [Pb (by omega)];simp only [aJ] at c1;refine bR aD func89 ntmps89 ?_;have W:=hk0;refine we ?_;exact aK results89
 by_cases hk1:(p.aB.length:Int)<=k
 .rw [Pb (by omega)];simp only [aJ] at c1;refine bR aD func89 ntmps89 ?_;have W:=aA hk0 hk1;refine we ?_;exact aK results89
 have h0:0<=k:=by omega
 have hlt:k.toNat < p.aB.length:=by omega
 have hg:p.aB[k.toNat]? =some p.aB[k.toNat]:=aE hlt;cases hd:p.aB[k.toNat].done
 .rw [ak h0 hg hd];have c2:=Bv p k h0 (by omega) (by omega);have hr:=Nt p hg;have e:qL p k=gB p p.aB[k.toNat]:=by simp [qL,hg]
  rw [e] at c2;have c3:=uH p.bG (gB p p.aB[k.toNat]) x FC (by omega) hx;have c4:=Cw p.bG (gB p p.aB[k.toNat]) x FC (by omega) hx;have hset:∀(c:Int) (b:bF),(p.aB.map iY).set k.toNat [.int .i64 p.aB[k.toNat].mode,.str p.aB[k.toNat].to.host,.str p.aB[k.toNat].to.path,.str p.aB[k.toNat].digest,.int .i64 p.aB[k.toNat].node,.bool true,.int .i64 c,.str b]=(p.aB.set k.toNat {p.aB[k.toNat] with done:=true,code:=c,body:=b}).map iY:=by intro c b;rw [map_set];rfl
  have hset:=hset (dW p.bG (gB p p.aB[k.toNat]) x) (jF p.bG (gB p p.aB[k.toNat]) x);unfold filled;generalize dW p.bG (gB p p.aB[k.toNat]) x=c at *;generalize jF p.bG (gB p p.aB[k.toNat]) x=b at *;generalize gB p p.aB[k.toNat]=q at *;generalize p.aB.set k.toNat {p.aB[k.toNat] with done:=true,code:=c,body:=b}=l3 at *;simp only [aJ,fE] at c2;simp only [bM,fE,dQ] at c3 c4;simp only [aJ] at c1;simp only [aJ];clear e;refine bR aD func89 ntmps89 ?_;have W:=aA hk0 (aA hk1 (aA h0 (aA hg (aA hd hlt))));refine we ?_;all_goals try(refine aR ?_;simp [aG,results89])
  all_goals exact hset
 .rw [Mo hg hd];simp only [aJ] at c1;refine bR aD func89 ntmps89 ?_;have W:=aA hk0 (aA hk1 (aA h0 (aA hg (aA hd hlt))));refine we ?_;exact aK results89
theorem Oj [aC prog] [dD prog] [eH prog] (p:aI) (k:Int) (x:bL) (hs:aF p<=137438953472) (hx:fK x<=1048576):Ok prog 74 [.agg (aJ .view p),.int .i64 k,.agg (dQ x)] (.agg (aJ .own (iO p k x))):=by
 have c1:=iI p (by omega);have LM:p.aB.length<=274877906944:=by simp only [aF,bV] at hs;omega
 have FC:eB p.bG<=274877906944:=by simp only [aF] at hs;omega
 have ci:=gM k 0 ((p.aB.length:Int) - 1);by_cases hk0:k < 0
 .rw [Pb (by omega)];rw [show (decide (0<=k)&&decide (k<=(p.aB.length:Int) - 1))=false by simp;omega] at ci;simp only [aJ] at c1;refine bR aD func74 ntmps74 ?_;have W:=hk0;refine we ?_;exact aK results74
 by_cases hk1:(p.aB.length:Int)<=k
 .rw [Pb (by omega)];rw [show (decide (0<=k)&&decide (k<=(p.aB.length:Int) - 1))=false by simp;omega] at ci;simp only [aJ] at c1;refine bR aD func74 ntmps74 ?_;have W:=aA hk0 hk1;refine we ?_;exact aK results74
 have h0:0<=k:=by omega
 rw [show (decide (0<=k)&&decide (k<=(p.aB.length:Int) - 1))=true by simp;omega] at ci;have hlt:k.toNat < p.aB.length:=by omega
 have hg:p.aB[k.toNat]? =some p.aB[k.toNat]:=aE hlt;cases hd:p.aB[k.toNat].done
 .rw [ak h0 hg hd];have c2:=Bu p k h0 (by omega) (by omega);have hr:=Nt p hg;have e:qL p k=gB p p.aB[k.toNat]:=by simp [qL,hg]
  rw [e] at c2;have c3:=uG p.bG (gB p p.aB[k.toNat]) x FC (by omega) hx;have c4:=Cu p.bG (gB p p.aB[k.toNat]) x FC (by omega) hx;have hset:∀(c:Int) (b:bF),(p.aB.map iY).set k.toNat [.int .i64 p.aB[k.toNat].mode,.str p.aB[k.toNat].to.host,.str p.aB[k.toNat].to.path,.str p.aB[k.toNat].digest,.int .i64 p.aB[k.toNat].node,.bool true,.int .i64 c,.str b]=(p.aB.set k.toNat {p.aB[k.toNat] with done:=true,code:=c,body:=b}).map iY:=by intro c b;rw [map_set];rfl
  have hset:=hset (dW p.bG (gB p p.aB[k.toNat]) x) (jF p.bG (gB p p.aB[k.toNat]) x);unfold filled;generalize dW p.bG (gB p p.aB[k.toNat]) x=c at *;generalize jF p.bG (gB p p.aB[k.toNat]) x=b at *;generalize gB p p.aB[k.toNat]=q at *;generalize p.aB.set k.toNat {p.aB[k.toNat] with done:=true,code:=c,body:=b}=l3 at *;simp only [aJ,fE] at c2;simp only [bM,fE,dQ] at c3 c4;simp only [aJ] at c1;simp only [aJ];clear e;refine bR aD func74 ntmps74 ?_;have W:=aA hk0 (aA hk1 (aA h0 (aA hg (aA hd hlt))));refine we ?_;all_goals try(refine aR ?_;simp [aG,results74])
  all_goals exact hset
 .rw [Mo hg hd];simp only [aJ] at c1;refine bR aD func74 ntmps74 ?_;have W:=aA hk0 (aA hk1 (aA h0 (aA hg (aA hd hlt))));refine we ?_;exact aK results74
def iP (p:aI) (a:aT) (x:bL):Nat->aI
 |0=>p
 |k+1=>match p.aB[k]? with
  |some s=>if s.to=a then iO (iP p a x k) k x else iP p a x k
  |none=>iP p a x k
def lQ (p:aI) (a:aT) (x:bL):aI:=iP p a x p.aB.length
theorem U9 (p:aI) (k:Int) (x:bL):(iO p k x).aB.length=p.aB.length/\(iO p k x).bG=p.bG/\(iO p k x).addr=p.addr:=by
 unfold iO;split
 .split
  .split
   .exact ⟨rfl,rfl,rfl⟩
   .simp
  .exact ⟨rfl,rfl,rfl⟩
 .exact ⟨rfl,rfl,rfl⟩
theorem aIc (p:aI) (k:Int) (x:bL) (j:Nat) (h:(j:Int)≠k):(iO p k x).aB[j]? =p.aB[j]?:=by
 unfold iO;split
 .split
  .split
   .rfl
   .simp only;rw [lA (by omega)]
  .rfl
 .rfl
theorem Dt (p:dL) (r:gV) (x:bL):(jF p r x).length<=400:=by
 unfold jF;split
 .rename_i h;unfold dW at h;split at h
  .omega
  .split at h
   .omega
   .rename_i h2;have h3:qG x=true:=by
     cases h4:qG x with
     |true=>rfl
     |false=>exact absurd (.inl h4) h2
    simp only [qG,eJ,fN] at h3;exact h3.1.1.2
 .simp
theorem aEk (p:aI) (k:Int) (x:bL):aF (iO p k x)<=aF p+400:=by
 unfold iO;split
 .split
  .rename_i s hg;split
   .omega
   .have hb:=Dt p.bG (gB p s) x;have h1:aQ gQ (p.aB.set k.toNat (filled p s x))<=aQ gQ p.aB+400:=by
     have:∀(l:List kJ) (i:Nat) (s s':kJ),l[i]? =some s->gQ s'<=gQ s+400->aQ gQ (l.set i s')<=aQ gQ l+400:=by
      intro l;induction l with
      |nil=>intro i s s' h;simp at h
      |cons y l ih=>
       intro i s s' h hs;cases i with
       |zero=>simp at h;subst h;simp only [cU,aQ];omega
       |succ i=>have:=ih i s s' (by simpa using h) hs;simp only [cW,aQ];omega
     refine this _ _ s _ hg ?_;simp only [gQ,filled];omega
    simp only [aF,bV,length_set] at *;omega
  .omega
 .omega
theorem xO (p:aI) (a:aT) (x:bL):∀k,(iP p a x k).aB.length=p.aB.length/\(∀j,k<=j->(iP p a x k).aB[j]? =p.aB[j]?)/\aF (iP p a x k)<=aF p+k * 400
 |0=>⟨rfl,λ_ _=>rfl,by simp [iP]⟩
 |k+1=>by
  obtain ⟨h1,h2,h3⟩:=xO p a x k;simp only [iP];split
  .split
   .refine ⟨by rw [(U9 _ _ _).1];exact h1,λj hj=>by rw [aIc _ _ _ _ (by omega)];exact h2 j (by omega),?_⟩
    have:=aEk (iP p a x k) k x;omega
   .exact ⟨h1,λj hj=>h2 j (by omega),by omega⟩
  .exact ⟨h1,λj hj=>h2 j (by omega),by omega⟩
theorem Nu {p:aI} {a:aT} {x:bL} {k:Nat} (h:k < p.aB.length):iP p a x (k+1)=if p.aB[k].to=a then iO (iP p a x k) k x else iP p a x k:=by simp only [iP];rw [aE h]
def lN (q:aI):List aM:=[⟨true,false,1,1,q.bG.dG.map bW⟩,⟨true,false,1,1,q.bG.eZ.map bW⟩,⟨true,false,1,1,q.bG.fD.map bW⟩,⟨true,false,4,1,q.queue.map (bK .own)⟩,⟨true,false,4,1,q.builder.nodes.map (dE .own)⟩,⟨true,false,1,1,q.builder.opens.map jE⟩,⟨true,false,8,1,q.aB.map iY⟩,⟨true,false,5,1,q.aN.map bU⟩,⟨true,false,2,1,q.entries.map aO⟩,⟨true,false,2,1,q.oD.map aO⟩,⟨true,false,1,1,q.log.map bW⟩]
def jG (b:Nat) (q:aI):List AV:=[.str q.addr.host,.str q.addr.path,.bool q.bG.isSet,.obj b 1,.obj (b+1) 1,.obj (b+2) 1,.str q.bG.rM,.str q.tok.rest,.obj (b+3) 1,.bool q.ended,.obj (b+4) 1,.obj (b+5) 1,.obj (b+6) 1,.obj (b+7) 1,.obj (b+8) 1,.int .i64 q.block,.int .i64 q.inline,.int .i64 q.deferred,.int .i64 q.gW,.obj (b+9) 1,.obj (b+10) 1,.bool q.nS]
def CK:List (Nat×Nat):=[(4,16),(5,17),(6,18),(7,19),(8,20),(9,21),(10,22),(11,23),(12,24),(13,25),(14,26)]
theorem ug {t t':List AV} {o0 o1 o2 o3:aM} (q0 q:aI) (ht:∀z∈CK,wk (qK z.1 z.2 t') t') (hf:∀z∈CK,o0.mG z.1 z.2=o0/\o1.mG z.1 z.2=o1/\o2.mG z.1 z.2=o2/\o3.mG z.1 z.2=o3) (hw:wk t t') (hc:fP 16 t'=true) (hc0:dJ 16 [o0,o1,o2,o3]=true):
  mK ⟨t,[o0,o1,o2,o3]++lN q0++[⟨true,true,22,0,[jG 16 q]⟩]++lN q⟩ ⟨t',[o0,o1,o2,o3]++lN q++[⟨true,true,22,0,[jG 4 q]⟩]⟩:=by
 have e:=λi j (h:(i,j)∈CK)=>hf (i,j) h
 have h:=λi j (h:(i,j)∈CK)=>ht (i,j) h
 simp only [lN,jG,eI,eN];refine (vQ hw).trans ?_;refine (bA 4 16 rfl rfl ⟨rfl,rfl⟩ (by simp [(e 4 16 (by decide))];rfl) (h 4 16 (by decide))).trans ?_;refine (bA 5 17 rfl rfl ⟨rfl,rfl⟩ (by simp [(e 5 17 (by decide))];rfl) (h 5 17 (by decide))).trans ?_;refine (bA 6 18 rfl rfl ⟨rfl,rfl⟩ (by simp [(e 6 18 (by decide))];rfl) (h 6 18 (by decide))).trans ?_;refine (bA 7 19 rfl rfl ⟨rfl,rfl⟩ (by simp [(e 7 19 (by decide))];rfl) (h 7 19 (by decide))).trans ?_;refine (bA 8 20 rfl rfl ⟨rfl,rfl⟩ (by simp [(e 8 20 (by decide))];rfl) (h 8 20 (by decide))).trans ?_;refine (bA 9 21 rfl rfl ⟨rfl,rfl⟩ (by simp [(e 9 21 (by decide))];rfl) (h 9 21 (by decide))).trans ?_;refine (bA 10 22 rfl rfl ⟨rfl,rfl⟩ (by simp [(e 10 22 (by decide))];rfl) (h 10 22 (by decide))).trans ?_;refine (bA 11 23 rfl rfl ⟨rfl,rfl⟩ (by simp [(e 11 23 (by decide))];rfl) (h 11 23 (by decide))).trans ?_;refine (bA 12 24 rfl rfl ⟨rfl,rfl⟩ (by simp [(e 12 24 (by decide))];rfl) (h 12 24 (by decide))).trans ?_;refine (bA 13 25 rfl rfl ⟨rfl,rfl⟩ (by simp [(e 13 25 (by decide))];rfl) (h 13 25 (by decide))).trans ?_;refine (bA 14 26 rfl rfl ⟨rfl,rfl⟩ (by simp [(e 14 26 (by decide))];rfl) (h 14 26 (by decide))).trans ?_;refine aW 16 (by simp) (lC _) hc ?_;simpa [dJ,fP,closed] using hc0
theorem xP {α:Type} {f:α->List AV} {i j:Nat} (h:∀x,qK i j (f x)=f x):∀l:List α,qX i j (l.map f)=l.map f
 |[]=>rfl
 |x::l=>by simp only [mT,qX,h,xP h l]
@[simp] theorem aM5 (i j:Nat) (l:List bF):qX i j (l.map bW)=l.map bW:=xP (λ_=>rfl) l
@[simp] theorem aM6 (i j:Nat) (l:List Int):qX i j (l.map jE)=l.map jE:=xP (λ_=>rfl) l
@[simp] theorem aLv (i j:Nat) (l:List aT):qX i j (l.map aO)=l.map aO:=xP (λ_=>rfl) l
@[simp] theorem aLw (i j:Nat) (l:List jY):qX i j (l.map gU)=l.map gU:=xP (λ_=>rfl) l
@[simp] theorem aLx (i j:Nat) (l:List kJ):qX i j (l.map iY)=l.map iY:=xP (λ_=>rfl) l
@[simp] theorem aId (i j:Nat) (l:List dB):qX i j (l.map bU)=l.map bU:=xP (λ_=>rfl) l
@[simp] theorem aIe (i j:Nat) (l:List bP):qX i j (l.map (bK .view))=l.map (bK .view):=xP (λ_=>by simp) l
@[simp] theorem aJj (i j:Nat) (l:List gF):qX i j (l.map (dE .view))=l.map (dE .view):=xP (λ_=>by simp) l
theorem RS {t t':List AV} {o o':List aM} {o0 o1 o2 o3:aM} {q0 q:aI} (ho:o=[o0,o1,o2,o3]++lN q0++[⟨true,true,22,0,[jG 16 q]⟩]++lN q) (ho':o'=[o0,o1,o2,o3]++lN q++[⟨true,true,22,0,[jG 4 q]⟩])
  (ht:∀z∈CK,wk (qK z.1 z.2 t') t') (hf:∀z∈CK,o0.mG z.1 z.2=o0/\o1.mG z.1 z.2=o1/\o2.mG z.1 z.2=o2/\o3.mG z.1 z.2=o3) (hw:wk t t') (hc:fP 16 t'=true) (hc0:dJ 16 [o0,o1,o2,o3]=true):mK ⟨t,o⟩ ⟨t',o'⟩:=by
 subst ho;subst ho';exact ug q0 q ht hf hw hc hc0
theorem RU [aC prog] [dD prog] [eH prog] (p:aI) (a:aT) (x:bL) (hs:aF p+400 * p.aB.length<=137438953472) (hx:fK x<=1048576):Ok prog 36 [.agg (aJ .view p),.agg (aO a),.agg (dQ x)] (.agg (aJ .own (lQ p a x))):=by
 have c1:=jC p (by omega);have LM:p.aB.length<=343597383:=by omega
 simp only [aJ] at c1;unfold lQ;refine bR aD func36 ntmps36 ?_;refine bH ?_;refine aL (ι:={k:Nat // k<=p.aB.length}) (λt o i=>⟨bD t [(14,.int .i64 i.1),(10,.undef)],o.take 4++lN (iP p a x i.1)++[⟨true,true,22,0,[jG 4 (iP p a x i.1)]⟩]⟩)
  (λi=>p.aB.length - i.1) ⟨0,by simp⟩ (aH (by simp [lN,jG,iP]) (by simp)) ?_
 rintro ⟨k,hk⟩ K1 hK1;have hf:=xO p a x k;obtain ⟨f1,f2,f3⟩:=hf;have c2:=Oi (iP p a x k) k x (by omega) hx;have Ja:= @Nu p a x k;have hk1:=oW (k:=k);by_cases hlt:k < p.aB.length
 .have hg:=aE hlt;have hnext:=Ja hlt;clear Ja;by_cases hto:p.aB[k].to=a
  .rw [eK hto] at hnext;generalize hq':iO (iP p a x k) k x=q' at *;have hK2:=hK1;simp only [bD,cW,cU,eM,gR,eI,eN,lN,jG] at hK1⊢;clear hq' f2;generalize hqq:iP p a x k=q at *;simp only [aJ,dQ] at c2;have W:=aA hk1 (aA hg (aA hlt hto));have c0:=uO a a;refine we ?_;refine hK2 _ ⟨k+1,by omega⟩ ?_ (by simp only;omega);simp only [hnext];exact RS (q0:=q) (q:=q') rfl (by simp [lN,jG,hnext]) (by simp [CK]) (by simp [CK]) (by simp) (by simp) (by simp)
  .rw [cY hto] at hnext;have hK2:=hK1;simp only [bD,cW,cU,eM,gR,eI,eN,lN,jG] at hK1⊢;clear f2 c2;generalize hqq:iP p a x k=q at *;have W:=aA hk1 (aA hg (aA hlt hto));have c0:=uO p.aB[k].to a;repeat' first|refine wf ?_|(refine sq ?_ ?_<;>intro hc<;>try exact hc.elim)|fail
   all_goals first
    |exact absurd (by assumption) hto
    |exact hK2 _ ⟨k+1,by omega⟩ (by simp only [hnext];exact aH (by simp [lN,jG,hnext]) (by simp)) (by simp only;omega)
 .have htk:k=p.aB.length:=by omega
  subst htk;simp only [bD,cW,cU,eM,gR,eI,eN,lN,jG] at hK1⊢;generalize iP p a x p.aB.length=q at *;clear Ja f2 c2 hK1;have W:=hk1;refine we ?_;exact aK results36
theorem RV [aC prog] [dD prog] [eH prog] (p:aI) (a:aT) (x:bL) (hs:aF p+400 * p.aB.length<=137438953472) (hx:fK x<=1048576):Ok prog 25 [.agg (aJ .view p),.agg (aO a),.agg (dQ x)] (.agg (aJ .own (lQ p a x))):=by
 have c1:=iI p (by omega);have LM:p.aB.length<=343597383:=by omega
 simp only [aJ] at c1;unfold lQ;refine bR aD func25 ntmps25 ?_;refine bH ?_;refine aL (ι:={k:Nat // k<=p.aB.length}) (λt o i=>⟨bD t [(8,.int .i64 i.1),(10,.undef)],o.take 4++lN (iP p a x i.1)++[⟨true,true,22,0,[jG 4 (iP p a x i.1)]⟩]⟩)
  (λi=>p.aB.length - i.1) ⟨0,by simp⟩ (aH (by simp [lN,jG,iP]) (by simp)) ?_
 rintro ⟨k,hk⟩ K1 hK1;have hf:=xO p a x k;obtain ⟨f1,f2,f3⟩:=hf;have c2:=Oj (iP p a x k) k x (by omega) hx;have Ja:= @Nu p a x k;have hk1:=oW (k:=k);by_cases hlt:k < p.aB.length
 .have hg:=aE hlt;have hnext:=Ja hlt;clear Ja;by_cases EG:p.aB[k].done=true
  .have nM:iP p a x (k+1)=iP p a x k:=by
    rw [hnext];split
    .exact Mo (s:=p.aB[k]) (by rw [mC,f2 k (eE k)];exact hg) EG
    .rfl
   have hK2:=hK1;simp only [bD,cW,cU,eM,gR,eI,eN,lN,jG] at hK1⊢;clear f2 c2 hnext;generalize hqq:iP p a x k=q at *;have W:=aA hk1 (aA hg (aA hlt EG));refine we ?_;refine hK2 _ ⟨k+1,by omega⟩ ?_ (by simp only;omega);simp only [nM];exact aH (by simp [lN,jG,nM]) (by simp)
  .simp only [wA] at EG;by_cases hto:p.aB[k].to=a
   .rw [eK hto] at hnext;generalize hq':iO (iP p a x k) k x=q' at *;have hK2:=hK1;simp only [bD,cW,cU,eM,gR,eI,eN,lN,jG] at hK1⊢;clear hq' f2;generalize hqq:iP p a x k=q at *;simp only [aJ,dQ] at c2;have W:=aA hk1 (aA hg (aA hlt (aA EG hto)));have c0:=uO a a;refine we ?_;refine hK2 _ ⟨k+1,by omega⟩ ?_ (by simp only;omega);simp only [hnext];exact RS (q0:=q) (q:=q') rfl (by simp [lN,jG,hnext]) (by simp [CK]) (by simp [CK]) (by simp) (by simp) (by simp)
   .rw [cY hto] at hnext;have hK2:=hK1;simp only [bD,cW,cU,eM,gR,eI,eN,lN,jG] at hK1⊢;clear f2 c2;generalize hqq:iP p a x k=q at *;have W:=aA hk1 (aA hg (aA hlt (aA EG hto)));have c0:=uO p.aB[k].to a;refine we ?_;all_goals first
     |exact absurd (by assumption) hto
     |exact hK2 _ ⟨k+1,by omega⟩ (by simp only [hnext];exact aH (by simp [lN,jG,hnext]) (by simp)) (by simp only;omega)
 .have htk:k=p.aB.length:=by omega
  subst htk;simp only [bD,cW,cU,eM,gR,eI,eN,lN,jG] at hK1⊢;generalize iP p a x p.aB.length=q at *;clear Ja f2 c2 hK1;have W:=hk1;refine we ?_;exact aK results25
def yP:List (Nat×Nat):=[(1,18),(2,19),(3,20),(4,21),(5,22),(6,23),(7,24),(8,25),(9,26),(10,27),(11,28)]
theorem aEw {t t':List AV} {o o':List aM} {n1 v1 n2 v2 n3 v3 n4 v4 n5 v5 n6 v6 n7 v7 n8 v8 n9 v9 n10 v10 n11 v11:Nat} {e1 e2 e3 e4 e5 e6 e7 e8 e9 e10 e11:List (List AV)} {o12 o13 o14 o15 o16 o17:aM} {q:aI} (ho:o=[⟨true,true,22,2,[Dv 18 q]⟩,⟨false,false,n1,v1,e1⟩,⟨false,false,n2,v2,e2⟩,⟨false,false,n3,v3,e3⟩,⟨false,false,n4,v4,e4⟩,⟨false,false,n5,v5,e5⟩,⟨false,false,n6,v6,e6⟩,⟨false,false,n7,v7,e7⟩,⟨false,false,n8,v8,e8⟩,⟨false,false,n9,v9,e9⟩,⟨false,false,n10,v10,e10⟩,⟨false,false,n11,v11,e11⟩,o12,o13,o14,o15,o16,o17]++Du q)
  (ho':o'=[⟨true,true,22,2,[Dv 1 q]⟩]++Du q++[o12,o13]) (ht:∀z∈yP,wk (qK z.1 z.2 t') t') (hf:∀z∈yP,o12.mG z.1 z.2=o12/\o13.mG z.1 z.2=o13/\o14.mG z.1 z.2=o14/\o15.mG z.1 z.2=o15/\o16.mG z.1 z.2=o16/\o17.mG z.1 z.2=o17) (hw:wk t t') (hc:fP 14 t'=true) (hc0:dJ 14 [o12,o13]=true):mK ⟨t,o⟩ ⟨t',o'⟩:=by
 subst ho;subst ho';have e:=λi j (h:(i,j)∈yP)=>hf (i,j) h
 have h:=λi j (h:(i,j)∈yP)=>ht (i,j) h
 simp only [Du,Dv,eI,eN];refine (vQ hw).trans ?_;refine (bA 1 18 rfl rfl ⟨rfl,rfl⟩ (by simp [(e 1 18 (by decide))];rfl) (h 1 18 (by decide))).trans ?_;refine (bA 2 19 rfl rfl ⟨rfl,rfl⟩ (by simp [(e 2 19 (by decide))];rfl) (h 2 19 (by decide))).trans ?_;refine (bA 3 20 rfl rfl ⟨rfl,rfl⟩ (by simp [(e 3 20 (by decide))];rfl) (h 3 20 (by decide))).trans ?_;refine (bA 4 21 rfl rfl ⟨rfl,rfl⟩ (by simp [(e 4 21 (by decide))];rfl) (h 4 21 (by decide))).trans ?_;refine (bA 5 22 rfl rfl ⟨rfl,rfl⟩ (by simp [(e 5 22 (by decide))];rfl) (h 5 22 (by decide))).trans ?_;refine (bA 6 23 rfl rfl ⟨rfl,rfl⟩ (by simp [(e 6 23 (by decide))];rfl) (h 6 23 (by decide))).trans ?_;refine (bA 7 24 rfl rfl ⟨rfl,rfl⟩ (by simp [(e 7 24 (by decide))];rfl) (h 7 24 (by decide))).trans ?_;refine (bA 8 25 rfl rfl ⟨rfl,rfl⟩ (by simp [(e 8 25 (by decide))];rfl) (h 8 25 (by decide))).trans ?_;refine (bA 9 26 rfl rfl ⟨rfl,rfl⟩ (by simp [(e 9 26 (by decide))];rfl) (h 9 26 (by decide))).trans ?_;refine (bA 10 27 rfl rfl ⟨rfl,rfl⟩ (by simp [(e 10 27 (by decide))];rfl) (h 10 27 (by decide))).trans ?_;refine (bA 11 28 rfl rfl ⟨rfl,rfl⟩ (by simp [(e 11 28 (by decide))];rfl) (h 11 28 (by decide))).trans ?_;refine aW 14 (by simp) (lC _) hc ?_;simpa [dJ,fP,closed] using hc0
end Go.Proofs.YtjmpjmilndkgfaaGreatDoor
