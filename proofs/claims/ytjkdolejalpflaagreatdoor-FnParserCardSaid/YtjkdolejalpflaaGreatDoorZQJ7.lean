/- Proved here: steps towards the statement of this claim. No condition. -/
import Derived.Test.YtjkdolejalpflaaGreatDoorZQJ5
import Derived.Test.YtjkdolejalpflaaGreatDoorZQRC8w
set_option linter.all false
set_option maxRecDepth 4000
set_option maxHeartbeats 4000000
namespace Go.Proofs.YtjkdolejalpflaaGreatDoor
open Go.Aw Proofs.Tryz List IntKind
@[simp] theorem qj(f:Tg->Option Tg)(b:Bool)(l:aX):iL f b (aR l)=aR l:=by
 induction l with
 |nil=>rfl
 |cons x l ih=>simp only[aR,mS,iL,pM,rt]at ih⊢;rw[ih]
def Ai(s:aX):Int:=wF (151::pQ s)
theorem ql(s:aX)(h:s.length<=60000000):∀y∈(151::pQ s),rgI y:=by
 intro y hy;unfold rgI;rcases lE.1 hy with rfl|hy
 .omega
 rcases lE.1 hy with rfl|hy
 .omega
 .simp only[toInts,PX,mem_map]at hy;obtain⟨c,_,rfl⟩:=hy;have:c.toNat<256:=CI c;omega
theorem Pq(s:aX):(pQ s).length=s.length+1:=by simp[pQ,toInts,PX]
theorem qm(l:List Int):0<=wF l/\wF l<=2147483647:=by
 unfold wF;have:∀(l:List Int) (a:Int),0<=a/\a<=2147483647->0<=l.foldl vR a/\l.foldl vR a<=2147483647:=by
  intro l;induction l with
  |nil=>intro a h;exact h
  |cons x l ih=>intro a _;refine ih _ ?_;unfold vR;omega
 exact this l 11 (by omega)
theorem JL[aB prog][eZ prog][eD prog](s:aX)(hl:s.length<=1048576):Ok prog 182 [.str s] (.int .i64 (Ai s)):=by
 have c3:=EW s (by omega);have c4:=Uc (151::pQ s) (by simp only[eE,Pq];omega) (ql _ (by omega));have hil:=Pq s;have hq:(pQ s).length<=1048577:=by omega
 simp only[mS]at c4;unfold Ai;generalize pQ s=q at*;refine dA aJ func182 ntmps182 ?_;have W:=trivial;repeat' first|refine wf ?_|(refine nx ?_;refine sb ?_)|(refine sq ?_ ?_<;>intro hc<;>try exact hc.elim)|fail
 exact aO results182
def yY(body v:aX):Bool:=v == [] || v == Lib.itoa (Ai body)
theorem EX[aB prog][eZ prog][eD prog](s v:aX)(hl:s.length<=1048576):Ok prog 160 [.str s,.str v] (.bool (yY s v)):=by
 have c1:=JL s hl;have hr:=qm (151::pQ s);have c2:=dV (Ai s) (by unfold Ai;omega);unfold yY;generalize Ai s=d at*;generalize Lib.itoa d=t at*;refine dA aJ func160 ntmps160 ?_;have W:=trivial;repeat' first|refine wf ?_|(refine nx ?_;refine sb ?_)|(refine sq ?_ ?_<;>intro hc<;>try exact hc.elim)|fail
 all_goals try(refine aP ?_;simp[aT,results160])
 all_goals simp_all
def Gl(x:dB)(k:Int):Bool:=decide (x.kind=k) || (decide (k=5)&&decide (x.kind=2))
theorem JM[aB prog][eZ prog][eD prog](x:dB)(k:Int):Ok prog 159 [.agg (iD x),.int .i64 k] (.bool (Gl x k)):=by
 unfold Gl;refine dA aJ func159 ntmps159 ?_;have W:=trivial;repeat' first|refine wf ?_|(refine nx ?_;refine sb ?_)|(refine sq ?_ ?_<;>intro hc<;>try exact hc.elim)|fail
 all_goals try(refine aP ?_;simp[aT,results159])
 all_goals first|(simp_all;done)|(by_cases hk2:x.kind=2<;>simp_all)
def Ud(r:fK)(x:dB):Bool:=decide (r.U0≠r.to.host)&& !x.shares&&(decide (r.kind=5) || decide (r.digest≠[]))
def kK(p:dS)(r:fK)(x:dB):Int:=
 if fA p r≠1 then 2 else if kH x=false\/x.status≠200 then 3 else if Gl x r.kind=false then 4 else if Ud r x=true then 5 else if yY x.body r.digest=false then 6 else 1
theorem vS[aB prog][eZ prog][eD prog](p:dS)(r:fK)(x:dB)(hp:dD p<=274877906944)(hr:lF r<=274877906944)(hx:gP x<=1048576):Ok prog 130 [.agg (bG .view p),.agg (fV r),.agg (iD x)] (.int .i64 (kK p r x)):=by
 have c1:=rC p r (by omega) (by omega);have c2:=yX x (by omega);have c3:=JM x r.kind;have c4:=EX x.body r.digest (by simp only[gP]at hx;omega);simp only[bG,fV]at c1;simp only[iD]at c2 c3;unfold kK Ud;generalize fA p r=n at*;generalize kH x=b2 at*;generalize Gl x r.kind=b3 at*;generalize yY x.body r.digest=b4 at*;by_cases h1:n=1
 .subst h1;refine dA aJ func130 ntmps130 ?_;have W:=trivial;repeat' first|refine wf ?_|(refine nx ?_;refine sb ?_)|(refine sq ?_ ?_<;>intro hc<;>try exact hc.elim)|fail
  all_goals try(refine aP ?_;simp[aT,results130])
  all_goals simp_all
 .refine dA aJ func130 ntmps130 ?_;have W:=h1;repeat' first|refine wf ?_|(refine nx ?_;refine sb ?_)|(refine sq ?_ ?_<;>intro hc<;>try exact hc.elim)|fail
  all_goals try(refine aP ?_;simp[aT,results130,h1])
  all_goals simp_all
def sH(p:dS)(r:fK)(x:dB):aX:=if kK p r x=1 then x.body else []
theorem Gm[aB prog][eZ prog][eD prog](p:dS)(r:fK)(x:dB)(hp:dD p<=274877906944)(hr:lF r<=274877906944)(hx:gP x<=1048576):Ok prog 131 [.agg (bG .view p),.agg (fV r),.agg (iD x)] (.fH [.str (sH p r x),.bool (decide (kK p r x=1))]):=by
 have c1:=vS p r x hp hr hx;simp only[bG,fV,iD]at c1;unfold sH;generalize kK p r x=n at*;by_cases h1:n=1
 .subst h1;refine dA aJ func131 ntmps131 ?_;have W:=trivial;repeat' first|refine wf ?_|(refine nx ?_;refine sb ?_)|(refine sq ?_ ?_<;>intro hc<;>try exact hc.elim)|fail
  exact aO results131
 .refine dA aJ func131 ntmps131 ?_;have W:=h1;repeat' first|refine wf ?_|(refine nx ?_;refine sb ?_)|(refine sq ?_ ?_<;>intro hc<;>try exact hc.elim)|fail
  all_goals try(refine aP ?_;simp[aT,results131,h1])
def filled(p:aW)(s:mG)(x:dB):mG:={s with done:=true,code:=kK p.bC (gU p s) x,body:=sH p.bC (gU p s) x}
def gJ(p:aW)(k:Int)(x:dB):aW:=
 if 0<=k then match p.aG[k.toNat]? with
  |some s=>if s.done=true then p else {p with aG:=p.aG.set k.toNat (filled p s x)}
  |none=>p
 else p
theorem Xy{p:aW}{k:Int}{x:dB}(h:¬(0<=k/\k<p.aG.length)):gJ p k x=p:=by
 unfold gJ;split
 .have:p.aG[k.toNat]? =none:=by rw[pL];omega
  rw[this]
 .rfl
theorem YG{p:aW}{k:Int}{x:dB}{s:mG}(hg:p.aG[k.toNat]? =some s)(hd:s.done=true):gJ p k x=p:=by unfold gJ;rw[hg];simp[hd]
theorem qo{p:aW}{k:Int}{x:dB}{s:mG}(h0:0<=k)(hg:p.aG[k.toNat]? =some s)(hd:s.done=false):gJ p k x={p with aG:=p.aG.set k.toNat (filled p s x)}:=by unfold gJ;rw[eA h0,hg];simp[hd]
theorem Ue(p:aW){s:mG}{k:Nat}(hg:p.aG[k]? =some s):lF (gU p s)<=aK p:=by have hm:=eY lN (oB hg);simp only[lN]at hm;simp only[lF,gU,aK,eB,dL]at*;omega
theorem JN[aB prog][eZ prog][eD prog](p:aW)(k:Int)(x:dB)(hs:aK p<=137438953472)(hx:gP x<=1048576):Ok prog 95 [.agg (aL .view p),.int .i64 k,.agg (iD x)] (.agg (aL .own (gJ p k x))):=by
 have c1:=gZ p (by omega);have X0:p.aG.length<=274877906944:=by simp only[aK,dL]at hs;omega
 have TL:dD p.bC<=274877906944:=by simp only[aK]at hs;omega
 have ci:=eX k 0 ((p.aG.length:Int)-1);by_cases hk0:k<0
 .rw [Xy (by omega)];rw[show(decide (0<=k)&&decide (k<=(p.aG.length:Int)-1))=false by simp;omega]at ci;simp only[aL]at c1;refine dA aJ func95 ntmps95 ?_;have W:=hk0;refine we ?_;exact aO results95
 by_cases hk1:(p.aG.length:Int)<=k
 .rw [Xy (by omega)];rw[show(decide (0<=k)&&decide (k<=(p.aG.length:Int)-1))=false by simp;omega]at ci;simp only[aL]at c1;refine dA aJ func95 ntmps95 ?_;have W:=aA hk0 hk1;refine we ?_;exact aO results95
 have h0:0<=k:=by omega
 rw[show(decide (0<=k)&&decide (k<=(p.aG.length:Int)-1))=true by simp;omega]at ci;have hlt:k.toNat<p.aG.length:=by omega
 have hg:p.aG[k.toNat]? =some p.aG[k.toNat]:=aE hlt;cases hd:p.aG[k.toNat].done
 .rw [qo h0 hg hd];have c2:=xJ p k h0 (by omega) (by omega);have hr:=Ue p hg;have e:qA p k=gU p p.aG[k.toNat]:=by simp[qA,hg]
  rw[e]at c2;have c3:=vS p.bC (gU p p.aG[k.toNat]) x TL (by omega) hx;have c4:=Gm p.bC (gU p p.aG[k.toNat]) x TL (by omega) hx;have hset:∀(c:Int) (b:aX),(p.aG.map pG).set k.toNat [.int .i64 p.aG[k.toNat].mode,.str p.aG[k.toNat].to.host,.str p.aG[k.toNat].to.path,.str p.aG[k.toNat].digest,.int .i64 p.aG[k.toNat].node,.bool true,.int .i64 c,.str b]=(p.aG.set k.toNat {p.aG[k.toNat]with done:=true,code:=c,body:=b}).map pG:=by intro c b;rw[map_set];rfl
  have hset:=hset (kK p.bC (gU p p.aG[k.toNat]) x) (sH p.bC (gU p p.aG[k.toNat]) x);unfold filled;generalize kK p.bC (gU p p.aG[k.toNat]) x=c at*;generalize sH p.bC (gU p p.aG[k.toNat]) x=b at*;generalize gU p p.aG[k.toNat]=q at*;generalize p.aG.set k.toNat {p.aG[k.toNat]with done:=true,code:=c,body:=b}=l3 at*;simp only[aL,fV]at c2;simp only[bG,fV,iD]at c3 c4;simp only[aL]at c1;simp only[aL];clear e;refine dA aJ func95 ntmps95 ?_;have W:=aA hk0 (aA hk1 (aA h0 (aA hg (aA hd hlt))));refine we ?_;all_goals try(refine aP ?_;simp[aT,results95])
  all_goals exact hset
 .rw [YG hg hd];simp only[aL]at c1;refine dA aJ func95 ntmps95 ?_;have W:=aA hk0 (aA hk1 (aA h0 (aA hg (aA hd hlt))));refine we ?_;exact aO results95
end Go.Proofs.YtjkdolejalpflaaGreatDoor
