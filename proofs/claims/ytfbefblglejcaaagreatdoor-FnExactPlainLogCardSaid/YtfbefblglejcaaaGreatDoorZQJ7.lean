/- Proved here: steps towards the statement of this claim. No condition. -/
import Derived.Test.YtfbefblglejcaaaGreatDoorZQJ3
import Derived.Test.YtfbefblglejcaaaGreatDoorZQTK2
set_option linter.all false
set_option maxRecDepth 4000
set_option maxHeartbeats 4000000
namespace Go.Proofs.YtfbefblglejcaaaGreatDoor
open Go.Aw Proofs.Tryz List IntKind
@[simp] theorem aGq(f:Tg->Option Tg)(b:Bool)(l:bB):mX f b (dM l)=dM l:=by
 induction l with
 |nil=>rfl
 |cons x l ih=>simp only[dM,mC,mX,xR,rt]at ih⊢;rw[ih]
def vP(s:bB):Int:=vO (151::mR s)
theorem mf(s:bB)(h:s.length<=60000000):∀y∈(151::mR s),rgI y:=by
 intro y hy;unfold rgI;rcases lB.1 hy with rfl|hy
 .omega
 rcases lB.1 hy with rfl|hy
 .omega
 .simp only[toInts,yZ,AM]at hy;obtain⟨c,_,rfl⟩:=hy;have:c.toNat<256:=CI c;omega
theorem Ik(s:bB):(mR s).length=s.length+1:=by simp[mR,toInts,yZ]
theorem mg(l:List Int):0<=vO l/\vO l<=2147483647:=by
 unfold vO;have:∀(l:List Int) (a:Int),0<=a/\a<=2147483647->0<=l.foldl Ar a/\l.foldl Ar a<=2147483647:=by
  intro l;induction l with
  |nil=>intro a h;exact h
  |cons x l ih=>intro a _;refine ih _ ?_;unfold Ar;omega
 exact this l 11 (by omega)
theorem Qg[aC prog][bP prog][dL prog](s:bB)(hl:s.length<=1048576):Ok prog 235 [.str s] (.int .i64 (vP s)):=by
 have c3:=Ko s (by omega);have c4:=lu (151::mR s) (by simp only[eN,Ik];omega) (mf _ (by omega));have hil:=Ik s;have hq:(mR s).length<=1048577:=by omega
 simp only[mC]at c4;unfold vP;generalize mR s=q at*;refine bM aF func235 ntmps235 ?_;have W:=trivial;repeat' first|refine wf ?_|(refine nx ?_;refine sb ?_)|(refine sq ?_ ?_<;>intro hc<;>try exact hc.elim)|fail
 exact aD results235
theorem Qh[aC prog][bP prog][dL prog](s:bB)(hl:s.length<=1048576):Ok prog 291 [.str s] (.int .i64 (vP s)):=by
 have c3:=Kq s (by omega);have c4:=ma (151::mR s) (by simp only[eN,Ik];omega) (mf _ (by omega));have hil:=Ik s;have hq:(mR s).length<=1048577:=by omega
 simp only[mC]at c4;unfold vP;generalize mR s=q at*;refine bM aF func291 ntmps291 ?_;have W:=trivial;repeat' first|refine wf ?_|(refine nx ?_;refine sb ?_)|(refine sq ?_ ?_<;>intro hc<;>try exact hc.elim)|fail
 exact aD results291
def vQ(body v:bB):Bool:=v == [] || v == Lib.itoa (vP body)
theorem Kr[aC prog][bP prog][dL prog](s v:bB)(hl:s.length<=1048576):Ok prog 186 [.str s,.str v] (.bool (vQ s v)):=by
 have c1:=Qg s hl;have hr:=mg (151::mR s);have c2:=fK (vP s) (by unfold vP;omega);unfold vQ;generalize vP s=d at*;generalize Lib.itoa d=t at*;refine bM aF func186 ntmps186 ?_;have W:=trivial;repeat' first|refine wf ?_|(refine nx ?_;refine sb ?_)|(refine sq ?_ ?_<;>intro hc<;>try exact hc.elim)|fail
 all_goals try(refine aQ ?_;simp[aP,results186])
 all_goals simp_all
theorem Kt[aC prog][bP prog][dL prog](s v:bB)(hl:s.length<=1048576):Ok prog 265 [.str s,.str v] (.bool (vQ s v)):=by
 have c1:=Qh s hl;have hr:=mg (151::mR s);have c2:=fI (vP s) (by unfold vP;omega);unfold vQ;generalize vP s=d at*;generalize Lib.itoa d=t at*;refine bM aF func265 ntmps265 ?_;have W:=trivial;repeat' first|refine wf ?_|(refine nx ?_;refine sb ?_)|(refine sq ?_ ?_<;>intro hc<;>try exact hc.elim)|fail
 all_goals try(refine aQ ?_;simp[aP,results265])
 all_goals simp_all
def Co(x:aZ)(k:Int):Bool:=decide (x.kind=k) || (decide (k=5)&&decide (x.kind=2))
theorem Qi[aC prog][bP prog][dL prog](x:aZ)(k:Int):Ok prog 185 [.agg (bF x),.int .i64 k] (.bool (Co x k)):=by
 unfold Co;refine bM aF func185 ntmps185 ?_;have W:=trivial;repeat' first|refine wf ?_|(refine nx ?_;refine sb ?_)|(refine sq ?_ ?_<;>intro hc<;>try exact hc.elim)|fail
 all_goals try(refine aQ ?_;simp[aP,results185])
 all_goals first|(simp_all;done)|(by_cases hk2:x.kind=2<;>simp_all)
theorem Qj[aC prog][bP prog][dL prog](x:aZ)(k:Int):Ok prog 264 [.agg (bF x),.int .i64 k] (.bool (Co x k)):=by
 unfold Co;refine bM aF func264 ntmps264 ?_;have W:=trivial;repeat' first|refine wf ?_|(refine nx ?_;refine sb ?_)|(refine sq ?_ ?_<;>intro hc<;>try exact hc.elim)|fail
 all_goals try(refine aQ ?_;simp[aP,results264])
 all_goals first|(simp_all;done)|(by_cases hk2:x.kind=2<;>simp_all)
def TU(r:fV)(x:aZ):Bool:=decide (r.frm≠r.to.host)&& !x.shares&&(decide (r.kind=5) || decide (r.digest≠[]))
def dS(p:eU)(r:fV)(x:aZ):Int:=
 if fE p r≠1 then 2 else if fQ x=false\/x.status≠200 then 3 else if Co x r.kind=false then 4 else if TU r x=true then 5 else if vQ x.body r.digest=false then 6 else 1
theorem vR[aC prog][bP prog][dL prog](p:eU)(r:fV)(x:aZ)(hp:eD p<=274877906944)(hr:jL r<=274877906944)(hx:bG x<=1048576):Ok prog 124 [.agg (bN .view p),.agg (dD r),.agg (bF x)] (.int .i64 (dS p r x)):=by
 have c1:=wG p r (by omega) (by omega);have c2:=rA x (by omega);have c3:=Qi x r.kind;have c4:=Kr x.body r.digest (by simp only[bG]at hx;omega);simp only[bN,dD]at c1;simp only[bF]at c2 c3;unfold dS TU;generalize fE p r=n at*;generalize fQ x=b2 at*;generalize Co x r.kind=b3 at*;generalize vQ x.body r.digest=b4 at*;by_cases h1:n=1
 .subst h1;refine bM aF func124 ntmps124 ?_;have W:=trivial;repeat' first|refine wf ?_|(refine nx ?_;refine sb ?_)|(refine sq ?_ ?_<;>intro hc<;>try exact hc.elim)|fail
  all_goals try(refine aQ ?_;simp[aP,results124])
  all_goals simp_all
 .refine bM aF func124 ntmps124 ?_;have W:=h1;repeat' first|refine wf ?_|(refine nx ?_;refine sb ?_)|(refine sq ?_ ?_<;>intro hc<;>try exact hc.elim)|fail
  all_goals try(refine aQ ?_;simp[aP,results124,h1])
  all_goals simp_all
theorem vS[aC prog][bP prog][dL prog](p:eU)(r:fV)(x:aZ)(hp:eD p<=274877906944)(hr:jL r<=274877906944)(hx:bG x<=1048576):Ok prog 216 [.agg (bN .view p),.agg (dD r),.agg (bF x)] (.int .i64 (dS p r x)):=by
 have c1:=wH p r (by omega) (by omega);have h12:fE p r=1\/fE p r=2:=by unfold fE;split<;>simp
 have c2:=uT x (by omega);have c3:=Qj x r.kind;have c4:=Kt x.body r.digest (by simp only[bG]at hx;omega);simp only[bN,dD]at c1;simp only[bF]at c2 c3;unfold dS TU;generalize fE p r=n at*;generalize fQ x=b2 at*;generalize Co x r.kind=b3 at*;generalize vQ x.body r.digest=b4 at*;rcases h12 with h1|h1
 .subst h1;refine bM aF func216 ntmps216 ?_;have W:=trivial;repeat' first|refine wf ?_|(refine nx ?_;refine sb ?_)|(refine sq ?_ ?_<;>intro hc<;>try exact hc.elim)|fail
  all_goals try(refine aQ ?_;simp[aP,results216])
  all_goals simp_all
 .subst h1;refine bM aF func216 ntmps216 ?_;have W:=trivial;repeat' first|refine wf ?_|(refine nx ?_;refine sb ?_)|(refine sq ?_ ?_<;>intro hc<;>try exact hc.elim)|fail
  exact aD results216
def jF(p:eU)(r:fV)(x:aZ):bB:=if dS p r x=1 then x.body else []
theorem Dk[aC prog][bP prog][dL prog](p:eU)(r:fV)(x:aZ)(hp:eD p<=274877906944)(hr:jL r<=274877906944)(hx:bG x<=1048576):Ok prog 125 [.agg (bN .view p),.agg (dD r),.agg (bF x)] (.gT [.str (jF p r x),.bool (decide (dS p r x=1))]):=by
 have c1:=vR p r x hp hr hx;simp only[bN,dD,bF]at c1;unfold jF;generalize dS p r x=n at*;by_cases h1:n=1
 .subst h1;refine bM aF func125 ntmps125 ?_;have W:=trivial;repeat' first|refine wf ?_|(refine nx ?_;refine sb ?_)|(refine sq ?_ ?_<;>intro hc<;>try exact hc.elim)|fail
  exact aD results125
 .refine bM aF func125 ntmps125 ?_;have W:=h1;repeat' first|refine wf ?_|(refine nx ?_;refine sb ?_)|(refine sq ?_ ?_<;>intro hc<;>try exact hc.elim)|fail
  all_goals try(refine aQ ?_;simp[aP,results125,h1])
theorem Dl[aC prog][bP prog][dL prog](p:eU)(r:fV)(x:aZ)(hp:eD p<=274877906944)(hr:jL r<=274877906944)(hx:bG x<=1048576):Ok prog 217 [.agg (bN .view p),.agg (dD r),.agg (bF x)] (.gT [.str (jF p r x),.bool (decide (dS p r x=1))]):=by
 have c1:=vS p r x hp hr hx;simp only[bN,dD,bF]at c1;unfold jF;generalize dS p r x=n at*;by_cases h1:n=1
 .subst h1;refine bM aF func217 ntmps217 ?_;have W:=trivial;repeat' first|refine wf ?_|(refine nx ?_;refine sb ?_)|(refine sq ?_ ?_<;>intro hc<;>try exact hc.elim)|fail
  exact aD results217
 .refine bM aF func217 ntmps217 ?_;have W:=h1;repeat' first|refine wf ?_|(refine nx ?_;refine sb ?_)|(refine sq ?_ ?_<;>intro hc<;>try exact hc.elim)|fail
  all_goals try(refine aQ ?_;simp[aP,results217,h1])
def filled(p:aG)(s:pJ)(x:aZ):pJ:={s with done:=true,code:=dS p.bD (fM p s) x,body:=jF p.bD (fM p s) x}
def iL(p:aG)(k:Int)(x:aZ):aG:=
 if 0<=k then match p.aB[k.toNat]? with
  |some s=>if s.done=true then p else {p with aB:=p.aB.set k.toNat (filled p s x)}
  |none=>p
 else p
theorem QP{p:aG}{k:Int}{x:aZ}(h:¬(0<=k/\k<p.aB.length)):iL p k x=p:=by
 unfold iL;split
 .have:p.aB[k.toNat]? =none:=by rw[tP];omega
  rw[this]
 .rfl
theorem Ob{p:aG}{k:Int}{x:aZ}{s:pJ}(hg:p.aB[k.toNat]? =some s)(hd:s.done=true):iL p k x=p:=by unfold iL;rw[hg];simp[hd]
theorem mh{p:aG}{k:Int}{x:aZ}{s:pJ}(h0:0<=k)(hg:p.aB[k.toNat]? =some s)(hd:s.done=false):iL p k x={p with aB:=p.aB.set k.toNat (filled p s x)}:=by unfold iL;rw[eK h0,hg];simp[hd]
theorem Pq(p:aG){s:pJ}{k:Nat}(hg:p.aB[k]? =some s):jL (fM p s)<=aI p:=by have hm:=bS kZ (mT hg);simp only[kZ]at hm;simp only[jL,fM,aI,aR,bQ]at*;omega
theorem Qk[aC prog][bP prog][dL prog](p:aG)(k:Int)(x:aZ)(hs:aI p<=137438953472)(hx:bG x<=1048576):Ok prog 219 [.agg (aH .view p),.int .i64 k,.agg (bF x)] (.agg (aH .own (iL p k x))):=by
 have c1:=iG p (by omega);have NB:p.aB.length<=274877906944:=by simp only[aI,bQ]at hs;omega
 have GN:eD p.bD<=274877906944:=by simp only[aI]at hs;omega
 by_cases hk0:k<0
 .rw [QP (by omega)];simp only[aH]at c1;refine bM aF func219 ntmps219 ?_;have W:=hk0;refine we ?_;exact aD results219
 by_cases hk1:(p.aB.length:Int)<=k
 .rw [QP (by omega)];simp only[aH]at c1;refine bM aF func219 ntmps219 ?_;have W:=aA hk0 hk1;refine we ?_;exact aD results219
 have h0:0<=k:=by omega
 have hlt:k.toNat<p.aB.length:=by omega
 have hg:p.aB[k.toNat]? =some p.aB[k.toNat]:=aE hlt;cases hd:p.aB[k.toNat].done
 .rw [mh h0 hg hd];have c2:=xG p k h0 (by omega) (by omega);have hr:=Pq p hg;have e:iZ p k=fM p p.aB[k.toNat]:=by simp[iZ,hg]
  rw[e]at c2;have c3:=vS p.bD (fM p p.aB[k.toNat]) x GN (by omega) hx;have c4:=Dl p.bD (fM p p.aB[k.toNat]) x GN (by omega) hx;have hset:∀(c:Int) (b:bB),(p.aB.map vC).set k.toNat [.int .i64 p.aB[k.toNat].mode,.str p.aB[k.toNat].to.host,.str p.aB[k.toNat].to.path,.str p.aB[k.toNat].digest,.int .i64 p.aB[k.toNat].node,.bool true,.int .i64 c,.str b]=(p.aB.set k.toNat {p.aB[k.toNat]with done:=true,code:=c,body:=b}).map vC:=by intro c b;rw[map_set];rfl
  have hset:=hset (dS p.bD (fM p p.aB[k.toNat]) x) (jF p.bD (fM p p.aB[k.toNat]) x);unfold filled;generalize dS p.bD (fM p p.aB[k.toNat]) x=c at*;generalize jF p.bD (fM p p.aB[k.toNat]) x=b at*;generalize fM p p.aB[k.toNat]=q at*;generalize p.aB.set k.toNat {p.aB[k.toNat]with done:=true,code:=c,body:=b}=l3 at*;simp only[aH,dD]at c2;simp only[bN,dD,bF]at c3 c4;simp only[aH]at c1;simp only[aH];clear e;refine bM aF func219 ntmps219 ?_;have W:=aA hk0 (aA hk1 (aA h0 (aA hg (aA hd hlt))));refine we ?_;all_goals try(refine aQ ?_;simp[aP,results219])
  all_goals exact hset
 .rw [Ob hg hd];simp only[aH]at c1;refine bM aF func219 ntmps219 ?_;have W:=aA hk0 (aA hk1 (aA h0 (aA hg (aA hd hlt))));refine we ?_;exact aD results219
theorem Ql[aC prog][bP prog][dL prog](p:aG)(k:Int)(x:aZ)(hs:aI p<=137438953472)(hx:bG x<=1048576):Ok prog 128 [.agg (aH .view p),.int .i64 k,.agg (bF x)] (.agg (aH .own (iL p k x))):=by
 have c1:=gK p (by omega);have NB:p.aB.length<=274877906944:=by simp only[aI,bQ]at hs;omega
 have GN:eD p.bD<=274877906944:=by simp only[aI]at hs;omega
 have ci:=gI k 0 ((p.aB.length:Int)-1);by_cases hk0:k<0
 .rw [QP (by omega)];rw[show(decide (0<=k)&&decide (k<=(p.aB.length:Int)-1))=false by simp;omega]at ci;simp only[aH]at c1;refine bM aF func128 ntmps128 ?_;have W:=hk0;refine we ?_;exact aD results128
 by_cases hk1:(p.aB.length:Int)<=k
 .rw [QP (by omega)];rw[show(decide (0<=k)&&decide (k<=(p.aB.length:Int)-1))=false by simp;omega]at ci;simp only[aH]at c1;refine bM aF func128 ntmps128 ?_;have W:=aA hk0 hk1;refine we ?_;exact aD results128
 have h0:0<=k:=by omega
 rw[show(decide (0<=k)&&decide (k<=(p.aB.length:Int)-1))=true by simp;omega]at ci;have hlt:k.toNat<p.aB.length:=by omega
 have hg:p.aB[k.toNat]? =some p.aB[k.toNat]:=aE hlt;cases hd:p.aB[k.toNat].done
 .rw [mh h0 hg hd];have c2:=xE p k h0 (by omega) (by omega);have hr:=Pq p hg;have e:iZ p k=fM p p.aB[k.toNat]:=by simp[iZ,hg]
  rw[e]at c2;have c3:=vR p.bD (fM p p.aB[k.toNat]) x GN (by omega) hx;have c4:=Dk p.bD (fM p p.aB[k.toNat]) x GN (by omega) hx;have hset:∀(c:Int) (b:bB),(p.aB.map vC).set k.toNat [.int .i64 p.aB[k.toNat].mode,.str p.aB[k.toNat].to.host,.str p.aB[k.toNat].to.path,.str p.aB[k.toNat].digest,.int .i64 p.aB[k.toNat].node,.bool true,.int .i64 c,.str b]=(p.aB.set k.toNat {p.aB[k.toNat]with done:=true,code:=c,body:=b}).map vC:=by intro c b;rw[map_set];rfl
  have hset:=hset (dS p.bD (fM p p.aB[k.toNat]) x) (jF p.bD (fM p p.aB[k.toNat]) x);unfold filled;generalize dS p.bD (fM p p.aB[k.toNat]) x=c at*;generalize jF p.bD (fM p p.aB[k.toNat]) x=b at*;generalize fM p p.aB[k.toNat]=q at*;generalize p.aB.set k.toNat {p.aB[k.toNat]with done:=true,code:=c,body:=b}=l3 at*;simp only[aH,dD]at c2;simp only[bN,dD,bF]at c3 c4;simp only[aH]at c1;simp only[aH];clear e;refine bM aF func128 ntmps128 ?_;have W:=aA hk0 (aA hk1 (aA h0 (aA hg (aA hd hlt))));refine we ?_;all_goals try(refine aQ ?_;simp[aP,results128])
  all_goals exact hset
 .rw [Ob hg hd];simp only[aH]at c1;refine bM aF func128 ntmps128 ?_;have W:=aA hk0 (aA hk1 (aA h0 (aA hg (aA hd hlt))));refine we ?_;exact aD results128
end Go.Proofs.YtfbefblglejcaaaGreatDoor
