/- Proved here: steps towards the statement of this claim. No condition. -/
import Derived.Test.YthddijamfbfibaaGreatDoorZQJ5
import Derived.Test.YthddijamfbfibaaGreatDoorZQSTP
set_option linter.all false
set_option maxRecDepth 100000
set_option maxHeartbeats 8000000
namespace Go.Proofs.YthddijamfbfibaaGreatDoor
open Go.Aw Proofs.Tryz List IntKind
@[simp] theorem aIb(f:Tg->Option Tg)(b:Bool)(l:bB):mX f b (dK l)=dK l:=by
 induction l with
 |nil=>rfl
 |cons x l ih=>simp only[dK,mB,mX,xO,rt]at ih⊢;rw[ih]
def vU(s:bB):Int:=vT (151::mZ s)
theorem um(s:bB)(h:s.length<=60000000):∀y∈(151::mZ s),rgI y:=by
 intro y hy;unfold rgI;rcases gS.1 hy with rfl|hy
 .omega
 rcases gS.1 hy with rfl|hy
 .omega
 .simp only[toInts,zF,AG]at hy;obtain⟨c,_,rfl⟩:=hy;have:c.toNat<256:=Ds c;omega
theorem IK(s:bB):(mZ s).length=s.length+1:=by simp[mZ,toInts,zF]
theorem uo(l:List Int):0<=vT l/\vT l<=2147483647:=by
 unfold vT;have:∀(l:List Int) (a:Int),0<=a/\a<=2147483647->0<=l.foldl AP a/\l.foldl AP a<=2147483647:=by
  intro l;induction l with
  |nil=>intro a h;exact h
  |cons x l ih=>intro a _;refine ih _ ?_;unfold AP;omega
 exact this l 11 (by omega)
theorem QE[aB prog][bQ prog][dM prog](s:bB)(hl:s.length<=1048576):Ok prog 256 [.str s] (.int .i64 (vU s)):=by
 have c3:=KI s (by omega);have c4:=uj (151::mZ s) (by simp only[eN,IK];omega) (um _ (by omega));have hil:=IK s;have hq:(mZ s).length<=1048577:=by omega
 simp only[mB]at c4;unfold vU;generalize mZ s=q at*;refine bM aG func256 ntmps256 ?_;have W:=trivial;repeat' first|refine wf ?_|(refine nx ?_;refine sb ?_)|(refine sq ?_ ?_<;>intro hc<;>try exact hc.elim)|fail
 exact aF results256
theorem QF[aB prog][bQ prog][dM prog](s:bB)(hl:s.length<=1048576):Ok prog 317 [.str s] (.int .i64 (vU s)):=by
 have c3:=KJ s (by omega);have c4:=uk (151::mZ s) (by simp only[eN,IK];omega) (um _ (by omega));have hil:=IK s;have hq:(mZ s).length<=1048577:=by omega
 simp only[mB]at c4;unfold vU;generalize mZ s=q at*;refine bM aG func317 ntmps317 ?_;have W:=trivial;repeat' first|refine wf ?_|(refine nx ?_;refine sb ?_)|(refine sq ?_ ?_<;>intro hc<;>try exact hc.elim)|fail
 exact aF results317
def vV(body v:bB):Bool:=v == [] || v == Lib.itoa (vU body)
theorem KL[aB prog][bQ prog][dM prog](s v:bB)(hl:s.length<=1048576):Ok prog 198 [.str s,.str v] (.bool (vV s v)):=by
 have c1:=QE s hl;have hr:=uo (151::mZ s);have c2:=fK (vU s) (by unfold vU;omega);unfold vV;generalize vU s=d at*;generalize Lib.itoa d=t at*;refine bM aG func198 ntmps198 ?_;have W:=trivial;repeat' first|refine wf ?_|(refine nx ?_;refine sb ?_)|(refine sq ?_ ?_<;>intro hc<;>try exact hc.elim)|fail
 all_goals try(refine aR ?_;simp[aP,results198])
 all_goals simp_all
theorem KM[aB prog][bQ prog][dM prog](s v:bB)(hl:s.length<=1048576):Ok prog 286 [.str s,.str v] (.bool (vV s v)):=by
 have c1:=QF s hl;have hr:=uo (151::mZ s);have c2:=fI (vU s) (by unfold vU;omega);unfold vV;generalize vU s=d at*;generalize Lib.itoa d=t at*;refine bM aG func286 ntmps286 ?_;have W:=trivial;repeat' first|refine wf ?_|(refine nx ?_;refine sb ?_)|(refine sq ?_ ?_<;>intro hc<;>try exact hc.elim)|fail
 all_goals try(refine aR ?_;simp[aP,results286])
 all_goals simp_all
def CF(x:bA)(k:Int):Bool:=decide (x.kind=k) || (decide (k=5)&&decide (x.kind=2))
theorem QG[aB prog][bQ prog][dM prog](x:bA)(k:Int):Ok prog 197 [.agg (bF x),.int .i64 k] (.bool (CF x k)):=by
 unfold CF;refine bM aG func197 ntmps197 ?_;have W:=trivial;repeat' first|refine wf ?_|(refine nx ?_;refine sb ?_)|(refine sq ?_ ?_<;>intro hc<;>try exact hc.elim)|fail
 all_goals try(refine aR ?_;simp[aP,results197])
 all_goals first|(simp_all;done)|(by_cases hk2:x.kind=2<;>simp_all)
theorem QH[aB prog][bQ prog][dM prog](x:bA)(k:Int):Ok prog 285 [.agg (bF x),.int .i64 k] (.bool (CF x k)):=by
 unfold CF;refine bM aG func285 ntmps285 ?_;have W:=trivial;repeat' first|refine wf ?_|(refine nx ?_;refine sb ?_)|(refine sq ?_ ?_<;>intro hc<;>try exact hc.elim)|fail
 all_goals try(refine aR ?_;simp[aP,results285])
 all_goals first|(simp_all;done)|(by_cases hk2:x.kind=2<;>simp_all)
def Uz(r:fV)(x:bA):Bool:=decide (r.frm≠r.to.host)&& !x.shares&&(decide (r.kind=5) || decide (r.digest≠[]))
def dS(p:eX)(r:fV)(x:bA):Int:=
 if fE p r≠1 then 2 else if fQ x=false\/x.status≠200 then 3 else if CF x r.kind=false then 4 else if Uz r x=true then 5 else if vV x.body r.digest=false then 6 else 1
theorem vW[aB prog][bQ prog][dM prog](p:eX)(r:fV)(x:bA)(hp:eF p<=274877906944)(hr:jQ r<=274877906944)(hx:bG x<=1048576):Ok prog 134 [.agg (bN .view p),.agg (dD r),.agg (bF x)] (.int .i64 (dS p r x)):=by
 have c1:=wO p r (by omega) (by omega);have c2:=rM x (by omega);have c3:=QG x r.kind;have c4:=KL x.body r.digest (by simp only[bG]at hx;omega);simp only[bN,dD]at c1;simp only[bF]at c2 c3;unfold dS Uz;generalize fE p r=n at*;generalize fQ x=b2 at*;generalize CF x r.kind=b3 at*;generalize vV x.body r.digest=b4 at*;by_cases h1:n=1
 .subst h1;refine bM aG func134 ntmps134 ?_;have W:=trivial;repeat' first|refine wf ?_|(refine nx ?_;refine sb ?_)|(refine sq ?_ ?_<;>intro hc<;>try exact hc.elim)|fail
  all_goals try(refine aR ?_;simp[aP,results134])
  all_goals simp_all
 .refine bM aG func134 ntmps134 ?_;have W:=h1;repeat' first|refine wf ?_|(refine nx ?_;refine sb ?_)|(refine sq ?_ ?_<;>intro hc<;>try exact hc.elim)|fail
  all_goals try(refine aR ?_;simp[aP,results134,h1])
  all_goals simp_all
theorem vX[aB prog][bQ prog][dM prog](p:eX)(r:fV)(x:bA)(hp:eF p<=274877906944)(hr:jQ r<=274877906944)(hx:bG x<=1048576):Ok prog 227 [.agg (bN .view p),.agg (dD r),.agg (bF x)] (.int .i64 (dS p r x)):=by
 have c1:=wP p r (by omega) (by omega);have h12:fE p r=1\/fE p r=2:=by unfold fE;split<;>simp
 have c2:=uZ x (by omega);have c3:=QH x r.kind;have c4:=KM x.body r.digest (by simp only[bG]at hx;omega);simp only[bN,dD]at c1;simp only[bF]at c2 c3;unfold dS Uz;generalize fE p r=n at*;generalize fQ x=b2 at*;generalize CF x r.kind=b3 at*;generalize vV x.body r.digest=b4 at*;rcases h12 with h1|h1
 .subst h1;refine bM aG func227 ntmps227 ?_;have W:=trivial;repeat' first|refine wf ?_|(refine nx ?_;refine sb ?_)|(refine sq ?_ ?_<;>intro hc<;>try exact hc.elim)|fail
  all_goals try(refine aR ?_;simp[aP,results227])
  all_goals simp_all
 .subst h1;refine bM aG func227 ntmps227 ?_;have W:=trivial;repeat' first|refine wf ?_|(refine nx ?_;refine sb ?_)|(refine sq ?_ ?_<;>intro hc<;>try exact hc.elim)|fail
  exact aF results227
def jI(p:eX)(r:fV)(x:bA):bB:=if dS p r x=1 then x.body else []
theorem Dy[aB prog][bQ prog][dM prog](p:eX)(r:fV)(x:bA)(hp:eF p<=274877906944)(hr:jQ r<=274877906944)(hx:bG x<=1048576):Ok prog 135 [.agg (bN .view p),.agg (dD r),.agg (bF x)] (.gM [.str (jI p r x),.bool (decide (dS p r x=1))]):=by
 have c1:=vW p r x hp hr hx;simp only[bN,dD,bF]at c1;unfold jI;generalize dS p r x=n at*;by_cases h1:n=1
 .subst h1;refine bM aG func135 ntmps135 ?_;have W:=trivial;repeat' first|refine wf ?_|(refine nx ?_;refine sb ?_)|(refine sq ?_ ?_<;>intro hc<;>try exact hc.elim)|fail
  exact aF results135
 .refine bM aG func135 ntmps135 ?_;have W:=h1;repeat' first|refine wf ?_|(refine nx ?_;refine sb ?_)|(refine sq ?_ ?_<;>intro hc<;>try exact hc.elim)|fail
  all_goals try(refine aR ?_;simp[aP,results135,h1])
theorem Dz[aB prog][bQ prog][dM prog](p:eX)(r:fV)(x:bA)(hp:eF p<=274877906944)(hr:jQ r<=274877906944)(hx:bG x<=1048576):Ok prog 228 [.agg (bN .view p),.agg (dD r),.agg (bF x)] (.gM [.str (jI p r x),.bool (decide (dS p r x=1))]):=by
 have c1:=vX p r x hp hr hx;simp only[bN,dD,bF]at c1;unfold jI;generalize dS p r x=n at*;by_cases h1:n=1
 .subst h1;refine bM aG func228 ntmps228 ?_;have W:=trivial;repeat' first|refine wf ?_|(refine nx ?_;refine sb ?_)|(refine sq ?_ ?_<;>intro hc<;>try exact hc.elim)|fail
  exact aF results228
 .refine bM aG func228 ntmps228 ?_;have W:=h1;repeat' first|refine wf ?_|(refine nx ?_;refine sb ?_)|(refine sq ?_ ?_<;>intro hc<;>try exact hc.elim)|fail
  all_goals try(refine aR ?_;simp[aP,results228,h1])
def filled(p:aI)(s:pR)(x:bA):pR:={s with done:=true,code:=dS p.bD (fM p s) x,body:=jI p.bD (fM p s) x}
def iP(p:aI)(k:Int)(x:bA):aI:=
 if 0<=k then match p.aC[k.toNat]? with
  |some s=>if s.done=true then p else {p with aC:=p.aC.set k.toNat (filled p s x)}
  |none=>p
 else p
theorem Rp{p:aI}{k:Int}{x:bA}(h:¬(0<=k/\k<p.aC.length)):iP p k x=p:=by
 unfold iP;split
 .have:p.aC[k.toNat]? =none:=by rw[yW];omega
  rw[this]
 .rfl
theorem OD{p:aI}{k:Int}{x:bA}{s:pR}(hg:p.aC[k.toNat]? =some s)(hd:s.done=true):iP p k x=p:=by unfold iP;rw[hg];simp[hd]
theorem uq{p:aI}{k:Int}{x:bA}{s:pR}(h0:0<=k)(hg:p.aC[k.toNat]? =some s)(hd:s.done=false):iP p k x={p with aC:=p.aC.set k.toNat (filled p s x)}:=by unfold iP;rw[eK h0,hg];simp[hd]
theorem PW(p:aI){s:pR}{k:Nat}(hg:p.aC[k]? =some s):jQ (fM p s)<=aL p:=by have hm:=bS lJ (nB hg);simp only[lJ]at hm;simp only[jQ,fM,aL,aQ,bP]at*;omega
theorem QI[aB prog][bQ prog][dM prog](p:aI)(k:Int)(x:bA)(hs:aL p<=137438953472)(hx:bG x<=1048576):Ok prog 230 [.agg (aJ .view p),.int .i64 k,.agg (bF x)] (.agg (aJ .own (iP p k x))):=by
 have c1:=iI p (by omega);have Oa:p.aC.length<=274877906944:=by simp only[aL,bP]at hs;omega
 have Hq:eF p.bD<=274877906944:=by simp only[aL]at hs;omega
 by_cases hk0:k<0
 .rw [Rp (by omega)];simp only[aJ]at c1;refine bM aG func230 ntmps230 ?_;have W:=hk0;refine we ?_;exact aF results230
 by_cases hk1:(p.aC.length:Int)<=k
 .rw [Rp (by omega)];simp only[aJ]at c1;refine bM aG func230 ntmps230 ?_;have W:=aA hk0 hk1;refine we ?_;exact aF results230
 have h0:0<=k:=by omega
 have hlt:k.toNat<p.aC.length:=by omega
 have hg:p.aC[k.toNat]? =some p.aC[k.toNat]:=aE hlt;cases hd:p.aC[k.toNat].done
 .rw [uq h0 hg hd];have c2:=xL p k h0 (by omega) (by omega);have hr:=PW p hg;have e:jD p k=fM p p.aC[k.toNat]:=by simp[jD,hg]
  rw[e]at c2;have c3:=vX p.bD (fM p p.aC[k.toNat]) x Hq (by omega) hx;have c4:=Dz p.bD (fM p p.aC[k.toNat]) x Hq (by omega) hx;have hset:∀(c:Int) (b:bB),(p.aC.map vH).set k.toNat [.int .i64 p.aC[k.toNat].mode,.str p.aC[k.toNat].to.host,.str p.aC[k.toNat].to.path,.str p.aC[k.toNat].digest,.int .i64 p.aC[k.toNat].node,.bool true,.int .i64 c,.str b]=(p.aC.set k.toNat {p.aC[k.toNat]with done:=true,code:=c,body:=b}).map vH:=by intro c b;rw[map_set];rfl
  have hset:=hset (dS p.bD (fM p p.aC[k.toNat]) x) (jI p.bD (fM p p.aC[k.toNat]) x);unfold filled;generalize dS p.bD (fM p p.aC[k.toNat]) x=c at*;generalize jI p.bD (fM p p.aC[k.toNat]) x=b at*;generalize fM p p.aC[k.toNat]=q at*;generalize p.aC.set k.toNat {p.aC[k.toNat]with done:=true,code:=c,body:=b}=l3 at*;simp only[aJ,dD]at c2;simp only[bN,dD,bF]at c3 c4;simp only[aJ]at c1;simp only[aJ];clear e;refine bM aG func230 ntmps230 ?_;have W:=aA hk0 (aA hk1 (aA h0 (aA hg (aA hd hlt))));refine we ?_;all_goals try(refine aR ?_;simp[aP,results230])
  all_goals exact hset
 .rw [OD hg hd];simp only[aJ]at c1;refine bM aG func230 ntmps230 ?_;have W:=aA hk0 (aA hk1 (aA h0 (aA hg (aA hd hlt))));refine we ?_;exact aF results230
theorem QJ[aB prog][bQ prog][dM prog](p:aI)(k:Int)(x:bA)(hs:aL p<=137438953472)(hx:bG x<=1048576):Ok prog 138 [.agg (aJ .view p),.int .i64 k,.agg (bF x)] (.agg (aJ .own (iP p k x))):=by
 have c1:=gK p (by omega);have Oa:p.aC.length<=274877906944:=by simp only[aL,bP]at hs;omega
 have Hq:eF p.bD<=274877906944:=by simp only[aL]at hs;omega
 have ci:=gH k 0 ((p.aC.length:Int)-1);by_cases hk0:k<0
 .rw [Rp (by omega)];rw[show(decide (0<=k)&&decide (k<=(p.aC.length:Int)-1))=false by simp;omega]at ci;simp only[aJ]at c1;refine bM aG func138 ntmps138 ?_;have W:=hk0;refine we ?_;exact aF results138
 by_cases hk1:(p.aC.length:Int)<=k
 .rw [Rp (by omega)];rw[show(decide (0<=k)&&decide (k<=(p.aC.length:Int)-1))=false by simp;omega]at ci;simp only[aJ]at c1;refine bM aG func138 ntmps138 ?_;have W:=aA hk0 hk1;refine we ?_;exact aF results138
 have h0:0<=k:=by omega
 rw[show(decide (0<=k)&&decide (k<=(p.aC.length:Int)-1))=true by simp;omega]at ci;have hlt:k.toNat<p.aC.length:=by omega
 have hg:p.aC[k.toNat]? =some p.aC[k.toNat]:=aE hlt;cases hd:p.aC[k.toNat].done
 .rw [uq h0 hg hd];have c2:=xK p k h0 (by omega) (by omega);have hr:=PW p hg;have e:jD p k=fM p p.aC[k.toNat]:=by simp[jD,hg]
  rw[e]at c2;have c3:=vW p.bD (fM p p.aC[k.toNat]) x Hq (by omega) hx;have c4:=Dy p.bD (fM p p.aC[k.toNat]) x Hq (by omega) hx;have hset:∀(c:Int) (b:bB),(p.aC.map vH).set k.toNat [.int .i64 p.aC[k.toNat].mode,.str p.aC[k.toNat].to.host,.str p.aC[k.toNat].to.path,.str p.aC[k.toNat].digest,.int .i64 p.aC[k.toNat].node,.bool true,.int .i64 c,.str b]=(p.aC.set k.toNat {p.aC[k.toNat]with done:=true,code:=c,body:=b}).map vH:=by intro c b;rw[map_set];rfl
  have hset:=hset (dS p.bD (fM p p.aC[k.toNat]) x) (jI p.bD (fM p p.aC[k.toNat]) x);unfold filled;generalize dS p.bD (fM p p.aC[k.toNat]) x=c at*;generalize jI p.bD (fM p p.aC[k.toNat]) x=b at*;generalize fM p p.aC[k.toNat]=q at*;generalize p.aC.set k.toNat {p.aC[k.toNat]with done:=true,code:=c,body:=b}=l3 at*;simp only[aJ,dD]at c2;simp only[bN,dD,bF]at c3 c4;simp only[aJ]at c1;simp only[aJ];clear e;refine bM aG func138 ntmps138 ?_;have W:=aA hk0 (aA hk1 (aA h0 (aA hg (aA hd hlt))));refine we ?_;all_goals try(refine aR ?_;simp[aP,results138])
  all_goals exact hset
 .rw [OD hg hd];simp only[aJ]at c1;refine bM aG func138 ntmps138 ?_;have W:=aA hk0 (aA hk1 (aA h0 (aA hg (aA hd hlt))));refine we ?_;exact aF results138
def iB(p:aI)(a:aD)(x:bA):Nat->aI
 |0=>p
 |k+1=>match p.aC[k]? with
  |some s=>if s.to=a then iP (iB p a x k) k x else iB p a x k
  |none=>iB p a x k
def mD(p:aI)(a:aD)(x:bA):aI:=iB p a x p.aC.length
theorem Yk(p:aI)(k:Int)(x:bA):(iP p k x).aC.length=p.aC.length/\(iP p k x).bD=p.bD/\(iP p k x).addr=p.addr:=by
 unfold iP;split
 .split
  .split
   .exact ⟨rfl,rfl,rfl⟩
   .simp
  .exact ⟨rfl,rfl,rfl⟩
 .exact ⟨rfl,rfl,rfl⟩
theorem aMd(p:aI)(k:Int)(x:bA)(j:Nat)(h:(j:Int)≠k):(iP p k x).aC[j]? =p.aC[j]?:=by
 unfold iP;split
 .split
  .split
   .rfl
   .simp only;rw[lO (by omega)]
  .rfl
 .rfl
theorem EA(p:eX)(r:fV)(x:bA):(jI p r x).length<=400:=by
 unfold jI;split
 .rename_i h;unfold dS at h;split at h
  .omega
  .split at h
   .omega
   .rename_i h2;have h3:fQ x=true:=by
     cases h4:fQ x with
     |true=>rfl
     |false=>exact absurd (.inl h4) h2
    simp only[fQ,eI,fN]at h3;exact h3.1.1.2
 .simp
theorem aIc(p:aI)(k:Int)(x:bA):aL (iP p k x)<=aL p+400:=by
 unfold iP;split
 .split
  .rename_i s hg;split
   .omega
   .have hb:=EA p.bD (fM p s) x;have h1:aY lJ (p.aC.set k.toNat (filled p s x))<=aY lJ p.aC+400:=by
     have:∀(l:List pR) (i:Nat) (s s':pR),l[i]? =some s->lJ s'<=lJ s+400->aY lJ (l.set i s')<=aY lJ l+400:=by
      intro l;induction l with
      |nil=>intro i s s' h;simp at h
      |cons y l ih=>
       intro i s s' h hs;cases i with
       |zero=>simp at h;subst h;simp only[cU,aY];omega
       |succ i=>have:=ih i s s' (by simpa using h) hs;simp only[cW,aY];omega
     refine this _ _ s _ hg ?_;simp only[lJ,filled];omega
    simp only[aL,bP,length_set]at*;omega
  .omega
 .omega
theorem zB(p:aI)(a:aD)(x:bA):∀k,(iB p a x k).aC.length=p.aC.length/\(∀j,k<=j->(iB p a x k).aC[j]? =p.aC[j]?)/\aL (iB p a x k)<=aL p+k*400
 |0=>⟨rfl,λ_ _=>rfl,by simp[iB]⟩
 |k+1=>by
  obtain⟨h1,h2,h3⟩:=zB p a x k;simp only[iB];split
  .split
   .refine ⟨by rw[(Yk _ _ _).1];exact h1,λj hj=>by rw[aMd _ _ _ _ (by omega)];exact h2 j (by omega),?_⟩
    have:=aIc (iB p a x k) k x;omega
   .exact ⟨h1,λj hj=>h2 j (by omega),by omega⟩
  .exact ⟨h1,λj hj=>h2 j (by omega),by omega⟩
theorem PX{p:aI}{a:aD}{x:bA}{k:Nat}(h:k<p.aC.length):iB p a x (k+1)=if p.aC[k].to=a then iP (iB p a x k) k x else iB p a x k:=by simp only[iB];rw[aE h]
def lY(q:aI):List aN:=[⟨true,false,1,1,q.bD.fC.map dC⟩,⟨true,false,1,1,q.bD.gY.map dC⟩,⟨true,false,1,1,q.bD.gZ.map dC⟩,⟨true,false,4,1,q.queue.map (cB .own)⟩,⟨true,false,4,1,q.builder.nodes.map (fA .own)⟩,⟨true,false,1,1,q.builder.opens.map mM⟩,⟨true,false,8,1,q.aC.map vH⟩,⟨true,false,5,1,q.aO.map eY⟩,⟨true,false,2,1,q.entries.map aH⟩,⟨true,false,2,1,q.uA.map aH⟩,⟨true,false,1,1,q.log.map dC⟩]
def jJ(b:Nat)(q:aI):List AV:=[.str q.addr.host,.str q.addr.path,.bool q.bD.isSet,.obj b 1,.obj (b+1) 1,.obj (b+2) 1,.str q.bD.tQ,.str q.tok.rest,.obj (b+3) 1,.bool q.ended,.obj (b+4) 1,.obj (b+5) 1,.obj (b+6) 1,.obj (b+7) 1,.obj (b+8) 1,.int .i64 q.block,.int .i64 q.inline,.int .i64 q.deferred,.int .i64 q.iC,.obj (b+9) 1,.obj (b+10) 1,.bool q.pF]
def DN:List (Nat×Nat):=[(4,16),(5,17),(6,18),(7,19),(8,20),(9,21),(10,22),(11,23),(12,24),(13,25),(14,26)]
theorem O9{t t':List AV}{o0 o1 o2 o3:aN}(q0 q:aI)(ht:∀z∈DN,wk (rP z.1 z.2 t') t')(hf:∀z∈DN,o0.lV z.1 z.2=o0/\o1.lV z.1 z.2=o1/\o2.lV z.1 z.2=o2/\o3.lV z.1 z.2=o3)(hw:wk t t')(hc:eP 16 t'=true)(hc0:dB 16 [o0,o1,o2,o3]=true):
  lC ⟨t,[o0,o1,o2,o3]++lY q0++[⟨true,true,22,0,[jJ 16 q]⟩]++lY q⟩ ⟨t',[o0,o1,o2,o3]++lY q++[⟨true,true,22,0,[jJ 4 q]⟩]⟩:=by
 have e:=λi j (h:(i,j)∈DN)=>hf (i,j) h
 have h:=λi j (h:(i,j)∈DN)=>ht (i,j) h
 simp only[lY,jJ,eA,eM];refine(wN hw).trans ?_;refine(aS 4 16 rfl rfl ⟨rfl,rfl⟩ (by simp[(e 4 16 (by decide))];rfl) (h 4 16 (by decide))).trans ?_;refine(aS 5 17 rfl rfl ⟨rfl,rfl⟩ (by simp[(e 5 17 (by decide))];rfl) (h 5 17 (by decide))).trans ?_;refine(aS 6 18 rfl rfl ⟨rfl,rfl⟩ (by simp[(e 6 18 (by decide))];rfl) (h 6 18 (by decide))).trans ?_;refine(aS 7 19 rfl rfl ⟨rfl,rfl⟩ (by simp[(e 7 19 (by decide))];rfl) (h 7 19 (by decide))).trans ?_;refine(aS 8 20 rfl rfl ⟨rfl,rfl⟩ (by simp[(e 8 20 (by decide))];rfl) (h 8 20 (by decide))).trans ?_;refine(aS 9 21 rfl rfl ⟨rfl,rfl⟩ (by simp[(e 9 21 (by decide))];rfl) (h 9 21 (by decide))).trans ?_;refine(aS 10 22 rfl rfl ⟨rfl,rfl⟩ (by simp[(e 10 22 (by decide))];rfl) (h 10 22 (by decide))).trans ?_;refine(aS 11 23 rfl rfl ⟨rfl,rfl⟩ (by simp[(e 11 23 (by decide))];rfl) (h 11 23 (by decide))).trans ?_;refine(aS 12 24 rfl rfl ⟨rfl,rfl⟩ (by simp[(e 12 24 (by decide))];rfl) (h 12 24 (by decide))).trans ?_;refine(aS 13 25 rfl rfl ⟨rfl,rfl⟩ (by simp[(e 13 25 (by decide))];rfl) (h 13 25 (by decide))).trans ?_;refine(aS 14 26 rfl rfl ⟨rfl,rfl⟩ (by simp[(e 14 26 (by decide))];rfl) (h 14 26 (by decide))).trans ?_;refine aT 16 (by simp) (lK _) hc ?_;simpa [dB,eP,closed]using hc0
theorem zC{α:Type}{f:α->List AV}{i j:Nat}(h:∀x,rP i j (f x)=f x):∀l:List α,qV i j (l.map f)=l.map f
 |[]=>rfl
 |x::l=>by simp only[mB,qV,h,zC h l]
@[simp] theorem aRi(i j:Nat)(l:List bB):qV i j (l.map dC)=l.map dC:=zC (λ_=>rfl) l
@[simp] theorem aRj(i j:Nat)(l:List Int):qV i j (l.map mM)=l.map mM:=zC (λ_=>rfl) l
@[simp] theorem aP6(i j:Nat)(l:List aD):qV i j (l.map aH)=l.map aH:=zC (λ_=>rfl) l
@[simp] theorem aP7(i j:Nat)(l:List oU):qV i j (l.map uX)=l.map uX:=zC (λ_=>rfl) l
@[simp] theorem aP8(i j:Nat)(l:List pR):qV i j (l.map vH)=l.map vH:=zC (λ_=>rfl) l
@[simp] theorem aMe(i j:Nat)(l:List dX):qV i j (l.map eY)=l.map eY:=zC (λ_=>rfl) l
@[simp] theorem aMf(i j:Nat)(l:List bT):qV i j (l.map (cB .view))=l.map (cB .view):=zC (λ_=>by simp) l
@[simp] theorem aNr(i j:Nat)(l:List jP):qV i j (l.map (fA .view))=l.map (fA .view):=zC (λ_=>by simp) l
theorem UA{t t':List AV}{o o':List aN}{o0 o1 o2 o3:aN}{q0 q:aI}(ho:o=[o0,o1,o2,o3]++lY q0++[⟨true,true,22,0,[jJ 16 q]⟩]++lY q)(ho':o'=[o0,o1,o2,o3]++lY q++[⟨true,true,22,0,[jJ 4 q]⟩])
  (ht:∀z∈DN,wk (rP z.1 z.2 t') t') (hf:∀z∈DN,o0.lV z.1 z.2=o0/\o1.lV z.1 z.2=o1/\o2.lV z.1 z.2=o2/\o3.lV z.1 z.2=o3) (hw:wk t t') (hc:eP 16 t'=true) (hc0:dB 16 [o0,o1,o2,o3]=true):lC ⟨t,o⟩ ⟨t',o'⟩:=by
 subst ho;subst ho';exact O9 q0 q ht hf hw hc hc0
theorem UB[aB prog][bQ prog][dM prog](p:aI)(a:aD)(x:bA)(hs:aL p+400*p.aC.length<=137438953472)(hx:bG x<=1048576):Ok prog 172 [.agg (aJ .view p),.agg (aH a),.agg (bF x)] (.agg (aJ .own (mD p a x))):=by
 have c1:=iI p (by omega);have Oa:p.aC.length<=343597383:=by omega
 simp only[aJ]at c1;unfold mD;refine bM aG func172 ntmps172 ?_;refine aZ ?_;refine aM (ι:={k:Nat // k<=p.aC.length}) (λt o i=>⟨bC t [(14,.int .i64 i.1),(10,.undef)],o.take 4++lY (iB p a x i.1)++[⟨true,true,22,0,[jJ 4 (iB p a x i.1)]⟩]⟩)
  (λi=>p.aC.length-i.1) ⟨0,by simp⟩ (aK (by simp[lY,jJ,iB]) (by simp)) ?_
 rintro⟨k,hk⟩ K1 hK1;have hf:=zB p a x k;obtain⟨f1,f2,f3⟩:=hf;have c2:=QI (iB p a x k) k x (by omega) hx;have KN:= @PX p a x k;have hk1:=oQ (k:=k);by_cases hlt:k<p.aC.length
 .have hg:=aE hlt;have hnext:=KN hlt;clear KN;by_cases hto:p.aC[k].to=a
  .rw [eK hto]at hnext;generalize hq':iP (iB p a x k) k x=q' at*;have hK2:=hK1;simp only[bC,cW,cU,eL,fW,eA,eM,lY,jJ]at hK1⊢;clear hq' f2;generalize hqq:iB p a x k=q at*;simp only[aJ,bF]at c2;have W:=aA hk1 (aA hg (aA hlt hto));have c0:=oG a a;refine we ?_;refine hK2 _ ⟨k+1,by omega⟩ ?_ (by simp only;omega);simp only[hnext];exact UA (q0:=q) (q:=q') rfl (by simp[lY,jJ,hnext]) (by simp[DN]) (by simp[DN]) (by simp) (by simp) (by simp)
  .rw [cY hto]at hnext;have hK2:=hK1;simp only[bC,cW,cU,eL,fW,eA,eM,lY,jJ]at hK1⊢;clear f2 c2;generalize hqq:iB p a x k=q at*;have W:=aA hk1 (aA hg (aA hlt hto));have c0:=oG p.aC[k].to a;repeat' first|refine wf ?_|(refine sq ?_ ?_<;>intro hc<;>try exact hc.elim)|fail
   all_goals first
    |exact absurd (by assumption) hto
    |exact hK2 _ ⟨k+1,by omega⟩ (by simp only[hnext];exact aK (by simp[lY,jJ,hnext]) (by simp)) (by simp only;omega)
 .have htk:k=p.aC.length:=by omega
  subst htk;simp only[bC,cW,cU,eL,fW,eA,eM,lY,jJ]at hK1⊢;generalize iB p a x p.aC.length=q at*;clear KN f2 c2 hK1;have W:=hk1;refine we ?_;exact aF results172
theorem UC[aB prog][bQ prog][dM prog](p:aI)(a:aD)(x:bA)(hs:aL p+400*p.aC.length<=137438953472)(hx:bG x<=1048576):Ok prog 81 [.agg (aJ .view p),.agg (aH a),.agg (bF x)] (.agg (aJ .own (mD p a x))):=by
 have c1:=gK p (by omega);have Oa:p.aC.length<=343597383:=by omega
 simp only[aJ]at c1;unfold mD;refine bM aG func81 ntmps81 ?_;refine aZ ?_;refine aM (ι:={k:Nat // k<=p.aC.length}) (λt o i=>⟨bC t [(8,.int .i64 i.1),(10,.undef)],o.take 4++lY (iB p a x i.1)++[⟨true,true,22,0,[jJ 4 (iB p a x i.1)]⟩]⟩)
  (λi=>p.aC.length-i.1) ⟨0,by simp⟩ (aK (by simp[lY,jJ,iB]) (by simp)) ?_
 rintro⟨k,hk⟩ K1 hK1;have hf:=zB p a x k;obtain⟨f1,f2,f3⟩:=hf;have c2:=QJ (iB p a x k) k x (by omega) hx;have KN:= @PX p a x k;have hk1:=oQ (k:=k);by_cases hlt:k<p.aC.length
 .have hg:=aE hlt;have hnext:=KN hlt;clear KN;by_cases Gf:p.aC[k].done=true
  .have oF:iB p a x (k+1)=iB p a x k:=by
    rw[hnext];split
    .exact OD (s:=p.aC[k]) (by rw[mA,f2 k (eC k)];exact hg) Gf
    .rfl
   have hK2:=hK1;simp only[bC,cW,cU,eL,fW,eA,eM,lY,jJ]at hK1⊢;clear f2 c2 hnext;generalize hqq:iB p a x k=q at*;have W:=aA hk1 (aA hg (aA hlt Gf));refine we ?_;refine hK2 _ ⟨k+1,by omega⟩ ?_ (by simp only;omega);simp only[oF];exact aK (by simp[lY,jJ,oF]) (by simp)
  .simp only[AD]at Gf;by_cases hto:p.aC[k].to=a
   .rw [eK hto]at hnext;generalize hq':iP (iB p a x k) k x=q' at*;have hK2:=hK1;simp only[bC,cW,cU,eL,fW,eA,eM,lY,jJ]at hK1⊢;clear hq' f2;generalize hqq:iB p a x k=q at*;simp only[aJ,bF]at c2;have W:=aA hk1 (aA hg (aA hlt (aA Gf hto)));have c0:=oG a a;refine we ?_;refine hK2 _ ⟨k+1,by omega⟩ ?_ (by simp only;omega);simp only[hnext];exact UA (q0:=q) (q:=q') rfl (by simp[lY,jJ,hnext]) (by simp[DN]) (by simp[DN]) (by simp) (by simp) (by simp)
   .rw [cY hto]at hnext;have hK2:=hK1;simp only[bC,cW,cU,eL,fW,eA,eM,lY,jJ]at hK1⊢;clear f2 c2;generalize hqq:iB p a x k=q at*;have W:=aA hk1 (aA hg (aA hlt (aA Gf hto)));have c0:=oG p.aC[k].to a;refine we ?_;all_goals first
     |exact absurd (by assumption) hto
     |exact hK2 _ ⟨k+1,by omega⟩ (by simp only[hnext];exact aK (by simp[lY,jJ,hnext]) (by simp)) (by simp only;omega)
 .have htk:k=p.aC.length:=by omega
  subst htk;simp only[bC,cW,cU,eL,fW,eA,eM,lY,jJ]at hK1⊢;generalize iB p a x p.aC.length=q at*;clear KN f2 c2 hK1;have W:=hk1;refine we ?_;exact aF results81
def iZ(p:aI)(m:dX)(x:bA):dX:={m with done:=true,code:=dS p.bD (eQ p m) x,body:=jI p.bD (eQ p m) x}
def kZ(q:aI)(l:List aD):aI:=l.foldl eT q
def MN(p:aI)(a:aD)(x:bA)(k:Nat)(m:dX):aI:=kZ {p with aO:=p.aO.set k (iZ p m x)} (iO {p with aO:=p.aO.set k (iZ p m x)} a)
def jV(p:aI)(a:aD)(x:bA):aI:=
 if qO (kW a) p.aO<0 then p else match p.aO[(qO (kW a) p.aO).toNat]? with
 |some m=>if m.done=true then p else MN p a x (qO (kW a) p.aO).toNat m
 |none=>p
theorem FC{p:aI}{a:aD}{x:bA}(h:qO (kW a) p.aO= -1):jV p a x=p:=by unfold jV;rw[h];rfl
theorem FD{p:aI}{a:aD}{x:bA}{k:Nat}{m:dX}(h:qO (kW a) p.aO=(k:Int))(hg:p.aO[k]? =some m)(hd:m.done=true):jV p a x=p:=by unfold jV;rw[h,cY (by omega),mA,hg];simp[hd]
theorem IL{p:aI}{a:aD}{x:bA}{k:Nat}{m:dX}(h:qO (kW a) p.aO=(k:Int))(hg:p.aO[k]? =some m)(hd:m.done=false):jV p a x=MN p a x k m:=by unfold jV;rw[h,cY (by omega),mA,hg];simp[hd]
theorem uw{α:Type}(f:α->Bool)(y:α):∀(l:List α) (k:Nat) (h:k<l.length),f y=true->l.find? f=some l[k]->(∀j (hj:j<k),f (l[j]'(Nat.lt_trans hj h))=false)->(l.set k y).find? f=some y
 |[],k,h,_,_,_=>by simp at h
 |z::l,0,h,hy,_,_=>by simp[hy]
 |z::l,k+1,h,hy,hf,hn=>by have hz:f z=false:=hn 0 (by omega);rw[cW,find?_cons,hz];rw[find?_cons,hz]at hf;exact uw f y l k (by simpa using h) hy (by simpa using hf) (λj hj=>by have:=hn (j+1) (by omega);simpa using this)
theorem aP9{α:Type}{f:α->Bool}{l:List α}{k:Nat}(h:qO f l=(k:Int))(hk:k<l.length):f l[k]=true/\∀j (hj:j<k),f (l[j]'(Nat.lt_trans hj hk))=false:=by
 unfold qO at h;split at h
 .rename_i ha;have hk2:l.findIdx f=k:=by omega
  rw[findIdx_eq hk]at hk2;exact hk2
 .omega
theorem HZ{p:aI}{a:aD}{x:bA}{k:Nat}(h:qO (kW a) p.aO=(k:Int))(hk:k<p.aO.length)(hf:p.aO.find? (kW a)=some p.aO[k]):(p.aO.set k (iZ p p.aO[k] x)).find? (kW a)=some (iZ p p.aO[k] x):=by obtain⟨h1,h2⟩:=aP9 h hk;exact uw _ _ _ _ hk (by simp only[kW]at h1⊢;exact h1) hf h2
theorem aA1{α:Type}(f:α->Nat)(c:Nat):∀(l:List α) (i:Nat) (y:α) (h:i<l.length),f y<=f l[i]+c->aY f (l.set i y)<=aY f l+c
 |[],i,y,h,_=>by simp at h
 |z::l,0,y,h,hs=>by simp only[cU,aY,getElem_cons_zero]at hs⊢;omega
 |z::l,i+1,y,h,hs=>by have:=aA1 f c l i y (by simpa using h) (by simpa using hs);simp only[cW,aY];omega
theorem ZE(p:aI)(k:Nat)(hk:k<p.aO.length)(x:bA):aL {p with aO:=p.aO.set k (iZ p p.aO[k] x)}<=aL p+400:=by have hb:=EA p.bD (eQ p p.aO[k]) x;have h:=aA1 bL 400 p.aO k (iZ p p.aO[k] x) hk (by simp only[bL,iZ];omega);simp only[aL,bP,length_set];omega
theorem UD(N:Nat):∀(l:List aD) (q:aI),(∀x∈l,aQ x<=N)->aL (kZ q l)<=aL q+l.length*(N+1)
 |[],q,_=>by simp[kZ]
 |b::l,q,h=>by have h1:=UD N l (eT q b) (λx hx=>h x (by simp[hx]));have h2:=aP5 q b;have h3:=h b (by simp);simp only[kZ,foldl_cons,eN,AN]at h1⊢;omega
theorem PY(q:aI)(l:List aD)(b:aD):kZ q (l++[b])=eT (kZ q l) b:=by simp[kZ]
theorem aId(s b:bB):aQ (bY s b).1<=16:=by
 unfold bY;split
 .rename_i h;simp only[pG,cZ,eI,fN]at h;simp only[aQ];omega
 .simp [aQ,xD]
theorem uy(base:bB):∀(ps:List bB) (l:List aD) (r:List bB),oP base ps=some (l,r)->∀b∈l,aQ b<=16
 |[],l,r,h=>by simp only[oP,eE,oX]at h;obtain⟨rfl,_⟩:=h;simp
 |p::ps,l,r,h=>by
  simp only[oP]at h;split at h
  .split at h
   .cases hq:oP base ps with
    |none=>rw[hq]at h;simp at h
    |some q=>
     rw[hq]at h;simp only[mT,eE,oX]at h;obtain⟨rfl,_⟩:=h;intro b hb;rcases gS.1 hb with rfl|hb
     .exact aId _ _
     .exact uy base ps q.1 q.2 (by rw[hq]) b hb
   .cases h
  .simp only[eE,oX]at h;obtain⟨rfl,_⟩:=h;simp
theorem aIe(s b:bB):∀a∈(bH s b).1,aQ a<=16:=by
 unfold bH;split
 .simp
 .rename_i l r h;split
  .exact uy b _ l r h
  .simp
theorem aIf(q:aI)(a:aD):∀b∈iO q a,aQ b<=16:=by
 unfold iO;split
 .split
  .exact aIe _ _
  .simp
 .simp
def rC:List (Nat×Nat):=[(4,20),(5,21),(6,22),(7,23),(8,24),(9,25),(10,26),(11,27),(12,28),(13,29),(14,30)]
theorem Q3{t t':List AV}{o o':List aN}{o0 o1 o2 o3 m0 m1 m2 e0:aN}{q0 q:aI}(ho:o=[o0,o1,o2,o3]++lY q0++[⟨true,true,22,0,[jJ 20 q]⟩,m0,m1,m2,e0]++lY q)(ho':o'=[o0,o1,o2,o3]++lY q++[⟨true,true,22,0,[jJ 4 q]⟩,m0,m1,m2])
  (ht:∀z∈rC,wk (rP z.1 z.2 t') t') (hf:∀z∈rC,o0.lV z.1 z.2=o0/\o1.lV z.1 z.2=o1/\o2.lV z.1 z.2=o2/\o3.lV z.1 z.2=o3/\m0.lV z.1 z.2=m0/\m1.lV z.1 z.2=m1/\m2.lV z.1 z.2=m2) (hw:wk t t') (hc:eP 19 t'=true) (hc0:dB 19 [o0,o1,o2,o3,m0,m1,m2]=true):lC ⟨t,o⟩ ⟨t',o'⟩:=by
 subst ho;subst ho';have e:=λi j (h:(i,j)∈rC)=>hf (i,j) h
 have h:=λi j (h:(i,j)∈rC)=>ht (i,j) h
 simp only[lY,jJ,eA,eM];refine(wN hw).trans ?_;refine(aS 4 20 rfl rfl ⟨rfl,rfl⟩ (by simp[(e 4 20 (by decide))];rfl) (h 4 20 (by decide))).trans ?_;refine(aS 5 21 rfl rfl ⟨rfl,rfl⟩ (by simp[(e 5 21 (by decide))];rfl) (h 5 21 (by decide))).trans ?_;refine(aS 6 22 rfl rfl ⟨rfl,rfl⟩ (by simp[(e 6 22 (by decide))];rfl) (h 6 22 (by decide))).trans ?_;refine(aS 7 23 rfl rfl ⟨rfl,rfl⟩ (by simp[(e 7 23 (by decide))];rfl) (h 7 23 (by decide))).trans ?_;refine(aS 8 24 rfl rfl ⟨rfl,rfl⟩ (by simp[(e 8 24 (by decide))];rfl) (h 8 24 (by decide))).trans ?_;refine(aS 9 25 rfl rfl ⟨rfl,rfl⟩ (by simp[(e 9 25 (by decide))];rfl) (h 9 25 (by decide))).trans ?_;refine(aS 10 26 rfl rfl ⟨rfl,rfl⟩ (by simp[(e 10 26 (by decide))];rfl) (h 10 26 (by decide))).trans ?_;refine(aS 11 27 rfl rfl ⟨rfl,rfl⟩ (by simp[(e 11 27 (by decide))];rfl) (h 11 27 (by decide))).trans ?_;refine(aS 12 28 rfl rfl ⟨rfl,rfl⟩ (by simp[(e 12 28 (by decide))];rfl) (h 12 28 (by decide))).trans ?_;refine(aS 13 29 rfl rfl ⟨rfl,rfl⟩ (by simp[(e 13 29 (by decide))];rfl) (h 13 29 (by decide))).trans ?_;refine(aS 14 30 rfl rfl ⟨rfl,rfl⟩ (by simp[(e 14 30 (by decide))];rfl) (h 14 30 (by decide))).trans ?_;refine aT 19 (by simp) (lK _) hc ?_;simpa [dB,eP,closed]using hc0
theorem KO{q:aI}{a:aD}{m:dX}(hf:q.aO.find? (kW a)=some m):iO q a=if m.done=true/\m.code=1 then(bH m.body a.host).1 else []:=by unfold iO;rw[hf]
theorem PZ{q:aI}{a:aD}{m:dX}(hf:q.aO.find? (kW a)=some m)(hb:m.body.length<=400):(iO q a).length<=57/\∀b∈iO q a,aQ b<=16:=by
 refine⟨?_,aIf q a⟩;rw[KO hf];split
 .obtain ⟨h1,_,h3⟩:=yY m.body a.host;omega
 .simp
theorem Qa{q:aI}{l:List aD}(h0:aL q<=536871424)(h1:l.length<=57)(h2:∀b∈l,aQ b<=16)(i:Nat):aL (kZ q (l.take i))<=536872448:=by
 have h:=UD 16 (l.take i) q (λx hx=>h2 x (sE hx));have h3:(l.take i).length<=57:=by rw[oT];omega
 have h4:=lE (16+1) h3;omega
theorem MO[aB prog][bQ prog][dM prog](p:aI)(a:aD)(x:bA)(hs:aL p<=536870912/\aQ a<=536870912)(hx:bG x<=1048576):Ok prog 171 [.agg (aJ .view p),.agg (aH a),.agg (bF x)] (.agg (aJ .own (jV p a x))):=by
 have hs1:=hs.1;have Nn:p.aO.length<=536870912:=by simp only[aL,bP]at hs1;omega
 have Hq:eF p.bD<=274877906944:=by simp only[aL]at hs1;omega
 have c1:=iI p (by omega);have c2:=yX p a (by omega);rcases lT (kW a) p.aO with⟨hi,hf⟩|⟨k,hk,hi,hf⟩
 .rw [FC hi];rw[hi]at c2;simp only[aJ,aH]at c1 c2;refine bM aG func171 ntmps171 ?_;refine aZ ?_;exact aF results171
 .have hg:=aE hk;rw[hi]at c2;have hk0:¬((k:Nat):Int)<0:=by omega
  cases hd:p.aO[k].done
  .rw [IL hi hg hd];have cR:=vB p k (by omega) (by omega) (by omega);have e:pJ p (k:Int)=eQ p p.aO[k]:=by simp[pJ,hg]
   rw[e]at cR;have hrq:jQ (eQ p p.aO[k])<=1073741824:=by have hm:=bS bL (fS hk);simp only[bL]at hm;simp only[jQ,eQ,eV];simp only[aL,bP,aQ]at hs1 hm⊢;omega
   have c3:=vX p.bD (eQ p p.aO[k]) x Hq (by omega) hx;have c4:=Dz p.bD (eQ p p.aO[k]) x Hq (by omega) hx;simp only[aJ,dD]at cR;simp only[bN,dD,bF]at c3 c4;simp only[aJ,aH]at c1 c2;clear e;have FH:=HZ (x:=x) hi hk hf;have hqs:=ZE p k hk x;have hub:=EA p.bD (eQ p p.aO[k]) x;have hset:(p.aO.map eY).set k [.str p.aO[k].to.host,.str p.aO[k].to.path,.bool true,.int .i64 (dS p.bD (eQ p p.aO[k]) x),.str (jI p.bD (eQ p p.aO[k]) x)]=(p.aO.set k (iZ p p.aO[k] x)).map eY:=by rw[map_set];rfl
   have hg3:(p.aO.set k (iZ p p.aO[k] x))[k]? =some (iZ p p.aO[k] x):=by rw[mN hk]
   unfold MN;have hfm:(iZ p p.aO[k] x).done=true/\(iZ p p.aO[k] x).code=dS p.bD (eQ p p.aO[k]) x/\(iZ p p.aO[k] x).body=jI p.bD (eQ p p.aO[k]) x:=⟨rfl,rfl,rfl⟩;have hl3:(p.aO.set k (iZ p p.aO[k] x)).length=p.aO.length:=by simp
   generalize dS p.bD (eQ p p.aO[k]) x=c at*;generalize jI p.bD (eQ p p.aO[k]) x=y at*;generalize eQ p p.aO[k]=rq at*;generalize iZ p p.aO[k] x=m3 at*;generalize p.aO.set k m3=L3 at*;obtain⟨f1,f2,f3⟩:=hfm;have aMg:k<L3.length:=by omega
   have e3:∀h,(L3[k]'h)=m3:=λh=>by rw[aE h]at hg3;exact cQ hg3
   obtain⟨b1,b2⟩:=PZ (q:={p with aO:=L3}) FH (by rw[f3];exact hub);have hv:=KO (q:={p with aO:=L3}) FH;generalize iO {p with aO:=L3} a=L at*;by_cases hc1:c=1
   .rw [eK ⟨f1,by rw[f2];exact hc1⟩,f3]at hv;have cP:=uG y a.host (by omega) (by simp only[aQ]at hs;omega);generalize bH y a.host=u at*;obtain⟨u1,u2,u3⟩:=u;simp only at hv cP;subst hv;subst hc1;refine bM aG func171 ntmps171 ?_;have W:=aA hk0 (aA hg (aA hd (aA hk (aA hset (aA aMg (aA e3 (aA f1 (aA f2 f3))))))));refine we ?_;have W9:aL {p with aO:=L3}<=536871424:=by omega
    have hts:=Qa W9 b1 b2;have Oa:=λi (h:i<L.length)=>show kZ {p with aO:=L3} (L.take (i+1))=eT (kZ {p with aO:=L3} (L.take i)) L[i]by rw[eJ h,PY]
    have h00:kZ {p with aO:=L3} (L.take 0)={p with aO:=L3}:=by simp[kZ]
    have hall:L.length<=1099511627776:=by omega
    refine aM (ι:={k:Nat // k<=L.length}) (λt o i=>⟨bC t [(84,.int .i64 i.1),(14,.undef),(16,.undef),(35,.undef),(37,.undef),(38,.undef),(40,.undef),(47,.undef),(48,.undef),(51,.undef),(60,.undef),(61,.undef),(63,.undef),(65,.undef),(66,.undef),(71,.undef),(73,.undef),(74,.undef)],o.take 4++lY (kZ {p with aO:=L3} (L.take i.1))++[⟨true,true,22,0,[jJ 4 (kZ {p with aO:=L3} (L.take i.1))]⟩]++o.drop 16⟩)
     (λi=>L.length-i.1) ⟨0,by simp⟩ (aK (by simp only[h00];simp[lY,jJ]) (by simp)) ?_
    rintro⟨i,hi2⟩ K1 hK1;have hi1:i64.wrap ((i:Int)+1)=((i+1:Nat):Int):=by rw[wrap64]<;>omega
    by_cases hlt:i<L.length
    .have hgi:=aE hlt;have cA:=Ex (kZ {p with aO:=L3} (L.take i)) L[i] (by have:=hts i;omega) (by have:=b2 _ (fS hlt);omega);have hnext:=Oa i hlt;rw[<-hnext]at cA;have hK2:=hK1;simp only[bC,cW,cU,eL,fW,eA,eM,pL,AW,lY,jJ]at hK1⊢;clear Oa h00 hnext hts;generalize hq1:kZ {p with aO:=L3} (L.take i)=q at*;generalize hq2:kZ {p with aO:=L3} (L.take (i+1))=q' at*;simp only[aJ,aH]at cA;have W:=aA hi1 (aA hgi hlt);refine we ?_;refine hK2 _ ⟨i+1,by omega⟩ ?_ (by simp only;omega);simp only[hq2];exact Q3 (q0:=q) (q:=q') rfl (by simp[lY,jJ]) (by simp[rC]) (by simp[rC]) (by simp) (by simp) (by simp)
    .have htk:L.take i=L:=cX (by omega);have hK2:=hK1;simp only[bC,cW,cU,eL,fW,eA,eM,pL,AW,lY,jJ,htk]at hK1⊢;clear Oa h00 hts hK2 hK1;generalize kZ {p with aO:=L3} L=q at*;have W:=aA hi1 hlt;refine we ?_;exact aF results171
   .rw [cY (λh=>hc1 (by rw[<-f2];exact h.2))]at hv
    subst hv;have hnil:kZ {p with aO:=L3} []={p with aO:=L3}:=rfl;rw[hnil];refine bM aG func171 ntmps171 ?_;have W:=aA hk0 (aA hg (aA hd (aA hk (aA hset (aA aMg (aA e3 (aA f1 (aA f2 (aA f3 hc1)))))))));refine we ?_;exact aF results171
  .rw [FD hi hg hd];simp only[aJ,aH]at c1 c2;refine bM aG func171 ntmps171 ?_;have W:=aA hk0 (aA hg (aA hd hk));refine we ?_;exact aF results171
end Go.Proofs.YthddijamfbfibaaGreatDoor
