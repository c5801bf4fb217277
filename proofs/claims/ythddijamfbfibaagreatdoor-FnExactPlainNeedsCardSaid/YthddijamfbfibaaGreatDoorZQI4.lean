/- Proved here: steps towards the statement of this claim. No condition. -/
import Derived.Test.YthddijamfbfibaaGreatDoorZQQ2
set_option linter.all false
set_option maxRecDepth 4000
set_option maxHeartbeats 4000000
namespace Go.Proofs.YthddijamfbfibaaGreatDoor
open Go.Aw Proofs.Tryz List IntKind
theorem Yc{p:aI}{a:aD}{m:dX}(h:p.aO[wU p.aO a]? =some m)(hm:m.to=a):eT p a=p:=by unfold eT;rw[h];simp[hm]
theorem Rn{p:aI}{a:aD}(h:∀m,p.aO[wU p.aO a]? =some m->m.to≠a):eT p a={p with aO:=wJ p a (wU p.aO a)}:=by
 unfold eT;split
 .rename_i m hm;rw[cY (h m hm)]
 .rfl
theorem Ex[aB prog](p:aI)(a:aD)(hs:aL p<=137438953472)(ha:aQ a<=1073741830):Ok prog 229 [.agg (aJ .view p),.agg (aH a)] (.agg (aJ .own (eT p a))):=by
 have c1:=iI p (by omega);have Oa:p.aO.length<=274877906944:=by simp only[aL,bP]at hs;omega
 have Hq:eF p.bD<=274877906944:=by simp only[aL]at hs;omega
 have cc:=λb=>Jb b a
 simp only[aJ]at c1;simp only[aH]at cc;have cK:=wP p.bD ⟨5,a,p.addr.host,[]⟩ (by omega) (by simp only[jQ,eV];simp only[aL,aQ]at hs;omega);simp only[bN,dD]at cK;refine bM aG func229 ntmps229 ?_;refine aZ ?_;refine aM (ι:={k:Nat // k<=p.aO.length/\∀x∈p.aO.take k,kG x.to a<0}) (λt o i=>⟨bC t [(6,.int .i64 i.1)],o⟩)
  (λi=>p.aO.length-i.1) ⟨0,by simp,by simp⟩ aK ?_
 rintro⟨k,hk,hpre⟩ K1 hK1;simp only[bC,cW,cU]at hK1⊢;have hk1:=oQ (k:=k);by_cases hlt:k<p.aO.length
 .have hg:=aE hlt;have c2:=cc p.aO[k].to;by_cases X7:kG p.aO[k].to a<0
  .have hnx:∀x∈p.aO.take (k+1),kG x.to a<0:=by
    intro x hx;rw[eJ hlt,eW]at hx;rcases hx with h|h
    .exact hpre x h
    .simp at h;subst h;exact X7
   have W:=aA hk1 (aA hg (aA hlt X7));refine we ?_;exact hK1 _ ⟨k+1,by omega,hnx⟩ aK (by simp only;omega)
  .have Qp:wU p.aO a=k:=Hw hk hpre (λm hm=>by rw[hg]at hm;obtain rfl:=cQ hm;exact X7)
   by_cases hto:p.aO[k].to=a
   .rw [Yc (by rw[Qp];exact hg) hto];have ce:=oG p.aO[k].to a;rw[tA hto]at ce;simp only[aH]at ce;have W:=aA hk1 (aA hg (aA hlt X7));have c0:=ce;refine we ?_;exact aF results229
   .have DT:∀m,p.aO[wU p.aO a]? =some m->m.to≠a:=λm hm=>by rw[Qp,hg]at hm;obtain rfl:=cQ hm;exact hto
    have ce:=oG p.aO[k].to a;rw[AM hto]at ce;simp only[aH]at ce;rw[Rn DT,Qp];unfold wJ Cr;have hkt:(p.aO.take k).length=k:=by simp;omega
    obtain⟨m0,ou⟩:∃m:dX,m=⟨a,false,0,[]⟩:=⟨_,rfl⟩;obtain⟨L1,qh⟩:∃l,l=p.aO.take k++m0::p.aO.drop k:=⟨_,rfl⟩;obtain⟨L3,hL3⟩:∃l:List dX,l=p.aO.take k++⟨a,true,2,[]⟩::p.aO.drop k:=⟨_,rfl⟩;have VH:L1.length=p.aO.length+1:=by rw[qh];simp;omega
    have hg1:L1[k]? =some m0:=by rw[qh,kO (by omega),hkt];simp
    have aH4:k<L1.length:=by omega
    have cI:=Yb p.aO m0 k hk (by omega);rw[<-qh,ou]at cI;have cR:=vB {p with aO:=L1} k (by omega) (by simp only;omega) (by simp only;omega);rw[show pJ {p with aO:=L1} (k:Int)=⟨5,a,p.addr.host,[]⟩by simp only[pJ,mA,hg1,eQ,ou]]at cR;have hset:∀h,(L1.map eY).set k [.str (L1[k]'h).to.host,.str (L1[k]'h).to.path,.bool true,.int .i64 2,.str (L1[k]'h).body]=L3.map eY:=by
     intro h;have e:L1[k]'h=m0:=by rw[aE h]at hg1;exact cQ hg1
     rw[e,qh,hL3,ou,oY,oY,tI _ _ (by simp;omega),show k-((p.aO.take k).map eY).length=0 by rw[mL,hkt,tR]];simp
    simp only[aJ,dD,eY]at cI cR;by_cases hck:fE p.bD ⟨5,a,p.addr.host,[]⟩=1
    .simp only[hck,gE];rw[<-ou,<-qh];rw[hck]at cK;clear qh hL3 ou;clear hset;have W:=aA hk1 (aA hg (aA hlt X7));have c0:=ce;repeat' first|refine wf ?_|(refine nx ?_;refine sg (hc:=cI) (h:=?_))|(refine sq ?_ ?_<;>intro hc<;>try exact hc.elim)|fail
     have W:=aA aH4 hg1;try refine we ?_
     exact aF results229
    .simp only[hck,hM];rw[<-hL3];clear qh hL3 ou;have W:=aA hk1 (aA hg (aA hlt X7));have c0:=ce;repeat' first|refine wf ?_|(refine nx ?_;refine sg (hc:=cI) (h:=?_))|(refine sq ?_ ?_<;>intro hc<;>try exact hc.elim)|fail
     have W:=aA aH4 (aA hg1 hck);try refine we ?_
     all_goals try(refine aR ?_;simp[aP,results229])
     all_goals exact hset _
 .have Qp:wU p.aO a=k:=Hw hk hpre (λm hm=>by rw[pC (by omega)]at hm;cases hm)
  have DT:∀m,p.aO[wU p.aO a]? =some m->m.to≠a:=λm hm=>by rw[Qp,pC (by omega)]at hm;cases hm
  rw[Rn DT,Qp];unfold wJ Cr;have hkt:(p.aO.take k).length=k:=by simp;omega
  obtain⟨m0,ou⟩:∃m:dX,m=⟨a,false,0,[]⟩:=⟨_,rfl⟩;obtain⟨L1,qh⟩:∃l,l=p.aO.take k++m0::p.aO.drop k:=⟨_,rfl⟩;obtain⟨L3,hL3⟩:∃l:List dX,l=p.aO.take k++⟨a,true,2,[]⟩::p.aO.drop k:=⟨_,rfl⟩;have VH:L1.length=p.aO.length+1:=by rw[qh];simp;omega
  have hg1:L1[k]? =some m0:=by rw[qh,kO (by omega),hkt];simp
  have aH4:k<L1.length:=by omega
  have cI:=Yb p.aO m0 k hk (by omega);rw[<-qh,ou]at cI;have cR:=vB {p with aO:=L1} k (by omega) (by simp only;omega) (by simp only;omega);rw[show pJ {p with aO:=L1} (k:Int)=⟨5,a,p.addr.host,[]⟩by simp only[pJ,mA,hg1,eQ,ou]]at cR;have hset:∀h,(L1.map eY).set k [.str (L1[k]'h).to.host,.str (L1[k]'h).to.path,.bool true,.int .i64 2,.str (L1[k]'h).body]=L3.map eY:=by
   intro h;have e:L1[k]'h=m0:=by rw[aE h]at hg1;exact cQ hg1
   rw[e,qh,hL3,ou,oY,oY,tI _ _ (by simp;omega),show k-((p.aO.take k).map eY).length=0 by rw[mL,hkt,tR]];simp
  simp only[aJ,dD,eY]at cI cR;by_cases hck:fE p.bD ⟨5,a,p.addr.host,[]⟩=1
  .simp only[hck,gE];rw[<-ou,<-qh];rw[hck]at cK;clear qh hL3 ou;clear hset;have W:=aA hk1 hlt;repeat' first|refine wf ?_|(refine nx ?_;refine sg (hc:=cI) (h:=?_))|(refine sq ?_ ?_<;>intro hc<;>try exact hc.elim)|fail
   have W:=aA aH4 hg1;try refine we ?_
   exact aF results229
  .simp only[hck,hM];rw[<-hL3];clear qh hL3 ou;have W:=aA hk1 hlt;repeat' first|refine wf ?_|(refine nx ?_;refine sg (hc:=cI) (h:=?_))|(refine sq ?_ ?_<;>intro hc<;>try exact hc.elim)|fail
   have W:=aA aH4 (aA hg1 hck);try refine we ?_
   all_goals try(refine aR ?_;simp[aP,results229])
   all_goals exact hset _
theorem Mo(l:List dX)(k:Nat):List.drop k (List.take l.length (map eY l))=List.drop k (map eY l):=by rw[cX (by simp)]
theorem IJ(l:List dX)(a:aD)(k:Nat)(d:Bool)(c:Int):iY (List.take k (map eY l)++[.str a.host,.str a.path,.bool d,.int .i64 c,.str []]::List.drop k (map eY l))=true:=by
 have e:List.take k (map eY l)++[.str a.host,.str a.path,.bool d,.int .i64 c,.str []]::List.drop k (map eY l)=(l.take k++⟨a,d,c,[]⟩::l.drop k).map eY:=by simp
 rw[e];exact VS _
theorem Ey[aB prog](p:aI)(a:aD)(hs:aL p<=137438953472)(ha:aQ a<=1073741830):Ok prog 137 [.agg (aJ .view p),.agg (aH a)] (.agg (aJ .own (eT p a))):=by
 have c1:=gK p (by omega);have Oa:p.aO.length<=274877906944:=by simp only[aL,bP]at hs;omega
 have Hq:eF p.bD<=274877906944:=by simp only[aL]at hs;omega
 have cc:=λb=>Bq b a
 have cK:=wO p.bD ⟨5,a,p.addr.host,[]⟩ (by omega) (by simp only[jQ,eV];simp only[aL,aQ]at hs;omega);simp only[bN,dD]at cK;simp only[aJ]at c1;simp only[aH]at cc;refine bM aG func137 ntmps137 ?_;have W:=trivial;repeat' first|refine st ?_|(refine nx ?_;first|refine sz ?_|refine so ?_)|(refine cx ?_;refine sc (λhc=>?_) (λhc=>?_)<;>try exact hc.elim)|(refine lx ?_;refine sp (λhc=>?_) (λhc=>?_)<;>try exact hc.elim)|refine sx ?_ ?_|refine sy ?_ ?_|fail
 refine aM (ι:={k:Nat // k<=p.aO.length/\∀x∈p.aO.take k,kG x.to a<0}) (λt o i=>⟨bC t [(6,.int .i64 i.1)],o⟩)
  (λi=>p.aO.length-i.1) ⟨0,by simp,by simp⟩ aK ?_
 rintro⟨k,hk,hpre⟩ K1 hK1;simp only[bC,cW,cU]at hK1⊢;have hk1:=oQ (k:=k);by_cases hlt:k<p.aO.length
 .have hg:=aE hlt;have c2:=cc p.aO[k].to;by_cases X7:kG p.aO[k].to a<0
  .have hnx:∀x∈p.aO.take (k+1),kG x.to a<0:=by
    intro x hx;rw[eJ hlt,eW]at hx;rcases hx with h|h
    .exact hpre x h
    .simp at h;subst h;exact X7
   have W:=aA hk1 (aA hg (aA hlt X7));repeat' first|refine st ?_|(refine nx ?_;first|refine sz ?_|refine so ?_)|(refine cx ?_;refine sc (λhc=>?_) (λhc=>?_)<;>try exact hc.elim)|(refine lx ?_;refine sp (λhc=>?_) (λhc=>?_)<;>try exact hc.elim)|refine sx ?_ ?_|refine sy ?_ ?_|fail
   exact hK1 _ ⟨k+1,by omega,hnx⟩ aK (by simp only;omega)
  .have Qp:wU p.aO a=k:=Hw hk hpre (λm hm=>by rw[hg]at hm;obtain rfl:=cQ hm;exact X7)
   by_cases hto:p.aO[k].to=a
   .rw [Yc (by rw[Qp];exact hg) hto];have ce:=oG p.aO[k].to a;rw[tA hto]at ce;simp only[aH]at ce;have W:=aA hk1 (aA hg (aA hlt X7));have c0:=ce;repeat' first|refine st ?_|(refine nx ?_;first|refine sz ?_|refine so ?_)|(refine cx ?_;refine sc (λhc=>?_) (λhc=>?_)<;>try exact hc.elim)|(refine lx ?_;refine sp (λhc=>?_) (λhc=>?_)<;>try exact hc.elim)|refine sx ?_ ?_|refine sy ?_ ?_|fail
    exact aF results137
   .have DT:∀m,p.aO[wU p.aO a]? =some m->m.to≠a:=λm hm=>by rw[Qp,hg]at hm;obtain rfl:=cQ hm;exact hto
    have ce:=oG p.aO[k].to a;rw[AM hto]at ce;simp only[aH]at ce;rw[Rn DT,Qp];unfold wJ Cr;by_cases hck:fE p.bD ⟨5,a,p.addr.host,[]⟩=1
    .simp only[hck,gE];rw[hck]at cK;have W:=aA hk1 (aA hg (aA hlt (aA X7 hk)));have c0:=ce;repeat' first|refine st ?_|(refine nx ?_;first|refine sz ?_|refine so ?_)|(refine cx ?_;refine sc (λhc=>?_) (λhc=>?_)<;>try exact hc.elim)|(refine lx ?_;refine sp (λhc=>?_) (λhc=>?_)<;>try exact hc.elim)|refine sx ?_ ?_|refine sy ?_ ?_|fail
     all_goals try(refine aR ?_;simp[aP,results137])
     all_goals exact⟨Mo p.aO k,IJ p.aO a k _ _⟩
    .simp only[hck,hM];have W:=aA hk1 (aA hg (aA hlt (aA X7 (aA hk hck))));have c0:=ce;repeat' first|refine st ?_|(refine nx ?_;first|refine sz ?_|refine so ?_)|(refine cx ?_;refine sc (λhc=>?_) (λhc=>?_)<;>try exact hc.elim)|(refine lx ?_;refine sp (λhc=>?_) (λhc=>?_)<;>try exact hc.elim)|refine sx ?_ ?_|refine sy ?_ ?_|fail
     all_goals try(refine aR ?_;simp[aP,results137])
     all_goals exact⟨Mo p.aO k,IJ p.aO a k _ _⟩
 .have Qp:wU p.aO a=k:=Hw hk hpre (λm hm=>by rw[pC (by omega)]at hm;cases hm)
  have DT:∀m,p.aO[wU p.aO a]? =some m->m.to≠a:=λm hm=>by rw[Qp,pC (by omega)]at hm;cases hm
  rw[Rn DT,Qp];unfold wJ Cr;by_cases hck:fE p.bD ⟨5,a,p.addr.host,[]⟩=1
  .simp only[hck,gE];rw[hck]at cK;have W:=aA hk1 (aA hlt hk);repeat' first|refine st ?_|(refine nx ?_;first|refine sz ?_|refine so ?_)|(refine cx ?_;refine sc (λhc=>?_) (λhc=>?_)<;>try exact hc.elim)|(refine lx ?_;refine sp (λhc=>?_) (λhc=>?_)<;>try exact hc.elim)|refine sx ?_ ?_|refine sy ?_ ?_|fail
   all_goals try(refine aR ?_;simp[aP,results137])
   all_goals exact⟨Mo p.aO k,IJ p.aO a k _ _⟩
  .simp only[hck,hM];have W:=aA hk1 (aA hlt (aA hk hck));repeat' first|refine st ?_|(refine nx ?_;first|refine sz ?_|refine so ?_)|(refine cx ?_;refine sc (λhc=>?_) (λhc=>?_)<;>try exact hc.elim)|(refine lx ?_;refine sp (λhc=>?_) (λhc=>?_)<;>try exact hc.elim)|refine sx ?_ ?_|refine sy ?_ ?_|fail
   all_goals try(refine aR ?_;simp[aP,results137])
   all_goals exact⟨Mo p.aO k,IJ p.aO a k _ _⟩
end Go.Proofs.YthddijamfbfibaaGreatDoor
