/- Proved here: steps towards the statement of this claim. No condition. -/
import Derived.Test.YtjkdolejalpflaaGreatDoorZQI3
set_option linter.all false
set_option maxRecDepth 4000
set_option maxHeartbeats 4000000
namespace Go.Proofs.YtjkdolejalpflaaGreatDoor
open Go.Aw Proofs.Tryz List IntKind
theorem Gg(l:List gW)(k:Nat):List.drop k (List.take l.length (map dN l))=List.drop k (map dN l):=by rw[eL (by simp)]
theorem Df(l:List gW)(a:gH)(k:Nat)(d:Bool)(c:Int):iH (List.take k (map dN l)++[.str a.host,.str a.path,.bool d,.int .i64 c,.str []]::List.drop k (map dN l))=true:=by
 have e:List.take k (map dN l)++[.str a.host,.str a.path,.bool d,.int .i64 c,.str []]::List.drop k (map dN l)=(l.take k++⟨a,d,c,[]⟩::l.drop k).map dN:=by simp
 rw[e];exact Nl _
theorem HY[aB prog](p:aW)(a:gH)(hs:aK p<=137438953472)(ha:eB a<=1073741830):Ok prog 123 [.agg (aL .view p),.agg (dI a)] (.agg (aL .own (jN p a))):=by
 have c1:=gZ p (by omega);have X0:p.bT.length<=274877906944:=by simp only[aK,dL]at hs;omega
 have TL:dD p.bC<=274877906944:=by simp only[aK]at hs;omega
 have cc:=λb=>Dr b a
 have cK:=rC p.bC ⟨5,a,p.addr.host,[]⟩ (by omega) (by simp only[lF,eR];simp only[aK,eB]at hs;omega);simp only[bG,fV]at cK;simp only[aL]at c1;simp only[dI]at cc;refine dA aJ func123 ntmps123 ?_;have W:=trivial;repeat' first|refine st ?_|(refine nx ?_;first|refine sz ?_|refine so ?_)|(refine cx ?_;refine sc (λhc=>?_) (λhc=>?_)<;>try exact hc.elim)|(refine lx ?_;refine sp (λhc=>?_) (λhc=>?_)<;>try exact hc.elim)|refine sx ?_ ?_|refine sy ?_ ?_|fail
 refine aY (ι:={k:Nat // k<=p.bT.length/\∀x∈p.bT.take k,qB x.to a<0}) (λt o i=>⟨bN t [(6,.int .i64 i.1)],o⟩)
  (λi=>p.bT.length-i.1) ⟨0,by simp,by simp⟩ aC ?_
 rintro⟨k,hk,hpre⟩ K1 hK1;simp only[bN,cH,cG]at hK1⊢;have hk1:=vJ (k:=k);by_cases hlt:k<p.bT.length
 .have hg:=aE hlt;have c2:=cc p.bT[k].to;by_cases WR:qB p.bT[k].to a<0
  .have hnx:∀x∈p.bT.take (k+1),qB x.to a<0:=by
    intro x hx;rw[eN hlt,fR]at hx;rcases hx with h|h
    .exact hpre x h
    .simp at h;subst h;exact WR
   have W:=aA hk1 (aA hg (aA hlt WR));repeat' first|refine st ?_|(refine nx ?_;first|refine sz ?_|refine so ?_)|(refine cx ?_;refine sc (λhc=>?_) (λhc=>?_)<;>try exact hc.elim)|(refine lx ?_;refine sp (λhc=>?_) (λhc=>?_)<;>try exact hc.elim)|refine sx ?_ ?_|refine sy ?_ ?_|fail
   exact hK1 _ ⟨k+1,by omega,hnx⟩ aC (by simp only;omega)
  .have VS:vO p.bT a=k:=Cs hk hpre (λm hm=>by rw[hg]at hm;obtain rfl:=cD hm;exact WR)
   by_cases hto:p.bT[k].to=a
   .rw [Pm (by rw[VS];exact hg) hto];have ce:=Bf p.bT[k].to a;rw[pP hto]at ce;simp only[dI]at ce;have W:=aA hk1 (aA hg (aA hlt WR));have c0:=ce;repeat' first|refine st ?_|(refine nx ?_;first|refine sz ?_|refine so ?_)|(refine cx ?_;refine sc (λhc=>?_) (λhc=>?_)<;>try exact hc.elim)|(refine lx ?_;refine sp (λhc=>?_) (λhc=>?_)<;>try exact hc.elim)|refine sx ?_ ?_|refine sy ?_ ?_|fail
    exact aO results123
   .have hno:∀m,p.bT[vO p.bT a]? =some m->m.to≠a:=λm hm=>by rw[VS,hg]at hm;obtain rfl:=cD hm;exact hto
    have ce:=Bf p.bT[k].to a;rw[sY hto]at ce;simp only[dI]at ce;rw[Kk hno,VS];unfold vC Bh;by_cases hck:fA p.bC ⟨5,a,p.addr.host,[]⟩=1
    .simp only[hck,eI];rw[hck]at cK;have W:=aA hk1 (aA hg (aA hlt (aA WR hk)));have c0:=ce;repeat' first|refine st ?_|(refine nx ?_;first|refine sz ?_|refine so ?_)|(refine cx ?_;refine sc (λhc=>?_) (λhc=>?_)<;>try exact hc.elim)|(refine lx ?_;refine sp (λhc=>?_) (λhc=>?_)<;>try exact hc.elim)|refine sx ?_ ?_|refine sy ?_ ?_|fail
     all_goals try(refine aP ?_;simp[aT,results123])
     all_goals exact⟨Gg p.bT k,Df p.bT a k _ _⟩
    .simp only[hck,eK];have W:=aA hk1 (aA hg (aA hlt (aA WR (aA hk hck))));have c0:=ce;repeat' first|refine st ?_|(refine nx ?_;first|refine sz ?_|refine so ?_)|(refine cx ?_;refine sc (λhc=>?_) (λhc=>?_)<;>try exact hc.elim)|(refine lx ?_;refine sp (λhc=>?_) (λhc=>?_)<;>try exact hc.elim)|refine sx ?_ ?_|refine sy ?_ ?_|fail
     all_goals try(refine aP ?_;simp[aT,results123])
     all_goals exact⟨Gg p.bT k,Df p.bT a k _ _⟩
 .have VS:vO p.bT a=k:=Cs hk hpre (λm hm=>by rw[pH (by omega)]at hm;cases hm)
  have hno:∀m,p.bT[vO p.bT a]? =some m->m.to≠a:=λm hm=>by rw[VS,pH (by omega)]at hm;cases hm
  rw[Kk hno,VS];unfold vC Bh;by_cases hck:fA p.bC ⟨5,a,p.addr.host,[]⟩=1
  .simp only[hck,eI];rw[hck]at cK;have W:=aA hk1 (aA hlt hk);repeat' first|refine st ?_|(refine nx ?_;first|refine sz ?_|refine so ?_)|(refine cx ?_;refine sc (λhc=>?_) (λhc=>?_)<;>try exact hc.elim)|(refine lx ?_;refine sp (λhc=>?_) (λhc=>?_)<;>try exact hc.elim)|refine sx ?_ ?_|refine sy ?_ ?_|fail
   all_goals try(refine aP ?_;simp[aT,results123])
   all_goals exact⟨Gg p.bT k,Df p.bT a k _ _⟩
  .simp only[hck,eK];have W:=aA hk1 (aA hlt (aA hk hck));repeat' first|refine st ?_|(refine nx ?_;first|refine sz ?_|refine so ?_)|(refine cx ?_;refine sc (λhc=>?_) (λhc=>?_)<;>try exact hc.elim)|(refine lx ?_;refine sp (λhc=>?_) (λhc=>?_)<;>try exact hc.elim)|refine sx ?_ ?_|refine sy ?_ ?_|fail
   all_goals try(refine aP ?_;simp[aT,results123])
   all_goals exact⟨Gg p.bT k,Df p.bT a k _ _⟩
end Go.Proofs.YtjkdolejalpflaaGreatDoor
