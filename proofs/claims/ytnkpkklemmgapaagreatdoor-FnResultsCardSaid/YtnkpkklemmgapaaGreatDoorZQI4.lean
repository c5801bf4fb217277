/- Proved here: steps towards the statement of this claim. No condition. -/
import Derived.Test.YtnkpkklemmgapaaGreatDoorZQT1
import Derived.Test.YtnkpkklemmgapaaGreatDoorZQQ2
set_option linter.all false
set_option maxRecDepth 4000
set_option maxHeartbeats 4000000
namespace Go.Proofs.YtnkpkklemmgapaaGreatDoor
open Go.Aw Proofs.Tryz List IntKind
theorem K9{p:aC}{a:aK}{m:fO}(h:p.aN[yQ p.aN a]? =some m)(hm:m.to=a):fB p a=p:=by unfold fB;rw[h];simp[hm]
theorem xx{p:aC}{a:aK}(h:∀m,p.aN[yQ p.aN a]? =some m->m.to≠a):fB p a={p with aN:=wP p a (yQ p.aN a)}:=by
 unfold fB;split
 .rename_i m hm;rw[eK (h m hm)]
 .rfl
theorem Ki(l:List fO)(k:Nat):List.drop k (List.take l.length (map lT l))=List.drop k (map lT l):=by rw[eJ (by simp)]
theorem Gc(l:List fO)(a:aK)(k:Nat)(d:Bool)(c:Int):jC (List.take k (map lT l)++[.str a.host,.str a.path,.bool d,.int .i64 c,.str []]::List.drop k (map lT l))=true:=by
 have e:List.take k (map lT l)++[.str a.host,.str a.path,.bool d,.int .i64 c,.str []]::List.drop k (map lT l)=(l.take k++⟨a,d,c,[]⟩::l.drop k).map lT:=by simp
 rw[e];exact RV _
theorem Ct[aB prog](p:aC)(a:aK)(hs:aM p<=137438953472)(ha:aP a<=1073741830):Ok prog 161 [.agg (aQ .view p),.agg (bC a)] (.agg (aQ .own (fB p a))):=by
 have c1:=fQ p (by omega);have ZO:p.aN.length<=274877906944:=by simp only[aM,bV]at hs;omega
 have Yt:gF p.bM<=274877906944:=by simp only[aM]at hs;omega
 have cc:=λb=>Gq b a
 have cK:=uM p.bM ⟨5,a,p.addr.host,[]⟩ (by omega) (by simp only[qK,eR];simp only[aM,aP]at hs;omega);simp only[dK,gW]at cK;simp only[aQ]at c1;simp only[bC]at cc;refine dL aO func161 ntmps161 ?_;have W:=trivial;repeat' first|refine st ?_|(refine nx ?_;first|refine sz ?_|refine so ?_)|(refine cx ?_;refine sc (λhc=>?_) (λhc=>?_)<;>try exact hc.elim)|(refine lx ?_;refine sp (λhc=>?_) (λhc=>?_)<;>try exact hc.elim)|refine sx ?_ ?_|refine sy ?_ ?_|fail
 refine aI (ι:={k:Nat // k<=p.aN.length/\∀x∈p.aN.take k,zT x.to a<0}) (λt o i=>⟨bH t [(6,.int .i64 i.1)],o⟩)
  (λi=>p.aN.length-i.1) ⟨0,by simp,by simp⟩ aG ?_
 rintro⟨k,hk,hpre⟩ K1 hK1;simp only[bH,cH,cJ]at hK1⊢;have hk1:=rE (k:=k);by_cases hlt:k<p.aN.length
 .have hg:=aE hlt;have c2:=cc p.aN[k].to;by_cases hcm:zT p.aN[k].to a<0
  .have hnx:∀x∈p.aN.take (k+1),zT x.to a<0:=by
    intro x hx;rw[eL hlt,fS]at hx;rcases hx with h|h
    .exact hpre x h
    .simp at h;subst h;exact hcm
   have W:=aA hk1 (aA hg (aA hlt hcm));repeat' first|refine st ?_|(refine nx ?_;first|refine sz ?_|refine so ?_)|(refine cx ?_;refine sc (λhc=>?_) (λhc=>?_)<;>try exact hc.elim)|(refine lx ?_;refine sp (λhc=>?_) (λhc=>?_)<;>try exact hc.elim)|refine sx ?_ ?_|refine sy ?_ ?_|fail
   exact hK1 _ ⟨k+1,by omega,hnx⟩ aG (by simp only;omega)
  .have Us:yQ p.aN a=k:=Qi hk hpre (λm hm=>by rw[hg]at hm;obtain rfl:=cU hm;exact hcm)
   by_cases hto:p.aN[k].to=a
   .rw [K9 (by rw[Us];exact hg) hto];have ce:=Di p.aN[k].to a;rw[Bm hto]at ce;simp only[bC]at ce;have W:=aA hk1 (aA hg (aA hlt hcm));have c0:=ce;repeat' first|refine st ?_|(refine nx ?_;first|refine sz ?_|refine so ?_)|(refine cx ?_;refine sc (λhc=>?_) (λhc=>?_)<;>try exact hc.elim)|(refine lx ?_;refine sp (λhc=>?_) (λhc=>?_)<;>try exact hc.elim)|refine sx ?_ ?_|refine sy ?_ ?_|fail
    exact aR results161
   .have Rt:∀m,p.aN[yQ p.aN a]? =some m->m.to≠a:=λm hm=>by rw[Us,hg]at hm;obtain rfl:=cU hm;exact hto
    have ce:=Di p.aN[k].to a;rw[decide_eq_false hto]at ce;simp only[bC]at ce;rw[xx Rt,Us];unfold wP Dj;by_cases hck:iW p.bM ⟨5,a,p.addr.host,[]⟩=1
    .simp only[hck,eV];rw[hck]at cK;have W:=aA hk1 (aA hg (aA hlt (aA hcm hk)));have c0:=ce;repeat' first|refine st ?_|(refine nx ?_;first|refine sz ?_|refine so ?_)|(refine cx ?_;refine sc (λhc=>?_) (λhc=>?_)<;>try exact hc.elim)|(refine lx ?_;refine sp (λhc=>?_) (λhc=>?_)<;>try exact hc.elim)|refine sx ?_ ?_|refine sy ?_ ?_|fail
     all_goals try(refine aZ ?_;simp[aX,results161])
     all_goals exact⟨Ki p.aN k,Gc p.aN a k _ _⟩
    .simp only[hck,eS];have W:=aA hk1 (aA hg (aA hlt (aA hcm (aA hk hck))));have c0:=ce;repeat' first|refine st ?_|(refine nx ?_;first|refine sz ?_|refine so ?_)|(refine cx ?_;refine sc (λhc=>?_) (λhc=>?_)<;>try exact hc.elim)|(refine lx ?_;refine sp (λhc=>?_) (λhc=>?_)<;>try exact hc.elim)|refine sx ?_ ?_|refine sy ?_ ?_|fail
     all_goals try(refine aZ ?_;simp[aX,results161])
     all_goals exact⟨Ki p.aN k,Gc p.aN a k _ _⟩
 .have Us:yQ p.aN a=k:=Qi hk hpre (λm hm=>by rw[pP (by omega)]at hm;cases hm)
  have Rt:∀m,p.aN[yQ p.aN a]? =some m->m.to≠a:=λm hm=>by rw[Us,pP (by omega)]at hm;cases hm
  rw[xx Rt,Us];unfold wP Dj;by_cases hck:iW p.bM ⟨5,a,p.addr.host,[]⟩=1
  .simp only[hck,eV];rw[hck]at cK;have W:=aA hk1 (aA hlt hk);repeat' first|refine st ?_|(refine nx ?_;first|refine sz ?_|refine so ?_)|(refine cx ?_;refine sc (λhc=>?_) (λhc=>?_)<;>try exact hc.elim)|(refine lx ?_;refine sp (λhc=>?_) (λhc=>?_)<;>try exact hc.elim)|refine sx ?_ ?_|refine sy ?_ ?_|fail
   all_goals try(refine aZ ?_;simp[aX,results161])
   all_goals exact⟨Ki p.aN k,Gc p.aN a k _ _⟩
  .simp only[hck,eS];have W:=aA hk1 (aA hlt (aA hk hck));repeat' first|refine st ?_|(refine nx ?_;first|refine sz ?_|refine so ?_)|(refine cx ?_;refine sc (λhc=>?_) (λhc=>?_)<;>try exact hc.elim)|(refine lx ?_;refine sp (λhc=>?_) (λhc=>?_)<;>try exact hc.elim)|refine sx ?_ ?_|refine sy ?_ ?_|fail
   all_goals try(refine aZ ?_;simp[aX,results161])
   all_goals exact⟨Ki p.aN k,Gc p.aN a k _ _⟩
end Go.Proofs.YtnkpkklemmgapaaGreatDoor
