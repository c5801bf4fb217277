/- Proved here: steps towards the statement of this claim. No condition. -/
import Derived.Test.YtjmpjmilndkgfaaGreatDoorZQQ2
set_option linter.all false
set_option maxRecDepth 4000
set_option maxHeartbeats 4000000
namespace Go.Proofs.YtjmpjmilndkgfaaGreatDoor
open Go.Aw Proofs.Tryz List IntKind
theorem VG {p:aI} {a:aT} {m:dB} (h:p.aN[xY p.aN a]? =some m) (hm:m.to=a):gT p a=p:=by unfold gT;rw [h];simp [hm]
theorem OU {p:aI} {a:aT} (h:∀m,p.aN[xY p.aN a]? =some m->m.to≠a):gT p a={p with aN:=vN p a (xY p.aN a)}:=by
 unfold gT;split
 .rename_i m hm;rw [cY (h m hm)]
 .rfl
theorem Dm [aC prog] (p:aI) (a:aT) (hs:aF p<=137438953472) (ha:aU a<=1073741830):Ok prog 88 [.agg (aJ .view p),.agg (aO a)] (.agg (aJ .own (gT p a))):=by
 have c1:=jC p (by omega);have LM:p.aN.length<=274877906944:=by simp only [aF,bV] at hs;omega
 have FC:eB p.bG<=274877906944:=by simp only [aF] at hs;omega
 have cc:=λb=>Gu b a
 simp only [aJ] at c1;simp only [aO] at cc;have cK:=uV p.bG ⟨5,a,p.addr.host,[]⟩ (by omega) (by simp only [jJ,eW];simp only [aF,aU] at hs;omega);simp only [bM,fE] at cK;refine bR aD func88 ntmps88 ?_;refine bH ?_;refine aL (ι:={k:Nat // k<=p.aN.length/\∀x∈p.aN.take k,sW x.to a < 0}) (λt o i=>⟨bD t [(6,.int .i64 i.1)],o⟩)
  (λi=>p.aN.length - i.1) ⟨0,by simp,by simp⟩ aH ?_
 rintro ⟨k,hk,hpre⟩ K1 hK1;simp only [bD,cW,cU] at hK1⊢;have hk1:=oW (k:=k);by_cases hlt:k < p.aN.length
 .have hg:=aE hlt;have c2:=cc p.aN[k].to;by_cases wh:sW p.aN[k].to a < 0
  .have hnx:∀x∈p.aN.take (k+1),sW x.to a < 0:=by
    intro x hx;rw [eA hlt,fL] at hx;rcases hx with h|h
    .exact hpre x h
    .simp at h;subst h;exact wh
   have W:=aA hk1 (aA hg (aA hlt wh));refine we ?_;exact hK1 _ ⟨k+1,by omega,hnx⟩ aH (by simp only;omega)
  .have LP:xY p.aN a=k:=FH hk hpre (λm hm=>by rw [hg] at hm;obtain rfl:=cQ hm;exact wh)
   by_cases hto:p.aN[k].to=a
   .rw [VG (by rw [LP];exact hg) hto];have ce:=uO p.aN[k].to a;rw [sB hto] at ce;simp only [aO] at ce;have W:=aA hk1 (aA hg (aA hlt wh));have c0:=ce;refine we ?_;exact aK results88
   .have KU:∀m,p.aN[xY p.aN a]? =some m->m.to≠a:=λm hm=>by rw [LP,hg] at hm;obtain rfl:=cQ hm;exact hto
    have ce:=uO p.aN[k].to a;rw [AE hto] at ce;simp only [aO] at ce;rw [OU KU,LP];unfold vN Bz;have hkt:(p.aN.take k).length=k:=by simp;omega
    obtain ⟨m0,Zl⟩:∃m:dB,m=⟨a,false,0,[]⟩:=⟨_,rfl⟩;obtain ⟨L1,qi⟩:∃l,l=p.aN.take k++m0::p.aN.drop k:=⟨_,rfl⟩;obtain ⟨L3,hL3⟩:∃l:List dB,l=p.aN.take k++⟨a,true,2,[]⟩::p.aN.drop k:=⟨_,rfl⟩;have qg:L1.length=p.aN.length+1:=by rw [qi];simp;omega
    have hg1:L1[k]? =some m0:=by rw [qi,hY (by omega),hkt];simp
    have aD6:k < L1.length:=by omega
    have cI:=VF p.aN m0 k hk (by omega);rw [<-qi,Zl] at cI;have cR:=xG {p with aN:=L1} k (by omega) (by simp only;omega) (by simp only;omega);rw [show xE {p with aN:=L1} (k:Int)=⟨5,a,p.addr.host,[]⟩ by simp only [xE,mC,hg1,fF,Zl]] at cR;have hset:∀h,(L1.map bU).set k [.str (L1[k]'h).to.host,.str (L1[k]'h).to.path,.bool true,.int .i64 2,.str (L1[k]'h).body]=L3.map bU:=by
     intro h;have e:L1[k]'h=m0:=by rw [aE h] at hg1;exact cQ hg1
     rw [e,qi,hL3,Zl,rB,rB,sX _ _ (by simp;omega),show k - ((p.aN.take k).map bU).length=0 by rw [lR,hkt,xF]];simp
    simp only [aJ,fE,bU] at cI cR;by_cases hck:fH p.bG ⟨5,a,p.addr.host,[]⟩=1
    .simp only [hck,gE];rw [<-Zl,<-qi];rw [hck] at cK;clear qi hL3 Zl;clear hset;have W:=aA hk1 (aA hg (aA hlt wh));have c0:=ce;repeat' first|refine wf ?_|(refine nx ?_;refine sg (hc:=cI) (h:=?_))|(refine sq ?_ ?_<;>intro hc<;>try exact hc.elim)|fail
     have W:=aA aD6 hg1;try refine we ?_
     exact aK results88
    .simp only [hck,gS];rw [<-hL3];clear qi hL3 Zl;have W:=aA hk1 (aA hg (aA hlt wh));have c0:=ce;repeat' first|refine wf ?_|(refine nx ?_;refine sg (hc:=cI) (h:=?_))|(refine sq ?_ ?_<;>intro hc<;>try exact hc.elim)|fail
     have W:=aA aD6 (aA hg1 hck);try refine we ?_
     all_goals try(refine aR ?_;simp [aG,results88])
     all_goals exact hset _
 .have LP:xY p.aN a=k:=FH hk hpre (λm hm=>by rw [oY (by omega)] at hm;cases hm)
  have KU:∀m,p.aN[xY p.aN a]? =some m->m.to≠a:=λm hm=>by rw [LP,oY (by omega)] at hm;cases hm
  rw [OU KU,LP];unfold vN Bz;have hkt:(p.aN.take k).length=k:=by simp;omega
  obtain ⟨m0,Zl⟩:∃m:dB,m=⟨a,false,0,[]⟩:=⟨_,rfl⟩;obtain ⟨L1,qi⟩:∃l,l=p.aN.take k++m0::p.aN.drop k:=⟨_,rfl⟩;obtain ⟨L3,hL3⟩:∃l:List dB,l=p.aN.take k++⟨a,true,2,[]⟩::p.aN.drop k:=⟨_,rfl⟩;have qg:L1.length=p.aN.length+1:=by rw [qi];simp;omega
  have hg1:L1[k]? =some m0:=by rw [qi,hY (by omega),hkt];simp
  have aD6:k < L1.length:=by omega
  have cI:=VF p.aN m0 k hk (by omega);rw [<-qi,Zl] at cI;have cR:=xG {p with aN:=L1} k (by omega) (by simp only;omega) (by simp only;omega);rw [show xE {p with aN:=L1} (k:Int)=⟨5,a,p.addr.host,[]⟩ by simp only [xE,mC,hg1,fF,Zl]] at cR;have hset:∀h,(L1.map bU).set k [.str (L1[k]'h).to.host,.str (L1[k]'h).to.path,.bool true,.int .i64 2,.str (L1[k]'h).body]=L3.map bU:=by
   intro h;have e:L1[k]'h=m0:=by rw [aE h] at hg1;exact cQ hg1
   rw [e,qi,hL3,Zl,rB,rB,sX _ _ (by simp;omega),show k - ((p.aN.take k).map bU).length=0 by rw [lR,hkt,xF]];simp
  simp only [aJ,fE,bU] at cI cR;by_cases hck:fH p.bG ⟨5,a,p.addr.host,[]⟩=1
  .simp only [hck,gE];rw [<-Zl,<-qi];rw [hck] at cK;clear qi hL3 Zl;clear hset;have W:=aA hk1 hlt;repeat' first|refine wf ?_|(refine nx ?_;refine sg (hc:=cI) (h:=?_))|(refine sq ?_ ?_<;>intro hc<;>try exact hc.elim)|fail
   have W:=aA aD6 hg1;try refine we ?_
   exact aK results88
  .simp only [hck,gS];rw [<-hL3];clear qi hL3 Zl;have W:=aA hk1 hlt;repeat' first|refine wf ?_|(refine nx ?_;refine sg (hc:=cI) (h:=?_))|(refine sq ?_ ?_<;>intro hc<;>try exact hc.elim)|fail
   have W:=aA aD6 (aA hg1 hck);try refine we ?_
   all_goals try(refine aR ?_;simp [aG,results88])
   all_goals exact hset _
theorem Kj (l:List dB) (k:Nat):List.drop k (List.take l.length (map bU l))=List.drop k (map bU l):=by rw [cX (by simp)]
theorem Gj (l:List dB) (a:aT) (k:Nat) (d:Bool) (c:Int):iK (List.take k (map bU l)++[.str a.host,.str a.path,.bool d,.int .i64 c,.str []]::List.drop k (map bU l))=true:=by
 have e:List.take k (map bU l)++[.str a.host,.str a.path,.bool d,.int .i64 c,.str []]::List.drop k (map bU l)=(l.take k++⟨a,d,c,[]⟩::l.drop k).map bU:=by simp
 rw [e];exact TD _
theorem Dn [aC prog] (p:aI) (a:aT) (hs:aF p<=137438953472) (ha:aU a<=1073741830):Ok prog 73 [.agg (aJ .view p),.agg (aO a)] (.agg (aJ .own (gT p a))):=by
 have c1:=iI p (by omega);have LM:p.aN.length<=274877906944:=by simp only [aF,bV] at hs;omega
 have FC:eB p.bG<=274877906944:=by simp only [aF] at hs;omega
 have cc:=λb=>Gv b a
 have cK:=uU p.bG ⟨5,a,p.addr.host,[]⟩ (by omega) (by simp only [jJ,eW];simp only [aF,aU] at hs;omega);simp only [bM,fE] at cK;simp only [aJ] at c1;simp only [aO] at cc;refine bR aD func73 ntmps73 ?_;have W:=trivial;repeat' first|refine st ?_|(refine nx ?_;first|refine sz ?_|refine so ?_)|(refine cx ?_;refine sc (λhc=>?_) (λhc=>?_)<;>try exact hc.elim)|(refine lx ?_;refine sp (λhc=>?_) (λhc=>?_)<;>try exact hc.elim)|refine sx ?_ ?_|refine sy ?_ ?_|fail
 refine aL (ι:={k:Nat // k<=p.aN.length/\∀x∈p.aN.take k,sW x.to a < 0}) (λt o i=>⟨bD t [(6,.int .i64 i.1)],o⟩)
  (λi=>p.aN.length - i.1) ⟨0,by simp,by simp⟩ aH ?_
 rintro ⟨k,hk,hpre⟩ K1 hK1;simp only [bD,cW,cU] at hK1⊢;have hk1:=oW (k:=k);by_cases hlt:k < p.aN.length
 .have hg:=aE hlt;have c2:=cc p.aN[k].to;by_cases wh:sW p.aN[k].to a < 0
  .have hnx:∀x∈p.aN.take (k+1),sW x.to a < 0:=by
    intro x hx;rw [eA hlt,fL] at hx;rcases hx with h|h
    .exact hpre x h
    .simp at h;subst h;exact wh
   have W:=aA hk1 (aA hg (aA hlt wh));repeat' first|refine st ?_|(refine nx ?_;first|refine sz ?_|refine so ?_)|(refine cx ?_;refine sc (λhc=>?_) (λhc=>?_)<;>try exact hc.elim)|(refine lx ?_;refine sp (λhc=>?_) (λhc=>?_)<;>try exact hc.elim)|refine sx ?_ ?_|refine sy ?_ ?_|fail
   exact hK1 _ ⟨k+1,by omega,hnx⟩ aH (by simp only;omega)
  .have LP:xY p.aN a=k:=FH hk hpre (λm hm=>by rw [hg] at hm;obtain rfl:=cQ hm;exact wh)
   by_cases hto:p.aN[k].to=a
   .rw [VG (by rw [LP];exact hg) hto];have ce:=uO p.aN[k].to a;rw [sB hto] at ce;simp only [aO] at ce;have W:=aA hk1 (aA hg (aA hlt wh));have c0:=ce;repeat' first|refine st ?_|(refine nx ?_;first|refine sz ?_|refine so ?_)|(refine cx ?_;refine sc (λhc=>?_) (λhc=>?_)<;>try exact hc.elim)|(refine lx ?_;refine sp (λhc=>?_) (λhc=>?_)<;>try exact hc.elim)|refine sx ?_ ?_|refine sy ?_ ?_|fail
    exact aK results73
   .have KU:∀m,p.aN[xY p.aN a]? =some m->m.to≠a:=λm hm=>by rw [LP,hg] at hm;obtain rfl:=cQ hm;exact hto
    have ce:=uO p.aN[k].to a;rw [AE hto] at ce;simp only [aO] at ce;rw [OU KU,LP];unfold vN Bz;by_cases hck:fH p.bG ⟨5,a,p.addr.host,[]⟩=1
    .simp only [hck,gE];rw [hck] at cK;have W:=aA hk1 (aA hg (aA hlt (aA wh hk)));have c0:=ce;repeat' first|refine st ?_|(refine nx ?_;first|refine sz ?_|refine so ?_)|(refine cx ?_;refine sc (λhc=>?_) (λhc=>?_)<;>try exact hc.elim)|(refine lx ?_;refine sp (λhc=>?_) (λhc=>?_)<;>try exact hc.elim)|refine sx ?_ ?_|refine sy ?_ ?_|fail
     all_goals try(refine aR ?_;simp [aG,results73])
     all_goals exact ⟨Kj p.aN k,Gj p.aN a k _ _⟩
    .simp only [hck,gS];have W:=aA hk1 (aA hg (aA hlt (aA wh (aA hk hck))));have c0:=ce;repeat' first|refine st ?_|(refine nx ?_;first|refine sz ?_|refine so ?_)|(refine cx ?_;refine sc (λhc=>?_) (λhc=>?_)<;>try exact hc.elim)|(refine lx ?_;refine sp (λhc=>?_) (λhc=>?_)<;>try exact hc.elim)|refine sx ?_ ?_|refine sy ?_ ?_|fail
     all_goals try(refine aR ?_;simp [aG,results73])
     all_goals exact ⟨Kj p.aN k,Gj p.aN a k _ _⟩
 .have LP:xY p.aN a=k:=FH hk hpre (λm hm=>by rw [oY (by omega)] at hm;cases hm)
  have KU:∀m,p.aN[xY p.aN a]? =some m->m.to≠a:=λm hm=>by rw [LP,oY (by omega)] at hm;cases hm
  rw [OU KU,LP];unfold vN Bz;by_cases hck:fH p.bG ⟨5,a,p.addr.host,[]⟩=1
  .simp only [hck,gE];rw [hck] at cK;have W:=aA hk1 (aA hlt hk);repeat' first|refine st ?_|(refine nx ?_;first|refine sz ?_|refine so ?_)|(refine cx ?_;refine sc (λhc=>?_) (λhc=>?_)<;>try exact hc.elim)|(refine lx ?_;refine sp (λhc=>?_) (λhc=>?_)<;>try exact hc.elim)|refine sx ?_ ?_|refine sy ?_ ?_|fail
   all_goals try(refine aR ?_;simp [aG,results73])
   all_goals exact ⟨Kj p.aN k,Gj p.aN a k _ _⟩
  .simp only [hck,gS];have W:=aA hk1 (aA hlt (aA hk hck));repeat' first|refine st ?_|(refine nx ?_;first|refine sz ?_|refine so ?_)|(refine cx ?_;refine sc (λhc=>?_) (λhc=>?_)<;>try exact hc.elim)|(refine lx ?_;refine sp (λhc=>?_) (λhc=>?_)<;>try exact hc.elim)|refine sx ?_ ?_|refine sy ?_ ?_|fail
   all_goals try(refine aR ?_;simp [aG,results73])
   all_goals exact ⟨Kj p.aN k,Gj p.aN a k _ _⟩
end Go.Proofs.YtjmpjmilndkgfaaGreatDoor
