/- Proved here: steps towards the statement of this claim. No condition. -/
import Derived.Test.YtdcpobkemdacnaaGreatDoorZQNF
import Derived.Test.YtdcpobkemdacnaaGreatDoorZQQ2
set_option linter.all false
set_option maxRecDepth 4000
set_option maxHeartbeats 4000000
namespace Go.Proofs.YtdcpobkemdacnaaGreatDoor
open Go.Aw Proofs.Tryz List IntKind
theorem Wn {p:aG} {a:aK} {m:dY} (h:p.aM[wL p.aM a]? =some m) (hm:m.to=a):eU p a=p:=by unfold eU;rw [h];simp [hm]
theorem PY {p:aG} {a:aK} (h:∀m,p.aM[wL p.aM a]? =some m->m.to≠a):eU p a={p with aM:=vY p a (wL p.aM a)}:=by
 unfold eU;split
 .rename_i m hm;rw [cX (h m hm)]
 .rfl
theorem DJ [aC prog] (p:aG) (a:aK) (hs:aJ p<=137438953472) (ha:aQ a<=1073741830):Ok prog 210 [.agg (aI .view p),.agg (aL a)] (.agg (aI .own (eU p a))):=by
 have c1:=iK p (by omega);have ML:p.aM.length<=274877906944:=by simp only [aJ,bT] at hs;omega
 have Gh:eO p.bD<=274877906944:=by simp only [aJ] at hs;omega
 have cc:=λb=>Hy b a
 simp only [aI] at c1;simp only [aL] at cc;have cK:=wE p.bD ⟨5,a,p.addr.host,[]⟩ (by omega) (by simp only [jM,eW];simp only [aJ,aQ] at hs;omega);simp only [bP,dF] at cK;refine bO aD func210 ntmps210 ?_;refine aZ ?_;refine aP (ι:={k:Nat // k<=p.aM.length/\∀x∈p.aM.take k,uP x.to a < 0}) (λt o i=>⟨bE t [(6,.int .i64 i.1)],o⟩)
  (λi=>p.aM.length - i.1) ⟨0,by simp,by simp⟩ aO ?_
 rintro ⟨k,hk,hpre⟩ K1 hK1;simp only [bE,cW,cU] at hK1⊢;have hk1:=oW (k:=k);by_cases hlt:k < p.aM.length
 .have hg:=aE hlt;have c2:=cc p.aM[k].to;by_cases xx:uP p.aM[k].to a < 0
  .have hnx:∀x∈p.aM.take (k+1),uP x.to a < 0:=by
    intro x hx;rw [eK hlt,fL] at hx;rcases hx with h|h
    .exact hpre x h
    .simp at h;subst h;exact xx
   have W:=aA hk1 (aA hg (aA hlt xx));refine we ?_;exact hK1 _ ⟨k+1,by omega,hnx⟩ aO (by simp only;omega)
  .have OP:wL p.aM a=k:=Gl hk hpre (λm hm=>by rw [hg] at hm;obtain rfl:=cQ hm;exact xx)
   by_cases hto:p.aM[k].to=a
   .rw [Wn (by rw [OP];exact hg) hto];have ce:=nW p.aM[k].to a;rw [rL hto] at ce;simp only [aL] at ce;have W:=aA hk1 (aA hg (aA hlt xx));have c0:=ce;refine we ?_;exact aF results210
   .have Dc:∀m,p.aM[wL p.aM a]? =some m->m.to≠a:=λm hm=>by rw [OP,hg] at hm;obtain rfl:=cQ hm;exact hto
    have ce:=nW p.aM[k].to a;rw [Ax hto] at ce;simp only [aL] at ce;rw [PY Dc,OP];unfold vY BH;have hkt:(p.aM.take k).length=k:=by simp;omega
    obtain ⟨m0,ZQ⟩:∃m:dY,m=⟨a,false,0,[]⟩:=⟨_,rfl⟩;obtain ⟨L1,ag⟩:∃l,l=p.aM.take k++m0::p.aM.drop k:=⟨_,rfl⟩;obtain ⟨L3,hL3⟩:∃l:List dY,l=p.aM.take k++⟨a,true,2,[]⟩::p.aM.drop k:=⟨_,rfl⟩;have ug:L1.length=p.aM.length+1:=by rw [ag];simp;omega
    have hg1:L1[k]? =some m0:=by rw [ag,hS (by omega),hkt];simp
    have aEi:k < L1.length:=by omega
    have cI:=Wm p.aM m0 k hk (by omega);rw [<-ag,ZQ] at cI;have cR:=uO {p with aM:=L1} k (by omega) (by simp only;omega) (by simp only;omega);rw [show oU {p with aM:=L1} (k:Int)=⟨5,a,p.addr.host,[]⟩ by simp only [oU,lP,hg1,eP,ZQ]] at cR;have hset:∀h,(L1.map eZ).set k [.str (L1[k]'h).to.host,.str (L1[k]'h).to.path,.bool true,.int .i64 2,.str (L1[k]'h).body]=L3.map eZ:=by
     intro h;have e:L1[k]'h=m0:=by rw [aE h] at hg1;exact cQ hg1
     rw [e,ag,hL3,ZQ,oS,oS,tW _ _ (by simp;omega),show k - ((p.aM.take k).map eZ).length=0 by rw [oX,hkt,yW]];simp
    simp only [aI,dF,eZ] at cI cR;by_cases hck:fH p.bD ⟨5,a,p.addr.host,[]⟩=1
    .simp only [hck,gO];rw [<-ZQ,<-ag];rw [hck] at cK;clear ag hL3 ZQ;clear hset;have W:=aA hk1 (aA hg (aA hlt xx));have c0:=ce;repeat' first|refine wf ?_|(refine nx ?_;refine sg (hc:=cI) (h:=?_))|(refine sq ?_ ?_<;>intro hc<;>try exact hc.elim)|fail
     have W:=aA aEi hg1;try refine we ?_
     exact aF results210
    .simp only [hck,hH];rw [<-hL3];clear ag hL3 ZQ;have W:=aA hk1 (aA hg (aA hlt xx));have c0:=ce;repeat' first|refine wf ?_|(refine nx ?_;refine sg (hc:=cI) (h:=?_))|(refine sq ?_ ?_<;>intro hc<;>try exact hc.elim)|fail
     have W:=aA aEi (aA hg1 hck);try refine we ?_
     all_goals try(refine aV ?_;simp [aH,results210])
     all_goals exact hset _
 .have OP:wL p.aM a=k:=Gl hk hpre (λm hm=>by rw [pA (by omega)] at hm;cases hm)
  have Dc:∀m,p.aM[wL p.aM a]? =some m->m.to≠a:=λm hm=>by rw [OP,pA (by omega)] at hm;cases hm
  rw [PY Dc,OP];unfold vY BH;have hkt:(p.aM.take k).length=k:=by simp;omega
  obtain ⟨m0,ZQ⟩:∃m:dY,m=⟨a,false,0,[]⟩:=⟨_,rfl⟩;obtain ⟨L1,ag⟩:∃l,l=p.aM.take k++m0::p.aM.drop k:=⟨_,rfl⟩;obtain ⟨L3,hL3⟩:∃l:List dY,l=p.aM.take k++⟨a,true,2,[]⟩::p.aM.drop k:=⟨_,rfl⟩;have ug:L1.length=p.aM.length+1:=by rw [ag];simp;omega
  have hg1:L1[k]? =some m0:=by rw [ag,hS (by omega),hkt];simp
  have aEi:k < L1.length:=by omega
  have cI:=Wm p.aM m0 k hk (by omega);rw [<-ag,ZQ] at cI;have cR:=uO {p with aM:=L1} k (by omega) (by simp only;omega) (by simp only;omega);rw [show oU {p with aM:=L1} (k:Int)=⟨5,a,p.addr.host,[]⟩ by simp only [oU,lP,hg1,eP,ZQ]] at cR;have hset:∀h,(L1.map eZ).set k [.str (L1[k]'h).to.host,.str (L1[k]'h).to.path,.bool true,.int .i64 2,.str (L1[k]'h).body]=L3.map eZ:=by
   intro h;have e:L1[k]'h=m0:=by rw [aE h] at hg1;exact cQ hg1
   rw [e,ag,hL3,ZQ,oS,oS,tW _ _ (by simp;omega),show k - ((p.aM.take k).map eZ).length=0 by rw [oX,hkt,yW]];simp
  simp only [aI,dF,eZ] at cI cR;by_cases hck:fH p.bD ⟨5,a,p.addr.host,[]⟩=1
  .simp only [hck,gO];rw [<-ZQ,<-ag];rw [hck] at cK;clear ag hL3 ZQ;clear hset;have W:=aA hk1 hlt;repeat' first|refine wf ?_|(refine nx ?_;refine sg (hc:=cI) (h:=?_))|(refine sq ?_ ?_<;>intro hc<;>try exact hc.elim)|fail
   have W:=aA aEi hg1;try refine we ?_
   exact aF results210
  .simp only [hck,hH];rw [<-hL3];clear ag hL3 ZQ;have W:=aA hk1 hlt;repeat' first|refine wf ?_|(refine nx ?_;refine sg (hc:=cI) (h:=?_))|(refine sq ?_ ?_<;>intro hc<;>try exact hc.elim)|fail
   have W:=aA aEi (aA hg1 hck);try refine we ?_
   all_goals try(refine aV ?_;simp [aH,results210])
   all_goals exact hset _
theorem KZ (l:List dY) (k:Nat):List.drop k (List.take l.length (map eZ l))=List.drop k (map eZ l):=by rw [cY (by simp)]
theorem He (l:List dY) (a:aK) (k:Nat) (d:Bool) (c:Int):kH (List.take k (map eZ l)++[.str a.host,.str a.path,.bool d,.int .i64 c,.str []]::List.drop k (map eZ l))=true:=by
 have e:List.take k (map eZ l)++[.str a.host,.str a.path,.bool d,.int .i64 c,.str []]::List.drop k (map eZ l)=(l.take k++⟨a,d,c,[]⟩::l.drop k).map eZ:=by simp
 rw [e];exact Ug _
theorem DK [aC prog] (p:aG) (a:aK) (hs:aJ p<=137438953472) (ha:aQ a<=1073741830):Ok prog 119 [.agg (aI .view p),.agg (aL a)] (.agg (aI .own (eU p a))):=by
 have c1:=gP p (by omega);have ML:p.aM.length<=274877906944:=by simp only [aJ,bT] at hs;omega
 have Gh:eO p.bD<=274877906944:=by simp only [aJ] at hs;omega
 have cc:=λb=>Hz b a
 have cK:=wD p.bD ⟨5,a,p.addr.host,[]⟩ (by omega) (by simp only [jM,eW];simp only [aJ,aQ] at hs;omega);simp only [bP,dF] at cK;simp only [aI] at c1;simp only [aL] at cc;refine bO aD func119 ntmps119 ?_;have W:=trivial;repeat' first|refine st ?_|(refine nx ?_;first|refine sz ?_|refine so ?_)|(refine cx ?_;refine sc (λhc=>?_) (λhc=>?_)<;>try exact hc.elim)|(refine lx ?_;refine sp (λhc=>?_) (λhc=>?_)<;>try exact hc.elim)|refine sx ?_ ?_|refine sy ?_ ?_|fail
 refine aP (ι:={k:Nat // k<=p.aM.length/\∀x∈p.aM.take k,uP x.to a < 0}) (λt o i=>⟨bE t [(6,.int .i64 i.1)],o⟩)
  (λi=>p.aM.length - i.1) ⟨0,by simp,by simp⟩ aO ?_
 rintro ⟨k,hk,hpre⟩ K1 hK1;simp only [bE,cW,cU] at hK1⊢;have hk1:=oW (k:=k);by_cases hlt:k < p.aM.length
 .have hg:=aE hlt;have c2:=cc p.aM[k].to;by_cases xx:uP p.aM[k].to a < 0
  .have hnx:∀x∈p.aM.take (k+1),uP x.to a < 0:=by
    intro x hx;rw [eK hlt,fL] at hx;rcases hx with h|h
    .exact hpre x h
    .simp at h;subst h;exact xx
   have W:=aA hk1 (aA hg (aA hlt xx));repeat' first|refine st ?_|(refine nx ?_;first|refine sz ?_|refine so ?_)|(refine cx ?_;refine sc (λhc=>?_) (λhc=>?_)<;>try exact hc.elim)|(refine lx ?_;refine sp (λhc=>?_) (λhc=>?_)<;>try exact hc.elim)|refine sx ?_ ?_|refine sy ?_ ?_|fail
   exact hK1 _ ⟨k+1,by omega,hnx⟩ aO (by simp only;omega)
  .have OP:wL p.aM a=k:=Gl hk hpre (λm hm=>by rw [hg] at hm;obtain rfl:=cQ hm;exact xx)
   by_cases hto:p.aM[k].to=a
   .rw [Wn (by rw [OP];exact hg) hto];have ce:=nW p.aM[k].to a;rw [rL hto] at ce;simp only [aL] at ce;have W:=aA hk1 (aA hg (aA hlt xx));have c0:=ce;repeat' first|refine st ?_|(refine nx ?_;first|refine sz ?_|refine so ?_)|(refine cx ?_;refine sc (λhc=>?_) (λhc=>?_)<;>try exact hc.elim)|(refine lx ?_;refine sp (λhc=>?_) (λhc=>?_)<;>try exact hc.elim)|refine sx ?_ ?_|refine sy ?_ ?_|fail
    exact aF results119
   .have Dc:∀m,p.aM[wL p.aM a]? =some m->m.to≠a:=λm hm=>by rw [OP,hg] at hm;obtain rfl:=cQ hm;exact hto
    have ce:=nW p.aM[k].to a;rw [Ax hto] at ce;simp only [aL] at ce;rw [PY Dc,OP];unfold vY BH;by_cases hck:fH p.bD ⟨5,a,p.addr.host,[]⟩=1
    .simp only [hck,gO];rw [hck] at cK;have W:=aA hk1 (aA hg (aA hlt (aA xx hk)));have c0:=ce;repeat' first|refine st ?_|(refine nx ?_;first|refine sz ?_|refine so ?_)|(refine cx ?_;refine sc (λhc=>?_) (λhc=>?_)<;>try exact hc.elim)|(refine lx ?_;refine sp (λhc=>?_) (λhc=>?_)<;>try exact hc.elim)|refine sx ?_ ?_|refine sy ?_ ?_|fail
     all_goals try(refine aV ?_;simp [aH,results119])
     all_goals exact ⟨KZ p.aM k,He p.aM a k _ _⟩
    .simp only [hck,hH];have W:=aA hk1 (aA hg (aA hlt (aA xx (aA hk hck))));have c0:=ce;repeat' first|refine st ?_|(refine nx ?_;first|refine sz ?_|refine so ?_)|(refine cx ?_;refine sc (λhc=>?_) (λhc=>?_)<;>try exact hc.elim)|(refine lx ?_;refine sp (λhc=>?_) (λhc=>?_)<;>try exact hc.elim)|refine sx ?_ ?_|refine sy ?_ ?_|fail
     all_goals try(refine aV ?_;simp [aH,results119])
     all_goals exact ⟨KZ p.aM k,He p.aM a k _ _⟩
 .have OP:wL p.aM a=k:=Gl hk hpre (λm hm=>by rw [pA (by omega)] at hm;cases hm)
  have Dc:∀m,p.aM[wL p.aM a]? =some m->m.to≠a:=λm hm=>by rw [OP,pA (by omega)] at hm;cases hm
  rw [PY Dc,OP];unfold vY BH;by_cases hck:fH p.bD ⟨5,a,p.addr.host,[]⟩=1
  .simp only [hck,gO];rw [hck] at cK;have W:=aA hk1 (aA hlt hk);repeat' first|refine st ?_|(refine nx ?_;first|refine sz ?_|refine so ?_)|(refine cx ?_;refine sc (λhc=>?_) (λhc=>?_)<;>try exact hc.elim)|(refine lx ?_;refine sp (λhc=>?_) (λhc=>?_)<;>try exact hc.elim)|refine sx ?_ ?_|refine sy ?_ ?_|fail
   all_goals try(refine aV ?_;simp [aH,results119])
   all_goals exact ⟨KZ p.aM k,He p.aM a k _ _⟩
  .simp only [hck,hH];have W:=aA hk1 (aA hlt (aA hk hck));repeat' first|refine st ?_|(refine nx ?_;first|refine sz ?_|refine so ?_)|(refine cx ?_;refine sc (λhc=>?_) (λhc=>?_)<;>try exact hc.elim)|(refine lx ?_;refine sp (λhc=>?_) (λhc=>?_)<;>try exact hc.elim)|refine sx ?_ ?_|refine sy ?_ ?_|fail
   all_goals try(refine aV ?_;simp [aH,results119])
   all_goals exact ⟨KZ p.aM k,He p.aM a k _ _⟩
end Go.Proofs.YtdcpobkemdacnaaGreatDoor
