/- Proved here: steps towards the statement of this claim. No condition. -/
import Derived.Test.YtjkdolejalpflaaGreatDoorZQY3
import Derived.Test.YtjkdolejalpflaaGreatDoorZQP5
set_option linter.all false
set_option maxRecDepth 4000
set_option maxHeartbeats 4000000
namespace Go.Proofs.YtjkdolejalpflaaGreatDoor
open Go.Aw Proofs.Tryz List IntKind
theorem QD[aB prog](s t:aX):OkN prog 196 [.str s,.str t] (.int .i64 (Lib.compareBytes s t)):=
 TR (fn:=f196) (by kernel_rfl) (by decide+kernel) rfl (by decide+kernel) (by rfl) s t
theorem Hz[aB prog](s t:aX):Ok prog 180 [.str s,.str t] (.int .i64 (Lib.compareBytes s t)):=by refine dA aJ func180 ntmps180 ?_;have c0:=QD s t;refine bI ?_;exact aO results180
theorem yQ[aB prog](s t:aX):Ok prog 155 [.str s,.str t] (.int .i64 (Lib.compareBytes s t)):=by refine dA aJ func155 ntmps155 ?_;have c0:=Hz s t;refine bI ?_;exact aO results155
def qB(a b:gH):Int:=if Lib.compareBytes a.host b.host≠0 then Lib.compareBytes a.host b.host else Lib.compareBytes a.path b.path
theorem Dq[aB prog](a b:gH):Ok prog 127 [.agg (dI a),.agg (dI b)] (.int .i64 (qB a b)):=by
 have c1:=yQ a.host b.host;have c2:=yQ a.path b.path;unfold qB;generalize Lib.compareBytes a.host b.host=x at*;generalize Lib.compareBytes a.path b.path=y at*;by_cases hx:x=0
 .refine dA aJ func127 ntmps127 ?_;have W:=hx;refine we ?_;all_goals try(refine aP ?_;simp[aT,results127,hx])
 .refine dA aJ func127 ntmps127 ?_;have W:=hx;refine we ?_;all_goals try(refine aP ?_;simp[aT,results127,hx])
theorem zK:∀l:List UInt8,Op.bytesLess l l=false
 |[]=>rfl
 |x::l=>by simp[Op.bytesLess,zK l,UInt8.lt_irrefl]
theorem TS(a b:gH):qB a b=if a=b then 0 else if (Op.bytesLess a.host b.host || (a.host == b.host&&Op.bytesLess a.path b.path))=true then -1 else 1:=by
 unfold qB;obtain⟨h1,p1⟩:=a;obtain⟨h2,p2⟩:=b;simp only[Xw,gH.mk.injEq];by_cases e1:h1=h2
 .subst e1;by_cases e2:p1=p2
  .simp [e2]
  .have:=zK h1;simp[e2,this]
 .cases hb:Op.bytesLess h1 h2<;>simp[e1,hb]
theorem Dr[aB prog](a b:gH):Ok prog 152 [.agg (dI a),.agg (dI b)] (.int .i64 (qB a b)):=by
 rw[TS];have c1:=Bf a b;by_cases he:a=b
 .subst he;simp only[dI,An]at c1;refine dA aJ func152 ntmps152 ?_;have c0:=c1;refine bI ?_;exact aO results152
 .simp only[dI,he,decide_false]at c1;simp only[he,eK];cases h1:Op.bytesLess a.host b.host
  .by_cases h2:a.host=b.host
   .rw [h2]at c1;have h0:=zK b.host;cases h3:Op.bytesLess a.path b.path
    .refine dA aJ func152 ntmps152 ?_;have W:=aA h0 (aA h1 (aA h2 h3));have c0:=c1;refine we ?_;all_goals try(refine aP ?_;simp[aT,results152,h0,h1,h2,h3])
    .refine dA aJ func152 ntmps152 ?_;have W:=aA h0 (aA h1 (aA h2 h3));have c0:=c1;refine we ?_;all_goals try(refine aP ?_;simp[aT,results152,h0,h1,h2,h3])
   .refine dA aJ func152 ntmps152 ?_;have W:=aA h1 h2;have c0:=c1;refine we ?_;all_goals try(refine aP ?_;simp[aT,results152,h1,h2])
  .refine dA aJ func152 ntmps152 ?_;have W:=h1;have c0:=c1;refine we ?_;all_goals try(refine aP ?_;simp[aT,results152,h1])
def vO(l:List gW)(a:gH):Nat:=(l.takeWhile λm=>decide (qB m.to a<0)).length
theorem Cs{a:gH}:∀{l:List gW} {k:Nat},k<=l.length->(∀x∈l.take k,qB x.to a<0)->(∀m,l[k]? =some m->¬qB m.to a<0)->vO l a=k
 |[],k,h,_,_=>by simp at h;subst h;rfl
 |m::l,0,_,_,h=>by simp[vO,h m rfl]
 |m::l,k+1,h0,h1,h2=>by have ih:=Cs (a:=a) (l:=l) (k:=k) (by simpa using h0) (λx hx=>h1 x (by simp[hx])) (λm hm=>h2 m (by simpa using hm));have:=h1 m (by simp);simp only[vO,takeWhile_cons,pP this,eE]at ih⊢;simpa using ih
def Bh(p:aW)(a:gH):gW:=if fA p.bC ⟨5,a,p.addr.host,[]⟩=1 then⟨a,false,0,[]⟩else⟨a,true,2,[]⟩
def vC(p:aW)(a:gH)(k:Nat):List gW:=p.bT.take k++Bh p a::p.bT.drop k
def jN(p:aW)(a:gH):aW:=
 match p.bT[vO p.bT a]? with
 |some m=>if m.to=a then p else {p with bT:=vC p a (vO p.bT a)}
 |none=>{p with bT:=vC p a (vO p.bT a)}
theorem Pm{p:aW}{a:gH}{m:gW}(h:p.bT[vO p.bT a]? =some m)(hm:m.to=a):jN p a=p:=by unfold jN;rw[h];simp[hm]
theorem Kk{p:aW}{a:gH}(h:∀m,p.bT[vO p.bT a]? =some m->m.to≠a):jN p a={p with bT:=vC p a (vO p.bT a)}:=by
 unfold jN;split
 .rename_i m hm;rw[cU (h m hm)]
 .rfl
theorem HV[aB prog](p:aW)(a:gH)(hs:aK p<=137438953472)(ha:eB a<=1073741830):Ok prog 93 [.agg (aL .view p),.agg (dI a)] (.agg (aL .own (jN p a))):=by
 have c1:=kV p (by omega);have X0:p.bT.length<=274877906944:=by simp only[aK,dL]at hs;omega
 have TL:dD p.bC<=274877906944:=by simp only[aK]at hs;omega
 have cc:=λb=>Dq b a
 simp only[aL]at c1;simp only[dI]at cc;have cK:=wD p.bC ⟨5,a,p.addr.host,[]⟩ (by omega) (by simp only[lF,eR];simp only[aK,eB]at hs;omega);simp only[bG,fV]at cK;refine dA aJ func93 ntmps93 ?_;refine bI ?_;refine aY (ι:={k:Nat // k<=p.bT.length/\∀x∈p.bT.take k,qB x.to a<0}) (λt o i=>⟨bN t [(6,.int .i64 i.1)],o⟩)
  (λi=>p.bT.length-i.1) ⟨0,by simp,by simp⟩ aC ?_
 rintro⟨k,hk,hpre⟩ K1 hK1;simp only[bN,cH,cG]at hK1⊢;have hk1:=vJ (k:=k);by_cases hlt:k<p.bT.length
 .have hg:=aE hlt;have c2:=cc p.bT[k].to;by_cases WR:qB p.bT[k].to a<0
  .have hnx:∀x∈p.bT.take (k+1),qB x.to a<0:=by
    intro x hx;rw[eN hlt,fR]at hx;rcases hx with h|h
    .exact hpre x h
    .simp at h;subst h;exact WR
   have W:=aA hk1 (aA hg (aA hlt WR));refine we ?_;exact hK1 _ ⟨k+1,by omega,hnx⟩ aC (by simp only;omega)
  .have VS:vO p.bT a=k:=Cs hk hpre (λm hm=>by rw[hg]at hm;obtain rfl:=cD hm;exact WR)
   by_cases hto:p.bT[k].to=a
   .rw [Pm (by rw[VS];exact hg) hto];have ce:=Bf p.bT[k].to a;rw[pP hto]at ce;simp only[dI]at ce;have W:=aA hk1 (aA hg (aA hlt WR));have c0:=ce;refine we ?_;exact aO results93
   .have hno:∀m,p.bT[vO p.bT a]? =some m->m.to≠a:=λm hm=>by rw[VS,hg]at hm;obtain rfl:=cD hm;exact hto
    have ce:=Bf p.bT[k].to a;rw[sY hto]at ce;simp only[dI]at ce;rw[Kk hno,VS];unfold vC Bh;have hkt:(p.bT.take k).length=k:=by simp;omega
    obtain⟨m0,Qs⟩:∃m:gW,m=⟨a,false,0,[]⟩:=⟨_,rfl⟩;obtain⟨L1,VT⟩:∃l,l=p.bT.take k++m0::p.bT.drop k:=⟨_,rfl⟩;obtain⟨L3,K5⟩:∃l:List gW,l=p.bT.take k++⟨a,true,2,[]⟩::p.bT.drop k:=⟨_,rfl⟩;have VQ:L1.length=p.bT.length+1:=by rw[VT];simp;omega
    have hg1:L1[k]? =some m0:=by rw[VT,hU (by omega),hkt];simp
    have qc:k<L1.length:=by omega
    have cI:=Pk p.bT m0 k hk (by omega);rw[<-VT,Qs]at cI;have cR:=yP {p with bT:=L1} k (by omega) (by simp only;omega) (by simp only;omega);rw[show EN {p with bT:=L1} (k:Int)=⟨5,a,p.addr.host,[]⟩by simp only[EN,rK,hg1,Co,Qs]]at cR;have hset:∀h,(L1.map dN).set k [.str (L1[k]'h).to.host,.str (L1[k]'h).to.path,.bool true,.int .i64 2,.str (L1[k]'h).body]=L3.map dN:=by
     intro h;have e:L1[k]'h=m0:=by rw[aE h]at hg1;exact cD hg1
     rw[e,VT,K5,Qs,oT,oT,tM _ _ (by simp;omega),show k-((p.bT.take k).map dN).length=0 by rw[As,hkt,Bk]];simp
    simp only[aL,fV,dN]at cI cR;by_cases hck:fA p.bC ⟨5,a,p.addr.host,[]⟩=1
    .simp only[hck,eI];rw[<-Qs,<-VT];rw[hck]at cK;clear VT K5 Qs;clear hset;have W:=aA hk1 (aA hg (aA hlt WR));have c0:=ce;repeat' first|refine wf ?_|(refine nx ?_;refine sg (hc:=cI) (h:=?_))|(refine sq ?_ ?_<;>intro hc<;>try exact hc.elim)|fail
     have W:=aA qc hg1;try refine we ?_
     exact aO results93
    .simp only[hck,eK];rw[<-K5];clear VT K5 Qs;have W:=aA hk1 (aA hg (aA hlt WR));have c0:=ce;repeat' first|refine wf ?_|(refine nx ?_;refine sg (hc:=cI) (h:=?_))|(refine sq ?_ ?_<;>intro hc<;>try exact hc.elim)|fail
     have W:=aA qc (aA hg1 hck);try refine we ?_
     all_goals try(refine aP ?_;simp[aT,results93])
     all_goals exact hset _
 .have VS:vO p.bT a=k:=Cs hk hpre (λm hm=>by rw[pH (by omega)]at hm;cases hm)
  have hno:∀m,p.bT[vO p.bT a]? =some m->m.to≠a:=λm hm=>by rw[VS,pH (by omega)]at hm;cases hm
  rw[Kk hno,VS];unfold vC Bh;have hkt:(p.bT.take k).length=k:=by simp;omega
  obtain⟨m0,Qs⟩:∃m:gW,m=⟨a,false,0,[]⟩:=⟨_,rfl⟩;obtain⟨L1,VT⟩:∃l,l=p.bT.take k++m0::p.bT.drop k:=⟨_,rfl⟩;obtain⟨L3,K5⟩:∃l:List gW,l=p.bT.take k++⟨a,true,2,[]⟩::p.bT.drop k:=⟨_,rfl⟩;have VQ:L1.length=p.bT.length+1:=by rw[VT];simp;omega
  have hg1:L1[k]? =some m0:=by rw[VT,hU (by omega),hkt];simp
  have qc:k<L1.length:=by omega
  have cI:=Pk p.bT m0 k hk (by omega);rw[<-VT,Qs]at cI;have cR:=yP {p with bT:=L1} k (by omega) (by simp only;omega) (by simp only;omega);rw[show EN {p with bT:=L1} (k:Int)=⟨5,a,p.addr.host,[]⟩by simp only[EN,rK,hg1,Co,Qs]]at cR;have hset:∀h,(L1.map dN).set k [.str (L1[k]'h).to.host,.str (L1[k]'h).to.path,.bool true,.int .i64 2,.str (L1[k]'h).body]=L3.map dN:=by
   intro h;have e:L1[k]'h=m0:=by rw[aE h]at hg1;exact cD hg1
   rw[e,VT,K5,Qs,oT,oT,tM _ _ (by simp;omega),show k-((p.bT.take k).map dN).length=0 by rw[As,hkt,Bk]];simp
  simp only[aL,fV,dN]at cI cR;by_cases hck:fA p.bC ⟨5,a,p.addr.host,[]⟩=1
  .simp only[hck,eI];rw[<-Qs,<-VT];rw[hck]at cK;clear VT K5 Qs;clear hset;have W:=aA hk1 hlt;repeat' first|refine wf ?_|(refine nx ?_;refine sg (hc:=cI) (h:=?_))|(refine sq ?_ ?_<;>intro hc<;>try exact hc.elim)|fail
   have W:=aA qc hg1;try refine we ?_
   exact aO results93
  .simp only[hck,eK];rw[<-K5];clear VT K5 Qs;have W:=aA hk1 hlt;repeat' first|refine wf ?_|(refine nx ?_;refine sg (hc:=cI) (h:=?_))|(refine sq ?_ ?_<;>intro hc<;>try exact hc.elim)|fail
   have W:=aA qc (aA hg1 hck);try refine we ?_
   all_goals try(refine aP ?_;simp[aT,results93])
   all_goals exact hset _
end Go.Proofs.YtjkdolejalpflaaGreatDoor
