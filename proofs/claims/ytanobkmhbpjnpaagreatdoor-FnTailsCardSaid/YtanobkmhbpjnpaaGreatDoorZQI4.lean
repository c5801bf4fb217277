/- Steps. No condition. -/
import Derived.Test.YtanobkmhbpjnpaaGreatDoorZQMK6
set_option linter.all false
set_option maxRecDepth 4000
set_option maxHeartbeats 4000000
namespace Go.Proofs.YtanobkmhbpjnpaaGreatDoor
open Go.Aw Proofs.Tryz List IntKind
def XG{p:aF}{a:aR}{m:fO}(h:p.aL[yJ p.aL a]? =some m)(hm:m.to=a):fF p a=p:=by unfold fF;rw[h];simp[hm]
def RO{p:aF}{a:aR}(h:∀m,p.aL[yJ p.aL a]? =some m->m.to≠a):fF p a={p with aL:=xQ p a (yJ p.aL a)}:=by
 unfold fF;split
 .rename_i m hm;rw[eC (h m hm)]
 .rfl
def EZ[aG prog](p:aF)(a:aR)(hs:aM p<=137438953472)(ha:aW a<=1073741830):Ok prog 99 [.agg (aH .view p),.agg (aS a)] (.agg (aH .own (fF p a))):=by
 have c1:=lM p (by omega);have Oz:p.aL.length<=274877906944:=by simp only[aM,dS]at hs;omega
 have Il:eT p.bO<=274877906944:=by simp only[aM]at hs;omega
 have cc:=λb=>Jy b a
 simp only[aH]at c1;simp only[aS]at cc;have cK:=xY p.bO ⟨5,a,p.gZ.bN,[]⟩ (by omega) (by simp only[lZ,fL];simp only[aM,aW]at hs;omega);simp only[dA,eG]at cK;refine dN aK func99 ntmps99 ?_;refine bK ?_;refine aT (ι:={k:Nat // k<=p.aL.length/\∀x∈p.aL.take k,wO x.to a<0}) (λt o i=>⟨bP t [(6,.int .i64 i.1)],o⟩)
  (λi=>p.aL.length-i.1) ⟨0,by simp,by simp⟩ aP ?_
 rintro⟨k,hk,hpre⟩ K1 hK1;simp only[bP,cH,cQ]at hK1⊢;have hk1:=tQ (k:=k);by_cases hlt:k<p.aL.length
 .have hg:=aE hlt;have c2:=cc p.aL[k].to;by_cases hcm:wO p.aL[k].to a<0
  .have hnx:∀x∈p.aL.take (k+1),wO x.to a<0:=by
    intro x hx;rw[fN hlt,fR]at hx;rcases hx with h|h
    .exact hpre x h
    .simp at h;subst h;exact hcm
   have W:=aA hk1 (aA hg (aA hlt hcm));refine we ?_;exact hK1 _ ⟨k+1,by omega,hnx⟩ aP (by simp only;omega)
  .have OA:yJ p.aL a=k:=Ip hk hpre (λm hm=>by rw[hg]at hm;obtain rfl:=cX hm;exact hcm)
   by_cases hto:p.aL[k].to=a
   .rw [XG (by rw[OA];exact hg) hto];have ce:=vP p.aL[k].to a;rw[tI hto]at ce;simp only[aS]at ce;have W:=aA hk1 (aA hg (aA hlt hcm));have c0:=ce;refine we ?_;exact aO results99
   .have NM:∀m,p.aL[yJ p.aL a]? =some m->m.to≠a:=λm hm=>by rw[OA,hg]at hm;obtain rfl:=cX hm;exact hto
    have ce:=vP p.aL[k].to a;rw[Bm hto]at ce;simp only[aS]at ce;rw[RO NM,OA];unfold xQ CZ;have hkt:(p.aL.take k).length=k:=by simp;omega
    obtain⟨m0,Xx⟩:∃m:fO,m=⟨a,false,0,[]⟩:=⟨_,rfl⟩;obtain⟨L1,oo⟩:∃l,l=p.aL.take k++m0::p.aL.drop k:=⟨_,rfl⟩;obtain⟨L3,hL3⟩:∃l:List fO,l=p.aL.take k++⟨a,true,2,[]⟩::p.aL.drop k:=⟨_,rfl⟩;have O4:L1.length=p.aL.length+1:=by rw[oo];simp;omega
    have hg1:L1[k]? =some m0:=by rw[oo,lO (by omega),hkt];simp
    have aId:k<L1.length:=by omega
    have cI:=XF p.aL m0 k hk (by omega);rw[<-oo,Xx]at cI;have cR:=wN {p with aL:=L1} k (by omega) (by simp only;omega) (by simp only;omega);rw[show qY {p with aL:=L1} (k:Int)=⟨5,a,p.gZ.bN,[]⟩by simp only[qY,oB,hg1,gV,Xx]]at cR;have hset:∀h,(L1.map gH).set k [.str (L1[k]'h).to.bN,.str (L1[k]'h).to.iD,.bool true,.int .i64 2,.str (L1[k]'h).body]=L3.map gH:=by
     intro h;have e:L1[k]'h=m0:=by rw[aE h]at hg1;exact cX hg1
     rw[e,oo,hL3,Xx,pP,pP,By _ _ (by simp;omega),show k-((p.aL.take k).map gH).length=0 by rw[tE,hkt,tU]];simp
    simp only[aH,eG,gH]at cI cR;by_cases hck:iF p.bO ⟨5,a,p.gZ.bN,[]⟩=1
    .simp only[hck,eS];rw[<-Xx,<-oo];rw[hck]at cK;clear oo hL3 Xx;clear hset;have W:=aA hk1 (aA hg (aA hlt hcm));have c0:=ce;repeat' first|refine wf ?_|(refine nx ?_;refine sg (hc:=cI) (h:=?_))|(refine sq ?_ ?_<;>intro hc<;>try exact hc.elim)|fail
     have W:=aA aId hg1;try refine we ?_
     exact aO results99
    .simp only[hck,eW];rw[<-hL3];clear oo hL3 Xx;have W:=aA hk1 (aA hg (aA hlt hcm));have c0:=ce;repeat' first|refine wf ?_|(refine nx ?_;refine sg (hc:=cI) (h:=?_))|(refine sq ?_ ?_<;>intro hc<;>try exact hc.elim)|fail
     have W:=aA aId (aA hg1 hck);try refine we ?_
     all_goals try(refine bA ?_;simp[bB,results99])
     all_goals exact hset _
 .have OA:yJ p.aL a=k:=Ip hk hpre (λm hm=>by rw[pT (by omega)]at hm;cases hm)
  have NM:∀m,p.aL[yJ p.aL a]? =some m->m.to≠a:=λm hm=>by rw[OA,pT (by omega)]at hm;cases hm
  rw[RO NM,OA];unfold xQ CZ;have hkt:(p.aL.take k).length=k:=by simp;omega
  obtain⟨m0,Xx⟩:∃m:fO,m=⟨a,false,0,[]⟩:=⟨_,rfl⟩;obtain⟨L1,oo⟩:∃l,l=p.aL.take k++m0::p.aL.drop k:=⟨_,rfl⟩;obtain⟨L3,hL3⟩:∃l:List fO,l=p.aL.take k++⟨a,true,2,[]⟩::p.aL.drop k:=⟨_,rfl⟩;have O4:L1.length=p.aL.length+1:=by rw[oo];simp;omega
  have hg1:L1[k]? =some m0:=by rw[oo,lO (by omega),hkt];simp
  have aId:k<L1.length:=by omega
  have cI:=XF p.aL m0 k hk (by omega);rw[<-oo,Xx]at cI;have cR:=wN {p with aL:=L1} k (by omega) (by simp only;omega) (by simp only;omega);rw[show qY {p with aL:=L1} (k:Int)=⟨5,a,p.gZ.bN,[]⟩by simp only[qY,oB,hg1,gV,Xx]]at cR;have hset:∀h,(L1.map gH).set k [.str (L1[k]'h).to.bN,.str (L1[k]'h).to.iD,.bool true,.int .i64 2,.str (L1[k]'h).body]=L3.map gH:=by
   intro h;have e:L1[k]'h=m0:=by rw[aE h]at hg1;exact cX hg1
   rw[e,oo,hL3,Xx,pP,pP,By _ _ (by simp;omega),show k-((p.aL.take k).map gH).length=0 by rw[tE,hkt,tU]];simp
  simp only[aH,eG,gH]at cI cR;by_cases hck:iF p.bO ⟨5,a,p.gZ.bN,[]⟩=1
  .simp only[hck,eS];rw[<-Xx,<-oo];rw[hck]at cK;clear oo hL3 Xx;clear hset;have W:=aA hk1 hlt;repeat' first|refine wf ?_|(refine nx ?_;refine sg (hc:=cI) (h:=?_))|(refine sq ?_ ?_<;>intro hc<;>try exact hc.elim)|fail
   have W:=aA aId hg1;try refine we ?_
   exact aO results99
  .simp only[hck,eW];rw[<-hL3];clear oo hL3 Xx;have W:=aA hk1 hlt;repeat' first|refine wf ?_|(refine nx ?_;refine sg (hc:=cI) (h:=?_))|(refine sq ?_ ?_<;>intro hc<;>try exact hc.elim)|fail
   have W:=aA aId (aA hg1 hck);try refine we ?_
   all_goals try(refine bA ?_;simp[bB,results99])
   all_goals exact hset _
def MP(l:List fO)(k:Nat):List.drop k (List.take l.length (map gH l))=List.drop k (map gH l):=by rw[eN (by simp)]
def Jl(l:List fO)(a:aR)(k:Nat)(d:Bool)(c:Int):mW (List.take k (map gH l)++[.str a.bN,.str a.iD,.bool d,.int .i64 c,.str []]::List.drop k (map gH l))=true:=by
 have e:List.take k (map gH l)++[.str a.bN,.str a.iD,.bool d,.int .i64 c,.str []]::List.drop k (map gH l)=(l.take k++⟨a,d,c,[]⟩::l.drop k).map gH:=by simp
 rw[e];exact VL _
def Fa[aG prog](p:aF)(a:aR)(hs:aM p<=137438953472)(ha:aW a<=1073741830):Ok prog 105 [.agg (aH .view p),.agg (aS a)] (.agg (aH .own (fF p a))):=by
 have c1:=jH p (by omega);have Oz:p.aL.length<=274877906944:=by simp only[aM,dS]at hs;omega
 have Il:eT p.bO<=274877906944:=by simp only[aM]at hs;omega
 have cc:=λb=>Jz b a
 have cK:=xX p.bO ⟨5,a,p.gZ.bN,[]⟩ (by omega) (by simp only[lZ,fL];simp only[aM,aW]at hs;omega);simp only[dA,eG]at cK;simp only[aH]at c1;simp only[aS]at cc;refine dN aK func105 ntmps105 ?_;have W:=trivial;repeat' first|refine st ?_|(refine nx ?_;first|refine sz ?_|refine so ?_)|(refine cx ?_;refine sc (λhc=>?_) (λhc=>?_)<;>try exact hc.elim)|(refine lx ?_;refine sp (λhc=>?_) (λhc=>?_)<;>try exact hc.elim)|refine sx ?_ ?_|refine sy ?_ ?_|fail
 refine aT (ι:={k:Nat // k<=p.aL.length/\∀x∈p.aL.take k,wO x.to a<0}) (λt o i=>⟨bP t [(6,.int .i64 i.1)],o⟩)
  (λi=>p.aL.length-i.1) ⟨0,by simp,by simp⟩ aP ?_
 rintro⟨k,hk,hpre⟩ K1 hK1;simp only[bP,cH,cQ]at hK1⊢;have hk1:=tQ (k:=k);by_cases hlt:k<p.aL.length
 .have hg:=aE hlt;have c2:=cc p.aL[k].to;by_cases hcm:wO p.aL[k].to a<0
  .have hnx:∀x∈p.aL.take (k+1),wO x.to a<0:=by
    intro x hx;rw[fN hlt,fR]at hx;rcases hx with h|h
    .exact hpre x h
    .simp at h;subst h;exact hcm
   have W:=aA hk1 (aA hg (aA hlt hcm));repeat' first|refine st ?_|(refine nx ?_;first|refine sz ?_|refine so ?_)|(refine cx ?_;refine sc (λhc=>?_) (λhc=>?_)<;>try exact hc.elim)|(refine lx ?_;refine sp (λhc=>?_) (λhc=>?_)<;>try exact hc.elim)|refine sx ?_ ?_|refine sy ?_ ?_|fail
   exact hK1 _ ⟨k+1,by omega,hnx⟩ aP (by simp only;omega)
  .have OA:yJ p.aL a=k:=Ip hk hpre (λm hm=>by rw[hg]at hm;obtain rfl:=cX hm;exact hcm)
   by_cases hto:p.aL[k].to=a
   .rw [XG (by rw[OA];exact hg) hto];have ce:=vP p.aL[k].to a;rw[tI hto]at ce;simp only[aS]at ce;have W:=aA hk1 (aA hg (aA hlt hcm));have c0:=ce;repeat' first|refine st ?_|(refine nx ?_;first|refine sz ?_|refine so ?_)|(refine cx ?_;refine sc (λhc=>?_) (λhc=>?_)<;>try exact hc.elim)|(refine lx ?_;refine sp (λhc=>?_) (λhc=>?_)<;>try exact hc.elim)|refine sx ?_ ?_|refine sy ?_ ?_|fail
    exact aO results105
   .have NM:∀m,p.aL[yJ p.aL a]? =some m->m.to≠a:=λm hm=>by rw[OA,hg]at hm;obtain rfl:=cX hm;exact hto
    have ce:=vP p.aL[k].to a;rw[Bm hto]at ce;simp only[aS]at ce;rw[RO NM,OA];unfold xQ CZ;by_cases hck:iF p.bO ⟨5,a,p.gZ.bN,[]⟩=1
    .simp only[hck,eS];rw[hck]at cK;have W:=aA hk1 (aA hg (aA hlt (aA hcm hk)));have c0:=ce;repeat' first|refine st ?_|(refine nx ?_;first|refine sz ?_|refine so ?_)|(refine cx ?_;refine sc (λhc=>?_) (λhc=>?_)<;>try exact hc.elim)|(refine lx ?_;refine sp (λhc=>?_) (λhc=>?_)<;>try exact hc.elim)|refine sx ?_ ?_|refine sy ?_ ?_|fail
     all_goals try(refine bA ?_;simp[bB,results105])
     all_goals exact⟨MP p.aL k,Jl p.aL a k _ _⟩
    .simp only[hck,eW];have W:=aA hk1 (aA hg (aA hlt (aA hcm (aA hk hck))));have c0:=ce;repeat' first|refine st ?_|(refine nx ?_;first|refine sz ?_|refine so ?_)|(refine cx ?_;refine sc (λhc=>?_) (λhc=>?_)<;>try exact hc.elim)|(refine lx ?_;refine sp (λhc=>?_) (λhc=>?_)<;>try exact hc.elim)|refine sx ?_ ?_|refine sy ?_ ?_|fail
     all_goals try(refine bA ?_;simp[bB,results105])
     all_goals exact⟨MP p.aL k,Jl p.aL a k _ _⟩
 .have OA:yJ p.aL a=k:=Ip hk hpre (λm hm=>by rw[pT (by omega)]at hm;cases hm)
  have NM:∀m,p.aL[yJ p.aL a]? =some m->m.to≠a:=λm hm=>by rw[OA,pT (by omega)]at hm;cases hm
  rw[RO NM,OA];unfold xQ CZ;by_cases hck:iF p.bO ⟨5,a,p.gZ.bN,[]⟩=1
  .simp only[hck,eS];rw[hck]at cK;have W:=aA hk1 (aA hlt hk);repeat' first|refine st ?_|(refine nx ?_;first|refine sz ?_|refine so ?_)|(refine cx ?_;refine sc (λhc=>?_) (λhc=>?_)<;>try exact hc.elim)|(refine lx ?_;refine sp (λhc=>?_) (λhc=>?_)<;>try exact hc.elim)|refine sx ?_ ?_|refine sy ?_ ?_|fail
   all_goals try(refine bA ?_;simp[bB,results105])
   all_goals exact⟨MP p.aL k,Jl p.aL a k _ _⟩
  .simp only[hck,eW];have W:=aA hk1 (aA hlt (aA hk hck));repeat' first|refine st ?_|(refine nx ?_;first|refine sz ?_|refine so ?_)|(refine cx ?_;refine sc (λhc=>?_) (λhc=>?_)<;>try exact hc.elim)|(refine lx ?_;refine sp (λhc=>?_) (λhc=>?_)<;>try exact hc.elim)|refine sx ?_ ?_|refine sy ?_ ?_|fail
   all_goals try(refine bA ?_;simp[bB,results105])
   all_goals exact⟨MP p.aL k,Jl p.aL a k _ _⟩
end Go.Proofs.YtanobkmhbpjnpaaGreatDoor
