/- Proved here: steps towards the statement of this claim. No condition. -/
import Derived.Test.YtfbefblglejcaaaGreatDoorZQU8
set_option linter.all false
set_option maxRecDepth 4000
set_option maxHeartbeats 4000000
namespace Go.Proofs.YtfbefblglejcaaaGreatDoor
open Go.Aw Proofs.Tryz List IntKind
theorem WR{p:aG}{a:aK}{m:dX}(h:p.aN[wP p.aN a]? =some m)(hm:m.to=a):eP p a=p:=by unfold eP;rw[h];simp[hm]
theorem QN{p:aG}{a:aK}(h:∀m,p.aN[wP p.aN a]? =some m->m.to≠a):eP p a={p with aN:=wC p a (wP p.aN a)}:=by
 unfold eP;split
 .rename_i m hm;rw[cX (h m hm)]
 .rfl
theorem Ej[aC prog](p:aG)(a:aK)(hs:aI p<=137438953472)(ha:aR a<=1073741830):Ok prog 218 [.agg (aH .view p),.agg (aL a)] (.agg (aH .own (eP p a))):=by
 have c1:=iG p (by omega);have NB:p.aN.length<=274877906944:=by simp only[aI,bQ]at hs;omega
 have GN:eD p.bD<=274877906944:=by simp only[aI]at hs;omega
 have cc:=λb=>IC b a
 simp only[aH]at c1;simp only[aL]at cc;have cK:=wH p.bD ⟨5,a,p.addr.host,[]⟩ (by omega) (by simp only[jL,eV];simp only[aI,aR]at hs;omega);simp only[bN,dD]at cK;refine bM aF func218 ntmps218 ?_;refine aY ?_;refine aO (ι:={k:Nat // k<=p.aN.length/\∀x∈p.aN.take k,uV x.to a<0}) (λt o i=>⟨bC t [(6,.int .i64 i.1)],o⟩)
  (λi=>p.aN.length-i.1) ⟨0,by simp,by simp⟩ aJ ?_
 rintro⟨k,hk,hpre⟩ K1 hK1;simp only[bC,cW,cU]at hK1⊢;have hk1:=oQ (k:=k);by_cases hlt:k<p.aN.length
 .have hg:=aE hlt;have c2:=cc p.aN[k].to;by_cases K4:uV p.aN[k].to a<0
  .have hnx:∀x∈p.aN.take (k+1),uV x.to a<0:=by
    intro x hx;rw[eI hlt,fL]at hx;rcases hx with h|h
    .exact hpre x h
    .simp at h;subst h;exact K4
   have W:=aA hk1 (aA hg (aA hlt K4));refine we ?_;exact hK1 _ ⟨k+1,by omega,hnx⟩ aJ (by simp only;omega)
  .have PR:wP p.aN a=k:=GU hk hpre (λm hm=>by rw[hg]at hm;obtain rfl:=cQ hm;exact K4)
   by_cases hto:p.aN[k].to=a
   .rw [WR (by rw[PR];exact hg) hto];have ce:=oC p.aN[k].to a;rw[sB hto]at ce;simp only[aL]at ce;have W:=aA hk1 (aA hg (aA hlt K4));have c0:=ce;refine we ?_;exact aD results218
   .have Dx:∀m,p.aN[wP p.aN a]? =some m->m.to≠a:=λm hm=>by rw[PR,hg]at hm;obtain rfl:=cQ hm;exact hto
    have ce:=oC p.aN[k].to a;rw[AF hto]at ce;simp only[aL]at ce;rw[QN Dx,PR];unfold wC Cc;have hkt:(p.aN.take k).length=k:=by simp;omega
    obtain⟨m0,ic⟩:∃m:dX,m=⟨a,false,0,[]⟩:=⟨_,rfl⟩;obtain⟨L1,jf⟩:∃l,l=p.aN.take k++m0::p.aN.drop k:=⟨_,rfl⟩;obtain⟨L3,hL3⟩:∃l:List dX,l=p.aN.take k++⟨a,true,2,[]⟩::p.aN.drop k:=⟨_,rfl⟩;have zw:L1.length=p.aN.length+1:=by rw[jf];simp;omega
    have hg1:L1[k]? =some m0:=by rw[jf,hY (by omega),hkt];simp
    have aGj:k<L1.length:=by omega
    have cI:=WQ p.aN m0 k hk (by omega);rw[<-jf,ic]at cI;have cR:=uU {p with aN:=L1} k (by omega) (by simp only;omega) (by simp only;omega);rw[show pF {p with aN:=L1} (k:Int)=⟨5,a,p.addr.host,[]⟩by simp only[pF,mA,hg1,eG,ic]]at cR;have hset:∀h,(L1.map eX).set k [.str (L1[k]'h).to.host,.str (L1[k]'h).to.path,.bool true,.int .i64 2,.str (L1[k]'h).body]=L3.map eX:=by
     intro h;have e:L1[k]'h=m0:=by rw[aE h]at hg1;exact cQ hg1
     rw[e,jf,hL3,ic,oT,oT,sY _ _ (by simp;omega),show k-((p.aN.take k).map eX).length=0 by rw[oY,hkt,zE]];simp
    simp only[aH,dD,eX]at cI cR;by_cases hck:fE p.bD ⟨5,a,p.addr.host,[]⟩=1
    .simp only[hck,gC];rw[<-ic,<-jf];rw[hck]at cK;clear jf hL3 ic;clear hset;have W:=aA hk1 (aA hg (aA hlt K4));have c0:=ce;repeat' first|refine wf ?_|(refine nx ?_;refine sg (hc:=cI) (h:=?_))|(refine sq ?_ ?_<;>intro hc<;>try exact hc.elim)|fail
     have W:=aA aGj hg1;try refine we ?_
     exact aD results218
    .simp only[hck,gS];rw[<-hL3];clear jf hL3 ic;have W:=aA hk1 (aA hg (aA hlt K4));have c0:=ce;repeat' first|refine wf ?_|(refine nx ?_;refine sg (hc:=cI) (h:=?_))|(refine sq ?_ ?_<;>intro hc<;>try exact hc.elim)|fail
     have W:=aA aGj (aA hg1 hck);try refine we ?_
     all_goals try(refine aQ ?_;simp[aP,results218])
     all_goals exact hset _
 .have PR:wP p.aN a=k:=GU hk hpre (λm hm=>by rw[pB (by omega)]at hm;cases hm)
  have Dx:∀m,p.aN[wP p.aN a]? =some m->m.to≠a:=λm hm=>by rw[PR,pB (by omega)]at hm;cases hm
  rw[QN Dx,PR];unfold wC Cc;have hkt:(p.aN.take k).length=k:=by simp;omega
  obtain⟨m0,ic⟩:∃m:dX,m=⟨a,false,0,[]⟩:=⟨_,rfl⟩;obtain⟨L1,jf⟩:∃l,l=p.aN.take k++m0::p.aN.drop k:=⟨_,rfl⟩;obtain⟨L3,hL3⟩:∃l:List dX,l=p.aN.take k++⟨a,true,2,[]⟩::p.aN.drop k:=⟨_,rfl⟩;have zw:L1.length=p.aN.length+1:=by rw[jf];simp;omega
  have hg1:L1[k]? =some m0:=by rw[jf,hY (by omega),hkt];simp
  have aGj:k<L1.length:=by omega
  have cI:=WQ p.aN m0 k hk (by omega);rw[<-jf,ic]at cI;have cR:=uU {p with aN:=L1} k (by omega) (by simp only;omega) (by simp only;omega);rw[show pF {p with aN:=L1} (k:Int)=⟨5,a,p.addr.host,[]⟩by simp only[pF,mA,hg1,eG,ic]]at cR;have hset:∀h,(L1.map eX).set k [.str (L1[k]'h).to.host,.str (L1[k]'h).to.path,.bool true,.int .i64 2,.str (L1[k]'h).body]=L3.map eX:=by
   intro h;have e:L1[k]'h=m0:=by rw[aE h]at hg1;exact cQ hg1
   rw[e,jf,hL3,ic,oT,oT,sY _ _ (by simp;omega),show k-((p.aN.take k).map eX).length=0 by rw[oY,hkt,zE]];simp
  simp only[aH,dD,eX]at cI cR;by_cases hck:fE p.bD ⟨5,a,p.addr.host,[]⟩=1
  .simp only[hck,gC];rw[<-ic,<-jf];rw[hck]at cK;clear jf hL3 ic;clear hset;have W:=aA hk1 hlt;repeat' first|refine wf ?_|(refine nx ?_;refine sg (hc:=cI) (h:=?_))|(refine sq ?_ ?_<;>intro hc<;>try exact hc.elim)|fail
   have W:=aA aGj hg1;try refine we ?_
   exact aD results218
  .simp only[hck,gS];rw[<-hL3];clear jf hL3 ic;have W:=aA hk1 hlt;repeat' first|refine wf ?_|(refine nx ?_;refine sg (hc:=cI) (h:=?_))|(refine sq ?_ ?_<;>intro hc<;>try exact hc.elim)|fail
   have W:=aA aGj (aA hg1 hck);try refine we ?_
   all_goals try(refine aQ ?_;simp[aP,results218])
   all_goals exact hset _
theorem LZ(l:List dX)(k:Nat):List.drop k (List.take l.length (map eX l))=List.drop k (map eX l):=by rw[cY (by simp)]
theorem Ij(l:List dX)(a:aK)(k:Nat)(d:Bool)(c:Int):iV (List.take k (map eX l)++[.str a.host,.str a.path,.bool d,.int .i64 c,.str []]::List.drop k (map eX l))=true:=by
 have e:List.take k (map eX l)++[.str a.host,.str a.path,.bool d,.int .i64 c,.str []]::List.drop k (map eX l)=(l.take k++⟨a,d,c,[]⟩::l.drop k).map eX:=by simp
 rw[e];exact UM _
theorem El[aC prog](p:aG)(a:aK)(hs:aI p<=137438953472)(ha:aR a<=1073741830):Ok prog 127 [.agg (aH .view p),.agg (aL a)] (.agg (aH .own (eP p a))):=by
 have c1:=gK p (by omega);have NB:p.aN.length<=274877906944:=by simp only[aI,bQ]at hs;omega
 have GN:eD p.bD<=274877906944:=by simp only[aI]at hs;omega
 have cc:=λb=>IE b a
 have cK:=wG p.bD ⟨5,a,p.addr.host,[]⟩ (by omega) (by simp only[jL,eV];simp only[aI,aR]at hs;omega);simp only[bN,dD]at cK;simp only[aH]at c1;simp only[aL]at cc;refine bM aF func127 ntmps127 ?_;have W:=trivial;repeat' first|refine st ?_|(refine nx ?_;first|refine sz ?_|refine so ?_)|(refine cx ?_;refine sc (λhc=>?_) (λhc=>?_)<;>try exact hc.elim)|(refine lx ?_;refine sp (λhc=>?_) (λhc=>?_)<;>try exact hc.elim)|refine sx ?_ ?_|refine sy ?_ ?_|fail
 refine aO (ι:={k:Nat // k<=p.aN.length/\∀x∈p.aN.take k,uV x.to a<0}) (λt o i=>⟨bC t [(6,.int .i64 i.1)],o⟩)
  (λi=>p.aN.length-i.1) ⟨0,by simp,by simp⟩ aJ ?_
 rintro⟨k,hk,hpre⟩ K1 hK1;simp only[bC,cW,cU]at hK1⊢;have hk1:=oQ (k:=k);by_cases hlt:k<p.aN.length
 .have hg:=aE hlt;have c2:=cc p.aN[k].to;by_cases K4:uV p.aN[k].to a<0
  .have hnx:∀x∈p.aN.take (k+1),uV x.to a<0:=by
    intro x hx;rw[eI hlt,fL]at hx;rcases hx with h|h
    .exact hpre x h
    .simp at h;subst h;exact K4
   have W:=aA hk1 (aA hg (aA hlt K4));repeat' first|refine st ?_|(refine nx ?_;first|refine sz ?_|refine so ?_)|(refine cx ?_;refine sc (λhc=>?_) (λhc=>?_)<;>try exact hc.elim)|(refine lx ?_;refine sp (λhc=>?_) (λhc=>?_)<;>try exact hc.elim)|refine sx ?_ ?_|refine sy ?_ ?_|fail
   exact hK1 _ ⟨k+1,by omega,hnx⟩ aJ (by simp only;omega)
  .have PR:wP p.aN a=k:=GU hk hpre (λm hm=>by rw[hg]at hm;obtain rfl:=cQ hm;exact K4)
   by_cases hto:p.aN[k].to=a
   .rw [WR (by rw[PR];exact hg) hto];have ce:=oC p.aN[k].to a;rw[sB hto]at ce;simp only[aL]at ce;have W:=aA hk1 (aA hg (aA hlt K4));have c0:=ce;repeat' first|refine st ?_|(refine nx ?_;first|refine sz ?_|refine so ?_)|(refine cx ?_;refine sc (λhc=>?_) (λhc=>?_)<;>try exact hc.elim)|(refine lx ?_;refine sp (λhc=>?_) (λhc=>?_)<;>try exact hc.elim)|refine sx ?_ ?_|refine sy ?_ ?_|fail
    exact aD results127
   .have Dx:∀m,p.aN[wP p.aN a]? =some m->m.to≠a:=λm hm=>by rw[PR,hg]at hm;obtain rfl:=cQ hm;exact hto
    have ce:=oC p.aN[k].to a;rw[AF hto]at ce;simp only[aL]at ce;rw[QN Dx,PR];unfold wC Cc;by_cases hck:fE p.bD ⟨5,a,p.addr.host,[]⟩=1
    .simp only[hck,gC];rw[hck]at cK;have W:=aA hk1 (aA hg (aA hlt (aA K4 hk)));have c0:=ce;repeat' first|refine st ?_|(refine nx ?_;first|refine sz ?_|refine so ?_)|(refine cx ?_;refine sc (λhc=>?_) (λhc=>?_)<;>try exact hc.elim)|(refine lx ?_;refine sp (λhc=>?_) (λhc=>?_)<;>try exact hc.elim)|refine sx ?_ ?_|refine sy ?_ ?_|fail
     all_goals try(refine aQ ?_;simp[aP,results127])
     all_goals exact⟨LZ p.aN k,Ij p.aN a k _ _⟩
    .simp only[hck,gS];have W:=aA hk1 (aA hg (aA hlt (aA K4 (aA hk hck))));have c0:=ce;repeat' first|refine st ?_|(refine nx ?_;first|refine sz ?_|refine so ?_)|(refine cx ?_;refine sc (λhc=>?_) (λhc=>?_)<;>try exact hc.elim)|(refine lx ?_;refine sp (λhc=>?_) (λhc=>?_)<;>try exact hc.elim)|refine sx ?_ ?_|refine sy ?_ ?_|fail
     all_goals try(refine aQ ?_;simp[aP,results127])
     all_goals exact⟨LZ p.aN k,Ij p.aN a k _ _⟩
 .have PR:wP p.aN a=k:=GU hk hpre (λm hm=>by rw[pB (by omega)]at hm;cases hm)
  have Dx:∀m,p.aN[wP p.aN a]? =some m->m.to≠a:=λm hm=>by rw[PR,pB (by omega)]at hm;cases hm
  rw[QN Dx,PR];unfold wC Cc;by_cases hck:fE p.bD ⟨5,a,p.addr.host,[]⟩=1
  .simp only[hck,gC];rw[hck]at cK;have W:=aA hk1 (aA hlt hk);repeat' first|refine st ?_|(refine nx ?_;first|refine sz ?_|refine so ?_)|(refine cx ?_;refine sc (λhc=>?_) (λhc=>?_)<;>try exact hc.elim)|(refine lx ?_;refine sp (λhc=>?_) (λhc=>?_)<;>try exact hc.elim)|refine sx ?_ ?_|refine sy ?_ ?_|fail
   all_goals try(refine aQ ?_;simp[aP,results127])
   all_goals exact⟨LZ p.aN k,Ij p.aN a k _ _⟩
  .simp only[hck,gS];have W:=aA hk1 (aA hlt (aA hk hck));repeat' first|refine st ?_|(refine nx ?_;first|refine sz ?_|refine so ?_)|(refine cx ?_;refine sc (λhc=>?_) (λhc=>?_)<;>try exact hc.elim)|(refine lx ?_;refine sp (λhc=>?_) (λhc=>?_)<;>try exact hc.elim)|refine sx ?_ ?_|refine sy ?_ ?_|fail
   all_goals try(refine aQ ?_;simp[aP,results127])
   all_goals exact⟨LZ p.aN k,Ij p.aN a k _ _⟩
end Go.Proofs.YtfbefblglejcaaaGreatDoor
