/- Proved here: steps towards the statement of this claim. No condition. -/
import Derived.Test.YtjkdolejalpflaaGreatDoorZQU1
import Derived.Test.YtjkdolejalpflaaGreatDoorZYShelf
import Derived.Test.YtjkdolejalpflaaGreatDoorZF5
import Derived.Test.YtjkdolejalpflaaGreatDoorZQDR1
set_option linter.all false
set_option maxRecDepth 4000
set_option maxHeartbeats 4000000
namespace Go.Proofs.YtjkdolejalpflaaGreatDoor
open Go.Aw Proofs.Tryz List IntKind
theorem F8[aB prog][eD prog](n:Int)(h: -9223372036854775808<=n/\n<=9223372036854775807):Ok prog 174 [.int .i64 n] (.str (Lib.itoa n)):=D6 Tryz.laysM171 n h.1 h.2
theorem eH[aB prog][eD prog](n:Int)(h: -9223372036854775808<=n/\n<=9223372036854775807):Ok prog 142 [.int .i64 n] (.str (Lib.itoa n)):=by have h1:=F8 n h;refine dA aJ func142 ntmps142 ?_;refine nG ?_;exact aO results142
theorem dV[aB prog][eD prog](n:Int)(h: -9223372036854775808<=n/\n<=9223372036854775807):Ok prog 114 [.int .i64 n] (.str (Lib.itoa n)):=by
 by_cases h0:n=0
 .subst h0;refine dA aJ func114 ntmps114 ?_;refine nG ?_;all_goals try(refine aP ?_;simp[aT,results114])
  all_goals exact Yd.symm
 .refine dA aJ func114 ntmps114 ?_;have W:=h0;refine wl ?_;refine aY (ι:={p:Int×aX // (-9223372036854775808<=p.1/\p.1<=9223372036854775807)/\EA p.1.natAbs++p.2=EA n.natAbs}) (λt o i=>⟨bN t [(4,.int .i64 i.1.1),(3,.str i.1.2),(5,.undef)],o⟩)
   (λi=>i.1.1.natAbs) ⟨(n,[]),h,by simp⟩ aC ?_
  rintro⟨⟨x,s⟩,⟨hx1,hx2⟩,hi⟩ K1 hK1;simp only[bN,cH,cG]at hK1 hx1 hx2 hi⊢;have hsl:=CH length hi;have hnl:=iy n h.1 h.2;rw[eJ]at hsl;have hs1:1+s.length<=9223372036854775807:=by omega
  have hs2:s.length<=9223372036854775806:=by omega
  clear hsl hnl;by_cases hx:x=0
  .subst hx;have hs:s=EA n.natAbs:=by simpa [EA]using hi
   have W:=aA hs1 hs2;repeat' first|refine wg ?_|(refine sq ?_ ?_<;>intro hc<;>try exact hc.elim)|fail
   .all_goals try(refine aP ?_;simp[aT,results114])
    exact(itoa_neg (by omega) hs).symm
   .all_goals try(refine aP ?_;simp[aT,results114])
    exact(iq h0 (by omega) hs).symm
  .obtain ⟨r,q,hr0,hr9,hq,hq1,hq2,hqa,hr,ht⟩:=Vm x hx1 hx2;have hp:=Yc x.natAbs (by omega);have hu8:=iw (48+r) (by omega) (by omega);have hb:UInt8.ofNat (48+r).toNat=UInt8.ofNat (48+x.natAbs%10):=by congr 1;omega
   have hi2:EA q.natAbs++UInt8.ofNat (48+r).toNat::s=EA n.natAbs:=by rw[<-hi,hp,hqa,hb];simp
   have hm:q.natAbs<x.natAbs:=by omega
   clear hr hb hp;rcases ht with ht|⟨ht,hrp⟩
   .have W:=aA hx (aA ht (aA hq (aA hu8 (aA hs1 hs2))));refine wl ?_;refine hK1 _ ⟨(q,UInt8.ofNat (48+r).toNat::s),⟨hq1,hq2⟩,hi2⟩ (aS 0) (by simp only;omega)
   .have W:=aA hx (aA ht (aA hq (aA hu8 (aA hs1 hs2))));refine wl ?_;refine hK1 _ ⟨(q,UInt8.ofNat (48+r).toNat::s),⟨hq1,hq2⟩,hi2⟩ (aS 0) (by simp only;omega)
theorem eX[aB prog](a b c:Int):Ok prog 21 [.int .i64 a,.int .i64 b,.int .i64 c] (.bool (decide (b<=a)&&decide (a<=c))):=by
 refine dA aJ func21 ntmps21 ?_;have W:=trivial;repeat' first|refine wg ?_|(refine sq ?_ ?_<;>intro hc<;>try exact hc.elim)|fail
 all_goals try(refine aP ?_;simp[aT,results21])
 all_goals (first|(simp_all;done)|(simp_all;omega))
theorem kC[aB prog](a b c:Int):Ok prog 140 [.int .i64 a,.int .i64 b,.int .i64 c] (.bool (decide (b<=a)&&decide (a<=c))):=by
 refine dA aJ func140 ntmps140 ?_;have W:=trivial;repeat' first|refine wg ?_|(refine sq ?_ ?_<;>intro hc<;>try exact hc.elim)|fail
 all_goals try(refine aP ?_;simp[aT,results140])
 all_goals (first|(simp_all;done)|(simp_all;omega))
theorem Xn{s:aX}{k:Nat}(h:k<s.length)(hc:lowerB s[k]=false):bP s=false:=by
 have:s.all lowerB=false:=by rw[all_eq_false];exact⟨s[k],mL h,by simp[hc]⟩
 simp[bP,this]
theorem Xo{s:aX}{k:Nat}(h:k<s.length)(hc:(s[k].toNat:Int)<97):bP s=false:=Xn h (by simp[lowerB];omega)
theorem Xp{s:aX}{k:Nat}(h:k<s.length)(hc:122<(s[k].toNat:Int)):bP s=false:=Xn h (by simp[lowerB];omega)
theorem OW{c:UInt8}(h:97<=(c.toNat:Int))(hc:(c.toNat:Int)<=122):lowerB c=true:=by simp[lowerB];omega
theorem Tq{s:aX}(h:∀x∈s,lowerB x=true):bP s=(decide ((1:Int)<=s.length)&&decide ((s.length:Int)<=8)):=by
 have:s.all lowerB=true:=gR.2 h;have h1:decide ((1:Int)<=s.length)=decide (1<=s.length):=by simp only[pZ];omega
 have h2:decide ((s.length:Int)<=8)=decide (s.length<=8):=by simp only[pZ];omega
 rw[bP,this,h1,h2,AH]
theorem dX[aB prog](s:aX)(hl:s.length<=1099511627776):Ok prog 112 [.str s] (.bool (bP s)):=by
 have h1:=eX s.length 1 8;refine dA aJ func112 ntmps112 ?_;refine nG ?_;refine aY (ι:={k:Nat // k<=s.length/\∀x∈s.take k,lowerB x=true}) (λt o i=>⟨bN t [(3,.int .i64 i.1)],o⟩)
  (λi=>s.length-i.1) ⟨0,by simp,by simp⟩ aC ?_
 rintro⟨k,hk,hi⟩ K1 hK1;simp only[bN,cH,cG]at hK1⊢;have hk1:=vJ (k:=k);by_cases hlt:k<s.length
 .have hg:=aE hlt;have W:=aA hk1 (aA hg hlt);repeat' first|refine wg ?_|(refine sq ?_ ?_<;>intro hc<;>try exact hc.elim)|fail
  .skip
   all_goals try(refine aP ?_;simp[aT,results112])
   rw[Xo hlt (by assumption)]
  .skip
   all_goals try(refine aP ?_;simp[aT,results112])
   rw[Xp hlt (by assumption)]
  .skip
   exact hK1 _ ⟨k+1,by omega,gL hlt hi (OW (by assumption) (by assumption))⟩ aC (by simp only;omega)
 .have W:=hk1;refine wl ?_;all_goals try(refine aP ?_;simp[aT,results112])
  rw[Tq (nS (by omega) hi)]
theorem fQ[aB prog](s:aX)(hl:s.length<=1099511627776):Ok prog 106 [.str s] (.bool (bP s)):=by
 have h1:=kC s.length 1 8;refine dA aJ func106 ntmps106 ?_;refine nG ?_;refine aY (ι:={k:Nat // k<=s.length/\∀x∈s.take k,lowerB x=true}) (λt o i=>⟨bN t [(3,.int .i64 i.1)],o⟩)
  (λi=>s.length-i.1) ⟨0,by simp,by simp⟩ aC ?_
 rintro⟨k,hk,hi⟩ K1 hK1;simp only[bN,cH,cG]at hK1⊢;have hk1:=vJ (k:=k);by_cases hlt:k<s.length
 .have hg:=aE hlt;have W:=aA hk1 (aA hg hlt);repeat' first|refine wg ?_|(refine sq ?_ ?_<;>intro hc<;>try exact hc.elim)|fail
  .skip
   all_goals try(refine aP ?_;simp[aT,results106])
   rw[Xo hlt (by assumption)]
  .skip
   all_goals try(refine aP ?_;simp[aT,results106])
   rw[Xp hlt (by assumption)]
  .skip
   exact hK1 _ ⟨k+1,by omega,gL hlt hi (OW (by assumption) (by assumption))⟩ aC (by simp only;omega)
 .have W:=hk1;refine wl ?_;all_goals try(refine aP ?_;simp[aT,results106])
  rw[Tq (nS (by omega) hi)]
theorem uY[aB prog](a:gH)(hl:eB a<=1099511627776):Ok prog 149 [.agg (dI a)] (.bool (uK a)):=by
 simp only[eB]at hl;have h1:=dX a.host (by omega);have h2:=dX a.path (by omega);refine dA aJ func149 ntmps149 ?_;have W:=trivial;repeat' first|refine wg ?_|(refine sq ?_ ?_<;>intro hc<;>try exact hc.elim)|fail
 all_goals try(refine aP ?_;simp[aT,results149])
 all_goals simp_all[uK]
theorem zH[aB prog](a:gH)(hl:eB a<=1099511627776):Ok prog 124 [.agg (dI a)] (.bool (uK a)):=by
 simp only[eB]at hl;have h1:=fQ a.host (by omega);have h2:=fQ a.path (by omega);refine dA aJ func124 ntmps124 ?_;have W:=trivial;repeat' first|refine wg ?_|(refine sq ?_ ?_<;>intro hc<;>try exact hc.elim)|fail
 all_goals try(refine aP ?_;simp[aT,results124])
 all_goals simp_all[uK]
theorem iU[aB prog](l:List lD)(n:aX)(hl:l.length<=1099511627776):Ok prog 83 [.sl .view 2 (l.map oG),.str n] (.fH [.str (aI l n).1,.bool (aI l n).2]):=by
 refine dA aJ func83 ntmps83 ?_;refine nG ?_;refine aY (ι:={k:Nat // k<=l.length/\∀x∈l.take k,mI n x=false}) (λt o i=>⟨bN t [(6,.int .i64 i.1)],o⟩)
  (λi=>l.length-i.1) ⟨0,by simp,by simp⟩ aC ?_
 rintro⟨k,hk,hi⟩ K1 hK1;simp only[bN,cH,cG]at hK1⊢;have hk1:=vJ (k:=k);by_cases hlt:k<l.length
 .have hg:=aE hlt;have W:=aA hk1 (aA hg hlt);repeat' first|refine wg ?_|(refine sq ?_ ?_<;>intro hc<;>try exact hc.elim)|fail
  .all_goals try(refine aP ?_;simp[aT,results83])
   rw[II hlt (by simpa [mI]using hc) hi];simp
  .exact hK1 _ ⟨k+1,by omega,gL hlt hi (by simpa [mI]using hc)⟩ aC (by simp only;omega)
 .have W:=hk1;refine wl ?_;all_goals try(refine aP ?_;simp[aT,results83])
  rw[DI (nS (by omega) hi)];simp
theorem ko[aB prog](g:lD)(n:aX):Ok prog 88 [.agg (oG g),.eF .view [.str n] 0] (.bool (mI n g)):=by
 refine dA aJ func88 ntmps88 ?_;refine nG ?_;all_goals try(refine aP ?_;simp[aT,results88])
 rw[BW];simp[mI]
theorem Qm[aB prog](l:List lD)(n:aX)(hl:l.length<=1099511627776):Ok prog 87 [.sl .view 2 (l.map oG),.fn 88 [.eF .view [.str n] 0]] (.int .i64 (LB (mI n) l)):=by
 refine dA aJ func87 ntmps87 ?_;refine nG ?_;refine aY (ι:={k:Nat // k<=l.length/\∀x∈l.take k,mI n x=false}) (λt o i=>⟨bN t [(8,.int .i64 i.1),(5,.undef)],o⟩)
  (λi=>l.length-i.1) ⟨0,by simp,by simp⟩ aC ?_
 rintro⟨k,hk,hi⟩ K1 hK1;simp only[bN,cH,cG]at hK1⊢;have hk1:=vJ (k:=k);by_cases hlt:k<l.length
 .have hg:=aE hlt;have W:=aA hk1 (aA hg hlt);have c0:=ko l[k] n;repeat' first|refine wg ?_|(refine sq ?_ ?_<;>intro hc<;>try exact hc.elim)|fail
  .all_goals try(refine aP ?_;simp[aT,results87])
   rw[Xj hlt (by simpa using hc) hi]
  .exact hK1 _ ⟨k+1,by omega,gL hlt hi (by simpa using hc)⟩ aC (by simp only;omega)
 .have W:=hk1;refine wl ?_;all_goals try(refine aP ?_;simp[aT,results87])
  rw[Hf (nS (by omega) hi)]
theorem F9{α:Type}(f:α->Bool)(l:List α)(h:l.findIdx f<l.length):LB f l=(l.findIdx f:Nat):=by unfold LB;rw[eA];exact any_eq_true.2 ⟨_,mL h,findIdx_getElem (w:=h)⟩
theorem G5{α:Type}(f:α->Bool)(l:List α)(h:¬l.findIdx f<l.length):LB f l= -1:=by
 refine Hf λx hx=> ?_
 have he:l.findIdx f=l.length:=by have:=findIdx_le_length (p:=f) (xs:=l);omega
 have:=findIdx_eq_length.1 he x hx;simpa using this
theorem Tu(l:List lD)(n:aX)(h:l.findIdx (mI n)<l.length):aI l n=(l[l.findIdx (mI n)].value,true):=by
 refine II h (findIdx_getElem (w:=h)) ?_;intro x hx;obtain⟨i,hi,rfl⟩:=getElem_of_mem hx;have hi':i<l.findIdx (mI n):=by have:=hi;simp at this;omega
 rw[getElem_take];have:=not_of_lt_findIdx (p:=(mI n)) (xs:=l) hi';simpa using this
theorem Tv(l:List lD)(n:aX)(h:¬l.findIdx (mI n)<l.length):aI l n=([],false):=by
 refine DI λx hx=> ?_
 have he:l.findIdx (mI n)=l.length:=by have:=findIdx_le_length (p:=mI n) (xs:=l);omega
 have:=findIdx_eq_length.1 he x hx;simpa using this
theorem jP[aB prog](l:List lD)(n:aX)(hl:l.length<=1099511627776):Ok prog 59 [.sl .view 2 (l.map oG),.str n] (.fH [.str (aI l n).1,.bool (aI l n).2]):=by
 have hF:=Qm l n hl;by_cases h:l.findIdx (mI n)<l.length
 .rw [F9 _ _ h]at hF;rw[Tu _ _ h];generalize hk:l.findIdx (mI n)=k at*;have hg:=aE h;refine dA aJ func59 ntmps59 ?_;have W:=hg;have V:=h;have c0:=hF;refine wl ?_;all_goals try(refine aP ?_;simp[aT,results59])
  all_goals simp
 .rw [G5 _ _ h]at hF;rw[Tv _ _ h];refine dA aJ func59 ntmps59 ?_;have c0:=hF;refine nG ?_;all_goals try(refine aP ?_;simp[aT,results59])
  all_goals simp
theorem EG[aB prog](s:aX)(c:UInt8):OkN prog 194 [.str s,.int .u8 c.toNat] (.int .i64 (Sy c s)):=
 Nn (fn:=f194) (by kernel_rfl) (by decide+kernel) rfl (by decide+kernel) (by rfl) s c
end Go.Proofs.YtjkdolejalpflaaGreatDoor
