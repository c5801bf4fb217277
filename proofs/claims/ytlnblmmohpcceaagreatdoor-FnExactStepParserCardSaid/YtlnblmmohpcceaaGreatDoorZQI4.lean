/- Proved here: steps towards the statement of this claim. No condition. -/
import Derived.Test.YtlnblmmohpcceaaGreatDoorZQI1
import Derived.Test.YtlnblmmohpcceaaGreatDoorZQTKB
set_option linter.all false
set_option maxRecDepth 8000
set_option maxHeartbeats 8000000
namespace Go.Proofs.YtlnblmmohpcceaaGreatDoor
open Go.Aw Proofs.Tryz List IntKind
theorem Ry {p:aP} {a:aT} {m:dD} (h:p.aX[wR p.aX a]? =some m) (hm:m.to=a):kG p a=p:=by
 unfold kG;rw [h];simp [hm]
theorem LG {p:aP} {a:aT} (h:∀m,p.aX[wR p.aX a]? =some m->m.to≠a):kG p a={p with aX:=vY p a (wR p.aX a)}:=by
 unfold kG
 split
 ·rename_i m hm
  rw [if_neg (h m hm)]
 ·rfl
theorem Jy [aD prog] (p:aP) (a:aT) (hs:aL p<=137438953472) (ha:aV a<=1073741824):Ok prog 280 [.agg (aM .view p),.agg (aK a)] (.agg (aM .own (kG p a))):=by
 have c1:=jN p (by omega)
 have Yv:p.aX.length<=274877906944:=by simp only [aL,bP] at hs;omega
 have V8:iC p.cB<=274877906944:=by simp only [aL] at hs;omega
 have cc:=fun b=>Eo b a
 simp only [aM] at c1
 simp only [aK] at cc
 have cK:=xO p.cB ⟨5,a,p.addr.host,[]⟩ (by omega) (by simp only [qE,length_nil];simp only [aL,aV] at hs;omega)
 simp only [bV,jM] at cK
 refine bR aAc func280 ntmps280 ?_
 have W:=trivial
 repeat' first|refine we ?_|(refine sq ?_ ?_<;>intro hc<;>try exact hc.elim)|fail
 refine aJ (ι:={k:Nat // k<=p.aX.length/\∀x∈p.aX.take k,qO x.to a < 0}) (fun t o i=>⟨aZ t [(6,.int .i64 i.1)],o⟩)
  (fun i=>p.aX.length - i.1) ⟨0,by simp,by simp⟩ (aI (by simp) (by simp)) ?_
 rintro ⟨k,hk,hpre⟩ K1 hK1
 simp only [aZ,set_cons_succ,set_cons_zero] at hK1⊢
 have hk1:i64.wrap ((k:Int)+1)=((k+1:Nat):Int):=by rw [wrap64]<;>omega
 by_cases hlt:k < p.aX.length
 ·have hg:=getElem?_eq_getElem hlt
  have c2:=cc p.aX[k].to
  by_cases Zr:qO p.aX[k].to a < 0
  ·have hnx:∀x∈p.aX.take (k+1),qO x.to a < 0:=by
    intro x hx
    rw [take_succ_eq_append_getElem hlt,mem_append] at hx
    rcases hx with h|h
    ·exact hpre x h
    ·simp at h;subst h;exact Zr
   have W:=aA hk1 (aA hg (aA hlt Zr))
   repeat' first|refine we ?_|(refine sq ?_ ?_<;>intro hc<;>try exact hc.elim)|fail
   exact hK1 _ ⟨k+1,by omega,hnx⟩ (aI (by simp) (by simp)) (by simp only;omega)
  ·have Jl:wR p.aX a=k:=Dz hk hpre (fun m hm=>by rw [hg] at hm;obtain rfl:=Option.some.inj hm;exact Zr)
   by_cases hto:p.aX[k].to=a
   ·rw [Ry (by rw [Jl];exact hg) hto]
    have ce:=yB p.aX[k].to a
    rw [decide_eq_true hto] at ce
    simp only [aK] at ce
    have W:=aA hk1 (aA hg (aA hlt Zr))
    have c0:=ce
    repeat' first|refine we ?_|(refine sq ?_ ?_<;>intro hc<;>try exact hc.elim)|fail
    all_goals try(refine ⟨.inr rfl,?_⟩;simp [aB,results280])
   ·have Ir:∀m,p.aX[wR p.aX a]? =some m->m.to≠a:=fun m hm=>by rw [Jl,hg] at hm;obtain rfl:=Option.some.inj hm;exact hto
    have ce:=yB p.aX[k].to a
    rw [decide_eq_false hto] at ce
    simp only [aK] at ce
    rw [LG Ir,Jl]
    unfold vY Cb
    have hkt:(p.aX.take k).length=k:=by simp;omega
    obtain ⟨m0,VK⟩:∃m:dD,m=⟨a,false,0,[]⟩:=⟨_,rfl⟩
    obtain ⟨L1,YL⟩:∃l,l=p.aX.take k++m0::p.aX.drop k:=⟨_,rfl⟩
    obtain ⟨L3,ji⟩:∃l:List dD,l=p.aX.take k++⟨a,true,2,[]⟩::p.aX.drop k:=⟨_,rfl⟩
    have YJ:L1.length=p.aX.length+1:=by rw [YL];simp;omega
    have hg1:L1[k]? =some m0:=by rw [YL,getElem?_append_right (by omega),hkt];simp
    have W9:k < L1.length:=by omega
    have cI:=Rx p.aX m0 k hk (by omega)
    rw [<-YL,VK] at cI
    have cR:=Ao {p with aX:=L1} k (by omega) (by simp only;omega) (by simp only;omega)
    rw [show FM {p with aX:=L1} (k:Int)=⟨5,a,p.addr.host,[]⟩ by simp only [FM,Int.toNat_natCast,hg1,Dw,VK]] at cR
    have hset:∀h,(L1.map bO).set k [.str (L1[k]'h).to.host,.str (L1[k]'h).to.path,.bool true,.int .i64 2,.str (L1[k]'h).body]=L3.map bO:=by
     intro h
     have e:L1[k]'h=m0:=by rw [getElem?_eq_getElem h] at hg1;exact Option.some.inj hg1
     rw [e,YL,ji,VK,map_append,map_append,set_append_right _ _ (by simp;omega),show k - ((p.aX.take k).map bO).length=0 by rw [length_map,hkt,Nat.sub_self]]
     simp
    simp only [aM,jM,bO] at cI cR
    by_cases hck:gP p.cB ⟨5,a,p.addr.host,[]⟩=1
    ·simp only [hck,if_true]
     rw [<-VK,<-YL]
     rw [hck] at cK
     clear YL ji VK
     clear hset
     have W:=aA hk1 (aA hg (aA hlt Zr))
     have c0:=ce
     repeat' first|refine we ?_|(refine nx ?_;refine sg (hc:=cI) (h:=?_))|(refine sq ?_ ?_<;>intro hc<;>try exact hc.elim)|fail
     have W:=aA W9 hg1
     repeat' first|refine we ?_|(refine sq ?_ ?_<;>intro hc<;>try exact hc.elim)|fail
     all_goals try(refine ⟨.inr rfl,?_⟩;simp [aB,results280])
    ·simp only [hck,if_false]
     rw [<-ji]
     clear YL ji VK
     have W:=aA hk1 (aA hg (aA hlt Zr))
     have c0:=ce
     repeat' first|refine we ?_|(refine nx ?_;refine sg (hc:=cI) (h:=?_))|(refine sq ?_ ?_<;>intro hc<;>try exact hc.elim)|fail
     have W:=aA W9 (aA hg1 hck)
     repeat' first|refine we ?_|(refine sq ?_ ?_<;>intro hc<;>try exact hc.elim)|fail
     all_goals try(refine ⟨.inr rfl,?_⟩;simp [aB,results280])
     all_goals exact hset _
 ·have Jl:wR p.aX a=k:=Dz hk hpre (fun m hm=>by rw [getElem?_eq_none (by omega)] at hm;cases hm)
  have Ir:∀m,p.aX[wR p.aX a]? =some m->m.to≠a:=fun m hm=>by rw [Jl,getElem?_eq_none (by omega)] at hm;cases hm
  rw [LG Ir,Jl]
  unfold vY Cb
  have hkt:(p.aX.take k).length=k:=by simp;omega
  obtain ⟨m0,VK⟩:∃m:dD,m=⟨a,false,0,[]⟩:=⟨_,rfl⟩
  obtain ⟨L1,YL⟩:∃l,l=p.aX.take k++m0::p.aX.drop k:=⟨_,rfl⟩
  obtain ⟨L3,ji⟩:∃l:List dD,l=p.aX.take k++⟨a,true,2,[]⟩::p.aX.drop k:=⟨_,rfl⟩
  have YJ:L1.length=p.aX.length+1:=by rw [YL];simp;omega
  have hg1:L1[k]? =some m0:=by rw [YL,getElem?_append_right (by omega),hkt];simp
  have W9:k < L1.length:=by omega
  have cI:=Rx p.aX m0 k hk (by omega)
  rw [<-YL,VK] at cI
  have cR:=Ao {p with aX:=L1} k (by omega) (by simp only;omega) (by simp only;omega)
  rw [show FM {p with aX:=L1} (k:Int)=⟨5,a,p.addr.host,[]⟩ by simp only [FM,Int.toNat_natCast,hg1,Dw,VK]] at cR
  have hset:∀h,(L1.map bO).set k [.str (L1[k]'h).to.host,.str (L1[k]'h).to.path,.bool true,.int .i64 2,.str (L1[k]'h).body]=L3.map bO:=by
   intro h
   have e:L1[k]'h=m0:=by rw [getElem?_eq_getElem h] at hg1;exact Option.some.inj hg1
   rw [e,YL,ji,VK,map_append,map_append,set_append_right _ _ (by simp;omega),show k - ((p.aX.take k).map bO).length=0 by rw [length_map,hkt,Nat.sub_self]]
   simp
  simp only [aM,jM,bO] at cI cR
  by_cases hck:gP p.cB ⟨5,a,p.addr.host,[]⟩=1
  ·simp only [hck,if_true]
   rw [<-VK,<-YL]
   rw [hck] at cK
   clear YL ji VK
   clear hset
   have W:=aA hk1 hlt
   repeat' first|refine we ?_|(refine nx ?_;refine sg (hc:=cI) (h:=?_))|(refine sq ?_ ?_<;>intro hc<;>try exact hc.elim)|fail
   have W:=aA W9 hg1
   repeat' first|refine we ?_|(refine sq ?_ ?_<;>intro hc<;>try exact hc.elim)|fail
   all_goals try(refine ⟨.inr rfl,?_⟩;simp [aB,results280])
  ·simp only [hck,if_false]
   rw [<-ji]
   clear YL ji VK
   have W:=aA hk1 hlt
   repeat' first|refine we ?_|(refine nx ?_;refine sg (hc:=cI) (h:=?_))|(refine sq ?_ ?_<;>intro hc<;>try exact hc.elim)|fail
   have W:=aA W9 (aA hg1 hck)
   repeat' first|refine we ?_|(refine sq ?_ ?_<;>intro hc<;>try exact hc.elim)|fail
   all_goals try(refine ⟨.inr rfl,?_⟩;simp [aB,results280])
   all_goals exact hset _
theorem Hq (l:List dD) (k:Nat):drop k (take l.length (map bO l))=drop k (map bO l):=by rw [take_of_length_le (by simp)]
theorem Ei (l:List dD) (a:aT) (k:Nat) (d:Bool) (c:Int):gF (take k (map bO l)++[.str a.host,.str a.path,.bool d,.int .i64 c,.str []]::drop k (map bO l))=true:=by
 have e:take k (map bO l)++[.str a.host,.str a.path,.bool d,.int .i64 c,.str []]::drop k (map bO l)=(l.take k++⟨a,d,c,[]⟩::l.drop k).map bO:=by simp
 rw [e];exact Pt _
theorem Jz [aD prog] (p:aP) (a:aT) (hs:aL p<=137438953472) (ha:aV a<=1073741824):Ok prog 276 [.agg (aM .view p),.agg (aK a)] (.agg (aM .own (kG p a))):=by
 have c1:=iD p (by omega)
 have Yv:p.aX.length<=274877906944:=by simp only [aL,bP] at hs;omega
 have V8:iC p.cB<=274877906944:=by simp only [aL] at hs;omega
 have cc:=fun b=>Ep b a
 have cK:=xN p.cB ⟨5,a,p.addr.host,[]⟩ (by omega) (by simp only [qE,length_nil];simp only [aL,aV] at hs;omega)
 simp only [bV,jM] at cK
 simp only [aM] at c1
 simp only [aK] at cc
 refine bR aAc func276 ntmps276 ?_
 have W:=trivial
 repeat' first|refine st ?_|(refine nx ?_;first|refine sz ?_|refine so ?_)|(refine cx ?_;refine sc (fun hc=>?_) (fun hc=>?_)<;>try exact hc.elim)|(refine lx ?_;refine sp (fun hc=>?_) (fun hc=>?_)<;>try exact hc.elim)|refine sx ?_ ?_|refine sy ?_ ?_|fail
 refine aJ (ι:={k:Nat // k<=p.aX.length/\∀x∈p.aX.take k,qO x.to a < 0}) (fun t o i=>⟨aZ t [(6,.int .i64 i.1)],o⟩)
  (fun i=>p.aX.length - i.1) ⟨0,by simp,by simp⟩ (aI (by simp) (by simp)) ?_
 rintro ⟨k,hk,hpre⟩ K1 hK1
 simp only [aZ,set_cons_succ,set_cons_zero] at hK1⊢
 have hk1:i64.wrap ((k:Int)+1)=((k+1:Nat):Int):=by rw [wrap64]<;>omega
 by_cases hlt:k < p.aX.length
 ·have hg:=getElem?_eq_getElem hlt
  have c2:=cc p.aX[k].to
  by_cases Zr:qO p.aX[k].to a < 0
  ·have hnx:∀x∈p.aX.take (k+1),qO x.to a < 0:=by
    intro x hx
    rw [take_succ_eq_append_getElem hlt,mem_append] at hx
    rcases hx with h|h
    ·exact hpre x h
    ·simp at h;subst h;exact Zr
   have W:=aA hk1 (aA hg (aA hlt Zr))
   repeat' first|refine st ?_|(refine nx ?_;first|refine sz ?_|refine so ?_)|(refine cx ?_;refine sc (fun hc=>?_) (fun hc=>?_)<;>try exact hc.elim)|(refine lx ?_;refine sp (fun hc=>?_) (fun hc=>?_)<;>try exact hc.elim)|refine sx ?_ ?_|refine sy ?_ ?_|fail
   exact hK1 _ ⟨k+1,by omega,hnx⟩ (aI (by simp) (by simp)) (by simp only;omega)
  ·have Jl:wR p.aX a=k:=Dz hk hpre (fun m hm=>by rw [hg] at hm;obtain rfl:=Option.some.inj hm;exact Zr)
   by_cases hto:p.aX[k].to=a
   ·rw [Ry (by rw [Jl];exact hg) hto]
    have ce:=yB p.aX[k].to a
    rw [decide_eq_true hto] at ce
    simp only [aK] at ce
    have W:=aA hk1 (aA hg (aA hlt Zr))
    have c0:=ce
    repeat' first|refine st ?_|(refine nx ?_;first|refine sz ?_|refine so ?_)|(refine cx ?_;refine sc (fun hc=>?_) (fun hc=>?_)<;>try exact hc.elim)|(refine lx ?_;refine sp (fun hc=>?_) (fun hc=>?_)<;>try exact hc.elim)|refine sx ?_ ?_|refine sy ?_ ?_|fail
    all_goals try(refine ⟨.inr rfl,?_⟩;simp [aB,results276])
   ·have Ir:∀m,p.aX[wR p.aX a]? =some m->m.to≠a:=fun m hm=>by rw [Jl,hg] at hm;obtain rfl:=Option.some.inj hm;exact hto
    have ce:=yB p.aX[k].to a
    rw [decide_eq_false hto] at ce
    simp only [aK] at ce
    rw [LG Ir,Jl]
    unfold vY Cb
    by_cases hck:gP p.cB ⟨5,a,p.addr.host,[]⟩=1
    ·simp only [hck,if_true]
     rw [hck] at cK
     have W:=aA hk1 (aA hg (aA hlt (aA Zr hk)))
     have c0:=ce
     repeat' first|refine st ?_|(refine nx ?_;first|refine sz ?_|refine so ?_)|(refine cx ?_;refine sc (fun hc=>?_) (fun hc=>?_)<;>try exact hc.elim)|(refine lx ?_;refine sp (fun hc=>?_) (fun hc=>?_)<;>try exact hc.elim)|refine sx ?_ ?_|refine sy ?_ ?_|fail
     all_goals try(refine ⟨.inr rfl,?_⟩;simp [aB,results276])
     all_goals exact ⟨Hq p.aX k,Ei p.aX a k _ _⟩
    ·simp only [hck,if_false]
     have W:=aA hk1 (aA hg (aA hlt (aA Zr (aA hk hck))))
     have c0:=ce
     repeat' first|refine st ?_|(refine nx ?_;first|refine sz ?_|refine so ?_)|(refine cx ?_;refine sc (fun hc=>?_) (fun hc=>?_)<;>try exact hc.elim)|(refine lx ?_;refine sp (fun hc=>?_) (fun hc=>?_)<;>try exact hc.elim)|refine sx ?_ ?_|refine sy ?_ ?_|fail
     all_goals try(refine ⟨.inr rfl,?_⟩;simp [aB,results276])
     all_goals exact ⟨Hq p.aX k,Ei p.aX a k _ _⟩
 ·have Jl:wR p.aX a=k:=Dz hk hpre (fun m hm=>by rw [getElem?_eq_none (by omega)] at hm;cases hm)
  have Ir:∀m,p.aX[wR p.aX a]? =some m->m.to≠a:=fun m hm=>by rw [Jl,getElem?_eq_none (by omega)] at hm;cases hm
  rw [LG Ir,Jl]
  unfold vY Cb
  by_cases hck:gP p.cB ⟨5,a,p.addr.host,[]⟩=1
  ·simp only [hck,if_true]
   rw [hck] at cK
   have W:=aA hk1 (aA hlt hk)
   repeat' first|refine st ?_|(refine nx ?_;first|refine sz ?_|refine so ?_)|(refine cx ?_;refine sc (fun hc=>?_) (fun hc=>?_)<;>try exact hc.elim)|(refine lx ?_;refine sp (fun hc=>?_) (fun hc=>?_)<;>try exact hc.elim)|refine sx ?_ ?_|refine sy ?_ ?_|fail
   all_goals try(refine ⟨.inr rfl,?_⟩;simp [aB,results276])
   all_goals exact ⟨Hq p.aX k,Ei p.aX a k _ _⟩
  ·simp only [hck,if_false]
   have W:=aA hk1 (aA hlt (aA hk hck))
   repeat' first|refine st ?_|(refine nx ?_;first|refine sz ?_|refine so ?_)|(refine cx ?_;refine sc (fun hc=>?_) (fun hc=>?_)<;>try exact hc.elim)|(refine lx ?_;refine sp (fun hc=>?_) (fun hc=>?_)<;>try exact hc.elim)|refine sx ?_ ?_|refine sy ?_ ?_|fail
   all_goals try(refine ⟨.inr rfl,?_⟩;simp [aB,results276])
   all_goals exact ⟨Hq p.aX k,Ei p.aX a k _ _⟩
theorem Wi (s b:bC):aV (bQ s b).1<=s.length+b.length:=by
 have h:=qW 47 s
 unfold bQ addrOf
 split<;>split<;>simp [aV,uI]<;>omega
def addEntry (p:aP) (tx:bC):aP:=
 if (bQ tx p.addr.host).2=false\/20<=p.entries.length then p else {kG p (bQ tx p.addr.host).1 with entries:=p.entries++[(bQ tx p.addr.host).1]}
theorem Wj (p:aP) (a:aT) (e:List aT):kG {p with entries:=e} a={kG p a with entries:=e}:=by
 unfold kG
 simp only
 split
 ·split<;>rfl
 ·rfl
theorem nz (p:aP) (a:aT):(kG p a).entries=p.entries:=by
 unfold kG
 split
 ·split<;>rfl
 ·rfl
theorem KX [aD prog] (p:aP) (tx:bC) (hs:aL p<=268435456) (hto:tx.length<=268435456):Ok prog 243 [.agg (aM .view p),.str tx] (.agg (aM .own (addEntry p tx))):=by
 have hsl:p.addr.host.length<=268435456:=by simp only [aL,aV] at hs;omega
 have Iu:p.entries.length<=268435456:=by simp only [aL,bP] at hs;omega
 have c1:=jN p (by omega)
 have c3:=vJ tx p.addr.host (by omega)
 have hsz:=Wi tx p.addr.host
 unfold addEntry
 generalize bQ tx p.addr.host=pa at *
 obtain ⟨a,ok⟩:=pa
 simp only at c3 hsz⊢
 have c4:=Jy {p with entries:=p.entries++[a]} a (by simp only [aL,bP,length_append,iM,aO,length_cons,length_nil] at hs⊢;omega) (by omega)
 rw [Wj] at c4
 obtain ⟨l1,hl1⟩:∃l,l=p.entries++[a]:=⟨_,rfl⟩
 have hap:p.entries.map aK++[[.str a.host,.str a.path]]=l1.map aK:=by rw [hl1];simp
 rw [<-hl1] at c4⊢
 clear hl1
 generalize kG p a=g at *
 simp only [aM,aK] at c1 c3 c4
 cases ok
 ·simp only [true_or,if_true]
  refine bR aAc func243 ntmps243 ?_
  have W:=trivial
  repeat' first|refine we ?_|(refine sq ?_ ?_<;>intro hc<;>try exact hc.elim)|fail
  all_goals try(refine ⟨.inr rfl,?_⟩;simp [aB,results243])
 ·by_cases Tu:20<=p.entries.length
  ·have YM:(20:Int)<=(p.entries.length:Int):=by omega
   simp only [Tu,or_true,if_true]
   refine bR aAc func243 ntmps243 ?_
   have W:=YM
   repeat' first|refine we ?_|(refine sq ?_ ?_<;>intro hc<;>try exact hc.elim)|fail
   all_goals try(refine ⟨.inr rfl,?_⟩;simp [aB,results243])
  ·have YM:¬(20:Int)<=(p.entries.length:Int):=by omega
   rw [if_neg (by rintro (h|h);cases h;exact Tu h)]
   refine bR aAc func243 ntmps243 ?_
   have W:=aA YM hap
   repeat' first|refine we ?_|(refine sq ?_ ?_<;>intro hc<;>try exact hc.elim)|fail
   all_goals try(refine ⟨.inr rfl,?_⟩;simp [aB,results243])
theorem KY [aD prog] (p:aP) (tx:bC) (hs:aL p<=268435456) (hto:tx.length<=268435456):Ok prog 239 [.agg (aM .view p),.str tx] (.agg (aM .own (addEntry p tx))):=by
 have hsl:p.addr.host.length<=268435456:=by simp only [aL,aV] at hs;omega
 have Iu:p.entries.length<=268435456:=by simp only [aL,bP] at hs;omega
 have c1:=iD p (by omega)
 have c3:=vI tx p.addr.host (by omega)
 have hsz:=Wi tx p.addr.host
 unfold addEntry
 generalize bQ tx p.addr.host=pa at *
 obtain ⟨a,ok⟩:=pa
 simp only at c3 hsz⊢
 have c4:=Jz p a (by omega) (by omega)
 have hke:=nz p a
 obtain ⟨l1,hl1⟩:∃l,l=p.entries++[a]:=⟨_,rfl⟩
 have hap:p.entries.map aK++[[.str a.host,.str a.path]]=l1.map aK:=by rw [hl1];simp
 rw [<-hl1]
 clear hl1
 generalize kG p a=g at *
 simp only [aM,aK] at c1 c3 c4
 rw [hke] at c4
 cases ok
 ·simp only [true_or,if_true]
  refine bR aAc func239 ntmps239 ?_
  have W:=trivial
  repeat' first|refine we ?_|(refine sq ?_ ?_<;>intro hc<;>try exact hc.elim)|fail
  all_goals try(refine ⟨.inr rfl,?_⟩;simp [aB,results239])
 ·by_cases Tu:20<=p.entries.length
  ·have YM:(20:Int)<=(p.entries.length:Int):=by omega
   simp only [Tu,or_true,if_true]
   refine bR aAc func239 ntmps239 ?_
   have W:=YM
   repeat' first|refine we ?_|(refine sq ?_ ?_<;>intro hc<;>try exact hc.elim)|fail
   all_goals try(refine ⟨.inr rfl,?_⟩;simp [aB,results239])
  ·have YM:¬(20:Int)<=(p.entries.length:Int):=by omega
   rw [if_neg (by rintro (h|h);cases h;exact Tu h)]
   refine bR aAc func239 ntmps239 ?_
   have W:=aA YM hap
   repeat' first|refine we ?_|(refine sq ?_ ?_<;>intro hc<;>try exact hc.elim)|fail
   all_goals try(refine ⟨.inr rfl,?_⟩;simp [aB,results239])
def FQ:bC:=[100,101,102,101,114]
def Cc:bC:=[110,111,110,99,101]
def rQ (p:aP) (k:Nat) (l:List iU):aP:=
 if (aQ l lX).2=false then (if pR p.cB (aQ l Cc).1=true then {p with inline:=((k:Nat):Int)} else p)
 else if (aQ l Hd).1=FQ then (fP p 4 (aQ l lX).1 (aQ l dE).1 ((k:Nat):Int)).1
 else if (aQ l Hd).1=Aj then addEntry p (aQ l lX).1
 else {(fP p 3 (aQ l lX).1 (aQ l dE).1 ((k:Nat):Int)).1 with block:=(fP p 3 (aQ l lX).1 (aQ l dE).1 ((k:Nat):Int)).2+1}
theorem NZ (p:aP) (m:Int) (a b:bC) (n:Int): -1<=(fP p m a b n).2/\(fP p m a b n).2<=(p.aF.length:Int):=by
 unfold fP
 split
 ·simp only;omega
 ·split<;>(simp only;omega)
theorem JA [aD prog] (p:aP) (k:Nat) (nd:eY) (hk:k < p.builder.nodes.length) (hg:p.builder.nodes[k]? =some nd) (hs:aL p<=268435456):IJ prog 190 [.mE (.agg (aM .own p)),.view (.int .i64 ((k:Nat):Int))] (.agg (aM .own (rQ p k nd.attrs))):=by
 have hns:fU nd<=268435456:=by
  have h1:=bU fU (mem_of_getElem? hg)
  simp only [aL,aH,bP] at hs;omega
 obtain ⟨nn,ntx,np,ta⟩:=nd
 have ae:ta.length+aO fI ta<=268435456:=by simp only [fU,bP] at hns;omega
 have z1:=kJ ta dE
 have z3:=kJ ta lX
 have c1:=kH ta dE (by omega)
 have c2:=kH ta Hd (by omega)
 have c3:=kH ta lX (by omega)
 have c4:=kH ta Cc (by omega)
 have c5:=Em p.cB (aQ ta Cc).1
 have a4:=uQ p 4 (aQ ta lX).1 (aQ ta dE).1 ((k:Nat):Int) (by omega) (by omega) (by omega)
 have a3:=uQ p 3 (aQ ta lX).1 (aQ ta dE).1 ((k:Nat):Int) (by omega) (by omega) (by omega)
 have a5:=KX p (aQ ta lX).1 hs (by omega)
 have hrg:=NZ p 3 (aQ ta lX).1 (aQ ta dE).1 ((k:Nat):Int)
 have hsl:p.aF.length<=268435456:=by simp only [aL,bP] at hs;omega
 simp only [rQ]
 generalize fP p 4 (aQ ta lX).1 (aQ ta dE).1 ((k:Nat):Int)=g4 at *
 generalize fP p 3 (aQ ta lX).1 (aQ ta dE).1 ((k:Nat):Int)=g3 at *
 generalize addEntry p (aQ ta lX).1=g5 at *
 simp only [aM] at a3 a4 a5
 simp only [bV] at c5
 clear z1 z3
 generalize aQ ta dE=fd at *
 generalize aQ ta Hd=fk at *
 generalize aQ ta lX=fs at *
 generalize aQ ta Cc=fn at *
 obtain ⟨dv,db⟩:=fd
 obtain ⟨kv,kb⟩:=fk
 obtain ⟨sv,sbb⟩:=fs
 obtain ⟨nv,nb⟩:=fn
 obtain ⟨g3p,g3k⟩:=g3
 simp only [dE] at c1
 simp only [Hd] at c2
 simp only [lX] at c3
 simp only [Cc] at c4
 simp only at hrg c5
 generalize pR p.cB nv=al at *
 have hw:i64.wrap (g3k+1)=g3k+1:=by rw [wrap64]<;>omega
 cases sbb
 ·rw [if_pos rfl]
  cases al
  ·rw [if_neg (by simp)]
   refine oI aAc func190 ntmps190 ?_
   have W:=hg
   have V:=hk
   repeat' first|refine we ?_|(refine sq ?_ ?_<;>intro hc<;>try exact hc.elim)|fail
   all_goals try(refine ⟨by first|exact .inr rfl|exact .inl rfl,?_⟩;simp [eZ,cZ,bZ,rowOf,results190])
  ·rw [if_pos rfl]
   refine oI aAc func190 ntmps190 ?_
   have W:=hg
   have V:=hk
   repeat' first|refine we ?_|(refine sq ?_ ?_<;>intro hc<;>try exact hc.elim)|fail
   all_goals try(refine ⟨by first|exact .inr rfl|exact .inl rfl,?_⟩;simp [eZ,cZ,bZ,rowOf,results190])
 ·rw [if_neg (by simp)]
  by_cases h1:kv=FQ
  ·rw [if_pos h1]
   have VZ:(kv == [100,101,102,101,114])=true:=by simpa [FQ] using h1
   refine oI aAc func190 ntmps190 ?_
   have W:=aA hg VZ
   have V:=hk
   repeat' first|refine we ?_|(refine sq ?_ ?_<;>intro hc<;>try exact hc.elim)|fail
   all_goals try(refine ⟨by first|exact .inr rfl|exact .inl rfl,?_⟩;simp [eZ,cZ,bZ,rowOf,results190])
  ·rw [if_neg h1]
   have VZ:(kv == [100,101,102,101,114])=false:=by simpa [FQ] using h1
   by_cases h2:kv=Aj
   ·rw [if_pos h2]
    have af:(kv == [109,111,100,117,108,101])=true:=by simpa [Aj] using h2
    refine oI aAc func190 ntmps190 ?_
    have W:=aA hg (aA VZ af)
    have V:=hk
    repeat' first|refine we ?_|(refine sq ?_ ?_<;>intro hc<;>try exact hc.elim)|fail
    all_goals try(refine ⟨by first|exact .inr rfl|exact .inl rfl,?_⟩;simp [eZ,cZ,bZ,rowOf,results190])
   ·rw [if_neg h2]
    have af:(kv == [109,111,100,117,108,101])=false:=by simpa [Aj] using h2
    refine oI aAc func190 ntmps190 ?_
    have W:=aA hg (aA VZ (aA af hw))
    have V:=hk
    repeat' first|refine we ?_|(refine sq ?_ ?_<;>intro hc<;>try exact hc.elim)|fail
    all_goals try(refine ⟨by first|exact .inr rfl|exact .inl rfl,?_⟩;simp [eZ,cZ,bZ,rowOf,results190])
theorem JB [aD prog] (p:aP) (k:Nat) (nd:eY) (hk:k < p.builder.nodes.length) (hg:p.builder.nodes[k]? =some nd) (hs:aL p<=268435456):IJ prog 187 [.mE (.agg (aM .own p)),.view (.int .i64 ((k:Nat):Int))] (.agg (aM .own (rQ p k nd.attrs))):=by
 have hns:fU nd<=268435456:=by
  have h1:=bU fU (mem_of_getElem? hg)
  simp only [aL,aH,bP] at hs;omega
 obtain ⟨nn,ntx,np,ta⟩:=nd
 have ae:ta.length+aO fI ta<=268435456:=by simp only [fU,bP] at hns;omega
 have z1:=kJ ta dE
 have z3:=kJ ta lX
 have c1:=jE ta dE (by omega)
 have c2:=jE ta Hd (by omega)
 have c3:=jE ta lX (by omega)
 have c4:=jE ta Cc (by omega)
 have c5:=En p.cB (aQ ta Cc).1
 have a4:=uP p 4 (aQ ta lX).1 (aQ ta dE).1 ((k:Nat):Int) (by omega) (by omega) (by omega)
 have a3:=uP p 3 (aQ ta lX).1 (aQ ta dE).1 ((k:Nat):Int) (by omega) (by omega) (by omega)
 have a5:=KY p (aQ ta lX).1 hs (by omega)
 have hrg:=NZ p 3 (aQ ta lX).1 (aQ ta dE).1 ((k:Nat):Int)
 have hsl:p.aF.length<=268435456:=by simp only [aL,bP] at hs;omega
 simp only [rQ]
 generalize fP p 4 (aQ ta lX).1 (aQ ta dE).1 ((k:Nat):Int)=g4 at *
 generalize fP p 3 (aQ ta lX).1 (aQ ta dE).1 ((k:Nat):Int)=g3 at *
 generalize addEntry p (aQ ta lX).1=g5 at *
 simp only [aM] at a3 a4 a5
 simp only [bV] at c5
 clear z1 z3
 generalize aQ ta dE=fd at *
 generalize aQ ta Hd=fk at *
 generalize aQ ta lX=fs at *
 generalize aQ ta Cc=fn at *
 obtain ⟨dv,db⟩:=fd
 obtain ⟨kv,kb⟩:=fk
 obtain ⟨sv,sbb⟩:=fs
 obtain ⟨nv,nb⟩:=fn
 obtain ⟨g3p,g3k⟩:=g3
 simp only [dE] at c1
 simp only [Hd] at c2
 simp only [lX] at c3
 simp only [Cc] at c4
 simp only at hrg c5
 generalize pR p.cB nv=al at *
 have hw:i64.wrap (g3k+1)=g3k+1:=by rw [wrap64]<;>omega
 cases sbb
 ·rw [if_pos rfl]
  cases al
  ·rw [if_neg (by simp)]
   refine oI aAc func187 ntmps187 ?_
   have W:=hg
   have V:=hk
   repeat' first|refine we ?_|(refine sq ?_ ?_<;>intro hc<;>try exact hc.elim)|fail
   all_goals try(refine ⟨by first|exact .inr rfl|exact .inl rfl,?_⟩;simp [eZ,cZ,bZ,rowOf,results187])
  ·rw [if_pos rfl]
   refine oI aAc func187 ntmps187 ?_
   have W:=hg
   have V:=hk
   repeat' first|refine we ?_|(refine sq ?_ ?_<;>intro hc<;>try exact hc.elim)|fail
   all_goals try(refine ⟨by first|exact .inr rfl|exact .inl rfl,?_⟩;simp [eZ,cZ,bZ,rowOf,results187])
 ·rw [if_neg (by simp)]
  by_cases h1:kv=FQ
  ·rw [if_pos h1]
   have VZ:(kv == [100,101,102,101,114])=true:=by simpa [FQ] using h1
   refine oI aAc func187 ntmps187 ?_
   have W:=aA hg VZ
   have V:=hk
   repeat' first|refine we ?_|(refine sq ?_ ?_<;>intro hc<;>try exact hc.elim)|fail
   all_goals try(refine ⟨by first|exact .inr rfl|exact .inl rfl,?_⟩;simp [eZ,cZ,bZ,rowOf,results187])
  ·rw [if_neg h1]
   have VZ:(kv == [100,101,102,101,114])=false:=by simpa [FQ] using h1
   by_cases h2:kv=Aj
   ·rw [if_pos h2]
    have af:(kv == [109,111,100,117,108,101])=true:=by simpa [Aj] using h2
    refine oI aAc func187 ntmps187 ?_
    have W:=aA hg (aA VZ af)
    have V:=hk
    repeat' first|refine we ?_|(refine sq ?_ ?_<;>intro hc<;>try exact hc.elim)|fail
    all_goals try(refine ⟨by first|exact .inr rfl|exact .inl rfl,?_⟩;simp [eZ,cZ,bZ,rowOf,results187])
   ·rw [if_neg h2]
    have af:(kv == [109,111,100,117,108,101])=false:=by simpa [Aj] using h2
    refine oI aAc func187 ntmps187 ?_
    have W:=aA hg (aA VZ (aA af hw))
    have V:=hk
    repeat' first|refine we ?_|(refine sq ?_ ?_<;>intro hc<;>try exact hc.elim)|fail
    all_goals try(refine ⟨by first|exact .inr rfl|exact .inl rfl,?_⟩;simp [eZ,cZ,bZ,rowOf,results187])
theorem Oa {α:Type} (f:α->Nat):∀a b:List α,aO f (a++b)=aO f a+aO f b
 |[],b=>by simp [aO]
 |x::xs,b=>by simp only [cons_append,aO,Oa f xs b];omega
def oO (b:aW) (t:bH):Option Nat:=
 if t.kind=2/\t.name=gK then
  match b.opens.getLast? with
  |some n=>if 1<=n/\(b.nodes[n.toNat]?).any (fun x=>decide (x.name=gK))=true then some n.toNat else none
  |none=>none
 else none
def iN (p:aP) (t:bH) (q:List bH):aP:=
 match oO p.builder t with
 |some k=>rQ {p with queue:=q,builder:=(addToken p.builder t).1} k ((p.builder.nodes[k]?).elim [] (·.attrs))
 |none=>if t.kind=1/\0<=(addToken p.builder t).2 then AB {p with queue:=q,builder:=(addToken p.builder t).1} t (addToken p.builder t).2 else {p with queue:=q,builder:=(addToken p.builder t).1}
def gW (p:aP):aP×Bool:=match p.queue with
 |[]=>(p,false)
 |t::q=>if p.block=0/\p.inline=0 then (iN p t q,true) else (p,false)
theorem Wl (b:aW) (t:bH):aH (addToken b t).1<=aH b+bF t+2:=by
 unfold addToken
 split
 ·have:=Ky b t.name (b.opens.length - 1)
  simp only [aH,bP] at this⊢
  omega
 ·split
  ·simp only;omega
  ·split
   ·simp only;omega
   ·have h1:fU (pQ b t)<=bF t:=by
     unfold pQ
     split<;>simp only [fU,bF,bP,length_nil,aO]<;>omega
    have h2:(if kR t=true then b.opens++[((b.nodes.length:Nat):Int)] else b.opens).length<=b.opens.length+1:=by split<;>simp
    simp only [aH,bP,length_append,Oa,aO,length_cons,length_nil] at h1 h2⊢
    omega
theorem qB {p:aP} {t:bH} {q:List bH} (h:p.queue=t::q):aL {p with queue:=q,builder:=(addToken p.builder t).1}<=aL p+2:=by
 have h1:=Wl p.builder t
 simp only [aL,h,bP,aO,length_cons] at h1⊢
 omega
theorem mD {b:aW} {t:bH} (h:t.kind=2):(addToken b t).2= -1/\(addToken b t).1.nodes=b.nodes:=by rw [zD h];exact ⟨rfl,rfl⟩
theorem wS {b:aW} {t:bH} (h:¬(t.kind=2/\t.name=gK)):oO b t=none:=by unfold oO;rw [if_neg h]
theorem Hr {b:aW} {t:bH} (h:b.opens=[]):oO b t=none:=by unfold oO;rw [h];split<;>rfl
theorem yD {b:aW} {t:bH} {os:List Int} {k:Nat} (h1:t.kind=2) (h2:t.name=gK) (h:b.opens=os++[((k:Nat):Int)]) (hk:1<=k) {nd:eY} (hg:b.nodes[k]? =some nd) (hn:nd.name=gK):oO b t=some k:=by
 unfold oO
 rw [if_pos ⟨h1,h2⟩,h,getLast?_concat]
 simp only
 rw [if_pos ⟨by omega,by rw [Int.toNat_natCast,hg];simpa using hn⟩]
 simp
def Bo (p:aP) (k:Int):aP×Bool:=
 if 0<=k then match p.aF[k.toNat]? with
  |some s=>if s.done=true/\p.aF.all lT=true then ({(if s.code=1 then kP p s.body true else p) with block:=0},true) else (p,false)
  |none=>({p with block:=0},true)
 else ({p with block:=0},true)
def iP (p:aP):aP×Bool:=
 if p.inline≠0 then (if p.aF.all lT=true then ({kP p (zH p.builder p.inline) true with inline:=0},true) else (p,false))
 else if p.block≠0 then Bo p (i64.wrap (p.block - 1))
 else gW p
theorem Od {α:Type} (f:α->Nat):∀{l:List α} {x:α},x∈l->f x<=aO f l
 |y::l,x,h=>by
  rcases mem_cons.1 h with rfl|h
  ·simp only [aO];omega
  ·have:=Od f h;simp only [aO];omega
end Go.Proofs.YtlnblmmohpcceaaGreatDoor
