/- Proved here: steps towards the statement of this claim. No condition. -/
import Derived.Test.YtlnblmmohpcceaaGreatDoorZQV1
set_option linter.all false
set_option maxRecDepth 8000
set_option maxHeartbeats 8000000
namespace Go.Proofs.YtlnblmmohpcceaaGreatDoor
open Go.Aw Proofs.Tryz List IntKind
theorem TU [aD prog] (l:List lF) (k:Int) (h0:0<=k) (hl:k+(aO (fun _=>8) l:Nat)<=4611686018427387000) (Lx:l.length<=4611686018427387904):Xu prog 102 (.sl .own 8 (l.map iO)) (.sl .own 8 ((sH zA (fun _=>8) k l).map iO)) [.int .i64 k] (.int .i64 (k+(aO (fun _=>8) l:Nat))):=by
 generalize hu:(sH zA (fun _=>8) k l).map iO=l'
 have xZ:l'.length=(l.map iO).length:=by rw [<-hu];simp [dZ]
 refine Ni aAc func102 ntmps102 ?_
 have W:=trivial
 repeat' first|refine wl ?_|(refine sq ?_ ?_<;>intro hc<;>try exact hc.elim)|fail
 refine aJ (ι:={j:Nat // j<=l.length}) (fun t o i=>⟨aZ t [(1,.int .i64 (k+(aO (fun _=>8) (l.take i.1):Nat))),(5,.int .i64 i.1)],[⟨true,false,8,0,oN (l.map iO) l' i.1⟩]⟩)
  (fun i=>l.length - i.1) ⟨0,by simp⟩ (aI (by simp [tT]) (by simp [aO])) ?_
 rintro ⟨j,hj⟩ K1 hK1
 simp only [aZ,set_cons_succ,set_cons_zero] at hK1⊢
 have hj1:i64.wrap ((j:Int)+1)=((j+1:Nat):Int):=by rw [wrap64]<;>omega
 have Cz:(oN (l.map iO) l' j).length=l.length:=by rw [pE _ _ _ xZ];simp
 have hle:=dC (fun _=>8) l (j+1)
 by_cases hlt:j < l.length
 ·have hts:=bT (fun _=>8) l j hlt
  have rO:=wQ (l.map iO) l' j (by simpa using hlt) (by rw [xZ];simpa using hlt)
  have yA:=wP (l.map iO) l' j (by simpa using hlt) (by rw [xZ];simpa using hlt)
  have he:l'[j]'(by rw [xZ];simpa using hlt)=iO (zA (k+(aO (fun _=>8) (l.take j):Nat)) l[j]):=by
   subst hu
   rw [getElem_map,nN]
  rw [he] at yA
  generalize hq:k+(aO (fun _=>8) (l.take j):Nat)=q at *
  have e2:q+1+1=q+2:=by omega
  have e3:q+2+1=q+3:=by omega
  have e4:q+3+1=q+4:=by omega
  have e5:q+4+1=q+5:=by omega
  have e6:q+5+1=q+6:=by omega
  have e7:q+6+1=q+7:=by omega
  have e8:q+7+1=q+8:=by omega
  simp only [iO,zA,xQ] at yA
  have W:=aA Cz (aA rO (aA hj1 (aA yA (aA e2 (aA e3 (aA e4 (aA e5 (aA e6 (aA e7 e8)))))))))
  have V:=aA Cz (aA hj1 (aA yA (aA hlt (aA e2 (aA e3 (aA e4 (aA e5 (aA e6 (aA e7 e8)))))))))
  repeat' first|refine wl ?_|(refine nx ?_;refine sk (hc:=iW _ (by omega)) (h:=?_))|(refine sq ?_ ?_<;>intro hc<;>try exact hc.elim)|fail
  refine hK1 _ ⟨j+1,by omega⟩ (aI (by simp) ?_) (by simp only;omega)
  simp
  omega
 ·have qa:=sG (l.map iO) l' j xZ (by simp;omega)
  have hjl:j=l.length:=by omega
  have wU:gF l'=true:=by rw [<-hu];simp
  have htk:l.take j=l:=take_of_length_le (by omega)
  rw [htk] at *
  have W:=aA Cz hj1
  repeat' first|refine wl ?_|(refine sq ?_ ?_<;>intro hc<;>try exact hc.elim)|fail
  all_goals try(refine ⟨.inr rfl,?_⟩;simp [vG,results102,qa,wU])
theorem OT [aD prog] (l:List dD) (k:Int) (h0:0<=k) (hl:k+(aO (fun _=>5) l:Nat)<=4611686018427387000) (Lx:l.length<=4611686018427387904):Xu prog 103 (.sl .own 5 (l.map bO)) (.sl .own 5 ((sH rE (fun _=>5) k l).map bO)) [.int .i64 k] (.int .i64 (k+(aO (fun _=>5) l:Nat))):=by
 generalize hu:(sH rE (fun _=>5) k l).map bO=l'
 have xZ:l'.length=(l.map bO).length:=by rw [<-hu];simp [dZ]
 refine Ni aAc func103 ntmps103 ?_
 have W:=trivial
 repeat' first|refine wl ?_|(refine sq ?_ ?_<;>intro hc<;>try exact hc.elim)|fail
 refine aJ (ι:={j:Nat // j<=l.length}) (fun t o i=>⟨aZ t [(1,.int .i64 (k+(aO (fun _=>5) (l.take i.1):Nat))),(5,.int .i64 i.1)],[⟨true,false,5,0,oN (l.map bO) l' i.1⟩]⟩)
  (fun i=>l.length - i.1) ⟨0,by simp⟩ (aI (by simp [tT]) (by simp [aO])) ?_
 rintro ⟨j,hj⟩ K1 hK1
 simp only [aZ,set_cons_succ,set_cons_zero] at hK1⊢
 have hj1:i64.wrap ((j:Int)+1)=((j+1:Nat):Int):=by rw [wrap64]<;>omega
 have Cz:(oN (l.map bO) l' j).length=l.length:=by rw [pE _ _ _ xZ];simp
 have hle:=dC (fun _=>5) l (j+1)
 by_cases hlt:j < l.length
 ·have hts:=bT (fun _=>5) l j hlt
  have rO:=wQ (l.map bO) l' j (by simpa using hlt) (by rw [xZ];simpa using hlt)
  have yA:=wP (l.map bO) l' j (by simpa using hlt) (by rw [xZ];simpa using hlt)
  have he:l'[j]'(by rw [xZ];simpa using hlt)=bO (rE (k+(aO (fun _=>5) (l.take j):Nat)) l[j]):=by
   subst hu
   rw [getElem_map,nN]
  rw [he] at yA
  generalize hq:k+(aO (fun _=>5) (l.take j):Nat)=q at *
  have e2:q+1+1=q+2:=by omega
  have e3:q+2+1=q+3:=by omega
  have e4:q+3+1=q+4:=by omega
  have e5:q+4+1=q+5:=by omega
  simp only [bO,rE,xQ] at yA
  have W:=aA Cz (aA rO (aA hj1 (aA yA (aA e2 (aA e3 (aA e4 e5))))))
  have V:=aA Cz (aA hj1 (aA yA (aA hlt (aA e2 (aA e3 (aA e4 e5))))))
  repeat' first|refine wl ?_|(refine nx ?_;refine sk (hc:=iW _ (by omega)) (h:=?_))|(refine sq ?_ ?_<;>intro hc<;>try exact hc.elim)|fail
  refine hK1 _ ⟨j+1,by omega⟩ (aI (by simp) ?_) (by simp only;omega)
  simp
  omega
 ·have qa:=sG (l.map bO) l' j xZ (by simp;omega)
  have hjl:j=l.length:=by omega
  have wU:gF l'=true:=by rw [<-hu];simp
  have htk:l.take j=l:=take_of_length_le (by omega)
  rw [htk] at *
  have W:=aA Cz hj1
  repeat' first|refine wl ?_|(refine sq ?_ ?_<;>intro hc<;>try exact hc.elim)|fail
  all_goals try(refine ⟨.inr rfl,?_⟩;simp [vG,results103,qa,wU])
theorem KH [aD prog] (a:aP) (k:Int) (h0:0<=k) (hl:k+(Dq a:Nat)<=4611686018427387000) (hq:a.queue.length<=4611686018427387904) (hqa:∀x∈a.queue,x.attrs.length<=4611686018427387904)
  (hb:a.builder.nodes.length<=4611686018427387904) (hba:∀x∈a.builder.nodes,x.attrs.length<=4611686018427387904):
  Xu prog 21 (.agg (aM .own a)) (.agg (aM .own (TH k a))) [.int .i64 k] (.int .i64 (k+(Dq a:Nat))):=by
 simp only [Dq] at hl
 have l1:=fK 8 a.aF
 have l2:=fK 5 a.aX
 have l3:=fK 2 a.entries
 have l4:=fK 2 a.nY
 have l5:=fK 1 a.log
 refine Ni aAc func21 ntmps21 ?_
 have W:=trivial
 repeat' first|refine wl ?_|(refine nx ?_;first|refine sm (hc:=Qn a.cB _ (by omega) (by omega)) (h:=?_)|refine sm (hc:=Qm a.queue _ (by omega) (by omega) hq hqa) (h:=?_)|refine sm (hc:=OQ a.builder _ (by omega) (by omega) hb hba) (h:=?_)|refine sm (hc:=TU a.aF _ (by omega) (by omega) (by omega)) (h:=?_)|refine sm (hc:=OT a.aX _ (by omega) (by omega) (by omega)) (h:=?_)|refine sm (hc:=Il a.entries _ (by omega) (by omega) (by omega)) (h:=?_)|refine sm (hc:=Il a.nY _ (by omega) (by omega) (by omega)) (h:=?_)|refine sm (hc:=uU a.log _ (by omega) (by omega) (by omega)) (h:=?_))|(refine sq ?_ ?_<;>intro hc<;>try exact hc.elim)|fail
 all_goals try(refine ⟨.inr rfl,?_⟩;simp [vG,results21,TH,Dq,zB,vN])
 all_goals (try omega)
theorem uV [aD prog] (l0:List bC) (k:Int) (h0:0<=k) (hl:k+(aO (fun _=>1) l0:Nat)<=4611686018427387000) (Lx:l0.length<=4611686018427387904):Ok prog 112 [.sl .view 1 ((sH nO (fun _=>1) k l0).map fF),.int .i64 k] (.int .i64 (k+(aO (fun _=>1) l0:Nat))):=by
 have hget:∀j (h:j < l0.length),(sH nO (fun _=>1) k l0)[j]? =some (nO (k+(aO (fun _=>1) (l0.take j):Nat)) l0[j]):=fun j h=>by
  rw [getElem?_eq_getElem (by rw [dZ];exact h),nN]
 generalize hu:sH nO (fun _=>1) k l0=l at *
 have hlen:l.length=l0.length:=by rw [<-hu,dZ]
 refine bR aAc func112 ntmps112 ?_
 have W:=trivial
 repeat' first|refine wl ?_|(refine sq ?_ ?_<;>intro hc<;>try exact hc.elim)|fail
 refine aJ (ι:={j:Nat // j<=l0.length}) (fun t o i=>⟨aZ t [(1,.int .i64 (k+(aO (fun _=>1) (l0.take i.1):Nat))),(5,.int .i64 i.1)],o⟩)
  (fun i=>l0.length - i.1) ⟨0,by simp⟩ (aI (by simp) (by simp [aO])) ?_
 rintro ⟨j,hj⟩ K1 hK1
 simp only [aZ,set_cons_succ,set_cons_zero] at hK1⊢
 have hj1:i64.wrap ((j:Int)+1)=((j+1:Nat):Int):=by rw [wrap64]<;>omega
 have hle:=dC (fun _=>1) l0 (j+1)
 by_cases hlt:j < l0.length
 ·have hts:=bT (fun _=>1) l0 j hlt
  have hg:l[j]? =some (nO (k+(aO (fun _=>1) (l0.take j):Nat)) l0[j]):=hget j hlt
  generalize hq:k+(aO (fun _=>1) (l0.take j):Nat)=q at *
  simp only [nO,xQ] at hg
  have W:=aA hlen (aA hj1 hg)
  have V:=aA hlen (aA hj1 (aA hg hlt))
  repeat' first|refine wl ?_|(refine nx ?_;refine sk (hc:=iW _ (by omega)) (h:=?_))|(refine sq ?_ ?_<;>intro hc<;>try exact hc.elim)|fail
  refine hK1 _ ⟨j+1,by omega⟩ (aI (by simp) ?_) (by simp only;omega)
  simp
  omega
 ·have htk:l0.take j=l0:=take_of_length_le (by omega)
  have hjl:j=l0.length:=by omega
  rw [htk] at *
  have W:=aA hlen hj1
  repeat' first|refine wl ?_|(refine sq ?_ ?_<;>intro hc<;>try exact hc.elim)|fail
  all_goals try(refine ⟨.inr rfl,?_⟩;simp [aB,results112])
theorem Io [aD prog] (l0:List aT) (k:Int) (h0:0<=k) (hl:k+(aO (fun _=>2) l0:Nat)<=4611686018427387000) (Lx:l0.length<=4611686018427387904):Ok prog 111 [.sl .view 2 ((sH xC (fun _=>2) k l0).map aK),.int .i64 k] (.int .i64 (k+(aO (fun _=>2) l0:Nat))):=by
 have hget:∀j (h:j < l0.length),(sH xC (fun _=>2) k l0)[j]? =some (xC (k+(aO (fun _=>2) (l0.take j):Nat)) l0[j]):=fun j h=>by
  rw [getElem?_eq_getElem (by rw [dZ];exact h),nN]
 generalize hu:sH xC (fun _=>2) k l0=l at *
 have hlen:l.length=l0.length:=by rw [<-hu,dZ]
 refine bR aAc func111 ntmps111 ?_
 have W:=trivial
 repeat' first|refine wl ?_|(refine sq ?_ ?_<;>intro hc<;>try exact hc.elim)|fail
 refine aJ (ι:={j:Nat // j<=l0.length}) (fun t o i=>⟨aZ t [(1,.int .i64 (k+(aO (fun _=>2) (l0.take i.1):Nat))),(5,.int .i64 i.1)],o⟩)
  (fun i=>l0.length - i.1) ⟨0,by simp⟩ (aI (by simp) (by simp [aO])) ?_
 rintro ⟨j,hj⟩ K1 hK1
 simp only [aZ,set_cons_succ,set_cons_zero] at hK1⊢
 have hj1:i64.wrap ((j:Int)+1)=((j+1:Nat):Int):=by rw [wrap64]<;>omega
 have hle:=dC (fun _=>2) l0 (j+1)
 by_cases hlt:j < l0.length
 ·have hts:=bT (fun _=>2) l0 j hlt
  have hg:l[j]? =some (xC (k+(aO (fun _=>2) (l0.take j):Nat)) l0[j]):=hget j hlt
  generalize hq:k+(aO (fun _=>2) (l0.take j):Nat)=q at *
  have e2:q+1+1=q+2:=by omega
  simp only [xC,xQ] at hg
  have W:=aA hlen (aA hj1 (aA hg e2))
  have V:=aA hlen (aA hj1 (aA hg (aA hlt e2)))
  repeat' first|refine wl ?_|(refine nx ?_;refine sk (hc:=iW _ (by omega)) (h:=?_))|(refine sq ?_ ?_<;>intro hc<;>try exact hc.elim)|fail
  refine hK1 _ ⟨j+1,by omega⟩ (aI (by simp) ?_) (by simp only;omega)
  simp
  omega
 ·have htk:l0.take j=l0:=take_of_length_le (by omega)
  have hjl:j=l0.length:=by omega
  rw [htk] at *
  have W:=aA hlen hj1
  repeat' first|refine wl ?_|(refine sq ?_ ?_<;>intro hc<;>try exact hc.elim)|fail
  all_goals try(refine ⟨.inr rfl,?_⟩;simp [aB,results111])
theorem Ip [aD prog] (l0:List iU) (k:Int) (h0:0<=k) (hl:k+(aO (fun _=>2) l0:Nat)<=4611686018427387000) (Lx:l0.length<=4611686018427387904):Ok prog 182 [.sl .view 2 ((sH xD (fun _=>2) k l0).map fQ),.int .i64 k] (.int .i64 (k+(aO (fun _=>2) l0:Nat))):=by
 have hget:∀j (h:j < l0.length),(sH xD (fun _=>2) k l0)[j]? =some (xD (k+(aO (fun _=>2) (l0.take j):Nat)) l0[j]):=fun j h=>by
  rw [getElem?_eq_getElem (by rw [dZ];exact h),nN]
 generalize hu:sH xD (fun _=>2) k l0=l at *
 have hlen:l.length=l0.length:=by rw [<-hu,dZ]
 refine bR aAc func182 ntmps182 ?_
 have W:=trivial
 repeat' first|refine wl ?_|(refine sq ?_ ?_<;>intro hc<;>try exact hc.elim)|fail
 refine aJ (ι:={j:Nat // j<=l0.length}) (fun t o i=>⟨aZ t [(1,.int .i64 (k+(aO (fun _=>2) (l0.take i.1):Nat))),(5,.int .i64 i.1)],o⟩)
  (fun i=>l0.length - i.1) ⟨0,by simp⟩ (aI (by simp) (by simp [aO])) ?_
 rintro ⟨j,hj⟩ K1 hK1
 simp only [aZ,set_cons_succ,set_cons_zero] at hK1⊢
 have hj1:i64.wrap ((j:Int)+1)=((j+1:Nat):Int):=by rw [wrap64]<;>omega
 have hle:=dC (fun _=>2) l0 (j+1)
 by_cases hlt:j < l0.length
 ·have hts:=bT (fun _=>2) l0 j hlt
  have hg:l[j]? =some (xD (k+(aO (fun _=>2) (l0.take j):Nat)) l0[j]):=hget j hlt
  generalize hq:k+(aO (fun _=>2) (l0.take j):Nat)=q at *
  have e2:q+1+1=q+2:=by omega
  simp only [xD,xQ] at hg
  have W:=aA hlen (aA hj1 (aA hg e2))
  have V:=aA hlen (aA hj1 (aA hg (aA hlt e2)))
  repeat' first|refine wl ?_|(refine nx ?_;refine sk (hc:=iW _ (by omega)) (h:=?_))|(refine sq ?_ ?_<;>intro hc<;>try exact hc.elim)|fail
  refine hK1 _ ⟨j+1,by omega⟩ (aI (by simp) ?_) (by simp only;omega)
  simp
  omega
 ·have htk:l0.take j=l0:=take_of_length_le (by omega)
  have hjl:j=l0.length:=by omega
  rw [htk] at *
  have W:=aA hlen hj1
  repeat' first|refine wl ?_|(refine sq ?_ ?_<;>intro hc<;>try exact hc.elim)|fail
  all_goals try(refine ⟨.inr rfl,?_⟩;simp [aB,results182])
theorem Qo [aD prog] (l0:List bH) (k:Int) (h0:0<=k) (hl:k+(aO iE l0:Nat)<=4611686018427387000) (Lx:l0.length<=4611686018427387904) (jl:∀x∈l0,x.attrs.length<=4611686018427387904):
  Ok prog 107 [.sl .view 4 ((sH qN iE k l0).map (bB .view)),.int .i64 k] (.int .i64 (k+(aO iE l0:Nat))):=by
 have hget:∀j (h:j < l0.length),(sH qN iE k l0)[j]? =some (qN (k+(aO iE (l0.take j):Nat)) l0[j]):=fun j h=>by
  rw [getElem?_eq_getElem (by rw [dZ];exact h),nN]
 generalize hu:sH qN iE k l0=l at *
 have hlen:l.length=l0.length:=by rw [<-hu,dZ]
 refine bR aAc func107 ntmps107 ?_
 have W:=trivial
 repeat' first|refine wl ?_|(refine sq ?_ ?_<;>intro hc<;>try exact hc.elim)|fail
 refine aJ (ι:={j:Nat // j<=l0.length}) (fun t o i=>⟨aZ t [(1,.int .i64 (k+(aO iE (l0.take i.1):Nat))),(5,.int .i64 i.1)],o⟩)
  (fun i=>l0.length - i.1) ⟨0,by simp⟩ (aI (by simp) (by simp [aO])) ?_
 rintro ⟨j,hj⟩ K1 hK1
 simp only [aZ,set_cons_succ,set_cons_zero] at hK1⊢
 have hj1:i64.wrap ((j:Int)+1)=((j+1:Nat):Int):=by rw [wrap64]<;>omega
 have hle:=dC iE l0 (j+1)
 by_cases hlt:j < l0.length
 ·have hts:=bT iE l0 j hlt
  have hg:l[j]? =some (qN (k+(aO iE (l0.take j):Nat)) l0[j]):=hget j hlt
  have hcx:iE l0[j]=3+aO (fun _=>2) l0[j].attrs:=rfl
  have hax:=jl _ (getElem_mem hlt)
  generalize hq:k+(aO iE (l0.take j):Nat)=q at *
  have e2:q+1+1=q+2:=by omega
  simp only [qN,xQ] at hg
  have W:=aA hlen (aA hj1 (aA hg e2))
  have V:=aA hlen (aA hj1 (aA hg (aA hlt e2)))
  repeat' first|refine wl ?_|(refine nx ?_;first|refine sk (hc:=Ip l0[j].attrs _ (by omega) (by omega) (by omega)) (h:=?_)|refine sk (hc:=iW _ (by omega)) (h:=?_))|(refine sq ?_ ?_<;>intro hc<;>try exact hc.elim)|fail
  all_goals first|(exfalso;omega)|refine hK1 _ ⟨j+1,by omega⟩ (aI (by simp) ?_) (by simp only;omega)
  all_goals (simp;omega)
 ·have htk:l0.take j=l0:=take_of_length_le (by omega)
  have hjl:j=l0.length:=by omega
  rw [htk] at *
  have W:=aA hlen hj1
  repeat' first|refine wl ?_|(refine sq ?_ ?_<;>intro hc<;>try exact hc.elim)|fail
  all_goals try(refine ⟨.inr rfl,?_⟩;simp [aB,results107])
theorem TV [aD prog] (l0:List eY) (k:Int) (h0:0<=k) (hl:k+(aO nC l0:Nat)<=4611686018427387000) (Lx:l0.length<=4611686018427387904) (jl:∀x∈l0,x.attrs.length<=4611686018427387904):
  Ok prog 183 [.sl .view 4 ((sH mkNode nC k l0).map (bX .view)),.int .i64 k] (.int .i64 (k+(aO nC l0:Nat))):=by
 have hget:∀j (h:j < l0.length),(sH mkNode nC k l0)[j]? =some (mkNode (k+(aO nC (l0.take j):Nat)) l0[j]):=fun j h=>by
  rw [getElem?_eq_getElem (by rw [dZ];exact h),nN]
 generalize hu:sH mkNode nC k l0=l at *
 have hlen:l.length=l0.length:=by rw [<-hu,dZ]
 refine bR aAc func183 ntmps183 ?_
 have W:=trivial
 repeat' first|refine wl ?_|(refine sq ?_ ?_<;>intro hc<;>try exact hc.elim)|fail
 refine aJ (ι:={j:Nat // j<=l0.length}) (fun t o i=>⟨aZ t [(1,.int .i64 (k+(aO nC (l0.take i.1):Nat))),(5,.int .i64 i.1)],o⟩)
  (fun i=>l0.length - i.1) ⟨0,by simp⟩ (aI (by simp) (by simp [aO])) ?_
 rintro ⟨j,hj⟩ K1 hK1
 simp only [aZ,set_cons_succ,set_cons_zero] at hK1⊢
 have hj1:i64.wrap ((j:Int)+1)=((j+1:Nat):Int):=by rw [wrap64]<;>omega
 have hle:=dC nC l0 (j+1)
 by_cases hlt:j < l0.length
 ·have hts:=bT nC l0 j hlt
  have hg:l[j]? =some (mkNode (k+(aO nC (l0.take j):Nat)) l0[j]):=hget j hlt
  have hcx:nC l0[j]=3+aO (fun _=>2) l0[j].attrs:=rfl
  have hax:=jl _ (getElem_mem hlt)
  generalize hq:k+(aO nC (l0.take j):Nat)=q at *
  have e2:q+1+1=q+2:=by omega
  have e3:q+2+1=q+3:=by omega
  simp only [mkNode,xQ] at hg
  have W:=aA hlen (aA hj1 (aA hg (aA e2 e3)))
  have V:=aA hlen (aA hj1 (aA hg (aA hlt (aA e2 e3))))
  repeat' first|refine wl ?_|(refine nx ?_;first|refine sk (hc:=Ip l0[j].attrs _ (by omega) (by omega) (by omega)) (h:=?_)|refine sk (hc:=iW _ (by omega)) (h:=?_))|(refine sq ?_ ?_<;>intro hc<;>try exact hc.elim)|fail
  all_goals first|(exfalso;omega)|refine hK1 _ ⟨j+1,by omega⟩ (aI (by simp) ?_) (by simp only;omega)
  all_goals (simp;omega)
 ·have htk:l0.take j=l0:=take_of_length_le (by omega)
  have hjl:j=l0.length:=by omega
  rw [htk] at *
  have W:=aA hlen hj1
  repeat' first|refine wl ?_|(refine sq ?_ ?_<;>intro hc<;>try exact hc.elim)|fail
  all_goals try(refine ⟨.inr rfl,?_⟩;simp [aB,results183])
theorem WI [aD prog] (l0:List Int) (k:Int) (h0:0<=k) (hl:k+(aO (fun _=>1) l0:Nat)<=4611686018427387000) (Lx:l0.length<=4611686018427387904):Ok prog 184 [.sl .view 1 ((sH Dp (fun _=>1) k l0).map iX),.int .i64 k] (.int .i64 (k+(aO (fun _=>1) l0:Nat))):=by
 have hget:∀j (h:j < l0.length),(sH Dp (fun _=>1) k l0)[j]? =some (Dp (k+(aO (fun _=>1) (l0.take j):Nat)) l0[j]):=fun j h=>by
  rw [getElem?_eq_getElem (by rw [dZ];exact h),nN]
 generalize hu:sH Dp (fun _=>1) k l0=l at *
 have hlen:l.length=l0.length:=by rw [<-hu,dZ]
 refine bR aAc func184 ntmps184 ?_
 have W:=trivial
 repeat' first|refine wl ?_|(refine sq ?_ ?_<;>intro hc<;>try exact hc.elim)|fail
 refine aJ (ι:={j:Nat // j<=l0.length}) (fun t o i=>⟨aZ t [(1,.int .i64 (k+(aO (fun _=>1) (l0.take i.1):Nat))),(5,.int .i64 i.1)],o⟩)
  (fun i=>l0.length - i.1) ⟨0,by simp⟩ (aI (by simp) (by simp [aO])) ?_
 rintro ⟨j,hj⟩ K1 hK1
 simp only [aZ,set_cons_succ,set_cons_zero] at hK1⊢
 have hj1:i64.wrap ((j:Int)+1)=((j+1:Nat):Int):=by rw [wrap64]<;>omega
 have hle:=dC (fun _=>1) l0 (j+1)
 by_cases hlt:j < l0.length
 ·have hts:=bT (fun _=>1) l0 j hlt
  have hg:l[j]? =some (Dp (k+(aO (fun _=>1) (l0.take j):Nat)) l0[j]):=hget j hlt
  generalize hq:k+(aO (fun _=>1) (l0.take j):Nat)=q at *
  simp only [Dp,xQ] at hg
  have W:=aA hlen (aA hj1 hg)
  have V:=aA hlen (aA hj1 (aA hg hlt))
  repeat' first|refine wl ?_|(refine sq ?_ ?_<;>intro hc<;>try exact hc.elim)|fail
  refine hK1 _ ⟨j+1,by omega⟩ (aI (by simp) ?_) (by simp only;omega)
  simp
  omega
 ·have htk:l0.take j=l0:=take_of_length_le (by omega)
  have hjl:j=l0.length:=by omega
  rw [htk] at *
  have W:=aA hlen hj1
  repeat' first|refine wl ?_|(refine sq ?_ ?_<;>intro hc<;>try exact hc.elim)|fail
  all_goals try(refine ⟨.inr rfl,?_⟩;simp [aB,results184])
theorem TW [aD prog] (l0:List lF) (k:Int) (h0:0<=k) (hl:k+(aO (fun _=>8) l0:Nat)<=4611686018427387000) (Lx:l0.length<=4611686018427387904):Ok prog 109 [.sl .view 8 ((sH zA (fun _=>8) k l0).map iO),.int .i64 k] (.int .i64 (k+(aO (fun _=>8) l0:Nat))):=by
 have hget:∀j (h:j < l0.length),(sH zA (fun _=>8) k l0)[j]? =some (zA (k+(aO (fun _=>8) (l0.take j):Nat)) l0[j]):=fun j h=>by
  rw [getElem?_eq_getElem (by rw [dZ];exact h),nN]
 generalize hu:sH zA (fun _=>8) k l0=l at *
 have hlen:l.length=l0.length:=by rw [<-hu,dZ]
 refine bR aAc func109 ntmps109 ?_
 have W:=trivial
 repeat' first|refine wl ?_|(refine sq ?_ ?_<;>intro hc<;>try exact hc.elim)|fail
 refine aJ (ι:={j:Nat // j<=l0.length}) (fun t o i=>⟨aZ t [(1,.int .i64 (k+(aO (fun _=>8) (l0.take i.1):Nat))),(5,.int .i64 i.1)],o⟩)
  (fun i=>l0.length - i.1) ⟨0,by simp⟩ (aI (by simp) (by simp [aO])) ?_
 rintro ⟨j,hj⟩ K1 hK1
 simp only [aZ,set_cons_succ,set_cons_zero] at hK1⊢
 have hj1:i64.wrap ((j:Int)+1)=((j+1:Nat):Int):=by rw [wrap64]<;>omega
 have hle:=dC (fun _=>8) l0 (j+1)
 by_cases hlt:j < l0.length
 ·have hts:=bT (fun _=>8) l0 j hlt
  have hg:l[j]? =some (zA (k+(aO (fun _=>8) (l0.take j):Nat)) l0[j]):=hget j hlt
  generalize hq:k+(aO (fun _=>8) (l0.take j):Nat)=q at *
  have e2:q+1+1=q+2:=by omega
  have e3:q+2+1=q+3:=by omega
  have e4:q+3+1=q+4:=by omega
  have e5:q+4+1=q+5:=by omega
  have e6:q+5+1=q+6:=by omega
  have e7:q+6+1=q+7:=by omega
  have e8:q+7+1=q+8:=by omega
  simp only [zA,xQ] at hg
  have W:=aA hlen (aA hj1 (aA hg (aA e2 (aA e3 (aA e4 (aA e5 (aA e6 (aA e7 e8))))))))
  have V:=aA hlen (aA hj1 (aA hg (aA hlt (aA e2 (aA e3 (aA e4 (aA e5 (aA e6 (aA e7 e8)))))))))
  repeat' first|refine wl ?_|(refine nx ?_;refine sk (hc:=iW _ (by omega)) (h:=?_))|(refine sq ?_ ?_<;>intro hc<;>try exact hc.elim)|fail
  refine hK1 _ ⟨j+1,by omega⟩ (aI (by simp) ?_) (by simp only;omega)
  simp
  omega
 ·have htk:l0.take j=l0:=take_of_length_le (by omega)
  have hjl:j=l0.length:=by omega
  rw [htk] at *
  have W:=aA hlen hj1
  repeat' first|refine wl ?_|(refine sq ?_ ?_<;>intro hc<;>try exact hc.elim)|fail
  all_goals try(refine ⟨.inr rfl,?_⟩;simp [aB,results109])
theorem OU [aD prog] (l0:List dD) (k:Int) (h0:0<=k) (hl:k+(aO (fun _=>5) l0:Nat)<=4611686018427387000) (Lx:l0.length<=4611686018427387904):Ok prog 110 [.sl .view 5 ((sH rE (fun _=>5) k l0).map bO),.int .i64 k] (.int .i64 (k+(aO (fun _=>5) l0:Nat))):=by
 have hget:∀j (h:j < l0.length),(sH rE (fun _=>5) k l0)[j]? =some (rE (k+(aO (fun _=>5) (l0.take j):Nat)) l0[j]):=fun j h=>by
  rw [getElem?_eq_getElem (by rw [dZ];exact h),nN]
 generalize hu:sH rE (fun _=>5) k l0=l at *
 have hlen:l.length=l0.length:=by rw [<-hu,dZ]
 refine bR aAc func110 ntmps110 ?_
 have W:=trivial
 repeat' first|refine wl ?_|(refine sq ?_ ?_<;>intro hc<;>try exact hc.elim)|fail
 refine aJ (ι:={j:Nat // j<=l0.length}) (fun t o i=>⟨aZ t [(1,.int .i64 (k+(aO (fun _=>5) (l0.take i.1):Nat))),(5,.int .i64 i.1)],o⟩)
  (fun i=>l0.length - i.1) ⟨0,by simp⟩ (aI (by simp) (by simp [aO])) ?_
 rintro ⟨j,hj⟩ K1 hK1
 simp only [aZ,set_cons_succ,set_cons_zero] at hK1⊢
 have hj1:i64.wrap ((j:Int)+1)=((j+1:Nat):Int):=by rw [wrap64]<;>omega
 have hle:=dC (fun _=>5) l0 (j+1)
 by_cases hlt:j < l0.length
 ·have hts:=bT (fun _=>5) l0 j hlt
  have hg:l[j]? =some (rE (k+(aO (fun _=>5) (l0.take j):Nat)) l0[j]):=hget j hlt
  generalize hq:k+(aO (fun _=>5) (l0.take j):Nat)=q at *
  have e2:q+1+1=q+2:=by omega
  have e3:q+2+1=q+3:=by omega
  have e4:q+3+1=q+4:=by omega
  have e5:q+4+1=q+5:=by omega
  simp only [rE,xQ] at hg
  have W:=aA hlen (aA hj1 (aA hg (aA e2 (aA e3 (aA e4 e5)))))
  have V:=aA hlen (aA hj1 (aA hg (aA hlt (aA e2 (aA e3 (aA e4 e5))))))
  repeat' first|refine wl ?_|(refine nx ?_;refine sk (hc:=iW _ (by omega)) (h:=?_))|(refine sq ?_ ?_<;>intro hc<;>try exact hc.elim)|fail
  refine hK1 _ ⟨j+1,by omega⟩ (aI (by simp) ?_) (by simp only;omega)
  simp
  omega
 ·have htk:l0.take j=l0:=take_of_length_le (by omega)
  have hjl:j=l0.length:=by omega
  rw [htk] at *
  have W:=aA hlen hj1
  repeat' first|refine wl ?_|(refine sq ?_ ?_<;>intro hc<;>try exact hc.elim)|fail
  all_goals try(refine ⟨.inr rfl,?_⟩;simp [aB,results110])
theorem Qp [aD prog] (a:gN) (k:Int) (h0:0<=k) (hl:k+(nP a:Nat)<=4611686018427387000):
  Ok prog 106 [.agg (bV .view (zB k a)),.int .i64 k] (.int .i64 (k+(nP a:Nat))):=by
 simp only [nP] at hl
 have l1:=fK 1 a.jQ
 have l2:=fK 1 a.mO
 have l3:=fK 1 a.nD
 simp only [zB,bV]
 refine bR aAc func106 ntmps106 ?_
 have W:=trivial
 repeat' first|refine wl ?_|(refine nx ?_;first|refine sk (hc:=uV a.jQ _ (by omega) (by omega) (by omega)) (h:=?_)|refine sk (hc:=uV a.mO _ (by omega) (by omega) (by omega)) (h:=?_)|refine sk (hc:=uV a.nD _ (by omega) (by omega) (by omega)) (h:=?_))|(refine sq ?_ ?_<;>intro hc<;>try exact hc.elim)|fail
 all_goals try(refine ⟨.inr rfl,?_⟩;simp [aB,results106,nP])
 all_goals omega
theorem OV [aD prog] (a:aW) (k:Int) (h0:0<=k) (hl:k+(mV a:Nat)<=4611686018427387000) (hb:a.nodes.length<=4611686018427387904) (hba:∀x∈a.nodes,x.attrs.length<=4611686018427387904):
  Ok prog 108 [.agg (aN .view (vN k a)),.int .i64 k] (.int .i64 (k+(mV a:Nat))):=by
 simp only [mV] at hl
 have l1:=fK 1 a.opens
 simp only [vN,aN]
 refine bR aAc func108 ntmps108 ?_
 have W:=trivial
 repeat' first|refine wl ?_|(refine nx ?_;first|refine sk (hc:=TV a.nodes _ (by omega) (by omega) hb hba) (h:=?_)|refine sk (hc:=WI a.opens _ (by omega) (by omega) (by omega)) (h:=?_))|(refine sq ?_ ?_<;>intro hc<;>try exact hc.elim)|fail
 all_goals try(refine ⟨.inr rfl,?_⟩;simp [aB,results108,mV])
 all_goals omega
theorem WJ [aD prog] (a:aP) (k:Int) (h0:0<=k) (hl:k+(Dq a:Nat)<=4611686018427387000) (hq:a.queue.length<=4611686018427387904) (hqa:∀x∈a.queue,x.attrs.length<=4611686018427387904)
  (hb:a.builder.nodes.length<=4611686018427387904) (hba:∀x∈a.builder.nodes,x.attrs.length<=4611686018427387904):
  Ok prog 22 [.agg (aM .view (TH k a)),.int .i64 k] (.int .i64 (k+(Dq a:Nat))):=by
 simp only [Dq] at hl
 have l1:=fK 8 a.aF
 have l2:=fK 5 a.aX
 have l3:=fK 2 a.entries
 have l4:=fK 2 a.nY
 have l5:=fK 1 a.log
 simp only [TH,aM,zB,vN]
 refine bR aAc func22 ntmps22 ?_
 have W:=trivial
 repeat' first|refine wl ?_|(refine nx ?_;first|refine sk (hc:=Qp a.cB _ (by omega) (by omega)) (h:=?_)|refine sk (hc:=Qo a.queue _ (by omega) (by omega) hq hqa) (h:=?_)|refine sk (hc:=OV a.builder _ (by omega) (by omega) hb hba) (h:=?_)|refine sk (hc:=TW a.aF _ (by omega) (by omega) (by omega)) (h:=?_)|refine sk (hc:=OU a.aX _ (by omega) (by omega) (by omega)) (h:=?_)|refine sk (hc:=Io a.entries _ (by omega) (by omega) (by omega)) (h:=?_)|refine sk (hc:=Io a.nY _ (by omega) (by omega) (by omega)) (h:=?_)|refine sk (hc:=uV a.log _ (by omega) (by omega) (by omega)) (h:=?_))|(refine sq ?_ ?_<;>intro hc<;>try exact hc.elim)|fail
 all_goals try(refine ⟨.inr rfl,?_⟩;simp [aB,results22,Dq])
 all_goals omega
end Go.Proofs.YtlnblmmohpcceaaGreatDoor
