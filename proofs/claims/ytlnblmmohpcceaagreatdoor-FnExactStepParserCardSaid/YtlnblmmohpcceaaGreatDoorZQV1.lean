/- Proved here: steps towards the statement of this claim. No condition. -/
import Derived.Test.YtlnblmmohpcceaaGreatDoorZQU5
import Derived.Test.YtlnblmmohpcceaaGreatDoorZF4
set_option linter.all false
set_option maxRecDepth 4000
set_option maxHeartbeats 4000000
namespace Go.Proofs.YtlnblmmohpcceaaGreatDoor
open Go.Aw Proofs.Tryz List IntKind
theorem toPage_ok [aD prog] (a:aP) (hs:aL a<=1048576):Ok prog 18 [.agg (aM .view a)] (.agg (aM .own a)):=by
 simp only [aL] at hs
 refine bR aAc func18 ntmps18 ?_
 have W:=trivial
 repeat' first|refine wl ?_|(refine nx ?_;first|refine sk (hc:=toAddr_ok a.addr (by omega)) (h:=?_)|refine sk (hc:=toPolicy_ok a.cB (by omega)) (h:=?_)|refine sk (hc:=toTokenizer_ok a.tok (by omega)) (h:=?_)|refine sk (hc:=toTokenS_ok a.queue (by omega)) (h:=?_)|refine sk (hc:=toBuilder_ok a.builder (by omega)) (h:=?_)|refine sk (hc:=toSlotS_ok a.aF (by omega)) (h:=?_)|refine sk (hc:=toModuleS_ok a.aX (by omega)) (h:=?_)|refine sk (hc:=toAddrS_ok a.entries (by omega)) (h:=?_)|refine sk (hc:=toAddrS_ok a.nY (by omega)) (h:=?_)|refine sk (hc:=toStringS_ok a.log (by omega)) (h:=?_))|(refine sq ?_ ?_<;>intro hc<;>try exact hc.elim)|fail
 all_goals try(refine ⟨.inr rfl,?_⟩;simp [aB,results18])
theorem pg [aD prog] (a:aP) (n:Int) (h0:0<=n) (h1:n<=1048576) (hw:Sy a):Ok prog 16 [.agg (aM .view a),.int .i64 n] (.int .i64 (sub n (aL a))):=by
 simp only [Sy] at hw
 obtain ⟨aMl,aEk,aQ3,aHz,aAa,aH0,aMm,aAb,aQ4,aQ5⟩:=hw
 refine bR aAc func16 ntmps16 ?_
 have W:=trivial
 repeat' first|refine wl ?_|(refine nx ?_;first|refine sk (hc:=Ec a.addr _ (by omega) (by repeat' (first|omega|apply jX|apply iI)) aMl) (h:=?_)|refine sk (hc:=Vn a.cB _ (by omega) (by repeat' (first|omega|apply jX|apply iI)) aEk) (h:=?_)|refine sk (hc:=Nk a.tok _ (by omega) (by repeat' (first|omega|apply jX|apply iI)) aQ3) (h:=?_)|refine sk (hc:=Vp a.queue _ (by omega) (by repeat' (first|omega|apply jX|apply iI)) aHz) (h:=?_)|refine sk (hc:=SV a.builder _ (by omega) (by repeat' (first|omega|apply jX|apply iI)) aAa) (h:=?_)|refine sk (hc:=Yf a.aF _ (by omega) (by repeat' (first|omega|apply jX|apply iI)) aH0) (h:=?_)|refine sk (hc:=SQ a.aX _ (by omega) (by repeat' (first|omega|apply jX|apply iI)) aMm) (h:=?_)|refine sk (hc:=Nq a.entries _ (by omega) (by repeat' (first|omega|apply jX|apply iI)) aAb) (h:=?_)|refine sk (hc:=Nq a.nY _ (by omega) (by repeat' (first|omega|apply jX|apply iI)) aQ4) (h:=?_)|refine sk (hc:=xX a.log _ (by omega) (by repeat' (first|omega|apply jX|apply iI)) aQ5) (h:=?_))|(refine sq ?_ ?_<;>intro hc<;>try exact hc.elim)|fail
 all_goals try(refine ⟨.inr rfl,?_⟩;simp [aB,results16,aL])
 all_goals (
  (try generalize e0:sub n (aV a.addr)=m0 at *)
  (try (first|have f0:=jY e0 (by omega)|have f0:=iJ e0 (by omega) (by omega)))
  (try generalize e1:sub m0 (iC a.cB)=m1 at *)
  (try (first|have f1:=jY e1 (by omega)|have f1:=iJ e1 (by omega) (by omega)))
  (try generalize e2:sub m1 (oW a.tok)=m2 at *)
  (try (first|have f2:=jY e2 (by omega)|have f2:=iJ e2 (by omega) (by omega)))
  (try generalize e3:sub m2 (bP bF a.queue)=m3 at *)
  (try (first|have f3:=jY e3 (by omega)|have f3:=iJ e3 (by omega) (by omega)))
  (try generalize e4:sub m3 (aH a.builder)=m4 at *)
  (try (first|have f4:=jY e4 (by omega)|have f4:=iJ e4 (by omega) (by omega)))
  (try generalize e5:sub m4 (bP gZ a.aF)=m5 at *)
  (try (first|have f5:=jY e5 (by omega)|have f5:=iJ e5 (by omega) (by omega)))
  (try generalize e6:sub m5 (bP bE a.aX)=m6 at *)
  (try (first|have f6:=jY e6 (by omega)|have f6:=iJ e6 (by omega) (by omega)))
  (try generalize e7:sub m6 (bP aV a.entries)=m7 at *)
  (try (first|have f7:=jY e7 (by omega)|have f7:=iJ e7 (by omega) (by omega)))
  (try generalize e8:sub m7 (bP aV a.nY)=m8 at *)
  (try (first|have f8:=jY e8 (by omega)|have f8:=iJ e8 (by omega) (by omega)))
  (try generalize e9:sub m8 (bP gT a.log)=m9 at *)
  (try (first|have f9:=jY e9 (by omega)|have f9:=iJ e9 (by omega) (by omega)))
  repeat (simp (disch:=omega) only [wrap64] at *)
  (try simp only [sub]);(try split);all_goals omega)
theorem RN [aD prog] (a b:aP) (hs:aL a<=1099511627776):Ok prog 20 [.agg (aM .view a),.agg (aM .view b)] (.bool (decide (a=b))):=by
 simp only [aL] at hs
 refine bR aAc func20 ntmps20 ?_
 have W:=trivial
 repeat' first|refine wl ?_|(refine nx ?_;first|refine sk (hc:=Ed a.addr b.addr (by omega)) (h:=?_)|refine sk (hc:=Vo a.cB b.cB (by omega)) (h:=?_)|refine sk (hc:=Nl a.tok b.tok (by omega)) (h:=?_)|refine sk (hc:=Vq a.queue b.queue (by omega)) (h:=?_)|refine sk (hc:=SX a.builder b.builder (by omega)) (h:=?_)|refine sk (hc:=Yg a.aF b.aF (by omega)) (h:=?_)|refine sk (hc:=SS a.aX b.aX (by omega)) (h:=?_)|refine sk (hc:=Nr a.entries b.entries (by omega)) (h:=?_)|refine sk (hc:=Nr a.nY b.nY (by omega)) (h:=?_)|refine sk (hc:=xY a.log b.log (by omega)) (h:=?_))|(refine sq ?_ ?_<;>intro hc<;>try exact hc.elim)|fail
 all_goals try(refine ⟨.inr rfl,?_⟩;simp [aB,results20])
 all_goals ((repeat clear hK K);cases a;cases b;simp_all)
theorem iW [aD prog] (k:Int) (hk:k<=4611686018427387904):Ok prog 178 [.int .i64 k] (.str (uM k)):=by
 refine bR aAc func178 ntmps178 ?_
 have W:=trivial
 repeat' first|refine wl ?_|(refine sq ?_ ?_<;>intro hc<;>try exact hc.elim)|fail
 ·all_goals try(refine ⟨.inr rfl,?_⟩;simp [aB,results178])
  all_goals (simp [uM];omega)
 ·refine aJ (ι:={p:Nat×Int×bC // 0<=p.2.1/\p.2.1 < 10 ^ p.1/\p.2.1<=4611686018427387904/\digits p.1 p.2.1 p.2.2=digits 20 k []/\p.2.2.length<=40 - p.1/\p.1<=20}) (fun t o i=>⟨aZ t [(0,.int .i64 i.1.2.1),(3,.str i.1.2.2)],[]⟩)
   (fun i=>i.1.1) ⟨(20,k,[]),by simp only;omega,by simp only;omega,hk,rfl,by simp,by simp⟩ (aI (by simp) (by simp)) ?_
  rintro ⟨⟨f,n,out⟩,h0,hf,hn,hd,hl,hf2⟩ K1 hK1
  simp only at h0 hf hn hd hl hf2
  simp only [aZ,set_cons_succ,set_cons_zero] at hK1⊢
  have ht:n.tdiv 10=n / 10:=Int.tdiv_eq_ediv_of_nonneg h0
  have hw:i64.wrap (n.tdiv 10)=n.tdiv 10:=by rw [wrap64]<;>omega
  have qb:1+out.length<=9223372036854775807:=by omega
  by_cases aQ6:0 < n
  ·cases f with
   |zero=>exfalso;simp at hf;omega
   |succ f=>
    have W:=aA hw (aA qb aQ6)
    repeat' first|refine wl ?_|(refine sq ?_ ?_<;>intro hc<;>try exact hc.elim)|fail
    refine hK1 _ ⟨(f,n.tdiv 10,digit n::out),by simp only;omega,?_,by simp only;omega,?_,by simp only [length_cons];omega,by simp only;omega⟩ (aS 0 rfl (by simp [digit]) (by simp) (by simp)) (by simp)
    ·simp only [Int.pow_succ] at hf⊢;omega
    ·rw [<-hd];simp only [digits];rw [if_neg (by omega)]
  ·have:n=0:=by omega
   subst this
   rw [YH _ _ _ (by omega)] at hd
   have h64:1+out.length<=9223372036854775807:=by omega
   have W:=h64
   repeat' first|refine wl ?_|(refine sq ?_ ?_<;>intro hc<;>try exact hc.elim)|fail
   all_goals try(refine ⟨.inr rfl,?_⟩;simp [aB,results178])
   all_goals (rw [hd];simp [uM];omega)
theorem WG [aD prog] (l:List Int) (k:Int) (h0:0<=k) (hl:k+(aO (fun _=>1) l:Nat)<=4611686018427387000) (Lx:l.length<=4611686018427387904):Xu prog 181 (.sl .own 1 (l.map iX)) (.sl .own 1 ((sH Dp (fun _=>1) k l).map iX)) [.int .i64 k] (.int .i64 (k+(aO (fun _=>1) l:Nat))):=by
 generalize hu:(sH Dp (fun _=>1) k l).map iX=l'
 have xZ:l'.length=(l.map iX).length:=by rw [<-hu];simp [dZ]
 refine Ni aAc func181 ntmps181 ?_
 have W:=trivial
 repeat' first|refine wl ?_|(refine sq ?_ ?_<;>intro hc<;>try exact hc.elim)|fail
 refine aJ (ι:={j:Nat // j<=l.length}) (fun t o i=>⟨aZ t [(1,.int .i64 (k+(aO (fun _=>1) (l.take i.1):Nat))),(5,.int .i64 i.1)],[⟨true,false,1,0,oN (l.map iX) l' i.1⟩]⟩)
  (fun i=>l.length - i.1) ⟨0,by simp⟩ (aI (by simp [tT]) (by simp [aO])) ?_
 rintro ⟨j,hj⟩ K1 hK1
 simp only [aZ,set_cons_succ,set_cons_zero] at hK1⊢
 have hj1:i64.wrap ((j:Int)+1)=((j+1:Nat):Int):=by rw [wrap64]<;>omega
 have Cz:(oN (l.map iX) l' j).length=l.length:=by rw [pE _ _ _ xZ];simp
 have hle:=dC (fun _=>1) l (j+1)
 by_cases hlt:j < l.length
 ·have hts:=bT (fun _=>1) l j hlt
  have rO:=wQ (l.map iX) l' j (by simpa using hlt) (by rw [xZ];simpa using hlt)
  have yA:=wP (l.map iX) l' j (by simpa using hlt) (by rw [xZ];simpa using hlt)
  have he:l'[j]'(by rw [xZ];simpa using hlt)=iX (Dp (k+(aO (fun _=>1) (l.take j):Nat)) l[j]):=by
   subst hu
   rw [getElem_map,nN]
  rw [he] at yA
  generalize hq:k+(aO (fun _=>1) (l.take j):Nat)=q at *
  simp only [iX,Dp,xQ] at yA
  have W:=aA Cz (aA rO (aA hj1 yA))
  have V:=aA Cz (aA hj1 (aA yA hlt))
  repeat' first|refine wl ?_|(refine sq ?_ ?_<;>intro hc<;>try exact hc.elim)|fail
  refine hK1 _ ⟨j+1,by omega⟩ (aI (by simp) ?_) (by simp only;omega)
  simp
  omega
 ·have qa:=sG (l.map iX) l' j xZ (by simp;omega)
  have hjl:j=l.length:=by omega
  have wU:gF l'=true:=by rw [<-hu];simp
  have htk:l.take j=l:=take_of_length_le (by omega)
  rw [htk] at *
  have W:=aA Cz hj1
  repeat' first|refine wl ?_|(refine sq ?_ ?_<;>intro hc<;>try exact hc.elim)|fail
  all_goals try(refine ⟨.inr rfl,?_⟩;simp [vG,results181,qa,wU])
theorem uU [aD prog] (l:List bC) (k:Int) (h0:0<=k) (hl:k+(aO (fun _=>1) l:Nat)<=4611686018427387000) (Lx:l.length<=4611686018427387904):Xu prog 105 (.sl .own 1 (l.map fF)) (.sl .own 1 ((sH nO (fun _=>1) k l).map fF)) [.int .i64 k] (.int .i64 (k+(aO (fun _=>1) l:Nat))):=by
 generalize hu:(sH nO (fun _=>1) k l).map fF=l'
 have xZ:l'.length=(l.map fF).length:=by rw [<-hu];simp [dZ]
 refine Ni aAc func105 ntmps105 ?_
 have W:=trivial
 repeat' first|refine wl ?_|(refine sq ?_ ?_<;>intro hc<;>try exact hc.elim)|fail
 refine aJ (ι:={j:Nat // j<=l.length}) (fun t o i=>⟨aZ t [(1,.int .i64 (k+(aO (fun _=>1) (l.take i.1):Nat))),(5,.int .i64 i.1)],[⟨true,false,1,0,oN (l.map fF) l' i.1⟩]⟩)
  (fun i=>l.length - i.1) ⟨0,by simp⟩ (aI (by simp [tT]) (by simp [aO])) ?_
 rintro ⟨j,hj⟩ K1 hK1
 simp only [aZ,set_cons_succ,set_cons_zero] at hK1⊢
 have hj1:i64.wrap ((j:Int)+1)=((j+1:Nat):Int):=by rw [wrap64]<;>omega
 have Cz:(oN (l.map fF) l' j).length=l.length:=by rw [pE _ _ _ xZ];simp
 have hle:=dC (fun _=>1) l (j+1)
 by_cases hlt:j < l.length
 ·have hts:=bT (fun _=>1) l j hlt
  have rO:=wQ (l.map fF) l' j (by simpa using hlt) (by rw [xZ];simpa using hlt)
  have yA:=wP (l.map fF) l' j (by simpa using hlt) (by rw [xZ];simpa using hlt)
  have he:l'[j]'(by rw [xZ];simpa using hlt)=fF (nO (k+(aO (fun _=>1) (l.take j):Nat)) l[j]):=by
   subst hu
   rw [getElem_map,nN]
  rw [he] at yA
  generalize hq:k+(aO (fun _=>1) (l.take j):Nat)=q at *
  simp only [fF,nO,xQ] at yA
  have W:=aA Cz (aA rO (aA hj1 yA))
  have V:=aA Cz (aA hj1 (aA yA hlt))
  repeat' first|refine wl ?_|(refine nx ?_;refine sk (hc:=iW _ (by omega)) (h:=?_))|(refine sq ?_ ?_<;>intro hc<;>try exact hc.elim)|fail
  refine hK1 _ ⟨j+1,by omega⟩ (aI (by simp) ?_) (by simp only;omega)
  simp
  omega
 ·have qa:=sG (l.map fF) l' j xZ (by simp;omega)
  have hjl:j=l.length:=by omega
  have wU:gF l'=true:=by rw [<-hu];simp
  have htk:l.take j=l:=take_of_length_le (by omega)
  rw [htk] at *
  have W:=aA Cz hj1
  repeat' first|refine wl ?_|(refine sq ?_ ?_<;>intro hc<;>try exact hc.elim)|fail
  all_goals try(refine ⟨.inr rfl,?_⟩;simp [vG,results105,qa,wU])
theorem Il [aD prog] (l:List aT) (k:Int) (h0:0<=k) (hl:k+(aO (fun _=>2) l:Nat)<=4611686018427387000) (Lx:l.length<=4611686018427387904):Xu prog 104 (.sl .own 2 (l.map aK)) (.sl .own 2 ((sH xC (fun _=>2) k l).map aK)) [.int .i64 k] (.int .i64 (k+(aO (fun _=>2) l:Nat))):=by
 generalize hu:(sH xC (fun _=>2) k l).map aK=l'
 have xZ:l'.length=(l.map aK).length:=by rw [<-hu];simp [dZ]
 refine Ni aAc func104 ntmps104 ?_
 have W:=trivial
 repeat' first|refine wl ?_|(refine sq ?_ ?_<;>intro hc<;>try exact hc.elim)|fail
 refine aJ (ι:={j:Nat // j<=l.length}) (fun t o i=>⟨aZ t [(1,.int .i64 (k+(aO (fun _=>2) (l.take i.1):Nat))),(5,.int .i64 i.1)],[⟨true,false,2,0,oN (l.map aK) l' i.1⟩]⟩)
  (fun i=>l.length - i.1) ⟨0,by simp⟩ (aI (by simp [tT]) (by simp [aO])) ?_
 rintro ⟨j,hj⟩ K1 hK1
 simp only [aZ,set_cons_succ,set_cons_zero] at hK1⊢
 have hj1:i64.wrap ((j:Int)+1)=((j+1:Nat):Int):=by rw [wrap64]<;>omega
 have Cz:(oN (l.map aK) l' j).length=l.length:=by rw [pE _ _ _ xZ];simp
 have hle:=dC (fun _=>2) l (j+1)
 by_cases hlt:j < l.length
 ·have hts:=bT (fun _=>2) l j hlt
  have rO:=wQ (l.map aK) l' j (by simpa using hlt) (by rw [xZ];simpa using hlt)
  have yA:=wP (l.map aK) l' j (by simpa using hlt) (by rw [xZ];simpa using hlt)
  have he:l'[j]'(by rw [xZ];simpa using hlt)=aK (xC (k+(aO (fun _=>2) (l.take j):Nat)) l[j]):=by
   subst hu
   rw [getElem_map,nN]
  rw [he] at yA
  generalize hq:k+(aO (fun _=>2) (l.take j):Nat)=q at *
  have e2:q+1+1=q+2:=by omega
  simp only [aK,xC,xQ] at yA
  have W:=aA Cz (aA rO (aA hj1 (aA yA e2)))
  have V:=aA Cz (aA hj1 (aA yA (aA hlt e2)))
  repeat' first|refine wl ?_|(refine nx ?_;refine sk (hc:=iW _ (by omega)) (h:=?_))|(refine sq ?_ ?_<;>intro hc<;>try exact hc.elim)|fail
  refine hK1 _ ⟨j+1,by omega⟩ (aI (by simp) ?_) (by simp only;omega)
  simp
  omega
 ·have qa:=sG (l.map aK) l' j xZ (by simp;omega)
  have hjl:j=l.length:=by omega
  have wU:gF l'=true:=by rw [<-hu];simp
  have htk:l.take j=l:=take_of_length_le (by omega)
  rw [htk] at *
  have W:=aA Cz hj1
  repeat' first|refine wl ?_|(refine sq ?_ ?_<;>intro hc<;>try exact hc.elim)|fail
  all_goals try(refine ⟨.inr rfl,?_⟩;simp [vG,results104,qa,wU])
theorem Im [aD prog] (l:List iU) (k:Int) (h0:0<=k) (hl:k+(aO (fun _=>2) l:Nat)<=4611686018427387000) (Lx:l.length<=4611686018427387904):Xu prog 179 (.sl .own 2 (l.map fQ)) (.sl .own 2 ((sH xD (fun _=>2) k l).map fQ)) [.int .i64 k] (.int .i64 (k+(aO (fun _=>2) l:Nat))):=by
 generalize hu:(sH xD (fun _=>2) k l).map fQ=l'
 have xZ:l'.length=(l.map fQ).length:=by rw [<-hu];simp [dZ]
 refine Ni aAc func179 ntmps179 ?_
 have W:=trivial
 repeat' first|refine wl ?_|(refine sq ?_ ?_<;>intro hc<;>try exact hc.elim)|fail
 refine aJ (ι:={j:Nat // j<=l.length}) (fun t o i=>⟨aZ t [(1,.int .i64 (k+(aO (fun _=>2) (l.take i.1):Nat))),(5,.int .i64 i.1)],[⟨true,false,2,0,oN (l.map fQ) l' i.1⟩]⟩)
  (fun i=>l.length - i.1) ⟨0,by simp⟩ (aI (by simp [tT]) (by simp [aO])) ?_
 rintro ⟨j,hj⟩ K1 hK1
 simp only [aZ,set_cons_succ,set_cons_zero] at hK1⊢
 have hj1:i64.wrap ((j:Int)+1)=((j+1:Nat):Int):=by rw [wrap64]<;>omega
 have Cz:(oN (l.map fQ) l' j).length=l.length:=by rw [pE _ _ _ xZ];simp
 have hle:=dC (fun _=>2) l (j+1)
 by_cases hlt:j < l.length
 ·have hts:=bT (fun _=>2) l j hlt
  have rO:=wQ (l.map fQ) l' j (by simpa using hlt) (by rw [xZ];simpa using hlt)
  have yA:=wP (l.map fQ) l' j (by simpa using hlt) (by rw [xZ];simpa using hlt)
  have he:l'[j]'(by rw [xZ];simpa using hlt)=fQ (xD (k+(aO (fun _=>2) (l.take j):Nat)) l[j]):=by
   subst hu
   rw [getElem_map,nN]
  rw [he] at yA
  generalize hq:k+(aO (fun _=>2) (l.take j):Nat)=q at *
  have e2:q+1+1=q+2:=by omega
  simp only [fQ,xD,xQ] at yA
  have W:=aA Cz (aA rO (aA hj1 (aA yA e2)))
  have V:=aA Cz (aA hj1 (aA yA (aA hlt e2)))
  repeat' first|refine wl ?_|(refine nx ?_;refine sk (hc:=iW _ (by omega)) (h:=?_))|(refine sq ?_ ?_<;>intro hc<;>try exact hc.elim)|fail
  refine hK1 _ ⟨j+1,by omega⟩ (aI (by simp) ?_) (by simp only;omega)
  simp
  omega
 ·have qa:=sG (l.map fQ) l' j xZ (by simp;omega)
  have hjl:j=l.length:=by omega
  have wU:gF l'=true:=by rw [<-hu];simp
  have htk:l.take j=l:=take_of_length_le (by omega)
  rw [htk] at *
  have W:=aA Cz hj1
  repeat' first|refine wl ?_|(refine sq ?_ ?_<;>intro hc<;>try exact hc.elim)|fail
  all_goals try(refine ⟨.inr rfl,?_⟩;simp [vG,results179,qa,wU])
theorem OO (l:List bH):((l.map (bB .own)).all fun r=>r.all AV.wK)=true:=by simp [AV.wK]
theorem WH (l:List bH):((l.map (bB .own)).all fun r=>r.all AV.nd)=true:=by simp [AV.nd]
theorem Qm [aD prog] (l:List bH) (k:Int) (h0:0<=k) (hl:k+(aO iE l:Nat)<=4611686018427387000) (Lx:l.length<=4611686018427387904) (jl:∀x∈l,x.attrs.length<=4611686018427387904):
  Xu prog 100 (.sl .own 4 (l.map (bB .own))) (.sl .own 4 ((sH qN iE k l).map (bB .own))) [.int .i64 k] (.int .i64 (k+(aO iE l:Nat))):=by
 have hpR:=OO l
 have hpL:=OO (sH qN iE k l)
 have hnR:=WH l
 have hnL:=WH (sH qN iE k l)
 have wU:gF ((sH qN iE k l).map (bB .own))=true:=by simp
 generalize hu:(sH qN iE k l).map (bB .own)=l' at *
 generalize hR:l.map (bB .own)=R at *
 have hRl:R.length=l.length:=by rw [<-hR];simp
 have xZ:l'.length=R.length:=by rw [<-hu,hRl];simp [dZ]
 let OB:Nat->List aG:=fun j=>if h:j < l.length then [⟨true,true,4,0,(oN R l' j).set j [.int .i64 l[j].kind,.str l[j].name,.obj 1 1,.str l[j].text]⟩,⟨true,false,2,1,l[j].attrs.map fQ⟩] else [⟨true,false,4,0,l'⟩]
 have OP:∀(t t':List AV) (j:Nat),j<=l.length->wk (wT (gM [0]) true t) t'->wk t t'->lS ⟨t,[⟨true,false,4,0,oN R l' j⟩]⟩ ⟨t',OB j⟩:=by
  intro t t' j hj h1 h2
  by_cases h:j < l.length
  ·have e1:OB j=[⟨true,true,4,0,(oN R l' j).set j [.int .i64 l[j].kind,.str l[j].name,.obj 1 1,.str l[j].text]⟩,⟨true,false,2,1,l[j].attrs.map fQ⟩]:=dif_pos h
   rw [e1]
   have hg:=wQ R l' j (by omega) (by omega)
   have hRj:R[j]'(by omega)=bB .own l[j]:=by subst hR;simp
   rw [hRj] at hg
   exact Ra 0 j 2 rfl rfl rfl hg rfl rfl h1
  ·have e1:OB j=[⟨true,false,4,0,l'⟩]:=dif_neg h
   rw [e1,sG R l' j xZ (by omega)]
   exact wZ h2
 refine Ni aAc func100 ntmps100 ?_
 have W:=trivial
 repeat' first|refine wl ?_|(refine sq ?_ ?_<;>intro hc<;>try exact hc.elim)|fail
 refine aJ (ι:={j:Nat // j<=l.length}) (fun t o i=>⟨aZ t [(1,.int .i64 (k+(aO iE (l.take i.1):Nat))),(5,.int .i64 i.1)],OB i.1⟩)
  (fun i=>l.length - i.1) ⟨0,by simp⟩ (by rw [<-tT R l'];exact OP _ _ 0 (by omega) (by simp [aO]) (by simp [aO])) ?_
 rintro ⟨j,hj⟩ K1 hK1
 simp only [aZ,set_cons_succ,set_cons_zero] at hK1⊢
 have hj1:i64.wrap ((j:Int)+1)=((j+1:Nat):Int):=by rw [wrap64]<;>omega
 have Cz:(oN R l' j).length=l.length:=by rw [pE _ _ _ xZ,hRl]
 have hle:=dC iE l (j+1)
 by_cases hlt:j < l.length
 ·have hts:=bT iE l j hlt
  have yA:=wP R l' j (by omega) (by omega)
  have he:l'[j]'(by omega)=bB .own (qN (k+(aO iE (l.take j):Nat)) l[j]):=by
   subst hu
   rw [getElem_map,nN]
  rw [he] at yA
  have hnm:yM (oN R l' j)=true:=LD (p:=fun r:List AV=>r.all AV.nd) hnR hnL
  have hpm:((oN R l' j).all fun r=>r.all AV.wK)=true:=LD (p:=fun r:List AV=>r.all AV.wK) hpR hpL
  have hOB:OB j=[⟨true,true,4,0,(oN R l' j).set j [.int .i64 l[j].kind,.str l[j].name,.obj 1 1,.str l[j].text]⟩,⟨true,false,2,1,l[j].attrs.map fQ⟩]:=dif_pos hlt
  rw [hOB]
  clear_value OB
  have hcx:iE l[j]=3+aO (fun _=>2) l[j].attrs:=rfl
  have hax:=jl _ (getElem_mem hlt)
  have aAd:=OP
  generalize hq:k+(aO iE (l.take j):Nat)=q at *
  have e2:q+1+1=q+2:=by omega
  simp only [bB,qN] at yA
  have W:=aA Cz (aA hj1 (aA e2 hnm))
  have V:=aA Cz (aA hj1 (aA hlt (aA e2 hnm)))
  repeat' first|refine wl ?_|(refine nx ?_;first|refine sk (hc:=iW _ (by omega)) (h:=?_)|refine sm (hc:=Im l[j].attrs _ (by omega) (by omega) (by omega)) (h:=?_))|(refine sq ?_ ?_<;>intro hc<;>try exact hc.elim)|fail
  refine hK1 _ ⟨j+1,by omega⟩ (lS.trans (Nu 0 1 j 2 rfl rfl (by decide) rfl rfl rfl (by rw [getElem?_set_self (by omega)]) rfl rfl (by rw [set_set];exact ZZ (p:=fun r:List AV=>r.all AV.wK) hpm (by simp [AV.wK])) rfl rfl (kK _)) (lS.trans (aS 1 (o':=[⟨true,false,4,0,oN R l' (j+1)⟩]) ?go ?gw ?gc ?gb) (aAd _ _ (j+1) (by omega) ?gr (kK _)))) (by simp only;omega)
  case go=>simp [set_set,yA]
  case gw=>(simp;omega)
  case gc=>simp
  case gb=>simp
  case gr=>simp
 ·have hjl:j=l.length:=by omega
  have qa:=sG R l' j xZ (by omega)
  have htk:l.take j=l:=take_of_length_le (by omega)
  rw [htk] at *
  have hOB:OB j=[⟨true,false,4,0,l'⟩]:=dif_neg hlt
  rw [hOB]
  clear_value OB
  have aH2:l'.length=l.length:=by omega
  have W:=aA aH2 hj1
  repeat' first|refine wl ?_|(refine sq ?_ ?_<;>intro hc<;>try exact hc.elim)|fail
  all_goals try(refine ⟨.inr rfl,?_⟩;simp [vG,results100,wU])
theorem RO (l:List eY):((l.map (bX .own)).all fun r=>r.all AV.wK)=true:=by simp [AV.wK]
theorem ak (l:List eY):((l.map (bX .own)).all fun r=>r.all AV.nd)=true:=by simp [AV.nd]
theorem TT [aD prog] (l:List eY) (k:Int) (h0:0<=k) (hl:k+(aO nC l:Nat)<=4611686018427387000) (Lx:l.length<=4611686018427387904) (jl:∀x∈l,x.attrs.length<=4611686018427387904):
  Xu prog 180 (.sl .own 4 (l.map (bX .own))) (.sl .own 4 ((sH mkNode nC k l).map (bX .own))) [.int .i64 k] (.int .i64 (k+(aO nC l:Nat))):=by
 have hpR:=RO l
 have hpL:=RO (sH mkNode nC k l)
 have hnR:=ak l
 have hnL:=ak (sH mkNode nC k l)
 have wU:gF ((sH mkNode nC k l).map (bX .own))=true:=by simp
 generalize hu:(sH mkNode nC k l).map (bX .own)=l' at *
 generalize hR:l.map (bX .own)=R at *
 have hRl:R.length=l.length:=by rw [<-hR];simp
 have xZ:l'.length=R.length:=by rw [<-hu,hRl];simp [dZ]
 let OB:Nat->List aG:=fun j=>if h:j < l.length then [⟨true,true,4,0,(oN R l' j).set j [.str l[j].name,.str l[j].text,.int .i64 l[j].parent,.obj 1 1]⟩,⟨true,false,2,1,l[j].attrs.map fQ⟩] else [⟨true,false,4,0,l'⟩]
 have OP:∀(t t':List AV) (j:Nat),j<=l.length->wk (wT (gM [0]) true t) t'->wk t t'->lS ⟨t,[⟨true,false,4,0,oN R l' j⟩]⟩ ⟨t',OB j⟩:=by
  intro t t' j hj h1 h2
  by_cases h:j < l.length
  ·have e1:OB j=[⟨true,true,4,0,(oN R l' j).set j [.str l[j].name,.str l[j].text,.int .i64 l[j].parent,.obj 1 1]⟩,⟨true,false,2,1,l[j].attrs.map fQ⟩]:=dif_pos h
   rw [e1]
   have hg:=wQ R l' j (by omega) (by omega)
   have hRj:R[j]'(by omega)=bX .own l[j]:=by subst hR;simp
   rw [hRj] at hg
   exact Ra 0 j 3 rfl rfl rfl hg rfl rfl h1
  ·have e1:OB j=[⟨true,false,4,0,l'⟩]:=dif_neg h
   rw [e1,sG R l' j xZ (by omega)]
   exact wZ h2
 refine Ni aAc func180 ntmps180 ?_
 have W:=trivial
 repeat' first|refine wl ?_|(refine sq ?_ ?_<;>intro hc<;>try exact hc.elim)|fail
 refine aJ (ι:={j:Nat // j<=l.length}) (fun t o i=>⟨aZ t [(1,.int .i64 (k+(aO nC (l.take i.1):Nat))),(5,.int .i64 i.1)],OB i.1⟩)
  (fun i=>l.length - i.1) ⟨0,by simp⟩ (by rw [<-tT R l'];exact OP _ _ 0 (by omega) (by simp [aO]) (by simp [aO])) ?_
 rintro ⟨j,hj⟩ K1 hK1
 simp only [aZ,set_cons_succ,set_cons_zero] at hK1⊢
 have hj1:i64.wrap ((j:Int)+1)=((j+1:Nat):Int):=by rw [wrap64]<;>omega
 have Cz:(oN R l' j).length=l.length:=by rw [pE _ _ _ xZ,hRl]
 have hle:=dC nC l (j+1)
 by_cases hlt:j < l.length
 ·have hts:=bT nC l j hlt
  have yA:=wP R l' j (by omega) (by omega)
  have he:l'[j]'(by omega)=bX .own (mkNode (k+(aO nC (l.take j):Nat)) l[j]):=by
   subst hu
   rw [getElem_map,nN]
  rw [he] at yA
  have hnm:yM (oN R l' j)=true:=LD (p:=fun r:List AV=>r.all AV.nd) hnR hnL
  have hpm:((oN R l' j).all fun r=>r.all AV.wK)=true:=LD (p:=fun r:List AV=>r.all AV.wK) hpR hpL
  have hOB:OB j=[⟨true,true,4,0,(oN R l' j).set j [.str l[j].name,.str l[j].text,.int .i64 l[j].parent,.obj 1 1]⟩,⟨true,false,2,1,l[j].attrs.map fQ⟩]:=dif_pos hlt
  rw [hOB]
  clear_value OB
  have hcx:nC l[j]=3+aO (fun _=>2) l[j].attrs:=rfl
  have hax:=jl _ (getElem_mem hlt)
  have aAd:=OP
  generalize hq:k+(aO nC (l.take j):Nat)=q at *
  have e2:q+1+1=q+2:=by omega
  have e3:q+2+1=q+3:=by omega
  simp only [bX,mkNode] at yA
  have W:=aA Cz (aA hj1 (aA e2 (aA e3 hnm)))
  have V:=aA Cz (aA hj1 (aA hlt (aA e2 (aA e3 hnm))))
  repeat' first|refine wl ?_|(refine nx ?_;first|refine sk (hc:=iW _ (by omega)) (h:=?_)|refine sm (hc:=Im l[j].attrs _ (by omega) (by omega) (by omega)) (h:=?_))|(refine sq ?_ ?_<;>intro hc<;>try exact hc.elim)|fail
  refine hK1 _ ⟨j+1,by omega⟩ (lS.trans (Nu 0 1 j 3 rfl rfl (by decide) rfl rfl rfl (by rw [getElem?_set_self (by omega)]) rfl rfl (by rw [set_set];exact ZZ (p:=fun r:List AV=>r.all AV.wK) hpm (by simp [AV.wK])) rfl rfl (kK _)) (lS.trans (aS 1 (o':=[⟨true,false,4,0,oN R l' (j+1)⟩]) ?go ?gw ?gc ?gb) (aAd _ _ (j+1) (by omega) ?gr (kK _)))) (by simp only;omega)
  case go=>simp [set_set,yA]
  case gw=>(simp;omega)
  case gc=>simp
  case gb=>simp
  case gr=>simp
 ·have hjl:j=l.length:=by omega
  have qa:=sG R l' j xZ (by omega)
  have htk:l.take j=l:=take_of_length_le (by omega)
  rw [htk] at *
  have hOB:OB j=[⟨true,false,4,0,l'⟩]:=dif_neg hlt
  rw [hOB]
  clear_value OB
  have aH2:l'.length=l.length:=by omega
  have W:=aA aH2 hj1
  repeat' first|refine wl ?_|(refine sq ?_ ?_<;>intro hc<;>try exact hc.elim)|fail
  all_goals try(refine ⟨.inr rfl,?_⟩;simp [vG,results180,wU])
theorem Qn [aD prog] (a:gN) (k:Int) (h0:0<=k) (hl:k+(nP a:Nat)<=4611686018427387000):Xu prog 99 (.agg (bV .own a)) (.agg (bV .own (zB k a))) [.int .i64 k] (.int .i64 (k+(nP a:Nat))):=by
 simp only [nP] at hl
 have l1:=fK 1 a.jQ
 have l2:=fK 1 a.mO
 have l3:=fK 1 a.nD
 refine Ni aAc func99 ntmps99 ?_
 have W:=trivial
 repeat' first|refine wl ?_|(refine nx ?_;first|refine sm (hc:=uU a.jQ _ (by omega) (by omega) (by omega)) (h:=?_)|refine sm (hc:=uU a.mO _ (by omega) (by omega) (by omega)) (h:=?_)|refine sm (hc:=uU a.nD _ (by omega) (by omega) (by omega)) (h:=?_))|(refine sq ?_ ?_<;>intro hc<;>try exact hc.elim)|fail
 all_goals try(refine ⟨.inr rfl,?_⟩;simp [vG,results99,zB,nP])
 all_goals (try omega)
theorem OQ [aD prog] (a:aW) (k:Int) (h0:0<=k) (hl:k+(mV a:Nat)<=4611686018427387000) (Lx:a.nodes.length<=4611686018427387904) (jl:∀x∈a.nodes,x.attrs.length<=4611686018427387904):Xu prog 101 (.agg (aN .own a)) (.agg (aN .own (vN k a))) [.int .i64 k] (.int .i64 (k+(mV a:Nat))):=by
 simp only [mV] at hl
 have l2:=fK 1 a.opens
 refine Ni aAc func101 ntmps101 ?_
 have W:=trivial
 repeat' first|refine wl ?_|(refine nx ?_;first|refine sm (hc:=TT a.nodes _ (by omega) (by omega) Lx jl) (h:=?_)|refine sm (hc:=WG a.opens _ (by omega) (by omega) (by omega)) (h:=?_))|(refine sq ?_ ?_<;>intro hc<;>try exact hc.elim)|fail
 all_goals try(refine ⟨.inr rfl,?_⟩;simp [vG,results101,vN,mV])
 all_goals (try omega)
end Go.Proofs.YtlnblmmohpcceaaGreatDoor
