/- Proved here: steps towards the statement of this claim. No condition. -/
import Derived.Test.YtlnblmmohpcceaaGreatDoorZZ6
set_option linter.all false
set_option maxRecDepth 8000
set_option maxHeartbeats 8000000
namespace Go.Proofs.YtlnblmmohpcceaaGreatDoor
open Go.Aw Proofs.Tryz List IntKind
theorem Wu (c:UInt8):∀s:bC,aO gT (eF c s)<=s.length
 |[]=>by simp [eF,aO,gT]
 |x::s=>by
  have ih:=Wu c s
  simp only [eF]
  split
  ·simp only [aO,gT,length_nil,length_cons] at ih⊢;omega
  ·split
   ·rename_i h0;exact absurd h0 (xV c s)
   ·rename_i p q h0
    rw [h0] at ih
    simp only [aO,gT,length_cons] at ih⊢;omega
theorem aEj (s b:bC):aV (bQ s b).1<=s.length+b.length:=by
 have h:=qW 47 s
 unfold bQ addrOf
 split<;>split<;>simp [aV,uI]<;>omega
theorem ah (base:bC):∀(l:List bC) (acc:List aT) (q:List bC),nV base l=some (acc,q)->7 * acc.length<=aO gT l/\aO aV acc<=aO gT l+acc.length * base.length/\∀x∈acc,aV x<=aO gT l+base.length
 |[],acc,q,h=>by
  simp only [nV,Option.some.injEq,Prod.mk.injEq] at h
  obtain ⟨rfl,rfl⟩:=h
  simp [aO]
 |p::ps,acc,q,h=>by
  simp only [nV] at h
  split at h
  ·rename_i hp
   split at h
   ·obtain ⟨⟨a1,q1⟩,h1,h2⟩:=Option.map_eq_some_iff.1 h
    simp only [Prod.mk.injEq] at h2
    obtain ⟨rfl,rfl⟩:=h2
    obtain ⟨i1,i2,i3⟩:=ah base ps a1 q1 h1
    have h7:=Tw hp
    have ha:=aEj (p.drop 7) base
    simp only [show xG.length=7 from rfl] at h7
    simp only [length_drop] at ha
    simp only [aO,gT,length_cons,Nat.succ_mul] at i1 i2 i3⊢
    refine ⟨by omega,by omega,?_⟩
    intro x hx
    rcases mem_cons.1 hx with rfl|hx
    ·omega
    ·have:=i3 x hx;omega
   ·cases h
  ·simp only [Option.some.injEq,Prod.mk.injEq] at h
   obtain ⟨rfl,rfl⟩:=h
   simp [aO]
theorem Ch (s b:bC):7 * (bA s b).1.length<=s.length/\aO aV (bA s b).1<=s.length+(bA s b).1.length * b.length/\∀x∈(bA s b).1,aV x<=s.length+b.length:=by
 have hs:=Wu 59 s
 unfold bA
 split
 ·simp [aO]
 ·rename_i l q h
  obtain ⟨i1,i2,i3⟩:=ah b _ _ _ h
  split
  ·exact ⟨by simp only;omega,by simp only;omega,fun x hx=>by have:=i3 x hx;omega⟩
  ·simp [aO]
theorem ai (N:Nat):∀l:List dD,(∀m∈l,bE m<=N)->7 * (l.flatMap fun m=>(bA m.body m.to.host).1).length<=aO bE l/\aO aV (l.flatMap fun m=>(bA m.body m.to.host).1)<=aO bE l+(l.flatMap fun m=>(bA m.body m.to.host).1).length * N
 |[],_=>by simp [aO]
 |m::l,h=>by
  obtain ⟨i1,i2⟩:=ai N l (fun x hx=>h x (by simp [hx]))
  obtain ⟨j1,j2,_⟩:=Ch m.body m.to.host
  have hm:=h m (by simp)
  simp only [bE,aV] at hm
  have h3:=Nat.mul_le_mul_left (bA m.body m.to.host).1.length (show m.to.host.length<=N by omega)
  simp only [flatMap_cons,length_append,aO,iM,Nat.add_mul,bE,aV] at i1 i2⊢
  exact ⟨by omega,by omega⟩
theorem DI (p:aP) (a:aT) (h:bP bE p.aX+aV a<=16777216):jk p (a::qP p)/\(a::qP p).length<=2396746/\aO aV (a::qP p)<=50000000000000:=by
 have hm:∀m∈p.aX,bE m<=16777216:=fun m hm=>by
  have:=bU bE hm
  simp only [aL,bP] at h
  omega
 obtain ⟨f1,f2⟩:=ai 16777216 p.aX hm
 have hs:aO bE p.aX<=16777216:=by simp only [aL,bP] at h;omega
 have hl:(qP p).length<=2396745:=by unfold qP;omega
 have h4:=Nat.mul_le_mul_right 16777216 hl
 have h5:aO aV (qP p)<=16777216+(qP p).length * 16777216:=by unfold qP;omega
 refine ⟨⟨by omega,fun x hx=>mem_cons_of_mem _ hx,by simp only [length_cons];omega,?_,?_⟩,by simp only [length_cons];omega,by simp only [aO];omega⟩
 ·intro x hx
  rcases mem_cons.1 hx with rfl|hx
  ·simp only [aV] at h;omega
  ·obtain ⟨m,h1,h2⟩:=mem_flatMap.1 hx
   have h6:=(Ch m.body m.to.host).2.2 x h2
   have h7:=hm m h1
   simp only [bE,aV] at h6 h7
   omega
 ·intro m h1
  have h6:=(Ch m.body m.to.host).1
  have h7:=hm m h1
  simp only [bE] at h7
  omega
theorem HZ (p:aP) (a:aT) (h:bP bE p.aX+aV a<=16777216):(dH p a).length<=2396746/\aO aV (dH p a)<=50000000000000/\∀x∈dH p a,x∈a::qP p:=by
 obtain ⟨hb,h1,h2⟩:=DI p a h
 have hs:=(Cf hb.im (nW p []+1) a ([],[]) (by simp) ⟨by simp,by simp,by simp,by simp⟩).1
 obtain ⟨h3,h4⟩:=Bp aV _ (a::qP p) hs.ond (fun x hx=>hs.sub x (hs.Wm x hx))
 exact ⟨Nat.le_trans h4 h1,Nat.le_trans h3 h2,fun x hx=>hs.sub x (hs.Wm x hx)⟩
def lK (p:aP) (a:aT):Bool:=
 match p.aX.find? (pF a) with
 |some m=>m.done
 |none=>false
def tC (p:aP) (a:aT):Bool:=(dH p a).all (lK p)
def pU (p:aP) (a:aT):Bool:= !(dH p a).all (kM p)
theorem TN {α:Type} {f:α->Bool} {l:List α} (k:Nat) (hk:k < l.length) (h:f l[k]=false):l.all f=false:=by
 cases hb:l.all f with
 |false=>rfl
 |true=>
  rw [all_eq_true] at hb
  have:=hb l[k] (getElem_mem hk)
  rw [h] at this;cases this
theorem LH {α:Type} {f:α->Bool} {l:List α} (h:∀x∈l,f x=true):l.all f=true:=all_eq_true.2 h
theorem Ia [aD prog] [eO prog] (p:aP) (a:aT) (hs:bP bE p.aX+aV a<=16777216):Ok prog 85 [.agg (aM .view p),.agg (aK a)] (.bool (tC p a)):=by
 obtain ⟨hB,_⟩:=DI p a hs
 obtain ⟨z1,_,_⟩:=HZ p a hs
 have c0:=zM p _ hB a (by simp)
 have cm:=fun b=>yE p b (by simp only [aL,bP] at hs;omega)
 unfold tC
 generalize dH p a=L at *
 simp only [aK,aM] at c0 cm
 have hlen:(L.map aK).length=L.length:=by simp
 refine bR aAc func85 ntmps85 ?_
 have W:=trivial
 repeat' first|refine we ?_|(refine sq ?_ ?_<;>intro hc<;>try exact hc.elim)|fail
 refine aJ (ι:={k:Nat // k<=L.length/\∀x∈L.take k,lK p x=true}) (fun t o i=>⟨aZ t [(12,.int .i64 i.1),(13,.undef),(14,.undef),(15,.undef),(6,.undef),(7,.undef)],o.take 3⟩)
  (fun i=>L.length - i.1) ⟨0,by simp,by simp⟩ (aI (by simp) (by simp)) ?_
 rintro ⟨k,hk,hpre⟩ K1 hK1
 simp only [aZ,set_cons_succ,set_cons_zero] at hK1⊢
 have hk1:i64.wrap ((k:Int)+1)=((k+1:Nat):Int):=by rw [wrap64]<;>omega
 by_cases hlt:k < L.length
 ·have hg:=getElem?_eq_getElem hlt
  have c1:=cm L[k]
  have hnext:lK p L[k]=true->∀x∈L.take (k+1),lK p x=true:=fun h=>dS hlt hpre h
  have iK:lK p L[k]=false->L.all (lK p)=false:=fun h=>TN k hlt h
  rcases zK (pF L[k]) p.aX with ⟨hi,hf⟩|⟨j,hj,hi,hf⟩
  ·have hd:lK p L[k]=false:=by unfold lK;rw [hf]
   rw [hi] at c1
   have jD:=iK hd
   have W:=aA hk1 (aA hg hlt)
   repeat' first|refine we ?_|(refine sq ?_ ?_<;>intro hc<;>try exact hc.elim)|fail
   all_goals try(refine ⟨.inr rfl,?_⟩;simp [aB,results85,jD])
  ·have hd:lK p L[k]=p.aX[j].done:=by unfold lK;rw [hf]
   rw [hi] at c1
   have hgm:=getElem?_eq_getElem hj
   have hj0:¬(j:Int) < 0:=by omega
   cases nL:p.aX[j].done
   ·have jD:=iK (hd.trans nL)
    have W:=aA hk1 (aA hg (aA hlt (aA hgm (aA hj (aA hj0 nL)))))
    repeat' first|refine we ?_|(refine sq ?_ ?_<;>intro hc<;>try exact hc.elim)|fail
    all_goals try(refine ⟨.inr rfl,?_⟩;simp [aB,results85,jD])
   ·have hnx:=hnext (hd.trans nL)
    have W:=aA hk1 (aA hg (aA hlt (aA hgm (aA hj (aA hj0 nL)))))
    repeat' first|refine we ?_|(refine sq ?_ ?_<;>intro hc<;>try exact hc.elim)|fail
    exact hK1 _ ⟨k+1,by omega,hnx⟩ (aS 3 (by simp) (by simp) (by simp) (by simp)) (by simp only;omega)
 ·have jD:L.all (lK p)=true:=LH (by have:=hpre;rwa [take_of_length_le (by omega)] at this)
  have W:=aA hk1 hlt
  repeat' first|refine we ?_|(refine sq ?_ ?_<;>intro hc<;>try exact hc.elim)|fail
  all_goals try(refine ⟨.inr rfl,?_⟩;simp [aB,results85,jD])
theorem Ib [aD prog] [eO prog] (p:aP) (a:aT) (hs:bP bE p.aX+aV a<=16777216):Ok prog 67 [.agg (aM .view p),.agg (aK a)] (.bool (tC p a)):=by
 obtain ⟨hB,_⟩:=DI p a hs
 obtain ⟨z1,_,_⟩:=HZ p a hs
 have c0:=zN p _ hB a (by simp)
 have cm:=fun b=>Dt p b (by simp only [aL,bP] at hs;omega)
 unfold tC
 generalize dH p a=L at *
 simp only [aK,aM] at c0 cm
 have hlen:(L.map aK).length=L.length:=by simp
 refine bR aAc func67 ntmps67 ?_
 have W:=trivial
 repeat' first|refine we ?_|(refine sq ?_ ?_<;>intro hc<;>try exact hc.elim)|fail
 refine aJ (ι:={k:Nat // k<=L.length/\∀x∈L.take k,lK p x=true}) (fun t o i=>⟨aZ t [(6,.int .i64 i.1),(7,.undef)],o⟩)
  (fun i=>L.length - i.1) ⟨0,by simp,by simp⟩ (aI (by simp) (by simp)) ?_
 rintro ⟨k,hk,hpre⟩ K1 hK1
 simp only [aZ,set_cons_succ,set_cons_zero] at hK1⊢
 have hk1:i64.wrap ((k:Int)+1)=((k+1:Nat):Int):=by rw [wrap64]<;>omega
 by_cases hlt:k < L.length
 ·have hg:=getElem?_eq_getElem hlt
  have c1:=cm L[k]
  have hnext:lK p L[k]=true->∀x∈L.take (k+1),lK p x=true:=fun h=>dS hlt hpre h
  have iK:lK p L[k]=false->L.all (lK p)=false:=fun h=>TN k hlt h
  rcases zK (pF L[k]) p.aX with ⟨hi,hf⟩|⟨j,hj,hi,hf⟩
  ·have hd:lK p L[k]=false:=by unfold lK;rw [hf]
   rw [hi] at c1
   have jD:=iK hd
   have W:=aA hk1 (aA hg hlt)
   repeat' first|refine we ?_|(refine sq ?_ ?_<;>intro hc<;>try exact hc.elim)|fail
   all_goals try(refine ⟨.inr rfl,?_⟩;simp [aB,results67,jD])
  ·have hd:lK p L[k]=p.aX[j].done:=by unfold lK;rw [hf]
   rw [hi] at c1
   have hgm:=getElem?_eq_getElem hj
   have hj0:¬(j:Int) < 0:=by omega
   cases nL:p.aX[j].done
   ·have jD:=iK (hd.trans nL)
    have W:=aA hk1 (aA hg (aA hlt (aA hgm (aA hj (aA hj0 nL)))))
    repeat' first|refine we ?_|(refine sq ?_ ?_<;>intro hc<;>try exact hc.elim)|fail
    all_goals try(refine ⟨.inr rfl,?_⟩;simp [aB,results67,jD])
   ·have hnx:=hnext (hd.trans nL)
    have W:=aA hk1 (aA hg (aA hlt (aA hgm (aA hj (aA hj0 nL)))))
    repeat' first|refine we ?_|(refine sq ?_ ?_<;>intro hc<;>try exact hc.elim)|fail
    exact hK1 _ ⟨k+1,by omega,hnx⟩ (aS 3 (by simp) (by simp) (by simp) (by simp)) (by simp only;omega)
 ·have jD:L.all (lK p)=true:=LH (by have:=hpre;rwa [take_of_length_le (by omega)] at this)
  have W:=aA hk1 hlt
  repeat' first|refine we ?_|(refine sq ?_ ?_<;>intro hc<;>try exact hc.elim)|fail
  all_goals try(refine ⟨.inr rfl,?_⟩;simp [aB,results67,jD])
theorem Ic [aD prog] [eO prog] (p:aP) (a:aT) (hs:bP bE p.aX+aV a<=16777216):Ok prog 169 [.agg (aM .view p),.agg (aK a)] (.bool (pU p a)):=by
 obtain ⟨hB,_⟩:=DI p a hs
 obtain ⟨z1,_,hU⟩:=HZ p a hs
 have c0:=zM p _ hB a (by simp)
 have cm:=fun b=>yE p b (by simp only [aL,bP] at hs;omega)
 unfold pU
 generalize dH p a=L at *
 simp only [aK,aM] at c0 cm
 have hlen:(L.map aK).length=L.length:=by simp
 refine bR aAc func169 ntmps169 ?_
 have W:=trivial
 repeat' first|refine we ?_|(refine sq ?_ ?_<;>intro hc<;>try exact hc.elim)|fail
 refine aJ (ι:={k:Nat // k<=L.length/\∀x∈L.take k,kM p x=true}) (fun t o i=>⟨aZ t [(15,.int .i64 i.1),(16,.undef),(17,.undef),(18,.undef),(6,.undef),(7,.undef),(8,.undef),(9,.undef)],o.take 3⟩)
  (fun i=>L.length - i.1) ⟨0,by simp,by simp⟩ (aI (by simp) (by simp)) ?_
 rintro ⟨k,hk,hpre⟩ K1 hK1
 simp only [aZ,set_cons_succ,set_cons_zero] at hK1⊢
 have hk1:i64.wrap ((k:Int)+1)=((k+1:Nat):Int):=by rw [wrap64]<;>omega
 by_cases hlt:k < L.length
 ·have hg:=getElem?_eq_getElem hlt
  have c1:=cm L[k]
  have hnext:kM p L[k]=true->∀x∈L.take (k+1),kM p x=true:=fun h=>dS hlt hpre h
  have iK:kM p L[k]=false->L.all (kM p)=false:=fun h=>TN k hlt h
  rcases zK (pF L[k]) p.aX with ⟨hi,hf⟩|⟨j,hj,hi,hf⟩
  ·have hd:kM p L[k]=false:=by unfold kM;rw [hf]
   rw [hi] at c1
   have jD:=iK hd
   have W:=aA hk1 (aA hg hlt)
   repeat' first|refine we ?_|(refine sq ?_ ?_<;>intro hc<;>try exact hc.elim)|fail
   all_goals try(refine ⟨.inr rfl,?_⟩;simp [aB,results169,jD])
  ·have hd:kM p L[k]=if p.aX[j].done=true/\p.aX[j].code=1 then (bA p.aX[j].body L[k].host).2.2 else false:=by unfold kM;rw [hf]
   rw [hi] at c1
   have hgm:=getElem?_eq_getElem hj
   have hj0:¬(j:Int) < 0:=by omega
   have hmz:=bU bE (getElem_mem hj)
   have hha:=hB.host _ (hU _ (getElem_mem hlt))
   simp only [aL,bP] at hs
   simp only [bE,aV] at hmz
   have cp:=sZ p.aX[j].body L[k].host (by omega) hha
   cases nL:p.aX[j].done
   ·have jD:=iK (by rw [hd,nL];simp)
    have W:=aA hk1 (aA hg (aA hlt (aA hgm (aA hj (aA hj0 nL)))))
    repeat' first|refine we ?_|(refine sq ?_ ?_<;>intro hc<;>try exact hc.elim)|fail
    all_goals try(refine ⟨.inr rfl,?_⟩;simp [aB,results169,jD])
   ·by_cases Wv:p.aX[j].code=1
    ·rw [if_pos ⟨nL,Wv⟩] at hd
     generalize bA p.aX[j].body L[k].host=u at *
     obtain ⟨g,d,c⟩:=u
     simp only at hd cp
     cases c
     ·have jD:=iK hd
      have W:=aA hk1 (aA hg (aA hlt (aA hgm (aA hj (aA hj0 (aA nL Wv))))))
      repeat' first|refine we ?_|(refine sq ?_ ?_<;>intro hc<;>try exact hc.elim)|fail
      all_goals try(refine ⟨.inr rfl,?_⟩;simp [aB,results169,jD])
     ·have hnx:=hnext hd
      have W:=aA hk1 (aA hg (aA hlt (aA hgm (aA hj (aA hj0 (aA nL Wv))))))
      repeat' first|refine we ?_|(refine sq ?_ ?_<;>intro hc<;>try exact hc.elim)|fail
      exact hK1 _ ⟨k+1,by omega,hnx⟩ (aS 3 (by simp) (by simp) (by simp) (by simp)) (by simp only;omega)
    ·have jD:=iK (by rw [hd,if_neg (fun h=>Wv h.2)])
     have W:=aA hk1 (aA hg (aA hlt (aA hgm (aA hj (aA hj0 (aA nL Wv))))))
     repeat' first|refine we ?_|(refine sq ?_ ?_<;>intro hc<;>try exact hc.elim)|fail
     all_goals try(refine ⟨.inr rfl,?_⟩;simp [aB,results169,jD])
 ·have jD:L.all (kM p)=true:=LH (by have:=hpre;rwa [take_of_length_le (by omega)] at this)
  have W:=aA hk1 hlt
  repeat' first|refine we ?_|(refine sq ?_ ?_<;>intro hc<;>try exact hc.elim)|fail
  all_goals try(refine ⟨.inr rfl,?_⟩;simp [aB,results169,jD])
theorem Ie [aD prog] [eO prog] (p:aP) (a:aT) (hs:bP bE p.aX+aV a<=16777216):Ok prog 156 [.agg (aM .view p),.agg (aK a)] (.bool (pU p a)):=by
 obtain ⟨hB,_⟩:=DI p a hs
 obtain ⟨z1,_,hU⟩:=HZ p a hs
 have c0:=zN p _ hB a (by simp)
 have cm:=fun b hb=>DF p _ hB b hb
 unfold pU
 generalize dH p a=L at *
 simp only [aK,aM] at c0 cm
 have hlen:(L.map aK).length=L.length:=by simp
 refine bR aAc func156 ntmps156 ?_
 have W:=trivial
 repeat' first|refine we ?_|(refine sq ?_ ?_<;>intro hc<;>try exact hc.elim)|fail
 refine aJ (ι:={k:Nat // k<=L.length/\∀x∈L.take k,kM p x=true}) (fun t o i=>⟨aZ t [(6,.int .i64 i.1),(7,.undef),(8,.undef)],o.take 3⟩)
  (fun i=>L.length - i.1) ⟨0,by simp,by simp⟩ (aI (by simp) (by simp)) ?_
 rintro ⟨k,hk,hpre⟩ K1 hK1
 simp only [aZ,set_cons_succ,set_cons_zero] at hK1⊢
 have hk1:i64.wrap ((k:Int)+1)=((k+1:Nat):Int):=by rw [wrap64]<;>omega
 by_cases hlt:k < L.length
 ·have hg:=getElem?_eq_getElem hlt
  have c1:=cm L[k] (hU _ (getElem_mem hlt))
  have hnext:kM p L[k]=true->∀x∈L.take (k+1),kM p x=true:=fun h=>dS hlt hpre h
  have iK:kM p L[k]=false->L.all (kM p)=false:=fun h=>TN k hlt h
  generalize lC p L[k]=g at *
  cases hd:kM p L[k]
  ·have jD:=iK hd
   rw [hd] at c1
   have W:=aA hk1 (aA hg hlt)
   repeat' first|refine we ?_|(refine sq ?_ ?_<;>intro hc<;>try exact hc.elim)|fail
   all_goals try(refine ⟨.inr rfl,?_⟩;simp [aB,results156,jD])
  ·have hnx:=hnext hd
   rw [hd] at c1
   have W:=aA hk1 (aA hg hlt)
   repeat' first|refine we ?_|(refine sq ?_ ?_<;>intro hc<;>try exact hc.elim)|fail
   exact hK1 _ ⟨k+1,by omega,hnx⟩ (aS 3 (by simp) (by simp) (by simp) (by simp)) (by simp only;omega)
 ·have jD:L.all (kM p)=true:=LH (by have:=hpre;rwa [take_of_length_le (by omega)] at this)
  have W:=aA hk1 hlt
  repeat' first|refine we ?_|(refine sq ?_ ?_<;>intro hc<;>try exact hc.elim)|fail
  all_goals try(refine ⟨.inr rfl,?_⟩;simp [aB,results156,jD])
def uT (p:aP):Bool:=p.ended&&decide (p.queue.length=0)&&decide (p.block=0)&&decide (p.inline=0)
theorem KZ [aD prog] (p:aP):Ok prog 63 [.agg (aM .view p)] (.bool (uT p)):=by
 refine bR aAc func63 ntmps63 ?_
 have W:=trivial
 repeat' first|refine we ?_|(refine sq ?_ ?_<;>intro hc<;>try exact hc.elim)|fail
 all_goals try(refine ⟨.inr rfl,?_⟩;simp [aB,results63])
 all_goals (simp_all [uT]<;>rfl)
theorem La [aD prog] (p:aP):Ok prog 81 [.agg (aM .view p)] (.bool (uT p)):=by
 refine bR aAc func81 ntmps81 ?_
 have W:=trivial
 repeat' first|refine we ?_|(refine sq ?_ ?_<;>intro hc<;>try exact hc.elim)|fail
 all_goals try(refine ⟨.inr rfl,?_⟩;simp [aB,results81])
 all_goals (simp_all [uT]<;>rfl)
def vR (p:aP) (b:aT):bC:=match p.aX.find? (pF b) with
 |some m=>m.body
 |none=>[]
def rF (q:aP) (b:aT):aP:=if q.nY.any (gL b)=true then q else jP {q with nY:=q.nY++[b]} (bA (vR q b) b.host).2.1 false
def gY (p:aP) (L:List aT) (k:Nat):aP:=(L.take k).foldl rF p
theorem yF (p:aP) (L:List aT) (k:Nat) (h:k < L.length):gY p L (k+1)=rF (gY p L k) L[k]:=by
 unfold gY
 rw [take_succ_eq_append_getElem h,foldl_append];rfl
def Ol:bC:=[102,97,105,108,32]
def nJ (p:aP) (a:aT):aP:=if pU p a=true then {p with log:=iL p.log (Ol++jW a)} else gY p (dH p a) (dH p a).length
theorem Aq (body base:bC):(bA body base).2.1.length<=6/\∀x∈(bA body base).2.1,x.text.length<=60:=by
 unfold bA
 split
 ·simp
 ·rename_i l r _
  obtain ⟨b1,b2⟩:=vX (Lib.join r [59])
  split
  ·exact ⟨b1,b2⟩
  ·simp
def Ig (q:aP):Nat:=aL q+91 * (40 - q.log.length)+62 * (40 - q.builder.nodes.length)
theorem Om (l ss:List bC) (h:∀s∈ss,s.length<=90):bP gT (kZ l ss)+91 * (40 - (kZ l ss).length)<=bP gT l+91 * (40 - l.length):=by
 induction ss generalizing l with
 |nil=>exact Nat.le_refl _
 |cons s ss ih=>
  have e:kZ l (s::ss)=kZ (iL l s) ss:=rfl
  rw [e]
  refine Nat.le_trans (ih (iL l s) (fun x hx=>h x (by simp [hx]))) ?_
  have hs:=h s (by simp)
  unfold iL
  split
  ·simp only [bP,length_append,length_cons,length_nil,iM,aO,gT];omega
  ·exact Nat.le_refl _
theorem Ww (b:aW) (ss:List fE) (x:iG) (hx:x.text.length<=60):aH (bM b ss x).1+62 * (40 - (bM b ss x).1.nodes.length)<=aH b+62 * (40 - b.nodes.length):=by
 unfold bM
 split
 ·exact Nat.le_refl _
 ·split
  ·split
   ·simp only [aH,bP,length_append,iM,aO,fU,length_cons,length_nil];omega
   ·exact Nat.le_refl _
  ·split
   ·exact Nat.le_refl _
   ·split
    ·exact Nat.le_refl _
    ·split<;>exact Nat.le_refl _
theorem Qh (b:aW) (ss:List fE) (l:List iG) (hx:∀x∈l,x.text.length<=60) (sN:∀n,0<=aY ss n/\aY ss n<=999) (hb:aH b+62 * 40<=68719476736):
  aH (dP b ss l).1+62 * (40 - (dP b ss l).1.nodes.length)<=aH b+62 * (40 - b.nodes.length)/\∀s∈(dP b ss l).2.2,s.length<=90:=by
 have key:∀(l:List iG) (uf:aW×bC×List bC),(∀x∈l,x.text.length<=60)->aH uf.1+62 * (40 - uf.1.nodes.length)<=aH b+62 * (40 - b.nodes.length)->(∀s∈uf.2.2,s.length<=90)->
   aH (l.foldl (pO ss) uf).1+62 * (40 - (l.foldl (pO ss) uf).1.nodes.length)<=aH b+62 * (40 - b.nodes.length)/\∀s∈(l.foldl (pO ss) uf).2.2,s.length<=90:=by
  intro l
  induction l with
  |nil=>intro uf _ h1 h2;exact ⟨h1,h2⟩
  |cons x l ih=>
   intro uf hx h1 h2
   have hxl:=hx x (by simp)
   have hn:uf.1.nodes.length<=274877906944:=by simp only [aH,bP] at h1 hb;omega
   obtain ⟨z1,z2,z3⟩:=NR uf.1 ss x (by omega) sN hn
   refine ih (pO ss uf x) (fun y hy=>hx y (by simp [hy])) ?_ ?_
   ·exact Nat.le_trans (Ww uf.1 ss x hxl) h1
   ·intro s hs
    simp only [pO] at hs
    split at hs
    ·exact h2 s hs
    ·rcases mem_append.1 hs with hs|hs
     ·exact h2 s hs
     ·simp only [mem_singleton] at hs;subst hs;omega
 exact key l (b,[],[]) hx (Nat.le_refl _) (by simp)
theorem Ih (q:aP) (l:List iG) (hs:aL q<=67108864) (hx:∀x∈l,x.text.length<=60):Ig (jP q l false)<=Ig q:=by
 have hsb:aH q.builder<=67108864:=by simp only [aL] at hs;omega
 obtain ⟨z1,z2⟩:=Qh q.builder (bY q) l hx (tQ q) (by omega)
 have z3:=Om q.log (dP q.builder (bY q) l).2.2 z2
 unfold jP
 generalize dP q.builder (bY q) l=g at *
 obtain ⟨b,w,lg⟩:=g
 simp only [Bool.false_eq_true,if_false] at *
 generalize kZ q.log lg=lg2 at *
 simp only [Ig,aL] at *
 omega
theorem Wx (q:aP) (b:aT):(rF q b).aX=q.aX/\(rF q b).aF=q.aF:=by
 unfold rF jP
 split<;>exact ⟨rfl,rfl⟩
theorem YS (q:aP) (b:aT) (hs:aL q+1+aV b<=67108864):Ig (rF q b)<=Ig q+1+aV b:=by
 unfold rF
 split
 ·omega
 ·have h1:aL {q with nY:=q.nY++[b]}=aL q+1+aV b:=by
   simp only [aL,bP,length_append,length_cons,length_nil,iM,aO];omega
  have h2:=Ih {q with nY:=q.nY++[b]} (bA (vR q b) b.host).2.1 (by omega) (Aq _ _).2
  refine Nat.le_trans h2 ?_
  simp only [Ig] at *
  omega
theorem AL (q:aP):aL q<=Ig q/\Ig q<=aL q+6120:=by unfold Ig;omega
theorem sK (p:aP) (L:List aT) (hL:aL p+6120+bP aV L<=67108864):∀k,k<=L.length->Ig (gY p L k)<=Ig p+bP aV (L.take k)/\(gY p L k).aX=p.aX/\(gY p L k).aF=p.aF
 |0,_=>⟨by simp [gY,bP,aO],rfl,rfl⟩
 |k+1,h=>by
  obtain ⟨h1,h2,h3⟩:=sK p L hL k (by omega)
  have hp:=(AL p).2
  have hq:=(AL (gY p L k)).1
  have e1:bP aV (L.take (k+1))=bP aV (L.take k)+1+aV L[k]:=by
   rw [take_succ_eq_append_getElem (show k < L.length by omega)]
   simp only [bP,length_append,length_cons,length_nil,iM,aO];omega
  have e2:bP aV (L.take (k+1))<=bP aV L:=by
   have:=vP aV L (k+1)
   simp only [bP,length_take];omega
  rw [yF p L k (by omega)]
  have h4:=YS (gY p L k) L[k] (by omega)
  obtain ⟨h5,h6⟩:=Wx (gY p L k) L[k]
  exact ⟨by omega,h5.trans h2,h6.trans h3⟩
theorem Oo {p:aP} {x:aT} (h:kM p x=true):x∈p.aX.map (·.to):=by
 unfold kM at h
 split at h
 ·rename_i m hm
  have h1:=mem_of_find?_eq_some hm
  have h2:=find?_some hm
  simp only [pF,decide_eq_true_eq] at h2
  exact mem_map.2 ⟨m,h1,h2⟩
 ·cases h
theorem aHv (l:List dD):bP aV (l.map (·.to))<=bP bE l:=by
 induction l with
 |nil=>exact Nat.le_refl _
 |cons m l ih=>simp only [bP,map_cons,length_cons,aO,bE] at *;omega
theorem DJ (p:aP) (a:aT) (h:bP bE p.aX+aV a<=16777216) (hf:pU p a=false):(dH p a).length<=16777216/\bP aV (dH p a)<=bP bE p.aX/\∀x∈dH p a,kM p x=true:=by
 have hall:∀x∈dH p a,kM p x=true:=by
  unfold pU at hf
  have:(dH p a).all (kM p)=true:=by simpa using hf
  exact all_eq_true.1 this
 obtain ⟨hb,h1,h2⟩:=DI p a h
 have hs:=(Cf hb.im (nW p []+1) a ([],[]) (by simp) ⟨by simp,by simp,by simp,by simp⟩).1
 obtain ⟨h3,h4⟩:=Bp aV (dH p a) (p.aX.map (·.to)) hs.ond (fun x hx=>Oo (hall x hx))
 have h5:=aHv p.aX
 rw [length_map] at h4
 refine ⟨?_,?_,hall⟩
 ·simp only [bP] at h;omega
 ·simp only [bP,length_map] at h5⊢;omega
theorem aFz (p:aP) (a:aT) (hs:aL p<=33000000) (h:bP bE p.aX+aV a<=16777216):aL (nJ p a)<=aL p+bP bE p.aX+6150:=by
 unfold nJ
 split
 ·have hfm:=zI a
  have:bP gT (iL p.log (Ol++jW a))<=bP gT p.log+6+(jW a).length:=by
   unfold iL
   split
   ·simp only [bP,length_append,length_cons,length_nil,iM,aO,gT,Ol];omega
   ·omega
  simp only [aL] at *
  omega
 ·rename_i hf
  obtain ⟨r1,r2,r3⟩:=DJ p a h (by simpa using hf)
  have:=(sK p (dH p a) (by omega) _ (Nat.le_refl _)).1
  rw [take_length] at this
  have h1:=(AL p).2
  have h2:=(AL (gY p (dH p a) (dH p a).length)).1
  omega
end Go.Proofs.YtlnblmmohpcceaaGreatDoor
