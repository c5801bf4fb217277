/-
  Proved here: steps towards the statement of this claim, text QZ7.
  No condition beyond what each statement spells out.
-/
import Derived.Test.YtlnblmmohpcceaaGreatDoorQZ5
import Derived.Test.YtlnblmmohpcceaaGreatDoorQRCB
import Derived.Test.YtlnblmmohpcceaaGreatDoorQN1
import Derived.Test.YtlnblmmohpcceaaGreatDoorQSL
set_option linter.all false
set_option maxRecDepth 8000
set_option maxHeartbeats 8000000
namespace Go.Proofs.YtlnblmmohpcceaaGreatDoor
open Go.Aw
theorem aSn (c:UInt8):∀s:Str,aC cB (bH c s)≤s.length
 |[]=>by simp [bH,aC,cB]
 |x::s=>by
  have ih:=aSn c s
  simp only [bH]
  split
  ·simp only [aC,cB,List.length_nil,List.length_cons] at ih⊢;omega
  ·split
   ·rename_i h0;exact absurd h0 (uC c s)
   ·rename_i p q h0
    rw [h0] at ih
    simp only [aC,cB,List.length_cons] at ih⊢;omega
theorem bDj (s b:Str):aR (bI s b).1≤s.length+b.length:=by
 have h:=mQ 47 s
 unfold bI addrOf
 split<;>split<;>simp [aR,qI]<;>omega
theorem aVq (base:Str):∀(l:List Str) (acc:List aK) (q:List Str),kX base l=some (acc,q)→7 * acc.length≤aC cB l∧aC aR acc≤aC cB l+acc.length * base.length∧∀x∈acc,aR x≤aC cB l+base.length
 |[],acc,q,h=>by
  simp only [kX,Option.some.injEq,Prod.mk.injEq] at h
  obtain ⟨rfl,rfl⟩:=h
  simp [aC]
 |p::ps,acc,q,h=>by
  simp only [kX] at h
  split at h
  ·rename_i hp
   split at h
   ·obtain ⟨⟨a1,q1⟩,h1,h2⟩:=Option.map_eq_some_iff.1 h
    simp only [Prod.mk.injEq] at h2
    obtain ⟨rfl,rfl⟩:=h2
    obtain ⟨i1,i2,i3⟩:=aVq base ps a1 q1 h1
    have h7:=aKi hp
    have ha:=bDj (p.drop 7) base
    simp only [show nL.length=7 from rfl] at h7
    simp only [List.length_drop] at ha
    simp only [aC,cB,List.length_cons,Nat.succ_mul] at i1 i2 i3⊢
    refine ⟨by omega,by omega,?_⟩
    intro x hx
    rcases List.mem_cons.1 hx with rfl|hx
    ·omega
    ·have:=i3 x hx;omega
   ·cases h
  ·simp only [Option.some.injEq,Prod.mk.injEq] at h
   obtain ⟨rfl,rfl⟩:=h
   simp [aC]
theorem aAs (s b:Str):7 * (bA s b).1.length≤s.length∧aC aR (bA s b).1≤s.length+(bA s b).1.length * b.length∧∀x∈(bA s b).1,aR x≤s.length+b.length:=by
 have hs:=aSn 59 s
 unfold bA
 split
 ·simp [aC]
 ·rename_i l q h
  obtain ⟨i1,i2,i3⟩:=aVq b _ _ _ h
  split
  ·exact ⟨by simp only;omega,by simp only;omega,fun x hx=>by have:=i3 x hx;omega⟩
  ·simp [aC]
theorem aVp (N:Nat):∀l:List cZ,(∀m∈l,aZ m≤N)→7 * (l.flatMap fun m=>(bA m.body m.to.host).1).length≤aC aZ l∧aC aR (l.flatMap fun m=>(bA m.body m.to.host).1)≤aC aZ l+(l.flatMap fun m=>(bA m.body m.to.host).1).length * N
 |[],_=>by simp [aC]
 |m::l,h=>by
  obtain ⟨i1,i2⟩:=aVp N l (fun x hx=>h x (by simp [hx]))
  obtain ⟨j1,j2,_⟩:=aAs m.body m.to.host
  have hm:=h m (by simp)
  simp only [aZ,aR] at hm
  have h3:=Nat.mul_le_mul_left (bA m.body m.to.host).1.length (show m.to.host.length≤N by omega)
  simp only [List.flatMap_cons,List.length_append,aC,gW,Nat.add_mul,aZ,aR] at i1 i2⊢
  exact ⟨by omega,by omega⟩
theorem yZ (p:aJ) (a:aK) (h:szL aZ p.mods+aR a≤16777216):Bnd p (a::mY p)∧(a::mY p).length≤2396746∧aC aR (a::mY p)≤50000000000000:=by
 have hm:∀m∈p.mods,aZ m≤16777216:=fun m hm=>by
  have:=bV aZ hm
  simp only [aD,szL] at h
  omega
 obtain ⟨f1,f2⟩:=aVp 16777216 p.mods hm
 have hs:aC aZ p.mods≤16777216:=by simp only [aD,szL] at h;omega
 have hl:(mY p).length≤2396745:=by unfold mY;omega
 have h4:=Nat.mul_le_mul_right 16777216 hl
 have h5:aC aR (mY p)≤16777216+(mY p).length * 16777216:=by unfold mY;omega
 refine ⟨⟨by omega,fun x hx=>List.mem_cons_of_mem _ hx,by simp only [List.length_cons];omega,?_,?_⟩,by simp only [List.length_cons];omega,by simp only [aC];omega⟩
 ·intro x hx
  rcases List.mem_cons.1 hx with rfl|hx
  ·simp only [aR] at h;omega
  ·obtain ⟨m,h1,h2⟩:=List.mem_flatMap.1 hx
   have h6:=(aAs m.body m.to.host).2.2 x h2
   have h7:=hm m h1
   simp only [aZ,aR] at h6 h7
   omega
 ·intro m h1
  have h6:=(aAs m.body m.to.host).1
  have h7:=hm m h1
  simp only [aZ] at h7
  omega
theorem aDd (p:aJ) (a:aK) (h:szL aZ p.mods+aR a≤16777216):(bX p a).length≤2396746∧aC aR (bX p a)≤50000000000000∧∀x∈bX p a,x∈a::mY p:=by
 obtain ⟨hb,h1,h2⟩:=yZ p a h
 have hs:=(zO hb.im (unseen p []+1) a ([],[]) (by simp) ⟨by simp,by simp,by simp,by simp⟩).1
 obtain ⟨h3,h4⟩:=yP aR _ (a::mY p) hs.ond (fun x hx=>hs.sub x (hs.osub x hx))
 exact ⟨Nat.le_trans h4 h1,Nat.le_trans h3 h2,fun x hx=>hs.sub x (hs.osub x hx)⟩
def jI (p:aJ) (a:aK):Bool:=
 match p.mods.find? (kM a) with
 |some m=>m.done
 |none=>false
def rE (p:aJ) (a:aK):Bool:=(bX p a).all (jI p)
def nM (p:aJ) (a:aK):Bool:= !(bX p a).all (iA p)
theorem aJ0 {α:Type} {f:α→Bool} {l:List α} (k:Nat) (hk:k < l.length) (h:f l[k]=false):l.all f=false:=by
 cases hb:l.all f with
 |false=>rfl
 |true=>
  rw [List.all_eq_true] at hb
  have:=hb l[k] (List.getElem_mem hk)
  rw [h] at this;cases this
theorem aGl {α:Type} {f:α→Bool} {l:List α} (h:∀x∈l,f x=true):l.all f=true:=List.all_eq_true.2 h
theorem aHf [aA Tryz.prog] [dG Tryz.prog] (p:aJ) (a:aK) (hs:szL aZ p.mods+aR a≤16777216):Ok Tryz.prog 85 [.agg (aG .view p),.agg (aF a)] (.bool (rE p a)):=by
 obtain ⟨hB,_⟩:=yZ p a hs
 obtain ⟨z1,_,_⟩:=aDd p a hs
 have c0:=xL p _ hB a (by simp)
 have cm:=fun b=>wD p b (by simp only [aD,szL] at hs;omega)
 unfold rE
 generalize bX p a=L at *
 simp only [aF,aG] at c0 cm
 have hlen:(L.map aF).length=L.length:=by simp
 refine ent Tryz.mix Tryz.func85 Tryz.ntmps85 ?_
 have W:=trivial
 repeat' first|refine we ?_|(refine sq (fun hc=>?_) (fun hc=>?_)<;>try exact hc.elim)|fail
 refine aM (ι:={k:Nat // k≤L.length∧∀x∈L.take k,jI p x=true}) (fun t o i=>⟨aO t [(12,.int .i64 i.1),(13,.undef),(14,.undef),(15,.undef),(6,.undef),(7,.undef)],o.take 3⟩)
  (fun i=>L.length - i.1) ⟨0,by simp,by simp⟩ (aH (by simp) (by simp)) ?_
 rintro ⟨k,hk,hpre⟩ K1 hK1
 simp only [aO,List.set_cons_succ,List.set_cons_zero] at hK1⊢
 have hk1:IntKind.i64.wrap ((k:Int)+1)=((k+1:Nat):Int):=by rw [wrap64]<;>omega
 by_cases hlt:k < L.length
 ·have hg:=List.getElem?_eq_getElem hlt
  have c1:=cm L[k]
  have hnext:jI p L[k]=true→∀x∈L.take (k+1),jI p x=true:=fun h=>dP hlt hpre h
  have hbad:jI p L[k]=false→L.all (jI p)=false:=fun h=>aJ0 k hlt h
  rcases uZ (kM L[k]) p.mods with ⟨hi,hf⟩|⟨j,hj,hi,hf⟩
  ·have hd:jI p L[k]=false:=by unfold jI;rw [hf]
   rw [hi] at c1
   have hres:=hbad hd
   have W:=And.intro hk1 (And.intro hg hlt)
   repeat' first|refine we ?_|(refine sq (fun hc=>?_) (fun hc=>?_)<;>try exact hc.elim)|fail
   all_goals (try (refine ⟨.inr rfl,?_⟩;simp [Hands,Tryz.results85,hres]))
  ·have hd:jI p L[k]=p.mods[j].done:=by unfold jI;rw [hf]
   rw [hi] at c1
   have hgm:=List.getElem?_eq_getElem hj
   have hj0:¬(j:Int) < 0:=by omega
   cases hdone:p.mods[j].done
   ·have hres:=hbad (hd.trans hdone)
    have W:=And.intro hk1 (And.intro hg (And.intro hlt (And.intro hgm (And.intro hj (And.intro hj0 hdone)))))
    repeat' first|refine we ?_|(refine sq (fun hc=>?_) (fun hc=>?_)<;>try exact hc.elim)|fail
    all_goals (try (refine ⟨.inr rfl,?_⟩;simp [Hands,Tryz.results85,hres]))
   ·have hnx:=hnext (hd.trans hdone)
    have W:=And.intro hk1 (And.intro hg (And.intro hlt (And.intro hgm (And.intro hj (And.intro hj0 hdone)))))
    repeat' first|refine we ?_|(refine sq (fun hc=>?_) (fun hc=>?_)<;>try exact hc.elim)|fail
    exact hK1 _ ⟨k+1,by omega,hnx⟩ (aQ 3 (by simp) (by simp) (by simp) (by simp)) (by simp only;omega)
 ·have hres:L.all (jI p)=true:=aGl (by have:=hpre;rwa [List.take_of_length_le (by omega)] at this)
  have W:=And.intro hk1 hlt
  repeat' first|refine we ?_|(refine sq (fun hc=>?_) (fun hc=>?_)<;>try exact hc.elim)|fail
  all_goals (try (refine ⟨.inr rfl,?_⟩;simp [Hands,Tryz.results85,hres]))
theorem aG8 [aA Tryz.prog] [dG Tryz.prog] (p:aJ) (a:aK) (hs:szL aZ p.mods+aR a≤16777216):Ok Tryz.prog 67 [.agg (aG .view p),.agg (aF a)] (.bool (rE p a)):=by
 obtain ⟨hB,_⟩:=yZ p a hs
 obtain ⟨z1,_,_⟩:=aDd p a hs
 have c0:=xW p _ hB a (by simp)
 have cm:=fun b=>aCk p b (by simp only [aD,szL] at hs;omega)
 unfold rE
 generalize bX p a=L at *
 simp only [aF,aG] at c0 cm
 have hlen:(L.map aF).length=L.length:=by simp
 refine ent Tryz.mix Tryz.func67 Tryz.ntmps67 ?_
 have W:=trivial
 repeat' first|refine we ?_|(refine sq (fun hc=>?_) (fun hc=>?_)<;>try exact hc.elim)|fail
 refine aM (ι:={k:Nat // k≤L.length∧∀x∈L.take k,jI p x=true}) (fun t o i=>⟨aO t [(6,.int .i64 i.1),(7,.undef)],o⟩)
  (fun i=>L.length - i.1) ⟨0,by simp,by simp⟩ (aH (by simp) (by simp)) ?_
 rintro ⟨k,hk,hpre⟩ K1 hK1
 simp only [aO,List.set_cons_succ,List.set_cons_zero] at hK1⊢
 have hk1:IntKind.i64.wrap ((k:Int)+1)=((k+1:Nat):Int):=by rw [wrap64]<;>omega
 by_cases hlt:k < L.length
 ·have hg:=List.getElem?_eq_getElem hlt
  have c1:=cm L[k]
  have hnext:jI p L[k]=true→∀x∈L.take (k+1),jI p x=true:=fun h=>dP hlt hpre h
  have hbad:jI p L[k]=false→L.all (jI p)=false:=fun h=>aJ0 k hlt h
  rcases uZ (kM L[k]) p.mods with ⟨hi,hf⟩|⟨j,hj,hi,hf⟩
  ·have hd:jI p L[k]=false:=by unfold jI;rw [hf]
   rw [hi] at c1
   have hres:=hbad hd
   have W:=And.intro hk1 (And.intro hg hlt)
   repeat' first|refine we ?_|(refine sq (fun hc=>?_) (fun hc=>?_)<;>try exact hc.elim)|fail
   all_goals (try (refine ⟨.inr rfl,?_⟩;simp [Hands,Tryz.results67,hres]))
  ·have hd:jI p L[k]=p.mods[j].done:=by unfold jI;rw [hf]
   rw [hi] at c1
   have hgm:=List.getElem?_eq_getElem hj
   have hj0:¬(j:Int) < 0:=by omega
   cases hdone:p.mods[j].done
   ·have hres:=hbad (hd.trans hdone)
    have W:=And.intro hk1 (And.intro hg (And.intro hlt (And.intro hgm (And.intro hj (And.intro hj0 hdone)))))
    repeat' first|refine we ?_|(refine sq (fun hc=>?_) (fun hc=>?_)<;>try exact hc.elim)|fail
    all_goals (try (refine ⟨.inr rfl,?_⟩;simp [Hands,Tryz.results67,hres]))
   ·have hnx:=hnext (hd.trans hdone)
    have W:=And.intro hk1 (And.intro hg (And.intro hlt (And.intro hgm (And.intro hj (And.intro hj0 hdone)))))
    repeat' first|refine we ?_|(refine sq (fun hc=>?_) (fun hc=>?_)<;>try exact hc.elim)|fail
    exact hK1 _ ⟨k+1,by omega,hnx⟩ (aQ 3 (by simp) (by simp) (by simp) (by simp)) (by simp only;omega)
 ·have hres:L.all (jI p)=true:=aGl (by have:=hpre;rwa [List.take_of_length_le (by omega)] at this)
  have W:=And.intro hk1 hlt
  repeat' first|refine we ?_|(refine sq (fun hc=>?_) (fun hc=>?_)<;>try exact hc.elim)|fail
  all_goals (try (refine ⟨.inr rfl,?_⟩;simp [Hands,Tryz.results67,hres]))
theorem aHd [aA Tryz.prog] [dG Tryz.prog] (p:aJ) (a:aK) (hs:szL aZ p.mods+aR a≤16777216):Ok Tryz.prog 169 [.agg (aG .view p),.agg (aF a)] (.bool (nM p a)):=by
 obtain ⟨hB,_⟩:=yZ p a hs
 obtain ⟨z1,_,hU⟩:=aDd p a hs
 have c0:=xL p _ hB a (by simp)
 have cm:=fun b=>wD p b (by simp only [aD,szL] at hs;omega)
 unfold nM
 generalize bX p a=L at *
 simp only [aF,aG] at c0 cm
 have hlen:(L.map aF).length=L.length:=by simp
 refine ent Tryz.mix Tryz.func169 Tryz.ntmps169 ?_
 have W:=trivial
 repeat' first|refine we ?_|(refine sq (fun hc=>?_) (fun hc=>?_)<;>try exact hc.elim)|fail
 refine aM (ι:={k:Nat // k≤L.length∧∀x∈L.take k,iA p x=true}) (fun t o i=>⟨aO t [(15,.int .i64 i.1),(16,.undef),(17,.undef),(18,.undef),(6,.undef),(7,.undef),(8,.undef),(9,.undef)],o.take 3⟩)
  (fun i=>L.length - i.1) ⟨0,by simp,by simp⟩ (aH (by simp) (by simp)) ?_
 rintro ⟨k,hk,hpre⟩ K1 hK1
 simp only [aO,List.set_cons_succ,List.set_cons_zero] at hK1⊢
 have hk1:IntKind.i64.wrap ((k:Int)+1)=((k+1:Nat):Int):=by rw [wrap64]<;>omega
 by_cases hlt:k < L.length
 ·have hg:=List.getElem?_eq_getElem hlt
  have c1:=cm L[k]
  have hnext:iA p L[k]=true→∀x∈L.take (k+1),iA p x=true:=fun h=>dP hlt hpre h
  have hbad:iA p L[k]=false→L.all (iA p)=false:=fun h=>aJ0 k hlt h
  rcases uZ (kM L[k]) p.mods with ⟨hi,hf⟩|⟨j,hj,hi,hf⟩
  ·have hd:iA p L[k]=false:=by unfold iA;rw [hf]
   rw [hi] at c1
   have hres:=hbad hd
   have W:=And.intro hk1 (And.intro hg hlt)
   repeat' first|refine we ?_|(refine sq (fun hc=>?_) (fun hc=>?_)<;>try exact hc.elim)|fail
   all_goals (try (refine ⟨.inr rfl,?_⟩;simp [Hands,Tryz.results169,hres]))
  ·have hd:iA p L[k]=if p.mods[j].done=true∧p.mods[j].code=1 then (bA p.mods[j].body L[k].host).2.2 else false:=by unfold iA;rw [hf]
   rw [hi] at c1
   have hgm:=List.getElem?_eq_getElem hj
   have hj0:¬(j:Int) < 0:=by omega
   have hmz:=bV aZ (List.getElem_mem hj)
   have hha:=hB.host _ (hU _ (List.getElem_mem hlt))
   simp only [aD,szL] at hs
   simp only [aZ,aR] at hmz
   have cp:=sJ p.mods[j].body L[k].host (by omega) hha
   cases hdone:p.mods[j].done
   ·have hres:=hbad (by rw [hd,hdone];simp)
    have W:=And.intro hk1 (And.intro hg (And.intro hlt (And.intro hgm (And.intro hj (And.intro hj0 hdone)))))
    repeat' first|refine we ?_|(refine sq (fun hc=>?_) (fun hc=>?_)<;>try exact hc.elim)|fail
    all_goals (try (refine ⟨.inr rfl,?_⟩;simp [Hands,Tryz.results169,hres]))
   ·by_cases hcode:p.mods[j].code=1
    ·rw [if_pos ⟨hdone,hcode⟩] at hd
     generalize bA p.mods[j].body L[k].host=u at *
     obtain ⟨g,d,c⟩:=u
     simp only at hd cp
     cases c
     ·have hres:=hbad hd
      have W:=And.intro hk1 (And.intro hg (And.intro hlt (And.intro hgm (And.intro hj (And.intro hj0 (And.intro hdone hcode))))))
      repeat' first|refine we ?_|(refine sq (fun hc=>?_) (fun hc=>?_)<;>try exact hc.elim)|fail
      all_goals (try (refine ⟨.inr rfl,?_⟩;simp [Hands,Tryz.results169,hres]))
     ·have hnx:=hnext hd
      have W:=And.intro hk1 (And.intro hg (And.intro hlt (And.intro hgm (And.intro hj (And.intro hj0 (And.intro hdone hcode))))))
      repeat' first|refine we ?_|(refine sq (fun hc=>?_) (fun hc=>?_)<;>try exact hc.elim)|fail
      exact hK1 _ ⟨k+1,by omega,hnx⟩ (aQ 3 (by simp) (by simp) (by simp) (by simp)) (by simp only;omega)
    ·have hres:=hbad (by rw [hd,if_neg (fun h=>hcode h.2)])
     have W:=And.intro hk1 (And.intro hg (And.intro hlt (And.intro hgm (And.intro hj (And.intro hj0 (And.intro hdone hcode))))))
     repeat' first|refine we ?_|(refine sq (fun hc=>?_) (fun hc=>?_)<;>try exact hc.elim)|fail
     all_goals (try (refine ⟨.inr rfl,?_⟩;simp [Hands,Tryz.results169,hres]))
 ·have hres:L.all (iA p)=true:=aGl (by have:=hpre;rwa [List.take_of_length_le (by omega)] at this)
  have W:=And.intro hk1 hlt
  repeat' first|refine we ?_|(refine sq (fun hc=>?_) (fun hc=>?_)<;>try exact hc.elim)|fail
  all_goals (try (refine ⟨.inr rfl,?_⟩;simp [Hands,Tryz.results169,hres]))
theorem aHc [aA Tryz.prog] [dG Tryz.prog] (p:aJ) (a:aK) (hs:szL aZ p.mods+aR a≤16777216):Ok Tryz.prog 156 [.agg (aG .view p),.agg (aF a)] (.bool (nM p a)):=by
 obtain ⟨hB,_⟩:=yZ p a hs
 obtain ⟨z1,_,hU⟩:=aDd p a hs
 have c0:=xW p _ hB a (by simp)
 have cm:=fun b hb=>aCs p _ hB b hb
 unfold nM
 generalize bX p a=L at *
 simp only [aF,aG] at c0 cm
 have hlen:(L.map aF).length=L.length:=by simp
 refine ent Tryz.mix Tryz.func156 Tryz.ntmps156 ?_
 have W:=trivial
 repeat' first|refine we ?_|(refine sq (fun hc=>?_) (fun hc=>?_)<;>try exact hc.elim)|fail
 refine aM (ι:={k:Nat // k≤L.length∧∀x∈L.take k,iA p x=true}) (fun t o i=>⟨aO t [(6,.int .i64 i.1),(7,.undef),(8,.undef)],o.take 3⟩)
  (fun i=>L.length - i.1) ⟨0,by simp,by simp⟩ (aH (by simp) (by simp)) ?_
 rintro ⟨k,hk,hpre⟩ K1 hK1
 simp only [aO,List.set_cons_succ,List.set_cons_zero] at hK1⊢
 have hk1:IntKind.i64.wrap ((k:Int)+1)=((k+1:Nat):Int):=by rw [wrap64]<;>omega
 by_cases hlt:k < L.length
 ·have hg:=List.getElem?_eq_getElem hlt
  have c1:=cm L[k] (hU _ (List.getElem_mem hlt))
  have hnext:iA p L[k]=true→∀x∈L.take (k+1),iA p x=true:=fun h=>dP hlt hpre h
  have hbad:iA p L[k]=false→L.all (iA p)=false:=fun h=>aJ0 k hlt h
  generalize iD p L[k]=g at *
  cases hd:iA p L[k]
  ·have hres:=hbad hd
   rw [hd] at c1
   have W:=And.intro hk1 (And.intro hg hlt)
   repeat' first|refine we ?_|(refine sq (fun hc=>?_) (fun hc=>?_)<;>try exact hc.elim)|fail
   all_goals (try (refine ⟨.inr rfl,?_⟩;simp [Hands,Tryz.results156,hres]))
  ·have hnx:=hnext hd
   rw [hd] at c1
   have W:=And.intro hk1 (And.intro hg hlt)
   repeat' first|refine we ?_|(refine sq (fun hc=>?_) (fun hc=>?_)<;>try exact hc.elim)|fail
   exact hK1 _ ⟨k+1,by omega,hnx⟩ (aQ 3 (by simp) (by simp) (by simp) (by simp)) (by simp only;omega)
 ·have hres:L.all (iA p)=true:=aGl (by have:=hpre;rwa [List.take_of_length_le (by omega)] at this)
  have W:=And.intro hk1 hlt
  repeat' first|refine we ?_|(refine sq (fun hc=>?_) (fun hc=>?_)<;>try exact hc.elim)|fail
  all_goals (try (refine ⟨.inr rfl,?_⟩;simp [Hands,Tryz.results156,hres]))
def rD (p:aJ):Bool:=p.ended&&decide (p.queue.length=0)&&decide (p.block=0)&&decide (p.inline=0)
theorem aKt [aA Tryz.prog] (p:aJ):Ok Tryz.prog 63 [.agg (aG .view p)] (.bool (rD p)):=by
 refine ent Tryz.mix Tryz.func63 Tryz.ntmps63 ?_
 have W:=trivial
 repeat' first|refine we ?_|(refine sq (fun hc=>?_) (fun hc=>?_)<;>try exact hc.elim)|fail
 all_goals (try (refine ⟨.inr rfl,?_⟩;simp [Hands,Tryz.results63]))
 all_goals (simp_all [rD]<;>rfl)
theorem aJy [aA Tryz.prog] (p:aJ):Ok Tryz.prog 81 [.agg (aG .view p)] (.bool (rD p)):=by
 refine ent Tryz.mix Tryz.func81 Tryz.ntmps81 ?_
 have W:=trivial
 repeat' first|refine we ?_|(refine sq (fun hc=>?_) (fun hc=>?_)<;>try exact hc.elim)|fail
 all_goals (try (refine ⟨.inr rfl,?_⟩;simp [Hands,Tryz.results81]))
 all_goals (simp_all [rD]<;>rfl)
def uJ (p:aJ) (b:aK):Str:=match p.mods.find? (kM b) with
 |some m=>m.body
 |none=>[]
def rT (q:aJ) (b:aK):aJ:=if q.ran.any (fP b)=true then q else lN {q with ran:=q.ran++[b]} (bA (uJ q b) b.host).2.1 false
def iG (p:aJ) (L:List aK) (k:Nat):aJ:=(L.take k).foldl rT p
theorem aA3 (p:aJ) (L:List aK) (k:Nat) (h:k < L.length):iG p L (k+1)=rT (iG p L k) L[k]:=by
 unfold iG
 rw [List.take_succ_eq_append_getElem h,List.foldl_append];rfl
def aDe:Str:=[102,97,105,108,32]
def mW (p:aJ) (a:aK):aJ:=if nM p a=true then {p with log:=dZ p.log (aDe++iZ a)} else iG p (bX p a) (bX p a).length
theorem aCa (body base:Str):(bA body base).2.1.length≤6∧∀x∈(bA body base).2.1,x.text.length≤60:=by
 unfold bA
 split
 ·simp
 ·rename_i l r _
  obtain ⟨b1,b2⟩:=uW (Lib.join r [59])
  split
  ·exact ⟨b1,b2⟩
  ·simp
def pot (q:aJ):Nat:=aD q+91 * (40 - q.log.length)+62 * (40 - q.builder.nodes.length)
theorem aWk (l ss:List Str) (h:∀s∈ss,s.length≤90):szL cB (gG l ss)+91 * (40 - (gG l ss).length)≤szL cB l+91 * (40 - l.length):=by
 induction ss generalizing l with
 |nil=>exact Nat.le_refl _
 |cons s ss ih=>
  have e:gG l (s::ss)=gG (dZ l s) ss:=rfl
  rw [e]
  refine Nat.le_trans (ih (dZ l s) (fun x hx=>h x (by simp [hx]))) ?_
  have hs:=h s (by simp)
  unfold dZ
  split
  ·simp only [szL,List.length_append,List.length_cons,List.length_nil,gW,aC,cB];omega
  ·exact Nat.le_refl _
theorem aT1 (b:aS) (ss:List dU) (x:fI) (hx:x.text.length≤60):aI (bE b ss x).1+62 * (40 - (bE b ss x).1.nodes.length)≤aI b+62 * (40 - b.nodes.length):=by
 unfold bE
 split
 ·exact Nat.le_refl _
 ·split
  ·split
   ·simp only [aI,szL,List.length_append,gW,aC,dW,List.length_cons,List.length_nil];omega
   ·exact Nat.le_refl _
  ·split
   ·exact Nat.le_refl _
   ·split
    ·exact Nat.le_refl _
    ·split<;>exact Nat.le_refl _
theorem aO8 (b:aS) (ss:List dU) (l:List fI) (hx:∀x∈l,x.text.length≤60) (hco:∀n,0≤aT ss n∧aT ss n≤999) (hb:aI b+62 * 40≤68719476736):
  aI (dE b ss l).1+62 * (40 - (dE b ss l).1.nodes.length)≤aI b+62 * (40 - b.nodes.length)∧∀s∈(dE b ss l).2.2,s.length≤90:=by
 have key:∀(l:List fI) (st0:aS×Str×List Str),(∀x∈l,x.text.length≤60)→aI st0.1+62 * (40 - st0.1.nodes.length)≤aI b+62 * (40 - b.nodes.length)→(∀s∈st0.2.2,s.length≤90)→
   aI (l.foldl (nW ss) st0).1+62 * (40 - (l.foldl (nW ss) st0).1.nodes.length)≤aI b+62 * (40 - b.nodes.length)∧∀s∈(l.foldl (nW ss) st0).2.2,s.length≤90:=by
  intro l
  induction l with
  |nil=>intro st0 _ h1 h2;exact ⟨h1,h2⟩
  |cons x l ih=>
   intro st0 hx h1 h2
   have hxl:=hx x (by simp)
   have hn:st0.1.nodes.length≤274877906944:=by simp only [aI,szL] at h1 hb;omega
   obtain ⟨z1,z2,z3⟩:=aKl st0.1 ss x (by omega) hco hn
   refine ih (nW ss st0 x) (fun y hy=>hx y (by simp [hy])) ?_ ?_
   ·exact Nat.le_trans (aT1 st0.1 ss x hxl) h1
   ·intro s hs
    simp only [nW] at hs
    split at hs
    ·exact h2 s hs
    ·rcases List.mem_append.1 hs with hs|hs
     ·exact h2 s hs
     ·simp only [List.mem_singleton] at hs;subst hs;omega
 exact key l (b,[],[]) hx (Nat.le_refl _) (by simp)
theorem aQ8 (q:aJ) (l:List fI) (hs:aD q≤67108864) (hx:∀x∈l,x.text.length≤60):pot (lN q l false)≤pot q:=by
 have hsb:aI q.builder≤67108864:=by simp only [aD] at hs;omega
 obtain ⟨z1,z2⟩:=aO8 q.builder (bO q) l hx (rA q) (by omega)
 have z3:=aWk q.log (dE q.builder (bO q) l).2.2 z2
 unfold lN
 generalize dE q.builder (bO q) l=g at *
 obtain ⟨b,w,lg⟩:=g
 simp only [Bool.false_eq_true,if_false] at *
 generalize gG q.log lg=lg2 at *
 simp only [pot,aD] at *
 omega
theorem aU8 (q:aJ) (b:aK):(rT q b).mods=q.mods∧(rT q b).slots=q.slots:=by
 unfold rT lN
 split<;>exact ⟨rfl,rfl⟩
theorem aW6 (q:aJ) (b:aK) (hs:aD q+1+aR b≤67108864):pot (rT q b)≤pot q+1+aR b:=by
 unfold rT
 split
 ·omega
 ·have h1:aD {q with ran:=q.ran++[b]}=aD q+1+aR b:=by
   simp only [aD,szL,List.length_append,List.length_cons,List.length_nil,gW,aC];omega
  have h2:=aQ8 {q with ran:=q.ran++[b]} (bA (uJ q b) b.host).2.1 (by omega) (aCa _ _).2
  refine Nat.le_trans h2 ?_
  simp only [pot] at *
  omega
theorem zB (q:aJ):aD q≤pot q∧pot q≤aD q+6120:=by unfold pot;omega
theorem uY (p:aJ) (L:List aK) (hL:aD p+6120+szL aR L≤67108864):∀k,k≤L.length→pot (iG p L k)≤pot p+szL aR (L.take k)∧(iG p L k).mods=p.mods∧(iG p L k).slots=p.slots
 |0,_=>⟨by simp [iG,szL,aC],rfl,rfl⟩
 |k+1,h=>by
  obtain ⟨h1,h2,h3⟩:=uY p L hL k (by omega)
  have hp:=(zB p).2
  have hq:=(zB (iG p L k)).1
  have e1:szL aR (L.take (k+1))=szL aR (L.take k)+1+aR L[k]:=by
   rw [List.take_succ_eq_append_getElem (show k < L.length by omega)]
   simp only [szL,List.length_append,List.length_cons,List.length_nil,gW,aC];omega
  have e2:szL aR (L.take (k+1))≤szL aR L:=by
   have:=wR aR L (k+1)
   simp only [szL,List.length_take];omega
  rw [aA3 p L k (by omega)]
  have h4:=aW6 (iG p L k) L[k] (by omega)
  obtain ⟨h5,h6⟩:=aU8 (iG p L k) L[k]
  exact ⟨by omega,h5.trans h2,h6.trans h3⟩
theorem aWl {p:aJ} {x:aK} (h:iA p x=true):x∈p.mods.map (·.to):=by
 unfold iA at h
 split at h
 ·rename_i m hm
  have h1:=List.mem_of_find?_eq_some hm
  have h2:=List.find?_some hm
  simp only [kM,decide_eq_true_eq] at h2
  exact List.mem_map.2 ⟨m,h1,h2⟩
 ·cases h
theorem bFd (l:List cZ):szL aR (l.map (·.to))≤szL aZ l:=by
 induction l with
 |nil=>exact Nat.le_refl _
 |cons m l ih=>simp only [szL,List.map_cons,List.length_cons,aC,aZ] at *;omega
theorem aCi (p:aJ) (a:aK) (h:szL aZ p.mods+aR a≤16777216) (hf:nM p a=false):(bX p a).length≤16777216∧szL aR (bX p a)≤szL aZ p.mods∧∀x∈bX p a,iA p x=true:=by
 have hall:∀x∈bX p a,iA p x=true:=by
  unfold nM at hf
  have:(bX p a).all (iA p)=true:=by simpa using hf
  exact List.all_eq_true.1 this
 obtain ⟨hb,h1,h2⟩:=yZ p a h
 have hs:=(zO hb.im (unseen p []+1) a ([],[]) (by simp) ⟨by simp,by simp,by simp,by simp⟩).1
 obtain ⟨h3,h4⟩:=yP aR (bX p a) (p.mods.map (·.to)) hs.ond (fun x hx=>aWl (hall x hx))
 have h5:=bFd p.mods
 rw [List.length_map] at h4
 refine ⟨?_,?_,hall⟩
 ·simp only [szL] at h;omega
 ·simp only [szL,List.length_map] at h5⊢;omega
theorem bAq (p:aJ) (a:aK) (hs:aD p≤33000000) (h:szL aZ p.mods+aR a≤16777216):aD (mW p a)≤aD p+szL aZ p.mods+6150:=by
 unfold mW
 split
 ·have hfm:=xU a
  have:szL cB (dZ p.log (aDe++iZ a))≤szL cB p.log+6+(iZ a).length:=by
   unfold dZ
   split
   ·simp only [szL,List.length_append,List.length_cons,List.length_nil,gW,aC,cB,aDe];omega
   ·omega
  simp only [aD] at *
  omega
 ·rename_i hf
  obtain ⟨r1,r2,r3⟩:=aCi p a h (by simpa using hf)
  have:=(uY p (bX p a) (by omega) _ (Nat.le_refl _)).1
  rw [List.take_length] at this
  have h1:=(zB p).2
  have h2:=(zB (iG p (bX p a) (bX p a).length)).1
  omega
end Go.Proofs.YtlnblmmohpcceaaGreatDoor
