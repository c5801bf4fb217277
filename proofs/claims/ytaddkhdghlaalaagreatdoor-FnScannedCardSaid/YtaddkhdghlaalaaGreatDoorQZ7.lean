/-
  Proved here: steps towards the statement of this claim, text QZ7.
  No condition beyond what each statement spells out.
-/
import Derived.Test.YtaddkhdghlaalaaGreatDoorQZ4
import Derived.Test.YtaddkhdghlaalaaGreatDoorQP3
import Derived.Test.YtaddkhdghlaalaaGreatDoorZ6
import Derived.Test.YtaddkhdghlaalaaGreatDoorQTK7
import Derived.Test.YtaddkhdghlaalaaGreatDoorQ2
import Derived.Test.YtaddkhdghlaalaaGreatDoorQN1
import Derived.Test.YtaddkhdghlaalaaGreatDoorQTK5
set_option linter.all false
set_option maxRecDepth 8000
set_option maxHeartbeats 8000000
namespace Go.Proofs.YtaddkhdghlaalaaGreatDoor
open Go.Aw
theorem aS2 (c:UInt8):∀s:Str,aK dH (bF c s)≤s.length
 |[]=>by simp [bF,aK,dH]
 |x::s=>by
  have ih:=aS2 c s
  simp only [bF]
  split
  ·simp only [aK,dH,List.length_nil,List.length_cons] at ih⊢;omega
  ·split
   ·rename_i h0;exact absurd h0 (pR c s)
   ·rename_i p q h0
    rw [h0] at ih
    simp only [aK,dH,List.length_cons] at ih⊢;omega
theorem bF9 (s b:Str):aI (bO s b).1≤s.length+b.length:=by
 have h:=oU 47 s
 unfold bO addrOf
 split<;>split<;>simp [aI,kZ]<;>omega
theorem aWd (base:Str):∀(l:List Str) (acc:List aD) (q:List Str),kJ base l=some (acc,q)→7 * acc.length≤aK dH l∧aK aI acc≤aK dH l+acc.length * base.length∧∀x∈acc,aI x≤aK dH l+base.length
 |[],acc,q,h=>by
  simp only [kJ,Option.some.injEq,Prod.mk.injEq] at h
  obtain ⟨rfl,rfl⟩:=h
  simp [aK]
 |p::ps,acc,q,h=>by
  simp only [kJ] at h
  split at h
  ·rename_i hp
   split at h
   ·obtain ⟨⟨a1,q1⟩,h1,h2⟩:=Option.map_eq_some_iff.1 h
    simp only [Prod.mk.injEq] at h2
    obtain ⟨rfl,rfl⟩:=h2
    obtain ⟨i1,i2,i3⟩:=aWd base ps a1 q1 h1
    have h7:=aLi hp
    have ha:=bF9 (p.drop 7) base
    simp only [show tH.length=7 from rfl] at h7
    simp only [List.length_drop] at ha
    simp only [aK,dH,List.length_cons,Nat.succ_mul] at i1 i2 i3⊢
    refine ⟨by omega,by omega,?_⟩
    intro x hx
    rcases List.mem_cons.1 hx with rfl|hx
    ·omega
    ·have:=i3 x hx;omega
   ·cases h
  ·simp only [Option.some.injEq,Prod.mk.injEq] at h
   obtain ⟨rfl,rfl⟩:=h
   simp [aK]
theorem uJ (s b:Str):7 * (bK s b).1.length≤s.length∧aK aI (bK s b).1≤s.length+(bK s b).1.length * b.length∧∀x∈(bK s b).1,aI x≤s.length+b.length:=by
 have hs:=aS2 59 s
 unfold bK
 split
 ·simp [aK]
 ·rename_i l q h
  obtain ⟨i1,i2,i3⟩:=aWd b _ _ _ h
  split
  ·exact ⟨by simp only;omega,by simp only;omega,fun x hx=>by have:=i3 x hx;omega⟩
  ·simp [aK]
theorem aV4 (N:Nat):∀l:List dR,(∀m∈l,bI m≤N)→7 * (l.flatMap fun m=>(bK m.body m.to.host).1).length≤aK bI l∧aK aI (l.flatMap fun m=>(bK m.body m.to.host).1)≤aK bI l+(l.flatMap fun m=>(bK m.body m.to.host).1).length * N
 |[],_=>by simp [aK]
 |m::l,h=>by
  obtain ⟨i1,i2⟩:=aV4 N l (fun x hx=>h x (by simp [hx]))
  obtain ⟨j1,j2,_⟩:=uJ m.body m.to.host
  have hm:=h m (by simp)
  simp only [bI,aI] at hm
  have h3:=Nat.mul_le_mul_left (bK m.body m.to.host).1.length (show m.to.host.length≤N by omega)
  simp only [List.flatMap_cons,List.length_append,aK,gV,Nat.add_mul,bI,aI] at i1 i2⊢
  exact ⟨by omega,by omega⟩
theorem aGe (p:aC) (a:aD) (h:szL bI p.mods+aI a≤16777216):Bnd p (a::oH p)∧(a::oH p).length≤2396746∧aK aI (a::oH p)≤50000000000000:=by
 have hm:∀m∈p.mods,bI m≤16777216:=fun m hm=>by
  have:=dL bI hm
  simp only [aJ,szL] at h
  omega
 obtain ⟨f1,f2⟩:=aV4 16777216 p.mods hm
 have hs:aK bI p.mods≤16777216:=by simp only [aJ,szL] at h;omega
 have hl:(oH p).length≤2396745:=by unfold oH;omega
 have h4:=Nat.mul_le_mul_right 16777216 hl
 have h5:aK aI (oH p)≤16777216+(oH p).length * 16777216:=by unfold oH;omega
 refine ⟨⟨by omega,fun x hx=>List.mem_cons_of_mem _ hx,by simp only [List.length_cons];omega,?_,?_⟩,by simp only [List.length_cons];omega,by simp only [aK];omega⟩
 ·intro x hx
  rcases List.mem_cons.1 hx with rfl|hx
  ·simp only [aI] at h;omega
  ·obtain ⟨m,h1,h2⟩:=List.mem_flatMap.1 hx
   have h6:=(uJ m.body m.to.host).2.2 x h2
   have h7:=hm m h1
   simp only [bI,aI] at h6 h7
   omega
 ·intro m h1
  have h6:=(uJ m.body m.to.host).1
  have h7:=hm m h1
  simp only [bI] at h7
  omega
theorem aR3 (p:aC) (a:aD) (h:szL bI p.mods+aI a≤16777216):(fA p a).length≤2396746∧aK aI (fA p a)≤50000000000000∧∀x∈fA p a,x∈a::oH p:=by
 obtain ⟨hb,h1,h2⟩:=aGe p a h
 have hs:=(aAs hb.im (unseen p []+1) a ([],[]) (by simp) ⟨by simp,by simp,by simp,by simp⟩).1
 obtain ⟨h3,h4⟩:=zX aI _ (a::oH p) hs.ond (fun x hx=>hs.sub x (hs.osub x hx))
 exact ⟨Nat.le_trans h4 h1,Nat.le_trans h3 h2,fun x hx=>hs.sub x (hs.osub x hx)⟩
def rT (p:aC) (a:aD):Bool:=
 match p.mods.find? (gJ a) with
 |some m=>m.done
 |none=>false
def aAu (p:aC) (a:aD):Bool:=(fA p a).all (rT p)
def uM (p:aC) (a:aD):Bool:= !(fA p a).all (mF p)
theorem bBa {α:Type} {f:α→Bool} {l:List α} (k:Nat) (hk:k < l.length) (h:f l[k]=false):l.all f=false:=by
 cases hb:l.all f with
 |false=>rfl
 |true=>
  rw [List.all_eq_true] at hb
  have:=hb l[k] (List.getElem_mem hk)
  rw [h] at this;cases this
theorem aV0 {α:Type} {f:α→Bool} {l:List α} (h:∀x∈l,f x=true):l.all f=true:=List.all_eq_true.2 h
theorem aIe [aB Tryz.prog] [dB Tryz.prog] (p:aC) (a:aD) (hs:szL bI p.mods+aI a≤16777216):Ok Tryz.prog 146 [.agg (aG .view p),.agg (aF a)] (.bool (aAu p a)):=by
 obtain ⟨hB,_⟩:=aGe p a hs
 obtain ⟨z1,_,_⟩:=aR3 p a hs
 have c0:=yL p _ hB a (by simp)
 have cm:=fun b=>sW p b (by simp only [aJ,szL] at hs;omega)
 unfold aAu
 generalize fA p a=L at *
 simp only [aF,aG] at c0 cm
 have hlen:(L.map aF).length=L.length:=by simp
 refine ent Tryz.mix Tryz.func146 Tryz.ntmps146 ?_
 refine aW ?_
 refine aR (ι:={k:Nat // k≤L.length∧∀x∈L.take k,rT p x=true}) (fun t o i=>⟨aS t [(6,.int .i64 i.1),(7,.undef)],o⟩)
  (fun i=>L.length - i.1) ⟨0,by simp,by simp⟩ aO ?_
 rintro ⟨k,hk,hpre⟩ K1 hK1
 simp only [aS,List.set_cons_succ,List.set_cons_zero] at hK1⊢
 have hk1:=wk1 (k:=k) (by omega)
 by_cases hlt:k < L.length
 ·have hg:=List.getElem?_eq_getElem hlt
  have c1:=cm L[k]
  have hnext:rT p L[k]=true→∀x∈L.take (k+1),rT p x=true:=fun h=>dK hlt hpre h
  have hbad:rT p L[k]=false→L.all (rT p)=false:=fun h=>bBa k hlt h
  rcases oP (gJ L[k]) p.mods with ⟨hi,hf⟩|⟨j,hj,hi,hf⟩
  ·have hd:rT p L[k]=false:=by unfold rT;rw [hf]
   rw [hi] at c1
   have hres:=hbad hd
   have W:=And.intro hk1 (And.intro hg hlt)
   refine we ?_
   all_goals (try (refine ⟨.inr rfl,?_⟩;simp [Hands,Tryz.results146,hres]))
  ·have hd:rT p L[k]=p.mods[j].done:=by unfold rT;rw [hf]
   rw [hi] at c1
   have hgm:=List.getElem?_eq_getElem hj
   have hj0:¬(j:Int) < 0:=by omega
   cases hdone:p.mods[j].done
   ·have hres:=hbad (hd.trans hdone)
    have W:=And.intro hk1 (And.intro hg (And.intro hlt (And.intro hgm (And.intro hj (And.intro hj0 hdone)))))
    refine we ?_
    all_goals (try (refine ⟨.inr rfl,?_⟩;simp [Hands,Tryz.results146,hres]))
   ·have hnx:=hnext (hd.trans hdone)
    have W:=And.intro hk1 (And.intro hg (And.intro hlt (And.intro hgm (And.intro hj (And.intro hj0 hdone)))))
    refine we ?_
    exact hK1 _ ⟨k+1,by omega,hnx⟩ (aN 3) (by simp only;omega)
 ·have hres:L.all (rT p)=true:=aV0 (by have:=hpre;rwa [List.take_of_length_le (by omega)] at this)
  have W:=And.intro hk1 hlt
  refine we ?_
  all_goals (try (refine ⟨.inr rfl,?_⟩;simp [Hands,Tryz.results146,hres]))
theorem aIj [aB Tryz.prog] [dB Tryz.prog] (p:aC) (a:aD) (hs:szL bI p.mods+aI a≤16777216):Ok Tryz.prog 178 [.agg (aG .view p),.agg (aF a)] (.bool (uM p a)):=by
 obtain ⟨hB,_⟩:=aGe p a hs
 obtain ⟨z1,_,hU⟩:=aR3 p a hs
 have c0:=yL p _ hB a (by simp)
 have cm:=fun b hb=>aDi p _ hB b hb
 unfold uM
 generalize fA p a=L at *
 simp only [aF,aG] at c0 cm
 have hlen:(L.map aF).length=L.length:=by simp
 refine ent Tryz.mix Tryz.func178 Tryz.ntmps178 ?_
 refine aW ?_
 refine aR (ι:={k:Nat // k≤L.length∧∀x∈L.take k,mF p x=true}) (fun t o i=>⟨aS t [(6,.int .i64 i.1),(7,.undef),(8,.undef)],o.take 3⟩)
  (fun i=>L.length - i.1) ⟨0,by simp,by simp⟩ aO ?_
 rintro ⟨k,hk,hpre⟩ K1 hK1
 simp only [aS,List.set_cons_succ,List.set_cons_zero] at hK1⊢
 have hk1:=wk1 (k:=k) (by omega)
 by_cases hlt:k < L.length
 ·have hg:=List.getElem?_eq_getElem hlt
  have c1:=cm L[k] (hU _ (List.getElem_mem hlt))
  have hnext:mF p L[k]=true→∀x∈L.take (k+1),mF p x=true:=fun h=>dK hlt hpre h
  have hbad:mF p L[k]=false→L.all (mF p)=false:=fun h=>bBa k hlt h
  generalize gI p L[k]=g at *
  cases hd:mF p L[k]
  ·have hres:=hbad hd
   rw [hd] at c1
   have W:=And.intro hk1 (And.intro hg hlt)
   refine we ?_
   all_goals (try (refine ⟨.inr rfl,?_⟩;simp [Hands,Tryz.results178,hres]))
  ·have hnx:=hnext hd
   rw [hd] at c1
   have W:=And.intro hk1 (And.intro hg hlt)
   refine we ?_
   exact hK1 _ ⟨k+1,by omega,hnx⟩ (aN 3) (by simp only;omega)
 ·have hres:L.all (mF p)=true:=aV0 (by have:=hpre;rwa [List.take_of_length_le (by omega)] at this)
  have W:=And.intro hk1 hlt
  refine we ?_
  all_goals (try (refine ⟨.inr rfl,?_⟩;simp [Hands,Tryz.results178,hres]))
def aBq (p:aC):Bool:=p.ended&&decide (p.queue.length=0)&&decide (p.block=0)&&decide (p.inline=0)
theorem aL9 [aB Tryz.prog] (p:aC):Ok Tryz.prog 144 [.agg (aG .view p)] (.bool (aBq p)):=by
 refine ent Tryz.mix Tryz.func144 Tryz.ntmps144 ?_
 have W:=trivial
 repeat' first|refine st ?_|(refine nx ?_;first|refine se ?_|refine so ?_)|(refine cx ?_;refine sc (fun hc=>?_) (fun hc=>?_)<;>try exact hc.elim)|(refine lx ?_;refine sp (fun hc=>?_) (fun hc=>?_)<;>try exact hc.elim)|refine sx ?_ ?_|refine sy ?_ ?_|fail
 all_goals (try (refine ⟨.inr rfl,?_⟩;simp [Hands,Tryz.results144]))
 all_goals (simp_all [aBq]<;>rfl)
def xR (p:aC) (b:aD):Str:=match p.mods.find? (gJ b) with
 |some m=>m.body
 |none=>[]
def mH (q:aC) (b:aD):aC:=if q.ran.any (eG b)=true then q else jZ {q with ran:=q.ran++[b]} (bK (xR q b) b.host).2.1 false
def iH (p:aC) (L:List aD) (k:Nat):aC:=(L.take k).foldl mH p
theorem aBz (p:aC) (L:List aD) (k:Nat) (h:k < L.length):iH p L (k+1)=mH (iH p L k) L[k]:=by
 unfold iH
 rw [List.take_succ_eq_append_getElem h,List.foldl_append];rfl
def aKf:Str:=[102,97,105,108,32]
def nV (p:aC) (a:aD):aC:=if uM p a=true then {p with log:=iL p.log (aKf++oV a)} else iH p (fA p a) (fA p a).length
theorem aC7 (body base:Str):(bK body base).2.1.length≤6∧∀x∈(bK body base).2.1,x.text.length≤60:=by
 unfold bK
 split
 ·simp
 ·rename_i l r _
  obtain ⟨b1,b2⟩:=aAi (Lib.join r [59])
  split
  ·exact ⟨b1,b2⟩
  ·simp
def pot (q:aC):Nat:=aJ q+91 * (40 - q.log.length)+62 * (40 - q.builder.nodes.length)
theorem aKt (l ss:List Str) (h:∀s∈ss,s.length≤90):szL dH (jG l ss)+91 * (40 - (jG l ss).length)≤szL dH l+91 * (40 - l.length):=by
 induction ss generalizing l with
 |nil=>exact Nat.le_refl _
 |cons s ss ih=>
  have e:jG l (s::ss)=jG (iL l s) ss:=rfl
  rw [e]
  refine Nat.le_trans (ih (iL l s) (fun x hx=>h x (by simp [hx]))) ?_
  have hs:=h s (by simp)
  unfold iL
  split
  ·simp only [szL,List.length_append,List.length_cons,List.length_nil,gV,aK,dH];omega
  ·exact Nat.le_refl _
theorem aUb (b:aX) (ss:List fT) (x:iG) (hx:x.text.length≤60):aU (dO b ss x).1+62 * (40 - (dO b ss x).1.nodes.length)≤aU b+62 * (40 - b.nodes.length):=by
 unfold dO
 split
 ·exact Nat.le_refl _
 ·split
  ·split
   ·simp only [aU,szL,List.length_append,gV,aK,nU,List.length_cons,List.length_nil];omega
   ·exact Nat.le_refl _
  ·split
   ·exact Nat.le_refl _
   ·split
    ·exact Nat.le_refl _
    ·split<;>exact Nat.le_refl _
theorem aP2 (b:aX) (ss:List fT) (l:List iG) (hx:∀x∈l,x.text.length≤60) (hco:∀n,0≤cB ss n∧cB ss n≤999) (hb:aU b+62 * 40≤68719476736):
  aU (fC b ss l).1+62 * (40 - (fC b ss l).1.nodes.length)≤aU b+62 * (40 - b.nodes.length)∧∀s∈(fC b ss l).2.2,s.length≤90:=by
 have key:∀(l:List iG) (st0:aX×Str×List Str),(∀x∈l,x.text.length≤60)→aU st0.1+62 * (40 - st0.1.nodes.length)≤aU b+62 * (40 - b.nodes.length)→(∀s∈st0.2.2,s.length≤90)→
   aU (l.foldl (oF ss) st0).1+62 * (40 - (l.foldl (oF ss) st0).1.nodes.length)≤aU b+62 * (40 - b.nodes.length)∧∀s∈(l.foldl (oF ss) st0).2.2,s.length≤90:=by
  intro l
  induction l with
  |nil=>intro st0 _ h1 h2;exact ⟨h1,h2⟩
  |cons x l ih=>
   intro st0 hx h1 h2
   have hxl:=hx x (by simp)
   have hn:st0.1.nodes.length≤274877906944:=by simp only [aU,szL] at h1 hb;omega
   obtain ⟨z1,z2,z3⟩:=aK9 st0.1 ss x (by omega) hco hn
   refine ih (oF ss st0 x) (fun y hy=>hx y (by simp [hy])) ?_ ?_
   ·exact Nat.le_trans (aUb st0.1 ss x hxl) h1
   ·intro s hs
    simp only [oF] at hs
    split at hs
    ·exact h2 s hs
    ·rcases List.mem_append.1 hs with hs|hs
     ·exact h2 s hs
     ·simp only [List.mem_singleton] at hs;subst hs;omega
 exact key l (b,[],[]) hx (Nat.le_refl _) (by simp)
theorem aGa (q:aC) (l:List iG) (hs:aJ q≤67108864) (hx:∀x∈l,x.text.length≤60):pot (jZ q l false)≤pot q:=by
 have hsb:aU q.builder≤67108864:=by simp only [aJ] at hs;omega
 obtain ⟨z1,z2⟩:=aP2 q.builder (dM q) l hx (wI q) (by omega)
 have z3:=aKt q.log (fC q.builder (dM q) l).2.2 z2
 unfold jZ
 generalize fC q.builder (dM q) l=g at *
 obtain ⟨b,w,lg⟩:=g
 simp only [Bool.false_eq_true,if_false] at *
 generalize jG q.log lg=lg2 at *
 simp only [pot,aJ] at *
 omega
theorem aT6 (q:aC) (b:aD):(mH q b).mods=q.mods∧(mH q b).slots=q.slots:=by
 unfold mH jZ
 split<;>exact ⟨rfl,rfl⟩
theorem aYo (q:aC) (b:aD) (hs:aJ q+1+aI b≤67108864):pot (mH q b)≤pot q+1+aI b:=by
 unfold mH
 split
 ·omega
 ·have h1:aJ {q with ran:=q.ran++[b]}=aJ q+1+aI b:=by
   simp only [aJ,szL,List.length_append,List.length_cons,List.length_nil,gV,aK];omega
  have h2:=aGa {q with ran:=q.ran++[b]} (bK (xR q b) b.host).2.1 (by omega) (aC7 _ _).2
  refine Nat.le_trans h2 ?_
  simp only [pot] at *
  omega
theorem wW (q:aC):aJ q≤pot q∧pot q≤aJ q+6120:=by unfold pot;omega
theorem vV (p:aC) (L:List aD) (hL:aJ p+6120+szL aI L≤67108864):∀k,k≤L.length→pot (iH p L k)≤pot p+szL aI (L.take k)∧(iH p L k).mods=p.mods∧(iH p L k).slots=p.slots
 |0,_=>⟨by simp [iH,szL,aK],rfl,rfl⟩
 |k+1,h=>by
  obtain ⟨h1,h2,h3⟩:=vV p L hL k (by omega)
  have hp:=(wW p).2
  have hq:=(wW (iH p L k)).1
  have e1:szL aI (L.take (k+1))=szL aI (L.take k)+1+aI L[k]:=by
   rw [List.take_succ_eq_append_getElem (show k < L.length by omega)]
   simp only [szL,List.length_append,List.length_cons,List.length_nil,gV,aK];omega
  have e2:szL aI (L.take (k+1))≤szL aI L:=by
   have:=xY aI L (k+1)
   simp only [szL,List.length_take];omega
  rw [aBz p L k (by omega)]
  have h4:=aYo (iH p L k) L[k] (by omega)
  obtain ⟨h5,h6⟩:=aT6 (iH p L k) L[k]
  exact ⟨by omega,h5.trans h2,h6.trans h3⟩
theorem aLu {p:aC} {x:aD} (h:mF p x=true):x∈p.mods.map (·.to):=by
 unfold mF at h
 split at h
 ·rename_i m hm
  have h1:=List.mem_of_find?_eq_some hm
  have h2:=List.find?_some hm
  simp only [gJ,decide_eq_true_eq] at h2
  exact List.mem_map.2 ⟨m,h1,h2⟩
 ·cases h
theorem bHj (l:List dR):szL aI (l.map (·.to))≤szL bI l:=by
 induction l with
 |nil=>exact Nat.le_refl _
 |cons m l ih=>simp only [szL,List.map_cons,List.length_cons,aK,bI] at *;omega
theorem aIt (p:aC) (a:aD) (h:szL bI p.mods+aI a≤16777216) (hf:uM p a=false):(fA p a).length≤16777216∧szL aI (fA p a)≤szL bI p.mods∧∀x∈fA p a,mF p x=true:=by
 have hall:∀x∈fA p a,mF p x=true:=by
  unfold uM at hf
  have:(fA p a).all (mF p)=true:=by simpa using hf
  exact List.all_eq_true.1 this
 obtain ⟨hb,h1,h2⟩:=aGe p a h
 have hs:=(aAs hb.im (unseen p []+1) a ([],[]) (by simp) ⟨by simp,by simp,by simp,by simp⟩).1
 obtain ⟨h3,h4⟩:=zX aI (fA p a) (p.mods.map (·.to)) hs.ond (fun x hx=>aLu (hall x hx))
 have h5:=bHj p.mods
 rw [List.length_map] at h4
 refine ⟨?_,?_,hall⟩
 ·simp only [szL] at h;omega
 ·simp only [szL,List.length_map] at h5⊢;omega
def aJ6:Str:=[108,111,97,100]
def aHu (p:aC) (s:iK):aC×Bool:=if s.done=true∧p.slots.all qJ=true then ({(if s.code=1 then kY p s.body false else p) with deferred:=p.deferred+1},true) else (p,false)
def aH2 (p:aC) (a:aD):aC×Bool:=if aAu p a=true∧p.slots.all qJ=true then ({nV p a with entered:=p.entered+1},true) else (p,false)
def aH3 (p:aC):aC×Bool:=if (places sH 0 p.slots).length=0∧(places sM 0 p.mods).length=0 then ({p with log:=iL p.log aJ6,loaded:=true},true) else (p,false)
def pW (p:aC):aC×Bool:=
 if aBq p=true∧p.loaded=false∧0≤p.deferred∧0≤p.entered then
  match (places mY 0 p.slots)[p.deferred.toNat]? with
  |some d=>match p.slots[d.toNat]? with
   |some s=>aHu p s
   |none=>(p,false)
  |none=>match p.entries[p.entered.toNat]? with
   |some a=>aH2 p a
   |none=>aH3 p
 else (p,false)
theorem aOq {α:Type} (f:α→Bool):∀(l:List α) (i:Nat) (d:Int),d∈places f i l→∃k:Nat,d=(k:Int)∧i≤k∧k < i+l.length
 |[],i,d,h=>by simp [places] at h
 |x::l,i,d,h=>by
  simp only [places] at h
  have hr:d∈places f (i+1) l→∃k:Nat,d=(k:Int)∧i≤k∧k < i+(x::l).length:=fun h=>by
   obtain ⟨k,h1,h2,h3⟩:=aOq f l (i+1) d h
   exact ⟨k,h1,by omega,by simp only [List.length_cons];omega⟩
  split at h
  ·rcases List.mem_cons.1 h with h|h
   ·exact ⟨i,h,Nat.le_refl _,by simp only [List.length_cons];omega⟩
   ·exact hr h
  ·exact hr h
theorem aPe (p:aC) (c:Str) (w:Bool):(kY p c w).deferred=p.deferred∧(kY p c w).entered=p.entered∧(kY p c w).slots=p.slots∧(kY p c w).mods=p.mods:=by
 unfold kY jZ
 split<;>exact ⟨rfl,rfl,rfl,rfl⟩
theorem aYh (q:aC) (b:aD):(mH q b).entered=q.entered:=by
 unfold mH jZ
 split<;>rfl
theorem bAe (p:aC) (a:aD):(nV p a).entered=p.entered:=by
 unfold nV
 split
 ·rfl
 ·unfold iH
  have:∀(l:List aD) (q:aC),(l.foldl mH q).entered=q.entered:=by
   intro l
   induction l with
   |nil=>intro q;rfl
   |cons b l ih=>intro q;rw [List.foldl_cons,ih,aYh]
  exact this _ _
theorem aYc (p:aC) (a:aD) (k:Nat):szL bI (rH p a k)=szL bI p.mods+1+aI a:=by
 have h1:aK bI (p.mods.take k)+aK bI (p.mods.drop k)=aK bI p.mods:=by rw [←gV,List.take_append_drop]
 have h2:(p.mods.take k).length+(p.mods.drop k).length=p.mods.length:=by rw [←List.length_append,List.take_append_drop]
 have h3:bI (xI p a)=aI a:=by unfold xI;split<;>simp [bI]
 simp only [rH,szL,List.length_append,List.length_cons,gV,aK,h3]
 omega
theorem bHt (p:aC) (a:aD):aJ (eU p a)≤aJ p+aI a+1:=by
 have h:=aYc p a (qM p.mods a)
 unfold eU
 split
 ·split
  ·omega
  ·simp only [aJ,h];omega
 ·simp only [aJ,h];omega
end Go.Proofs.YtaddkhdghlaalaaGreatDoor
