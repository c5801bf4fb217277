/-
  Proved here: steps towards the statement of this claim, text AD0.
  No condition beyond what each statement spells out.
-/
import Derived.Test.YtaddkhdghlaalaaGreatDoorQTK7
import Derived.Test.YtaddkhdghlaalaaGreatDoorQZ7
import Derived.Test.YtaddkhdghlaalaaGreatDoorQP3
set_option linter.all false
set_option maxRecDepth 8000
set_option maxHeartbeats 8000000
namespace Go.Proofs.YtaddkhdghlaalaaGreatDoor
open Go.Aw
def rR (p:aC):aC×Bool:=if (lM p).2=true then lM p else pW p
def oL:Nat→aC→aC
 |0,p=>p
 |n+1,p=>if (rR p).2=true then oL n (rR p).1 else p
def advance (p:aC):aC:=oL 2000 p
theorem aWb (s b:Str):aI (bO s b).1≤16:=by
 unfold bO
 split
 ·rename_i h
  simp only [nT,bU,Bool.and_eq_true,decide_eq_true_eq] at h
  simp only [aI];omega
 ·simp [aI,kZ]
def gM (p:aC):Prop:=(∀nd∈p.builder.nodes,aK lI nd.attrs≤1048576)∧∀t∈p.queue,aK lI t.attrs≤1048576
def kR (r:List aD) (m:dR):Nat:=if r.any (eG m.to)=true then 0 else 1+aI m.to
def mK (p:aC):Nat:=aK (kR p.ran) p.mods
def gX (p:aC):Nat:=pot p+mK p+1048593 * (20 - p.slots.length)+51 * (20 - p.entries.length)
def ents (p:aC):Nat:=szL bI p.mods+szL aI p.entries+34 * (20 - p.entries.length)
def keeps (p q:aC):Prop:=gM q∧gX q≤gX p∧ents q≤ents p∧q.slots.length≤max p.slots.length 20
def grows (p q:aC):Prop:=gM q∧gX q≤gX p+721∧ents q≤ents p∧q.slots.length≤max p.slots.length 20
theorem aO0 {p:aC} (h:gM p):keeps p p:=⟨h,Nat.le_refl _,Nat.le_refl _,by omega⟩
theorem mE {p:aC} (h:gM p):grows p p:=⟨h,by omega,by omega,by omega⟩
theorem vP (p:aC) (md:Int) (tx dg:Str) (nd:Int) (hd:dg.length≤1048576):gX (fP p md tx dg nd).1≤gX p∧ents (fP p md tx dg nd).1=ents p∧(fP p md tx dg nd).1.slots.length≤max p.slots.length 20∧(fP p md tx dg nd).1.builder=p.builder∧(fP p md tx dg nd).1.queue=p.queue:=by
 have h16:=aWb tx p.addr.host
 unfold fP
 split
 ·exact ⟨Nat.le_refl _,rfl,by simp only;omega,rfl,rfl⟩
 ·rename_i h
  have hn:p.slots.length < 20:=by
   by_cases h2:20≤p.slots.length
   ·exact (h (.inl h2)).elim
   ·omega
  split
  ·refine ⟨?_,rfl,by simp only [List.length_append,List.length_cons,List.length_nil];omega,rfl,rfl⟩
   simp only [gX,pot,mK,aJ,szL,List.length_append,gV,aK,kH,List.length_cons,List.length_nil]
   omega
  ·refine ⟨?_,rfl,by simp only [List.length_append,List.length_cons,List.length_nil];omega,rfl,rfl⟩
   simp only [gX,pot,mK,aJ,szL,List.length_append,gV,aK,kH,List.length_cons,List.length_nil]
   omega
theorem bA4 (p:aC) (a:aD):(xI p a).to=a∧bI (xI p a)=aI a:=by
 unfold xI
 split<;>exact ⟨rfl,by simp [bI]⟩
theorem aRl (p:aC) (a:aD):∃X,eU p a={p with mods:=X}∧szL bI X≤szL bI p.mods+1+aI a∧aK (kR p.ran) X≤aK (kR p.ran) p.mods+1+aI a:=by
 obtain ⟨h1,h2⟩:=bA4 p a
 have h3:kR p.ran (xI p a)≤1+aI a:=by unfold kR;rw [h1];split<;>omega
 have key:∀k,szL bI (rH p a k)≤szL bI p.mods+1+aI a∧aK (kR p.ran) (rH p a k)≤aK (kR p.ran) p.mods+1+aI a:=by
  intro k
  have e1:aK bI (p.mods.take k)+aK bI (p.mods.drop k)=aK bI p.mods:=by rw [←gV,List.take_append_drop]
  have e2:aK (kR p.ran) (p.mods.take k)+aK (kR p.ran) (p.mods.drop k)=aK (kR p.ran) p.mods:=by rw [←gV,List.take_append_drop]
  have e3:(p.mods.take k).length+(p.mods.drop k).length=p.mods.length:=by rw [←List.length_append,List.take_append_drop]
  unfold rH
  simp only [szL,List.length_append,List.length_cons,gV,aK]
  omega
 unfold eU
 split
 ·split
  ·exact ⟨p.mods,rfl,by omega,by omega⟩
  ·exact ⟨_,rfl,(key _).1,(key _).2⟩
 ·exact ⟨_,rfl,(key _).1,(key _).2⟩
theorem aNg (p:aC) (tx:Str):gX (oI p tx)≤gX p∧ents (oI p tx)≤ents p∧(oI p tx).slots=p.slots∧(oI p tx).builder=p.builder∧(oI p tx).queue=p.queue:=by
 have h16:=aWb tx p.addr.host
 obtain ⟨X,hX,x1,x2⟩:=aRl p (bO tx p.addr.host).1
 unfold oI
 split
 ·exact ⟨Nat.le_refl _,Nat.le_refl _,rfl,rfl,rfl⟩
 ·rename_i h
  have hn:p.entries.length < 20:=by
   by_cases h2:20≤p.entries.length
   ·exact (h (.inr h2)).elim
   ·omega
  rw [hX]
  generalize (bO tx p.addr.host).1=a at *
  refine ⟨?_,?_,rfl,rfl,rfl⟩
  ·simp only [szL] at x1
   simp only [gX,pot,mK,aJ,szL,List.length_append,gV,aK,List.length_cons,List.length_nil]
   omega
  ·simp only [szL] at x1
   simp only [ents,szL,List.length_append,gV,aK,List.length_cons,List.length_nil]
   omega
theorem uU {p q:aC} (h:gM p) (h1:q.builder=p.builder) (h2:q.queue=p.queue):gM q:=by
 unfold gM at *
 rw [h1,h2];exact h
theorem aU1 (p:aC) (t:bE) (n:Int) (h:gM p) (ht:aK lI t.attrs≤1048576):keeps p (xQ p t n):=by
 have z1:=iY t.attrs dN
 obtain ⟨a1,a2,a3,a4,a5⟩:=vP p 2 (aP t.attrs mV).1 (aP t.attrs dN).1 n (by omega)
 obtain ⟨b1,b2,b3,b4,b5⟩:=vP p 1 (aP t.attrs gK).1 (aP t.attrs dN).1 n (by omega)
 unfold xQ
 split
 ·exact ⟨uU h a4 a5,by omega,by omega,a3⟩
 ·split
  ·exact ⟨uU h b4 b5,by omega,by omega,b3⟩
  ·exact aO0 h
theorem aMm (p:aC) (k:Nat) (l:List iJ) (h:gM p) (hl:aK lI l≤1048576):keeps p (rY p k l):=by
 have z1:=iY l dN
 obtain ⟨a1,a2,a3,a4,a5⟩:=vP p 4 (aP l gK).1 (aP l dN).1 ((k:Nat):Int) (by omega)
 obtain ⟨b1,b2,b3,b4,b5⟩:=vP p 3 (aP l gK).1 (aP l dN).1 ((k:Nat):Int) (by omega)
 obtain ⟨e1,e2,e3,e4,e5⟩:=aNg p (aP l gK).1
 unfold rY
 split
 ·split
  ·exact ⟨h,by show gX p≤_;omega,by show ents p≤_;omega,by show p.slots.length≤_;omega⟩
  ·exact aO0 h
 ·split
  ·exact ⟨uU h a4 a5,by omega,by omega,a3⟩
  ·split
   ·exact ⟨uU h e4 e5,by omega,e2,by rw [e3];omega⟩
   ·refine ⟨uU h b4 b5,?_,?_,b3⟩
    ·show gX (fP p 3 (aP l gK).1 (aP l dN).1 ((k:Nat):Int)).1≤_
     omega
    ·show ents (fP p 3 (aP l gK).1 (aP l dN).1 ((k:Nat):Int)).1≤_
     omega
theorem aNi (b:aX) (t:bE):(dD b t).1.nodes=b.nodes∨(dD b t).1.nodes=b.nodes++[rV b t]:=by
 unfold dD
 split
 ·exact .inl rfl
 ·split
  ·exact .inl rfl
  ·split
   ·exact .inl rfl
   ·exact .inr rfl
theorem aUu {p:aC} {t:bE} {q:List bE} (hq:p.queue=t::q) (h:gM p):grows p {p with queue:=q,builder:=(dD p.builder t).1}∧gX {p with queue:=q,builder:=(dD p.builder t).1}≤gX p+2:=by
 have h1:=vX hq
 have ht:aK lI t.attrs≤1048576:=h.2 t (by rw [hq];simp)
 have hn:=aNi p.builder t
 have hg:gX {p with queue:=q,builder:=(dD p.builder t).1}≤gX p+2:=by
  have hl:p.builder.nodes.length≤(dD p.builder t).1.nodes.length:=by
   rcases hn with hn|hn<;>rw [hn]
   ·exact Nat.le_refl _
   ·simp
  simp only [gX,pot,mK] at *
  omega
 refine ⟨⟨⟨?_,fun x hx=>h.2 x (by rw [hq];simp [show x∈q from hx])⟩,by omega,Nat.le_refl _,by simp only;omega⟩,hg⟩
 intro nd hnd
 rcases hn with hn|hn
 ·exact h.1 nd (by rw [←hn];exact hnd)
 ·have hnd2:nd∈p.builder.nodes++[rV p.builder t]:=by rw [←hn];exact hnd
  rcases List.mem_append.1 hnd2 with h2|h2
  ·exact h.1 nd h2
  ·simp only [List.mem_singleton] at h2
   subst h2
   unfold rV
   split
   ·exact ht
   ·simp [aK]
theorem aL5 {p q r:aC} (h1:gX q≤gX p+2∧ents q≤ents p∧q.slots.length≤max p.slots.length 20) (hr:gM r) (h2:gX r≤gX q) (h3:ents r≤ents q) (h4:r.slots.length≤max q.slots.length 20):grows p r:=⟨hr,by omega,by omega,by omega⟩
theorem aL2 (p:aC) (h:gM p):grows p (lF p).1:=by
 unfold lF
 split
 ·exact mE h
 ·rename_i t q hq
  split
  ·obtain ⟨⟨g1,g2,g3,g4⟩,g5⟩:=aUu hq h
   have ht:aK lI t.attrs≤1048576:=h.2 t (by rw [hq];simp)
   simp only
   unfold lZ
   generalize hp1:({p with queue:=q,builder:=(dD p.builder t).1}:aC)=p1 at *
   split
   ·rename_i k hk
    have hl:aK lI ((p.builder.nodes[k]?).elim [] (·.attrs))≤1048576:=by
     cases hg:p.builder.nodes[k]? with
     |none=>simp [aK]
     |some nd=>exact h.1 nd (List.mem_of_getElem? hg)
    obtain ⟨e1,e2,e3,e4⟩:=aMm p1 k ((p.builder.nodes[k]?).elim [] (·.attrs)) g1 hl
    exact aL5 ⟨g5,g3,g4⟩ e1 e2 e3 e4
   ·split
    ·obtain ⟨e1,e2,e3,e4⟩:=aU1 p1 t (dD p.builder t).2 g1 ht
     exact aL5 ⟨g5,g3,g4⟩ e1 e2 e3 e4
    ·exact ⟨g1,g2,g3,g4⟩
  ·exact mE h
theorem aMc (b:aX) (ss:List fT) (l:List iG):∀nd∈(fC b ss l).1.nodes,nd∈b.nodes∨nd.attrs=[]:=by
 have one:∀(c:aX) (x:iG),∀nd∈(dO c ss x).1.nodes,nd∈c.nodes∨nd.attrs=[]:=by
  intro c x nd h
  unfold dO at h
  split at h
  ·exact .inl h
  ·split at h
   ·split at h
    ·rcases List.mem_append.1 h with h|h
     ·exact .inl h
     ·simp only [List.mem_singleton] at h;subst h;exact .inr rfl
    ·exact .inl h
   ·split at h
    ·exact .inl h
    ·split at h
     ·exact .inl h
     ·split at h<;>exact .inl h
 have key:∀(l:List iG) (s:aX×Str×List Str),(∀nd∈s.1.nodes,nd∈b.nodes∨nd.attrs=[])→∀nd∈(l.foldl (oF ss) s).1.nodes,nd∈b.nodes∨nd.attrs=[]:=by
  intro l
  induction l with
  |nil=>intro s h;exact h
  |cons x l ih=>
   intro s h
   refine ih (oF ss s x) (fun nd hn=> ?_)
   rcases one s.1 x nd hn with h2|h2
   ·exact h nd h2
   ·exact .inr h2
 exact key l (b,[],[]) (fun nd h=> .inl h)
theorem aFn (p:aC) (l:List iG) (wr:Bool) (hs:aJ p≤67108864) (h6:l.length≤6) (hx:∀x∈l,x.text.length≤60) (h:gM p):gM (jZ p l wr)∧pot (jZ p l wr)≤pot p+(if wr=true then 721 else 0):=by
 have hsb:aU p.builder≤67108864:=by simp only [aJ] at hs;omega
 obtain ⟨z1,z2,z3,z4⟩:=aBd 60 p.builder (dM p) l (by omega) h6 hx (wI p) (by omega) l.length (Nat.le_refl _)
 have hend:nL p.builder (dM p) l l.length=fC p.builder (dM p) l:=by simp [nL]
 rw [hend] at z2
 have hnd:=aMc p.builder (dM p) l
 obtain ⟨y1,y2⟩:=zN (fC p.builder (dM p) l).2.1
 have hp:=aGa p l hs hx
 unfold jZ at hp⊢
 generalize fC p.builder (dM p) l=g at *
 obtain ⟨b,w,lg⟩:=g
 simp only [Bool.false_eq_true,if_false] at *
 generalize hk:gP w=tk at *
 refine ⟨⟨?_,?_⟩,?_⟩
 ·intro nd hn
  rcases hnd nd hn with h2|h2
  ·exact h.1 nd h2
  ·rw [h2];simp [aK]
 ·intro t ht
  simp only at ht
  have h1:t∈tk∨t∈p.queue:=by
   split at ht
   ·exact List.mem_append.1 ht
   ·exact .inr ht
  rcases h1 with h1|h1
  ·have h2:=dL bN h1
   have h3:aK lI t.attrs≤bN t:=by simp only [bN,szL];omega
   omega
  ·exact h.2 t h1
 ·cases wr
  ·simpa using hp
  ·simp only [pot,aJ,szL,if_true,List.length_append,gV] at hp⊢
   omega
theorem aEx (l:List Str) (s:Str) (h:s.length≤90):szL dH (iL l s)+91 * (40 - (iL l s).length)≤szL dH l+91 * (40 - l.length):=aKt l [s] (by simpa using h)
theorem aAh (p:aC) (c:Str) (wr:Bool) (hs:aJ p≤67108864) (h:gM p):grows p (kY p c wr):=by
 obtain ⟨b1,b2⟩:=aAi c
 unfold kY
 split
 ·obtain ⟨h1,h2⟩:=aFn p (gH c).1 wr hs b1 b2 h
  refine ⟨h1,?_,Nat.le_refl _,by show p.slots.length≤_;omega⟩
  have e:mK (jZ p (gH c).1 wr)=mK p:=rfl
  have e2:(jZ p (gH c).1 wr).slots=p.slots:=rfl
  have e3:(jZ p (gH c).1 wr).entries=p.entries:=rfl
  have h3:(if wr=true then 721 else 0)≤721:=by split<;>omega
  simp only [gX,e,e2,e3]
  omega
 ·have h1:=aEx p.log aLh (by simp [aLh])
  refine ⟨h,?_,Nat.le_refl _,by show p.slots.length≤_;omega⟩
  simp only [gX,pot,mK,aJ] at *
  omega
theorem aTn (r:List aD) (b:aD) (m:dR):kR (r++[b]) m≤kR r m:=by
 unfold kR
 rw [List.any_append]
 cases r.any (eG m.to)<;>simp
 split<;>omega
theorem aN6 (r:List aD) (b:aD):∀l:List dR,aK (kR (r++[b])) l≤aK (kR r) l
 |[]=>Nat.le_refl _
 |m::l=>by have:=aTn r b m;have:=aN6 r b l;simp only [aK];omega
theorem aN3 (r:List aD) (b:aD) (hr:r.any (eG b)=false):∀l:List dR,b∈l.map (·.to)→aK (kR (r++[b])) l+1+aI b≤aK (kR r) l
 |[],h=>by simp at h
 |m::l,h=>by
  simp only [List.map_cons,List.mem_cons] at h
  by_cases hb:b=m.to
  ·have h1:=aN6 r b l
   have e1:kR r m=1+aI b:=by unfold kR;rw [←hb,hr];simp
   have e2:kR (r++[b]) m=0:=by unfold kR;rw [←hb,List.any_append];simp [eG]
   simp only [aK];omega
  ·have h1:=aN3 r b hr l (by rcases h with h|h;exact (hb h).elim;exact h)
   have h2:=aTn r b m
   simp only [aK];omega
theorem aVi (q:aC) (b:aD) (hs:aJ q+1+aI b≤67108864) (hm:b∈q.mods.map (·.to)) (h:gM q):gM (mH q b)∧pot (mH q b)+mK (mH q b)≤pot q+mK q:=by
 unfold mH
 split
 ·exact ⟨h,Nat.le_refl _⟩
 ·rename_i hr
  obtain ⟨b1,b2⟩:=aC7 (xR q b) b.host
  have hr2:q.ran.any (eG b)=false:=by simpa using hr
  have h3:=aN3 q.ran b hr2 q.mods hm
  have hz:aJ {q with ran:=q.ran++[b]}=aJ q+1+aI b:=by
   simp only [aJ,szL,List.length_append,gV,aK,List.length_cons,List.length_nil];omega
  obtain ⟨k1,k2⟩:=aFn {q with ran:=q.ran++[b]} (bK (xR q b) b.host).2.1 false (by omega) b1 b2 h
  refine ⟨k1,?_⟩
  have e:mK (jZ {q with ran:=q.ran++[b]} (bK (xR q b) b.host).2.1 false)=aK (kR (q.ran++[b])) q.mods:=rfl
  have e2:pot {q with ran:=q.ran++[b]}=pot q+1+aI b:=by simp only [pot,hz];omega
  have e3:mK q=aK (kR q.ran) q.mods:=rfl
  rw [e,e3]
  rw [e2] at k2
  simp only [Bool.false_eq_true,if_false] at k2
  omega
theorem aHk (p:aC) (L:List aD) (hL:aJ p+6120+szL aI L≤67108864) (hm:∀b∈L,b∈p.mods.map (·.to)) (h:gM p):∀k,k≤L.length→gM (iH p L k)∧pot (iH p L k)+mK (iH p L k)≤pot p+mK p∧(iH p L k).entries=p.entries
 |0,_=>⟨h,Nat.le_refl _,rfl⟩
 |k+1,hk=>by
  obtain ⟨h1,h2,h3⟩:=aHk p L hL hm h k (by omega)
  obtain ⟨f1,f2,f3⟩:=vV p L hL k (by omega)
  have hp:=(wW p).2
  have hq:=(wW (iH p L k)).1
  have hb:=hm L[k] (List.getElem_mem (by omega))
  have e1:szL aI (L.take (k+1))=szL aI (L.take k)+1+aI L[k]:=by
   rw [List.take_succ_eq_append_getElem (show k < L.length by omega)]
   simp only [szL,List.length_append,List.length_cons,List.length_nil,gV,aK];omega
  have e2:szL aI (L.take (k+1))≤szL aI L:=by
   have:=xY aI L (k+1)
   simp only [szL,List.length_take];omega
  obtain ⟨k1,k2⟩:=aVi (iH p L k) L[k] (by omega) (by rw [f2];exact hb) h1
  rw [aBz p L k (by omega)]
  refine ⟨k1,by omega,?_⟩
  rw [←h3]
  unfold mH jZ
  split<;>rfl
theorem aVp (p:aC) (a:aD) (hs:aJ p≤33000000) (hm:szL bI p.mods+aI a≤16777216) (h:gM p):keeps p (nV p a):=by
 unfold nV
 split
 ·have hf:=aDh a
  have h1:=aEx p.log (aKf++oV a) (by simp only [aKf,List.length_append,List.length_cons,List.length_nil];omega)
  refine ⟨h,?_,Nat.le_refl _,by show p.slots.length≤_;omega⟩
  simp only [gX,pot,mK,aJ] at *
  omega
 ·rename_i hf
  obtain ⟨r1,r2,r3⟩:=aIt p a hm (by simpa using hf)
  obtain ⟨k1,k2,k3⟩:=aHk p (fA p a) (by omega) (fun b hb=>aLu (r3 b hb)) h _ (Nat.le_refl _)
  obtain ⟨f1,f2,f3⟩:=vV p (fA p a) (by omega) _ (Nat.le_refl _)
  generalize iH p (fA p a) (fA p a).length=q at *
  refine ⟨k1,?_,?_,by rw [f3];omega⟩
  ·simp only [gX,f3,k3];omega
  ·simp only [ents,f2,k3];omega
theorem aMf (p:aC) (k:Int) (hs:aJ p≤67108864) (h:gM p):grows p (stepBlock p k).1:=by
 have hb:∀q:aC,grows p q→grows p {q with block:=0}:=fun q hq=>hq
 unfold stepBlock
 split
 ·split
  ·rename_i s _
   split
   ·simp only
    split
    ·exact hb _ (aAh p s.body true hs h)
    ·exact hb _ (mE h)
   ·exact mE h
  ·exact hb _ (mE h)
 ·exact hb _ (mE h)
theorem aJp (p:aC) (hs:aJ p≤67108864) (h:gM p):grows p (lM p).1:=by
 unfold lM
 split
 ·split
  ·exact (show grows p {kY p (textOf p.builder p.inline) true with inline:=0} from aAh p _ true hs h)
  ·exact mE h
 ·split
  ·exact aMf p _ hs h
  ·exact aL2 p h
theorem aM4 (p:aC) (hs:aJ p≤33000000) (hme:szL bI p.mods+szL aI p.entries≤16777216) (h:gM p):grows p (pW p).1:=by
 unfold pW
 split
 ·split
  ·split
   ·rename_i s _
    unfold aHu
    split
    ·simp only
     split
     ·exact (show grows p {kY p s.body false with deferred:=p.deferred+1} from aAh p s.body false (by omega) h)
     ·exact (show grows p {p with deferred:=p.deferred+1} from mE h)
    ·exact mE h
   ·exact mE h
  ·split
   ·rename_i a hg
    have h1:=dL aI (List.mem_of_getElem? hg)
    have h2:aK aI p.entries≤szL aI p.entries:=by simp only [szL];omega
    obtain ⟨k1,k2,k3,k4⟩:=aVp p a hs (by omega) h
    unfold aH2
    split
    ·refine ⟨k1,?_,k3,k4⟩
     show gX (nV p a)≤_
     omega
    ·exact mE h
   ·unfold aH3
    split
    ·have h1:=aEx p.log aJ6 (by simp [aJ6])
     refine ⟨h,?_,Nat.le_refl _,by show p.slots.length≤_;omega⟩
     simp only [gX,pot,mK,aJ] at *
     omega
    ·exact mE h
 ·exact mE h
structure bD5 (k : Nat) (q : aC) : Prop where
  at_ : gM q
  ga : gX q ≤ 25000000 + 721 * k
  en : ents q ≤ 2000000
  sl : q.slots.length ≤ 1048576
theorem bD5.sz {k:Nat} {q:aC} (h:bD5 k q) (hk:k≤2000):aJ q≤27000000∧szL bI q.mods+szL aI q.entries≤16777216:=by
 have h1:=h.ga
 have h2:=h.en
 have h3:=(wW q).1
 simp only [gX,ents] at h1 h2
 omega
theorem bHy {k:Nat} {q:aC} {r:aC} (hk:k < 2000) (h:oL (2000 - k) q=r):((rR q).2=true→oL (2000 - (k+1)) (rR q).1=r)∧((rR q).2=false→q=r):=by
 obtain ⟨n,hn⟩:∃n,2000 - k=n+1:=⟨1999 - k,by omega⟩
 rw [hn] at h
 have e:2000 - (k+1)=n:=by omega
 rw [e]
 unfold oL at h
 constructor
 ·intro h2;rw [if_pos h2] at h;exact h
 ·intro h2;rw [h2] at h;simpa using h
end Go.Proofs.YtaddkhdghlaalaaGreatDoor
