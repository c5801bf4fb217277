/- Proved here: steps towards the statement of this claim. No condition. -/
import Derived.Test.YtlnblmmohpcceaaGreatDoorZQSP2
import Derived.Test.YtlnblmmohpcceaaGreatDoorZQTK9
import Derived.Test.YtlnblmmohpcceaaGreatDoorZQST2
set_option linter.all false
set_option maxRecDepth 8000
set_option maxHeartbeats 8000000
namespace Go.Proofs.YtlnblmmohpcceaaGreatDoor
open Go.Aw Proofs.Tryz List IntKind
def wB (p:aP):aP×Bool:=if (iP p).2=true then iP p else mW p
def oQ:Nat->aP->aP
 |0,p=>p
 |n+1,p=>if (wB p).2=true then oQ n (wB p).1 else p
def advance (p:aP):aP:=oQ 2000 p
theorem aj (s b:bC):aV (bQ s b).1<=16:=by
 unfold bQ
 split
 ·rename_i h
  simp only [yO,dJ,Bool.and_eq_true,decide_eq_true_eq] at h
  simp only [aV];omega
 ·simp [aV,uI]
def jF (p:aP):Prop:=(∀nd∈p.builder.nodes,aO fI nd.attrs<=1048576)/\∀t∈p.queue,aO fI t.attrs<=1048576
def pG (r:List aT) (m:dD):Nat:=if r.any (gL m.to)=true then 0 else 1+aV m.to
def qJ (p:aP):Nat:=aO (pG p.nY) p.aX
def mX (p:aP):Nat:=Ig p+qJ p+1048593 * (20 - p.aF.length)+51 * (20 - p.entries.length)
def Ci (p:aP):Nat:=bP bE p.aX+bP aV p.entries+34 * (20 - p.entries.length)
def keeps (p q:aP):Prop:=jF q/\mX q<=mX p/\Ci q<=Ci p/\q.aF.length<=max p.aF.length 20
def Ar (p q:aP):Prop:=jF q/\mX q<=mX p+721/\Ci q<=Ci p/\q.aF.length<=max p.aF.length 20
theorem RF {p:aP} (h:jF p):keeps p p:=⟨h,Nat.le_refl _,Nat.le_refl _,by omega⟩
theorem mI {p:aP} (h:jF p):Ar p p:=⟨h,by omega,by omega,by omega⟩
theorem wC (p:aP) (md:Int) (tx dg:bC) (nd:Int) (hd:dg.length<=1048576):mX (fP p md tx dg nd).1<=mX p/\Ci (fP p md tx dg nd).1=Ci p/\(fP p md tx dg nd).1.aF.length<=max p.aF.length 20/\(fP p md tx dg nd).1.builder=p.builder/\(fP p md tx dg nd).1.queue=p.queue:=by
 have h16:=aj tx p.addr.host
 unfold fP
 split
 ·exact ⟨Nat.le_refl _,rfl,by simp only;omega,rfl,rfl⟩
 ·rename_i h
  have hn:p.aF.length < 20:=by
   by_cases h2:20<=p.aF.length
   ·exact (h (.inl h2)).elim
   ·omega
  split
  ·refine ⟨?_,rfl,by simp only [length_append,length_cons,length_nil];omega,rfl,rfl⟩
   simp only [mX,Ig,qJ,aL,bP,length_append,iM,aO,gZ,length_cons,length_nil]
   omega
  ·refine ⟨?_,rfl,by simp only [length_append,length_cons,length_nil];omega,rfl,rfl⟩
   simp only [mX,Ig,qJ,aL,bP,length_append,iM,aO,gZ,length_cons,length_nil]
   omega
theorem ou (p:aP) (a:aT):(Cb p a).to=a/\bE (Cb p a)=aV a:=by
 unfold Cb
 split<;>exact ⟨rfl,by simp [bE]⟩
theorem X7 (p:aP) (a:aT):∃X,kG p a={p with aX:=X}/\bP bE X<=bP bE p.aX+1+aV a/\aO (pG p.nY) X<=aO (pG p.nY) p.aX+1+aV a:=by
 obtain ⟨h1,h2⟩:=ou p a
 have h3:pG p.nY (Cb p a)<=1+aV a:=by unfold pG;rw [h1];split<;>omega
 have key:∀k,bP bE (vY p a k)<=bP bE p.aX+1+aV a/\aO (pG p.nY) (vY p a k)<=aO (pG p.nY) p.aX+1+aV a:=by
  intro k
  have e1:aO bE (p.aX.take k)+aO bE (p.aX.drop k)=aO bE p.aX:=by rw [<-iM,take_append_drop]
  have e2:aO (pG p.nY) (p.aX.take k)+aO (pG p.nY) (p.aX.drop k)=aO (pG p.nY) p.aX:=by rw [<-iM,take_append_drop]
  have e3:(p.aX.take k).length+(p.aX.drop k).length=p.aX.length:=by rw [<-length_append,take_append_drop]
  unfold vY
  simp only [bP,length_append,length_cons,iM,aO]
  omega
 unfold kG
 split
 ·split
  ·exact ⟨p.aX,rfl,by omega,by omega⟩
  ·exact ⟨_,rfl,(key _).1,(key _).2⟩
 ·exact ⟨_,rfl,(key _).1,(key _).2⟩
theorem Ot (p:aP) (tx:bC):mX (addEntry p tx)<=mX p/\Ci (addEntry p tx)<=Ci p/\(addEntry p tx).aF=p.aF/\(addEntry p tx).builder=p.builder/\(addEntry p tx).queue=p.queue:=by
 have h16:=aj tx p.addr.host
 obtain ⟨X,hX,x1,x2⟩:=X7 p (bQ tx p.addr.host).1
 unfold addEntry
 split
 ·exact ⟨Nat.le_refl _,Nat.le_refl _,rfl,rfl,rfl⟩
 ·rename_i h
  have hn:p.entries.length < 20:=by
   by_cases h2:20<=p.entries.length
   ·exact (h (.inr h2)).elim
   ·omega
  rw [hX]
  generalize (bQ tx p.addr.host).1=a at *
  refine ⟨?_,?_,rfl,rfl,rfl⟩
  ·simp only [bP] at x1
   simp only [mX,Ig,qJ,aL,bP,length_append,iM,aO,length_cons,length_nil]
   omega
  ·simp only [bP] at x1
   simp only [Ci,bP,length_append,iM,aO,length_cons,length_nil]
   omega
theorem zO {p q:aP} (h:jF p) (h1:q.builder=p.builder) (h2:q.queue=p.queue):jF q:=by
 unfold jF at *
 rw [h1,h2];exact h
theorem Wy (p:aP) (t:bH) (n:Int) (h:jF p) (ht:aO fI t.attrs<=1048576):keeps p (AB p t n):=by
 have z1:=kJ t.attrs dE
 obtain ⟨a1,a2,a3,a4,a5⟩:=wC p 2 (aQ t.attrs xP).1 (aQ t.attrs dE).1 n (by omega)
 obtain ⟨b1,b2,b3,b4,b5⟩:=wC p 1 (aQ t.attrs lX).1 (aQ t.attrs dE).1 n (by omega)
 unfold AB
 split
 ·exact ⟨zO h a4 a5,by omega,by omega,a3⟩
 ·split
  ·exact ⟨zO h b4 b5,by omega,by omega,b3⟩
  ·exact RF h
theorem Ou (p:aP) (k:Nat) (l:List iU) (h:jF p) (hl:aO fI l<=1048576):keeps p (rQ p k l):=by
 have z1:=kJ l dE
 obtain ⟨a1,a2,a3,a4,a5⟩:=wC p 4 (aQ l lX).1 (aQ l dE).1 ((k:Nat):Int) (by omega)
 obtain ⟨b1,b2,b3,b4,b5⟩:=wC p 3 (aQ l lX).1 (aQ l dE).1 ((k:Nat):Int) (by omega)
 obtain ⟨e1,e2,e3,e4,e5⟩:=Ot p (aQ l lX).1
 unfold rQ
 split
 ·split
  ·exact ⟨h,by show mX p<=_;omega,by show Ci p<=_;omega,by show p.aF.length<=_;omega⟩
  ·exact RF h
 ·split
  ·exact ⟨zO h a4 a5,by omega,by omega,a3⟩
  ·split
   ·exact ⟨zO h e4 e5,by omega,e2,by rw [e3];omega⟩
   ·refine ⟨zO h b4 b5,?_,?_,b3⟩
    ·show mX (fP p 3 (aQ l lX).1 (aQ l dE).1 ((k:Nat):Int)).1<=_
     omega
    ·show Ci (fP p 3 (aQ l lX).1 (aQ l dE).1 ((k:Nat):Int)).1<=_
     omega
theorem Ov (b:aW) (t:bH):(addToken b t).1.nodes=b.nodes\/(addToken b t).1.nodes=b.nodes++[pQ b t]:=by
 unfold addToken
 split
 ·exact .inl rfl
 ·split
  ·exact .inl rfl
  ·split
   ·exact .inl rfl
   ·exact .inr rfl
theorem Wz {p:aP} {t:bH} {q:List bH} (hq:p.queue=t::q) (h:jF p):Ar p {p with queue:=q,builder:=(addToken p.builder t).1}/\mX {p with queue:=q,builder:=(addToken p.builder t).1}<=mX p+2:=by
 have h1:=qB hq
 have ht:aO fI t.attrs<=1048576:=h.2 t (by rw [hq];simp)
 have hn:=Ov p.builder t
 have hg:mX {p with queue:=q,builder:=(addToken p.builder t).1}<=mX p+2:=by
  have hl:p.builder.nodes.length<=(addToken p.builder t).1.nodes.length:=by
   rcases hn with hn|hn<;>rw [hn]
   ·exact Nat.le_refl _
   ·simp
  simp only [mX,Ig,qJ] at *
  omega
 refine ⟨⟨⟨?_,fun x hx=>h.2 x (by rw [hq];simp [show x∈q from hx])⟩,by omega,Nat.le_refl _,by simp only;omega⟩,hg⟩
 intro nd hnd
 rcases hn with hn|hn
 ·exact h.1 nd (by rw [<-hn];exact hnd)
 ·have Sd:nd∈p.builder.nodes++[pQ p.builder t]:=by rw [<-hn];exact hnd
  rcases mem_append.1 Sd with h2|h2
  ·exact h.1 nd h2
  ·simp only [mem_singleton] at h2
   subst h2
   unfold pQ
   split
   ·exact ht
   ·simp [aO]
theorem Ow {p q r:aP} (h1:mX q<=mX p+2/\Ci q<=Ci p/\q.aF.length<=max p.aF.length 20) (hr:jF r) (h2:mX r<=mX q) (h3:Ci r<=Ci q) (h4:r.aF.length<=max q.aF.length 20):Ar p r:=⟨hr,by omega,by omega,by omega⟩
theorem Lb (p:aP) (h:jF p):Ar p (gW p).1:=by
 unfold gW
 split
 ·exact mI h
 ·rename_i t q hq
  split
  ·obtain ⟨⟨g1,g2,g3,g4⟩,g5⟩:=Wz hq h
   have ht:aO fI t.attrs<=1048576:=h.2 t (by rw [hq];simp)
   simp only
   unfold iN
   generalize sw:({p with queue:=q,builder:=(addToken p.builder t).1}:aP)=p1 at *
   split
   ·rename_i k hk
    have hl:aO fI ((p.builder.nodes[k]?).elim [] (·.attrs))<=1048576:=by
     cases hg:p.builder.nodes[k]? with
     |none=>simp [aO]
     |some nd=>exact h.1 nd (mem_of_getElem? hg)
    obtain ⟨e1,e2,e3,e4⟩:=Ou p1 k ((p.builder.nodes[k]?).elim [] (·.attrs)) g1 hl
    exact Ow ⟨g5,g3,g4⟩ e1 e2 e3 e4
   ·split
    ·obtain ⟨e1,e2,e3,e4⟩:=Wy p1 t (addToken p.builder t).2 g1 ht
     exact Ow ⟨g5,g3,g4⟩ e1 e2 e3 e4
    ·exact ⟨g1,g2,g3,g4⟩
  ·exact mI h
theorem Lc (b:aW) (ss:List fE) (l:List iG):∀nd∈(dP b ss l).1.nodes,nd∈b.nodes\/nd.attrs=[]:=by
 have one:∀(c:aW) (x:iG),∀nd∈(bM c ss x).1.nodes,nd∈c.nodes\/nd.attrs=[]:=by
  intro c x nd h
  unfold bM at h
  split at h
  ·exact .inl h
  ·split at h
   ·split at h
    ·rcases mem_append.1 h with h|h
     ·exact .inl h
     ·simp only [mem_singleton] at h;subst h;exact .inr rfl
    ·exact .inl h
   ·split at h
    ·exact .inl h
    ·split at h
     ·exact .inl h
     ·split at h<;>exact .inl h
 have key:∀(l:List iG) (s:aW×bC×List bC),(∀nd∈s.1.nodes,nd∈b.nodes\/nd.attrs=[])->∀nd∈(l.foldl (pO ss) s).1.nodes,nd∈b.nodes\/nd.attrs=[]:=by
  intro l
  induction l with
  |nil=>intro s h;exact h
  |cons x l ih=>
   intro s h
   refine ih (pO ss s x) (fun nd hn=> ?_)
   rcases one s.1 x nd hn with h2|h2
   ·exact h nd h2
   ·exact .inr h2
 exact key l (b,[],[]) (fun nd h=> .inl h)
theorem EM (p:aP) (l:List iG) (wr:Bool) (hs:aL p<=67108864) (h6:l.length<=6) (hx:∀x∈l,x.text.length<=60) (h:jF p):jF (jP p l wr)/\Ig (jP p l wr)<=Ig p+(if wr=true then 721 else 0):=by
 have hsb:aH p.builder<=67108864:=by simp only [aL] at hs;omega
 obtain ⟨z1,z2,z3,z4⟩:=yT 60 p.builder (bY p) l (by omega) h6 hx (tQ p) (by omega) l.length (Nat.le_refl _)
 have hend:oM p.builder (bY p) l l.length=dP p.builder (bY p) l:=by simp [oM]
 rw [hend] at z2
 have hnd:=Lc p.builder (bY p) l
 obtain ⟨y1,y2⟩:=Dm (dP p.builder (bY p) l).2.1
 have hp:=Ih p l hs hx
 unfold jP at hp⊢
 generalize dP p.builder (bY p) l=g at *
 obtain ⟨b,w,lg⟩:=g
 simp only [Bool.false_eq_true,if_false] at *
 generalize hk:rD w=tk at *
 refine ⟨⟨?_,?_⟩,?_⟩
 ·intro nd hn
  rcases hnd nd hn with h2|h2
  ·exact h.1 nd h2
  ·rw [h2];simp [aO]
 ·intro t ht
  simp only at ht
  have h1:t∈tk\/t∈p.queue:=by
   split at ht
   ·exact mem_append.1 ht
   ·exact .inr ht
  rcases h1 with h1|h1
  ·have h2:=bU bF h1
   have h3:aO fI t.attrs<=bF t:=by simp only [bF,bP];omega
   omega
  ·exact h.2 t h1
 ·cases wr
  ·simpa using hp
  ·simp only [Ig,aL,bP,if_true,length_append,iM] at hp⊢
   omega
theorem FU (l:List bC) (s:bC) (h:s.length<=90):bP gT (iL l s)+91 * (40 - (iL l s).length)<=bP gT l+91 * (40 - l.length):=Om l [s] (by simpa using h)
theorem AO (p:aP) (c:bC) (wr:Bool) (hs:aL p<=67108864) (h:jF p):Ar p (kP p c wr):=by
 obtain ⟨b1,b2⟩:=vX c
 unfold kP
 split
 ·obtain ⟨h1,h2⟩:=EM p (eG c).1 wr hs b1 b2 h
  refine ⟨h1,?_,Nat.le_refl _,by show p.aF.length<=_;omega⟩
  have e:qJ (jP p (eG c).1 wr)=qJ p:=rfl
  have e2:(jP p (eG c).1 wr).aF=p.aF:=rfl
  have e3:(jP p (eG c).1 wr).entries=p.entries:=rfl
  have h3:(if wr=true then 721 else 0)<=721:=by split<;>omega
  simp only [mX,e,e2,e3]
  omega
 ·have h1:=FU p.log Js (by simp [Js])
  refine ⟨h,?_,Nat.le_refl _,by show p.aF.length<=_;omega⟩
  simp only [mX,Ig,qJ,aL] at *
  omega
theorem WA (r:List aT) (b:aT) (m:dD):pG (r++[b]) m<=pG r m:=by
 unfold pG
 rw [any_append]
 cases r.any (gL m.to)<;>simp
 split<;>omega
theorem RH (r:List aT) (b:aT):∀l:List dD,aO (pG (r++[b])) l<=aO (pG r) l
 |[]=>Nat.le_refl _
 |m::l=>by have:=WA r b m;have:=RH r b l;simp only [aO];omega
theorem RI (r:List aT) (b:aT) (hr:r.any (gL b)=false):∀l:List dD,b∈l.map (·.to)->aO (pG (r++[b])) l+1+aV b<=aO (pG r) l
 |[],h=>by simp at h
 |m::l,h=>by
  simp only [map_cons,mem_cons] at h
  by_cases hb:b=m.to
  ·have h1:=RH r b l
   have e1:pG r m=1+aV b:=by unfold pG;rw [<-hb,hr];simp
   have e2:pG (r++[b]) m=0:=by unfold pG;rw [<-hb,any_append];simp [gL]
   simp only [aO];omega
  ·have h1:=RI r b hr l (by rcases h with h|h;exact (hb h).elim;exact h)
   have h2:=WA r b m
   simp only [aO];omega
theorem WB (q:aP) (b:aT) (hs:aL q+1+aV b<=67108864) (hm:b∈q.aX.map (·.to)) (h:jF q):jF (rF q b)/\Ig (rF q b)+qJ (rF q b)<=Ig q+qJ q:=by
 unfold rF
 split
 ·exact ⟨h,Nat.le_refl _⟩
 ·rename_i hr
  obtain ⟨b1,b2⟩:=Aq (vR q b) b.host
  have Re:q.nY.any (gL b)=false:=by simpa using hr
  have h3:=RI q.nY b Re q.aX hm
  have hz:aL {q with nY:=q.nY++[b]}=aL q+1+aV b:=by
   simp only [aL,bP,length_append,iM,aO,length_cons,length_nil];omega
  obtain ⟨k1,k2⟩:=EM {q with nY:=q.nY++[b]} (bA (vR q b) b.host).2.1 false (by omega) b1 b2 h
  refine ⟨k1,?_⟩
  have e:qJ (jP {q with nY:=q.nY++[b]} (bA (vR q b) b.host).2.1 false)=aO (pG (q.nY++[b])) q.aX:=rfl
  have e2:Ig {q with nY:=q.nY++[b]}=Ig q+1+aV b:=by simp only [Ig,hz];omega
  have e3:qJ q=aO (pG q.nY) q.aX:=rfl
  rw [e,e3]
  rw [e2] at k2
  simp only [Bool.false_eq_true,if_false] at k2
  omega
theorem Ii (p:aP) (L:List aT) (hL:aL p+6120+bP aV L<=67108864) (hm:∀b∈L,b∈p.aX.map (·.to)) (h:jF p):∀k,k<=L.length->jF (gY p L k)/\Ig (gY p L k)+qJ (gY p L k)<=Ig p+qJ p/\(gY p L k).entries=p.entries
 |0,_=>⟨h,Nat.le_refl _,rfl⟩
 |k+1,hk=>by
  obtain ⟨h1,h2,h3⟩:=Ii p L hL hm h k (by omega)
  obtain ⟨f1,f2,f3⟩:=sK p L hL k (by omega)
  have hp:=(AL p).2
  have hq:=(AL (gY p L k)).1
  have hb:=hm L[k] (getElem_mem (by omega))
  have e1:bP aV (L.take (k+1))=bP aV (L.take k)+1+aV L[k]:=by
   rw [take_succ_eq_append_getElem (show k < L.length by omega)]
   simp only [bP,length_append,length_cons,length_nil,iM,aO];omega
  have e2:bP aV (L.take (k+1))<=bP aV L:=by
   have:=vP aV L (k+1)
   simp only [bP,length_take];omega
  obtain ⟨k1,k2⟩:=WB (gY p L k) L[k] (by omega) (by rw [f2];exact hb) h1
  rw [yF p L k (by omega)]
  refine ⟨k1,by omega,?_⟩
  rw [<-h3]
  unfold rF jP
  split<;>rfl
theorem WC (p:aP) (a:aT) (hs:aL p<=33000000) (hm:bP bE p.aX+aV a<=16777216) (h:jF p):keeps p (nJ p a):=by
 unfold nJ
 split
 ·have hf:=zI a
  have h1:=FU p.log (Ol++jW a) (by simp only [Ol,length_append,length_cons,length_nil];omega)
  refine ⟨h,?_,Nat.le_refl _,by show p.aF.length<=_;omega⟩
  simp only [mX,Ig,qJ,aL] at *
  omega
 ·rename_i hf
  obtain ⟨r1,r2,r3⟩:=DJ p a hm (by simpa using hf)
  obtain ⟨k1,k2,k3⟩:=Ii p (dH p a) (by omega) (fun b hb=>Oo (r3 b hb)) h _ (Nat.le_refl _)
  obtain ⟨f1,f2,f3⟩:=sK p (dH p a) (by omega) _ (Nat.le_refl _)
  generalize gY p (dH p a) (dH p a).length=q at *
  refine ⟨k1,?_,?_,by rw [f3];omega⟩
  ·simp only [mX,f3,k3];omega
  ·simp only [Ci,f2,k3];omega
theorem Ld (p:aP) (k:Int) (hs:aL p<=67108864) (h:jF p):Ar p (Bo p k).1:=by
 have hb:∀q:aP,Ar p q->Ar p {q with block:=0}:=fun q hq=>hq
 unfold Bo
 split
 ·split
  ·rename_i s _
   split
   ·simp only
    split
    ·exact hb _ (AO p s.body true hs h)
    ·exact hb _ (mI h)
   ·exact mI h
  ·exact hb _ (mI h)
 ·exact hb _ (mI h)
theorem JF (p:aP) (hs:aL p<=67108864) (h:jF p):Ar p (iP p).1:=by
 unfold iP
 split
 ·split
  ·exact (show Ar p {kP p (zH p.builder p.inline) true with inline:=0} from AO p _ true hs h)
  ·exact mI h
 ·split
  ·exact Ld p _ hs h
  ·exact Lb p h
theorem Ox (p:aP) (hs:aL p<=33000000) (hme:bP bE p.aX+bP aV p.entries<=16777216) (h:jF p):Ar p (mW p).1:=by
 unfold mW
 split
 ·split
  ·split
   ·rename_i s _
    unfold LJ
    split
    ·simp only
     split
     ·exact (show Ar p {kP p s.body false with deferred:=p.deferred+1} from AO p s.body false (by omega) h)
     ·exact (show Ar p {p with deferred:=p.deferred+1} from mI h)
    ·exact mI h
   ·exact mI h
  ·split
   ·rename_i a hg
    have h1:=bU aV (mem_of_getElem? hg)
    have h2:aO aV p.entries<=bP aV p.entries:=by simp only [bP];omega
    obtain ⟨k1,k2,k3,k4⟩:=WC p a hs (by omega) h
    unfold LK
    split
    ·refine ⟨k1,?_,k3,k4⟩
     show mX (nJ p a)<=_
     omega
    ·exact mI h
   ·unfold LM
    split
    ·have h1:=FU p.log Oq (by simp [Oq])
     refine ⟨h,?_,Nat.le_refl _,by show p.aF.length<=_;omega⟩
     simp only [mX,Ig,qJ,aL] at *
     omega
    ·exact mI h
 ·exact mI h
structure KG (k : Nat) (q : aP) : Prop where
  at_ : jF q
  ga : mX q <= 25000000 + 721 * k
  en : Ci q <= 2000000
  sl : q.aF.length <= 1048576
theorem KG.sz {k:Nat} {q:aP} (h:KG k q) (hk:k<=2000):aL q<=27000000/\bP bE q.aX+bP aV q.entries<=16777216:=by
 have h1:=h.ga
 have h2:=h.en
 have h3:=(AL q).1
 simp only [mX,Ci] at h1 h2
 omega
theorem Oy {k:Nat} {q:aP} (h:KG k q) (hk:k<=2000):KG (k+1) (wB q).1:=by
 obtain ⟨h1,h2⟩:=h.sz hk
 have h3:Ar q (wB q).1:=by
  unfold wB
  split
  ·exact JF q (by omega) h.at_
  ·exact Ox q (by omega) h2 h.at_
 obtain ⟨g1,g2,g3,g4⟩:=h3
 have h4:=h.ga
 have h5:=h.en
 have h6:=h.sl
 exact ⟨g1,by omega,by omega,by omega⟩
theorem JG (p:aP) (hs:aL p<=1048576):KG 0 p:=by
 have Jl:jF p:=by
  constructor
  ·intro nd hn
   have h1:=bU fU hn
   simp only [aL,aH,bP,fU] at hs h1
   omega
  ·intro t ht
   have h1:=bU bF ht
   simp only [aL,bP,bF] at hs h1
   omega
 have hp:=(AL p).2
 have hr:qJ p<=aL p:=by
  have key:∀l:List dD,aO (pG p.nY) l<=bP bE l:=by
   intro l
   induction l with
   |nil=>exact Nat.le_refl _
   |cons m l ih=>
    have:pG p.nY m<=1+aV m.to:=by unfold pG;split<;>omega
    simp only [bP,aO,length_cons,bE] at ih⊢
    omega
  have:=key p.aX
  simp only [qJ,aL]
  omega
 have hsl:p.aF.length<=aL p:=by simp only [aL,bP];omega
 have Iu:bP bE p.aX+bP aV p.entries<=aL p:=by simp only [aL];omega
 exact ⟨Jl,by simp only [mX];omega,by simp only [Ci];omega,by omega⟩
theorem WE:∀(n k:Nat) (q:aP),KG k q->k+n<=2000->aL (oQ n q)<=27000000
 |0,k,q,h,hk=>(h.sz (by omega)).1
 |n+1,k,q,h,hk=>by
  unfold oQ
  split
  ·exact WE n (k+1) _ (Oy h (by omega)) (by omega)
  ·exact (h.sz (by omega)).1
theorem X8 {k:Nat} {q:aP} {r:aP} (hk:k < 2000) (h:oQ (2000 - k) q=r):((wB q).2=true->oQ (2000 - (k+1)) (wB q).1=r)/\((wB q).2=false->q=r):=by
 obtain ⟨n,hn⟩:∃n,2000 - k=n+1:=⟨1999 - k,by omega⟩
 rw [hn] at h
 have e:2000 - (k+1)=n:=by omega
 rw [e]
 unfold oQ at h
 constructor
 ·intro h2;rw [if_pos h2] at h;exact h
 ·intro h2;rw [h2] at h;simpa using h
def pI:List (Nat×Nat):=[(2,14),(3,15),(4,16),(5,17),(6,18),(7,19),(8,20),(9,21),(10,22),(11,23),(12,24)]
theorem RJ {t t':List AV} {o o':List aG} {l1 l2 l3 l4 l5 l6 l7 l8 l9 l10 l11:Bool} {u n1 v1 n2 v2 n3 v3 n4 v4 n5 v5 n6 v6 n7 v7 n8 v8 n9 v9 Tk v10 Tm v11:Nat} {e1 e2 e3 e4 e5 e6 e7 e8 e9 Tn Tp:List (List AV)} {o0 o1 z0:aG} {q:aP} (ho:o=[o0,o1,⟨l1,false,n1,v1,e1⟩,⟨l2,false,n2,v2,e2⟩,⟨l3,false,n3,v3,e3⟩,⟨l4,false,n4,v4,e4⟩,⟨l5,false,n5,v5,e5⟩,⟨l6,false,n6,v6,e6⟩,⟨l7,false,n7,v7,e7⟩,⟨l8,false,n8,v8,e8⟩,⟨l9,false,n9,v9,e9⟩,⟨l10,false,Tk,v10,Tn⟩,⟨l11,false,Tm,v11,Tp⟩,⟨true,true,22,u,[Br 14 q]⟩]++Bq q++[z0])
  (ho':o'=[o0,o1]++Bq q++[⟨true,true,22,u,[Br 2 q]⟩]) (ht:∀z∈pI,wk (qI z.1 z.2 t') t') (hf:∀z∈pI,o0.mH z.1 z.2=o0/\o1.mH z.1 z.2=o1) (hw:wk t t') (hc:fM 14 t'=true) (hc0:dL 14 [o0,o1]=true):lS ⟨t,o⟩ ⟨t',o'⟩:=by
 subst ho;subst ho'
 have e:=fun i j (h:(i,j)∈pI)=>hf (i,j) h
 have h:=fun i j (h:(i,j)∈pI)=>ht (i,j) h
 simp only [Bq,Br,cons_append,nil_append,append_nil]
 refine (wZ hw).trans ?_
 refine (bJ 2 14 rfl rfl ⟨rfl,rfl⟩ (by simp [(e 2 14 (by decide))];rfl) (h 2 14 (by decide))).trans ?_
 refine (bJ 3 15 rfl rfl ⟨rfl,rfl⟩ (by simp [(e 3 15 (by decide))];rfl) (h 3 15 (by decide))).trans ?_
 refine (bJ 4 16 rfl rfl ⟨rfl,rfl⟩ (by simp [(e 4 16 (by decide))];rfl) (h 4 16 (by decide))).trans ?_
 refine (bJ 5 17 rfl rfl ⟨rfl,rfl⟩ (by simp [(e 5 17 (by decide))];rfl) (h 5 17 (by decide))).trans ?_
 refine (bJ 6 18 rfl rfl ⟨rfl,rfl⟩ (by simp [(e 6 18 (by decide))];rfl) (h 6 18 (by decide))).trans ?_
 refine (bJ 7 19 rfl rfl ⟨rfl,rfl⟩ (by simp [(e 7 19 (by decide))];rfl) (h 7 19 (by decide))).trans ?_
 refine (bJ 8 20 rfl rfl ⟨rfl,rfl⟩ (by simp [(e 8 20 (by decide))];rfl) (h 8 20 (by decide))).trans ?_
 refine (bJ 9 21 rfl rfl ⟨rfl,rfl⟩ (by simp [(e 9 21 (by decide))];rfl) (h 9 21 (by decide))).trans ?_
 refine (bJ 10 22 rfl rfl ⟨rfl,rfl⟩ (by simp [(e 10 22 (by decide))];rfl) (h 10 22 (by decide))).trans ?_
 refine (bJ 11 23 rfl rfl ⟨rfl,rfl⟩ (by simp [(e 11 23 (by decide))];rfl) (h 11 23 (by decide))).trans ?_
 refine (bJ 12 24 rfl rfl ⟨rfl,rfl⟩ (by simp [(e 12 24 (by decide))];rfl) (h 12 24 (by decide))).trans ?_
 refine aS 14 (by simp) (kK _) hc ?_
 simpa [dL,fM,closed,and_assoc] using hc0
def pJ:List (Nat×Nat):=[(2,26),(3,27),(4,28),(5,29),(6,30),(7,31),(8,32),(9,33),(10,34),(11,35),(12,36)]
theorem RL {t t':List AV} {o o':List aG} {l1 l2 l3 l4 l5 l6 l7 l8 l9 l10 l11:Bool} {u n1 v1 n2 v2 n3 v3 n4 v4 n5 v5 n6 v6 n7 v7 n8 v8 n9 v9 Tk v10 Tm v11:Nat} {e1 e2 e3 e4 e5 e6 e7 e8 e9 Tn Tp:List (List AV)} {o0 o1 m0 m1 m2 m3 m4 m5 m6 m7 m8 m9 m10 m11:aG} {q:aP} (ho:o=[o0,o1,⟨l1,false,n1,v1,e1⟩,⟨l2,false,n2,v2,e2⟩,⟨l3,false,n3,v3,e3⟩,⟨l4,false,n4,v4,e4⟩,⟨l5,false,n5,v5,e5⟩,⟨l6,false,n6,v6,e6⟩,⟨l7,false,n7,v7,e7⟩,⟨l8,false,n8,v8,e8⟩,⟨l9,false,n9,v9,e9⟩,⟨l10,false,Tk,v10,Tn⟩,⟨l11,false,Tm,v11,Tp⟩,⟨true,true,22,u,[Br 26 q]⟩,m0,m1,m2,m3,m4,m5,m6,m7,m8,m9,m10,m11]++Bq q++[])
  (ho':o'=[o0,o1]++Bq q++[⟨true,true,22,u,[Br 2 q]⟩]) (ht:∀z∈pJ,wk (qI z.1 z.2 t') t') (hf:∀z∈pJ,o0.mH z.1 z.2=o0/\o1.mH z.1 z.2=o1) (hw:wk t t') (hc:fM 14 t'=true) (hc0:dL 14 [o0,o1]=true):lS ⟨t,o⟩ ⟨t',o'⟩:=by
 subst ho;subst ho'
 have e:=fun i j (h:(i,j)∈pJ)=>hf (i,j) h
 have h:=fun i j (h:(i,j)∈pJ)=>ht (i,j) h
 simp only [Bq,Br,cons_append,nil_append,append_nil]
 refine (wZ hw).trans ?_
 refine (bJ 2 26 rfl rfl ⟨rfl,rfl⟩ (by simp [(e 2 26 (by decide))];rfl) (h 2 26 (by decide))).trans ?_
 refine (bJ 3 27 rfl rfl ⟨rfl,rfl⟩ (by simp [(e 3 27 (by decide))];rfl) (h 3 27 (by decide))).trans ?_
 refine (bJ 4 28 rfl rfl ⟨rfl,rfl⟩ (by simp [(e 4 28 (by decide))];rfl) (h 4 28 (by decide))).trans ?_
 refine (bJ 5 29 rfl rfl ⟨rfl,rfl⟩ (by simp [(e 5 29 (by decide))];rfl) (h 5 29 (by decide))).trans ?_
 refine (bJ 6 30 rfl rfl ⟨rfl,rfl⟩ (by simp [(e 6 30 (by decide))];rfl) (h 6 30 (by decide))).trans ?_
 refine (bJ 7 31 rfl rfl ⟨rfl,rfl⟩ (by simp [(e 7 31 (by decide))];rfl) (h 7 31 (by decide))).trans ?_
 refine (bJ 8 32 rfl rfl ⟨rfl,rfl⟩ (by simp [(e 8 32 (by decide))];rfl) (h 8 32 (by decide))).trans ?_
 refine (bJ 9 33 rfl rfl ⟨rfl,rfl⟩ (by simp [(e 9 33 (by decide))];rfl) (h 9 33 (by decide))).trans ?_
 refine (bJ 10 34 rfl rfl ⟨rfl,rfl⟩ (by simp [(e 10 34 (by decide))];rfl) (h 10 34 (by decide))).trans ?_
 refine (bJ 11 35 rfl rfl ⟨rfl,rfl⟩ (by simp [(e 11 35 (by decide))];rfl) (h 11 35 (by decide))).trans ?_
 refine (bJ 12 36 rfl rfl ⟨rfl,rfl⟩ (by simp [(e 12 36 (by decide))];rfl) (h 12 36 (by decide))).trans ?_
 refine aS 14 (by simp) (kK _) hc ?_
 simpa [dL,fM,closed,and_assoc] using hc0
theorem OE [aD prog] [fV prog] [eO prog] [qF prog] (p:aP) (hs:aL p<=1048576):Ok prog 26 [.agg (aM .view p)] (.agg (aM .own (advance p))):=by
 have c1:=jN p (by omega)
 have h0:=JG p hs
 unfold advance
 generalize hr:oQ 2000 p=r at *
 simp only [aM] at c1
 refine bR aAc func26 ntmps26 ?_
 have W:=trivial
 repeat' first|refine wl ?_|(refine sq ?_ ?_<;>intro hc<;>try exact hc.elim)|fail
 refine aJ (ι:={x:Nat×aP // x.1<=2000/\KG x.1 x.2/\oQ (2000 - x.1) x.2=r}) (fun t o i=>⟨aZ t [(4,.int .i64 i.1.1),(5,.undef),(6,.undef),(8,.undef)],o.take 2++Bq i.1.2++[⟨true,true,22,0,[Br 2 i.1.2]⟩]⟩)
  (fun i=>2000 - i.1.1) ⟨(0,p),by simp,h0,hr⟩ (aI (by simp [Bq,Br]) (by simp)) ?_
 rintro ⟨⟨k,q⟩,hk,uX,OG⟩ K1 hK1
 simp only at hk uX OG
 clear h0 hr hs c1
 have hk1:i64.wrap ((k:Int)+1)=((k+1:Nat):Int):=by rw [wrap64]<;>omega
 by_cases hlt:k < 2000
 ·have hki:(k:Int) < 2000:=by omega
  obtain ⟨hz,hme⟩:=uX.sz hk
  have c2:=Ij q (by omega)
  have c3:=Lf q (by omega) (by have:=uX.sl;omega) hme
  obtain ⟨g1,g2⟩:=X8 hlt OG
  have hnx:=Oy uX hk
  unfold wB at g1 g2 hnx
  have hK2:=hK1
  simp only [aZ,set_cons_succ,set_cons_zero,take_succ_cons,take_zero,cons_append,nil_append,Bq,Br] at hK1⊢
  cases hb:(iP q).2
  ·rw [hb] at c2
   rw [if_neg (by rw [hb];simp)] at g1 g2 hnx
   generalize (iP q).1=q1 at *
   cases hb2:(mW q).2
   ·rw [hb2] at c3
    have hq:=g2 hb2
    clear g1 g2 hnx hK2 hK1 uX OG hz hme
    generalize (mW q).1=q2 at *
    subst hq
    simp only [aM] at c2 c3⊢
    have W:=hki
    repeat' first|refine wl ?_|(refine sq ?_ ?_<;>intro hc<;>try exact hc.elim)|fail
    all_goals try(refine ⟨.inr rfl,?_⟩;simp [aB,results26])
   ·rw [hb2] at c3
    have hq:=g1 hb2
    clear g1 g2 hz hme
    generalize (mW q).1=q2 at *
    simp only [aM] at c2 c3
    have W:=aA hki hk1
    repeat' first|refine wl ?_|(refine sq ?_ ?_<;>intro hc<;>try exact hc.elim)|fail
    refine hK2 _ ⟨(k+1,q2),by simp only;omega,hnx,hq⟩ ?_ (by simp only;omega)
    exact RL (q:=q2) rfl (by simp [Bq,Br]) (by simp [pJ]) (by simp [pJ]) (by simp) (by simp) (by simp [dL])
  ·rw [hb] at c2
   rw [if_pos hb] at g1 g2 hnx
   have hq:=g1 hb
   clear g1 g2 hz hme c3
   generalize (iP q).1=q1 at *
   simp only [aM] at c2
   have W:=aA hki hk1
   repeat' first|refine wl ?_|(refine sq ?_ ?_<;>intro hc<;>try exact hc.elim)|fail
   refine hK2 _ ⟨(k+1,q1),by simp only;omega,hnx,hq⟩ ?_ (by simp only;omega)
   exact RJ (q:=q1) rfl (by simp [Bq,Br]) (by simp [pI]) (by simp [pI]) (by simp) (by simp) (by simp [dL])
 ·have hki:¬(k:Int) < 2000:=by omega
  obtain rfl:k=2000:=by omega
  have hq:q=r:=by simpa [oQ] using OG
  simp only [aZ,set_cons_succ,set_cons_zero,take_succ_cons,take_zero,cons_append,nil_append,Bq,Br] at hK1⊢
  clear hK1 uX OG
  subst hq
  simp only [aM]
  have W:=trivial
  repeat' first|refine wl ?_|(refine sq ?_ ?_<;>intro hc<;>try exact hc.elim)|fail
  all_goals try(refine ⟨.inr rfl,?_⟩;simp [aB,results26])
theorem OM [aD prog] [fV prog] [eO prog] [qF prog] (p:aP) (hs:aL p<=1048576):Ok prog 25 [.agg (aM .view p)] (.agg (aM .own (advance p))):=by
 have c1:=iD p (by omega)
 have h0:=JG p hs
 unfold advance
 generalize hr:oQ 2000 p=r at *
 simp only [aM] at c1
 refine bR aAc func25 ntmps25 ?_
 have W:=trivial
 repeat' first|refine wl ?_|(refine sq ?_ ?_<;>intro hc<;>try exact hc.elim)|fail
 refine aJ (ι:={x:Nat×aP // x.1<=2000/\KG x.1 x.2/\oQ (2000 - x.1) x.2=r}) (fun t o i=>⟨aZ t [(4,.int .i64 i.1.1),(5,.undef),(6,.undef),(8,.undef)],o.take 2++Bq i.1.2++[⟨true,true,22,0,[Br 2 i.1.2]⟩]⟩)
  (fun i=>2000 - i.1.1) ⟨(0,p),by simp,h0,hr⟩ (aI (by simp [Bq,Br]) (by simp)) ?_
 rintro ⟨⟨k,q⟩,hk,uX,OG⟩ K1 hK1
 simp only at hk uX OG
 clear h0 hr hs c1
 have hk1:i64.wrap ((k:Int)+1)=((k+1:Nat):Int):=by rw [wrap64]<;>omega
 by_cases hlt:k < 2000
 ·have hki:(k:Int) < 2000:=by omega
  obtain ⟨hz,hme⟩:=uX.sz hk
  have c2:=Ik q (by omega)
  have c3:=Lh q (by omega) (by have:=uX.sl;omega) hme
  obtain ⟨g1,g2⟩:=X8 hlt OG
  have hnx:=Oy uX hk
  unfold wB at g1 g2 hnx
  have hK2:=hK1
  simp only [aZ,set_cons_succ,set_cons_zero,take_succ_cons,take_zero,cons_append,nil_append,Bq,Br] at hK1⊢
  cases hb:(iP q).2
  ·rw [hb] at c2
   rw [if_neg (by rw [hb];simp)] at g1 g2 hnx
   generalize (iP q).1=q1 at *
   cases hb2:(mW q).2
   ·rw [hb2] at c3
    have hq:=g2 hb2
    clear g1 g2 hnx hK2 hK1 uX OG hz hme
    generalize (mW q).1=q2 at *
    subst hq
    simp only [aM] at c2 c3⊢
    have W:=hki
    repeat' first|refine wl ?_|(refine sq ?_ ?_<;>intro hc<;>try exact hc.elim)|fail
    all_goals try(refine ⟨.inr rfl,?_⟩;simp [aB,results25])
   ·rw [hb2] at c3
    have hq:=g1 hb2
    clear g1 g2 hz hme
    generalize (mW q).1=q2 at *
    simp only [aM] at c2 c3
    have W:=aA hki hk1
    repeat' first|refine wl ?_|(refine sq ?_ ?_<;>intro hc<;>try exact hc.elim)|fail
    refine hK2 _ ⟨(k+1,q2),by simp only;omega,hnx,hq⟩ ?_ (by simp only;omega)
    exact RL (q:=q2) rfl (by simp [Bq,Br]) (by simp [pJ]) (by simp [pJ]) (by simp) (by simp) (by simp [dL])
  ·rw [hb] at c2
   rw [if_pos hb] at g1 g2 hnx
   have hq:=g1 hb
   clear g1 g2 hz hme c3
   generalize (iP q).1=q1 at *
   simp only [aM] at c2
   have W:=aA hki hk1
   repeat' first|refine wl ?_|(refine sq ?_ ?_<;>intro hc<;>try exact hc.elim)|fail
   refine hK2 _ ⟨(k+1,q1),by simp only;omega,hnx,hq⟩ ?_ (by simp only;omega)
   exact RJ (q:=q1) rfl (by simp [Bq,Br]) (by simp [pI]) (by simp [pI]) (by simp) (by simp) (by simp [dL])
 ·have hki:¬(k:Int) < 2000:=by omega
  obtain rfl:k=2000:=by omega
  have hq:q=r:=by simpa [oQ] using OG
  simp only [aZ,set_cons_succ,set_cons_zero,take_succ_cons,take_zero,cons_append,nil_append,Bq,Br] at hK1⊢
  clear hK1 uX OG
  subst hq
  simp only [aM]
  have W:=trivial
  repeat' first|refine wl ?_|(refine sq ?_ ?_<;>intro hc<;>try exact hc.elim)|fail
  all_goals try(refine ⟨.inr rfl,?_⟩;simp [aB,results25])
end Go.Proofs.YtlnblmmohpcceaaGreatDoor
