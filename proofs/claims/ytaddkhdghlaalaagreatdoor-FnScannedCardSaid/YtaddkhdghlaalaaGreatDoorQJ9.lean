/-
  Proved here: steps towards the statement of this claim, text QJ9.
  No condition beyond what each statement spells out.
-/
import Derived.Test.YtaddkhdghlaalaaGreatDoorQJ5
import Derived.Test.YtaddkhdghlaalaaGreatDoorQ2
import Derived.Test.YtaddkhdghlaalaaGreatDoorF8
import Derived.Test.YtaddkhdghlaalaaGreatDoorQTK7
import Derived.Test.YtaddkhdghlaalaaGreatDoorQN1
import Derived.Test.YtaddkhdghlaalaaGreatDoorQZ4
import Derived.Test.YtaddkhdghlaalaaGreatDoorZ6
import Derived.Test.YtaddkhdghlaalaaGreatDoorQZ7
import Derived.Test.YtaddkhdghlaalaaGreatDoorQP3
import Derived.Test.YtaddkhdghlaalaaGreatDoorQTK5
set_option linter.all false
set_option maxRecDepth 4000
set_option maxHeartbeats 4000000
namespace Go.Proofs.YtaddkhdghlaalaaGreatDoor
open Go.Aw
def fQ (p:aC) (a:aD) (x:aV):Nat→aC
 |0=>p
 |k+1=>match p.slots[k]? with
  |some s=>if s.to=a then gD (fQ p a x k) k x else fQ p a x k
  |none=>fQ p a x k
def mD (p:aC) (a:aD) (x:aV):aC:=fQ p a x p.slots.length
theorem aN5 (p:aC) (k:Int) (x:aV):(gD p k x).slots.length=p.slots.length∧(gD p k x).policy=p.policy∧(gD p k x).addr=p.addr:=by
 unfold gD
 split
 ·split
  ·split
   ·exact ⟨rfl,rfl,rfl⟩
   ·simp
  ·exact ⟨rfl,rfl,rfl⟩
 ·exact ⟨rfl,rfl,rfl⟩
theorem bE7 (p:aC) (k:Int) (x:aV) (j:Nat) (h:(j:Int)≠k):(gD p k x).slots[j]? =p.slots[j]?:=by
 unfold gD
 split
 ·split
  ·split
   ·rfl
   ·simp only
    rw [List.getElem?_set_ne (by omega)]
  ·rfl
 ·rfl
theorem aCg (p:dU) (r:dA) (x:aV):(mJ p r x).length≤400:=by
 unfold mJ
 split
 ·rename_i h
  unfold gQ at h
  split at h
  ·omega
  ·split at h
   ·omega
   ·rename_i h2
    have h3:iP x=true:=by
     cases h4:iP x with
     |true=>rfl
     |false=>exact absurd (.inl h4) h2
    simp only [iP,Bool.and_eq_true,decide_eq_true_eq] at h3
    exact h3.1.1.2
 ·simp
theorem bDa (p:aC) (k:Int) (x:aV):aJ (gD p k x)≤aJ p+400:=by
 unfold gD
 split
 ·split
  ·rename_i s hg
   split
   ·omega
   ·have hb:=aCg p.policy (iN p s) x
    have h1:aK kH (p.slots.set k.toNat (filled p s x))≤aK kH p.slots+400:=by
     have:∀(l:List iK) (i:Nat) (s s':iK),l[i]? =some s→kH s'≤kH s+400→aK kH (l.set i s')≤aK kH l+400:=by
      intro l
      induction l with
      |nil=>intro i s s' h;simp at h
      |cons y l ih=>
       intro i s s' h hs
       cases i with
       |zero=>simp at h;subst h;simp only [List.set_cons_zero,aK];omega
       |succ i=>have:=ih i s s' (by simpa using h) hs;simp only [List.set_cons_succ,aK];omega
     refine this _ _ s _ hg ?_
     simp only [kH,filled];omega
    simp only [aJ,szL,List.length_set] at *
    omega
  ·omega
 ·omega
theorem xX (p:aC) (a:aD) (x:aV):∀k,(fQ p a x k).slots.length=p.slots.length∧(∀j,k≤j→(fQ p a x k).slots[j]? =p.slots[j]?)∧aJ (fQ p a x k)≤aJ p+k * 400
 |0=>⟨rfl,fun _ _=>rfl,by simp [fQ]⟩
 |k+1=>by
  obtain ⟨h1,h2,h3⟩:=xX p a x k
  simp only [fQ]
  split
  ·split
   ·refine ⟨by rw [(aN5 _ _ _).1];exact h1,fun j hj=>by rw [bE7 _ _ _ _ (by omega)];exact h2 j (by omega),?_⟩
    have:=bDa (fQ p a x k) k x
    omega
   ·exact ⟨h1,fun j hj=>h2 j (by omega),by omega⟩
  ·exact ⟨h1,fun j hj=>h2 j (by omega),by omega⟩
theorem aUk {p:aC} {a:aD} {x:aV} {k:Nat} (h:k < p.slots.length):fQ p a x (k+1)=if p.slots[k].to=a then gD (fQ p a x k) k x else fQ p a x k:=by
 simp only [fQ]
 rw [List.getElem?_eq_getElem h]
def lN (q:aC):List aA:=[⟨true,false,1,1,q.policy.scripts.map bX⟩,⟨true,false,1,1,q.policy.styles.map bX⟩,⟨true,false,1,1,q.policy.images.map bX⟩,⟨true,false,4,1,q.queue.map (bL .own)⟩,⟨true,false,4,1,q.builder.nodes.map (dY .own)⟩,⟨true,false,1,1,q.builder.opens.map jI⟩,⟨true,false,8,1,q.slots.map oG⟩,⟨true,false,5,1,q.mods.map jB⟩,⟨true,false,2,1,q.entries.map aF⟩,⟨true,false,2,1,q.ran.map aF⟩,⟨true,false,1,1,q.log.map bX⟩]
def lC (b:Nat) (q:aC):List AV:=[.str q.addr.host,.str q.addr.path,.bool q.policy.isSet,.obj b 1,.obj (b+1) 1,.obj (b+2) 1,.str q.policy.nonce,.str q.tok.rest,.obj (b+3) 1,.bool q.ended,.obj (b+4) 1,.obj (b+5) 1,.obj (b+6) 1,.obj (b+7) 1,.obj (b+8) 1,.int .i64 q.block,.int .i64 q.inline,.int .i64 q.deferred,.int .i64 q.entered,.obj (b+9) 1,.obj (b+10) 1,.bool q.loaded]
def aAa:List (Nat×Nat):=[(4,16),(5,17),(6,18),(7,19),(8,20),(9,21),(10,22),(11,23),(12,24),(13,25),(14,26)]
theorem aYw {t t':List AV} {o0 o1 o2 o3:aA} (q0 q:aC) (ht:∀z∈aAa,wk (lD z.1 z.2 t') t') (hf:∀z∈aAa,o0.rsw z.1 z.2=o0∧o1.rsw z.1 z.2=o1∧o2.rsw z.1 z.2=o2∧o3.rsw z.1 z.2=o3) (hw:wk t t') (hc:fV 16 t'=true) (hc0:eO 16 [o0,o1,o2,o3]=true):
  fG ⟨t,[o0,o1,o2,o3]++lN q0++[⟨true,true,22,0,[lC 16 q]⟩]++lN q⟩ ⟨t',[o0,o1,o2,o3]++lN q++[⟨true,true,22,0,[lC 4 q]⟩]⟩:=by
 have e:=fun i j (h:(i,j)∈aAa)=>hf (i,j) h
 have h:=fun i j (h:(i,j)∈aAa)=>ht (i,j) h
 simp only [lN,lC,List.cons_append,List.nil_append]
 refine (vG hw).trans ?_
 refine (bH 4 16 rfl rfl ⟨rfl,rfl⟩ (by simp [(e 4 16 (by decide))];rfl) (h 4 16 (by decide))).trans ?_
 refine (bH 5 17 rfl rfl ⟨rfl,rfl⟩ (by simp [(e 5 17 (by decide))];rfl) (h 5 17 (by decide))).trans ?_
 refine (bH 6 18 rfl rfl ⟨rfl,rfl⟩ (by simp [(e 6 18 (by decide))];rfl) (h 6 18 (by decide))).trans ?_
 refine (bH 7 19 rfl rfl ⟨rfl,rfl⟩ (by simp [(e 7 19 (by decide))];rfl) (h 7 19 (by decide))).trans ?_
 refine (bH 8 20 rfl rfl ⟨rfl,rfl⟩ (by simp [(e 8 20 (by decide))];rfl) (h 8 20 (by decide))).trans ?_
 refine (bH 9 21 rfl rfl ⟨rfl,rfl⟩ (by simp [(e 9 21 (by decide))];rfl) (h 9 21 (by decide))).trans ?_
 refine (bH 10 22 rfl rfl ⟨rfl,rfl⟩ (by simp [(e 10 22 (by decide))];rfl) (h 10 22 (by decide))).trans ?_
 refine (bH 11 23 rfl rfl ⟨rfl,rfl⟩ (by simp [(e 11 23 (by decide))];rfl) (h 11 23 (by decide))).trans ?_
 refine (bH 12 24 rfl rfl ⟨rfl,rfl⟩ (by simp [(e 12 24 (by decide))];rfl) (h 12 24 (by decide))).trans ?_
 refine (bH 13 25 rfl rfl ⟨rfl,rfl⟩ (by simp [(e 13 25 (by decide))];rfl) (h 13 25 (by decide))).trans ?_
 refine (bH 14 26 rfl rfl ⟨rfl,rfl⟩ (by simp [(e 14 26 (by decide))];rfl) (h 14 26 (by decide))).trans ?_
 refine aN 16 (by simp) (kQ _) hc ?_
 simpa [eO,fV,closed] using hc0
theorem sG {α:Type} {f:α→List AV} {i j:Nat} (h:∀x,lD i j (f x)=f x):∀l:List α,iU i j (l.map f)=l.map f
 |[]=>rfl
 |x::l=>by simp only [List.map_cons,iU,h,sG h l]
@[simp] theorem bI5 (i j:Nat) (l:List Str):iU i j (l.map bX)=l.map bX:=sG (fun _=>rfl) l
@[simp] theorem bJj (i j:Nat) (l:List Int):iU i j (l.map jI)=l.map jI:=sG (fun _=>rfl) l
@[simp] theorem bI3 (i j:Nat) (l:List aD):iU i j (l.map aF)=l.map aF:=sG (fun _=>rfl) l
@[simp] theorem bIn (i j:Nat) (l:List iJ):iU i j (l.map mW)=l.map mW:=sG (fun _=>rfl) l
@[simp] theorem bIv (i j:Nat) (l:List iK):iU i j (l.map oG)=l.map oG:=sG (fun _=>rfl) l
@[simp] theorem bHq (i j:Nat) (l:List dR):iU i j (l.map jB)=l.map jB:=sG (fun _=>rfl) l
@[simp] theorem bG3 (i j:Nat) (l:List bE):iU i j (l.map (bL .view))=l.map (bL .view):=sG (fun _=>by simp) l
@[simp] theorem bH4 (i j:Nat) (l:List gW):iU i j (l.map (dY .view))=l.map (dY .view):=sG (fun _=>by simp) l
theorem aYg {t t':List AV} {o o':List aA} {o0 o1 o2 o3:aA} {q0 q:aC} (ho:o=[o0,o1,o2,o3]++lN q0++[⟨true,true,22,0,[lC 16 q]⟩]++lN q) (ho':o'=[o0,o1,o2,o3]++lN q++[⟨true,true,22,0,[lC 4 q]⟩])
  (ht:∀z∈aAa,wk (lD z.1 z.2 t') t') (hf:∀z∈aAa,o0.rsw z.1 z.2=o0∧o1.rsw z.1 z.2=o1∧o2.rsw z.1 z.2=o2∧o3.rsw z.1 z.2=o3) (hw:wk t t') (hc:fV 16 t'=true) (hc0:eO 16 [o0,o1,o2,o3]=true):fG ⟨t,o⟩ ⟨t',o'⟩:=by
 subst ho;subst ho';exact aYw q0 q ht hf hw hc hc0
theorem aNb [aB Tryz.prog] [dB Tryz.prog] (p:aC) (a:aD) (x:aV) (hs:aJ p≤67108864) (hx:dC x≤1048576):Ok Tryz.prog 116 [.agg (aG .view p),.agg (aF a),.agg (cZ x)] (.agg (aG .own (mD p a x))):=by
 have c1:=fH p (by omega)
 have hsn:p.slots.length≤67108864:=by simp only [aJ,szL] at hs;omega
 simp only [aG] at c1
 unfold mD
 refine ent Tryz.mix Tryz.func116 Tryz.ntmps116 ?_
 refine aW ?_
 refine aR (ι:={k:Nat // k≤p.slots.length}) (fun t o i=>⟨aS t [(8,.int .i64 i.1),(10,.undef)],o.take 4++lN (fQ p a x i.1)++[⟨true,true,22,0,[lC 4 (fQ p a x i.1)]⟩]⟩)
  (fun i=>p.slots.length - i.1) ⟨0,by simp⟩ (aO (by simp [lN,lC,fQ]) (by simp)) ?_
 rintro ⟨k,hk⟩ K1 hK1
 have hf:=xX p a x k
 obtain ⟨f1,f2,f3⟩:=hf
 have c2:=aKh (fQ p a x k) k x (by omega) hx
 have hnext0:= @aUk p a x k
 have hk1:=wk1 (k:=k) (by omega)
 by_cases hlt:k < p.slots.length
 ·have hg:=List.getElem?_eq_getElem hlt
  have hnext:=hnext0 hlt
  clear hnext0
  by_cases hdn:p.slots[k].done=true
  ·have hsame:fQ p a x (k+1)=fQ p a x k:=by
    rw [hnext]
    split
    ·exact aOj (s:=p.slots[k]) (by rw [Int.toNat_natCast,f2 k (Nat.le_refl k)];exact hg) hdn
    ·rfl
   have hK2:=hK1
   simp only [aS,List.set_cons_succ,List.set_cons_zero,List.take_succ_cons,List.take_zero,List.cons_append,List.nil_append,lN,lC] at hK1⊢
   clear f2 c2 hnext
   generalize hqq:fQ p a x k=q at *
   have W:=And.intro hk1 (And.intro hg (And.intro hlt hdn))
   refine we ?_
   refine hK2 _ ⟨k+1,by omega⟩ ?_ (by simp only;omega)
   simp only [hsame]
   exact aO (by simp [lN,lC,hsame]) (by simp)
  ·simp only [Bool.not_eq_true] at hdn
   by_cases hto:p.slots[k].to=a
   ·rw [if_pos hto] at hnext
    generalize hq':gD (fQ p a x k) k x=q' at *
    have hK2:=hK1
    simp only [aS,List.set_cons_succ,List.set_cons_zero,List.take_succ_cons,List.take_zero,List.cons_append,List.nil_append,lN,lC] at hK1⊢
    clear hq' f2
    generalize hqq:fQ p a x k=q at *
    simp only [aG,cZ] at c2
    have W:=And.intro hk1 (And.intro hg (And.intro hlt (And.intro hdn hto)))
    have c0:=pM a a
    repeat' first|refine st ?_|(refine nx ?_;first|refine se ?_|refine so ?_)|(refine cx ?_;first|refine sT ?_|refine sF ?_)|fail
    refine hK2 _ ⟨k+1,by omega⟩ ?_ (by simp only;omega)
    simp only [hnext]
    exact aYg (q0:=q) (q:=q') rfl (by simp [lN,lC,hnext]) (by simp [aAa]) (by simp [aAa]) (by simp) (by simp) (by simp)
   ·rw [if_neg hto] at hnext
    have hK2:=hK1
    simp only [aS,List.set_cons_succ,List.set_cons_zero,List.take_succ_cons,List.take_zero,List.cons_append,List.nil_append,lN,lC] at hK1⊢
    clear f2 c2
    generalize hqq:fQ p a x k=q at *
    have W:=And.intro hk1 (And.intro hg (And.intro hlt (And.intro hdn hto)))
    have c0:=pM p.slots[k].to a
    repeat' first|refine st ?_|(refine nx ?_;first|refine se ?_|refine so ?_)|(refine cx ?_;first|refine sT ?_|refine sF ?_)|fail
    all_goals first
     |exact absurd (by assumption) hto
     |exact hK2 _ ⟨k+1,by omega⟩ (by simp only [hnext];exact aO (by simp [lN,lC,hnext]) (by simp)) (by simp only;omega)
 ·have htk:k=p.slots.length:=by omega
  subst htk
  simp only [aS,List.set_cons_succ,List.set_cons_zero,List.take_succ_cons,List.take_zero,List.cons_append,List.nil_append,lN,lC] at hK1⊢
  generalize fQ p a x p.slots.length=q at *
  clear hnext0 f2 c2 hK1
  have W:=hk1
  refine we ?_
  exact aM Tryz.results116
theorem aUy (p:aC) (a:aD) (x:aV):(mD p a x).slots.length=p.slots.length:=(xX p a x _).1
theorem aXm (p:aC) (a:aD) (x:aV):aJ (mD p a x)≤aJ p+p.slots.length * 400:=(xX p a x _).2.2
def iR (p:aC) (m:dR) (x:aV):dR:={m with done:=true,code:=gQ p.policy (iE p m) x,body:=mJ p.policy (iE p m) x}
def lK (q:aC) (l:List aD):aC:=l.foldl eU q
def aHm (p:aC) (a:aD) (x:aV) (k:Nat) (m:dR):aC:=lK {p with mods:=p.mods.set k (iR p m x)} (gI {p with mods:=p.mods.set k (iR p m x)} a)
def kU (p:aC) (a:aD) (x:aV):aC:=
 if kP (gJ a) p.mods < 0 then p else match p.mods[(kP (gJ a) p.mods).toNat]? with
 |some m=>if m.done=true then p else aHm p a x (kP (gJ a) p.mods).toNat m
 |none=>p
theorem aEc {p:aC} {a:aD} {x:aV} (h:kP (gJ a) p.mods= -1):kU p a x=p:=by
 unfold kU;rw [h];rfl
theorem aE5 {p:aC} {a:aD} {x:aV} {k:Nat} {m:dR} (h:kP (gJ a) p.mods=(k:Int)) (hg:p.mods[k]? =some m) (hd:m.done=true):kU p a x=p:=by
 unfold kU;rw [h,if_neg (by omega),Int.toNat_natCast,hg];simp [hd]
theorem aHg {p:aC} {a:aD} {x:aV} {k:Nat} {m:dR} (h:kP (gJ a) p.mods=(k:Int)) (hg:p.mods[k]? =some m) (hd:m.done=false):kU p a x=aHm p a x k m:=by
 unfold kU;rw [h,if_neg (by omega),Int.toNat_natCast,hg];simp [hd]
theorem aSo {α:Type} (f:α→Bool) (y:α):∀(l:List α) (k:Nat) (h:k < l.length),f y=true→l.find? f=some l[k]→(∀j (hj:j < k),f (l[j]'(Nat.lt_trans hj h))=false)→(l.set k y).find? f=some y
 |[],k,h,_,_,_=>by simp at h
 |z::l,0,h,hy,_,_=>by simp [hy]
 |z::l,k+1,h,hy,hf,hn=>by
  have hz:f z=false:=hn 0 (by omega)
  rw [List.set_cons_succ,List.find?_cons,hz]
  rw [List.find?_cons,hz] at hf
  exact aSo f y l k (by simpa using h) hy (by simpa using hf) (fun j hj=>by have:=hn (j+1) (by omega);simpa using this)
theorem bGt {α:Type} {f:α→Bool} {l:List α} {k:Nat} (h:kP f l=(k:Int)) (hk:k < l.length):f l[k]=true∧∀j (hj:j < k),f (l[j]'(Nat.lt_trans hj hk))=false:=by
 unfold kP at h
 split at h
 ·rename_i ha
  have hk2:l.findIdx f=k:=by omega
  rw [List.findIdx_eq hk] at hk2
  exact hk2
 ·omega
theorem aIp {p:aC} {a:aD} {x:aV} {k:Nat} (h:kP (gJ a) p.mods=(k:Int)) (hk:k < p.mods.length) (hf:p.mods.find? (gJ a)=some p.mods[k]):(p.mods.set k (iR p p.mods[k] x)).find? (gJ a)=some (iR p p.mods[k] x):=by
 obtain ⟨h1,h2⟩:=bGt h hk
 exact aSo _ _ _ _ hk (by simp only [gJ] at h1⊢;exact h1) hf h2
theorem aVv {α:Type} (f:α→Nat) (c:Nat):∀(l:List α) (i:Nat) (y:α) (h:i < l.length),f y≤f l[i]+c→aK f (l.set i y)≤aK f l+c
 |[],i,y,h,_=>by simp at h
 |z::l,0,y,h,hs=>by simp only [List.set_cons_zero,aK,List.getElem_cons_zero] at hs⊢;omega
 |z::l,i+1,y,h,hs=>by
  have:=aVv f c l i y (by simpa using h) (by simpa using hs)
  simp only [List.set_cons_succ,aK];omega
theorem aWl (p:aC) (k:Nat) (hk:k < p.mods.length) (x:aV):aJ {p with mods:=p.mods.set k (iR p p.mods[k] x)}≤aJ p+400:=by
 have hb:=aCg p.policy (iE p p.mods[k]) x
 have h:=aVv bI 400 p.mods k (iR p p.mods[k] x) hk (by simp only [bI,iR];omega)
 simp only [aJ,szL,List.length_set]
 omega
theorem aLp (N:Nat):∀(l:List aD) (q:aC),(∀x∈l,aI x≤N)→aJ (lK q l)≤aJ q+l.length * (N+1)
 |[],q,_=>by simp [lK]
 |b::l,q,h=>by
  have h1:=aLp N l (eU q b) (fun x hx=>h x (by simp [hx]))
  have h2:=bHt q b
  have h3:=h b (by simp)
  simp only [lK,List.foldl_cons,List.length_cons,Nat.succ_mul] at h1⊢
  omega
theorem aU9 (q:aC) (l:List aD) (b:aD):lK q (l++[b])=eU (lK q l) b:=by simp [lK]
theorem bB1 (s b:Str):aI (bO s b).1≤16:=by
 unfold bO
 split
 ·rename_i h
  simp only [nT,bU,Bool.and_eq_true,decide_eq_true_eq] at h
  simp only [aI];omega
 ·simp [aI,kZ]
theorem aRh (base:Str):∀(ps:List Str) (l:List aD) (r:List Str),kJ base ps=some (l,r)→∀b∈l,aI b≤16
 |[],l,r,h=>by simp only [kJ,Option.some.injEq,Prod.mk.injEq] at h;obtain ⟨rfl,_⟩:=h;simp
 |p::ps,l,r,h=>by
  simp only [kJ] at h
  split at h
  ·split at h
   ·cases hq:kJ base ps with
    |none=>rw [hq] at h;simp at h
    |some q=>
     rw [hq] at h
     simp only [Option.map_some,Option.some.injEq,Prod.mk.injEq] at h
     obtain ⟨rfl,_⟩:=h
     intro b hb
     rcases List.mem_cons.1 hb with rfl|hb
     ·exact bB1 _ _
     ·exact aRh base ps q.1 q.2 (by rw [hq]) b hb
   ·cases h
  ·simp only [Option.some.injEq,Prod.mk.injEq] at h;obtain ⟨rfl,_⟩:=h;simp
theorem bB6 (s b:Str):∀a∈(bK s b).1,aI a≤16:=by
 unfold bK
 split
 ·simp
 ·rename_i l r h
  split
  ·exact aRh b _ l r h
  ·simp
theorem bAf (q:aC) (a:aD):∀b∈gI q a,aI b≤16:=by
 unfold gI
 split
 ·split
  ·exact bB6 _ _
  ·simp
 ·simp
theorem aKg {q:aC} {a:aD} {m:dR} (hf:q.mods.find? (gJ a)=some m):gI q a=if m.done=true∧m.code=1 then (bK m.body a.host).1 else []:=by unfold gI;rw [hf]
theorem aUt {q:aC} {a:aD} {m:dR} (hf:q.mods.find? (gJ a)=some m) (hb:m.body.length≤400):(gI q a).length≤57∧∀b∈gI q a,aI b≤16:=by
 refine ⟨?_,bAf q a⟩
 rw [aKg hf]
 split
 ·obtain ⟨h1,_,h3⟩:=uJ m.body a.host
  omega
 ·simp
theorem aVc {q:aC} {l:List aD} (h0:aJ q≤67109376) (h1:l.length≤57) (h2:∀b∈l,aI b≤16) (i:Nat):aJ (lK q (l.take i))≤67110400:=by
 have h:=aLp 16 (l.take i) q (fun x hx=>h2 x (List.mem_of_mem_take hx))
 have h3:(l.take i).length≤57:=by rw [List.length_take];omega
 have h4:=Nat.mul_le_mul_right (16+1) h3
 omega
theorem aJj:∀{a b c:List UInt8},Op.bytesLess a b=true→Op.bytesLess b c=true→Op.bytesLess a c=true
 |_,[],_,h,_=>by simp [Op.bytesLess] at h
 |_,_::_,[],_,h=>by simp [Op.bytesLess] at h
 |[],_::_,_::_,_,_=>by simp [Op.bytesLess]
 |x::a,y::b,z::c,h1,h2=>by
  simp only [Op.bytesLess,Bool.or_eq_true,Bool.and_eq_true,decide_eq_true_eq,beq_iff_eq] at h1 h2⊢
  rcases h1 with h1|⟨rfl,h1⟩
  ·rcases h2 with h2|⟨rfl,h2⟩
   ·exact .inl (UInt8.lt_trans h1 h2)
   ·exact .inl h1
  ·rcases h2 with h2|⟨rfl,h2⟩
   ·exact .inl h2
   ·exact .inr ⟨rfl,aJj h1 h2⟩
theorem aQt:∀{a b:List UInt8},a≠b→Op.bytesLess a b=false→Op.bytesLess b a=true
 |[],[],h,_=>(h rfl).elim
 |[],_::_,_,h=>by simp [Op.bytesLess] at h
 |_::_,[],_,_=>by simp [Op.bytesLess]
 |x::a,y::b,hne,h=>by
  simp only [Op.bytesLess,Bool.or_eq_false_iff,Bool.and_eq_false_iff,decide_eq_false_iff_not,beq_eq_false_iff_ne,Bool.or_eq_true,Bool.and_eq_true,decide_eq_true_eq,beq_iff_eq] at h⊢
  by_cases e:x=y
  ·subst e
   exact .inr ⟨rfl,aQt (fun h=>hne (by rw [h])) (h.2.resolve_left fun h=>h rfl)⟩
  ·exact .inl (by rcases UInt8.lt_or_lt_of_ne e with h1|h1;exact (h.1 h1).elim;exact h1)
def rC (a b:aD):Bool:=Op.bytesLess a.host b.host || (a.host == b.host&&Op.bytesLess a.path b.path)
theorem aG1 (a:aD):rC a a=false:=by simp [rC,vN]
theorem bC6 (a b:aD):cmpAddr a b= -1↔rC a b=true:=by
 rw [aDb]
 by_cases e:a=b
 ·subst e;simp [aG1]
 ·rw [if_neg e]
  change (if rC a b=true then (-1:Int) else 1)= -1↔_
  split<;>simp_all
theorem aWv (a b:aD):cmpAddr a b < 0↔rC a b=true:=by
 rw [←bC6]
 have:=aDb a b
 split at this
 ·omega
 ·split at this<;>omega
theorem aDf {a b c:aD} (h1:rC a b=true) (h2:rC b c=true):rC a c=true:=by
 simp only [rC,Bool.or_eq_true,Bool.and_eq_true,beq_iff_eq] at h1 h2⊢
 rcases h1 with h1|⟨e1,h1⟩
 ·rcases h2 with h2|⟨e2,h2⟩
  ·exact .inl (aJj h1 h2)
  ·exact .inl (e2▸h1)
 ·rcases h2 with h2|⟨e2,h2⟩
  ·exact .inl (e1▸h2)
  ·exact .inr ⟨e1.trans e2,aJj h1 h2⟩
theorem aOb {a b:aD} (hne:a≠b) (h:rC a b=false):rC b a=true:=by
 simp only [rC,Bool.or_eq_false_iff,Bool.and_eq_false_iff,Bool.or_eq_true,Bool.and_eq_true,beq_iff_eq,beq_eq_false_iff_ne] at h⊢
 by_cases e:a.host=b.host
 ·refine .inr ⟨e.symm,aQt (fun h2=>hne ?_) (h.2.resolve_left fun h=>h e)⟩
  obtain ⟨x,y⟩:=a;obtain ⟨z,w⟩:=b;simp_all
 ·exact .inl (aQt e h.1)
def bHu (l:List dR):Prop:=l.Pairwise fun a b=>rC a.to b.to=true
theorem ask_cases (p:aC) (a:aD):(eU p a=p∧∃m,p.mods[qM p.mods a]? =some m∧m.to=a)∨(eU p a={p with mods:=rH p a (qM p.mods a)}∧∀m,p.mods[qM p.mods a]? =some m→m.to≠a):=by
 unfold eU
 split
 ·rename_i m hm
  split
  ·rename_i e;exact .inl ⟨rfl,m,hm,e⟩
  ·rename_i e
   refine .inr ⟨rfl,fun x hx=> ?_⟩
   rw [hm] at hx
   exact Option.some.inj hx▸e
 ·rename_i hm
  refine .inr ⟨rfl,fun x hx=> ?_⟩
  rw [hm] at hx;cases hx
def bG4 (p:aC) (a:aD):Prop:=∃m∈p.mods,m.to=a
def bEy (p:aC):Prop:=∀m∈p.mods,m.done=true→m.code=1→∀b∈(bK m.body m.to.host).1,bG4 p b
theorem aV2 (p:aC) (a:aD):(eU p a).policy=p.policy∧(eU p a).addr=p.addr∧(eU p a).slots=p.slots:=by
 rcases ask_cases p a with ⟨e,_⟩|⟨e,_⟩<;>rw [e]<;>exact ⟨rfl,rfl,rfl⟩
structure bJ6 (p : aC) : Prop where
  up : bHu p.mods
  cl : bEy p
end Go.Proofs.YtaddkhdghlaalaaGreatDoor
