/-
  Proved here: steps towards the statement of this claim, text J9.
  No condition beyond what each statement spells out.
-/
import Derived.Test.YtkidoegojckmiaaGreatDoorAJ8
import Derived.Test.YtkidoegojckmiaaGreatDoorAQN1
import Derived.Test.YtkidoegojckmiaaGreatDoorAF8
set_option linter.all false
set_option maxRecDepth 4000
set_option maxHeartbeats 4000000
namespace Go.Proofs.YtkidoegojckmiaaGreatDoor
open Go.Aw
def fB (p:aZ) (a:bC) (x:aR):Nat→aZ
 |0=>p
 |k+1=>match p.slots[k]? with
  |some s=>if s.to=a then bR (fB p a x k) k x else fB p a x k
  |none=>fB p a x k
def pK (p:aZ) (a:bC) (x:aR):aZ:=fB p a x p.slots.length
theorem aF9 (p:aZ) (k:Int) (x:aR):(bR p k x).slots.length=p.slots.length∧(bR p k x).policy=p.policy∧(bR p k x).addr=p.addr:=by
 unfold bR
 split
 ·split
  ·split
   ·exact ⟨rfl,rfl,rfl⟩
   ·simp
  ·exact ⟨rfl,rfl,rfl⟩
 ·exact ⟨rfl,rfl,rfl⟩
theorem aL7 (p:aZ) (k:Int) (x:aR) (j:Nat) (h:(j:Int)≠k):(bR p k x).slots[j]? =p.slots[j]?:=by
 unfold bR
 split
 ·split
  ·split
   ·rfl
   ·simp only
    rw [List.getElem?_set_ne (by omega)]
  ·rfl
 ·rfl
theorem aPu (p:bH) (r:dU) (x:aR):(gW p r x).length≤400:=by
 unfold gW
 split
 ·rename_i h
  unfold dA at h
  split at h
  ·omega
  ·split at h
   ·omega
   ·rename_i h2
    have h3:eB x=true:=by
     cases h4:eB x with
     |true=>rfl
     |false=>exact absurd (.inl h4) h2
    simp only [eB,Bool.and_eq_true,decide_eq_true_eq] at h3
    exact h3.1.1.2
 ·simp
theorem aKf (p:aZ) (k:Int) (x:aR):bK (bR p k x)≤bK p+400:=by
 unfold bR
 split
 ·split
  ·rename_i s hg
   split
   ·omega
   ·have hb:=aPu p.policy (bM p s) x
    have h1:bD fC (p.slots.set k.toNat (filled p s x))≤bD fC p.slots+400:=by
     have:∀(l:List dR) (i:Nat) (s s':dR),l[i]? =some s→fC s'≤fC s+400→bD fC (l.set i s')≤bD fC l+400:=by
      intro l
      induction l with
      |nil=>intro i s s' h;simp at h
      |cons y l ih=>
       intro i s s' h hs
       cases i with
       |zero=>simp at h;subst h;simp only [List.set_cons_zero,bD];omega
       |succ i=>have:=ih i s s' (by simpa using h) hs;simp only [List.set_cons_succ,bD];omega
     refine this _ _ s _ hg ?_
     simp only [fC,filled];omega
    simp only [bK,szL,List.length_set] at *
    omega
  ·omega
 ·omega
theorem qC (p:aZ) (a:bC) (x:aR):∀k,(fB p a x k).slots.length=p.slots.length∧(∀j,k≤j→(fB p a x k).slots[j]? =p.slots[j]?)∧bK (fB p a x k)≤bK p+k * 400
 |0=>⟨rfl,fun _ _=>rfl,by simp [fB]⟩
 |k+1=>by
  obtain ⟨h1,h2,h3⟩:=qC p a x k
  simp only [fB]
  split
  ·split
   ·refine ⟨by rw [(aF9 _ _ _).1];exact h1,fun j hj=>by rw [aL7 _ _ _ _ (by omega)];exact h2 j (by omega),?_⟩
    have:=aKf (fB p a x k) k x
    omega
   ·exact ⟨h1,fun j hj=>h2 j (by omega),by omega⟩
  ·exact ⟨h1,fun j hj=>h2 j (by omega),by omega⟩
theorem aLm {p:aZ} {a:bC} {x:aR} {k:Nat} (h:k < p.slots.length):fB p a x (k+1)=if p.slots[k].to=a then bR (fB p a x k) k x else fB p a x k:=by
 simp only [fB]
 rw [List.getElem?_eq_getElem h]
def mV (q:aZ):List aA:=[⟨true,false,1,1,q.policy.scripts.map aK⟩,⟨true,false,1,1,q.policy.styles.map aK⟩,⟨true,false,1,1,q.policy.images.map aK⟩,⟨true,false,4,1,q.queue.map (bP .own)⟩,⟨true,false,4,1,q.builder.nodes.map (dE .own)⟩,⟨true,false,1,1,q.builder.opens.map jT⟩,⟨true,false,8,1,q.slots.map jG⟩,⟨true,false,5,1,q.mods.map jB⟩,⟨true,false,2,1,q.entries.map bF⟩,⟨true,false,2,1,q.ran.map bF⟩,⟨true,false,1,1,q.log.map aK⟩]
def mJ (b:Nat) (q:aZ):List AV:=[.str q.addr.host,.str q.addr.path,.bool q.policy.isSet,.obj b 1,.obj (b+1) 1,.obj (b+2) 1,.str q.policy.nonce,.str q.tok.rest,.obj (b+3) 1,.bool q.ended,.obj (b+4) 1,.obj (b+5) 1,.obj (b+6) 1,.obj (b+7) 1,.obj (b+8) 1,.int .i64 q.block,.int .i64 q.inline,.int .i64 q.deferred,.int .i64 q.entered,.obj (b+9) 1,.obj (b+10) 1,.bool q.loaded]
def sJ:List (Nat×Nat):=[(4,16),(5,17),(6,18),(7,19),(8,20),(9,21),(10,22),(11,23),(12,24),(13,25),(14,26)]
theorem aM1 {t t':List AV} {o0 o1 o2 o3:aA} (q0 q:aZ) (ht:∀z∈sJ,wk (oO z.1 z.2 t') t') (hf:∀z∈sJ,o0.rsw z.1 z.2=o0∧o1.rsw z.1 z.2=o1∧o2.rsw z.1 z.2=o2∧o3.rsw z.1 z.2=o3) (hw:wk t t') (hc:jE 16 t'=true) (hc0:nW 16 [o0,o1,o2,o3]=true):
  eT ⟨t,[o0,o1,o2,o3]++mV q0++[⟨true,true,22,0,[mJ 16 q]⟩]++mV q⟩ ⟨t',[o0,o1,o2,o3]++mV q++[⟨true,true,22,0,[mJ 4 q]⟩]⟩:=by
 have e:=fun i j (h:(i,j)∈sJ)=>hf (i,j) h
 have h:=fun i j (h:(i,j)∈sJ)=>ht (i,j) h
 simp only [mV,mJ,List.cons_append,List.nil_append]
 refine (aEp hw).trans ?_
 refine (jU 4 16 rfl rfl ⟨rfl,rfl⟩ (by simp [(e 4 16 (by decide))];rfl) (h 4 16 (by decide))).trans ?_
 refine (jU 5 17 rfl rfl ⟨rfl,rfl⟩ (by simp [(e 5 17 (by decide))];rfl) (h 5 17 (by decide))).trans ?_
 refine (jU 6 18 rfl rfl ⟨rfl,rfl⟩ (by simp [(e 6 18 (by decide))];rfl) (h 6 18 (by decide))).trans ?_
 refine (jU 7 19 rfl rfl ⟨rfl,rfl⟩ (by simp [(e 7 19 (by decide))];rfl) (h 7 19 (by decide))).trans ?_
 refine (jU 8 20 rfl rfl ⟨rfl,rfl⟩ (by simp [(e 8 20 (by decide))];rfl) (h 8 20 (by decide))).trans ?_
 refine (jU 9 21 rfl rfl ⟨rfl,rfl⟩ (by simp [(e 9 21 (by decide))];rfl) (h 9 21 (by decide))).trans ?_
 refine (jU 10 22 rfl rfl ⟨rfl,rfl⟩ (by simp [(e 10 22 (by decide))];rfl) (h 10 22 (by decide))).trans ?_
 refine (jU 11 23 rfl rfl ⟨rfl,rfl⟩ (by simp [(e 11 23 (by decide))];rfl) (h 11 23 (by decide))).trans ?_
 refine (jU 12 24 rfl rfl ⟨rfl,rfl⟩ (by simp [(e 12 24 (by decide))];rfl) (h 12 24 (by decide))).trans ?_
 refine (jU 13 25 rfl rfl ⟨rfl,rfl⟩ (by simp [(e 13 25 (by decide))];rfl) (h 13 25 (by decide))).trans ?_
 refine (jU 14 26 rfl rfl ⟨rfl,rfl⟩ (by simp [(e 14 26 (by decide))];rfl) (h 14 26 (by decide))).trans ?_
 refine aG 16 (by simp) (mK _) hc ?_
 simpa [nW,jE,closed] using hc0
theorem mG {α:Type} {f:α→List AV} {i j:Nat} (h:∀x,oO i j (f x)=f x):∀l:List α,kJ i j (l.map f)=l.map f
 |[]=>rfl
 |x::l=>by simp only [List.map_cons,kJ,h,mG h l]
@[simp] theorem aXd (i j:Nat) (l:List Str):kJ i j (l.map aK)=l.map aK:=mG (fun _=>rfl) l
@[simp] theorem aXg (i j:Nat) (l:List Int):kJ i j (l.map jT)=l.map jT:=mG (fun _=>rfl) l
@[simp] theorem aW8 (i j:Nat) (l:List bC):kJ i j (l.map bF)=l.map bF:=mG (fun _=>rfl) l
@[simp] theorem aWz (i j:Nat) (l:List iF):kJ i j (l.map lN)=l.map lN:=mG (fun _=>rfl) l
@[simp] theorem aWu (i j:Nat) (l:List dR):kJ i j (l.map jG)=l.map jG:=mG (fun _=>rfl) l
@[simp] theorem aV8 (i j:Nat) (l:List kP):kJ i j (l.map jB)=l.map jB:=mG (fun _=>rfl) l
@[simp] theorem aWa (i j:Nat) (l:List dM):kJ i j (l.map (bP .view))=l.map (bP .view):=mG (fun _=>by simp) l
@[simp] theorem aWm (i j:Nat) (l:List lJ):kJ i j (l.map (dE .view))=l.map (dE .view):=mG (fun _=>by simp) l
theorem aOu {t t':List AV} {o o':List aA} {o0 o1 o2 o3:aA} {q0 q:aZ} (ho:o=[o0,o1,o2,o3]++mV q0++[⟨true,true,22,0,[mJ 16 q]⟩]++mV q) (ho':o'=[o0,o1,o2,o3]++mV q++[⟨true,true,22,0,[mJ 4 q]⟩])
  (ht:∀z∈sJ,wk (oO z.1 z.2 t') t') (hf:∀z∈sJ,o0.rsw z.1 z.2=o0∧o1.rsw z.1 z.2=o1∧o2.rsw z.1 z.2=o2∧o3.rsw z.1 z.2=o3) (hw:wk t t') (hc:jE 16 t'=true) (hc0:nW 16 [o0,o1,o2,o3]=true):eT ⟨t,o⟩ ⟨t',o'⟩:=by
 subst ho;subst ho';exact aM1 q0 q ht hf hw hc hc0
theorem aFw [aB Tryz.prog] [bV Tryz.prog] [eG Tryz.prog] (p:aZ) (a:bC) (x:aR) (hs:bK p≤1048576) (hx:bE x≤1048576):Ok Tryz.prog 14 [.agg (aU .view p),.agg (bF a),.agg (bA x)] (.agg (aU .own (pK p a x))):=by
 have c1:=aCf p (by omega)
 have hsn:p.slots.length≤1048576:=by simp only [bK,szL] at hs;omega
 simp only [aU] at c1
 unfold pK
 refine ent Tryz.mix Tryz.func14 Tryz.ntmps14 ?_
 have W:=trivial
 repeat' first|refine st ?_|(refine nx ?_;first|refine se ?_|refine so ?_)|(refine cx ?_;refine sc (fun hc=>?_) (fun hc=>?_)<;>try exact hc.elim)|(refine lx ?_;refine sp (fun hc=>?_) (fun hc=>?_)<;>try exact hc.elim)|refine sx ?_ ?_|refine sy ?_ ?_|fail
 refine aJ (ι:={k:Nat // k≤p.slots.length}) (fun t o i=>⟨aL t [(14,.int .i64 i.1),(10,.undef)],o.take 4++mV (fB p a x i.1)++[⟨true,true,22,0,[mJ 4 (fB p a x i.1)]⟩]⟩)
  (fun i=>p.slots.length - i.1) ⟨0,by simp⟩ (aH (by simp [mV,mJ,fB]) (by simp)) ?_
 rintro ⟨k,hk⟩ K1 hK1
 have hf:=qC p a x k
 obtain ⟨f1,f2,f3⟩:=hf
 have c2:=qO (fB p a x k) k x (by omega) hx
 have hnext0:= @aLm p a x k
 have hk1:IntKind.i64.wrap ((k:Int)+1)=((k+1:Nat):Int):=by rw [wrap64]<;>omega
 by_cases hlt:k < p.slots.length
 ·have hg:=List.getElem?_eq_getElem hlt
  have hnext:=hnext0 hlt
  clear hnext0
  by_cases hto:p.slots[k].to=a
  ·rw [if_pos hto] at hnext
   generalize hq':bR (fB p a x k) k x=q' at *
   have hK2:=hK1
   simp only [aL,List.set_cons_succ,List.set_cons_zero,List.take_succ_cons,List.take_zero,List.cons_append,List.nil_append,mV,mJ] at hK1⊢
   clear hq' f2
   generalize hqq:fB p a x k=q at *
   simp only [aU,bA] at c2
   have W:=And.intro hk1 (And.intro hg (And.intro hlt hto))
   have c0:=pM a a
   repeat' first|refine st ?_|(refine nx ?_;first|refine se ?_|refine so ?_)|(refine cx ?_;refine sc (fun hc=>?_) (fun hc=>?_)<;>try exact hc.elim)|(refine lx ?_;refine sp (fun hc=>?_) (fun hc=>?_)<;>try exact hc.elim)|refine sx ?_ ?_|refine sy ?_ ?_|fail
   refine hK2 _ ⟨k+1,by omega⟩ ?_ (by simp only;omega)
   simp only [hnext]
   exact aOu (q0:=q) (q:=q') rfl (by simp [mV,mJ,hnext]) (by simp [sJ]) (by simp [sJ]) (by simp) (by simp) (by simp)
  ·rw [if_neg hto] at hnext
   have hK2:=hK1
   simp only [aL,List.set_cons_succ,List.set_cons_zero,List.take_succ_cons,List.take_zero,List.cons_append,List.nil_append,mV,mJ] at hK1⊢
   clear f2 c2
   generalize hqq:fB p a x k=q at *
   have W:=And.intro hk1 (And.intro hg (And.intro hlt hto))
   have c0:=pM p.slots[k].to a
   repeat' first|refine st ?_|(refine nx ?_;first|refine se ?_|refine so ?_)|(refine cx ?_;refine sc (fun hc=>?_) (fun hc=>?_)<;>try exact hc.elim)|(refine lx ?_;refine sp (fun hc=>?_) (fun hc=>?_)<;>try exact hc.elim)|refine sx ?_ ?_|refine sy ?_ ?_|fail
   all_goals first
    |exact absurd (by assumption) hto
    |exact hK2 _ ⟨k+1,by omega⟩ (by simp only [hnext];exact aH (by simp [mV,mJ,hnext]) (by simp)) (by simp only;omega)
 ·have htk:k=p.slots.length:=by omega
  subst htk
  simp only [aL,List.set_cons_succ,List.set_cons_zero,List.take_succ_cons,List.take_zero,List.cons_append,List.nil_append,mV,mJ] at hK1⊢
  generalize fB p a x p.slots.length=q at *
  clear hnext0 f2 c2 hK1
  have W:=hk1
  repeat' first|refine st ?_|(refine nx ?_;first|refine se ?_|refine so ?_)|(refine cx ?_;refine sc (fun hc=>?_) (fun hc=>?_)<;>try exact hc.elim)|(refine lx ?_;refine sp (fun hc=>?_) (fun hc=>?_)<;>try exact hc.elim)|refine sx ?_ ?_|refine sy ?_ ?_|fail
  all_goals (try (refine ⟨.inr rfl,?_⟩;simp [Hands,Tryz.results14]))
end Go.Proofs.YtkidoegojckmiaaGreatDoor
