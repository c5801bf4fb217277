/-
  Proved here: steps towards the statement of this claim, text Z5.
  No condition beyond what each statement spells out.
-/
import Derived.Test.YtgkllebnnakojaaGreatDoorQP9
import Derived.Test.YtgkllebnnakojaaGreatDoorQN1
import Derived.Test.YtgkllebnnakojaaGreatDoorF8
set_option linter.all false
set_option maxRecDepth 4000
set_option maxHeartbeats 4000000
namespace Go.Proofs.YtgkllebnnakojaaGreatDoor
open Go.Aw
theorem lC {α:Type} {f:α→List AV} {i j:Nat} (h:∀x,jO i j (f x)=f x):∀l:List α,gW i j (l.map f)=l.map f
 |[]=>rfl
 |x::l=>by simp only [List.map_cons,gW,h,lC h l]
@[simp] theorem aYj (i j:Nat) (l:List Str):gW i j (l.map bZ)=l.map bZ:=lC (fun _=>rfl) l
@[simp] theorem aYm (i j:Nat) (l:List Int):gW i j (l.map kM)=l.map kM:=lC (fun _=>rfl) l
@[simp] theorem aYf (i j:Nat) (l:List aC):gW i j (l.map aD)=l.map aD:=lC (fun _=>rfl) l
@[simp] theorem aXu (i j:Nat) (l:List uJ):gW i j (l.map qM)=l.map qM:=lC (fun _=>rfl) l
@[simp] theorem aX6 (i j:Nat) (l:List yV):gW i j (l.map uE)=l.map uE:=lC (fun _=>rfl) l
@[simp] theorem aWs (i j:Nat) (l:List bQ):gW i j (l.map dQ)=l.map dQ:=lC (fun _=>rfl) l
@[simp] theorem aWc (i j:Nat) (l:List kG):gW i j (l.map (dR .view))=l.map (dR .view):=lC (fun _=>by simp) l
@[simp] theorem aXc (i j:Nat) (l:List mJ):gW i j (l.map (eB .view))=l.map (eB .view):=lC (fun _=>by simp) l
@[simp] theorem aYw (u:List Nat) (b:Bool) (l:List kG):rtr (dU u) b (l.map (dR .view))=l.map (dR .view):=by
 induction l with
 |nil=>rfl
 |cons x l ih=>rw [List.map_cons,rtr,ih];simp [rtc,rt,dR,dU]
@[simp] theorem aYk (u:List Nat) (b:Bool) (l:List mJ):rtr (dU u) b (l.map (eB .view))=l.map (eB .view):=by
 induction l with
 |nil=>rfl
 |cons x l ih=>rw [List.map_cons,rtr,ih];simp [rtc,rt,eB,dU]
theorem aOu {t t':List AV} {o o':List aA} {v:Nat} {l1 l3 m1 m3:List (List AV)} {o4 o5 o6 o7 o8 o9:aA}
  (ho:o=[⟨true,true,1,2,[[.obj 10 1]]⟩,⟨false,false,2,v,l1⟩,⟨true,true,1,2,[[.obj 11 1]]⟩,⟨false,false,2,1,l3⟩,o4,o5,o6,o7,o8,o9,⟨true,false,2,1,m1⟩,⟨true,false,2,1,m3⟩])
  (ho':o'=[⟨true,true,1,2,[[.obj 1 1]]⟩,⟨true,false,2,1,m1⟩,⟨true,true,1,2,[[.obj 3 1]]⟩,⟨true,false,2,1,m3⟩,o4,o5,o6,o7,o8])
  (hf:(o4.rsw 1 10=o4∧o5.rsw 1 10=o5∧o6.rsw 1 10=o6∧o7.rsw 1 10=o7∧o8.rsw 1 10=o8∧o9.rsw 1 10=o9)∧(o4.rsw 3 11=o4∧o5.rsw 3 11=o5∧o6.rsw 3 11=o6∧o7.rsw 3 11=o7∧o8.rsw 3 11=o8∧o9.rsw 3 11=o9))
  (hw:wk t t') (h1:wk (jO 1 10 t') t') (h3:wk (jO 3 11 t') t') (hc:gL 9 t'=true) (hc0:jK 9 [o4,o5,o6,o7,o8]=true):dV ⟨t,o⟩ ⟨t',o'⟩:=by
 subst ho;subst ho'
 obtain ⟨⟨a4,a5,a6,a7,a8,a9⟩,b4,b5,b6,b7,b8,b9⟩:=hf
 refine (vJ hw).trans ?_
 refine (iC 1 10 rfl rfl ⟨rfl,rfl⟩ (by simp [a4,a5,a6,a7,a8,a9];rfl) h1).trans ?_
 refine (iC 3 11 rfl rfl ⟨rfl,rfl⟩ (by simp [b4,b5,b6,b7,b8,b9];rfl) h3).trans ?_
 refine aO 9 (by simp) (jR _) hc ?_
 simpa [jK,gL,closed] using hc0
theorem qE {p:aJ} {U:List aC} (hU:∀x∈gP p,x∈U) (n:Nat):∀(l:List aC) (s:List aC×List aC),(∀b∈l,b∈U)→Seen U s→Seen U (bN p n l s)∧(∀x∈s.1,x∈(bN p n l s).1)
 |[],s,_,h=>⟨h,fun _ h=>h⟩
 |b::l,s,hl,h=>by
  obtain ⟨h1,h2⟩:=uK hU n b s (hl b (by simp)) h
  obtain ⟨h3,h4⟩:=qE hU n l _ (fun x hx=>hl x (by simp [hx])) h1
  exact ⟨h3,fun x hx=>h4 x (h2 x hx)⟩
theorem uX [aB Tryz.prog] [cO Tryz.prog] (p:aJ) (a:aC) (hl:p.mods.length≤1099511627776):Ok Tryz.prog 32 [.agg (aL .view p),.agg (aD a)] (.int .i64 (dZ (dJ a) p.mods)):=by
 have c1:=aMc p.mods a hl
 simp only [aD] at c1
 refine ent Tryz.mix Tryz.func32 Tryz.ntmps32 ?_
 have W:=trivial
 repeat' first|refine st ?_|(refine nx ?_;first|refine se ?_|refine so ?_)|(refine cx ?_;refine sc (fun hc=>?_) (fun hc=>?_)<;>try exact hc.elim)|(refine lx ?_;refine sp (fun hc=>?_) (fun hc=>?_)<;>try exact hc.elim)|refine sx ?_ ?_|refine sy ?_ ?_|fail
 all_goals (try (refine ⟨.inr rfl,?_⟩;simp [Hands,Tryz.results32]))
structure Bnd (p : aJ) (U : List aC) : Prop where
  hs : szL bJ p.mods ≤ 268435456
  im : ∀ x ∈ gP p, x ∈ U
  len : U.length ≤ 1073741824
  host : ∀ x ∈ U, x.host.length ≤ 1073741824
  ps : ∀ m ∈ p.mods, (aN m.body m.to.host).1.length ≤ 1073741824
theorem Seen.len {U:List aC} {s:List aC×List aC} (h:Seen U s):s.1.length≤U.length∧s.2.length≤U.length:=
 ⟨(wN (fun _=>0) s.1 U h.nd h.sub).2,(wN (fun _=>0) s.2 U h.ond (fun x hx=>h.sub x (h.osub x hx))).2⟩
theorem aF2 [aB Tryz.prog] [cO Tryz.prog] (p:aJ) (U:List aC) (hb:Bnd p U) (a:aC) (s1 s2:List aC) (hn:s1.any (bG a)=true) (h1:s1.length≤1073741824):
  OkG Tryz.prog 21 [.view (.agg (aL .view p)),.view (.agg (aD a)),.lend [.sl .own 2 (s1.map aD)] [.sl .own 2 (s1.map aD)],.lend [.sl .own 2 (s2.map aD)] [.sl .own 2 (s2.map aD)]] (.tup []):=by
 have c1:=qH s1 a (by omega)
 simp only [aD] at c1
 rw [hn] at c1
 refine xG Tryz.mix Tryz.func21 Tryz.ntmps21 ?_
 have W:=trivial
 repeat' first|refine st ?_|(refine nx ?_;first|refine se ?_|refine so ?_)|(refine cx ?_;refine sc (fun hc=>?_) (fun hc=>?_)<;>try exact hc.elim)|(refine lx ?_;refine sp (fun hc=>?_) (fun hc=>?_)<;>try exact hc.elim)|refine sx ?_ ?_|refine sy ?_ ?_|fail
 all_goals (try (refine ⟨by first|exact .inr rfl|exact .inl rfl,?_⟩;simp [mP,iF,gN,rowOf,Tryz.results21]))
theorem aIf [aB Tryz.prog] [cO Tryz.prog] (p:aJ) (U:List aC) (hb:Bnd p U) (n:Nat) (a:aC) (ha:a∈U) (s1 s2:List aC) (hn:s1.any (bG a)=false) (hs:Seen U (s1,s2)) (hf:unseen p s1 < n+1)
  (ih:∀(b:aC) (q1 q2:List aC),unseen p q1 < n→Seen U (q1,q2)→b∈U→OkG Tryz.prog 21 [.view (.agg (aL .view p)),.view (.agg (aD b)),.lend [.sl .own 2 (q1.map aD)] [.sl .own 2 ((bI p n b q1 q2).1.map aD)],.lend [.sl .own 2 (q2.map aD)] [.sl .own 2 ((bI p n b q1 q2).2.map aD)]] (.tup [])):
  OkG Tryz.prog 21 [.view (.agg (aL .view p)),.view (.agg (aD a)),.lend [.sl .own 2 (s1.map aD)] [.sl .own 2 ((bI p (n+1) a s1 s2).1.map aD)],.lend [.sl .own 2 (s2.map aD)] [.sl .own 2 ((bI p (n+1) a s1 s2).2.map aD)]] (.tup []):=by
 have hps:=hb.hs
 have hl:=hs.len
 have hU:=hb.len
 simp only [bL,szL] at hps
 simp only at hl
 have c1:=qH s1 a (by omega)
 have c2:=uX p a (by omega)
 rw [hn] at c1
 have hna:a∉s1:=fun h=>by rw [iX.2 h] at hn;cases hn
 obtain ⟨t1,ht1⟩:∃l:List aC,l=s1++[a]:=⟨_,rfl⟩
 have e1:s1.map aD++[[.str a.host,.str a.path]]=t1.map aD:=by simp [ht1]
 have hl1:(s1.map aD).length=s1.length:=by simp
 have hv:bI p (n+1) a s1 s2=((bN p n (bR p a) (s1++[a],s2)).1,(bN p n (bR p a) (s1++[a],s2)).2++[a]):=by
  simp only [bI,hn,bN];rfl
 rw [hv]
 clear hv
 rw [←ht1]
 rcases gZ (dJ a) p.mods with ⟨hi,hf⟩|⟨k,hk,hi,hf⟩
 ·have hL:bR p a=[]:=by unfold bR;rw [hf]
  have hl2:(s2.map aD).length=s2.length:=by simp
  rw [hL]
  rw [hi] at c2
  simp only [aD,aL] at c1 c2
  obtain ⟨t2,ht2⟩:∃l:List aC,l=s2++[a]:=⟨_,rfl⟩
  have e2:s2.map aD++[[.str a.host,.str a.path]]=t2.map aD:=by simp [ht2]
  simp only [bN,List.foldl_nil]
  rw [←ht2]
  clear ht2 ht1
  refine xG Tryz.mix Tryz.func21 Tryz.ntmps21 ?_
  have W:=And.intro e1 (And.intro e2 (And.intro hl1 hl2))
  repeat' first|refine st ?_|(refine nx ?_;first|refine se ?_|refine so ?_)|(refine cx ?_;refine sc (fun hc=>?_) (fun hc=>?_)<;>try exact hc.elim)|(refine lx ?_;refine sp (fun hc=>?_) (fun hc=>?_)<;>try exact hc.elim)|refine sx ?_ ?_|refine sy ?_ ?_|fail
  all_goals (try (refine ⟨by first|exact .inr rfl|exact .inl rfl,?_⟩;simp [mP,iF,gN,rowOf,Tryz.results21,bN]))
 ·have hm:=List.getElem_mem hk
  have hz:=gI bJ hm
  have hpm:=hb.ps _ hm
  have hta:(p.mods[k]).to=a:=by
   have:=List.find?_some hf
   simpa [dJ] using this
  have hha:=hb.host _ ha
  rw [hi] at c2
  have hg:=List.getElem?_eq_getElem hk
  have hL:bR p a=if p.mods[k].done=true∧p.mods[k].code=1 then (aN p.mods[k].body a.host).1 else []:=by unfold bR;rw [hf]
  simp only [bJ,aK] at hz
  have cp:=nI p.mods[k].body a.host (by omega) hha
  rw [hta] at hpm
  simp only [aD,aL] at c1 c2
  by_cases hd:p.mods[k].done=true∧p.mods[k].code=1
  ·rw [if_pos hd] at hL
   rw [←hL] at cp hpm
   obtain ⟨hd1,hd2⟩:=hd
   refine xG Tryz.mix Tryz.func21 Tryz.ntmps21 ?_
   have W:=And.intro e1 (And.intro hl1 (And.intro hg (And.intro hk (And.intro hd1 hd2))))
   repeat' first|refine st ?_|(refine nx ?_;first|refine se ?_|refine so ?_)|(refine cx ?_;refine sc (fun hc=>?_) (fun hc=>?_)<;>try exact hc.elim)|(refine lx ?_;refine sp (fun hc=>?_) (fun hc=>?_)<;>try exact hc.elim)|refine sx ?_ ?_|refine sy ?_ ?_|fail
   have hst:Seen U (t1,s2):=by
    subst ht1
    exact ⟨List.nodup_append.2 ⟨hs.nd,by simp,fun x hx y hy e=>hna (by simp at hy;subst hy;subst e;exact hx)⟩,fun x hx=>by
     rcases List.mem_append.1 hx with h|h
     ·exact hs.sub x h
     ·simp at h;subst h;exact ha,hs.ond,fun x hx=>List.mem_append_left _ (hs.osub x hx)⟩
   have hun:unseen p t1 < n:=by
    have:=aAz (p:=p) (s:=s1) (a:=a) (by rw [hn];simp) ⟨_,hm,hta⟩
    rw [←ht1] at this
    omega
   have hLU:∀b∈bR p a,b∈U:=fun b h=>hb.im b (zJ p a b h)
   clear hL ht1
   generalize bR p a=L at *
   refine aT (ι:={k:Nat×Nat // k.1≤L.length∧1≤k.2}) (fun t o i=>⟨bB t [(64,.int .i64 i.1.1),(13,.undef),(16,.undef),(22,.undef),(25,.undef)],[⟨true,true,1,2,[[.obj 1 i.1.2]]⟩,⟨true,false,2,i.1.2,(bN p n (L.take i.1.1) (t1,s2)).1.map aD⟩,⟨true,true,1,2,[[.obj 3 1]]⟩,⟨true,false,2,1,(bN p n (L.take i.1.1) (t1,s2)).2.map aD⟩]++o.drop 4⟩)
    (fun i=>L.length - i.1.1) ⟨(0,2),by simp,by simp⟩ (aI (by simp [bN]) (by simp)) ?_
   rintro ⟨⟨k,v⟩,hk,hv⟩ K1 hK1
   simp only [bB,List.set_cons_succ,List.set_cons_zero,List.drop_succ_cons,List.drop_zero,List.cons_append,List.nil_append] at hk hv hK1⊢
   have hk1:IntKind.i64.wrap ((k:Int)+1)=((k+1:Nat):Int):=by rw [wrap64]<;>omega
   by_cases hlt:k < L.length
   ·have hg2:=List.getElem?_eq_getElem hlt
    obtain ⟨f1,f2⟩:=qE hb.im n (L.take k) (t1,s2) (fun b h=>hLU b (List.mem_of_mem_take h)) hst
    have f3:=xD (p:=p) f2
    have c3:=ih L[k] (bN p n (L.take k) (t1,s2)).1 (bN p n (L.take k) (t1,s2)).2 (by simp only at f3;omega) f1 (hLU _ (List.getElem_mem hlt))
    have hnext:bN p n (L.take (k+1)) (t1,s2)=bI p n L[k] (bN p n (L.take k) (t1,s2)).1 (bN p n (L.take k) (t1,s2)).2:=by
     rw [List.take_succ_eq_append_getElem hlt,xQ]
    generalize bN p n (L.take k) (t1,s2)=q at *
    obtain ⟨q1,q2⟩:=q
    simp only at c3 hnext⊢
    generalize bI p n L[k] q1 q2=w at *
    obtain ⟨w1,w2⟩:=w
    simp only [aD,aL] at c3
    have W:=And.intro hk1 (And.intro hg2 hlt)
    repeat' first|refine st ?_|(refine nx ?_;first|refine se ?_|refine so ?_|refine sg (hc:=c3) (h:=?_))|(refine cx ?_;refine sc (fun hc=>?_) (fun hc=>?_)<;>try exact hc.elim)|(refine lx ?_;refine sp (fun hc=>?_) (fun hc=>?_)<;>try exact hc.elim)|refine sx ?_ ?_|refine sy ?_ ?_|fail
    refine hK1 _ ⟨(k+1,1),by simp only;omega,by simp⟩ ?_ (by simp only;omega)
    simp only [hnext]
    exact aOu rfl rfl (by simp) (by simp) (by simp) (by simp) (by simp) (by simp [jK,gL,closed])
   ·have htk:L.take k=L:=List.take_of_length_le (by omega)
    rw [htk]
    have f1:=(qE hb.im n L (t1,s2) hLU hst).1.len
    generalize bN p n L (t1,s2)=q at *
    obtain ⟨q1,q2⟩:=q
    simp only at f1
    have hl2:(q2.map aD).length=q2.length:=by simp
    obtain ⟨t2,ht2⟩:∃l:List aC,l=q2++[a]:=⟨_,rfl⟩
    have e2:q2.map aD++[[.str a.host,.str a.path]]=t2.map aD:=by simp [ht2]
    simp only
    rw [←ht2]
    clear ht2
    have W:=And.intro hk1 (And.intro e2 hl2)
    repeat' first|refine st ?_|(refine nx ?_;first|refine se ?_|refine so ?_)|(refine cx ?_;refine sc (fun hc=>?_) (fun hc=>?_)<;>try exact hc.elim)|(refine lx ?_;refine sp (fun hc=>?_) (fun hc=>?_)<;>try exact hc.elim)|refine sx ?_ ?_|refine sy ?_ ?_|fail
    all_goals (try (refine ⟨by first|exact .inr rfl|exact .inl rfl,?_⟩;simp [mP,iF,gN,rowOf,Tryz.results21]))
  ·rw [if_neg hd] at hL
   have hl2:(s2.map aD).length=s2.length:=by simp
   rw [hL]
   obtain ⟨t2,ht2⟩:∃l:List aC,l=s2++[a]:=⟨_,rfl⟩
   have e2:s2.map aD++[[.str a.host,.str a.path]]=t2.map aD:=by simp [ht2]
   simp only [bN,List.foldl_nil]
   rw [←ht2]
   clear ht2 ht1
   cases hd1:p.mods[k].done
   ·refine xG Tryz.mix Tryz.func21 Tryz.ntmps21 ?_
    have W:=And.intro e1 (And.intro e2 (And.intro hl1 (And.intro hl2 (And.intro hg (And.intro hk hd1)))))
    repeat' first|refine st ?_|(refine nx ?_;first|refine se ?_|refine so ?_)|(refine cx ?_;refine sc (fun hc=>?_) (fun hc=>?_)<;>try exact hc.elim)|(refine lx ?_;refine sp (fun hc=>?_) (fun hc=>?_)<;>try exact hc.elim)|refine sx ?_ ?_|refine sy ?_ ?_|fail
    all_goals (try (refine ⟨by first|exact .inr rfl|exact .inl rfl,?_⟩;simp [mP,iF,gN,rowOf,Tryz.results21]))
   ·have hd2:¬p.mods[k].code=1:=fun h=>hd ⟨hd1,h⟩
    refine xG Tryz.mix Tryz.func21 Tryz.ntmps21 ?_
    have W:=And.intro e1 (And.intro e2 (And.intro hl1 (And.intro hl2 (And.intro hg (And.intro hk (And.intro hd1 hd2))))))
    repeat' first|refine st ?_|(refine nx ?_;first|refine se ?_|refine so ?_)|(refine cx ?_;refine sc (fun hc=>?_) (fun hc=>?_)<;>try exact hc.elim)|(refine lx ?_;refine sp (fun hc=>?_) (fun hc=>?_)<;>try exact hc.elim)|refine sx ?_ ?_|refine sy ?_ ?_|fail
    all_goals (try (refine ⟨by first|exact .inr rfl|exact .inl rfl,?_⟩;simp [mP,iF,gN,rowOf,Tryz.results21]))
theorem aBd [aB Tryz.prog] [cO Tryz.prog] (p:aJ) (U:List aC) (hb:Bnd p U):∀(n:Nat) (a:aC) (s1 s2:List aC),unseen p s1 < n→Seen U (s1,s2)→a∈U→OkG Tryz.prog 21 [.view (.agg (aL .view p)),.view (.agg (aD a)),.lend [.sl .own 2 (s1.map aD)] [.sl .own 2 ((bI p n a s1 s2).1.map aD)],.lend [.sl .own 2 (s2.map aD)] [.sl .own 2 ((bI p n a s1 s2).2.map aD)]] (.tup [])
 |0,_,_,_,h,_,_=>absurd h (by omega)
 |n+1,a,s1,s2,h,hs,ha=>by
  have hl:=hs.len
  have hU:=hb.len
  simp only at hl
  cases hn:s1.any (bG a)
  ·exact aIf p U hb n a ha s1 s2 hn hs h (fun b q1 q2 h1 h2 h3=>aBd p U hb n b q1 q2 h1 h2 h3)
  ·have:bI p (n+1) a s1 s2=(s1,s2):=by simp [bI,hn]
   rw [this]
   exact aF2 p U hb a s1 s2 hn (by omega)
def bC (p:aJ) (a:aC):List aC:=(bI p (unseen p []+1) a [] []).2
theorem rA [aB Tryz.prog] [cO Tryz.prog] (p:aJ) (U:List aC) (hb:Bnd p U) (a:aC) (ha:a∈U):Ok Tryz.prog 6 [.agg (aL .view p),.agg (aD a)] (.sl .own 2 ((bC p a).map aD)):=by
 have c1:=aBd p U hb (unseen p []+1) a [] [] (by omega) ⟨by simp,by simp,by simp,by simp⟩ ha
 unfold bC
 generalize bI p (unseen p []+1) a [] []=w at *
 obtain ⟨w1,w2⟩:=w
 simp only [aD,aL,List.map_nil] at c1
 refine ent Tryz.mix Tryz.func6 Tryz.ntmps6 ?_
 have W:=trivial
 repeat' first|refine st ?_|(refine nx ?_;first|refine se ?_|refine so ?_|refine sg (hc:=c1) (h:=?_))|(refine cx ?_;refine sc (fun hc=>?_) (fun hc=>?_)<;>try exact hc.elim)|(refine lx ?_;refine sp (fun hc=>?_) (fun hc=>?_)<;>try exact hc.elim)|refine sx ?_ ?_|refine sy ?_ ?_|fail
 all_goals (try (refine ⟨.inr rfl,?_⟩;simp [Hands,Tryz.results6]))
end Go.Proofs.YtgkllebnnakojaaGreatDoor
