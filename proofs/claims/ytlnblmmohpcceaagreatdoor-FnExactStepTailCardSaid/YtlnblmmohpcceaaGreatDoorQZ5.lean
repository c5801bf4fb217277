/-
  Proved here: steps towards the statement of this claim, text QZ5.
  No condition beyond what each statement spells out.
-/
import Derived.Test.YtlnblmmohpcceaaGreatDoorQSL
import Derived.Test.YtlnblmmohpcceaaGreatDoorF8
set_option linter.all false
set_option maxRecDepth 4000
set_option maxHeartbeats 4000000
namespace Go.Proofs.YtlnblmmohpcceaaGreatDoor
open Go.Aw
theorem pI {α:Type} {f:α→List AV} {i j:Nat} (h:∀x,jW i j (f x)=f x):∀l:List α,lD i j (l.map f)=l.map f
 |[]=>rfl
 |x::l=>by simp only [List.map_cons,lD,h,pI h l]
@[simp] theorem bGu (i j:Nat) (l:List Str):lD i j (l.map bU)=l.map bU:=pI (fun _=>rfl) l
@[simp] theorem bGw (i j:Nat) (l:List Int):lD i j (l.map dV)=l.map dV:=pI (fun _=>rfl) l
@[simp] theorem bGn (i j:Nat) (l:List aK):lD i j (l.map aF)=l.map aF:=pI (fun _=>rfl) l
@[simp] theorem bF9 (i j:Nat) (l:List fA):lD i j (l.map dI)=l.map dI:=pI (fun _=>rfl) l
@[simp] theorem bGa (i j:Nat) (l:List gP):lD i j (l.map eX)=l.map eX:=pI (fun _=>rfl) l
@[simp] theorem bE1 (i j:Nat) (l:List cZ):lD i j (l.map bD)=l.map bD:=pI (fun _=>rfl) l
@[simp] theorem bFp (i j:Nat) (l:List aW):lD i j (l.map (aU .view))=l.map (aU .view):=pI (fun _=>by simp) l
@[simp] theorem bF5 (i j:Nat) (l:List dA):lD i j (l.map (bB .view))=l.map (bB .view):=pI (fun _=>by simp) l
@[simp] theorem bHb (u:List Nat) (b:Bool) (l:List aW):rtr (dQ u) b (l.map (aU .view))=l.map (aU .view):=by
 induction l with
 |nil=>rfl
 |cons x l ih=>rw [List.map_cons,rtr,ih];simp [rtc,rt,aU,dQ]
@[simp] theorem bGy (u:List Nat) (b:Bool) (l:List dA):rtr (dQ u) b (l.map (bB .view))=l.map (bB .view):=by
 induction l with
 |nil=>rfl
 |cons x l ih=>rw [List.map_cons,rtr,ih];simp [rtc,rt,bB,dQ]
theorem aWq {t t':List AV} {o o':List aB} {v:Nat} {l1 l3 m1 m3:List (List AV)} {o4 o5 o6 o7 o8 o9:aB}
  (ho:o=[⟨true,true,1,2,[[.obj 10 1]]⟩,⟨false,false,2,v,l1⟩,⟨true,true,1,2,[[.obj 11 1]]⟩,⟨false,false,2,1,l3⟩,o4,o5,o6,o7,o8,o9,⟨true,false,2,1,m1⟩,⟨true,false,2,1,m3⟩])
  (ho':o'=[⟨true,true,1,2,[[.obj 1 1]]⟩,⟨true,false,2,1,m1⟩,⟨true,true,1,2,[[.obj 3 1]]⟩,⟨true,false,2,1,m3⟩,o4,o5,o6,o7,o8])
  (hf:(o4.rsw 1 10=o4∧o5.rsw 1 10=o5∧o6.rsw 1 10=o6∧o7.rsw 1 10=o7∧o8.rsw 1 10=o8∧o9.rsw 1 10=o9)∧(o4.rsw 3 11=o4∧o5.rsw 3 11=o5∧o6.rsw 3 11=o6∧o7.rsw 3 11=o7∧o8.rsw 3 11=o8∧o9.rsw 3 11=o9))
  (hw:wk t t') (h1:wk (jW 1 10 t') t') (h3:wk (jW 3 11 t') t') (hc:fK 9 t'=true) (hc0:dL 9 [o4,o5,o6,o7,o8]=true):gF ⟨t,o⟩ ⟨t',o'⟩:=by
 subst ho;subst ho'
 obtain ⟨⟨a4,a5,a6,a7,a8,a9⟩,b4,b5,b6,b7,b8,b9⟩:=hf
 refine (uN hw).trans ?_
 refine (bR 1 10 rfl rfl ⟨rfl,rfl⟩ (by simp [a4,a5,a6,a7,a8,a9];rfl) h1).trans ?_
 refine (bR 3 11 rfl rfl ⟨rfl,rfl⟩ (by simp [b4,b5,b6,b7,b8,b9];rfl) h3).trans ?_
 refine aQ 9 (by simp) (iT _) hc ?_
 simpa [dL,fK,closed] using hc0
theorem wQ {p:aJ} {U:List aK} (hU:∀x∈mY p,x∈U) (n:Nat):∀(l:List aK) (s:List aK×List aK),(∀b∈l,b∈U)→Seen U s→Seen U (dB p n l s)∧(∀x∈s.1,x∈(dB p n l s).1)
 |[],s,_,h=>⟨h,fun _ h=>h⟩
 |b::l,s,hl,h=>by
  obtain ⟨h1,h2⟩:=zO hU n b s (hl b (by simp)) h
  obtain ⟨h3,h4⟩:=wQ hU n l _ (fun x hx=>hl x (by simp [hx])) h1
  exact ⟨h3,fun x hx=>h4 x (h2 x hx)⟩
theorem wD [aA Tryz.prog] [dG Tryz.prog] (p:aJ) (a:aK) (hl:p.mods.length≤1099511627776):Ok Tryz.prog 168 [.agg (aG .view p),.agg (aF a)] (.int .i64 (rM (kM a) p.mods)):=by
 have c1:=aUl p.mods a hl
 simp only [aF] at c1
 refine ent Tryz.mix Tryz.func168 Tryz.ntmps168 ?_
 have W:=trivial
 repeat' first|refine we ?_|(refine sq (fun hc=>?_) (fun hc=>?_)<;>try exact hc.elim)|fail
 all_goals (try (refine ⟨.inr rfl,?_⟩;simp [Hands,Tryz.results168]))
structure Bnd (p : aJ) (U : List aK) : Prop where
  hs : szL aZ p.mods ≤ 268435456
  im : ∀ x ∈ mY p, x ∈ U
  len : U.length ≤ 1073741824
  host : ∀ x ∈ U, x.host.length ≤ 1073741824
  ps : ∀ m ∈ p.mods, (bA m.body m.to.host).1.length ≤ 1073741824
theorem Seen.len {U:List aK} {s:List aK×List aK} (h:Seen U s):s.1.length≤U.length∧s.2.length≤U.length:=
 ⟨(yP (fun _=>0) s.1 U h.nd h.sub).2,(yP (fun _=>0) s.2 U h.ond (fun x hx=>h.sub x (h.osub x hx))).2⟩
theorem aMl [aA Tryz.prog] [dG Tryz.prog] (p:aJ) (U:List aK) (hb:Bnd p U) (a:aK) (s1 s2:List aK) (hn:s1.any (fP a)=true) (h1:s1.length≤1073741824):
  OkG Tryz.prog 227 [.view (.agg (aG .view p)),.view (.agg (aF a)),.lend [.sl .own 2 (s1.map aF)] [.sl .own 2 (s1.map aF)],.lend [.sl .own 2 (s2.map aF)] [.sl .own 2 (s2.map aF)]] (.tup []):=by
 have c1:=wB s1 a (by omega)
 simp only [aF] at c1
 rw [hn] at c1
 refine iE Tryz.mix Tryz.func227 Tryz.ntmps227 ?_
 have W:=trivial
 repeat' first|refine we ?_|(refine sq (fun hc=>?_) (fun hc=>?_)<;>try exact hc.elim)|fail
 all_goals (try (refine ⟨by first|exact .inr rfl|exact .inl rfl,?_⟩;simp [dK,bQ,bN,rowOf,Tryz.results227]))
theorem aPv [aA Tryz.prog] [dG Tryz.prog] (p:aJ) (U:List aK) (hb:Bnd p U) (n:Nat) (a:aK) (ha:a∈U) (s1 s2:List aK) (hn:s1.any (fP a)=false) (hs:Seen U (s1,s2)) (hf:unseen p s1 < n+1)
  (ih:∀(b:aK) (q1 q2:List aK),unseen p q1 < n→Seen U (q1,q2)→b∈U→OkG Tryz.prog 227 [.view (.agg (aG .view p)),.view (.agg (aF b)),.lend [.sl .own 2 (q1.map aF)] [.sl .own 2 ((dH p n b q1 q2).1.map aF)],.lend [.sl .own 2 (q2.map aF)] [.sl .own 2 ((dH p n b q1 q2).2.map aF)]] (.tup [])):
  OkG Tryz.prog 227 [.view (.agg (aG .view p)),.view (.agg (aF a)),.lend [.sl .own 2 (s1.map aF)] [.sl .own 2 ((dH p (n+1) a s1 s2).1.map aF)],.lend [.sl .own 2 (s2.map aF)] [.sl .own 2 ((dH p (n+1) a s1 s2).2.map aF)]] (.tup []):=by
 have hps:=hb.hs
 have hl:=hs.len
 have hU:=hb.len
 simp only [aD,szL] at hps
 simp only at hl
 have c1:=wB s1 a (by omega)
 have c2:=wD p a (by omega)
 rw [hn] at c1
 have hna:a∉s1:=fun h=>by rw [rF.2 h] at hn;cases hn
 obtain ⟨t1,ht1⟩:∃l:List aK,l=s1++[a]:=⟨_,rfl⟩
 have e1:s1.map aF++[[.str a.host,.str a.path]]=t1.map aF:=by simp [ht1]
 have hl1:(s1.map aF).length=s1.length:=by simp
 have hv:dH p (n+1) a s1 s2=((dB p n (iD p a) (s1++[a],s2)).1,(dB p n (iD p a) (s1++[a],s2)).2++[a]):=by
  simp only [dH,hn,dB];rfl
 rw [hv]
 clear hv
 rw [←ht1]
 rcases uZ (kM a) p.mods with ⟨hi,hf⟩|⟨k,hk,hi,hf⟩
 ·have hL:iD p a=[]:=by unfold iD;rw [hf]
  have hl2:(s2.map aF).length=s2.length:=by simp
  rw [hL]
  rw [hi] at c2
  simp only [aF,aG] at c1 c2
  obtain ⟨t2,ht2⟩:∃l:List aK,l=s2++[a]:=⟨_,rfl⟩
  have e2:s2.map aF++[[.str a.host,.str a.path]]=t2.map aF:=by simp [ht2]
  simp only [dB,List.foldl_nil]
  rw [←ht2]
  clear ht2 ht1
  refine iE Tryz.mix Tryz.func227 Tryz.ntmps227 ?_
  have W:=And.intro e1 (And.intro e2 (And.intro hl1 hl2))
  repeat' first|refine we ?_|(refine sq (fun hc=>?_) (fun hc=>?_)<;>try exact hc.elim)|fail
  all_goals (try (refine ⟨by first|exact .inr rfl|exact .inl rfl,?_⟩;simp [dK,bQ,bN,rowOf,Tryz.results227,dB]))
 ·have hm:=List.getElem_mem hk
  have hz:=bV aZ hm
  have hpm:=hb.ps _ hm
  have hta:(p.mods[k]).to=a:=by
   have:=List.find?_some hf
   simpa [kM] using this
  have hha:=hb.host _ ha
  rw [hi] at c2
  have hg:=List.getElem?_eq_getElem hk
  have hL:iD p a=if p.mods[k].done=true∧p.mods[k].code=1 then (bA p.mods[k].body a.host).1 else []:=by unfold iD;rw [hf]
  simp only [aZ,aR] at hz
  have cp:=sJ p.mods[k].body a.host (by omega) hha
  rw [hta] at hpm
  simp only [aF,aG] at c1 c2
  by_cases hd:p.mods[k].done=true∧p.mods[k].code=1
  ·rw [if_pos hd] at hL
   rw [←hL] at cp hpm
   obtain ⟨hd1,hd2⟩:=hd
   refine iE Tryz.mix Tryz.func227 Tryz.ntmps227 ?_
   have W:=And.intro e1 (And.intro hl1 (And.intro hg (And.intro hk (And.intro hd1 hd2))))
   repeat' first|refine we ?_|(refine sq (fun hc=>?_) (fun hc=>?_)<;>try exact hc.elim)|fail
   have hst:Seen U (t1,s2):=by
    subst ht1
    exact ⟨List.nodup_append.2 ⟨hs.nd,by simp,fun x hx y hy e=>hna (by simp at hy;subst hy;subst e;exact hx)⟩,fun x hx=>by
     rcases List.mem_append.1 hx with h|h
     ·exact hs.sub x h
     ·simp at h;subst h;exact ha,hs.ond,fun x hx=>List.mem_append_left _ (hs.osub x hx)⟩
   have hun:unseen p t1 < n:=by
    have:=aNi (p:=p) (s:=s1) (a:=a) (by rw [hn];simp) ⟨_,hm,hta⟩
    rw [←ht1] at this
    omega
   have hLU:∀b∈iD p a,b∈U:=fun b h=>hb.im b (aD1 p a b h)
   clear hL ht1
   generalize iD p a=L at *
   refine aM (ι:={k:Nat×Nat // k.1≤L.length∧1≤k.2}) (fun t o i=>⟨aO t [(64,.int .i64 i.1.1),(13,.undef),(16,.undef),(22,.undef),(25,.undef)],[⟨true,true,1,2,[[.obj 1 i.1.2]]⟩,⟨true,false,2,i.1.2,(dB p n (L.take i.1.1) (t1,s2)).1.map aF⟩,⟨true,true,1,2,[[.obj 3 1]]⟩,⟨true,false,2,1,(dB p n (L.take i.1.1) (t1,s2)).2.map aF⟩]++o.drop 4⟩)
    (fun i=>L.length - i.1.1) ⟨(0,2),by simp,by simp⟩ (aH (by simp [dB]) (by simp)) ?_
   rintro ⟨⟨k,v⟩,hk,hv⟩ K1 hK1
   simp only [aO,List.set_cons_succ,List.set_cons_zero,List.drop_succ_cons,List.drop_zero,List.cons_append,List.nil_append] at hk hv hK1⊢
   have hk1:IntKind.i64.wrap ((k:Int)+1)=((k+1:Nat):Int):=by rw [wrap64]<;>omega
   by_cases hlt:k < L.length
   ·have hg2:=List.getElem?_eq_getElem hlt
    obtain ⟨f1,f2⟩:=wQ hb.im n (L.take k) (t1,s2) (fun b h=>hLU b (List.mem_of_mem_take h)) hst
    have f3:=aH4 (p:=p) f2
    have c3:=ih L[k] (dB p n (L.take k) (t1,s2)).1 (dB p n (L.take k) (t1,s2)).2 (by simp only at f3;omega) f1 (hLU _ (List.getElem_mem hlt))
    have hnext:dB p n (L.take (k+1)) (t1,s2)=dH p n L[k] (dB p n (L.take k) (t1,s2)).1 (dB p n (L.take k) (t1,s2)).2:=by
     rw [List.take_succ_eq_append_getElem hlt,aCt]
    generalize dB p n (L.take k) (t1,s2)=q at *
    obtain ⟨q1,q2⟩:=q
    simp only at c3 hnext⊢
    generalize dH p n L[k] q1 q2=w at *
    obtain ⟨w1,w2⟩:=w
    simp only [aF,aG] at c3
    have W:=And.intro hk1 (And.intro hg2 hlt)
    repeat' first|refine we ?_|(refine nx ?_;refine sg (hc:=c3) (h:=?_))|(refine sq (fun hc=>?_) (fun hc=>?_)<;>try exact hc.elim)|fail
    refine hK1 _ ⟨(k+1,1),by simp only;omega,by simp⟩ ?_ (by simp only;omega)
    simp only [hnext]
    exact aWq rfl rfl (by simp) (by simp) (by simp) (by simp) (by simp) (by simp [dL,fK,closed])
   ·have htk:L.take k=L:=List.take_of_length_le (by omega)
    rw [htk]
    have f1:=(wQ hb.im n L (t1,s2) hLU hst).1.len
    generalize dB p n L (t1,s2)=q at *
    obtain ⟨q1,q2⟩:=q
    simp only at f1
    have hl2:(q2.map aF).length=q2.length:=by simp
    obtain ⟨t2,ht2⟩:∃l:List aK,l=q2++[a]:=⟨_,rfl⟩
    have e2:q2.map aF++[[.str a.host,.str a.path]]=t2.map aF:=by simp [ht2]
    simp only
    rw [←ht2]
    clear ht2
    have W:=And.intro hk1 (And.intro e2 hl2)
    repeat' first|refine we ?_|(refine sq (fun hc=>?_) (fun hc=>?_)<;>try exact hc.elim)|fail
    all_goals (try (refine ⟨by first|exact .inr rfl|exact .inl rfl,?_⟩;simp [dK,bQ,bN,rowOf,Tryz.results227]))
  ·rw [if_neg hd] at hL
   have hl2:(s2.map aF).length=s2.length:=by simp
   rw [hL]
   obtain ⟨t2,ht2⟩:∃l:List aK,l=s2++[a]:=⟨_,rfl⟩
   have e2:s2.map aF++[[.str a.host,.str a.path]]=t2.map aF:=by simp [ht2]
   simp only [dB,List.foldl_nil]
   rw [←ht2]
   clear ht2 ht1
   cases hd1:p.mods[k].done
   ·refine iE Tryz.mix Tryz.func227 Tryz.ntmps227 ?_
    have W:=And.intro e1 (And.intro e2 (And.intro hl1 (And.intro hl2 (And.intro hg (And.intro hk hd1)))))
    repeat' first|refine we ?_|(refine sq (fun hc=>?_) (fun hc=>?_)<;>try exact hc.elim)|fail
    all_goals (try (refine ⟨by first|exact .inr rfl|exact .inl rfl,?_⟩;simp [dK,bQ,bN,rowOf,Tryz.results227]))
   ·have hd2:¬p.mods[k].code=1:=fun h=>hd ⟨hd1,h⟩
    refine iE Tryz.mix Tryz.func227 Tryz.ntmps227 ?_
    have W:=And.intro e1 (And.intro e2 (And.intro hl1 (And.intro hl2 (And.intro hg (And.intro hk (And.intro hd1 hd2))))))
    repeat' first|refine we ?_|(refine sq (fun hc=>?_) (fun hc=>?_)<;>try exact hc.elim)|fail
    all_goals (try (refine ⟨by first|exact .inr rfl|exact .inl rfl,?_⟩;simp [dK,bQ,bN,rowOf,Tryz.results227]))
theorem aFk [aA Tryz.prog] [dG Tryz.prog] (p:aJ) (U:List aK) (hb:Bnd p U):∀(n:Nat) (a:aK) (s1 s2:List aK),unseen p s1 < n→Seen U (s1,s2)→a∈U→OkG Tryz.prog 227 [.view (.agg (aG .view p)),.view (.agg (aF a)),.lend [.sl .own 2 (s1.map aF)] [.sl .own 2 ((dH p n a s1 s2).1.map aF)],.lend [.sl .own 2 (s2.map aF)] [.sl .own 2 ((dH p n a s1 s2).2.map aF)]] (.tup [])
 |0,_,_,_,h,_,_=>absurd h (by omega)
 |n+1,a,s1,s2,h,hs,ha=>by
  have hl:=hs.len
  have hU:=hb.len
  simp only at hl
  cases hn:s1.any (fP a)
  ·exact aPv p U hb n a ha s1 s2 hn hs h (fun b q1 q2 h1 h2 h3=>aFk p U hb n b q1 q2 h1 h2 h3)
  ·have:dH p (n+1) a s1 s2=(s1,s2):=by simp [dH,hn]
   rw [this]
   exact aMl p U hb a s1 s2 hn (by omega)
def bX (p:aJ) (a:aK):List aK:=(dH p (unseen p []+1) a [] []).2
theorem xL [aA Tryz.prog] [dG Tryz.prog] (p:aJ) (U:List aK) (hb:Bnd p U) (a:aK) (ha:a∈U):Ok Tryz.prog 167 [.agg (aG .view p),.agg (aF a)] (.sl .own 2 ((bX p a).map aF)):=by
 have c1:=aFk p U hb (unseen p []+1) a [] [] (by omega) ⟨by simp,by simp,by simp,by simp⟩ ha
 unfold bX
 generalize dH p (unseen p []+1) a [] []=w at *
 obtain ⟨w1,w2⟩:=w
 simp only [aF,aG,List.map_nil] at c1
 refine ent Tryz.mix Tryz.func167 Tryz.ntmps167 ?_
 have W:=trivial
 repeat' first|refine we ?_|(refine nx ?_;refine sg (hc:=c1) (h:=?_))|(refine sq (fun hc=>?_) (fun hc=>?_)<;>try exact hc.elim)|fail
 all_goals (try (refine ⟨.inr rfl,?_⟩;simp [Hands,Tryz.results167]))
def iA (p:aJ) (a:aK):Bool:=
 match p.mods.find? (kM a) with
 |some m=>if m.done=true∧m.code=1 then (bA m.body a.host).2.2 else false
 |none=>false
theorem aCs [aA Tryz.prog] [dG Tryz.prog] (p:aJ) (U:List aK) (hb:Bnd p U) (a:aK) (ha:a∈U):Ok Tryz.prog 217 [.agg (aG .view p),.agg (aF a)] (.tup [.sl .own 2 ((iD p a).map aF),.bool (iA p a)]):=by
 have hps:=hb.hs
 simp only [aD,szL] at hps
 have c2:=aCk p a (by omega)
 unfold iD iA
 rcases uZ (kM a) p.mods with ⟨hi,hf⟩|⟨k,hk,hi,hf⟩
 ·rw [hf]
  rw [hi] at c2
  simp only [aF,aG] at c2
  refine ent Tryz.mix Tryz.func217 Tryz.ntmps217 ?_
  have W:=trivial
  repeat' first|refine we ?_|(refine sq (fun hc=>?_) (fun hc=>?_)<;>try exact hc.elim)|fail
  all_goals (try (refine ⟨.inr rfl,?_⟩;simp [Hands,Tryz.results217]))
 ·rw [hf]
  rw [hi] at c2
  have hm:=List.getElem_mem hk
  have hz:=bV aZ hm
  have hha:=hb.host _ ha
  have hg:=List.getElem?_eq_getElem hk
  simp only [aZ,aR] at hz
  have cp:=zC p.mods[k].body a.host (by omega) hha
  simp only [aF,aG] at c2
  simp only
  generalize bA p.mods[k].body a.host=w at *
  obtain ⟨w1,w2,w3⟩:=w
  simp only at cp
  have hk0:¬((k:Nat):Int) < 0:=by omega
  cases hd1:p.mods[k].done
  ·refine ent Tryz.mix Tryz.func217 Tryz.ntmps217 ?_
   have W:=And.intro hk0 (And.intro hg (And.intro hk hd1))
   repeat' first|refine we ?_|(refine sq (fun hc=>?_) (fun hc=>?_)<;>try exact hc.elim)|fail
   all_goals (try (refine ⟨.inr rfl,?_⟩;simp [Hands,Tryz.results217]))
  ·by_cases hd2:p.mods[k].code=1
   ·simp only [hd2,and_self,if_true]
    refine ent Tryz.mix Tryz.func217 Tryz.ntmps217 ?_
    have W:=And.intro hk0 (And.intro hg (And.intro hk (And.intro hd1 hd2)))
    repeat' first|refine we ?_|(refine sq (fun hc=>?_) (fun hc=>?_)<;>try exact hc.elim)|fail
    all_goals (try (refine ⟨.inr rfl,?_⟩;simp [Hands,Tryz.results217]))
   ·simp only [hd2,and_false,if_false]
    refine ent Tryz.mix Tryz.func217 Tryz.ntmps217 ?_
    have W:=And.intro hk0 (And.intro hg (And.intro hk (And.intro hd1 hd2)))
    repeat' first|refine we ?_|(refine sq (fun hc=>?_) (fun hc=>?_)<;>try exact hc.elim)|fail
    all_goals (try (refine ⟨.inr rfl,?_⟩;simp [Hands,Tryz.results217]))
theorem aLu [aA Tryz.prog] [dG Tryz.prog] (p:aJ) (a:aK) (s1 s2:List aK) (hn:s1.any (fP a)=true) (h1:s1.length≤1073741824):
  OkG Tryz.prog 216 [.view (.agg (aG .view p)),.view (.agg (aF a)),.give (.sl .own 2 (s1.map aF)),.give (.sl .own 2 (s2.map aF))] (.tup [.sl .own 2 (s1.map aF),.sl .own 2 (s2.map aF)]):=by
 have c1:=xH s1 a (by omega)
 simp only [aF] at c1
 rw [hn] at c1
 refine iE Tryz.mix Tryz.func216 Tryz.ntmps216 ?_
 have W:=trivial
 repeat' first|refine we ?_|(refine sq (fun hc=>?_) (fun hc=>?_)<;>try exact hc.elim)|fail
 all_goals (try (refine ⟨by first|exact .inr rfl|exact .inl rfl,?_⟩;simp [dK,bQ,bN,rowOf,Tryz.results216]))
theorem aUk {t t':List AV} {o o':List aB} {v:Nat} {l1 l4 m1 m2:List (List AV)} {o0 o2 o3 o5 o6:aB}
  (ho:o=[o0,⟨false,false,2,1,l1⟩,o2,o3,⟨false,false,2,v,l4⟩,o5,o6,⟨true,false,2,1,m1⟩,⟨true,false,2,1,m2⟩])
  (ho':o'=[o0,⟨true,false,2,1,m2⟩,o2,o3,⟨true,false,2,1,m1⟩,o5,o6])
  (hf:(o0.rsw 4 7=o0∧o2.rsw 4 7=o2∧o3.rsw 4 7=o3∧o5.rsw 4 7=o5∧o6.rsw 4 7=o6)∧(o0.rsw 1 8=o0∧o2.rsw 1 8=o2∧o3.rsw 1 8=o3∧o5.rsw 1 8=o5∧o6.rsw 1 8=o6))
  (hw:wk t (jW 4 7 (jW 1 8 t'))) (h1:wk (jW 4 7 (jW 4 7 (jW 1 8 t'))) (jW 1 8 t')) (h3:wk (jW 1 8 (jW 1 8 t')) t') (hc:fK 7 t'=true) (hc0:dL 7 [o0,o2,o3,o5,o6]=true):gF ⟨t,o⟩ ⟨t',o'⟩:=by
 subst ho;subst ho'
 obtain ⟨⟨a0,a2,a3,a5,a6⟩,b0,b2,b3,b5,b6⟩:=hf
 refine (uN hw).trans ?_
 refine (bR 4 7 rfl rfl ⟨rfl,rfl⟩ (by simp [a0,a2,a3,a5,a6];rfl) h1).trans ?_
 refine (bR 1 8 rfl rfl ⟨rfl,rfl⟩ (by simp [b0,b2,b3,b5,b6];rfl) h3).trans ?_
 refine aQ 7 (by simp) (iT _) hc ?_
 simpa [dL,fK,closed] using hc0
theorem aOt [aA Tryz.prog] [dG Tryz.prog] (p:aJ) (U:List aK) (hb:Bnd p U) (n:Nat) (a:aK) (ha:a∈U) (s1 s2:List aK) (hn:s1.any (fP a)=false) (hs:Seen U (s1,s2)) (hf:unseen p s1 < n+1)
  (ih:∀(b:aK) (q1 q2:List aK),unseen p q1 < n→Seen U (q1,q2)→b∈U→OkG Tryz.prog 216 [.view (.agg (aG .view p)),.view (.agg (aF b)),.give (.sl .own 2 (q1.map aF)),.give (.sl .own 2 (q2.map aF))] (.tup [.sl .own 2 ((dH p n b q1 q2).1.map aF),.sl .own 2 ((dH p n b q1 q2).2.map aF)])):
  OkG Tryz.prog 216 [.view (.agg (aG .view p)),.view (.agg (aF a)),.give (.sl .own 2 (s1.map aF)),.give (.sl .own 2 (s2.map aF))] (.tup [.sl .own 2 ((dH p (n+1) a s1 s2).1.map aF),.sl .own 2 ((dH p (n+1) a s1 s2).2.map aF)]):=by
 have hps:=hb.hs
 have hl:=hs.len
 have hU:=hb.len
 simp only [aD,szL] at hps
 simp only at hl
 have c1:=xH s1 a (by omega)
 have c2:=aCs p U hb a ha
 rw [hn] at c1
 have hna:a∉s1:=fun h=>by rw [rF.2 h] at hn;cases hn
 obtain ⟨t1,ht1⟩:∃l:List aK,l=s1++[a]:=⟨_,rfl⟩
 have e1:s1.map aF++[[.str a.host,.str a.path]]=t1.map aF:=by simp [ht1]
 have hl1:(s1.map aF).length=s1.length:=by simp
 have hv:dH p (n+1) a s1 s2=((dB p n (iD p a) (s1++[a],s2)).1,(dB p n (iD p a) (s1++[a],s2)).2++[a]):=by
  simp only [dH,hn,dB];rfl
 rw [hv]
 clear hv
 rw [←ht1]
 have hst:Seen U (t1,s2):=by
  subst ht1
  exact ⟨List.nodup_append.2 ⟨hs.nd,by simp,fun x hx y hy e=>hna (by simp at hy;subst hy;subst e;exact hx)⟩,fun x hx=>by
   rcases List.mem_append.1 hx with h|h
   ·exact hs.sub x h
   ·simp at h;subst h;exact ha,hs.ond,fun x hx=>List.mem_append_left _ (hs.osub x hx)⟩
 have hun:iD p a≠[]→unseen p t1 < n:=by
  intro h
  have:=aNi (p:=p) (s:=s1) (a:=a) (by rw [hn];simp) (aWv h)
  rw [←ht1] at this
  omega
 have hLU:∀b∈iD p a,b∈U:=fun b h=>hb.im b (aD1 p a b h)
 have hLl:(iD p a).length≤1073741824:=by
  unfold iD
  split
  ·rename_i m hm
   split
   ·have h1:=hb.ps m (List.mem_of_find?_eq_some hm)
    have h2:=List.find?_some hm
    simp only [kM,decide_eq_true_eq] at h2
    rwa [h2] at h1
   ·simp
  ·simp
 clear ht1
 generalize iA p a=ok at *
 generalize iD p a=L at *
 simp only [aF,aG] at c1 c2
 refine bGc Tryz.mix [3,8,9] Tryz.func216 Tryz.ntmps216 ?_
 have W:=And.intro e1 hl1
 repeat' first|refine we ?_|(refine sq (fun hc=>?_) (fun hc=>?_)<;>try exact hc.elim)|fail
 refine aOj [⟨4,2,[(5,⟨true,false,2,3,t1.map aF⟩),(2,⟨true,false,2,2,s1.map aF⟩),(0,⟨true,false,2,1,[]⟩)]⟩,⟨5,2,[(4,⟨true,false,2,1,[[.str a.host,.str a.path]]⟩)]⟩] (by simp;rfl) (by decide+kernel) (by decide+kernel) (by simp [gT,pre,Region.binds]) (by simp) ?_
 repeat' first|refine aZd (by simp;rfl) (by simp;rfl) ?_|(refine aV5 ?_ (by simp;rfl) ?_;(focus (simp;done)))|(refine vW (j:=5) (v:= .obj 4 3) ⟨4,2,[(5,⟨true,false,2,3,t1.map aF⟩),(2,⟨true,false,2,2,s1.map aF⟩),(0,⟨true,false,2,1,[]⟩)]⟩ [] [(2,⟨true,false,2,2,s1.map aF⟩),(0,⟨true,false,2,1,[]⟩)] rfl (by simp) rfl (by simp [Region.binds];rfl) (by decide) (by simp [Region.binds];rfl) (by simp;rfl) rfl ?_ ?_;(focus (refine zZ (by first|(simp;rfl)|(simp;done)|rfl) rfl (by first|(simp;rfl)|(simp;done)|rfl) (by first|(simp;rfl)|(simp;done)|rfl) (by first|(simp;rfl)|(simp;done)|rfl) (by first|(simp;done)|decide) (by first|rfl|exact uT (fun _=>rfl) _|(simp [mU,AV.plainV];done)) (by first|(simp;rfl)|(simp;done)|rfl|exact W.1|exact W.2.1|exact W|(simp [W];done)) (by simp;exact ⟨rfl,rfl⟩) (by simp) (by simp) (by simp;omega) (by simp;omega))))|(refine vW (j:=2) (v:= .obj 4 2) ⟨4,2,[(5,⟨true,false,2,3,t1.map aF⟩),(2,⟨true,false,2,2,s1.map aF⟩),(0,⟨true,false,2,1,[]⟩)]⟩ [(5,⟨true,false,2,3,t1.map aF⟩)] [(0,⟨true,false,2,1,[]⟩)] rfl (by simp) rfl (by simp [Region.binds];rfl) (by decide) (by simp [Region.binds];rfl) (by simp;rfl) rfl ?_ ?_;(focus (refine zZ (by first|(simp;rfl)|(simp;done)|rfl) rfl (by first|(simp;rfl)|(simp;done)|rfl) (by first|(simp;rfl)|(simp;done)|rfl) (by first|(simp;rfl)|(simp;done)|rfl) (by first|(simp;done)|decide) (by first|rfl|exact uT (fun _=>rfl) _|(simp [mU,AV.plainV];done)) (by first|(simp;rfl)|(simp;done)|rfl|exact W.1|exact W.2.1|exact W|(simp [W];done)) (by simp;exact ⟨rfl,rfl⟩) (by simp) (by simp) (by simp;omega) (by simp;omega))))|(refine vW (j:=0) (v:= .obj 4 1) ⟨4,2,[(5,⟨true,false,2,3,t1.map aF⟩),(2,⟨true,false,2,2,s1.map aF⟩),(0,⟨true,false,2,1,[]⟩)]⟩ [(5,⟨true,false,2,3,t1.map aF⟩),(2,⟨true,false,2,2,s1.map aF⟩)] [] rfl (by simp) rfl (by simp [Region.binds];rfl) (by decide) (by simp [Region.binds];rfl) (by simp;rfl) rfl ?_ ?_;(focus (refine aVx (by simp;exact ⟨rfl,rfl⟩) (by simp) rfl rfl (by decide) (by decide) (by first|(simp;rfl)|rfl) (by simp [AV.plainV]) (by simp [AV.good,AV.cells]) (by simp) (by simp [AV.cells]))))|(refine vW (j:=4) (v:= .obj 5 1) ⟨5,2,[(4,⟨true,false,2,1,[[.str a.host,.str a.path]]⟩)]⟩ [] [] rfl (by simp) rfl (by simp [Region.binds];rfl) (by decide) (by simp [Region.binds];rfl) (by simp;rfl) rfl ?_ ?_;(focus (refine aTm (by simp;exact ⟨rfl,rfl⟩) (by simp) rfl rfl (by decide) (by decide) (by first|(simp;rfl)|rfl) (by simp [AV.flatV,AV.plainV]) (by simp [AV.good,AV.cells]) (by simp) (by simp [AV.cells]))))|(refine aVy rfl ?_ (by simp [Region.binds];rfl) (by decide) (by simp [Region.binds];rfl) (by simp;rfl) ?_ rfl (by first|rfl|(simp;done)) ?_;(focus (first|rfl|(simp;done)));(focus (first|rfl|(simp [jN];done))))|(refine nx ?_;refine so ?_)|fail
 have W:=And.intro e1 hl1
 repeat' first|refine we ?_|(refine sq (fun hc=>?_) (fun hc=>?_)<;>try exact hc.elim)|fail
 refine aM (ι:={k:Nat×Nat // k.1≤L.length∧1≤k.2}) (fun t o i=>⟨aO t [(12,.int .i64 i.1.1),(2,.obj 4 i.1.2),(3,.obj 1 1),(8,.undef),(9,.undef),(18,.undef),(20,.undef),(23,.undef)],(o.set 1 ⟨true,false,2,1,(dB p n (L.take i.1.1) (t1,s2)).2.map aF⟩).set 4 ⟨true,false,2,i.1.2,(dB p n (L.take i.1.1) (t1,s2)).1.map aF⟩⟩)
  (fun i=>L.length - i.1.1) ⟨(0,3),by simp,by simp⟩ (aH (by simp [dB]) (by simp)) ?_
 rintro ⟨⟨k,v⟩,hk,hv⟩ K1 hK1
 simp only [aO,List.set_cons_succ,List.set_cons_zero] at hk hv hK1⊢
 have hk1:IntKind.i64.wrap ((k:Int)+1)=((k+1:Nat):Int):=by rw [wrap64]<;>omega
 by_cases hlt:k < L.length
 ·have hg2:=List.getElem?_eq_getElem hlt
  obtain ⟨f1,f2⟩:=wQ hb.im n (L.take k) (t1,s2) (fun b h=>hLU b (List.mem_of_mem_take h)) hst
  have f3:=aH4 (p:=p) f2
  have hne:L≠[]:=by intro h;rw [h] at hlt;simp at hlt
  have hun':=hun hne
  have c3:=ih L[k] (dB p n (L.take k) (t1,s2)).1 (dB p n (L.take k) (t1,s2)).2 (by simp only at f3;omega) f1 (hLU _ (List.getElem_mem hlt))
  have hnext:dB p n (L.take (k+1)) (t1,s2)=dH p n L[k] (dB p n (L.take k) (t1,s2)).1 (dB p n (L.take k) (t1,s2)).2:=by
   rw [List.take_succ_eq_append_getElem hlt,aCt]
  generalize dB p n (L.take k) (t1,s2)=q at *
  obtain ⟨q1,q2⟩:=q
  simp only at c3 hnext⊢
  generalize dH p n L[k] q1 q2=w at *
  obtain ⟨w1,w2⟩:=w
  simp only [aF,aG] at c3
  have W:=And.intro hk1 (And.intro hg2 hlt)
  repeat' first|refine we ?_|(refine sq (fun hc=>?_) (fun hc=>?_)<;>try exact hc.elim)|fail
  rw [qJ]
  refine aAz (by simp;rfl) (by simp;rfl) (by decide+kernel) (by decide) (by first|rfl|(simp [aGf];done)) (by simp) (by simp) ?_
  iterate 7 (
   refine aCv rfl (by first|rfl|(simp;done)) (by simp [Region.binds];rfl) (by decide) (by simp [Region.binds];rfl) (by simp;rfl) ?_ ?_
   ·first|rfl|(simp [jN];done)
   refine nx ?_
   refine so ?_
   refine kN ?_
   refine aC2 (by simp;done) (by simp;rfl) (by simp;rfl) ?_)
  refine zR (s1:= ?s1) (by decide+kernel) (by simp [lZ,reach,gT,Region.binds,List.range_succ];rfl) ?ha ?hk
  case ha=>
   repeat' (first|refine st ?_|(refine nx ?_;first|refine so ?_|refine sg (hc:=c3) (h:= ?_))|refine sx ?_ ?_|refine sy ?_ ?_|fail)
   all_goals rfl
  case hk=>
   have W:=hk1
   repeat' first|refine we ?_|(refine sq (fun hc=>?_) (fun hc=>?_)<;>try exact hc.elim)|fail
   refine hK1 _ ⟨(k+1,1),by simp only;omega,by simp⟩ ?_ (by simp only;omega)
   simp only [hnext]
   refine aUk rfl rfl (by simp) (by simp) (by simp) (by simp) (by simp) (by simp [dL,fK,closed])
 ·have htk:L.take k=L:=List.take_of_length_le (by omega)
  rw [htk]
  have f1:=(wQ hb.im n L (t1,s2) hLU hst).1.len
  generalize dB p n L (t1,s2)=q at *
  obtain ⟨q1,q2⟩:=q
  simp only at f1
  have hl2:(q2.map aF).length=q2.length:=by simp
  obtain ⟨t2,ht2⟩:∃l:List aK,l=q2++[a]:=⟨_,rfl⟩
  have e2:q2.map aF++[[.str a.host,.str a.path]]=t2.map aF:=by simp [ht2]
  simp only
  rw [←ht2]
  clear ht2
  have W:=And.intro e2 hk1
  repeat' first|refine we ?_|(refine sq (fun hc=>?_) (fun hc=>?_)<;>try exact hc.elim)|fail
  refine aOj [⟨7,2,[(6,⟨true,false,2,3,t2.map aF⟩),(3,⟨true,false,2,2,q2.map aF⟩),(1,⟨true,false,2,1,[]⟩)]⟩,⟨8,2,[(5,⟨true,false,2,1,[[.str a.host,.str a.path]]⟩)]⟩] (by simp;rfl) (by decide+kernel) (by decide+kernel) (by simp [gT,pre,Region.binds]) (by simp) ?_
  repeat' first|refine aZd (by simp;rfl) (by simp;rfl) ?_|(refine aV5 ?_ (by simp;rfl) ?_;(focus (simp;done)))|(refine vW (j:=6) (v:= .obj 7 3) ⟨7,2,[(6,⟨true,false,2,3,t2.map aF⟩),(3,⟨true,false,2,2,q2.map aF⟩),(1,⟨true,false,2,1,[]⟩)]⟩ [] [(3,⟨true,false,2,2,q2.map aF⟩),(1,⟨true,false,2,1,[]⟩)] rfl (by simp) rfl (by simp [Region.binds];rfl) (by decide) (by simp [Region.binds];rfl) (by simp;rfl) rfl ?_ ?_;(focus (refine zZ (by first|(simp;rfl)|(simp;done)|rfl) rfl (by first|(simp;rfl)|(simp;done)|rfl) (by first|(simp;rfl)|(simp;done)|rfl) (by first|(simp;rfl)|(simp;done)|rfl) (by first|(simp;done)|decide) (by first|rfl|exact uT (fun _=>rfl) _|(simp [mU,AV.plainV];done)) (by first|(simp;rfl)|(simp;done)|rfl|exact W.1|exact W.2.1|exact W|(simp [W];done)) (by simp;exact ⟨rfl,rfl⟩) (by simp) (by simp) (by simp;omega) (by simp;omega))))|(refine vW (j:=3) (v:= .obj 7 2) ⟨7,2,[(6,⟨true,false,2,3,t2.map aF⟩),(3,⟨true,false,2,2,q2.map aF⟩),(1,⟨true,false,2,1,[]⟩)]⟩ [(6,⟨true,false,2,3,t2.map aF⟩)] [(1,⟨true,false,2,1,[]⟩)] rfl (by simp) rfl (by simp [Region.binds];rfl) (by decide) (by simp [Region.binds];rfl) (by simp;rfl) rfl ?_ ?_;(focus (refine zZ (by first|(simp;rfl)|(simp;done)|rfl) rfl (by first|(simp;rfl)|(simp;done)|rfl) (by first|(simp;rfl)|(simp;done)|rfl) (by first|(simp;rfl)|(simp;done)|rfl) (by first|(simp;done)|decide) (by first|rfl|exact uT (fun _=>rfl) _|(simp [mU,AV.plainV];done)) (by first|(simp;rfl)|(simp;done)|rfl|exact W.1|exact W.2.1|exact W|(simp [W];done)) (by simp;exact ⟨rfl,rfl⟩) (by simp) (by simp) (by simp;omega) (by simp;omega))))|(refine vW (j:=1) (v:= .obj 7 1) ⟨7,2,[(6,⟨true,false,2,3,t2.map aF⟩),(3,⟨true,false,2,2,q2.map aF⟩),(1,⟨true,false,2,1,[]⟩)]⟩ [(6,⟨true,false,2,3,t2.map aF⟩),(3,⟨true,false,2,2,q2.map aF⟩)] [] rfl (by simp) rfl (by simp [Region.binds];rfl) (by decide) (by simp [Region.binds];rfl) (by simp;rfl) rfl ?_ ?_;(focus (refine aVx (by simp;exact ⟨rfl,rfl⟩) (by simp) rfl rfl (by decide) (by decide) (by first|(simp;rfl)|rfl) (by simp [AV.plainV]) (by simp [AV.good,AV.cells]) (by simp) (by simp [AV.cells]))))|(refine vW (j:=5) (v:= .obj 8 1) ⟨8,2,[(5,⟨true,false,2,1,[[.str a.host,.str a.path]]⟩)]⟩ [] [] rfl (by simp) rfl (by simp [Region.binds];rfl) (by decide) (by simp [Region.binds];rfl) (by simp;rfl) rfl ?_ ?_;(focus (refine aTm (by simp;exact ⟨rfl,rfl⟩) (by simp) rfl rfl (by decide) (by decide) (by first|(simp;rfl)|rfl) (by simp [AV.flatV,AV.plainV]) (by simp [AV.good,AV.cells]) (by simp) (by simp [AV.cells]))))|(refine aVy rfl ?_ (by simp [Region.binds];rfl) (by decide) (by simp [Region.binds];rfl) (by simp;rfl) ?_ rfl (by first|rfl|(simp;done)) ?_;(focus (first|rfl|(simp;done)));(focus (first|rfl|(simp [jN];done))))|(refine nx ?_;refine so ?_)|fail
  have W:=And.intro e2 hk1
  repeat' first|refine we ?_|(refine sq (fun hc=>?_) (fun hc=>?_)<;>try exact hc.elim)|fail
  all_goals (try (refine ⟨by first|exact .inr rfl|exact .inl rfl,?_⟩;simp [dK,bQ,bN,rowOf,Tryz.results216]))
theorem aFq [aA Tryz.prog] [dG Tryz.prog] (p:aJ) (U:List aK) (hb:Bnd p U):∀(n:Nat) (a:aK) (s1 s2:List aK),unseen p s1 < n→Seen U (s1,s2)→a∈U→OkG Tryz.prog 216 [.view (.agg (aG .view p)),.view (.agg (aF a)),.give (.sl .own 2 (s1.map aF)),.give (.sl .own 2 (s2.map aF))] (.tup [.sl .own 2 ((dH p n a s1 s2).1.map aF),.sl .own 2 ((dH p n a s1 s2).2.map aF)])
 |0,_,_,_,h,_,_=>absurd h (by omega)
 |n+1,a,s1,s2,h,hs,ha=>by
  have hl:=hs.len
  have hU:=hb.len
  simp only at hl
  cases hn:s1.any (fP a)
  ·exact aOt p U hb n a ha s1 s2 hn hs h (fun b q1 q2 h1 h2 h3=>aFq p U hb n b q1 q2 h1 h2 h3)
  ·have:dH p (n+1) a s1 s2=(s1,s2):=by simp [dH,hn]
   rw [this]
   exact aLu p a s1 s2 hn (by omega)
theorem xW [aA Tryz.prog] [dG Tryz.prog] (p:aJ) (U:List aK) (hb:Bnd p U) (a:aK) (ha:a∈U):Ok Tryz.prog 154 [.agg (aG .view p),.agg (aF a)] (.sl .own 2 ((bX p a).map aF)):=by
 have c1:=aFq p U hb (unseen p []+1) a [] [] (by omega) ⟨by simp,by simp,by simp,by simp⟩ ha
 unfold bX
 generalize dH p (unseen p []+1) a [] []=w at *
 obtain ⟨w1,w2⟩:=w
 simp only [aF,aG,List.map_nil] at c1
 refine ent Tryz.mix Tryz.func154 Tryz.ntmps154 ?_
 have W:=trivial
 repeat' first|refine we ?_|(refine nx ?_;refine sg (hc:=c1) (h:=?_))|(refine sq (fun hc=>?_) (fun hc=>?_)<;>try exact hc.elim)|fail
 all_goals (try (refine ⟨.inr rfl,?_⟩;simp [Hands,Tryz.results154]))
end Go.Proofs.YtlnblmmohpcceaaGreatDoor
