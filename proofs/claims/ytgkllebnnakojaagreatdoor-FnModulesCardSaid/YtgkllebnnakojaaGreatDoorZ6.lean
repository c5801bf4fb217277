/-
  Proved here: steps towards the statement of this claim, text Z6.
  No condition beyond what each statement spells out.
-/
import Derived.Test.YtgkllebnnakojaaGreatDoorZ5
import Derived.Test.YtgkllebnnakojaaGreatDoorF8
set_option linter.all false
set_option maxRecDepth 4000
set_option maxHeartbeats 4000000
namespace Go.Proofs.YtgkllebnnakojaaGreatDoor
open Go.Aw
def fA (p:aJ) (a:aC):Bool:=
 match p.mods.find? (dJ a) with
 |some m=>if m.done=true∧m.code=1 then (aN m.body a.host).2.2 else false
 |none=>false
theorem xV [aB Tryz.prog] [cO Tryz.prog] (p:aJ) (U:List aC) (hb:Bnd p U) (a:aC) (ha:a∈U):Ok Tryz.prog 34 [.agg (aL .view p),.agg (aD a)] (.tup [.sl .own 2 ((bR p a).map aD),.bool (fA p a)]):=by
 have hps:=hb.hs
 simp only [bL,szL] at hps
 have c2:=sD p a (by omega)
 unfold bR fA
 rcases gZ (dJ a) p.mods with ⟨hi,hf⟩|⟨k,hk,hi,hf⟩
 ·rw [hf]
  rw [hi] at c2
  simp only [aD,aL] at c2
  refine ent Tryz.mix Tryz.func34 Tryz.ntmps34 ?_
  have W:=trivial
  repeat' first|refine st ?_|(refine nx ?_;first|refine se ?_|refine so ?_)|(refine cx ?_;refine sc (fun hc=>?_) (fun hc=>?_)<;>try exact hc.elim)|(refine lx ?_;refine sp (fun hc=>?_) (fun hc=>?_)<;>try exact hc.elim)|refine sx ?_ ?_|refine sy ?_ ?_|fail
  all_goals (try (refine ⟨.inr rfl,?_⟩;simp [Hands,Tryz.results34]))
 ·rw [hf]
  rw [hi] at c2
  have hm:=List.getElem_mem hk
  have hz:=gI bJ hm
  have hha:=hb.host _ ha
  have hg:=List.getElem?_eq_getElem hk
  simp only [bJ,aK] at hz
  have cp:=tF p.mods[k].body a.host (by omega) hha
  simp only [aD,aL] at c2
  simp only
  generalize aN p.mods[k].body a.host=w at *
  obtain ⟨w1,w2,w3⟩:=w
  simp only at cp
  have hk0:¬((k:Nat):Int) < 0:=by omega
  cases hd1:p.mods[k].done
  ·refine ent Tryz.mix Tryz.func34 Tryz.ntmps34 ?_
   have W:=And.intro hk0 (And.intro hg (And.intro hk hd1))
   repeat' first|refine st ?_|(refine nx ?_;first|refine se ?_|refine so ?_)|(refine cx ?_;refine sc (fun hc=>?_) (fun hc=>?_)<;>try exact hc.elim)|(refine lx ?_;refine sp (fun hc=>?_) (fun hc=>?_)<;>try exact hc.elim)|refine sx ?_ ?_|refine sy ?_ ?_|fail
   all_goals (try (refine ⟨.inr rfl,?_⟩;simp [Hands,Tryz.results34]))
  ·by_cases hd2:p.mods[k].code=1
   ·simp only [hd2,and_self,if_true]
    refine ent Tryz.mix Tryz.func34 Tryz.ntmps34 ?_
    have W:=And.intro hk0 (And.intro hg (And.intro hk (And.intro hd1 hd2)))
    repeat' first|refine st ?_|(refine nx ?_;first|refine se ?_|refine so ?_)|(refine cx ?_;refine sc (fun hc=>?_) (fun hc=>?_)<;>try exact hc.elim)|(refine lx ?_;refine sp (fun hc=>?_) (fun hc=>?_)<;>try exact hc.elim)|refine sx ?_ ?_|refine sy ?_ ?_|fail
    all_goals (try (refine ⟨.inr rfl,?_⟩;simp [Hands,Tryz.results34]))
   ·simp only [hd2,and_false,if_false]
    refine ent Tryz.mix Tryz.func34 Tryz.ntmps34 ?_
    have W:=And.intro hk0 (And.intro hg (And.intro hk (And.intro hd1 hd2)))
    repeat' first|refine st ?_|(refine nx ?_;first|refine se ?_|refine so ?_)|(refine cx ?_;refine sc (fun hc=>?_) (fun hc=>?_)<;>try exact hc.elim)|(refine lx ?_;refine sp (fun hc=>?_) (fun hc=>?_)<;>try exact hc.elim)|refine sx ?_ ?_|refine sy ?_ ?_|fail
    all_goals (try (refine ⟨.inr rfl,?_⟩;simp [Hands,Tryz.results34]))
theorem aFh [aB Tryz.prog] [cO Tryz.prog] (p:aJ) (a:aC) (s1 s2:List aC) (hn:s1.any (bG a)=true) (h1:s1.length≤1073741824):
  OkG Tryz.prog 22 [.view (.agg (aL .view p)),.view (.agg (aD a)),.give (.sl .own 2 (s1.map aD)),.give (.sl .own 2 (s2.map aD))] (.tup [.sl .own 2 (s1.map aD),.sl .own 2 (s2.map aD)]):=by
 have c1:=xU s1 a (by omega)
 simp only [aD] at c1
 rw [hn] at c1
 refine xG Tryz.mix Tryz.func22 Tryz.ntmps22 ?_
 have W:=trivial
 repeat' first|refine st ?_|(refine nx ?_;first|refine se ?_|refine so ?_)|(refine cx ?_;refine sc (fun hc=>?_) (fun hc=>?_)<;>try exact hc.elim)|(refine lx ?_;refine sp (fun hc=>?_) (fun hc=>?_)<;>try exact hc.elim)|refine sx ?_ ?_|refine sy ?_ ?_|fail
 all_goals (try (refine ⟨by first|exact .inr rfl|exact .inl rfl,?_⟩;simp [mP,iF,gN,rowOf,Tryz.results22]))
theorem aL1 {t t':List AV} {o o':List aA} {v:Nat} {l1 l4 m1 m2:List (List AV)} {o0 o2 o3 o5 o6:aA}
  (ho:o=[o0,⟨false,false,2,1,l1⟩,o2,o3,⟨false,false,2,v,l4⟩,o5,o6,⟨true,false,2,1,m1⟩,⟨true,false,2,1,m2⟩])
  (ho':o'=[o0,⟨true,false,2,1,m2⟩,o2,o3,⟨true,false,2,1,m1⟩,o5,o6])
  (hf:(o0.rsw 4 7=o0∧o2.rsw 4 7=o2∧o3.rsw 4 7=o3∧o5.rsw 4 7=o5∧o6.rsw 4 7=o6)∧(o0.rsw 1 8=o0∧o2.rsw 1 8=o2∧o3.rsw 1 8=o3∧o5.rsw 1 8=o5∧o6.rsw 1 8=o6))
  (hw:wk t (jO 4 7 (jO 1 8 t'))) (h1:wk (jO 4 7 (jO 4 7 (jO 1 8 t'))) (jO 1 8 t')) (h3:wk (jO 1 8 (jO 1 8 t')) t') (hc:gL 7 t'=true) (hc0:jK 7 [o0,o2,o3,o5,o6]=true):dV ⟨t,o⟩ ⟨t',o'⟩:=by
 subst ho;subst ho'
 obtain ⟨⟨a0,a2,a3,a5,a6⟩,b0,b2,b3,b5,b6⟩:=hf
 refine (vJ hw).trans ?_
 refine (iC 4 7 rfl rfl ⟨rfl,rfl⟩ (by simp [a0,a2,a3,a5,a6];rfl) h1).trans ?_
 refine (iC 1 8 rfl rfl ⟨rfl,rfl⟩ (by simp [b0,b2,b3,b5,b6];rfl) h3).trans ?_
 refine aO 7 (by simp) (jR _) hc ?_
 simpa [jK,gL,closed] using hc0
theorem aH3 [aB Tryz.prog] [cO Tryz.prog] (p:aJ) (U:List aC) (hb:Bnd p U) (n:Nat) (a:aC) (ha:a∈U) (s1 s2:List aC) (hn:s1.any (bG a)=false) (hs:Seen U (s1,s2)) (hf:unseen p s1 < n+1)
  (ih:∀(b:aC) (q1 q2:List aC),unseen p q1 < n→Seen U (q1,q2)→b∈U→OkG Tryz.prog 22 [.view (.agg (aL .view p)),.view (.agg (aD b)),.give (.sl .own 2 (q1.map aD)),.give (.sl .own 2 (q2.map aD))] (.tup [.sl .own 2 ((bI p n b q1 q2).1.map aD),.sl .own 2 ((bI p n b q1 q2).2.map aD)])):
  OkG Tryz.prog 22 [.view (.agg (aL .view p)),.view (.agg (aD a)),.give (.sl .own 2 (s1.map aD)),.give (.sl .own 2 (s2.map aD))] (.tup [.sl .own 2 ((bI p (n+1) a s1 s2).1.map aD),.sl .own 2 ((bI p (n+1) a s1 s2).2.map aD)]):=by
 have hps:=hb.hs
 have hl:=hs.len
 have hU:=hb.len
 simp only [bL,szL] at hps
 simp only at hl
 have c1:=xU s1 a (by omega)
 have c2:=xV p U hb a ha
 rw [hn] at c1
 have hna:a∉s1:=fun h=>by rw [iX.2 h] at hn;cases hn
 obtain ⟨t1,ht1⟩:∃l:List aC,l=s1++[a]:=⟨_,rfl⟩
 have e1:s1.map aD++[[.str a.host,.str a.path]]=t1.map aD:=by simp [ht1]
 have hl1:(s1.map aD).length=s1.length:=by simp
 have hv:bI p (n+1) a s1 s2=((bN p n (bR p a) (s1++[a],s2)).1,(bN p n (bR p a) (s1++[a],s2)).2++[a]):=by
  simp only [bI,hn,bN];rfl
 rw [hv]
 clear hv
 rw [←ht1]
 have hst:Seen U (t1,s2):=by
  subst ht1
  exact ⟨List.nodup_append.2 ⟨hs.nd,by simp,fun x hx y hy e=>hna (by simp at hy;subst hy;subst e;exact hx)⟩,fun x hx=>by
   rcases List.mem_append.1 hx with h|h
   ·exact hs.sub x h
   ·simp at h;subst h;exact ha,hs.ond,fun x hx=>List.mem_append_left _ (hs.osub x hx)⟩
 have hun:bR p a≠[]→unseen p t1 < n:=by
  intro h
  have:=aAz (p:=p) (s:=s1) (a:=a) (by rw [hn];simp) (aFc h)
  rw [←ht1] at this
  omega
 have hLU:∀b∈bR p a,b∈U:=fun b h=>hb.im b (zJ p a b h)
 have hLl:(bR p a).length≤1073741824:=by
  unfold bR
  split
  ·rename_i m hm
   split
   ·have h1:=hb.ps m (List.mem_of_find?_eq_some hm)
    have h2:=List.find?_some hm
    simp only [dJ,decide_eq_true_eq] at h2
    rwa [h2] at h1
   ·simp
  ·simp
 clear ht1
 generalize fA p a=ok at *
 generalize bR p a=L at *
 simp only [aD,aL] at c1 c2
 refine aX1 Tryz.mix [3,8,9] Tryz.func22 Tryz.ntmps22 ?_
 have W:=And.intro e1 hl1
 repeat' first|refine st ?_|(refine nx ?_;first|refine se ?_|refine so ?_)|(refine cx ?_;refine sc (fun hc=>?_) (fun hc=>?_)<;>try exact hc.elim)|(refine lx ?_;refine sp (fun hc=>?_) (fun hc=>?_)<;>try exact hc.elim)|refine sx ?_ ?_|refine sy ?_ ?_|fail
 refine aGl [⟨4,2,[(5,⟨true,false,2,3,t1.map aD⟩),(2,⟨true,false,2,2,s1.map aD⟩),(0,⟨true,false,2,1,[]⟩)]⟩,⟨5,2,[(4,⟨true,false,2,1,[[.str a.host,.str a.path]]⟩)]⟩] (by simp;rfl) (by decide+kernel) (by decide+kernel) (by simp [dM,pre,Region.binds]) (by simp) ?_
 repeat' first|refine aPh (by simp;rfl) (by simp;rfl) ?_|(refine aMp ?_ (by simp;rfl) ?_;(focus (simp;done)))|(refine pV (j:=5) (v:= .obj 4 3) ⟨4,2,[(5,⟨true,false,2,3,t1.map aD⟩),(2,⟨true,false,2,2,s1.map aD⟩),(0,⟨true,false,2,1,[]⟩)]⟩ [] [(2,⟨true,false,2,2,s1.map aD⟩),(0,⟨true,false,2,1,[]⟩)] rfl (by simp) rfl (by simp [Region.binds];rfl) (by decide) (by simp [Region.binds];rfl) (by simp;rfl) rfl ?_ ?_;(focus (refine tV (by first|(simp;rfl)|(simp;done)|rfl) rfl (by first|(simp;rfl)|(simp;done)|rfl) (by first|(simp;rfl)|(simp;done)|rfl) (by first|(simp;rfl)|(simp;done)|rfl) (by first|(simp;done)|decide) (by first|rfl|exact oP (fun _=>rfl) _|(simp [jJ,AV.plainV];done)) (by first|(simp;rfl)|(simp;done)|rfl|exact W.1|exact W.2.1|exact W|(simp [W];done)) (by simp;exact ⟨rfl,rfl⟩) (by simp) (by simp) (by simp;omega) (by simp;omega))))|(refine pV (j:=2) (v:= .obj 4 2) ⟨4,2,[(5,⟨true,false,2,3,t1.map aD⟩),(2,⟨true,false,2,2,s1.map aD⟩),(0,⟨true,false,2,1,[]⟩)]⟩ [(5,⟨true,false,2,3,t1.map aD⟩)] [(0,⟨true,false,2,1,[]⟩)] rfl (by simp) rfl (by simp [Region.binds];rfl) (by decide) (by simp [Region.binds];rfl) (by simp;rfl) rfl ?_ ?_;(focus (refine tV (by first|(simp;rfl)|(simp;done)|rfl) rfl (by first|(simp;rfl)|(simp;done)|rfl) (by first|(simp;rfl)|(simp;done)|rfl) (by first|(simp;rfl)|(simp;done)|rfl) (by first|(simp;done)|decide) (by first|rfl|exact oP (fun _=>rfl) _|(simp [jJ,AV.plainV];done)) (by first|(simp;rfl)|(simp;done)|rfl|exact W.1|exact W.2.1|exact W|(simp [W];done)) (by simp;exact ⟨rfl,rfl⟩) (by simp) (by simp) (by simp;omega) (by simp;omega))))|(refine pV (j:=0) (v:= .obj 4 1) ⟨4,2,[(5,⟨true,false,2,3,t1.map aD⟩),(2,⟨true,false,2,2,s1.map aD⟩),(0,⟨true,false,2,1,[]⟩)]⟩ [(5,⟨true,false,2,3,t1.map aD⟩),(2,⟨true,false,2,2,s1.map aD⟩)] [] rfl (by simp) rfl (by simp [Region.binds];rfl) (by decide) (by simp [Region.binds];rfl) (by simp;rfl) rfl ?_ ?_;(focus (refine aMu (by simp;exact ⟨rfl,rfl⟩) (by simp) rfl rfl (by decide) (by decide) (by first|(simp;rfl)|rfl) (by simp [AV.plainV]) (by simp [AV.good,AV.cells]) (by simp) (by simp [AV.cells]))))|(refine pV (j:=4) (v:= .obj 5 1) ⟨5,2,[(4,⟨true,false,2,1,[[.str a.host,.str a.path]]⟩)]⟩ [] [] rfl (by simp) rfl (by simp [Region.binds];rfl) (by decide) (by simp [Region.binds];rfl) (by simp;rfl) rfl ?_ ?_;(focus (refine aKd (by simp;exact ⟨rfl,rfl⟩) (by simp) rfl rfl (by decide) (by decide) (by first|(simp;rfl)|rfl) (by simp [AV.flatV,AV.plainV]) (by simp [AV.good,AV.cells]) (by simp) (by simp [AV.cells]))))|(refine aMq rfl ?_ (by simp [Region.binds];rfl) (by decide) (by simp [Region.binds];rfl) (by simp;rfl) ?_ rfl (by first|rfl|(simp;done)) ?_;(focus (first|rfl|(simp;done)));(focus (first|rfl|(simp [gM];done))))|(refine nx ?_;refine so ?_)|fail
 have W:=And.intro e1 hl1
 repeat' first|refine st ?_|(refine nx ?_;first|refine se ?_|refine so ?_)|(refine cx ?_;refine sc (fun hc=>?_) (fun hc=>?_)<;>try exact hc.elim)|(refine lx ?_;refine sp (fun hc=>?_) (fun hc=>?_)<;>try exact hc.elim)|refine sx ?_ ?_|refine sy ?_ ?_|fail
 refine aT (ι:={k:Nat×Nat // k.1≤L.length∧1≤k.2}) (fun t o i=>⟨bB t [(12,.int .i64 i.1.1),(2,.obj 4 i.1.2),(3,.obj 1 1),(8,.undef),(9,.undef),(18,.undef),(20,.undef),(23,.undef)],(o.set 1 ⟨true,false,2,1,(bN p n (L.take i.1.1) (t1,s2)).2.map aD⟩).set 4 ⟨true,false,2,i.1.2,(bN p n (L.take i.1.1) (t1,s2)).1.map aD⟩⟩)
  (fun i=>L.length - i.1.1) ⟨(0,3),by simp,by simp⟩ (aI (by simp [bN]) (by simp)) ?_
 rintro ⟨⟨k,v⟩,hk,hv⟩ K1 hK1
 simp only [bB,List.set_cons_succ,List.set_cons_zero] at hk hv hK1⊢
 have hk1:IntKind.i64.wrap ((k:Int)+1)=((k+1:Nat):Int):=by rw [wrap64]<;>omega
 by_cases hlt:k < L.length
 ·have hg2:=List.getElem?_eq_getElem hlt
  obtain ⟨f1,f2⟩:=qE hb.im n (L.take k) (t1,s2) (fun b h=>hLU b (List.mem_of_mem_take h)) hst
  have f3:=xD (p:=p) f2
  have hne:L≠[]:=by intro h;rw [h] at hlt;simp at hlt
  have hun':=hun hne
  have c3:=ih L[k] (bN p n (L.take k) (t1,s2)).1 (bN p n (L.take k) (t1,s2)).2 (by simp only at f3;omega) f1 (hLU _ (List.getElem_mem hlt))
  have hnext:bN p n (L.take (k+1)) (t1,s2)=bI p n L[k] (bN p n (L.take k) (t1,s2)).1 (bN p n (L.take k) (t1,s2)).2:=by
   rw [List.take_succ_eq_append_getElem hlt,xQ]
  generalize bN p n (L.take k) (t1,s2)=q at *
  obtain ⟨q1,q2⟩:=q
  simp only at c3 hnext⊢
  generalize bI p n L[k] q1 q2=w at *
  obtain ⟨w1,w2⟩:=w
  simp only [aD,aL] at c3
  have W:=And.intro hk1 (And.intro hg2 hlt)
  repeat' first|refine st ?_|(refine nx ?_;first|refine se ?_|refine so ?_)|(refine cx ?_;refine sc (fun hc=>?_) (fun hc=>?_)<;>try exact hc.elim)|(refine lx ?_;refine sp (fun hc=>?_) (fun hc=>?_)<;>try exact hc.elim)|refine sx ?_ ?_|refine sy ?_ ?_|fail
  rw [rQ]
  refine aC3 (by simp;rfl) (by simp;rfl) (by decide+kernel) (by decide) (by first|rfl|(simp [aFq];done)) (by simp) (by simp) ?_
  iterate 7 (
   refine aF1 rfl (by first|rfl|(simp;done)) (by simp [Region.binds];rfl) (by decide) (by simp [Region.binds];rfl) (by simp;rfl) ?_ ?_
   ·first|rfl|(simp [gM];done)
   refine nx ?_
   refine so ?_
   refine kN ?_
   refine aFl (by simp;done) (by simp;rfl) (by simp;rfl) ?_)
  refine aFa (s1:= ?s1) (by decide+kernel) (by simp [jQ,reach,dM,Region.binds,List.range_succ];rfl) ?ha ?hk
  case ha=>
   repeat' (first|refine st ?_|(refine nx ?_;first|refine so ?_|refine sg (hc:=c3) (h:= ?_))|refine sx ?_ ?_|refine sy ?_ ?_|fail)
   all_goals rfl
  case hk=>
   have W:=hk1
   repeat' first|refine st ?_|(refine nx ?_;first|refine se ?_|refine so ?_)|(refine cx ?_;refine sc (fun hc=>?_) (fun hc=>?_)<;>try exact hc.elim)|(refine lx ?_;refine sp (fun hc=>?_) (fun hc=>?_)<;>try exact hc.elim)|refine sx ?_ ?_|refine sy ?_ ?_|fail
   refine hK1 _ ⟨(k+1,1),by simp only;omega,by simp⟩ ?_ (by simp only;omega)
   simp only [hnext]
   refine aL1 rfl rfl (by simp) (by simp) (by simp) (by simp) (by simp) (by simp [jK,gL,closed])
 ·have htk:L.take k=L:=List.take_of_length_le (by omega)
  rw [htk]
  have f1:=(qE hb.im n L (t1,s2) hLU hst).1.len
  generalize bN p n L (t1,s2)=q at *
  obtain ⟨q1,q2⟩:=q
  simp only at f1
  have hl2:(q2.map aD).length=q2.length:=by simp
  obtain ⟨t2,ht2⟩:∃l:List aC,l=q2++[a]:=⟨_,rfl⟩
  have e2:q2.map aD++[[.str a.host,.str a.path]]=t2.map aD:=by simp [ht2]
  simp only
  rw [←ht2]
  clear ht2
  have W:=And.intro e2 hk1
  repeat' first|refine st ?_|(refine nx ?_;first|refine se ?_|refine so ?_)|(refine cx ?_;refine sc (fun hc=>?_) (fun hc=>?_)<;>try exact hc.elim)|(refine lx ?_;refine sp (fun hc=>?_) (fun hc=>?_)<;>try exact hc.elim)|refine sx ?_ ?_|refine sy ?_ ?_|fail
  refine aGl [⟨7,2,[(6,⟨true,false,2,3,t2.map aD⟩),(3,⟨true,false,2,2,q2.map aD⟩),(1,⟨true,false,2,1,[]⟩)]⟩,⟨8,2,[(5,⟨true,false,2,1,[[.str a.host,.str a.path]]⟩)]⟩] (by simp;rfl) (by decide+kernel) (by decide+kernel) (by simp [dM,pre,Region.binds]) (by simp) ?_
  repeat' first|refine aPh (by simp;rfl) (by simp;rfl) ?_|(refine aMp ?_ (by simp;rfl) ?_;(focus (simp;done)))|(refine pV (j:=6) (v:= .obj 7 3) ⟨7,2,[(6,⟨true,false,2,3,t2.map aD⟩),(3,⟨true,false,2,2,q2.map aD⟩),(1,⟨true,false,2,1,[]⟩)]⟩ [] [(3,⟨true,false,2,2,q2.map aD⟩),(1,⟨true,false,2,1,[]⟩)] rfl (by simp) rfl (by simp [Region.binds];rfl) (by decide) (by simp [Region.binds];rfl) (by simp;rfl) rfl ?_ ?_;(focus (refine tV (by first|(simp;rfl)|(simp;done)|rfl) rfl (by first|(simp;rfl)|(simp;done)|rfl) (by first|(simp;rfl)|(simp;done)|rfl) (by first|(simp;rfl)|(simp;done)|rfl) (by first|(simp;done)|decide) (by first|rfl|exact oP (fun _=>rfl) _|(simp [jJ,AV.plainV];done)) (by first|(simp;rfl)|(simp;done)|rfl|exact W.1|exact W.2.1|exact W|(simp [W];done)) (by simp;exact ⟨rfl,rfl⟩) (by simp) (by simp) (by simp;omega) (by simp;omega))))|(refine pV (j:=3) (v:= .obj 7 2) ⟨7,2,[(6,⟨true,false,2,3,t2.map aD⟩),(3,⟨true,false,2,2,q2.map aD⟩),(1,⟨true,false,2,1,[]⟩)]⟩ [(6,⟨true,false,2,3,t2.map aD⟩)] [(1,⟨true,false,2,1,[]⟩)] rfl (by simp) rfl (by simp [Region.binds];rfl) (by decide) (by simp [Region.binds];rfl) (by simp;rfl) rfl ?_ ?_;(focus (refine tV (by first|(simp;rfl)|(simp;done)|rfl) rfl (by first|(simp;rfl)|(simp;done)|rfl) (by first|(simp;rfl)|(simp;done)|rfl) (by first|(simp;rfl)|(simp;done)|rfl) (by first|(simp;done)|decide) (by first|rfl|exact oP (fun _=>rfl) _|(simp [jJ,AV.plainV];done)) (by first|(simp;rfl)|(simp;done)|rfl|exact W.1|exact W.2.1|exact W|(simp [W];done)) (by simp;exact ⟨rfl,rfl⟩) (by simp) (by simp) (by simp;omega) (by simp;omega))))|(refine pV (j:=1) (v:= .obj 7 1) ⟨7,2,[(6,⟨true,false,2,3,t2.map aD⟩),(3,⟨true,false,2,2,q2.map aD⟩),(1,⟨true,false,2,1,[]⟩)]⟩ [(6,⟨true,false,2,3,t2.map aD⟩),(3,⟨true,false,2,2,q2.map aD⟩)] [] rfl (by simp) rfl (by simp [Region.binds];rfl) (by decide) (by simp [Region.binds];rfl) (by simp;rfl) rfl ?_ ?_;(focus (refine aMu (by simp;exact ⟨rfl,rfl⟩) (by simp) rfl rfl (by decide) (by decide) (by first|(simp;rfl)|rfl) (by simp [AV.plainV]) (by simp [AV.good,AV.cells]) (by simp) (by simp [AV.cells]))))|(refine pV (j:=5) (v:= .obj 8 1) ⟨8,2,[(5,⟨true,false,2,1,[[.str a.host,.str a.path]]⟩)]⟩ [] [] rfl (by simp) rfl (by simp [Region.binds];rfl) (by decide) (by simp [Region.binds];rfl) (by simp;rfl) rfl ?_ ?_;(focus (refine aKd (by simp;exact ⟨rfl,rfl⟩) (by simp) rfl rfl (by decide) (by decide) (by first|(simp;rfl)|rfl) (by simp [AV.flatV,AV.plainV]) (by simp [AV.good,AV.cells]) (by simp) (by simp [AV.cells]))))|(refine aMq rfl ?_ (by simp [Region.binds];rfl) (by decide) (by simp [Region.binds];rfl) (by simp;rfl) ?_ rfl (by first|rfl|(simp;done)) ?_;(focus (first|rfl|(simp;done)));(focus (first|rfl|(simp [gM];done))))|(refine nx ?_;refine so ?_)|fail
  have W:=And.intro e2 hk1
  repeat' first|refine st ?_|(refine nx ?_;first|refine se ?_|refine so ?_)|(refine cx ?_;refine sc (fun hc=>?_) (fun hc=>?_)<;>try exact hc.elim)|(refine lx ?_;refine sp (fun hc=>?_) (fun hc=>?_)<;>try exact hc.elim)|refine sx ?_ ?_|refine sy ?_ ?_|fail
  all_goals (try (refine ⟨by first|exact .inr rfl|exact .inl rfl,?_⟩;simp [mP,iF,gN,rowOf,Tryz.results22]))
theorem aAb [aB Tryz.prog] [cO Tryz.prog] (p:aJ) (U:List aC) (hb:Bnd p U):∀(n:Nat) (a:aC) (s1 s2:List aC),unseen p s1 < n→Seen U (s1,s2)→a∈U→OkG Tryz.prog 22 [.view (.agg (aL .view p)),.view (.agg (aD a)),.give (.sl .own 2 (s1.map aD)),.give (.sl .own 2 (s2.map aD))] (.tup [.sl .own 2 ((bI p n a s1 s2).1.map aD),.sl .own 2 ((bI p n a s1 s2).2.map aD)])
 |0,_,_,_,h,_,_=>absurd h (by omega)
 |n+1,a,s1,s2,h,hs,ha=>by
  have hl:=hs.len
  have hU:=hb.len
  simp only at hl
  cases hn:s1.any (bG a)
  ·exact aH3 p U hb n a ha s1 s2 hn hs h (fun b q1 q2 h1 h2 h3=>aAb p U hb n b q1 q2 h1 h2 h3)
  ·have:bI p (n+1) a s1 s2=(s1,s2):=by simp [bI,hn]
   rw [this]
   exact aFh p a s1 s2 hn (by omega)
theorem nX [aB Tryz.prog] [cO Tryz.prog] (p:aJ) (U:List aC) (hb:Bnd p U) (a:aC) (ha:a∈U):Ok Tryz.prog 8 [.agg (aL .view p),.agg (aD a)] (.sl .own 2 ((bC p a).map aD)):=by
 have c1:=aAb p U hb (unseen p []+1) a [] [] (by omega) ⟨by simp,by simp,by simp,by simp⟩ ha
 unfold bC
 generalize bI p (unseen p []+1) a [] []=w at *
 obtain ⟨w1,w2⟩:=w
 simp only [aD,aL,List.map_nil] at c1
 refine ent Tryz.mix Tryz.func8 Tryz.ntmps8 ?_
 have W:=trivial
 repeat' first|refine st ?_|(refine nx ?_;first|refine se ?_|refine so ?_|refine sg (hc:=c1) (h:=?_))|(refine cx ?_;refine sc (fun hc=>?_) (fun hc=>?_)<;>try exact hc.elim)|(refine lx ?_;refine sp (fun hc=>?_) (fun hc=>?_)<;>try exact hc.elim)|refine sx ?_ ?_|refine sy ?_ ?_|fail
 all_goals (try (refine ⟨.inr rfl,?_⟩;simp [Hands,Tryz.results8]))
end Go.Proofs.YtgkllebnnakojaaGreatDoor
