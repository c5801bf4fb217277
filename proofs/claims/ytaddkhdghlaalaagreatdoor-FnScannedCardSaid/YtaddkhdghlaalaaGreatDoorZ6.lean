/-
  Proved here: steps towards the statement of this claim, text Z6.
  No condition beyond what each statement spells out.
-/
import Derived.Test.YtaddkhdghlaalaaGreatDoorQZ4
import Derived.Test.YtaddkhdghlaalaaGreatDoorF8
set_option linter.all false
set_option maxRecDepth 4000
set_option maxHeartbeats 4000000
namespace Go.Proofs.YtaddkhdghlaalaaGreatDoor
open Go.Aw
def mF (p:aC) (a:aD):Bool:=
 match p.mods.find? (gJ a) with
 |some m=>if m.done=true∧m.code=1 then (bK m.body a.host).2.2 else false
 |none=>false
theorem aDi [aB Tryz.prog] [dB Tryz.prog] (p:aC) (U:List aD) (hb:Bnd p U) (a:aD) (ha:a∈U):Ok Tryz.prog 152 [.agg (aG .view p),.agg (aF a)] (.tup [.sl .own 2 ((gI p a).map aF),.bool (mF p a)]):=by
 have hps:=hb.hs
 simp only [aJ,szL] at hps
 have c2:=sW p a (by omega)
 unfold gI mF
 rcases oP (gJ a) p.mods with ⟨hi,hf⟩|⟨k,hk,hi,hf⟩
 ·rw [hf]
  rw [hi] at c2
  simp only [aF,aG] at c2
  refine ent Tryz.mix Tryz.func152 Tryz.ntmps152 ?_
  refine aW ?_
  exact aM Tryz.results152
 ·rw [hf]
  rw [hi] at c2
  have hm:=List.getElem_mem hk
  have hz:=dL bI hm
  have hha:=hb.host _ ha
  have hg:=List.getElem?_eq_getElem hk
  simp only [bI,aI] at hz
  have cp:=uL p.mods[k].body a.host (by omega) hha
  simp only [aF,aG] at c2
  simp only
  generalize bK p.mods[k].body a.host=w at *
  obtain ⟨w1,w2,w3⟩:=w
  simp only at cp
  have hk0:¬((k:Nat):Int) < 0:=by omega
  cases hd1:p.mods[k].done
  ·refine ent Tryz.mix Tryz.func152 Tryz.ntmps152 ?_
   have W:=And.intro hk0 (And.intro hg (And.intro hk hd1))
   refine we ?_
   exact aM Tryz.results152
  ·by_cases hd2:p.mods[k].code=1
   ·simp only [hd2,and_self,if_true]
    refine ent Tryz.mix Tryz.func152 Tryz.ntmps152 ?_
    have W:=And.intro hk0 (And.intro hg (And.intro hk (And.intro hd1 hd2)))
    refine we ?_
    exact aM Tryz.results152
   ·simp only [hd2,and_false,if_false]
    refine ent Tryz.mix Tryz.func152 Tryz.ntmps152 ?_
    have W:=And.intro hk0 (And.intro hg (And.intro hk (And.intro hd1 hd2)))
    refine we ?_
    exact aM Tryz.results152
theorem aMs [aB Tryz.prog] [dB Tryz.prog] (p:aC) (a:aD) (s1 s2:List aD) (hn:s1.any (eG a)=true) (h1:s1.length≤1073741824):
  OkG Tryz.prog 198 [.view (.agg (aG .view p)),.view (.agg (aF a)),.give (.sl .own 2 (s1.map aF)),.give (.sl .own 2 (s2.map aF))] (.tup [.sl .own 2 (s1.map aF),.sl .own 2 (s2.map aF)]):=by
 have c1:=uP s1 a (by omega)
 simp only [aF] at c1
 rw [hn] at c1
 refine qD Tryz.mix Tryz.func198 Tryz.ntmps198 ?_
 refine aW ?_
 all_goals (try (refine ⟨by first|exact .inr rfl|exact .inl rfl,?_⟩;simp [iM,fB,eH,rowOf,Tryz.results198]))
theorem aVd {t t':List AV} {o o':List aA} {v:Nat} {l1 l4 m1 m2:List (List AV)} {o0 o2 o3 o5 o6:aA}
  (ho:o=[o0,⟨false,false,2,1,l1⟩,o2,o3,⟨false,false,2,v,l4⟩,o5,o6,⟨true,false,2,1,m1⟩,⟨true,false,2,1,m2⟩])
  (ho':o'=[o0,⟨true,false,2,1,m2⟩,o2,o3,⟨true,false,2,1,m1⟩,o5,o6])
  (hf:(o0.rsw 4 7=o0∧o2.rsw 4 7=o2∧o3.rsw 4 7=o3∧o5.rsw 4 7=o5∧o6.rsw 4 7=o6)∧(o0.rsw 1 8=o0∧o2.rsw 1 8=o2∧o3.rsw 1 8=o3∧o5.rsw 1 8=o5∧o6.rsw 1 8=o6))
  (hw:wk t (lD 4 7 (lD 1 8 t'))) (h1:wk (lD 4 7 (lD 4 7 (lD 1 8 t'))) (lD 1 8 t')) (h3:wk (lD 1 8 (lD 1 8 t')) t') (hc:fV 7 t'=true) (hc0:eO 7 [o0,o2,o3,o5,o6]=true):fG ⟨t,o⟩ ⟨t',o'⟩:=by
 subst ho;subst ho'
 obtain ⟨⟨a0,a2,a3,a5,a6⟩,b0,b2,b3,b5,b6⟩:=hf
 refine (vG hw).trans ?_
 refine (bH 4 7 rfl rfl ⟨rfl,rfl⟩ (by simp [a0,a2,a3,a5,a6];rfl) h1).trans ?_
 refine (bH 1 8 rfl rfl ⟨rfl,rfl⟩ (by simp [b0,b2,b3,b5,b6];rfl) h3).trans ?_
 refine aN 7 (by simp) (kQ _) hc ?_
 simpa [eO,fV,closed] using hc0
theorem aP7 [aB Tryz.prog] [dB Tryz.prog] (p:aC) (U:List aD) (hb:Bnd p U) (n:Nat) (a:aD) (ha:a∈U) (s1 s2:List aD) (hn:s1.any (eG a)=false) (hs:Seen U (s1,s2)) (hf:unseen p s1 < n+1)
  (ih:∀(b:aD) (q1 q2:List aD),unseen p q1 < n→Seen U (q1,q2)→b∈U→OkG Tryz.prog 198 [.view (.agg (aG .view p)),.view (.agg (aF b)),.give (.sl .own 2 (q1.map aF)),.give (.sl .own 2 (q2.map aF))] (.tup [.sl .own 2 ((fU p n b q1 q2).1.map aF),.sl .own 2 ((fU p n b q1 q2).2.map aF)])):
  OkG Tryz.prog 198 [.view (.agg (aG .view p)),.view (.agg (aF a)),.give (.sl .own 2 (s1.map aF)),.give (.sl .own 2 (s2.map aF))] (.tup [.sl .own 2 ((fU p (n+1) a s1 s2).1.map aF),.sl .own 2 ((fU p (n+1) a s1 s2).2.map aF)]):=by
 have hps:=hb.hs
 have hl:=hs.len
 have hU:=hb.len
 simp only [aJ,szL] at hps
 simp only at hl
 have c1:=uP s1 a (by omega)
 have c2:=aDi p U hb a ha
 rw [hn] at c1
 have hna:a∉s1:=fun h=>by rw [uD.2 h] at hn;cases hn
 obtain ⟨t1,ht1⟩:∃l:List aD,l=s1++[a]:=⟨_,rfl⟩
 have e1:s1.map aF++[[.str a.host,.str a.path]]=t1.map aF:=by simp [ht1]
 have hl1:(s1.map aF).length=s1.length:=by simp
 have hv:fU p (n+1) a s1 s2=((iB p n (gI p a) (s1++[a],s2)).1,(iB p n (gI p a) (s1++[a],s2)).2++[a]):=by
  simp only [fU,hn,iB];rfl
 rw [hv]
 clear hv
 rw [←ht1]
 have hst:Seen U (t1,s2):=by
  subst ht1
  exact ⟨List.nodup_append.2 ⟨hs.nd,by simp,fun x hx y hy e=>hna (by simp at hy;subst hy;subst e;exact hx)⟩,fun x hx=>by
   rcases List.mem_append.1 hx with h|h
   ·exact hs.sub x h
   ·simp at h;subst h;exact ha,hs.ond,fun x hx=>List.mem_append_left _ (hs.osub x hx)⟩
 have hun:gI p a≠[]→unseen p t1 < n:=by
  intro h
  have:=bA9 (p:=p) (s:=s1) (a:=a) (by rw [hn];simp) (aX1 h)
  rw [←ht1] at this
  omega
 have hLU:∀b∈gI p a,b∈U:=fun b h=>hb.im b (aLm p a b h)
 have hLl:(gI p a).length≤1073741824:=by
  unfold gI
  split
  ·rename_i m hm
   split
   ·have h1:=hb.ps m (List.mem_of_find?_eq_some hm)
    have h2:=List.find?_some hm
    simp only [gJ,decide_eq_true_eq] at h2
    rwa [h2] at h1
   ·simp
  ·simp
 clear ht1
 generalize mF p a=ok at *
 generalize gI p a=L at *
 simp only [aF,aG] at c1 c2
 refine bIk Tryz.mix [3,8,9] Tryz.func198 Tryz.ntmps198 ?_
 have W:=And.intro e1 hl1
 refine we ?_
 refine aNy [⟨4,2,[(5,⟨true,false,2,3,t1.map aF⟩),(2,⟨true,false,2,2,s1.map aF⟩),(0,⟨true,false,2,1,[]⟩)]⟩,⟨5,2,[(4,⟨true,false,2,1,[[.str a.host,.str a.path]]⟩)]⟩] (by simp;rfl) (by decide+kernel) (by decide+kernel) (by simp [iA,pre,Region.binds]) (by simp) ?_
 repeat' first|refine aZ7 (by simp;rfl) (by simp;rfl) ?_|(refine aWi ?_ (by simp;rfl) ?_;(focus (simp;done)))|(refine wT (j:=5) (v:= .obj 4 3) ⟨4,2,[(5,⟨true,false,2,3,t1.map aF⟩),(2,⟨true,false,2,2,s1.map aF⟩),(0,⟨true,false,2,1,[]⟩)]⟩ [] [(2,⟨true,false,2,2,s1.map aF⟩),(0,⟨true,false,2,1,[]⟩)] rfl (by simp) rfl (by simp [Region.binds];rfl) (by decide) (by simp [Region.binds];rfl) (by simp;rfl) rfl ?_ ?_;(focus (refine aAy (by first|(simp;rfl)|(simp;done)|rfl) rfl (by first|(simp;rfl)|(simp;done)|rfl) (by first|(simp;rfl)|(simp;done)|rfl) (by first|(simp;rfl)|(simp;done)|rfl) (by first|(simp;done)|decide) (by first|rfl|exact vO (fun _=>rfl) _|(simp [nS,AV.plainV];done)) (by first|(simp;rfl)|(simp;done)|rfl|exact W.1|exact W.2.1|exact W|(simp [W];done)) (by simp;exact ⟨rfl,rfl⟩) (by simp) (by simp) (by simp;omega) (by simp;omega))))|(refine wT (j:=2) (v:= .obj 4 2) ⟨4,2,[(5,⟨true,false,2,3,t1.map aF⟩),(2,⟨true,false,2,2,s1.map aF⟩),(0,⟨true,false,2,1,[]⟩)]⟩ [(5,⟨true,false,2,3,t1.map aF⟩)] [(0,⟨true,false,2,1,[]⟩)] rfl (by simp) rfl (by simp [Region.binds];rfl) (by decide) (by simp [Region.binds];rfl) (by simp;rfl) rfl ?_ ?_;(focus (refine aAy (by first|(simp;rfl)|(simp;done)|rfl) rfl (by first|(simp;rfl)|(simp;done)|rfl) (by first|(simp;rfl)|(simp;done)|rfl) (by first|(simp;rfl)|(simp;done)|rfl) (by first|(simp;done)|decide) (by first|rfl|exact vO (fun _=>rfl) _|(simp [nS,AV.plainV];done)) (by first|(simp;rfl)|(simp;done)|rfl|exact W.1|exact W.2.1|exact W|(simp [W];done)) (by simp;exact ⟨rfl,rfl⟩) (by simp) (by simp) (by simp;omega) (by simp;omega))))|(refine wT (j:=0) (v:= .obj 4 1) ⟨4,2,[(5,⟨true,false,2,3,t1.map aF⟩),(2,⟨true,false,2,2,s1.map aF⟩),(0,⟨true,false,2,1,[]⟩)]⟩ [(5,⟨true,false,2,3,t1.map aF⟩),(2,⟨true,false,2,2,s1.map aF⟩)] [] rfl (by simp) rfl (by simp [Region.binds];rfl) (by decide) (by simp [Region.binds];rfl) (by simp;rfl) rfl ?_ ?_;(focus (refine aWf (by simp;exact ⟨rfl,rfl⟩) (by simp) rfl rfl (by decide) (by decide) (by first|(simp;rfl)|rfl) (by simp [AV.plainV]) (by simp [AV.good,AV.cells]) (by simp) (by simp [AV.cells]))))|(refine wT (j:=4) (v:= .obj 5 1) ⟨5,2,[(4,⟨true,false,2,1,[[.str a.host,.str a.path]]⟩)]⟩ [] [] rfl (by simp) rfl (by simp [Region.binds];rfl) (by decide) (by simp [Region.binds];rfl) (by simp;rfl) rfl ?_ ?_;(focus (refine aRm (by simp;exact ⟨rfl,rfl⟩) (by simp) rfl rfl (by decide) (by decide) (by first|(simp;rfl)|rfl) (by simp [AV.flatV,AV.plainV]) (by simp [AV.good,AV.cells]) (by simp) (by simp [AV.cells]))))|(refine aWm rfl ?_ (by simp [Region.binds];rfl) (by decide) (by simp [Region.binds];rfl) (by simp;rfl) ?_ rfl (by first|rfl|(simp;done)) ?_;(focus (first|rfl|(simp;done)));(focus (first|rfl|(simp [jS];done))))|(refine nx ?_;refine so ?_)|fail
 have W:=And.intro e1 hl1
 refine we ?_
 refine aR (ι:={k:Nat×Nat // k.1≤L.length∧1≤k.2}) (fun t o i=>⟨aS t [(12,.int .i64 i.1.1),(2,.obj 4 i.1.2),(3,.obj 1 1),(8,.undef),(9,.undef),(18,.undef),(20,.undef),(23,.undef)],(o.set 1 ⟨true,false,2,1,(iB p n (L.take i.1.1) (t1,s2)).2.map aF⟩).set 4 ⟨true,false,2,i.1.2,(iB p n (L.take i.1.1) (t1,s2)).1.map aF⟩⟩)
  (fun i=>L.length - i.1.1) ⟨(0,3),by simp,by simp⟩ (aO (by simp [iB]) (by simp)) ?_
 rintro ⟨⟨k,v⟩,hk,hv⟩ K1 hK1
 simp only [aS,List.set_cons_succ,List.set_cons_zero] at hk hv hK1⊢
 have hk1:=wk1 (k:=k) (by omega)
 by_cases hlt:k < L.length
 ·have hg2:=List.getElem?_eq_getElem hlt
  obtain ⟨f1,f2⟩:=aEf hb.im n (L.take k) (t1,s2) (fun b h=>hLU b (List.mem_of_mem_take h)) hst
  have f3:=aU8 (p:=p) f2
  have hne:L≠[]:=by intro h;rw [h] at hlt;simp at hlt
  have hun':=hun hne
  have c3:=ih L[k] (iB p n (L.take k) (t1,s2)).1 (iB p n (L.take k) (t1,s2)).2 (by simp only at f3;omega) f1 (hLU _ (List.getElem_mem hlt))
  have hnext:iB p n (L.take (k+1)) (t1,s2)=fU p n L[k] (iB p n (L.take k) (t1,s2)).1 (iB p n (L.take k) (t1,s2)).2:=by
   rw [List.take_succ_eq_append_getElem hlt,aNo]
  generalize iB p n (L.take k) (t1,s2)=q at *
  obtain ⟨q1,q2⟩:=q
  simp only at c3 hnext⊢
  generalize fU p n L[k] q1 q2=w at *
  obtain ⟨w1,w2⟩:=w
  simp only [aF,aG] at c3
  have W:=And.intro hk1 (And.intro hg2 hlt)
  refine we ?_
  rw [rG]
  refine aBn (by simp;rfl) (by simp;rfl) (by decide+kernel) (by decide) (by first|rfl|(simp [aHh];done)) (by simp) (by simp) ?_
  iterate 7 (
   refine aDk rfl (by first|rfl|(simp;done)) (by simp [Region.binds];rfl) (by decide) (by simp [Region.binds];rfl) (by simp;rfl) ?_ ?_
   ·first|rfl|(simp [jS];done)
   refine nx ?_
   refine so ?_
   refine kN ?_
   refine aDw (by simp;done) (by simp;rfl) (by simp;rfl) ?_)
  refine aAv (s1:= ?s1) (by decide+kernel) (by simp [nC,reach,iA,Region.binds,List.range_succ];rfl) ?ha ?hk
  case ha=>
   repeat' (first|refine st ?_|(refine nx ?_;first|refine so ?_|refine sg (hc:=c3) (h:= ?_))|refine sx ?_ ?_|refine sy ?_ ?_|fail)
   all_goals rfl
  case hk=>
   have W:=hk1
   refine we ?_
   refine hK1 _ ⟨(k+1,1),by simp only;omega,by simp⟩ ?_ (by simp only;omega)
   simp only [hnext]
   refine aVd rfl rfl (by simp) (by simp) (by simp) (by simp) (by simp) (by simp [eO,fV,closed])
 ·have htk:L.take k=L:=List.take_of_length_le (by omega)
  rw [htk]
  have f1:=(aEf hb.im n L (t1,s2) hLU hst).1.len
  generalize iB p n L (t1,s2)=q at *
  obtain ⟨q1,q2⟩:=q
  simp only at f1
  have hl2:(q2.map aF).length=q2.length:=by simp
  obtain ⟨t2,ht2⟩:∃l:List aD,l=q2++[a]:=⟨_,rfl⟩
  have e2:q2.map aF++[[.str a.host,.str a.path]]=t2.map aF:=by simp [ht2]
  simp only
  rw [←ht2]
  clear ht2
  have W:=And.intro e2 hk1
  refine we ?_
  refine aNy [⟨7,2,[(6,⟨true,false,2,3,t2.map aF⟩),(3,⟨true,false,2,2,q2.map aF⟩),(1,⟨true,false,2,1,[]⟩)]⟩,⟨8,2,[(5,⟨true,false,2,1,[[.str a.host,.str a.path]]⟩)]⟩] (by simp;rfl) (by decide+kernel) (by decide+kernel) (by simp [iA,pre,Region.binds]) (by simp) ?_
  repeat' first|refine aZ7 (by simp;rfl) (by simp;rfl) ?_|(refine aWi ?_ (by simp;rfl) ?_;(focus (simp;done)))|(refine wT (j:=6) (v:= .obj 7 3) ⟨7,2,[(6,⟨true,false,2,3,t2.map aF⟩),(3,⟨true,false,2,2,q2.map aF⟩),(1,⟨true,false,2,1,[]⟩)]⟩ [] [(3,⟨true,false,2,2,q2.map aF⟩),(1,⟨true,false,2,1,[]⟩)] rfl (by simp) rfl (by simp [Region.binds];rfl) (by decide) (by simp [Region.binds];rfl) (by simp;rfl) rfl ?_ ?_;(focus (refine aAy (by first|(simp;rfl)|(simp;done)|rfl) rfl (by first|(simp;rfl)|(simp;done)|rfl) (by first|(simp;rfl)|(simp;done)|rfl) (by first|(simp;rfl)|(simp;done)|rfl) (by first|(simp;done)|decide) (by first|rfl|exact vO (fun _=>rfl) _|(simp [nS,AV.plainV];done)) (by first|(simp;rfl)|(simp;done)|rfl|exact W.1|exact W.2.1|exact W|(simp [W];done)) (by simp;exact ⟨rfl,rfl⟩) (by simp) (by simp) (by simp;omega) (by simp;omega))))|(refine wT (j:=3) (v:= .obj 7 2) ⟨7,2,[(6,⟨true,false,2,3,t2.map aF⟩),(3,⟨true,false,2,2,q2.map aF⟩),(1,⟨true,false,2,1,[]⟩)]⟩ [(6,⟨true,false,2,3,t2.map aF⟩)] [(1,⟨true,false,2,1,[]⟩)] rfl (by simp) rfl (by simp [Region.binds];rfl) (by decide) (by simp [Region.binds];rfl) (by simp;rfl) rfl ?_ ?_;(focus (refine aAy (by first|(simp;rfl)|(simp;done)|rfl) rfl (by first|(simp;rfl)|(simp;done)|rfl) (by first|(simp;rfl)|(simp;done)|rfl) (by first|(simp;rfl)|(simp;done)|rfl) (by first|(simp;done)|decide) (by first|rfl|exact vO (fun _=>rfl) _|(simp [nS,AV.plainV];done)) (by first|(simp;rfl)|(simp;done)|rfl|exact W.1|exact W.2.1|exact W|(simp [W];done)) (by simp;exact ⟨rfl,rfl⟩) (by simp) (by simp) (by simp;omega) (by simp;omega))))|(refine wT (j:=1) (v:= .obj 7 1) ⟨7,2,[(6,⟨true,false,2,3,t2.map aF⟩),(3,⟨true,false,2,2,q2.map aF⟩),(1,⟨true,false,2,1,[]⟩)]⟩ [(6,⟨true,false,2,3,t2.map aF⟩),(3,⟨true,false,2,2,q2.map aF⟩)] [] rfl (by simp) rfl (by simp [Region.binds];rfl) (by decide) (by simp [Region.binds];rfl) (by simp;rfl) rfl ?_ ?_;(focus (refine aWf (by simp;exact ⟨rfl,rfl⟩) (by simp) rfl rfl (by decide) (by decide) (by first|(simp;rfl)|rfl) (by simp [AV.plainV]) (by simp [AV.good,AV.cells]) (by simp) (by simp [AV.cells]))))|(refine wT (j:=5) (v:= .obj 8 1) ⟨8,2,[(5,⟨true,false,2,1,[[.str a.host,.str a.path]]⟩)]⟩ [] [] rfl (by simp) rfl (by simp [Region.binds];rfl) (by decide) (by simp [Region.binds];rfl) (by simp;rfl) rfl ?_ ?_;(focus (refine aRm (by simp;exact ⟨rfl,rfl⟩) (by simp) rfl rfl (by decide) (by decide) (by first|(simp;rfl)|rfl) (by simp [AV.flatV,AV.plainV]) (by simp [AV.good,AV.cells]) (by simp) (by simp [AV.cells]))))|(refine aWm rfl ?_ (by simp [Region.binds];rfl) (by decide) (by simp [Region.binds];rfl) (by simp;rfl) ?_ rfl (by first|rfl|(simp;done)) ?_;(focus (first|rfl|(simp;done)));(focus (first|rfl|(simp [jS];done))))|(refine nx ?_;refine so ?_)|fail
  have W:=And.intro e2 hk1
  refine we ?_
  all_goals (try (refine ⟨by first|exact .inr rfl|exact .inl rfl,?_⟩;simp [iM,fB,eH,rowOf,Tryz.results198]))
theorem aFz [aB Tryz.prog] [dB Tryz.prog] (p:aC) (U:List aD) (hb:Bnd p U):∀(n:Nat) (a:aD) (s1 s2:List aD),unseen p s1 < n→Seen U (s1,s2)→a∈U→OkG Tryz.prog 198 [.view (.agg (aG .view p)),.view (.agg (aF a)),.give (.sl .own 2 (s1.map aF)),.give (.sl .own 2 (s2.map aF))] (.tup [.sl .own 2 ((fU p n a s1 s2).1.map aF),.sl .own 2 ((fU p n a s1 s2).2.map aF)])
 |0,_,_,_,h,_,_=>absurd h (by omega)
 |n+1,a,s1,s2,h,hs,ha=>by
  have hl:=hs.len
  have hU:=hb.len
  simp only at hl
  cases hn:s1.any (eG a)
  ·exact aP7 p U hb n a ha s1 s2 hn hs h (fun b q1 q2 h1 h2 h3=>aFz p U hb n b q1 q2 h1 h2 h3)
  ·have:fU p (n+1) a s1 s2=(s1,s2):=by simp [fU,hn]
   rw [this]
   exact aMs p a s1 s2 hn (by omega)
theorem yL [aB Tryz.prog] [dB Tryz.prog] (p:aC) (U:List aD) (hb:Bnd p U) (a:aD) (ha:a∈U):Ok Tryz.prog 177 [.agg (aG .view p),.agg (aF a)] (.sl .own 2 ((fA p a).map aF)):=by
 have c1:=aFz p U hb (unseen p []+1) a [] [] (by omega) ⟨by simp,by simp,by simp,by simp⟩ ha
 unfold fA
 generalize fU p (unseen p []+1) a [] []=w at *
 obtain ⟨w1,w2⟩:=w
 simp only [aF,aG,List.map_nil] at c1
 refine ent Tryz.mix Tryz.func177 Tryz.ntmps177 ?_
 have W:=trivial
 repeat' first|refine st ?_|(refine nx ?_;first|refine se ?_|refine so ?_|refine sg (hc:=c1) (h:=?_))|(refine cx ?_;first|refine sT ?_|refine sF ?_)|fail
 exact aM Tryz.results177
end Go.Proofs.YtaddkhdghlaalaaGreatDoor
