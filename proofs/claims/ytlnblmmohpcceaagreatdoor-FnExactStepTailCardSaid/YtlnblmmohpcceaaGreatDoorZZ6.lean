/- Proved here: steps towards the statement of this claim. No condition. -/
import Derived.Test.YtlnblmmohpcceaaGreatDoorZZ5
set_option linter.all false
set_option maxRecDepth 4000
set_option maxHeartbeats 4000000
namespace Go.Proofs.YtlnblmmohpcceaaGreatDoor
open Go.Aw Proofs.Tryz List IntKind
def kM (p:aP) (a:aT):Bool:=
 match p.aX.find? (pF a) with
 |some m=>if m.done=true/\m.code=1 then (bA m.body a.host).2.2 else false
 |none=>false
theorem DF [aD prog] [eO prog] (p:aP) (U:List aT) (hb:jk p U) (a:aT) (ha:a∈U):Ok prog 217 [.agg (aM .view p),.agg (aK a)] (.gV [.sl .own 2 ((lC p a).map aK),.bool (kM p a)]):=by
 have hps:=hb.hs
 simp only [aL,bP] at hps
 have c2:=Dt p a (by omega)
 unfold lC kM
 rcases zK (pF a) p.aX with ⟨hi,hf⟩|⟨k,hk,hi,hf⟩
 ·rw [hf]
  rw [hi] at c2
  simp only [aK,aM] at c2
  refine bR aAc func217 ntmps217 ?_
  have W:=trivial
  repeat' first|refine we ?_|(refine sq ?_ ?_<;>intro hc<;>try exact hc.elim)|fail
  all_goals try(refine ⟨.inr rfl,?_⟩;simp [aB,results217])
 ·rw [hf]
  rw [hi] at c2
  have hm:=getElem_mem hk
  have hz:=bU bE hm
  have hha:=hb.host _ ha
  have hg:=getElem?_eq_getElem hk
  simp only [bE,aV] at hz
  have cp:=zJ p.aX[k].body a.host (by omega) hha
  simp only [aK,aM] at c2
  simp only
  generalize bA p.aX[k].body a.host=w at *
  obtain ⟨w1,w2,w3⟩:=w
  simp only at cp
  have hk0:¬((k:Nat):Int) < 0:=by omega
  cases hd1:p.aX[k].done
  ·refine bR aAc func217 ntmps217 ?_
   have W:=aA hk0 (aA hg (aA hk hd1))
   repeat' first|refine we ?_|(refine sq ?_ ?_<;>intro hc<;>try exact hc.elim)|fail
   all_goals try(refine ⟨.inr rfl,?_⟩;simp [aB,results217])
  ·by_cases hd2:p.aX[k].code=1
   ·simp only [hd2,and_self,if_true]
    refine bR aAc func217 ntmps217 ?_
    have W:=aA hk0 (aA hg (aA hk (aA hd1 hd2)))
    repeat' first|refine we ?_|(refine sq ?_ ?_<;>intro hc<;>try exact hc.elim)|fail
    all_goals try(refine ⟨.inr rfl,?_⟩;simp [aB,results217])
   ·simp only [hd2,and_false,if_false]
    refine bR aAc func217 ntmps217 ?_
    have W:=aA hk0 (aA hg (aA hk (aA hd1 hd2)))
    repeat' first|refine we ?_|(refine sq ?_ ?_<;>intro hc<;>try exact hc.elim)|fail
    all_goals try(refine ⟨.inr rfl,?_⟩;simp [aB,results217])
theorem Oj [aD prog] [eO prog] (p:aP) (a:aT) (s1 s2:List aT) (hn:s1.any (gL a)=true) (h1:s1.length<=1073741824):
  IJ prog 216 [.view (.agg (aM .view p)),.view (.agg (aK a)),.mE (.sl .own 2 (s1.map aK)),.mE (.sl .own 2 (s2.map aK))] (.gV [.sl .own 2 (s1.map aK),.sl .own 2 (s2.map aK)]):=by
 have c1:=zC s1 a (by omega)
 simp only [aK] at c1
 rw [hn] at c1
 refine oI aAc func216 ntmps216 ?_
 have W:=trivial
 repeat' first|refine we ?_|(refine sq ?_ ?_<;>intro hc<;>try exact hc.elim)|fail
 all_goals try(refine ⟨by first|exact .inr rfl|exact .inl rfl,?_⟩;simp [eZ,cZ,bZ,rowOf,results216])
theorem Wt {t t':List AV} {o o':List aG} {v:Nat} {l1 l4 m1 m2:List (List AV)} {o0 o2 o3 o5 o6:aG}
  (ho:o=[o0,⟨false,false,2,1,l1⟩,o2,o3,⟨false,false,2,v,l4⟩,o5,o6,⟨true,false,2,1,m1⟩,⟨true,false,2,1,m2⟩])
  (ho':o'=[o0,⟨true,false,2,1,m2⟩,o2,o3,⟨true,false,2,1,m1⟩,o5,o6])
  (hf:(o0.mH 4 7=o0/\o2.mH 4 7=o2/\o3.mH 4 7=o3/\o5.mH 4 7=o5/\o6.mH 4 7=o6)/\(o0.mH 1 8=o0/\o2.mH 1 8=o2/\o3.mH 1 8=o3/\o5.mH 1 8=o5/\o6.mH 1 8=o6))
  (hw:wk t (qI 4 7 (qI 1 8 t'))) (h1:wk (qI 4 7 (qI 4 7 (qI 1 8 t'))) (qI 1 8 t')) (h3:wk (qI 1 8 (qI 1 8 t')) t') (hc:fM 7 t'=true) (hc0:dL 7 [o0,o2,o3,o5,o6]=true):lS ⟨t,o⟩ ⟨t',o'⟩:=by
 subst ho;subst ho'
 obtain ⟨⟨a0,a2,a3,a5,a6⟩,b0,b2,b3,b5,b6⟩:=hf
 refine (wZ hw).trans ?_
 refine (bJ 4 7 rfl rfl ⟨rfl,rfl⟩ (by simp [a0,a2,a3,a5,a6];rfl) h1).trans ?_
 refine (bJ 1 8 rfl rfl ⟨rfl,rfl⟩ (by simp [b0,b2,b3,b5,b6];rfl) h3).trans ?_
 refine aS 7 (by simp) (kK _) hc ?_
 simpa [dL,fM,closed] using hc0
theorem Qg [aD prog] [eO prog] (p:aP) (U:List aT) (hb:jk p U) (n:Nat) (a:aT) (ha:a∈U) (s1 s2:List aT) (hn:s1.any (gL a)=false) (hs:Seen U (s1,s2)) (hf:nW p s1 < n+1)
  (ih:∀(b:aT) (q1 q2:List aT),nW p q1 < n->Seen U (q1,q2)->b∈U->IJ prog 216 [.view (.agg (aM .view p)),.view (.agg (aK b)),.mE (.sl .own 2 (q1.map aK)),.mE (.sl .own 2 (q2.map aK))] (.gV [.sl .own 2 ((eU p n b q1 q2).1.map aK),.sl .own 2 ((eU p n b q1 q2).2.map aK)])):
  IJ prog 216 [.view (.agg (aM .view p)),.view (.agg (aK a)),.mE (.sl .own 2 (s1.map aK)),.mE (.sl .own 2 (s2.map aK))] (.gV [.sl .own 2 ((eU p (n+1) a s1 s2).1.map aK),.sl .own 2 ((eU p (n+1) a s1 s2).2.map aK)]):=by
 have hps:=hb.hs
 have hl:=hs.len
 have hU:=hb.len
 simp only [aL,bP] at hps
 simp only at hl
 have c1:=zC s1 a (by omega)
 have c2:=DF p U hb a ha
 rw [hn] at c1
 have hna:a∉s1:=fun h=>by rw [uS.2 h] at hn;cases hn
 obtain ⟨t1,ht1⟩:∃l:List aT,l=s1++[a]:=⟨_,rfl⟩
 have e1:s1.map aK++[[.str a.host,.str a.path]]=t1.map aK:=by simp [ht1]
 have hl1:(s1.map aK).length=s1.length:=by simp
 have hv:eU p (n+1) a s1 s2=((dG p n (lC p a) (s1++[a],s2)).1,(dG p n (lC p a) (s1++[a],s2)).2++[a]):=by
  simp only [eU,hn,dG];rfl
 rw [hv]
 clear hv
 rw [<-ht1]
 have hst:Seen U (t1,s2):=by
  subst ht1
  exact ⟨nodup_append.2 ⟨hs.nd,by simp,fun x hx y hy e=>hna (by simp at hy;subst hy;subst e;exact hx)⟩,fun x hx=>by
   rcases mem_append.1 hx with h|h
   ·exact hs.sub x h
   ·simp at h;subst h;exact ha,hs.ond,fun x hx=>mem_append_left _ (hs.Wm x hx)⟩
 have hun:lC p a≠[]->nW p t1 < n:=by
  intro h
  have:=RA (p:=p) (s:=s1) (a:=a) (by rw [hn];simp) (YP h)
  rw [<-ht1] at this
  omega
 have hLU:∀b∈lC p a,b∈U:=fun b h=>hb.im b (FT p a b h)
 have hLl:(lC p a).length<=1073741824:=by
  unfold lC
  split
  ·rename_i m hm
   split
   ·have h1:=hb.ps m (mem_of_find?_eq_some hm)
    have h2:=find?_some hm
    simp only [pF,decide_eq_true_eq] at h2
    rwa [h2] at h1
   ·simp
  ·simp
 clear ht1
 generalize kM p a=ok at *
 generalize lC p a=L at *
 simp only [aK,aM] at c1 c2
 refine aMa aAc [3,8,9] func216 ntmps216 ?_
 have W:=aA e1 hl1
 repeat' first|refine we ?_|(refine sq ?_ ?_<;>intro hc<;>try exact hc.elim)|fail
 refine go_drawn3 [⟨4,2,[(5,⟨true,false,2,3,t1.map aK⟩),(2,⟨true,false,2,2,s1.map aK⟩),(0,⟨true,false,2,1,[]⟩)]⟩,⟨5,2,[(4,⟨true,false,2,1,[[.str a.host,.str a.path]]⟩)]⟩] (by simp;rfl) (by decide+kernel) (by decide+kernel) (by simp [lN,pre,Region.binds]) (by simp) ?_
 repeat' first|refine N9 (by simp;rfl) (by simp;rfl) ?_|(refine ZV ?_ (by simp;rfl) ?_;(focus (simp;done)))|(refine Ah (j:=5) (v:= .obj 4 3) ⟨4,2,[(5,⟨true,false,2,3,t1.map aK⟩),(2,⟨true,false,2,2,s1.map aK⟩),(0,⟨true,false,2,1,[]⟩)]⟩ [] [(2,⟨true,false,2,2,s1.map aK⟩),(0,⟨true,false,2,1,[]⟩)] rfl (by simp) rfl (by simp [Region.binds];rfl) (by decide) (by simp [Region.binds];rfl) (by simp;rfl) rfl ?_ ?_;(focus (refine Cg (by first|(simp;rfl)|(simp;done)|rfl) rfl (by first|(simp;rfl)|(simp;done)|rfl) (by first|(simp;rfl)|(simp;done)|rfl) (by first|(simp;rfl)|(simp;done)|rfl) (by first|(simp;done)|decide) (by first|rfl|exact vZ (fun _=>rfl) _|(simp [oP,AV.gQ];done)) (by first|(simp;rfl)|(simp;done)|rfl|exact W.1|exact W.2.1|exact W|(simp [W];done)) (by simp;exact ⟨rfl,rfl⟩) (by simp) (by simp) (by simp;omega) (by simp;omega))))|(refine Ah (j:=2) (v:= .obj 4 2) ⟨4,2,[(5,⟨true,false,2,3,t1.map aK⟩),(2,⟨true,false,2,2,s1.map aK⟩),(0,⟨true,false,2,1,[]⟩)]⟩ [(5,⟨true,false,2,3,t1.map aK⟩)] [(0,⟨true,false,2,1,[]⟩)] rfl (by simp) rfl (by simp [Region.binds];rfl) (by decide) (by simp [Region.binds];rfl) (by simp;rfl) rfl ?_ ?_;(focus (refine Cg (by first|(simp;rfl)|(simp;done)|rfl) rfl (by first|(simp;rfl)|(simp;done)|rfl) (by first|(simp;rfl)|(simp;done)|rfl) (by first|(simp;rfl)|(simp;done)|rfl) (by first|(simp;done)|decide) (by first|rfl|exact vZ (fun _=>rfl) _|(simp [oP,AV.gQ];done)) (by first|(simp;rfl)|(simp;done)|rfl|exact W.1|exact W.2.1|exact W|(simp [W];done)) (by simp;exact ⟨rfl,rfl⟩) (by simp) (by simp) (by simp;omega) (by simp;omega))))|(refine Ah (j:=0) (v:= .obj 4 1) ⟨4,2,[(5,⟨true,false,2,3,t1.map aK⟩),(2,⟨true,false,2,2,s1.map aK⟩),(0,⟨true,false,2,1,[]⟩)]⟩ [(5,⟨true,false,2,3,t1.map aK⟩),(2,⟨true,false,2,2,s1.map aK⟩)] [] rfl (by simp) rfl (by simp [Region.binds];rfl) (by decide) (by simp [Region.binds];rfl) (by simp;rfl) rfl ?_ ?_;(focus (refine ZT (by simp;exact ⟨rfl,rfl⟩) (by simp) rfl rfl (by decide) (by decide) (by first|(simp;rfl)|rfl) (by simp [AV.gQ]) (by simp [AV.Au,AV.cells]) (by simp) (by simp [AV.cells]))))|(refine Ah (j:=4) (v:= .obj 5 1) ⟨5,2,[(4,⟨true,false,2,1,[[.str a.host,.str a.path]]⟩)]⟩ [] [] rfl (by simp) rfl (by simp [Region.binds];rfl) (by decide) (by simp [Region.binds];rfl) (by simp;rfl) rfl ?_ ?_;(focus (refine Ws (by simp;exact ⟨rfl,rfl⟩) (by simp) rfl rfl (by decide) (by decide) (by first|(simp;rfl)|rfl) (by simp [AV.DD,AV.gQ]) (by simp [AV.Au,AV.cells]) (by simp) (by simp [AV.cells]))))|(refine ZW rfl ?_ (by simp [Region.binds];rfl) (by decide) (by simp [Region.binds];rfl) (by simp;rfl) ?_ rfl (by first|rfl|(simp;done)) ?_;(focus (first|rfl|(simp;done)));(focus (first|rfl|(simp [lY];done))))|(refine nx ?_;refine so ?_)|fail
 have W:=aA e1 hl1
 repeat' first|refine we ?_|(refine sq ?_ ?_<;>intro hc<;>try exact hc.elim)|fail
 refine aJ (ι:={k:Nat×Nat // k.1<=L.length/\1<=k.2}) (fun t o i=>⟨aZ t [(12,.int .i64 i.1.1),(2,.obj 4 i.1.2),(3,.obj 1 1),(8,.undef),(9,.undef),(18,.undef),(20,.undef),(23,.undef)],(o.set 1 ⟨true,false,2,1,(dG p n (L.take i.1.1) (t1,s2)).2.map aK⟩).set 4 ⟨true,false,2,i.1.2,(dG p n (L.take i.1.1) (t1,s2)).1.map aK⟩⟩)
  (fun i=>L.length - i.1.1) ⟨(0,3),by simp,by simp⟩ (aI (by simp [dG]) (by simp)) ?_
 rintro ⟨⟨k,v⟩,hk,hv⟩ K1 hK1
 simp only [aZ,set_cons_succ,set_cons_zero] at hk hv hK1⊢
 have hk1:i64.wrap ((k:Int)+1)=((k+1:Nat):Int):=by rw [wrap64]<;>omega
 by_cases hlt:k < L.length
 ·have hg2:=getElem?_eq_getElem hlt
  obtain ⟨f1,f2⟩:=zL hb.im n (L.take k) (t1,s2) (fun b h=>hLU b (mem_of_mem_take h)) hst
  have f3:=KD (p:=p) f2
  have hne:L≠[]:=by intro h;rw [h] at hlt;simp at hlt
  have hun':=hun hne
  have c3:=ih L[k] (dG p n (L.take k) (t1,s2)).1 (dG p n (L.take k) (t1,s2)).2 (by simp only at f3;omega) f1 (hLU _ (getElem_mem hlt))
  have hnext:dG p n (L.take (k+1)) (t1,s2)=eU p n L[k] (dG p n (L.take k) (t1,s2)).1 (dG p n (L.take k) (t1,s2)).2:=by
   rw [take_succ_eq_append_getElem hlt,DC]
  generalize dG p n (L.take k) (t1,s2)=q at *
  obtain ⟨q1,q2⟩:=q
  simp only at c3 hnext⊢
  generalize eU p n L[k] q1 q2=w at *
  obtain ⟨w1,w2⟩:=w
  simp only [aK,aM] at c3
  have W:=aA hk1 (aA hg2 hlt)
  repeat' first|refine we ?_|(refine sq ?_ ?_<;>intro hc<;>try exact hc.elim)|fail
  rw [uL]
  refine go_drawn (by simp;rfl) (by simp;rfl) (by decide+kernel) (by decide) (by first|rfl|(simp [Vd];done)) (by simp) (by simp) ?_
  iterate 7 (
   refine go_draw rfl (by first|rfl|(simp;done)) (by simp [Region.binds];rfl) (by decide) (by simp [Region.binds];rfl) (by simp;rfl) ?_ ?_
   ·first|rfl|(simp [lY];done)
   refine nx ?_
   refine so ?_
   refine kN ?_
   refine go_next (by simp;done) (by simp;rfl) (by simp;rfl) ?_)
  refine BM (s1:= ?s1) (by decide+kernel) (by simp [qG,reach,lN,Region.binds,range_succ];rfl) ?ha ?hk
  case ha=>
   repeat' (first|refine st ?_|(refine nx ?_;first|refine so ?_|refine sg (hc:=c3) (h:= ?_))|refine sx ?_ ?_|refine sy ?_ ?_|fail)
   all_goals rfl
  case hk=>
   have W:=hk1
   repeat' first|refine we ?_|(refine sq ?_ ?_<;>intro hc<;>try exact hc.elim)|fail
   refine hK1 _ ⟨(k+1,1),by simp only;omega,by simp⟩ ?_ (by simp only;omega)
   simp only [hnext]
   refine Wt rfl rfl (by simp) (by simp) (by simp) (by simp) (by simp) (by simp [dL,fM,closed])
 ·have htk:L.take k=L:=take_of_length_le (by omega)
  rw [htk]
  have f1:=(zL hb.im n L (t1,s2) hLU hst).1.len
  generalize dG p n L (t1,s2)=q at *
  obtain ⟨q1,q2⟩:=q
  simp only at f1
  have hl2:(q2.map aK).length=q2.length:=by simp
  obtain ⟨t2,ht2⟩:∃l:List aT,l=q2++[a]:=⟨_,rfl⟩
  have e2:q2.map aK++[[.str a.host,.str a.path]]=t2.map aK:=by simp [ht2]
  simp only
  rw [<-ht2]
  clear ht2
  have W:=aA e2 hk1
  repeat' first|refine we ?_|(refine sq ?_ ?_<;>intro hc<;>try exact hc.elim)|fail
  refine go_drawn3 [⟨7,2,[(6,⟨true,false,2,3,t2.map aK⟩),(3,⟨true,false,2,2,q2.map aK⟩),(1,⟨true,false,2,1,[]⟩)]⟩,⟨8,2,[(5,⟨true,false,2,1,[[.str a.host,.str a.path]]⟩)]⟩] (by simp;rfl) (by decide+kernel) (by decide+kernel) (by simp [lN,pre,Region.binds]) (by simp) ?_
  repeat' first|refine N9 (by simp;rfl) (by simp;rfl) ?_|(refine ZV ?_ (by simp;rfl) ?_;(focus (simp;done)))|(refine Ah (j:=6) (v:= .obj 7 3) ⟨7,2,[(6,⟨true,false,2,3,t2.map aK⟩),(3,⟨true,false,2,2,q2.map aK⟩),(1,⟨true,false,2,1,[]⟩)]⟩ [] [(3,⟨true,false,2,2,q2.map aK⟩),(1,⟨true,false,2,1,[]⟩)] rfl (by simp) rfl (by simp [Region.binds];rfl) (by decide) (by simp [Region.binds];rfl) (by simp;rfl) rfl ?_ ?_;(focus (refine Cg (by first|(simp;rfl)|(simp;done)|rfl) rfl (by first|(simp;rfl)|(simp;done)|rfl) (by first|(simp;rfl)|(simp;done)|rfl) (by first|(simp;rfl)|(simp;done)|rfl) (by first|(simp;done)|decide) (by first|rfl|exact vZ (fun _=>rfl) _|(simp [oP,AV.gQ];done)) (by first|(simp;rfl)|(simp;done)|rfl|exact W.1|exact W.2.1|exact W|(simp [W];done)) (by simp;exact ⟨rfl,rfl⟩) (by simp) (by simp) (by simp;omega) (by simp;omega))))|(refine Ah (j:=3) (v:= .obj 7 2) ⟨7,2,[(6,⟨true,false,2,3,t2.map aK⟩),(3,⟨true,false,2,2,q2.map aK⟩),(1,⟨true,false,2,1,[]⟩)]⟩ [(6,⟨true,false,2,3,t2.map aK⟩)] [(1,⟨true,false,2,1,[]⟩)] rfl (by simp) rfl (by simp [Region.binds];rfl) (by decide) (by simp [Region.binds];rfl) (by simp;rfl) rfl ?_ ?_;(focus (refine Cg (by first|(simp;rfl)|(simp;done)|rfl) rfl (by first|(simp;rfl)|(simp;done)|rfl) (by first|(simp;rfl)|(simp;done)|rfl) (by first|(simp;rfl)|(simp;done)|rfl) (by first|(simp;done)|decide) (by first|rfl|exact vZ (fun _=>rfl) _|(simp [oP,AV.gQ];done)) (by first|(simp;rfl)|(simp;done)|rfl|exact W.1|exact W.2.1|exact W|(simp [W];done)) (by simp;exact ⟨rfl,rfl⟩) (by simp) (by simp) (by simp;omega) (by simp;omega))))|(refine Ah (j:=1) (v:= .obj 7 1) ⟨7,2,[(6,⟨true,false,2,3,t2.map aK⟩),(3,⟨true,false,2,2,q2.map aK⟩),(1,⟨true,false,2,1,[]⟩)]⟩ [(6,⟨true,false,2,3,t2.map aK⟩),(3,⟨true,false,2,2,q2.map aK⟩)] [] rfl (by simp) rfl (by simp [Region.binds];rfl) (by decide) (by simp [Region.binds];rfl) (by simp;rfl) rfl ?_ ?_;(focus (refine ZT (by simp;exact ⟨rfl,rfl⟩) (by simp) rfl rfl (by decide) (by decide) (by first|(simp;rfl)|rfl) (by simp [AV.gQ]) (by simp [AV.Au,AV.cells]) (by simp) (by simp [AV.cells]))))|(refine Ah (j:=5) (v:= .obj 8 1) ⟨8,2,[(5,⟨true,false,2,1,[[.str a.host,.str a.path]]⟩)]⟩ [] [] rfl (by simp) rfl (by simp [Region.binds];rfl) (by decide) (by simp [Region.binds];rfl) (by simp;rfl) rfl ?_ ?_;(focus (refine Ws (by simp;exact ⟨rfl,rfl⟩) (by simp) rfl rfl (by decide) (by decide) (by first|(simp;rfl)|rfl) (by simp [AV.DD,AV.gQ]) (by simp [AV.Au,AV.cells]) (by simp) (by simp [AV.cells]))))|(refine ZW rfl ?_ (by simp [Region.binds];rfl) (by decide) (by simp [Region.binds];rfl) (by simp;rfl) ?_ rfl (by first|rfl|(simp;done)) ?_;(focus (first|rfl|(simp;done)));(focus (first|rfl|(simp [lY];done))))|(refine nx ?_;refine so ?_)|fail
  have W:=aA e2 hk1
  repeat' first|refine we ?_|(refine sq ?_ ?_<;>intro hc<;>try exact hc.elim)|fail
  all_goals try(refine ⟨by first|exact .inr rfl|exact .inl rfl,?_⟩;simp [eZ,cZ,bZ,rowOf,results216])
theorem HY [aD prog] [eO prog] (p:aP) (U:List aT) (hb:jk p U):∀(n:Nat) (a:aT) (s1 s2:List aT),nW p s1 < n->Seen U (s1,s2)->a∈U->IJ prog 216 [.view (.agg (aM .view p)),.view (.agg (aK a)),.mE (.sl .own 2 (s1.map aK)),.mE (.sl .own 2 (s2.map aK))] (.gV [.sl .own 2 ((eU p n a s1 s2).1.map aK),.sl .own 2 ((eU p n a s1 s2).2.map aK)])
 |0,_,_,_,h,_,_=>absurd h (by omega)
 |n+1,a,s1,s2,h,hs,ha=>by
  have hl:=hs.len
  have hU:=hb.len
  simp only at hl
  cases hn:s1.any (gL a)
  ·exact Qg p U hb n a ha s1 s2 hn hs h (fun b q1 q2 h1 h2 h3=>HY p U hb n b q1 q2 h1 h2 h3)
  ·have:eU p (n+1) a s1 s2=(s1,s2):=by simp [eU,hn]
   rw [this]
   exact Oj p a s1 s2 hn (by omega)
theorem zN [aD prog] [eO prog] (p:aP) (U:List aT) (hb:jk p U) (a:aT) (ha:a∈U):Ok prog 154 [.agg (aM .view p),.agg (aK a)] (.sl .own 2 ((dH p a).map aK)):=by
 have c1:=HY p U hb (nW p []+1) a [] [] (by omega) ⟨by simp,by simp,by simp,by simp⟩ ha
 unfold dH
 generalize eU p (nW p []+1) a [] []=w at *
 obtain ⟨w1,w2⟩:=w
 simp only [aK,aM,map_nil] at c1
 refine bR aAc func154 ntmps154 ?_
 have W:=trivial
 repeat' first|refine we ?_|(refine nx ?_;refine sg (hc:=c1) (h:=?_))|(refine sq ?_ ?_<;>intro hc<;>try exact hc.elim)|fail
 all_goals try(refine ⟨.inr rfl,?_⟩;simp [aB,results154])
end Go.Proofs.YtlnblmmohpcceaaGreatDoor
