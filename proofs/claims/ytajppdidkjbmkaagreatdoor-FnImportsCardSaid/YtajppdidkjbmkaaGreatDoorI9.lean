/-
  Proved here: steps towards the statement of this claim, text I9.
  No condition beyond what each statement spells out.
-/
import Derived.Test.YtajppdidkjbmkaaGreatDoorQI4
set_option linter.all false
set_option maxRecDepth 4000
set_option maxHeartbeats 4000000
namespace Go.Proofs.YtajppdidkjbmkaaGreatDoor
open Go.Aw
def jZ:List (Nat×Nat):=[(4,20),(5,21),(6,22),(7,23),(8,24),(9,25),(10,26),(11,27),(12,28),(13,29),(14,30)]
theorem aPz {t t':List AV} {o o':List aA} {o0 o1 o2 o3 m0 m1 m2 e0:aA} {q0 q:aY} (ho:o=[o0,o1,o2,o3]++lJ q0++[⟨true,true,22,0,[kJ 20 q]⟩,m0,m1,m2,e0]++lJ q) (ho':o'=[o0,o1,o2,o3]++lJ q++[⟨true,true,22,0,[kJ 4 q]⟩,m0,m1,m2])
  (ht:∀z∈jZ,wk (qH z.1 z.2 t') t') (hf:∀z∈jZ,o0.rsw z.1 z.2=o0∧o1.rsw z.1 z.2=o1∧o2.rsw z.1 z.2=o2∧o3.rsw z.1 z.2=o3∧m0.rsw z.1 z.2=m0∧m1.rsw z.1 z.2=m1∧m2.rsw z.1 z.2=m2) (hw:wk t t') (hc:jI 19 t'=true) (hc0:nR 19 [o0,o1,o2,o3,m0,m1,m2]=true):dR ⟨t,o⟩ ⟨t',o'⟩:=by
 subst ho;subst ho'
 have e:=fun i j (h:(i,j)∈jZ)=>hf (i,j) h
 have h:=fun i j (h:(i,j)∈jZ)=>ht (i,j) h
 simp only [lJ,kJ,List.cons_append,List.nil_append]
 refine (yM hw).trans ?_
 refine (eF 4 20 rfl rfl ⟨rfl,rfl⟩ (by simp [(e 4 20 (by decide))];rfl) (h 4 20 (by decide))).trans ?_
 refine (eF 5 21 rfl rfl ⟨rfl,rfl⟩ (by simp [(e 5 21 (by decide))];rfl) (h 5 21 (by decide))).trans ?_
 refine (eF 6 22 rfl rfl ⟨rfl,rfl⟩ (by simp [(e 6 22 (by decide))];rfl) (h 6 22 (by decide))).trans ?_
 refine (eF 7 23 rfl rfl ⟨rfl,rfl⟩ (by simp [(e 7 23 (by decide))];rfl) (h 7 23 (by decide))).trans ?_
 refine (eF 8 24 rfl rfl ⟨rfl,rfl⟩ (by simp [(e 8 24 (by decide))];rfl) (h 8 24 (by decide))).trans ?_
 refine (eF 9 25 rfl rfl ⟨rfl,rfl⟩ (by simp [(e 9 25 (by decide))];rfl) (h 9 25 (by decide))).trans ?_
 refine (eF 10 26 rfl rfl ⟨rfl,rfl⟩ (by simp [(e 10 26 (by decide))];rfl) (h 10 26 (by decide))).trans ?_
 refine (eF 11 27 rfl rfl ⟨rfl,rfl⟩ (by simp [(e 11 27 (by decide))];rfl) (h 11 27 (by decide))).trans ?_
 refine (eF 12 28 rfl rfl ⟨rfl,rfl⟩ (by simp [(e 12 28 (by decide))];rfl) (h 12 28 (by decide))).trans ?_
 refine (eF 13 29 rfl rfl ⟨rfl,rfl⟩ (by simp [(e 13 29 (by decide))];rfl) (h 13 29 (by decide))).trans ?_
 refine (eF 14 30 rfl rfl ⟨rfl,rfl⟩ (by simp [(e 14 30 (by decide))];rfl) (h 14 30 (by decide))).trans ?_
 refine aQ 19 (by simp) (kW _) hc ?_
 simpa [nR,jI,closed] using hc0
theorem aAk {q:aY} {a:aH} {m:bN} (hf:q.mods.find? (fH a)=some m):mD q a=if m.done=true∧m.code=1 then (aX m.body a.host).1 else []:=by unfold mD;rw [hf]
theorem aDo {q:aY} {a:aH} {m:bN} (hf:q.mods.find? (fH a)=some m) (hb:m.body.length≤400) (ha:aO a≤1048576):(mD q a).length≤57∧∀b∈mD q a,aO b≤1048976:=by
 rw [aAk hf]
 split
 ·obtain ⟨h1,_,h3⟩:=rU m.body a.host
  refine ⟨by omega,fun b hb=> ?_⟩
  have:=h3 b hb
  simp only [aO] at ha this⊢
  omega
 ·simp
theorem aDl {q:aY} {l:List aH} (h0:bJ q≤1048976) (h1:l.length≤57) (h2:∀b∈l,aO b≤1048976) (i:Nat):bJ (dN q (l.take i))≤61000000:=by
 have h:=aAe 1048976 (l.take i) q (fun x hx=>h2 x (List.mem_of_mem_take hx))
 have h3:(l.take i).length≤57:=by rw [List.length_take];omega
 have h4:=Nat.mul_le_mul_right (1048976+1) h3
 omega
theorem uQ [aB Tryz.prog] [cZ Tryz.prog] [iD Tryz.prog] (p:aY) (a:aH) (x:bA) (hs:bJ p+aO a≤1048576) (hx:bB x≤1048576):Ok Tryz.prog 10 [.agg (aI .view p),.agg (aL a),.agg (aV x)] (.agg (aI .own (bS p a x))):=by
 have hs1:bJ p≤1048576:=by omega
 have hml:p.mods.length≤1048576:=by simp only [bJ,szL] at hs1;omega
 have hpol:bM p.policy≤274877906944:=by simp only [bJ] at hs1;omega
 have c1:=aDb p (by omega)
 have c2:=aK8 p a (by omega)
 rcases mE (fH a) p.mods with ⟨hi,hf⟩|⟨k,hk,hi,hf⟩
 ·rw [vE hi]
  rw [hi] at c2
  simp only [aI,aL] at c1 c2
  refine ent Tryz.mix Tryz.func10 Tryz.ntmps10 ?_
  have W:=trivial
  repeat' first|refine st ?_|(refine nx ?_;first|refine se ?_|refine so ?_)|(refine cx ?_;refine sc (fun hc=>?_) (fun hc=>?_)<;>try exact hc.elim)|(refine lx ?_;refine sp (fun hc=>?_) (fun hc=>?_)<;>try exact hc.elim)|refine sx ?_ ?_|refine sy ?_ ?_|fail
  all_goals (try (refine ⟨.inr rfl,?_⟩;simp [Hands,Tryz.results10]))
 ·have hg:=List.getElem?_eq_getElem hk
  rw [hi] at c2
  have hk0:¬((k:Nat):Int) < 0:=by omega
  cases hd:p.mods[k].done
  ·rw [xD hi hg hd]
   have cR:=pG p k (by omega) (by omega) (by omega)
   have e:lT p (k:Int)=bU p p.mods[k]:=by simp [lT,hg]
   rw [e] at cR
   have hrq:gK (bU p p.mods[k])≤2097152:=by
    have hm:=jN dV (List.getElem_mem hk)
    simp only [dV] at hm
    simp only [gK,bU,List.length_nil]
    simp only [bJ,szL,aO] at hs1 hm⊢
    omega
   have c3:=rO p.policy (bU p p.mods[k]) x hpol (by omega) hx
   have c4:=aCz p.policy (bU p p.mods[k]) x hpol (by omega) hx
   simp only [aI,dL] at cR
   simp only [bD,dL,aV] at c3 c4
   simp only [aI,aL] at c1 c2
   clear e
   have hfi:=tX (x:=x) hi hk hf
   have hqs:=aGx p k hk x
   have hub:=wY p.policy (bU p p.mods[k]) x
   have hset:(p.mods.map bL).set k [.str p.mods[k].to.host,.str p.mods[k].to.path,.bool true,.int .i64 (dI p.policy (bU p p.mods[k]) x),.str (gZ p.policy (bU p p.mods[k]) x)]=(p.mods.set k (bY p p.mods[k] x)).map bL:=by rw [List.map_set];rfl
   have hg3:(p.mods.set k (bY p p.mods[k] x))[k]? =some (bY p p.mods[k] x):=by rw [List.getElem?_set_self hk]
   unfold qI
   have hfm:(bY p p.mods[k] x).done=true∧(bY p p.mods[k] x).code=dI p.policy (bU p p.mods[k]) x∧(bY p p.mods[k] x).body=gZ p.policy (bU p p.mods[k]) x:=⟨rfl,rfl,rfl⟩
   have hl3:(p.mods.set k (bY p p.mods[k] x)).length=p.mods.length:=by simp
   generalize dI p.policy (bU p p.mods[k]) x=c at *
   generalize gZ p.policy (bU p p.mods[k]) x=y at *
   generalize bU p p.mods[k]=rq at *
   generalize bY p p.mods[k] x=m3 at *
   generalize p.mods.set k m3=L3 at *
   obtain ⟨f1,f2,f3⟩:=hfm
   have hlt3:k < L3.length:=by omega
   have e3:∀h,(L3[k]'h)=m3:=fun h=>by rw [List.getElem?_eq_getElem h] at hg3;exact Option.some.inj hg3
   obtain ⟨b1,b2⟩:=aDo (q:={p with mods:=L3}) hfi (by rw [f3];exact hub) (by omega)
   have hv:=aAk (q:={p with mods:=L3}) hfi
   generalize mD {p with mods:=L3} a=L at *
   by_cases hc1:c=1
   ·rw [if_pos ⟨f1,by rw [f2];exact hc1⟩,f3] at hv
    have cP:=uM y a.host (by omega) (by simp only [aO] at hs;omega)
    generalize aX y a.host=u at *
    obtain ⟨u1,u2,u3⟩:=u
    simp only at hv cP
    subst hv
    subst hc1
    refine ent Tryz.mix Tryz.func10 Tryz.ntmps10 ?_
    have W:=And.intro hk0 (And.intro hg (And.intro hd (And.intro hk (And.intro hset (And.intro hlt3 (And.intro e3 (And.intro f1 (And.intro f2 f3))))))))
    repeat' first|refine st ?_|(refine nx ?_;first|refine se ?_|refine so ?_)|(refine cx ?_;refine sc (fun hc=>?_) (fun hc=>?_)<;>try exact hc.elim)|(refine lx ?_;refine sp (fun hc=>?_) (fun hc=>?_)<;>try exact hc.elim)|refine sx ?_ ?_|refine sy ?_ ?_|fail
    have hq0:bJ {p with mods:=L3}≤1048976:=by omega
    have hts:=aDl hq0 b1 b2
    have hsn:=fun i (h:i < L.length)=>show dN {p with mods:=L3} (L.take (i+1))=dB (dN {p with mods:=L3} (L.take i)) L[i] by rw [List.take_succ_eq_append_getElem h,aC2]
    have h00:dN {p with mods:=L3} (L.take 0)={p with mods:=L3}:=by simp [dN]
    have hall:L.length≤1099511627776:=by omega
    refine aJ (ι:={k:Nat // k≤L.length}) (fun t o i=>⟨aS t [(84,.int .i64 i.1),(14,.undef),(16,.undef),(35,.undef),(37,.undef),(38,.undef),(40,.undef),(47,.undef),(48,.undef),(51,.undef),(60,.undef),(61,.undef),(63,.undef),(65,.undef),(66,.undef),(71,.undef),(73,.undef),(74,.undef)],o.take 4++lJ (dN {p with mods:=L3} (L.take i.1))++[⟨true,true,22,0,[kJ 4 (dN {p with mods:=L3} (L.take i.1))]⟩]++o.drop 16⟩)
     (fun i=>L.length - i.1) ⟨0,by simp⟩ (aD (by simp only [h00];simp [lJ,kJ]) (by simp)) ?_
    rintro ⟨i,hi2⟩ K1 hK1
    have hi1:IntKind.i64.wrap ((i:Int)+1)=((i+1:Nat):Int):=by rw [wrap64]<;>omega
    by_cases hlt:i < L.length
    ·have hgi:=List.getElem?_eq_getElem hlt
     have cA:=aDx (dN {p with mods:=L3} (L.take i)) L[i] (by have:=hts i;omega) (by have:=b2 _ (List.getElem_mem hlt);omega)
     have hnext:=hsn i hlt
     rw [←hnext] at cA
     have hK2:=hK1
     simp only [aS,List.set_cons_succ,List.set_cons_zero,List.take_succ_cons,List.take_zero,List.cons_append,List.nil_append,List.drop_succ_cons,List.drop_zero,lJ,kJ] at hK1⊢
     clear hsn h00 hnext hts
     generalize hq1:dN {p with mods:=L3} (L.take i)=q at *
     generalize hq2:dN {p with mods:=L3} (L.take (i+1))=q' at *
     simp only [aI,aL] at cA
     have W:=And.intro hi1 (And.intro hgi hlt)
     repeat' first|refine st ?_|(refine nx ?_;first|refine se ?_|refine so ?_)|(refine cx ?_;refine sc (fun hc=>?_) (fun hc=>?_)<;>try exact hc.elim)|(refine lx ?_;refine sp (fun hc=>?_) (fun hc=>?_)<;>try exact hc.elim)|refine sx ?_ ?_|refine sy ?_ ?_|fail
     refine hK2 _ ⟨i+1,by omega⟩ ?_ (by simp only;omega)
     simp only [hq2]
     exact aPz (q0:=q) (q:=q') rfl (by simp [lJ,kJ]) (by simp [jZ]) (by simp [jZ]) (by simp) (by simp) (by simp)
    ·have htk:L.take i=L:=List.take_of_length_le (by omega)
     have hK2:=hK1
     simp only [aS,List.set_cons_succ,List.set_cons_zero,List.take_succ_cons,List.take_zero,List.cons_append,List.nil_append,List.drop_succ_cons,List.drop_zero,lJ,kJ,htk] at hK1⊢
     clear hsn h00 hts hK2 hK1
     generalize dN {p with mods:=L3} L=q at *
     have W:=And.intro hi1 hlt
     repeat' first|refine st ?_|(refine nx ?_;first|refine se ?_|refine so ?_)|(refine cx ?_;refine sc (fun hc=>?_) (fun hc=>?_)<;>try exact hc.elim)|(refine lx ?_;refine sp (fun hc=>?_) (fun hc=>?_)<;>try exact hc.elim)|refine sx ?_ ?_|refine sy ?_ ?_|fail
     all_goals (try (refine ⟨.inr rfl,?_⟩;simp [Hands,Tryz.results10]))
   ·rw [if_neg (fun h=>hc1 (by rw [←f2];exact h.2))] at hv
    subst hv
    have hnil:dN {p with mods:=L3} []={p with mods:=L3}:=rfl
    rw [hnil]
    refine ent Tryz.mix Tryz.func10 Tryz.ntmps10 ?_
    have W:=And.intro hk0 (And.intro hg (And.intro hd (And.intro hk (And.intro hset (And.intro hlt3 (And.intro e3 (And.intro f1 (And.intro f2 (And.intro f3 hc1)))))))))
    repeat' first|refine st ?_|(refine nx ?_;first|refine se ?_|refine so ?_)|(refine cx ?_;refine sc (fun hc=>?_) (fun hc=>?_)<;>try exact hc.elim)|(refine lx ?_;refine sp (fun hc=>?_) (fun hc=>?_)<;>try exact hc.elim)|refine sx ?_ ?_|refine sy ?_ ?_|fail
    all_goals (try (refine ⟨.inr rfl,?_⟩;simp [Hands,Tryz.results10]))
  ·rw [vC hi hg hd]
   simp only [aI,aL] at c1 c2
   refine ent Tryz.mix Tryz.func10 Tryz.ntmps10 ?_
   have W:=And.intro hk0 (And.intro hg (And.intro hd hk))
   repeat' first|refine st ?_|(refine nx ?_;first|refine se ?_|refine so ?_)|(refine cx ?_;refine sc (fun hc=>?_) (fun hc=>?_)<;>try exact hc.elim)|(refine lx ?_;refine sp (fun hc=>?_) (fun hc=>?_)<;>try exact hc.elim)|refine sx ?_ ?_|refine sy ?_ ?_|fail
   all_goals (try (refine ⟨.inr rfl,?_⟩;simp [Hands,Tryz.results10]))
end Go.Proofs.YtajppdidkjbmkaaGreatDoor
