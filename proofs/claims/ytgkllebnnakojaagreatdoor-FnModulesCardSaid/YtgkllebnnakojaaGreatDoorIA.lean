/-
  Proved here: steps towards the statement of this claim, text IA.
  No condition beyond what each statement spells out.
-/
import Derived.Test.YtgkllebnnakojaaGreatDoorQI5
set_option linter.all false
set_option maxRecDepth 4000
set_option maxHeartbeats 4000000
namespace Go.Proofs.YtgkllebnnakojaaGreatDoor
open Go.Aw
def jL:List (Nat×Nat):=[(4,18),(5,19),(6,20),(7,21),(8,22),(9,23),(10,24),(11,25),(12,26),(13,27),(14,28)]
theorem aO5 {t t':List AV} {o o':List aA} {o0 o1 o2 o3 m0 m1:aA} {q0 q:aJ} (ho:o=[o0,o1,o2,o3]++uL q0++[⟨true,true,22,0,[sQ 18 q]⟩,m0,m1]++uL q) (ho':o'=[o0,o1,o2,o3]++uL q++[⟨true,true,22,0,[sQ 4 q]⟩,m0,m1])
  (ht:∀z∈jL,wk (jO z.1 z.2 t') t') (hf:∀z∈jL,o0.rsw z.1 z.2=o0∧o1.rsw z.1 z.2=o1∧o2.rsw z.1 z.2=o2∧o3.rsw z.1 z.2=o3∧m0.rsw z.1 z.2=m0∧m1.rsw z.1 z.2=m1) (hw:wk t t') (hc:gL 18 t'=true) (hc0:jK 18 [o0,o1,o2,o3,m0,m1]=true):dV ⟨t,o⟩ ⟨t',o'⟩:=by
 subst ho;subst ho'
 have e:=fun i j (h:(i,j)∈jL)=>hf (i,j) h
 have h:=fun i j (h:(i,j)∈jL)=>ht (i,j) h
 simp only [uL,sQ,List.cons_append,List.nil_append]
 refine (vJ hw).trans ?_
 refine (iC 4 18 rfl rfl ⟨rfl,rfl⟩ (by simp [(e 4 18 (by decide))];rfl) (h 4 18 (by decide))).trans ?_
 refine (iC 5 19 rfl rfl ⟨rfl,rfl⟩ (by simp [(e 5 19 (by decide))];rfl) (h 5 19 (by decide))).trans ?_
 refine (iC 6 20 rfl rfl ⟨rfl,rfl⟩ (by simp [(e 6 20 (by decide))];rfl) (h 6 20 (by decide))).trans ?_
 refine (iC 7 21 rfl rfl ⟨rfl,rfl⟩ (by simp [(e 7 21 (by decide))];rfl) (h 7 21 (by decide))).trans ?_
 refine (iC 8 22 rfl rfl ⟨rfl,rfl⟩ (by simp [(e 8 22 (by decide))];rfl) (h 8 22 (by decide))).trans ?_
 refine (iC 9 23 rfl rfl ⟨rfl,rfl⟩ (by simp [(e 9 23 (by decide))];rfl) (h 9 23 (by decide))).trans ?_
 refine (iC 10 24 rfl rfl ⟨rfl,rfl⟩ (by simp [(e 10 24 (by decide))];rfl) (h 10 24 (by decide))).trans ?_
 refine (iC 11 25 rfl rfl ⟨rfl,rfl⟩ (by simp [(e 11 25 (by decide))];rfl) (h 11 25 (by decide))).trans ?_
 refine (iC 12 26 rfl rfl ⟨rfl,rfl⟩ (by simp [(e 12 26 (by decide))];rfl) (h 12 26 (by decide))).trans ?_
 refine (iC 13 27 rfl rfl ⟨rfl,rfl⟩ (by simp [(e 13 27 (by decide))];rfl) (h 13 27 (by decide))).trans ?_
 refine (iC 14 28 rfl rfl ⟨rfl,rfl⟩ (by simp [(e 14 28 (by decide))];rfl) (h 14 28 (by decide))).trans ?_
 refine aO 18 (by simp) (jR _) hc ?_
 simpa [jK,gL,closed] using hc0
theorem aEn [aB Tryz.prog] [cO Tryz.prog] (p:aJ) (a:aC) (hps:bL p≤268435456) (hha:a.host.length≤1073741824):Ok Tryz.prog 34 [.agg (aL .view p),.agg (aD a)] (.tup [.sl .own 2 ((bR p a).map aD),.bool (fA p a)]):=by
 simp only [bL,szL] at hps
 have c2:=sD p a (by omega)
 unfold bR fA
 rcases gZ (dJ a) p.mods with ⟨hi,hf⟩|⟨k,hk,hi,hf⟩
 ·rw [hf]
  rw [hi] at c2
  simp only [aD,aL] at c2
  refine ent Tryz.mix Tryz.func34 Tryz.ntmps34 ?_
  have W:=trivial
  repeat' first|refine st ?_|(refine nx ?_;first|refine se ?_|refine so ?_)|(refine cx ?_;refine sc (fun hc=>?_) (fun hc=>?_)<;>try exact hc.elim)|(refine lx ?_;refine sp (fun hc=>?_) (fun hc=>?_)<;>try exact hc.elim)|refine sx ?_ ?_|refine sy ?_ ?_|fail
  all_goals (try (refine ⟨.inr rfl,?_⟩;simp [Hands,Tryz.results34]))
 ·rw [hf]
  rw [hi] at c2
  have hm:=List.getElem_mem hk
  have hz:=gI bJ hm
  have hg:=List.getElem?_eq_getElem hk
  simp only [bJ,aK] at hz
  have cp:=tF p.mods[k].body a.host (by omega) hha
  simp only [aD,aL] at c2
  simp only
  generalize aN p.mods[k].body a.host=w at *
  obtain ⟨w1,w2,w3⟩:=w
  simp only at cp
  have hk0:¬((k:Nat):Int) < 0:=by omega
  cases hd1:p.mods[k].done
  ·refine ent Tryz.mix Tryz.func34 Tryz.ntmps34 ?_
   have W:=And.intro hk0 (And.intro hg (And.intro hk hd1))
   repeat' first|refine st ?_|(refine nx ?_;first|refine se ?_|refine so ?_)|(refine cx ?_;refine sc (fun hc=>?_) (fun hc=>?_)<;>try exact hc.elim)|(refine lx ?_;refine sp (fun hc=>?_) (fun hc=>?_)<;>try exact hc.elim)|refine sx ?_ ?_|refine sy ?_ ?_|fail
   all_goals (try (refine ⟨.inr rfl,?_⟩;simp [Hands,Tryz.results34]))
  ·by_cases hd2:p.mods[k].code=1
   ·simp only [hd2,and_self,if_true]
    refine ent Tryz.mix Tryz.func34 Tryz.ntmps34 ?_
    have W:=And.intro hk0 (And.intro hg (And.intro hk (And.intro hd1 hd2)))
    repeat' first|refine st ?_|(refine nx ?_;first|refine se ?_|refine so ?_)|(refine cx ?_;refine sc (fun hc=>?_) (fun hc=>?_)<;>try exact hc.elim)|(refine lx ?_;refine sp (fun hc=>?_) (fun hc=>?_)<;>try exact hc.elim)|refine sx ?_ ?_|refine sy ?_ ?_|fail
    all_goals (try (refine ⟨.inr rfl,?_⟩;simp [Hands,Tryz.results34]))
   ·simp only [hd2,and_false,if_false]
    refine ent Tryz.mix Tryz.func34 Tryz.ntmps34 ?_
    have W:=And.intro hk0 (And.intro hg (And.intro hk (And.intro hd1 hd2)))
    repeat' first|refine st ?_|(refine nx ?_;first|refine se ?_|refine so ?_)|(refine cx ?_;refine sc (fun hc=>?_) (fun hc=>?_)<;>try exact hc.elim)|(refine lx ?_;refine sp (fun hc=>?_) (fun hc=>?_)<;>try exact hc.elim)|refine sx ?_ ?_|refine sy ?_ ?_|fail
    all_goals (try (refine ⟨.inr rfl,?_⟩;simp [Hands,Tryz.results34]))
theorem aCb [aB Tryz.prog] [cO Tryz.prog] (p:aJ) (a:aC) (x:aZ) (hs:bL p+aK a≤1048576) (hx:bS x≤1048576):Ok Tryz.prog 41 [.agg (aL .view p),.agg (aD a),.agg (bU x)] (.agg (aL .own (fE p a x))):=by
 have hs1:bL p≤1048576:=by omega
 have hml:p.mods.length≤1048576:=by simp only [bL,szL] at hs1;omega
 have hpol:dK p.policy≤274877906944:=by simp only [bL] at hs1;omega
 have c1:=wQ p (by omega)
 have c2:=sD p a (by omega)
 rcases gZ (dJ a) p.mods with ⟨hi,hf⟩|⟨k,hk,hi,hf⟩
 ·rw [zB hi]
  rw [hi] at c2
  simp only [aL,aD] at c1 c2
  refine ent Tryz.mix Tryz.func41 Tryz.ntmps41 ?_
  have W:=trivial
  repeat' first|refine st ?_|(refine nx ?_;first|refine se ?_|refine so ?_)|(refine cx ?_;refine sc (fun hc=>?_) (fun hc=>?_)<;>try exact hc.elim)|(refine lx ?_;refine sp (fun hc=>?_) (fun hc=>?_)<;>try exact hc.elim)|refine sx ?_ ?_|refine sy ?_ ?_|fail
  all_goals (try (refine ⟨.inr rfl,?_⟩;simp [Hands,Tryz.results41]))
 ·have hg:=List.getElem?_eq_getElem hk
  rw [hi] at c2
  have hk0:¬((k:Nat):Int) < 0:=by omega
  cases hd:p.mods[k].done
  ·rw [aBe hi hg hd]
   have cR:=aB9 p k (by omega) (by omega) (by omega)
   have e:aA9 p (k:Int)=eU p p.mods[k]:=by simp [aA9,hg]
   rw [e] at cR
   have hrq:lZ (eU p p.mods[k])≤2097152:=by
    have hm:=gI bJ (List.getElem_mem hk)
    simp only [bJ] at hm
    simp only [lZ,eU,List.length_nil]
    simp only [bL,szL,aK] at hs1 hm⊢
    omega
   have c3:=qG p.policy (eU p p.mods[k]) x hpol (by omega) hx
   have c4:=aB7 p.policy (eU p p.mods[k]) x hpol (by omega) hx
   simp only [aL,iM] at cR
   simp only [cB,iM,bU] at c3 c4
   simp only [aL,aD] at c1 c2
   clear e
   have hfi:=wU (x:=x) hi hk hf
   have hqs:=aNa p k hk x
   have hub:=aA1 p.policy (eU p p.mods[k]) x
   have hset:(p.mods.map dQ).set k [.str p.mods[k].to.host,.str p.mods[k].to.path,.bool true,.int .i64 (gJ p.policy (eU p p.mods[k]) x),.str (kX p.policy (eU p p.mods[k]) x)]=(p.mods.set k (dP p p.mods[k] x)).map dQ:=by rw [List.map_set];rfl
   have hg3:(p.mods.set k (dP p p.mods[k] x))[k]? =some (dP p p.mods[k] x):=by rw [List.getElem?_set_self hk]
   unfold uO
   have hfm:(dP p p.mods[k] x).done=true∧(dP p p.mods[k] x).code=gJ p.policy (eU p p.mods[k]) x∧(dP p p.mods[k] x).body=kX p.policy (eU p p.mods[k]) x:=⟨rfl,rfl,rfl⟩
   have hl3:(p.mods.set k (dP p p.mods[k] x)).length=p.mods.length:=by simp
   generalize gJ p.policy (eU p p.mods[k]) x=c at *
   generalize kX p.policy (eU p p.mods[k]) x=y at *
   generalize eU p p.mods[k]=rq at *
   generalize dP p p.mods[k] x=m3 at *
   generalize p.mods.set k m3=L3 at *
   obtain ⟨f1,f2,f3⟩:=hfm
   have hlt3:k < L3.length:=by omega
   have e3:∀h,(L3[k]'h)=m3:=fun h=>by rw [List.getElem?_eq_getElem h] at hg3;exact Option.some.inj hg3
   obtain ⟨b1,b2⟩:=aMe (q:={p with mods:=L3}) hfi (by rw [f3];exact hub) (by omega)
   have cI:=aEn {p with mods:=L3} a (by omega) (by simp only [aK] at hs;omega)
   generalize bR {p with mods:=L3} a=L at *
   generalize fA {p with mods:=L3} a=ok at *
   simp only [aL,aD] at cI
   refine ent Tryz.mix Tryz.func41 Tryz.ntmps41 ?_
   have W:=And.intro hk0 (And.intro hg (And.intro hd (And.intro hk (And.intro hset (And.intro hlt3 (And.intro e3 (And.intro f1 (And.intro f2 f3))))))))
   repeat' first|refine st ?_|(refine nx ?_;first|refine se ?_|refine so ?_)|(refine cx ?_;refine sc (fun hc=>?_) (fun hc=>?_)<;>try exact hc.elim)|(refine lx ?_;refine sp (fun hc=>?_) (fun hc=>?_)<;>try exact hc.elim)|refine sx ?_ ?_|refine sy ?_ ?_|fail
   have hq0:bL {p with mods:=L3}≤1048976:=by omega
   have hts:=aLh hq0 b1 b2
   have hsn:=fun i (h:i < L.length)=>show gF {p with mods:=L3} (L.take (i+1))=dF (gF {p with mods:=L3} (L.take i)) L[i] by rw [List.take_succ_eq_append_getElem h,aLj]
   have h00:gF {p with mods:=L3} (L.take 0)={p with mods:=L3}:=by simp [gF]
   have hall:L.length≤1099511627776:=by omega
   refine aT (ι:={k:Nat // k≤L.length}) (fun t o i=>⟨bB t [(12,.int .i64 i.1),(14,.undef),(33,.undef),(35,.undef),(36,.undef),(38,.undef),(45,.undef),(46,.undef),(49,.undef),(58,.undef),(59,.undef),(61,.undef)],o.take 4++uL (gF {p with mods:=L3} (L.take i.1))++[⟨true,true,22,0,[sQ 4 (gF {p with mods:=L3} (L.take i.1))]⟩]++o.drop 16⟩)
    (fun i=>L.length - i.1) ⟨0,by simp⟩ (aI (by simp only [h00];simp [uL,sQ]) (by simp)) ?_
   rintro ⟨i,hi2⟩ K1 hK1
   have hi1:IntKind.i64.wrap ((i:Int)+1)=((i+1:Nat):Int):=by rw [wrap64]<;>omega
   by_cases hlt:i < L.length
   ·have hgi:=List.getElem?_eq_getElem hlt
    have cA:=vK (gF {p with mods:=L3} (L.take i)) L[i] (by have:=hts i;omega) (by have:=b2 _ (List.getElem_mem hlt);omega)
    have hnext:=hsn i hlt
    rw [←hnext] at cA
    have hK2:=hK1
    simp only [bB,List.set_cons_succ,List.set_cons_zero,List.take_succ_cons,List.take_zero,List.cons_append,List.nil_append,List.drop_succ_cons,List.drop_zero,uL,sQ] at hK1⊢
    clear hsn h00 hnext hts
    generalize hq1:gF {p with mods:=L3} (L.take i)=q at *
    generalize hq2:gF {p with mods:=L3} (L.take (i+1))=q' at *
    simp only [aL,aD] at cA
    have W:=And.intro hi1 (And.intro hgi hlt)
    repeat' first|refine st ?_|(refine nx ?_;first|refine se ?_|refine so ?_)|(refine cx ?_;refine sc (fun hc=>?_) (fun hc=>?_)<;>try exact hc.elim)|(refine lx ?_;refine sp (fun hc=>?_) (fun hc=>?_)<;>try exact hc.elim)|refine sx ?_ ?_|refine sy ?_ ?_|fail
    refine hK2 _ ⟨i+1,by omega⟩ ?_ (by simp only;omega)
    simp only [hq2]
    exact aO5 (q0:=q) (q:=q') rfl (by simp [uL,sQ]) (by simp [jL]) (by simp [jL]) (by simp) (by simp) (by simp)
   ·have htk:L.take i=L:=List.take_of_length_le (by omega)
    have hK2:=hK1
    simp only [bB,List.set_cons_succ,List.set_cons_zero,List.take_succ_cons,List.take_zero,List.cons_append,List.nil_append,List.drop_succ_cons,List.drop_zero,uL,sQ,htk] at hK1⊢
    clear hsn h00 hts hK2 hK1
    generalize gF {p with mods:=L3} L=q at *
    have W:=And.intro hi1 hlt
    repeat' first|refine st ?_|(refine nx ?_;first|refine se ?_|refine so ?_)|(refine cx ?_;refine sc (fun hc=>?_) (fun hc=>?_)<;>try exact hc.elim)|(refine lx ?_;refine sp (fun hc=>?_) (fun hc=>?_)<;>try exact hc.elim)|refine sx ?_ ?_|refine sy ?_ ?_|fail
    all_goals (try (refine ⟨.inr rfl,?_⟩;simp [Hands,Tryz.results41]))
  ·rw [zK hi hg hd]
   simp only [aL,aD] at c1 c2
   refine ent Tryz.mix Tryz.func41 Tryz.ntmps41 ?_
   have W:=And.intro hk0 (And.intro hg (And.intro hd hk))
   repeat' first|refine st ?_|(refine nx ?_;first|refine se ?_|refine so ?_)|(refine cx ?_;refine sc (fun hc=>?_) (fun hc=>?_)<;>try exact hc.elim)|(refine lx ?_;refine sp (fun hc=>?_) (fun hc=>?_)<;>try exact hc.elim)|refine sx ?_ ?_|refine sy ?_ ?_|fail
   all_goals (try (refine ⟨.inr rfl,?_⟩;simp [Hands,Tryz.results41]))
end Go.Proofs.YtgkllebnnakojaaGreatDoor
