/-
  Proved here: steps towards the statement of this claim, text SRC6p.
  No condition beyond what each statement spells out.
-/
import Derived.Test.YtgkcdgaljknohaaGreatDoorSRLse
import Derived.Test.YtgkcdgaljknohaaGreatDoorSY2
set_option linter.all false
set_option maxRecDepth 4000
set_option maxHeartbeats 4000000
namespace Go.Proofs.YtgkcdgaljknohaaGreatDoor
open Go.Aw
def runStep (ss:List DSheet) (s:DBuilder×Str×List Str) (x:DLine):DBuilder×Str×List Str:=
 ((runLine s.1 ss x).1,s.2.1++(runLine s.1 ss x).2.1,if (runLine s.1 ss x).2.2=[] then s.2.2 else s.2.2++[(runLine s.1 ss x).2.2])
def runScript (b:DBuilder) (ss:List DSheet) (l:List DLine):DBuilder×Str×List Str:=l.foldl (runStep ss) (b,[],[])
theorem sumN_joinR {α:Type} (f:α→Nat):∀a b:List α,sumN f (a++b)=sumN f a+sumN f b
 |[],b=>by simp [sumN]
 |x::xs,b=>by simp only [List.cons_append,sumN,sumN_joinR f xs b];omega
theorem runLine_sz (b:DBuilder) (ss:List DSheet) (x:DLine) (hx:x.text.length≤268435456) (hco:∀n,0≤colorOf ss n∧colorOf ss n≤999) (hn:b.nodes.length≤274877906944):
  szBuilder (runLine b ss x).1≤szBuilder b+x.text.length+1∧(runLine b ss x).2.1.length≤x.text.length∧(runLine b ss x).2.2.length≤x.text.length+30:=by
 have z7:=itoa_len (countName b x.text) (by unfold countName;omega) (by
  unfold countName
  have:=List.length_filter_le (fun y:DNode=>decide (y.name=x.text)) b.nodes
  omega)
 have hc:=hco x.text
 have z8:=itoa_len (colorOf ss x.text) (by omega) (by omega)
 unfold runLine
 split
 ·refine ⟨by simp only;omega,by simp,by simp⟩
 ·split
  ·split
   ·refine ⟨?_,by simp,by simp⟩
    simp only [szBuilder,szL,List.length_append,sumN_joinR,sumN,szNode,List.length_cons,List.length_nil]
    omega
   ·simp only [List.length_nil];omega
  ·split
   ·refine ⟨by simp only;omega,by simp,?_⟩
    simp only [List.length_append,sCount,List.length_cons,List.length_nil];omega
   ·split
    ·refine ⟨by simp only;omega,by simp,?_⟩
     simp only [List.length_append,sLook,List.length_cons,List.length_nil];omega
    ·split
     ·refine ⟨by simp only;omega,by simp,?_⟩
      simp only [List.length_append,sSay,List.length_cons,List.length_nil];omega
     ·simp only [List.length_nil];omega
def runTo (b:DBuilder) (ss:List DSheet) (l:List DLine) (k:Nat):DBuilder×Str×List Str:=runScript b ss (l.take k)
theorem runTo_succ (b:DBuilder) (ss:List DSheet) (l:List DLine) (k:Nat) (h:k < l.length):runTo b ss l (k+1)=runStep ss (runTo b ss l k) l[k]:=by
 unfold runTo runScript
 rw [List.take_succ_eq_append_getElem h,List.foldl_append]
 rfl
theorem runTo_sz (N:Nat) (b:DBuilder) (ss:List DSheet) (l:List DLine) (hN:N≤268435456) (hl:l.length≤6) (hx:∀x∈l,x.text.length≤N) (hco:∀n,0≤colorOf ss n∧colorOf ss n≤999) (hb:szBuilder b≤68719476736):
  ∀k,k≤l.length→szBuilder (runTo b ss l k).1≤szBuilder b+k * (N+1)∧(runTo b ss l k).2.1.length≤k * N∧(runTo b ss l k).2.2.length≤k∧sumN szStr (runTo b ss l k).2.2≤k * (N+30)
 |0,_=>by simp [runTo,runScript,sumN]
 |k+1,h=>by
  obtain ⟨h1,h2,h3,h4⟩:=runTo_sz N b ss l hN hl hx hco hb k (by omega)
  rw [runTo_succ b ss l k (by omega)]
  have hxk:=hx _ (List.getElem_mem (show k < l.length by omega))
  have hkN:k * (N+1)≤6 * (268435456+1):=Nat.mul_le_mul (by omega) (by omega)
  have hn:(runTo b ss l k).1.nodes.length≤274877906944:=by simp only [szBuilder,szL] at h1 hb;omega
  obtain ⟨z1,z2,z3⟩:=runLine_sz (runTo b ss l k).1 ss l[k] (by omega) hco hn
  generalize runTo b ss l k=g at *
  have e1:(k+1) * (N+1)=k * (N+1)+(N+1):=by rw [Nat.add_mul];omega
  have e2:(k+1) * N=k * N+N:=by rw [Nat.add_mul];omega
  have e3:(k+1) * (N+30)=k * (N+30)+(N+30):=by rw [Nat.add_mul];omega
  rw [e1,e2,e3]
  refine ⟨?_,?_,?_,?_⟩
  ·simp only [runStep];omega
  ·simp only [runStep,List.length_append];omega
  ·simp only [runStep]
   split
   ·omega
   ·simp only [List.length_append,List.length_cons,List.length_nil];omega
  ·simp only [runStep]
   split
   ·omega
   ·simp only [sumN_joinR,sumN,szStr];omega
theorem weak_runS {t t':List AV} {o o':List AObj} {v u:Nat} {n0 p0 n1 p1 lg:List (List AV)} {o0 o1:AObj}
  (ho:o.take 9=[o0,o1,⟨true,false,4,1,n0⟩,⟨true,false,1,1,p0⟩,⟨true,true,2,0,[[.obj 7 1,.obj 8 1]]⟩,⟨true,false,1,v,lg⟩,⟨true,true,2,u,[[.obj 7 1,.obj 8 1]]⟩,⟨true,false,4,1,n1⟩,⟨true,false,1,1,p1⟩])
  (ho':o'=[o0,o1,⟨true,false,4,1,n1⟩,⟨true,false,1,1,p1⟩,⟨true,true,2,0,[[.obj 2 1,.obj 3 1]]⟩,⟨true,false,1,v,lg⟩])
  (hf:(o0.rsw 2 7=o0∧o1.rsw 2 7=o1)∧(o0.rsw 3 8=o0∧o1.rsw 3 8=o1)) (hw:wk t t') (h1:wk (rswc 2 7 t') t') (h3:wk (rswc 3 8 t') t') (hc:closedc 6 t'=true) (hc1:closedc 9 t'=true) (hc0:closedo 6 [o0,o1]=true) (hc2:closedo 9 [o0,o1]=true):Weak ⟨t,o⟩ ⟨t',o'⟩:=by
 subst ho'
 obtain ⟨⟨a0,a1⟩,b0,b1⟩:=hf
 refine (weak_take 9 ho hw hc1 (by simpa [closedo,closedc,closed,and_assoc] using hc2)).trans ?_
 refine (weak_swp 2 7 rfl rfl ⟨rfl,rfl⟩ (by simp [a0,a1];rfl) h1).trans ?_
 refine (weak_swp 3 8 rfl rfl ⟨rfl,rfl⟩ (by simp [b0,b1];rfl) h3).trans ?_
 refine weak_take 6 (by simp) (wk_rfl _) hc ?_
 simpa [closedo,closedc,closed] using hc0
end Go.Proofs.YtgkcdgaljknohaaGreatDoor

set_option maxRecDepth 4000
set_option maxHeartbeats 4000000
namespace Go.Proofs.YtgkcdgaljknohaaGreatDoor
open Go.Aw
theorem implRunScript_ok [Tabs Tryz.prog] [HasPow Tryz.prog] (b:DBuilder) (ss:List DSheet) (l:List DLine) (hb:szBuilder b≤68719476736) (h6:l.length≤6) (hx:∀x∈l,x.text.length≤268435456) (hl:ss.length≤1099511627776) (hr:∀x∈ss,x.rules.length≤1099511627776) (hco:∀n,0≤colorOf ss n∧colorOf ss n≤999):
  Ok Tryz.prog 123 [.agg (eBuilder .view b),.sl .view 1 (ss.map (eSheet .view)),.sl .view 2 (l.map eLine)] (.tup [.agg (eBuilder .own (runScript b ss l).1),.str (runScript b ss l).2.1,.sl .own 1 ((runScript b ss l).2.2.map eStr)]):=by
 have c0:=copyBuilder_ok b (by omega)
 have hsz:=runTo_sz 268435456 b ss l (by omega) h6 hx hco hb
 have hsuc:=runTo_succ b ss l
 have hend:runTo b ss l l.length=runScript b ss l:=by simp [runTo]
 have hz0:runTo b ss l 0=(b,[],[]):=rfl
 rw [←hend]
 clear hend
 have cR:=fun (b:DBuilder) (x:DLine) (h1:szBuilder b≤274877906944) (h2:x.text.length≤268435456)=>implRunLine_ok b ss x h1 h2 hl hr hco
 clear hr hco
 generalize runTo b ss l=G at *
 simp only [eBuilder] at c0
 refine ent Tryz.mix Tryz.func123 Tryz.ntmps123 ?_
 have W:=trivial
 repeat' first|refine wl ?_|(refine sq (fun hc=>?_) (fun hc=>?_)<;>try exact hc.elim)|fail
 refine awp_loop' (ι:={q:Nat×Nat // q.1≤l.length∧1≤q.2}) (fun t o i=>⟨upds t [(22,.int .i64 i.1.1),(10,.str (G i.1.1).2.1),(11,.obj 5 i.1.2),(13,.undef),(14,.undef),(15,.undef),(16,.undef),(18,.undef)],o.take 2++[⟨true,false,4,1,(G i.1.1).1.nodes.map (eNode .own)⟩,⟨true,false,1,1,(G i.1.1).1.opens.map eInt⟩,⟨true,true,2,0,[[.obj 2 1,.obj 3 1]]⟩,⟨true,false,1,i.1.2,(G i.1.1).2.2.map eStr⟩]⟩)
  (fun i=>l.length - i.1.1) ⟨(0,1),by simp,by simp⟩ (weak_o (by simp [hz0]) (by simp [hz0])) ?_
 rintro ⟨⟨k,v⟩,hk,hv⟩ K1 hK1
 simp only at hk hv
 simp only [upds,List.set_cons_succ,List.set_cons_zero,List.take_succ_cons,List.take_zero,List.cons_append,List.nil_append] at hK1⊢
 have hk1:IntKind.i64.wrap ((k:Int)+1)=((k+1:Nat):Int):=by rw [wrap64]<;>omega
 by_cases hlt:k < l.length
 ·have hg:=List.getElem?_eq_getElem hlt
  have hxk:=hx _ (List.getElem_mem hlt)
  obtain ⟨s1,s2,s3,_⟩:=hsz k hk
  have hk6:k * (268435456+1)≤6 * (268435456+1):=Nat.mul_le_mul_right _ (by omega)
  have hk7:k * 268435456≤6 * 268435456:=Nat.mul_le_mul_right _ (by omega)
  have hnext:=hsuc k hlt
  have cL:=cR (G k).1 l[k] (by omega) hxk
  have ht1:=(hsz (k+1) (by omega)).2.1
  obtain ⟨n1,p1,mw,ms,hR⟩:∃n1 p1 mw ms,runLine (G k).1 ss l[k]=(⟨n1,p1⟩,mw,ms):=⟨_,_,_,_,rfl⟩
  rw [hR] at cL
  simp only [runStep,hR] at hnext
  rw [hnext] at ht1
  clear hR cR hsz hsuc hx
  generalize hGk:G k=g at *
  obtain ⟨⟨n0,p0⟩,w0,lg0⟩:=g
  simp only at s1 s2 s3 ht1 hnext cL
  have hwl:w0.length+mw.length≤1610612736:=by
   rw [List.length_append] at ht1
   have:(k+1) * 268435456≤6 * 268435456:=Nat.mul_le_mul_right _ (by omega)
   omega
  have hlg:lg0.length≤6:=by omega
  clear s1 s2 s3 ht1
  simp only [eBuilder,eLine] at cL
  by_cases hms:ms=[]
  ·rw [if_pos hms] at hnext
   subst hms
   have W:=And.intro hk1 (And.intro hg hwl)
   have V:=hlt
   repeat' first|refine wl ?_|(refine sq (fun hc=>?_) (fun hc=>?_)<;>try exact hc.elim)|fail
   all_goals refine hK1 _ ⟨(k+1,v),by simp only;omega,by simp only;omega⟩ ?_ (by simp only;omega)
   all_goals exact weak_run rfl (by simp [hnext]) (by simp) (by simp [hnext]) (by simp) (by simp) (by simp) (by simp) (by simp [closedo]) (by simp [closedo])
  ·rw [if_neg hms] at hnext
   have hmb:ms.isEmpty=false:=by cases ms with|nil=>exact absurd rfl hms|cons _ _=>rfl
   have W:=And.intro hk1 (And.intro hg (And.intro hwl (And.intro hms (And.intro hmb hlg))))
   have V:=hlt
   repeat' first|refine wl ?_|(refine sq (fun hc=>?_) (fun hc=>?_)<;>try exact hc.elim)|fail
   all_goals refine hK1 _ ⟨(k+1,v+1),by simp only;omega,by simp only;omega⟩ ?_ (by simp only;omega)
   all_goals exact weak_run rfl (by simp [hnext]) (by simp) (by simp [hnext]) (by simp) (by simp) (by simp) (by simp) (by simp [closedo]) (by simp [closedo])
 ·have hkl:k=l.length:=by omega
  subst hkl
  have W:=hk1
  repeat' first|refine wl ?_|(refine sq (fun hc=>?_) (fun hc=>?_)<;>try exact hc.elim)|fail
  all_goals (try (refine ⟨.inr rfl,?_⟩;simp [Hands,Tryz.results123]))
end Go.Proofs.YtgkcdgaljknohaaGreatDoor

set_option maxRecDepth 4000
set_option maxHeartbeats 4000000
namespace Go.Proofs.YtgkcdgaljknohaaGreatDoor
open Go.Aw
theorem specRunScript_ok [Tabs Tryz.prog] [HasPow Tryz.prog] (b:DBuilder) (ss:List DSheet) (l:List DLine) (hb:szBuilder b≤68719476736) (h6:l.length≤6) (hx:∀x∈l,x.text.length≤268435456) (hl:ss.length≤1099511627776) (hr:∀x∈ss,x.rules.length≤1099511627776) (hco:∀n,0≤colorOf ss n∧colorOf ss n≤999):
  Ok Tryz.prog 37 [.agg (eBuilder .view b),.sl .view 1 (ss.map (eSheet .view)),.sl .view 2 (l.map eLine)] (.tup [.agg (eBuilder .own (runScript b ss l).1),.str (runScript b ss l).2.1,.sl .own 1 ((runScript b ss l).2.2.map eStr)]):=by
 have c0:=specBuilder_ok b (by omega)
 have hsz:=runTo_sz 268435456 b ss l (by omega) h6 hx hco hb
 have hsuc:=runTo_succ b ss l
 have hend:runTo b ss l l.length=runScript b ss l:=by simp [runTo]
 have hz0:runTo b ss l 0=(b,[],[]):=rfl
 rw [←hend]
 clear hend
 have cR:=fun (b:DBuilder) (x:DLine) (h1:szBuilder b≤274877906944) (h2:x.text.length≤268435456)=>specRunLine_ok b ss x h1 h2 hl hr hco
 clear hr hco
 generalize runTo b ss l=G at *
 simp only [eBuilder] at c0
 refine ent Tryz.mix Tryz.func37 Tryz.ntmps37 ?_
 have W:=trivial
 repeat' first|refine wl ?_|(refine sq (fun hc=>?_) (fun hc=>?_)<;>try exact hc.elim)|fail
 refine awp_loop' (ι:={q:Nat×Nat // q.1≤l.length∧1≤q.2}) (fun t o i=>⟨upds t [(12,.int .i64 i.1.1),(10,.str (G i.1.1).2.1),(11,.obj 5 i.1.2),(13,.undef),(13,.undef),(14,.undef),(15,.undef),(17,.undef)],o.take 2++[⟨true,false,4,1,(G i.1.1).1.nodes.map (eNode .own)⟩,⟨true,false,1,1,(G i.1.1).1.opens.map eInt⟩,⟨true,true,2,0,[[.obj 2 1,.obj 3 1]]⟩,⟨true,false,1,i.1.2,(G i.1.1).2.2.map eStr⟩]⟩)
  (fun i=>l.length - i.1.1) ⟨(0,1),by simp,by simp⟩ (weak_o (by simp [hz0]) (by simp [hz0])) ?_
 rintro ⟨⟨k,v⟩,hk,hv⟩ K1 hK1
 simp only at hk hv
 simp only [upds,List.set_cons_succ,List.set_cons_zero,List.take_succ_cons,List.take_zero,List.cons_append,List.nil_append] at hK1⊢
 have hk1:IntKind.i64.wrap ((k:Int)+1)=((k+1:Nat):Int):=by rw [wrap64]<;>omega
 by_cases hlt:k < l.length
 ·have hg:=List.getElem?_eq_getElem hlt
  have hxk:=hx _ (List.getElem_mem hlt)
  obtain ⟨s1,s2,s3,_⟩:=hsz k hk
  have hk6:k * (268435456+1)≤6 * (268435456+1):=Nat.mul_le_mul_right _ (by omega)
  have hk7:k * 268435456≤6 * 268435456:=Nat.mul_le_mul_right _ (by omega)
  have hnext:=hsuc k hlt
  have cL:=cR (G k).1 l[k] (by omega) hxk
  have ht1:=(hsz (k+1) (by omega)).2.1
  obtain ⟨n1,p1,mw,ms,hR⟩:∃n1 p1 mw ms,runLine (G k).1 ss l[k]=(⟨n1,p1⟩,mw,ms):=⟨_,_,_,_,rfl⟩
  rw [hR] at cL
  simp only [runStep,hR] at hnext
  rw [hnext] at ht1
  clear hR cR hsz hsuc hx
  generalize hGk:G k=g at *
  obtain ⟨⟨n0,p0⟩,w0,lg0⟩:=g
  simp only at s1 s2 s3 ht1 hnext cL
  have hwl:w0.length+mw.length≤1610612736:=by
   rw [List.length_append] at ht1
   have:(k+1) * 268435456≤6 * 268435456:=Nat.mul_le_mul_right _ (by omega)
   omega
  have hlg:lg0.length≤6:=by omega
  clear s1 s2 s3 ht1
  simp only [eBuilder,eLine] at cL
  by_cases hms:ms=[]
  ·rw [if_pos hms] at hnext
   subst hms
   have W:=And.intro hk1 (And.intro hg hwl)
   have V:=hlt
   repeat' first|refine wl ?_|(refine sq (fun hc=>?_) (fun hc=>?_)<;>try exact hc.elim)|fail
   all_goals refine hK1 _ ⟨(k+1,v),by simp only;omega,by simp only;omega⟩ ?_ (by simp only;omega)
   all_goals exact weak_runS rfl (by simp [hnext]) (by simp) (by simp [hnext]) (by simp) (by simp) (by simp) (by simp) (by simp [closedo]) (by simp [closedo])
  ·rw [if_neg hms] at hnext
   have hmb:ms.isEmpty=false:=by cases ms with|nil=>exact absurd rfl hms|cons _ _=>rfl
   have W:=And.intro hk1 (And.intro hg (And.intro hwl (And.intro hms (And.intro hmb hlg))))
   have V:=hlt
   repeat' first|refine wl ?_|(refine sq (fun hc=>?_) (fun hc=>?_)<;>try exact hc.elim)|fail
   all_goals refine hK1 _ ⟨(k+1,v+1),by simp only;omega,by simp only;omega⟩ ?_ (by simp only;omega)
   all_goals exact weak_runS rfl (by simp [hnext]) (by simp) (by simp [hnext]) (by simp) (by simp) (by simp) (by simp) (by simp [closedo]) (by simp [closedo])
 ·have hkl:k=l.length:=by omega
  subst hkl
  have W:=hk1
  repeat' first|refine wl ?_|(refine sq (fun hc=>?_) (fun hc=>?_)<;>try exact hc.elim)|fail
  all_goals (try (refine ⟨.inr rfl,?_⟩;simp [Hands,Tryz.results37]))
end Go.Proofs.YtgkcdgaljknohaaGreatDoor

set_option maxRecDepth 4000
set_option maxHeartbeats 4000000
namespace Go.Proofs.YtgkcdgaljknohaaGreatDoor
open Go.Aw
theorem copyPage_ok [Tabs Tryz.prog] (a:DPage) (hs:szPage a≤274877906944):Ok Tryz.prog 48 [.agg (ePage .view a)] (.agg (ePage .own a)):=by
 simp only [szPage] at hs
 have c1:=copyPolicy_ok a.policy (by omega)
 have c2:=copyTokens_ok a.queue (by omega)
 have c3:=copyBuilder_ok a.builder (by omega)
 simp only [szL] at hs
 simp only [ePolicy] at c1
 simp only [eBuilder] at c3
 refine ent Tryz.mix Tryz.func48 Tryz.ntmps48 ?_
 have W:=trivial
 repeat' first|refine we ?_|refine sq (fun hc=>?_) fun hc=>?_|fail
 all_goals (try (refine ⟨.inr rfl,?_⟩;simp [Hands,Tryz.results48]))
theorem specPage_ok [Tabs Tryz.prog] (a:DPage) (hs:szPage a≤274877906944):Ok Tryz.prog 35 [.agg (ePage .view a)] (.agg (ePage .own a)):=by
 simp only [szPage] at hs
 have c1:=specPolicy_ok a.policy (by omega)
 have c2:=specTokens_ok a.queue (by omega)
 have c3:=specBuilder_ok a.builder (by omega)
 simp only [szL] at hs
 simp only [ePolicy] at c1
 simp only [eBuilder] at c3
 refine ent Tryz.mix Tryz.func35 Tryz.ntmps35 ?_
 have W:=trivial
 repeat' first|refine we ?_|refine sq (fun hc=>?_) fun hc=>?_|fail
 all_goals (try (refine ⟨.inr rfl,?_⟩;simp [Hands,Tryz.results35]))
end Go.Proofs.YtgkcdgaljknohaaGreatDoor
