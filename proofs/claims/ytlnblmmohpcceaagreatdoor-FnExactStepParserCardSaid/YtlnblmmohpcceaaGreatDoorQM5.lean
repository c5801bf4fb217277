/-
  Proved here: the contract of the marks of tokens.
  No condition beyond what each statement spells out.
-/
import Derived.Test.YtlnblmmohpcceaaGreatDoorQV1
import Derived.Test.YtlnblmmohpcceaaGreatDoorF4
set_option linter.all false
set_option maxRecDepth 8000
set_option maxHeartbeats 8000000
namespace Go.Proofs.YtlnblmmohpcceaaGreatDoor
open Go.Aw
theorem aKv (l:List aW):((l.map (aU .own)).all fun r=>r.all AV.pureA)=true:=by simp [AV.pureA]
theorem aS4 (l:List aW):((l.map (aU .own)).all fun r=>r.all AV.nd)=true:=by simp [AV.nd]
theorem aPs [aA Tryz.prog] (l:List aW) (k:Int) (h0:0≤k) (hl:k+(aC fM l:Nat)≤4611686018427387000) (hll:l.length≤4611686018427387904) (hla:∀x∈l,x.attrs.length≤4611686018427387904):
  OkM Tryz.prog 100 (.sl .own 4 (l.map (aU .own))) (.sl .own 4 ((mkL nD fM k l).map (aU .own))) [.int .i64 k] (.int .i64 (k+(aC fM l:Nat))):=by
 have hpR:=aKv l
 have hpL:=aKv (mkL nD fM k l)
 have hnR:=aS4 l
 have hnL:=aS4 (mkL nD fM k l)
 have hcl:eB ((mkL nD fM k l).map (aU .own))=true:=by simp
 generalize hu:(mkL nD fM k l).map (aU .own)=l' at *
 generalize hR:l.map (aU .own)=R at *
 have hRl:R.length=l.length:=by rw [←hR];simp
 have hul:l'.length=R.length:=by rw [←hu,hRl];simp [dS]
 let OB:Nat→List aB:=fun j=>if h:j < l.length then [⟨true,true,4,0,(iM R l' j).set j [.int .i64 l[j].kind,.str l[j].name,.obj 1 1,.str l[j].text]⟩,⟨true,false,2,1,l[j].attrs.map dI⟩] else [⟨true,false,4,0,l'⟩]
 have open_j:∀(t t':List AV) (j:Nat),j≤l.length→wk (rtc (dQ [0]) true t) t'→wk t t'→gF ⟨t,[⟨true,false,4,0,iM R l' j⟩]⟩ ⟨t',OB j⟩:=by
  intro t t' j hj h1 h2
  by_cases h:j < l.length
  ·have e1:OB j=[⟨true,true,4,0,(iM R l' j).set j [.int .i64 l[j].kind,.str l[j].name,.obj 1 1,.str l[j].text]⟩,⟨true,false,2,1,l[j].attrs.map dI⟩]:=dif_pos h
   rw [e1]
   have hg:=sN R l' j (by omega) (by omega)
   have hRj:R[j]'(by omega)=aU .own l[j]:=by subst hR;simp
   rw [hRj] at hg
   exact aOb 0 j 2 rfl rfl rfl hg rfl rfl h1
  ·have e1:OB j=[⟨true,false,4,0,l'⟩]:=dif_neg h
   rw [e1,pV R l' j hul (by omega)]
   exact uN h2
 refine aAp Tryz.mix Tryz.func100 Tryz.ntmps100 ?_
 have W:=trivial
 repeat' first|refine wl ?_|(refine sq (fun hc=>?_) (fun hc=>?_)<;>try exact hc.elim)|fail
 refine aM (ι:={j:Nat // j≤l.length}) (fun t o i=>⟨aO t [(1,.int .i64 (k+(aC fM (l.take i.1):Nat))),(5,.int .i64 i.1)],OB i.1⟩)
  (fun i=>l.length - i.1) ⟨0,by simp⟩ (by rw [←qQ R l'];exact open_j _ _ 0 (by omega) (by simp [aC]) (by simp [aC])) ?_
 rintro ⟨j,hj⟩ K1 hK1
 simp only [aO,List.set_cons_succ,List.set_cons_zero] at hK1⊢
 have hj1:IntKind.i64.wrap ((j:Int)+1)=((j+1:Nat):Int):=by rw [wrap64]<;>omega
 have hml:(iM R l' j).length=l.length:=by rw [nT _ _ _ hul,hRl]
 have hle:=dC fM l (j+1)
 by_cases hlt:j < l.length
 ·have hts:=bT fM l j hlt
  have hms:=tF R l' j (by omega) (by omega)
  have he:l'[j]'(by omega)=aU .own (nD (k+(aC fM (l.take j):Nat)) l[j]):=by
   subst hu
   rw [List.getElem_map,lI]
  rw [he] at hms
  have hnm:tC (iM R l' j)=true:=aGq (p:=fun r:List AV=>r.all AV.nd) hnR hnL
  have hpm:((iM R l' j).all fun r=>r.all AV.pureA)=true:=aGq (p:=fun r:List AV=>r.all AV.pureA) hpR hpL
  have hOB:OB j=[⟨true,true,4,0,(iM R l' j).set j [.int .i64 l[j].kind,.str l[j].name,.obj 1 1,.str l[j].text]⟩,⟨true,false,2,1,l[j].attrs.map dI⟩]:=dif_pos hlt
  rw [hOB]
  clear_value OB
  have hcx:fM l[j]=3+aC (fun _=>2) l[j].attrs:=rfl
  have hax:=hla _ (List.getElem_mem hlt)
  have hopen:=open_j
  generalize hq:k+(aC fM (l.take j):Nat)=q at *
  have e2:q+1+1=q+2:=by omega
  simp only [aU,nD] at hms
  have W:=And.intro hml (And.intro hj1 (And.intro e2 hnm))
  have V:=And.intro hml (And.intro hj1 (And.intro hlt (And.intro e2 hnm)))
  repeat' first|refine wl ?_|(refine nx ?_;first|refine sk (hc:=iN _ (by omega)) (h:=?_)|refine sm (hc:=aF5 l[j].attrs _ (by omega) (by omega) (by omega)) (h:=?_))|(refine sq (fun hc=>?_) (fun hc=>?_)<;>try exact hc.elim)|fail
  refine hK1 _ ⟨j+1,by omega⟩ (gF.trans (aJa 0 1 j 2 rfl rfl (by decide) rfl rfl rfl (by rw [List.getElem?_set_self (by omega)]) rfl rfl (by rw [List.set_set];exact aWh (p:=fun r:List AV=>r.all AV.pureA) hpm (by simp [AV.pureA])) rfl rfl (iT _)) (gF.trans (aQ 1 (o':=[⟨true,false,4,0,iM R l' (j+1)⟩]) ?go ?gw ?gc ?gb) (hopen _ _ (j+1) (by omega) ?gr (iT _)))) (by simp only;omega)
  case go=>simp [List.set_set,hms]
  case gw=>(simp;omega)
  case gc=>simp
  case gb=>simp
  case gr=>simp
 ·have hjl:j=l.length:=by omega
  have hma:=pV R l' j hul (by omega)
  have htk:l.take j=l:=List.take_of_length_le (by omega)
  rw [htk] at *
  have hOB:OB j=[⟨true,false,4,0,l'⟩]:=dif_neg hlt
  rw [hOB]
  clear_value OB
  have hl'l:l'.length=l.length:=by omega
  have W:=And.intro hl'l hj1
  repeat' first|refine wl ?_|(refine sq (fun hc=>?_) (fun hc=>?_)<;>try exact hc.elim)|fail
  all_goals (try (refine ⟨.inr rfl,?_⟩;simp [qM,Tryz.results100,hcl]))
theorem aOd (l:List dA):((l.map (bB .own)).all fun r=>r.all AV.pureA)=true:=by simp [AV.pureA]
theorem aV1 (l:List dA):((l.map (bB .own)).all fun r=>r.all AV.nd)=true:=by simp [AV.nd]
theorem aSj [aA Tryz.prog] (l:List dA) (k:Int) (h0:0≤k) (hl:k+(aC jE l:Nat)≤4611686018427387000) (hll:l.length≤4611686018427387904) (hla:∀x∈l,x.attrs.length≤4611686018427387904):
  OkM Tryz.prog 180 (.sl .own 4 (l.map (bB .own))) (.sl .own 4 ((mkL pG jE k l).map (bB .own))) [.int .i64 k] (.int .i64 (k+(aC jE l:Nat))):=by
 have hpR:=aOd l
 have hpL:=aOd (mkL pG jE k l)
 have hnR:=aV1 l
 have hnL:=aV1 (mkL pG jE k l)
 have hcl:eB ((mkL pG jE k l).map (bB .own))=true:=by simp
 generalize hu:(mkL pG jE k l).map (bB .own)=l' at *
 generalize hR:l.map (bB .own)=R at *
 have hRl:R.length=l.length:=by rw [←hR];simp
 have hul:l'.length=R.length:=by rw [←hu,hRl];simp [dS]
 let OB:Nat→List aB:=fun j=>if h:j < l.length then [⟨true,true,4,0,(iM R l' j).set j [.str l[j].name,.str l[j].text,.int .i64 l[j].parent,.obj 1 1]⟩,⟨true,false,2,1,l[j].attrs.map dI⟩] else [⟨true,false,4,0,l'⟩]
 have open_j:∀(t t':List AV) (j:Nat),j≤l.length→wk (rtc (dQ [0]) true t) t'→wk t t'→gF ⟨t,[⟨true,false,4,0,iM R l' j⟩]⟩ ⟨t',OB j⟩:=by
  intro t t' j hj h1 h2
  by_cases h:j < l.length
  ·have e1:OB j=[⟨true,true,4,0,(iM R l' j).set j [.str l[j].name,.str l[j].text,.int .i64 l[j].parent,.obj 1 1]⟩,⟨true,false,2,1,l[j].attrs.map dI⟩]:=dif_pos h
   rw [e1]
   have hg:=sN R l' j (by omega) (by omega)
   have hRj:R[j]'(by omega)=bB .own l[j]:=by subst hR;simp
   rw [hRj] at hg
   exact aOb 0 j 3 rfl rfl rfl hg rfl rfl h1
  ·have e1:OB j=[⟨true,false,4,0,l'⟩]:=dif_neg h
   rw [e1,pV R l' j hul (by omega)]
   exact uN h2
 refine aAp Tryz.mix Tryz.func180 Tryz.ntmps180 ?_
 have W:=trivial
 repeat' first|refine wl ?_|(refine sq (fun hc=>?_) (fun hc=>?_)<;>try exact hc.elim)|fail
 refine aM (ι:={j:Nat // j≤l.length}) (fun t o i=>⟨aO t [(1,.int .i64 (k+(aC jE (l.take i.1):Nat))),(5,.int .i64 i.1)],OB i.1⟩)
  (fun i=>l.length - i.1) ⟨0,by simp⟩ (by rw [←qQ R l'];exact open_j _ _ 0 (by omega) (by simp [aC]) (by simp [aC])) ?_
 rintro ⟨j,hj⟩ K1 hK1
 simp only [aO,List.set_cons_succ,List.set_cons_zero] at hK1⊢
 have hj1:IntKind.i64.wrap ((j:Int)+1)=((j+1:Nat):Int):=by rw [wrap64]<;>omega
 have hml:(iM R l' j).length=l.length:=by rw [nT _ _ _ hul,hRl]
 have hle:=dC jE l (j+1)
 by_cases hlt:j < l.length
 ·have hts:=bT jE l j hlt
  have hms:=tF R l' j (by omega) (by omega)
  have he:l'[j]'(by omega)=bB .own (pG (k+(aC jE (l.take j):Nat)) l[j]):=by
   subst hu
   rw [List.getElem_map,lI]
  rw [he] at hms
  have hnm:tC (iM R l' j)=true:=aGq (p:=fun r:List AV=>r.all AV.nd) hnR hnL
  have hpm:((iM R l' j).all fun r=>r.all AV.pureA)=true:=aGq (p:=fun r:List AV=>r.all AV.pureA) hpR hpL
  have hOB:OB j=[⟨true,true,4,0,(iM R l' j).set j [.str l[j].name,.str l[j].text,.int .i64 l[j].parent,.obj 1 1]⟩,⟨true,false,2,1,l[j].attrs.map dI⟩]:=dif_pos hlt
  rw [hOB]
  clear_value OB
  have hcx:jE l[j]=3+aC (fun _=>2) l[j].attrs:=rfl
  have hax:=hla _ (List.getElem_mem hlt)
  have hopen:=open_j
  generalize hq:k+(aC jE (l.take j):Nat)=q at *
  have e2:q+1+1=q+2:=by omega
  have e3:q+2+1=q+3:=by omega
  simp only [bB,pG] at hms
  have W:=And.intro hml (And.intro hj1 (And.intro e2 (And.intro e3 hnm)))
  have V:=And.intro hml (And.intro hj1 (And.intro hlt (And.intro e2 (And.intro e3 hnm))))
  repeat' first|refine wl ?_|(refine nx ?_;first|refine sk (hc:=iN _ (by omega)) (h:=?_)|refine sm (hc:=aF5 l[j].attrs _ (by omega) (by omega) (by omega)) (h:=?_))|(refine sq (fun hc=>?_) (fun hc=>?_)<;>try exact hc.elim)|fail
  refine hK1 _ ⟨j+1,by omega⟩ (gF.trans (aJa 0 1 j 3 rfl rfl (by decide) rfl rfl rfl (by rw [List.getElem?_set_self (by omega)]) rfl rfl (by rw [List.set_set];exact aWh (p:=fun r:List AV=>r.all AV.pureA) hpm (by simp [AV.pureA])) rfl rfl (iT _)) (gF.trans (aQ 1 (o':=[⟨true,false,4,0,iM R l' (j+1)⟩]) ?go ?gw ?gc ?gb) (hopen _ _ (j+1) (by omega) ?gr (iT _)))) (by simp only;omega)
  case go=>simp [List.set_set,hms]
  case gw=>(simp;omega)
  case gc=>simp
  case gb=>simp
  case gr=>simp
 ·have hjl:j=l.length:=by omega
  have hma:=pV R l' j hul (by omega)
  have htk:l.take j=l:=List.take_of_length_le (by omega)
  rw [htk] at *
  have hOB:OB j=[⟨true,false,4,0,l'⟩]:=dif_neg hlt
  rw [hOB]
  clear_value OB
  have hl'l:l'.length=l.length:=by omega
  have W:=And.intro hl'l hj1
  repeat' first|refine wl ?_|(refine sq (fun hc=>?_) (fun hc=>?_)<;>try exact hc.elim)|fail
  all_goals (try (refine ⟨.inr rfl,?_⟩;simp [qM,Tryz.results180,hcl]))
theorem aO6 [aA Tryz.prog] (a:fC) (k:Int) (h0:0≤k) (hl:k+(lJ a:Nat)≤4611686018427387000):OkM Tryz.prog 99 (.agg (bJ .own a)) (.agg (bJ .own (vI k a))) [.int .i64 k] (.int .i64 (k+(lJ a:Nat))):=by
 simp only [lJ] at hl
 have l1:=fH 1 a.scripts
 have l2:=fH 1 a.styles
 have l3:=fH 1 a.images
 refine aAp Tryz.mix Tryz.func99 Tryz.ntmps99 ?_
 have W:=trivial
 repeat' first|refine wl ?_|(refine nx ?_;first|refine sm (hc:=uB a.scripts _ (by omega) (by omega) (by omega)) (h:=?_)|refine sm (hc:=uB a.styles _ (by omega) (by omega) (by omega)) (h:=?_)|refine sm (hc:=uB a.images _ (by omega) (by omega) (by omega)) (h:=?_))|(refine sq (fun hc=>?_) (fun hc=>?_)<;>try exact hc.elim)|fail
 all_goals (try (refine ⟨.inr rfl,?_⟩;simp [qM,Tryz.results99,vI,lJ]))
 all_goals (try omega)
theorem aMh [aA Tryz.prog] (a:aS) (k:Int) (h0:0≤k) (hl:k+(lC a:Nat)≤4611686018427387000) (hll:a.nodes.length≤4611686018427387904) (hla:∀x∈a.nodes,x.attrs.length≤4611686018427387904):OkM Tryz.prog 101 (.agg (aL .own a)) (.agg (aL .own (sH k a))) [.int .i64 k] (.int .i64 (k+(lC a:Nat))):=by
 simp only [lC] at hl
 have l2:=fH 1 a.opens
 refine aAp Tryz.mix Tryz.func101 Tryz.ntmps101 ?_
 have W:=trivial
 repeat' first|refine wl ?_|(refine nx ?_;first|refine sm (hc:=aSj a.nodes _ (by omega) (by omega) hll hla) (h:=?_)|refine sm (hc:=aT8 a.opens _ (by omega) (by omega) (by omega)) (h:=?_))|(refine sq (fun hc=>?_) (fun hc=>?_)<;>try exact hc.elim)|fail
 all_goals (try (refine ⟨.inr rfl,?_⟩;simp [qM,Tryz.results101,sH,lC]))
 all_goals (try omega)
theorem aTe [aA Tryz.prog] (l:List gP) (k:Int) (h0:0≤k) (hl:k+(aC (fun _=>8) l:Nat)≤4611686018427387000) (hll:l.length≤4611686018427387904):OkM Tryz.prog 102 (.sl .own 8 (l.map eX)) (.sl .own 8 ((mkL sI (fun _=>8) k l).map eX)) [.int .i64 k] (.int .i64 (k+(aC (fun _=>8) l:Nat))):=by
 generalize hu:(mkL sI (fun _=>8) k l).map eX=l'
 have hul:l'.length=(l.map eX).length:=by rw [←hu];simp [dS]
 refine aAp Tryz.mix Tryz.func102 Tryz.ntmps102 ?_
 have W:=trivial
 repeat' first|refine wl ?_|(refine sq (fun hc=>?_) (fun hc=>?_)<;>try exact hc.elim)|fail
 refine aM (ι:={j:Nat // j≤l.length}) (fun t o i=>⟨aO t [(1,.int .i64 (k+(aC (fun _=>8) (l.take i.1):Nat))),(5,.int .i64 i.1)],[⟨true,false,8,0,iM (l.map eX) l' i.1⟩]⟩)
  (fun i=>l.length - i.1) ⟨0,by simp⟩ (aH (by simp [qQ]) (by simp [aC])) ?_
 rintro ⟨j,hj⟩ K1 hK1
 simp only [aO,List.set_cons_succ,List.set_cons_zero] at hK1⊢
 have hj1:IntKind.i64.wrap ((j:Int)+1)=((j+1:Nat):Int):=by rw [wrap64]<;>omega
 have hml:(iM (l.map eX) l' j).length=l.length:=by rw [nT _ _ _ hul];simp
 have hle:=dC (fun _=>8) l (j+1)
 by_cases hlt:j < l.length
 ·have hts:=bT (fun _=>8) l j hlt
  have hmg:=sN (l.map eX) l' j (by simpa using hlt) (by rw [hul];simpa using hlt)
  have hms:=tF (l.map eX) l' j (by simpa using hlt) (by rw [hul];simpa using hlt)
  have he:l'[j]'(by rw [hul];simpa using hlt)=eX (sI (k+(aC (fun _=>8) (l.take j):Nat)) l[j]):=by
   subst hu
   rw [List.getElem_map,lI]
  rw [he] at hms
  generalize hq:k+(aC (fun _=>8) (l.take j):Nat)=q at *
  have e2:q+1+1=q+2:=by omega
  have e3:q+2+1=q+3:=by omega
  have e4:q+3+1=q+4:=by omega
  have e5:q+4+1=q+5:=by omega
  have e6:q+5+1=q+6:=by omega
  have e7:q+6+1=q+7:=by omega
  have e8:q+7+1=q+8:=by omega
  simp only [eX,sI,qD] at hms
  have W:=And.intro hml (And.intro hmg (And.intro hj1 (And.intro hms (And.intro e2 (And.intro e3 (And.intro e4 (And.intro e5 (And.intro e6 (And.intro e7 e8)))))))))
  have V:=And.intro hml (And.intro hj1 (And.intro hms (And.intro hlt (And.intro e2 (And.intro e3 (And.intro e4 (And.intro e5 (And.intro e6 (And.intro e7 e8)))))))))
  repeat' first|refine wl ?_|(refine nx ?_;refine sk (hc:=iN _ (by omega)) (h:=?_))|(refine sq (fun hc=>?_) (fun hc=>?_)<;>try exact hc.elim)|fail
  refine hK1 _ ⟨j+1,by omega⟩ (aH (by simp) ?_) (by simp only;omega)
  simp
  omega
 ·have hma:=pV (l.map eX) l' j hul (by simp;omega)
  have hjl:j=l.length:=by omega
  have hcl:eB l'=true:=by rw [←hu];simp
  have htk:l.take j=l:=List.take_of_length_le (by omega)
  rw [htk] at *
  have W:=And.intro hml hj1
  repeat' first|refine wl ?_|(refine sq (fun hc=>?_) (fun hc=>?_)<;>try exact hc.elim)|fail
  all_goals (try (refine ⟨.inr rfl,?_⟩;simp [qM,Tryz.results102,hma,hcl]))
theorem aMd [aA Tryz.prog] (l:List cZ) (k:Int) (h0:0≤k) (hl:k+(aC (fun _=>5) l:Nat)≤4611686018427387000) (hll:l.length≤4611686018427387904):OkM Tryz.prog 103 (.sl .own 5 (l.map bD)) (.sl .own 5 ((mkL oF (fun _=>5) k l).map bD)) [.int .i64 k] (.int .i64 (k+(aC (fun _=>5) l:Nat))):=by
 generalize hu:(mkL oF (fun _=>5) k l).map bD=l'
 have hul:l'.length=(l.map bD).length:=by rw [←hu];simp [dS]
 refine aAp Tryz.mix Tryz.func103 Tryz.ntmps103 ?_
 have W:=trivial
 repeat' first|refine wl ?_|(refine sq (fun hc=>?_) (fun hc=>?_)<;>try exact hc.elim)|fail
 refine aM (ι:={j:Nat // j≤l.length}) (fun t o i=>⟨aO t [(1,.int .i64 (k+(aC (fun _=>5) (l.take i.1):Nat))),(5,.int .i64 i.1)],[⟨true,false,5,0,iM (l.map bD) l' i.1⟩]⟩)
  (fun i=>l.length - i.1) ⟨0,by simp⟩ (aH (by simp [qQ]) (by simp [aC])) ?_
 rintro ⟨j,hj⟩ K1 hK1
 simp only [aO,List.set_cons_succ,List.set_cons_zero] at hK1⊢
 have hj1:IntKind.i64.wrap ((j:Int)+1)=((j+1:Nat):Int):=by rw [wrap64]<;>omega
 have hml:(iM (l.map bD) l' j).length=l.length:=by rw [nT _ _ _ hul];simp
 have hle:=dC (fun _=>5) l (j+1)
 by_cases hlt:j < l.length
 ·have hts:=bT (fun _=>5) l j hlt
  have hmg:=sN (l.map bD) l' j (by simpa using hlt) (by rw [hul];simpa using hlt)
  have hms:=tF (l.map bD) l' j (by simpa using hlt) (by rw [hul];simpa using hlt)
  have he:l'[j]'(by rw [hul];simpa using hlt)=bD (oF (k+(aC (fun _=>5) (l.take j):Nat)) l[j]):=by
   subst hu
   rw [List.getElem_map,lI]
  rw [he] at hms
  generalize hq:k+(aC (fun _=>5) (l.take j):Nat)=q at *
  have e2:q+1+1=q+2:=by omega
  have e3:q+2+1=q+3:=by omega
  have e4:q+3+1=q+4:=by omega
  have e5:q+4+1=q+5:=by omega
  simp only [bD,oF,qD] at hms
  have W:=And.intro hml (And.intro hmg (And.intro hj1 (And.intro hms (And.intro e2 (And.intro e3 (And.intro e4 e5))))))
  have V:=And.intro hml (And.intro hj1 (And.intro hms (And.intro hlt (And.intro e2 (And.intro e3 (And.intro e4 e5))))))
  repeat' first|refine wl ?_|(refine nx ?_;refine sk (hc:=iN _ (by omega)) (h:=?_))|(refine sq (fun hc=>?_) (fun hc=>?_)<;>try exact hc.elim)|fail
  refine hK1 _ ⟨j+1,by omega⟩ (aH (by simp) ?_) (by simp only;omega)
  simp
  omega
 ·have hma:=pV (l.map bD) l' j hul (by simp;omega)
  have hjl:j=l.length:=by omega
  have hcl:eB l'=true:=by rw [←hu];simp
  have htk:l.take j=l:=List.take_of_length_le (by omega)
  rw [htk] at *
  have W:=And.intro hml hj1
  repeat' first|refine wl ?_|(refine sq (fun hc=>?_) (fun hc=>?_)<;>try exact hc.elim)|fail
  all_goals (try (refine ⟨.inr rfl,?_⟩;simp [qM,Tryz.results103,hma,hcl]))
theorem yN [aA Tryz.prog] (a:aJ) (k:Int) (h0:0≤k) (hl:k+(wJ a:Nat)≤4611686018427387000) (hq:a.queue.length≤4611686018427387904) (hqa:∀x∈a.queue,x.attrs.length≤4611686018427387904)
  (hb:a.builder.nodes.length≤4611686018427387904) (hba:∀x∈a.builder.nodes,x.attrs.length≤4611686018427387904):
  OkM Tryz.prog 21 (.agg (aG .own a)) (.agg (aG .own (aKp k a))) [.int .i64 k] (.int .i64 (k+(wJ a:Nat))):=by
 simp only [wJ] at hl
 have l1:=fH 8 a.slots
 have l2:=fH 5 a.mods
 have l3:=fH 2 a.entries
 have l4:=fH 2 a.ran
 have l5:=fH 1 a.log
 refine aAp Tryz.mix Tryz.func21 Tryz.ntmps21 ?_
 have W:=trivial
 repeat' first|refine wl ?_|(refine nx ?_;first|refine sm (hc:=aO6 a.policy _ (by omega) (by omega)) (h:=?_)|refine sm (hc:=aPs a.queue _ (by omega) (by omega) hq hqa) (h:=?_)|refine sm (hc:=aMh a.builder _ (by omega) (by omega) hb hba) (h:=?_)|refine sm (hc:=aTe a.slots _ (by omega) (by omega) (by omega)) (h:=?_)|refine sm (hc:=aMd a.mods _ (by omega) (by omega) (by omega)) (h:=?_)|refine sm (hc:=aFh a.entries _ (by omega) (by omega) (by omega)) (h:=?_)|refine sm (hc:=aFh a.ran _ (by omega) (by omega) (by omega)) (h:=?_)|refine sm (hc:=uB a.log _ (by omega) (by omega) (by omega)) (h:=?_))|(refine sq (fun hc=>?_) (fun hc=>?_)<;>try exact hc.elim)|fail
 all_goals (try (refine ⟨.inr rfl,?_⟩;simp [qM,Tryz.results21,aKp,wJ,vI,sH]))
 all_goals (try omega)
end Go.Proofs.YtlnblmmohpcceaaGreatDoor
