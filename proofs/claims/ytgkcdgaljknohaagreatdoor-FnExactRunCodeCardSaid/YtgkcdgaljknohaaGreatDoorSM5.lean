/-
  Proved here: the contract of the marks of tokens.
  No condition beyond what each statement spells out.
-/
import Derived.Test.YtgkcdgaljknohaaGreatDoorW1
import Derived.Test.YtgkcdgaljknohaaGreatDoorF4
import Derived.Test.YtgkcdgaljknohaaGreatDoorSPL
set_option linter.all false
set_option maxRecDepth 4000
set_option maxHeartbeats 4000000
namespace Go.Proofs.YtgkcdgaljknohaaGreatDoor
open Go.Aw
theorem pure_Token (l:List DToken):((l.map (eToken .own)).all fun r=>r.all AV.pureA)=true:=by simp [AV.pureA]
theorem nd_Token (l:List DToken):((l.map (eToken .own)).all fun r=>r.all AV.nd)=true:=by simp [AV.nd]
theorem markTokenS_ok [Tabs Tryz.prog] (l:List DToken) (k:Int) (h0:0≤k) (hl:k+(sumN cToken l:Nat)≤4611686018427387000) (hll:l.length≤4611686018427387904) (hla:∀x∈l,x.attrs.length≤4611686018427387904):
  OkM Tryz.prog 62 (.sl .own 4 (l.map (eToken .own))) (.sl .own 4 ((mkL mkToken cToken k l).map (eToken .own))) [.int .i64 k] (.int .i64 (k+(sumN cToken l:Nat))):=by
 have hpR:=pure_Token l
 have hpL:=pure_Token (mkL mkToken cToken k l)
 have hnR:=nd_Token l
 have hnL:=nd_Token (mkL mkToken cToken k l)
 have hcl:cleanr ((mkL mkToken cToken k l).map (eToken .own))=true:=by simp
 generalize hu:(mkL mkToken cToken k l).map (eToken .own)=l' at *
 generalize hR:l.map (eToken .own)=R at *
 have hRl:R.length=l.length:=by rw [←hR];simp
 have hul:l'.length=R.length:=by rw [←hu,hRl];simp [mkL_length]
 let OB:Nat→List AObj:=fun j=>if h:j < l.length then [⟨true,true,4,0,(mixL R l' j).set j [.int .i64 l[j].kind,.str l[j].name,.obj 1 1,.str l[j].text]⟩,⟨true,false,2,1,l[j].attrs.map eAttr⟩] else [⟨true,false,4,0,l'⟩]
 have open_j:∀(t t':List AV) (j:Nat),j≤l.length→wk (rtc (dropf [0]) true t) t'→wk t t'→Weak ⟨t,[⟨true,false,4,0,mixL R l' j⟩]⟩ ⟨t',OB j⟩:=by
  intro t t' j hj h1 h2
  by_cases h:j < l.length
  ·have e1:OB j=[⟨true,true,4,0,(mixL R l' j).set j [.int .i64 l[j].kind,.str l[j].name,.obj 1 1,.str l[j].text]⟩,⟨true,false,2,1,l[j].attrs.map eAttr⟩]:=dif_pos h
   rw [e1]
   have hg:=mixL_get R l' j (by omega) (by omega)
   have hRj:R[j]'(by omega)=eToken .own l[j]:=by subst hR;simp
   rw [hRj] at hg
   exact weak_open 0 j 2 rfl rfl rfl hg rfl rfl h1
  ·have e1:OB j=[⟨true,false,4,0,l'⟩]:=dif_neg h
   rw [e1,mixL_all R l' j hul (by omega)]
   exact weak_t h2
 refine entM Tryz.mix Tryz.func62 Tryz.ntmps62 ?_
 have W:=trivial
 repeat' first|refine wl ?_|(refine sq (fun hc=>?_) (fun hc=>?_)<;>try exact hc.elim)|fail
 refine awp_loop' (ι:={j:Nat // j≤l.length}) (fun t o i=>⟨upds t [(1,.int .i64 (k+(sumN cToken (l.take i.1):Nat))),(5,.int .i64 i.1)],OB i.1⟩)
  (fun i=>l.length - i.1) ⟨0,by simp⟩ (by rw [←mixL_zero R l'];exact open_j _ _ 0 (by omega) (by simp [sumN]) (by simp [sumN])) ?_
 rintro ⟨j,hj⟩ K1 hK1
 simp only [upds,List.set_cons_succ,List.set_cons_zero] at hK1⊢
 have hj1:IntKind.i64.wrap ((j:Int)+1)=((j+1:Nat):Int):=by rw [wrap64]<;>omega
 have hml:(mixL R l' j).length=l.length:=by rw [mixL_length _ _ _ hul,hRl]
 have hle:=sumN_take_le cToken l (j+1)
 by_cases hlt:j < l.length
 ·have hts:=sumN_take_succ cToken l j hlt
  have hms:=mixL_set R l' j (by omega) (by omega)
  have he:l'[j]'(by omega)=eToken .own (mkToken (k+(sumN cToken (l.take j):Nat)) l[j]):=by
   subst hu
   rw [List.getElem_map,mkL_get]
  rw [he] at hms
  have hnm:rowsNd (mixL R l' j)=true:=mix_all (p:=fun r:List AV=>r.all AV.nd) hnR hnL
  have hpm:((mixL R l' j).all fun r=>r.all AV.pureA)=true:=mix_all (p:=fun r:List AV=>r.all AV.pureA) hpR hpL
  have hOB:OB j=[⟨true,true,4,0,(mixL R l' j).set j [.int .i64 l[j].kind,.str l[j].name,.obj 1 1,.str l[j].text]⟩,⟨true,false,2,1,l[j].attrs.map eAttr⟩]:=dif_pos hlt
  rw [hOB]
  clear_value OB
  have hcx:cToken l[j]=3+sumN (fun _=>2) l[j].attrs:=rfl
  have hax:=hla _ (List.getElem_mem hlt)
  have hopen:=open_j
  generalize hq:k+(sumN cToken (l.take j):Nat)=q at *
  have e2:q+1+1=q+2:=by omega
  simp only [eToken,mkToken] at hms
  have W:=And.intro hml (And.intro hj1 (And.intro e2 hnm))
  have V:=And.intro hml (And.intro hj1 (And.intro hlt (And.intro e2 hnm)))
  repeat' first|refine wl ?_|(refine nx ?_;first|refine sk (hc:=markText_ok _ (by omega)) (h:=?_)|refine sm (hc:=markAttrS_ok l[j].attrs _ (by omega) (by omega) (by omega)) (h:=?_))|(refine sq (fun hc=>?_) (fun hc=>?_)<;>try exact hc.elim)|fail
  refine hK1 _ ⟨j+1,by omega⟩ (Weak.trans (weak_close 0 1 j 2 rfl rfl (by decide) rfl rfl rfl (by rw [List.getElem?_set_self (by omega)]) rfl rfl (by rw [List.set_set];exact set_all (p:=fun r:List AV=>r.all AV.pureA) hpm (by simp [AV.pureA])) rfl rfl (wk_rfl _)) (Weak.trans (weak_take 1 (o':=[⟨true,false,4,0,mixL R l' (j+1)⟩]) ?go ?gw ?gc ?gb) (hopen _ _ (j+1) (by omega) ?gr (wk_rfl _)))) (by simp only;omega)
  case go=>simp [List.set_set,hms]
  case gw=>(simp;omega)
  case gc=>simp
  case gb=>simp
  case gr=>simp
 ·have hjl:j=l.length:=by omega
  have hma:=mixL_all R l' j hul (by omega)
  have htk:l.take j=l:=List.take_of_length_le (by omega)
  rw [htk] at *
  have hOB:OB j=[⟨true,false,4,0,l'⟩]:=dif_neg hlt
  rw [hOB]
  clear_value OB
  have hl'l:l'.length=l.length:=by omega
  have W:=And.intro hl'l hj1
  repeat' first|refine wl ?_|(refine sq (fun hc=>?_) (fun hc=>?_)<;>try exact hc.elim)|fail
  all_goals (try (refine ⟨.inr rfl,?_⟩;simp [HandsM,Tryz.results62,hcl]))
end Go.Proofs.YtgkcdgaljknohaaGreatDoor

set_option maxRecDepth 4000
set_option maxHeartbeats 4000000
namespace Go.Proofs.YtgkcdgaljknohaaGreatDoor
open Go.Aw
theorem pure_Node (l:List DNode):((l.map (eNode .own)).all fun r=>r.all AV.pureA)=true:=by simp [AV.pureA]
theorem nd_Node (l:List DNode):((l.map (eNode .own)).all fun r=>r.all AV.nd)=true:=by simp [AV.nd]
theorem markNodeS_ok [Tabs Tryz.prog] (l:List DNode) (k:Int) (h0:0≤k) (hl:k+(sumN cNode l:Nat)≤4611686018427387000) (hll:l.length≤4611686018427387904) (hla:∀x∈l,x.attrs.length≤4611686018427387904):
  OkM Tryz.prog 133 (.sl .own 4 (l.map (eNode .own))) (.sl .own 4 ((mkL mkNode cNode k l).map (eNode .own))) [.int .i64 k] (.int .i64 (k+(sumN cNode l:Nat))):=by
 have hpR:=pure_Node l
 have hpL:=pure_Node (mkL mkNode cNode k l)
 have hnR:=nd_Node l
 have hnL:=nd_Node (mkL mkNode cNode k l)
 have hcl:cleanr ((mkL mkNode cNode k l).map (eNode .own))=true:=by simp
 generalize hu:(mkL mkNode cNode k l).map (eNode .own)=l' at *
 generalize hR:l.map (eNode .own)=R at *
 have hRl:R.length=l.length:=by rw [←hR];simp
 have hul:l'.length=R.length:=by rw [←hu,hRl];simp [mkL_length]
 let OB:Nat→List AObj:=fun j=>if h:j < l.length then [⟨true,true,4,0,(mixL R l' j).set j [.str l[j].name,.str l[j].text,.int .i64 l[j].parent,.obj 1 1]⟩,⟨true,false,2,1,l[j].attrs.map eAttr⟩] else [⟨true,false,4,0,l'⟩]
 have open_j:∀(t t':List AV) (j:Nat),j≤l.length→wk (rtc (dropf [0]) true t) t'→wk t t'→Weak ⟨t,[⟨true,false,4,0,mixL R l' j⟩]⟩ ⟨t',OB j⟩:=by
  intro t t' j hj h1 h2
  by_cases h:j < l.length
  ·have e1:OB j=[⟨true,true,4,0,(mixL R l' j).set j [.str l[j].name,.str l[j].text,.int .i64 l[j].parent,.obj 1 1]⟩,⟨true,false,2,1,l[j].attrs.map eAttr⟩]:=dif_pos h
   rw [e1]
   have hg:=mixL_get R l' j (by omega) (by omega)
   have hRj:R[j]'(by omega)=eNode .own l[j]:=by subst hR;simp
   rw [hRj] at hg
   exact weak_open 0 j 3 rfl rfl rfl hg rfl rfl h1
  ·have e1:OB j=[⟨true,false,4,0,l'⟩]:=dif_neg h
   rw [e1,mixL_all R l' j hul (by omega)]
   exact weak_t h2
 refine entM Tryz.mix Tryz.func133 Tryz.ntmps133 ?_
 have W:=trivial
 repeat' first|refine wl ?_|(refine sq (fun hc=>?_) (fun hc=>?_)<;>try exact hc.elim)|fail
 refine awp_loop' (ι:={j:Nat // j≤l.length}) (fun t o i=>⟨upds t [(1,.int .i64 (k+(sumN cNode (l.take i.1):Nat))),(5,.int .i64 i.1)],OB i.1⟩)
  (fun i=>l.length - i.1) ⟨0,by simp⟩ (by rw [←mixL_zero R l'];exact open_j _ _ 0 (by omega) (by simp [sumN]) (by simp [sumN])) ?_
 rintro ⟨j,hj⟩ K1 hK1
 simp only [upds,List.set_cons_succ,List.set_cons_zero] at hK1⊢
 have hj1:IntKind.i64.wrap ((j:Int)+1)=((j+1:Nat):Int):=by rw [wrap64]<;>omega
 have hml:(mixL R l' j).length=l.length:=by rw [mixL_length _ _ _ hul,hRl]
 have hle:=sumN_take_le cNode l (j+1)
 by_cases hlt:j < l.length
 ·have hts:=sumN_take_succ cNode l j hlt
  have hms:=mixL_set R l' j (by omega) (by omega)
  have he:l'[j]'(by omega)=eNode .own (mkNode (k+(sumN cNode (l.take j):Nat)) l[j]):=by
   subst hu
   rw [List.getElem_map,mkL_get]
  rw [he] at hms
  have hnm:rowsNd (mixL R l' j)=true:=mix_all (p:=fun r:List AV=>r.all AV.nd) hnR hnL
  have hpm:((mixL R l' j).all fun r=>r.all AV.pureA)=true:=mix_all (p:=fun r:List AV=>r.all AV.pureA) hpR hpL
  have hOB:OB j=[⟨true,true,4,0,(mixL R l' j).set j [.str l[j].name,.str l[j].text,.int .i64 l[j].parent,.obj 1 1]⟩,⟨true,false,2,1,l[j].attrs.map eAttr⟩]:=dif_pos hlt
  rw [hOB]
  clear_value OB
  have hcx:cNode l[j]=3+sumN (fun _=>2) l[j].attrs:=rfl
  have hax:=hla _ (List.getElem_mem hlt)
  have hopen:=open_j
  generalize hq:k+(sumN cNode (l.take j):Nat)=q at *
  have e2:q+1+1=q+2:=by omega
  have e3:q+2+1=q+3:=by omega
  simp only [eNode,mkNode] at hms
  have W:=And.intro hml (And.intro hj1 (And.intro e2 (And.intro e3 hnm)))
  have V:=And.intro hml (And.intro hj1 (And.intro hlt (And.intro e2 (And.intro e3 hnm))))
  repeat' first|refine wl ?_|(refine nx ?_;first|refine sk (hc:=markText_ok _ (by omega)) (h:=?_)|refine sm (hc:=markAttrS_ok l[j].attrs _ (by omega) (by omega) (by omega)) (h:=?_))|(refine sq (fun hc=>?_) (fun hc=>?_)<;>try exact hc.elim)|fail
  refine hK1 _ ⟨j+1,by omega⟩ (Weak.trans (weak_close 0 1 j 3 rfl rfl (by decide) rfl rfl rfl (by rw [List.getElem?_set_self (by omega)]) rfl rfl (by rw [List.set_set];exact set_all (p:=fun r:List AV=>r.all AV.pureA) hpm (by simp [AV.pureA])) rfl rfl (wk_rfl _)) (Weak.trans (weak_take 1 (o':=[⟨true,false,4,0,mixL R l' (j+1)⟩]) ?go ?gw ?gc ?gb) (hopen _ _ (j+1) (by omega) ?gr (wk_rfl _)))) (by simp only;omega)
  case go=>simp [List.set_set,hms]
  case gw=>(simp;omega)
  case gc=>simp
  case gb=>simp
  case gr=>simp
 ·have hjl:j=l.length:=by omega
  have hma:=mixL_all R l' j hul (by omega)
  have htk:l.take j=l:=List.take_of_length_le (by omega)
  rw [htk] at *
  have hOB:OB j=[⟨true,false,4,0,l'⟩]:=dif_neg hlt
  rw [hOB]
  clear_value OB
  have hl'l:l'.length=l.length:=by omega
  have W:=And.intro hl'l hj1
  repeat' first|refine wl ?_|(refine sq (fun hc=>?_) (fun hc=>?_)<;>try exact hc.elim)|fail
  all_goals (try (refine ⟨.inr rfl,?_⟩;simp [HandsM,Tryz.results133,hcl]))
end Go.Proofs.YtgkcdgaljknohaaGreatDoor

set_option maxRecDepth 4000
set_option maxHeartbeats 4000000
namespace Go.Proofs.YtgkcdgaljknohaaGreatDoor
open Go.Aw
theorem markPolicy_ok [Tabs Tryz.prog] (a:DPolicy) (k:Int) (h0:0≤k) (hl:k+(cPolicy a:Nat)≤4611686018427387000):OkM Tryz.prog 61 (.agg (ePolicy .own a)) (.agg (ePolicy .own (mkPolicy k a))) [.int .i64 k] (.int .i64 (k+(cPolicy a:Nat))):=by
 simp only [cPolicy] at hl
 have l1:=sumN_const 1 a.scripts
 have l2:=sumN_const 1 a.styles
 have l3:=sumN_const 1 a.images
 refine entM Tryz.mix Tryz.func61 Tryz.ntmps61 ?_
 have W:=trivial
 repeat' first|refine wl ?_|(refine nx ?_;first|refine sm (hc:=markStringS_ok a.scripts _ (by omega) (by omega) (by omega)) (h:=?_)|refine sm (hc:=markStringS_ok a.styles _ (by omega) (by omega) (by omega)) (h:=?_)|refine sm (hc:=markStringS_ok a.images _ (by omega) (by omega) (by omega)) (h:=?_))|(refine sq (fun hc=>?_) (fun hc=>?_)<;>try exact hc.elim)|fail
 all_goals (try (refine ⟨.inr rfl,?_⟩;simp [HandsM,Tryz.results61,mkPolicy,cPolicy]))
 all_goals (try omega)
theorem markBuilder_ok [Tabs Tryz.prog] (a:DBuilder) (k:Int) (h0:0≤k) (hl:k+(cBuilder a:Nat)≤4611686018427387000) (hll:a.nodes.length≤4611686018427387904) (hla:∀x∈a.nodes,x.attrs.length≤4611686018427387904):OkM Tryz.prog 63 (.agg (eBuilder .own a)) (.agg (eBuilder .own (mkBuilder k a))) [.int .i64 k] (.int .i64 (k+(cBuilder a:Nat))):=by
 simp only [cBuilder] at hl
 have l2:=sumN_const 1 a.opens
 refine entM Tryz.mix Tryz.func63 Tryz.ntmps63 ?_
 have W:=trivial
 repeat' first|refine wl ?_|(refine nx ?_;first|refine sm (hc:=markNodeS_ok a.nodes _ (by omega) (by omega) hll hla) (h:=?_)|refine sm (hc:=markIntS_ok a.opens _ (by omega) (by omega) (by omega)) (h:=?_))|(refine sq (fun hc=>?_) (fun hc=>?_)<;>try exact hc.elim)|fail
 all_goals (try (refine ⟨.inr rfl,?_⟩;simp [HandsM,Tryz.results63,mkBuilder,cBuilder]))
 all_goals (try omega)
end Go.Proofs.YtgkcdgaljknohaaGreatDoor

set_option maxRecDepth 4000
set_option maxHeartbeats 4000000
namespace Go.Proofs.YtgkcdgaljknohaaGreatDoor
open Go.Aw
end Go.Proofs.YtgkcdgaljknohaaGreatDoor
