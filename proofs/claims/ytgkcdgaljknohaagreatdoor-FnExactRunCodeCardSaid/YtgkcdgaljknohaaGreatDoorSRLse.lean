/-
  Proved here: steps towards the statement of this claim, text SRLse.
  No condition beyond what each statement spells out.
-/
import Derived.Test.YtgkcdgaljknohaaGreatDoorSC1
import Derived.Test.YtgkcdgaljknohaaGreatDoorF8
import Derived.Test.YtgkcdgaljknohaaGreatDoorSRLib
import Derived.Test.YtgkcdgaljknohaaGreatDoorSRLid
import Derived.Test.YtgkcdgaljknohaaGreatDoorSRLsc
set_option linter.all false
set_option maxRecDepth 4000
set_option maxHeartbeats 4000000
namespace Go.Proofs.YtgkcdgaljknohaaGreatDoor
open Go.Aw
theorem specRun5 [Tabs Tryz.prog] [HasPow Tryz.prog] (b:DBuilder) (ss:List DSheet) (x:DLine) (hs:szBuilder b≤274877906944) (hx:x.text.length≤268435456) (hl:ss.length≤1099511627776) (hr:∀x∈ss,x.rules.length≤1099511627776) (hco:∀n,0≤colorOf ss n∧colorOf ss n≤999) (hop:x.op=5):
  Ok Tryz.prog 109 [.agg (eBuilder .view b),.sl .view 1 (ss.map (eSheet .view)),.agg (eLine x)] (.tup [.agg (eBuilder .own (runLine b ss x).1),.str (runLine b ss x).2.1,.str (runLine b ss x).2.2]):=by
 have c1:=specBuilder_ok b hs
 have hn:b.nodes.length≤274877906944:=by simp only [szBuilder,szL] at hs;omega
 obtain ⟨op,tx⟩:=x
 simp only at hx hop
 have c2:=specMarkupOf_ok tx (by omega)
 have c3:=specCountName_ok b tx (by omega)
 have c4:=specColorOf_ok ss tx hl hr
 have c5:=specIsName_ok tx (by omega)
 have c6:=specIn_ok (b.nodes.length:Int) 1 39
 have hcn:0≤countName b tx∧countName b tx≤(b.nodes.length:Int):=by
  unfold countName
  have:=List.length_filter_le (fun x:DNode=>decide (x.name=tx)) b.nodes
  omega
 have hcc:=hco tx
 have c7:=specFormatInt_ok (countName b tx) (by omega)
 have c8:=specFormatInt_ok (colorOf ss tx) (by omega)
 have z7:=itoa_len (countName b tx) (by omega) (by omega)
 have z8:=itoa_len (colorOf ss tx) (by omega) (by omega)
 simp only [eBuilder] at c1 c3
 clear hr hco
 simp only [runLine,sCount,sLook,sSay]
 generalize Lib.itoa (countName b tx)=i7 at *
 generalize Lib.itoa (colorOf ss tx)=i8 at *
 generalize countName b tx=cn at *
 generalize colorOf ss tx=cc at *
 subst hop
 rw [if_neg (by decide),if_neg (by decide),if_neg (by decide),if_neg (by decide),if_pos rfl]
 refine ent Tryz.mix Tryz.func109 Tryz.ntmps109 ?_
 have W:=trivial
 repeat' first|refine we ?_|(refine sq (fun hc=>?_) (fun hc=>?_)<;>try exact hc.elim)|fail
 all_goals (try (refine ⟨.inr rfl,?_⟩;simp [Hands,Tryz.results109]))
end Go.Proofs.YtgkcdgaljknohaaGreatDoor

set_option maxRecDepth 4000
set_option maxHeartbeats 4000000
namespace Go.Proofs.YtgkcdgaljknohaaGreatDoor
open Go.Aw
theorem implRunLine_ok [Tabs Tryz.prog] [HasPow Tryz.prog] (b:DBuilder) (ss:List DSheet) (x:DLine) (hs:szBuilder b≤274877906944) (hx:x.text.length≤268435456) (hl:ss.length≤1099511627776) (hr:∀x∈ss,x.rules.length≤1099511627776) (hco:∀n,0≤colorOf ss n∧colorOf ss n≤999):
  Ok Tryz.prog 186 [.agg (eBuilder .view b),.sl .view 1 (ss.map (eSheet .view)),.agg (eLine x)] (.tup [.agg (eBuilder .own (runLine b ss x).1),.str (runLine b ss x).2.1,.str (runLine b ss x).2.2]):=by
 by_cases h1:x.op=1
 ·exact implRun1 b ss x hs hx hl hr hco h1
 by_cases h2:x.op=2
 ·exact implRun2 b ss x hs hx hl hr hco h2
 by_cases h3:x.op=3
 ·exact implRun3 b ss x hs hx hl hr hco h3
 by_cases h4:x.op=4
 ·exact implRun4 b ss x hs hx hl hr hco h4
 by_cases h5:x.op=5
 ·exact implRun5 b ss x hs hx hl hr hco h5
 exact implRun0 b ss x hs hx hl hr hco ⟨h1,h2,h3,h4,h5⟩
theorem specRunLine_ok [Tabs Tryz.prog] [HasPow Tryz.prog] (b:DBuilder) (ss:List DSheet) (x:DLine) (hs:szBuilder b≤274877906944) (hx:x.text.length≤268435456) (hl:ss.length≤1099511627776) (hr:∀x∈ss,x.rules.length≤1099511627776) (hco:∀n,0≤colorOf ss n∧colorOf ss n≤999):
  Ok Tryz.prog 109 [.agg (eBuilder .view b),.sl .view 1 (ss.map (eSheet .view)),.agg (eLine x)] (.tup [.agg (eBuilder .own (runLine b ss x).1),.str (runLine b ss x).2.1,.str (runLine b ss x).2.2]):=by
 by_cases h1:x.op=1
 ·exact specRun1 b ss x hs hx hl hr hco h1
 by_cases h2:x.op=2
 ·exact specRun2 b ss x hs hx hl hr hco h2
 by_cases h3:x.op=3
 ·exact specRun3 b ss x hs hx hl hr hco h3
 by_cases h4:x.op=4
 ·exact specRun4 b ss x hs hx hl hr hco h4
 by_cases h5:x.op=5
 ·exact specRun5 b ss x hs hx hl hr hco h5
 exact specRun0 b ss x hs hx hl hr hco ⟨h1,h2,h3,h4,h5⟩
end Go.Proofs.YtgkcdgaljknohaaGreatDoor

set_option maxRecDepth 4000
set_option maxHeartbeats 4000000
namespace Go.Proofs.YtgkcdgaljknohaaGreatDoor
open Go.Aw
theorem rswr_mapR {α:Type} {f:α→List AV} {i j:Nat} (h:∀x,rswc i j (f x)=f x):∀l:List α,rswr i j (l.map f)=l.map f
 |[]=>rfl
 |x::l=>by simp only [List.map_cons,rswr,h,rswr_mapR h l]
@[simp] theorem rswr_rStr (i j:Nat) (l:List Str):rswr i j (l.map eStr)=l.map eStr:=rswr_mapR (fun _=>rfl) l
@[simp] theorem rswr_rInt (i j:Nat) (l:List Int):rswr i j (l.map eInt)=l.map eInt:=rswr_mapR (fun _=>rfl) l
@[simp] theorem rswr_rAttr (i j:Nat) (l:List DAttr):rswr i j (l.map eAttr)=l.map eAttr:=rswr_mapR (fun _=>rfl) l
@[simp] theorem rswr_rLine (i j:Nat) (l:List DLine):rswr i j (l.map eLine)=l.map eLine:=rswr_mapR (fun _=>rfl) l
@[simp] theorem rswr_rRule (i j:Nat) (l:List DRule):rswr i j (l.map eRule)=l.map eRule:=rswr_mapR (fun _=>rfl) l
@[simp] theorem rswr_rSheetV (i j:Nat) (l:List DSheet):rswr i j (l.map (eSheet .view))=l.map (eSheet .view):=rswr_mapR (fun _=>by simp) l
@[simp] theorem rswr_rNodeV (i j:Nat) (l:List DNode):rswr i j (l.map (eNode .view))=l.map (eNode .view):=rswr_mapR (fun _=>by simp) l
theorem weak_run {t t':List AV} {o o':List AObj} {v:Nat} {n0 p0 n1 p1 lg:List (List AV)} {o0 o1 o6:AObj}
  (ho:o.take 10=[o0,o1,⟨true,false,4,1,n0⟩,⟨true,false,1,1,p0⟩,⟨true,true,2,0,[[.obj 7 1,.obj 8 1]]⟩,⟨true,false,1,v,lg⟩,o6,⟨true,false,4,1,n1⟩,⟨true,false,1,1,p1⟩,⟨true,true,2,0,[[.obj 7 1,.obj 8 1]]⟩])
  (ho':o'=[o0,o1,⟨true,false,4,1,n1⟩,⟨true,false,1,1,p1⟩,⟨true,true,2,0,[[.obj 2 1,.obj 3 1]]⟩,⟨true,false,1,v,lg⟩])
  (hf:(o0.rsw 2 7=o0∧o1.rsw 2 7=o1∧o6.rsw 2 7=o6)∧(o0.rsw 3 8=o0∧o1.rsw 3 8=o1∧o6.rsw 3 8=o6)) (hw:wk t t') (h1:wk (rswc 2 7 t') t') (h3:wk (rswc 3 8 t') t') (hc:closedc 6 t'=true) (hc1:closedc 10 t'=true) (hc0:closedo 6 [o0,o1]=true) (hc2:closedo 10 [o0,o1,o6]=true):Weak ⟨t,o⟩ ⟨t',o'⟩:=by
 subst ho'
 obtain ⟨⟨a0,a1,a6⟩,b0,b1,b6⟩:=hf
 refine (weak_take 10 ho hw hc1 (by simpa [closedo,closedc,closed,and_assoc] using hc2)).trans ?_
 refine (weak_swp 2 7 rfl rfl ⟨rfl,rfl⟩ (by simp [a0,a1,a6];rfl) h1).trans ?_
 refine (weak_swp 3 8 rfl rfl ⟨rfl,rfl⟩ (by simp [b0,b1,b6];rfl) h3).trans ?_
 refine weak_take 6 (by simp) (wk_rfl _) hc ?_
 simpa [closedo,closedc,closed] using hc0
end Go.Proofs.YtgkcdgaljknohaaGreatDoor
