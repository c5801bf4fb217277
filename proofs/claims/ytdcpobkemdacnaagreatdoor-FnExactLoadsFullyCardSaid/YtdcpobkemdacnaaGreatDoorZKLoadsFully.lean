/- Proved here: steps towards the statement of this claim. No condition. -/
import Derived.Test.YtdcpobkemdacnaaGreatDoorZF7
import Derived.Lay
import Derived.Test.YtdcpobkemdacnaaGreatDoorCards
import Derived.Test.YtdcpobkemdacnaaGreatDoorTie
set_option linter.all false
namespace Go.Proofs.YtdcpobkemdacnaaGreatDoor
open Go.Aw Proofs.Tryz List IntKind
set_option maxRecDepth 100000 in
theorem UL:(Rows.fnExactLoadsFullyRow.wf (OpenSpec.ofChange Rows.fnExactLoadsFullySpec))=true:=by kernel_rfl
set_option maxRecDepth 100000 in
theorem UM:(laidOutB Tryz.pinned.checked.prog)=true:=by kernel_rfl
set_option maxRecDepth 100000 in
theorem UN:(mapsRowed Tryz.pinned.checked.prog)=true:=by kernel_rfl
set_option maxRecDepth 100000 in
theorem UO:(f3.params.all (Tryz.pinned.checked.prog.readableRec ·))=true:=by kernel_rfl
set_option maxRecDepth 100000 in
theorem UQ:(namedTie Tryz.pinned.checked.prog Rows.fnExactLoadsFullyRow.named Rows.fnExactLoadsFullySpec.vars)=true:=by kernel_rfl
set_option maxRecDepth 100000 in
theorem UR:((Rows.fnExactLoadsFullyRow.stops == []))=true:=by kernel_rfl
set_option maxRecDepth 100000 in
theorem UT:((Tryz.pinned.checked.prog.stops == []))=true:=by kernel_rfl
set_option maxRecDepth 100000 in
theorem UU:((Rows.fnExactLoadsFullyRow.knobs == []))=true:=by kernel_rfl
set_option maxRecDepth 100000 in
theorem UW:((Tryz.pinned.checked.prog.stopKnobs == []))=true:=by kernel_rfl
set_option maxRecDepth 100000 in
theorem UX:((Rows.fnExactLoadsFullyRow.inPlace == Tryz.pinned.checked.prog.inPlace 3))=true:=by kernel_rfl
set_option maxRecDepth 100000 in
theorem Tu:((Rows.fnExactLoadsFullyRow.unfollowed == Tryz.pinned.checked.prog.unfollowed 3))=true:=by kernel_rfl
set_option maxRecDepth 100000 in
theorem Tv:((Rows.fnExactLoadsFullyRow.recurses == Tryz.pinned.checked.prog.recurses 3))=true:=by kernel_rfl
set_option maxRecDepth 100000 in
theorem Tw:((Rows.fnExactLoadsFullyRow.named == Tryz.pinned.checked.prog.varsNamed 3))=true:=by kernel_rfl
set_option maxRecDepth 100000 in
theorem Tx:((Rows.fnExactLoadsFullyRow.maps == (f3.params.toList++Rows.fnExactLoadsFullySpec.plain.varTypes Tryz.pinned.checked.prog).any (Tryz.pinned.checked.prog.mapsRec ·)))=true:=by kernel_rfl
set_option maxRecDepth 100000 in
theorem Ty:((Rows.fnExactLoadsFullyRow.ifaces == (f3.params.toList++Rows.fnExactLoadsFullySpec.plain.varTypes Tryz.pinned.checked.prog).any (Tryz.pinned.checked.prog.ifacesRec ·)))=true:=by kernel_rfl
set_option maxRecDepth 100000 in
theorem Tz:((Rows.fnExactLoadsFullyRow.mapsOut == Tryz.pinned.checked.prog.mapsAmong f3.resultTypes.toList))=true:=by kernel_rfl
set_option maxRecDepth 100000 in
theorem TA:((Rows.fnExactLoadsFullyRow.loops == (f3.params.toList++Rows.fnExactLoadsFullySpec.plain.varTypes Tryz.pinned.checked.prog).any (Tryz.pinned.checked.prog.loopsFrom ·)))=true:=by kernel_rfl
set_option maxRecDepth 100000 in
theorem TB:((Rows.fnExactLoadsFullyRow.wideKeys == (f3.params.toList++Rows.fnExactLoadsFullySpec.plain.varTypes Tryz.pinned.checked.prog++f3.resultTypes.toList).any (Tryz.pinned.checked.prog.wideKeysFrom ·)))=true:=by kernel_rfl
set_option maxRecDepth 100000 in
theorem TC:(Rows.fnExactLoadsFullySpec.vars.all (Tryz.pinned.checked.prog.varReadable ·))=true:=by kernel_rfl
set_option maxRecDepth 100000 in
theorem TD:(f3.resultTypes.all (λt=>Tryz.pinned.checked.prog.readableRec t&&decide (t < Tryz.pinned.checked.prog.types.size)))=true:=by kernel_rfl
set_option maxRecDepth 100000 in
theorem TE:((Rows.fnExactLoadsFullyRow.ifacesOut == f3.resultTypes.toList.any (Tryz.pinned.checked.prog.ifacesRec ·)))=true:=by kernel_rfl
set_option maxRecDepth 100000 in
theorem TF:((Rows.fnExactLoadsFullyRow.loopsOut == f3.resultTypes.toList.any (Tryz.pinned.checked.prog.loopsFrom ·)))=true:=by kernel_rfl
set_option maxRecDepth 100000 in
theorem TG:((Rows.fnExactLoadsFullyRow.plainKeys == Tryz.pinned.checked.prog.plainKeys))=true:=by kernel_rfl
set_option maxRecDepth 100000 in
theorem TH:(Rows.fnExactLoadsFullyRow.shortTexts.isNone)=true:=by kernel_rfl
set_option maxRecDepth 100000 in
theorem TI:(Tryz.pinned.checked.prog.stopsHeard)=true:=by kernel_rfl
set_option maxRecDepth 100000 in
theorem TJ:(Tryz.pinned.checked.prog.mayEnter)=true:=by kernel_rfl
set_option maxRecDepth 100000 in
theorem TK:((Rows.fnExactLoadsFullyRow.lifted == Tryz.pinned.checked.prog.liftsFinal))=true:=by kernel_rfl
set_option maxRecDepth 100000 in
theorem TL:((Tryz.pinned.checked.prog.make == some Rows.fnExactLoadsFullyRow.make))=true:=by kernel_rfl
set_option maxRecDepth 100000 in
theorem TM:((Rows.fnExactLoadsFullyRow.kinds == (if Rows.fnExactLoadsFullyRow.domain.isEmpty then [] else f3.params.toList.map λt=>match Tryz.pinned.checked.prog.underlying t with|some (.int k)=>some k|_=>none)))=true:=by kernel_rfl
set_option maxRecDepth 100000 in
theorem TN:((Rows.fnExactLoadsFullyRow.pinned == Rows.fnExactLoadsFullyRow.pinnedBy))=true:=by kernel_rfl
set_option maxRecDepth 100000 in
theorem TP:((Rows.fnExactLoadsFullyRow.veiled == (f3.params.toList++Rows.fnExactLoadsFullySpec.plain.varTypes Tryz.pinned.checked.prog++f3.resultTypes.toList).any (Tryz.pinned.checked.prog.veiledRec ·)))=true:=by kernel_rfl
set_option maxRecDepth 100000 in
theorem TQ:(Rows.fnExactLoadsFullyRow.veiledFits Tryz.pinned.checked.prog f3.params.toList (f3.params.toList++Rows.fnExactLoadsFullySpec.plain.varTypes Tryz.pinned.checked.prog++f3.resultTypes.toList))=true:=by kernel_rfl
set_option maxRecDepth 100000 in
theorem LZ:joinedFacts Tryz.pinned.checked.prog 3 f3 Rows.fnExactLoadsFullySpec Rows.fnExactLoadsFullyRow=true:=by unfold joinedFacts;exact (eV.2 ⟨(eV.2 ⟨(eV.2 ⟨(eV.2 ⟨(eV.2 ⟨(eV.2 ⟨(eV.2 ⟨(eV.2 ⟨(eV.2 ⟨(eV.2 ⟨(eV.2 ⟨(eV.2 ⟨(eV.2 ⟨(eV.2 ⟨(eV.2 ⟨(eV.2 ⟨(eV.2 ⟨(eV.2 ⟨(eV.2 ⟨(eV.2 ⟨(eV.2 ⟨(eV.2 ⟨(eV.2 ⟨(eV.2 ⟨(eV.2 ⟨(eV.2 ⟨(eV.2 ⟨(eV.2 ⟨(eV.2 ⟨(eV.2 ⟨(eV.2 ⟨UL,UM⟩),UN⟩),UO⟩),UQ⟩),UR⟩),UT⟩),UU⟩),UW⟩),UX⟩),Tu⟩),Tv⟩),Tw⟩),Tx⟩),Ty⟩),Tz⟩),TA⟩),TB⟩),TC⟩),TD⟩),TE⟩),TF⟩),TG⟩),TH⟩),TI⟩),TJ⟩),TK⟩),TL⟩),TM⟩),TN⟩),TP⟩),TQ⟩)
set_option maxHeartbeats 8000000
set_option maxRecDepth 8000
theorem Gx {P:Program} (h:P.funcs.toList.all (λfn=> !fn.goes)=true) (c:OpenClaim) (hs:c.start= .entering):false=c.goesBy P:=by
 have h1:∀f,P.goes f=false:=by
  intro f;have ha:P.funcs.any Func.goes=false:=by rw [Array.any_eq_false];intro i hi;have:=fW.1 h (P.funcs[i]) (by simp);simpa using this
  unfold Program.goes;rw [ha,Bool.and_false,Bool.or_false,any_eq_false];intro g _;cases hg:P.funcs[g]? with
  |none=>simp
  |some fn=>have:=fW.1 h fn (by simpa using mS (by simpa using hg:P.funcs.toList[g]? =some fn));simpa using this
 unfold OpenClaim.goesBy Program.goesAt Program.goesFrom;rw [hs];cases P.funcNamed c.func<;>simp [h1]
theorem PG:false=Rows.fnExactLoadsFullyRow.goesBy Tryz.pinned.checked.prog:=Gx (by as_aux_lemma=>kernel_rfl) _ rfl
end Go.Proofs.YtdcpobkemdacnaaGreatDoor
