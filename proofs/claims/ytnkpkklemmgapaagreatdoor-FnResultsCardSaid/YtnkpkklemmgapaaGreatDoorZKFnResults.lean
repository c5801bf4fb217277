/- Proved here: steps towards the statement of this claim. No condition. -/
import Derived.Test.YtnkpkklemmgapaaGreatDoorZF7
import Derived.Lay
import Derived.Test.YtnkpkklemmgapaaGreatDoorCards
import Derived.Test.YtnkpkklemmgapaaGreatDoorTie
set_option linter.all false
namespace Go.Proofs.YtnkpkklemmgapaaGreatDoor
open Go.Aw Proofs.Tryz List IntKind
set_option maxRecDepth 100000 in
theorem Wq:(Rows.fnResultsRow.wf (OpenSpec.ofChange Rows.fnResultsSpec))=true:=by kernel_rfl
set_option maxRecDepth 100000 in
theorem Ws:(laidOutB Tryz.pinned.checked.prog)=true:=by kernel_rfl
set_option maxRecDepth 100000 in
theorem Wt:(mapsRowed Tryz.pinned.checked.prog)=true:=by kernel_rfl
set_option maxRecDepth 100000 in
theorem Wu:(f3.params.all (Tryz.pinned.checked.prog.readableRec ·))=true:=by kernel_rfl
set_option maxRecDepth 100000 in
theorem Wv:(namedTie Tryz.pinned.checked.prog Rows.fnResultsRow.named Rows.fnResultsSpec.vars)=true:=by kernel_rfl
set_option maxRecDepth 100000 in
theorem Ww:((Rows.fnResultsRow.stops == []))=true:=by kernel_rfl
set_option maxRecDepth 100000 in
theorem Wx:((Tryz.pinned.checked.prog.stops == []))=true:=by kernel_rfl
set_option maxRecDepth 100000 in
theorem Wy:((Rows.fnResultsRow.knobs == []))=true:=by kernel_rfl
set_option maxRecDepth 100000 in
theorem Wz:((Tryz.pinned.checked.prog.stopKnobs == []))=true:=by kernel_rfl
set_option maxRecDepth 100000 in
theorem WA:((Rows.fnResultsRow.inPlace == Tryz.pinned.checked.prog.inPlace 3))=true:=by kernel_rfl
set_option maxRecDepth 100000 in
theorem SN:((Rows.fnResultsRow.unfollowed == Tryz.pinned.checked.prog.unfollowed 3))=true:=by kernel_rfl
set_option maxRecDepth 100000 in
theorem SQ:((Rows.fnResultsRow.recurses == Tryz.pinned.checked.prog.recurses 3))=true:=by kernel_rfl
set_option maxRecDepth 100000 in
theorem SS:((Rows.fnResultsRow.named == Tryz.pinned.checked.prog.varsNamed 3))=true:=by kernel_rfl
set_option maxRecDepth 100000 in
theorem SV:((Rows.fnResultsRow.maps == (f3.params.toList++Rows.fnResultsSpec.plain.varTypes Tryz.pinned.checked.prog).any (Tryz.pinned.checked.prog.mapsRec ·)))=true:=by kernel_rfl
set_option maxRecDepth 100000 in
theorem SX:((Rows.fnResultsRow.ifaces == (f3.params.toList++Rows.fnResultsSpec.plain.varTypes Tryz.pinned.checked.prog).any (Tryz.pinned.checked.prog.ifacesRec ·)))=true:=by kernel_rfl
set_option maxRecDepth 100000 in
theorem SY:((Rows.fnResultsRow.mapsOut == Tryz.pinned.checked.prog.mapsAmong f3.resultTypes.toList))=true:=by kernel_rfl
set_option maxRecDepth 100000 in
theorem Ta:((Rows.fnResultsRow.loops == (f3.params.toList++Rows.fnResultsSpec.plain.varTypes Tryz.pinned.checked.prog).any (Tryz.pinned.checked.prog.loopsFrom ·)))=true:=by kernel_rfl
set_option maxRecDepth 100000 in
theorem Tc:((Rows.fnResultsRow.wideKeys == (f3.params.toList++Rows.fnResultsSpec.plain.varTypes Tryz.pinned.checked.prog++f3.resultTypes.toList).any (Tryz.pinned.checked.prog.wideKeysFrom ·)))=true:=by kernel_rfl
set_option maxRecDepth 100000 in
theorem Td:(Rows.fnResultsSpec.vars.all (Tryz.pinned.checked.prog.varReadable ·))=true:=by kernel_rfl
set_option maxRecDepth 100000 in
theorem Te:(f3.resultTypes.all (λt=>Tryz.pinned.checked.prog.readableRec t&&decide (t<Tryz.pinned.checked.prog.types.size)))=true:=by kernel_rfl
set_option maxRecDepth 100000 in
theorem Tf:((Rows.fnResultsRow.ifacesOut == f3.resultTypes.toList.any (Tryz.pinned.checked.prog.ifacesRec ·)))=true:=by kernel_rfl
set_option maxRecDepth 100000 in
theorem Ti:((Rows.fnResultsRow.loopsOut == f3.resultTypes.toList.any (Tryz.pinned.checked.prog.loopsFrom ·)))=true:=by kernel_rfl
set_option maxRecDepth 100000 in
theorem Tj:((Rows.fnResultsRow.plainKeys == Tryz.pinned.checked.prog.plainKeys))=true:=by kernel_rfl
set_option maxRecDepth 100000 in
theorem Tk:(Rows.fnResultsRow.shortTexts.isNone)=true:=by kernel_rfl
set_option maxRecDepth 100000 in
theorem Tm:(Tryz.pinned.checked.prog.stopsHeard)=true:=by kernel_rfl
set_option maxRecDepth 100000 in
theorem Tn:(Tryz.pinned.checked.prog.mayEnter)=true:=by kernel_rfl
set_option maxRecDepth 100000 in
theorem Tp:((Rows.fnResultsRow.lifted == Tryz.pinned.checked.prog.liftsFinal))=true:=by kernel_rfl
set_option maxRecDepth 100000 in
theorem Tq:((Tryz.pinned.checked.prog.make == some Rows.fnResultsRow.make))=true:=by kernel_rfl
set_option maxRecDepth 100000 in
theorem Tt:((Rows.fnResultsRow.kinds == (if Rows.fnResultsRow.domain.isEmpty then []else f3.params.toList.map λt=>match Tryz.pinned.checked.prog.underlying t with|some (.int k)=>some k|_=>none)))=true:=by kernel_rfl
set_option maxRecDepth 100000 in
theorem Tu:((Rows.fnResultsRow.pinned == Rows.fnResultsRow.pinnedBy))=true:=by kernel_rfl
set_option maxRecDepth 100000 in
theorem Tv:((Rows.fnResultsRow.veiled == (f3.params.toList++Rows.fnResultsSpec.plain.varTypes Tryz.pinned.checked.prog++f3.resultTypes.toList).any (Tryz.pinned.checked.prog.veiledRec ·)))=true:=by kernel_rfl
set_option maxRecDepth 100000 in
theorem Tw:(Rows.fnResultsRow.veiledFits Tryz.pinned.checked.prog f3.params.toList (f3.params.toList++Rows.fnResultsSpec.plain.varTypes Tryz.pinned.checked.prog++f3.resultTypes.toList))=true:=by kernel_rfl
set_option maxRecDepth 100000 in
theorem Ma:joinedFacts Tryz.pinned.checked.prog 3 f3 Rows.fnResultsSpec Rows.fnResultsRow=true:=by unfold joinedFacts;exact(fR.2 ⟨(fR.2 ⟨(fR.2 ⟨(fR.2 ⟨(fR.2 ⟨(fR.2 ⟨(fR.2 ⟨(fR.2 ⟨(fR.2 ⟨(fR.2 ⟨(fR.2 ⟨(fR.2 ⟨(fR.2 ⟨(fR.2 ⟨(fR.2 ⟨(fR.2 ⟨(fR.2 ⟨(fR.2 ⟨(fR.2 ⟨(fR.2 ⟨(fR.2 ⟨(fR.2 ⟨(fR.2 ⟨(fR.2 ⟨(fR.2 ⟨(fR.2 ⟨(fR.2 ⟨(fR.2 ⟨(fR.2 ⟨(fR.2 ⟨(fR.2 ⟨Wq,Ws⟩),Wt⟩),Wu⟩),Wv⟩),Ww⟩),Wx⟩),Wy⟩),Wz⟩),WA⟩),SN⟩),SQ⟩),SS⟩),SV⟩),SX⟩),SY⟩),Ta⟩),Tc⟩),Td⟩),Te⟩),Tf⟩),Ti⟩),Tj⟩),Tk⟩),Tm⟩),Tn⟩),Tp⟩),Tq⟩),Tt⟩),Tu⟩),Tv⟩),Tw⟩)
set_option maxHeartbeats 8000000
set_option maxRecDepth 8000
theorem Gx{P:Program}(h:P.funcs.toList.all (λfn=> !fn.goes)=true)(c:OpenClaim)(hs:c.start= .entering):false=c.goesBy P:=by
 have h1:∀f,P.goes f=false:=by
  intro f;have ha:P.funcs.any Func.goes=false:=by rw[Array.any_eq_false];intro i hi;have:=fW.1 h (P.funcs[i]) (by simp);simpa using this
  unfold Program.goes;rw[ha,Bool.and_false,Bool.or_false,any_eq_false];intro g _;cases hg:P.funcs[g]? with
  |none=>simp
  |some fn=>have:=fW.1 h fn (by simpa using mB (by simpa using hg:P.funcs.toList[g]? =some fn));simpa using this
 unfold OpenClaim.goesBy Program.goesAt Program.goesFrom;rw[hs];cases P.funcNamed c.func<;>simp[h1]
theorem Rs:false=Rows.fnResultsRow.goesBy Tryz.pinned.checked.prog:=Gx (by as_aux_lemma=>kernel_rfl) _ rfl
end Go.Proofs.YtnkpkklemmgapaaGreatDoor
