/- Proved here: steps towards the statement of this claim. No condition. -/
import Derived.Test.YthddijamfbfibaaGreatDoorZF7
import Derived.Lay
import Derived.Test.YthddijamfbfibaaGreatDoorCards
import Derived.Test.YthddijamfbfibaaGreatDoorTie
set_option linter.all false
namespace Go.Proofs.YthddijamfbfibaaGreatDoor
open Go.Aw Proofs.Tryz List IntKind
set_option maxRecDepth 100000 in
theorem WH:(Rows.fnExactPlainNeedsRow.wf (OpenSpec.ofChange Rows.fnExactPlainNeedsSpec))=true:=by kernel_rfl
set_option maxRecDepth 100000 in
theorem WI:(laidOutB Tryz.pinned.checked.prog)=true:=by kernel_rfl
set_option maxRecDepth 100000 in
theorem WJ:(mapsRowed Tryz.pinned.checked.prog)=true:=by kernel_rfl
set_option maxRecDepth 100000 in
theorem WK:(f3.params.all (Tryz.pinned.checked.prog.readableRec ·))=true:=by kernel_rfl
set_option maxRecDepth 100000 in
theorem WM:(namedTie Tryz.pinned.checked.prog Rows.fnExactPlainNeedsRow.named Rows.fnExactPlainNeedsSpec.vars)=true:=by kernel_rfl
set_option maxRecDepth 100000 in
theorem WN:((Rows.fnExactPlainNeedsRow.stops == []))=true:=by kernel_rfl
set_option maxRecDepth 100000 in
theorem WO:((Tryz.pinned.checked.prog.stops == []))=true:=by kernel_rfl
set_option maxRecDepth 100000 in
theorem WQ:((Rows.fnExactPlainNeedsRow.knobs == []))=true:=by kernel_rfl
set_option maxRecDepth 100000 in
theorem WR:((Tryz.pinned.checked.prog.stopKnobs == []))=true:=by kernel_rfl
set_option maxRecDepth 100000 in
theorem WS:((Rows.fnExactPlainNeedsRow.inPlace == Tryz.pinned.checked.prog.inPlace 3))=true:=by kernel_rfl
set_option maxRecDepth 100000 in
theorem Vg:((Rows.fnExactPlainNeedsRow.unfollowed == Tryz.pinned.checked.prog.unfollowed 3))=true:=by kernel_rfl
set_option maxRecDepth 100000 in
theorem Vh:((Rows.fnExactPlainNeedsRow.recurses == Tryz.pinned.checked.prog.recurses 3))=true:=by kernel_rfl
set_option maxRecDepth 100000 in
theorem Vi:((Rows.fnExactPlainNeedsRow.named == Tryz.pinned.checked.prog.varsNamed 3))=true:=by kernel_rfl
set_option maxRecDepth 100000 in
theorem Vj:((Rows.fnExactPlainNeedsRow.maps == (f3.params.toList++Rows.fnExactPlainNeedsSpec.plain.varTypes Tryz.pinned.checked.prog).any (Tryz.pinned.checked.prog.mapsRec ·)))=true:=by kernel_rfl
set_option maxRecDepth 100000 in
theorem Vk:((Rows.fnExactPlainNeedsRow.ifaces == (f3.params.toList++Rows.fnExactPlainNeedsSpec.plain.varTypes Tryz.pinned.checked.prog).any (Tryz.pinned.checked.prog.ifacesRec ·)))=true:=by kernel_rfl
set_option maxRecDepth 100000 in
theorem Vl:((Rows.fnExactPlainNeedsRow.mapsOut == Tryz.pinned.checked.prog.mapsAmong f3.resultTypes.toList))=true:=by kernel_rfl
set_option maxRecDepth 100000 in
theorem Vm:((Rows.fnExactPlainNeedsRow.loops == (f3.params.toList++Rows.fnExactPlainNeedsSpec.plain.varTypes Tryz.pinned.checked.prog).any (Tryz.pinned.checked.prog.loopsFrom ·)))=true:=by kernel_rfl
set_option maxRecDepth 100000 in
theorem Vn:((Rows.fnExactPlainNeedsRow.wideKeys == (f3.params.toList++Rows.fnExactPlainNeedsSpec.plain.varTypes Tryz.pinned.checked.prog++f3.resultTypes.toList).any (Tryz.pinned.checked.prog.wideKeysFrom ·)))=true:=by kernel_rfl
set_option maxRecDepth 100000 in
theorem Vo:(Rows.fnExactPlainNeedsSpec.vars.all (Tryz.pinned.checked.prog.varReadable ·))=true:=by kernel_rfl
set_option maxRecDepth 100000 in
theorem Vp:(f3.resultTypes.all (λt=>Tryz.pinned.checked.prog.readableRec t&&decide (t<Tryz.pinned.checked.prog.types.size)))=true:=by kernel_rfl
set_option maxRecDepth 100000 in
theorem Vq:((Rows.fnExactPlainNeedsRow.ifacesOut == f3.resultTypes.toList.any (Tryz.pinned.checked.prog.ifacesRec ·)))=true:=by kernel_rfl
set_option maxRecDepth 100000 in
theorem Vr:((Rows.fnExactPlainNeedsRow.loopsOut == f3.resultTypes.toList.any (Tryz.pinned.checked.prog.loopsFrom ·)))=true:=by kernel_rfl
set_option maxRecDepth 100000 in
theorem Vs:((Rows.fnExactPlainNeedsRow.plainKeys == Tryz.pinned.checked.prog.plainKeys))=true:=by kernel_rfl
set_option maxRecDepth 100000 in
theorem Vt:(Rows.fnExactPlainNeedsRow.shortTexts.isNone)=true:=by kernel_rfl
set_option maxRecDepth 100000 in
theorem Vu:(Tryz.pinned.checked.prog.stopsHeard)=true:=by kernel_rfl
set_option maxRecDepth 100000 in
theorem Vv:(Tryz.pinned.checked.prog.mayEnter)=true:=by kernel_rfl
set_option maxRecDepth 100000 in
theorem Vw:((Rows.fnExactPlainNeedsRow.lifted == Tryz.pinned.checked.prog.liftsFinal))=true:=by kernel_rfl
set_option maxRecDepth 100000 in
theorem Vx:((Tryz.pinned.checked.prog.make == some Rows.fnExactPlainNeedsRow.make))=true:=by kernel_rfl
set_option maxRecDepth 100000 in
theorem Vy:((Rows.fnExactPlainNeedsRow.kinds == (if Rows.fnExactPlainNeedsRow.domain.isEmpty then []else f3.params.toList.map λt=>match Tryz.pinned.checked.prog.underlying t with|some (.int k)=>some k|_=>none)))=true:=by kernel_rfl
set_option maxRecDepth 100000 in
theorem Vz:((Rows.fnExactPlainNeedsRow.pinned == Rows.fnExactPlainNeedsRow.pinnedBy))=true:=by kernel_rfl
set_option maxRecDepth 100000 in
theorem VA:((Rows.fnExactPlainNeedsRow.veiled == (f3.params.toList++Rows.fnExactPlainNeedsSpec.plain.varTypes Tryz.pinned.checked.prog++f3.resultTypes.toList).any (Tryz.pinned.checked.prog.veiledRec ·)))=true:=by kernel_rfl
set_option maxRecDepth 100000 in
theorem VB:(Rows.fnExactPlainNeedsRow.veiledFits Tryz.pinned.checked.prog f3.params.toList (f3.params.toList++Rows.fnExactPlainNeedsSpec.plain.varTypes Tryz.pinned.checked.prog++f3.resultTypes.toList))=true:=by kernel_rfl
set_option maxRecDepth 100000 in
theorem Nl:joinedFacts Tryz.pinned.checked.prog 3 f3 Rows.fnExactPlainNeedsSpec Rows.fnExactPlainNeedsRow=true:=by unfold joinedFacts;exact(fL.2 ⟨(fL.2 ⟨(fL.2 ⟨(fL.2 ⟨(fL.2 ⟨(fL.2 ⟨(fL.2 ⟨(fL.2 ⟨(fL.2 ⟨(fL.2 ⟨(fL.2 ⟨(fL.2 ⟨(fL.2 ⟨(fL.2 ⟨(fL.2 ⟨(fL.2 ⟨(fL.2 ⟨(fL.2 ⟨(fL.2 ⟨(fL.2 ⟨(fL.2 ⟨(fL.2 ⟨(fL.2 ⟨(fL.2 ⟨(fL.2 ⟨(fL.2 ⟨(fL.2 ⟨(fL.2 ⟨(fL.2 ⟨(fL.2 ⟨(fL.2 ⟨WH,WI⟩),WJ⟩),WK⟩),WM⟩),WN⟩),WO⟩),WQ⟩),WR⟩),WS⟩),Vg⟩),Vh⟩),Vi⟩),Vj⟩),Vk⟩),Vl⟩),Vm⟩),Vn⟩),Vo⟩),Vp⟩),Vq⟩),Vr⟩),Vs⟩),Vt⟩),Vu⟩),Vv⟩),Vw⟩),Vx⟩),Vy⟩),Vz⟩),VA⟩),VB⟩)
set_option maxHeartbeats 8000000
set_option maxRecDepth 8000
theorem Ig{P:Program}(h:P.funcs.toList.all (λfn=> !fn.goes)=true)(c:OpenClaim)(hs:c.start= .entering):false=c.goesBy P:=by
 have h1:∀f,P.goes f=false:=by
  intro f;have ha:P.funcs.any Func.goes=false:=by rw[Array.any_eq_false];intro i hi;have:=fR.1 h (P.funcs[i]) (by simp);simpa using this
  unfold Program.goes;rw[ha,Bool.and_false,Bool.or_false,any_eq_false];intro g _;cases hg:P.funcs[g]? with
  |none=>simp
  |some fn=>have:=fR.1 h fn (by simpa using nB (by simpa using hg:P.funcs.toList[g]? =some fn));simpa using this
 unfold OpenClaim.goesBy Program.goesAt Program.goesFrom;rw[hs];cases P.funcNamed c.func<;>simp[h1]
theorem QS:false=Rows.fnExactPlainNeedsRow.goesBy Tryz.pinned.checked.prog:=Ig (by as_aux_lemma=>kernel_rfl) _ rfl
end Go.Proofs.YthddijamfbfibaaGreatDoor
