/- Proved here: steps towards the statement of this claim. No condition. -/
import Derived.Test.YtfbefblglejcaaaGreatDoorZF7
import Derived.Lay
import Derived.Test.YtfbefblglejcaaaGreatDoorCards
import Derived.Test.YtfbefblglejcaaaGreatDoorTie
set_option linter.all false
namespace Go.Proofs.YtfbefblglejcaaaGreatDoor
open Go.Aw Proofs.Tryz List IntKind
set_option maxRecDepth 100000 in
theorem oh:(Rows.fnExactPlainLogRow.wf (OpenSpec.ofChange Rows.fnExactPlainLogSpec))=true:=by kernel_rfl
set_option maxRecDepth 100000 in
theorem oo:(laidOutB Tryz.pinned.checked.prog)=true:=by kernel_rfl
set_option maxRecDepth 100000 in
theorem ou:(mapsRowed Tryz.pinned.checked.prog)=true:=by kernel_rfl
set_option maxRecDepth 100000 in
theorem ow:(f3.params.all (Tryz.pinned.checked.prog.readableRec ·))=true:=by kernel_rfl
set_option maxRecDepth 100000 in
theorem oz:(namedTie Tryz.pinned.checked.prog Rows.fnExactPlainLogRow.named Rows.fnExactPlainLogSpec.vars)=true:=by kernel_rfl
set_option maxRecDepth 100000 in
theorem pg:((Rows.fnExactPlainLogRow.stops == []))=true:=by kernel_rfl
set_option maxRecDepth 100000 in
theorem pq:((Tryz.pinned.checked.prog.stops == []))=true:=by kernel_rfl
set_option maxRecDepth 100000 in
theorem qa:((Rows.fnExactPlainLogRow.knobs == []))=true:=by kernel_rfl
set_option maxRecDepth 100000 in
theorem qb:((Tryz.pinned.checked.prog.stopKnobs == []))=true:=by kernel_rfl
set_option maxRecDepth 100000 in
theorem qc:((Rows.fnExactPlainLogRow.inPlace == Tryz.pinned.checked.prog.inPlace 3))=true:=by kernel_rfl
set_option maxRecDepth 100000 in
theorem YA:((Rows.fnExactPlainLogRow.unfollowed == Tryz.pinned.checked.prog.unfollowed 3))=true:=by kernel_rfl
set_option maxRecDepth 100000 in
theorem YB:((Rows.fnExactPlainLogRow.recurses == Tryz.pinned.checked.prog.recurses 3))=true:=by kernel_rfl
set_option maxRecDepth 100000 in
theorem YC:((Rows.fnExactPlainLogRow.named == Tryz.pinned.checked.prog.varsNamed 3))=true:=by kernel_rfl
set_option maxRecDepth 100000 in
theorem YD:((Rows.fnExactPlainLogRow.maps == (f3.params.toList++Rows.fnExactPlainLogSpec.plain.varTypes Tryz.pinned.checked.prog).any (Tryz.pinned.checked.prog.mapsRec ·)))=true:=by kernel_rfl
set_option maxRecDepth 100000 in
theorem YE:((Rows.fnExactPlainLogRow.ifaces == (f3.params.toList++Rows.fnExactPlainLogSpec.plain.varTypes Tryz.pinned.checked.prog).any (Tryz.pinned.checked.prog.ifacesRec ·)))=true:=by kernel_rfl
set_option maxRecDepth 100000 in
theorem YF:((Rows.fnExactPlainLogRow.mapsOut == Tryz.pinned.checked.prog.mapsAmong f3.resultTypes.toList))=true:=by kernel_rfl
set_option maxRecDepth 100000 in
theorem YG:((Rows.fnExactPlainLogRow.loops == (f3.params.toList++Rows.fnExactPlainLogSpec.plain.varTypes Tryz.pinned.checked.prog).any (Tryz.pinned.checked.prog.loopsFrom ·)))=true:=by kernel_rfl
set_option maxRecDepth 100000 in
theorem YH:((Rows.fnExactPlainLogRow.wideKeys == (f3.params.toList++Rows.fnExactPlainLogSpec.plain.varTypes Tryz.pinned.checked.prog++f3.resultTypes.toList).any (Tryz.pinned.checked.prog.wideKeysFrom ·)))=true:=by kernel_rfl
set_option maxRecDepth 100000 in
theorem YI:(Rows.fnExactPlainLogSpec.vars.all (Tryz.pinned.checked.prog.varReadable ·))=true:=by kernel_rfl
set_option maxRecDepth 100000 in
theorem YJ:(f3.resultTypes.all (λt=>Tryz.pinned.checked.prog.readableRec t&&decide (t<Tryz.pinned.checked.prog.types.size)))=true:=by kernel_rfl
set_option maxRecDepth 100000 in
theorem YK:((Rows.fnExactPlainLogRow.ifacesOut == f3.resultTypes.toList.any (Tryz.pinned.checked.prog.ifacesRec ·)))=true:=by kernel_rfl
set_option maxRecDepth 100000 in
theorem YL:((Rows.fnExactPlainLogRow.loopsOut == f3.resultTypes.toList.any (Tryz.pinned.checked.prog.loopsFrom ·)))=true:=by kernel_rfl
set_option maxRecDepth 100000 in
theorem YM:((Rows.fnExactPlainLogRow.plainKeys == Tryz.pinned.checked.prog.plainKeys))=true:=by kernel_rfl
set_option maxRecDepth 100000 in
theorem YN:(Rows.fnExactPlainLogRow.shortTexts.isNone)=true:=by kernel_rfl
set_option maxRecDepth 100000 in
theorem YO:(Tryz.pinned.checked.prog.stopsHeard)=true:=by kernel_rfl
set_option maxRecDepth 100000 in
theorem YP:(Tryz.pinned.checked.prog.mayEnter)=true:=by kernel_rfl
set_option maxRecDepth 100000 in
theorem YQ:((Rows.fnExactPlainLogRow.lifted == Tryz.pinned.checked.prog.liftsFinal))=true:=by kernel_rfl
set_option maxRecDepth 100000 in
theorem YR:((Tryz.pinned.checked.prog.make == some Rows.fnExactPlainLogRow.make))=true:=by kernel_rfl
set_option maxRecDepth 100000 in
theorem YS:((Rows.fnExactPlainLogRow.kinds == (if Rows.fnExactPlainLogRow.domain.isEmpty then []else f3.params.toList.map λt=>match Tryz.pinned.checked.prog.underlying t with|some (.int k)=>some k|_=>none)))=true:=by kernel_rfl
set_option maxRecDepth 100000 in
theorem YT:((Rows.fnExactPlainLogRow.pinned == Rows.fnExactPlainLogRow.pinnedBy))=true:=by kernel_rfl
set_option maxRecDepth 100000 in
theorem YU:((Rows.fnExactPlainLogRow.veiled == (f3.params.toList++Rows.fnExactPlainLogSpec.plain.varTypes Tryz.pinned.checked.prog++f3.resultTypes.toList).any (Tryz.pinned.checked.prog.veiledRec ·)))=true:=by kernel_rfl
set_option maxRecDepth 100000 in
theorem YV:(Rows.fnExactPlainLogRow.veiledFits Tryz.pinned.checked.prog f3.params.toList (f3.params.toList++Rows.fnExactPlainLogSpec.plain.varTypes Tryz.pinned.checked.prog++f3.resultTypes.toList))=true:=by kernel_rfl
set_option maxRecDepth 100000 in
theorem Qw:joinedFacts Tryz.pinned.checked.prog 3 f3 Rows.fnExactPlainLogSpec Rows.fnExactPlainLogRow=true:=by unfold joinedFacts;exact(eW.2 ⟨(eW.2 ⟨(eW.2 ⟨(eW.2 ⟨(eW.2 ⟨(eW.2 ⟨(eW.2 ⟨(eW.2 ⟨(eW.2 ⟨(eW.2 ⟨(eW.2 ⟨(eW.2 ⟨(eW.2 ⟨(eW.2 ⟨(eW.2 ⟨(eW.2 ⟨(eW.2 ⟨(eW.2 ⟨(eW.2 ⟨(eW.2 ⟨(eW.2 ⟨(eW.2 ⟨(eW.2 ⟨(eW.2 ⟨(eW.2 ⟨(eW.2 ⟨(eW.2 ⟨(eW.2 ⟨(eW.2 ⟨(eW.2 ⟨(eW.2 ⟨oh,oo⟩),ou⟩),ow⟩),oz⟩),pg⟩),pq⟩),qa⟩),qb⟩),qc⟩),YA⟩),YB⟩),YC⟩),YD⟩),YE⟩),YF⟩),YG⟩),YH⟩),YI⟩),YJ⟩),YK⟩),YL⟩),YM⟩),YN⟩),YO⟩),YP⟩),YQ⟩),YR⟩),YS⟩),YT⟩),YU⟩),YV⟩)
set_option maxHeartbeats 8000000
set_option maxRecDepth 8000
theorem KD{P:Program}(h:P.funcs.toList.all (λfn=> !fn.goes)=true)(c:OpenClaim)(hs:c.start= .entering):false=c.goesBy P:=by
 have h1:∀f,P.goes f=false:=by
  intro f;have ha:P.funcs.any Func.goes=false:=by rw[Array.any_eq_false];intro i hi;have:=fN.1 h (P.funcs[i]) (by simp);simpa using this
  unfold Program.goes;rw[ha,Bool.and_false,Bool.or_false,any_eq_false];intro g _;cases hg:P.funcs[g]? with
  |none=>simp
  |some fn=>have:=fN.1 h fn (by simpa using mT (by simpa using hg:P.funcs.toList[g]? =some fn));simpa using this
 unfold OpenClaim.goesBy Program.goesAt Program.goesFrom;rw[hs];cases P.funcNamed c.func<;>simp[h1]
theorem Vv:false=Rows.fnExactPlainLogRow.goesBy Tryz.pinned.checked.prog:=KD (by as_aux_lemma=>kernel_rfl) _ rfl
end Go.Proofs.YtfbefblglejcaaaGreatDoor
