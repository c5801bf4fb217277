/- Proved here: steps towards the statement of this claim. No condition. -/
import Derived.Test.YtjkdolejalpflaaGreatDoorZF7
import Derived.Lay
import Derived.Test.YtjkdolejalpflaaGreatDoorCards
import Derived.Test.YtjkdolejalpflaaGreatDoorTie
set_option linter.all false
namespace Go.Proofs.YtjkdolejalpflaaGreatDoor
open Go.Aw Proofs.Tryz List IntKind
set_option maxRecDepth 100000 in
theorem Ur:(Rows.fnParserRow.wf (OpenSpec.ofChange Rows.fnParserSpec))=true:=by kernel_rfl
set_option maxRecDepth 100000 in
theorem Us:(laidOutB Tryz.pinned.checked.prog)=true:=by kernel_rfl
set_option maxRecDepth 100000 in
theorem Ut:(mapsRowed Tryz.pinned.checked.prog)=true:=by kernel_rfl
set_option maxRecDepth 100000 in
theorem Uu:(f3.params.all (Tryz.pinned.checked.prog.readableRec ·))=true:=by kernel_rfl
set_option maxRecDepth 100000 in
theorem Uv:(namedTie Tryz.pinned.checked.prog Rows.fnParserRow.named Rows.fnParserSpec.vars)=true:=by kernel_rfl
set_option maxRecDepth 100000 in
theorem Uw:((Rows.fnParserRow.stops == []))=true:=by kernel_rfl
set_option maxRecDepth 100000 in
theorem Ux:((Tryz.pinned.checked.prog.stops == []))=true:=by kernel_rfl
set_option maxRecDepth 100000 in
theorem Uy:((Rows.fnParserRow.knobs == []))=true:=by kernel_rfl
set_option maxRecDepth 100000 in
theorem Uz:((Tryz.pinned.checked.prog.stopKnobs == []))=true:=by kernel_rfl
set_option maxRecDepth 100000 in
theorem UA:((Rows.fnParserRow.inPlace == Tryz.pinned.checked.prog.inPlace 3))=true:=by kernel_rfl
set_option maxRecDepth 100000 in
theorem QQ:((Rows.fnParserRow.unfollowed == Tryz.pinned.checked.prog.unfollowed 3))=true:=by kernel_rfl
set_option maxRecDepth 100000 in
theorem QR:((Rows.fnParserRow.recurses == Tryz.pinned.checked.prog.recurses 3))=true:=by kernel_rfl
set_option maxRecDepth 100000 in
theorem QS:((Rows.fnParserRow.named == Tryz.pinned.checked.prog.varsNamed 3))=true:=by kernel_rfl
set_option maxRecDepth 100000 in
theorem QT:((Rows.fnParserRow.maps == (f3.params.toList++Rows.fnParserSpec.plain.varTypes Tryz.pinned.checked.prog).any (Tryz.pinned.checked.prog.mapsRec ·)))=true:=by kernel_rfl
set_option maxRecDepth 100000 in
theorem QU:((Rows.fnParserRow.ifaces == (f3.params.toList++Rows.fnParserSpec.plain.varTypes Tryz.pinned.checked.prog).any (Tryz.pinned.checked.prog.ifacesRec ·)))=true:=by kernel_rfl
set_option maxRecDepth 100000 in
theorem QV:((Rows.fnParserRow.mapsOut == Tryz.pinned.checked.prog.mapsAmong f3.resultTypes.toList))=true:=by kernel_rfl
set_option maxRecDepth 100000 in
theorem QW:((Rows.fnParserRow.loops == (f3.params.toList++Rows.fnParserSpec.plain.varTypes Tryz.pinned.checked.prog).any (Tryz.pinned.checked.prog.loopsFrom ·)))=true:=by kernel_rfl
set_option maxRecDepth 100000 in
theorem QX:((Rows.fnParserRow.wideKeys == (f3.params.toList++Rows.fnParserSpec.plain.varTypes Tryz.pinned.checked.prog++f3.resultTypes.toList).any (Tryz.pinned.checked.prog.wideKeysFrom ·)))=true:=by kernel_rfl
set_option maxRecDepth 100000 in
theorem QY:(Rows.fnParserSpec.vars.all (Tryz.pinned.checked.prog.varReadable ·))=true:=by kernel_rfl
set_option maxRecDepth 100000 in
theorem QZ:(f3.resultTypes.all (λt=>Tryz.pinned.checked.prog.readableRec t&&decide (t<Tryz.pinned.checked.prog.types.size)))=true:=by kernel_rfl
set_option maxRecDepth 100000 in
theorem Ra:((Rows.fnParserRow.ifacesOut == f3.resultTypes.toList.any (Tryz.pinned.checked.prog.ifacesRec ·)))=true:=by kernel_rfl
set_option maxRecDepth 100000 in
theorem Rb:((Rows.fnParserRow.loopsOut == f3.resultTypes.toList.any (Tryz.pinned.checked.prog.loopsFrom ·)))=true:=by kernel_rfl
set_option maxRecDepth 100000 in
theorem Re:((Rows.fnParserRow.plainKeys == Tryz.pinned.checked.prog.plainKeys))=true:=by kernel_rfl
set_option maxRecDepth 100000 in
theorem Rf:(Rows.fnParserRow.shortTexts.isNone)=true:=by kernel_rfl
set_option maxRecDepth 100000 in
theorem Rh:(Tryz.pinned.checked.prog.stopsHeard)=true:=by kernel_rfl
set_option maxRecDepth 100000 in
theorem Ri:(Tryz.pinned.checked.prog.mayEnter)=true:=by kernel_rfl
set_option maxRecDepth 100000 in
theorem Rj:((Rows.fnParserRow.lifted == Tryz.pinned.checked.prog.liftsFinal))=true:=by kernel_rfl
set_option maxRecDepth 100000 in
theorem Rk:((Tryz.pinned.checked.prog.make == some Rows.fnParserRow.make))=true:=by kernel_rfl
set_option maxRecDepth 100000 in
theorem Rl:((Rows.fnParserRow.kinds == (if Rows.fnParserRow.domain.isEmpty then []else f3.params.toList.map λt=>match Tryz.pinned.checked.prog.underlying t with|some (.int k)=>some k|_=>none)))=true:=by kernel_rfl
set_option maxRecDepth 100000 in
theorem Rm:((Rows.fnParserRow.pinned == Rows.fnParserRow.pinnedBy))=true:=by kernel_rfl
set_option maxRecDepth 100000 in
theorem Rn:((Rows.fnParserRow.veiled == (f3.params.toList++Rows.fnParserSpec.plain.varTypes Tryz.pinned.checked.prog++f3.resultTypes.toList).any (Tryz.pinned.checked.prog.veiledRec ·)))=true:=by kernel_rfl
set_option maxRecDepth 100000 in
theorem Ro:(Rows.fnParserRow.veiledFits Tryz.pinned.checked.prog f3.params.toList (f3.params.toList++Rows.fnParserSpec.plain.varTypes Tryz.pinned.checked.prog++f3.resultTypes.toList))=true:=by kernel_rfl
set_option maxRecDepth 100000 in
theorem JR:joinedFacts Tryz.pinned.checked.prog 3 f3 Rows.fnParserSpec Rows.fnParserRow=true:=by unfold joinedFacts;exact(eS.2 ⟨(eS.2 ⟨(eS.2 ⟨(eS.2 ⟨(eS.2 ⟨(eS.2 ⟨(eS.2 ⟨(eS.2 ⟨(eS.2 ⟨(eS.2 ⟨(eS.2 ⟨(eS.2 ⟨(eS.2 ⟨(eS.2 ⟨(eS.2 ⟨(eS.2 ⟨(eS.2 ⟨(eS.2 ⟨(eS.2 ⟨(eS.2 ⟨(eS.2 ⟨(eS.2 ⟨(eS.2 ⟨(eS.2 ⟨(eS.2 ⟨(eS.2 ⟨(eS.2 ⟨(eS.2 ⟨(eS.2 ⟨(eS.2 ⟨(eS.2 ⟨Ur,Us⟩),Ut⟩),Uu⟩),Uv⟩),Uw⟩),Ux⟩),Uy⟩),Uz⟩),UA⟩),QQ⟩),QR⟩),QS⟩),QT⟩),QU⟩),QV⟩),QW⟩),QX⟩),QY⟩),QZ⟩),Ra⟩),Rb⟩),Re⟩),Rf⟩),Rh⟩),Ri⟩),Rj⟩),Rk⟩),Rl⟩),Rm⟩),Rn⟩),Ro⟩)
set_option maxHeartbeats 8000000
set_option maxRecDepth 8000
theorem Fe{P:Program}(h:P.funcs.toList.all (λfn=> !fn.goes)=true)(c:OpenClaim)(hs:c.start= .entering):false=c.goesBy P:=by
 have h1:∀f,P.goes f=false:=by
  intro f;have ha:P.funcs.any Func.goes=false:=by rw[Array.any_eq_false];intro i hi;have:=gR.1 h (P.funcs[i]) (by simp);simpa using this
  unfold Program.goes;rw[ha,Bool.and_false,Bool.or_false,any_eq_false];intro g _;cases hg:P.funcs[g]? with
  |none=>simp
  |some fn=>have:=gR.1 h fn (by simpa using oB (by simpa using hg:P.funcs.toList[g]? =some fn));simpa using this
 unfold OpenClaim.goesBy Program.goesAt Program.goesFrom;rw[hs];cases P.funcNamed c.func<;>simp[h1]
theorem NW:false=Rows.fnParserRow.goesBy Tryz.pinned.checked.prog:=Fe (by as_aux_lemma=>kernel_rfl) _ rfl
end Go.Proofs.YtjkdolejalpflaaGreatDoor
