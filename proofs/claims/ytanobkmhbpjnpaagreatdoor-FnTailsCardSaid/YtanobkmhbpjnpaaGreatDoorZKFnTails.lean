/- Steps. No condition. -/
import Derived.Test.YtanobkmhbpjnpaaGreatDoorZF7
import Derived.Lay
import Derived.Test.YtanobkmhbpjnpaaGreatDoorCards
import Derived.Test.YtanobkmhbpjnpaaGreatDoorTie
set_option linter.all false
namespace Go.Proofs.YtanobkmhbpjnpaaGreatDoor
open Go.Aw Proofs.Tryz List IntKind
set_option maxRecDepth 100000 in
theorem x9:(Rows.fnTailsRow.wf (OpenSpec.ofChange Rows.fnTailsSpec))=true:=by kernel_rfl
set_option maxRecDepth 100000 in
theorem y5:(laidOutB Tryz.pinned.checked.prog)=true:=by kernel_rfl
set_option maxRecDepth 100000 in
theorem y7:(mapsRowed Tryz.pinned.checked.prog)=true:=by kernel_rfl
set_option maxRecDepth 100000 in
theorem y8:(f3.params.all (Tryz.pinned.checked.prog.readableRec ·))=true:=by kernel_rfl
set_option maxRecDepth 100000 in
theorem y9:(namedTie Tryz.pinned.checked.prog Rows.fnTailsRow.named Rows.fnTailsSpec.vars)=true:=by kernel_rfl
set_option maxRecDepth 100000 in
theorem aAa:((Rows.fnTailsRow.stops == []))=true:=by kernel_rfl
set_option maxRecDepth 100000 in
theorem aAb:((Tryz.pinned.checked.prog.stops == []))=true:=by kernel_rfl
set_option maxRecDepth 100000 in
theorem aAc:((Rows.fnTailsRow.knobs == []))=true:=by kernel_rfl
set_option maxRecDepth 100000 in
theorem aAd:((Tryz.pinned.checked.prog.stopKnobs == []))=true:=by kernel_rfl
set_option maxRecDepth 100000 in
theorem aAe:((Rows.fnTailsRow.inPlace == Tryz.pinned.checked.prog.inPlace 3))=true:=by kernel_rfl
set_option maxRecDepth 100000 in
theorem xq:((Rows.fnTailsRow.unfollowed == Tryz.pinned.checked.prog.unfollowed 3))=true:=by kernel_rfl
set_option maxRecDepth 100000 in
theorem xu:((Rows.fnTailsRow.recurses == Tryz.pinned.checked.prog.recurses 3))=true:=by kernel_rfl
set_option maxRecDepth 100000 in
theorem xw:((Rows.fnTailsRow.named == Tryz.pinned.checked.prog.varsNamed 3))=true:=by kernel_rfl
set_option maxRecDepth 100000 in
theorem xx:((Rows.fnTailsRow.maps == (f3.params.toList++Rows.fnTailsSpec.plain.varTypes Tryz.pinned.checked.prog).any (Tryz.pinned.checked.prog.mapsRec ·)))=true:=by kernel_rfl
set_option maxRecDepth 100000 in
theorem xy:((Rows.fnTailsRow.ifaces == (f3.params.toList++Rows.fnTailsSpec.plain.varTypes Tryz.pinned.checked.prog).any (Tryz.pinned.checked.prog.ifacesRec ·)))=true:=by kernel_rfl
set_option maxRecDepth 100000 in
theorem xz:((Rows.fnTailsRow.mapsOut == Tryz.pinned.checked.prog.mapsAmong f3.resultTypes.toList))=true:=by kernel_rfl
set_option maxRecDepth 100000 in
theorem yc:((Rows.fnTailsRow.loops == (f3.params.toList++Rows.fnTailsSpec.plain.varTypes Tryz.pinned.checked.prog).any (Tryz.pinned.checked.prog.loopsFrom ·)))=true:=by kernel_rfl
set_option maxRecDepth 100000 in
theorem yf:((Rows.fnTailsRow.wideKeys == (f3.params.toList++Rows.fnTailsSpec.plain.varTypes Tryz.pinned.checked.prog++f3.resultTypes.toList).any (Tryz.pinned.checked.prog.wideKeysFrom ·)))=true:=by kernel_rfl
set_option maxRecDepth 100000 in
theorem yg:(Rows.fnTailsSpec.vars.all (Tryz.pinned.checked.prog.varReadable ·))=true:=by kernel_rfl
set_option maxRecDepth 100000 in
theorem yh:(f3.resultTypes.all (λt=>Tryz.pinned.checked.prog.readableRec t&&decide (t<Tryz.pinned.checked.prog.types.size)))=true:=by kernel_rfl
set_option maxRecDepth 100000 in
theorem yj:((Rows.fnTailsRow.ifacesOut == f3.resultTypes.toList.any (Tryz.pinned.checked.prog.ifacesRec ·)))=true:=by kernel_rfl
set_option maxRecDepth 100000 in
theorem yl:((Rows.fnTailsRow.loopsOut == f3.resultTypes.toList.any (Tryz.pinned.checked.prog.loopsFrom ·)))=true:=by kernel_rfl
set_option maxRecDepth 100000 in
theorem ym:((Rows.fnTailsRow.plainKeys == Tryz.pinned.checked.prog.plainKeys))=true:=by kernel_rfl
set_option maxRecDepth 100000 in
theorem yn:(Rows.fnTailsRow.shortTexts.isNone)=true:=by kernel_rfl
set_option maxRecDepth 100000 in
theorem yo:(Tryz.pinned.checked.prog.stopsHeard)=true:=by kernel_rfl
set_option maxRecDepth 100000 in
theorem yt:(Tryz.pinned.checked.prog.mayEnter)=true:=by kernel_rfl
set_option maxRecDepth 100000 in
theorem yu:((Rows.fnTailsRow.lifted == Tryz.pinned.checked.prog.liftsFinal))=true:=by kernel_rfl
set_option maxRecDepth 100000 in
theorem yw:((Tryz.pinned.checked.prog.make == some Rows.fnTailsRow.make))=true:=by kernel_rfl
set_option maxRecDepth 100000 in
theorem yx:((Rows.fnTailsRow.kinds == (if Rows.fnTailsRow.domain.isEmpty then []else f3.params.toList.map λt=>match Tryz.pinned.checked.prog.underlying t with|some (.int k)=>some k|_=>none)))=true:=by kernel_rfl
set_option maxRecDepth 100000 in
theorem yz:((Rows.fnTailsRow.pinned == Rows.fnTailsRow.pinnedBy))=true:=by kernel_rfl
set_option maxRecDepth 100000 in
theorem za:((Rows.fnTailsRow.veiled == (f3.params.toList++Rows.fnTailsSpec.plain.varTypes Tryz.pinned.checked.prog++f3.resultTypes.toList).any (Tryz.pinned.checked.prog.veiledRec ·)))=true:=by kernel_rfl
set_option maxRecDepth 100000 in
theorem zb:(Rows.fnTailsRow.veiledFits Tryz.pinned.checked.prog f3.params.toList (f3.params.toList++Rows.fnTailsSpec.plain.varTypes Tryz.pinned.checked.prog++f3.resultTypes.toList))=true:=by kernel_rfl
set_option maxRecDepth 100000 in
theorem Vv:joinedFacts Tryz.pinned.checked.prog 3 f3 Rows.fnTailsSpec Rows.fnTailsRow=true:=by unfold joinedFacts;exact(fX.2 ⟨(fX.2 ⟨(fX.2 ⟨(fX.2 ⟨(fX.2 ⟨(fX.2 ⟨(fX.2 ⟨(fX.2 ⟨(fX.2 ⟨(fX.2 ⟨(fX.2 ⟨(fX.2 ⟨(fX.2 ⟨(fX.2 ⟨(fX.2 ⟨(fX.2 ⟨(fX.2 ⟨(fX.2 ⟨(fX.2 ⟨(fX.2 ⟨(fX.2 ⟨(fX.2 ⟨(fX.2 ⟨(fX.2 ⟨(fX.2 ⟨(fX.2 ⟨(fX.2 ⟨(fX.2 ⟨(fX.2 ⟨(fX.2 ⟨(fX.2 ⟨x9,y5⟩),y7⟩),y8⟩),y9⟩),aAa⟩),aAb⟩),aAc⟩),aAd⟩),aAe⟩),xq⟩),xu⟩),xw⟩),xx⟩),xy⟩),xz⟩),yc⟩),yf⟩),yg⟩),yh⟩),yj⟩),yl⟩),ym⟩),yn⟩),yo⟩),yt⟩),yu⟩),yw⟩),yx⟩),yz⟩),za⟩),zb⟩)
set_option maxHeartbeats 8000000
set_option maxRecDepth 8000
theorem NK{P:Program}(h:P.funcs.toList.all (λfn=> !fn.goes)=true)(c:OpenClaim)(hs:c.start= .entering):false=c.goesBy P:=by
 have h1:∀f,P.goes f=false:=by
  intro f;have ha:P.funcs.any Func.goes=false:=by rw[Array.any_eq_false];intro i hi;have:=fW.1 h (P.funcs[i]) (by simp);simpa using this
  unfold Program.goes;rw[ha,Bool.and_false,Bool.or_false,any_eq_false];intro g _;cases hg:P.funcs[g]? with
  |none=>simp
  |some fn=>have:=fW.1 h fn (by simpa using nB (by simpa using hg:P.funcs.toList[g]? =some fn));simpa using this
 unfold OpenClaim.goesBy Program.goesAt Program.goesFrom;rw[hs];cases P.funcNamed c.func<;>simp[h1]
theorem ZI:false=Rows.fnTailsRow.goesBy Tryz.pinned.checked.prog:=NK (by as_aux_lemma=>kernel_rfl) _ rfl
end Go.Proofs.YtanobkmhbpjnpaaGreatDoor
