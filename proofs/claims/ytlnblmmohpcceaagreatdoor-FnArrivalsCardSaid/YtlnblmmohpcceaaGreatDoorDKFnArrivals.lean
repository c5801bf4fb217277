/-
  Proved here: steps towards the statement of this claim, text KFnArrivals.
  No condition beyond what each statement spells out.
-/
import Derived.Test.YtlnblmmohpcceaaGreatDoorDF5
import Derived.Lay
import Derived.SevenTiedAt
import Derived.Test.YtlnblmmohpcceaaGreatDoorRows
import Derived.Test.YtlnblmmohpcceaaGreatDoorCards
import Derived.Test.YtlnblmmohpcceaaGreatDoorTie
set_option linter.all false
namespace Go.Proofs.YtlnblmmohpcceaaGreatDoor
open Go.Aw
set_option maxRecDepth 100000 in
theorem aDa:(Rows.fnArrivalsRow.wf (OpenSpec.ofChange Rows.fnArrivalsSpec))=true:=by kernel_rfl
set_option maxRecDepth 100000 in
theorem aDc:(laidOutB Tryz.pinned.checked.prog)=true:=by kernel_rfl
set_option maxRecDepth 100000 in
theorem aCw:(mapsRowed Tryz.pinned.checked.prog)=true:=by kernel_rfl
set_option maxRecDepth 100000 in
theorem aDg:(Tryz.f3.params.all (Tryz.pinned.checked.prog.readableRec ·))=true:=by kernel_rfl
set_option maxRecDepth 100000 in
theorem aDk:(namedTie Tryz.pinned.checked.prog Rows.fnArrivalsRow.named Rows.fnArrivalsSpec.vars)=true:=by kernel_rfl
set_option maxRecDepth 100000 in
theorem aDf:((Rows.fnArrivalsRow.stops == []))=true:=by kernel_rfl
set_option maxRecDepth 100000 in
theorem aDj:((Tryz.pinned.checked.prog.stops == []))=true:=by kernel_rfl
set_option maxRecDepth 100000 in
theorem aDd:((Rows.fnArrivalsRow.knobs == []))=true:=by kernel_rfl
set_option maxRecDepth 100000 in
theorem aC4:((Tryz.pinned.checked.prog.stopKnobs == []))=true:=by kernel_rfl
set_option maxRecDepth 100000 in
theorem aC7:((Rows.fnArrivalsRow.inPlace == Tryz.pinned.checked.prog.inPlace 3))=true:=by kernel_rfl
set_option maxRecDepth 100000 in
theorem aAq:((Rows.fnArrivalsRow.unfollowed == Tryz.pinned.checked.prog.unfollowed 3))=true:=by kernel_rfl
set_option maxRecDepth 100000 in
theorem aA6:((Rows.fnArrivalsRow.recurses == Tryz.pinned.checked.prog.recurses 3))=true:=by kernel_rfl
set_option maxRecDepth 100000 in
theorem aBs:((Rows.fnArrivalsRow.named == Tryz.pinned.checked.prog.varsNamed 3))=true:=by kernel_rfl
set_option maxRecDepth 100000 in
theorem aBt:((Rows.fnArrivalsRow.maps == (Tryz.f3.params.toList++Rows.fnArrivalsSpec.plain.varTypes Tryz.pinned.checked.prog).any (Tryz.pinned.checked.prog.mapsRec ·)))=true:=by kernel_rfl
set_option maxRecDepth 100000 in
theorem aAi:((Rows.fnArrivalsRow.ifaces == (Tryz.f3.params.toList++Rows.fnArrivalsSpec.plain.varTypes Tryz.pinned.checked.prog).any (Tryz.pinned.checked.prog.ifacesRec ·)))=true:=by kernel_rfl
set_option maxRecDepth 100000 in
theorem aBo:((Rows.fnArrivalsRow.mapsOut == Tryz.pinned.checked.prog.mapsAmong Tryz.f3.resultTypes.toList))=true:=by kernel_rfl
set_option maxRecDepth 100000 in
theorem aBg:((Rows.fnArrivalsRow.loops == (Tryz.f3.params.toList++Rows.fnArrivalsSpec.plain.varTypes Tryz.pinned.checked.prog).any (Tryz.pinned.checked.prog.loopsFrom ·)))=true:=by kernel_rfl
set_option maxRecDepth 100000 in
theorem aAx:((Rows.fnArrivalsRow.wideKeys == (Tryz.f3.params.toList++Rows.fnArrivalsSpec.plain.varTypes Tryz.pinned.checked.prog++Tryz.f3.resultTypes.toList).any (Tryz.pinned.checked.prog.wideKeysFrom ·)))=true:=by kernel_rfl
set_option maxRecDepth 100000 in
theorem aAe:(Rows.fnArrivalsSpec.vars.all (Tryz.pinned.checked.prog.varReadable ·))=true:=by kernel_rfl
set_option maxRecDepth 100000 in
theorem aAn:(Tryz.f3.resultTypes.all (fun t=>Tryz.pinned.checked.prog.readableRec t&&decide (t < Tryz.pinned.checked.prog.types.size)))=true:=by kernel_rfl
set_option maxRecDepth 100000 in
theorem aAw:((Rows.fnArrivalsRow.ifacesOut == Tryz.f3.resultTypes.toList.any (Tryz.pinned.checked.prog.ifacesRec ·)))=true:=by kernel_rfl
set_option maxRecDepth 100000 in
theorem aAd:((Rows.fnArrivalsRow.loopsOut == Tryz.f3.resultTypes.toList.any (Tryz.pinned.checked.prog.loopsFrom ·)))=true:=by kernel_rfl
set_option maxRecDepth 100000 in
theorem aAv:((Rows.fnArrivalsRow.plainKeys == Tryz.pinned.checked.prog.plainKeys))=true:=by kernel_rfl
set_option maxRecDepth 100000 in
theorem aAu:(Rows.fnArrivalsRow.shortTexts.isNone)=true:=by kernel_rfl
set_option maxRecDepth 100000 in
theorem aAy:(Tryz.pinned.checked.prog.stopsHeard)=true:=by kernel_rfl
set_option maxRecDepth 100000 in
theorem aBc:(Tryz.pinned.checked.prog.mayEnter)=true:=by kernel_rfl
set_option maxRecDepth 100000 in
theorem aBk:((Rows.fnArrivalsRow.lifted == Tryz.pinned.checked.prog.liftsFinal))=true:=by kernel_rfl
set_option maxRecDepth 100000 in
theorem aBj:((Tryz.pinned.checked.prog.make == some Rows.fnArrivalsRow.make))=true:=by kernel_rfl
set_option maxRecDepth 100000 in
theorem aA0:((Rows.fnArrivalsRow.kinds == (if Rows.fnArrivalsRow.domain.isEmpty then [] else Tryz.f3.params.toList.map fun t=>match Tryz.pinned.checked.prog.underlying t with|some (.int k)=>some k|_=>none)))=true:=by kernel_rfl
set_option maxRecDepth 100000 in
theorem aAj:((Rows.fnArrivalsRow.pinned == Rows.fnArrivalsRow.pinnedBy))=true:=by kernel_rfl
set_option maxRecDepth 100000 in
theorem aA3:((Rows.fnArrivalsRow.veiled == (Tryz.f3.params.toList++Rows.fnArrivalsSpec.plain.varTypes Tryz.pinned.checked.prog++Tryz.f3.resultTypes.toList).any (Tryz.pinned.checked.prog.veiledRec ·)))=true:=by kernel_rfl
set_option maxRecDepth 100000 in
theorem aA9:(Rows.fnArrivalsRow.veiledFits Tryz.pinned.checked.prog Tryz.f3.params.toList (Tryz.f3.params.toList++Rows.fnArrivalsSpec.plain.varTypes Tryz.pinned.checked.prog++Tryz.f3.resultTypes.toList))=true:=by kernel_rfl
set_option maxRecDepth 100000 in
theorem wW:joinedFacts Tryz.pinned.checked.prog 3 Tryz.f3 Rows.fnArrivalsSpec Rows.fnArrivalsRow=true:=by
 unfold joinedFacts
 exact (Bool.and_eq_true_iff.2 ⟨(Bool.and_eq_true_iff.2 ⟨(Bool.and_eq_true_iff.2 ⟨(Bool.and_eq_true_iff.2 ⟨(Bool.and_eq_true_iff.2 ⟨(Bool.and_eq_true_iff.2 ⟨(Bool.and_eq_true_iff.2 ⟨(Bool.and_eq_true_iff.2 ⟨(Bool.and_eq_true_iff.2 ⟨(Bool.and_eq_true_iff.2 ⟨(Bool.and_eq_true_iff.2 ⟨(Bool.and_eq_true_iff.2 ⟨(Bool.and_eq_true_iff.2 ⟨(Bool.and_eq_true_iff.2 ⟨(Bool.and_eq_true_iff.2 ⟨(Bool.and_eq_true_iff.2 ⟨(Bool.and_eq_true_iff.2 ⟨(Bool.and_eq_true_iff.2 ⟨(Bool.and_eq_true_iff.2 ⟨(Bool.and_eq_true_iff.2 ⟨(Bool.and_eq_true_iff.2 ⟨(Bool.and_eq_true_iff.2 ⟨(Bool.and_eq_true_iff.2 ⟨(Bool.and_eq_true_iff.2 ⟨(Bool.and_eq_true_iff.2 ⟨(Bool.and_eq_true_iff.2 ⟨(Bool.and_eq_true_iff.2 ⟨(Bool.and_eq_true_iff.2 ⟨(Bool.and_eq_true_iff.2 ⟨(Bool.and_eq_true_iff.2 ⟨(Bool.and_eq_true_iff.2 ⟨aDa,aDc⟩),aCw⟩),aDg⟩),aDk⟩),aDf⟩),aDj⟩),aDd⟩),aC4⟩),aC7⟩),aAq⟩),aA6⟩),aBs⟩),aBt⟩),aAi⟩),aBo⟩),aBg⟩),aAx⟩),aAe⟩),aAn⟩),aAw⟩),aAd⟩),aAv⟩),aAu⟩),aAy⟩),aBc⟩),aBk⟩),aBj⟩),aA0⟩),aAj⟩),aA3⟩),aA9⟩)
end Go.Proofs.YtlnblmmohpcceaaGreatDoor
