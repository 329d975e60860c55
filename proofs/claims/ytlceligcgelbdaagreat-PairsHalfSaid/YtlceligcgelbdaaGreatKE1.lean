/- The closed facts of the row. -/
import Derived.Test.YtlceligcgelbdaaGreatRows
import Derived.ProofKit

set_option linter.unusedVariables false
namespace Go.Proofs.YtlceligcgelbdaaGreat
open Go.ChangeShapes Go.WideShapes Go.ChangeAt Go.RowKit
theorem andT {a b:Bool} (h:a=true) (g:b=true):(a && b)=true:=by rw [h,g];rfl
theorem w0:Rows.pairsHalfRow.wf (OpenSpec.ofChange Rows.pairsHalfSpec)=true:=by kernel_rfl
theorem w1:laidOutB Tryz.pinned.checked.prog=true:=by kernel_rfl
theorem w2:mapsRowed Tryz.pinned.checked.prog=true:=by kernel_rfl
theorem w3:Tryz.f9.params.all (Tryz.pinned.checked.prog.readableRec ·)=true:=by kernel_rfl
theorem w4:namedTie Tryz.pinned.checked.prog Rows.pairsHalfRow.named Rows.pairsHalfSpec.vars=true:=by kernel_rfl
theorem w5:(Rows.pairsHalfRow.stops == [])=true:=by kernel_rfl
theorem w6:(Tryz.pinned.checked.prog.stops == [])=true:=by kernel_rfl
theorem w7:(Rows.pairsHalfRow.knobs == [])=true:=by kernel_rfl
theorem w8:(Tryz.pinned.checked.prog.stopKnobs == [])=true:=by kernel_rfl
theorem w9:(Rows.pairsHalfRow.inPlace == Tryz.pinned.checked.prog.inPlace 9)=true:=by kernel_rfl
theorem w10:(Rows.pairsHalfRow.unfollowed == Tryz.pinned.checked.prog.unfollowed 9)=true:=by kernel_rfl
theorem w11:(Rows.pairsHalfRow.recurses == Tryz.pinned.checked.prog.recurses 9)=true:=by kernel_rfl
theorem w12:(Rows.pairsHalfRow.named == Tryz.pinned.checked.prog.varsNamed 9)=true:=by kernel_rfl
theorem w13:(Rows.pairsHalfRow.maps == (Tryz.f9.params.toList++Rows.pairsHalfSpec.plain.varTypes Tryz.pinned.checked.prog).any (Tryz.pinned.checked.prog.mapsRec ·))=true:=by kernel_rfl
theorem w14:(Rows.pairsHalfRow.ifaces == (Tryz.f9.params.toList++Rows.pairsHalfSpec.plain.varTypes Tryz.pinned.checked.prog).any (Tryz.pinned.checked.prog.ifacesRec ·))=true:=by kernel_rfl
theorem w15:(Rows.pairsHalfRow.mapsOut == Tryz.pinned.checked.prog.mapsAmong Tryz.f9.resultTypes.toList)=true:=by kernel_rfl
theorem w16:(Rows.pairsHalfRow.loops == (Tryz.f9.params.toList++Rows.pairsHalfSpec.plain.varTypes Tryz.pinned.checked.prog).any (Tryz.pinned.checked.prog.loopsFrom ·))=true:=by kernel_rfl
theorem w17:(Rows.pairsHalfRow.wideKeys == ((Tryz.f9.params.toList++Rows.pairsHalfSpec.plain.varTypes Tryz.pinned.checked.prog)++Tryz.f9.resultTypes.toList).any (Tryz.pinned.checked.prog.wideKeysFrom ·))=true:=by kernel_rfl
theorem w18:Rows.pairsHalfSpec.vars.all (Tryz.pinned.checked.prog.varReadable ·)=true:=by kernel_rfl
theorem w19:Tryz.f9.resultTypes.all (fun t=>Tryz.pinned.checked.prog.readableRec t && decide (t<Tryz.pinned.checked.prog.types.size))=true:=by kernel_rfl
theorem w20:(Rows.pairsHalfRow.ifacesOut == Tryz.f9.resultTypes.toList.any (Tryz.pinned.checked.prog.ifacesRec ·))=true:=by kernel_rfl
theorem w21:(Rows.pairsHalfRow.loopsOut == Tryz.f9.resultTypes.toList.any (Tryz.pinned.checked.prog.loopsFrom ·))=true:=by kernel_rfl
theorem w22:(Rows.pairsHalfRow.plainKeys == Tryz.pinned.checked.prog.plainKeys)=true:=by kernel_rfl
theorem w23:Rows.pairsHalfRow.shortTexts.isNone=true:=by kernel_rfl
theorem w24:Tryz.pinned.checked.prog.stopsHeard=true:=by kernel_rfl
theorem w25:Tryz.pinned.checked.prog.mayEnter=true:=by kernel_rfl
theorem w26:(Rows.pairsHalfRow.lifted == Tryz.pinned.checked.prog.liftsFinal)=true:=by kernel_rfl
theorem w27:(Tryz.pinned.checked.prog.make == some Rows.pairsHalfRow.make)=true:=by kernel_rfl
theorem w28:(Rows.pairsHalfRow.kinds == (if Rows.pairsHalfRow.domain.isEmpty then [] else Tryz.f9.params.toList.map fun t=>match Tryz.pinned.checked.prog.underlying t with | some (.int k)=>some k | _=>none))=true:=by kernel_rfl
theorem w29:(Rows.pairsHalfRow.pinned == Rows.pairsHalfRow.pinnedBy)=true:=by kernel_rfl
theorem w30:(Rows.pairsHalfRow.veiled == ((Tryz.f9.params.toList++Rows.pairsHalfSpec.plain.varTypes Tryz.pinned.checked.prog)++Tryz.f9.resultTypes.toList).any (Tryz.pinned.checked.prog.veiledRec ·))=true:=by kernel_rfl
theorem w31:Rows.pairsHalfRow.veiledFits Tryz.pinned.checked.prog Tryz.f9.params.toList ((Tryz.f9.params.toList++Rows.pairsHalfSpec.plain.varTypes Tryz.pinned.checked.prog)++Tryz.f9.resultTypes.toList)=true:=by kernel_rfl
set_option maxRecDepth 100000 in
theorem closed:joinedFacts Tryz.pinned.checked.prog 9 Tryz.f9 Rows.pairsHalfSpec Rows.pairsHalfRow=true:=(andT (andT (andT (andT (andT (andT (andT (andT (andT (andT (andT (andT (andT (andT (andT (andT (andT (andT (andT (andT (andT (andT (andT (andT (andT (andT (andT (andT (andT (andT (andT w0 w1) w2) w3) w4) w5) w6) w7) w8) w9) w10) w11) w12) w13) w14) w15) w16) w17) w18) w19) w20) w21) w22) w23) w24) w25) w26) w27) w28) w29) w30) w31)
end Go.Proofs.YtlceligcgelbdaaGreat
