/- The closed facts of the row. -/
import Derived.Test.YtlceligcgelbdaaGreatRows
import Derived.ProofKit

set_option linter.unusedVariables false
namespace Go.Proofs.YtlceligcgelbdaaGreat
open Go.ChangeShapes Go.WideShapes Go.ChangeAt Go.RowKit
theorem andT {a b:Bool} (h:a=true) (g:b=true):(a && b)=true:=by rw [h,g];rfl
theorem w0:Rows.profitLeavesRow.wf (OpenSpec.ofChange Rows.profitLeavesSpec)=true:=by kernel_rfl
theorem w1:laidOutB Tryz.pinned.checked.prog=true:=by kernel_rfl
theorem w2:mapsRowed Tryz.pinned.checked.prog=true:=by kernel_rfl
theorem w3:Tryz.f5.params.all (Tryz.pinned.checked.prog.readableRec ·)=true:=by kernel_rfl
theorem w4:namedTie Tryz.pinned.checked.prog Rows.profitLeavesRow.named Rows.profitLeavesSpec.vars=true:=by kernel_rfl
theorem w5:(Rows.profitLeavesRow.stops == [])=true:=by kernel_rfl
theorem w6:(Tryz.pinned.checked.prog.stops == [])=true:=by kernel_rfl
theorem w7:(Rows.profitLeavesRow.knobs == [])=true:=by kernel_rfl
theorem w8:(Tryz.pinned.checked.prog.stopKnobs == [])=true:=by kernel_rfl
theorem w9:(Rows.profitLeavesRow.inPlace == Tryz.pinned.checked.prog.inPlace 5)=true:=by kernel_rfl
theorem w10:(Rows.profitLeavesRow.unfollowed == Tryz.pinned.checked.prog.unfollowed 5)=true:=by kernel_rfl
theorem w11:(Rows.profitLeavesRow.recurses == Tryz.pinned.checked.prog.recurses 5)=true:=by kernel_rfl
theorem w12:(Rows.profitLeavesRow.named == Tryz.pinned.checked.prog.varsNamed 5)=true:=by kernel_rfl
theorem w13:(Rows.profitLeavesRow.maps == (Tryz.f5.params.toList++Rows.profitLeavesSpec.plain.varTypes Tryz.pinned.checked.prog).any (Tryz.pinned.checked.prog.mapsRec ·))=true:=by kernel_rfl
theorem w14:(Rows.profitLeavesRow.ifaces == (Tryz.f5.params.toList++Rows.profitLeavesSpec.plain.varTypes Tryz.pinned.checked.prog).any (Tryz.pinned.checked.prog.ifacesRec ·))=true:=by kernel_rfl
theorem w15:(Rows.profitLeavesRow.mapsOut == Tryz.pinned.checked.prog.mapsAmong Tryz.f5.resultTypes.toList)=true:=by kernel_rfl
theorem w16:(Rows.profitLeavesRow.loops == (Tryz.f5.params.toList++Rows.profitLeavesSpec.plain.varTypes Tryz.pinned.checked.prog).any (Tryz.pinned.checked.prog.loopsFrom ·))=true:=by kernel_rfl
theorem w17:(Rows.profitLeavesRow.wideKeys == ((Tryz.f5.params.toList++Rows.profitLeavesSpec.plain.varTypes Tryz.pinned.checked.prog)++Tryz.f5.resultTypes.toList).any (Tryz.pinned.checked.prog.wideKeysFrom ·))=true:=by kernel_rfl
theorem w18:Rows.profitLeavesSpec.vars.all (Tryz.pinned.checked.prog.varReadable ·)=true:=by kernel_rfl
theorem w19:Tryz.f5.resultTypes.all (fun t=>Tryz.pinned.checked.prog.readableRec t && decide (t<Tryz.pinned.checked.prog.types.size))=true:=by kernel_rfl
theorem w20:(Rows.profitLeavesRow.ifacesOut == Tryz.f5.resultTypes.toList.any (Tryz.pinned.checked.prog.ifacesRec ·))=true:=by kernel_rfl
theorem w21:(Rows.profitLeavesRow.loopsOut == Tryz.f5.resultTypes.toList.any (Tryz.pinned.checked.prog.loopsFrom ·))=true:=by kernel_rfl
theorem w22:(Rows.profitLeavesRow.plainKeys == Tryz.pinned.checked.prog.plainKeys)=true:=by kernel_rfl
theorem w23:Rows.profitLeavesRow.shortTexts.isNone=true:=by kernel_rfl
theorem w24:Tryz.pinned.checked.prog.stopsHeard=true:=by kernel_rfl
theorem w25:Tryz.pinned.checked.prog.mayEnter=true:=by kernel_rfl
theorem w26:(Rows.profitLeavesRow.lifted == Tryz.pinned.checked.prog.liftsFinal)=true:=by kernel_rfl
theorem w27:(Tryz.pinned.checked.prog.make == some Rows.profitLeavesRow.make)=true:=by kernel_rfl
theorem w28:(Rows.profitLeavesRow.kinds == (if Rows.profitLeavesRow.domain.isEmpty then [] else Tryz.f5.params.toList.map fun t=>match Tryz.pinned.checked.prog.underlying t with | some (.int k)=>some k | _=>none))=true:=by kernel_rfl
theorem w29:(Rows.profitLeavesRow.pinned == Rows.profitLeavesRow.pinnedBy)=true:=by kernel_rfl
theorem w30:(Rows.profitLeavesRow.veiled == ((Tryz.f5.params.toList++Rows.profitLeavesSpec.plain.varTypes Tryz.pinned.checked.prog)++Tryz.f5.resultTypes.toList).any (Tryz.pinned.checked.prog.veiledRec ·))=true:=by kernel_rfl
theorem w31:Rows.profitLeavesRow.veiledFits Tryz.pinned.checked.prog Tryz.f5.params.toList ((Tryz.f5.params.toList++Rows.profitLeavesSpec.plain.varTypes Tryz.pinned.checked.prog)++Tryz.f5.resultTypes.toList)=true:=by kernel_rfl
set_option maxRecDepth 100000 in
theorem closed:joinedFacts Tryz.pinned.checked.prog 5 Tryz.f5 Rows.profitLeavesSpec Rows.profitLeavesRow=true:=(andT (andT (andT (andT (andT (andT (andT (andT (andT (andT (andT (andT (andT (andT (andT (andT (andT (andT (andT (andT (andT (andT (andT (andT (andT (andT (andT (andT (andT (andT (andT w0 w1) w2) w3) w4) w5) w6) w7) w8) w9) w10) w11) w12) w13) w14) w15) w16) w17) w18) w19) w20) w21) w22) w23) w24) w25) w26) w27) w28) w29) w30) w31)
end Go.Proofs.YtlceligcgelbdaaGreat
