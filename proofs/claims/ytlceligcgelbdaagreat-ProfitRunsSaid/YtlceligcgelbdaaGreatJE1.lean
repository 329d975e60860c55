/- The closed facts of the row. -/
import Derived.Test.YtlceligcgelbdaaGreatRows
import Derived.ProofKit

set_option linter.unusedVariables false
namespace Go.Proofs.YtlceligcgelbdaaGreat
open Go.ChangeShapes Go.WideShapes Go.ChangeAt Go.RowKit
theorem andT {a b:Bool} (h:a=true) (g:b=true):(a && b)=true:=by rw [h,g];rfl
theorem w0:Rows.profitRunsRow.wf (OpenSpec.ofChange Rows.profitRunsSpec)=true:=by kernel_rfl
theorem w1:laidOutB Tryz.pinned.checked.prog=true:=by kernel_rfl
theorem w2:mapsRowed Tryz.pinned.checked.prog=true:=by kernel_rfl
theorem w3:Tryz.f4.params.all (Tryz.pinned.checked.prog.readableRec ·)=true:=by kernel_rfl
theorem w4:namedTie Tryz.pinned.checked.prog Rows.profitRunsRow.named Rows.profitRunsSpec.vars=true:=by kernel_rfl
theorem w5:(Rows.profitRunsRow.stops == [])=true:=by kernel_rfl
theorem w6:(Tryz.pinned.checked.prog.stops == [])=true:=by kernel_rfl
theorem w7:(Rows.profitRunsRow.knobs == [])=true:=by kernel_rfl
theorem w8:(Tryz.pinned.checked.prog.stopKnobs == [])=true:=by kernel_rfl
theorem w9:(Rows.profitRunsRow.inPlace == Tryz.pinned.checked.prog.inPlace 4)=true:=by kernel_rfl
theorem w10:(Rows.profitRunsRow.unfollowed == Tryz.pinned.checked.prog.unfollowed 4)=true:=by kernel_rfl
theorem w11:(Rows.profitRunsRow.recurses == Tryz.pinned.checked.prog.recurses 4)=true:=by kernel_rfl
theorem w12:(Rows.profitRunsRow.named == Tryz.pinned.checked.prog.varsNamed 4)=true:=by kernel_rfl
theorem w13:(Rows.profitRunsRow.maps == (Tryz.f4.params.toList++Rows.profitRunsSpec.plain.varTypes Tryz.pinned.checked.prog).any (Tryz.pinned.checked.prog.mapsRec ·))=true:=by kernel_rfl
theorem w14:(Rows.profitRunsRow.ifaces == (Tryz.f4.params.toList++Rows.profitRunsSpec.plain.varTypes Tryz.pinned.checked.prog).any (Tryz.pinned.checked.prog.ifacesRec ·))=true:=by kernel_rfl
theorem w15:(Rows.profitRunsRow.mapsOut == Tryz.pinned.checked.prog.mapsAmong Tryz.f4.resultTypes.toList)=true:=by kernel_rfl
theorem w16:(Rows.profitRunsRow.loops == (Tryz.f4.params.toList++Rows.profitRunsSpec.plain.varTypes Tryz.pinned.checked.prog).any (Tryz.pinned.checked.prog.loopsFrom ·))=true:=by kernel_rfl
theorem w17:(Rows.profitRunsRow.wideKeys == ((Tryz.f4.params.toList++Rows.profitRunsSpec.plain.varTypes Tryz.pinned.checked.prog)++Tryz.f4.resultTypes.toList).any (Tryz.pinned.checked.prog.wideKeysFrom ·))=true:=by kernel_rfl
theorem w18:Rows.profitRunsSpec.vars.all (Tryz.pinned.checked.prog.varReadable ·)=true:=by kernel_rfl
theorem w19:Tryz.f4.resultTypes.all (fun t=>Tryz.pinned.checked.prog.readableRec t && decide (t<Tryz.pinned.checked.prog.types.size))=true:=by kernel_rfl
theorem w20:(Rows.profitRunsRow.ifacesOut == Tryz.f4.resultTypes.toList.any (Tryz.pinned.checked.prog.ifacesRec ·))=true:=by kernel_rfl
theorem w21:(Rows.profitRunsRow.loopsOut == Tryz.f4.resultTypes.toList.any (Tryz.pinned.checked.prog.loopsFrom ·))=true:=by kernel_rfl
theorem w22:(Rows.profitRunsRow.plainKeys == Tryz.pinned.checked.prog.plainKeys)=true:=by kernel_rfl
theorem w23:Rows.profitRunsRow.shortTexts.isNone=true:=by kernel_rfl
theorem w24:Tryz.pinned.checked.prog.stopsHeard=true:=by kernel_rfl
theorem w25:Tryz.pinned.checked.prog.mayEnter=true:=by kernel_rfl
theorem w26:(Rows.profitRunsRow.lifted == Tryz.pinned.checked.prog.liftsFinal)=true:=by kernel_rfl
theorem w27:(Tryz.pinned.checked.prog.make == some Rows.profitRunsRow.make)=true:=by kernel_rfl
theorem w28:(Rows.profitRunsRow.kinds == (if Rows.profitRunsRow.domain.isEmpty then [] else Tryz.f4.params.toList.map fun t=>match Tryz.pinned.checked.prog.underlying t with | some (.int k)=>some k | _=>none))=true:=by kernel_rfl
theorem w29:(Rows.profitRunsRow.pinned == Rows.profitRunsRow.pinnedBy)=true:=by kernel_rfl
theorem w30:(Rows.profitRunsRow.veiled == ((Tryz.f4.params.toList++Rows.profitRunsSpec.plain.varTypes Tryz.pinned.checked.prog)++Tryz.f4.resultTypes.toList).any (Tryz.pinned.checked.prog.veiledRec ·))=true:=by kernel_rfl
theorem w31:Rows.profitRunsRow.veiledFits Tryz.pinned.checked.prog Tryz.f4.params.toList ((Tryz.f4.params.toList++Rows.profitRunsSpec.plain.varTypes Tryz.pinned.checked.prog)++Tryz.f4.resultTypes.toList)=true:=by kernel_rfl
set_option maxRecDepth 100000 in
theorem closed:joinedFacts Tryz.pinned.checked.prog 4 Tryz.f4 Rows.profitRunsSpec Rows.profitRunsRow=true:=(andT (andT (andT (andT (andT (andT (andT (andT (andT (andT (andT (andT (andT (andT (andT (andT (andT (andT (andT (andT (andT (andT (andT (andT (andT (andT (andT (andT (andT (andT (andT w0 w1) w2) w3) w4) w5) w6) w7) w8) w9) w10) w11) w12) w13) w14) w15) w16) w17) w18) w19) w20) w21) w22) w23) w24) w25) w26) w27) w28) w29) w30) w31)
end Go.Proofs.YtlceligcgelbdaaGreat
